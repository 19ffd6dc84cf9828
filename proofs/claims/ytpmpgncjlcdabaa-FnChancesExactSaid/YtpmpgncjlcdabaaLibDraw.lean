/- What the draws answer: each number that is picked lies in its range; for codes of bytes that fit into memory, and as long as the place in the code is small. -/
import Derived.IntWalk
import Derived.Test.YtpmpgncjlcdabaaQx1
namespace Go.Proofs.Ytpmpgncjlcdabaa.L
open Go.RowKit Go.Proofs.Ytpmpgncjlcdabaa.Q Go.Proofs.YtpmpgncjlcdabaaW.PrintWords Go.Proofs.YtpmpgncjlcdabaaW.PrintLast
set_option linter.unusedVariables false
set_option linter.unusedSimpArgs false
theorem wrap_idD {n : Int} (h1 : -9223372036854775808 ≤ n) (h2 : n ≤ 9223372036854775807) : wrap64 n = n := by unfold wrap64; omega
/-- A code of bytes. -/
structure Code (l : List Int) : Prop where
  byte : ∀ x ∈ l, 0 ≤ x ∧ x ≤ 255
  len : l.length ≤ 1000000000000
theorem code_of {l : List Int} (h : ∀ x ∈ l, (Lit.int .u8 x).wf = true) (hl : l.length ≤ 1000000000000) : Code l := by
  refine ⟨fun x hx => ?_, hl⟩
  have := h x hx
  simp [Lit.wf, IntKind.min, IntKind.max, IntKind.signed, IntKind.bits] at this
  omega
theorem and_byte (x : Int) : 0 ≤ Go.bits .and .u64 x 255 ∧ Go.bits .and .u64 x 255 ≤ 255 := by
  have h : (BitVec.ofInt 64 x &&& BitVec.ofInt 64 255).toNat ≤ 255 := by
    rw [BitVec.toNat_and]
    exact Nat.le_trans Nat.and_le_right (by decide)
  have e : Go.bits .and .u64 x 255 = IntKind.u64.wrap (((BitVec.ofInt 64 x &&& BitVec.ofInt 64 255).toNat : Nat) : Int) := rfl
  rw [e, IntWalk.u64_in _ (by omega)]
  omega
theorem next_ok {l : List Int} (hl : Code l) (a s : Int) (h0 : 0 ≤ a) (h1 : a ≤ 1000000000000000) : ∃ b s', spec_l1Cur_next.f l a s = some (b, a + 1, s') ∧ 0 ≤ b ∧ b ≤ 255 := by
  have hn := hl.len
  have hw : wrap64 (a + 1) = a + 1 := wrap_idD (by omega) (by omega)
  unfold spec_l1Cur_next.f
  rw [hw]
  by_cases h : a < (l.length : Int)
  · have hb := hl.byte (rd l a) (by
      unfold rd
      rw [List.getD_eq_getElem?_getD, List.getElem?_eq_getElem (by omega)]
      exact List.getElem_mem _)
    rw [if_pos h, if_pos h0, if_pos (by omega), wrap_idD (n := rd l a) (by omega) (by omega)]
    exact ⟨_, _, rfl, hb.1, hb.2⟩
  · have key : ∀ x, wrap64 (Go.bits .and .u64 x 255) = Go.bits .and .u64 x 255 := fun x => by
      have hb := and_byte x
      exact wrap_idD (by omega) (by omega)
    rw [if_neg h, if_neg (by omega), key]
    exact ⟨_, _, rfl, and_byte _⟩
theorem pick_ok {l : List Int} (hl : Code l) (a s n : Int) (h0 : 0 ≤ a) (h1 : a ≤ 1000000000000000) (hn : n ≤ 200) : ∃ v b s', spec_l1Cur_pick.f l a s n = some (v, b, s') ∧ 0 ≤ v ∧ (n ≤ 1 → v = 0) ∧ (2 ≤ n → v < n) ∧ a ≤ b ∧ b ≤ a + 1 := by
  unfold spec_l1Cur_pick.f
  by_cases h : n ≤ 1
  · rw [if_pos h]
    exact ⟨_, _, _, rfl, by omega, fun _ => rfl, fun h2 => by omega, by omega, by omega⟩
  · obtain ⟨b, s', e, h2, h3⟩ := next_ok hl a s h0 h1
    rw [if_neg h, e, Option.bind_some, if_neg (by omega), if_neg (by omega)]
    refine ⟨_, _, _, rfl, Int.tmod_nonneg _ h2, fun h4 => by omega, fun _ => Int.tmod_lt_of_pos _ (by omega), by simp only []; omega, by simp only []; omega⟩
theorem one_ok {l : List Int} (hl : Code l) (a s n : Int) (h0 : 0 ≤ a) (h1 : a ≤ 1000000000000000) (hn : n ≤ 200) : ∃ v b s', spec_l1Cur_one.f l a s n = some (v, b, s') ∧ a ≤ b ∧ b ≤ a + 1 := by
  obtain ⟨v, b, s', e, _, _, _, h2, h3⟩ := pick_ok hl a s n h0 h1 hn
  unfold spec_l1Cur_one.f
  rw [e]
  exact ⟨_, _, _, rfl, h2, h3⟩
theorem among_ok {l : List Int} (hl : Code l) (a s : Int) (m : List Int) (h0 : 0 ≤ a) (h1 : a ≤ 1000000000000000) (hm : m.length ≤ 200) (hm0 : 0 < m.length) : ∃ v b s', spec_l1Cur_among.f l a s m = some (v, b, s') ∧ v ∈ m ∧ a ≤ b ∧ b ≤ a + 1 := by
  obtain ⟨v, b, s', e, h2, h3, h4, h5, h6⟩ := pick_ok hl a s (m.length : Int) h0 h1 (by omega)
  have hv : v < (m.length : Int) := by
    by_cases c : (m.length : Int) ≤ 1
    · rw [h3 c]; omega
    · exact h4 (by omega)
  unfold spec_l1Cur_among.f
  rw [e, Option.bind_some]
  simp only []
  rw [if_pos h2, if_pos hv]
  refine ⟨_, _, _, rfl, ?_, h5, h6⟩
  unfold rd
  rw [List.getD_eq_getElem?_getD, List.getElem?_eq_getElem (by omega)]
  exact List.getElem_mem _
end Go.Proofs.Ytpmpgncjlcdabaa.L
