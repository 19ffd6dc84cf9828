/- PoleText: the program's function and the reference's answer the same, for structs that fit into memory: numbers of one digit with commas between them. -/
import Derived.Test.YtgjamcfnpofbhaaDoorLibAll
import Derived.Lib.Join
import Derived.Lib.ItoaNum
import Derived.Test.YtgjamcfnpofbhaaDoorQx2
import Derived.Test.YtgjamcfnpofbhaaDoorQx3
import Derived.Test.YtgjamcfnpofbhaaDoorQx10
import Derived.Test.YtgjamcfnpofbhaaDoorQx11
import Derived.Test.YtgjamcfnpofbhaaDoorQx12
namespace Go.Proofs.YtgjamcfnpofbhaaDoor.L
open Go.RowKit Go.Proofs.YtgjamcfnpofbhaaDoor.Q Go.Proofs.YtgjamcfnpofbhaaDoorW.PrintWords Go.Proofs.YtgjamcfnpofbhaaDoorW.PrintLast
set_option linter.unusedVariables false
set_option linter.unusedSimpArgs false
/-- Bytes as a string. -/
def bs (l : List UInt8) : ByteArray := ⟨l.toArray⟩
theorem bs_append (a b : List UInt8) : bs a ++ bs b = bs (a ++ b) := by
  apply ByteArray.ext
  rw [ByteArray.data_append]
  simp [bs]
theorem bs_size (a : List UInt8) : (bs a).size = a.length := by simp [bs, ByteArray.size]
/-- A digit. -/
def dg (x : Int) : List UInt8 := [UInt8.ofNat (48 + x.toNat)]
/-- Digits with commas between them. -/
def txt (l : List Int) : List UInt8 := Lib.join (l.map dg) [44]
theorem txt_cons (x : Int) (l : List Int) : txt (x :: l) = dg x ++ Lib.joinTail [44] (l.map dg) := by
  unfold txt
  rw [List.map_cons, Lib.join_cons]
theorem txt_snoc (l : List Int) (x : Int) (h : l ≠ []) : txt (l ++ [x]) = txt l ++ ([44] ++ dg x) := by
  cases l with
  | nil => exact absurd rfl h
  | cons y r =>
    rw [List.cons_append, txt_cons, txt_cons, List.map_append]
    simp [Lib.joinTail]
theorem txt_length : ∀ l : List Int, (txt l).length ≤ 2 * l.length
  | [] => by simp [txt, Lib.join_nil]
  | x :: l => by
    rw [txt_cons]
    have : ∀ r : List Int, (Lib.joinTail [44] (r.map dg)).length = 2 * r.length := by
      intro r
      induction r with
      | nil => simp [Lib.joinTail]
      | cons y r ih =>
        simp only [Lib.joinTail, List.map_cons, List.flatten_cons, List.length_append, List.length_cons] at ih ⊢
        rw [ih]
        simp [dg]
        omega
    rw [List.length_append, this]
    simp [dg]
    omega
theorem num_fin : ∀ x ∈ List.range 10, strOfNums ([(wrap64 (48 + ((x : Nat) : Int))) % 256] : List Int) = bs (dg (x : Int)) := by decide +kernel
theorem num_at (x : Int) (h : 0 ≤ x ∧ x ≤ 9) (k : Nat) : spec_l1Num.f (k + 1) x = some (bs (dg x)) := by
  obtain ⟨n, rfl⟩ : ∃ n : Nat, x = n := ⟨x.toNat, by omega⟩
  simp only [spec_l1Num.f]
  rw [if_pos (by omega), num_fin n (List.mem_range.2 (by omega))]
theorem itoa_at (x : Int) (h : 0 ≤ x ∧ x ≤ 9) : strconv_Itoa.f x = some (bs (dg x)) := by
  unfold strconv_Itoa.f
  rw [if_pos h.1, if_pos (by omega), Lib.decDigits, dif_pos (by omega)]
  rfl
theorem list_l0 (l : List Int) (hl : l.length ≤ 60) (hx : ∀ x ∈ l, 0 ≤ x ∧ x ≤ 9) : ∀ (d i k : Nat), i + d = l.length → d < k → impl_listText.l0 k ((l.take i).map fun x => bs (dg x)) l (l.length : Int) (i : Int) = some (if l = [] then bs [45] else bs (txt l))
  | 0, i, k, h, hk => by
    obtain ⟨k, rfl⟩ : ∃ m, k = m + 1 := ⟨k - 1, by omega⟩
    simp only [impl_listText.l0]
    rw [if_neg (by omega), List.take_of_length_le (by omega), List.length_map]
    by_cases hn : l = []
    · subst hn; rfl
    · have hp := List.length_pos_iff.2 hn
      rw [if_neg (by omega), if_neg hn]
      have e : (l.map fun x => bs (dg x)).map (·.data.toList) = l.map dg := by
        rw [List.map_map]
        apply List.map_congr_left
        intro x _
        simp [bs]
      have e2 : ((⟨#[44]⟩ : ByteArray)).data.toList = [44] := rfl
      unfold strings_Join.f
      rw [List.length_map, if_pos (by omega), e, e2]
      have := txt_length l
      unfold txt at this
      rw [if_pos (by omega), Option.bind_some]
      rfl
  | d + 1, i, k, h, hk => by
    obtain ⟨k, rfl⟩ : ∃ m, k = m + 1 := ⟨k - 1, by omega⟩
    have hi := hx _ (List.getElem_mem (by omega : i < l.length))
    have ih := list_l0 l hl hx d (i + 1) k (by omega) (by omega)
    simp only [impl_listText.l0]
    rw [if_pos (by omega), if_pos (by omega), if_pos (by omega), rd_nat l i (by omega), itoa_at _ hi, Option.bind_some, if_pos (by rw [List.length_map, List.length_take]; omega), wrap_id (by omega) (by omega), show ((i : Int) + 1) = ((i + 1 : Nat) : Int) by omega]
    rw [List.take_succ_eq_append_getElem (by omega), List.map_append] at ih
    exact ih
theorem nums_l0 (l : List Int) (hl : l.length ≤ 60) (hx : ∀ x ∈ l, 0 ≤ x ∧ x ≤ 9) : ∀ (d i k : Nat), i + d = l.length → d + 1 < k → spec_laNumbers.l0 k (bs (txt (l.take i))) l (l.length : Int) (i : Int) = some (bs (txt l))
  | 0, i, k, h, hk => by
    obtain ⟨k, rfl⟩ : ∃ m, k = m + 1 := ⟨k - 1, by omega⟩
    simp only [spec_laNumbers.l0]
    rw [if_neg (by omega), List.take_of_length_le (by omega)]
  | d + 1, i, k, h, hk => by
    obtain ⟨k, rfl⟩ : ∃ m, k = (m + 1) + 1 := ⟨k - 2, by omega⟩
    have hi := hx _ (List.getElem_mem (by omega : i < l.length))
    have ih := nums_l0 l hl hx d (i + 1) (k + 1) (by omega) (by omega)
    have hn := num_at l[i] hi k
    have hs := txt_length (l.take i)
    rw [List.length_take] at hs
    generalize k + 1 = k1 at ih hn ⊢
    have e44 : (⟨#[44]⟩ : ByteArray) = bs [44] := rfl
    simp only [spec_laNumbers.l0]
    rw [if_pos (by omega), if_pos (by omega), if_pos (by omega), rd_nat l i (by omega), hn, wrap_id (n := (i : Int) + 1) (by omega) (by omega), show ((i : Int) + 1) = ((i + 1 : Nat) : Int) by omega]
    have h1 : (dg l[i]).length = 1 := rfl
    by_cases c : i = 0
    · subst c
      have h0 : txt (l.take 0) = [] := rfl
      rw [if_neg (by omega), Option.bind_some, h0, bs_append, bs_size, bs_size, if_pos (by simp [h1])]
      rw [List.take_succ_eq_append_getElem (by omega)] at ih
      have e1 : txt (l.take 0 ++ [l[0]]) = [] ++ dg l[0] := by
        show txt [l[0]] = _
        rw [txt_cons]; simp [Lib.joinTail]
      rw [e1] at ih
      exact ih
    · rw [if_pos (by omega), bs_size, if_pos (by omega), Option.bind_some, e44, bs_append, bs_append, bs_size, bs_size, if_pos (by rw [List.length_append, h1]; simp; omega)]
      rw [List.take_succ_eq_append_getElem (by omega), txt_snoc _ _ (by
        intro e
        have := congrArg List.length e
        rw [List.length_take] at this
        have h9 : min i l.length = 0 := this
        omega)] at ih
      rw [List.append_assoc]
      exact ih
theorem core_PoleText (a : Int) (l : List Int) (w : (Lit.int .i64 a).wf = true) (hb : l.length ≤ 35184372088832) (hw : ∀ x ∈ l, (Lit.int .i64 x).wf = true) :
    ∃ K s ok, (∀ k, K ≤ k → spec_PoleText.f k a l = some (s, ok)) ∧ (∀ k, K ≤ k → impl_PoleText.f k a l = some (s, ok)) := by
  by_cases h : isPole a l = true
  · obtain ⟨h1, h2, h3, h4⟩ := isPole_wires h
    have ha : 0 ≤ a ∧ a ≤ 9 := by omega
    have hx : ∀ x ∈ l, 0 ≤ x ∧ x ≤ 9 := fun x hx => by have := h4 x hx; omega
    have hI : ∀ k, 100 ≤ k → impl_listText.f k l = some (if l = [] then bs [45] else bs (txt l)) := fun k hk => list_l0 l h3 hx l.length 0 k (by omega) (by omega)
    have hS : ∀ k, 100 ≤ k → spec_laNumbers.f k l = some (if l = [] then bs [45] else bs (txt l)) := by
      intro k hk
      unfold spec_laNumbers.f
      by_cases hn : l = []
      · subst hn; rfl
      · have hp := List.length_pos_iff.2 hn
        rw [if_neg (by omega), if_neg hn]
        exact nums_l0 l h3 hx l.length 0 k (by omega) (by omega)
    have e42 : (⟨#[42]⟩ : ByteArray) = bs [42] := rfl
    have hlen : (if l = [] then bs [45] else bs (txt l)).size ≤ 200 := by
      have := txt_length l
      split
      · rw [bs_size]; simp
      · rw [bs_size]; omega
    generalize (if l = [] then bs [45] else bs (txt l)) = z at hI hS hlen
    have h1 : (dg a).length = 1 := rfl
    refine ⟨l.length + 200, (bs (dg a) ++ bs [42]) ++ z, true, fun k hk => ?_, fun k hk => ?_⟩
    · unfold spec_PoleText.f
      rw [poGood a l hb k (by omega), Option.bind_some, if_pos h]
      obtain ⟨k, rfl⟩ : ∃ m, k = m + 1 := ⟨k - 1, by omega⟩
      rw [num_at a ha k, Option.bind_some, if_pos (by rw [bs_size]; omega), hS _ (by omega), Option.bind_some, e42, bs_append, if_pos (by rw [bs_size, List.length_append, h1]; simp; omega)]
    · unfold impl_PoleText.f
      rw [isPole_eq, Option.bind_some, if_pos h, itoa_at a ha, Option.bind_some, if_pos (by rw [bs_size]; omega), hI _ (by omega), Option.bind_some, e42, bs_append, if_pos (by rw [bs_size, List.length_append, h1]; simp; omega)]
  · refine ⟨l.length + 200, ⟨#[]⟩, false, fun k hk => ?_, fun k hk => ?_⟩
    · unfold spec_PoleText.f
      rw [poGood a l hb k (by omega), Option.bind_some, if_neg h]
    · unfold impl_PoleText.f
      rw [isPole_eq, Option.bind_some, if_neg h]
end Go.Proofs.YtgjamcfnpofbhaaDoor.L
