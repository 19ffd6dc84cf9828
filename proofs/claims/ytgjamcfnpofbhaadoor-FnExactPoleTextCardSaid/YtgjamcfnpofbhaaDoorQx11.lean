/- Each function below comes to the Lean function beside it (theorems '.calls'); no condition beyond each theorem's own. Written by our program oprint.py over the kit's print. -/
import Derived.Test.YtgjamcfnpofbhaaDoorQx0
import Derived.Test.YtgjamcfnpofbhaaDoorQx15
import Derived.Shelf.Abstract
namespace Go.Proofs.YtgjamcfnpofbhaaDoor.Q
open Go.RowKit Go.Proofs.YtgjamcfnpofbhaaDoorW.PrintWords Go.Proofs.YtgjamcfnpofbhaaDoorW.PrintLast Go.Proofs.YtgjamcfnpofbhaaDoorW.PrintMore
attribute [local go_sem] max2_int min2_int max_two min_two max_three min_three max_four min_four   -- for this text's walks alone
set_option linter.unusedVariables false
set_option linter.unusedSimpArgs false

/-! ### strings_Join: function 24 -/
-- GIVEN strings_Join
/-- strings.Join of few and short strings. -/
def strings_Join.f (l0 : List ByteArray) (a1 : ByteArray) : Option (ByteArray) := if l0.length ≤ 1000 then (if (Lib.join (l0.map (·.data.toList)) a1.data.toList).length ≤ 1000000 then some ⟨(Lib.join (l0.map (·.data.toList)) a1.data.toList).toArray⟩ else none) else none
theorem strings_Join.calls (A0 : Option Addr) (c0 : Nat) (l0 : List ByteArray) (a1 : ByteArray) (r : ByteArray) (w : World) (hr0 : Kd.C Kd.string w A0 l0.length l0) (hc0 : l0.length ≤ c0) (h : strings_Join.f l0 a1 = some r) :
    Calls Tryd.prog 24 #[.slice A0 l0.length c0, .string a1] w fun e w' => e = .returned (.string r) ∧ Below w.heap.size w w' := by
  unfold strings_Join.f at h
  by_cases h0 : l0.length ≤ 1000
  · rw [if_pos h0] at h
    by_cases h1 : (Lib.join (l0.map (·.data.toList)) a1.data.toList).length ≤ 1000000
    · rw [if_pos h1] at h
      have hr := Option.some.inj h
      by_cases hn : l0 = []
      · subst hn
        have hc : Calls Tryd.prog 24 #[.slice A0 0 c0, .string a1] w _ := Any.strings_Join_none lays156 Builder_Extra_156 A0 c0 a1 w
        refine hc.mono ?_
        rintro e w' ⟨rfl, rfl⟩
        exact ⟨by rw [← hr]; rfl, Below.refl _ _⟩
      · have hp : 0 < l0.length := List.length_pos_iff.2 hn
        obtain ⟨ad, rfl, hx⟩ := Kd.at_string hr0 0 (by omega) (by omega)
        have e0 : ad.add (0 : Int).toNat = ad := rfl
        rw [e0] at hx
        obtain ⟨b, o, sp⟩ := ad
        have hsp : sp = none := by
          cases sp with
          | none => rfl
          | some z =>
            exfalso
            unfold World.cell? at hx
            split at hx
            · simp at hx
            · simp at hx
        subst hsp
        have hb : b < w.heap.size := by
          unfold World.cell? at hx
          by_cases hlt : b < w.heap.size
          · exact hlt
          · simp [Array.getElem?_eq_none (by omega : w.heap.size ≤ b)] at hx
        have hcells : ∀ (j : Nat) x, l0[j]? = some x → w.cell? ⟨b, o + j, none⟩ = some (.string x) := by
          intro j x hj
          have hjl := (List.getElem?_eq_some_iff.1 hj).1
          obtain ⟨ad2, e2, hx2⟩ := Kd.at_string hr0 (j : Int) (by omega) (by omega)
          obtain rfl := Option.some.inj e2
          have ea : (Addr.add ⟨b, o, none⟩ ((j : Int)).toNat) = ⟨b, o + j, none⟩ := by
            unfold Addr.add
            by_cases hz : j = 0
            · subst hz; rfl
            · rw [if_neg (by omega)]; simp
          rw [ea] at hx2
          rw [hx2]
          unfold rdOf
          rw [Int.toNat_natCast, List.getD_eq_getElem?_getD, hj]
          rfl
        have hc : Calls Tryd.prog 24 #[.slice (some ⟨b, o, none⟩) l0.length c0, .string a1] w _ := Any.strings_Join lays156 Builder_Extra_156 b o c0 l0 a1 w hcells hb (by omega) hc0 (by omega)
        refine hc.mono ?_
        rintro e w' ⟨rfl, hb⟩
        exact ⟨by rw [← hr], hb⟩
    · rw [if_neg h1] at h; exact absurd h (by simp)
  · rw [if_neg h0] at h; exact absurd h (by simp)

end Go.Proofs.YtgjamcfnpofbhaaDoor.Q
