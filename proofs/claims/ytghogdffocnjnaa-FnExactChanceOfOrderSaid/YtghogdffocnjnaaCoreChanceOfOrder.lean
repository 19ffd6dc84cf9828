/- ChanceOfOrder: the program's function and the reference's answer the same, for all whole numbers of int and all lists that fit into memory. -/
import Derived.Test.YtghogdffocnjnaaCoreCountForOrder
import Derived.Test.YtghogdffocnjnaaQx1
import Derived.Test.YtghogdffocnjnaaQx13
import Derived.Test.YtghogdffocnjnaaQx14
import Derived.Test.YtghogdffocnjnaaQx28
import Derived.Test.YtghogdffocnjnaaQx47
namespace Go.Proofs.Ytghogdffocnjnaa.L
open Go.RowKit Go.Proofs.Ytghogdffocnjnaa.Q Go.Proofs.YtghogdffocnjnaaW.PrintWords Go.Proofs.YtghogdffocnjnaaW.PrintLast
set_option linter.unusedVariables false
set_option linter.unusedSimpArgs false
def ratOk (n k : Int) (T : List Int) : Bool := T.all fun c => decide (((spec_chAll.f 200 n k).bind fun t => spec_chRatio.f 200 c t) = ((impl_power.f 200 (wrap64 (n - 1)) k).bind fun t => impl_ratio.f 200 c t) ∧ ((spec_chAll.f 200 n k).bind fun t => spec_chRatio.f 200 c t).isSome = true)
theorem rat2 : ∀ k ∈ List.range 21, ratOk 2 ((k : Nat) : Int) (tab2 k) = true := by decide +kernel
theorem rat3 : ∀ k ∈ List.range 21, ratOk 3 ((k : Nat) : Int) (tab3 k) = true := by decide +kernel
theorem rat4 : ∀ k ∈ List.range 21, ratOk 4 ((k : Nat) : Int) (tab4 k) = true := by decide +kernel
theorem rat5 : ∀ k ∈ List.range 21, ratOk 5 ((k : Nat) : Int) (tab5 k) = true := by decide +kernel
theorem tab_one {n : Nat} {O : List (List Int)} {T : Nat → List Int} (F : MadeFacts n O T) (h1 : 2 ≤ n) (h2 : n ≤ 5) (k : Nat) (hk : k ≤ 20) : ratOk (n : Int) (k : Int) (T k) = true := by
  have e : ∀ {O' : List (List Int)} {T' : Nat → List Int}, MadeFacts n O' T' → T k = T' k := fun F' => by
    have a := (F.ch k hk 25000 (Nat.le_refl _)).2
    have b := (F'.ch k hk 25000 (Nat.le_refl _)).2
    exact Option.some.inj (a.symm.trans b)
  rcases (by omega : n = 2 ∨ n = 3 ∨ n = 4 ∨ n = 5) with rfl | rfl | rfl | rfl
  · rw [e facts2]; exact rat2 k (List.mem_range.2 (by omega))
  · rw [e facts3]; exact rat3 k (List.mem_range.2 (by omega))
  · rw [e facts4]; exact rat4 k (List.mem_range.2 (by omega))
  · rw [e facts5]; exact rat5 k (List.mem_range.2 (by omega))
theorem core_ChanceOfOrder (a0 a1 : Int) (l : List Int) (w0 : (Lit.int .i64 a0).wf = true) (w1 : (Lit.int .i64 a1).wf = true) (hb : l.length ≤ 35184372088832) (hw : ∀ x ∈ l, (Lit.int .i64 x).wf = true) :
    ∃ K r s ok, (∀ k, K ≤ k → spec_ChanceOfOrder.f k a0 a1 l = some (r, s, ok)) ∧ (∀ k, K ≤ k → impl_ChanceOfOrder.f k a0 a1 l = some (r, s, ok)) := by
  rcases count_at a0 a1 l hb with ⟨h1, h2⟩ | ⟨n, K, i, O, T, rfl, rfl, hn1, hn2, hK, F, hi, _, h1, h2⟩
  · refine ⟨100, 0, 0, false, fun k hk => ?_, fun k hk => ?_⟩
    · unfold spec_ChanceOfOrder.f
      rw [h1 k hk]
      rfl
    · unfold impl_ChanceOfOrder.f
      rw [h2 k hk]
      rfl
  · have hT := tab_one F hn1 hn2 K hK
    have hm : (T K).getD i 0 ∈ T K := by
      have hl : i < (T K).length := by rw [F.size K hK]; exact hi
      rw [List.getD_eq_getElem?_getD, List.getElem?_eq_getElem hl]
      exact List.getElem_mem hl
    obtain ⟨e1, e2⟩ := of_decide_eq_true (List.all_eq_true.1 hT _ hm)
    obtain ⟨⟨r, s⟩, e3⟩ := Option.isSome_iff_exists.1 e2
    rw [e3] at e1
    obtain ⟨t, f1, f2⟩ := Option.bind_eq_some_iff.1 e3
    obtain ⟨u, g1, g2⟩ := Option.bind_eq_some_iff.1 e1.symm
    refine ⟨25100, r, s, true, fun k hk => ?_, fun k hk => ?_⟩
    · unfold spec_ChanceOfOrder.f
      rw [h1 k hk, Option.bind_some]
      simp only []
      rw [if_pos trivial, at_rounds (fun k => spec_chAll.mono _ _ k) (show 200 ≤ k by omega) f1, Option.bind_some, at_rounds (fun k => spec_chRatio.mono _ _ k) (show 200 ≤ k by omega) f2]
      rfl
    · unfold impl_ChanceOfOrder.f
      rw [h2 k hk, Option.bind_some]
      simp only []
      rw [if_pos trivial, at_rounds (fun k => impl_power.mono _ _ k) (show 200 ≤ k by omega) g1, Option.bind_some, at_rounds (fun k => impl_ratio.mono _ _ k) (show 200 ≤ k by omega) g2]
      rfl
end Go.Proofs.Ytghogdffocnjnaa.L
