/- CountOrdersMade: the program's function and the reference's answer the same, for all whole numbers of int. -/
import Derived.Test.YtghogdffocnjnaaLibMadeTab
import Derived.Test.YtghogdffocnjnaaQx24
import Derived.Test.YtghogdffocnjnaaQx43
namespace Go.Proofs.Ytghogdffocnjnaa.L
open Go.RowKit Go.Proofs.Ytghogdffocnjnaa.Q Go.Proofs.YtghogdffocnjnaaW.PrintWords Go.Proofs.YtghogdffocnjnaaW.PrintLast
set_option linter.unusedVariables false
set_option linter.unusedSimpArgs false
theorem filter_same {α β : Type} (h : α → Bool) (g : β → Bool) (da : α) (db : β) : ∀ (A : List α) (B : List β), A.length = B.length → (∀ i, i < A.length → h (A.getD i da) = g (B.getD i db)) → (A.filter h).length = (B.filter g).length
  | [], [], _, _ => rfl
  | [], _ :: _, e, _ => by simp at e
  | _ :: _, [], e, _ => by simp at e
  | a :: A, b :: B, e, hi => by
    have h0 : h a = g b := hi 0 (by simp)
    have ih := filter_same h g da db A B (by simpa using e) (fun i hl => hi (i + 1) (by simpa using hl))
    rw [List.filter_cons, List.filter_cons, h0]
    cases g b
    · simpa using ih
    · simpa using ih
theorem made_base {n : Nat} {O : List (List Int)} {T : Nat → List Int} (F : MadeFacts n O T) : ∃ q0, (∀ k, 20 ≤ k → impl_identity.f k (n : Int) = some (O.getD 0 []) ∧ impl_orderKey.f k (O.getD 0 []) = some q0) ∧ q0.data.toList = keyB (O.getD 0 []) ∧ q0.data.toList.length = n := by
  obtain ⟨q0, e1, e2⟩ := F.key 0 F.some_.1
  refine ⟨q0, fun k hk => ⟨at_rounds (fun k => impl_identity.mono _ k) hk F.id, at_rounds (fun k => impl_orderKey.mono _ k) hk e1⟩, e2, ?_⟩
  rw [e2]
  show (List.map _ _).length = n
  rw [List.length_map]
  exact F.len 0 F.some_.1
theorem core_CountOrdersMade (a0 a1 : Int) (w0 : (Lit.int .i64 a0).wf = true) (w1 : (Lit.int .i64 a1).wf = true) :
    ∃ K r ok, (∀ k, K ≤ k → spec_CountOrdersMade.f k a0 a1 = some (r, ok)) ∧ (∀ k, K ≤ k → impl_CountOrdersMade.f k a0 a1 = some (r, ok)) := by
  obtain ⟨b, hb⟩ := told_some a0 a1
  cases b with
  | false =>
    refine ⟨0, 0, false, fun k hk => ?_, fun k hk => ?_⟩
    · unfold spec_CountOrdersMade.f
      rw [told_same, hb]
      rfl
    · unfold impl_CountOrdersMade.f
      rw [hb]
      rfl
  | true =>
    obtain ⟨c1, c2, c3, c4⟩ := told_true hb
    obtain ⟨n, rfl⟩ : ∃ n : Nat, a0 = n := ⟨a0.toNat, by omega⟩
    obtain ⟨K, rfl⟩ : ∃ n : Nat, a1 = n := ⟨a1.toNat, by omega⟩
    obtain ⟨O, T, F⟩ := facts n (by omega) (by omega)
    obtain ⟨q0, hq, hq1, hq2⟩ := made_base F
    refine ⟨25000, ((((T K).filter fun x => decide (0 < x)).length : Nat) : Int), true, fun k hk => ?_, fun k hk => ?_⟩
    · unfold spec_CountOrdersMade.f
      rw [told_same, hb, Option.bind_some, if_pos rfl, (F.ch K (by omega) k hk).2, Option.bind_some]
      exact at_rounds (fun k => (spec_CountOrdersMade.mono_l k) _ _ _ _) (by omega) (F.cnt K (by omega))
    · unfold impl_CountOrdersMade.f
      rw [hb, Option.bind_some, if_pos rfl, (hq k (by omega)).1, Option.bind_some, (hq k (by omega)).2, Option.bind_some, Int.toNat_natCast, Int.toNat_natCast, hq1, F.perms]
      rw [if_pos ⟨⟨by omega, by omega, by omega, by omega, by rw [← hq1, hq2]⟩, F.closed⟩]
      congr 2
      congr 1
      apply filter_same _ _ [] 0
      · rw [List.length_map, F.size K (by omega)]
      · intro i hi
        rw [List.length_map] at hi
        have e : (O.map keyB).getD i [] = keyB (O.getD i []) := by
          rw [List.getD_eq_getElem?_getD, List.getElem?_map, List.getD_eq_getElem?_getD, List.getElem?_eq_getElem hi]
          rfl
        rw [e]
        exact (F.tab K (by omega) i hi).2
end Go.Proofs.Ytghogdffocnjnaa.L
