/- Each function below comes to the Lean function beside it (theorems '.calls'); no condition beyond each theorem's own. Written by our program oprint.py over the kit's print. -/
import Derived.Test.YtghogdffocnjnaaQx0
import Derived.Test.YtghogdffocnjnaaQx24
import Derived.Test.YtghogdffocnjnaaQx41
import Derived.Test.YtghogdffocnjnaaQx42
import Derived.Maps.OwnSet
namespace Go.Proofs.Ytghogdffocnjnaa.Q
open Go.RowKit Go.Proofs.YtghogdffocnjnaaW.PrintWords Go.Proofs.YtghogdffocnjnaaW.PrintLast Go.Proofs.YtghogdffocnjnaaW.PrintMore
attribute [local go_sem] max2_int min2_int max_two min_two max_three min_three max_four min_four   -- for this text's walks alone
set_option linter.unusedVariables false
set_option linter.unusedSimpArgs false

/-! ### impl_CountOrdersMade: function 37 -/
-- GIVEN impl_CountOrdersMade
/-- All orders of some bytes. -/
def mdPerms : Nat → List UInt8 → List (List UInt8)
  | 0, _ => [[]]
  | d + 1, l => (List.range l.length).flatMap fun i => (mdPerms d (l.eraseIdx i)).map fun p => l.getD i 0 :: p
def mdClosed (n : Nat) (q0 : List UInt8) (all : List (List UInt8)) : Bool := decide all.Nodup && all.contains q0 && all.all fun bs => decide (bs.length = n) && (List.range (n - 1)).all fun r => all.contains (mdSw bs r)
theorem mdH_mem {n : Nat} {q0 : List UInt8} {all : List (List UInt8)} (h : mdClosed n q0 all = true) : ∀ (j : Nat) (bs : List UInt8), mdH n q0 j bs = true → bs ∈ all
  | 0, bs, hb => by
    unfold mdClosed at h
    rw [Bool.and_eq_true, Bool.and_eq_true] at h
    rw [of_decide_eq_true hb]
    simpa using h.1.2
  | j + 1, bs, hb => by
    have hm := mdH_mem h j
    unfold mdClosed at h
    rw [Bool.and_eq_true] at h
    unfold mdH mdStepH at hb
    rw [Bool.and_eq_true] at hb
    have hl := of_decide_eq_true hb.1
    have key : ∀ m : Nat, m ≤ n - 1 → mdAny m (fun r => mdH n q0 j (mdSw bs r)) = true → bs ∈ all := by
      intro m
      induction m with
      | zero => intro _ h_; cases h_
      | succ m ih =>
        intro hmn h_
        unfold mdAny at h_
        rcases Bool.or_eq_true_iff.1 h_ with h1 | h1
        · exact ih (by omega) h1
        · have h2 := List.all_eq_true.1 h.2 _ (hm _ h1)
          rw [Bool.and_eq_true] at h2
          have h3 := List.all_eq_true.1 h2.2 m (List.mem_range.2 (by omega))
          rw [mdSw_mdSw bs m (by omega)] at h3
          simpa using h3
    exact key (n - 1) (Nat.le_refl _) hb.2
theorem md_keys {w : World} {P : Program} {k : TypeId} {R : Value → Option (DataW Unit × List MemPlace)} {b n : Nat} {D : DataW Unit} (hk : P.underlying k = some .string) (h : w.ownsMap P k R b n D) : ∀ es, D = .map es → ∀ p ∈ es, ∃ s, p.1 = .string s := by
  obtain ⟨es0, clock, h1, F, h3, rfl⟩ := h
  intro es he p hp
  cases he
  obtain ⟨v, hv⟩ := Go.Maps.fit_keys F p (Go.mem_sorted.1 hp)
  obtain ⟨s, _, e2, _⟩ := md_key_inv hk hv
  exact ⟨_, e2⟩
def impl_CountOrdersMade.f (k : Nat) (a0 : Int) (a1 : Int) : Option (Int × Bool) :=
  (impl_isTold.f a0 a1).bind fun t1 => if t1 = true then ((impl_identity.f k a0).bind fun ids => (impl_orderKey.f k ids).bind fun q0 => if (2 ≤ a0 ∧ a0 ≤ 5 ∧ 0 ≤ a1 ∧ a1 ≤ 20 ∧ (q0.data.toList.length : Int) = a0) ∧ mdClosed a0.toNat q0.data.toList (mdPerms a0.toNat q0.data.toList) = true then some ((((mdPerms a0.toNat q0.data.toList).filter (mdH a0.toNat q0.data.toList a1.toNat)).length : Int), true) else none) else some (0, false)
theorem impl_CountOrdersMade.mono : ∀ a0 a1 k, LeO (impl_CountOrdersMade.f k a0 a1) (impl_CountOrdersMade.f (k + 1) a0 a1) := by
  intro a0 a1 k
  unfold impl_CountOrdersMade.f
  exact LeO.bind (LeO.refl _) (fun _ => LeO.ite (LeO.bind (impl_identity.mono _ _) (fun _ => LeO.bind (impl_orderKey.mono _ _) (fun _ => LeO.refl _))) (LeO.refl _))
set_option maxHeartbeats 8000000 in
set_option maxRecDepth 100000 in
theorem impl_CountOrdersMade.calls (k : Nat) (a0 : Int) (a1 : Int) (r1 : Int) (r2 : Bool) (w : World) (h : impl_CountOrdersMade.f k a0 a1 = some (r1, r2)) :
    Calls Try.prog 37 #[.int .i64 a0, .int .i64 a1] w fun e w' => e = .returned (.tuple #[.int .i64 r1, .bool r2]) ∧ Below w.heap.size w w' := by
  have HB0 := Aside0.mk (Below.refl w.heap.size w)
  unfold impl_CountOrdersMade.f at h
  obtain ⟨t1, e1, h⟩ := Option.bind_eq_some_iff.mp h
  have A1 := Aside0.mk e1
  clear e1
  cases t1 with
  | false =>
    rw [if_neg (by decide)] at h
    simp only [Option.some.injEq, Prod.mk.injEq] at h
    obtain ⟨rfl, rfl⟩ := h
    go_enter Try.func37, Try.ntmps37
    go_wp2_with (first | (go_at_call 67; refine (impl_isTold.calls a0 a1 false _ A1.out).mono ?_; rintro e w' ⟨rfl, ⟨nd, rfl⟩⟩))
    go_ret2
    exact ⟨rfl, by repeat (first | exact HB0.out | apply pw_below_drewN | apply below_drew1)⟩
  | true =>
    rw [if_pos rfl] at h
    obtain ⟨ids, e3, h⟩ := Option.bind_eq_some_iff.mp h
    obtain ⟨q0, e4, h⟩ := Option.bind_eq_some_iff.mp h
    by_cases hc : (2 ≤ a0 ∧ a0 ≤ 5 ∧ 0 ≤ a1 ∧ a1 ≤ 20 ∧ (q0.data.toList.length : Int) = a0) ∧ mdClosed a0.toNat q0.data.toList (mdPerms a0.toNat q0.data.toList) = true
    · rw [if_pos hc] at h
      obtain ⟨⟨c1, c2', c3, c4, c5⟩, c6⟩ := hc
      obtain ⟨n, rfl⟩ : ∃ n : Nat, a0 = n := ⟨a0.toNat, by omega⟩
      obtain ⟨K, rfl⟩ : ∃ n : Nat, a1 = n := ⟨a1.toNat, by omega⟩
      rw [Int.toNat_natCast] at c6
      have A3 := Aside0.mk e3
      have A4 := Aside0.mk e4
      have HQ := Aside0.mk (show q0.data.toList.length = n by omega)
      have HN := Aside0.mk (show 2 ≤ n ∧ n ≤ 5 ∧ K ≤ 20 by omega)
      have HCl := Aside0.mk c6
      clear e3 e4 c1 c2' c3 c4 c5 c6
      simp only [Option.some.injEq, Prod.mk.injEq, Int.toNat_natCast] at h
      obtain ⟨rfl, rfl⟩ := h
      go_enter Try.func37, Try.ntmps37
      go_wp2_with (first | (go_at_call 67; refine (impl_isTold.calls _ _ true _ A1.out).mono ?_; rintro e w' ⟨rfl, ⟨nd, rfl⟩⟩) | (go_at_call 68; refine (impl_made.calls k n K ids q0 _ HN.out.1 HN.out.2.1 HN.out.2.2 A3.out A4.out HQ.out).mono ?_; rintro e w5 ⟨b, m, D, rfl, hb, hown, hrd, hbel⟩; have HO := Aside0.mk hown; have HRd := Aside0.mk hrd; have HB2 := Aside0.mk (below_step (by repeat (first | exact HB0.out | apply pw_below_drewN | apply below_drew1)) hbel); clear hb hown hrd hbel) | (at_len; refine wpList_len_own _ rfl _ 57 rfl 9 3 Try.underlying57 _ b m D rfl HO.out ?_))
      go_ret2
      refine ⟨?_, HB2.out⟩
      have hs : Go.Maps.size D = ((mdPerms n q0.data.toList).filter (mdH n q0.data.toList K)).length := HRd.out.size (HO.out.tidy md_law) (md_keys Try.underlying9 HO.out) _ (by have h_ := HCl.out; unfold mdClosed at h_; rw [Bool.and_eq_true, Bool.and_eq_true] at h_; exact of_decide_eq_true h_.1.1) (fun bs => mdH_mem HCl.out K bs)
      rw [hs]
      rfl
    · rw [if_neg hc] at h; cases h

end Go.Proofs.Ytghogdffocnjnaa.Q
