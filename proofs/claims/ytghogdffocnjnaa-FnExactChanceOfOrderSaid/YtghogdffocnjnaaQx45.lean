/- Each function below comes to the Lean function beside it (theorems '.calls'); no condition beyond each theorem's own. Written by our program oprint.py over the kit's print. -/
import Derived.Test.YtghogdffocnjnaaQx0
import Derived.Test.YtghogdffocnjnaaQx24
import Derived.Test.YtghogdffocnjnaaQx26
import Derived.Test.YtghogdffocnjnaaQx41
import Derived.Test.YtghogdffocnjnaaQx42
import Derived.Maps.OwnOps
namespace Go.Proofs.Ytghogdffocnjnaa.Q
open Go.RowKit Go.Proofs.YtghogdffocnjnaaW.PrintWords Go.Proofs.YtghogdffocnjnaaW.PrintLast Go.Proofs.YtghogdffocnjnaaW.PrintMore
attribute [local go_sem] max2_int min2_int max_two min_two max_three min_three max_four min_four   -- for this text's walks alone
set_option linter.unusedVariables false
set_option linter.unusedSimpArgs false

/-! ### impl_CountForOrder: function 40 -/
-- GIVEN impl_CountForOrder
def impl_CountForOrder.f (k : Nat) (a0 : Int) (a1 : Int) (l2 : List Int) : Option (Int × Bool) :=
  (impl_isTold.f a0 a1).bind fun t1 => if t1 = true then ((impl_isOrder.f k l2).bind fun t2 => if t2 = true then (if (l2.length : Int) = a0 then ((impl_identity.f k a0).bind fun ids => (impl_orderKey.f k ids).bind fun q0 => (impl_orderKey.f k l2).bind fun q => if (2 ≤ a0 ∧ a0 ≤ 5 ∧ 0 ≤ a1 ∧ a1 ≤ 20 ∧ (q0.data.toList.length : Int) = a0) ∧ q.size ≤ 1000 then some (mdC a0.toNat q0.data.toList a1.toNat q.data.toList, true) else none) else some (0, false)) else some (0, false)) else some (0, false)
theorem impl_CountForOrder.mono : ∀ a0 a1 a2 k, LeO (impl_CountForOrder.f k a0 a1 a2) (impl_CountForOrder.f (k + 1) a0 a1 a2) := by
  intro a0 a1 a2 k
  unfold impl_CountForOrder.f
  exact LeO.bind (LeO.refl _) (fun _ => LeO.ite (LeO.bind (impl_isOrder.mono _ _) (fun _ => LeO.ite (LeO.ite (LeO.bind (impl_identity.mono _ _) (fun _ => LeO.bind (impl_orderKey.mono _ _) (fun _ => LeO.bind (impl_orderKey.mono _ _) (fun _ => LeO.refl _)))) (LeO.refl _)) (LeO.refl _))) (LeO.refl _))
set_option maxHeartbeats 8000000 in
set_option maxRecDepth 100000 in
theorem impl_CountForOrder.calls (k : Nat) (a0 : Int) (a1 : Int) (A2 : Option Addr) (c2 : Nat) (l2 : List Int) (r1 : Int) (r2 : Bool) (w : World) (hr2 : Kd.C (Kd.int .i64) w A2 l2.length l2) (hc2 : l2.length ≤ c2) (h : impl_CountForOrder.f k a0 a1 l2 = some (r1, r2)) :
    Calls Try.prog 40 #[.int .i64 a0, .int .i64 a1, .slice A2 l2.length c2] w fun e w' => e = .returned (.tuple #[.int .i64 r1, .bool r2]) ∧ Below w.heap.size w w' := by
  have HR := Aside0.mk hr2
  have HC := Aside0.mk hc2
  have HB0 := Aside0.mk (Below.refl w.heap.size w)
  clear hr2 hc2
  unfold impl_CountForOrder.f at h
  obtain ⟨t1, e1, h⟩ := Option.bind_eq_some_iff.mp h
  have A1 := Aside0.mk e1
  clear e1
  cases t1 with
  | false =>
    rw [if_neg (by decide)] at h
    simp only [Option.some.injEq, Prod.mk.injEq] at h
    obtain ⟨rfl, rfl⟩ := h
    go_enter Try.func40, Try.ntmps40
    go_wp2_with (first | (go_at_call 67; refine (impl_isTold.calls a0 a1 false _ A1.out).mono ?_; rintro e w' ⟨rfl, ⟨nd, rfl⟩⟩))
    go_ret2
    exact ⟨rfl, by repeat (first | exact HB0.out | apply pw_below_drewN | apply below_drew1)⟩
  | true =>
    rw [if_pos rfl] at h
    obtain ⟨t2, e2, h⟩ := Option.bind_eq_some_iff.mp h
    have A2' := Aside0.mk e2
    clear e2
    cases t2 with
    | false =>
      rw [if_neg (by decide)] at h
      simp only [Option.some.injEq, Prod.mk.injEq] at h
      obtain ⟨rfl, rfl⟩ := h
      go_enter Try.func40, Try.ntmps40
      go_wp2_with (first | (go_at_call 67; refine (impl_isTold.calls a0 a1 true _ A1.out).mono ?_; rintro e w' ⟨rfl, ⟨nd, rfl⟩⟩) | (go_at_call 71; refine (impl_isOrder.calls k _ _ l2 false _ (by repeat (first | exact HR.out | (with_reducible refine Kd.C_drewN ?_ _) | (with_reducible refine Kd.C_drew ?_))) HC.out A2'.out).mono ?_; rintro e w' ⟨rfl, ⟨nd2, rfl⟩⟩))
      go_ret2
      exact ⟨rfl, by repeat (first | exact HB0.out | apply pw_below_drewN | apply below_drew1)⟩
    | true =>
      rw [if_pos rfl] at h
      by_cases hl : (l2.length : Int) = a0
      · rw [if_pos hl] at h
        obtain ⟨ids, e3, h⟩ := Option.bind_eq_some_iff.mp h
        obtain ⟨q0, e4, h⟩ := Option.bind_eq_some_iff.mp h
        obtain ⟨q, e5, h⟩ := Option.bind_eq_some_iff.mp h
        by_cases hc : (2 ≤ a0 ∧ a0 ≤ 5 ∧ 0 ≤ a1 ∧ a1 ≤ 20 ∧ (q0.data.toList.length : Int) = a0) ∧ q.size ≤ 1000
        · rw [if_pos hc] at h
          obtain ⟨⟨c1, c2', c3, c4, c5⟩, c6⟩ := hc
          obtain ⟨n, rfl⟩ : ∃ n : Nat, a0 = n := ⟨a0.toNat, by omega⟩
          obtain ⟨K, rfl⟩ : ∃ n : Nat, a1 = n := ⟨a1.toNat, by omega⟩
          have A3 := Aside0.mk e3
          have A4 := Aside0.mk e4
          have A5 := Aside0.mk e5
          have HQ := Aside0.mk (show q0.data.toList.length = n by omega)
          have HN := Aside0.mk (show 2 ≤ n ∧ n ≤ 5 ∧ K ≤ 20 by omega)
          have HZ := Aside0.mk (show q.size ≤ maxLen by unfold maxLen; omega)
          clear e3 e4 e5 c1 c2' c3 c4 c5 c6
          simp only [Option.some.injEq, Prod.mk.injEq, Int.toNat_natCast] at h
          obtain ⟨rfl, rfl⟩ := h
          go_enter Try.func40, Try.ntmps40
          go_wp2_with (first | (go_at_call 67; refine (impl_isTold.calls _ _ true _ A1.out).mono ?_; rintro e w' ⟨rfl, ⟨nd, rfl⟩⟩) | (go_at_call 71; refine (impl_isOrder.calls k _ _ l2 true _ (by repeat (first | exact HR.out | (with_reducible refine Kd.C_drewN ?_ _) | (with_reducible refine Kd.C_drew ?_))) HC.out A2'.out).mono ?_; rintro e w' ⟨rfl, ⟨nd2, rfl⟩⟩) | (go_at_call 68; refine (impl_made.calls k n K ids q0 _ HN.out.1 HN.out.2.1 HN.out.2.2 A3.out A4.out HQ.out).mono ?_; rintro e w5 ⟨b, m, D, rfl, hb, hown, hrd, hbel⟩; have HO := Aside0.mk hown; have HRd := Aside0.mk hrd; have HB2 := Aside0.mk (below_step (by repeat (first | exact HB0.out | apply pw_below_drewN | apply below_drew1)) hbel); clear hb hown hrd hbel) | (go_at_call 72; refine (impl_orderKey.calls k _ _ l2 q _ (Kd.C_below HR.out HB2.out) HC.out A5.out).mono ?_; rintro e w6 ⟨rfl, hb6⟩; have HO6 := Aside0.mk (md_kept HO.out (hb6.block b HO.out.lt)); have HB3 := Aside0.mk (below_step HB2.out hb6); clear hb6) | (at_lookup; refine wpList_lookup_own_int _ rfl _ _ 57 rfl 9 3 .i64 md_law Try.underlying57 Try.underlying3 (md_zero _) b m D rfl HO6.out _ _ rfl (Go.WideMaps.keyOf_string_mk Try.underlying9 HZ.out) ?_; intro c7 hat7 hwc7; have HE := Aside0.mk (show mdC n q0.data.toList K q.data.toList = c7 by have h_ := HRd.out.2.1 q.data.toList; rw [hat7] at h_; exact ((Lit.int.inj (DataW.lit.inj h_)).2).symm); clear hat7 hwc7))
          go_ret2
          exact ⟨by rw [HE.out]; rfl, HB3.out⟩
        · rw [if_neg hc] at h; cases h
      · rw [if_neg hl] at h
        simp only [Option.some.injEq, Prod.mk.injEq] at h
        obtain ⟨rfl, rfl⟩ := h
        have hlb : ((l2.length : Int) != a0) = true := bne_iff_ne.mpr hl
        go_enter Try.func40, Try.ntmps40
        go_wp2_with (first | (go_at_call 67; refine (impl_isTold.calls a0 a1 true _ A1.out).mono ?_; rintro e w' ⟨rfl, ⟨nd, rfl⟩⟩) | (go_at_call 71; refine (impl_isOrder.calls k _ _ l2 true _ (by repeat (first | exact HR.out | (with_reducible refine Kd.C_drewN ?_ _) | (with_reducible refine Kd.C_drew ?_))) HC.out A2'.out).mono ?_; rintro e w' ⟨rfl, ⟨nd2, rfl⟩⟩))
        go_ret2
        exact ⟨rfl, by repeat (first | exact HB0.out | apply pw_below_drewN | apply below_drew1)⟩

end Go.Proofs.Ytghogdffocnjnaa.Q
