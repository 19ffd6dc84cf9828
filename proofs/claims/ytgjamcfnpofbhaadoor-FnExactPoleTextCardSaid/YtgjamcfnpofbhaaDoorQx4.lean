/- Each function below comes to the Lean function beside it (theorems '.calls'); no condition beyond each theorem's own. Written by our program oprint.py over the kit's print. -/
import Derived.Test.YtgjamcfnpofbhaaDoorQx0
import Derived.Shelf.Abstract
namespace Go.Proofs.YtgjamcfnpofbhaaDoor.Q
open Go.RowKit Go.Proofs.YtgjamcfnpofbhaaDoorW.PrintWords Go.Proofs.YtgjamcfnpofbhaaDoorW.PrintLast Go.Proofs.YtgjamcfnpofbhaaDoorW.PrintMore
attribute [local go_sem] max2_int min2_int max_two min_two max_three min_three max_four min_four   -- for this text's walks alone
set_option linter.unusedVariables false
set_option linter.unusedSimpArgs false

/-! ### slices_ContainsFunc_int_int: function 21 -/
-- GIVEN slices_ContainsFunc_int_int
/-- What is asked of a function value: a bool of whole numbers; it may draw. -/
def AsksInt (g : Nat) (lb : Array Value) (p : Int → Bool) (w : World) : Prop :=
  ∀ (x : Int) (q : Nat), Calls Tryd.prog g (#[.int .i64 x] ++ lb) (w.drewN q) fun e w' => e = .returned (.bool (p x)) ∧ Drawn0 (w.drewN q) w'
/-- x is not from 0 to m. -/
def offRange (m x : Int) : Bool := !decide (0 ≤ x ∧ x ≤ m)
theorem drawn0_trans {w : World} {q : Nat} {w' : World} (h : Drawn0 (w.drewN q) w') : Drawn0 w w' := by
  obtain ⟨n, rfl⟩ := h.out
  exact ⟨q + n, by rw [World.drewN_drewN]⟩
set_option maxHeartbeats 4000000 in
set_option maxRecDepth 100000 in
theorem slices_IndexFunc_int.calls (g : Nat) (lb : Array Value) (p : Int → Bool) (A0 : Option Addr) (c0 : Nat) (l0 : List Int) (w : World) (hr0 : Kd.C (Kd.int .i64) w A0 l0.length l0) (hc0 : l0.length ≤ c0)
    (eg : ∀ args w, (callFunc g args).run Tryd.prog w = .ok (.enter g args) w) (hp : AsksInt g lb p w) :
    Calls Tryd.prog 25 #[.slice A0 l0.length c0, .func (.func g) #[] lb] w fun e w' => (∃ r : Int, e = .returned (.int .i64 r) ∧ decide (0 ≤ r) = l0.any p) ∧ Drawn0 w w' := by
  have HR0 := Aside0.mk hr0
  have HC0 := Aside0.mk hc0
  have hbig : l0.length ≤ 9223372036854775807 := hr0.2.1
  have HP := Aside0.mk hp
  clear hr0 hc0 hp
  go_enter Tryd.func25, Tryd.ntmps25
  go_wp2
  go_loopg [5, 8] l0.length (fun gg _ s8 wr => ∃ kk : Nat, ∃ q : Nat, kk ≤ l0.length ∧ l0.length - kk ≤ gg ∧ s8 = .int .i64 kk ∧ wr = w.drewN q ∧ Aside0 ((l0.take kk).any p = false))
  case atStart => exact ⟨0, 0, Nat.zero_le _, by omega, rfl, rfl, ⟨by simp⟩⟩
  case round =>
    obtain ⟨kk, q, hkk, hg, rfl, rfl, A⟩ := hrel
    by_cases hlt : kk < l0.length
    · have hltz : (kk : Int) < (l0.length : Int) := by omega
      have h0k : (0 : Int) ≤ (kk : Int) := by omega
      obtain ⟨ad, ead, hx⟩ := Kd.at_int HR0.out (kk : Int) h0k hltz
      cases ead
      have hx' : w.cell? (ad.add kk) = some (.int .i64 l0[kk]) := by
        have e1 : ((kk : Int)).toNat = kk := by omega
        have e2 : rd l0 (kk : Int) = l0[kk] := by unfold rd; rw [e1, List.getD_eq_getElem?_getD, List.getElem?_eq_getElem hlt]; rfl
        rw [e1, e2] at hx
        exact hx
      clear hx
      have HT := Aside0.mk (show l0.take (kk + 1) = l0.take kk ++ [l0[kk]] from by rw [List.take_succ_eq_append_getElem hlt])
      generalize hy : l0[kk] = y at hx' HT
      have HY := Aside0.mk hy
      clear hy
      cases hq : p y with
      | true =>
        have hcall := HP.out y
        rw [hq] at hcall
        have HQ := Aside0.mk hq
        clear hq
        go_wp2_with (go_at_fn g; refine (hcall _).mono ?_; rintro e w' ⟨rfl, hd'⟩; obtain ⟨q', rfl⟩ := hd'.out; clear hd')
        go_ret
        refine ⟨⟨_, rfl, ?_⟩, ?_⟩
        · have : l0.any p = true := by
            rw [List.any_eq_true]
            exact ⟨y, by rw [← HY.out]; exact List.getElem_mem _, HQ.out⟩
          rw [this]
          exact decide_eq_true (by omega)
        · exact ⟨_, by first | rfl | exact World.drewN_drewN _ _ _⟩
      | false =>
        have hcall := HP.out y
        rw [hq] at hcall
        have HQ := Aside0.mk hq
        clear hq
        go_wp2_with (go_at_fn g; refine (hcall _).mono ?_; rintro e w' ⟨rfl, hd'⟩; obtain ⟨q', rfl⟩ := hd'.out; clear hd')
        go_roundg (l0.length - (kk + 1))
        case measure => omega
        case rel =>
          refine ⟨kk + 1, _, by omega, by omega, by go_num, by first | rfl | exact World.drewN_drewN _ _ _, ⟨?_⟩⟩
          rw [HT.out, List.any_append, A.out]
          simp [HQ.out]
    · have hltz : ¬ (kk : Int) < (l0.length : Int) := by omega
      have hk : kk = l0.length := by omega
      have HA := Aside0.mk (show l0.any p = false from by have := A.out; rw [hk, List.take_length] at this; exact this)
      clear A
      clear hk
      go_wp2
      go_ret
      refine ⟨⟨_, rfl, ?_⟩, ⟨q, rfl⟩⟩
      rw [HA.out]
      rfl
set_option maxHeartbeats 4000000 in
set_option maxRecDepth 100000 in
theorem slices_ContainsFunc_int.calls (g : Nat) (lb : Array Value) (p : Int → Bool) (A0 : Option Addr) (c0 : Nat) (l0 : List Int) (w : World) (hr0 : Kd.C (Kd.int .i64) w A0 l0.length l0) (hc0 : l0.length ≤ c0)
    (eg : ∀ args w, (callFunc g args).run Tryd.prog w = .ok (.enter g args) w) (hp : AsksInt g lb p w) :
    Calls Tryd.prog 21 #[.slice A0 l0.length c0, .func (.func g) #[] lb] w fun e w' => e = .returned (.bool (l0.any p)) ∧ Drawn0 w w' := by
  have hidx := slices_IndexFunc_int.calls g lb p A0 c0 l0 w hr0 hc0 eg hp
  clear hr0 hc0 hp
  go_enter Tryd.func21, Tryd.ntmps21
  go_wp2_with (go_at_call 25; refine hidx.mono ?_; rintro e w' ⟨⟨r, rfl, hrr⟩, hd⟩; obtain ⟨q, rfl⟩ := hd.out; clear hd; have HRR := Aside0.mk hrr; clear hrr)
  go_ret
  refine ⟨?_, ⟨q, rfl⟩⟩
  rw [← HRR.out]
  rfl

end Go.Proofs.YtgjamcfnpofbhaaDoor.Q
