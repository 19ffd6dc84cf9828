/- Each function below comes to the Lean function beside it (theorems '.calls'); no condition beyond each theorem's own. Written by our program oprint.py over the kit's print. -/
import Derived.Test.YtghogdffocnjnaaQx0
import Derived.Test.YtghogdffocnjnaaQx29
import Derived.Test.YtghogdffocnjnaaQx49
import Derived.Shelf.Slices.Delete
import Derived.Shelf.Slices.Cells
import Derived.Ground.Names2Prog
namespace Go.Proofs.Ytghogdffocnjnaa.Q
open Go.RowKit Go.Proofs.YtghogdffocnjnaaW.PrintWords Go.Proofs.YtghogdffocnjnaaW.PrintLast Go.Proofs.YtghogdffocnjnaaW.PrintMore
attribute [local go_sem] max2_int min2_int max_two min_two max_three min_three max_four min_four   -- for this text's walks alone
set_option linter.unusedVariables false
set_option linter.unusedSimpArgs false

/-! slices.Delete of one element of a row of the call's own, by the library's contract; and impl.without -/
def delete_ren : Go.Shelf.Ren := ⟨fun | 23 => 90 | n => n, fun | 22 => 41 | 3 => 3 | 4 => 4 | 0 => 0 | n => n, fun | n => n⟩
theorem delete_lays : Go.Proofs.Lays2.n23 Try.prog delete_ren := {
  mixed := by kernel_rfl
  f23 := Try.func90.trans (congrArg some (by kernel_rfl))
  t0 := Try.underlying0
  a0 := Try.isAgg0
  z0 := Try.sizeOf0
  v0 := Try.zeroValue0
  t3 := Try.underlying3
  a3 := Try.isAgg3
  z3 := Try.sizeOf3
  v3 := Try.zeroValue3
  t4 := Try.underlying4
  a4 := Try.isAgg4
  z4 := Try.sizeOf4
  v4 := Try.zeroValue4
  t22 := Try.underlying41
  a22 := Try.isAgg41
  z22 := Try.sizeOf41
  v22 := Try.zeroValue41
  i3 := by kernel_rfl }
/-- A list laid over another one from o on. -/
def overL : List Int → Nat → List Int → List Int
  | xs, _, [] => xs
  | xs, o, v :: vs => overL (xs.set o v) (o + 1) vs
theorem overL_length : ∀ (vs xs : List Int) (o : Nat), (overL xs o vs).length = xs.length
  | [], xs, o => rfl
  | v :: vs, xs, o => by rw [overL, overL_length vs, List.length_set]
theorem overL_get : ∀ (vs xs : List Int) (o j : Nat), o + vs.length ≤ xs.length → (overL xs o vs)[j]? = if o ≤ j ∧ j < o + vs.length then vs[j - o]? else xs[j]?
  | [], xs, o, j, h => by
    rw [if_neg (by simp only [List.length_nil]; omega)]
    rfl
  | v :: vs, xs, o, j, h => by
    simp only [List.length_cons] at h
    rw [overL, overL_get vs (xs.set o v) (o + 1) j (by rw [List.length_set]; omega), List.getElem?_set]
    simp only [List.length_cons]
    by_cases h1 : o + 1 ≤ j ∧ j < o + 1 + vs.length
    · rw [if_pos h1, if_pos (by omega), show j - o = (j - (o + 1)) + 1 from by omega, List.getElem?_cons_succ]
    · rw [if_neg h1]
      by_cases h2 : o = j
      · subst h2
        rw [if_pos rfl, if_pos (by omega), if_pos (by omega), Nat.sub_self, List.getElem?_cons_zero]
      · rw [if_neg h2, if_neg (by omega)]
theorem overL_all (vs xs : List Int) (h : vs.length = xs.length) : overL xs 0 vs = vs := by
  apply List.ext_getElem?
  intro j
  rw [overL_get vs xs 0 j (by omega)]
  by_cases h1 : j < vs.length
  · rw [if_pos (by omega), Nat.sub_zero]
  · rw [if_neg (by omega), List.getElem?_eq_none (by omega), List.getElem?_eq_none (by omega)]
theorem R_setCells {W : World} {base g n cap : Nat} {ok : Nat → Prop} : ∀ (vs xs : List Int) (o : Nat) (W : World), Kd.R (Kd.int .i64) 3 W base ok (.slice (some ⟨g, 0, none⟩) n cap) xs → Kd.R (Kd.int .i64) 3 (W.setCells g o (vs.map (Value.int .i64))) base ok (.slice (some ⟨g, 0, none⟩) n cap) (overL xs o vs)
  | [], xs, o, W, h => h
  | v :: vs, xs, o, W, h => R_setCells (W := W) vs (xs.set o v) (o + 1) (W.setCell ⟨g, o, none⟩ (.int .i64 v)) (by
    have := (Kd.R_putg (enc := Value.int .i64) h (o : Int) v).1
    simp only [Int.toNat_natCast] at this
    exact this)
theorem slices_Delete1 (W : World) (v : Value) (xs : List Int) (i : Nat) {base : Nat} {ok : Nat → Prop} (hv : Kd.R (Kd.int .i64) 3 W base ok v xs) (hi : i < xs.length) :
    Calls Try.prog 90 #[v, .int .i64 (i : Int), .int .i64 ((i : Int) + 1)] W fun e w' => ∃ v1 : Value, e = .returned v1 ∧ Kd.R (Kd.int .i64) 3 w' base ok v1 (xs.take i ++ xs.drop (i + 1)) ∧ Eff (fun k_ => v.ownBlock = some k_) W w' := by
  obtain ⟨g, cap, rfl, gb, gl, cl, hg⟩ := Kd.R_form hv (by omega)
  have hrd := (Kd.R_reads' hv).2
  have hcap : cap ≤ 9223372036854775807 := by
    obtain ⟨inner, ho⟩ := Kd.R_own hv
    rcases ho.2 with ⟨h, _⟩ | ⟨g2, cap2, cur, h, _, _, _, h5, _⟩
    · cases h
    · injection h with _ _ h
      subst h
      unfold maxLen at h5
      omega
  have hcell : ∀ j, j < xs.length → W.cell? ⟨g, 0 + j, none⟩ = some (.int .i64 (xs.getD j 0)) ∧ W.frozen? ⟨g, 0 + j, none⟩ = false := by
    intro j hj
    obtain ⟨hx, hf⟩ := Kd.R_celln 0 hv (j : Int) (by omega) (by omega)
    rw [Nat.zero_add]
    simp only [Int.toNat_natCast] at hx hf
    exact ⟨hx, hf⟩
  have h := Any.slices_Delete_int_cells delete_lays g 0 xs.length cap i (i + 1) xs W (Nat.le_refl _) hrd.1 hcap (by omega) (by omega) (fun j hj => (hcell j hj).1) (fun j hj => (hcell j hj).2)
  have h2 : Calls Try.prog 90 #[.slice (some ⟨g, 0, none⟩) xs.length cap, .int .i64 (i : Int), .int .i64 ((i : Int) + 1)] W _ := h
  refine h2.mono ?_
  rintro e w' ⟨rfl, q, rfl⟩
  have hl : (xs.take i ++ xs.drop (i + 1) ++ List.replicate 1 0).length = xs.length := by simp; omega
  have hr := R_setCells (W := W) (xs.take i ++ xs.drop (i + 1) ++ List.replicate 1 0) xs 0 (W.drewN q) (Kd.R_drewN hv q)
  rw [overL_all _ _ hl] at hr
  have hr2 := Kd.R_take hr (m := xs.length - 1) (by omega)
  refine ⟨_, rfl, ?_, ?_⟩
  · have e1 : (xs.take i ++ xs.drop (i + 1) ++ List.replicate 1 0).take (xs.length - 1) = xs.take i ++ xs.drop (i + 1) := by
      rw [List.take_append_of_le_length (by simp; omega), List.take_of_length_le (by simp; omega)]
    rw [e1] at hr2
    have e2 : xs.length - (i + 1 - i) = xs.length - 1 := by omega
    rw [e2]
    simpa [List.take_length] using hr2
  · refine ⟨?_, ?_⟩
    · have hs := setCells_same g ((((xs.take xs.length).take i ++ (xs.take xs.length).drop (i + 1) ++ List.replicate (i + 1 - i) 0)).map (Value.int .i64)) 0 (W.drewN q)
      exact ⟨hs.1, hs.2.1, hs.2.2.1, Nat.le_of_eq hs.2.2.2.symm, fun k hk => by omega⟩
    · have hs := setCells_same g ((((xs.take xs.length).take i ++ (xs.take xs.length).drop (i + 1) ++ List.replicate (i + 1 - i) 0)).map (Value.int .i64)) 0 (W.drewN q)
      refine ⟨Nat.le_of_eq hs.2.2.2.symm, fun k hk hne => setCells_far _ 0 k (fun e => hne ?_)⟩
      rw [e]
      rfl
def impl_without.f (l : List Int) (i : Int) : Option (List Int) := if 0 ≤ i ∧ i < (l.length : Int) ∧ l.length ≤ 1000 then some (l.take i.toNat ++ l.drop (i.toNat + 1)) else none
set_option maxHeartbeats 8000000 in
set_option maxRecDepth 100000 in
theorem impl_without.calls (A0 : Option Addr) (c0 : Nat) (l0 : List Int) (a1 : Int) (r : List Int) (w : World) (hr0 : Kd.C (Kd.int .i64) w A0 l0.length l0) (hc0 : l0.length ≤ c0) (h : impl_without.f l0 a1 = some r) :
    Calls Try.prog 88 #[.slice A0 l0.length c0, .int .i64 a1] w fun e w' => ∃ v0_ : Value, e = .returned (v0_) ∧ Kd.R (Kd.int .i64) 3 w' w.heap.size (fun _ => True) v0_ r ∧ Below w.heap.size w w' := by
  unfold impl_without.f at h
  by_cases hn : 0 ≤ a1 ∧ a1 < (l0.length : Int) ∧ l0.length ≤ 1000
  · rw [if_pos hn] at h
    obtain ⟨i, rfl⟩ : ∃ i : Nat, a1 = (i : Int) := ⟨a1.toNat, by omega⟩
    have HI := Aside0.mk (show i < l0.length from by omega)
    have hb1 : (0 : Int) ≤ (i : Int) := by omega
    have hb2 : (i : Int) ≤ 1000 := by omega
    have HR := Aside0.mk hr0
    have HC := Aside0.mk hc0
    have HCL := Aside0.mk (show slices_Clone_int_int.f l0 = some l0 from by unfold slices_Clone_int_int.f; rw [if_pos (by omega)])
    have HE := Aside0.mk (show r = l0.take i ++ l0.drop (i + 1) from by have := Option.some.inj h; rw [← this]; rfl)
    clear hr0 hc0 h hn
    go_enter Try.func88, Try.ntmps88
    go_wp2_with (first | (go_at_call 87; refine (slices_Clone_int_int.calls _ _ l0 l0 _ HR.out HC.out HCL.out).mono ?_; rintro e w5 ⟨v5, rfl, ho5, hb5⟩; have HO := Aside0.mk ho5; have HB := Aside0.mk hb5; clear ho5 hb5) | (go_at_call 90; refine (slices_Delete1 w5 v5 l0 i HO.out HI.out).mono ?_; rintro e w6 ⟨v6, rfl, ho6, he6⟩; have HO6 := Aside0.mk ho6; have HE6 := Aside0.mk he6; clear ho6 he6))
    go_ret
    exact ⟨_, rfl, by rw [HE.out]; exact HO6.out, eff_below HB.out HE6.out (fun k_ h_ => ((Kd.R_bound HO.out).1 k_ h_).2.1)⟩
  · rw [if_neg hn] at h
    cases h

end Go.Proofs.Ytghogdffocnjnaa.Q
