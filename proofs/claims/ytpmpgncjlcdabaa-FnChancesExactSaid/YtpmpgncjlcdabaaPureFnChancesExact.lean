/- FnChancesExact: for all codes that fit into memory the law's plain form answers true: what is drawn is one of finitely many cases, each of them computed by the kernel. -/
import Derived.Test.YtpmpgncjlcdabaaLibDrawCh
import Derived.Test.YtpmpgncjlcdabaaLibBig
import Derived.Test.YtpmpgncjlcdabaaChkCh1
import Derived.Test.YtpmpgncjlcdabaaChkCh2
import Derived.Test.YtpmpgncjlcdabaaChkCh3
import Derived.Test.YtpmpgncjlcdabaaQx514
namespace Go.Proofs.Ytpmpgncjlcdabaa.L
open Go.RowKit Go.Proofs.Ytpmpgncjlcdabaa.Q Go.Proofs.YtpmpgncjlcdabaaW.PrintWords Go.Proofs.YtpmpgncjlcdabaaW.PrintLast
set_option linter.unusedVariables false
set_option linter.unusedSimpArgs false
/-- The law's second part, behind its draw. -/
def endsB (k : Nat) (n m c d : Int) : Option Bool := (impl_CountEnds.f k n m c d).bind fun bt334 => ((spec_CountEnds.f k n m c d).bind fun bt336 => ((impl_ChanceOf.f k n m c d).bind fun bt338 => ((spec_ChanceOf.f k n m c d).bind fun bt342 => (if (bt334.2 == bt336.2) = true then (if bt334.1 = bt336.1 then (if (bt338.2.2 == bt342.2.2) = true then (if (bt338.1 == bt342.1 && (bt338.2.1 == bt342.2.1)) = true then (some (bt338.2.2 == bt334.2)) else (none)) else (none)) else (none)) else (none)))))
def endsAll (ts : List (Int × Int)) : Bool := ts.all fun t => (List.range 7).all fun c => (List.range 7).all fun d => endsB 2000 t.1 t.2 ((c : Int) - 1) ((d : Int) - 1) == some true
theorem ends_low : endsAll low = true := by decide +kernel
theorem ends_0 : endsAll (row 0) = true := by decide +kernel
theorem ends_1 : endsAll (row 1) = true := by decide +kernel
theorem ends_2 : endsAll (row 2) = true := by decide +kernel
theorem ends_3 : endsAll (row 3) = true := by decide +kernel
theorem ends_4 : endsAll (row 4) = true := by decide +kernel
theorem fallL_mem {n k : Int} (h : (n, k) ∈ fallL 6) : (n, k) ∈ low ∨ ∃ i, i < 5 ∧ (n, k) ∈ row i := by
  unfold fallL at h
  rcases List.mem_append.1 h with h | h
  · exact Or.inl h
  · obtain ⟨i, hi, h⟩ := List.mem_flatMap.1 h
    exact Or.inr ⟨i, List.mem_range.1 hi, h⟩
theorem all_of {P : List (Int × Int) → Bool} (p : P low = true) (p0 : P (row 0) = true) (p1 : P (row 1) = true) (p2 : P (row 2) = true) (p3 : P (row 3) = true) (p4 : P (row 4) = true) {n k : Int} (h : (n, k) ∈ fallL 6) : ∃ ts, P ts = true ∧ (n, k) ∈ ts := by
  rcases fallL_mem h with h | ⟨i, hi, h⟩
  · exact ⟨low, p, h⟩
  · match i, hi with
    | 0, _ => exact ⟨_, p0, h⟩
    | 1, _ => exact ⟨_, p1, h⟩
    | 2, _ => exact ⟨_, p2, h⟩
    | 3, _ => exact ⟨_, p3, h⟩
    | 4, _ => exact ⟨_, p4, h⟩
theorem first_ok {n k c : Int} (h : (n, k) ∈ fallL 6) (hc : -1 ≤ c ∧ c ≤ 5) : ∃ m, 2001 ≤ m ∧ chk.f 4000 (n, k, c) = some m := by
  obtain ⟨ts, ht, hm⟩ := all_of chk_low chk_0 chk_1 chk_2 chk_3 chk_4 h
  have h1 := List.all_eq_true.1 (List.all_eq_true.1 ht _ hm) (c + 1).toNat (List.mem_range.2 (by omega))
  have e : (((c + 1).toNat : Nat) : Int) - 1 = c := by omega
  rw [e] at h1
  cases hq : chk.f 4000 (n, k, c) with
  | none => rw [hq] at h1; exact absurd h1 (by decide)
  | some m => rw [hq] at h1; exact ⟨m, of_decide_eq_true h1, rfl⟩
theorem second_ok {n k c d : Int} (h : (n, k) ∈ fallL 6) (hc : -1 ≤ c ∧ c ≤ 5) (hd : -1 ≤ d ∧ d ≤ 5) : endsB 2000 n k c d = some true := by
  obtain ⟨ts, ht, hm⟩ := all_of ends_low ends_0 ends_1 ends_2 ends_3 ends_4 h
  have h1 := List.all_eq_true.1 (List.all_eq_true.1 (List.all_eq_true.1 ht _ hm) (c + 1).toNat (List.mem_range.2 (by omega))) (d + 1).toNat (List.mem_range.2 (by omega))
  have e : (((c + 1).toNat : Nat) : Int) - 1 = c := by omega
  have e2 : (((d + 1).toNat : Nat) : Int) - 1 = d := by omega
  rw [e, e2] at h1
  exact eq_of_beq h1
theorem j6_ok {l : List Int} (hl : Code l) (m : Nat) (hm : 2001 ≤ m) : laws_FnChancesExact.j6 m l = some true := by
  obtain ⟨n, k, c, d, e, hk, hc, hd⟩ := countEnds_ok hl
  refine at_rounds (g := fun k => laws_FnChancesExact.j6 k l) (fun k => (laws_FnChancesExact.mono_l k).2.2.1 l) hm ?_
  show laws_FnChancesExact.j6 (2000 + 1) l = some true
  simp only [laws_FnChancesExact.j6]
  rw [e, Option.bind_some]
  exact second_ok hk hc hd
end Go.Proofs.Ytpmpgncjlcdabaa.L
namespace Go.Proofs.Ytpmpgncjlcdabaa.Pure
open Go.RowKit Go.Proofs.Ytpmpgncjlcdabaa.Q Go.Proofs.YtpmpgncjlcdabaaW.PrintWords Go.Proofs.YtpmpgncjlcdabaaW.PrintLast Go.Proofs.Ytpmpgncjlcdabaa.L
theorem FnChancesExact (l0 : List Int) (l1 : List Int) (hl0 : l0.length ≤ 9223372036854775807) (hw0 : ∀ x ∈ l0, (Lit.int .u8 x).wf = true) (hl1 : l1.length ≤ 9223372036854775807) (hw1 : ∀ x ∈ l1, (Lit.int .u8 x).wf = true) : ∃ k, laws_FnChancesExact.f k l0 l1 = some true := by
  rcases big_cases l0 l1 hl0 hl1 with hb | ⟨hb, g0, g1⟩
  · refine ⟨0, ?_⟩
    unfold laws_FnChancesExact.f
    rw [hb]; rfl
  · have c0 := code_of hw0 (by omega)
    have c1 := code_of hw1 (by omega)
    obtain ⟨n, k, c, e, hk, hc⟩ := chancesFrom_ok c0
    obtain ⟨m, hm, hq⟩ := first_ok hk hc
    refine ⟨4000, ?_⟩
    unfold laws_FnChancesExact.f
    rw [hb, Option.bind_some, if_neg (by decide), e, Option.bind_some]
    have h := chk_f l1 4000 (n, k, c) true
    rw [hq] at h
    exact h (j6_ok c1 m hm)
end Go.Proofs.Ytpmpgncjlcdabaa.Pure
