/- Each function below comes to the Lean function beside it (theorems '.calls'); no condition beyond each theorem's own. Written by our program oprint.py over the kit's print. -/
import Derived.Test.YtdfikjchpfmbfaaQx0
import Derived.Test.YtdfikjchpfmbfaaQx9
import Derived.Ground.Names2Prog
import Derived.Ground.SlgnProg
import Derived.Shelf.Sort.Plain
import Derived.Sort.OwnSortedInts
import Derived.Shelf.Slices.Cells
namespace Go.Proofs.Ytdfikjchpfmbfaa.Q
open Go.RowKit Go.Proofs.YtdfikjchpfmbfaaW.PrintWords Go.Proofs.YtdfikjchpfmbfaaW.PrintLast Go.Proofs.YtdfikjchpfmbfaaW.PrintMore
attribute [local go_sem] max2_int min2_int max_two min_two max_three min_three max_four min_four   -- for this text's walks alone
set_option linter.unusedVariables false
set_option linter.unusedSimpArgs false

def sort_ren : Go.Shelf.Ren := ⟨fun | 189 => 20 | 125 => 29 | 257 => 28 | 128 => 42 | 129 => 43 | 294 => 33 | 295 => 34 | 296 => 35 | 297 => 36 | 298 => 37 | 299 => 38 | 216 => 39 | 300 => 40 | 301 => 41 | 328 => 44 | 329 => 45 | 330 => 46 | 331 => 47 | 332 => 48 | 215 => 49 | 343 => 50 | n => n, fun | 28 => 22 | 3 => 3 | 46 => 48 | 0 => 0 | 51 => 61 | 53 => 63 | 4 => 4 | 183 => 54 | 182 => 53 | 131 => 58 | 5 => 5 | 9 => 9 | 218 => 64 | 222 => 68 | 228 => 70 | 229 => 71 | n => n, fun | n => n⟩
theorem sort_lays : Go.Proofs.Lays.n189 Try.prog sort_ren := {
  mixed := by kernel_rfl
  f125 := Try.func29.trans (congrArg some (by kernel_rfl))
  f128 := Try.func42.trans (congrArg some (by kernel_rfl))
  f129 := Try.func43.trans (congrArg some (by kernel_rfl))
  f189 := Try.func20.trans (congrArg some (by kernel_rfl))
  f215 := Try.func49.trans (congrArg some (by kernel_rfl))
  f216 := Try.func39.trans (congrArg some (by kernel_rfl))
  f257 := Try.func28.trans (congrArg some (by kernel_rfl))
  f294 := Try.func33.trans (congrArg some (by kernel_rfl))
  f295 := Try.func34.trans (congrArg some (by kernel_rfl))
  f296 := Try.func35.trans (congrArg some (by kernel_rfl))
  f297 := Try.func36.trans (congrArg some (by kernel_rfl))
  f298 := Try.func37.trans (congrArg some (by kernel_rfl))
  f299 := Try.func38.trans (congrArg some (by kernel_rfl))
  f300 := Try.func40.trans (congrArg some (by kernel_rfl))
  f301 := Try.func41.trans (congrArg some (by kernel_rfl))
  f328 := Try.func44.trans (congrArg some (by kernel_rfl))
  f329 := Try.func45.trans (congrArg some (by kernel_rfl))
  f330 := Try.func46.trans (congrArg some (by kernel_rfl))
  f331 := Try.func47.trans (congrArg some (by kernel_rfl))
  f332 := Try.func48.trans (congrArg some (by kernel_rfl))
  f343 := Try.func50.trans (congrArg some (by kernel_rfl))
  t0 := Try.underlying0
  a0 := Try.isAgg0
  z0 := Try.sizeOf0
  v0 := Try.zeroValue0
  t3 := Try.underlying3
  a3 := Try.isAgg3
  z3 := Try.sizeOf3
  v3 := Try.zeroValue3
  t4 := Try.underlying4
  a4 := Try.isAgg4
  z4 := Try.sizeOf4
  v4 := Try.zeroValue4
  t5 := Try.underlying5
  a5 := Try.isAgg5
  z5 := Try.sizeOf5
  v5 := Try.zeroValue5
  t9 := Try.underlying9
  a9 := Try.isAgg9
  z9 := Try.sizeOf9
  v9 := Try.zeroValue9
  t28 := Try.underlying22
  a28 := Try.isAgg22
  z28 := Try.sizeOf22
  v28 := Try.zeroValue22
  t46 := Try.underlying48
  a46 := Try.isAgg48
  z46 := Try.sizeOf48
  v46 := Try.zeroValue48
  t51 := Try.underlying61
  a51 := Try.isAgg61
  z51 := Try.sizeOf61
  v51 := Try.zeroValue61
  t53 := Try.underlying63
  a53 := Try.isAgg63
  z53 := Try.sizeOf63
  v53 := Try.zeroValue63
  t131 := Try.underlying58
  a131 := Try.isAgg58
  z131 := Try.sizeOf58
  v131 := Try.zeroValue58
  t182 := Try.underlying53
  a182 := Try.isAgg53
  z182 := Try.sizeOf53
  v182 := Try.zeroValue53
  t183 := Try.underlying54
  a183 := Try.isAgg54
  z183 := Try.sizeOf54
  v183 := Try.zeroValue54
  t218 := Try.underlying64
  a218 := Try.isAgg64
  z218 := Try.sizeOf64
  v218 := Try.zeroValue64
  t222 := Try.underlying68
  a222 := Try.isAgg68
  z222 := Try.sizeOf68
  v222 := Try.zeroValue68
  t228 := Try.underlying70
  a228 := Try.isAgg70
  z228 := Try.sizeOf70
  v228 := Try.zeroValue70
  t229 := Try.underlying71
  a229 := Try.isAgg71
  z229 := Try.sizeOf71
  v229 := Try.zeroValue71 }
/-- A list, sorted. -/
def srtL (xs : List Int) : List Int := xs.mergeSort fun x y => decide (x ≤ y)
theorem srtL_length (xs : List Int) : (srtL xs).length = xs.length := by unfold srtL; exact List.length_mergeSort xs
theorem slices_Sort1 (W : World) (g cap : Nat) (xs : List Int) {base : Nat} {ok : Nat → Prop} (hv : Kd.R (Kd.int .i64) 3 W base ok (.slice (some ⟨g, 0, none⟩) xs.length cap) xs) (hx : 0 < xs.length) (hb : xs.length ≤ 1000) :
    Calls Try.prog 20 #[.slice (some ⟨g, 0, none⟩) xs.length cap] W fun e w' => e = .returned (.tuple #[]) ∧ Kd.C (Kd.int .i64) w' (some ⟨g, 0, none⟩) (srtL xs).length (srtL xs) ∧ Eff (fun k_ => k_ = g) W w' := by
  have hH : Go.Sort.Holds (Value.int .i64) W g 0 xs.toArray := by
    intro j hj
    have hj' : j < xs.length := by simpa using hj
    obtain ⟨hx, hf⟩ := Kd.R_celln 0 hv (j : Int) (by omega) (by omega)
    simp only [Int.toNat_natCast] at hx hf
    rw [Nat.zero_add]
    refine ⟨?_, hf⟩
    rw [hx]
    simp [rdOf, hj']
  have hg : g < W.heap.size := Kd.R_lt hv g rfl
  have h := Any.slices_Sort_int sort_lays g 0 cap xs W hH hg (by omega)
  have h2 : Calls Try.prog 20 #[.slice (some ⟨g, 0, none⟩) xs.length cap] W _ := h
  refine h2.mono ?_
  rintro e w' ⟨rfl, n, os, rfl⟩
  have hl : (srtL xs).toArray.size = xs.toArray.size := by simp [srtL_length]
  refine ⟨rfl, ?_, eff_grown (Eff.refl _ _) (grownBy_sortedI _) (fun k hk => .inl (by injection hk with hk; exact hk.symm))⟩
  have hh := Go.Sort.holds_grow (Value.int .i64) _ os g 0 (srtL xs).toArray (by simpa using hg) (Go.Sort.holds_putRow (Value.int .i64) (Go.Sort.ahead W n) g 0 xs.toArray (srtL xs).toArray (Go.Sort.holds_ahead _ _ _ _ _ _ hH) hl)
  refine Kd.C_of_reads (d := 0) ⟨rfl, by rw [srtL_length]; omega, fun h0 => ⟨_, rfl, fun j hj => ?_⟩⟩
  have := (hh j (by simpa using hj)).1
  rw [Nat.zero_add] at this
  have e1 : (Addr.add ⟨g, 0, none⟩ j : Addr) = ⟨g, j, none⟩ := add_plain g j
  rw [e1]
  refine Eq.trans this ?_
  simp [hj]

end Go.Proofs.Ytdfikjchpfmbfaa.Q
