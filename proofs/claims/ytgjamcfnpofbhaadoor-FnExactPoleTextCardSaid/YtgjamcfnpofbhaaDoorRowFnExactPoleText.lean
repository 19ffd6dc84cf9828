/- FnExactPoleText: whatever the arguments are, the law returns true, and each argument reads afterwards as before. No condition. -/
import Derived.Test.YtgjamcfnpofbhaaDoorTie
import Derived.Test.YtgjamcfnpofbhaaDoorCards
import Derived.LaidMore
import Derived.Stop.Joined
import Derived.SevenTiedAt
import Derived.Test.YtgjamcfnpofbhaaDoorClosed
import Derived.Test.YtgjamcfnpofbhaaDoorQx13
import Derived.Test.YtgjamcfnpofbhaaDoorPureFnExactPoleText
import Derived.WalkKit
import Derived.ProofKit
import Derived.OpenShut
import Derived.ShutString
import Derived.ChangeOld
import Derived.Below
import Derived.SizedLaws
import Derived.Carry
import Derived.Lib.SmallJoins
import Derived.Test.YtgjamcfnpofbhaaDoorWSized
namespace Go.Proofs.YtgjamcfnpofbhaaDoor.fnExactPoleText
open Go.ChangeShapes Go.WideShapes Go.ChangeAt Go.RowKit
open Go.ChangeMaps (open_string shut_string)
open Go.Joins
set_option linter.unusedVariables false
set_option linter.unusedSimpArgs false
theorem j0 : (Rows.fnExactPoleTextRow.wf (OpenSpec.ofChange Rows.fnExactPoleTextSpec)) = true := by kernel_rfl
theorem j1 : (laidOutB Tryd.prog) = true := Closed.c1
theorem j2 : (mapsRowed Tryd.prog) = true := Closed.c2
theorem j3 : (Tryd.f3.params.all (Tryd.prog.readableRec ·)) = true := by kernel_rfl
theorem j4 : (namedTie Tryd.prog Rows.fnExactPoleTextRow.named Rows.fnExactPoleTextSpec.vars) = true := by kernel_rfl
theorem j5 : ((Rows.fnExactPoleTextRow.stops == [])) = true := Closed.c5
theorem j6 : ((Tryd.prog.stops == [])) = true := Closed.c6
theorem j7 : ((Rows.fnExactPoleTextRow.knobs == [])) = true := Closed.c7
theorem j8 : ((Tryd.prog.stopKnobs == [])) = true := Closed.c8
theorem j9 : ((Rows.fnExactPoleTextRow.inPlace == Tryd.prog.inPlace 3)) = true := by kernel_rfl
theorem j10 : ((Rows.fnExactPoleTextRow.unfollowed == Tryd.prog.unfollowed 3)) = true := by kernel_rfl
theorem j11 : ((Rows.fnExactPoleTextRow.recurses == Tryd.prog.recurses 3)) = true := by kernel_rfl
theorem j12 : ((Rows.fnExactPoleTextRow.named == Tryd.prog.varsNamed 3)) = true := by kernel_rfl
theorem j13 : ((Rows.fnExactPoleTextRow.maps == (Tryd.f3.params.toList ++ Rows.fnExactPoleTextSpec.plain.varTypes Tryd.prog).any (Tryd.prog.mapsRec ·))) = true := by kernel_rfl
theorem j14 : ((Rows.fnExactPoleTextRow.ifaces == (Tryd.f3.params.toList ++ Rows.fnExactPoleTextSpec.plain.varTypes Tryd.prog).any (Tryd.prog.ifacesRec ·))) = true := by kernel_rfl
theorem j15 : ((Rows.fnExactPoleTextRow.mapsOut == Tryd.prog.mapsAmong Tryd.f3.resultTypes.toList)) = true := by kernel_rfl
theorem j16 : ((Rows.fnExactPoleTextRow.loops == (Tryd.f3.params.toList ++ Rows.fnExactPoleTextSpec.plain.varTypes Tryd.prog).any (Tryd.prog.loopsFrom ·))) = true := by kernel_rfl
theorem j17 : ((Rows.fnExactPoleTextRow.wideKeys == (Tryd.f3.params.toList ++ Rows.fnExactPoleTextSpec.plain.varTypes Tryd.prog ++ Tryd.f3.resultTypes.toList).any (Tryd.prog.wideKeysFrom ·))) = true := by kernel_rfl
theorem j18 : (Rows.fnExactPoleTextSpec.vars.all (Tryd.prog.varReadable ·)) = true := by kernel_rfl
theorem j19 : (Tryd.f3.resultTypes.all (fun t => Tryd.prog.readableRec t && decide (t < Tryd.prog.types.size))) = true := by kernel_rfl
theorem j20 : ((Rows.fnExactPoleTextRow.ifacesOut == Tryd.f3.resultTypes.toList.any (Tryd.prog.ifacesRec ·))) = true := by kernel_rfl
theorem j21 : ((Rows.fnExactPoleTextRow.loopsOut == Tryd.f3.resultTypes.toList.any (Tryd.prog.loopsFrom ·))) = true := by kernel_rfl
theorem j22 : ((Rows.fnExactPoleTextRow.plainKeys == Tryd.prog.plainKeys)) = true := Closed.c22
theorem j23 : (Rows.fnExactPoleTextRow.shortTexts.isNone) = true := Closed.c23
theorem j24 : (Tryd.prog.stopsHeard) = true := Closed.c24
theorem j25 : (Tryd.prog.mayEnter) = true := Closed.c25
theorem j26 : ((Rows.fnExactPoleTextRow.lifted == Tryd.prog.liftsFinal)) = true := Closed.c26
theorem j27 : ((Tryd.prog.make == some Rows.fnExactPoleTextRow.make)) = true := Closed.c27
theorem j28 : ((Rows.fnExactPoleTextRow.kinds == (if Rows.fnExactPoleTextRow.domain.isEmpty then [] else Tryd.f3.params.toList.map fun t => match Tryd.prog.underlying t with | some (.int k) => some k | _ => none))) = true := by kernel_rfl
theorem j29 : ((Rows.fnExactPoleTextRow.pinned == Rows.fnExactPoleTextRow.pinnedBy)) = true := by kernel_rfl
theorem j30 : ((Rows.fnExactPoleTextRow.veiled == (Tryd.f3.params.toList ++ Rows.fnExactPoleTextSpec.plain.varTypes Tryd.prog ++ Tryd.f3.resultTypes.toList).any (Tryd.prog.veiledRec ·))) = true := by kernel_rfl
theorem j31 : (Rows.fnExactPoleTextRow.veiledFits Tryd.prog Tryd.f3.params.toList (Tryd.f3.params.toList ++ Rows.fnExactPoleTextSpec.plain.varTypes Tryd.prog ++ Tryd.f3.resultTypes.toList)) = true := by kernel_rfl
set_option maxRecDepth 100000 in
theorem closed : joinedFacts Tryd.prog 3 Tryd.f3 Rows.fnExactPoleTextSpec Rows.fnExactPoleTextRow = true := by
  unfold joinedFacts
  simp only [Bool.and_eq_true]
  exact ⟨⟨⟨⟨⟨⟨⟨⟨⟨⟨⟨⟨⟨⟨⟨⟨⟨⟨⟨⟨⟨⟨⟨⟨⟨⟨⟨⟨⟨⟨⟨j0, j1⟩, j2⟩, j3⟩, j4⟩, j5⟩, j6⟩, j7⟩, j8⟩, j9⟩, j10⟩, j11⟩, j12⟩, j13⟩, j14⟩, j15⟩, j16⟩, j17⟩, j18⟩, j19⟩, j20⟩, j21⟩, j22⟩, j23⟩, j24⟩, j25⟩, j26⟩, j27⟩, j28⟩, j29⟩, j30⟩, j31⟩
/-- What is read of a slice of whole numbers. -/
def IsRow (k : IntKind) (w : World) (a : Option Addr) (len cap : Nat) (zs : List Int) : Prop :=
  (a = none ∧ len = 0 ∧ cap = 0 ∧ zs = []) ∨
  ∃ x, a = some x ∧ len ≤ cap ∧ cap ≤ maxLen ∧ zs.length = cap ∧ (∀ i, i < zs.length → w.cell? (x.add i) = some (.int k (zs.getD i 0))) ∧ ∀ n ∈ zs, (Lit.int k n).wf = true
/-- The heap that the door's own run leaves meets the condition: three closed facts. -/
theorem door_met (os : Os) (args : Array Value) : laidMetH Tryd.prog Rows.fnExactPoleTextRow.laid ((World.doorLaid Tryd.prog 24 os).forCall (fun _ _ => 0) ⟨#[], args, []⟩).memory :=
  laidMetH_of_parts3 (fuel := 8) (laidMet_of_run' 8 (by kernel_rfl) (by kernel_rfl)) (by kernel_rfl) (by kernel_rfl)
set_option maxRecDepth 100000 in
theorem lifted (os : Os) (started : os.Started) (H : Type) (enc : TypeId × Value → H) :
    ReturnsInHanded {} Tryd.checked os 3 .any (fun w args => (Rows.fnExactPoleTextSpec.pre enc Tryd.prog Tryd.f3 [] false w args ∧ laidMetH Tryd.prog Rows.fnExactPoleTextRow.laid w) ∧ sizedMet enc Tryd.prog Tryd.f3 (OpenSpec.ofChange Rows.fnExactPoleTextSpec) false w args) (Rows.fnExactPoleTextSpec.post enc Tryd.prog Tryd.f3 false true false false) := by
  refine returnsInHanded_of_change_and (C := Tryd.checked) (X := fun w _ => laidMetH Tryd.prog Rows.fnExactPoleTextRow.laid w) (fun _ _ _ hh h => h.of_heap hh) Closed.own started (by kernel_rfl) Tryd.func3
    (ChangeSpec.witness_shaped (enc := enc) (C := Tryd.checked) (os := os) (X := fun w _ => laidMetH Tryd.prog Rows.fnExactPoleTextRow.laid w) false (World.doorLaid Tryd.prog 24 os) #[.agg #[.int .i64 0, .slice none 0 0]] 8 rfl (World.shaped_of_RefB (by kernel_rfl) (by kernel_rfl)) (by kernel_rfl) (by kernel_rfl) (by kernel_rfl) (door_met os _)) ?_
  intro W base args ds gs before hval0 hW hcnd hsz0 _ _
  have hsz : (DataW.weightsEach Tryd.prog (Tryd.f3.params.toList ++ Rows.fnExactPoleTextSpec.plain.varTypes Tryd.prog) (ds ++ gs)).all (· ≤ reachBytes) = true := hsz0
  have hval : ∀ (j : Nat) t v, Tryd.f3.params[j]? = some t → args[j]? = some v → Value.okWide Tryd.prog W .any base t v := hval0
  have hW' := hW
  obtain ⟨p, q, hA0, hV, rfl, hfz, hnd⟩ := hW
  have hA : DataW.TrodAll enc Tryd.prog W 0 (fun _ => true) true Tryd.f3.params.toList args.toList ds p := hA0
  rw [Tryd.params3] at hA hval hsz
  obtain ⟨v0, vs0, d0, ds0, p0, q0, hargs, rfl, rfl, h0, r0⟩ := trodAll_cons hA
  obtain ⟨rfl, rfl, rfl⟩ := trodAll_nil r0
  obtain rfl : args = #[v0] := by cases args; simp_all
  obtain ⟨rfl, rfl⟩ := trodVars_none hV
  have k0 := h0
  have lt0 : ∀ x ∈ p0, x.block < W.heap.size := by obtain ⟨m, hm⟩ := k0; exact DataW.trod_lt m _ _ _ hm
  obtain ⟨c0_0, c0_1, y0_0, y0_1, m0, rfl, rfl, rfl, hy0_0, hy0_1⟩ := open_agg2 Tryd.underlying24 (by kernel_rfl) (show Tryd.prog.cellsOf 24 = 2 by kernel_rfl) (hval 0 24 v0 rfl rfl) h0
  obtain ⟨a0_0, e0_0, rfl, w0_0⟩ := DataW.trod_int Tryd.underlying3 hy0_0
  simp at e0_0
  subst e0_0
  obtain ⟨a0_1, len0_1, cap0_1, rfl, z0_1, w0_1⟩ : ∃ a len cap, c0_1 = .slice a len cap ∧ ∃ zs, IsRow .i64 W a len cap zs := by
    rcases open_ints Tryd.underlying22 Tryd.underlying3 (by kernel_rfl) hy0_1 with ⟨hcs, _⟩ | ⟨x, l, c, zs, hcs, _, hl, hm, hz, _, hcell, hwz⟩
    · exact ⟨none, 0, 0, by simpa using hcs, [], .inl ⟨rfl, rfl, rfl, rfl⟩⟩
    · exact ⟨_, l, c, by simpa using hcs, zs, .inr ⟨_, rfl, hl, hm, by simpa using hz, hcell, hwz⟩⟩
  clear hA0 hval0 hsz0 hsz
  obtain ⟨L0_1, eL0_1, hC0_1, hc0_1, wL0_1⟩ : ∃ l : List Int, l.length = len0_1 ∧ Go.Proofs.YtgjamcfnpofbhaaDoorW.PrintWords.Kd.C (Go.Proofs.YtgjamcfnpofbhaaDoorW.PrintWords.Kd.int .i64) W a0_1 l.length l ∧ l.length ≤ cap0_1 ∧ ∀ x ∈ l, (Lit.int .i64 x).wf = true := by
    rcases w0_1 with ⟨rfl, rfl, rfl, rfl⟩ | ⟨x, rfl, hl, hm, hz, hcell, hwz⟩
    · exact ⟨[], rfl, Go.Proofs.YtgjamcfnpofbhaaDoorW.PrintWords.Kd.C_nil _ _, Nat.le_refl _, by simp⟩
    · refine ⟨z0_1.take len0_1, by rw [List.length_take]; omega, ?_, by rw [List.length_take]; omega, fun x hx => hwz x (List.mem_of_mem_take hx)⟩
      refine ⟨rfl, by unfold maxLen at hm; rw [List.length_take]; omega, fun _ => ⟨x, rfl, fun j p hj => ⟨[.int .i64 p], rfl, rfl, fun i u hu => ?_⟩⟩⟩
      have hi : i = 0 := by have := (List.getElem?_eq_some_iff.1 hu).1; simpa using this
      subst hi
      have hu' : u = .int .i64 p := by simpa using hu.symm
      subst hu'
      have hjl := (List.getElem?_eq_some_iff.1 hj).1
      rw [List.length_take] at hjl
      have e := hcell j (by omega)
      rw [List.getElem?_take] at hj
      rw [if_pos (by omega)] at hj
      have hg : z0_1.getD j 0 = p := by rw [List.getD_eq_getElem?_getD, hj]; rfl
      rw [hg] at e
      show W.cell? (x.add (j * 1 + 0)) = _
      rw [Nat.mul_one, Nat.add_zero]
      exact e
  subst eL0_1
  have hp := Pure.FnExactPoleText a0_0 L0_1 w0_0 (by have := hC0_1.2.1; omega) wL0_1
  obtain ⟨k, hp⟩ := hp
  refine (Q.laws_FnExactPoleText.calls k a0_0 _ _ L0_1 true W hC0_1 hc0_1 hp).mono fun e W' ⟨he, hd⟩ => ?_
  have bel : Below W.heap.size W W' := by first | exact hd | exact hd.below
  subst he
  exact ⟨_, rfl, _, _, _, [], _, [], hW', trodAll_mk1 (shut_bool Tryd.underlying4 _), (trodAll_cons_mk (Below.trod Closed.laidOut (by kernel_rfl) (of_decide_eq_true (by kernel_rfl)) k0 bel lt0) trodAll_mk0), rfl, bel.frame _, fun h => by cases h⟩
theorem named : Tryd.checked.prog.funcNamed Rows.fnExactPoleTextRow.func = some 3 := by kernel_rfl
theorem inst : Tryd.f3.isInstance Tryd.checked.prog Rows.fnExactPoleTextRow.origin Rows.fnExactPoleTextRow.targs := of_decide_eq_true (by kernel_rfl)
theorem wrap : Tryd.f3.isWrapper Tryd.checked.prog Rows.fnExactPoleTextRow.wrapper Rows.fnExactPoleTextRow.mainSum := by unfold Func.isWrapper; first | (rw [if_pos (by decide +kernel)]; kernel_rfl) | (rw [if_neg (by decide +kernel)]; exact ⟨rfl, rfl⟩)
theorem over : Rows.fnExactPoleTextRow.holds Tryd.pinned (OpenSpec.ofChange Rows.fnExactPoleTextSpec) :=
  OpenClaim.holds_of_wide 3 Tryd.f3 rfl rfl rfl rfl rfl rfl rfl ⟨rfl, rfl, rfl, rfl, rfl⟩ rfl rfl rfl rfl rfl named Tryd.func3 closed inst wrap
    (fun os started H enc _ => lifted os started H enc)
theorem proved : Rows.FnExactPoleTextSaid := over
#print axioms proved
end Go.Proofs.YtgjamcfnpofbhaaDoor.fnExactPoleText
namespace Go.Proofs.YtgjamcfnpofbhaaDoor
/-- The row, under a short name, for the claim. -/
theorem fnExactPoleText_holds : Rows.FnExactPoleTextSaid := fnExactPoleText.proved
theorem fnExactPoleTextCard_holds : Rows.FnExactPoleTextCardSaid :=
  Claim7.holds_tied_plain_at .later [] [.data, .data, .data] true (true, "63b83167934802fd0ad998f70331fb359ace81da629791a5f3eb7d0a390bda37") false
    fnExactPoleText_holds (fun _ h => by cases h) (by kernel_rfl) (fun _ h => by cases h) fnExactPoleText_row_tie rfl ⟨rfl, rfl⟩ (by kernel_rfl) rfl
    (fun f fn hf hfn => by
      obtain rfl : f = 3 := Option.some.inj ((show Tryd.prog.funcNamed "loop.example/g01209/laws.FnExactPoleText" = some 3 by kernel_rfl).symm.trans hf) |>.symm
      obtain rfl : fn = Tryd.f3 := (Option.some.inj (Tryd.func3.symm.trans hfn)).symm
      exact ⟨by kernel_rfl, fun j t ht => by
        rw [Tryd.params3] at ht
        have hm : t ∈ [24] := by simpa using Array.mem_of_getElem? ht
        have hall : ([24].all fun u => !Tryd.prog.wantsStandIn u) = true := by kernel_rfl
        exact (show Tryd.prog.wantsStandIn t = false by simpa using List.all_eq_true.1 hall t hm)⟩)
    (by kernel_rfl)
#print axioms fnExactPoleTextCard_holds
end Go.Proofs.YtgjamcfnpofbhaaDoor
