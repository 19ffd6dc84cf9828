/- FnExactMeanInversions: whatever the arguments are, the law returns true, and each argument reads afterwards as before. No condition. -/
import Derived.Test.YtghogdffocnjnaaRows
import Derived.Test.YtghogdffocnjnaaClosed
import Derived.Test.YtghogdffocnjnaaQx40
import Derived.Test.YtghogdffocnjnaaPureFnExactMeanInversions
import Derived.WalkKit
import Derived.ProofKit
import Derived.OpenShut
import Derived.ShutString
import Derived.ChangeOld
import Derived.Below
import Derived.SizedLaws
import Derived.Carry
import Derived.Test.YtghogdffocnjnaaWSized
namespace Go.Proofs.Ytghogdffocnjnaa.fnExactMeanInversions
open Go.ChangeShapes Go.WideShapes Go.ChangeAt Go.RowKit
open Go.ChangeMaps (open_string shut_string)
set_option linter.unusedVariables false
set_option linter.unusedSimpArgs false
theorem j0 : (Rows.fnExactMeanInversionsRow.wf (OpenSpec.ofChange Rows.fnExactMeanInversionsSpec)) = true := by kernel_rfl
theorem j1 : (laidOutB Try.prog) = true := Closed.c1
theorem j2 : (mapsRowed Try.prog) = true := Closed.c2
theorem j3 : (Try.f13.params.all (Try.prog.readableRec ·)) = true := by kernel_rfl
theorem j4 : (namedTie Try.prog Rows.fnExactMeanInversionsRow.named Rows.fnExactMeanInversionsSpec.vars) = true := by kernel_rfl
theorem j5 : ((Rows.fnExactMeanInversionsRow.stops == [])) = true := Closed.c5
theorem j6 : ((Try.prog.stops == [])) = true := Closed.c6
theorem j7 : ((Rows.fnExactMeanInversionsRow.knobs == [])) = true := Closed.c7
theorem j8 : ((Try.prog.stopKnobs == [])) = true := Closed.c8
theorem j9 : ((Rows.fnExactMeanInversionsRow.inPlace == Try.prog.inPlace 13)) = true := by kernel_rfl
theorem j10 : ((Rows.fnExactMeanInversionsRow.unfollowed == Try.prog.unfollowed 13)) = true := by kernel_rfl
theorem j11 : ((Rows.fnExactMeanInversionsRow.recurses == Try.prog.recurses 13)) = true := by kernel_rfl
theorem j12 : ((Rows.fnExactMeanInversionsRow.named == Try.prog.varsNamed 13)) = true := by kernel_rfl
theorem j13 : ((Rows.fnExactMeanInversionsRow.maps == (Try.f13.params.toList ++ Rows.fnExactMeanInversionsSpec.plain.varTypes Try.prog).any (Try.prog.mapsRec ·))) = true := by kernel_rfl
theorem j14 : ((Rows.fnExactMeanInversionsRow.ifaces == (Try.f13.params.toList ++ Rows.fnExactMeanInversionsSpec.plain.varTypes Try.prog).any (Try.prog.ifacesRec ·))) = true := by kernel_rfl
theorem j15 : ((Rows.fnExactMeanInversionsRow.mapsOut == Try.prog.mapsAmong Try.f13.resultTypes.toList)) = true := by kernel_rfl
theorem j16 : ((Rows.fnExactMeanInversionsRow.loops == (Try.f13.params.toList ++ Rows.fnExactMeanInversionsSpec.plain.varTypes Try.prog).any (Try.prog.loopsFrom ·))) = true := by kernel_rfl
theorem j17 : ((Rows.fnExactMeanInversionsRow.wideKeys == (Try.f13.params.toList ++ Rows.fnExactMeanInversionsSpec.plain.varTypes Try.prog ++ Try.f13.resultTypes.toList).any (Try.prog.wideKeysFrom ·))) = true := by kernel_rfl
theorem j18 : (Rows.fnExactMeanInversionsSpec.vars.all (Try.prog.varReadable ·)) = true := by kernel_rfl
theorem j19 : (Try.f13.resultTypes.all (fun t => Try.prog.readableRec t && decide (t < Try.prog.types.size))) = true := by kernel_rfl
theorem j20 : ((Rows.fnExactMeanInversionsRow.ifacesOut == Try.f13.resultTypes.toList.any (Try.prog.ifacesRec ·))) = true := by kernel_rfl
theorem j21 : ((Rows.fnExactMeanInversionsRow.loopsOut == Try.f13.resultTypes.toList.any (Try.prog.loopsFrom ·))) = true := by kernel_rfl
theorem j22 : ((Rows.fnExactMeanInversionsRow.plainKeys == Try.prog.plainKeys)) = true := Closed.c22
theorem j23 : (Rows.fnExactMeanInversionsRow.shortTexts.isNone) = true := Closed.c23
theorem j24 : (Try.prog.stopsHeard) = true := Closed.c24
theorem j25 : (Try.prog.mayEnter) = true := Closed.c25
theorem j26 : ((Rows.fnExactMeanInversionsRow.lifted == Try.prog.liftsFinal)) = true := Closed.c26
theorem j27 : ((Try.prog.make == some Rows.fnExactMeanInversionsRow.make)) = true := Closed.c27
theorem j28 : ((Rows.fnExactMeanInversionsRow.kinds == (if Rows.fnExactMeanInversionsRow.domain.isEmpty then [] else Try.f13.params.toList.map fun t => match Try.prog.underlying t with | some (.int k) => some k | _ => none))) = true := by kernel_rfl
theorem j29 : ((Rows.fnExactMeanInversionsRow.pinned == Rows.fnExactMeanInversionsRow.pinnedBy)) = true := by kernel_rfl
theorem j30 : ((Rows.fnExactMeanInversionsRow.veiled == (Try.f13.params.toList ++ Rows.fnExactMeanInversionsSpec.plain.varTypes Try.prog ++ Try.f13.resultTypes.toList).any (Try.prog.veiledRec ·))) = true := by kernel_rfl
theorem j31 : (Rows.fnExactMeanInversionsRow.veiledFits Try.prog Try.f13.params.toList (Try.f13.params.toList ++ Rows.fnExactMeanInversionsSpec.plain.varTypes Try.prog ++ Try.f13.resultTypes.toList)) = true := by kernel_rfl
set_option maxRecDepth 100000 in
theorem closed : joinedFacts Try.prog 13 Try.f13 Rows.fnExactMeanInversionsSpec Rows.fnExactMeanInversionsRow = true := by
  unfold joinedFacts
  simp only [Bool.and_eq_true]
  exact ⟨⟨⟨⟨⟨⟨⟨⟨⟨⟨⟨⟨⟨⟨⟨⟨⟨⟨⟨⟨⟨⟨⟨⟨⟨⟨⟨⟨⟨⟨⟨j0, j1⟩, j2⟩, j3⟩, j4⟩, j5⟩, j6⟩, j7⟩, j8⟩, j9⟩, j10⟩, j11⟩, j12⟩, j13⟩, j14⟩, j15⟩, j16⟩, j17⟩, j18⟩, j19⟩, j20⟩, j21⟩, j22⟩, j23⟩, j24⟩, j25⟩, j26⟩, j27⟩, j28⟩, j29⟩, j30⟩, j31⟩
set_option maxRecDepth 100000 in
theorem lifted (os : Os) (started : os.Started) (H : Type) (enc : TypeId × Value → H) :
    ReturnsInHanded {} Try.checked os 13 .any (Rows.fnExactMeanInversionsSpec.pre6 enc Try.prog Try.f13 Rows.fnExactMeanInversionsRow.domain false) (Rows.fnExactMeanInversionsSpec.post enc Try.prog Try.f13 false true false false) := by
  refine returnsInHanded_of_change_sized (C := Try.checked) Closed.own started (by kernel_rfl) Try.func13
    (ChangeSpec.witness6 (enc := enc) (C := Try.checked) false ⟨#[], #[.int .i64 0, .int .i64 0], []⟩ 8 (by kernel_rfl) (by kernel_rfl) (by kernel_rfl) (by kernel_rfl)) ?_
  intro W base args ds gs before hval0 hW hcnd hsz0 _
  have hsz : (DataW.weightsEach Try.prog (Try.f13.params.toList ++ Rows.fnExactMeanInversionsSpec.plain.varTypes Try.prog) (ds ++ gs)).all (· ≤ reachBytes) = true := hsz0
  have hval : ∀ (j : Nat) t v, Try.f13.params[j]? = some t → args[j]? = some v → Value.okWide Try.prog W .any base t v := hval0
  have hW' := hW
  obtain ⟨p, q, hA0, hV, rfl, hfz, hnd⟩ := hW
  have hA : DataW.TrodAll enc Try.prog W 0 (fun _ => true) true Try.f13.params.toList args.toList ds p := hA0
  rw [Try.params13] at hA hval hsz
  obtain ⟨v0, vs0, d0, ds0, p0, q0, hargs, rfl, rfl, h0, r0⟩ := trodAll_cons hA
  obtain ⟨v1, vs1, d1, ds1, p1, q1, rfl, rfl, rfl, h1, r1⟩ := trodAll_cons r0
  obtain ⟨rfl, rfl, rfl⟩ := trodAll_nil r1
  obtain rfl : args = #[v0, v1] := by cases args; simp_all
  obtain ⟨rfl, rfl⟩ := trodVars_none hV
  obtain ⟨a0, rfl, rfl, rfl, w0⟩ := open_int Try.underlying3 (hval 0 3 v0 rfl rfl) h0
  obtain ⟨a1, rfl, rfl, rfl, w1⟩ := open_int Try.underlying3 (hval 1 3 v1 rfl rfl) h1
  clear hA0 hval0 hsz0 hsz
  have hp := Pure.FnExactMeanInversions a0 a1 w0 w1
  obtain ⟨k, hp⟩ := hp
  refine (Q.laws_FnExactMeanInversions.calls k a0 a1 true W  hp).mono fun e W' ⟨he, hd⟩ => ?_
  have bel : Below W.heap.size W W' := by first | exact hd | exact hd.below
  subst he
  exact ⟨_, rfl, _, _, _, [], _, [], hW', trodAll_mk1 (shut_bool Try.underlying4 _), (trodAll_cons_mk (shut_int Try.underlying3 w0) (trodAll_cons_mk (shut_int Try.underlying3 w1) trodAll_mk0)), rfl, bel.frame _, fun h => by cases h⟩
theorem named : Try.checked.prog.funcNamed Rows.fnExactMeanInversionsRow.func = some 13 := by kernel_rfl
theorem inst : Try.f13.isInstance Try.checked.prog Rows.fnExactMeanInversionsRow.origin Rows.fnExactMeanInversionsRow.targs := of_decide_eq_true (by kernel_rfl)
theorem wrap : Try.f13.isWrapper Try.checked.prog Rows.fnExactMeanInversionsRow.wrapper Rows.fnExactMeanInversionsRow.mainSum := by unfold Func.isWrapper; first | (rw [if_pos (by decide +kernel)]; kernel_rfl) | (rw [if_neg (by decide +kernel)]; exact ⟨rfl, rfl⟩)
theorem over : Rows.fnExactMeanInversionsRow.holds Try.pinned (OpenSpec.ofChange Rows.fnExactMeanInversionsSpec) :=
  OpenClaim.holds_of_wide 13 Try.f13 rfl rfl rfl rfl rfl rfl rfl ⟨rfl, rfl, rfl, rfl, rfl⟩ rfl rfl rfl rfl rfl named Try.func13 closed inst wrap
    (fun os started H enc _ => lifted os started H enc)
theorem proved : Rows.FnExactMeanInversionsSaid := over
#print axioms proved
end Go.Proofs.Ytghogdffocnjnaa.fnExactMeanInversions
namespace Go.Proofs.Ytghogdffocnjnaa
/-- The row, under a short name, for the claim. -/
theorem fnExactMeanInversions_holds : Rows.FnExactMeanInversionsSaid := fnExactMeanInversions.proved
end Go.Proofs.Ytghogdffocnjnaa
