/- FnExactMeanMeetings: whatever the arguments are, the law returns true, and each argument reads afterwards as before. No condition. -/
import Derived.Test.YtghogdffocnjnaaRows
import Derived.Test.YtghogdffocnjnaaClosed
import Derived.Test.YtghogdffocnjnaaQx38
import Derived.Test.YtghogdffocnjnaaPureFnExactMeanMeetings
import Derived.WalkKit
import Derived.ProofKit
import Derived.OpenShut
import Derived.ShutString
import Derived.ChangeOld
import Derived.Below
import Derived.SizedLaws
import Derived.Carry
import Derived.Test.YtghogdffocnjnaaWSized
namespace Go.Proofs.Ytghogdffocnjnaa.fnExactMeanMeetings
open Go.ChangeShapes Go.WideShapes Go.ChangeAt Go.RowKit
open Go.ChangeMaps (open_string shut_string)
set_option linter.unusedVariables false
set_option linter.unusedSimpArgs false
theorem j0 : (Rows.fnExactMeanMeetingsRow.wf (OpenSpec.ofChange Rows.fnExactMeanMeetingsSpec)) = true := by kernel_rfl
theorem j1 : (laidOutB Try.prog) = true := Closed.c1
theorem j2 : (mapsRowed Try.prog) = true := Closed.c2
theorem j3 : (Try.f8.params.all (Try.prog.readableRec ·)) = true := by kernel_rfl
theorem j4 : (namedTie Try.prog Rows.fnExactMeanMeetingsRow.named Rows.fnExactMeanMeetingsSpec.vars) = true := by kernel_rfl
theorem j5 : ((Rows.fnExactMeanMeetingsRow.stops == [])) = true := Closed.c5
theorem j6 : ((Try.prog.stops == [])) = true := Closed.c6
theorem j7 : ((Rows.fnExactMeanMeetingsRow.knobs == [])) = true := Closed.c7
theorem j8 : ((Try.prog.stopKnobs == [])) = true := Closed.c8
theorem j9 : ((Rows.fnExactMeanMeetingsRow.inPlace == Try.prog.inPlace 8)) = true := by kernel_rfl
theorem j10 : ((Rows.fnExactMeanMeetingsRow.unfollowed == Try.prog.unfollowed 8)) = true := by kernel_rfl
theorem j11 : ((Rows.fnExactMeanMeetingsRow.recurses == Try.prog.recurses 8)) = true := by kernel_rfl
theorem j12 : ((Rows.fnExactMeanMeetingsRow.named == Try.prog.varsNamed 8)) = true := by kernel_rfl
theorem j13 : ((Rows.fnExactMeanMeetingsRow.maps == (Try.f8.params.toList ++ Rows.fnExactMeanMeetingsSpec.plain.varTypes Try.prog).any (Try.prog.mapsRec ·))) = true := by kernel_rfl
theorem j14 : ((Rows.fnExactMeanMeetingsRow.ifaces == (Try.f8.params.toList ++ Rows.fnExactMeanMeetingsSpec.plain.varTypes Try.prog).any (Try.prog.ifacesRec ·))) = true := by kernel_rfl
theorem j15 : ((Rows.fnExactMeanMeetingsRow.mapsOut == Try.prog.mapsAmong Try.f8.resultTypes.toList)) = true := by kernel_rfl
theorem j16 : ((Rows.fnExactMeanMeetingsRow.loops == (Try.f8.params.toList ++ Rows.fnExactMeanMeetingsSpec.plain.varTypes Try.prog).any (Try.prog.loopsFrom ·))) = true := by kernel_rfl
theorem j17 : ((Rows.fnExactMeanMeetingsRow.wideKeys == (Try.f8.params.toList ++ Rows.fnExactMeanMeetingsSpec.plain.varTypes Try.prog ++ Try.f8.resultTypes.toList).any (Try.prog.wideKeysFrom ·))) = true := by kernel_rfl
theorem j18 : (Rows.fnExactMeanMeetingsSpec.vars.all (Try.prog.varReadable ·)) = true := by kernel_rfl
theorem j19 : (Try.f8.resultTypes.all (fun t => Try.prog.readableRec t && decide (t < Try.prog.types.size))) = true := by kernel_rfl
theorem j20 : ((Rows.fnExactMeanMeetingsRow.ifacesOut == Try.f8.resultTypes.toList.any (Try.prog.ifacesRec ·))) = true := by kernel_rfl
theorem j21 : ((Rows.fnExactMeanMeetingsRow.loopsOut == Try.f8.resultTypes.toList.any (Try.prog.loopsFrom ·))) = true := by kernel_rfl
theorem j22 : ((Rows.fnExactMeanMeetingsRow.plainKeys == Try.prog.plainKeys)) = true := Closed.c22
theorem j23 : (Rows.fnExactMeanMeetingsRow.shortTexts.isNone) = true := Closed.c23
theorem j24 : (Try.prog.stopsHeard) = true := Closed.c24
theorem j25 : (Try.prog.mayEnter) = true := Closed.c25
theorem j26 : ((Rows.fnExactMeanMeetingsRow.lifted == Try.prog.liftsFinal)) = true := Closed.c26
theorem j27 : ((Try.prog.make == some Rows.fnExactMeanMeetingsRow.make)) = true := Closed.c27
theorem j28 : ((Rows.fnExactMeanMeetingsRow.kinds == (if Rows.fnExactMeanMeetingsRow.domain.isEmpty then [] else Try.f8.params.toList.map fun t => match Try.prog.underlying t with | some (.int k) => some k | _ => none))) = true := by kernel_rfl
theorem j29 : ((Rows.fnExactMeanMeetingsRow.pinned == Rows.fnExactMeanMeetingsRow.pinnedBy)) = true := by kernel_rfl
theorem j30 : ((Rows.fnExactMeanMeetingsRow.veiled == (Try.f8.params.toList ++ Rows.fnExactMeanMeetingsSpec.plain.varTypes Try.prog ++ Try.f8.resultTypes.toList).any (Try.prog.veiledRec ·))) = true := by kernel_rfl
theorem j31 : (Rows.fnExactMeanMeetingsRow.veiledFits Try.prog Try.f8.params.toList (Try.f8.params.toList ++ Rows.fnExactMeanMeetingsSpec.plain.varTypes Try.prog ++ Try.f8.resultTypes.toList)) = true := by kernel_rfl
set_option maxRecDepth 100000 in
theorem closed : joinedFacts Try.prog 8 Try.f8 Rows.fnExactMeanMeetingsSpec Rows.fnExactMeanMeetingsRow = true := by
  unfold joinedFacts
  simp only [Bool.and_eq_true]
  exact ⟨⟨⟨⟨⟨⟨⟨⟨⟨⟨⟨⟨⟨⟨⟨⟨⟨⟨⟨⟨⟨⟨⟨⟨⟨⟨⟨⟨⟨⟨⟨j0, j1⟩, j2⟩, j3⟩, j4⟩, j5⟩, j6⟩, j7⟩, j8⟩, j9⟩, j10⟩, j11⟩, j12⟩, j13⟩, j14⟩, j15⟩, j16⟩, j17⟩, j18⟩, j19⟩, j20⟩, j21⟩, j22⟩, j23⟩, j24⟩, j25⟩, j26⟩, j27⟩, j28⟩, j29⟩, j30⟩, j31⟩
set_option maxRecDepth 100000 in
theorem lifted (os : Os) (started : os.Started) (H : Type) (enc : TypeId × Value → H) :
    ReturnsInHanded {} Try.checked os 8 .any (Rows.fnExactMeanMeetingsSpec.pre6 enc Try.prog Try.f8 Rows.fnExactMeanMeetingsRow.domain false) (Rows.fnExactMeanMeetingsSpec.post enc Try.prog Try.f8 false true false false) := by
  refine returnsInHanded_of_change_sized (C := Try.checked) Closed.own started (by kernel_rfl) Try.func8
    (ChangeSpec.witness6 (enc := enc) (C := Try.checked) false ⟨#[], #[.int .i64 0, .int .i64 0, .int .i64 0, .int .i64 0], []⟩ 8 (by kernel_rfl) (by kernel_rfl) (by kernel_rfl) (by kernel_rfl)) ?_
  intro W base args ds gs before hval0 hW hcnd hsz0 _
  have hsz : (DataW.weightsEach Try.prog (Try.f8.params.toList ++ Rows.fnExactMeanMeetingsSpec.plain.varTypes Try.prog) (ds ++ gs)).all (· ≤ reachBytes) = true := hsz0
  have hval : ∀ (j : Nat) t v, Try.f8.params[j]? = some t → args[j]? = some v → Value.okWide Try.prog W .any base t v := hval0
  have hW' := hW
  obtain ⟨p, q, hA0, hV, rfl, hfz, hnd⟩ := hW
  have hA : DataW.TrodAll enc Try.prog W 0 (fun _ => true) true Try.f8.params.toList args.toList ds p := hA0
  rw [Try.params8] at hA hval hsz
  obtain ⟨v0, vs0, d0, ds0, p0, q0, hargs, rfl, rfl, h0, r0⟩ := trodAll_cons hA
  obtain ⟨v1, vs1, d1, ds1, p1, q1, rfl, rfl, rfl, h1, r1⟩ := trodAll_cons r0
  obtain ⟨v2, vs2, d2, ds2, p2, q2, rfl, rfl, rfl, h2, r2⟩ := trodAll_cons r1
  obtain ⟨v3, vs3, d3, ds3, p3, q3, rfl, rfl, rfl, h3, r3⟩ := trodAll_cons r2
  obtain ⟨rfl, rfl, rfl⟩ := trodAll_nil r3
  obtain rfl : args = #[v0, v1, v2, v3] := by cases args; simp_all
  obtain ⟨rfl, rfl⟩ := trodVars_none hV
  obtain ⟨a0, rfl, rfl, rfl, w0⟩ := open_int Try.underlying3 (hval 0 3 v0 rfl rfl) h0
  obtain ⟨a1, rfl, rfl, rfl, w1⟩ := open_int Try.underlying3 (hval 1 3 v1 rfl rfl) h1
  obtain ⟨a2, rfl, rfl, rfl, w2⟩ := open_int Try.underlying3 (hval 2 3 v2 rfl rfl) h2
  obtain ⟨a3, rfl, rfl, rfl, w3⟩ := open_int Try.underlying3 (hval 3 3 v3 rfl rfl) h3
  clear hA0 hval0 hsz0 hsz
  have hp := Pure.FnExactMeanMeetings a0 a1 a2 a3 w0 w1 w2 w3
  obtain ⟨k, hp⟩ := hp
  refine (Q.laws_FnExactMeanMeetings.calls k a0 a1 a2 a3 true W  hp).mono fun e W' ⟨he, hd⟩ => ?_
  have bel : Below W.heap.size W W' := by first | exact hd | exact hd.below
  subst he
  exact ⟨_, rfl, _, _, _, [], _, [], hW', trodAll_mk1 (shut_bool Try.underlying4 _), (trodAll_cons_mk (shut_int Try.underlying3 w0) (trodAll_cons_mk (shut_int Try.underlying3 w1) (trodAll_cons_mk (shut_int Try.underlying3 w2) (trodAll_cons_mk (shut_int Try.underlying3 w3) trodAll_mk0)))), rfl, bel.frame _, fun h => by cases h⟩
theorem named : Try.checked.prog.funcNamed Rows.fnExactMeanMeetingsRow.func = some 8 := by kernel_rfl
theorem inst : Try.f8.isInstance Try.checked.prog Rows.fnExactMeanMeetingsRow.origin Rows.fnExactMeanMeetingsRow.targs := of_decide_eq_true (by kernel_rfl)
theorem wrap : Try.f8.isWrapper Try.checked.prog Rows.fnExactMeanMeetingsRow.wrapper Rows.fnExactMeanMeetingsRow.mainSum := by unfold Func.isWrapper; first | (rw [if_pos (by decide +kernel)]; kernel_rfl) | (rw [if_neg (by decide +kernel)]; exact ⟨rfl, rfl⟩)
theorem over : Rows.fnExactMeanMeetingsRow.holds Try.pinned (OpenSpec.ofChange Rows.fnExactMeanMeetingsSpec) :=
  OpenClaim.holds_of_wide 8 Try.f8 rfl rfl rfl rfl rfl rfl rfl ⟨rfl, rfl, rfl, rfl, rfl⟩ rfl rfl rfl rfl rfl named Try.func8 closed inst wrap
    (fun os started H enc _ => lifted os started H enc)
theorem proved : Rows.FnExactMeanMeetingsSaid := over
#print axioms proved
end Go.Proofs.Ytghogdffocnjnaa.fnExactMeanMeetings
namespace Go.Proofs.Ytghogdffocnjnaa
/-- The row, under a short name, for the claim. -/
theorem fnExactMeanMeetings_holds : Rows.FnExactMeanMeetingsSaid := fnExactMeanMeetings.proved
end Go.Proofs.Ytghogdffocnjnaa
