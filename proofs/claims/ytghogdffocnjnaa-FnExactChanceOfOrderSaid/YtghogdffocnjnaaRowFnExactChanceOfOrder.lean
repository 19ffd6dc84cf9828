/- FnExactChanceOfOrder: whatever the arguments are, the law returns true, and each argument reads afterwards as before. No condition. -/
import Derived.Test.YtghogdffocnjnaaRows
import Derived.Test.YtghogdffocnjnaaClosed
import Derived.Test.YtghogdffocnjnaaQx48
import Derived.Test.YtghogdffocnjnaaPureFnExactChanceOfOrder
import Derived.WalkKit
import Derived.ProofKit
import Derived.OpenShut
import Derived.ShutString
import Derived.ChangeOld
import Derived.Below
import Derived.SizedLaws
import Derived.Carry
import Derived.Test.YtghogdffocnjnaaWSized
namespace Go.Proofs.Ytghogdffocnjnaa.fnExactChanceOfOrder
open Go.ChangeShapes Go.WideShapes Go.ChangeAt Go.RowKit
open Go.ChangeMaps (open_string shut_string)
set_option linter.unusedVariables false
set_option linter.unusedSimpArgs false
theorem j0 : (Rows.fnExactChanceOfOrderRow.wf (OpenSpec.ofChange Rows.fnExactChanceOfOrderSpec)) = true := by kernel_rfl
theorem j1 : (laidOutB Try.prog) = true := Closed.c1
theorem j2 : (mapsRowed Try.prog) = true := Closed.c2
theorem j3 : (Try.f15.params.all (Try.prog.readableRec ·)) = true := by kernel_rfl
theorem j4 : (namedTie Try.prog Rows.fnExactChanceOfOrderRow.named Rows.fnExactChanceOfOrderSpec.vars) = true := by kernel_rfl
theorem j5 : ((Rows.fnExactChanceOfOrderRow.stops == [])) = true := Closed.c5
theorem j6 : ((Try.prog.stops == [])) = true := Closed.c6
theorem j7 : ((Rows.fnExactChanceOfOrderRow.knobs == [])) = true := Closed.c7
theorem j8 : ((Try.prog.stopKnobs == [])) = true := Closed.c8
theorem j9 : ((Rows.fnExactChanceOfOrderRow.inPlace == Try.prog.inPlace 15)) = true := by kernel_rfl
theorem j10 : ((Rows.fnExactChanceOfOrderRow.unfollowed == Try.prog.unfollowed 15)) = true := by kernel_rfl
theorem j11 : ((Rows.fnExactChanceOfOrderRow.recurses == Try.prog.recurses 15)) = true := by kernel_rfl
theorem j12 : ((Rows.fnExactChanceOfOrderRow.named == Try.prog.varsNamed 15)) = true := by kernel_rfl
theorem j13 : ((Rows.fnExactChanceOfOrderRow.maps == (Try.f15.params.toList ++ Rows.fnExactChanceOfOrderSpec.plain.varTypes Try.prog).any (Try.prog.mapsRec ·))) = true := by kernel_rfl
theorem j14 : ((Rows.fnExactChanceOfOrderRow.ifaces == (Try.f15.params.toList ++ Rows.fnExactChanceOfOrderSpec.plain.varTypes Try.prog).any (Try.prog.ifacesRec ·))) = true := by kernel_rfl
theorem j15 : ((Rows.fnExactChanceOfOrderRow.mapsOut == Try.prog.mapsAmong Try.f15.resultTypes.toList)) = true := by kernel_rfl
theorem j16 : ((Rows.fnExactChanceOfOrderRow.loops == (Try.f15.params.toList ++ Rows.fnExactChanceOfOrderSpec.plain.varTypes Try.prog).any (Try.prog.loopsFrom ·))) = true := by kernel_rfl
theorem j17 : ((Rows.fnExactChanceOfOrderRow.wideKeys == (Try.f15.params.toList ++ Rows.fnExactChanceOfOrderSpec.plain.varTypes Try.prog ++ Try.f15.resultTypes.toList).any (Try.prog.wideKeysFrom ·))) = true := by kernel_rfl
theorem j18 : (Rows.fnExactChanceOfOrderSpec.vars.all (Try.prog.varReadable ·)) = true := by kernel_rfl
theorem j19 : (Try.f15.resultTypes.all (fun t => Try.prog.readableRec t && decide (t < Try.prog.types.size))) = true := by kernel_rfl
theorem j20 : ((Rows.fnExactChanceOfOrderRow.ifacesOut == Try.f15.resultTypes.toList.any (Try.prog.ifacesRec ·))) = true := by kernel_rfl
theorem j21 : ((Rows.fnExactChanceOfOrderRow.loopsOut == Try.f15.resultTypes.toList.any (Try.prog.loopsFrom ·))) = true := by kernel_rfl
theorem j22 : ((Rows.fnExactChanceOfOrderRow.plainKeys == Try.prog.plainKeys)) = true := Closed.c22
theorem j23 : (Rows.fnExactChanceOfOrderRow.shortTexts.isNone) = true := Closed.c23
theorem j24 : (Try.prog.stopsHeard) = true := Closed.c24
theorem j25 : (Try.prog.mayEnter) = true := Closed.c25
theorem j26 : ((Rows.fnExactChanceOfOrderRow.lifted == Try.prog.liftsFinal)) = true := Closed.c26
theorem j27 : ((Try.prog.make == some Rows.fnExactChanceOfOrderRow.make)) = true := Closed.c27
theorem j28 : ((Rows.fnExactChanceOfOrderRow.kinds == (if Rows.fnExactChanceOfOrderRow.domain.isEmpty then [] else Try.f15.params.toList.map fun t => match Try.prog.underlying t with | some (.int k) => some k | _ => none))) = true := by kernel_rfl
theorem j29 : ((Rows.fnExactChanceOfOrderRow.pinned == Rows.fnExactChanceOfOrderRow.pinnedBy)) = true := by kernel_rfl
theorem j30 : ((Rows.fnExactChanceOfOrderRow.veiled == (Try.f15.params.toList ++ Rows.fnExactChanceOfOrderSpec.plain.varTypes Try.prog ++ Try.f15.resultTypes.toList).any (Try.prog.veiledRec ·))) = true := by kernel_rfl
theorem j31 : (Rows.fnExactChanceOfOrderRow.veiledFits Try.prog Try.f15.params.toList (Try.f15.params.toList ++ Rows.fnExactChanceOfOrderSpec.plain.varTypes Try.prog ++ Try.f15.resultTypes.toList)) = true := by kernel_rfl
set_option maxRecDepth 100000 in
theorem closed : joinedFacts Try.prog 15 Try.f15 Rows.fnExactChanceOfOrderSpec Rows.fnExactChanceOfOrderRow = true := by
  unfold joinedFacts
  simp only [Bool.and_eq_true]
  exact ⟨⟨⟨⟨⟨⟨⟨⟨⟨⟨⟨⟨⟨⟨⟨⟨⟨⟨⟨⟨⟨⟨⟨⟨⟨⟨⟨⟨⟨⟨⟨j0, j1⟩, j2⟩, j3⟩, j4⟩, j5⟩, j6⟩, j7⟩, j8⟩, j9⟩, j10⟩, j11⟩, j12⟩, j13⟩, j14⟩, j15⟩, j16⟩, j17⟩, j18⟩, j19⟩, j20⟩, j21⟩, j22⟩, j23⟩, j24⟩, j25⟩, j26⟩, j27⟩, j28⟩, j29⟩, j30⟩, j31⟩
/-- What is read of a slice of whole numbers. -/
def IsRow (k : IntKind) (w : World) (a : Option Addr) (len cap : Nat) (zs : List Int) : Prop :=
  (a = none ∧ len = 0 ∧ cap = 0 ∧ zs = []) ∨
  ∃ x, a = some x ∧ len ≤ cap ∧ cap ≤ maxLen ∧ zs.length = cap ∧ (∀ i, i < zs.length → w.cell? (x.add i) = some (.int k (zs.getD i 0))) ∧ ∀ n ∈ zs, (Lit.int k n).wf = true
set_option maxRecDepth 100000 in
theorem lifted (os : Os) (started : os.Started) (H : Type) (enc : TypeId × Value → H) :
    ReturnsInHanded {} Try.checked os 15 .any (Rows.fnExactChanceOfOrderSpec.pre6 enc Try.prog Try.f15 Rows.fnExactChanceOfOrderRow.domain false) (Rows.fnExactChanceOfOrderSpec.post enc Try.prog Try.f15 false true false false) := by
  refine returnsInHanded_of_change_sized (C := Try.checked) Closed.own started (by kernel_rfl) Try.func15
    (ChangeSpec.witness6 (enc := enc) (C := Try.checked) false ⟨#[], #[.int .i64 0, .int .i64 0, .slice none 0 0], []⟩ 8 (by kernel_rfl) (by kernel_rfl) (by kernel_rfl) (by kernel_rfl)) ?_
  intro W base args ds gs before hval0 hW hcnd hsz0 _
  have hsz : (DataW.weightsEach Try.prog (Try.f15.params.toList ++ Rows.fnExactChanceOfOrderSpec.plain.varTypes Try.prog) (ds ++ gs)).all (· ≤ reachBytes) = true := hsz0
  have hval : ∀ (j : Nat) t v, Try.f15.params[j]? = some t → args[j]? = some v → Value.okWide Try.prog W .any base t v := hval0
  have hW' := hW
  obtain ⟨p, q, hA0, hV, rfl, hfz, hnd⟩ := hW
  have hA : DataW.TrodAll enc Try.prog W 0 (fun _ => true) true Try.f15.params.toList args.toList ds p := hA0
  rw [Try.params15] at hA hval hsz
  obtain ⟨v0, vs0, d0, ds0, p0, q0, hargs, rfl, rfl, h0, r0⟩ := trodAll_cons hA
  obtain ⟨v1, vs1, d1, ds1, p1, q1, rfl, rfl, rfl, h1, r1⟩ := trodAll_cons r0
  obtain ⟨v2, vs2, d2, ds2, p2, q2, rfl, rfl, rfl, h2, r2⟩ := trodAll_cons r1
  obtain ⟨rfl, rfl, rfl⟩ := trodAll_nil r2
  obtain rfl : args = #[v0, v1, v2] := by cases args; simp_all
  obtain ⟨rfl, rfl⟩ := trodVars_none hV
  obtain ⟨a0, rfl, rfl, rfl, w0⟩ := open_int Try.underlying3 (hval 0 3 v0 rfl rfl) h0
  obtain ⟨a1, rfl, rfl, rfl, w1⟩ := open_int Try.underlying3 (hval 1 3 v1 rfl rfl) h1
  have k2 := h2
  have lt2 : ∀ x ∈ p2, x.block < W.heap.size := by obtain ⟨m, hm⟩ := k2; exact DataW.trod_lt m _ _ _ hm
  obtain ⟨a2, len2, cap2, rfl⟩ := okWide_slice Try.underlying41 (hval 2 41 v2 rfl rfl)
  obtain ⟨z2, w2⟩ : ∃ zs, IsRow .i64 W a2 len2 cap2 zs := by
    obtain ⟨fuel, hf⟩ := h2
    rcases open_ints Try.underlying41 Try.underlying3 (by kernel_rfl) hf with ⟨hcs, _⟩ | ⟨x, l, c, zs, hcs, _, hl, hm, hz, _, hcell, hwz⟩
    · simp [Value.cells] at hcs
      obtain ⟨rfl, rfl, rfl⟩ := hcs
      exact ⟨[], .inl ⟨rfl, rfl, rfl, rfl⟩⟩
    · simp [Value.cells] at hcs
      obtain ⟨rfl, rfl, rfl⟩ := hcs
      exact ⟨zs, .inr ⟨_, rfl, hl, hm, by simpa using hz, hcell, hwz⟩⟩
  clear hA0 hval0 hsz0 hsz
  obtain ⟨L2, eL2, hC2, hc2, wL2⟩ : ∃ l : List Int, l.length = len2 ∧ Go.Proofs.YtghogdffocnjnaaW.PrintWords.Kd.C (Go.Proofs.YtghogdffocnjnaaW.PrintWords.Kd.int .i64) W a2 l.length l ∧ l.length ≤ cap2 ∧ ∀ x ∈ l, (Lit.int .i64 x).wf = true := by
    rcases w2 with ⟨rfl, rfl, rfl, rfl⟩ | ⟨x, rfl, hl, hm, hz, hcell, hwz⟩
    · exact ⟨[], rfl, Go.Proofs.YtghogdffocnjnaaW.PrintWords.Kd.C_nil _ _, Nat.le_refl _, by simp⟩
    · refine ⟨z2.take len2, by rw [List.length_take]; omega, ?_, by rw [List.length_take]; omega, fun x hx => hwz x (List.mem_of_mem_take hx)⟩
      refine ⟨rfl, by unfold maxLen at hm; rw [List.length_take]; omega, fun _ => ⟨x, rfl, fun j p hj => ⟨[.int .i64 p], rfl, rfl, fun i u hu => ?_⟩⟩⟩
      have hi : i = 0 := by have := (List.getElem?_eq_some_iff.1 hu).1; simpa using this
      subst hi
      have hu' : u = .int .i64 p := by simpa using hu.symm
      subst hu'
      have hjl := (List.getElem?_eq_some_iff.1 hj).1
      rw [List.length_take] at hjl
      have e := hcell j (by omega)
      rw [List.getElem?_take] at hj
      rw [if_pos (by omega)] at hj
      have hg : z2.getD j 0 = p := by rw [List.getD_eq_getElem?_getD, hj]; rfl
      rw [hg] at e
      show W.cell? (x.add (j * 1 + 0)) = _
      rw [Nat.mul_one, Nat.add_zero]
      exact e
  subst eL2
  have hp := Pure.FnExactChanceOfOrder a0 a1 L2 w0 w1 (by have := hC2.2.1; omega) wL2
  obtain ⟨k, hp⟩ := hp
  refine (Q.laws_FnExactChanceOfOrder.calls k a0 a1 _ _ L2 true W hC2 hc2 hp).mono fun e W' ⟨he, hd⟩ => ?_
  have bel : Below W.heap.size W W' := by first | exact hd | exact hd.below
  subst he
  exact ⟨_, rfl, _, _, _, [], _, [], hW', trodAll_mk1 (shut_bool Try.underlying4 _), (trodAll_cons_mk (shut_int Try.underlying3 w0) (trodAll_cons_mk (shut_int Try.underlying3 w1) (trodAll_cons_mk (Below.trod Closed.laidOut (by kernel_rfl) (of_decide_eq_true (by kernel_rfl)) k2 bel lt2) trodAll_mk0))), rfl, bel.frame _, fun h => by cases h⟩
theorem named : Try.checked.prog.funcNamed Rows.fnExactChanceOfOrderRow.func = some 15 := by kernel_rfl
theorem inst : Try.f15.isInstance Try.checked.prog Rows.fnExactChanceOfOrderRow.origin Rows.fnExactChanceOfOrderRow.targs := of_decide_eq_true (by kernel_rfl)
theorem wrap : Try.f15.isWrapper Try.checked.prog Rows.fnExactChanceOfOrderRow.wrapper Rows.fnExactChanceOfOrderRow.mainSum := by unfold Func.isWrapper; first | (rw [if_pos (by decide +kernel)]; kernel_rfl) | (rw [if_neg (by decide +kernel)]; exact ⟨rfl, rfl⟩)
theorem over : Rows.fnExactChanceOfOrderRow.holds Try.pinned (OpenSpec.ofChange Rows.fnExactChanceOfOrderSpec) :=
  OpenClaim.holds_of_wide 15 Try.f15 rfl rfl rfl rfl rfl rfl rfl ⟨rfl, rfl, rfl, rfl, rfl⟩ rfl rfl rfl rfl rfl named Try.func15 closed inst wrap
    (fun os started H enc _ => lifted os started H enc)
theorem proved : Rows.FnExactChanceOfOrderSaid := over
#print axioms proved
end Go.Proofs.Ytghogdffocnjnaa.fnExactChanceOfOrder
namespace Go.Proofs.Ytghogdffocnjnaa
/-- The row, under a short name, for the claim. -/
theorem fnExactChanceOfOrder_holds : Rows.FnExactChanceOfOrderSaid := fnExactChanceOfOrder.proved
end Go.Proofs.Ytghogdffocnjnaa
