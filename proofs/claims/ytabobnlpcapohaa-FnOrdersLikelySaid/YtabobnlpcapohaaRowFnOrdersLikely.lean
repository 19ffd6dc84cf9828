/- FnOrdersLikely: whatever the arguments are, the law returns true, and each argument reads afterwards as before. No condition. -/
import Derived.Test.YtabobnlpcapohaaRows
import Derived.Test.YtabobnlpcapohaaClosed
import Derived.Test.YtabobnlpcapohaaQw
import Derived.Test.YtabobnlpcapohaaPureFnOrdersLikely
import Derived.WalkKit
import Derived.ProofKit
import Derived.OpenShut
import Derived.ShutString
import Derived.ChangeOld
import Derived.Below
import Derived.SizedLaws
import Derived.Carry
import Derived.Test.YtabobnlpcapohaaWSized
namespace Go.Proofs.Ytabobnlpcapohaa.fnOrdersLikely
open Go.ChangeShapes Go.WideShapes Go.ChangeAt Go.RowKit
open Go.ChangeMaps (open_string shut_string)
set_option linter.unusedVariables false
set_option linter.unusedSimpArgs false
theorem j0 : (Rows.fnOrdersLikelyRow.wf (OpenSpec.ofChange Rows.fnOrdersLikelySpec)) = true := by kernel_rfl
theorem j1 : (laidOutB Try.prog) = true := Closed.c1
theorem j2 : (mapsRowed Try.prog) = true := Closed.c2
theorem j3 : (Try.f3.params.all (Try.prog.readableRec ·)) = true := by kernel_rfl
theorem j4 : (namedTie Try.prog Rows.fnOrdersLikelyRow.named Rows.fnOrdersLikelySpec.vars) = true := by kernel_rfl
theorem j5 : ((Rows.fnOrdersLikelyRow.stops == [])) = true := Closed.c5
theorem j6 : ((Try.prog.stops == [])) = true := Closed.c6
theorem j7 : ((Rows.fnOrdersLikelyRow.knobs == [])) = true := Closed.c7
theorem j8 : ((Try.prog.stopKnobs == [])) = true := Closed.c8
theorem j9 : ((Rows.fnOrdersLikelyRow.inPlace == Try.prog.inPlace 3)) = true := by kernel_rfl
theorem j10 : ((Rows.fnOrdersLikelyRow.unfollowed == Try.prog.unfollowed 3)) = true := by kernel_rfl
theorem j11 : ((Rows.fnOrdersLikelyRow.recurses == Try.prog.recurses 3)) = true := by kernel_rfl
theorem j12 : ((Rows.fnOrdersLikelyRow.named == Try.prog.varsNamed 3)) = true := by kernel_rfl
theorem j13 : ((Rows.fnOrdersLikelyRow.maps == (Try.f3.params.toList ++ Rows.fnOrdersLikelySpec.plain.varTypes Try.prog).any (Try.prog.mapsRec ·))) = true := by kernel_rfl
theorem j14 : ((Rows.fnOrdersLikelyRow.ifaces == (Try.f3.params.toList ++ Rows.fnOrdersLikelySpec.plain.varTypes Try.prog).any (Try.prog.ifacesRec ·))) = true := by kernel_rfl
theorem j15 : ((Rows.fnOrdersLikelyRow.mapsOut == Try.prog.mapsAmong Try.f3.resultTypes.toList)) = true := by kernel_rfl
theorem j16 : ((Rows.fnOrdersLikelyRow.loops == (Try.f3.params.toList ++ Rows.fnOrdersLikelySpec.plain.varTypes Try.prog).any (Try.prog.loopsFrom ·))) = true := by kernel_rfl
theorem j17 : ((Rows.fnOrdersLikelyRow.wideKeys == (Try.f3.params.toList ++ Rows.fnOrdersLikelySpec.plain.varTypes Try.prog ++ Try.f3.resultTypes.toList).any (Try.prog.wideKeysFrom ·))) = true := by kernel_rfl
theorem j18 : (Rows.fnOrdersLikelySpec.vars.all (Try.prog.varReadable ·)) = true := by kernel_rfl
theorem j19 : (Try.f3.resultTypes.all (fun t => Try.prog.readableRec t && decide (t < Try.prog.types.size))) = true := by kernel_rfl
theorem j20 : ((Rows.fnOrdersLikelyRow.ifacesOut == Try.f3.resultTypes.toList.any (Try.prog.ifacesRec ·))) = true := by kernel_rfl
theorem j21 : ((Rows.fnOrdersLikelyRow.loopsOut == Try.f3.resultTypes.toList.any (Try.prog.loopsFrom ·))) = true := by kernel_rfl
theorem j22 : ((Rows.fnOrdersLikelyRow.plainKeys == Try.prog.plainKeys)) = true := Closed.c22
theorem j23 : (Rows.fnOrdersLikelyRow.shortTexts.isNone) = true := Closed.c23
theorem j24 : (Try.prog.stopsHeard) = true := Closed.c24
theorem j25 : (Try.prog.mayEnter) = true := Closed.c25
theorem j26 : ((Rows.fnOrdersLikelyRow.lifted == Try.prog.liftsFinal)) = true := Closed.c26
theorem j27 : ((Try.prog.make == some Rows.fnOrdersLikelyRow.make)) = true := Closed.c27
theorem j28 : ((Rows.fnOrdersLikelyRow.kinds == (if Rows.fnOrdersLikelyRow.domain.isEmpty then [] else Try.f3.params.toList.map fun t => match Try.prog.underlying t with | some (.int k) => some k | _ => none))) = true := by kernel_rfl
theorem j29 : ((Rows.fnOrdersLikelyRow.pinned == Rows.fnOrdersLikelyRow.pinnedBy)) = true := by kernel_rfl
theorem j30 : ((Rows.fnOrdersLikelyRow.veiled == (Try.f3.params.toList ++ Rows.fnOrdersLikelySpec.plain.varTypes Try.prog ++ Try.f3.resultTypes.toList).any (Try.prog.veiledRec ·))) = true := by kernel_rfl
theorem j31 : (Rows.fnOrdersLikelyRow.veiledFits Try.prog Try.f3.params.toList (Try.f3.params.toList ++ Rows.fnOrdersLikelySpec.plain.varTypes Try.prog ++ Try.f3.resultTypes.toList)) = true := by kernel_rfl
set_option maxRecDepth 100000 in
theorem closed : joinedFacts Try.prog 3 Try.f3 Rows.fnOrdersLikelySpec Rows.fnOrdersLikelyRow = true := by
  unfold joinedFacts
  simp only [Bool.and_eq_true]
  exact ⟨⟨⟨⟨⟨⟨⟨⟨⟨⟨⟨⟨⟨⟨⟨⟨⟨⟨⟨⟨⟨⟨⟨⟨⟨⟨⟨⟨⟨⟨⟨j0, j1⟩, j2⟩, j3⟩, j4⟩, j5⟩, j6⟩, j7⟩, j8⟩, j9⟩, j10⟩, j11⟩, j12⟩, j13⟩, j14⟩, j15⟩, j16⟩, j17⟩, j18⟩, j19⟩, j20⟩, j21⟩, j22⟩, j23⟩, j24⟩, j25⟩, j26⟩, j27⟩, j28⟩, j29⟩, j30⟩, j31⟩
def IsRow (k : IntKind) (w : World) (a : Option Addr) (len cap : Nat) (zs : List Int) : Prop :=
  (a = none ∧ len = 0 ∧ cap = 0 ∧ zs = []) ∨
  ∃ x, a = some x ∧ len ≤ cap ∧ cap ≤ maxLen ∧ zs.length = cap ∧ (∀ i, i < zs.length → w.cell? (x.add i) = some (.int k (zs.getD i 0))) ∧ ∀ n ∈ zs, (Lit.int k n).wf = true
set_option maxRecDepth 100000 in
theorem lifted (os : Os) (started : os.Started) (H : Type) (enc : TypeId × Value → H) :
    ReturnsInHanded {} Try.checked os 3 .any (Rows.fnOrdersLikelySpec.pre6 enc Try.prog Try.f3 Rows.fnOrdersLikelyRow.domain false) (Rows.fnOrdersLikelySpec.post enc Try.prog Try.f3 false true false false) := by
  refine returnsInHanded_of_change_sized (C := Try.checked) Closed.own started (by kernel_rfl) Try.func3
    (ChangeSpec.witness6 (enc := enc) (C := Try.checked) false ⟨#[], #[.slice none 0 0, .slice none 0 0], []⟩ 8 (by kernel_rfl) (by kernel_rfl) (by kernel_rfl) (by kernel_rfl)) ?_
  intro W base args ds gs before hval0 hW hcnd hsz0 _
  have hsz : (DataW.weightsEach Try.prog (Try.f3.params.toList ++ Rows.fnOrdersLikelySpec.plain.varTypes Try.prog) (ds ++ gs)).all (· ≤ reachBytes) = true := hsz0
  have hval : ∀ (j : Nat) t v, Try.f3.params[j]? = some t → args[j]? = some v → Value.okWide Try.prog W .any base t v := hval0
  have hW' := hW
  obtain ⟨p, q, hA0, hV, rfl, hfz, hnd⟩ := hW
  have hA : DataW.TrodAll enc Try.prog W 0 (fun _ => true) true Try.f3.params.toList args.toList ds p := hA0
  rw [Try.params3] at hA hval hsz
  obtain ⟨v0, vs0, d0, ds0, p0, q0, hargs, rfl, rfl, h0, r0⟩ := trodAll_cons hA
  obtain ⟨v1, vs1, d1, ds1, p1, q1, rfl, rfl, rfl, h1, r1⟩ := trodAll_cons r0
  obtain ⟨rfl, rfl, rfl⟩ := trodAll_nil r1
  obtain rfl : args = #[v0, v1] := by cases args; simp_all
  obtain ⟨rfl, rfl⟩ := trodVars_none hV
  have k0 := h0
  have lt0 : ∀ x ∈ p0, x.block < W.heap.size := by obtain ⟨m, hm⟩ := k0; exact DataW.trod_lt m _ _ _ hm
  obtain ⟨a0, len0, cap0, rfl⟩ := okWide_slice Try.underlying22 (hval 0 22 v0 rfl rfl)
  obtain ⟨z0, w0⟩ : ∃ zs, IsRow .u8 W a0 len0 cap0 zs := by
    obtain ⟨fuel, hf⟩ := h0
    rcases open_ints Try.underlying22 Try.underlying5 (by kernel_rfl) hf with ⟨hcs, _⟩ | ⟨x, l, c, zs, hcs, _, hl, hm, hz, _, hcell, hwz⟩
    · simp [Value.cells] at hcs
      obtain ⟨rfl, rfl, rfl⟩ := hcs
      exact ⟨[], .inl ⟨rfl, rfl, rfl, rfl⟩⟩
    · simp [Value.cells] at hcs
      obtain ⟨rfl, rfl, rfl⟩ := hcs
      exact ⟨zs, .inr ⟨_, rfl, hl, hm, by simpa using hz, hcell, hwz⟩⟩
  have k1 := h1
  have lt1 : ∀ x ∈ p1, x.block < W.heap.size := by obtain ⟨m, hm⟩ := k1; exact DataW.trod_lt m _ _ _ hm
  obtain ⟨a1, len1, cap1, rfl⟩ := okWide_slice Try.underlying22 (hval 1 22 v1 rfl rfl)
  obtain ⟨z1, w1⟩ : ∃ zs, IsRow .u8 W a1 len1 cap1 zs := by
    obtain ⟨fuel, hf⟩ := h1
    rcases open_ints Try.underlying22 Try.underlying5 (by kernel_rfl) hf with ⟨hcs, _⟩ | ⟨x, l, c, zs, hcs, _, hl, hm, hz, _, hcell, hwz⟩
    · simp [Value.cells] at hcs
      obtain ⟨rfl, rfl, rfl⟩ := hcs
      exact ⟨[], .inl ⟨rfl, rfl, rfl, rfl⟩⟩
    · simp [Value.cells] at hcs
      obtain ⟨rfl, rfl, rfl⟩ := hcs
      exact ⟨zs, .inr ⟨_, rfl, hl, hm, by simpa using hz, hcell, hwz⟩⟩
  clear hA0 hval0 hsz0 hsz
  obtain ⟨L0, eL0, hC0, hc0, wL0⟩ : ∃ l : List Int, l.length = len0 ∧ Go.Proofs.YtabobnlpcapohaaW.PrintWords.Kd.C (Go.Proofs.YtabobnlpcapohaaW.PrintWords.Kd.int .u8) W a0 l.length l ∧ l.length ≤ cap0 ∧ ∀ x ∈ l, (Lit.int .u8 x).wf = true := by
    rcases w0 with ⟨rfl, rfl, rfl, rfl⟩ | ⟨x, rfl, hl, hm, hz, hcell, hwz⟩
    · exact ⟨[], rfl, Go.Proofs.YtabobnlpcapohaaW.PrintWords.Kd.C_nil _ _, Nat.le_refl _, by simp⟩
    · refine ⟨z0.take len0, by rw [List.length_take]; omega, ?_, by rw [List.length_take]; omega, fun x hx => hwz x (List.mem_of_mem_take hx)⟩
      refine ⟨rfl, by unfold maxLen at hm; rw [List.length_take]; omega, fun _ => ⟨x, rfl, fun j p hj => ⟨[.int .u8 p], rfl, rfl, fun i u hu => ?_⟩⟩⟩
      have hi : i = 0 := by have := (List.getElem?_eq_some_iff.1 hu).1; simpa using this
      subst hi
      have hu' : u = .int .u8 p := by simpa using hu.symm
      subst hu'
      have hjl := (List.getElem?_eq_some_iff.1 hj).1
      rw [List.length_take] at hjl
      have e := hcell j (by omega)
      rw [List.getElem?_take] at hj
      rw [if_pos (by omega)] at hj
      have hg : z0.getD j 0 = p := by rw [List.getD_eq_getElem?_getD, hj]; rfl
      rw [hg] at e
      show W.cell? (x.add (j * 1 + 0)) = _
      rw [Nat.mul_one, Nat.add_zero]
      exact e
  subst eL0
  obtain ⟨L1, eL1, hC1, hc1, wL1⟩ : ∃ l : List Int, l.length = len1 ∧ Go.Proofs.YtabobnlpcapohaaW.PrintWords.Kd.C (Go.Proofs.YtabobnlpcapohaaW.PrintWords.Kd.int .u8) W a1 l.length l ∧ l.length ≤ cap1 ∧ ∀ x ∈ l, (Lit.int .u8 x).wf = true := by
    rcases w1 with ⟨rfl, rfl, rfl, rfl⟩ | ⟨x, rfl, hl, hm, hz, hcell, hwz⟩
    · exact ⟨[], rfl, Go.Proofs.YtabobnlpcapohaaW.PrintWords.Kd.C_nil _ _, Nat.le_refl _, by simp⟩
    · refine ⟨z1.take len1, by rw [List.length_take]; omega, ?_, by rw [List.length_take]; omega, fun x hx => hwz x (List.mem_of_mem_take hx)⟩
      refine ⟨rfl, by unfold maxLen at hm; rw [List.length_take]; omega, fun _ => ⟨x, rfl, fun j p hj => ⟨[.int .u8 p], rfl, rfl, fun i u hu => ?_⟩⟩⟩
      have hi : i = 0 := by have := (List.getElem?_eq_some_iff.1 hu).1; simpa using this
      subst hi
      have hu' : u = .int .u8 p := by simpa using hu.symm
      subst hu'
      have hjl := (List.getElem?_eq_some_iff.1 hj).1
      rw [List.length_take] at hjl
      have e := hcell j (by omega)
      rw [List.getElem?_take] at hj
      rw [if_pos (by omega)] at hj
      have hg : z1.getD j 0 = p := by rw [List.getD_eq_getElem?_getD, hj]; rfl
      rw [hg] at e
      show W.cell? (x.add (j * 1 + 0)) = _
      rw [Nat.mul_one, Nat.add_zero]
      exact e
  subst eL1
  have hp := Pure.FnOrdersLikely L0 L1 (by have := hC0.2.1; omega) wL0 (by have := hC1.2.1; omega) wL1
  obtain ⟨k, hp⟩ := hp
  refine (Q.laws_FnOrdersLikely.calls k _ _ L0 _ _ L1 true W hC0 hc0 hC1 hc1 hp).mono fun e W' ⟨he, hd⟩ => ?_
  have bel : Below W.heap.size W W' := by first | exact hd | exact hd.below
  subst he
  exact ⟨_, rfl, _, _, _, [], _, [], hW', trodAll_mk1 (shut_bool Try.underlying4 _), (trodAll_cons_mk (Below.trod Closed.laidOut (by kernel_rfl) (of_decide_eq_true (by kernel_rfl)) k0 bel lt0) (trodAll_cons_mk (Below.trod Closed.laidOut (by kernel_rfl) (of_decide_eq_true (by kernel_rfl)) k1 bel lt1) trodAll_mk0)), rfl, bel.frame _, fun h => by cases h⟩
theorem named : Try.checked.prog.funcNamed Rows.fnOrdersLikelyRow.func = some 3 := by kernel_rfl
theorem inst : Try.f3.isInstance Try.checked.prog Rows.fnOrdersLikelyRow.origin Rows.fnOrdersLikelyRow.targs := of_decide_eq_true (by kernel_rfl)
theorem wrap : Try.f3.isWrapper Try.checked.prog Rows.fnOrdersLikelyRow.wrapper Rows.fnOrdersLikelyRow.mainSum := by unfold Func.isWrapper; first | (rw [if_pos (by decide +kernel)]; kernel_rfl) | (rw [if_neg (by decide +kernel)]; exact ⟨rfl, rfl⟩)
theorem over : Rows.fnOrdersLikelyRow.holds Try.pinned (OpenSpec.ofChange Rows.fnOrdersLikelySpec) :=
  OpenClaim.holds_of_wide 3 Try.f3 rfl rfl rfl rfl rfl rfl rfl ⟨rfl, rfl, rfl, rfl, rfl⟩ rfl rfl rfl rfl rfl named Try.func3 closed inst wrap
    (fun os started H enc _ => lifted os started H enc)
theorem proved : Rows.FnOrdersLikelySaid := over
#print axioms proved
end Go.Proofs.Ytabobnlpcapohaa.fnOrdersLikely
namespace Go.Proofs.Ytabobnlpcapohaa
theorem fnOrdersLikely_holds : Rows.FnOrdersLikelySaid := fnOrdersLikely.proved
end Go.Proofs.Ytabobnlpcapohaa
