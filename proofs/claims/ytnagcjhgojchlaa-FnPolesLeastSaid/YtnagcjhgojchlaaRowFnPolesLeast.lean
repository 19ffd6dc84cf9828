/- FnPolesLeast: whatever the arguments are, the law returns true, and each argument reads afterwards as before. No condition. -/
import Derived.Test.YtnagcjhgojchlaaRows
import Derived.Test.YtnagcjhgojchlaaClosed
import Derived.Test.YtnagcjhgojchlaaQw
import Derived.Test.YtnagcjhgojchlaaPureFnPolesLeast
import Derived.WalkKit
import Derived.ProofKit
import Derived.OpenShut
import Derived.ShutString
import Derived.ChangeOld
import Derived.Below
import Derived.SizedLaws
import Derived.Carry
import Derived.Test.YtnagcjhgojchlaaWSized
namespace Go.Proofs.Ytnagcjhgojchlaa.fnPolesLeast
open Go.ChangeShapes Go.WideShapes Go.ChangeAt Go.RowKit
open Go.ChangeMaps (open_string shut_string)
set_option linter.unusedVariables false
set_option linter.unusedSimpArgs false
theorem j0:(Rows.fnPolesLeastRow.wf (OpenSpec.ofChange Rows.fnPolesLeastSpec))=true:=by kernel_rfl
theorem j1:(laidOutB Try.prog)=true:=Closed.c1
theorem j2:(mapsRowed Try.prog)=true:=Closed.c2
theorem j3:(Try.f3.params.all (Try.prog.readableRec ·))=true:=by kernel_rfl
theorem j4:(namedTie Try.prog Rows.fnPolesLeastRow.named Rows.fnPolesLeastSpec.vars)=true:=by kernel_rfl
theorem j5:((Rows.fnPolesLeastRow.stops == []))=true:=Closed.c5
theorem j6:((Try.prog.stops == []))=true:=Closed.c6
theorem j7:((Rows.fnPolesLeastRow.knobs == []))=true:=Closed.c7
theorem j8:((Try.prog.stopKnobs == []))=true:=Closed.c8
theorem j9:((Rows.fnPolesLeastRow.inPlace == Try.prog.inPlace 3))=true:=by kernel_rfl
theorem j10:((Rows.fnPolesLeastRow.unfollowed == Try.prog.unfollowed 3))=true:=by kernel_rfl
theorem j11:((Rows.fnPolesLeastRow.recurses == Try.prog.recurses 3))=true:=by kernel_rfl
theorem j12:((Rows.fnPolesLeastRow.named == Try.prog.varsNamed 3))=true:=by kernel_rfl
theorem j13:((Rows.fnPolesLeastRow.maps == (Try.f3.params.toList++Rows.fnPolesLeastSpec.plain.varTypes Try.prog).any (Try.prog.mapsRec ·)))=true:=by kernel_rfl
theorem j14:((Rows.fnPolesLeastRow.ifaces == (Try.f3.params.toList++Rows.fnPolesLeastSpec.plain.varTypes Try.prog).any (Try.prog.ifacesRec ·)))=true:=by kernel_rfl
theorem j15:((Rows.fnPolesLeastRow.mapsOut == Try.prog.mapsAmong Try.f3.resultTypes.toList))=true:=by kernel_rfl
theorem j16:((Rows.fnPolesLeastRow.loops == (Try.f3.params.toList++Rows.fnPolesLeastSpec.plain.varTypes Try.prog).any (Try.prog.loopsFrom ·)))=true:=by kernel_rfl
theorem j17:((Rows.fnPolesLeastRow.wideKeys == (Try.f3.params.toList++Rows.fnPolesLeastSpec.plain.varTypes Try.prog++Try.f3.resultTypes.toList).any (Try.prog.wideKeysFrom ·)))=true:=by kernel_rfl
theorem j18:(Rows.fnPolesLeastSpec.vars.all (Try.prog.varReadable ·))=true:=by kernel_rfl
theorem j19:(Try.f3.resultTypes.all (fun t=>Try.prog.readableRec t && decide (t<Try.prog.types.size)))=true:=by kernel_rfl
theorem j20:((Rows.fnPolesLeastRow.ifacesOut == Try.f3.resultTypes.toList.any (Try.prog.ifacesRec ·)))=true:=by kernel_rfl
theorem j21:((Rows.fnPolesLeastRow.loopsOut == Try.f3.resultTypes.toList.any (Try.prog.loopsFrom ·)))=true:=by kernel_rfl
theorem j22:((Rows.fnPolesLeastRow.plainKeys == Try.prog.plainKeys))=true:=Closed.c22
theorem j23:(Rows.fnPolesLeastRow.shortTexts.isNone)=true:=Closed.c23
theorem j24:(Try.prog.stopsHeard)=true:=Closed.c24
theorem j25:(Try.prog.mayEnter)=true:=Closed.c25
theorem j26:((Rows.fnPolesLeastRow.lifted == Try.prog.liftsFinal))=true:=Closed.c26
theorem j27:((Try.prog.make == some Rows.fnPolesLeastRow.make))=true:=Closed.c27
theorem j28:((Rows.fnPolesLeastRow.kinds == (if Rows.fnPolesLeastRow.domain.isEmpty then []else Try.f3.params.toList.map fun t=>match Try.prog.underlying t with|some (.int k)=>some k| _ =>none)))=true:=by kernel_rfl
theorem j29:((Rows.fnPolesLeastRow.pinned == Rows.fnPolesLeastRow.pinnedBy))=true:=by kernel_rfl
theorem j30:((Rows.fnPolesLeastRow.veiled == (Try.f3.params.toList++Rows.fnPolesLeastSpec.plain.varTypes Try.prog++Try.f3.resultTypes.toList).any (Try.prog.veiledRec ·)))=true:=by kernel_rfl
theorem j31:(Rows.fnPolesLeastRow.veiledFits Try.prog Try.f3.params.toList (Try.f3.params.toList++Rows.fnPolesLeastSpec.plain.varTypes Try.prog++Try.f3.resultTypes.toList))=true:=by kernel_rfl
set_option maxRecDepth 100000 in
theorem closed:joinedFacts Try.prog 3 Try.f3 Rows.fnPolesLeastSpec Rows.fnPolesLeastRow=true:=by
  unfold joinedFacts
  simp only[Bool.and_eq_true]
  exact⟨⟨⟨⟨⟨⟨⟨⟨⟨⟨⟨⟨⟨⟨⟨⟨⟨⟨⟨⟨⟨⟨⟨⟨⟨⟨⟨⟨⟨⟨⟨j0,j1⟩,j2⟩,j3⟩,j4⟩,j5⟩,j6⟩,j7⟩,j8⟩,j9⟩,j10⟩,j11⟩,j12⟩,j13⟩,j14⟩,j15⟩,j16⟩,j17⟩,j18⟩,j19⟩,j20⟩,j21⟩,j22⟩,j23⟩,j24⟩,j25⟩,j26⟩,j27⟩,j28⟩,j29⟩,j30⟩,j31⟩
def IsRow (k:IntKind) (w:World) (a:Option Addr) (len cap:Nat) (zs:List Int):Prop:=
  (a=none∧len=0∧cap=0∧zs= [])∨
  ∃x,a=some x∧len≤cap∧cap≤maxLen∧zs.length=cap∧(∀i,i<zs.length→w.cell? (x.add i)=some (.int k (zs.getD i 0)))∧ ∀n∈zs,(Lit.int k n).wf=true
set_option maxRecDepth 100000 in
theorem lifted (os:Os) (started:os.Started) (H:Type) (enc:TypeId × Value→H):
    ReturnsInHanded {} Try.checked os 3 .any (Rows.fnPolesLeastSpec.pre6 enc Try.prog Try.f3 Rows.fnPolesLeastRow.domain false) (Rows.fnPolesLeastSpec.post enc Try.prog Try.f3 false true false false):=by
  refine returnsInHanded_of_change_sized (C:=Try.checked) Closed.own started (by kernel_rfl) Try.func3
    (ChangeSpec.witness6 (enc:=enc) (C:=Try.checked) false ⟨#[],#[.slice none 0 0,.slice none 0 0],[]⟩ 8 (by kernel_rfl) (by kernel_rfl) (by kernel_rfl) (by kernel_rfl)) ?_
  intro W base args ds gs before a4 hW hcnd a7 _
  have hsz:(DataW.weightsEach Try.prog (Try.f3.params.toList++Rows.fnPolesLeastSpec.plain.varTypes Try.prog) (ds++gs)).all (· ≤reachBytes)=true:=a7
  have hval: ∀(j:Nat) t v,Try.f3.params[j]? =some t→args[j]? =some v→Value.okWide Try.prog W .any base t v:=a4
  have hW':=hW
  obtain⟨p,q,b6,hV,rfl,hfz,hnd⟩:=hW
  have hA:DataW.TrodAll enc Try.prog W 0 (fun _ =>true) true Try.f3.params.toList args.toList ds p:=b6
  rw[Try.params3]at hA hval hsz
  obtain⟨v0,d9,d0,e6,p0,q0,hargs,rfl,rfl,h0,r0⟩:=trodAll_cons hA
  obtain⟨v1,e7,d1,e9,p1,q1,rfl,rfl,rfl,h1,r1⟩:=trodAll_cons r0
  obtain⟨rfl,rfl,rfl⟩:=trodAll_nil r1
  obtain rfl:args= #[v0,v1]:=by cases args;simp_all
  obtain⟨rfl,rfl⟩:=trodVars_none hV
  have k0:=h0
  have b9: ∀x∈p0,x.block<W.heap.size:=by obtain⟨m,hm⟩:=k0;exact DataW.trod_lt m _ _ _ hm
  obtain⟨a0,a5,a8,rfl⟩:=okWide_slice Try.underlying22 (hval 0 22 v0 rfl rfl)
  obtain⟨z0,w0⟩: ∃zs,IsRow .u8 W a0 a5 a8 zs:=by
    obtain⟨fuel,hf⟩:=h0
    rcases open_ints Try.underlying22 Try.underlying5 (by kernel_rfl) hf with⟨hcs,_⟩|⟨x,l,c,zs,hcs,_,hl,hm,hz,_,hcell,hwz⟩
    · simp[Value.cells]at hcs
      obtain⟨rfl,rfl,rfl⟩:=hcs
      exact⟨[],.inl ⟨rfl,rfl,rfl,rfl⟩⟩
    · simp[Value.cells]at hcs
      obtain⟨rfl,rfl,rfl⟩:=hcs
      exact⟨zs,.inr ⟨_,rfl,hl,hm,by simpa using hz,hcell,hwz⟩⟩
  have k1:=h1
  have c9: ∀x∈p1,x.block<W.heap.size:=by obtain⟨m,hm⟩:=k1;exact DataW.trod_lt m _ _ _ hm
  obtain⟨a1,a6,a9,rfl⟩:=okWide_slice Try.underlying22 (hval 1 22 v1 rfl rfl)
  obtain⟨z1,w1⟩: ∃zs,IsRow .u8 W a1 a6 a9 zs:=by
    obtain⟨fuel,hf⟩:=h1
    rcases open_ints Try.underlying22 Try.underlying5 (by kernel_rfl) hf with⟨hcs,_⟩|⟨x,l,c,zs,hcs,_,hl,hm,hz,_,hcell,hwz⟩
    · simp[Value.cells]at hcs
      obtain⟨rfl,rfl,rfl⟩:=hcs
      exact⟨[],.inl ⟨rfl,rfl,rfl,rfl⟩⟩
    · simp[Value.cells]at hcs
      obtain⟨rfl,rfl,rfl⟩:=hcs
      exact⟨zs,.inr ⟨_,rfl,hl,hm,by simpa using hz,hcell,hwz⟩⟩
  clear b6 a4 a7 hsz
  obtain⟨L0,d3,b7,d4,d5⟩: ∃l:List Int,l.length=a5∧Go.Proofs.YtnagcjhgojchlaaW.PrintWords.Kd.C (Go.Proofs.YtnagcjhgojchlaaW.PrintWords.Kd.int .u8) W a0 l.length l∧l.length≤a8∧ ∀x∈l,(Lit.int .u8 x).wf=true:=by
    rcases w0 with⟨rfl,rfl,rfl,rfl⟩|⟨x,rfl,hl,hm,hz,hcell,hwz⟩
    · exact⟨[],rfl,Go.Proofs.YtnagcjhgojchlaaW.PrintWords.Kd.C_nil _ _,Nat.le_refl _,by simp⟩
    · refine⟨z0.take a5,by rw[List.length_take];omega, ?_,by rw[List.length_take];omega,fun x hx=>hwz x (List.mem_of_mem_take hx)⟩
      refine⟨rfl,by unfold maxLen at hm;rw[List.length_take];omega,fun _ =>⟨x,rfl,fun j p hj=>⟨[.int .u8 p],rfl,rfl,fun i u hu=> ?_⟩⟩⟩
      have hi:i=0:=by have:=(List.getElem?_eq_some_iff.1 hu).1;simpa using this
      subst hi
      have hu':u= .int .u8 p:=by simpa using hu.symm
      subst hu'
      have hjl:=(List.getElem?_eq_some_iff.1 hj).1
      rw[List.length_take]at hjl
      have e:=hcell j (by omega)
      rw[List.getElem?_take]at hj
      rw[if_pos (by omega)]at hj
      have hg:z0.getD j 0=p:=by rw[List.getD_eq_getElem?_getD,hj];rfl
      rw[hg]at e
      show W.cell? (x.add (j*1+0))= _
      rw[Nat.mul_one,Nat.add_zero]
      exact e
  subst d3
  obtain⟨L1,d6,b8,d7,d8⟩: ∃l:List Int,l.length=a6∧Go.Proofs.YtnagcjhgojchlaaW.PrintWords.Kd.C (Go.Proofs.YtnagcjhgojchlaaW.PrintWords.Kd.int .u8) W a1 l.length l∧l.length≤a9∧ ∀x∈l,(Lit.int .u8 x).wf=true:=by
    rcases w1 with⟨rfl,rfl,rfl,rfl⟩|⟨x,rfl,hl,hm,hz,hcell,hwz⟩
    · exact⟨[],rfl,Go.Proofs.YtnagcjhgojchlaaW.PrintWords.Kd.C_nil _ _,Nat.le_refl _,by simp⟩
    · refine⟨z1.take a6,by rw[List.length_take];omega, ?_,by rw[List.length_take];omega,fun x hx=>hwz x (List.mem_of_mem_take hx)⟩
      refine⟨rfl,by unfold maxLen at hm;rw[List.length_take];omega,fun _ =>⟨x,rfl,fun j p hj=>⟨[.int .u8 p],rfl,rfl,fun i u hu=> ?_⟩⟩⟩
      have hi:i=0:=by have:=(List.getElem?_eq_some_iff.1 hu).1;simpa using this
      subst hi
      have hu':u= .int .u8 p:=by simpa using hu.symm
      subst hu'
      have hjl:=(List.getElem?_eq_some_iff.1 hj).1
      rw[List.length_take]at hjl
      have e:=hcell j (by omega)
      rw[List.getElem?_take]at hj
      rw[if_pos (by omega)]at hj
      have hg:z1.getD j 0=p:=by rw[List.getD_eq_getElem?_getD,hj];rfl
      rw[hg]at e
      show W.cell? (x.add (j*1+0))= _
      rw[Nat.mul_one,Nat.add_zero]
      exact e
  subst d6
  have hp:=Pure.FnPolesLeast L0 L1 (by have:=b7.2.1;omega) d5 (by have:=b8.2.1;omega) d8
  obtain⟨k,hp⟩:=hp
  refine(Q.laws_FnPolesLeast.calls k _ _ L0 _ _ L1 true W b7 d4 b8 d7 hp).mono fun e W' ⟨he,hd⟩=> ?_
  have bel:Below W.heap.size W W':=by first|exact hd|exact hd.below
  subst he
  exact⟨_,rfl,_,_,_,[],_,[],hW',trodAll_mk1 (shut_bool Try.underlying4 _),(trodAll_cons_mk (Below.trod Closed.laidOut (by kernel_rfl) (of_decide_eq_true (by kernel_rfl)) k0 bel b9) (trodAll_cons_mk (Below.trod Closed.laidOut (by kernel_rfl) (of_decide_eq_true (by kernel_rfl)) k1 bel c9) trodAll_mk0)),rfl,bel.frame _,fun h=>by cases h⟩
theorem named:Try.checked.prog.funcNamed Rows.fnPolesLeastRow.func=some 3:=by kernel_rfl
theorem inst:Try.f3.isInstance Try.checked.prog Rows.fnPolesLeastRow.origin Rows.fnPolesLeastRow.targs:=of_decide_eq_true (by kernel_rfl)
theorem wrap:Try.f3.isWrapper Try.checked.prog Rows.fnPolesLeastRow.wrapper Rows.fnPolesLeastRow.mainSum:=by unfold Func.isWrapper;first|(rw[if_pos (by decide+kernel)];kernel_rfl)|(rw[if_neg (by decide+kernel)];exact⟨rfl,rfl⟩)
theorem over:Rows.fnPolesLeastRow.holds Try.pinned (OpenSpec.ofChange Rows.fnPolesLeastSpec):=
  OpenClaim.holds_of_wide 3 Try.f3 rfl rfl rfl rfl rfl rfl rfl ⟨rfl,rfl,rfl,rfl,rfl⟩ rfl rfl rfl rfl rfl named Try.func3 closed inst wrap
    (fun os started H enc _ =>lifted os started H enc)
theorem proved:Rows.FnPolesLeastSaid:=over
#print axioms proved
end Go.Proofs.Ytnagcjhgojchlaa.fnPolesLeast
namespace Go.Proofs.Ytnagcjhgojchlaa
theorem fnPolesLeast_holds:Rows.FnPolesLeastSaid:=fnPolesLeast.proved
end Go.Proofs.Ytnagcjhgojchlaa
