/- Each function below comes to the Lean function beside it (theorems '.calls'); no condition beyond each theorem's own. Written by our program oprint.py over the kit's print. -/
import Derived.Test.YtnagcjhgojchlaaProg
import Derived.Below
import Derived.Deep.Draws
import Derived.Deep.AppendLies
import Derived.Maps.AppendAt
import Derived.OwnWalk
import Derived.Laws.BytesArg
import Derived.Laws.MakeOwn
import Derived.Laws.OwnMore
import Derived.Deep.OwnRows
import Derived.Tactics
import Derived.Lib.ConvBytes
import Derived.Laws.Slices
import Derived.WalkKit
import Derived.KernelRfl
import Derived.RowKit3
import Derived.Deep.LoopGhost
import Derived.Deep.QuietTactic
import Derived.BigQuiet
import Derived.WideLaws
import Derived.Deep.DeepCutAuto
import Derived.Deep.CutBlock
import Derived.Deep.RegionHeld3
import Derived.Laws.Rows
import Derived.Lib.AppendStr
import Derived.ArgAppend
import Derived.Laws.IdiomCopy
import Derived.OrdersHeld
import Derived.Laws.BitsLemmas
import Derived.RowKit
import Derived.Test.YtnagcjhgojchlaaWWords
import Derived.Test.YtnagcjhgojchlaaWLast
import Derived.Test.YtnagcjhgojchlaaWTab
import Derived.Test.YtnagcjhgojchlaaWFour
import Derived.Test.YtnagcjhgojchlaaWQPut
import Derived.Test.YtnagcjhgojchlaaWApart
import Derived.Test.YtnagcjhgojchlaaWArr
import Derived.Test.YtnagcjhgojchlaaWZeros
import Derived.Test.YtnagcjhgojchlaaWFoot
import Derived.Test.YtnagcjhgojchlaaWKept
import Derived.Test.YtnagcjhgojchlaaWShare
import Derived.Test.YtnagcjhgojchlaaWN
import Derived.Test.YtnagcjhgojchlaaWFootNe
import Derived.Test.YtnagcjhgojchlaaWAt
import Derived.Test.YtnagcjhgojchlaaWEqStruct
import Derived.Test.YtnagcjhgojchlaaWRepsOne
import Derived.Test.YtnagcjhgojchlaaWInv
import Derived.Test.YtnagcjhgojchlaaWInvWords
import Derived.Test.YtnagcjhgojchlaaWGuard
import Derived.Test.YtnagcjhgojchlaaWNEv
import Derived.Test.YtnagcjhgojchlaaWMore
namespace Go.Proofs.Ytnagcjhgojchlaa.Q
open Go.RowKit Go.Proofs.YtnagcjhgojchlaaW.PrintWords Go.Proofs.YtnagcjhgojchlaaW.PrintLast Go.Proofs.YtnagcjhgojchlaaW.PrintMore
attribute [local go_sem] max2_int min2_int max_two min_two max_three min_three max_four min_four
set_option linter.unusedVariables false
set_option linter.unusedSimpArgs false
def errW:Option Int→Value
 |none=> .nilIface
 |some c=> .iface 0 (.int .i64 c)
theorem errW_none:errW none= .nilIface:=rfl
theorem errW_some (c:Int):errW (some c)= .iface 0 (.int .i64 c):=rfl
theorem info3:(Try.prog.info? 3).map (fun i=>(i.zero,i.size,i.bytes))=some (some (.int .i64 0),1,8):=by kernel_rfl
theorem info4:(Try.prog.info? 4).map (fun i=>(i.zero,i.size,i.bytes))=some (some (.bool false),1,1):=by kernel_rfl
theorem info24:(Try.prog.info? 24).map (fun i=>(i.zero,i.size,i.bytes))=some (some (.slice none 0 0),1,24):=by kernel_rfl
def rd_L2 (xs:List (List Int)) (i:Int):(List Int):=xs.getD i.toNat ([]:List Int)
theorem at_L2 {w:World} {A:Option Addr} {n:Nat} {xs:List (List Int)} (h:Kd.C (Kd.slice 3 (Kd.int .i64)) w A n xs) (i:Int) (h0:0≤i) (h1:i<n): ∃ad A0 c0,A=some ad∧w.cell? (ad.add i.toNat)=some (.slice A0 (rd_L2 xs i).length c0)∧(rd_L2 xs i).length≤c0∧(Kd.int .i64).C w A0 (rd_L2 xs i).length (rd_L2 xs i):=by
 obtain⟨ad,c,e,_,hK,a4⟩:=Kd.C_get h ([]:List Int) i h0 h1
 have hc: ∀j u,c[j]? =some u→w.cell? (ad.add (i.toNat*1+j))=some u:=a4
 obtain⟨A0,c0,rfl,l0,g0⟩:=hK
 exact⟨ad,A0,c0,e,by have hq:=hc 0 _ rfl;rwa [Nat.mul_one,Nat.add_zero]at hq,l0,g0⟩
structure S26 where
 f0:(List Int)
 f1:(List Int)
structure S29 where
 f0:Int
 f1:(List Int)
abbrev Zn (k:Nat) (v:Value):Prop:=some k≠v.ownBlock
theorem Zl {B:Nat} {w0 w1 w:World} (h:Aside0 (Below B w0 w1)) (hw:Below B w0 w1→Below B w0 w:=by intro h_;repeat(first|(with_reducible first|exact h_|apply below_alloc|apply pw_below_drewN|apply below_drew1|refine below_set ?_ (Aside0.out (by assumption)))|exact h_)):Below B w0 w:=hw h.out
theorem Zb {g:Nat} {o:Obj} {w0 w:World} (h:Aside0 (w0.heap[g]? =some o)) (hw:w0.heap[g]? =some o→w.heap[g]? =some o:=by intro h_;(with_reducible repeat(first|refine blk_drewN ?_ _ |refine blk_drew ?_ |refine blk_alloc ?_ _));exact h_):w.heap[g]? =some o:=hw h.out
theorem Zr {α:Type} {d:Kd α} {e:Nat} {w0 w:World} {base:Nat} {ok:Nat→Prop} {v:Value} {xs:List α} (h:Aside0 (d.R e w0 base ok v xs)) (hw:d.R e w0 base ok v xs→d.R e w base ok v xs:=by intro h_;(with_reducible repeat(first|apply Kd.R_alloc|apply Kd.R_drewN|apply Kd.R_drew));exact h_):d.R e w base ok v xs:=hw h.out
theorem Zva {α:Type} {d:Kd α} {e:Nat} {w0 w:World} {base:Nat} {ok:Nat→Prop} {v:Value} {xs:List α} (h:Aside0 (d.V e w0 base ok v xs)) (hw:d.V e w0 base ok v xs→d.V e w base ok v xs:=by intro h_;(with_reducible repeat(first|apply Kd.V_alloc|apply Kd.V_drewN|apply Kd.V_drew));exact h_):d.V e w base ok v xs:=hw h.out
theorem Zm {p:Prop} (h:p):Aside0 p:=Aside0.mk h
theorem Zf {α:Type} {d:Kd α} {e:Nat} {w:World} {base:Nat} {ok:Nat→Prop} {v:Value} {xs:List α} {g t:Nat} {cells:Array Value} (h:Aside0 (d.R e w base ok v xs)) (b:Aside0 (w.heap[g]? =some (.cells cells t (0,0)))) (s0 s1:Value) (ht: ∀q,q∈e::d.E→q≠t:=by decide):d.R e ((w.setCell ⟨g,0,none⟩ s0).setCell ⟨g,1,none⟩ s1) base ok v xs:=Kd.R_mono (Kd.R_far (p:=⟨g,1,none⟩) (Kd.R_far (p:=⟨g,0,none⟩) (Kd.R_types h.out b.out ht) (fun _ hk=>hk.2) s0) (fun _ hk=>hk.2) s1) (fun _ h_=>h_.1)
theorem Zy {α:Type} {d:Kd α} {e:Nat} {w w2:World} {base:Nat} {ok:Nat→Prop} {v:Value} {xs:List α} {g t:Nat} {cells:Array Value} {s0 s1:Value} (h:Aside0 (d.R e w base ok v xs)) (b:Aside0 (w.heap[g]? =some (.cells cells t (0,0)))) (ht: ∀q,q∈e::d.E→q≠t:=by decide) (hw:d.R e ((w.setCell ⟨g,0,none⟩ s0).setCell ⟨g,1,none⟩ s1) base ok v xs→d.R e w2 base ok v xs:=by intro h_;(with_reducible repeat(first|apply Kd.R_alloc|apply Kd.R_drewN|apply Kd.R_drew));exact h_):d.R e w2 base ok v xs:=hw (Zf h b s0 s1 ht)
theorem Zt {α β γ:Type} {d:Kd α} {d1:Kd β} {d2:Kd γ} {e e1 e2:Nat} {W w1:World} {base:Nat} {ok a4 a5:Nat→Prop} {u v1 v2:Value} {xs:List α} {x1:List β} {x2:List γ} (h:d.R e W base ok u xs) (hb:Below W.heap.size W w1) (a6:d1.R e1 w1 W.heap.size a4 v1 x1) (a7:d2.R e2 w1 W.heap.size a5 v2 x2):Aside0 (d.R e w1 base (fun k=>(ok k∧some k≠v1.ownBlock)∧some k≠v2.ownBlock) u xs):=Aside0.mk (Kd.R_mono (Kd.R_told (Kd.R_told (Kd.R_old h hb) (Kd.R_base a6)) (Kd.R_base a7)) (fun _ h_=>h_.1))
theorem Zu {α β γ:Type} {d:Kd α} {d1:Kd β} {d2:Kd γ} {e e1 e2:Nat} {w0 W w1:World} {base:Nat} {ok a4 a5:Nat→Prop} {u v1 v2:Value} {xs:List α} {x1:List β} {x2:List γ} (h:Aside0 (d.R e w0 base ok u xs)) (hb:Below W.heap.size W w1) (a6:d1.R e1 w1 W.heap.size a4 v1 x1) (a7:d2.R e2 w1 W.heap.size a5 v2 x2) (hw:d.R e w0 base ok u xs→d.R e W base ok u xs:=by intro h_;(with_reducible repeat(first|apply Kd.R_alloc|apply Kd.R_drewN|apply Kd.R_drew));exact h_):Aside0 (d.R e w1 base (fun k=>(ok k∧some k≠v1.ownBlock)∧some k≠v2.ownBlock) u xs):=Zt (hw h.out) hb a6 a7
theorem Zw {α β:Type} {d:Kd α} {d1:Kd β} {e e1:Nat} {W w1:World} {base:Nat} {ok a4:Nat→Prop} {u v:Value} {xs:List α} {x1:List β} (h:d.R e w1 W.heap.size ok v xs) (h1:d1.R e1 W base a4 u x1):d.R e w1 W.heap.size (fun k=>ok k∧some k≠u.ownBlock) v xs:=Kd.R_new' h (Kd.R_lt h1)
theorem Zv {α β:Type} {d:Kd α} {d1:Kd β} {e e1:Nat} {w0 W w1:World} {base:Nat} {ok a4:Nat→Prop} {u v:Value} {xs:List α} {x1:List β} (h:d.R e w1 W.heap.size ok v xs) (h1:Aside0 (d1.R e1 w0 base a4 u x1)) (hw:d1.R e1 w0 base a4 u x1→d1.R e1 W base a4 u x1:=by intro h_;(with_reducible repeat(first|apply Kd.R_alloc|apply Kd.R_drewN|apply Kd.R_drew));exact h_):d.R e w1 W.heap.size (fun k=>ok k∧some k≠u.ownBlock) v xs:=Zw h (hw h1.out)
theorem Zj {α:Type} {d:Kd α} {e:Nat} {w w0 W w1:World} {ok:Nat→Prop} {v:Value} {xs:List α} (h:d.R e w1 W.heap.size ok v xs) (hB:Aside0 (Below w.heap.size w w0)) (hw:Below w.heap.size w w0→Below w.heap.size w W:=by intro h_;repeat(first|(with_reducible first|exact h_|apply below_alloc|apply pw_below_drewN|apply below_drew1|refine below_set ?_ (Aside0.out (by assumption)))|exact h_)):Aside0 (d.R e w1 w.heap.size ok v xs):=Aside0.mk (Kd.R_lower h (below_size (hw hB.out)))
theorem Zk {g:Nat} {o:Obj} {w0 W w1:World} (h:Aside0 (w0.heap[g]? =some o)) (hb:Below W.heap.size W w1) (hw:w0.heap[g]? =some o→W.heap[g]? =some o:=by intro h_;(with_reducible repeat(first|refine blk_drewN ?_ _ |refine blk_drew ?_ |refine blk_alloc ?_ _));exact h_):Aside0 (w1.heap[g]? =some o):=Aside0.mk (blk_below (hw h.out) hb)
theorem Zo {α:Type} {d:Kd α} {e:Nat} {w0 W w1:World} {base:Nat} {ok:Nat→Prop} {v:Value} {xs:List α} (h:Aside0 (d.R e w0 base ok v xs)) (hb:Below W.heap.size W w1) (hw:d.R e w0 base ok v xs→d.R e W base ok v xs:=by intro h_;(with_reducible repeat(first|apply Kd.R_alloc|apply Kd.R_drewN|apply Kd.R_drew));exact h_):Aside0 (d.R e w1 base ok v xs):=Aside0.mk (Kd.R_below (hw h.out) hb)
theorem Zh {w w0 W w1:World} (hB:Aside0 (Below w.heap.size w w0)) (hb:Below W.heap.size W w1) (hw:Below w.heap.size w w0→Below w.heap.size w W:=by intro h_;repeat(first|(with_reducible first|exact h_|apply below_alloc|apply pw_below_drewN|apply below_drew1|refine below_set ?_ (Aside0.out (by assumption)))|exact h_)):Aside0 (Below w.heap.size w w1):=Aside0.mk (below_step (hw hB.out) hb)
theorem Zq {g n:Nat} {o:Obj} {w0 W:World} (hg:n=W.heap.size) (h:Aside0 (w0.heap[g]? =some o)) (hw:w0.heap[g]? =some o→W.heap[g]? =some o:=by intro h_;(with_reducible repeat(first|refine blk_drewN ?_ _ |refine blk_drew ?_ |refine blk_alloc ?_ _));exact h_):Aside0 (g≠n):=Aside0.mk (by rw[hg];exact Nat.ne_of_lt (blk_lt (hw h.out)))
theorem Zp {g n:Nat} {o:Obj} {w0 W:World} (hg:n=W.heap.size) (h:Aside0 (w0.heap[g]? =some o)) (hw:w0.heap[g]? =some o→W.heap[g]? =some o:=by intro h_;(with_reducible repeat(first|refine blk_drewN ?_ _ |refine blk_drew ?_ |refine blk_alloc ?_ _));exact h_):Aside0 (n≠g):=Aside0.mk (by rw[hg];exact Nat.ne_of_gt (blk_lt (hw h.out)))
theorem Zx {n:Nat} {w w0 W:World} (hg:n=W.heap.size) (hB:Aside0 (Below w.heap.size w w0)) (hw:Below w.heap.size w w0→Below w.heap.size w W:=by intro h_;repeat(first|(with_reducible first|exact h_|apply below_alloc|apply pw_below_drewN|apply below_drew1|refine below_set ?_ (Aside0.out (by assumption)))|exact h_)):Aside0 (w.heap.size≤n):=Aside0.mk (by rw[hg];exact below_size (hw hB.out))
theorem Zc {α:Type} {d:Kd α} {e:Nat} {w0 w:World} {base:Nat} {ok ok':Nat→Prop} {v:Value} {xs:List α} (h:Aside0 (d.R e w0 base ok v xs)) (hok: ∀k,ok k→ok' k:=by first|exact fun _ _ =>trivial|exact fun _ h_=>h_|(intro k_ hk_;revert hk_;(try simp only[and_imp]);intros;and_intros<;>first|assumption|simp[Zn,Value.ownBlock])) (hw:d.R e w0 base ok' v xs→d.R e w base ok' v xs:=by intro h_;(with_reducible repeat(first|apply Kd.R_alloc|apply Kd.R_drewN|apply Kd.R_drew));exact h_):d.R e w base ok' v xs:=hw (Kd.R_mono h.out hok)
def fl (n m:Nat):Array Bool:=((List.range n).map fun i=>m.testBit i).toArray
theorem put_lit {l0 lN:List Value} {e:List Deferred} {v v':Value} {n:Nat} (hv:v=v') (hl:l0.set n v'=lN):Act.put ⟨l0.toArray,e⟩ (some n) v=⟨lN.toArray,e⟩:=by
 subst hv;subst hl;simp only[Act.put,List.setIfInBounds_toArray]
theorem Yu {P:Program} {ops:Array Oper} {Q:Exit→Act→World→Prop} {md:Region.Mode} {S:World→Prop} {ds:List Nat} {T:Bool × List (List Nat × List Nat)} {oi:Oper} {v v':Value} {fuel:Nat} {l:Array Bool} {l0 lN:List Value} {e:List Deferred} {w:World} (i n:Nat) (l':Array Bool) (hT:Aside0 (rtab md ops=T)) (hi:ops[i]? =some oi:=by exact rfl) (hN:oi.dst=some n:=by exact rfl) (hc:anyT T l.toList l'.toList i=true:=by kernel_rfl) (hQ: ∀c a w,Q (.panic c) (a.put oi.dst v) w→Q (.panic c) a w:=by exact fun _ _ _ h=>h)
  (hy:Yields P ops oi v ⟨l0.toArray,e⟩:=by exact Or.inl ⟨by rfl,by intro w';go_simp;with_reducible rfl⟩) (hv:v=v':=by(try simp only[i64_w,i32_w]);rfl) (hl:l0.set n v'=lN:=by dsimp only[List.set_cons_succ,List.set_cons_zero]<;>rfl) (h:wpAnyLast P md ops Q S ds fuel l' ⟨lN.toArray,e⟩ w):wpAnyLast P md ops Q S ds (fuel+1) l ⟨l0.toArray,e⟩ w:=pure_ l' hi hN (any_of hT.out hc) hQ hy (put_lit hv hl) h
theorem Yt {P:Program} {ops:Array Oper} {Q:Exit→Act→World→Prop} {md:Region.Mode} {S:World→Prop} {ds:List Nat} {T:Bool × List (List Nat × List Nat)} {B:List Nat} {oi:Oper} {v v':Value} {fuel:Nat} {l:Array Bool} {l0 lN:List Value} {e:List Deferred} {w:World} (i n:Nat) (l':Array Bool) (hT:Aside0 (rtab md ops=T)) (hB:Aside0 (waitsOk T.2 B=true)) (hS:S w) (hi:ops[i]? =some oi:=by exact rfl) (hN:oi.dst=some n:=by exact rfl) (hc:takeW T B ds l.toList l'.toList i=true:=by kernel_rfl) (hQ: ∀c a w,Q (.panic c) (a.put oi.dst v) w→Q (.panic c) a w:=by exact fun _ _ _ h=>h)
  (hy:YieldsIf P ops S oi v ⟨l0.toArray,e⟩:=by exact Or.inl ⟨by rfl,by intro w' hs_;repeat(have:=hs_.1;replace hs_:=hs_.2);go_simp;with_reducible rfl⟩) (hv:v=v':=by(try simp only[i64_w,i32_w]);rfl) (hl:l0.set n v'=lN:=by dsimp only[List.set_cons_succ,List.set_cons_zero]<;>rfl) (h:wpAnyLast P md ops Q S ds fuel l' ⟨lN.toArray,e⟩ w):wpAnyLast P md ops Q S ds (fuel+1) l ⟨l0.toArray,e⟩ w:=take_ l' hi hN (take_ofW hT.out hB.out hc) hQ hy hS (put_lit hv hl) h
theorem Yn {P:Program} {ops:Array Oper} {Q:Exit→Act→World→Prop} {md:Region.Mode} {S:World→Prop} {ds:List Nat} {v v':Value} {fuel:Nat} {l:Array Bool} {l0 lN:List Value} {e:List Deferred} {w:World} (n:Nat) (hv:v=v':=by(try simp only[i64_w,i32_w]);rfl) (hl:l0.set n v'=lN:=by dsimp only[List.set_cons_succ,List.set_cons_zero]<;>rfl) (h:wpAnyLast P md ops Q S ds fuel l ⟨lN.toArray,e⟩ w):wpAnyLast P md ops Q S ds fuel l (Act.put ⟨l0.toArray,e⟩ (some n) v) w:=norm_ (put_lit hv hl) h
theorem Yf {g p t:Nat} {cs:Array Value} {w:World} {a b:Value} (h:Aside0 (w.heap[g]? =some (.cells cs t (0,0)))) (n:Aside0 (g≠p)):((w.setCell ⟨p,0,none⟩ a).setCell ⟨p,1,none⟩ b).heap[g]? =some (.cells cs t (0,0)):=blk_far (blk_far h.out n.out _) n.out _
theorem Ga {P:Program} {ops:Array Oper} {Q:Exit→Act→World→Prop} {rest:List Oper} {oi:Oper} {a:Act} {w:World} (N:Option Tmp) {f:FuncId} {fn:Func} {xs_:Array Operand} {ts:Array TypeId} (hf:P.funcs[f]? =some fn) (args:Array Value) (h:Calls P f args w fun e w'=> ∃v,e= .returned v∧wpList P ops Q rest (a.put N v) w') (hd:oi.dst=N:=by exact rfl) (hg:oi.guard=none:=by exact rfl) (hname:(fn.name == "runtime.NumGoroutine")=false:=by kernel_rfl) (hb:fn.body.isSome=true:=by exact rfl) (hop:oi.op= .call {callee:= .value (.func f),args:=xs_,argTypes:=ts}:=by exact rfl) (hargs:xs_.map a.eval=args:=by(try simp only[List.map_toArray,List.map_cons,List.map_nil]);first|done|rfl|(simp only[List.length_drop,List.length_take];rfl)):wpList P ops Q (oi::rest) a w:=goesL_ N hd hg hf hname hb args hop hargs h
theorem Zd {α:Type} [BEq α] [LawfulBEq α] [DecidableEq α] {a b:α} (h: ¬(a != b)=true):(a != b)=false∧decide (a=b)=true∧(a == b)=true:=by simp at h;simp[h]
theorem Ze {p:Prop} (h:p:=by first|rfl|(simp[errW_none,errW_some]<;>rfl)|(simp[*,errW_none,errW_some]<;>rfl)):p:=h
theorem Zs {p:Prop} (h:p:=by first|rfl|(simp;done)|(simp[*];done)):p:=h
theorem Znl {p:Prop} (h:p:=by first|exact Kd.R_nil _ _ _ _ _ |exact Kd.N_nil _ _ _ _ _ |exact Kd.V_nil _ _ _ _ _ |exact Kd.Q_nil _ _ _ _ _ |exact Kd.S_nil _ _ _ _ _):p:=h
theorem Zca {q p:Prop} (h:q) (t:q→p:=by intro h_;repeat(first|exact h_|(with_reducible refine Kd.C_alloc ?_ _)|(with_reducible refine Kd.C_drewN ?_ _)|(with_reducible refine Kd.C_drew ?_))):p:=t h
theorem Zke {w w1 w2:World} {g:Nat} {row:Option Nat} (h:Aside0 (KeepBut w w1 g row)) (t:KeepBut w w1 g row→KeepBut w w2 g row:=by intro h_;repeat(first|(with_reducible first|exact h_|apply KeepBut.set_|apply keep_drewN|apply keep_drew|apply keep_alloc|refine keep_far ?_ (Aside0.out (by assumption)) _)|exact h_)):KeepBut w w2 g row:=t h.out
theorem Zb0 {α β:Type} {a:Option α} {f:α→Option β} {r:β} (h:a.bind f=some r): ∃x,Aside0 (a=some x)∧f x=some r:=by
 obtain⟨x,h1,h2⟩:=Option.bind_eq_some_iff.mp h
 exact⟨x,⟨h1⟩,h2⟩
theorem Zbf {g:Nat} {o:Obj} {w0 w:World} (h:Aside0 (w0.heap[g]? =some o)) (t:w0.heap[g]? =some o→w.heap[g]? =some o:=by intro h_;(with_reducible repeat(first|exact h_|refine blk_drewN ?_ _ |refine blk_drew ?_ |refine blk_alloc ?_ _ |refine blk_far ?_ (Aside0.out (by assumption)) _));try exact h_):w.heap[g]? =some o:=t h.out
theorem Zc0 {w:World} {g t:Nat} {cs:Array Value} {v:Value} (h:Aside0 (w.heap[g]? =some (.cells cs t (0,0)))) (j:Nat) (hv:cs[j]? =some v:=by rfl):w.cell? ⟨g,j,none⟩=some v:=(blk_cell h.out j).trans hv
theorem Zif {α:Type} {c:Prop} [Decidable c] {a:Option α} {r:α} (h:(if c then a else none)=some r):c∧a=some r:=by
 by_cases hc:c
 ·
  rw[if_pos hc]at h;exact⟨hc,h⟩
 ·
  rw[if_neg hc]at h;cases h
theorem Zie {α:Type} {c:Prop} [Decidable c] {b:Option α} {r:α} (h:(if c then none else b)=some r): ¬c∧b=some r:=by
 by_cases hc:c
 ·
  rw[if_pos hc]at h;cases h
 ·
  rw[if_neg hc]at h;exact⟨hc,h⟩
theorem Zgb {α β:Type} {e:α} {f:α→Option β} {r:β} (h:(some e).bind f=some r): ∃y,Aside0 (y=e)∧f y=some r:=⟨e,⟨rfl⟩,h⟩
theorem Zoa {p:Prop} [Decidable p] (h:decide p=true:=by first|(with_reducible assumption)|assumption):p:=of_decide_eq_true h
theorem Zrb {g:Nat} {o:Obj} {w0 w:World} (h:w0.heap[g]? =some o) (t:w0.heap[g]? =some o→w.heap[g]? =some o:=by intro h_;(with_reducible repeat(first|refine blk_drewN ?_ _ |refine blk_drew ?_ |refine blk_alloc ?_ _));exact h_):w.heap[g]? =some o:=t h
theorem Zrr {α:Type} {d:Kd α} {e:Nat} {w0 w:World} {base:Nat} {ok:Nat→Prop} {v:Value} {xs:List α} (h:d.R e w0 base ok v xs) (t:d.R e w0 base ok v xs→d.R e w base ok v xs:=by intro h_;(with_reducible repeat(first|apply Kd.R_alloc|apply Kd.R_drewN|apply Kd.R_drew));exact h_):d.R e w base ok v xs:=t h
theorem Zrv {α:Type} {d:Kd α} {e:Nat} {w0 w:World} {base:Nat} {ok:Nat→Prop} {v:Value} {xs:List α} (h:d.V e w0 base ok v xs) (t:d.V e w0 base ok v xs→d.V e w base ok v xs:=by intro h_;(with_reducible repeat(first|apply Kd.V_alloc|apply Kd.V_drewN|apply Kd.V_drew));exact h_):d.V e w base ok v xs:=t h
theorem Zrq {α:Type} {d:Kd α} {e:Nat} {w0 w:World} {base:Nat} {ok:Nat→Prop} {v:Value} {xs:List α} (h:d.Q e w0 base ok v xs) (t:d.Q e w0 base ok v xs→d.Q e w base ok v xs:=by intro h_;(with_reducible repeat(first|apply Kd.Q_alloc|apply Kd.Q_drewN|apply Kd.Q_drew));exact h_):d.Q e w base ok v xs:=t h
theorem Zrs {α:Type} {d:Kd α} {e:Nat} {w0 w:World} {base:Nat} {ok:Nat→Prop} {v:Value} {xs:List α} (h:d.S e w0 base ok v xs) (t:d.S e w0 base ok v xs→d.S e w base ok v xs:=by intro h_;(with_reducible repeat(first|apply Kd.S_alloc|apply Kd.S_drewN|apply Kd.S_drew));exact h_):d.S e w base ok v xs:=t h
theorem Zhn {p q:Prop} (h:q) (t:q→p:=by intro h_;first|exact h_|exact h_.1|exact h_.2|exact h_.1.1|exact h_.1.2|exact h_.2.1|exact h_.2.2|exact h_.1.1.1|exact h_.1.1.2|exact h_.1.2.1|exact h_.1.2.2|exact h_.2.1.1|exact h_.2.1.2|exact h_.2.2.1|exact h_.2.2.2|exact h_.1.1.1.1|exact h_.1.1.1.2|exact h_.1.1.2.1|exact h_.1.1.2.2|exact h_.1.2.1.1|exact h_.1.2.1.2|exact h_.1.2.2.1|exact h_.1.2.2.2|exact h_.2.1.1.1|exact h_.2.1.1.2|exact h_.2.2.2.1|exact h_.2.2.2.2):p:=t h
theorem Zbe {P:Program} {ops:Array Oper} {Q:Exit→Act→World→Prop} {rest:List Oper} {o:Oper} {a:Act} {W:World} (N:Tmp) (cs:Array Value) (t:TypeId)
  (h: ∀g,g=W.heap.size→ ∀w1,w1.heap[g]? =some (.cells cs t (0,0))→Below W.heap.size W w1→wpList P ops Q rest (a.put o.dst (.pointer (some ⟨g,0,none⟩))) w1) (hgd:o.guard=none:=by rfl) (hd:o.dst=some N:=by rfl) (hrun:(execOp a.eval o).run P W= .ok (.value (.pointer (some ⟨W.heap.size,0,none⟩))) (W.alloc (.cells cs t (0,0))):=by first|(go_simp;done)|(go_simp;rfl)):wpList P ops Q (o::rest) a W:=box_event hgd hd hrun h
theorem Zbs {P:Program} {ops:Array Oper} {Q:Exit→Act→World→Prop} {Kc:Act→World→Prop} {o:Oper} {a:Act} {W:World} (N:Tmp) (cs:Array Value) (t:TypeId)
  (h: ∀g,g=W.heap.size→ ∀w1,w1.heap[g]? =some (.cells cs t (0,0))→Below W.heap.size W w1→Kc (a.put o.dst (.pointer (some ⟨g,0,none⟩))) w1) (hw:Region.wanted o (yielded ops a.tmps)=true:=by rfl) (hd:o.dst=some N:=by rfl) (hrun:(execOp a.eval o).run P W= .ok (.value (.pointer (some ⟨W.heap.size,0,none⟩))) (W.alloc (.cells cs t (0,0))):=by first|(go_simp;done)|(go_simp;rfl)):if Region.wanted o (yielded ops a.tmps)=true then Oper.wp P o a W Kc Q else Kc (a.put o.dst undef) W:=box_step hw hd hrun h
theorem Z2 {w:World} {g t:Nat} {a b:Value} (h:Aside0 (w.heap[g]? =some (.cells #[a,b] t (0,0)))):w.cell? ⟨g,0,none⟩=some a∧w.cell? ⟨g,1,none⟩=some b∧w.frozen? ⟨g,0,none⟩=false∧w.frozen? ⟨g,1,none⟩=false:=⟨(blk_cell h.out 0).trans rfl,(blk_cell h.out 1).trans rfl,blk_frozen h.out 0,blk_frozen h.out 1⟩
theorem Zfm {α:Type} {d:Kd α} {e:Nat} {w:World} {base:Nat} {ok ok':Nat→Prop} {v:Value} {xs:List α} {g t:Nat} {cells:Array Value} (h:Aside0 (d.R e w base ok v xs)) (b:Aside0 (w.heap[g]? =some (.cells cells t (0,0)))) (s0 s1:Value) (hok: ∀k,ok k∧k≠g→ok' k) (ht: ∀q,q∈e::d.E→q≠t:=by decide):d.R e ((w.setCell ⟨g,0,none⟩ s0).setCell ⟨g,1,none⟩ s1) base ok' v xs:=Kd.R_mono (Kd.R_far (p:=⟨g,1,none⟩) (Kd.R_far (p:=⟨g,0,none⟩) (Kd.R_types h.out b.out ht) (fun _ hk=>hk.2) s0) (fun _ hk=>hk.2) s1) hok
theorem Zfq {α:Type} {d:Kd α} {e:Nat} {w:World} {base:Nat} {ok ok':Nat→Prop} {v:Value} {xs:List α} {g t:Nat} {cells:Array Value} (h:Aside0 (d.Q e w base ok v xs)) (b:Aside0 (w.heap[g]? =some (.cells cells t (0,0)))) (s0 s1:Value) (hok: ∀k,ok k∧k≠g→ok' k) (ht: ∀q,q∈e::d.E→q≠t:=by decide):d.Q e ((w.setCell ⟨g,0,none⟩ s0).setCell ⟨g,1,none⟩ s1) base ok' v xs:=Kd.Q_mono (Kd.Q_far (p:=⟨g,1,none⟩) (Kd.Q_far (p:=⟨g,0,none⟩) (Kd.Q_types h.out b.out ht) (fun _ hk=>hk.2) s0) (fun _ hk=>hk.2) s1) hok
theorem Zs2 {α β:Type} {a a':α} {b b':β} (h:some (a,b)=some (a',b')):a=a'∧b=b':=by simpa using h
theorem Zs3 {α β γ:Type} {a a':α} {b b':β} {c c':γ} (h:some (a,b,c)=some (a',b',c')):a=a'∧b=b'∧c=c':=by simpa using h
theorem Zs4 {α β γ δ:Type} {a a':α} {b b':β} {c c':γ} {d d':δ} (h:some (a,b,c,d)=some (a',b',c',d')):a=a'∧b=b'∧c=c'∧d=d':=by simpa using h
theorem Zit {α:Type} {c:Prop} [Decidable c] {a:Option α} {r:α} (h:(if c then a else none)=some r):decide c=true∧a=some r:=⟨decide_eq_true (Zif h).1,(Zif h).2⟩
theorem Zat {w w0:World} {A:Option Addr} {n:Nat} {xs:List Int} (h:Aside0 ((Kd.int .i64).C w A n xs)) (hB:Aside0 (Below w.heap.size w w0)) (i:Int) (p:decide (0≤i)=true:=by first|(with_reducible assumption)|assumption) (q:decide (i<n)=true:=by first|(with_reducible assumption)|assumption): ∃ad,A=some ad∧w0.cell? (ad.add i.toNat)=some (.int .i64 (rd xs i))∧(0≤i)=True∧(i<(n:Int))=True:=by
 obtain⟨ad,e,hx⟩:=Kd.at_int h.out i (of_decide_eq_true p) (of_decide_eq_true q)
 exact⟨ad,e,(hB.out.cell (World.block_lt_of_cell? w _ hx)).trans hx,eq_true (of_decide_eq_true p),eq_true (of_decide_eq_true q)⟩
theorem Zwb {α:Type} {d:Kd α} {e:Nat} {w w':World} {base:Nat} {ok:Nat→Prop} {xs:List α} {go n c i:Nat} {s:Value} {g t:Nat} {cs:Array Value} (hW:w.setCell ⟨go,i,none⟩ s=w') (b:Aside0 (w.heap[g]? =some (.cells cs t (0,0)))) (h:Aside0 (d.R e w base ok (.slice (some ⟨go,0,none⟩) n c) xs)) (ht:e≠t:=by decide):Aside0 (w'.heap[g]? =some (.cells cs t (0,0))):=by
 subst hW;exact⟨blk_far b.out (by have h_:=Kd.R_ne h.out b.out ht;intro e_;exact h_ (by rw[e_];rfl)) _⟩
theorem Zwr {α:Type} {d:Kd α} {e:Nat} {w w':World} {base:Nat} {ok:Nat→Prop} {v:Value} {xs:List α} {go i:Nat} {s:Value} (hW:w.setCell ⟨go,i,none⟩ s=w') (h:Aside0 (d.R e w base ok v xs)) (hne: ∀k,ok k→k≠go):Aside0 (d.R e w' base ok v xs):=by
 subst hW;exact⟨Kd.R_far h.out hne _⟩
theorem Zw2 {α:Type} {d:Kd α} {e:Nat} {w w':World} {base:Nat} {ok:Nat→Prop} {v:Value} {xs:List α} {g t:Nat} {cells:Array Value} {s0 s1:Value} (hW:(w.setCell ⟨g,0,none⟩ s0).setCell ⟨g,1,none⟩ s1=w') (h:Aside0 (d.R e w base ok v xs)) (b:Aside0 (w.heap[g]? =some (.cells cells t (0,0)))) (ht: ∀q,q∈e::d.E→q≠t:=by decide):Aside0 (d.R e w' base ok v xs):=by
 subst hW;exact⟨Zfm h b s0 s1 (fun _ hk=>hk.1) ht⟩
theorem Zq2 {α:Type} {d:Kd α} {e:Nat} {w w':World} {base:Nat} {ok:Nat→Prop} {v:Value} {xs:List α} {g t:Nat} {cells:Array Value} {s0 s1:Value} (hW:(w.setCell ⟨g,0,none⟩ s0).setCell ⟨g,1,none⟩ s1=w') (h:Aside0 (d.Q e w base ok v xs)) (b:Aside0 (w.heap[g]? =some (.cells cells t (0,0)))) (ht: ∀q,q∈e::d.E→q≠t:=by decide):Aside0 (d.Q e w' base ok v xs):=by
 subst hW;exact⟨Zfq h b s0 s1 (fun _ hk=>hk.1) ht⟩
def laws_big.f (l0:List Int) (l1:List Int):Option (Bool):=if(l0.length:Int)>1048576 then(some true)else(some (decide ((l1.length:Int)>(wrap64 (1048576 - (l0.length:Int))))))
set_option maxHeartbeats 8000000 in
set_option maxRecDepth 100000 in
theorem laws_big.calls (A0:Option Addr) (c0:Nat) (l0:List Int) (A1:Option Addr) (c1:Nat) (l1:List Int) (r:Bool) (w:World) (a6:Kd.C (Kd.int .u8) w A0 l0.length l0) (a7:l0.length≤c0) (a8:Kd.C (Kd.int .u8) w A1 l1.length l1) (a9:l1.length≤c1) (h:laws_big.f l0 l1=some r):
  Calls Try.prog 4 #[.slice A0 l0.length c0,.slice A1 l1.length c1] w fun e w'=>e= .returned (.bool r)∧Drawn0 w w':=by
 have b6:=Aside0.mk a6;have b7:=Aside0.mk a7;clear a6 a7;have b8:=Aside0.mk a8;have b9:=Aside0.mk a9;clear a8 a9;have H:(if(l0.length:Int)>1048576 then(some true)else(some (decide ((l1.length:Int)>(wrap64 (1048576 - (l0.length:Int)))))))=some r:=h;clear h
 by_cases c3:(l0.length:Int)>1048576
 ·
  rw[if_pos c3]at H;have a4:decide (1048576<(l0.length:Int))=true:=decide_eq_true c3;have a5:decide (1048576<l0.length)=true:=decide_eq_true (by omega);clear c3;obtain rfl:=Option.some.inj H
  go_enter Try.func4,Try.ntmps4
  go_wp2
  go_ret
  exact⟨by first|rfl|(simp;done)|(simp[*];done),by repeat(first|exact Drawn0.refl _ |apply Drawn0.step)⟩
 ·
  rw[if_neg c3]at H;have a4:decide (1048576<(l0.length:Int))=false:=decide_eq_false c3;have a5:decide (1048576<l0.length)=false:=decide_eq_false (by omega);clear c3;obtain rfl:=Option.some.inj H
  go_enter Try.func4,Try.ntmps4
  go_wp2
  go_ret
  exact⟨by first|rfl|(simp;done)|(simp[*];done),by repeat(first|exact Drawn0.refl _ |apply Drawn0.step)⟩
def IsS61 (w0 W:World) (g:Nat) (f0:List Int) (f1:Int) (f2:Int):Prop:= ∃A0 c0,W.heap[g]? =some (.cells #[.slice A0 f0.length c0,.int .i64 f1,.int .u64 f2] 61 (0,0))∧w0.heap.size≤g∧Kd.C (Kd.int .u8) w0 A0 f0.length f0
theorem IsS61.grown {w0 W:World} {g:Nat} {f0:List Int} {f1:Int} {f2:Int} {W1:World} {row:Option Nat} (h:IsS61 w0 W g f0 f1 f2) (hw:W.grownBy W1 row) (hne:some g≠row):IsS61 w0 W1 g f0 f1 f2:=by
 obtain⟨A0,c0,hb,hg,a4⟩:=h
 exact⟨A0,c0,blk_grown hb hw hne,hg,a4⟩
theorem IsS61.fresh {w0 W:World} {g:Nat} {f0:List Int} {f1:Int} {f2:Int} (h:IsS61 w0 W g f0 f1 f2): ∀k,W.heap.size≤k→k≠g:=by
 obtain⟨A0,c0,hb,hg,a4⟩:=h
 exact Kd.freshB hb
theorem IsS61.kept {w0 W:World} {g:Nat} {f0:List Int} {f1:Int} {f2:Int} {W1:World} {S:Nat→Prop} (h:IsS61 w0 W g f0 f1 f2) (hk:Kept W W1 S) (hne: ¬S g):IsS61 w0 W1 g f0 f1 f2:=by
 obtain⟨A0,c0,hb,hg,a4⟩:=h
 exact⟨A0,c0,blk_kept hb hk hne,hg,a4⟩
theorem IsS61.below {w0 W:World} {g:Nat} {f0:List Int} {f1:Int} {f2:Int} {W1:World} (h:IsS61 w0 W g f0 f1 f2) (hw:Below W.heap.size W W1):IsS61 w0 W1 g f0 f1 f2:=h.grown (grown_of_below hw none) (by simp)
theorem IsS61.alloc {w0 W:World} {g:Nat} {f0:List Int} {f1:Int} {f2:Int} (h:IsS61 w0 W g f0 f1 f2) (o:Obj):IsS61 w0 (W.alloc o) g f0 f1 f2:=h.below (below_alloc (Below.refl _ _) o)
theorem IsS61.drewN {w0 W:World} {g:Nat} {f0:List Int} {f1:Int} {f2:Int} (h:IsS61 w0 W g f0 f1 f2) (m:Nat):IsS61 w0 (W.drewN m) g f0 f1 f2:=h
theorem IsS61.drew {w0 W:World} {g:Nat} {f0:List Int} {f1:Int} {f2:Int} (h:IsS61 w0 W g f0 f1 f2):IsS61 w0 W.drew g f0 f1 f2:=h
theorem IsS61.at_ {w0 W:World} {g:Nat} {f0:List Int} {f1:Int} {f2:Int} {w':World} {m:Nat} (hq:W.drewN m=w') (h:IsS61 w0 W g f0 f1 f2):IsS61 w0 w' g f0 f1 f2:=by subst hq;exact IsS61.drewN h m
theorem IsS61.apart {w0 W:World} {g:Nat} {f0:List Int} {f1:Int} {f2:Int} {α:Type} {d:Kd α} {e:Nat} {base:Nat} {ok:Nat→Prop} {v:Value} {xs:List α} (h:IsS61 w0 W g f0 f1 f2) (ho:d.R e W base ok v xs) (ht: ∀q,q∈e::d.E→q≠61):d.R e W base (fun k=>ok k∧k≠g) v xs:=by
 obtain⟨A0,c0,hb,hg,a4⟩:=h
 exact Kd.R_types ho hb ht
theorem IsS61.own_ne {w0 W:World} {g:Nat} {f0:List Int} {f1:Int} {f2:Int} {α:Type} {d:Kd α} {e:Nat} {base:Nat} {ok:Nat→Prop} {v:Value} {xs:List α} (h:IsS61 w0 W g f0 f1 f2) (ho:d.R e W base ok v xs) (ht:e≠61):some g≠v.ownBlock:=by
 obtain⟨A0,c0,hb,hg,a4⟩:=h
 exact Kd.R_ne ho hb ht
theorem IsS61.apartQ {w0 W:World} {g:Nat} {f0:List Int} {f1:Int} {f2:Int} {α:Type} {d:Kd α} {e:Nat} {base:Nat} {ok:Nat→Prop} {v:Value} {xs:List α} (h:IsS61 w0 W g f0 f1 f2) (ho:d.Q e W base ok v xs) (ht: ∀q,q∈e::d.E→q≠61):d.Q e W base (fun k=>ok k∧k≠g) v xs:=by
 obtain⟨A0,c0,hb,hg,a4⟩:=h
 exact Kd.Q_types ho hb ht
theorem IsS61.lt {w0 W:World} {g:Nat} {f0:List Int} {f1:Int} {f2:Int} (h:IsS61 w0 W g f0 f1 f2):g<W.heap.size:=by
 obtain⟨A0,c0,hb,hg,a4⟩:=h
 exact blk_lt hb
theorem IsS61.ge {w0 W:World} {g:Nat} {f0:List Int} {f1:Int} {f2:Int} (h:IsS61 w0 W g f0 f1 f2):w0.heap.size≤g:=by
 obtain⟨A0,c0,hb,hg,a4⟩:=h
 exact hg
theorem IsS61.far {w0 W:World} {g:Nat} {f0:List Int} {f1:Int} {f2:Int} {p:Addr} (h:IsS61 w0 W g f0 f1 f2) (hne:g≠p.block) (u:Value):IsS61 w0 (W.setCell p u) g f0 f1 f2:=by
 obtain⟨A0,c0,hb,hg,a4⟩:=h
 exact⟨A0,c0,blk_far hb hne u,hg,a4⟩
theorem cellS61_0 {W:World} {g:Nat} {A0:Option Addr} {c0:Nat} {f0:List Int} {f1:Int} {f2:Int} (h:W.heap[g]? =some (.cells #[.slice A0 f0.length c0,.int .i64 f1,.int .u64 f2] 61 (0,0))):W.cell? ⟨g,0,none⟩=some (.slice A0 f0.length c0):=(blk_cell h 0).trans rfl
theorem cellS61_1 {W:World} {g:Nat} {A0:Option Addr} {c0:Nat} {f0:List Int} {f1:Int} {f2:Int} (h:W.heap[g]? =some (.cells #[.slice A0 f0.length c0,.int .i64 f1,.int .u64 f2] 61 (0,0))):W.cell? ⟨g,1,none⟩=some (.int .i64 f1):=(blk_cell h 1).trans rfl
theorem IsS61.set_1 {w0 W:World} {g:Nat} {f0:List Int} {f1:Int} {f2:Int} (h:IsS61 w0 W g f0 f1 f2) (x:Int):IsS61 w0 (W.setCell ⟨g,1,none⟩ (.int .i64 x)) g f0 x f2:=by
 obtain⟨A0,c0,hb,hg,a4⟩:=h
 exact⟨A0,c0,by simpa using blk_set hb 1 (.int .i64 x),hg,a4⟩
theorem cellS61_2 {W:World} {g:Nat} {A0:Option Addr} {c0:Nat} {f0:List Int} {f1:Int} {f2:Int} (h:W.heap[g]? =some (.cells #[.slice A0 f0.length c0,.int .i64 f1,.int .u64 f2] 61 (0,0))):W.cell? ⟨g,2,none⟩=some (.int .u64 f2):=(blk_cell h 2).trans rfl
theorem IsS61.set_2 {w0 W:World} {g:Nat} {f0:List Int} {f1:Int} {f2:Int} (h:IsS61 w0 W g f0 f1 f2) (x:Int):IsS61 w0 (W.setCell ⟨g,2,none⟩ (.int .u64 x)) g f0 f1 x:=by
 obtain⟨A0,c0,hb,hg,a4⟩:=h
 exact⟨A0,c0,by simpa using blk_set hb 2 (.int .u64 x),hg,a4⟩
theorem Zis {w0 w1 w2:World} {g:Nat} {f0 e0:List Int} {f1 f2 e1 e2:Int} (h:Aside0 (IsS61 w0 w1 g f0 f1 f2)) (t:IsS61 w0 w1 g f0 f1 f2→IsS61 w0 w2 g e0 e1 e2:=by intro h_;repeat(first|(with_reducible first|exact h_|apply IsS61.alloc|apply IsS61.drewN|apply IsS61.drew|apply IsS61.set_1|apply IsS61.set_2|refine IsS61.far ?_ (Aside0.out (by assumption)) _)|exact h_)):IsS61 w0 w2 g e0 e1 e2:=t h.out
theorem Zlb {B:Nat} {w w1 w2:World} (h:Aside0 (Below B w w1)) (t:Below B w w1→Below B w w2:=by intro h_;repeat(first|(with_reducible first|exact h_|apply below_alloc|apply pw_below_drewN|apply below_drew1|refine below_set ?_ (Aside0.out (by assumption))|refine below_set ?_ (IsS61.ge (Aside0.out (by assumption))))|exact h_)):Below B w w2:=t h.out
def spec_l1Cur_next.f (a5:List Int) (a4:Int) (a6:Int):Option (Int × Int × Int):=if a4<(a5.length:Int)then(if 0≤a4 then(if(wrap64 (a4+1))≤(a5.length:Int)then(some (wrap64 (rd a5 a4),wrap64 (a4+1),IntKind.u64.wrap ((IntKind.u64.wrap ((IntKind.u64.wrap (a6*6364136223846793005))+(IntKind.u64.wrap (wrap64 (rd a5 a4)))))+1442695040888963407)))else(some (wrap64 (Go.bits .and .u64 ((IntKind.u64.wrap ((IntKind.u64.wrap ((IntKind.u64.wrap (a6*6364136223846793005))+(IntKind.u64.wrap (wrap64 (rd a5 a4)))))+1442695040888963407)) / 1099511627776) 255),wrap64 (a4+1),IntKind.u64.wrap ((IntKind.u64.wrap ((IntKind.u64.wrap (a6*6364136223846793005))+(IntKind.u64.wrap (wrap64 (rd a5 a4)))))+1442695040888963407))))else(none))else(if(wrap64 (a4+1))≤(a5.length:Int)then(some (0,wrap64 (a4+1),IntKind.u64.wrap ((IntKind.u64.wrap (IntKind.u64.wrap (a6*6364136223846793005)))+1442695040888963407)))else(some (wrap64 (Go.bits .and .u64 ((IntKind.u64.wrap ((IntKind.u64.wrap (IntKind.u64.wrap (a6*6364136223846793005)))+1442695040888963407)) / 1099511627776) 255),wrap64 (a4+1),IntKind.u64.wrap ((IntKind.u64.wrap (IntKind.u64.wrap (a6*6364136223846793005)))+1442695040888963407))))
set_option maxHeartbeats 8000000 in
set_option maxRecDepth 100000 in
theorem spec_l1Cur_next.calls (g:Nat) (a5:List Int) (a4:Int) (a7:Int) (r1:Int) (r2:Int) (r3:Int) (w0 w:World) (hI:IsS61 w0 w g a5 a4 a7) (hB:Below w0.heap.size w0 w) (h:spec_l1Cur_next.f a5 a4 a7=some (r1,r2,r3)):
  Calls Try.prog 65 #[.pointer (some ⟨g,0,none⟩)] w fun e w'=>e= .returned (.int .i64 r1)∧IsS61 w0 w' g a5 r2 r3∧Below w0.heap.size w0 w'∧KeepBut w w' g none:=by
 have c9:=Aside0.mk hI;have HK:=Zm (KeepBut.refl w g none);have HL:=Aside0.mk hB.size;clear hI;have n5:=Aside0.mk hB.size;have HB:=Aside0.mk hB;clear hB;have H:(if a4<(a5.length:Int)then(if 0≤a4 then(if(wrap64 (a4+1))≤(a5.length:Int)then(some (wrap64 (rd a5 a4),wrap64 (a4+1),IntKind.u64.wrap ((IntKind.u64.wrap ((IntKind.u64.wrap (a7*6364136223846793005))+(IntKind.u64.wrap (wrap64 (rd a5 a4)))))+1442695040888963407)))else(some (wrap64 (Go.bits .and .u64 ((IntKind.u64.wrap ((IntKind.u64.wrap ((IntKind.u64.wrap (a7*6364136223846793005))+(IntKind.u64.wrap (wrap64 (rd a5 a4)))))+1442695040888963407)) / 1099511627776) 255),wrap64 (a4+1),IntKind.u64.wrap ((IntKind.u64.wrap ((IntKind.u64.wrap (a7*6364136223846793005))+(IntKind.u64.wrap (wrap64 (rd a5 a4)))))+1442695040888963407))))else(none))else(if(wrap64 (a4+1))≤(a5.length:Int)then(some (0,wrap64 (a4+1),IntKind.u64.wrap ((IntKind.u64.wrap (IntKind.u64.wrap (a7*6364136223846793005)))+1442695040888963407)))else(some (wrap64 (Go.bits .and .u64 ((IntKind.u64.wrap ((IntKind.u64.wrap (IntKind.u64.wrap (a7*6364136223846793005)))+1442695040888963407)) / 1099511627776) 255),wrap64 (a4+1),IntKind.u64.wrap ((IntKind.u64.wrap (IntKind.u64.wrap (a7*6364136223846793005)))+1442695040888963407)))))=some (r1,r2,r3):=h;clear h
 by_cases c2:a4<(a5.length:Int)
 ·
  rw[if_pos c2]at H;have d7:decide (a4<(a5.length:Int))=true:=decide_eq_true c2;clear c2
  replace H:=Zif H;obtain⟨c3,H⟩:=H;have n4:decide (0≤a4)=true:=decide_eq_true c3;clear c3
  by_cases c4:(wrap64 (a4+1))≤(a5.length:Int)
  ·
   rw[if_pos c4]at H;have d8:decide ((wrap64 (a4+1))≤(a5.length:Int))=true:=decide_eq_true c4;clear c4
   obtain⟨rfl,rfl,rfl⟩:=Zs3 H;clear H;obtain⟨d9,e6,b6,e7,d3⟩:=c9.out
   have e9:=cellS61_0 b6;have f8:=cellS61_1 b6;have f9:=cellS61_2 b6;have g8:=blk_frozen b6 1;have g9:=blk_frozen b6 2;clear b6 e7;have a8:0≤(a4:Int):=Zoa;have a9:a4<(a5.length:Int):=Zoa
   obtain⟨d6,d4,a6⟩:=Kd.at_int d3 a4 a8 a9
   cases d4
   replace a6:=pw_cell_below HB.out a6
   replace a8:=eq_true a8
   replace a9:=eq_true a9
   go_enter Try.func65,Try.ntmps65
   go_wp2
   repeat(go_quiet (fail);try go_wp2)
   go_ret
   exact⟨Ze,Zis c9,Zlb HB,Zke HK⟩
  ·
   rw[if_neg c4]at H;have d8:decide ((wrap64 (a4+1))≤(a5.length:Int))=false:=decide_eq_false c4;clear c4
   obtain⟨rfl,rfl,rfl⟩:=Zs3 H;clear H;obtain⟨i3,i4,b7,i5,d5⟩:=c9.out
   have i6:=cellS61_0 b7;have i7:=cellS61_1 b7;have i8:=cellS61_2 b7;have i9:=blk_frozen b7 1;have k3:=blk_frozen b7 2;clear b7 i5;have a8:0≤(a4:Int):=Zoa;have a9:a4<(a5.length:Int):=Zoa
   obtain⟨d6,d4,a6⟩:=Kd.at_int d5 a4 a8 a9
   cases d4
   replace a6:=pw_cell_below HB.out a6
   replace a8:=eq_true a8
   replace a9:=eq_true a9
   go_enter Try.func65,Try.ntmps65
   go_wp2
   repeat(go_quiet (fail);try go_wp2)
   go_ret
   exact⟨Ze,Zis c9,Zlb HB,Zke HK⟩
 ·
  rw[if_neg c2]at H;have d7:decide (a4<(a5.length:Int))=false:=decide_eq_false c2;clear c2
  by_cases c7:(wrap64 (a4+1))≤(a5.length:Int)
  ·
   rw[if_pos c7]at H;have k4:decide ((wrap64 (a4+1))≤(a5.length:Int))=true:=decide_eq_true c7;clear c7
   obtain⟨rfl,rfl,rfl⟩:=Zs3 H;clear H;obtain⟨k6,k8,b8,k9,l3⟩:=c9.out
   have l4:=cellS61_0 b8;have l5:=cellS61_1 b8;have l6:=cellS61_2 b8;have l7:=blk_frozen b8 1;have l8:=blk_frozen b8 2;clear b8 k9
   go_enter Try.func65,Try.ntmps65
   go_wp2
   repeat(go_quiet (fail);try go_wp2)
   go_ret
   exact⟨Ze,Zis c9,Zlb HB,Zke HK⟩
  ·
   rw[if_neg c7]at H;have k4:decide ((wrap64 (a4+1))≤(a5.length:Int))=false:=decide_eq_false c7;clear c7
   obtain⟨rfl,rfl,rfl⟩:=Zs3 H;clear H;obtain⟨l9,m4,b9,m5,m6⟩:=c9.out
   have m7:=cellS61_0 b9;have m8:=cellS61_1 b9;have m9:=cellS61_2 b9;have n0:=blk_frozen b9 1;have n3:=blk_frozen b9 2;clear b9 m5
   go_enter Try.func65,Try.ntmps65
   go_wp2
   repeat(go_quiet (fail);try go_wp2)
   go_ret
   exact⟨Ze,Zis c9,Zlb HB,Zke HK⟩
def spec_l1Cur_pick.f (a6:List Int) (a7:Int) (a8:Int) (a1:Int):Option (Int × Int × Int):=if a1≤1 then(some (0,a7,a8))else((spec_l1Cur_next.f a6 a7 a8).bind fun a4=>(if a1>200 then((spec_l1Cur_next.f a6 a4.2.1 a4.2.2).bind fun a5=>(if a1=0 then(none)else(some (Int.tmod (wrap64 ((wrap64 (a4.1*256))+a5.1)) a1,a5.2.1,a5.2.2))))else(if a1=0 then(none)else(some (Int.tmod a4.1 a1,a4.2.1,a4.2.2)))))
set_option maxHeartbeats 8000000 in
set_option maxRecDepth 100000 in
theorem spec_l1Cur_pick.calls (g:Nat) (a5:List Int) (a8:Int) (a9:Int) (a1:Int) (r1:Int) (r2:Int) (r3:Int) (w0 w:World) (hI:IsS61 w0 w g a5 a8 a9) (hB:Below w0.heap.size w0 w) (h:spec_l1Cur_pick.f a5 a8 a9 a1=some (r1,r2,r3)):
  Calls Try.prog 45 #[.pointer (some ⟨g,0,none⟩),.int .i64 a1] w fun e w'=>e= .returned (.int .i64 r1)∧IsS61 w0 w' g a5 r2 r3∧Below w0.heap.size w0 w'∧KeepBut w w' g none:=by
 (have b7:=Aside0.mk hI;have HK:=Zm (KeepBut.refl w g none);have HL:=Aside0.mk hB.size;clear hI;have e9:=Aside0.mk hB.size;have HB:=Aside0.mk hB;clear hB;have H:(if a1≤1 then(some (0,a8,a9))else((spec_l1Cur_next.f a5 a8 a9).bind fun a4=>(if a1>200 then((spec_l1Cur_next.f a5 a4.2.1 a4.2.2).bind fun b6=>(if a1=0 then(none)else(some (Int.tmod (wrap64 ((wrap64 (a4.1*256))+b6.1)) a1,b6.2.1,b6.2.2))))else(if a1=0 then(none)else(some (Int.tmod a4.1 a1,a4.2.1,a4.2.2))))))=some (r1,r2,r3):=h;clear h)
 by_cases c3:a1≤1
 ·
  rw[if_pos c3]at H;have d3:decide (a1≤1)=true:=decide_eq_true c3;clear c3
  obtain⟨rfl,rfl,rfl⟩:=Zs3 H;clear H
  go_enter Try.func45,Try.ntmps45
  go_wp2
  go_ret
  exact⟨Ze,Zis b7,Zlb HB,Zke HK⟩
 ·
  rw[if_neg c3]at H;have d3:decide (a1≤1)=false:=decide_eq_false c3;clear c3;replace H:=Zb0 H;obtain⟨⟨c9,b8,b9⟩,A4,H⟩:=H;(try dsimp only at H)
  by_cases c5:a1>200
  ·
   rw[if_pos c5]at H;have d4:decide (200<a1)=true:=decide_eq_true c5;clear c5;replace H:=Zb0 H;obtain⟨⟨d5,d6,d7⟩,A6,H⟩:=H;(try dsimp only at H)
   replace H:=Zie H;obtain⟨c7,H⟩:=H;have e6:(a1 == 0)=false:=beq_eq_false_iff_ne.mpr c7;have e7:(a1 != 0)=true:=bne_iff_ne.mpr c7
   obtain⟨rfl,rfl,rfl⟩:=Zs3 H;clear H
   go_enter Try.func45,Try.ntmps45
   go_wp2_with (first|((with_reducible refine gate_callee (f:=65) rfl ?_);refine Ga (some 9) Try.func65 #[.pointer (some ⟨g,0,none⟩)] (h:= ?_);(with_reducible refine(spec_l1Cur_next.calls g a5 a8 a9 c9 b8 b9 w0 _ ?a6 ?a7 A4.out).mono ?_);(case a6=>exact Zis b7);(case a7=>exact Zlb HB);rintro e w8 ⟨rfl,hi,hb,hk⟩;refine⟨_,rfl, ?_⟩;replace HK:=Zm (KeepBut.trans (Zke HK) hk (.inl rfl));replace HB:=Zm (hb);replace b7:=Zm (hi))|((with_reducible refine gate_callee (f:=65) rfl ?_);refine Ga (some 15) Try.func65 #[.pointer (some ⟨g,0,none⟩)] (h:= ?_);(with_reducible refine(spec_l1Cur_next.calls g a5 b8 b9 d5 d6 d7 w0 _ ?a6 ?a7 A6.out).mono ?_);(case a6=>exact Zis b7);(case a7=>exact Zlb HB);rintro e w9 ⟨rfl,hi,hb,hk⟩;refine⟨_,rfl, ?_⟩;replace HK:=Zm (KeepBut.trans (Zke HK) hk (.inl rfl));replace HB:=Zm (hb);replace b7:=Zm (hi)))
   go_ret
   exact⟨Ze,Zis b7,Zlb HB,Zke HK⟩
  ·
   rw[if_neg c5]at H;have d4:decide (200<a1)=false:=decide_eq_false c5;clear c5
   replace H:=Zie H;obtain⟨c10,H⟩:=H;have d8:(a1 == 0)=false:=beq_eq_false_iff_ne.mpr c10;have d9:(a1 != 0)=true:=bne_iff_ne.mpr c10
   obtain⟨rfl,rfl,rfl⟩:=Zs3 H;clear H
   go_enter Try.func45,Try.ntmps45
   go_wp2_with (first|((with_reducible refine gate_callee (f:=65) rfl ?_);refine Ga (some 9) Try.func65 #[.pointer (some ⟨g,0,none⟩)] (h:= ?_);(with_reducible refine(spec_l1Cur_next.calls g a5 a8 a9 c9 b8 b9 w0 _ ?a6 ?a7 A4.out).mono ?_);(case a6=>exact Zis b7);(case a7=>exact Zlb HB);rintro e f8 ⟨rfl,hi,hb,hk⟩;refine⟨_,rfl, ?_⟩;replace HK:=Zm (KeepBut.trans (Zke HK) hk (.inl rfl));replace HB:=Zm (hb);replace b7:=Zm (hi)))
   go_ret
   exact⟨Ze,Zis b7,Zlb HB,Zke HK⟩
def spec_l1Own.f (l0:List Int):Option (List Int):=(some (([]:List Int):List Int)).bind fun a4=>(if a4.length+l0.length<17592186044416 then(some (a4++l0))else(none))
set_option maxHeartbeats 8000000 in
set_option maxRecDepth 100000 in
theorem spec_l1Own.calls (A0:Option Addr) (c0:Nat) (l0:List Int) (r:List Int) (w:World) (b9:Kd.C (Kd.int .i64) w A0 l0.length l0) (c9:l0.length≤c0) (h:spec_l1Own.f l0=some r):
  Calls Try.prog 62 #[.slice A0 l0.length c0] w fun e w'=> ∃d3:Value,e= .returned (d3)∧Kd.R (Kd.int .i64) 3 w' w.heap.size (fun _ =>True) d3 r∧Below w.heap.size w w':=by
 (have d4:=Aside0.mk b9;have d7:=Aside0.mk c9;clear b9 c9;have HB:=Zm (Below.refl w.heap.size w);have H:((some (([]:List Int):List Int)).bind fun a4=>(if a4.length+l0.length<17592186044416 then(some (a4++l0))else(none)))=some r:=h;clear h);replace H:=Zgb H;obtain⟨a4,a5,H⟩:=H
 by_cases c2:a4.length+l0.length<17592186044416
 ·
  rw[if_pos c2]at H
  have b7:=Aside0.mk c2;clear c2
  generalize a6:(a4++l0)=d5 at H;have a8:=Aside0.mk a6.symm;clear a6
  obtain rfl:=Option.some.inj H
  go_enter Try.func62,Try.ntmps62
  go_wp2_with (first|((with_reducible refine gate_dst (N:=3) rfl ?_);refine Kd.R_lit (Kd.int .i64) _ 3 ?hg (N:=3) ?hd (xs:=([]:List Int)) (inner:= []) (ok:=fun _ =>True) (okp:=fun _ =>True) ?hr ?hp (fun _ hk=>hk) trivial (Below.refl _ _) (Nat.le_refl _) (by simp) ?_;(case hd=>rfl);(case hg=>rfl);(case hr=>first|(go_simp;done)|(go_simp;rfl));(case hp=>exact(Reps.none _ _));intro b8 w3 a9 hb hg_ hnew_;clear hg_ hnew_;(first|rw[←a5.out]at a9|(simp only[Int.reduceToNat]at a9;rw[←a5.out]at a9));have a7:=Zj a9 HB;replace HB:=Zh HB hb;clear hb a9)|((with_reducible refine gate_builtin (b:= .append) (xs:= #[.tmp 3,.tmp 4]) rfl ?_);at_builtin;refine Kd.R_append_rows (Kd.int .i64) (w0:=w) w.heap.size rfl (.tmp 3) (.tmp 4) 24 3 (.int .i64 0) 8 rfl Try.underlying24 info3 rfl (by decide) (by omega) b8 a4 l0 _ _ _ (fun _ =>True) (fun _ =>False) rfl rfl ?aO ?aR (fun _ _ h=>h) (fun _ h=>h.elim) ?aF ?aB ?aS ?aL ?_;(case aR=>exact Zca (Kd.C_below d4.out HB.out));(case aB=>exact(Zl HB));(case aF=>exact(fun _ _ =>trivial));(case aO=>exact(Zr a7));(case aS=>exact(below_size (Zl HB)));(case aL=>have:=b7.out;omega);intro d6 w5 ho hb hg hat;rw[←a8.out]at ho;replace HB:=Zm (hb);have b6:=Zm (ho);clear a7 ho hb hg hat))
  go_ret
  exact⟨_,Ze,Zr b6,Zl HB⟩
 ·
  rw[if_neg c2]at H
  exact absurd H (by simp)
def spec_l1Cur_sureOrder.l0:Nat→Int→List Int→Int→List Int→Int→Int→Option (List Int × Int × Int)
 |0,_,_,_,_,_,_ =>none
 |k+1,x1,x5,x6,a5,a6,a7=>if x6<x1 then((spec_l1Cur_pick.f a5 a6 a7 (wrap64 ((x5.length:Int)+1))).bind fun a4=>(if 0≤a4.1 then(if a4.1≤(x5.length:Int)then((spec_l1Own.f (x5.take (a4.1:Int).toNat)).bind fun a8=>(if a8.length<17592186044416 then((some (a8++ [x6]:List Int)).bind fun a9=>((some (x5.drop (a4.1:Int).toNat:List Int)).bind fun b6=>(if a9.length+b6.length<17592186044416 then(spec_l1Cur_sureOrder.l0 k x1 (a9++b6) (wrap64 (x6+1)) a5 a4.2.1 a4.2.2)else(none))))else(none)))else(none))else(none)))else(some (x5,a6,a7))
def spec_l1Cur_sureOrder.f (k:Nat) (a4:List Int) (a5:Int) (a6:Int) (a1:Int):Option (List Int × Int × Int):=spec_l1Cur_sureOrder.l0 k a1 ([]:List Int) 0 a4 a5 a6
theorem spec_l1Cur_sureOrder.mono_l: ∀k,(∀y0 y1 y2 y3 y4 y5,LeO (spec_l1Cur_sureOrder.l0 k y0 y1 y2 y3 y4 y5) (spec_l1Cur_sureOrder.l0 (k+1) y0 y1 y2 y3 y4 y5))
 |0=>fun _ _ _ _ _ _ r h=>by simp[spec_l1Cur_sureOrder.l0]at h
 |k+1=>by
  have a4:=spec_l1Cur_sureOrder.mono_l k
  ·
   intro y0 y1 y2 y3 y4 y5
   unfold spec_l1Cur_sureOrder.l0
   repeat' (with_reducible first|exact a4 _ _ _ _ _ _ |exact LeO.refl _ |exact LeO.none _ |refine LeO.ite ?_ ?_ |refine LeO.bind ?_ (fun _ => ?_))
theorem spec_l1Cur_sureOrder.mono: ∀a0 a1 a2 a3 k,LeO (spec_l1Cur_sureOrder.f k a0 a1 a2 a3) (spec_l1Cur_sureOrder.f (k+1) a0 a1 a2 a3):=by
 intro a0 a1 a2 a3 k
 have a4:=spec_l1Cur_sureOrder.mono_l k
 unfold spec_l1Cur_sureOrder.f
 repeat' (with_reducible first|exact a4 _ _ _ _ _ _ |exact LeO.refl _ |exact LeO.none _ |refine LeO.ite ?_ ?_ |refine LeO.bind ?_ (fun _ => ?_))
set_option maxHeartbeats 8000000 in
set_option maxRecDepth 100000 in
theorem spec_l1Cur_sureOrder.calls (k:Nat) (g:Nat) (c9:List Int) (g8:Int) (g9:Int) (a1:Int) (r1:List Int) (r2:Int) (r3:Int) (w0 w:World) (hI:IsS61 w0 w g c9 g8 g9) (hB:Below w0.heap.size w0 w) (h:spec_l1Cur_sureOrder.f k c9 g8 g9 a1=some (r1,r2,r3)):
  Calls Try.prog 44 #[.pointer (some ⟨g,0,none⟩),.int .i64 a1] w fun e w'=> ∃o3:Value,e= .returned (o3)∧Kd.R (Kd.int .i64) 3 w' w.heap.size (fun _ =>True) o3 r1∧IsS61 w0 w' g c9 r2 r3∧Below w0.heap.size w0 w'∧KeepBut w w' g none:=by
 have d4:=Aside0.mk hI;have HK:=Zm (KeepBut.refl w g none);have HL:=Aside0.mk hB.size;clear hI;have q9:=Aside0.mk hB.size;have HB:=Aside0.mk hB;clear hB;have H:(spec_l1Cur_sureOrder.l0 k a1 ([]:List Int) 0 c9 g8 g9)=some (r1,r2,r3):=h;clear h;have H':=Aside0.mk H;clear H
 go_enter Try.func44,Try.ntmps44
 go_wp2
 go_loopg [5,6] k (fun kq v5 v6 w'=> ∃(a4:List Int) (d5:Int) (a7:Int) (a8:Int),v6= .int .i64 d5∧Aside0 (spec_l1Cur_sureOrder.l0 kq a1 a4 d5 c9 a7 a8=some (r1,r2,r3))∧Aside0 (kq≤k)∧Aside0 (Kd.R (Kd.int .i64) 3 w' w.heap.size (fun _ =>True) v5 a4)∧Aside0 (IsS61 w0 w' g c9 a7 a8)∧Aside0 (KeepBut w w' g none)∧Aside0 (Below w0.heap.size w0 w'))
 case atStart=>exact⟨(([]:List Int)),(0),(g8),(g9),Zs,H',⟨Nat.le_refl _⟩,⟨Znl⟩,⟨Zis d4⟩,⟨Zke HK⟩,⟨Zlb HB⟩⟩
 case round=>
  (clear H');obtain⟨a4,d5,a7,a8,rfl,HA,o4,a6,d4,HK,HB⟩:=hrel
  cases gk with
  |zero=>exact absurd HA.out (by simp[spec_l1Cur_sureOrder.l0])
  |succ k1=>
   have H:=HA.out;clear HA
   simp only[spec_l1Cur_sureOrder.l0]at H
   by_cases c3:d5<a1
   ·
    rw[if_pos c3]at H;have n0:=decide_eq_true c3;clear c3;replace H:=Zb0 H;obtain⟨⟨a5,l3,l4⟩,A4,H⟩:=H;(try dsimp only at H)
    replace H:=Zif H;obtain⟨c5,H⟩:=H;have p4:=eq_true c5;have p5:decide (0≤a5)=true:=decide_eq_true c5;clear c5
    replace H:=Zif H;obtain⟨c6,H⟩:=H;have p6:=eq_true c6;have p7:decide (a5≤(a4.length:Int))=true:=decide_eq_true c6;clear c6;generalize i5:(a4.take (a5:Int).toNat)=d3 at H;have d6:=Aside0.mk i5.symm;clear i5
    replace H:=Zb0 H;obtain⟨l5,A7,H⟩:=H
    replace H:=Zif H;obtain⟨c8,H⟩:=H
    have n3:=Aside0.mk c8;clear c8
    replace H:=Zgb H;obtain⟨l6,l7,H⟩:=H;have p8:=eq_true (of_decide_eq_true (by first|(with_reducible assumption)|assumption):0≤a5);have o5:=eq_true (of_decide_eq_true (by first|(with_reducible assumption)|assumption):a5≤(a4.length:Int))
    replace H:=Zgb H;obtain⟨b8,e6,H⟩:=H
    replace H:=Zif H;obtain⟨o6,H⟩:=H
    have l8:=Aside0.mk o6;clear o6
    generalize i6:(l6++b8)=n4 at H;have l9:=Aside0.mk i6.symm;clear i6;have H':=Aside0.mk H;clear H
    obtain⟨b6,a9,n5⟩:=Kd.R_slice a6.out;subst n5
    go_wp2_with (first|((with_reducible refine gate_callee (f:=45) rfl ?_);refine Ga (some 18) Try.func45 #[.pointer (some ⟨g,0,none⟩),.int .i64 (wrap64 ((a4.length:Int)+1))] (h:= ?_);(with_reducible refine(spec_l1Cur_pick.calls g c9 a7 a8 (wrap64 ((a4.length:Int)+1)) a5 l3 l4 w0 _ ?e7 ?e9 A4.out).mono ?_);(case e7=>exact Zis d4);(case e9=>exact Zlb HB);rintro e r5 ⟨rfl,hi,hb,hk⟩;refine⟨_,rfl, ?_⟩;replace a6:=Zm (Kd.R_mono (Kd.R_keep (IsS61.apart (show IsS61 w0 _ g c9 a7 a8 from Zis d4) (Zr a6) (by decide)) hk (fun _ h=>h.2)) (fun _ h=>h.1));replace HK:=Zm (KeepBut.trans (Zke HK) hk (.inl rfl));replace HB:=Zm (hb);replace d4:=Zm (hi);have n6:(a5:Int)≤((a4.length:Int):Int):=Zoa;obtain⟨p9,i7,_,m4,_⟩:=info_parts info3;have d7:a4.length≤a9:=(Kd.R_reads' a6.out).2.1;have m5:Kd.C (Kd.int .i64) _ b6 a4.length a4:=(Kd.R_reads' a6.out).2.2;have k3:=cut_to (P:=Try.prog) 24 3 .i64 Try.underlying24 i7 b6 a4.length a9 a5 (of_decide_eq_true (by first|(with_reducible assumption)|assumption)) n6 d7;have k4:=Kd.C_take (m:=(a5:Int).toNat) m5 (by omega);have k6:d3.length=(a5:Int).toNat:=(by rw[d6.out,List.length_take];omega);rw[←d6.out]at k4;rw[←k6]at k3;have b7:=Aside0.mk k4;have m6:=Zm (show d3.length≤a9 from by omega);clear k4 m5 d7 i7 m4;have q3:=Aside0.mk k6;clear k6;have m7:=Zm (show(a5:Int).toNat≤a4.length from by omega);replace n6:=eq_true n6)|((with_reducible refine gate_callee (f:=62) rfl ?_);refine Ga (some 22) Try.func62 #[.slice b6 d3.length a9] (h:= ?_);(with_reducible refine(spec_l1Own.calls _ _ d3 l5 _ ?e7 ?e9 A7.out).mono ?_);(case e7=>repeat(first|exact(by repeat(first|(with_reducible exact b7.out)|(with_reducible refine Kd.C_alloc ?_ _)|(with_reducible refine Kd.C_drewN ?_ _)|(with_reducible refine Kd.C_drew ?_)|exact b7.out))|(with_reducible refine Kd.C_alloc ?_ _)|(with_reducible refine Kd.C_drewN ?_ _)|(with_reducible refine Kd.C_drew ?_)));(case e9=>exact m6.out);rintro e r6 ⟨n7,rfl,o7,hb⟩;refine⟨_,rfl, ?_⟩;have d8:=Zm (Kd.R_lower (Zv o7 a6) (keep_size (w:=w) (g:=g) (row:=none) (Zke HK)));replace a6:=Zm (Kd.R_elder' (Zr a6) (Kd.R_base o7) hb);replace b7:=Zm (Kd.C_below (by repeat(first|(with_reducible exact b7.out)|(with_reducible refine Kd.C_alloc ?_ _)|(with_reducible refine Kd.C_drewN ?_ _)|(with_reducible refine Kd.C_drew ?_)|exact b7.out)) hb);replace HK:=Zm (KeepBut.trans (Zke HK) (KeepBut.of_below hb g none) (.inl rfl));replace HB:=Zm (below_step (Zlb HB) hb);replace d4:=Zm (IsS61.below (Zis d4) hb))|((with_reducible refine gate_builtin (b:= .append) (xs:= #[.tmp 22,.tmp 24]) rfl ?_);at_builtin;refine Kd.R_append (Kd.int .i64) w.heap.size rfl (.tmp 22) (.tmp 24) 24 3 (.int .i64 0) 8 rfl Try.underlying24 info3 rfl (by decide) (by omega) n7 l5 d5 [.int .i64 d5] (fun k_=>some k_≠(.slice b6 a4.length a9:Value).ownBlock) (fun _ =>False) rfl rfl ?aP (fun _ hk=>hk.elim) ?aF ?aO (Below.refl _ _) ?aS ?aL ?_;(case aP=>exact rfl);(case aF=>exact(fun k_ hk=>Kd.fresh' (Kd.R_lt (Zr a6)) k_ hk));(case aO=>exact(Zc d8));(case aS=>exact(keep_size (w:=w) (g:=g) (row:=none) (Zke HK)));(case aL=>have:=n3.out;omega);intro n8 q4 ho hb hg hat;rw[←l7.out]at ho;replace HB:=Zm (below_weaken (Zlb HB) HL.out hb);replace d4:=Zm (IsS61.grown (Zis d4) hg (IsS61.own_ne d4.out d8.out (by decide)));replace HK:=Zm (KeepBut.trans (Zke HK) (KeepBut.of_grown hg g) (Kd.R_base2 d8.out));replace b7:=Zm ((show Kd.C (Kd.int .i64) q4 b6 d3.length d3 from by rw[d6.out];exact Kd.C_take (m:=(a5:Int).toNat) ((Kd.R_reads' (Kd.R_after (ok:=(fun _ =>True)) (Zr a6) hg hat)).2.2) m7.out));replace a6:=Zm (Kd.R_after (ok:=(fun _ =>True)) (Zr a6) hg hat);have d9:=Zm (ho);clear d8 ho hb hg hat;have n9:(a5:Int)≤((a4.length:Int):Int):=Zoa;obtain⟨q5,i8,_,i9,_⟩:=info_parts info3;have b9:a4.length≤a9:=(Kd.R_reads' a6.out).2.1;have m8:Kd.C (Kd.int .i64) _ b6 a4.length a4:=(Kd.R_reads' a6.out).2.2;have o0:(0:Int)≤(a5:Int):=Zoa;have k8:=cut_from (P:=Try.prog) 24 3 .i64 Try.underlying24 i8 1 i9 b6 a4.length a9 a5 o0 n9;have f8:=Kd.C_drop (m:=(a5:Int).toNat) (c:=a9) m8 (by omega) b9;obtain⟨o8,i3⟩: ∃A1,A1=(if a9=(a5:Int).toNat then b6 else(b6:Option Addr).map (·.add ((a5:Int).toNat*1))):=⟨_,rfl⟩;obtain⟨q6,k9⟩: ∃c1,c1=a9 - (a5:Int).toNat:=⟨_,rfl⟩;have i4:b8.length=a4.length - (a5:Int).toNat:=(by rw[e6.out,List.length_drop]<;>omega);rw[show(a4).drop (a5:Int).toNat=b8 from e6.out.symm]at f8;replace f8:Kd.C (Kd.int .i64) _ o8 b8.length b8:=(by rw[i3];exact f8);rw[←i4,←i3,←k9]at k8;have f9:=Aside0.mk f8;have o9:=Zm (show b8.length≤q6 from by rw[i4,k9];exact Nat.sub_le_sub_right b9 _);clear f8 m8 b9 i8 i9 k9;have q7:=Aside0.mk i4;have o1:=Aside0.mk i3;clear i4 i3;have o2:=Zm (show(a5:Int).toNat≤a4.length from by omega);replace n9:=eq_true n9)|((with_reducible refine gate_builtin (b:= .append) (xs:= #[.tmp 26,.tmp 29]) rfl ?_);at_builtin;refine Kd.R_append_rows (Kd.int .i64) w.heap.size rfl (.tmp 26) (.tmp 29) 24 3 (.int .i64 0) 8 rfl Try.underlying24 info3 rfl (by decide) (by omega) n8 l6 b8 _ _ _ (fun k_=>some k_≠(.slice b6 a4.length a9:Value).ownBlock) (fun _ =>False) rfl rfl ?aO ?aR (fun _ _ h=>h) (fun _ h=>h.elim) ?aF (Below.refl _ _) ?aS ?aL ?_;(case aR=>repeat(first|exact(by repeat(first|(with_reducible exact f9.out)|(with_reducible refine Kd.C_alloc ?_ _)|(with_reducible refine Kd.C_drewN ?_ _)|(with_reducible refine Kd.C_drew ?_)|exact f9.out))|(with_reducible refine Kd.C_alloc ?_ _)|(with_reducible refine Kd.C_drewN ?_ _)|(with_reducible refine Kd.C_drew ?_)));(case aF=>exact(fun k_ hk=>Kd.fresh' (Kd.R_lt (Zr a6)) k_ hk));(case aO=>exact(Zr d9));(case aS=>exact(keep_size (w:=w) (g:=g) (row:=none) (Zke HK)));(case aL=>have:=l8.out;omega);intro q8 p3 ho hb hg hat;rw[←l9.out]at ho;replace HB:=Zm (below_weaken (Zlb HB) HL.out hb);replace d4:=Zm (IsS61.grown (Zis d4) hg (IsS61.own_ne d4.out d9.out (by decide)));replace HK:=Zm (KeepBut.trans (Zke HK) (KeepBut.of_grown hg g) (Kd.R_base2 d9.out));replace b7:=Zm ((show Kd.C (Kd.int .i64) p3 b6 d3.length d3 from by rw[d6.out];exact Kd.C_take (m:=(a5:Int).toNat) ((Kd.R_reads' (Kd.R_after (ok:=(fun _ =>True)) (Zr a6) hg hat)).2.2) m7.out));replace f9:=Zm ((show Kd.C (Kd.int .i64) p3 o8 b8.length b8 from by rw[e6.out,o1.out];exact Kd.C_drop (m:=(a5:Int).toNat) (c:=a9) ((Kd.R_reads' (Kd.R_after (ok:=(fun _ =>True)) (Zr a6) hg hat)).2.2) o2.out ((Kd.R_reads' (Kd.R_after (ok:=(fun _ =>True)) (Zr a6) hg hat)).2.1)));replace a6:=Zm (Kd.R_after (ok:=(fun _ =>True)) (Zr a6) hg hat);have m9:=Zm (ho);clear d9 ho hb hg hat))
    go_roundg k1
    case measure=>have:=o4.out;omega
    case rel=>exact⟨(n4),(wrap64 (d5+1)),(l3),(l4),Zs,H',⟨by have:=o4.out;omega⟩,⟨Zc m9⟩,⟨Zis d4⟩,⟨Zke HK⟩,⟨Zlb HB⟩⟩
   ·
    rw[if_neg c3]at H;have n0:=decide_eq_false c3;clear c3
    obtain⟨rfl,rfl,rfl⟩:=Zs3 H;clear H
    go_wp2
    go_ret
    exact⟨_,Ze,Zr a6,Zis d4,Zlb HB,Zke HK⟩
def spec_l1Cur_among.f (a5:List Int) (a6:Int) (a7:Int) (l1:List Int):Option (Int × Int × Int):=(spec_l1Cur_pick.f a5 a6 a7 (l1.length:Int)).bind fun a4=>(if 0≤a4.1 then(if a4.1<(l1.length:Int)then(some (rd l1 a4.1,a4.2.1,a4.2.2))else(none))else(none))
set_option maxHeartbeats 8000000 in
set_option maxRecDepth 100000 in
theorem spec_l1Cur_among.calls (g:Nat) (a6:List Int) (a8:Int) (a9:Int) (A1:Option Addr) (c1:Nat) (l1:List Int) (r1:Int) (r2:Int) (r3:Int) (w0 w:World) (hI:IsS61 w0 w g a6 a8 a9) (hB:Below w0.heap.size w0 w) (d8:Kd.C (Kd.int .i64) w A1 l1.length l1) (d9:l1.length≤c1) (d3: ∀ad,A1=some ad→0<l1.length→ad.block≠g) (h:spec_l1Cur_among.f a6 a8 a9 l1=some (r1,r2,r3)):
  Calls Try.prog 53 #[.pointer (some ⟨g,0,none⟩),.slice A1 l1.length c1] w fun e w'=>e= .returned (.int .i64 r1)∧IsS61 w0 w' g a6 r2 r3∧Below w0.heap.size w0 w'∧KeepBut w w' g none:=by
 (have e6:=Aside0.mk d8;have f8:=Aside0.mk d9;clear d8 d9;have d4:=Aside0.mk hI;have HK:=Zm (KeepBut.refl w g none);have HL:=Aside0.mk hB.size;clear hI;have f9:=Aside0.mk hB.size;have HB:=Aside0.mk hB;clear hB;have H:((spec_l1Cur_pick.f a6 a8 a9 (l1.length:Int)).bind fun a4=>(if 0≤a4.1 then(if a4.1<(l1.length:Int)then(some (rd l1 a4.1,a4.2.1,a4.2.2))else(none))else(none)))=some (r1,r2,r3):=h;clear h);replace H:=Zb0 H;obtain⟨⟨a7,d5,d6⟩,A3,H⟩:=H;(try dsimp only at H)
 by_cases c4:0≤a7
 ·
  rw[if_pos c4]at H;have e7:=decide_eq_true c4;clear c4
  replace H:=Zit H;obtain⟨e9,H⟩:=H
  obtain⟨rfl,rfl,rfl⟩:=Zs3 H;clear H
  go_enter Try.func53,Try.ntmps53
  go_wp2_with (first|((with_reducible refine gate_callee (f:=45) rfl ?_);refine Ga (some 9) Try.func45 #[.pointer (some ⟨g,0,none⟩),.int .i64 (l1.length:Int)] (h:= ?_);(with_reducible refine(spec_l1Cur_pick.calls g a6 a8 a9 (l1.length:Int) a7 d5 d6 w0 _ ?b8 ?b9 A3.out).mono ?_);(case b8=>exact Zis d4);(case b9=>exact Zlb HB);rintro e w6 ⟨rfl,hi,hb,hk⟩;refine⟨_,rfl, ?_⟩;replace HK:=Zm (KeepBut.trans (Zke HK) hk (.inl rfl));replace HB:=Zm (hb);replace d4:=Zm (hi);have b6:0≤(a7:Int):=Zoa;have b7:a7<(l1.length:Int):=Zoa;obtain⟨c9,d7,a5⟩:=Kd.at_int e6.out a7 b6 b7;cases d7;replace a5:=keep_cell HK.out a5 (by first|(rw[add_block];exact d3 _ rfl (by omega))|exact d3 _ rfl (by omega)|exact d3 c9 rfl (by omega));replace b6:=eq_true b6;replace b7:=eq_true b7))
  go_ret
  exact⟨Ze,Zis d4,Zlb HB,Zke HK⟩
 ·
  rw[if_neg c4]at H
  exact absurd H (by simp)
def spec_l1Cur_surePole.l0:Nat→Int→List Int→Int→Int→Int→List Int→Option (Int × List Int × Int × Int)
 |0,_,_,_,_,_,_ =>none
 |k+1,x6,a7,a8,a9,a4,a5=>if x6>0 then((spec_l1Cur_pick.f a7 a8 a9 a4).bind fun a6=>(if a5.length<17592186044416 then(spec_l1Cur_surePole.l0 k (wrap64 (x6 - 1)) a7 a6.2.1 a6.2.2 a4 (a5++ [a6.1]))else(none)))else(some (a4,a5,a8,a9))
def spec_l1Cur_surePole.f (k:Nat) (a6:List Int) (a7:Int) (a8:Int) (a1:Int):Option (Int × List Int × Int × Int):=(spec_l1Cur_pick.f a6 a7 a8 4).bind fun a4=>((spec_l1Cur_pick.f a6 a4.2.1 a4.2.2 (wrap64 (a1+1))).bind fun a5=>(spec_l1Cur_surePole.l0 k a5.1 a6 a5.2.1 a5.2.2 (wrap64 (3+a4.1)) ([]:List Int)))
theorem spec_l1Cur_surePole.mono_l: ∀k,(∀y0 y1 y2 y3 y4 y5,LeO (spec_l1Cur_surePole.l0 k y0 y1 y2 y3 y4 y5) (spec_l1Cur_surePole.l0 (k+1) y0 y1 y2 y3 y4 y5))
 |0=>fun _ _ _ _ _ _ r h=>by simp[spec_l1Cur_surePole.l0]at h
 |k+1=>by
  have a4:=spec_l1Cur_surePole.mono_l k
  ·
   intro y0 y1 y2 y3 y4 y5
   unfold spec_l1Cur_surePole.l0
   repeat' (with_reducible first|exact a4 _ _ _ _ _ _ |exact LeO.refl _ |exact LeO.none _ |refine LeO.ite ?_ ?_ |refine LeO.bind ?_ (fun _ => ?_))
theorem spec_l1Cur_surePole.mono: ∀a0 a1 a2 a3 k,LeO (spec_l1Cur_surePole.f k a0 a1 a2 a3) (spec_l1Cur_surePole.f (k+1) a0 a1 a2 a3):=by
 intro a0 a1 a2 a3 k
 have a4:=spec_l1Cur_surePole.mono_l k
 unfold spec_l1Cur_surePole.f
 repeat' (with_reducible first|exact a4 _ _ _ _ _ _ |exact LeO.refl _ |exact LeO.none _ |refine LeO.ite ?_ ?_ |refine LeO.bind ?_ (fun _ => ?_))
def spec_l1Cur_surePole.T5:Bool × List (List Nat × List Nat):=(true,[([],[]),([0],[0]),([],[]),([],[]),([3],[3]),([2,4],[2,4]),([5],[5]),([1,6,5],[1,6]),([0,1,2,3,4,5,6,7],[]),([8,7,7,0,1,2,3,4,5,6,7],[7,8])])
def spec_l1Cur_surePole.B5:List Nat:= [0,1,0,0,8,28,60,127,255,511]
theorem spec_l1Cur_surePole.tab5:rtab .any (opsOf Try.f67 5)=spec_l1Cur_surePole.T5:=by kernel_rfl
theorem spec_l1Cur_surePole.bits5:waitsOk spec_l1Cur_surePole.T5.2 spec_l1Cur_surePole.B5=true:=by kernel_rfl
set_option maxHeartbeats 8000000 in
set_option maxRecDepth 100000 in
theorem spec_l1Cur_surePole.calls (k:Nat) (g:Nat) (b6:List Int) (e9:Int) (f8:Int) (a1:Int) (r1:Int) (r2:List Int) (r3:Int) (r4:Int) (w0 w:World) (hI:IsS61 w0 w g b6 e9 f8) (hB:Below w0.heap.size w0 w) (h:spec_l1Cur_surePole.f k b6 e9 f8 a1=some (r1,r2,r3,r4)):
  Calls Try.prog 67 #[.pointer (some ⟨g,0,none⟩),.int .i64 a1] w fun e w'=> ∃o2:Value,e= .returned (.agg #[.int .i64 r1,o2])∧Kd.R (Kd.int .i64) 3 w' w.heap.size (fun _ =>True) o2 r2∧IsS61 w0 w' g b6 r3 r4∧Below w0.heap.size w0 w'∧KeepBut w w' g none:=by
 have q5:=Try.underlying29;have d5:=Aside0.mk hI;have HK:=Zm (KeepBut.refl w g none);have HL:=Aside0.mk hB.size;clear hI;have o3:=Aside0.mk hB.size;have HB:=Aside0.mk hB;clear hB;have H:((spec_l1Cur_pick.f b6 e9 f8 4).bind fun f9=>((spec_l1Cur_pick.f b6 f9.2.1 f9.2.2 (wrap64 (a1+1))).bind fun g8=>(spec_l1Cur_surePole.l0 k g8.1 b6 g8.2.1 g8.2.2 (wrap64 (3+f9.1)) ([]:List Int))))=some (r1,r2,r3,r4):=h;clear h
 replace H:=Zb0 H;obtain⟨⟨c9,g9,i3⟩,A3,H⟩:=H;(try dsimp only at H);replace H:=Zb0 H;obtain⟨⟨k3,k4,k6⟩,A4,H⟩:=H;(try dsimp only at H);have H':=Aside0.mk H;clear H
 go_enter Try.func67,Try.ntmps67
 go_wp2_with (first|((with_reducible refine gate_dst (N:=4) rfl ?_);refine Zbe 4 #[.int .i64 0,.slice none 0 0] 29 ?_;intro b7 hg w5 hbox hb;replace HB:=Zm (below_step (Zlb HB) hb);have a6:=Zm (hbox);have o4:=Zm ((by rw[hg];exact(keep_size (w:=w) (g:=g) (row:=none) (Zke HK)):w.heap.size≤b7));have o5:=Zm ((Nat.le_trans o3.out (by rw[hg];exact(keep_size (w:=w) (g:=g) (row:=none) (Zke HK)):w.heap.size≤b7):w0.heap.size≤b7));replace HK:=Zm (KeepBut.trans (Zke HK) (KeepBut.of_below hb g none) (.inl rfl));have i4:=Zm ((by rw[hg];exact Nat.ne_of_lt (IsS61.lt (show IsS61 w0 _ g b6 e9 f8 from Zis d5)):g≠b7));have d6:=Zm ((by rw[hg];exact Nat.ne_of_gt (IsS61.lt (show IsS61 w0 _ g b6 e9 f8 from Zis d5)):b7≠g));replace d5:=Zm (IsS61.below (Zis d5) hb);clear hb hbox hg)|((with_reducible refine gate_callee (f:=45) rfl ?_);refine Ga (some 8) Try.func45 #[.pointer (some ⟨g,0,none⟩),.int .i64 4] (h:= ?_);(with_reducible refine(spec_l1Cur_pick.calls g b6 e9 f8 4 c9 g9 i3 w0 _ ?d8 ?d9 A3.out).mono ?_);(case d8=>exact Zis d5);(case d9=>exact Zlb HB);rintro e w6 ⟨rfl,hi,hb,hk⟩;refine⟨_,rfl, ?_⟩;replace a6:=Zm (KeepBut.blk hk (g':=b7) (o:= .cells #[.int .i64 0,.slice none 0 0] 29 (0,0)) (Zb a6) d6.out (by simp));replace HK:=Zm (KeepBut.trans (Zke HK) hk (.inl rfl));replace HB:=Zm (hb);replace d5:=Zm (hi))|((with_reducible refine gate_dst (N:=5) rfl ?_);refine Zbe 5 #[.int .i64 0,.slice none 0 0] 29 ?_;intro a9 hg w7 hbox hb;replace HB:=Zm (below_step (Zlb HB) hb);have a5:=Zm (hbox);have o6:=Zm ((by rw[hg];exact(keep_size (w:=w) (g:=g) (row:=none) (Zke HK)):w.heap.size≤a9));have o7:=Zm ((Nat.le_trans o3.out (by rw[hg];exact(keep_size (w:=w) (g:=g) (row:=none) (Zke HK)):w.heap.size≤a9):w0.heap.size≤a9));replace HK:=Zm (KeepBut.trans (Zke HK) (KeepBut.of_below hb g none) (.inl rfl));have d3:=Zq hg a6;have d4:=Zp hg a6;replace a6:=Zk a6 hb;have e7:=Zm ((by rw[hg];exact Nat.ne_of_lt (IsS61.lt (show IsS61 w0 _ g b6 g9 i3 from Zis d5)):g≠a9));have d7:=Zm ((by rw[hg];exact Nat.ne_of_gt (IsS61.lt (show IsS61 w0 _ g b6 g9 i3 from Zis d5)):a9≠g));replace d5:=Zm (IsS61.below (Zis d5) hb);clear hb hbox hg;have q6:=d4.out;have q7:=d3.out;have q8:=d7.out;have q9:=e7.out;obtain⟨m5,m6,m7,m8⟩:=Z2 a5)|((with_reducible refine gate_callee (f:=45) rfl ?_);refine Ga (some 14) Try.func45 #[.pointer (some ⟨g,0,none⟩),.int .i64 (wrap64 (a1+1))] (h:= ?_);(with_reducible refine(spec_l1Cur_pick.calls g b6 g9 i3 (wrap64 (a1+1)) k3 k4 k6 w0 _ ?d8 ?d9 A4.out).mono ?_);(case d8=>exact Zis d5);(case d9=>exact Zlb HB);rintro e s7 ⟨rfl,hi,hb,hk⟩;refine⟨_,rfl, ?_⟩;replace a6:=Zm (KeepBut.blk hk (g':=b7) (o:= .cells #[.int .i64 0,.slice none 0 0] 29 (0,0)) (Zbf a6) d6.out (by simp));replace a5:=Zm (KeepBut.blk hk (g':=a9) (o:= .cells #[.int .i64 (wrap64 (3+c9)),.slice none 0 0] 29 (0,0)) (by refine Zrb ?_;refine blk_put (cs:= #[.int .i64 (wrap64 (3+c9)),.slice none 0 0]) ?_ 1 _ rfl;refine Zrb ?_;refine blk_put (cs:= #[.int .i64 0,.slice none 0 0]) ?_ 0 _ rfl;refine Zrb ?_;exact a5.out) d7.out (by simp));replace HK:=Zm (KeepBut.trans (Zke HK) hk (.inl rfl));replace HB:=Zm (hb);replace d5:=Zm (hi)))
 go_loopg [6] k (fun kq v6 w'=> ∃(e6:Int) (b8:Int) (b9:Int) (a7:List Int) (a8:Value),v6= .int .i64 e6∧Aside0 (spec_l1Cur_surePole.l0 kq e6 b6 b8 b9 (wrap64 (3+c9)) a7=some (r1,r2,r3,r4))∧Aside0 (kq≤k)∧Aside0 (Kd.R (Kd.int .i64) 3 w' w.heap.size (fun _ =>True) a8 a7)∧Aside0 (w'.heap[b7]? =some (.cells #[.int .i64 0,(.slice none 0 0)] 29 (0,0)))∧Aside0 (w'.heap[a9]? =some (.cells #[.int .i64 (wrap64 (3+c9)),a8] 29 (0,0)))∧Aside0 (IsS61 w0 w' g b6 b8 b9)∧Aside0 (KeepBut w w' g none)∧Aside0 (Below w0.heap.size w0 w'))
 case atStart=>exact⟨(k3),(k4),(k6),(([]:List Int)),(.slice none 0 0),Zs,H',⟨Nat.le_refl _⟩,⟨Znl⟩,⟨Zb a6⟩,⟨Zb a5⟩,⟨Zis d5⟩,⟨Zke HK⟩,⟨Zlb HB⟩⟩
 case round=>
  (clear H');obtain⟨e6,b8,b9,a7,a8,rfl,HA,o8,a4,a6,a5,d5,HK,HB⟩:=hrel
  cases gk with
  |zero=>exact absurd HA.out (by simp[spec_l1Cur_surePole.l0])
  |succ k1=>
   have H:=HA.out;clear HA
   simp only[spec_l1Cur_surePole.l0]at H
   by_cases i9:e6>0
   ·
    rw[if_pos i9]at H;have k8:decide (0<e6)=true:=decide_eq_true i9;clear i9;replace H:=Zb0 H;obtain⟨⟨i5,k9,l3⟩,r5,H⟩:=H;(try dsimp only at H)
    replace H:=Zif H;obtain⟨o9,H⟩:=H
    have l4:=Aside0.mk o9;clear o9
    generalize i6:((a7++ [i5]):List Int)=i8 at H;have l5:=Aside0.mk i6.symm;clear i6;have H':=Aside0.mk H;clear H
    try go_wp2
    replace a4:=Zm (Kd.R_drew a4.out);replace a6:=Zm (blk_drew a6.out);replace a5:=Zm (blk_drew a5.out);replace d5:=Zm (IsS61.drew d5.out);replace HK:=Zm (keep_drew HK.out);replace HB:=Zm (below_drew1 HB.out)
    refine start_ (n:=10) (S:=fun w'=>w'.cell? ⟨a9,0,none⟩=some (.int .i64 (wrap64 (3+c9)))∧w'.cell? ⟨a9,1,none⟩=some (a8)) (ds:= [9]) (fl 10 0) (by kernel_rfl) rfl rfl ⟨Zc0 a5 0,Zc0 a5 1⟩ (fun hHeld=> ?_);refine with_tabW spec_l1Cur_surePole.tab5 spec_l1Cur_surePole.bits5 (fun HT_ HW_=> ?_)
    generalize wr.drew=s9 at a4 a6 a5 d5 HK HB hHeld ⊢;refine Yu 0 19 (fl 10 1) HT_ (h:= ?_);refine Yu 2 21 (fl 10 5) HT_ (h:= ?_);refine Yu 3 22 (fl 10 13) HT_ (h:= ?_);refine Yt 1 20 (fl 10 15) HT_ HW_ hHeld (h:= ?_);refine Yt 4 23 (fl 10 31) HT_ HW_ hHeld (h:= ?_)
    refine one_ (i:=5) (N:=some 24) (fl 10 63) rfl rfl (one_of HT_.out (by kernel_rfl)) (by decide) (fun K hK=> ?_)
    refine goes_ Try.func45 (by kernel_rfl) rfl #[.pointer (some ⟨g,0,none⟩),.int .i64 (wrap64 (3+c9))] (by rfl) rfl rfl (by(try simp only[List.map_toArray,List.map_cons,List.map_nil]);first|done|rfl) ?_
    with_reducible refine(spec_l1Cur_pick.calls g b6 b8 b9 (wrap64 (3+c9)) i5 k9 l3 w0 _ ?d8 ?d9 r5.out).mono ?_
    (case d8=>exact Zis d5)
    (case d9=>exact Zlb HB)
    rintro e t0 ⟨rfl,hi,hb,hk⟩
    refine⟨_,rfl, ?_⟩
    replace a4:=Zm (Kd.R_mono (Kd.R_keep (IsS61.apart (show IsS61 w0 _ g b6 b8 b9 from Zis d5) (Zr a4) (by decide)) hk (fun _ h=>h.2)) (fun _ h=>h.1));replace a6:=Zm (KeepBut.blk hk (g':=b7) (o:= .cells #[.int .i64 0,.slice none 0 0] 29 (0,0)) (Zb a6) d6.out (by simp));replace a5:=Zm (KeepBut.blk hk (g':=a9) (o:= .cells #[.int .i64 (wrap64 (3+c9)),a8] 29 (0,0)) (Zb a5) d7.out (by simp));replace HK:=Zm (KeepBut.trans (Zke HK) hk (.inl rfl));replace HB:=Zm (hb);replace d5:=Zm (hi)
    refine hK.out _ _ ⟨Zc0 a5 0,Zc0 a5 1⟩ (fun hHeld=> ?_)
    clear hK K;refine Yn 24 (h:= ?_)
    refine one_ (i:=6) (N:=some 25) (fl 10 127) rfl rfl (one_of HT_.out (by kernel_rfl)) (by decide) (fun K hK=> ?_)
    refine value_ (w1:= ?_) (v:= ?_) (by rfl) rfl ?_ ?_
    rotate_left 2
    ·
     go_simp
     constructor
     ·
      rfl
     ·
      rfl
    refine hK.out _ _ ⟨(blk_cell (blk_alloc a5.out _) 0).trans rfl,(blk_cell (blk_alloc a5.out _) 1).trans rfl⟩ (fun hHeld=> ?_)
    clear hK K;refine Yn 25 (h:= ?_)
    refine one_ (i:=7) (N:=some 26) (fl 10 255) rfl rfl (one_of HT_.out (by kernel_rfl)) (by decide) (fun K hK=> ?_)
    refine Kd.R_append_step (Kd.int .i64) w.heap.size (by rfl) (.tmp 20) (.tmp 25) 24 3 (.int .i64 0) 8 rfl Try.underlying24 info3 rfl (by decide) (by omega) a8 a7 i5 [.int .i64 i5] (fun _ =>True) (fun _ =>False) rfl rfl ?aP (fun _ hk=>hk.elim) ?aF ?aO (Below.refl _ _) ?aS ?aL ?_
    (case aP=>exact rfl)
    (case aF=>exact(fun _ _ =>trivial))
    (case aO=>exact(Zr a4))
    (case aS=>exact(keep_size (w:=w) (g:=g) (row:=none) (Zke HK)))
    (case aL=>have:=l4.out;omega)
    intro r6 t8 ho hb hg hat
    rw[←l5.out]at ho
    replace a6:=Zm (blk_grown (Zb a6) hg (Kd.R_ne a4.out a6.out (by decide)));replace a5:=Zm (blk_grown (Zb a5) hg (Kd.R_ne a4.out a5.out (by decide)));replace HB:=Zm (below_weaken (Zlb HB) HL.out hb);replace d5:=Zm (IsS61.grown (Zis d5) hg (IsS61.own_ne d5.out a4.out (by decide)));replace HK:=Zm (KeepBut.trans (Zke HK) (KeepBut.of_grown hg g) (Kd.R_base2 a4.out));have i7:=Zm (ho);clear a4 ho hb hg hat
    obtain⟨l6,l7,l8⟩:=Kd.R_slice i7.out
    (first|subst l8|(injection l8 with p3 r7 p4;have r8:=p3.symm;have r9:=p4.symm;clear p3 r7 p4;subst r8;subst r9))
    refine hK.out _ _ ⟨Zc0 a5 0,Zc0 a5 1⟩ (fun hHeld=> ?_)
    clear hK K;refine Yn 26 (h:= ?_);refine Yu 8 27 (fl 10 511) HT_ (h:= ?_)
    refine last_ (i:=9) (N:=none) (fl 10 1023) rfl rfl (one_of HT_.out (by kernel_rfl)) (by decide) (fun K hK=> ?_)
    have s6:=Zc0 a5 1;have p5:=blk_frozen a5.out 1;have m9:=d3.out;have n0:=d4.out
    refine skip_ (w1:= ?_) (by rfl) rfl ?_ ?_
    rotate_left
    ·
     go_simp
     rfl
    refine hK.out _ _ ?_
    clear hK K
    refine done_ (done_of HT_.out (by kernel_rfl)) ?_
    try go_wp2
    go_roundg k1
    case measure=>have:=o8.out;omega
    case rel=>exact⟨(wrap64 (e6 - 1)),(k9),(l3),(i8),(.slice l6 i8.length l7),Zs,H',⟨by have:=o8.out;omega⟩,⟨Zrr (Kd.R_mono (Kd.R_far (p:=⟨a9,1,none⟩) (Kd.R_types i7.out a5.out (by decide)) (fun _ hk=>hk.2) (.slice l6 i8.length l7)) (fun _ hk=>trivial))⟩,⟨Zbf a6⟩,⟨by refine Zrb ?_;refine blk_put (cs:= #[.int .i64 (wrap64 (3+c9)),a8]) ?_ 1 _ rfl;refine Zrb ?_;exact a5.out⟩,⟨Zis d5⟩,⟨Zke HK⟩,⟨Zlb HB⟩⟩
   ·
    rw[if_neg i9]at H;have k8:decide (0<e6)=false:=decide_eq_false i9;clear i9
    obtain⟨rfl,rfl,rfl,rfl⟩:=Zs4 H;clear H
    have p6:=d4.out;have p7:=d3.out;have p8:=d7.out;have p9:=e7.out;obtain⟨n3,n4,n5,n6⟩:=Z2 a5;have q3:=d6.out;have q4:=i4.out;obtain⟨n7,n8,n9,o0⟩:=Z2 a6
    obtain⟨l9,m4,o1⟩:=Kd.R_slice a4.out;subst o1
    go_wp2
    refine bodyPost_ret (results_cell_row rfl _ _ b7 29 #[.int .i64 (wrap64 (3+c9)),.slice l9 a7.length m4] (0,0) _ rfl (by refine Zrb ?_;refine blk_put (cs:= #[.int .i64 (wrap64 (3+c9)),.slice none 0 0]) ?_ 1 _ rfl;refine Zrb ?_;refine blk_put (cs:= #[.int .i64 0,.slice none 0 0]) ?_ 0 _ rfl;refine Zrb ?_;exact a6.out) Try.underlying29 rfl (by kernel_rfl)) rfl ?_
    exact⟨_,Ze,Zrr (Zfm a4 a6 (.int .i64 (wrap64 (3+c9))) (.slice l9 a7.length m4) (fun _ hk=>trivial)),Zis d5,Zlb HB,Zke HK⟩
def impl_between.f (a0:Int) (a1:Int) (a2:Int):Option (Bool):=if a0≥a1 then(some (decide (a0≤a2)))else(some false)
set_option maxHeartbeats 8000000 in
set_option maxRecDepth 100000 in
theorem impl_between.calls (a0:Int) (a1:Int) (a2:Int) (r:Bool) (w:World) (h:impl_between.f a0 a1 a2=some r):
  Calls Try.prog 54 #[.int .i64 a0,.int .i64 a1,.int .i64 a2] w fun e w'=>e= .returned (.bool r)∧Drawn0 w w':=by
 have H:(if a0≥a1 then(some (decide (a0≤a2)))else(some false))=some r:=h;clear h
 by_cases c4:a0≥a1
 ·
  rw[if_pos c4]at H;have a4:decide (a1≤a0)=true:=decide_eq_true c4;clear c4;obtain rfl:=Option.some.inj H
  go_enter Try.func54,Try.ntmps54
  go_wp2
  go_ret
  exact⟨by first|rfl|(simp;done)|(simp[*];done),by repeat(first|exact Drawn0.refl _ |apply Drawn0.step)⟩
 ·
  rw[if_neg c4]at H;have a4:decide (a1≤a0)=false:=decide_eq_false c4;clear c4;obtain rfl:=Option.some.inj H
  go_enter Try.func54,Try.ntmps54
  go_wp2
  go_ret
  exact⟨by first|rfl|(simp;done)|(simp[*];done),by repeat(first|exact Drawn0.refl _ |apply Drawn0.step)⟩
def slices_Index_int_int.l0:Nat→List Int→Int→Int→Int→Option (Int)
 |0,_,_,_,_ =>none
 |k+1,x0,x1,x7,x8=>if x8<x7 then(if 0≤x8 then(if x8<(x0.length:Int)then(if x1=(rd x0 x8)then(some x8)else(slices_Index_int_int.l0 k x0 x1 x7 (wrap64 (x8+1))))else(none))else(none))else(some (-1))
def slices_Index_int_int.f (k:Nat) (l0:List Int) (a1:Int):Option (Int):=slices_Index_int_int.l0 k l0 a1 (l0.length:Int) 0
set_option maxHeartbeats 8000000 in
set_option maxRecDepth 100000 in
theorem slices_Index_int_int.calls (k:Nat) (A0:Option Addr) (c0:Nat) (l0:List Int) (a1:Int) (r:Int) (w:World) (b9:Kd.C (Kd.int .i64) w A0 l0.length l0) (c9:l0.length≤c0) (h:slices_Index_int_int.f k l0 a1=some r):
  Calls Try.prog 77 #[.slice A0 l0.length c0,.int .i64 a1] w fun e w'=>e= .returned (.int .i64 r)∧Drawn0 w w':=by
 have d3:=Aside0.mk b9;have d7:=Aside0.mk c9;clear b9 c9;have H:(slices_Index_int_int.l0 k l0 a1 (l0.length:Int) 0)=some r:=h;clear h;have H':=Aside0.mk H;clear H
 go_enter Try.func77,Try.ntmps77
 go_wp2
 go_loopg [8] k (fun kq v8 w'=> ∃(a4:Int),v8= .int .i64 a4∧Aside0 (slices_Index_int_int.l0 kq l0 a1 (l0.length:Int) a4=some r)∧Aside0 (kq≤k)∧Drawn0 w w')
 case atStart=>exact⟨(0),Zs,H',⟨Nat.le_refl _⟩,by repeat(first|exact Drawn0.refl _ |apply Drawn0.step)⟩
 case round=>
  (clear H');obtain⟨a4,rfl,HA,d4,⟨m1,rfl⟩⟩:=hrel
  cases gk with
  |zero=>exact absurd HA.out (by simp[slices_Index_int_int.l0])
  |succ k1=>
   have H:=HA.out;clear HA
   simp only[slices_Index_int_int.l0]at H
   by_cases c3:a4<(l0.length:Int)
   ·
    rw[if_pos c3]at H;have b6:=decide_eq_true c3;clear c3
    replace H:=Zit H;obtain⟨d5,H⟩:=H
    replace H:=Zit H;obtain⟨d6,H⟩:=H
    by_cases c6:a1=(rd l0 a4)
    ·
     rw[if_pos c6]at H;have b7:(a1 == (rd l0 a4))=true:=beq_iff_eq.mpr c6;have b8:(a1 != (rd l0 a4))=false:=bne_eq_false_iff_eq.mpr c6;clear c6;obtain rfl:=Option.some.inj H
     have a5:0≤(a4:Int):=Zoa;have a6:a4<(l0.length:Int):=Zoa
     obtain⟨a9,a8,a7⟩:=Kd.at_int d3.out a4 a5 a6
     cases a8
     replace a5:=eq_true a5
     replace a6:=eq_true a6
     go_wp2
     go_ret
     exact⟨by first|rfl|(simp;done)|(simp[*];done),by repeat(first|exact Drawn0.refl _ |apply Drawn0.step)⟩
    ·
     rw[if_neg c6]at H;have b7:(a1 == (rd l0 a4))=false:=beq_eq_false_iff_ne.mpr c6;have b8:(a1 != (rd l0 a4))=true:=bne_iff_ne.mpr c6;have H':=Aside0.mk H;clear H;have a5:0≤(a4:Int):=Zoa;have a6:a4<(l0.length:Int):=Zoa;obtain⟨a9,a8,a7⟩:=Kd.at_int d3.out a4 a5 a6
     cases a8
     replace a5:=eq_true a5
     replace a6:=eq_true a6
     go_wp2
     go_roundg k1
     case measure=>have:=d4.out;omega
     case rel=>exact⟨(wrap64 (a4+1)),Zs,H',⟨by have:=d4.out;omega⟩,by repeat(first|exact Drawn0.refl _ |apply Drawn0.step)⟩
   ·
    rw[if_neg c3]at H;have b6:=decide_eq_false c3;clear c3;obtain rfl:=Option.some.inj H
    go_wp2
    go_ret
    exact⟨by first|rfl|(simp;done)|(simp[*];done),by repeat(first|exact Drawn0.refl _ |apply Drawn0.step)⟩
def slices_Contains_int_int.f (k:Nat) (l0:List Int) (a1:Int):Option (Bool):=(slices_Index_int_int.f k l0 a1).bind fun a4=>(some (decide (a4≥0)))
set_option maxHeartbeats 8000000 in
set_option maxRecDepth 100000 in
theorem slices_Contains_int_int.calls (k:Nat) (A0:Option Addr) (c0:Nat) (l0:List Int) (a1:Int) (r:Bool) (w:World) (a7:Kd.C (Kd.int .i64) w A0 l0.length l0) (a8:l0.length≤c0) (h:slices_Contains_int_int.f k l0 a1=some r):
  Calls Try.prog 72 #[.slice A0 l0.length c0,.int .i64 a1] w fun e w'=>e= .returned (.bool r)∧Drawn0 w w':=by
 (have a9:=Aside0.mk a7;have b6:=Aside0.mk a8;clear a7 a8;have H:((slices_Index_int_int.f k l0 a1).bind fun a4=>(some (decide (a4≥0))))=some r:=h;clear h);replace H:=Zb0 H;obtain⟨a4,A3,H⟩:=H;obtain rfl:=Option.some.inj H
 go_enter Try.func72,Try.ntmps72
 go_wp2_with (first|((with_reducible refine gate_callee (f:=77) rfl ?_);refine Ga (some 7) Try.func77 #[.slice A0 l0.length c0,.int .i64 a1] (h:= ?_);(with_reducible refine(slices_Index_int_int.calls k _ _ l0 a1 a4 _ ?a5 ?a6 A3.out).mono ?_);(case a5=>exact Zca a9.out);(case a6=>exact b6.out);rintro e w' ⟨rfl,⟨nd,rfl⟩⟩;refine⟨_,rfl, ?_⟩))
 go_ret
 exact⟨by first|rfl|(simp;done)|(simp[*];done),by repeat(first|exact Drawn0.refl _ |apply Drawn0.step)⟩
def impl_isOrder.l0:Nat→List Int→List Int→Int→Int→Option (Bool)
 |0,_,_,_,_ =>none
 |k+1,x0,x9,a7,a4=>if a4<a7 then(if 0≤a4 then(if a4<(x9.length:Int)then((impl_between.f (rd x9 a4) 0 (wrap64 ((x0.length:Int) - 1))).bind fun a5=>(if a5=true then(if a4≤(x0.length:Int)then((slices_Contains_int_int.f k (x0.take (a4:Int).toNat) (rd x9 a4)).bind fun a6=>(if a6=true then(some false)else(impl_isOrder.l0 k x0 x9 a7 (wrap64 (a4+1)))))else(none))else(some false)))else(none))else(none))else(some true)
def impl_isOrder.f (k:Nat) (l0:List Int):Option (Bool):=(impl_between.f (l0.length:Int) 1 8).bind fun a4=>(if a4=true then(impl_isOrder.l0 k l0 l0 (l0.length:Int) 0)else(some false))
theorem impl_isOrder.slice_len {P:Program} {f:Nat} {A:Option Addr} {n m c:Nat} {x:Value} {w:World} {Q:Ending→World→Prop} (h:n=m) (H:Calls P f #[.slice A n c,x] w Q):Calls P f #[.slice A m c,x] w Q:=h ▸ H
set_option maxHeartbeats 8000000 in
set_option maxRecDepth 100000 in
theorem impl_isOrder.calls (k:Nat) (A0:Option Addr) (c0:Nat) (l0:List Int) (r:Bool) (w:World) (i4:Kd.C (Kd.int .i64) w A0 l0.length l0) (i5:l0.length≤c0) (h:impl_isOrder.f k l0=some r):
  Calls Try.prog 58 #[.slice A0 l0.length c0] w fun e w'=>e= .returned (.bool r)∧Drawn0 w w':=by
 (have d7:=Aside0.mk i4;have i6:=Aside0.mk i5;clear i4 i5;have H:((impl_between.f (l0.length:Int) 1 8).bind fun d6=>(if d6=true then(impl_isOrder.l0 k l0 l0 (l0.length:Int) 0)else(some false)))=some r:=h;clear h);replace H:=Zb0 H;obtain⟨d6,A2,H⟩:=H
 by_cases c3:d6=true
 ·
  subst c3
  rw[if_pos rfl]at H
  have H':=Aside0.mk H;clear H
  go_enter Try.func58,Try.ntmps58
  go_wp2_with (first|((with_reducible refine gate_callee (f:=54) rfl ?_);refine Ga (some 7) Try.func54 #[.int .i64 (l0.length:Int),.int .i64 1,.int .i64 8] (h:= ?_);(with_reducible refine(impl_between.calls (l0.length:Int) 1 8 true _ A2.out).mono ?_);rintro e w' ⟨rfl,⟨nd,rfl⟩⟩;refine⟨_,rfl, ?_⟩))
  go_loopg [11] k (fun kq k4 w'=> ∃(a4:Int),k4= .int .i64 a4∧Aside0 (impl_isOrder.l0 kq l0 l0 (l0.length:Int) a4=some r)∧Aside0 (kq≤k)∧Drawn0 w w')
  case atStart=>exact⟨(0),Zs,H',⟨Nat.le_refl _⟩,by repeat(first|exact Drawn0.refl _ |apply Drawn0.step)⟩
  case round=>
   (clear H');obtain⟨a4,rfl,HA,i7,⟨m1,rfl⟩⟩:=hrel
   cases gk with
   |zero=>exact absurd HA.out (by simp[impl_isOrder.l0])
   |succ k1=>
    have H:=HA.out;clear HA
    simp only[impl_isOrder.l0]at H
    by_cases c4:a4<(l0.length:Int)
    ·
     rw[if_pos c4]at H;have f8:=decide_eq_true c4;clear c4
     replace H:=Zif H;obtain⟨c5,H⟩:=H;have k6:decide (0≤a4)=true:=decide_eq_true c5;clear c5
     replace H:=Zif H;obtain⟨c6,H⟩:=H;have k8:decide (a4<(l0.length:Int))=true:=decide_eq_true c6;clear c6;replace H:=Zb0 H;obtain⟨f9,A7,H⟩:=H
     by_cases c8:f9=true
     ·
      subst c8
      rw[if_pos rfl]at H
      have k9:=eq_true (of_decide_eq_true (by first|(with_reducible assumption)|assumption):0≤a4)
      replace H:=Zif H;obtain⟨c10,H⟩:=H;have i8:=eq_true c10;have i9:decide (a4≤(l0.length:Int))=true:=decide_eq_true c10;clear c10;replace H:=Zb0 H;obtain⟨g8,k3,H⟩:=H
      by_cases e9:g8=true
      ·
       subst e9
       rw[if_pos rfl]at H
       obtain rfl:=Option.some.inj H
       have a6:0≤(a4:Int):=Zoa;have a5:a4<(l0.length:Int):=Zoa
       obtain⟨a7,a9,a8⟩:=Kd.at_int d7.out a4 a6 a5
       cases a9
       replace a6:=eq_true a6
       replace a5:=eq_true a5
       go_wp2_with (first|((with_reducible refine gate_callee (f:=54) rfl ?_);refine Ga (some 20) Try.func54 #[.int .i64 (rd l0 a4),.int .i64 0,.int .i64 (wrap64 ((l0.length:Int) - 1))] (h:= ?_);(with_reducible refine(impl_between.calls (rd l0 a4) 0 (wrap64 ((l0.length:Int) - 1)) true _ A7.out).mono ?_);rintro e w' ⟨rfl,⟨nd,rfl⟩⟩;refine⟨_,rfl, ?_⟩;obtain⟨l3,c9,_,d3,_⟩:=info_parts info3;obtain⟨g9,d8,d9⟩:=print_take_of (P:=Try.prog) (Value.int .i64) 0 24 3 .i64 Try.underlying24 c9 d3 (some a7) c0 l0 a4 (of_decide_eq_true (by first|(with_reducible assumption)|assumption)) (of_decide_eq_true (by first|(with_reducible assumption)|assumption)) i6.out;have b6:=Zm (Kd.C_of_reads (h1:=fun _ =>rfl) (d8 _ (Kd.reads_of_C d7.out)));have b7:=Aside0.mk d9;clear d8 d9 c9 d3)|(go_at_call 72;(with_reducible refine(impl_isOrder.slice_len (n:=(l0.take (a4:Int).toNat).length) ?sideN (slices_Contains_int_int.calls k1 _ _ (l0.take (a4:Int).toNat) (rd l0 a4) true _ ?b8 ?b9 k3.out)).mono ?_);(case sideN=>have hq_:=of_eq_true a5;rw[List.length_take];omega);(case b8=>exact Zca b6.out);(case b9=>exact b7.out);rintro e w' ⟨rfl,⟨nd,rfl⟩⟩))
       go_ret
       exact⟨by first|rfl|(simp;done)|(simp[*];done),by repeat(first|exact Drawn0.refl _ |apply Drawn0.step)⟩
      ·
       replace e9:=Bool.eq_false_iff.mpr e9
       subst e9
       rw[if_neg Bool.false_ne_true]at H
       have H':=Aside0.mk H;clear H;have a6:0≤(a4:Int):=Zoa;have a5:a4<(l0.length:Int):=Zoa;obtain⟨a7,a9,a8⟩:=Kd.at_int d7.out a4 a6 a5
       cases a9
       replace a6:=eq_true a6
       replace a5:=eq_true a5
       go_wp2_with (first|((with_reducible refine gate_callee (f:=54) rfl ?_);refine Ga (some 20) Try.func54 #[.int .i64 (rd l0 a4),.int .i64 0,.int .i64 (wrap64 ((l0.length:Int) - 1))] (h:= ?_);(with_reducible refine(impl_between.calls (rd l0 a4) 0 (wrap64 ((l0.length:Int) - 1)) true _ A7.out).mono ?_);rintro e w' ⟨rfl,⟨nd,rfl⟩⟩;refine⟨_,rfl, ?_⟩;obtain⟨l4,d4,_,d5,_⟩:=info_parts info3;obtain⟨i3,e6,e7⟩:=print_take_of (P:=Try.prog) (Value.int .i64) 0 24 3 .i64 Try.underlying24 d4 d5 (some a7) c0 l0 a4 (of_decide_eq_true (by first|(with_reducible assumption)|assumption)) (of_decide_eq_true (by first|(with_reducible assumption)|assumption)) i6.out;have b6:=Zm (Kd.C_of_reads (h1:=fun _ =>rfl) (e6 _ (Kd.reads_of_C d7.out)));have b7:=Aside0.mk e7;clear e6 e7 d4 d5)|(go_at_call 72;(with_reducible refine(impl_isOrder.slice_len (n:=(l0.take (a4:Int).toNat).length) ?sideN (slices_Contains_int_int.calls k1 _ _ (l0.take (a4:Int).toNat) (rd l0 a4) false _ ?b8 ?b9 k3.out)).mono ?_);(case sideN=>have hq_:=of_eq_true a5;rw[List.length_take];omega);(case b8=>exact Zca b6.out);(case b9=>exact b7.out);rintro e w' ⟨rfl,⟨nd,rfl⟩⟩))
       go_roundg k1
       case measure=>have:=i7.out;omega
       case rel=>exact⟨(wrap64 (a4+1)),Zs,H',⟨by have:=i7.out;omega⟩,by repeat(first|exact Drawn0.refl _ |apply Drawn0.step)⟩
     ·
      replace c8:=Bool.eq_false_iff.mpr c8
      subst c8
      rw[if_neg Bool.false_ne_true]at H
      obtain rfl:=Option.some.inj H
      have a6:0≤(a4:Int):=Zoa;have a5:a4<(l0.length:Int):=Zoa
      obtain⟨a7,a9,a8⟩:=Kd.at_int d7.out a4 a6 a5
      cases a9
      replace a6:=eq_true a6
      replace a5:=eq_true a5
      go_wp2_with (first|((with_reducible refine gate_callee (f:=54) rfl ?_);refine Ga (some 20) Try.func54 #[.int .i64 (rd l0 a4),.int .i64 0,.int .i64 (wrap64 ((l0.length:Int) - 1))] (h:= ?_);(with_reducible refine(impl_between.calls (rd l0 a4) 0 (wrap64 ((l0.length:Int) - 1)) false _ A7.out).mono ?_);rintro e w' ⟨rfl,⟨nd,rfl⟩⟩;refine⟨_,rfl, ?_⟩))
      go_ret
      exact⟨by first|rfl|(simp;done)|(simp[*];done),by repeat(first|exact Drawn0.refl _ |apply Drawn0.step)⟩
    ·
     rw[if_neg c4]at H;have f8:=decide_eq_false c4;clear c4;obtain rfl:=Option.some.inj H
     go_wp2
     go_ret
     exact⟨by first|rfl|(simp;done)|(simp[*];done),by repeat(first|exact Drawn0.refl _ |apply Drawn0.step)⟩
 ·
  replace c3:=Bool.eq_false_iff.mpr c3
  subst c3
  rw[if_neg Bool.false_ne_true]at H
  obtain rfl:=Option.some.inj H
  go_enter Try.func58,Try.ntmps58
  go_wp2_with (first|((with_reducible refine gate_callee (f:=54) rfl ?_);refine Ga (some 7) Try.func54 #[.int .i64 (l0.length:Int),.int .i64 1,.int .i64 8] (h:= ?_);(with_reducible refine(impl_between.calls (l0.length:Int) 1 8 false _ A2.out).mono ?_);rintro e w' ⟨rfl,⟨nd,rfl⟩⟩;refine⟨_,rfl, ?_⟩))
  go_ret
  exact⟨by first|rfl|(simp;done)|(simp[*];done),by repeat(first|exact Drawn0.refl _ |apply Drawn0.step)⟩
mutual
def impl_isTurned.j0:Nat→Bool→List Int→List Int→Option (Bool)
 |0,_,_,_ =>none
 |k+1,b6,a6,a4=>if b6=true then(some false)else(impl_isTurned.l0 k 0 a4 (a4.length:Int) 0)
def impl_isTurned.l0:Nat→Int→List Int→Int→Int→Option (Bool)
 |0,_,_,_,_ =>none
 |k+1,x3,a7,a9,a5=>if a5<a9 then(if 0≤a5 then(if a5<(a7.length:Int)then((impl_between.f (rd a7 a5) (-20) 20).bind fun a8=>(if a8=true then(impl_isTurned.l0 k (wrap64 (x3+(rd a7 a5))) a7 a9 (wrap64 (a5+1)))else(some false)))else(none))else(none))else(some (x3 == 0))
end
def impl_isTurned.f (k:Nat) (a4:List Int) (a5:List Int):Option (Bool):=(impl_isOrder.f k a4).bind fun a6=>(if a6=true then(if(a4.length:Int)<3 then(impl_isTurned.j0 k true a4 a5)else(impl_isTurned.j0 k ((a5.length:Int) != (a4.length:Int)) a4 a5))else(impl_isTurned.j0 k true a4 a5))
set_option maxHeartbeats 8000000 in
set_option maxRecDepth 100000 in
theorem impl_isTurned.calls (k:Nat) (a9:Option Addr) (b6:Nat) (a4:List Int) (c9:Option Addr) (d3:Nat) (a5:List Int) (r:Bool) (w:World) (e6:Kd.C (Kd.int .i64) w a9 a4.length a4) (e7:a4.length≤b6) (e9:Kd.C (Kd.int .i64) w c9 a5.length a5) (f8:a5.length≤d3) (h:impl_isTurned.f k a4 a5=some r):
  Calls Try.prog 31 #[.agg #[.slice a9 a4.length b6,.slice c9 a5.length d3]] w fun e w'=>e= .returned (.bool r)∧Below w.heap.size w w':=by
 have o0:=Try.underlying26;have d4:=Aside0.mk e6;have d5:=Aside0.mk e7;clear e6 e7;have f9:=Aside0.mk e9;have m9:=Aside0.mk f8;clear e9 f8;have HB:=Zm (Below.refl w.heap.size w);have H:((impl_isOrder.f k a4).bind fun g9=>(if g9=true then(if(a4.length:Int)<3 then(impl_isTurned.j0 k true a4 a5)else(impl_isTurned.j0 k ((a5.length:Int) != (a4.length:Int)) a4 a5))else(impl_isTurned.j0 k true a4 a5)))=some r:=h;clear h;have k6:=Aside0.mk H;clear H
 go_enter Try.func31,Try.ntmps31
 go_upto_region 1 with(first|((with_reducible refine gate_dst (N:=1) rfl ?_);(try(refine gate_guard (by rfl) ?_;dsimp only));refine Zbe 1 #[.slice a9 a4.length b6,.slice c9 a5.length d3] 26 ?_;intro g8 hg w3 hbox hb;have a7:=Zm (hbox);have n0:=Zx hg HB;have n3:=Zx hg HB;replace HB:=Zh HB hb;clear hb hbox hg))
 (try simp only[Act.put,List.setIfInBounds_toArray,List.set_cons_zero,List.set_cons_succ])
 go_cut [24] (fun o1 wc=> ∃(kq:Nat) (b9:Bool),o1= .bool b9∧Aside0 (impl_isTurned.j0 kq b9 a4 a5=some r)∧Aside0 (kq≤k)∧Aside0 (wc.heap[g8]? =some (.cells #[(.slice a9 a4.length b6),(.slice c9 a5.length d3)] 26 (0,0)))∧Aside0 (Below w.heap.size w wc))
 case first=>
  have H:=k6.out;clear k6;replace H:=Zb0 H;obtain⟨g9,A4,H⟩:=H
  by_cases c5:g9=true
  ·
   subst c5
   rw[if_pos rfl]at H
   by_cases c6:(a4.length:Int)<3
   ·
    rw[if_pos c6]at H;have d6:=decide_eq_true c6;have k8:decide (a4.length<3)=true:=decide_eq_true (by omega);clear c6
    (first|rw[d6]|(simp only[i64_w,i32_w];rw[d6])|skip)
    have H':=Aside0.mk H;clear H;obtain⟨k9,l3,l4,l5⟩:=Z2 a7
    go_wp2_with (first|((with_reducible refine gate_callee (f:=58) rfl ?_);refine Ga (some 8) Try.func58 #[.slice a9 a4.length b6] (h:= ?_);(with_reducible refine(impl_isOrder.calls k _ _ a4 true _ ?b7 ?b8 A4.out).mono ?_);(case b7=>exact Zca (Kd.C_below d4.out HB.out));(case b8=>exact d5.out);rintro e w' ⟨rfl,⟨nd,rfl⟩⟩;refine⟨_,rfl, ?_⟩))
    go_meet
    case rel=>exact⟨_,(true),Zs,H',⟨by first|omega|exact Nat.le_refl _⟩,⟨Zb a7⟩,⟨Zl HB⟩⟩
   ·
    rw[if_neg c6]at H;have d6:=decide_eq_false c6;have k8:decide (a4.length<3)=false:=decide_eq_false (by omega);clear c6
    (first|rw[d6]|(simp only[i64_w,i32_w];rw[d6])|skip)
    have H':=Aside0.mk H;clear H;obtain⟨l6,l7,l8,l9⟩:=Z2 a7
    go_wp2_with (first|((with_reducible refine gate_callee (f:=58) rfl ?_);refine Ga (some 8) Try.func58 #[.slice a9 a4.length b6] (h:= ?_);(with_reducible refine(impl_isOrder.calls k _ _ a4 true _ ?b7 ?b8 A4.out).mono ?_);(case b7=>exact Zca (Kd.C_below d4.out HB.out));(case b8=>exact d5.out);rintro e w' ⟨rfl,⟨nd,rfl⟩⟩;refine⟨_,rfl, ?_⟩))
    go_meet
    case rel=>exact⟨_,(((a5.length:Int) != (a4.length:Int))),Zs,H',⟨by first|omega|exact Nat.le_refl _⟩,⟨Zb a7⟩,⟨Zl HB⟩⟩
  ·
   replace c5:=Bool.eq_false_iff.mpr c5
   subst c5
   rw[if_neg Bool.false_ne_true]at H
   have H':=Aside0.mk H;clear H;obtain⟨m4,m5,m6,m7⟩:=Z2 a7
   go_wp2_with (first|((with_reducible refine gate_callee (f:=58) rfl ?_);refine Ga (some 8) Try.func58 #[.slice a9 a4.length b6] (h:= ?_);(with_reducible refine(impl_isOrder.calls k _ _ a4 false _ ?b7 ?b8 A4.out).mono ?_);(case b7=>exact Zca (Kd.C_below d4.out HB.out));(case b8=>exact d5.out);rintro e w' ⟨rfl,⟨nd,rfl⟩⟩;refine⟨_,rfl, ?_⟩))
   go_meet
   case rel=>exact⟨_,(true),Zs,H',⟨by first|omega|exact Nat.le_refl _⟩,⟨Zb a7⟩,⟨Zl HB⟩⟩
 case rest=>
  (clear k6);obtain⟨kq,b9,rfl,HA,n4,a7,HB⟩:=hcut
  cases kq with
  |zero=>exact absurd HA.out (by simp[impl_isTurned.j0])
  |succ n5=>
   have H:=HA.out;clear HA
   simp only[impl_isTurned.j0]at H
   by_cases c10:b9=true
   ·
    subst c10
    rw[if_pos rfl]at H
    obtain rfl:=Option.some.inj H
    go_wp2
    go_ret
    exact⟨Ze,Zl HB⟩
   ·
    replace c10:=Bool.eq_false_iff.mpr c10
    subst c10
    rw[if_neg Bool.false_ne_true]at H
    have H':=Aside0.mk H;clear H;obtain⟨i7,i8,i9,k3⟩:=Z2 a7
    go_wp2
    go_loopg [3,28] n5 (fun kq v3 o2 w'=> ∃(d7:Int) (a6:Int),v3= .int .i64 d7∧o2= .int .i64 a6∧Aside0 (impl_isTurned.l0 kq d7 a5 (a5.length:Int) a6=some r)∧Aside0 (kq≤n5)∧Aside0 (w'.heap[g8]? =some (.cells #[(.slice a9 a4.length b6),(.slice c9 a5.length d3)] 26 (0,0)))∧Aside0 (Below w.heap.size w w'))
    case atStart=>exact⟨(0),(0),Zs,Zs,H',⟨Nat.le_refl _⟩,⟨Zb a7⟩,⟨Zl HB⟩⟩
    case round=>
     (clear H');obtain⟨d7,a6,rfl,rfl,HA,n6,a7,HB⟩:=hrel
     cases gk with
     |zero=>exact absurd HA.out (by simp[impl_isTurned.l0])
     |succ k2=>
      have H:=HA.out;clear HA
      simp only[impl_isTurned.l0]at H
      by_cases i4:a6<(a5.length:Int)
      ·
       rw[if_pos i4]at H;have i5:=decide_eq_true i4;clear i4
       replace H:=Zit H;obtain⟨n7,H⟩:=H
       replace H:=Zit H;obtain⟨n8,H⟩:=H;replace H:=Zb0 H;obtain⟨m8,n9,H⟩:=H
       by_cases k4:m8=true
       ·
        subst k4
        rw[if_pos rfl]at H
        have H':=Aside0.mk H;clear H;have d8:0≤(a6:Int):=Zoa;have d9:a6<(a5.length:Int):=Zoa;obtain⟨i6,i3,a8⟩:=Kd.at_int f9.out a6 d8 d9
        cases i3
        replace a8:=(HB.out.cell (World.block_lt_of_cell? w _ a8)).trans a8
        replace d8:=eq_true d8
        replace d9:=eq_true d9
        go_wp2_with (first|((with_reducible refine gate_callee (f:=54) rfl ?_);refine Ga (some 33) Try.func54 #[.int .i64 (rd a5 a6),.int .i64 (-20),.int .i64 20] (h:= ?_);(with_reducible refine(impl_between.calls (rd a5 a6) (-20) 20 true _ n9.out).mono ?_);rintro e w' ⟨rfl,⟨nd,rfl⟩⟩;refine⟨_,rfl, ?_⟩))
        go_roundg k2
        case measure=>have:=n4.out;have:=n6.out;omega
        case rel=>exact⟨(wrap64 (d7+(rd a5 a6))),(wrap64 (a6+1)),Zs,Zs,H',⟨by have:=n4.out;have:=n6.out;omega⟩,⟨Zb a7⟩,⟨Zl HB⟩⟩
       ·
        replace k4:=Bool.eq_false_iff.mpr k4
        subst k4
        rw[if_neg Bool.false_ne_true]at H
        obtain rfl:=Option.some.inj H
        obtain⟨i6,i3,a8,d8,d9⟩:=Zat f9 HB (a6)
        cases i3
        go_wp2_with (first|((with_reducible refine gate_callee (f:=54) rfl ?_);refine Ga (some 33) Try.func54 #[.int .i64 (rd a5 a6),.int .i64 (-20),.int .i64 20] (h:= ?_);(with_reducible refine(impl_between.calls (rd a5 a6) (-20) 20 false _ n9.out).mono ?_);rintro e w' ⟨rfl,⟨nd,rfl⟩⟩;refine⟨_,rfl, ?_⟩))
        go_ret
        exact⟨Ze,Zl HB⟩
      ·
       rw[if_neg i4]at H;have i5:=decide_eq_false i4;clear i4;obtain rfl:=Option.some.inj H
       go_wp2
       go_ret
       exact⟨Ze,Zl HB⟩
def IsS26 (w0 W:World) (g:Nat) (f0:List Int) (f1:List Int):Prop:= ∃A0 c0,∃A1 c1,W.heap[g]? =some (.cells #[.slice A0 f0.length c0,.slice A1 f1.length c1] 26 (0,0))∧w0.heap.size≤g∧Kd.C (Kd.int .i64) w0 A0 f0.length f0∧Kd.C (Kd.int .i64) w0 A1 f1.length f1
theorem IsS26.grown {w0 W:World} {g:Nat} {f0:List Int} {f1:List Int} {W1:World} {row:Option Nat} (h:IsS26 w0 W g f0 f1) (hw:W.grownBy W1 row) (hne:some g≠row):IsS26 w0 W1 g f0 f1:=by
 obtain⟨A0,c0,A1,c1,hb,hg,a4,a5⟩:=h
 exact⟨A0,c0,A1,c1,blk_grown hb hw hne,hg,a4,a5⟩
theorem IsS26.fresh {w0 W:World} {g:Nat} {f0:List Int} {f1:List Int} (h:IsS26 w0 W g f0 f1): ∀k,W.heap.size≤k→k≠g:=by
 obtain⟨A0,c0,A1,c1,hb,hg,a4,a5⟩:=h
 exact Kd.freshB hb
theorem IsS26.kept {w0 W:World} {g:Nat} {f0:List Int} {f1:List Int} {W1:World} {S:Nat→Prop} (h:IsS26 w0 W g f0 f1) (hk:Kept W W1 S) (hne: ¬S g):IsS26 w0 W1 g f0 f1:=by
 obtain⟨A0,c0,A1,c1,hb,hg,a4,a5⟩:=h
 exact⟨A0,c0,A1,c1,blk_kept hb hk hne,hg,a4,a5⟩
theorem IsS26.below {w0 W:World} {g:Nat} {f0:List Int} {f1:List Int} {W1:World} (h:IsS26 w0 W g f0 f1) (hw:Below W.heap.size W W1):IsS26 w0 W1 g f0 f1:=h.grown (grown_of_below hw none) (by simp)
theorem IsS26.alloc {w0 W:World} {g:Nat} {f0:List Int} {f1:List Int} (h:IsS26 w0 W g f0 f1) (o:Obj):IsS26 w0 (W.alloc o) g f0 f1:=h.below (below_alloc (Below.refl _ _) o)
theorem IsS26.drewN {w0 W:World} {g:Nat} {f0:List Int} {f1:List Int} (h:IsS26 w0 W g f0 f1) (m:Nat):IsS26 w0 (W.drewN m) g f0 f1:=h
theorem IsS26.drew {w0 W:World} {g:Nat} {f0:List Int} {f1:List Int} (h:IsS26 w0 W g f0 f1):IsS26 w0 W.drew g f0 f1:=h
theorem IsS26.at_ {w0 W:World} {g:Nat} {f0:List Int} {f1:List Int} {w':World} {m:Nat} (hq:W.drewN m=w') (h:IsS26 w0 W g f0 f1):IsS26 w0 w' g f0 f1:=by subst hq;exact IsS26.drewN h m
theorem IsS26.apart {w0 W:World} {g:Nat} {f0:List Int} {f1:List Int} {α:Type} {d:Kd α} {e:Nat} {base:Nat} {ok:Nat→Prop} {v:Value} {xs:List α} (h:IsS26 w0 W g f0 f1) (ho:d.R e W base ok v xs) (ht: ∀q,q∈e::d.E→q≠26):d.R e W base (fun k=>ok k∧k≠g) v xs:=by
 obtain⟨A0,c0,A1,c1,hb,hg,a4,a5⟩:=h
 exact Kd.R_types ho hb ht
theorem IsS26.own_ne {w0 W:World} {g:Nat} {f0:List Int} {f1:List Int} {α:Type} {d:Kd α} {e:Nat} {base:Nat} {ok:Nat→Prop} {v:Value} {xs:List α} (h:IsS26 w0 W g f0 f1) (ho:d.R e W base ok v xs) (ht:e≠26):some g≠v.ownBlock:=by
 obtain⟨A0,c0,A1,c1,hb,hg,a4,a5⟩:=h
 exact Kd.R_ne ho hb ht
theorem IsS26.apartQ {w0 W:World} {g:Nat} {f0:List Int} {f1:List Int} {α:Type} {d:Kd α} {e:Nat} {base:Nat} {ok:Nat→Prop} {v:Value} {xs:List α} (h:IsS26 w0 W g f0 f1) (ho:d.Q e W base ok v xs) (ht: ∀q,q∈e::d.E→q≠26):d.Q e W base (fun k=>ok k∧k≠g) v xs:=by
 obtain⟨A0,c0,A1,c1,hb,hg,a4,a5⟩:=h
 exact Kd.Q_types ho hb ht
theorem IsS26.lt {w0 W:World} {g:Nat} {f0:List Int} {f1:List Int} (h:IsS26 w0 W g f0 f1):g<W.heap.size:=by
 obtain⟨A0,c0,A1,c1,hb,hg,a4,a5⟩:=h
 exact blk_lt hb
theorem IsS26.ge {w0 W:World} {g:Nat} {f0:List Int} {f1:List Int} (h:IsS26 w0 W g f0 f1):w0.heap.size≤g:=by
 obtain⟨A0,c0,A1,c1,hb,hg,a4,a5⟩:=h
 exact hg
theorem IsS26.far {w0 W:World} {g:Nat} {f0:List Int} {f1:List Int} {p:Addr} (h:IsS26 w0 W g f0 f1) (hne:g≠p.block) (u:Value):IsS26 w0 (W.setCell p u) g f0 f1:=by
 obtain⟨A0,c0,A1,c1,hb,hg,a4,a5⟩:=h
 exact⟨A0,c0,A1,c1,blk_far hb hne u,hg,a4,a5⟩
theorem cellS26_0 {W:World} {g:Nat} {A0:Option Addr} {c0:Nat} {A1:Option Addr} {c1:Nat} {f0:List Int} {f1:List Int} (h:W.heap[g]? =some (.cells #[.slice A0 f0.length c0,.slice A1 f1.length c1] 26 (0,0))):W.cell? ⟨g,0,none⟩=some (.slice A0 f0.length c0):=(blk_cell h 0).trans rfl
theorem cellS26_1 {W:World} {g:Nat} {A0:Option Addr} {c0:Nat} {A1:Option Addr} {c1:Nat} {f0:List Int} {f1:List Int} (h:W.heap[g]? =some (.cells #[.slice A0 f0.length c0,.slice A1 f1.length c1] 26 (0,0))):W.cell? ⟨g,1,none⟩=some (.slice A1 f1.length c1):=(blk_cell h 1).trans rfl
def impl_Turned_place.f (a4:List Int) (a5:List Int) (a1:Int):Option (Int):=if(a4.length:Int)=0 then(none)else(if 0≤(Int.tmod (wrap64 ((Int.tmod a1 (a4.length:Int))+(a4.length:Int))) (a4.length:Int))then(if(Int.tmod (wrap64 ((Int.tmod a1 (a4.length:Int))+(a4.length:Int))) (a4.length:Int))<(a4.length:Int)then(if(Int.tmod (wrap64 ((Int.tmod a1 (a4.length:Int))+(a4.length:Int))) (a4.length:Int))<(a5.length:Int)then(some (wrap64 ((wrap64 ((wrap64 ((rd a4 (Int.tmod (wrap64 ((Int.tmod a1 (a4.length:Int))+(a4.length:Int))) (a4.length:Int)))+(wrap64 ((a4.length:Int)*(rd a5 (Int.tmod (wrap64 ((Int.tmod a1 (a4.length:Int))+(a4.length:Int))) (a4.length:Int)))))))+a1)) - (Int.tmod (wrap64 ((Int.tmod a1 (a4.length:Int))+(a4.length:Int))) (a4.length:Int)))))else(none))else(none))else(none))
set_option maxHeartbeats 8000000 in
set_option maxRecDepth 100000 in
theorem impl_Turned_place.calls (g:Nat) (a4:List Int) (a5:List Int) (a1:Int) (r:Int) (w0 w:World) (hI:IsS26 w0 w g a4 a5) (hB:Below w0.heap.size w0 w) (h:impl_Turned_place.f a4 a5 a1=some r):
  Calls Try.prog 55 #[.pointer (some ⟨g,0,none⟩),.int .i64 a1] w fun e w'=>e= .returned (.int .i64 r)∧IsS26 w0 w' g a4 a5∧Below w0.heap.size w0 w'∧KeepBut w w' g none:=by
 have d5:=Aside0.mk hI;have HK:=Zm (KeepBut.refl w g none);have HL:=Aside0.mk hB.size;clear hI;have i9:=Aside0.mk hB.size;have HB:=Aside0.mk hB;clear hB;have H:(if(a4.length:Int)=0 then(none)else(if 0≤(Int.tmod (wrap64 ((Int.tmod a1 (a4.length:Int))+(a4.length:Int))) (a4.length:Int))then(if(Int.tmod (wrap64 ((Int.tmod a1 (a4.length:Int))+(a4.length:Int))) (a4.length:Int))<(a4.length:Int)then(if(Int.tmod (wrap64 ((Int.tmod a1 (a4.length:Int))+(a4.length:Int))) (a4.length:Int))<(a5.length:Int)then(some (wrap64 ((wrap64 ((wrap64 ((rd a4 (Int.tmod (wrap64 ((Int.tmod a1 (a4.length:Int))+(a4.length:Int))) (a4.length:Int)))+(wrap64 ((a4.length:Int)*(rd a5 (Int.tmod (wrap64 ((Int.tmod a1 (a4.length:Int))+(a4.length:Int))) (a4.length:Int)))))))+a1)) - (Int.tmod (wrap64 ((Int.tmod a1 (a4.length:Int))+(a4.length:Int))) (a4.length:Int)))))else(none))else(none))else(none)))=some r:=h;clear h
 replace H:=Zie H;obtain⟨c3,H⟩:=H;have i3:((a4.length:Int) == 0)=false:=beq_eq_false_iff_ne.mpr c3;have i4:((a4.length:Int) != 0)=true:=bne_iff_ne.mpr c3;(have i5: ¬(a4= []):=fun h_=>c3 (by rw[h_];rfl));obtain⟨a8,a9⟩: ∃j_:Int,(Int.tmod (wrap64 ((Int.tmod a1 (a4.length:Int))+(a4.length:Int))) (a4.length:Int))=j_:=⟨_,rfl⟩;(replace H:(if 0≤(a8)then(if(a8)<(a4.length:Int)then(if(a8)<(a5.length:Int)then(some (wrap64 ((wrap64 ((wrap64 ((rd a4 (a8))+(wrap64 ((a4.length:Int)*(rd a5 (a8))))))+a1)) - (a8))))else(none))else(none))else(none))=some r:=by first|(rw[a9]at H;exact H)|(simp only[a9]at H ⊢;exact H))
 by_cases c5:0≤(a8)
 ·
  rw[if_pos c5]at H;have i6:=decide_eq_true c5;clear c5
  replace H:=Zit H;obtain⟨i7,H⟩:=H
  replace H:=Zit H;obtain⟨i8,H⟩:=H;obtain rfl:=Option.some.inj H;obtain⟨d6,d7,d8,d9,b6,e6,b7,b8⟩:=d5.out
  have e7:=cellS26_0 b6;have e9:=cellS26_1 b6;clear b6 e6;have b9:0≤((a8):Int):=Zoa;have c9:(a8)<(a4.length:Int):=Zoa
  obtain⟨g8,f8,a6⟩:=Kd.at_int b7 (a8) b9 c9
  cases f8
  replace a6:=pw_cell_below HB.out a6
  replace b9:=eq_true b9
  replace c9:=eq_true c9
  have d3:0≤((a8):Int):=Zoa;have d4:(a8)<(a5.length:Int):=Zoa
  obtain⟨g9,f9,a7⟩:=Kd.at_int b8 (a8) d3 d4
  cases f9
  replace a7:=pw_cell_below HB.out a7
  replace d3:=eq_true d3
  replace d4:=eq_true d4
  go_enter Try.func55,Try.ntmps55
  go_wp2
  repeat(go_quiet (fail);try go_wp2)
  go_ret
  exact⟨by first|rfl|(simp[errW_none,errW_some]<;>rfl)|(simp only[←a9];first|rfl|(simp[errW_none,errW_some]<;>rfl))|(simp[*,errW_none,errW_some]<;>rfl),by repeat(first|(with_reducible first|exact d5.out|apply IsS26.alloc|apply IsS26.drewN|apply IsS26.drew)|exact d5.out),by repeat(first|(with_reducible first|exact HB.out|apply below_alloc|apply pw_below_drewN|apply below_drew1|refine below_set ?_ (IsS26.ge d5.out))|exact HB.out),Zke HK⟩
 ·
  rw[if_neg c5]at H
  exact absurd H (by simp)
theorem boxedTurned (w W:World) (A0 A1:Option Addr) (c0 c1:Nat) (l0 l1:List Int) (h0:Kd.C (Kd.int .i64) w A0 l0.length l0) (h1:Kd.C (Kd.int .i64) w A1 l1.length l1)
  (hb:Below (w.alloc (.cells #[.slice A0 l0.length c0,.slice A1 l1.length c1] 26)).heap.size (w.alloc (.cells #[.slice A0 l0.length c0,.slice A1 l1.length c1] 26)) W):
  IsS26 w W w.heap.size l0 l1:=by
 refine⟨A0,c0,A1,c1, ?_,Nat.le_refl _,h0,h1⟩
 rw[hb.block w.heap.size (by show w.heap.size<(w.heap.push _).size;rw[Array.size_push];omega)]
 show(w.heap.push _)[w.heap.size]? = _
 exact Array.getElem?_push_size
def impl_PlaceOf.f (k:Nat) (a4:List Int) (a5:List Int) (a1:Int):Option (Int × Bool):=(impl_isTurned.f k a4 a5).bind fun t1=>(if t1=true then((impl_between.f a1 (-1000) 1000).bind fun t2=>(if t2=true then((impl_Turned_place.f a4 a5 a1).bind fun t3=>(some (t3,true)))else(some (0,false))))else(some (0,false)))
set_option maxHeartbeats 8000000 in
set_option maxRecDepth 100000 in
theorem impl_PlaceOf.calls (k:Nat) (a6:Option Addr) (a7:Nat) (a4:List Int) (a8:Option Addr) (a9:Nat) (a5:List Int) (a1:Int) (r1:Int) (r2:Bool) (w:World) (b6:Kd.C (Kd.int .i64) w a6 a4.length a4) (b7:a4.length≤a7) (b8:Kd.C (Kd.int .i64) w a8 a5.length a5) (b9:a5.length≤a9) (h:impl_PlaceOf.f k a4 a5 a1=some (r1,r2)):
    Calls Try.prog 28 #[.agg #[.slice a6 a4.length a7,.slice a8 a5.length a9],.int .i64 a1] w fun e w'=>e= .returned (.tuple #[.int .i64 r1,.bool r2])∧Below w.heap.size w w':=by
  have hu:=Try.underlying26
  have c9:=Aside0.mk b6
  have d4:=Aside0.mk b7
  have d3:=Aside0.mk b8
  have d5:=Aside0.mk b9
  clear b6 b7 b8 b9
  have HX:=Aside0.mk (fun(W:World) (hb:Below (w.alloc (.cells #[.slice a6 a4.length a7,.slice a8 a5.length a9] 26)).heap.size (w.alloc (.cells #[.slice a6 a4.length a7,.slice a8 a5.length a9] 26)) W)=>boxedTurned w W a6 a8 a7 a9 a4 a5 c9.out d3.out hb)
  unfold impl_PlaceOf.f at h
  replace h:=Option.bind_eq_some_iff.mp h
  obtain⟨t1,e1,h⟩:=h
  have A1:=Aside0.mk e1
  clear e1
  cases t1 with
  |false=>
    have h2:some (0,false)=some (r1,r2):=h
    simp only[Option.some.injEq,Prod.mk.injEq]at h2
    obtain⟨rfl,rfl⟩:=h2
    clear h
    go_enter Try.func28,Try.ntmps28
    go_wp2_with (first|(go_at_call 31;refine(impl_isTurned.calls k _ _ a4 _ _ a5 false _ (Kd.C_alloc c9.out _) d4.out (Kd.C_alloc d3.out _) d5.out A1.out).mono ?_;rintro e w' ⟨rfl,hb⟩;have HB:=Aside0.mk hb;clear hb))
    go_ret2
    exact⟨rfl,(below_alloc (Below.refl _ _) _).trans (HB.out.mono (by show w.heap.size≤(w.heap.push _).size;rw[Array.size_push];omega))⟩
  |true=>
    have h2:((impl_between.f a1 (-1000) 1000).bind fun t2=>(if t2=true then((impl_Turned_place.f a4 a5 a1).bind fun t3=>(some (t3,true)))else(some (0,false))))=some (r1,r2):=h
    clear h
    replace h2:=Option.bind_eq_some_iff.mp h2
    obtain⟨t2,e2,h⟩:=h2
    have A2:=Aside0.mk e2
    clear e2
    cases t2 with
    |false=>
      have h2:some (0,false)=some (r1,r2):=h
      simp only[Option.some.injEq,Prod.mk.injEq]at h2
      obtain⟨rfl,rfl⟩:=h2
      clear h
      go_enter Try.func28,Try.ntmps28
      go_wp2_with (first|(go_at_call 31;refine(impl_isTurned.calls k _ _ a4 _ _ a5 true _ (Kd.C_alloc c9.out _) d4.out (Kd.C_alloc d3.out _) d5.out A1.out).mono ?_;rintro e w' ⟨rfl,hb⟩;have HB:=Aside0.mk hb;clear hb)|(go_at_call 54;(with_reducible refine(impl_between.calls a1 (-1000) 1000 false _ A2.out).mono ?_);rintro e w' ⟨rfl,⟨nd,rfl⟩⟩))
      go_ret2
      exact⟨rfl,by repeat(first|exact(below_alloc (Below.refl _ _) _).trans (HB.out.mono (by show w.heap.size≤(w.heap.push _).size;rw[Array.size_push];omega))|apply pw_below_drewN|apply below_drew1)⟩
    |true=>
      have h2:((impl_Turned_place.f a4 a5 a1).bind fun t3=>(some (t3,true)))=some (r1,r2):=h
      clear h
      replace h2:=Option.bind_eq_some_iff.mp h2
      obtain⟨t3,e3,h⟩:=h2
      have A3:=Aside0.mk e3
      clear e3
      simp only[Option.some.injEq,Prod.mk.injEq]at h
      obtain⟨rfl,rfl⟩:=h
      go_enter Try.func28,Try.ntmps28
      go_wp2_with (first|(go_at_call 31;refine(impl_isTurned.calls k _ _ a4 _ _ a5 true _ (Kd.C_alloc c9.out _) d4.out (Kd.C_alloc d3.out _) d5.out A1.out).mono ?_;rintro e w' ⟨rfl,hb⟩;have HB:=Aside0.mk hb;clear hb)|(go_at_call 54;(with_reducible refine(impl_between.calls a1 (-1000) 1000 true _ A2.out).mono ?_);rintro e w' ⟨rfl,⟨nd,rfl⟩⟩)|(go_at_call 55;refine(impl_Turned_place.calls w.heap.size a4 a5 a1 t3 w _ (IsS26.drewN (HX.out _ HB.out) _) (pw_below_drewN ((below_alloc (Below.refl _ _) _).trans (HB.out.mono (by show w.heap.size≤(w.heap.push _).size;rw[Array.size_push];omega))) _) A3.out).mono ?_;rintro e w'' ⟨rfl,_,d6,_⟩;have d7:=Aside0.mk d6;clear d6))
      go_ret2
      exact⟨rfl,d7.out⟩
def impl_poleInversions.g1 (l0 l1:List Int) (i:Int):Nat→Int→Int→Option Int
  |0,_,m=>some m
  |d+1,j,m=>(impl_Turned_place.f l0 l1 i).bind fun a=>(impl_Turned_place.f l0 l1 j).bind fun b=>impl_poleInversions.g1 l0 l1 i d (j+1) (if b<a then wrap64 (m+1)else m)
def impl_poleInversions.g0 (l0 l1:List Int):Nat→Int→Int→Option Int
  |0,_,m=>some m
  |d+1,i,m=>(impl_poleInversions.g1 l0 l1 i (l0.length*244) (i+1) m).bind fun m2=>impl_poleInversions.g0 l0 l1 d (i+1) m2
def impl_poleInversions.f (a4:List Int) (a5:List Int):Option (Int):=if a4.length≤1099511627776 then impl_poleInversions.g0 a4 a5 a4.length 0 0 else none
set_option maxHeartbeats 8000000 in
set_option maxRecDepth 100000 in
theorem impl_poleInversions.calls (a6:Option Addr) (a7:Nat) (a4:List Int) (a8:Option Addr) (a9:Nat) (a5:List Int) (r:Int) (w:World) (b6:Kd.C (Kd.int .i64) w a6 a4.length a4) (b8:a4.length≤a7) (b7:Kd.C (Kd.int .i64) w a8 a5.length a5) (b9:a5.length≤a9) (h:impl_poleInversions.f a4 a5=some r):
    Calls Try.prog 32 #[.agg #[.slice a6 a4.length a7,.slice a8 a5.length a9]] w fun e w'=>e= .returned (.int .i64 r)∧Below w.heap.size w w':=by
  have hu:=Try.underlying26
  unfold impl_poleInversions.f at h
  split at h
  case isFalse=>cases h
  rename_i hn
  have HX:=Aside0.mk (boxedTurned w (w.alloc (.cells #[.slice a6 a4.length a7,.slice a8 a5.length a9] 26)) a6 a8 a7 a9 a4 a5 b6 b7 (Below.refl _ _))
  clear b6 b8 b7 b9
  have H0:=Aside0.mk h
  clear h
  go_enter Try.func32,Try.ntmps32
  go_wp2
  go_loopg [4,11] a4.length (fun gg v4 g8 wr=> ∃(i:Nat) (m:Int),i≤a4.length∧a4.length - i≤gg∧v4= .int .i64 m∧g8= .int .i64 (i:Int)∧Aside0 (impl_poleInversions.g0 a4 a5 (a4.length - i) (i:Int) m=some r)∧Aside0 (IsS26 w wr w.heap.size a4 a5)∧Aside0 (Below w.heap.size w wr))
  case atStart=>exact⟨0,0,Nat.zero_le _,by omega,rfl,rfl,⟨H0.out⟩,⟨HX.out⟩,⟨below_alloc (Below.refl _ _) _⟩⟩
  case round=>
    obtain⟨i,m,hi,hg,rfl,rfl,HA,HI,HB⟩:=hrel
    clear H0 HX
    by_cases hlt:i<a4.length
    · have hltz:(i:Int)<(a4.length:Int):=by omega
      have h1:=HA.out
      clear HA
      rw[show a4.length - i=(a4.length - (i+1))+1 from by omega]at h1
      simp only[impl_poleInversions.g0]at h1
      replace h1:=Option.bind_eq_some_iff.mp h1
      obtain⟨m2,e1,e2⟩:=h1
      have d9:=Aside0.mk e1
      have g9:=Aside0.mk e2
      clear e1 e2
      go_wp2
      go_loopg [4,6] (a4.length*244) (fun i3 v4 v6 e6=> ∃(q:Nat) (m3:Int),q≤a4.length*244∧a4.length*244 - q≤i3∧v4= .int .i64 m3∧v6= .int .i64 ((i:Int)+1+(q:Int))∧Aside0 (impl_poleInversions.g1 a4 a5 (i:Int) (a4.length*244 - q) ((i:Int)+1+(q:Int)) m3=some m2)∧Aside0 (IsS26 w e6 w.heap.size a4 a5)∧Aside0 (Below w.heap.size w e6))
      case atStart=>exact⟨0,m,Nat.zero_le _,by omega,rfl,by simp,⟨by simpa using d9.out⟩,HI,HB⟩
      case round=>
        obtain⟨q,m3,hq,i7,rfl,rfl,HC,d5,d6⟩:=hrel
        clear d9 HI HB
        by_cases i8:q<a4.length*244
        · have i4:(i:Int)+1+(q:Int)<(i:Int)+1+(a4.length:Int)*244:=by omega
          have h3:=HC.out
          clear HC
          rw[show a4.length*244 - q=(a4.length*244 - (q+1))+1 from by omega]at h3
          simp only[impl_poleInversions.g1]at h3
          replace h3:=Option.bind_eq_some_iff.mp h3
          obtain⟨a,e3,h3⟩:=h3
          replace h3:=Option.bind_eq_some_iff.mp h3
          obtain⟨b,e4,h3⟩:=h3
          have i5:=Aside0.mk e3
          have i6:=Aside0.mk e4
          have d4:=Aside0.mk h3
          clear e3 e4 h3
          go_wp2_with fail
          refine(impl_Turned_place.calls w.heap.size a4 a5 (i:Int) a w _ d5.out d6.out i5.out).mono ?_
          rintro e w1 ⟨rfl,c9,d3,_⟩
          have e7:=Aside0.mk c9
          have e9:=Aside0.mk d3
          clear c9 d3 d5 d6
          go_wp2_with fail
          refine(impl_Turned_place.calls w.heap.size a4 a5 ((i:Int)+1+(q:Int)) b w _ e7.out e9.out i6.out).mono ?_
          rintro e w2 ⟨rfl,c9,d3,_⟩
          have f8:=Aside0.mk c9
          have f9:=Aside0.mk d3
          clear c9 d3 e7 e9
          by_cases hab:b<a
          · have d7:decide (b<a)=true:=decide_eq_true hab
            have d8:=Aside0.mk (show impl_poleInversions.g1 a4 a5 (i:Int) (a4.length*244 - (q+1)) ((i:Int)+1+(q:Int)+1) (wrap64 (m3+1))=some m2 by have:=d4.out;rw[if_pos hab]at this;exact this)
            clear hab d4
            go_wp2
            go_roundg (a4.length*244 - (q+1))
            case measure=>omega
            case rel=>exact⟨q+1,wrap64 (m3+1),by omega,by omega,rfl,by go_num,⟨by rw[show(i:Int)+1+((q+1:Nat):Int)=(i:Int)+1+(q:Int)+1 from by omega];exact d8.out⟩,f8,f9⟩
          · have d7:decide (b<a)=false:=decide_eq_false hab
            have d8:=Aside0.mk (show impl_poleInversions.g1 a4 a5 (i:Int) (a4.length*244 - (q+1)) ((i:Int)+1+(q:Int)+1) m3=some m2 by have:=d4.out;rw[if_neg hab]at this;exact this)
            clear hab d4
            go_wp2
            go_roundg (a4.length*244 - (q+1))
            case measure=>omega
            case rel=>exact⟨q+1,m3,by omega,by omega,rfl,by go_num,⟨by rw[show(i:Int)+1+((q+1:Nat):Int)=(i:Int)+1+(q:Int)+1 from by omega];exact d8.out⟩,f8,f9⟩
        · have i4: ¬((i:Int)+1+(q:Int)<(i:Int)+1+(a4.length:Int)*244):=by omega
          have h3:=HC.out
          clear HC
          rw[show a4.length*244 - q=0 from by omega]at h3
          obtain rfl:=Option.some.inj h3
          clear h3
          go_wp2
          go_roundg (a4.length - (i+1))
          case measure=>omega
          case rel=>exact⟨i+1,_,by omega,by omega,rfl,by go_num,⟨by have:=g9.out;exact_mod_cast this⟩,d5,d6⟩
    · have hltz: ¬(i:Int)<(a4.length:Int):=by omega
      have h1:=HA.out
      clear HA
      rw[show a4.length - i=0 from by omega]at h1
      obtain rfl:=Option.some.inj h1
      clear h1
      go_wp2
      go_ret
      exact⟨rfl,HB.out⟩
def impl_poleDescents.g (l0 l1:List Int):Nat→Int→List Int→Option (List Int)
  |0,_,acc=>some acc
  |d+1,i,acc=>(impl_Turned_place.f l0 l1 i).bind fun a=>(impl_Turned_place.f l0 l1 (i+1)).bind fun b=>impl_poleDescents.g l0 l1 d (i+1) (if b<a then acc++ [i]else acc)
def impl_poleDescents.f (a4:List Int) (a5:List Int):Option (List Int):=if a4.length≤1099511627776 then impl_poleDescents.g a4 a5 a4.length 0 []else none
theorem impl_poleDescents.info:(Try.prog.info? 3).map (fun i=>(i.zero,i.size,i.bytes))=some (some (.int .i64 0),1,8):=by kernel_rfl
theorem impl_poleDescents.own (W:World) (base:Nat) (hb:base≤W.heap.size):Kd.R (Kd.int .i64) 3 (W.alloc (.cells #[] 3)) base (fun _ =>True) (.slice (some ⟨W.heap.size,0,none⟩) 0 0) []:=
  ⟨fun _ _ =>trivial,[],by show World.ownsRow _ _ _ 1 _ _ _;simpa using World.ownsRow_lit (base:=base) (e:=3) (size:=1) W #[] 0 hb (by simp) (by simp),Reps.none _ _⟩
set_option maxHeartbeats 8000000 in
set_option maxRecDepth 100000 in
theorem impl_poleDescents.calls (a6:Option Addr) (a7:Nat) (a4:List Int) (a8:Option Addr) (a9:Nat) (a5:List Int) (r:List Int) (w:World) (b6:Kd.C (Kd.int .i64) w a6 a4.length a4) (b8:a4.length≤a7) (b7:Kd.C (Kd.int .i64) w a8 a5.length a5) (b9:a5.length≤a9) (h:impl_poleDescents.f a4 a5=some r):
    Calls Try.prog 33 #[.agg #[.slice a6 a4.length a7,.slice a8 a5.length a9]] w fun e w'=> ∃g8:Value,e= .returned (g8)∧Kd.R (Kd.int .i64) 3 w' w.heap.size (fun _ =>True) g8 r∧Below w.heap.size w w':=by
  have hu:=Try.underlying26
  unfold impl_poleDescents.f at h
  split at h
  case isFalse=>cases h
  rename_i hn
  have HX:=Aside0.mk (boxedTurned w (w.alloc (.cells #[.slice a6 a4.length a7,.slice a8 a5.length a9] 26)) a6 a8 a7 a9 a4 a5 b6 b7 (Below.refl _ _))
  have HY:=Aside0.mk (below_alloc (Below.refl w.heap.size w) (.cells #[.slice a6 a4.length a7,.slice a8 a5.length a9] 26))
  clear b6 b8 b7 b9
  have H0:=Aside0.mk h
  clear h
  go_enter Try.func33,Try.ntmps33
  go_wp2_with fail
  have HZ:=impl_poleDescents.own (w.alloc (.cells #[.slice a6 a4.length a7,.slice a8 a5.length a9] 26)) w.heap.size (below_size HY.out)
  rw[show(w.alloc (.cells #[.slice a6 a4.length a7,.slice a8 a5.length a9] 26)).heap.size=w.heap.size+1 from by simp]at HZ
  have HO:=Aside0.mk HZ
  clear HZ
  have HB:=Aside0.mk (below_alloc HY.out (.cells #[] 3))
  have HI:=Aside0.mk (IsS26.alloc HX.out (.cells #[] 3))
  clear HX HY
  go_loopg [3,9] a4.length (fun gg v3 v9 wr=> ∃(i:Nat) (acc:List Int),i≤a4.length∧acc.length≤i∧a4.length - i≤gg∧v9= .int .i64 (i:Int)∧Aside0 (impl_poleDescents.g a4 a5 (a4.length - i) (i:Int) acc=some r)∧Aside0 (Kd.R (Kd.int .i64) 3 wr w.heap.size (fun _ =>True) v3 acc)∧Aside0 (IsS26 w wr w.heap.size a4 a5)∧Aside0 (Below w.heap.size w wr))
  case atStart=>exact⟨0,[],Nat.zero_le _,by simp,by omega,rfl,⟨H0.out⟩,HO,HI,HB⟩
  case round=>
    obtain⟨i,acc,hi,hacc,hg,rfl,HA,d9,e6,e7⟩:=hrel
    clear H0 HO HI HB
    by_cases hlt:i<a4.length
    · have hltz:(i:Int)<(a4.length:Int):=by omega
      have h3:=HA.out
      clear HA
      rw[show a4.length - i=(a4.length - (i+1))+1 from by omega]at h3
      simp only[impl_poleDescents.g]at h3
      replace h3:=Option.bind_eq_some_iff.mp h3
      obtain⟨a,e3,h3⟩:=h3
      replace h3:=Option.bind_eq_some_iff.mp h3
      obtain⟨b,e4,h3⟩:=h3
      have i4:=Aside0.mk e3
      have i5:=Aside0.mk e4
      have d5:=Aside0.mk h3
      clear e3 e4 h3
      go_wp2_with fail
      refine(impl_Turned_place.calls w.heap.size a4 a5 (i:Int) a w _ e6.out e7.out i4.out).mono ?_
      rintro e w1 ⟨rfl,c9,d3,d4⟩
      have e9:=Aside0.mk c9
      have g9:=Aside0.mk d3
      have i3:=Aside0.mk (Kd.R_mono (ok':=fun _ =>True) (Kd.R_keep (IsS26.apart e6.out d9.out (by decide)) d4 (fun _ hk=>hk.2)) (fun _ _ =>trivial))
      clear c9 d3 d4 e6 e7 d9
      go_wp2_with fail
      refine(impl_Turned_place.calls w.heap.size a4 a5 ((i:Int)+1) b w _ e9.out g9.out i5.out).mono ?_
      rintro e w2 ⟨rfl,c9,d3,d4⟩
      have d6:=Aside0.mk c9
      have d7:=Aside0.mk d3
      have d8:=Aside0.mk (Kd.R_mono (ok':=fun _ =>True) (Kd.R_keep (IsS26.apart e9.out i3.out (by decide)) d4 (fun _ hk=>hk.2)) (fun _ _ =>trivial))
      clear c9 d3 d4 e9 g9 i3
      by_cases hab:b<a
      · have f8:decide (b<a)=true:=decide_eq_true hab
        have f9:=Aside0.mk (show impl_poleDescents.g a4 a5 (a4.length - (i+1)) ((i:Int)+1) (acc++ [(i:Int)])=some r by have:=d5.out;rw[if_pos hab]at this;exact this)
        clear hab d5
        go_wp2_with (first|((with_reducible refine gate_builtin (b:= .append) (xs:= #[.tmp 18,.tmp 20]) rfl ?_);at_builtin;refine Kd.R_append (Kd.int .i64) (w0:=w) w.heap.size rfl (.tmp 18) (.tmp 20) 24 3 (.int .i64 0) 8 rfl Try.underlying24 impl_poleDescents.info rfl (by decide) (by omega) u3 acc (i:Int) [.int .i64 (i:Int)] (fun _ =>True) (fun _ =>False) rfl rfl ?aP (fun _ hk=>hk.elim) ?aF ?aO ?aB ?aS ?aL ?_;(case aP=>exact rfl);(case aB=>exact(by repeat(first|exact d7.out|apply below_alloc|apply pw_below_drewN|apply below_drew1)));(case aF=>exact(fun _ _ =>trivial));(case aO=>exact(Zrr (d8.out)));(case aS=>exact(below_size (by repeat(first|exact d7.out|apply below_alloc|apply pw_below_drewN|apply below_drew1))));(case aL=>omega);intro i6 k3 ho hb hg hat;have i7:=Aside0.mk ho;have i8:=Aside0.mk hb;have i9:=Aside0.mk (IsS26.grown (by(with_reducible repeat(first|apply IsS26.drewN|apply IsS26.drew|apply IsS26.alloc));exact d6.out) hg (IsS26.own_ne d6.out d8.out (by decide)));clear ho hb hg hat d8 d7 d6))
        go_roundg (a4.length - (i+1))
        case measure=>omega
        case rel=>exact⟨i+1,acc++ [(i:Int)],by omega,by simp;omega,by omega,by go_num,⟨by have:=f9.out;exact_mod_cast this⟩,i7,i9,i8⟩
      · have f8:decide (b<a)=false:=decide_eq_false hab
        have f9:=Aside0.mk (show impl_poleDescents.g a4 a5 (a4.length - (i+1)) ((i:Int)+1) acc=some r by have:=d5.out;rw[if_neg hab]at this;exact this)
        clear hab d5
        go_wp2
        go_roundg (a4.length - (i+1))
        case measure=>omega
        case rel=>exact⟨i+1,acc,by omega,by omega,by omega,by go_num,⟨by have:=f9.out;exact_mod_cast this⟩,d8,d6,d7⟩
    · have hltz: ¬(i:Int)<(a4.length:Int):=by omega
      have h1:=HA.out
      clear HA
      rw[show a4.length - i=0 from by omega]at h1
      obtain rfl:=Option.some.inj h1
      clear h1
      go_wp2
      go_ret
      exact⟨_,rfl,d9.out,e7.out⟩
def impl_round.j0:Nat→Int→Int→Int→Int→Option (Int × Int)
 |0,_,_,_,_ =>none
 |k+1,x1,x2,x8,x9=>if x1=x2 then(some (x8,x9))else(if x1=x8 then(some (x2,wrap64 (-x9)))else(some (x1,0)))
def impl_round.f (k:Nat) (a0:Int) (a1:Int) (a2:Int):Option (Int × Int):=if a0=0 then(none)else(if(Int.tmod (wrap64 (a2+1)) a0)=0 then(impl_round.j0 k a1 a2 (Int.tmod (wrap64 (a2+1)) a0) 1)else(impl_round.j0 k a1 a2 (Int.tmod (wrap64 (a2+1)) a0) 0))
theorem impl_round.mono_l: ∀k,(∀y0 y1 y2 y3,LeO (impl_round.j0 k y0 y1 y2 y3) (impl_round.j0 (k+1) y0 y1 y2 y3))
 |0=>fun _ _ _ _ r h=>by simp[impl_round.j0]at h
 |k+1=>by
  have a4:=impl_round.mono_l k
  ·
   intro y0 y1 y2 y3
   unfold impl_round.j0
   repeat' (with_reducible first|exact a4 _ _ _ _ |exact LeO.refl _ |exact LeO.none _ |refine LeO.ite ?_ ?_ |refine LeO.bind ?_ (fun _ => ?_))
theorem impl_round.mono: ∀a0 a1 a2 k,LeO (impl_round.f k a0 a1 a2) (impl_round.f (k+1) a0 a1 a2):=by
 intro a0 a1 a2 k
 have a4:=impl_round.mono_l k
 unfold impl_round.f
 repeat' (with_reducible first|exact a4 _ _ _ _ |exact LeO.refl _ |exact LeO.none _ |refine LeO.ite ?_ ?_ |refine LeO.bind ?_ (fun _ => ?_))
set_option maxHeartbeats 8000000 in
set_option maxRecDepth 100000 in
theorem impl_round.calls (k:Nat) (a0:Int) (a1:Int) (a2:Int) (r1:Int) (r2:Int) (w:World) (h:impl_round.f k a0 a1 a2=some (r1,r2)):
  Calls Try.prog 73 #[.int .i64 a0,.int .i64 a1,.int .i64 a2] w fun e w'=>e= .returned (.tuple #[.int .i64 r1,.int .i64 r2])∧Drawn0 w w':=by
 have H:(if a0=0 then(none)else(if(Int.tmod (wrap64 (a2+1)) a0)=0 then(impl_round.j0 k a1 a2 (Int.tmod (wrap64 (a2+1)) a0) 1)else(impl_round.j0 k a1 a2 (Int.tmod (wrap64 (a2+1)) a0) 0)))=some (r1,r2):=h;clear h
 replace H:=Zie H;obtain⟨c4,H⟩:=H;have b8:(a0 == 0)=false:=beq_eq_false_iff_ne.mpr c4;have b9:(a0 != 0)=true:=bne_iff_ne.mpr c4;have a6:=Aside0.mk H;clear H
 go_enter Try.func73,Try.ntmps73
 go_upto_if 15 with(fail)
 go_cut [9] (fun v9 wc=> ∃(kq:Nat) (a5:Int),v9= .int .i64 a5∧Aside0 (impl_round.j0 kq a1 a2 (Int.tmod (wrap64 (a2+1)) a0) a5=some (r1,r2))∧Aside0 (kq≤k)∧Drawn0 w wc)
 case first=>
  have H:=a6.out;clear a6
  by_cases c6:(Int.tmod (wrap64 (a2+1)) a0)=0
  ·
   rw[if_pos c6]at H;have a4:((Int.tmod (wrap64 (a2+1)) a0) == 0)=true:=beq_iff_eq.mpr c6;have a7:((Int.tmod (wrap64 (a2+1)) a0) != 0)=false:=bne_eq_false_iff_eq.mpr c6;clear c6
   (first|rw[a4]|(simp only[i64_w,i32_w];rw[a4])|skip)
   have H':=Aside0.mk H;clear H
   go_wp2
   go_meet
   case rel=>exact⟨_,(1),Zs,H',⟨by first|omega|exact Nat.le_refl _⟩,by repeat(first|exact Drawn0.refl _ |apply Drawn0.step)⟩
  ·
   rw[if_neg c6]at H;have a4:((Int.tmod (wrap64 (a2+1)) a0) == 0)=false:=beq_eq_false_iff_ne.mpr c6;have a7:((Int.tmod (wrap64 (a2+1)) a0) != 0)=true:=bne_iff_ne.mpr c6
   (first|rw[a4]|(simp only[i64_w,i32_w];rw[a4])|skip)
   have H':=Aside0.mk H;clear H
   go_wp2
   go_meet
   case rel=>exact⟨_,(0),Zs,H',⟨by first|omega|exact Nat.le_refl _⟩,by repeat(first|exact Drawn0.refl _ |apply Drawn0.step)⟩
 case rest=>
  (clear a6);obtain⟨kq,a5,rfl,HA,c9,⟨d3,rfl⟩⟩:=hcut
  cases kq with
  |zero=>exact absurd HA.out (by simp[impl_round.j0])
  |succ d4=>
   have H:=HA.out;clear HA
   simp only[impl_round.j0]at H
   by_cases c7:a1=a2
   ·
    rw[if_pos c7]at H;have a8:(a1 == a2)=true:=beq_iff_eq.mpr c7;have a9:(a1 != a2)=false:=bne_eq_false_iff_eq.mpr c7;clear c7
    obtain⟨rfl,rfl⟩:=Zs2 H;clear H
    go_wp2
    go_ret2
    exact⟨by first|rfl|(simp;done)|(simp[*];done),by repeat(first|exact Drawn0.refl _ |apply Drawn0.step)⟩
   ·
    rw[if_neg c7]at H;have a8:(a1 == a2)=false:=beq_eq_false_iff_ne.mpr c7;have a9:(a1 != a2)=true:=bne_iff_ne.mpr c7
    by_cases c8:a1=(Int.tmod (wrap64 (a2+1)) a0)
    ·
     rw[if_pos c8]at H;have b6:(a1 == (Int.tmod (wrap64 (a2+1)) a0))=true:=beq_iff_eq.mpr c8;have b7:(a1 != (Int.tmod (wrap64 (a2+1)) a0))=false:=bne_eq_false_iff_eq.mpr c8;clear c8
     obtain⟨rfl,rfl⟩:=Zs2 H;clear H
     go_wp2
     go_ret2
     exact⟨by first|rfl|(simp;done)|(simp[*];done),by repeat(first|exact Drawn0.refl _ |apply Drawn0.step)⟩
    ·
     rw[if_neg c8]at H;have b6:(a1 == (Int.tmod (wrap64 (a2+1)) a0))=false:=beq_eq_false_iff_ne.mpr c8;have b7:(a1 != (Int.tmod (wrap64 (a2+1)) a0))=true:=bne_iff_ne.mpr c8
     obtain⟨rfl,rfl⟩:=Zs2 H;clear H
     go_wp2
     go_ret2
     exact⟨by first|rfl|(simp;done)|(simp[*];done),by repeat(first|exact Drawn0.refl _ |apply Drawn0.step)⟩
def impl_poleWay.l0:Nat→Int→List Int→Int→List Int→Int→Int→Int→List Int→Option (List Int × Int)
 |0,_,_,_,_,_,_,_,_ =>none
 |k+1,x1,x6,x7,a8,a9,a7,a4,a6=>if a7<a9 then(if 0≤a7 then(if a7<(a8.length:Int)then((impl_round.f k a4 x1 (rd a8 a7)).bind fun a5=>(if x6.length<17592186044416 then(impl_poleWay.l0 k a5.1 (x6++ [a5.1]) (wrap64 (x7+a5.2)) a8 a9 (wrap64 (a7+1)) a4 a6)else(none)))else(none))else(none))else(some (x6,x7))
def impl_poleWay.f (k:Nat) (a5:Int) (a4:List Int) (a1:Int):Option (List Int × Int):=impl_poleWay.l0 k a1 (([a1]:List Int)) 0 a4 (a4.length:Int) 0 a5 a4
set_option maxHeartbeats 8000000 in
set_option maxRecDepth 100000 in
theorem impl_poleWay.calls (k:Nat) (a7:Int) (b7:Option Addr) (b8:Nat) (a4:List Int) (a1:Int) (r1:List Int) (r2:Int) (w:World) (d3:Kd.C (Kd.int .i64) w b7 a4.length a4) (d4:a4.length≤b8) (h:impl_poleWay.f k a7 a4 a1=some (r1,r2)):
  Calls Try.prog 59 #[.agg #[.int .i64 a7,.slice b7 a4.length b8],.int .i64 a1] w fun e w'=> ∃l3:Value,e= .returned (.tuple #[l3,.int .i64 r2])∧Kd.R (Kd.int .i64) 3 w' w.heap.size (fun _ =>True) l3 r1∧Below w.heap.size w w':=by
 have m4:=Try.underlying29;have d8:=Aside0.mk d3;have l4:=Aside0.mk d4;clear d3 d4;have HB:=Zm (Below.refl w.heap.size w);have H:(impl_poleWay.l0 k a1 (([a1]:List Int)) 0 a4 (a4.length:Int) 0 a7 a4)=some (r1,r2):=h;clear h
 generalize d5:([a1]:List Int)=i7 at H;have d6:=Aside0.mk d5.symm;clear d5;have H':=Aside0.mk H;clear H
 go_enter Try.func59,Try.ntmps59
 go_wp2_with (first|((with_reducible refine gate_dst (N:=2) rfl ?_);refine Zbe 2 #[.int .i64 a7,.slice b7 a4.length b8] 29 ?_;intro d9 hg w3 hbox hb;have a5:=Zm (hbox);have l5:=Zx hg HB;have l6:=Zx hg HB;replace HB:=Zh HB hb;clear hb hbox hg)|((with_reducible refine gate_dst (N:=13) rfl ?_);refine Kd.R_lit (Kd.int .i64) _ 3 ?hg (N:=13) ?hd (xs:=([a1]:List Int)) (inner:= [.int .i64 a1]) (ok:=fun _ =>True) (okp:=fun _ =>True) ?hr ?hp (fun _ hk=>hk) trivial (Below.refl _ _) (Nat.le_refl _) (by simp) ?_;(case hd=>rfl);(case hg=>rfl);(case hr=>first|(go_simp;done)|(go_simp;rfl));(case hp=>exact(Reps.one (show Kd.M (Kd.int .i64) _ _ _ a1 [.int .i64 a1]from rfl) (Reps.none _ _)));intro m5 w4 e6 hb hg_ hnew_;clear hg_ hnew_;(first|rw[←d6.out]at e6|(simp only[Int.reduceToNat]at e6;rw[←d6.out]at e6));have e7:=Zj e6 HB;replace a5:=Zk a5 hb;replace HB:=Zh HB hb;clear hb e6;obtain⟨i8,i9,k3,k4⟩:=Z2 a5))
 go_loopg [1,6,7,17] k (fun kq v1 v6 v7 m6 w'=> ∃(a8:Int) (a9:List Int) (b9:Int) (a6:Int),v1= .int .i64 a8∧v7= .int .i64 b9∧m6= .int .i64 a6∧Aside0 (impl_poleWay.l0 kq a8 a9 b9 a4 (a4.length:Int) a6 a7 a4=some (r1,r2))∧Aside0 (kq≤k)∧Aside0 (Kd.R (Kd.int .i64) 3 w' w.heap.size (fun _ =>True) v6 a9)∧Aside0 (w'.heap[d9]? =some (.cells #[.int .i64 a7,(.slice b7 a4.length b8)] 29 (0,0)))∧Aside0 (Below w.heap.size w w'))
 case atStart=>exact⟨(a1),(i7),(0),(0),Zs,Zs,Zs,H',⟨Nat.le_refl _⟩,⟨Zr e7⟩,⟨Zb a5⟩,⟨Zl HB⟩⟩
 case round=>
  (clear H');obtain⟨a8,a9,b9,a6,rfl,rfl,rfl,HA,l7,c9,a5,HB⟩:=hrel
  cases gk with
  |zero=>exact absurd HA.out (by simp[impl_poleWay.l0])
  |succ k1=>
   have H:=HA.out;clear HA
   simp only[impl_poleWay.l0]at H
   by_cases c7:a6<(a4.length:Int)
   ·
    rw[if_pos c7]at H;have k6:=decide_eq_true c7;clear c7
    replace H:=Zit H;obtain⟨m7,H⟩:=H
    replace H:=Zit H;obtain⟨m8,H⟩:=H;replace H:=Zb0 H;obtain⟨⟨b6,e9⟩,m9,H⟩:=H;(try dsimp only at H)
    replace H:=Zif H;obtain⟨l8,H⟩:=H
    have f8:=Aside0.mk l8;clear l8
    generalize d7:((a9++ [b6]):List Int)=k8 at H;have f9:=Aside0.mk d7.symm;clear d7;have H':=Aside0.mk H;clear H;obtain⟨l9,k9,g9,n0,n3⟩:=Zat d8 HB (a6)
    cases k9
    obtain⟨i3,i4,i5,i6⟩:=Z2 a5
    go_wp2_with (first|((with_reducible refine gate_callee (f:=73) rfl ?_);refine Ga (some 26) Try.func73 #[.int .i64 a7,.int .i64 a8,.int .i64 (rd a4 a6)] (h:= ?_);(with_reducible refine(impl_round.calls k1 a7 a8 (rd a4 a6) b6 e9 _ m9.out).mono ?_);rintro e w' ⟨rfl,⟨nd,rfl⟩⟩;refine⟨_,rfl, ?_⟩)|((with_reducible refine gate_builtin (b:= .append) (xs:= #[.tmp 33,.tmp 35]) rfl ?_);at_builtin;refine Kd.R_append (Kd.int .i64) (w0:=w) w.heap.size rfl (.tmp 33) (.tmp 35) 24 3 (.int .i64 0) 8 rfl Try.underlying24 info3 rfl (by decide) (by omega) u6 a9 b6 [.int .i64 b6] (fun _ =>True) (fun _ =>False) rfl rfl ?aP (fun _ hk=>hk.elim) ?aF ?aO ?aB ?aS ?aL ?_;(case aP=>exact rfl);(case aB=>exact(Zl HB));(case aF=>exact(fun _ _ =>trivial));(case aO=>exact(Zr c9));(case aS=>exact(below_size (Zl HB)));(case aL=>have:=f8.out;omega);intro n4 n5 ho hb hg hat;rw[←f9.out]at ho;replace a5:=Zm (blk_grown (Zb a5) hg (Kd.R_ne c9.out a5.out (by decide)));replace HB:=Zm (hb);have g8:=Zm (ho);clear c9 ho hb hg hat))
    go_roundg k1
    case measure=>have:=l7.out;omega
    case rel=>exact⟨(b6),(k8),(wrap64 (b9+e9)),(wrap64 (a6+1)),Zs,Zs,Zs,H',⟨by have:=l7.out;omega⟩,⟨Zr g8⟩,⟨Zb a5⟩,⟨Zl HB⟩⟩
   ·
    rw[if_neg c7]at H;have k6:=decide_eq_false c7;clear c7
    obtain⟨rfl,rfl⟩:=Zs2 H;clear H
    go_wp2
    go_ret2
    exact⟨_,Ze,Zr c9,Zl HB⟩
def impl_poleResult.l0:Nat→Int→Int→Int→List Int→List Int→List Int→Option (List Int × List Int)
 |0,_,_,_,_,_,_ =>none
 |k+1,x9,b7,a7,a8,a5,a6=>if b7<x9 then((impl_poleWay.f k a7 a8 b7).bind fun a4=>(if 0≤(wrap64 ((a4.1.length:Int) - 1))then(if(wrap64 ((a4.1.length:Int) - 1))<(a4.1.length:Int)then((some (([rd a4.1 (wrap64 ((a4.1.length:Int) - 1))]:List Int):List Int)).bind fun a9=>(if a5.length+a9.length<17592186044416 then((some (([a4.2]:List Int):List Int)).bind fun b6=>(if a6.length+b6.length<17592186044416 then(impl_poleResult.l0 k x9 (wrap64 (b7+1)) a7 a8 (a5++a9) (a6++b6))else(none)))else(none)))else(none))else(none)))else(some (a5,a6))
def impl_poleResult.f (k:Nat) (a4:Int) (a5:List Int):Option (List Int × List Int):=impl_poleResult.l0 k a4 0 a4 a5 ([]:List Int) ([]:List Int)
def impl_poleResult.T6:Bool × List (List Nat × List Nat):=(true,[([],[]),([0],[0]),([],[]),([],[]),([3],[3]),([4],[4]),([2,5],[2,5]),([6],[6]),([7],[7]),([1,8],[1,8]),([],[]),([10],[10]),([],[]),([12],[12]),([11,13,9],[11,13]),([0,1,2,3,4,5,6,7,8,9,10,11],[]),([15,9,14,0,1,2,3,4,5,6,7,8,9,10,11],[9,15]),([0,1,2,3,4,5,6,7,8,9,10,11,12,13,14,15,16],[]),([17,14,16,0,1,2,3,4,5,6,7,8,9,10,11,12,13,14,15,16],[14,17])])
def impl_poleResult.B6:List Nat:= [0,1,0,0,8,24,60,124,252,511,0,1024,0,4096,16383,4095,65535,131071,262143]
theorem impl_poleResult.tab6:rtab .any (opsOf Try.f34 6)=impl_poleResult.T6:=by kernel_rfl
theorem impl_poleResult.bits6:waitsOk impl_poleResult.T6.2 impl_poleResult.B6=true:=by kernel_rfl
set_option maxHeartbeats 8000000 in
set_option maxRecDepth 100000 in
theorem impl_poleResult.calls (k:Nat) (i5:Int) (m6:Option Addr) (m7:Nat) (i7:List Int) (r1:List Int) (r2:List Int) (w:World) (p5:Kd.C (Kd.int .i64) w m6 i7.length i7) (p6:i7.length≤m7) (h:impl_poleResult.f k i5 i7=some (r1,r2)):
  Calls Try.prog 34 #[.agg #[.int .i64 i5,.slice m6 i7.length m7]] w fun e w'=> ∃C9 D0:Value,e= .returned (.agg #[C9,D0])∧Kd.R (Kd.int .i64) 3 w' w.heap.size (fun k_=>Zn k_ D0) C9 r1∧Kd.R (Kd.int .i64) 3 w' w.heap.size (fun k_=>Zn k_ C9) D0 r2∧Below w.heap.size w w':=by
 have I8:=Try.underlying29;have I9:=Try.underlying26;have q9:=Aside0.mk p5;have r5:=Aside0.mk p6;clear p5 p6;have HB:=Zm (Below.refl w.heap.size w);have H:(impl_poleResult.l0 k i5 0 i5 i7 ([]:List Int) ([]:List Int))=some (r1,r2):=h;clear h;have H':=Aside0.mk H;clear H
 go_enter Try.func34,Try.ntmps34
 go_wp2_with (first|((with_reducible refine gate_dst (N:=1) rfl ?_);refine Zbe 1 #[.int .i64 i5,.slice m6 i7.length m7] 29 ?_;intro n9 hg w2 hbox hb;have b6:=Zm (hbox);have F1:=Zx hg HB;have F2:=Zx hg HB;replace HB:=Zh HB hb;clear hb hbox hg)|((with_reducible refine gate_dst (N:=2) rfl ?_);refine Zbe 2 #[.slice none 0 0,.slice none 0 0] 26 ?_;intro m9 hg w3 hbox hb;have b7:=Zm (hbox);have F3:=Zx hg HB;have F4:=Zx hg HB;replace HB:=Zh HB hb;have i9:=Zq hg b6;have k3:=Zp hg b6;replace b6:=Zk b6 hb;clear hb hbox hg)|((with_reducible refine gate_dst (N:=3) rfl ?_);refine Zbe 3 #[.slice none 0 0,.slice none 0 0] 26 ?_;intro i4 hg w4 hbox hb;have a8:=Zm (hbox);have F5:=Zx hg HB;have F6:=Zx hg HB;replace HB:=Zh HB hb;have e7:=Zq hg b6;have e9:=Zp hg b6;replace b6:=Zk b6 hb;have g9:=Zq hg b7;have i3:=Zp hg b7;replace b7:=Zk b7 hb;clear hb hbox hg;have J0:=e9.out;have J1:=e7.out;have J2:=i3.out;have J3:=g9.out;obtain⟨D1,D2,D3,D4⟩:=Z2 a8;have J4:=i9.out;have J5:=k3.out;obtain⟨D5,D6,D7,D8⟩:=Z2 b6))
 go_loopg [10] k (fun kq J6 w'=> ∃(k4:Int) (a9:List Int) (a6:List Int) (k6:Value) (k8:Value),J6= .int .i64 k4∧Aside0 (impl_poleResult.l0 kq i5 k4 i5 i7 a9 a6=some (r1,r2))∧Aside0 (kq≤k)∧Aside0 (Kd.R (Kd.int .i64) 3 w' w.heap.size (fun k_=>Zn k_ k8) k6 a9)∧Aside0 (Kd.R (Kd.int .i64) 3 w' w.heap.size (fun k_=>Zn k_ k6) k8 a6)∧Aside0 (w'.heap[n9]? =some (.cells #[.int .i64 i5,(.slice m6 i7.length m7)] 29 (0,0)))∧Aside0 (w'.heap[m9]? =some (.cells #[(.slice none 0 0),(.slice none 0 0)] 26 (0,0)))∧Aside0 (w'.heap[i4]? =some (.cells #[k6,k8] 26 (0,0)))∧Aside0 (Below w.heap.size w w'))
 case atStart=>exact⟨(0),(([]:List Int)),(([]:List Int)),(.slice none 0 0),(.slice none 0 0),Zs,H',⟨Nat.le_refl _⟩,⟨Znl⟩,⟨Znl⟩,⟨Zbf b6⟩,⟨Zbf b7⟩,⟨by refine Zrb ?_;refine blk_put (cs:= #[.slice none 0 0,.slice none 0 0]) ?_ 1 _ rfl;refine Zrb ?_;refine blk_put (cs:= #[.slice none 0 0,.slice none 0 0]) ?_ 0 _ rfl;refine Zrb ?_;exact a8.out⟩,⟨Zl HB⟩⟩
 case round=>
  (clear H');obtain⟨k4,a9,a6,k6,k8,rfl,HA,F7,a4,a5,b6,b7,a8,HB⟩:=hrel
  cases gk with
  |zero=>exact absurd HA.out (by simp[impl_poleResult.l0])
  |succ k1=>
   have H:=HA.out;clear HA
   simp only[impl_poleResult.l0]at H
   by_cases c10:k4<i5
   ·
    rw[if_pos c10]at H;have r6:=decide_eq_true c10;clear c10;replace H:=Zb0 H;obtain⟨⟨b8,i8⟩,F8,H⟩:=H;(try dsimp only at H);obtain⟨d9,n0⟩: ∃j_:Int,(wrap64 ((b8.length:Int) - 1))=j_:=⟨_,rfl⟩;(replace H:(if 0≤(d9)then(if(d9)<(b8.length:Int)then((some (([rd b8 (d9)]:List Int):List Int)).bind fun d7=>(if a9.length+d7.length<17592186044416 then((some (([i8]:List Int):List Int)).bind fun k9=>(if a6.length+k9.length<17592186044416 then(impl_poleResult.l0 k1 i5 (wrap64 (k4+1)) i5 i7 (a9++d7) (a6++k9))else(none)))else(none)))else(none))else(none))=some (r1,r2):=by first|(rw[n0]at H;exact H)|(simp only[n0]at H ⊢;exact H))
    (try rw[n0]at F8)
    have D9:(IntKind.i64.wrap ((b8.length:Int) - 1))=d9:=(i64_w _).trans n0
    replace H:=Zit H;obtain⟨F9,H⟩:=H
    replace H:=Zit H;obtain⟨G1,H⟩:=H;replace H:=Zgb H;obtain⟨d7,n3,H⟩:=H
    replace H:=Zif H;obtain⟨G2,H⟩:=H
    have o0:=Aside0.mk G2;clear G2
    generalize p7:(a9++d7)=m8 at H;have o1:=Aside0.mk p7.symm;clear p7
    replace H:=Zgb H;obtain⟨k9,l6,H⟩:=H
    replace H:=Zif H;obtain⟨G3,H⟩:=H
    have r7:=Aside0.mk G3;clear G3
    generalize p8:(a6++k9)=o3 at H;have r8:=Aside0.mk p8.symm;clear p8;have H':=Aside0.mk H;clear H;have G4:=i9.out;have G5:=k3.out;have G6:=e7.out;have G7:=e9.out;obtain⟨y8,y9,z2,z3⟩:=Z2 b6
    try go_wp2_with (first|((with_reducible refine gate_callee (f:=59) rfl ?_);refine Ga (some 16) Try.func59 #[.agg #[.int .i64 i5,.slice m6 i7.length m7],.int .i64 k4] (h:= ?_);(with_reducible refine(impl_poleWay.calls k1 i5 _ _ i7 k4 b8 i8 _ ?r9 ?s6 F8.out).mono ?_);(case r9=>exact Zca (Kd.C_below q9.out HB.out));(case s6=>exact r5.out);rintro e J7 ⟨J8,rfl,E0,hb⟩;refine⟨_,rfl, ?_⟩;have a7:=Zj (Zv (Zv E0 a4) a5) HB;replace a4:=Zm (Kd.R_elder' (Zr a4) (Kd.R_base E0) hb);replace a5:=Zm (Kd.R_elder' (Zr a5) (Kd.R_base E0) hb);replace b6:=Zk b6 hb;replace b7:=Zk b7 hb;replace a8:=Zk a8 hb;replace HB:=Zh HB hb;obtain⟨l9,m4,E6⟩:=Kd.R_slice a4.out;subst E6;obtain⟨d4,d5,E7⟩:=Kd.R_slice a5.out;subst E7))
    replace a4:=Zm (Kd.R_drew a4.out);replace a5:=Zm (Kd.R_drew a5.out);replace a7:=Zm (Kd.R_drew a7.out);replace b6:=Zm (blk_drew b6.out);replace b7:=Zm (blk_drew b7.out);replace a8:=Zm (blk_drew a8.out);replace HB:=Zm (below_drew1 HB.out)
    obtain⟨J9,d6,s7⟩:=Kd.R_slice a7.out
    (first|subst s7|(injection s7 with l7 n5 l8;have n6:=l7.symm;have n7:=l8.symm;clear l7 n5 l8;subst n6;subst n7))
    have q3:0≤((d9):Int):=Zoa;have q4:(d9)<(b8.length:Int):=Zoa
    obtain⟨c9,E8,n4⟩:=Kd.at_int (Kd.R_reads' a7.out).2.2 (d9) q3 q4
    cases E8
    replace q3:=eq_true q3
    replace q4:=eq_true q4
    refine start_ (n:=19) (S:=fun w'=>w'.cell? ⟨i4,0,none⟩=some (.slice l9 a9.length m4)∧w'.cell? ⟨i4,1,none⟩=some (.slice d4 a6.length d5)∧w'.cell? (c9.add ((d9)).toNat)=some (.int .i64 (rd b8 (d9)))) (ds:= [16,18]) (fl 19 0) (by kernel_rfl) rfl rfl ⟨Zc0 a8 0,Zc0 a8 1,n4⟩ (fun hHeld=> ?_);refine with_tabW impl_poleResult.tab6 impl_poleResult.bits6 (fun HT_ HW_=> ?_)
    generalize J7.drew=K4 at a4 a5 a7 b6 b7 a8 HB n4 hHeld ⊢;refine Yu 0 19 (fl 19 1) HT_ (h:= ?_);refine Yu 2 21 (fl 19 5) HT_ (h:= ?_);refine Yu 3 22 (fl 19 13) HT_ (h:= ?_);refine Yu 4 23 (fl 19 29) HT_ (h:= ?_);refine Yu 5 24 (fl 19 61) HT_ (h:= ?_);refine Yu 6 25 (fl 19 125) HT_ (h:= ?_);refine Yu 10 29 (fl 19 1149) HT_ (h:= ?_);refine Yu 12 31 (fl 19 5245) HT_ (h:= ?_);refine Yt 1 20 (fl 19 5247) HT_ HW_ hHeld (h:= ?_);refine Yt 7 26 (fl 19 5375) HT_ HW_ hHeld (h:= ?_);refine Yt 11 30 (fl 19 7423) HT_ HW_ hHeld (h:= ?_)
    refine join_ (σ:=Value × Value × Value) 4 (fl 19 49151) (fun s_=> [(27,s_.1),(28,s_.2.1),(32,s_.2.2),(34,.pointer (some ⟨i4,0,none⟩))]) (fun s_ w'=>(w'.cell? ⟨i4,0,none⟩=some (.slice l9 a9.length m4)∧w'.cell? ⟨i4,1,none⟩=some (.slice d4 a6.length d5)∧w'.cell? (c9.add ((d9)).toNat)=some (.int .i64 (rd b8 (d9))))∧(Kd.R (Kd.int .i64) 3 w' w.heap.size (fun k_=>Zn k_ s_.1∧Zn k_ s_.2.1∧Zn k_ s_.2.2∧some k_≠(.slice d4 a6.length d5:Value).ownBlock) (.slice (some c9) b8.length d6) b8)∧(Kd.R (Kd.int .i64) 3 w' w.heap.size (fun k_=>some k_≠(.slice (some c9) b8.length d6:Value).ownBlock∧Zn k_ s_.2.1∧Zn k_ s_.2.2∧some k_≠(.slice d4 a6.length d5:Value).ownBlock) s_.1 d7)∧(Kd.R (Kd.int .i64) 3 w' w.heap.size (fun k_=>some k_≠(.slice (some c9) b8.length d6:Value).ownBlock∧Zn k_ s_.1∧Zn k_ s_.2.2∧some k_≠(.slice d4 a6.length d5:Value).ownBlock) s_.2.1 m8)∧(Kd.R (Kd.int .i64) 3 w' w.heap.size (fun k_=>some k_≠(.slice (some c9) b8.length d6:Value).ownBlock∧Zn k_ s_.1∧Zn k_ s_.2.1∧some k_≠(.slice d4 a6.length d5:Value).ownBlock) s_.2.2 k9)∧(Kd.R (Kd.int .i64) 3 w' w.heap.size (fun k_=>some k_≠(.slice (some c9) b8.length d6:Value).ownBlock∧Zn k_ s_.1∧Zn k_ s_.2.1∧Zn k_ s_.2.2) (.slice d4 a6.length d5) a6)∧(w'.heap[n9]? =some (.cells #[.int .i64 i5,.slice m6 i7.length m7] 29 (0,0)))∧(w'.heap[m9]? =some (.cells #[.slice none 0 0,.slice none 0 0] 26 (0,0)))∧(w'.heap[i4]? =some (.cells #[.slice l9 a9.length m4,.slice d4 a6.length d5] 26 (0,0)))∧(Below w.heap.size w w')) ?_ ?_
    rotate_left
    ·
     intro hCont
     refine two_ (i:=8) (j:=13) (Ni:=some 27) (Nj:=some 32) (fl 19 7679) (fl 19 15615) rfl rfl rfl rfl (two_of HT_.out (by kernel_rfl)) (by decide) (by decide) (fun K hK=> ?_) (fun K hK=> ?_)
     ·
      refine Kd.R_lit_step (Kd.int .i64) _ 3 ?hg (N:=27) ?hd (xs:=([rd b8 (d9)]:List Int)) (inner:= [.int .i64 (rd b8 (d9))]) (ok:=fun _ =>True) (okp:=fun _ =>True) ?hr ?hp (fun _ hk=>hk) trivial (Below.refl _ _) (Nat.le_refl _) (by simp) ?_;(case hd=>rfl);(case hg=>rfl);(case hr=>first|(go_simp;done)|(go_simp;rfl));(case hp=>exact(Reps.one (show Kd.M (Kd.int .i64) _ _ _ (rd b8 (d9)) [.int .i64 (rd b8 (d9))]from rfl) (Reps.none _ _)))
      intro l3 K0 g8 hb hg_ hnew_
      have e6:=(hb.cell (World.block_lt_of_cell? _ _ (hHeld.2.2))).trans (hHeld.2.2);clear hg_ hnew_
      (first|rw[←n3.out]at g8|(simp only[Int.reduceToNat]at g8;rw[←n3.out]at g8))
      have b9:=Zj (Zv (Zv (Zv g8 a4) a5) a7) HB;replace a4:=Zm (Kd.R_elder' (Zr a4) (Kd.R_base g8) hb);replace a5:=Zm (Kd.R_elder' (Zr a5) (Kd.R_base g8) hb);replace a7:=Zm (Kd.R_elder' (Zr a7) (Kd.R_base g8) hb);replace b6:=Zk b6 hb;replace b7:=Zk b7 hb;replace a8:=Zk a8 hb;replace HB:=Zh HB hb;clear hb g8;obtain⟨o4,o5,s9⟩:=Kd.R_slice b9.out
      (first|subst s9|(injection s9 with l7 n5 l8;have n6:=l7.symm;have n7:=l8.symm;clear l7 n5 l8;subst n6;subst n7))
      refine hK.out _ _ ⟨Zc0 a8 0,Zc0 a8 1,e6⟩ (fun hHeld=> ?_)
      clear hK K;refine Yn 27 (h:= ?_)
      refine two_ (i:=9) (j:=13) (Ni:=some 28) (Nj:=some 32) (fl 19 8191) (fl 19 15871) rfl rfl rfl rfl (two_of HT_.out (by kernel_rfl)) (by decide) (by decide) (fun K hK=> ?_) (fun K hK=> ?_)
      ·
       refine Kd.R_append_rows_step (Kd.int .i64) (w0:=w) w.heap.size (by rfl) (.tmp 20) (.tmp 27) 24 3 (.int .i64 0) 8 rfl Try.underlying24 info3 rfl (by decide) (by omega) (.slice l9 a9.length m4) a9 d7 _ _ _ (fun k_=>some k_≠(.slice d4 a6.length d5:Value).ownBlock∧some k_≠(.slice (some c9) b8.length d6:Value).ownBlock∧some k_≠(.slice o4 d7.length o5:Value).ownBlock) (fun _ =>False) rfl rfl ?aO ?aR (fun _ _ h=>h) (fun _ h=>h.elim) ?aF ?aB ?aS ?aL ?_
       (case aR=>exact Zca (Kd.R_reads' b9.out).2.2)
       (case aB=>exact(Zl HB))
       (case aF=>exact(fun k_ hk=>⟨Kd.fresh' (Kd.R_lt (Zr a5)) k_ hk,Kd.fresh' (Kd.R_lt (Zr a7)) k_ hk,Kd.fresh' (Kd.R_lt (Zr b9)) k_ hk⟩))
       (case aO=>exact(Zc a4))
       (case aS=>exact(below_size (Zl HB)))
       (case aL=>have:=o0.out;omega)
       intro i6 G8 ho hb hg hat
       (first|have e6:=cell_grown hg (hHeld.2.2) (by first|(rw[add_block];exact(by first|exact Zhn (a7.out.1 _ rfl)|exact fun e_=>absurd (a4.out.1 _ e_.symm) (by simp)))|(show some (Addr.add _ _).block≠ _;rw[add_block];exact(by first|exact Zhn (a7.out.1 _ rfl)|exact fun e_=>absurd (a4.out.1 _ e_.symm) (by simp)))|exact(by first|exact Zhn (a7.out.1 _ rfl)|exact fun e_=>absurd (a4.out.1 _ e_.symm) (by simp)))|have e6:=cell_grown hg (cell_unalloc (hHeld.2.2) (by first|(rw[add_block];exact Kd.R_lt a7.out _ rfl)|(show(Addr.add _ _).block< _;rw[add_block];exact Kd.R_lt a7.out _ rfl)|exact Kd.R_lt a7.out _ rfl)) (by first|(rw[add_block];exact(by first|exact Zhn (a7.out.1 _ rfl)|exact fun e_=>absurd (a4.out.1 _ e_.symm) (by simp)))|(show some (Addr.add _ _).block≠ _;rw[add_block];exact(by first|exact Zhn (a7.out.1 _ rfl)|exact fun e_=>absurd (a4.out.1 _ e_.symm) (by simp)))|exact(by first|exact Zhn (a7.out.1 _ rfl)|exact fun e_=>absurd (a4.out.1 _ e_.symm) (by simp))))
       rw[←o1.out]at ho
       replace a5:=Zm (Kd.R_after (ok:=(fun k_=>some k_≠(.slice (some c9) b8.length d6:Value).ownBlock∧some k_≠(.slice o4 d7.length o5:Value).ownBlock)) (Zc a5) hg hat);replace b6:=Zm (blk_grown (Zb b6) hg (Kd.R_ne a4.out b6.out (by decide)));replace b7:=Zm (blk_grown (Zb b7) hg (Kd.R_ne a4.out b7.out (by decide)));replace a8:=Zm (blk_grown (Zb a8) hg (Kd.R_ne a4.out a8.out (by decide)));replace a7:=Zm (Kd.R_after (ok:=(fun k_=>some k_≠(.slice d4 a6.length d5:Value).ownBlock∧some k_≠(.slice o4 d7.length o5:Value).ownBlock)) (Zc a7) hg hat);replace b9:=Zm (Kd.R_after (ok:=(fun k_=>some k_≠(.slice d4 a6.length d5:Value).ownBlock∧some k_≠(.slice (some c9) b8.length d6:Value).ownBlock)) (Zc b9) hg hat);replace HB:=Zm (hb);have d8:=Zm (ho);clear a4 ho hb hg hat
       refine hK.out _ _ ⟨Zc0 a8 0,Zc0 a8 1,e6⟩ (fun hHeld=> ?_)
       clear hK K;refine Yn 28 (h:= ?_);refine Yu 15 34 (fl 19 40959) HT_ (h:= ?_)
       refine one_ (i:=13) (N:=some 32) (fl 19 49151) rfl rfl (one_of HT_.out (by kernel_rfl)) (by decide) (fun K hK=> ?_)
       refine Kd.R_lit_step (Kd.int .i64) _ 3 ?hg (N:=32) ?hd (xs:=([i8]:List Int)) (inner:= [.int .i64 i8]) (ok:=fun _ =>True) (okp:=fun _ =>True) ?hr ?hp (fun _ hk=>hk) trivial (Below.refl _ _) (Nat.le_refl _) (by simp) ?_;(case hd=>rfl);(case hg=>rfl);(case hr=>first|(go_simp;done)|(go_simp;rfl));(case hp=>exact(Reps.one (show Kd.M (Kd.int .i64) _ _ _ i8 [.int .i64 i8]from rfl) (Reps.none _ _)))
       intro f8 G9 m5 hb hg_ hnew_
       have e6:=(hb.cell (World.block_lt_of_cell? _ _ (hHeld.2.2))).trans (hHeld.2.2);clear hg_ hnew_
       (first|rw[←l6.out]at m5|(simp only[Int.reduceToNat]at m5;rw[←l6.out]at m5))
       have d3:=Zj (Zv (Zv (Zv (Zv m5 a5) a7) b9) d8) HB;replace a5:=Zm (Kd.R_elder' (Zr a5) (Kd.R_base m5) hb);replace a7:=Zm (Kd.R_elder' (Zr a7) (Kd.R_base m5) hb);replace b9:=Zm (Kd.R_elder' (Zr b9) (Kd.R_base m5) hb);replace d8:=Zm (Kd.R_elder' (Zr d8) (Kd.R_base m5) hb);replace b6:=Zk b6 hb;replace b7:=Zk b7 hb;replace a8:=Zk a8 hb;replace HB:=Zh HB hb;clear hb m5
       refine hK.out _ _ ⟨Zc0 a8 0,Zc0 a8 1,e6⟩ (fun hHeld=> ?_)
       clear hK K;refine Yn 32 (h:= ?_)
       exact norm_ (by simp only[putAll,Act.put,List.setIfInBounds_toArray,List.set_cons_zero,List.set_cons_succ]) (hCont (.slice o4 d7.length o5,i6,f8) _ ⟨hHeld,(Zc a7),(Zc b9),(Zc d8),(Zc d3),(Zc a5),(Zb b6),(Zb b7),(Zb a8),(Zl HB)⟩)
      ·
       refine Kd.R_lit_step (Kd.int .i64) _ 3 ?hg (N:=32) ?hd (xs:=([i8]:List Int)) (inner:= [.int .i64 i8]) (ok:=fun _ =>True) (okp:=fun _ =>True) ?hr ?hp (fun _ hk=>hk) trivial (Below.refl _ _) (Nat.le_refl _) (by simp) ?_;(case hd=>rfl);(case hg=>rfl);(case hr=>first|(go_simp;done)|(go_simp;rfl));(case hp=>exact(Reps.one (show Kd.M (Kd.int .i64) _ _ _ i8 [.int .i64 i8]from rfl) (Reps.none _ _)))
       intro f8 G8 f9 hb hg_ hnew_
       have e6:=(hb.cell (World.block_lt_of_cell? _ _ (hHeld.2.2))).trans (hHeld.2.2);clear hg_ hnew_
       (first|rw[←l6.out]at f9|(simp only[Int.reduceToNat]at f9;rw[←l6.out]at f9))
       have d3:=Zj (Zv (Zv (Zv (Zv f9 a4) a5) a7) b9) HB;replace a4:=Zm (Kd.R_elder' (Zr a4) (Kd.R_base f9) hb);replace a5:=Zm (Kd.R_elder' (Zr a5) (Kd.R_base f9) hb);replace a7:=Zm (Kd.R_elder' (Zr a7) (Kd.R_base f9) hb);replace b9:=Zm (Kd.R_elder' (Zr b9) (Kd.R_base f9) hb);replace b6:=Zk b6 hb;replace b7:=Zk b7 hb;replace a8:=Zk a8 hb;replace HB:=Zh HB hb;clear hb f9;obtain⟨l4,l5,o2⟩:=Kd.R_slice b9.out
       (first|subst o2|(injection o2 with l7 n5 l8;have n6:=l7.symm;have n7:=l8.symm;clear l7 n5 l8;subst n6;subst n7))
       refine hK.out _ _ ⟨Zc0 a8 0,Zc0 a8 1,e6⟩ (fun hHeld=> ?_)
       clear hK K;refine Yn 32 (h:= ?_)
       refine one_ (i:=9) (N:=some 28) (fl 19 16383) rfl rfl (one_of HT_.out (by kernel_rfl)) (by decide) (fun K hK=> ?_)
       refine Kd.R_append_rows_step (Kd.int .i64) (w0:=w) w.heap.size (by rfl) (.tmp 20) (.tmp 27) 24 3 (.int .i64 0) 8 rfl Try.underlying24 info3 rfl (by decide) (by omega) (.slice l9 a9.length m4) a9 d7 _ _ _ (fun k_=>some k_≠(.slice d4 a6.length d5:Value).ownBlock∧some k_≠(.slice (some c9) b8.length d6:Value).ownBlock∧some k_≠(.slice l4 d7.length l5:Value).ownBlock∧Zn k_ f8) (fun _ =>False) rfl rfl ?aO ?aR (fun _ _ h=>h) (fun _ h=>h.elim) ?aF ?aB ?aS ?aL ?_
       (case aR=>exact Zca (Kd.R_reads' b9.out).2.2)
       (case aB=>exact(Zl HB))
       (case aF=>exact(fun k_ hk=>⟨Kd.fresh' (Kd.R_lt (Zr a5)) k_ hk,Kd.fresh' (Kd.R_lt (Zr a7)) k_ hk,Kd.fresh' (Kd.R_lt (Zr b9)) k_ hk,Kd.fresh' (Kd.R_lt (Zr d3)) k_ hk⟩))
       (case aO=>exact(Zc a4))
       (case aS=>exact(below_size (Zl HB)))
       (case aL=>have:=o0.out;omega)
       intro i6 G9 ho hb hg hat
       (first|have e6:=cell_grown hg (hHeld.2.2) (by first|(rw[add_block];exact(by first|exact Zhn (a7.out.1 _ rfl)|exact fun e_=>absurd (a4.out.1 _ e_.symm) (by simp)))|(show some (Addr.add _ _).block≠ _;rw[add_block];exact(by first|exact Zhn (a7.out.1 _ rfl)|exact fun e_=>absurd (a4.out.1 _ e_.symm) (by simp)))|exact(by first|exact Zhn (a7.out.1 _ rfl)|exact fun e_=>absurd (a4.out.1 _ e_.symm) (by simp)))|have e6:=cell_grown hg (cell_unalloc (hHeld.2.2) (by first|(rw[add_block];exact Kd.R_lt a7.out _ rfl)|(show(Addr.add _ _).block< _;rw[add_block];exact Kd.R_lt a7.out _ rfl)|exact Kd.R_lt a7.out _ rfl)) (by first|(rw[add_block];exact(by first|exact Zhn (a7.out.1 _ rfl)|exact fun e_=>absurd (a4.out.1 _ e_.symm) (by simp)))|(show some (Addr.add _ _).block≠ _;rw[add_block];exact(by first|exact Zhn (a7.out.1 _ rfl)|exact fun e_=>absurd (a4.out.1 _ e_.symm) (by simp)))|exact(by first|exact Zhn (a7.out.1 _ rfl)|exact fun e_=>absurd (a4.out.1 _ e_.symm) (by simp))))
       rw[←o1.out]at ho
       replace a5:=Zm (Kd.R_after (ok:=(fun k_=>some k_≠(.slice (some c9) b8.length d6:Value).ownBlock∧some k_≠(.slice l4 d7.length l5:Value).ownBlock∧Zn k_ f8)) (Zc a5) hg hat);replace b6:=Zm (blk_grown (Zb b6) hg (Kd.R_ne a4.out b6.out (by decide)));replace b7:=Zm (blk_grown (Zb b7) hg (Kd.R_ne a4.out b7.out (by decide)));replace a8:=Zm (blk_grown (Zb a8) hg (Kd.R_ne a4.out a8.out (by decide)));replace a7:=Zm (Kd.R_after (ok:=(fun k_=>some k_≠(.slice d4 a6.length d5:Value).ownBlock∧some k_≠(.slice l4 d7.length l5:Value).ownBlock∧Zn k_ f8)) (Zc a7) hg hat);replace b9:=Zm (Kd.R_after (ok:=(fun k_=>some k_≠(.slice d4 a6.length d5:Value).ownBlock∧some k_≠(.slice (some c9) b8.length d6:Value).ownBlock∧Zn k_ f8)) (Zc b9) hg hat);replace d3:=Zm (Kd.R_after (ok:=(fun k_=>some k_≠(.slice d4 a6.length d5:Value).ownBlock∧some k_≠(.slice (some c9) b8.length d6:Value).ownBlock∧some k_≠(.slice l4 d7.length l5:Value).ownBlock)) (Zc d3) hg hat);replace HB:=Zm (hb);have d8:=Zm (ho);clear a4 ho hb hg hat
       refine hK.out _ _ ⟨Zc0 a8 0,Zc0 a8 1,e6⟩ (fun hHeld=> ?_)
       clear hK K;refine Yn 28 (h:= ?_);refine Yu 15 34 (fl 19 49151) HT_ (h:= ?_)
       exact norm_ (by simp only[putAll,Act.put,List.setIfInBounds_toArray,List.set_cons_zero,List.set_cons_succ]) (hCont (.slice l4 d7.length l5,i6,f8) _ ⟨hHeld,(Zc a7),(Zc b9),(Zc d8),(Zc d3),(Zc a5),(Zb b6),(Zb b7),(Zb a8),(Zl HB)⟩)
     ·
      refine Kd.R_lit_step (Kd.int .i64) _ 3 ?hg (N:=32) ?hd (xs:=([i8]:List Int)) (inner:= [.int .i64 i8]) (ok:=fun _ =>True) (okp:=fun _ =>True) ?hr ?hp (fun _ hk=>hk) trivial (Below.refl _ _) (Nat.le_refl _) (by simp) ?_;(case hd=>rfl);(case hg=>rfl);(case hr=>first|(go_simp;done)|(go_simp;rfl));(case hp=>exact(Reps.one (show Kd.M (Kd.int .i64) _ _ _ i8 [.int .i64 i8]from rfl) (Reps.none _ _)))
      intro f8 K0 g8 hb hg_ hnew_
      have e6:=(hb.cell (World.block_lt_of_cell? _ _ (hHeld.2.2))).trans (hHeld.2.2);clear hg_ hnew_
      (first|rw[←l6.out]at g8|(simp only[Int.reduceToNat]at g8;rw[←l6.out]at g8))
      have d3:=Zj (Zv (Zv (Zv g8 a4) a5) a7) HB;replace a4:=Zm (Kd.R_elder' (Zr a4) (Kd.R_base g8) hb);replace a5:=Zm (Kd.R_elder' (Zr a5) (Kd.R_base g8) hb);replace a7:=Zm (Kd.R_elder' (Zr a7) (Kd.R_base g8) hb);replace b6:=Zk b6 hb;replace b7:=Zk b7 hb;replace a8:=Zk a8 hb;replace HB:=Zh HB hb;clear hb g8
      refine hK.out _ _ ⟨Zc0 a8 0,Zc0 a8 1,e6⟩ (fun hHeld=> ?_)
      clear hK K;refine Yn 32 (h:= ?_)
      refine one_ (i:=8) (N:=some 27) (fl 19 15871) rfl rfl (one_of HT_.out (by kernel_rfl)) (by decide) (fun K hK=> ?_)
      refine Kd.R_lit_step (Kd.int .i64) _ 3 ?hg (N:=27) ?hd (xs:=([rd b8 (d9)]:List Int)) (inner:= [.int .i64 (rd b8 (d9))]) (ok:=fun _ =>True) (okp:=fun _ =>True) ?hr ?hp (fun _ hk=>hk) trivial (Below.refl _ _) (Nat.le_refl _) (by simp) ?_;(case hd=>rfl);(case hg=>rfl);(case hr=>first|(go_simp;done)|(go_simp;rfl));(case hp=>exact(Reps.one (show Kd.M (Kd.int .i64) _ _ _ (rd b8 (d9)) [.int .i64 (rd b8 (d9))]from rfl) (Reps.none _ _)))
      intro l3 G8 f9 hb hg_ hnew_
      have e6:=(hb.cell (World.block_lt_of_cell? _ _ (hHeld.2.2))).trans (hHeld.2.2);clear hg_ hnew_
      (first|rw[←n3.out]at f9|(simp only[Int.reduceToNat]at f9;rw[←n3.out]at f9))
      have b9:=Zj (Zv (Zv (Zv (Zv f9 a4) a5) a7) d3) HB;replace a4:=Zm (Kd.R_elder' (Zr a4) (Kd.R_base f9) hb);replace a5:=Zm (Kd.R_elder' (Zr a5) (Kd.R_base f9) hb);replace a7:=Zm (Kd.R_elder' (Zr a7) (Kd.R_base f9) hb);replace d3:=Zm (Kd.R_elder' (Zr d3) (Kd.R_base f9) hb);replace b6:=Zk b6 hb;replace b7:=Zk b7 hb;replace a8:=Zk a8 hb;replace HB:=Zh HB hb;clear hb f9;obtain⟨l4,l5,o2⟩:=Kd.R_slice b9.out
      (first|subst o2|(injection o2 with l7 n5 l8;have n6:=l7.symm;have n7:=l8.symm;clear l7 n5 l8;subst n6;subst n7))
      refine hK.out _ _ ⟨Zc0 a8 0,Zc0 a8 1,e6⟩ (fun hHeld=> ?_)
      clear hK K;refine Yn 27 (h:= ?_)
      refine one_ (i:=9) (N:=some 28) (fl 19 16383) rfl rfl (one_of HT_.out (by kernel_rfl)) (by decide) (fun K hK=> ?_)
      refine Kd.R_append_rows_step (Kd.int .i64) (w0:=w) w.heap.size (by rfl) (.tmp 20) (.tmp 27) 24 3 (.int .i64 0) 8 rfl Try.underlying24 info3 rfl (by decide) (by omega) (.slice l9 a9.length m4) a9 d7 _ _ _ (fun k_=>some k_≠(.slice d4 a6.length d5:Value).ownBlock∧some k_≠(.slice (some c9) b8.length d6:Value).ownBlock∧Zn k_ f8∧some k_≠(.slice l4 d7.length l5:Value).ownBlock) (fun _ =>False) rfl rfl ?aO ?aR (fun _ _ h=>h) (fun _ h=>h.elim) ?aF ?aB ?aS ?aL ?_
      (case aR=>exact Zca (Kd.R_reads' b9.out).2.2)
      (case aB=>exact(Zl HB))
      (case aF=>exact(fun k_ hk=>⟨Kd.fresh' (Kd.R_lt (Zr a5)) k_ hk,Kd.fresh' (Kd.R_lt (Zr a7)) k_ hk,Kd.fresh' (Kd.R_lt (Zr d3)) k_ hk,Kd.fresh' (Kd.R_lt (Zr b9)) k_ hk⟩))
      (case aO=>exact(Zc a4))
      (case aS=>exact(below_size (Zl HB)))
      (case aL=>have:=o0.out;omega)
      intro i6 G9 ho hb hg hat
      (first|have e6:=cell_grown hg (hHeld.2.2) (by first|(rw[add_block];exact(by first|exact Zhn (a7.out.1 _ rfl)|exact fun e_=>absurd (a4.out.1 _ e_.symm) (by simp)))|(show some (Addr.add _ _).block≠ _;rw[add_block];exact(by first|exact Zhn (a7.out.1 _ rfl)|exact fun e_=>absurd (a4.out.1 _ e_.symm) (by simp)))|exact(by first|exact Zhn (a7.out.1 _ rfl)|exact fun e_=>absurd (a4.out.1 _ e_.symm) (by simp)))|have e6:=cell_grown hg (cell_unalloc (hHeld.2.2) (by first|(rw[add_block];exact Kd.R_lt a7.out _ rfl)|(show(Addr.add _ _).block< _;rw[add_block];exact Kd.R_lt a7.out _ rfl)|exact Kd.R_lt a7.out _ rfl)) (by first|(rw[add_block];exact(by first|exact Zhn (a7.out.1 _ rfl)|exact fun e_=>absurd (a4.out.1 _ e_.symm) (by simp)))|(show some (Addr.add _ _).block≠ _;rw[add_block];exact(by first|exact Zhn (a7.out.1 _ rfl)|exact fun e_=>absurd (a4.out.1 _ e_.symm) (by simp)))|exact(by first|exact Zhn (a7.out.1 _ rfl)|exact fun e_=>absurd (a4.out.1 _ e_.symm) (by simp))))
      rw[←o1.out]at ho
      replace a5:=Zm (Kd.R_after (ok:=(fun k_=>some k_≠(.slice (some c9) b8.length d6:Value).ownBlock∧Zn k_ f8∧some k_≠(.slice l4 d7.length l5:Value).ownBlock)) (Zc a5) hg hat);replace b6:=Zm (blk_grown (Zb b6) hg (Kd.R_ne a4.out b6.out (by decide)));replace b7:=Zm (blk_grown (Zb b7) hg (Kd.R_ne a4.out b7.out (by decide)));replace a8:=Zm (blk_grown (Zb a8) hg (Kd.R_ne a4.out a8.out (by decide)));replace a7:=Zm (Kd.R_after (ok:=(fun k_=>some k_≠(.slice d4 a6.length d5:Value).ownBlock∧Zn k_ f8∧some k_≠(.slice l4 d7.length l5:Value).ownBlock)) (Zc a7) hg hat);replace d3:=Zm (Kd.R_after (ok:=(fun k_=>some k_≠(.slice d4 a6.length d5:Value).ownBlock∧some k_≠(.slice (some c9) b8.length d6:Value).ownBlock∧some k_≠(.slice l4 d7.length l5:Value).ownBlock)) (Zc d3) hg hat);replace b9:=Zm (Kd.R_after (ok:=(fun k_=>some k_≠(.slice d4 a6.length d5:Value).ownBlock∧some k_≠(.slice (some c9) b8.length d6:Value).ownBlock∧Zn k_ f8)) (Zc b9) hg hat);replace HB:=Zm (hb);have d8:=Zm (ho);clear a4 ho hb hg hat
      refine hK.out _ _ ⟨Zc0 a8 0,Zc0 a8 1,e6⟩ (fun hHeld=> ?_)
      clear hK K;refine Yn 28 (h:= ?_);refine Yu 15 34 (fl 19 49151) HT_ (h:= ?_)
      exact norm_ (by simp only[putAll,Act.put,List.setIfInBounds_toArray,List.set_cons_zero,List.set_cons_succ]) (hCont (.slice l4 d7.length l5,i6,f8) _ ⟨hHeld,(Zc a7),(Zc b9),(Zc d8),(Zc d3),(Zc a5),(Zb b6),(Zb b7),(Zb a8),(Zl HB)⟩)
    rintro⟨l3,i6,f8⟩ n8 ⟨hS_,H1,H2,H3,H4,H5,H6,H7,H8,H9⟩
    replace a7:Aside0 (Kd.R (Kd.int .i64) 3 n8 w.heap.size (fun k_=>Zn k_ l3∧Zn k_ i6∧Zn k_ f8∧some k_≠(.slice d4 a6.length d5:Value).ownBlock) (.slice (some c9) b8.length d6) b8):=⟨H1⟩;have b9:Aside0 (Kd.R (Kd.int .i64) 3 n8 w.heap.size (fun k_=>some k_≠(.slice (some c9) b8.length d6:Value).ownBlock∧Zn k_ i6∧Zn k_ f8∧some k_≠(.slice d4 a6.length d5:Value).ownBlock) l3 d7):=⟨H2⟩;have d8:Aside0 (Kd.R (Kd.int .i64) 3 n8 w.heap.size (fun k_=>some k_≠(.slice (some c9) b8.length d6:Value).ownBlock∧Zn k_ l3∧Zn k_ f8∧some k_≠(.slice d4 a6.length d5:Value).ownBlock) i6 m8):=⟨H3⟩;have d3:Aside0 (Kd.R (Kd.int .i64) 3 n8 w.heap.size (fun k_=>some k_≠(.slice (some c9) b8.length d6:Value).ownBlock∧Zn k_ l3∧Zn k_ i6∧some k_≠(.slice d4 a6.length d5:Value).ownBlock) f8 k9):=⟨H4⟩;replace a5:Aside0 (Kd.R (Kd.int .i64) 3 n8 w.heap.size (fun k_=>some k_≠(.slice (some c9) b8.length d6:Value).ownBlock∧Zn k_ l3∧Zn k_ i6∧Zn k_ f8) (.slice d4 a6.length d5) a6):=⟨H5⟩;replace b6:Aside0 (n8.heap[n9]? =some (.cells #[.int .i64 i5,.slice m6 i7.length m7] 29 (0,0))):=⟨H6⟩;replace b7:Aside0 (n8.heap[m9]? =some (.cells #[.slice none 0 0,.slice none 0 0] 26 (0,0))):=⟨H7⟩;replace a8:Aside0 (n8.heap[i4]? =some (.cells #[.slice l9 a9.length m4,.slice d4 a6.length d5] 26 (0,0))):=⟨H8⟩;replace HB:Aside0 (Below w.heap.size w n8):=⟨H9⟩;clear a4 H1 H2 H3 H4 H5 H6 H7 H8 H9;have hHeld:n8.cell? ⟨i4,0,none⟩=some (.slice l9 a9.length m4)∧n8.cell? ⟨i4,1,none⟩=some (.slice d4 a6.length d5)∧n8.cell? (c9.add ((d9)).toNat)=some (.int .i64 (rd b8 (d9))):=hS_
    obtain⟨o6,o7,t0⟩:=Kd.R_slice d3.out
    (first|subst t0|(injection t0 with l7 n5 l8;have n6:=l7.symm;have n7:=l8.symm;clear l7 n5 l8;subst n6;subst n7))
    refine norm_ (a':= ?_) ?_ ?_
    rotate_left
    ·
     simp only[putAll,Act.put,List.setIfInBounds_toArray,List.set_cons_zero,List.set_cons_succ]
     rfl
    refine one_ (i:=14) (N:=some 33) (fl 19 65535) rfl rfl (one_of HT_.out (by kernel_rfl)) (by decide) (fun K hK=> ?_)
    refine Kd.R_append_rows_step (Kd.int .i64) (w0:=w) w.heap.size (by rfl) (.tmp 30) (.tmp 32) 24 3 (.int .i64 0) 8 rfl Try.underlying24 info3 rfl (by decide) (by omega) (.slice d4 a6.length d5) a6 k9 _ _ _ (fun k_=>some k_≠(.slice (some c9) b8.length d6:Value).ownBlock∧Zn k_ l3∧Zn k_ i6∧some k_≠(.slice o6 k9.length o7:Value).ownBlock) (fun _ =>False) rfl rfl ?aO ?aR (fun _ _ h=>h) (fun _ h=>h.elim) ?aF ?aB ?aS ?aL ?_
    (case aR=>exact Zca (Kd.R_reads' d3.out).2.2)
    (case aB=>exact(Zl HB))
    (case aF=>exact(fun k_ hk=>⟨Kd.fresh' (Kd.R_lt (Zr a7)) k_ hk,Kd.fresh' (Kd.R_lt (Zr b9)) k_ hk,Kd.fresh' (Kd.R_lt (Zr d8)) k_ hk,Kd.fresh' (Kd.R_lt (Zr d3)) k_ hk⟩))
    (case aO=>exact(Zr a5))
    (case aS=>exact(below_size (Zl HB)))
    (case aL=>have:=r7.out;omega)
    intro K1 K5 ho hb hg hat
    (first|have e6:=cell_grown hg (hHeld.2.2) (by first|(rw[add_block];exact(by first|exact Zhn (a7.out.1 _ rfl)|exact fun e_=>absurd (a5.out.1 _ e_.symm) (by simp)))|(show some (Addr.add _ _).block≠ _;rw[add_block];exact(by first|exact Zhn (a7.out.1 _ rfl)|exact fun e_=>absurd (a5.out.1 _ e_.symm) (by simp)))|exact(by first|exact Zhn (a7.out.1 _ rfl)|exact fun e_=>absurd (a5.out.1 _ e_.symm) (by simp)))|have e6:=cell_grown hg (cell_unalloc (hHeld.2.2) (by first|(rw[add_block];exact Kd.R_lt a7.out _ rfl)|(show(Addr.add _ _).block< _;rw[add_block];exact Kd.R_lt a7.out _ rfl)|exact Kd.R_lt a7.out _ rfl)) (by first|(rw[add_block];exact(by first|exact Zhn (a7.out.1 _ rfl)|exact fun e_=>absurd (a5.out.1 _ e_.symm) (by simp)))|(show some (Addr.add _ _).block≠ _;rw[add_block];exact(by first|exact Zhn (a7.out.1 _ rfl)|exact fun e_=>absurd (a5.out.1 _ e_.symm) (by simp)))|exact(by first|exact Zhn (a7.out.1 _ rfl)|exact fun e_=>absurd (a5.out.1 _ e_.symm) (by simp))))
    rw[←r8.out]at ho
    replace b6:=Zm (blk_grown (Zb b6) hg (Kd.R_ne a5.out b6.out (by decide)));replace b7:=Zm (blk_grown (Zb b7) hg (Kd.R_ne a5.out b7.out (by decide)));replace a8:=Zm (blk_grown (Zb a8) hg (Kd.R_ne a5.out a8.out (by decide)));replace a7:=Zm (Kd.R_after (ok:=(fun k_=>Zn k_ l3∧Zn k_ i6∧some k_≠(.slice o6 k9.length o7:Value).ownBlock)) (Zc a7) hg hat);replace b9:=Zm (Kd.R_after (ok:=(fun k_=>some k_≠(.slice (some c9) b8.length d6:Value).ownBlock∧Zn k_ i6∧some k_≠(.slice o6 k9.length o7:Value).ownBlock)) (Zc b9) hg hat);replace d8:=Zm (Kd.R_after (ok:=(fun k_=>some k_≠(.slice (some c9) b8.length d6:Value).ownBlock∧Zn k_ l3∧some k_≠(.slice o6 k9.length o7:Value).ownBlock)) (Zc d8) hg hat);replace d3:=Zm (Kd.R_after (ok:=(fun k_=>some k_≠(.slice (some c9) b8.length d6:Value).ownBlock∧Zn k_ l3∧Zn k_ i6)) (Zc d3) hg hat);replace HB:=Zm (hb);have p9:=Zm (ho);clear a5 ho hb hg hat
    obtain⟨o8,o9,t8⟩:=Kd.R_slice d8.out
    (first|subst t8|(injection t8 with l7 n5 l8;have n6:=l7.symm;have n7:=l8.symm;clear l7 n5 l8;subst n6;subst n7))
    obtain⟨q5,q6,t9⟩:=Kd.R_slice p9.out
    (first|subst t9|(injection t9 with l7 n5 l8;have n6:=l7.symm;have n7:=l8.symm;clear l7 n5 l8;subst n6;subst n7))
    refine hK.out _ _ ⟨Zc0 a8 0,Zc0 a8 1,e6⟩ (fun hHeld=> ?_)
    clear hK K;refine Yn 33 (h:= ?_)
    refine last_ (i:=16) (N:=none) (fl 19 131071) rfl rfl (one_of HT_.out (by kernel_rfl)) (by decide) (fun K hK=> ?_)
    have K2:=Zc0 a8 0;have I0:=blk_frozen a8.out 0;have z4:=e7.out;have z5:=g9.out;have z6:=e9.out;have z7:=i3.out
    refine skip_ (w1:= ?_) (by rfl) rfl ?_ ?_
    rotate_left
    ·
     go_simp
     rfl
    refine hK.out _ _ ?_
    clear hK K;refine Yu 17 35 (fl 19 262143) HT_ (h:= ?_)
    refine last_ (i:=18) (N:=none) (fl 19 524287) rfl rfl (one_of HT_.out (by kernel_rfl)) (by decide) (fun K hK=> ?_)
    have K3:=Zc0 a8 1;have I1:=blk_frozen a8.out 1;have z8:=e7.out;have z9:=g9.out;have B0:=e9.out;have C0:=i3.out
    refine skip_ (w1:= ?_) (by rfl) rfl ?_ ?_
    rotate_left
    ·
     go_simp
     rfl
    refine hK.out _ _ ?_
    clear hK K
    refine done_ (done_of HT_.out (by kernel_rfl)) ?_
    try go_wp2
    go_roundg k1
    case measure=>have:=F7.out;omega
    case rel=>exact⟨(wrap64 (k4+1)),(m8),(o3),(.slice o8 m8.length o9),(.slice q5 o3.length q6),Zs,H',⟨by have:=F7.out;omega⟩,⟨Zrr (Zfm d8 a8 (.slice o8 m8.length o9) (.slice q5 o3.length q6) (fun _ hk=>hk.1.2))⟩,⟨Zrr (Zfm p9 a8 (.slice o8 m8.length o9) (.slice q5 o3.length q6) (fun _ hk=>hk.1.2.2.1))⟩,⟨Zbf b6⟩,⟨Zbf b7⟩,⟨by refine Zrb ?_;refine blk_put (cs:= #[.slice o8 m8.length o9,.slice d4 a6.length d5]) ?_ 1 _ rfl;refine Zrb ?_;refine blk_put (cs:= #[.slice l9 a9.length m4,.slice d4 a6.length d5]) ?_ 0 _ rfl;refine Zrb ?_;exact a8.out⟩,⟨Zl HB⟩⟩
   ·
    rw[if_neg c10]at H;have r6:=decide_eq_false c10;clear c10
    obtain⟨rfl,rfl⟩:=Zs2 H;clear H
    have I2:=e9.out;have I3:=e7.out;have I4:=i3.out;have I5:=g9.out;obtain⟨C1,C2,C3,C4⟩:=Z2 a8
    obtain⟨p3,p4,E9⟩:=Kd.R_slice a4.out;subst E9
    have I6:=k3.out;have I7:=i9.out;obtain⟨C5,C6,C7,C8⟩:=Z2 b7
    obtain⟨q7,q8,F0⟩:=Kd.R_slice a5.out;subst F0
    go_wp2
    refine bodyPost_ret (results_cell_row rfl _ _ m9 26 #[.slice p3 a9.length p4,.slice q7 a6.length q8] (0,0) _ rfl (by refine Zrb ?_;refine blk_put (cs:= #[.slice p3 a9.length p4,.slice none 0 0]) ?_ 1 _ rfl;refine Zrb ?_;refine blk_put (cs:= #[.slice none 0 0,.slice none 0 0]) ?_ 0 _ rfl;refine Zrb ?_;exact b7.out) Try.underlying26 rfl (by kernel_rfl)) rfl ?_
    exact⟨_,_,Ze,Zrr (Zfm a4 b7 (.slice p3 a9.length p4) (.slice q7 a6.length q8) (fun _ hk=>hk.1)),Zrr (Zfm a5 b7 (.slice p3 a9.length p4) (.slice q7 a6.length q8) (fun _ hk=>hk.1)),Zl HB⟩
end Go.Proofs.Ytnagcjhgojchlaa.Q
