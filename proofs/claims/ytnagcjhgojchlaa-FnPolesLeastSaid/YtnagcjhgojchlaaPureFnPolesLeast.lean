/- FnPolesLeast: for all codes that fit into memory the law's plain form answers true. -/
import Derived.IntWalk
import Derived.Test.YtnagcjhgojchlaaQm0
import Derived.Test.YtnagcjhgojchlaaQm3
import Derived.Test.YtnagcjhgojchlaaQm1
import Derived.Test.YtnagcjhgojchlaaQm4
import Derived.Test.YtnagcjhgojchlaaQm2
import Derived.Test.YtnagcjhgojchlaaQm5
namespace Go.Proofs.Ytnagcjhgojchlaa.L
open Go.RowKit Go.Proofs.Ytnagcjhgojchlaa.Q Go.Proofs.YtnagcjhgojchlaaW.PrintWords Go.Proofs.YtnagcjhgojchlaaW.PrintLast
set_option linter.unusedVariables false
set_option linter.unusedSimpArgs false
theorem wrap_idD {n:Int} (h1: -9223372036854775808≤n) (h2:n≤9223372036854775807):wrap64 n=n:=by unfold wrap64;omega
structure Code (l:List Int):Prop where
  byte: ∀x∈l,0≤x∧x≤255
  len:l.length≤1000000000000
theorem code_of {l:List Int} (h: ∀x∈l,(Lit.int .u8 x).wf=true) (hl:l.length≤1000000000000):Code l:=by
  refine⟨fun x hx=> ?_,hl⟩
  have:=h x hx
  simp[Lit.wf,IntKind.min,IntKind.max,IntKind.signed,IntKind.bits]at this
  omega
theorem and_byte (x:Int):0≤Go.bits .and .u64 x 255∧Go.bits .and .u64 x 255≤255:=by
  have h:(BitVec.ofInt 64 x &&& BitVec.ofInt 64 255).toNat≤255:=by
    rw[BitVec.toNat_and]
    exact Nat.le_trans Nat.and_le_right (by decide)
  have e:Go.bits .and .u64 x 255=IntKind.u64.wrap (((BitVec.ofInt 64 x &&& BitVec.ofInt 64 255).toNat:Nat):Int):=rfl
  rw[e,IntWalk.u64_in _ (by omega)]
  omega
theorem next_ok {l:List Int} (hl:Code l) (a s:Int) (h0:0≤a) (h1:a≤1000000000000000): ∃b s',spec_l1Cur_next.f l a s=some (b,a+1,s')∧0≤b∧b≤255:=by
  have hn:=hl.len
  have hw:wrap64 (a+1)=a+1:=wrap_idD (by omega) (by omega)
  unfold spec_l1Cur_next.f
  rw[hw]
  by_cases h:a<(l.length:Int)
  · have hb:=hl.byte (rd l a) (by
      unfold rd
      rw[List.getD_eq_getElem?_getD,List.getElem?_eq_getElem (by omega)]
      exact List.getElem_mem _)
    rw[if_pos h,if_pos h0,if_pos (by omega),wrap_idD (n:=rd l a) (by omega) (by omega)]
    exact⟨_,_,rfl,hb.1,hb.2⟩
  · have key: ∀x,wrap64 (Go.bits .and .u64 x 255)=Go.bits .and .u64 x 255:=fun x=>by
      have hb:=and_byte x
      exact wrap_idD (by omega) (by omega)
    rw[if_neg h,if_neg (by omega),key]
    exact⟨_,_,rfl,and_byte _⟩
theorem pick_ok {l:List Int} (hl:Code l) (a s n:Int) (h0:0≤a) (h1:a≤1000000000000000) (hn:n≤200): ∃v b s',spec_l1Cur_pick.f l a s n=some (v,b,s')∧0≤v∧(n≤1→v=0)∧(2≤n→v<n)∧a≤b∧b≤a+1:=by
  unfold spec_l1Cur_pick.f
  by_cases h:n≤1
  · rw[if_pos h]
    exact⟨_,_,_,rfl,by omega,fun _ =>rfl,fun h2=>by omega,by omega,by omega⟩
  · obtain⟨b,s',e,h2,h3⟩:=next_ok hl a s h0 h1
    rw[if_neg h,e,Option.bind_some,if_neg (by omega),if_neg (by omega)]
    refine⟨_,_,_,rfl,Int.tmod_nonneg _ h2,fun h4=>by omega,fun _ =>Int.tmod_lt_of_pos _ (by omega),by simp only[];omega,by simp only[];omega⟩
theorem one_ok {l:List Int} (hl:Code l) (a s n:Int) (h0:0≤a) (h1:a≤1000000000000000) (hn:n≤200): ∃v b s',spec_l1Cur_one.f l a s n=some (v,b,s')∧a≤b∧b≤a+1:=by
  obtain⟨v,b,s',e,_,_,_,h2,h3⟩:=pick_ok hl a s n h0 h1 hn
  unfold spec_l1Cur_one.f
  rw[e]
  exact⟨_,_,_,rfl,h2,h3⟩
theorem among_ok {l:List Int} (hl:Code l) (a s:Int) (m:List Int) (h0:0≤a) (h1:a≤1000000000000000) (hm:m.length≤200) (a4:0<m.length): ∃v b s',spec_l1Cur_among.f l a s m=some (v,b,s')∧v∈m∧a≤b∧b≤a+1:=by
  obtain⟨v,b,s',e,h2,h3,h4,h5,h6⟩:=pick_ok hl a s (m.length:Int) h0 h1 (by omega)
  have hv:v<(m.length:Int):=by
    by_cases c:(m.length:Int)≤1
    · rw[h3 c];omega
    · exact h4 (by omega)
  unfold spec_l1Cur_among.f
  rw[e,Option.bind_some]
  simp only[]
  rw[if_pos h2,if_pos hv]
  refine⟨_,_,_,rfl, ?_,h5,h6⟩
  unfold rd
  rw[List.getD_eq_getElem?_getD,List.getElem?_eq_getElem (by omega)]
  exact List.getElem_mem _
end Go.Proofs.Ytnagcjhgojchlaa.L
namespace Go.Proofs.Ytnagcjhgojchlaa.L
open Go.RowKit Go.Proofs.Ytnagcjhgojchlaa.Q Go.Proofs.YtnagcjhgojchlaaW.PrintWords Go.Proofs.YtnagcjhgojchlaaW.PrintLast
set_option linter.unusedVariables false
set_option linter.unusedSimpArgs false
theorem wrap_id {n:Int} (h1: -9223372036854775808≤n) (h2:n≤9223372036854775807):wrap64 n=n:=by unfold wrap64;omega
theorem rd_nat (l:List Int) (i:Nat) (h:i<l.length):rd l (i:Int)=l[i]:=by
  unfold rd
  rw[Int.toNat_natCast,List.getD_eq_getElem?_getD,List.getElem?_eq_getElem h]
  rfl
end Go.Proofs.Ytnagcjhgojchlaa.L
namespace Go.Proofs.Ytnagcjhgojchlaa.L
open Go.RowKit Go.Proofs.Ytnagcjhgojchlaa.Q Go.Proofs.YtnagcjhgojchlaaW.PrintWords Go.Proofs.YtnagcjhgojchlaaW.PrintLast
set_option linter.unusedVariables false
set_option linter.unusedSimpArgs false
theorem surePole_l0 {l:List Int} (hl:Code l) (wi:Int) (hw:2≤wi∧wi≤100): ∀(d k:Nat) (a s:Int) (acc:List Int),0≤a→a+d≤1000000000000000→d≤200→d<k→acc.length+d≤400→(∀x∈acc,0≤x∧x≤wi - 1)→
    ∃r b s',spec_l1Cur_surePole.l0 k (d:Int) l a s wi acc=some (wi,r,b,s')∧(∀x∈r,0≤x∧x≤wi - 1)∧r.length=acc.length+d∧a≤b∧b≤a+d
  |0,k,a,s,acc,h0,h1,hd,hk,ha,hx=>by
    obtain⟨k,rfl⟩: ∃m,k=m+1:=⟨k - 1,by omega⟩
    simp only[spec_l1Cur_surePole.l0]
    rw[if_neg (by omega)]
    exact⟨acc,a,s,rfl,hx,by omega,by omega,by omega⟩
  |d+1,k,a,s,acc,h0,h1,hd,hk,ha,hx=>by
    obtain⟨k,rfl⟩: ∃m,k=m+1:=⟨k - 1,by omega⟩
    obtain⟨v,b,s',e,hv,_,a4,hb,a5⟩:=pick_ok hl a s wi h0 (by omega) (by omega)
    have a4:=a4 (by omega)
    obtain⟨r,b',s2,e2,hr,hrl,h3,h4⟩:=surePole_l0 hl wi hw d k b s' (acc++ [v]) (by omega) (by omega) (by omega) (by omega) (by simp;omega) (fun x hx'=>by
      rcases List.mem_append.1 hx' with h|h
      · exact hx x h
      · rw[List.mem_singleton.1 h];omega)
    simp only[spec_l1Cur_surePole.l0]
    rw[if_pos (by omega),e,Option.bind_some]
    simp only[]
    rw[if_pos (by omega),wrap_id (by omega) (by omega),show(((d+1:Nat):Int) - 1)=(d:Int) by omega,e2]
    exact⟨r,b',s2,rfl,hr,by rw[hrl];simp;omega,by omega,by omega⟩
theorem surePole_ok {l:List Int} (hl:Code l) (a s:Int) (m:Nat) (hm:m≤100) (h0:0≤a) (h1:a≤100000000000000): ∃wi r b s',spec_l1Cur_surePole.f 200 l a s (m:Int)=some (wi,r,b,s')∧(3≤wi∧wi≤6)∧(∀x∈r,0≤x∧x≤wi - 1)∧r.length≤m∧a≤b∧b≤a+m+2:=by
  obtain⟨v,b,s1,e1,hv,_,a4,hb,a7⟩:=pick_ok hl a s 4 h0 (by omega) (by omega)
  have a4:=a4 (by omega)
  obtain⟨n,b2,s2,e2,hn,a5,a6,a8,a9⟩:=pick_ok hl b s1 ((m:Int)+1) (by omega) (by omega) (by omega)
  have b6:n≤m:=by
    by_cases c:(m:Int)+1≤1
    · rw[a5 c];omega
    · have:=a6 (by omega);omega
  obtain⟨r,b3,s3,e3,hr,hrl,h5,h6⟩:=surePole_l0 hl (3+v) (by omega) n.toNat 200 b2 s2 [] (by omega) (by omega) (by omega) (by omega) (by simp;omega) (by simp)
  rw[Int.toNat_of_nonneg hn]at e3
  unfold spec_l1Cur_surePole.f
  rw[e1,Option.bind_some]
  simp only[]
  rw[wrap_id (n:=(m:Int)+1) (by omega) (by omega),e2,Option.bind_some]
  simp only[]
  rw[wrap_id (n:=3+v) (by omega) (by omega),e3]
  simp only[List.length_nil]at hrl
  exact⟨3+v,r,b3,s3,rfl,by omega,hr,by omega,by omega,by omega⟩
end Go.Proofs.Ytnagcjhgojchlaa.L
namespace Go.Proofs.Ytnagcjhgojchlaa.L
open Go.RowKit Go.Proofs.Ytnagcjhgojchlaa.Q Go.Proofs.YtnagcjhgojchlaaW.PrintWords Go.Proofs.YtnagcjhgojchlaaW.PrintLast
set_option linter.unusedVariables false
set_option linter.unusedSimpArgs false
theorem l1In (a lo hi:Int):spec_l1In.f a lo hi=some (decide (lo≤a∧a≤hi)):=by
  unfold spec_l1In.f
  by_cases h:a≥lo
  · rw[if_pos h];congr 1;simp[h]
  · rw[if_neg h];congr 1;simp;omega
theorem between (a lo hi:Int):impl_between.f a lo hi=some (decide (lo≤a∧a≤hi)):=by
  unfold impl_between.f
  by_cases h:a≥lo
  · rw[if_pos h];congr 1;simp[h]
  · rw[if_neg h];congr 1;simp;omega
theorem l1All_l0 (l:List Int) (lo hi:Int) (hb:l.length≤35184372088832) (d:Nat): ∀(i k:Nat),i+d=l.length→d<k→spec_l1All.l0 k lo hi l (l.length:Int) (i:Int)=some ((l.drop i).all fun r=>decide (lo≤r∧r≤hi)):=by
  induction d with
  |zero=>
    intro i k hi' hk
    obtain⟨k,rfl⟩: ∃m,k=m+1:=⟨k - 1,by omega⟩
    simp only[spec_l1All.l0]
    rw[if_neg (by omega),show i=l.length from by omega,List.drop_length]
    rfl
  |succ d ih=>
    intro i k hi' hk
    obtain⟨k,rfl⟩: ∃m,k=m+1:=⟨k - 1,by omega⟩
    simp only[spec_l1All.l0]
    rw[if_pos (by omega),if_pos (by omega),if_pos (by omega),rd_nat l i (by omega),l1In,Option.bind_some,wrap_id (by omega) (by omega),List.drop_eq_getElem_cons (by omega),List.all_cons]
    by_cases h:lo≤l[i]∧l[i]≤hi
    · rw[decide_eq_true h,if_pos rfl]
      have:=ih (i+1) k (by omega) (by omega)
      rw[Bool.true_and]
      exact_mod_cast this
    · rw[decide_eq_false h,if_neg (by decide)]
      rfl
theorem l1All (l:List Int) (lo hi:Int) (hb:l.length≤35184372088832) (k:Nat) (hk:l.length+1≤k):spec_l1All.f k l lo hi=some (l.all fun r=>decide (lo≤r∧r≤hi)):=by
  unfold spec_l1All.f
  have:=l1All_l0 l lo hi hb l.length 0 k (by omega) (by omega)
  simpa using this
end Go.Proofs.Ytnagcjhgojchlaa.L
namespace Go.Proofs.Ytnagcjhgojchlaa.L
open Go.RowKit Go.Proofs.Ytnagcjhgojchlaa.Q Go.Proofs.YtnagcjhgojchlaaW.PrintWords Go.Proofs.YtnagcjhgojchlaaW.PrintLast
set_option linter.unusedVariables false
set_option linter.unusedSimpArgs false
def isPole (a:Int) (l:List Int):Bool:=decide (3≤a∧a≤8) && decide (l.length≤60) && l.all fun r=>decide (0≤r∧r≤a - 1)
theorem isPole_eq (a:Int) (l:List Int):impl_isPole.f a l=some (isPole a l):=rfl
theorem isPole_wires {a:Int} {l:List Int} (h:isPole a l=true):3≤a∧a≤8∧l.length≤60∧ ∀r∈l,0≤r∧r≤a - 1:=by
  unfold isPole at h
  simp only[Bool.and_eq_true,decide_eq_true_eq,List.all_eq_true]at h
  exact⟨h.1.1.1,h.1.1.2,h.1.2,h.2⟩
end Go.Proofs.Ytnagcjhgojchlaa.L
namespace Go.Proofs.Ytnagcjhgojchlaa.L
open Go.RowKit Go.Proofs.Ytnagcjhgojchlaa.Q Go.Proofs.YtnagcjhgojchlaaW.PrintWords Go.Proofs.YtnagcjhgojchlaaW.PrintLast
set_option linter.unusedVariables false
set_option linter.unusedSimpArgs false
def nextP (a w r:Int):Int × Int:=(spec_poOver.f a w r).getD (0,0)
theorem over_all: ∀a∈List.range 6,∀w∈List.range (a+3),∀r∈List.range (a+3),spec_poOver.f (((a:Nat):Int)+3) (w:Nat) (r:Nat)=some (nextP (((a:Nat):Int)+3) (w:Nat) (r:Nat))∧impl_round.f 1 (((a:Nat):Int)+3) (w:Nat) (r:Nat)=some (nextP (((a:Nat):Int)+3) (w:Nat) (r:Nat))∧0≤(nextP (((a:Nat):Int)+3) (w:Nat) (r:Nat)).1∧(nextP (((a:Nat):Int)+3) (w:Nat) (r:Nat)).1≤((a:Nat):Int)+2∧ -1≤(nextP (((a:Nat):Int)+3) (w:Nat) (r:Nat)).2∧(nextP (((a:Nat):Int)+3) (w:Nat) (r:Nat)).2≤1:=by decide+kernel
theorem over_at (a w r:Int) (ha:3≤a∧a≤8) (hw:0≤w∧w≤a - 1) (hr:0≤r∧r≤a - 1):
    spec_poOver.f a w r=some (nextP a w r)∧(∀k,1≤k→impl_round.f k a w r=some (nextP a w r))∧(0≤(nextP a w r).1∧(nextP a w r).1≤a - 1)∧ -1≤(nextP a w r).2∧(nextP a w r).2≤1:=by
  obtain⟨a',rfl⟩: ∃x:Nat,a=x+3:=⟨(a - 3).toNat,by omega⟩
  obtain⟨w',rfl⟩: ∃x:Nat,w=x:=⟨w.toNat,by omega⟩
  obtain⟨r',rfl⟩: ∃x:Nat,r=x:=⟨r.toNat,by omega⟩
  obtain⟨h1,h2,h3,h4,h5,h6⟩:=over_all a' (List.mem_range.2 (by omega)) w' (List.mem_range.2 (by omega)) r' (List.mem_range.2 (by omega))
  refine⟨h1,fun k hk=> ?_,⟨h3,by omega⟩,h5,h6⟩
  exact at_rounds (fun k=>impl_round.mono _ _ _ k) hk h2
def pdown (a:Int):List Int→Int→List Int × Int
  | [],_ =>([],0)
  |r::rs,w=>((nextP a w r).1::(pdown a rs (nextP a w r).1).1,(nextP a w r).2+(pdown a rs (nextP a w r).1).2)
theorem pdown_length (a:Int): ∀(l:List Int) (w:Int),(pdown a l w).1.length=l.length
  | [],_ =>rfl
  |r::rs,w=>by simp[pdown,pdown_length a rs]
theorem poDown_l0 (a:Int) (l:List Int) (b:List Int) (ha:3≤a∧a≤8) (hb:l.length≤60) (hl: ∀r∈l,0≤r∧r≤a - 1) (d:Nat):
    ∀(i k:Nat) (w:Int) (acc:List Int) (x:Int),i+d=l.length→acc.length≤100+i→(0≤w∧w≤a - 1)→(-(i:Int)≤x∧x≤i)→d+1<k→
      spec_poDown.l0 k w acc x l (l.length:Int) (i:Int) a b=some (acc++(pdown a (l.drop i) w).1,x+(pdown a (l.drop i) w).2)∧impl_poleWay.l0 k w acc x l (l.length:Int) (i:Int) a b=some (acc++(pdown a (l.drop i) w).1,x+(pdown a (l.drop i) w).2):=by
  induction d with
  |zero=>
    intro i k w acc x hi hacc hw hx hk
    obtain⟨k,rfl⟩: ∃m,k=m+1:=⟨k - 1,by omega⟩
    simp only[spec_poDown.l0,impl_poleWay.l0]
    rw[if_neg (by omega),if_neg (by omega),show i=l.length from by omega,List.drop_length]
    simp[pdown]
  |succ d ih=>
    intro i k w acc x hi hacc hw hx hk
    obtain⟨k,rfl⟩: ∃m,k=m+1:=⟨k - 1,by omega⟩
    obtain⟨e1,e2,e3,e4,e5⟩:=over_at a w l[i] ha hw (hl _ (List.getElem_mem _))
    simp only[spec_poDown.l0,impl_poleWay.l0]
    rw[if_pos (by omega),if_pos (by omega),if_pos (by omega),rd_nat l i (by omega),e1,Option.bind_some,if_pos (by omega),wrap_id (by omega) (by omega),wrap_id (by omega) (by omega),
      if_pos (by omega),if_pos (by omega),if_pos (by omega),e2 k (by omega),Option.bind_some,if_pos (by omega),wrap_id (by omega) (by omega)]
    have:=ih (i+1) k (nextP a w l[i]).1 (acc++ [(nextP a w l[i]).1]) (x+(nextP a w l[i]).2) (by omega) (by simp;omega) e3 (by omega) (by omega)
    rw[List.drop_eq_getElem_cons (by omega)]
    simp only[pdown]
    rw[List.append_assoc,List.singleton_append,Int.add_assoc]at this
    exact_mod_cast this
theorem poDown (a:Int) (l:List Int) (w:Int) (ha:3≤a∧a≤8) (hb:l.length≤60) (hl: ∀r∈l,0≤r∧r≤a - 1) (hw:0≤w∧w≤a - 1) (k:Nat) (hk:l.length+2≤k):
    spec_poDown.f k a l w=some (w::(pdown a l w).1,(pdown a l w).2)∧impl_poleWay.f k a l w=some (w::(pdown a l w).1,(pdown a l w).2):=by
  unfold spec_poDown.f impl_poleWay.f
  have:=poDown_l0 a l l ha hb hl l.length 0 k w [w] 0 (by omega) (by simp) hw (by omega) (by omega)
  simpa using this
end Go.Proofs.Ytnagcjhgojchlaa.L
namespace Go.Proofs.Ytnagcjhgojchlaa.L
open Go.RowKit Go.Proofs.Ytnagcjhgojchlaa.Q Go.Proofs.YtnagcjhgojchlaaW.PrintWords Go.Proofs.YtnagcjhgojchlaaW.PrintLast
set_option linter.unusedVariables false
set_option linter.unusedSimpArgs false
def pend (a:Int):List Int→Int→Int
  | [],w=>w
  |r::rs,w=>pend a rs (nextP a w r).1
theorem pend_get (a:Int): ∀(l:List Int) (w:Int),(w::(pdown a l w).1)[l.length]? =some (pend a l w)
  | [],w=>rfl
  |r::rs,w=>by
    rw[List.length_cons,List.getElem?_cons_succ]
    exact pend_get a rs (nextP a w r).1
theorem pend_rd (a:Int) (l:List Int) (w:Int) (i:Int) (hi:i=(l.length:Int)):rd (w::(pdown a l w).1) i=pend a l w:=by
  unfold rd
  rw[hi,show((l.length:Int)).toNat=l.length by omega,List.getD_eq_getElem?_getD,pend_get]
  rfl
def vals (f:Int→Int):Nat→Int→List Int
  |0,_ => []
  |d+1,i=>f i::vals f d (i+1)
theorem vals_length (f:Int→Int): ∀(d:Nat) (i:Int),(vals f d i).length=d
  |0,_ =>rfl
  |d+1,i=>by rw[vals,List.length_cons,vals_length f d]
theorem vals_get (f:Int→Int): ∀(d:Nat) (i:Int) (j:Nat),j<d→(vals f d i)[j]? =some (f (i+j))
  |0,_,_,h=>by omega
  |d+1,i,0,_ =>by simp[vals]
  |d+1,i,j+1,h=>by
    rw[vals,List.getElem?_cons_succ,vals_get f d (i+1) j (by omega)]
    congr 2
    omega
def resE (a:Int) (l:List Int):List Int:=vals (pend a l) a.toNat 0
def resW (a:Int) (l:List Int):List Int:=vals (fun w=>(pdown a l w).2) a.toNat 0
theorem result_l0 (a:Int) (l:List Int) (ha:3≤a∧a≤8) (hb:l.length≤60) (hl: ∀r∈l,0≤r∧r≤a - 1) (d:Nat):
    ∀(i:Int) (k:Nat) (E W:List Int),0≤i→i+d=a→E.length≤i.toNat→W.length≤i.toNat→l.length+d+3≤k→
      spec_poResult.l0 k i a l E W=some (E++vals (pend a l) d i,W++vals (fun w=>(pdown a l w).2) d i)∧impl_poleResult.l0 k a i a l E W=some (E++vals (pend a l) d i,W++vals (fun w=>(pdown a l w).2) d i):=by
  induction d with
  |zero=>
    intro i k E W h0 hi hE hW hk
    obtain⟨k,rfl⟩: ∃m,k=m+1:=⟨k - 1,by omega⟩
    simp only[spec_poResult.l0,impl_poleResult.l0]
    rw[if_neg (by omega),if_neg (by omega)]
    simp[vals]
  |succ d ih=>
    intro i k E W h0 hi hE hW hk
    obtain⟨k,rfl⟩: ∃m,k=m+1:=⟨k - 1,by omega⟩
    obtain⟨e1,e2⟩:=poDown a l i ha hb hl (by omega) k (by omega)
    have hlen:(i::(pdown a l i).1).length=l.length+1:=by rw[List.length_cons,pdown_length]
    have a4:wrap64 (((i::(pdown a l i).1).length:Int) - 1)=(l.length:Int):=by rw[hlen];rw[wrap_id (by omega) (by omega)];omega
    obtain⟨i1,i2⟩:=ih (i+1) k (E++ [pend a l i]) (W++ [(pdown a l i).2]) (by omega) (by omega) (by simp;omega) (by simp;omega) (by omega)
    constructor
    · simp only[spec_poResult.l0]
      rw[if_pos (by omega),e1,Option.bind_some]
      simp only[]
      rw[if_pos (by omega),if_pos (by rw[hlen];omega),if_pos (by omega),if_pos (by omega),wrap_id (by omega) (by omega),pend_rd a l i _ rfl,i1]
      simp[vals]
    · simp only[impl_poleResult.l0]
      rw[if_pos (by omega),e2,Option.bind_some]
      simp only[]
      rw[a4,if_pos (by omega),if_pos (by rw[hlen];omega),Option.bind_some,if_pos (by simp;omega),Option.bind_some,if_pos (by simp;omega),wrap_id (by omega) (by omega),pend_rd a l i _ rfl,i2]
      simp[vals]
theorem result_at (a:Int) (l:List Int) (ha:3≤a∧a≤8) (hb:l.length≤60) (hl: ∀r∈l,0≤r∧r≤a - 1) (k:Nat) (hk:l.length+20≤k):
    spec_poResult.f k a l=some (resE a l,resW a l)∧impl_poleResult.f k a l=some (resE a l,resW a l):=by
  unfold spec_poResult.f impl_poleResult.f resE resW
  have:=result_l0 a l ha hb hl a.toNat 0 k [] [] (by omega) (by omega) (by simp) (by simp) (by omega)
  simpa using this
end Go.Proofs.Ytnagcjhgojchlaa.L
namespace Go.Proofs.Ytnagcjhgojchlaa.L
open Go.RowKit Go.Proofs.Ytnagcjhgojchlaa.Q Go.Proofs.YtnagcjhgojchlaaW.PrintWords Go.Proofs.YtnagcjhgojchlaaW.PrintLast
set_option linter.unusedVariables false
set_option linter.unusedSimpArgs false
theorem l1Has_l0 (l:List Int) (a:Int) (hb:l.length≤35184372088832) (d:Nat): ∀(i k:Nat),i+d=l.length→d<k→spec_l1Has.l0 k a l (l.length:Int) (i:Int)=some (decide (a∈l.drop i)):=by
  induction d with
  |zero=>
    intro i k hi hk
    obtain⟨k,rfl⟩: ∃m,k=m+1:=⟨k - 1,by omega⟩
    simp only[spec_l1Has.l0]
    rw[if_neg (by omega),show i=l.length from by omega,List.drop_length]
    simp
  |succ d ih=>
    intro i k hi hk
    obtain⟨k,rfl⟩: ∃m,k=m+1:=⟨k - 1,by omega⟩
    simp only[spec_l1Has.l0]
    rw[if_pos (by omega),if_pos (by omega),if_pos (by omega),rd_nat l i (by omega),wrap_id (by omega) (by omega),List.drop_eq_getElem_cons (by omega)]
    by_cases h:l[i]=a
    · rw[if_pos h]
      simp[h]
    · rw[if_neg h]
      have:=ih (i+1) k (by omega) (by omega)
      have e:decide (a∈l[i]::l.drop (i+1))=decide (a∈l.drop (i+1)):=by
        congr 1
        rw[List.mem_cons]
        simp[Ne.symm h]
      rw[e]
      exact_mod_cast this
theorem l1Has (l:List Int) (a:Int) (hb:l.length≤35184372088832) (k:Nat) (hk:l.length+1≤k):spec_l1Has.f k l a=some (decide (a∈l)):=by
  unfold spec_l1Has.f
  have:=l1Has_l0 l a hb l.length 0 k (by omega) (by omega)
  simpa using this
theorem index_l0 (l:List Int) (a:Int) (hb:l.length≤35184372088832) (d:Nat): ∀(i k:Nat),i+d=l.length→d<k→ ∃r,slices_Index_int_int.l0 k l a (l.length:Int) (i:Int)=some r∧decide (r≥0)=decide (a∈l.drop i):=by
  induction d with
  |zero=>
    intro i k hi hk
    obtain⟨k,rfl⟩: ∃m,k=m+1:=⟨k - 1,by omega⟩
    simp only[slices_Index_int_int.l0]
    rw[if_neg (by omega),show i=l.length from by omega,List.drop_length]
    exact⟨-1,rfl,by simp⟩
  |succ d ih=>
    intro i k hi hk
    obtain⟨k,rfl⟩: ∃m,k=m+1:=⟨k - 1,by omega⟩
    simp only[slices_Index_int_int.l0]
    rw[if_pos (by omega),if_pos (by omega),if_pos (by omega),rd_nat l i (by omega),wrap_id (by omega) (by omega),List.drop_eq_getElem_cons (by omega)]
    by_cases h:a=l[i]
    · rw[if_pos h]
      exact⟨_,rfl,by rw[decide_eq_true (by omega),decide_eq_true (by rw[h];exact List.mem_cons_self)]⟩
    · rw[if_neg h]
      obtain⟨r,e1,e2⟩:=ih (i+1) k (by omega) (by omega)
      refine⟨r,by exact_mod_cast e1, ?_⟩
      rw[e2]
      congr 1
      rw[List.mem_cons]
      simp[h]
theorem contains (l:List Int) (a:Int) (hb:l.length≤35184372088832) (k:Nat) (hk:l.length+1≤k):slices_Contains_int_int.f k l a=some (decide (a∈l)):=by
  unfold slices_Contains_int_int.f slices_Index_int_int.f
  obtain⟨r,e1,e2⟩:=index_l0 l a hb l.length 0 k (by omega) (by omega)
  have a4:slices_Index_int_int.l0 k l a (l.length:Int) 0=some r:=e1
  rw[a4,Option.bind_some,e2]
  simp
def ordGo (n:Int) (seen:List Int):List Int→Bool
  | []=>true
  |x::xs=>decide (0≤x∧x≤n - 1) && !decide (x∈seen) && ordGo n (seen++ [x]) xs
def isOrd (p:List Int):Bool:=decide ((1:Int)≤(p.length:Int)∧(p.length:Int)≤8) && ordGo (p.length:Int) [] p
theorem ord_l0 (l:List Int) (hb:l.length≤8) (d:Nat): ∀(i k:Nat),i+d=l.length→d+9<k→spec_laOrder.l0 k l l (l.length:Int) (i:Int)=some (ordGo (l.length:Int) (l.take i) (l.drop i))∧impl_isOrder.l0 k l l (l.length:Int) (i:Int)=some (ordGo (l.length:Int) (l.take i) (l.drop i)):=by
  induction d with
  |zero=>
    intro i k hi hk
    obtain⟨k,rfl⟩: ∃m,k=m+1:=⟨k - 1,by omega⟩
    simp only[spec_laOrder.l0,impl_isOrder.l0]
    rw[if_neg (by omega),if_neg (by omega),show i=l.length from by omega,List.drop_length]
    exact⟨rfl,rfl⟩
  |succ d ih=>
    intro i k hi hk
    obtain⟨k,rfl⟩: ∃m,k=m+1:=⟨k - 1,by omega⟩
    have ht:(l.take ((i:Int)).toNat).length≤8:=by rw[List.length_take];omega
    have IH:=ih (i+1) k (by omega) (by omega)
    rw[List.take_succ_eq_append_getElem (by omega)]at IH
    simp only[spec_laOrder.l0,impl_isOrder.l0]
    rw[List.drop_eq_getElem_cons (by omega)]
    simp only[ordGo]
    have c1:(i:Int)<(l.length:Int):=by omega
    have c2:(0:Int)≤(i:Int):=by omega
    have c3:(i:Int)≤(l.length:Int):=by omega
    have e0:((i:Int)).toNat=i:=by omega
    have e1:wrap64 ((l.length:Int) - 1)=(l.length:Int) - 1:=wrap_id (by omega) (by omega)
    have e2:wrap64 ((i:Int)+1)=((i+1:Nat):Int):=by rw[wrap_id (by omega) (by omega)];omega
    simp only[if_pos c1,if_pos c2,if_pos c3,rd_nat l i (by omega),l1In,between,e1,e2,Option.bind_some]
    by_cases h:0≤l[i]∧l[i]≤(l.length:Int) - 1
    · rw[decide_eq_true h,if_pos rfl,if_pos rfl,l1Has _ _ (by omega) k (by omega),contains _ _ (by omega) k (by omega),Option.bind_some,Option.bind_some,e0,Bool.true_and]
      by_cases h2:l[i]∈l.take i
      · rw[decide_eq_true h2]
        exact⟨rfl,rfl⟩
      · rw[decide_eq_false h2,if_neg (by decide),if_neg (by decide)]
        exact IH
    · rw[decide_eq_false h,if_neg (by decide),if_neg (by decide)]
      exact⟨rfl,rfl⟩
theorem laOrder (l:List Int) (k:Nat) (hk:20≤k):spec_laOrder.f k l=some (isOrd l):=by
  unfold spec_laOrder.f isOrd
  rw[l1In,Option.bind_some]
  by_cases h:(1:Int)≤(l.length:Int)∧(l.length:Int)≤8
  · rw[decide_eq_true h,if_pos rfl]
    exact(ord_l0 l (by omega) l.length 0 k (by omega) (by omega)).1
  · rw[decide_eq_false h]
    rfl
theorem isOrder (l:List Int) (k:Nat) (hk:20≤k):impl_isOrder.f k l=some (isOrd l):=by
  unfold impl_isOrder.f isOrd
  rw[between,Option.bind_some]
  by_cases h:(1:Int)≤(l.length:Int)∧(l.length:Int)≤8
  · rw[decide_eq_true h,if_pos rfl]
    exact(ord_l0 l (by omega) l.length 0 k (by omega) (by omega)).2
  · rw[decide_eq_false h]
    rfl
theorem ordGo_mem (n:Int): ∀(l seen:List Int),ordGo n seen l=true→ ∀x∈l,0≤x∧x≤n - 1
  | [],_,_,x,hx=>by simp at hx
  |y::ys,seen,h,x,hx=>by
    simp only[ordGo,Bool.and_eq_true,decide_eq_true_eq]at h
    rcases List.mem_cons.1 hx with rfl|hx
    · exact h.1.1
    · exact ordGo_mem n ys _ h.2 x hx
theorem isOrd_facts {p:List Int} (h:isOrd p=true):1≤p.length∧p.length≤8∧ ∀x∈p,0≤x∧x≤(p.length:Int) - 1:=by
  unfold isOrd at h
  simp only[Bool.and_eq_true,decide_eq_true_eq]at h
  exact⟨by omega,by omega,ordGo_mem _ _ _ h.2⟩
end Go.Proofs.Ytnagcjhgojchlaa.L
namespace Go.Proofs.Ytnagcjhgojchlaa.L
open Go.RowKit Go.Proofs.Ytnagcjhgojchlaa.Q Go.Proofs.YtnagcjhgojchlaaW.PrintWords Go.Proofs.YtnagcjhgojchlaaW.PrintLast
set_option linter.unusedVariables false
set_option linter.unusedSimpArgs false
def isTur (p w:List Int):Bool:=isOrd p && decide (3≤p.length) && decide (w.length=p.length) && (w.all fun x=>decide ((-20:Int)≤x∧x≤20)) && decide (w.sum=0)
theorem tur_l0s (w:List Int) (hb:w.length≤8) (hw: ∀x∈w,(-20:Int)≤x∧x≤20) (d:Nat): ∀(i k:Nat) (s:Int),i+d=w.length→(-20*(i:Int)≤s∧s≤20*(i:Int))→d<k→spec_poTurned.l0 k s w (w.length:Int) (i:Int)=some (decide (s+(w.drop i).sum=0)):=by
  induction d with
  |zero=>
    intro i k s hi hs hk
    obtain⟨k,rfl⟩: ∃m,k=m+1:=⟨k - 1,by omega⟩
    simp only[spec_poTurned.l0]
    rw[if_neg (by omega),show i=w.length from by omega,List.drop_length]
    simp[Bool.beq_eq_decide_eq]
  |succ d ih=>
    intro i k s hi hs hk
    obtain⟨k,rfl⟩: ∃m,k=m+1:=⟨k - 1,by omega⟩
    have hx:=hw w[i] (List.getElem_mem _)
    simp only[spec_poTurned.l0]
    rw[if_pos (by omega),if_pos (by omega),if_pos (by omega),rd_nat w i (by omega),wrap_id (by omega) (by omega),wrap_id (by omega) (by omega),List.drop_eq_getElem_cons (by omega),List.sum_cons]
    have:=ih (i+1) k (s+w[i]) (by omega) (by omega) (by omega)
    rw[Int.add_assoc]at this
    exact_mod_cast this
theorem tur_l0i (w:List Int) (hb:w.length≤8) (d:Nat): ∀(i k:Nat) (s:Int),i+d=w.length→(-20*(i:Int)≤s∧s≤20*(i:Int))→d<k→impl_isTurned.l0 k s w (w.length:Int) (i:Int)=some (((w.drop i).all fun x=>decide ((-20:Int)≤x∧x≤20)) && decide (s+(w.drop i).sum=0)):=by
  induction d with
  |zero=>
    intro i k s hi hs hk
    obtain⟨k,rfl⟩: ∃m,k=m+1:=⟨k - 1,by omega⟩
    simp only[impl_isTurned.l0]
    rw[if_neg (by omega),show i=w.length from by omega,List.drop_length]
    simp[Bool.beq_eq_decide_eq]
  |succ d ih=>
    intro i k s hi hs hk
    obtain⟨k,rfl⟩: ∃m,k=m+1:=⟨k - 1,by omega⟩
    simp only[impl_isTurned.l0]
    rw[if_pos (by omega),if_pos (by omega),if_pos (by omega),rd_nat w i (by omega),between,Option.bind_some,List.drop_eq_getElem_cons (by omega),List.sum_cons,List.all_cons]
    by_cases h:(-20:Int)≤w[i]∧w[i]≤20
    · rw[decide_eq_true h,if_pos rfl,wrap_id (by omega) (by omega),wrap_id (by omega) (by omega),Bool.true_and]
      have:=ih (i+1) k (s+w[i]) (by omega) (by omega) (by omega)
      rw[Int.add_assoc]at this
      exact_mod_cast this
    · rw[decide_eq_false h,if_neg (by decide),Bool.false_and,Bool.false_and]
theorem poTurned (p w:List Int) (hw:w.length≤35184372088832) (k:Nat) (hk:w.length+25≤k):spec_poTurned.f k p w=some (isTur p w):=by
  obtain⟨k,rfl⟩: ∃m,k=m+1:=⟨k - 1,by omega⟩
  unfold spec_poTurned.f isTur
  rw[laOrder p _ (by omega),Option.bind_some]
  by_cases h:isOrd p=true
  · obtain⟨h1,h2,h3⟩:=isOrd_facts h
    rw[if_pos h,h]
    by_cases h4:3≤p.length
    · rw[if_neg (by omega),decide_eq_true h4]
      by_cases h5:w.length=p.length
      · rw[if_pos (by omega),l1All w _ _ hw _ (by omega),Option.bind_some,decide_eq_true h5]
        by_cases h6:(w.all fun x=>decide ((-20:Int)≤x∧x≤20))=true
        · rw[h6]
          simp only[spec_poTurned.j0,Bool.not_true,Bool.true_and]
          rw[if_neg (by decide)]
          have:=tur_l0s w (by omega) (fun x hx=>by have:=List.all_eq_true.1 h6 x hx;simpa using this) w.length 0 k 0 (by omega) (by omega) (by omega)
          simpa using this
        · rw[Bool.eq_false_iff.2 h6]
          rfl
      · rw[if_neg (by omega),decide_eq_false h5]
        rfl
    · rw[if_pos (by omega),decide_eq_false h4]
      rfl
  · rw[if_neg h,Bool.eq_false_iff.2 h]
    rfl
theorem isTurned (p w:List Int) (hw:w.length≤35184372088832) (k:Nat) (hk:w.length+25≤k):impl_isTurned.f k p w=some (isTur p w):=by
  obtain⟨k,rfl⟩: ∃m,k=m+1:=⟨k - 1,by omega⟩
  unfold impl_isTurned.f isTur
  rw[isOrder p _ (by omega),Option.bind_some]
  by_cases h:isOrd p=true
  · obtain⟨h1,h2,h3⟩:=isOrd_facts h
    rw[if_pos h,h]
    by_cases h4:3≤p.length
    · rw[if_neg (by omega),decide_eq_true h4]
      by_cases h5:w.length=p.length
      · have e:((w.length:Int) != (p.length:Int))=false:=by simp;omega
        rw[decide_eq_true h5,e]
        simp only[impl_isTurned.j0,Bool.true_and]
        rw[if_neg (by decide)]
        have:=tur_l0i w (by omega) w.length 0 k 0 (by omega) (by omega) (by omega)
        simpa using this
      · have e:((w.length:Int) != (p.length:Int))=true:=by simp;omega
        rw[decide_eq_false h5,e]
        rfl
    · rw[if_pos (by omega),decide_eq_false h4]
      rfl
  · rw[if_neg h,Bool.eq_false_iff.2 h]
    rfl
theorem isTur_facts {p w:List Int} (h:isTur p w=true):isOrd p=true∧3≤p.length∧p.length≤8∧w.length=p.length∧(∀x∈p,0≤x∧x≤(p.length:Int) - 1)∧(∀x∈w,(-20:Int)≤x∧x≤20)∧w.sum=0:=by
  unfold isTur at h
  simp only[Bool.and_eq_true,decide_eq_true_eq,List.all_eq_true]at h
  obtain⟨⟨⟨⟨h1,h2⟩,h3⟩,h4⟩,h5⟩:=h
  have:=isOrd_facts h1
  exact⟨h1,h2,this.2.1,h3,this.2.2,h4,h5⟩
end Go.Proofs.Ytnagcjhgojchlaa.L
namespace Go.Proofs.Ytnagcjhgojchlaa.L
open Go.RowKit Go.Proofs.Ytnagcjhgojchlaa.Q Go.Proofs.YtnagcjhgojchlaaW.PrintWords Go.Proofs.YtnagcjhgojchlaaW.PrintLast
set_option linter.unusedVariables false
set_option linter.unusedSimpArgs false
theorem place_same (p w:List Int) (i:Int):impl_Turned_place.f p w i=spec_poPlace.f p w i:=rfl
def placeV (p w:List Int) (i:Int):Int:=rd p (i%(p.length:Int))+(p.length:Int)*rd w (i%(p.length:Int))+i - i%(p.length:Int)
theorem tmod_pos (i n:Int) (hn:3≤n∧n≤8):Int.tmod (Int.tmod i n+n) n=i%n:=by
  by_cases h:0≤i
  · rw[Int.tmod_eq_emod_of_nonneg h,Int.tmod_eq_emod_of_nonneg (by have:=Int.emod_nonneg i (show n≠0 by omega);omega),Int.add_emod_right,Int.emod_emod_of_dvd _ (Int.dvd_refl n)]
  · obtain⟨m,rfl⟩: ∃m,i= -m:=⟨-i,by omega⟩
    rw[Int.neg_tmod,Int.tmod_eq_emod_of_nonneg (show 0≤m by omega)]
    have h1:=Int.emod_lt_of_pos m (show 0<n by omega)
    rw[Int.tmod_eq_emod_of_nonneg (by omega)]
    have hc:n=3∨n=4∨n=5∨n=6∨n=7∨n=8:=by omega
    rcases hc with rfl|rfl|rfl|rfl|rfl|rfl<;>omega
theorem tmod_small (i n:Int) (hn:3≤n∧n≤8): -n<Int.tmod i n∧Int.tmod i n<n:=by
  by_cases h:0≤i
  · rw[Int.tmod_eq_emod_of_nonneg h]
    have h1:=Int.emod_lt_of_pos i (show 0<n by omega)
    have h2:=Int.emod_nonneg i (show n≠0 by omega)
    omega
  · obtain⟨m,rfl⟩: ∃m,i= -m:=⟨-i,by omega⟩
    rw[Int.neg_tmod,Int.tmod_eq_emod_of_nonneg (show 0≤m by omega)]
    have h1:=Int.emod_lt_of_pos m (show 0<n by omega)
    have h2:=Int.emod_nonneg m (show n≠0 by omega)
    omega
theorem rd_mem (l:List Int) (i:Int) (h0:0≤i) (h:i<(l.length:Int)):rd l i∈l:=by
  obtain⟨j,rfl⟩: ∃j:Nat,i=j:=⟨i.toNat,by omega⟩
  rw[rd_nat l j (by omega)]
  exact List.getElem_mem _
theorem place_at (p w:List Int) (h:isTur p w=true) (i:Int) (hi: -1000000≤i∧i≤1000000):spec_poPlace.f p w i=some (placeV p w i)∧i - 21*(p.length:Int)<placeV p w i∧placeV p w i<i+21*(p.length:Int):=by
  obtain⟨f1,f2,f3,f4,f5,f6,f7⟩:=isTur_facts h
  have hn:3≤(p.length:Int)∧(p.length:Int)≤8:=by omega
  have e1:=tmod_pos i (p.length:Int) hn
  have e2:=tmod_small i (p.length:Int) hn
  have k0:=Int.emod_nonneg i (show(p.length:Int)≠0 by omega)
  have k1:=Int.emod_lt_of_pos i (show 0<(p.length:Int) by omega)
  have m1:=f5 _ (rd_mem p (i%(p.length:Int)) k0 k1)
  have m2:=f6 _ (rd_mem w (i%(p.length:Int)) k0 (by omega))
  have m3: -160≤(p.length:Int)*rd w (i%(p.length:Int))∧(p.length:Int)*rd w (i%(p.length:Int))≤160∧ -20*(p.length:Int)≤(p.length:Int)*rd w (i%(p.length:Int))∧(p.length:Int)*rd w (i%(p.length:Int))≤20*(p.length:Int):=by
    generalize rd w (i%(p.length:Int))=x at m2
    have hc:(p.length:Int)=3∨(p.length:Int)=4∨(p.length:Int)=5∨(p.length:Int)=6∨(p.length:Int)=7∨(p.length:Int)=8:=by omega
    rcases hc with hc|hc|hc|hc|hc|hc<;>rw[hc]<;>omega
  refine⟨?_, ?_, ?_⟩
  · unfold spec_poPlace.f
    rw[wrap_id (n:=Int.tmod i (p.length:Int)+(p.length:Int)) (by omega) (by omega),e1,if_neg (by omega),if_pos k0,if_pos k1,if_pos (by omega),
      wrap_id (n:=(p.length:Int)*rd w (i%(p.length:Int))) (by omega) (by omega),wrap_id (n:=rd p (i%(p.length:Int))+(p.length:Int)*rd w (i%(p.length:Int))) (by omega) (by omega),
      wrap_id (n:=rd p (i%(p.length:Int))+(p.length:Int)*rd w (i%(p.length:Int))+i) (by omega) (by omega),wrap_id (by omega) (by omega)]
    rfl
  · unfold placeV;omega
  · unfold placeV;omega
end Go.Proofs.Ytnagcjhgojchlaa.L
namespace Go.Proofs.Ytnagcjhgojchlaa.L
open Go.RowKit Go.Proofs.Ytnagcjhgojchlaa.Q Go.Proofs.YtnagcjhgojchlaaW.PrintWords Go.Proofs.YtnagcjhgojchlaaW.PrintLast
set_option linter.unusedVariables false
set_option linter.unusedSimpArgs false
def invC (p w:List Int) (i:Int):Nat→Int→Int→Int
  |0,_,m=>m
  |d+1,j,m=>invC p w i d (j+1) (if placeV p w j<placeV p w i then wrap64 (m+1)else m)
def invO (p w:List Int) (c:Nat):Nat→Int→Int→Int
  |0,_,m=>m
  |d+1,i,m=>invO p w c d (i+1) (invC p w i c (i+1) m)
theorem invC_add (p w:List Int) (i:Int): ∀(d e:Nat) (j m:Int),invC p w i (d+e) j m=invC p w i e (j+d) (invC p w i d j m)
  |0,e,j,m=>by simp[invC]
  |d+1,e,j,m=>by
    rw[show d+1+e=(d+e)+1 from by omega]
    simp only[invC]
    rw[invC_add p w i d e]
    congr 1
    omega
theorem invC_none (p w:List Int) (h:isTur p w=true) (i:Int) (hi:0≤i∧i≤100): ∀(d:Nat) (j m:Int),i+42*(p.length:Int)≤j→j+d≤100000→invC p w i d j m=m
  |0,_,_,_,_ =>rfl
  |d+1,j,m,hj,hd=>by
    simp only[invC]
    have a:=place_at p w h i (by omega)
    have b:=place_at p w h j (by omega)
    rw[if_neg (by omega)]
    exact invC_none p w h i hi d (j+1) m (by omega) (by omega)
theorem invC_same (p w:List Int) (h:isTur p w=true) (i m:Int) (hi:0≤i∧i≤100):invC p w i (p.length*244) (i+1) m=invC p w i (p.length*43) (i+1) m:=by
  obtain⟨f1,f2,f3,f4,f5,f6,f7⟩:=isTur_facts h
  rw[show p.length*244=p.length*43+p.length*201 from by omega,invC_add]
  exact invC_none p w h i hi _ _ _ (by omega) (by omega)
theorem invO_same (p w:List Int) (h:isTur p w=true): ∀(d:Nat) (i m:Int),0≤i→i+d≤100→invO p w (p.length*244) d i m=invO p w (p.length*43) d i m
  |0,_,_,_,_ =>rfl
  |d+1,i,m,hi,hd=>by
    simp only[invO]
    rw[invC_same p w h i m (by omega)]
    exact invO_same p w h d (i+1) _ (by omega) (by omega)
theorem inv_g1 (p w:List Int) (h:isTur p w=true) (i:Int) (hi:0≤i∧i≤100): ∀(d:Nat) (j m:Int),0≤j→j+d≤100000→impl_poleInversions.g1 p w i d j m=some (invC p w i d j m)
  |0,_,_,_,_ =>rfl
  |d+1,j,m,hj,hd=>by
    simp only[impl_poleInversions.g1,invC]
    rw[place_same,place_same,(place_at p w h i (by omega)).1,(place_at p w h j (by omega)).1,Option.bind_some,Option.bind_some]
    exact inv_g1 p w h i hi d (j+1) _ (by omega) (by omega)
theorem inv_g0 (p w:List Int) (h:isTur p w=true): ∀(d:Nat) (i m:Int),0≤i→i+d≤100→impl_poleInversions.g0 p w d i m=some (invO p w (p.length*244) d i m)
  |0,_,_,_,_ =>rfl
  |d+1,i,m,hi,hd=>by
    obtain⟨f1,f2,f3,f4,f5,f6,f7⟩:=isTur_facts h
    simp only[impl_poleInversions.g0,invO]
    rw[inv_g1 p w h i (by omega) _ _ _ (by omega) (by omega),Option.bind_some]
    exact inv_g0 p w h d (i+1) _ (by omega) (by omega)
theorem inv_l1 (p w:List Int) (h:isTur p w=true) (i:Int) (hi:0≤i∧i≤100) (k:Nat): ∀(d:Nat) (j m:Int),j+d=i+(p.length:Int)*43+1→0≤j→spec_poInversions.l1 (k+d+1) (p.length:Int) m i j p w=spec_poInversions.l0 k (p.length:Int) (invC p w i d j m) (i+1) p w
  |0,j,m,hj,h0=>by
    obtain⟨f1,f2,f3,f4,f5,f6,f7⟩:=isTur_facts h
    simp only[spec_poInversions.l1,invC]
    rw[wrap_id (n:=(p.length:Int)*43) (by omega) (by omega),wrap_id (n:=i+(p.length:Int)*43) (by omega) (by omega),if_neg (by omega),wrap_id (by omega) (by omega)]
  |d+1,j,m,hj,h0=>by
    obtain⟨f1,f2,f3,f4,f5,f6,f7⟩:=isTur_facts h
    rw[show k+(d+1)+1=(k+d+1)+1 from by omega]
    have IH:=fun m'=>inv_l1 p w h i hi k d (j+1) m' (by omega) (by omega)
    generalize k+d+1=kk at IH ⊢
    simp only[spec_poInversions.l1,invC]
    rw[wrap_id (n:=(p.length:Int)*43) (by omega) (by omega),wrap_id (n:=i+(p.length:Int)*43) (by omega) (by omega),if_pos (by omega),(place_at p w h j (by omega)).1,(place_at p w h i (by omega)).1,Option.bind_some,Option.bind_some,wrap_id (n:=j+1) (by omega) (by omega)]
    by_cases hc:placeV p w j<placeV p w i
    · rw[if_pos hc,if_pos hc]
      exact IH _
    · rw[if_neg hc,if_neg hc]
      exact IH _
theorem inv_l0 (p w:List Int) (h:isTur p w=true) (k:Nat): ∀(d:Nat) (i m:Int),i+d=(p.length:Int)→0≤i→spec_poInversions.l0 (k+d*(p.length*43+2)+1) (p.length:Int) m i p w=some (invO p w (p.length*43) d i m)
  |0,i,m,hi,h0=>by
    simp only[spec_poInversions.l0,invO]
    rw[if_neg (by omega)]
  |d+1,i,m,hi,h0=>by
    obtain⟨f1,f2,f3,f4,f5,f6,f7⟩:=isTur_facts h
    have hx:(d+1)*(p.length*43+2)=d*(p.length*43+2)+(p.length*43+2):=Nat.succ_mul _ _
    rw[hx,show k+(d*(p.length*43+2)+(p.length*43+2))+1=((k+d*(p.length*43+2)+1)+p.length*43+1)+1 from by omega]
    have IH:=fun m'=>inv_l0 p w h k d (i+1) m' (by omega) (by omega)
    generalize k+d*(p.length*43+2)+1=kk at IH ⊢
    simp only[spec_poInversions.l0,invO]
    rw[if_pos (by omega),wrap_id (by omega) (by omega),inv_l1 p w h i (by omega) _ _ _ _ (by omega) (by omega)]
    exact IH _
def invV (p w:List Int):Int:=invO p w (p.length*43) p.length 0 0
theorem poInversions (p w:List Int) (h:isTur p w=true) (k:Nat) (hk:3000≤k):spec_poInversions.f k p w=some (invV p w):=by
  obtain⟨f1,f2,f3,f4,f5,f6,f7⟩:=isTur_facts h
  unfold spec_poInversions.f invV
  have hx:p.length*(p.length*43+2)≤8*(8*43+2):=Nat.mul_le_mul f3 (by omega)
  obtain⟨k',rfl⟩: ∃k',k=k'+p.length*(p.length*43+2)+1:=⟨k - p.length*(p.length*43+2) - 1,by omega⟩
  exact inv_l0 p w h k' p.length 0 0 (by omega) (by omega)
theorem poleInversions (p w:List Int) (h:isTur p w=true):impl_poleInversions.f p w=some (invV p w):=by
  obtain⟨f1,f2,f3,f4,f5,f6,f7⟩:=isTur_facts h
  unfold impl_poleInversions.f invV
  rw[if_pos (by omega),inv_g0 p w h _ _ _ (by omega) (by omega),invO_same p w h _ _ _ (by omega) (by omega)]
end Go.Proofs.Ytnagcjhgojchlaa.L
namespace Go.Proofs.Ytnagcjhgojchlaa.L
open Go.RowKit Go.Proofs.Ytnagcjhgojchlaa.Q Go.Proofs.YtnagcjhgojchlaaW.PrintWords Go.Proofs.YtnagcjhgojchlaaW.PrintLast
set_option linter.unusedVariables false
set_option linter.unusedSimpArgs false
theorem sum_set': ∀(l:List Int) (i:Nat) (v:Int),i<l.length→(l.set i v).sum=l.sum - l.getD i 0+v
  | [],i,v,h=>by simp at h
  |x::l,0,v,h=>by simp;omega
  |x::l,i+1,v,h=>by
    have:=sum_set' l i v (by simpa using h)
    simp only[List.set_cons_succ,List.sum_cons,List.getD_cons_succ]
    omega
theorem getD_set' (l:List Int) (i j:Nat) (v:Int) (h:i<l.length):(l.set i v).getD j 0=if i=j then v else l.getD j 0:=by
  simp only[List.getD_eq_getElem?_getD,List.getElem?_set]
  by_cases e:i=j
  · subst e;simp[h]
  · simp[e]
def nx (n r:Nat):Nat:=if r+1=n then 0 else r+1
def swp (l:List Int) (i j:Nat):List Int:=(l.set i (l.getD j 0)).set j (l.getD i 0)
def fixW (y:List Int) (r:Nat):List Int:=(y.set 0 (y.getD 0 0 - 1)).set r ((y.set 0 (y.getD 0 0 - 1)).getD r 0+1)
def topE (p:List Int) (r:Nat):List Int:=swp p r (nx p.length r)
def topW (w:List Int) (r:Nat):List Int:=if nx w.length r=0 then fixW (swp w r (nx w.length r)) r else swp w r (nx w.length r)
theorem swp_length (l:List Int) (i j:Nat):(swp l i j).length=l.length:=by simp[swp]
theorem topE_length (l:List Int) (r:Nat):(topE l r).length=l.length:=by simp[topE,swp]
theorem topW_length (l:List Int) (r:Nat):(topW l r).length=l.length:=by unfold topW;split<;>simp[fixW,swp]
theorem nx_lt (n r:Nat) (hn:3≤n) (hr:r<n):nx n r<n∧nx n r≠r:=by unfold nx;split<;>omega
theorem swp_get (l:List Int) (i j k:Nat) (hi:i<l.length) (hj:j<l.length):(swp l i j).getD k 0=if j=k then l.getD i 0 else if i=k then l.getD j 0 else l.getD k 0:=by
  unfold swp
  rw[getD_set' _ _ _ _ (by simpa using hj),getD_set' _ _ _ _ hi]
theorem topE_get (p:List Int) (r k:Nat) (hn:3≤p.length) (hr:r<p.length):(topE p r).getD k 0=if nx p.length r=k then p.getD r 0 else if r=k then p.getD (nx p.length r) 0 else p.getD k 0:=
  swp_get _ _ _ _ hr (nx_lt _ _ hn hr).1
theorem topW_get (w:List Int) (r k:Nat) (hn:3≤w.length) (hr:r<w.length):(topW w r).getD k 0=if nx w.length r=0 then(if 0=k then w.getD r 0 - 1 else if r=k then w.getD 0 0+1 else w.getD k 0)else(if nx w.length r=k then w.getD r 0 else if r=k then w.getD (nx w.length r) 0 else w.getD k 0):=by
  obtain⟨h1,h2⟩:=nx_lt w.length r hn hr
  unfold topW
  by_cases h:nx w.length r=0
  · rw[if_pos h,if_pos h]
    unfold fixW
    rw[getD_set' _ _ _ _ (by simp[swp];omega),getD_set' _ _ _ _ (by simp[swp];omega),getD_set' _ _ _ _ (by simp[swp];omega),swp_get _ _ _ _ hr h1,swp_get _ _ _ _ hr h1,swp_get _ _ _ _ hr h1,h]
    rw[if_pos rfl,if_neg (show¬0=r by omega),if_neg (show¬0=r by omega),if_pos rfl]
    by_cases k0:0=k
    · subst k0;rw[if_neg (by omega),if_pos rfl,if_pos rfl]
    · rw[if_neg k0,if_neg k0]
      by_cases kr:r=k
      · rw[if_pos kr,if_pos kr,if_neg k0]
      · rw[if_neg kr,if_neg kr,if_neg k0,if_neg kr]
  · rw[if_neg h,if_neg h,swp_get _ _ _ _ hr h1]
theorem fix_rd (l:List Int) (i:Nat):rd l (i:Int)=l.getD i 0:=by simp[rd]
theorem own (l:List Int) (h:l.length≤8):spec_l1Own.f l=some l:=by
  unfold spec_l1Own.f
  rw[Option.bind_some,if_pos (by simp;omega)];rfl
theorem nx_mod (n r:Nat) (hn:3≤n∧n≤8) (hr:r<n):Int.tmod (wrap64 ((r:Int)+1)) (n:Int)=((nx n r:Nat):Int):=by
  rw[wrap_id (by omega) (by omega),Int.tmod_eq_emod_of_nonneg (by omega)]
  unfold nx
  by_cases h:r+1=n
  · rw[if_pos h,show(r:Int)+1=(n:Int) by omega,Int.emod_self];rfl
  · rw[if_neg h,Int.emod_eq_of_lt (by omega) (by omega)];rfl
theorem wget (w:List Int) (hw: ∀x∈w,(-20:Int)≤x∧x≤20) (k:Nat): -20≤w.getD k 0∧w.getD k 0≤20:=by
  by_cases h:k<w.length
  · rw[List.getD_eq_getElem?_getD,List.getElem?_eq_getElem h];exact hw _ (List.getElem_mem h)
  · rw[List.getD_eq_getElem?_getD,List.getElem?_eq_none (by omega)];simp
theorem poTop_at (p w:List Int) (h:isTur p w=true) (r:Nat) (hr:r<p.length):spec_poTop.f p w (r:Int)=some (topE p r,topW w r):=by
  obtain⟨f1,f2,f3,f4,f5,f6,f7⟩:=isTur_facts h
  obtain⟨h1,h2⟩:=nx_lt p.length r f2 hr
  unfold spec_poTop.f
  rw[own p f3,Option.bind_some,own w (by omega),Option.bind_some,nx_mod p.length r ⟨f2,f3⟩ hr]
  rw[if_neg (by omega),if_pos (by omega),if_pos (by omega),if_pos (by omega),if_pos (by omega),if_pos (by omega),if_pos (by omega),Option.bind_some,if_pos (by omega),if_pos (by omega),if_pos (by omega),if_pos (by omega),Option.bind_some]
  simp only[Int.toNat_natCast,fix_rd]
  unfold topE topW
  rw[f4]
  by_cases hz:nx p.length r=0
  · rw[if_pos (by omega),if_pos hz,if_pos (by omega),Option.bind_some]
    have g0:=wget w f6 r
    have g1:=wget w f6 (nx p.length r)
    have e0:rd ((w.set r (w.getD (nx p.length r) 0)).set (nx p.length r) (w.getD r 0)) 0=(swp w r (nx p.length r)).getD 0 0:=rfl
    have e1:(swp w r (nx p.length r)).getD 0 0=w.getD r 0:=by rw[swp_get _ _ _ _ (by omega) (by omega),if_pos hz]
    have e2:((swp w r (nx p.length r)).set 0 (w.getD r 0 - 1)).getD r 0=w.getD (nx p.length r) 0:=by
      rw[getD_set' _ _ _ _ (by rw[swp_length];omega),if_neg (by omega),swp_get _ _ _ _ (by omega) (by omega),if_neg (by omega),if_pos rfl]
    rw[e0,e1,wrap_id (n:=w.getD r 0 - 1) (by omega) (by omega)]
    rw[show(w.set r (w.getD (nx p.length r) 0)).set (nx p.length r) (w.getD r 0)=swp w r (nx p.length r)from rfl,show Int.toNat 0=0 from rfl,e2,wrap_id (by omega) (by omega)]
    unfold fixW
    rw[e1,e2]
    rfl
  · rw[if_neg (by omega),if_neg hz]
    rfl
def sw (n r:Nat) (j:Int):Int:=if j%(n:Int)=(r:Int)then j+1 else if j%(n:Int)=((nx n r:Nat):Int)then j - 1 else j
theorem nm (n:Nat) (hn:3≤n∧n≤8) (j:Int):0≤j%(n:Int)∧j%(n:Int)<n:=⟨Int.emod_nonneg _ (by omega),Int.emod_lt_of_pos _ (by omega)⟩
theorem mod_succ (n:Nat) (hn:3≤n∧n≤8) (j:Int):(j+1)%(n:Int)=if j%(n:Int)+1=n then 0 else j%(n:Int)+1:=by
  have hc:n=3∨n=4∨n=5∨n=6∨n=7∨n=8:=by omega
  rcases hc with rfl|rfl|rfl|rfl|rfl|rfl<;>split<;>omega
theorem mod_pred (n:Nat) (hn:3≤n∧n≤8) (j:Int):(j - 1)%(n:Int)=if j%(n:Int)=0 then(n:Int) - 1 else j%(n:Int) - 1:=by
  have hc:n=3∨n=4∨n=5∨n=6∨n=7∨n=8:=by omega
  rcases hc with rfl|rfl|rfl|rfl|rfl|rfl<;>split<;>omega
theorem place_top (p w:List Int) (h:isTur p w=true) (r:Nat) (hr:r<p.length) (j:Int):placeV (topE p r) (topW w r) j=placeV p w (sw p.length r j):=by
  obtain⟨f1,f2,f3,f4,f5,f6,f7⟩:=isTur_facts h
  obtain⟨h1,h2⟩:=nx_lt p.length r f2 hr
  obtain⟨m0,m1⟩:=nm p.length ⟨f2,f3⟩ j
  obtain⟨m,hm⟩: ∃m:Nat,j%(p.length:Int)=m:=⟨(j%(p.length:Int)).toNat,by omega⟩
  have ms:=mod_succ p.length ⟨f2,f3⟩ j
  have mp:=mod_pred p.length ⟨f2,f3⟩ j
  unfold placeV
  rw[topE_length,hm,fix_rd,fix_rd,topE_get p r m f2 hr,topW_get w r m (by omega) (by omega),f4]
  unfold sw
  rw[hm]
  by_cases c1:m=r
  · subst c1
    rw[if_pos rfl,if_neg h2]
    by_cases c2:m+1=p.length
    · have e:nx p.length m=0:=by unfold nx;rw[if_pos c2]
      rw[e,if_pos rfl,if_pos rfl,if_neg (by omega),if_pos rfl]
      rw[show(j+1)%(p.length:Int)=((0:Nat):Int) by rw[ms,hm,if_pos (by omega)];rfl,fix_rd,fix_rd,Int.mul_add]
      omega
    · have e:nx p.length m=m+1:=by unfold nx;rw[if_neg c2]
      rw[e,if_pos rfl,if_neg (by omega),if_neg (by omega),if_pos rfl,if_pos rfl]
      rw[show(j+1)%(p.length:Int)=((m+1:Nat):Int) by rw[ms,hm,if_neg (by omega)];rfl,fix_rd,fix_rd]
      omega
  · rw[if_neg (show¬(m:Int)=(r:Int) by omega),if_neg (show¬r=m by omega)]
    by_cases c3:nx p.length r=m
    · rw[if_pos c3,if_pos (show(m:Int)=((nx p.length r:Nat):Int) by omega)]
      by_cases c2:r+1=p.length
      · have e:nx p.length r=0:=by unfold nx;rw[if_pos c2]
        rw[if_pos e,if_pos (by omega)]
        rw[show(j - 1)%(p.length:Int)=((r:Nat):Int) by rw[mp,hm,if_pos (by omega)];omega,fix_rd,fix_rd,Int.mul_sub]
        omega
      · have e:nx p.length r=r+1:=by unfold nx;rw[if_neg c2]
        rw[if_neg (by omega),if_pos c3]
        rw[show(j - 1)%(p.length:Int)=((r:Nat):Int) by rw[mp,hm,if_neg (by omega)];omega,fix_rd,fix_rd]
        omega
    · rw[if_neg c3,if_neg (show¬(m:Int)=((nx p.length r:Nat):Int) by omega),hm,fix_rd,fix_rd]
      by_cases e:nx p.length r=0
      · rw[if_pos e,if_neg (by omega),if_neg (by omega)]
      · rw[if_neg e,if_neg c3,if_neg (by omega)]
theorem ordGo_iff (n:Int): ∀(l seen:List Int),ordGo n seen l=true↔(∀x∈l,0≤x∧x≤n - 1)∧l.Nodup∧ ∀x∈l,x ∉ seen
  | [],seen=>by simp[ordGo]
  |x::l,seen=>by
    rw[ordGo]
    simp only[Bool.and_eq_true,decide_eq_true_eq,Bool.not_eq_true',decide_eq_false_iff_not,ordGo_iff n l (seen++ [x]),List.mem_cons,List.nodup_cons,List.mem_append,List.mem_singleton]
    constructor
    · rintro⟨⟨h1,h2⟩,h3,h4,h5⟩
      refine⟨?_,⟨fun hx=>h5 x hx (Or.inr (Or.inl rfl)),h4⟩, ?_⟩
      · rintro y (rfl|hy)
        · exact h1
        · exact h3 y hy
      · rintro y (rfl|hy)
        · exact h2
        · exact fun hs=>h5 y hy (Or.inl hs)
    · rintro⟨h1,⟨h2,h3⟩,h4⟩
      refine⟨⟨h1 x (Or.inl rfl),h4 x (Or.inl rfl)⟩,fun y hy=>h1 y (Or.inr hy),h3, ?_⟩
      rintro y hy (hs|rfl|hs)
      · exact h4 y (Or.inr hy) hs
      · exact h2 hy
      · cases hs
theorem swp_perm (l:List Int) (i j:Nat) (hi:i<l.length) (hj:j<l.length):(swp l i j).Perm l:=by
  unfold swp
  rw[List.getD_eq_getElem?_getD,List.getElem?_eq_getElem hj,List.getD_eq_getElem?_getD,List.getElem?_eq_getElem hi]
  exact List.set_set_perm hi hj
theorem topE_ord (p:List Int) (h:isOrd p=true) (hn:3≤p.length) (r:Nat) (hr:r<p.length):isOrd (topE p r)=true:=by
  have hp:=swp_perm p r (nx p.length r) hr (nx_lt _ _ hn hr).1
  unfold isOrd at h ⊢
  rw[topE_length]
  simp only[Bool.and_eq_true,decide_eq_true_eq]at h ⊢
  refine⟨h.1, ?_⟩
  rw[ordGo_iff]at h ⊢
  obtain⟨_,h1,h2,h3⟩:=h
  exact⟨fun x hx=>h1 x (hp.mem_iff.1 hx),hp.nodup_iff.2 h2,by simp⟩
theorem isTur_mk {p w:List Int} (h1:isOrd p=true) (h2:3≤p.length) (h3:w.length=p.length) (h4: ∀x∈w,(-20:Int)≤x∧x≤20) (h5:w.sum=0):isTur p w=true:=by
  unfold isTur
  simp only[Bool.and_eq_true,decide_eq_true_eq,List.all_eq_true]
  exact⟨⟨⟨⟨h1,h2⟩,h3⟩,h4⟩,h5⟩
theorem pget (p:List Int) (hw: ∀x∈p,0≤x∧x≤(p.length:Int) - 1) (k:Nat) (hk:k<p.length):0≤p.getD k 0∧p.getD k 0≤(p.length:Int) - 1:=by
  rw[List.getD_eq_getElem?_getD,List.getElem?_eq_getElem hk];exact hw _ (List.getElem_mem hk)
theorem topW_sum (w:List Int) (r:Nat) (hn:3≤w.length) (hr:r<w.length):(topW w r).sum=w.sum:=by
  obtain⟨h1,h2⟩:=nx_lt w.length r hn hr
  have hs:(swp w r (nx w.length r)).sum=w.sum:=by
    unfold swp
    rw[sum_set' _ _ _ (by simpa using h1),sum_set' _ _ _ hr,getD_set' _ _ _ _ hr,if_neg (by omega)]
    omega
  unfold topW
  by_cases h:nx w.length r=0
  · rw[if_pos h]
    unfold fixW
    rw[sum_set' _ _ _ (by simp[swp];omega),sum_set' _ _ _ (by simp[swp];omega),hs]
    omega
  · rw[if_neg h,hs]
theorem top_tur (p w:List Int) (h:isTur p w=true) (r:Nat) (hr:r<p.length) (hd:placeV p w ((r:Int)+1)<placeV p w (r:Int)):isTur (topE p r) (topW w r)=true:=by
  obtain⟨f1,f2,f3,f4,f5,f6,f7⟩:=isTur_facts h
  obtain⟨h1,h2⟩:=nx_lt p.length r f2 hr
  refine isTur_mk (topE_ord p f1 f2 r hr) (by rw[topE_length];exact f2) (by rw[topE_length,topW_length,f4]) ?_ (by rw[topW_sum w r (by omega) (by omega),f7])
  have key: ∀k,-20≤(topW w r).getD k 0∧(topW w r).getD k 0≤20:=by
    intro k
    rw[topW_get w r k (by omega) (by omega),f4]
    have a:=wget w f6 r
    have b:=wget w f6 k
    have c:=wget w f6 (nx p.length r)
    have d:=wget w f6 0
    by_cases e:nx p.length r=0
    · rw[if_pos e]
      have hrn:r+1=p.length:=by unfold nx at e;split at e<;>omega
      have em:((r:Int)+1)%(p.length:Int)=((0:Nat):Int):=by rw[show(r:Int)+1=(p.length:Int) by omega,Int.emod_self];rfl
      have a4:((r:Int))%(p.length:Int)=((r:Nat):Int):=Int.emod_eq_of_lt (by omega) (by omega)
      unfold placeV at hd
      rw[em,a4,fix_rd,fix_rd,fix_rd,fix_rd]at hd
      have q1:=pget p f5 r hr
      have q2:=pget p f5 0 (by omega)
      have a5:w.getD 0 0+1≤w.getD r 0:=by
        have hc:p.length=3∨p.length=4∨p.length=5∨p.length=6∨p.length=7∨p.length=8:=by omega
        rcases hc with hc|hc|hc|hc|hc|hc<;>rw[hc]at hd q1 q2 hrn<;>omega
      split
      · omega
      · split<;>omega
    · rw[if_neg e]
      split
      · exact a
      · split
        · exact c
        · exact b
  intro x hx
  obtain⟨k,hk,rfl⟩:=List.mem_iff_getElem.1 hx
  have:=key k
  rwa [List.getD_eq_getElem?_getD,List.getElem?_eq_getElem hk]at this
def cn (F:Int→Int) (v:Int):Nat→Int→Int
  |0,_ =>0
  |d+1,j=>(if F j<v then 1 else 0)+cn F v d (j+1)
theorem cn_snoc (F:Int→Int) (v:Int): ∀(d:Nat) (j:Int),cn F v (d+1) j=cn F v d j+(if F (j+d)<v then 1 else 0)
  |0,j=>by simp[cn]
  |d+1,j=>by
    rw[cn,cn_snoc F v d (j+1),cn]
    rw[show j+1+(d:Int)=j+((d+1:Nat):Int) by omega]
    omega
theorem cn_range (F:Int→Int) (v:Int): ∀(d:Nat) (j:Int),0≤cn F v d j∧cn F v d j≤d
  |0,j=>by simp[cn]
  |d+1,j=>by
    have:=cn_range F v d (j+1)
    rw[cn]
    split<;>omega
theorem cn_shift (F:Int→Int) (v t:Int) (hF: ∀j,F (j+t)=F j+t): ∀(d:Nat) (j:Int),cn F (v+t) d (j+t)=cn F v d j
  |0,_ =>rfl
  |d+1,j=>by
    rw[cn,cn,hF,show j+t+1=j+1+t by omega,cn_shift F v t hF d (j+1)]
    congr 1
    by_cases h:F j<v
    · rw[if_pos h,if_pos (by omega)]
    · rw[if_neg h,if_neg (by omega)]
theorem cn_sw (F:Int→Int) (v:Int) (n r:Nat) (hn:3≤n∧n≤8) (hr:r<n): ∀(m d:Nat) (a:Int),d≤m→(a - 1)%(n:Int)≠(r:Int)→(a+d - 1)%(n:Int)≠(r:Int)→cn (fun j=>F (sw n r j)) v d a=cn F v d a
  |m,0,a,_,_,_ =>rfl
  |0,d+1,a,h,_,_ =>by omega
  |m+1,d+1,a,h,h1,h2=>by
    obtain⟨k1,k2⟩:=nx_lt n r hn.1 hr
    have ms:=mod_succ n hn (a - 1)
    rw[show a - 1+1=a by omega]at ms
    obtain⟨m0,m1⟩:=nm n hn (a - 1)
    by_cases c:a%(n:Int)=(r:Int)
    · cases d with
      |zero=>exact absurd c (by rw[show a=a+((0+1:Nat):Int) - 1 by omega];exact h2)
      |succ d=>
        have a4:=mod_succ n hn a
        have e1:(a+1)%(n:Int)=((nx n r:Nat):Int):=by
          rw[a4,c];unfold nx;split<;>split<;>omega
        have ih:=cn_sw F v n r hn hr m d (a+1+1) (by omega) (by rw[show a+1+1 - 1=a+1 by omega,e1];omega) (by rw[show a+1+1+(d:Int) - 1=a+((d+1+1:Nat):Int) - 1 by omega];exact h2)
        rw[cn,cn,cn,cn,ih]
        have s1:sw n r a=a+1:=by unfold sw;rw[if_pos c]
        have s2:sw n r (a+1)=a:=by unfold sw;rw[if_neg (by omega),if_pos e1];omega
        rw[s1,s2]
        omega
    · have c2:a%(n:Int)≠((nx n r:Nat):Int):=by
        intro e
        apply h1
        rw[e]at ms
        unfold nx at ms k2
        split at ms<;>split at ms<;>omega
      have ih:=cn_sw F v n r hn hr m d (a+1) (by omega) (by rw[show a+1 - 1=a by omega];exact c) (by rw[show a+1+(d:Int) - 1=a+((d+1:Nat):Int) - 1 by omega];exact h2)
      rw[cn,cn,ih]
      have s1:sw n r a=a:=by unfold sw;rw[if_neg c,if_neg c2]
      rw[s1]
def sm (g:Nat→Int):Nat→Nat→Int
  |0,_ =>0
  |d+1,i=>g i+sm g d (i+1)
theorem sm_swap (n r:Nat) (hn:3≤n∧n≤8) (hr:r<n) (g g':Nat→Int) (H: ∀i,i<n→g' i=if i=r then g (nx n r)else if i=nx n r then g r - 1 else g i):sm g' n 0=sm g n 0 - 1:=by
  have hc:n=3∨n=4∨n=5∨n=6∨n=7∨n=8:=by omega
  rcases hc with rfl|rfl|rfl|rfl|rfl|rfl
  · simp only[sm,Nat.zero_add,Nat.reduceAdd]
    rw[H 0 (by decide),H 1 (by decide),H 2 (by decide)]
    have hc:r=0∨r=1∨r=2:=by omega
    rcases hc with rfl|rfl|rfl<;>simp[nx]<;>omega
  · simp only[sm,Nat.zero_add,Nat.reduceAdd]
    rw[H 0 (by decide),H 1 (by decide),H 2 (by decide),H 3 (by decide)]
    have hc:r=0∨r=1∨r=2∨r=3:=by omega
    rcases hc with rfl|rfl|rfl|rfl<;>simp[nx]<;>omega
  · simp only[sm,Nat.zero_add,Nat.reduceAdd]
    rw[H 0 (by decide),H 1 (by decide),H 2 (by decide),H 3 (by decide),H 4 (by decide)]
    have hc:r=0∨r=1∨r=2∨r=3∨r=4:=by omega
    rcases hc with rfl|rfl|rfl|rfl|rfl<;>simp[nx]<;>omega
  · simp only[sm,Nat.zero_add,Nat.reduceAdd]
    rw[H 0 (by decide),H 1 (by decide),H 2 (by decide),H 3 (by decide),H 4 (by decide),H 5 (by decide)]
    have hc:r=0∨r=1∨r=2∨r=3∨r=4∨r=5:=by omega
    rcases hc with rfl|rfl|rfl|rfl|rfl|rfl<;>simp[nx]<;>omega
  · simp only[sm,Nat.zero_add,Nat.reduceAdd]
    rw[H 0 (by decide),H 1 (by decide),H 2 (by decide),H 3 (by decide),H 4 (by decide),H 5 (by decide),H 6 (by decide)]
    have hc:r=0∨r=1∨r=2∨r=3∨r=4∨r=5∨r=6:=by omega
    rcases hc with rfl|rfl|rfl|rfl|rfl|rfl|rfl<;>simp[nx]<;>omega
  · simp only[sm,Nat.zero_add,Nat.reduceAdd]
    rw[H 0 (by decide),H 1 (by decide),H 2 (by decide),H 3 (by decide),H 4 (by decide),H 5 (by decide),H 6 (by decide),H 7 (by decide)]
    have hc:r=0∨r=1∨r=2∨r=3∨r=4∨r=5∨r=6∨r=7:=by omega
    rcases hc with rfl|rfl|rfl|rfl|rfl|rfl|rfl|rfl<;>simp[nx]<;>omega
theorem invC_cn (p w:List Int) (i:Int): ∀(d:Nat) (j m:Int),0≤m→m+d≤1000000→invC p w i d j m=m+cn (placeV p w) (placeV p w i) d j
  |0,j,m,_,_ =>by simp[invC,cn]
  |d+1,j,m,h1,h2=>by
    rw[invC,cn]
    by_cases c:placeV p w j<placeV p w i
    · rw[if_pos c,if_pos c,wrap_id (by omega) (by omega),invC_cn p w i d (j+1) (m+1) (by omega) (by omega)];omega
    · rw[if_neg c,if_neg c,invC_cn p w i d (j+1) m (by omega) (by omega)];omega
def cI (F:Int→Int) (M:Nat) (i:Nat):Int:=cn F (F (i:Int)) M ((i:Int)+1)
theorem invO_sm (p w:List Int) (M:Nat) (hM:M≤1000): ∀(d i:Nat) (m:Int),0≤m→m+d*1000≤100000→invO p w M d (i:Int) m=m+sm (cI (placeV p w) M) d i
  |0,i,m,_,_ =>by simp[invO,sm]
  |d+1,i,m,h1,h2=>by
    have hr:=cn_range (placeV p w) (placeV p w (i:Int)) M ((i:Int)+1)
    rw[invO,sm,invC_cn p w i M _ m h1 (by omega)]
    rw[show(i:Int)+1=((i+1:Nat):Int) by omega]at hr ⊢
    rw[invO_sm p w M hM d (i+1) _ (by omega) (by omega)]
    unfold cI
    rw[show((i+1:Nat):Int)=(i:Int)+1 by omega]
    omega
theorem inv_sm (p w:List Int) (h:isTur p w=true):invV p w=sm (cI (placeV p w) (p.length*43)) p.length 0:=by
  obtain⟨f1,f2,f3,f4,f5,f6,f7⟩:=isTur_facts h
  unfold invV
  have:=invO_sm p w (p.length*43) (by omega) p.length 0 0 (by omega) (by omega)
  rw[show((0:Nat):Int)=0 from rfl]at this
  rw[this];omega
theorem place_shift (p w:List Int) (j:Int):placeV p w (j+(p.length:Int))=placeV p w j+(p.length:Int):=by
  unfold placeV
  rw[Int.add_emod_right];omega
theorem inv_top (p w:List Int) (h:isTur p w=true) (r:Nat) (hr:r<p.length) (hd:placeV p w ((r:Int)+1)<placeV p w (r:Int)):invV (topE p r) (topW w r)=invV p w - 1:=by
  obtain⟨f1,f2,f3,f4,f5,f6,f7⟩:=isTur_facts h
  obtain⟨h1,h2⟩:=nx_lt p.length r f2 hr
  rw[inv_sm p w h,inv_sm _ _ (top_tur p w h r hr hd),topE_length,show placeV (topE p r) (topW w r)=fun j=>placeV p w (sw p.length r j)from funext fun j=>place_top p w h r hr j]
  refine sm_swap p.length r ⟨f2,f3⟩ hr _ _ fun i hi=> ?_
  have hb: ∀j:Int,-100≤j→j≤100000→j - 21*(p.length:Int)<placeV p w j∧placeV p w j<j+21*(p.length:Int):=fun j a b=>(place_at p w h j (by omega)).2
  have hsh:=place_shift p w
  have hM: ∀x:Int,(x+((p.length*43:Nat):Int))%(p.length:Int)=x%(p.length:Int):=fun x=>by
    rw[Int.natCast_mul,Int.add_mul_emod_self_left]
  have hsmall: ∀x:Nat,x<p.length→(x:Int)%(p.length:Int)=(x:Int):=fun x hx=>Int.emod_eq_of_lt (by omega) (by omega)
  have hmr:((r:Int)+1)%(p.length:Int)=((nx p.length r:Nat):Int):=by
    rw[mod_succ p.length ⟨f2,f3⟩,hsmall r hr];unfold nx;split<;>split<;>omega
  have hswn: ∀x:Int,x%(p.length:Int)=((nx p.length r:Nat):Int)→sw p.length r x=x - 1:=fun x hx=>by
    unfold sw;rw[if_neg (by omega),if_pos hx]
  have hswr: ∀x:Int,x%(p.length:Int)=(r:Int)→sw p.length r x=x+1:=fun x hx=>by
    unfold sw;rw[if_pos hx]
  obtain⟨M',hM'⟩: ∃M',p.length*43=M'+1:=⟨p.length*43 - 1,by omega⟩
  have per:cI (placeV p w) (p.length*43) p.length=cI (placeV p w) (p.length*43) 0:=by
    unfold cI
    have a:=cn_shift (placeV p w) (placeV p w 0) (p.length:Int) hsh (p.length*43) 1
    have b:=hsh 0
    rw[Int.zero_add]at b
    rw[←b,show(1:Int)+(p.length:Int)=(p.length:Int)+1 by omega]at a
    rw[a];rfl
  by_cases c1:i=r
  · rw[if_pos c1]
    subst c1
    have e0:cI (placeV p w) (p.length*43) (nx p.length i)=cn (placeV p w) (placeV p w ((i:Int)+1)) (p.length*43) ((i:Int)+1+1):=by
      by_cases q:i+1=p.length
      · have e:nx p.length i=0:=by unfold nx;rw[if_pos q]
        rw[e,←per];unfold cI
        rw[show(p.length:Int)=(i:Int)+1 by omega]
      · have e:nx p.length i=i+1:=by unfold nx;rw[if_neg q]
        rw[e];rfl
    rw[e0]
    unfold cI
    show cn (fun j=>placeV p w (sw p.length i j)) (placeV p w (sw p.length i (i:Int))) (p.length*43) ((i:Int)+1)= _
    rw[hswr (i:Int) (hsmall i hr)]
    have s1:=cn_sw (placeV p w) (placeV p w ((i:Int)+1)) p.length i ⟨f2,f3⟩ hr (p.length*43) (p.length*43) ((i:Int)+1+1) (Nat.le_refl _) (by rw[show(i:Int)+1+1 - 1=(i:Int)+1 by omega,hmr];omega) (by rw[show(i:Int)+1+1+((p.length*43:Nat):Int) - 1=(i:Int)+1+((p.length*43:Nat):Int) by omega,hM,hmr];omega)
    rw[←s1]
    have s2:=hswn ((i:Int)+1) hmr
    have s3:=hswn ((i:Int)+1+((p.length*43:Nat):Int)) (by rw[hM,hmr])
    have b1:=hb ((i:Int)+1) (by omega) (by omega)
    have b2:=hb ((i:Int)+1+((p.length*43:Nat):Int) - 1) (by omega) (by omega)
    rw[hM']at s3 b2 ⊢
    rw[cn,cn_snoc]
    rw[show(i:Int)+1+1+(M':Int)=(i:Int)+1+((M'+1:Nat):Int) by omega,s2,s3,if_neg (by rw[show(i:Int)+1 - 1=(i:Int) by omega];omega),if_neg (by omega)]
    omega
  · rw[if_neg c1]
    by_cases c2:i=nx p.length r
    · rw[if_pos c2]
      have a4:(i:Int)%(p.length:Int)=((nx p.length r:Nat):Int):=by rw[hsmall i hi,c2]
      have e0:cI (placeV p w) (p.length*43) r=cn (placeV p w) (placeV p w ((i:Int) - 1)) (p.length*43) (i:Int)∧placeV p w (i:Int)<placeV p w ((i:Int) - 1):=by
        by_cases q:r+1=p.length
        · have e:nx p.length r=0:=by unfold nx;rw[if_pos q]
          have b:=hsh (-1)
          have b0:=hsh 0
          have a:=cn_shift (placeV p w) (placeV p w (-1)) (p.length:Int) hsh (p.length*43) 0
          have er:(-1:Int)+(p.length:Int)=(r:Int):=by omega
          rw[er]at b
          rw[Int.zero_add]at b0 a
          rw[c2,e]
          refine⟨?_, ?_⟩
          · unfold cI
            rw[show(r:Int)+1=(p.length:Int) by omega,b,a];rfl
          · rw[show(r:Int)+1=(p.length:Int) by omega,b0,b]at hd
            rw[show(((0:Nat):Int) - 1)= -1 from rfl,show((0:Nat):Int)=0 from rfl]
            omega
        · have e:nx p.length r=r+1:=by unfold nx;rw[if_neg q]
          rw[c2,e]
          refine⟨?_, ?_⟩
          · unfold cI
            rw[show((r+1:Nat):Int) - 1=(r:Int) by omega,show((r+1:Nat):Int)=(r:Int)+1 by omega]
          · rw[show((r+1:Nat):Int) - 1=(r:Int) by omega,show((r+1:Nat):Int)=(r:Int)+1 by omega];exact hd
      rw[e0.1]
      unfold cI
      show cn (fun j=>placeV p w (sw p.length r j)) (placeV p w (sw p.length r (i:Int))) (p.length*43) ((i:Int)+1)= _
      rw[hswn (i:Int) a4]
      rw[cn_sw (placeV p w) (placeV p w ((i:Int) - 1)) p.length r ⟨f2,f3⟩ hr (p.length*43) (p.length*43) ((i:Int)+1) (Nat.le_refl _) (by rw[show(i:Int)+1 - 1=(i:Int) by omega,a4];omega) (by rw[show(i:Int)+1+((p.length*43:Nat):Int) - 1=(i:Int)+((p.length*43:Nat):Int) by omega,hM,a4];omega)]
      have b1:=hb ((i:Int) - 1) (by omega) (by omega)
      have b2:=hb ((i:Int)+((p.length*43:Nat):Int)) (by omega) (by omega)
      rw[hM']at b2 ⊢
      rw[cn_snoc,cn,if_pos e0.2,show(i:Int)+1+(M':Int)=(i:Int)+((M'+1:Nat):Int) by omega,if_neg (by omega)]
      omega
    · rw[if_neg c2]
      unfold cI
      have s:sw p.length r (i:Int)=(i:Int):=by unfold sw;rw[hsmall i hi,if_neg (by omega),if_neg (by omega)]
      show cn (fun j=>placeV p w (sw p.length r j)) (placeV p w (sw p.length r (i:Int))) (p.length*43) ((i:Int)+1)= _
      rw[s]
      exact cn_sw (placeV p w) _ p.length r ⟨f2,f3⟩ hr (p.length*43) (p.length*43) ((i:Int)+1) (Nat.le_refl _) (by rw[show(i:Int)+1 - 1=(i:Int) by omega,hsmall i hi];omega) (by rw[show(i:Int)+1+((p.length*43:Nat):Int) - 1=(i:Int)+((p.length*43:Nat):Int) by omega,hM,hsmall i hi];omega)
def desc (p w:List Int):Nat→Int→List Int→List Int
  |0,_,acc=>acc
  |d+1,i,acc=>desc p w d (i+1) (if placeV p w (i+1)<placeV p w i then acc++ [i]else acc)
theorem desc_length (p w:List Int): ∀(d:Nat) (i:Int) (acc:List Int),(desc p w d i acc).length≤acc.length+d
  |0,_,_ =>Nat.le_refl _
  |d+1,i,acc=>by
    simp only[desc]
    have:=desc_length p w d (i+1) (if placeV p w (i+1)<placeV p w i then acc++ [i]else acc)
    split at this
    · rename_i hc;rw[if_pos hc];simp at this;omega
    · rename_i hc;rw[if_neg hc];omega
theorem desc_g (p w:List Int) (h:isTur p w=true): ∀(d:Nat) (i:Int) (acc:List Int),0≤i→i+d≤100→impl_poleDescents.g p w d i acc=some (desc p w d i acc)
  |0,_,_,_,_ =>rfl
  |d+1,i,acc,hi,hd=>by
    simp only[impl_poleDescents.g,desc]
    rw[place_same,place_same,(place_at p w h i (by omega)).1,(place_at p w h (i+1) (by omega)).1,Option.bind_some,Option.bind_some]
    exact desc_g p w h d (i+1) _ (by omega) (by omega)
theorem desc_l0 (p w:List Int) (h:isTur p w=true): ∀(d k:Nat) (i:Int) (acc:List Int),0≤i→i+d=(p.length:Int)→acc.length≤i→d<k→spec_poDescents.l0 k acc (p.length:Int) i p w=some (desc p w d i acc)
  |0,k,i,acc,h0,hi,ha,hk=>by
    obtain⟨k,rfl⟩: ∃m,k=m+1:=⟨k - 1,by omega⟩
    simp only[spec_poDescents.l0,desc]
    rw[if_neg (by omega)]
  |d+1,k,i,acc,h0,hi,ha,hk=>by
    obtain⟨f1,f2,f3,f4,f5,f6,f7⟩:=isTur_facts h
    obtain⟨k,rfl⟩: ∃m,k=m+1:=⟨k - 1,by omega⟩
    simp only[spec_poDescents.l0,desc]
    rw[if_pos (by omega),wrap_id (by omega) (by omega),(place_at p w h i (by omega)).1,(place_at p w h (i+1) (by omega)).1,Option.bind_some,Option.bind_some]
    by_cases hc:placeV p w (i+1)<placeV p w i
    · rw[if_pos hc,if_pos hc,if_pos (by omega)]
      exact desc_l0 p w h d k (i+1) _ (by omega) (by omega) (by simp;omega) (by omega)
    · rw[if_neg hc,if_neg hc]
      exact desc_l0 p w h d k (i+1) _ (by omega) (by omega) (by omega) (by omega)
def descV (p w:List Int):List Int:=desc p w p.length 0 []
theorem poDescents (p w:List Int) (h:isTur p w=true) (k:Nat) (hk:20≤k):spec_poDescents.f k p w=some (descV p w):=by
  obtain⟨f1,f2,f3,f4,f5,f6,f7⟩:=isTur_facts h
  exact desc_l0 p w h p.length k 0 [] (by omega) (by omega) (by simp) (by omega)
theorem poleDescents (p w:List Int) (h:isTur p w=true):impl_poleDescents.f p w=some (descV p w):=by
  obtain⟨f1,f2,f3,f4,f5,f6,f7⟩:=isTur_facts h
  unfold impl_poleDescents.f descV
  rw[if_pos (by omega),desc_g p w h _ _ _ (by omega) (by omega)]
theorem desc_mem (p w:List Int): ∀(d:Nat) (i:Int) (acc:List Int) (x:Int),x∈desc p w d i acc→x∈acc∨(i≤x∧x<i+d∧placeV p w (x+1)<placeV p w x)
  |0,_,acc,x,h=>Or.inl h
  |d+1,i,acc,x,h=>by
    rw[desc]at h
    rcases desc_mem p w d (i+1) _ x h with h1|h1
    · split at h1
      · next c=>
        rcases List.mem_append.1 h1 with h2|h2
        · exact Or.inl h2
        · have:=List.mem_singleton.1 h2
          subst this
          exact Or.inr ⟨by omega,by omega,c⟩
      · exact Or.inl h1
    · exact Or.inr ⟨by omega,by omega,h1.2.2⟩
theorem eq_vals (l:List Int) (f:Int→Int) (n:Nat) (hl:l.length=n) (h: ∀j:Nat,j<n→l.getD j 0=f (j:Int)):l=vals f n 0:=by
  refine List.ext_getElem? fun j=> ?_
  by_cases c:j<n
  · rw[vals_get f n 0 j c,Int.zero_add,←h j c,List.getD_eq_getElem?_getD,List.getElem?_eq_getElem (by omega)];rfl
  · rw[List.getElem?_eq_none (by omega),List.getElem?_eq_none (by rw[vals_length];omega)]
theorem then_l0 (e f p w:List Int) (he: ∀j:Nat,j<e.length→0≤e.getD j 0∧e.getD j 0<(p.length:Int)) (hf:f.length=e.length) (hw:w.length=p.length) (hb: ∀j,-1≤f.getD j 0∧f.getD j 0≤1) (hwb: ∀k,-20≤w.getD k 0∧w.getD k 0≤20) (hn:e.length≤8): ∀(d i k:Nat) (a b:List Int),i+d=e.length→d<k→a.length≤i→b.length≤i→
    impl_thenTurned.l0 k e (e.length:Int) (i:Int) e f p w a b=some (a++vals (fun j=>rd p (rd e j)) d (i:Int),b++vals (fun j=>rd f j+rd w (rd e j)) d (i:Int))
  |0,i,k,a,b,h,hk,ha,hb'=>by
    obtain⟨k,rfl⟩: ∃m,k=m+1:=⟨k - 1,by omega⟩
    simp only[impl_thenTurned.l0,vals,List.append_nil]
    rw[if_neg (by omega)]
  |d+1,i,k,a,b,h,hk,ha,hb'=>by
    obtain⟨k,rfl⟩: ∃m,k=m+1:=⟨k - 1,by omega⟩
    have h1:=he i (by omega)
    have h2:=hb i
    obtain⟨q,hq⟩: ∃q:Nat,e.getD i 0=q:=⟨(e.getD i 0).toNat,by omega⟩
    have h3:=hwb q
    have ih:=then_l0 e f p w he hf hw hb hwb hn d (i+1) k (a++ [rd p (rd e (i:Int))]) (b++ [rd f (i:Int)+rd w (rd e (i:Int))]) (by omega) (by omega) (by simp;omega) (by simp;omega)
    simp only[impl_thenTurned.l0]
    rw[if_pos (by omega),if_pos (by omega),if_pos (by omega),show rd e (i:Int)=(q:Int) by rw[fix_rd,hq],if_pos (by omega),if_pos (by omega),Option.bind_some,if_pos (by simp;omega),if_pos (by omega),if_pos (by omega),Option.bind_some,if_pos (by simp;omega)]
    rw[show rd e (i:Int)=(q:Int) by rw[fix_rd,hq]]at ih
    rw[wrap_id (n:=rd f (i:Int)+rd w (q:Int)) (by rw[fix_rd,fix_rd];omega) (by rw[fix_rd,fix_rd];omega),wrap_id (n:=(i:Int)+1) (by omega) (by omega)]
    rw[vals,vals,show rd e (i:Int)=(q:Int) by rw[fix_rd,hq]]
    rw[show((i:Int)+1)=((i+1:Nat):Int) by omega,ih]
    simp
theorem res_facts: ∀m∈List.range 6,∀r∈List.range (m+3),∀j∈List.range (m+3),(resE (((m+3:Nat):Int)) [((r:Nat):Int)]).getD j 0=(if j=r then((nx (m+3) r:Nat):Int)else if j=nx (m+3) r then(r:Int)else(j:Int))∧
    (resW (((m+3:Nat):Int)) [((r:Nat):Int)]).getD j 0=(if nx (m+3) r=0 then(if j=r then 1 else if j=0 then -1 else 0)else 0):=by decide+kernel
theorem res_at (n:Nat) (hn:3≤n∧n≤8) (r:Nat) (hr:r<n) (j:Nat) (hj:j<n):(resE (n:Int) [(r:Int)]).getD j 0=(if j=r then((nx n r:Nat):Int)else if j=nx n r then(r:Int)else(j:Int))∧(resW (n:Int) [(r:Int)]).getD j 0=(if nx n r=0 then(if j=r then 1 else if j=0 then -1 else 0)else 0):=by
  have:=res_facts (n - 3) (List.mem_range.2 (by omega)) r (List.mem_range.2 (by omega)) j (List.mem_range.2 (by omega))
  rwa [show n - 3+3=n by omega]at this
theorem then_at (p w:List Int) (h:isTur p w=true) (r:Nat) (hr:r<p.length) (k:Nat) (hk:20≤k):impl_thenTurned.f k (resE (p.length:Int) [(r:Int)]) (resW (p.length:Int) [(r:Int)]) p w=some (topE p r,topW w r):=by
  obtain⟨f1,f2,f3,f4,f5,f6,f7⟩:=isTur_facts h
  obtain⟨h1,h2⟩:=nx_lt p.length r f2 hr
  have R:=res_at p.length ⟨f2,f3⟩ r hr
  have le:(resE (p.length:Int) [(r:Int)]).length=p.length:=by rw[resE,vals_length];omega
  have lw:(resW (p.length:Int) [(r:Int)]).length=p.length:=by rw[resW,vals_length];omega
  generalize resE (p.length:Int) [(r:Int)]=e at R le ⊢
  generalize resW (p.length:Int) [(r:Int)]=f at R lw ⊢
  unfold impl_thenTurned.f
  have:=then_l0 e f p w (fun j hj=>by
    rw[(R j (by omega)).1];split
    · omega
    · split<;>omega) (by omega) f4 (fun j=>by
    by_cases c:j<p.length
    · rw[(R j c).2];split
      · split
        · omega
        · split<;>omega
      · omega
    · rw[List.getD_eq_getElem?_getD,List.getElem?_eq_none (by omega)];simp) (wget w f6) (by omega) p.length 0 k [] [] (by omega) (by omega) (by simp) (by simp)
  rw[show((0:Nat):Int)=0 from rfl,List.nil_append,List.nil_append]at this
  rw[this]
  have e1:topE p r=vals (fun j=>rd p (rd e j)) p.length 0:=eq_vals _ _ _ (topE_length p r) fun j hj=>by
    rw[fix_rd,(R j hj).1,topE_get p r j f2 hr]
    by_cases c1:j=r
    · rw[if_neg (by omega),if_pos c1.symm,if_pos c1,fix_rd]
    · rw[if_neg c1]
      by_cases c2:j=nx p.length r
      · rw[if_pos c2.symm,if_pos c2,fix_rd]
      · rw[if_neg (by omega),if_neg (by omega),if_neg c2,fix_rd]
  have e2:topW w r=vals (fun j=>rd f j+rd w (rd e j)) p.length 0:=eq_vals _ _ _ (by rw[topW_length,f4]) fun j hj=>by
    rw[fix_rd,fix_rd,(R j hj).1,(R j hj).2,topW_get w r j (by omega) (by omega),f4]
    by_cases z:nx p.length r=0
    · rw[if_pos z,if_pos z]
      by_cases c1:j=r
      · rw[if_neg (by omega),if_pos c1.symm,if_pos c1,if_pos c1,fix_rd,z];omega
      · by_cases c2:j=0
        · rw[if_pos c2.symm,if_neg c1,if_pos c2,if_neg c1,if_pos (by omega),fix_rd];omega
        · rw[if_neg (by omega),if_neg (by omega),if_neg c1,if_neg c2,if_neg c1,if_neg (by omega),fix_rd];omega
    · rw[if_neg z,if_neg z]
      by_cases c1:j=r
      · rw[if_neg (by omega),if_pos c1.symm,if_pos c1,fix_rd];omega
      · rw[if_neg c1]
        by_cases c2:j=nx p.length r
        · rw[if_pos c2.symm,if_pos c2,fix_rd];omega
        · rw[if_neg (by omega),if_neg (by omega),if_neg c2,fix_rd];omega
  rw[←e1,←e2]
theorem inv_pos (p w:List Int) (h:isTur p w=true):0≤invV p w:=by
  rw[inv_sm p w h]
  generalize p.length*43=M
  generalize 0=i
  generalize p.length=d
  induction d generalizing i with
  |zero=>simp[sm]
  |succ d ih=>
    have:=cn_range (placeV p w) (placeV p w (i:Int)) M ((i:Int)+1)
    have:=ih (i+1)
    rw[sm]
    unfold cI at*
    omega
def lrun:Nat→List Int→List Int→List Int→List Int
  |0,_,_,acc=>acc
  |m+1,p,w,acc=>match descV p w with
    | []=>acc
    |r:: _ =>lrun m (topE p r.toNat) (topW w r.toNat) (acc++ [r])
theorem lrun_length: ∀(m:Nat) (p w acc:List Int),(lrun m p w acc).length≤acc.length+m
  |0,_,_,_ =>Nat.le_refl _
  |m+1,p,w,acc=>by
    rw[lrun]
    split
    · omega
    · have:=lrun_length m (topE p (by assumption:Int).toNat) (topW w (by assumption:Int).toNat) acc
      rename_i r _ _
      have:=lrun_length m (topE p r.toNat) (topW w r.toNat) (acc++ [r])
      simp at this
      omega
theorem desc_head (p w:List Int) (h:isTur p w=true) (r:Int) (rs:List Int) (e:descV p w=r::rs):0≤r∧r.toNat<p.length∧placeV p w ((r.toNat:Int)+1)<placeV p w (r.toNat:Int):=by
  have:=desc_mem p w p.length 0 [] r (by unfold descV at e;rw[e];exact List.mem_cons_self)
  rcases this with h1|⟨h1,h2,h3⟩
  · cases h1
  · refine⟨h1,by omega, ?_⟩
    rw[Int.toNat_of_nonneg h1];exact h3
theorem desc_zero (p w:List Int) (h:isTur p w=true) (hi:invV p w≤0):descV p w= []:=by
  match hd:descV p w with
  | []=>rfl
  |r::rs=>
    obtain⟨h1,h2,h3⟩:=desc_head p w h r rs hd
    have t1:=top_tur p w h r.toNat h2 h3
    have t2:=inv_top p w h r.toNat h2 h3
    have t3:=inv_pos _ _ t1
    omega
theorem spec_run (a:Int): ∀(m:Nat) (i:Int) (p w acc:List Int) (k:Nat),isTur p w=true→invV p w≤m→0≤i→i+m≤60→acc.length+m≤60→m+50≤k→spec_LeastPole.l0 k i p w a acc=some (a,lrun m p w acc,true)
  |0,i,p,w,acc,k,h,hi,h0,hm,ha,hk=>by
    obtain⟨k,rfl⟩: ∃q,k=q+1:=⟨k - 1,by omega⟩
    simp only[spec_LeastPole.l0]
    rw[if_pos (by omega),poDescents p w h k (by omega),Option.bind_some,desc_zero p w h (by omega),if_pos (by simp)]
    rfl
  |m+1,i,p,w,acc,k,h,hi,h0,hm,ha,hk=>by
    obtain⟨k,rfl⟩: ∃q,k=q+1:=⟨k - 1,by omega⟩
    have ih:=fun i p w acc=>spec_run a m i p w acc k
    simp only[spec_LeastPole.l0]
    rw[if_pos (by omega),poDescents p w h k (by omega),Option.bind_some,lrun]
    cases hd:descV p w with
    |nil=>rw[if_pos (by simp)]
    |cons r rs=>
      obtain⟨h1,h2,h3⟩:=desc_head p w h r rs hd
      have t1:=top_tur p w h r.toNat h2 h3
      have t2:=inv_top p w h r.toNat h2 h3
      have e:=poTop_at p w h r.toNat h2
      rw[Int.toNat_of_nonneg h1]at e
      have g1: ¬(((r::rs).length:Nat):Int)=0:=by rw[List.length_cons];omega
      have g2:0<(((r::rs).length:Nat):Int):=by rw[List.length_cons];omega
      rw[if_neg g1,if_pos g2,if_pos (by omega),show rd (r::rs) 0=r from rfl,e,Option.bind_some,wrap_id (by omega) (by omega)]
      exact ih (i+1) (topE p r.toNat) (topW w r.toNat) (acc++ [r]) t1 (by omega) (by omega) (by omega) (by rw[List.length_append,List.length_singleton];omega) (by omega)
theorem impl_run: ∀(m:Nat) (p w acc:List Int) (k:Nat),isTur p w=true→invV p w≤m→acc.length+m≤60→m+50≤k→impl_LeastPole.l0 k (descV p w) p w (p.length:Int) acc=some ((p.length:Int),lrun m p w acc,true)
  |0,p,w,acc,k,h,hi,ha,hk=>by
    obtain⟨k,rfl⟩: ∃q,k=q+1:=⟨k - 1,by omega⟩
    simp only[impl_LeastPole.l0]
    rw[desc_zero p w h (by omega),if_neg (by simp)]
    rfl
  |m+1,p,w,acc,k,h,hi,ha,hk=>by
    obtain⟨f1,f2,f3,f4,f5,f6,f7⟩:=isTur_facts h
    obtain⟨k,rfl⟩: ∃q,k=q+1:=⟨k - 1,by omega⟩
    have ih:=fun p w acc=>impl_run m p w acc k
    simp only[impl_LeastPole.l0]
    rw[lrun]
    cases hd:descV p w with
    |nil=>rw[if_neg (by simp)]
    |cons r rs=>
      obtain⟨h1,h2,h3⟩:=desc_head p w h r rs hd
      have t1:=top_tur p w h r.toNat h2 h3
      have t2:=inv_top p w h r.toNat h2 h3
      have e:=then_at p w h r.toNat h2 k (by omega)
      rw[Int.toNat_of_nonneg h1]at e
      have g1:(((r::rs).length:Nat):Int)>0:=by rw[List.length_cons];omega
      have g2:1≤(((r::rs).length:Nat):Int):=by rw[List.length_cons];omega
      have hr: ∀x∈ [r],0≤x∧x≤(p.length:Int) - 1:=by
        intro x hx
        rw[List.mem_singleton.1 hx];omega
      have er:=(result_at (p.length:Int) [r] ⟨by omega,by omega⟩ (by rw[List.length_singleton];omega) hr k (by rw[List.length_singleton];omega)).2
      rw[if_pos g1,if_pos g2,show(r::rs).take 1= [r]from rfl,er,Option.bind_some,if_pos g1,if_pos (by omega)]
      dsimp only
      rw[e,Option.bind_some]
      dsimp only
      rw[poleDescents _ _ t1,Option.bind_some,show rd (r::rs) 0=r from rfl]
      have q:=ih (topE p r.toNat) (topW w r.toNat) (acc++ [r]) t1 (by omega) (by rw[List.length_append,List.length_singleton];omega) (by omega)
      rw[topE_length]at q
      exact q
end Go.Proofs.Ytnagcjhgojchlaa.L
namespace Go.Proofs.Ytnagcjhgojchlaa.L
open Go.RowKit Go.Proofs.Ytnagcjhgojchlaa.Q Go.Proofs.YtnagcjhgojchlaaW.PrintWords Go.Proofs.YtnagcjhgojchlaaW.PrintLast
set_option linter.unusedVariables false
set_option linter.unusedSimpArgs false
def backE:List Int→Nat→List Int→List Int
  | [],_,acc=>acc
  |x::xs,i,acc=>backE xs (i+1) (acc.set x.toNat (i:Int))
def backW (w:List Int):List Int→Nat→List Int→List Int
  | [],_,acc=>acc
  |x::xs,i,acc=>backW w xs (i+1) (acc.set x.toNat (wrap64 (-(rd w (i:Int)))))
theorem backE_length: ∀(l:List Int) (i:Nat) (acc:List Int),(backE l i acc).length=acc.length
  | [],_,_ =>rfl
  |x::xs,i,acc=>by rw[backE,backE_length xs];simp
theorem backW_length (w:List Int): ∀(l:List Int) (i:Nat) (acc:List Int),(backW w l i acc).length=acc.length
  | [],_,_ =>rfl
  |x::xs,i,acc=>by rw[backW,backW_length w xs];simp
theorem back_l0 (p:List Int) (hb:p.length≤8) (hp: ∀x∈p,0≤x∧x≤(p.length:Int) - 1) (d:Nat): ∀(i k:Nat) (acc:List Int),i+d=p.length→acc.length=p.length→d<k→impl_back.l0 k acc p (p.length:Int) (i:Int)=some (backE (p.drop i) i acc):=by
  induction d with
  |zero=>
    intro i k acc hi ha hk
    obtain⟨k,rfl⟩: ∃m,k=m+1:=⟨k - 1,by omega⟩
    simp only[impl_back.l0]
    rw[if_neg (by omega),show i=p.length from by omega,List.drop_length]
    rfl
  |succ d ih=>
    intro i k acc hi ha hk
    obtain⟨k,rfl⟩: ∃m,k=m+1:=⟨k - 1,by omega⟩
    have hx:=hp p[i] (List.getElem_mem _)
    simp only[impl_back.l0]
    rw[if_pos (by omega),if_pos (by omega),if_pos (by omega),rd_nat p i (by omega),if_pos (by omega),if_pos (by omega),wrap_id (by omega) (by omega),List.drop_eq_getElem_cons (by omega)]
    have:=ih (i+1) k (acc.set p[i].toNat (i:Int)) (by omega) (by simpa using ha) (by omega)
    exact_mod_cast this
theorem backS_l0 (p w:List Int) (hb:p.length≤8) (hw:w.length=p.length) (hp: ∀x∈p,0≤x∧x≤(p.length:Int) - 1) (q:List Int) (d:Nat): ∀(i k:Nat) (a b:List Int),i+d=p.length→a.length=p.length→b.length=p.length→d<k→spec_BackTurned.l0 k p (p.length:Int) (i:Int) q w a b=some (backE (p.drop i) i a,backW w (p.drop i) i b,true):=by
  induction d with
  |zero=>
    intro i k a b hi ha hb' hk
    obtain⟨k,rfl⟩: ∃m,k=m+1:=⟨k - 1,by omega⟩
    simp only[spec_BackTurned.l0]
    rw[if_neg (by omega),show i=p.length from by omega,List.drop_length]
    rfl
  |succ d ih=>
    intro i k a b hi ha hb' hk
    obtain⟨k,rfl⟩: ∃m,k=m+1:=⟨k - 1,by omega⟩
    have hx:=hp p[i] (List.getElem_mem _)
    simp only[spec_BackTurned.l0]
    rw[if_pos (by omega),if_pos (by omega),if_pos (by omega),rd_nat p i (by omega),if_pos (by omega),if_pos (by omega),if_pos (by omega),if_pos (by omega),wrap_id (n:=(i:Int)+1) (by omega) (by omega),List.drop_eq_getElem_cons (by omega)]
    have:=ih (i+1) k (a.set p[i].toNat (i:Int)) (b.set p[i].toNat (wrap64 (-(rd w (i:Int))))) (by omega) (by simpa using ha) (by simpa using hb') (by omega)
    exact_mod_cast this
theorem backI_l0 (p w:List Int) (hb:p.length≤8) (hw:w.length=p.length) (hp: ∀x∈p,0≤x∧x≤(p.length:Int) - 1) (q a:List Int) (d:Nat): ∀(i k:Nat) (b:List Int),i+d=p.length→b.length=p.length→d<k→impl_BackTurned.l0 k p (p.length:Int) (i:Int) q w a b=some (a,backW w (p.drop i) i b,true):=by
  induction d with
  |zero=>
    intro i k b hi hb' hk
    obtain⟨k,rfl⟩: ∃m,k=m+1:=⟨k - 1,by omega⟩
    simp only[impl_BackTurned.l0]
    rw[if_neg (by omega),show i=p.length from by omega,List.drop_length]
    rfl
  |succ d ih=>
    intro i k b hi hb' hk
    obtain⟨k,rfl⟩: ∃m,k=m+1:=⟨k - 1,by omega⟩
    have hx:=hp p[i] (List.getElem_mem _)
    simp only[impl_BackTurned.l0]
    rw[if_pos (by omega),if_pos (by omega),if_pos (by omega),if_pos (by omega),rd_nat p i (by omega),if_pos (by omega),if_pos (by omega),wrap_id (n:=(i:Int)+1) (by omega) (by omega),List.drop_eq_getElem_cons (by omega)]
    have:=ih (i+1) k (b.set p[i].toNat (wrap64 (-(rd w (i:Int))))) (by omega) (by simpa using hb') (by omega)
    exact_mod_cast this
theorem back (p:List Int) (h:isOrd p=true) (k:Nat) (hk:p.length+1≤k):impl_back.f k p=some (backE p 0 (List.replicate p.length 0)):=by
  obtain⟨h1,h2,h3⟩:=isOrd_facts h
  unfold impl_back.f
  rw[if_pos (by omega),if_pos (by omega)]
  have:=back_l0 p h2 h3 p.length 0 k (List.replicate p.length 0) (by omega) (by simp) (by omega)
  simpa using this
end Go.Proofs.Ytnagcjhgojchlaa.L
namespace Go.Proofs.Ytnagcjhgojchlaa.L
open Go.RowKit Go.Proofs.Ytnagcjhgojchlaa.Q Go.Proofs.YtnagcjhgojchlaaW.PrintWords Go.Proofs.YtnagcjhgojchlaaW.PrintLast
set_option linter.unusedVariables false
set_option linter.unusedSimpArgs false
def upto (f:Nat→Int):Nat→Nat→List Int
  |0,_ => []
  |d+1,i=>f i::upto f d (i+1)
theorem upto_length (f:Nat→Int): ∀(d i:Nat),(upto f d i).length=d
  |0,_ =>rfl
  |d+1,i=>by rw[upto,List.length_cons,upto_length f d]
theorem upto_get (f:Nat→Int): ∀(d i j:Nat),j<d→(upto f d i).getD j 0=f (i+j)
  |0,_,_,h=>by omega
  |d+1,i,0,_ =>by simp[upto]
  |d+1,i,j+1,h=>by
    rw[upto,List.getD_cons_succ,upto_get f d (i+1) j (by omega)]
    congr 1
    omega
theorem upto_congr {f g:Nat→Int}: ∀(d i:Nat),(∀j,i≤j→j<i+d→f j=g j)→upto f d i=upto g d i
  |0,_,_ =>rfl
  |d+1,i,h=>by rw[upto,upto,h i (by omega) (by omega),upto_congr d (i+1) (fun j h1 h2=>h j (by omega) (by omega))]
theorem eq_upto (l:List Int):l=upto (fun j=>l.getD j 0) l.length 0:=by
  refine List.ext_getElem? fun j=> ?_
  have e:=upto_get (fun j=>l.getD j 0) l.length 0 j
  have n:=upto_length (fun j=>l.getD j 0) l.length 0
  generalize hu:upto (fun j=>l.getD j 0) l.length 0=u at e n ⊢
  by_cases c:j<l.length
  · have e:=e c
    rw[List.getD_eq_getElem?_getD,List.getElem?_eq_getElem (by omega),Nat.zero_add]at e
    simp only[Option.getD_some]at e
    rw[List.getElem?_eq_getElem c,List.getElem?_eq_getElem (by omega),e,List.getD_eq_getElem?_getD,List.getElem?_eq_getElem c]
    rfl
  · rw[List.getElem?_eq_none (by omega),List.getElem?_eq_none (by omega)]
theorem rd_get (l:List Int) (i:Nat):rd l (i:Int)=l.getD i 0:=by simp[rd]
theorem thn_i (e f p w:List Int) (M:Int) (he: ∀j:Nat,j<e.length→0≤e.getD j 0∧e.getD j 0<(p.length:Int)) (hf:f.length=e.length) (hw:w.length=p.length) (hM:M≤1000000000000) (hb: ∀j,-M≤f.getD j 0∧f.getD j 0≤M) (hwb: ∀k,-M≤w.getD k 0∧w.getD k 0≤M) (hn:e.length≤8): ∀(d i k:Nat) (a b:List Int),i+d=e.length→d<k→a.length≤i→b.length≤i→
    impl_thenTurned.l0 k e (e.length:Int) (i:Int) e f p w a b=some (a++upto (fun j=>p.getD (e.getD j 0).toNat 0) d i,b++upto (fun j=>f.getD j 0+w.getD (e.getD j 0).toNat 0) d i)
  |0,i,k,a,b,h,hk,ha,hb'=>by
    obtain⟨k,rfl⟩: ∃m,k=m+1:=⟨k - 1,by omega⟩
    simp only[impl_thenTurned.l0,upto,List.append_nil]
    rw[if_neg (by omega)]
  |d+1,i,k,a,b,h,hk,ha,hb'=>by
    obtain⟨k,rfl⟩: ∃m,k=m+1:=⟨k - 1,by omega⟩
    have h1:=he i (by omega)
    have h2:=hb i
    obtain⟨q,hq⟩: ∃q:Nat,e.getD i 0=q:=⟨(e.getD i 0).toNat,by omega⟩
    have h3:=hwb q
    have ih:=thn_i e f p w M he hf hw hM hb hwb hn d (i+1) k (a++ [p.getD q 0]) (b++ [f.getD i 0+w.getD q 0]) (by omega) (by omega) (by simp;omega) (by simp;omega)
    simp only[impl_thenTurned.l0]
    rw[if_pos (by omega),if_pos (by omega),if_pos (by omega),show rd e (i:Int)=(q:Int) by rw[rd_get,hq],if_pos (by omega),if_pos (by omega),Option.bind_some,if_pos (by simp;omega),if_pos (by omega),if_pos (by omega),Option.bind_some,if_pos (by simp;omega)]
    rw[rd_get,rd_get,rd_get,wrap_id (n:=f.getD i 0+w.getD q 0) (by omega) (by omega),wrap_id (n:=(i:Int)+1) (by omega) (by omega)]
    rw[upto,upto,hq,Int.toNat_natCast]
    rw[show((i:Int)+1)=((i+1:Nat):Int) by omega,ih]
    simp
theorem thn_at (e f p w:List Int) (M:Int) (he: ∀j:Nat,j<e.length→0≤e.getD j 0∧e.getD j 0<(p.length:Int)) (hf:f.length=e.length) (hw:w.length=p.length) (hM:M≤1000000000000) (hb: ∀j,-M≤f.getD j 0∧f.getD j 0≤M) (hwb: ∀k,-M≤w.getD k 0∧w.getD k 0≤M) (hn:e.length≤8) (k:Nat) (hk:20≤k):
    impl_thenTurned.f k e f p w=some (upto (fun j=>p.getD (e.getD j 0).toNat 0) e.length 0,upto (fun j=>f.getD j 0+w.getD (e.getD j 0).toNat 0) e.length 0):=by
  unfold impl_thenTurned.f
  have:=thn_i e f p w M he hf hw hM hb hwb hn e.length 0 k [] [] (by omega) (by omega) (by simp) (by simp)
  simpa using this
theorem thn_s (e f p w:List Int) (M:Int) (he: ∀j:Nat,j<e.length→0≤e.getD j 0∧e.getD j 0<(p.length:Int)) (hf:f.length=e.length) (hw:w.length=p.length) (hM:M≤1000000000000) (hb: ∀j,-M≤f.getD j 0∧f.getD j 0≤M) (hwb: ∀k,-M≤w.getD k 0∧w.getD k 0≤M) (hn:e.length≤8): ∀(d i k:Nat) (a b:List Int),i+d=e.length→d<k→a.length≤i→b.length≤i→
    spec_poThen.l0 k e (e.length:Int) (i:Int) e f p w a b=some (a++upto (fun j=>p.getD (e.getD j 0).toNat 0) d i,b++upto (fun j=>f.getD j 0+w.getD (e.getD j 0).toNat 0) d i)
  |0,i,k,a,b,h,hk,ha,hb'=>by
    obtain⟨k,rfl⟩: ∃m,k=m+1:=⟨k - 1,by omega⟩
    simp only[spec_poThen.l0,upto,List.append_nil]
    rw[if_neg (by omega)]
  |d+1,i,k,a,b,h,hk,ha,hb'=>by
    obtain⟨k,rfl⟩: ∃m,k=m+1:=⟨k - 1,by omega⟩
    have h1:=he i (by omega)
    have h2:=hb i
    obtain⟨q,hq⟩: ∃q:Nat,e.getD i 0=q:=⟨(e.getD i 0).toNat,by omega⟩
    have h3:=hwb q
    have ih:=thn_s e f p w M he hf hw hM hb hwb hn d (i+1) k (a++ [p.getD q 0]) (b++ [f.getD i 0+w.getD q 0]) (by omega) (by omega) (by simp;omega) (by simp;omega)
    simp only[spec_poThen.l0]
    rw[if_pos (by omega),if_pos (by omega),if_pos (by omega),show rd e (i:Int)=(q:Int) by rw[rd_get,hq],if_pos (by omega),if_pos (by omega),if_pos (by omega),if_pos (by omega),if_pos (by omega),if_pos (by omega)]
    rw[rd_get,rd_get,rd_get,wrap_id (n:=f.getD i 0+w.getD q 0) (by omega) (by omega),wrap_id (n:=(i:Int)+1) (by omega) (by omega)]
    rw[upto,upto,hq,Int.toNat_natCast]
    rw[show((i:Int)+1)=((i+1:Nat):Int) by omega,ih]
    simp
theorem thn_sat (e f p w:List Int) (M:Int) (he: ∀j:Nat,j<e.length→0≤e.getD j 0∧e.getD j 0<(p.length:Int)) (hf:f.length=e.length) (hw:w.length=p.length) (hM:M≤1000000000000) (hb: ∀j,-M≤f.getD j 0∧f.getD j 0≤M) (hwb: ∀k,-M≤w.getD k 0∧w.getD k 0≤M) (hn:e.length≤8) (k:Nat) (hk:20≤k):
    spec_poThen.f k e f p w=some (upto (fun j=>p.getD (e.getD j 0).toNat 0) e.length 0,upto (fun j=>f.getD j 0+w.getD (e.getD j 0).toNat 0) e.length 0):=by
  unfold spec_poThen.f
  have:=thn_s e f p w M he hf hw hM hb hwb hn e.length 0 k [] [] (by omega) (by omega) (by simp) (by simp)
  simpa using this
theorem getD_of_mem {P:Int→Prop} (l:List Int) (h: ∀x∈l,P x) (j:Nat) (hj:j<l.length):P (l.getD j 0):=by
  rw[List.getD_eq_getElem?_getD,List.getElem?_eq_getElem hj];exact h _ (List.getElem_mem hj)
theorem getD_bound (l:List Int) (M:Int) (h: ∀x∈l,-M≤x∧x≤M) (hM:0≤M) (k:Nat): -M≤l.getD k 0∧l.getD k 0≤M:=by
  by_cases c:k<l.length
  · exact getD_of_mem l h k c
  · rw[List.getD_eq_getElem?_getD,List.getElem?_eq_none (by omega)];simp;omega
end Go.Proofs.Ytnagcjhgojchlaa.L
namespace Go.Proofs.Ytnagcjhgojchlaa.L
open Go.RowKit Go.Proofs.Ytnagcjhgojchlaa.Q Go.Proofs.YtnagcjhgojchlaaW.PrintWords Go.Proofs.YtnagcjhgojchlaaW.PrintLast
set_option linter.unusedVariables false
set_option linter.unusedSimpArgs false
def stp (p:List Int) (i:Nat):Nat:=(p.getD i 0).toNat
def itr (p:List Int):Nat→Nat→Nat
  |0,i=>i
  |m+1,i=>itr p m (stp p i)
theorem itr_succ (p:List Int): ∀(m i:Nat),itr p (m+1) i=stp p (itr p m i)
  |0,i=>rfl
  |m+1,i=>by
    show itr p (m+1) (stp p i)= _
    rw[itr_succ p m (stp p i)];rfl
theorem itr_add (p:List Int): ∀(a b i:Nat),itr p (a+b) i=itr p b (itr p a i)
  |0,b,i=>by rw[Nat.zero_add];rfl
  |a+1,b,i=>by
    rw[show a+1+b=(a+b)+1 by omega]
    show itr p (a+b) (stp p i)= _
    rw[itr_add p a b];rfl
structure PermL (p:List Int):Prop where
  lt: ∀i,i<p.length→stp p i<p.length
  inj: ∀i j,i<p.length→j<p.length→stp p i=stp p j→i=j
theorem itr_lt {p:List Int} (hp:PermL p): ∀(m i:Nat),i<p.length→itr p m i<p.length
  |0,i,h=>h
  |m+1,i,h=>itr_lt hp m _ (hp.lt i h)
theorem itr_mul {p:List Int} {L s:Nat} (h:itr p L s=s): ∀q,itr p (q*L) s=s
  |0=>by rw[Nat.zero_mul];rfl
  |q+1=>by rw[Nat.succ_mul,itr_add,itr_mul h q,h]
structure CLen (p:List Int) (L s:Nat):Prop where
  pos:0<L
  back:itr p L s=s
  first: ∀j,0<j→j<L→itr p j s≠s
theorem CLen.iff {p:List Int} {L s:Nat} (h:CLen p L s) (m:Nat):itr p m s=s↔L ∣ m:=by
  constructor
  · intro e
    have e2:itr p (m / L*L+m%L) s=s:=by
      rw[show m / L*L+m%L=m by rw[Nat.mul_comm];exact Nat.div_add_mod m L];exact e
    rw[itr_add,itr_mul h.back]at e2
    by_cases h0:m%L=0
    · exact Nat.dvd_of_mod_eq_zero h0
    · exact absurd e2 (h.first _ (by omega) (Nat.mod_lt _ h.pos))
  · rintro⟨q,rfl⟩
    rw[Nat.mul_comm];exact itr_mul h.back q
theorem CLen.step {p:List Int} (hp:PermL p) {L s:Nat} (hs:s<p.length) (h:CLen p L s):CLen p L (stp p s):=by
  refine⟨h.pos, ?_, ?_⟩
  · show itr p (L+1) s= _
    rw[itr_succ,h.back]
  · intro j h0 hj e
    have e2:itr p (j+1) s=stp p s:=e
    rw[itr_succ]at e2
    exact h.first j h0 hj (hp.inj _ _ (itr_lt hp j s hs) hs e2)
theorem CLen.steps {p:List Int} (hp:PermL p) {L:Nat}: ∀(m s:Nat),s<p.length→CLen p L s→CLen p L (itr p m s)
  |0,s,_,h=>h
  |m+1,s,hs,h=>CLen.steps hp m _ (hp.lt s hs) (h.step hp hs)
def wnd (p w:List Int):Nat→Nat→Int
  |0,_ =>0
  |m+1,i=>w.getD i 0+wnd p w m (stp p i)
theorem wnd_add (p w:List Int): ∀(a b i:Nat),wnd p w (a+b) i=wnd p w a i+wnd p w b (itr p a i)
  |0,b,i=>by rw[Nat.zero_add];simp[wnd,itr]
  |a+1,b,i=>by
    rw[show a+1+b=(a+b)+1 by omega]
    simp only[wnd,itr]
    rw[wnd_add p w a b];omega
theorem wnd_succ (p w:List Int) (m i:Nat):wnd p w (m+1) i=wnd p w m i+w.getD (itr p m i) 0:=by
  rw[wnd_add];simp[wnd]
theorem wnd_mul {p:List Int} (w:List Int) {L s:Nat} (h:itr p L s=s): ∀q:Nat,wnd p w (q*L) s=q*wnd p w L s
  |0=>by simp[wnd]
  |q+1=>by
    rw[Nat.succ_mul,wnd_add,itr_mul h q,wnd_mul w h q]
    rw[Int.natCast_succ,Int.add_mul,Int.one_mul]
theorem wnd_step {p:List Int} (w:List Int) {L s:Nat} (h:itr p L s=s):wnd p w L (stp p s)=wnd p w L s:=by
  have a:wnd p w (L+1) s=w.getD s 0+wnd p w L (stp p s):=rfl
  rw[wnd_succ,h]at a;omega
theorem wnd_steps {p:List Int} (hp:PermL p) (w:List Int) {L:Nat}: ∀(m s:Nat),s<p.length→CLen p L s→wnd p w L (itr p m s)=wnd p w L s
  |0,s,_,_ =>rfl
  |m+1,s,hs,h=>by
    show wnd p w L (itr p m (stp p s))= _
    rw[wnd_steps hp w m _ (hp.lt s hs) (h.step hp hs),wnd_step w h.back]
def cyc (p:List Int):Nat→Nat→List Int
  |0,_ => []
  |L+1,s=>(s:Int)::cyc p L (stp p s)
theorem cyc_length (p:List Int): ∀L s,(cyc p L s).length=L
  |0,_ =>rfl
  |L+1,s=>by simp[cyc,cyc_length p L]
theorem cyc_snoc (p:List Int): ∀L s,cyc p (L+1) s=cyc p L s++ [((itr p L s:Nat):Int)]
  |0,_ =>rfl
  |L+1,s=>by
    show(s:Int)::cyc p (L+1) (stp p s)= _
    rw[cyc_snoc p L];rfl
theorem cyc_mem (p:List Int): ∀(L s:Nat) (x:Int),x∈cyc p L s→ ∃j,j<L∧x=((itr p j s:Nat):Int)
  |0,_,x,h=>by simp[cyc]at h
  |L+1,s,x,h=>by
    rcases List.mem_cons.1 h with e|h
    · exact⟨0,by omega,e⟩
    · obtain⟨j,hj,e⟩:=cyc_mem p L _ x h
      exact⟨j+1,by omega,e⟩
structure CycL (p:List Int) (C:List (List Int)):Prop where
  good: ∀c∈C,∃L s,s<p.length∧CLen p L s∧c=cyc p L s
  all: ∀i,i<p.length→ ∃L s m,cyc p L s∈C∧s<p.length∧CLen p L s∧i=itr p m s
def lcms:List (List Int)→Nat→Nat
  | [],t=>t
  |c::C,t=>lcms C (Nat.lcm t c.length)
theorem lcms_dvd: ∀(C:List (List Int)) (t m:Nat),lcms C t ∣ m↔t ∣ m∧ ∀c∈C,c.length ∣ m
  | [],t,m=>by simp[lcms]
  |c::C,t,m=>by
    rw[lcms,lcms_dvd C]
    rw[Nat.lcm_dvd_iff]
    simp[and_assoc]
theorem lcms_pos: ∀(C:List (List Int)) (t:Nat),0<t→(∀c∈C,0<c.length)→0<lcms C t
  | [],t,h,_ =>h
  |c::C,t,h,g=>lcms_pos C _ (Nat.lcm_pos h (g c (List.mem_cons_self))) (fun x hx=>g x (List.mem_cons_of_mem _ hx))
theorem CycL.fix {p:List Int} (hp:PermL p) {C:List (List Int)} (h:CycL p C) (m:Nat):(∀i,i<p.length→itr p m i=i)↔lcms C 1 ∣ m:=by
  rw[lcms_dvd]
  constructor
  · intro H
    refine⟨Nat.one_dvd _,fun c hc=> ?_⟩
    obtain⟨L,s,hs,hl,rfl⟩:=h.good c hc
    rw[cyc_length]
    exact(hl.iff m).1 (H s hs)
  · rintro⟨_,H⟩ i hi
    obtain⟨L,s,q,hc,hs,hl,rfl⟩:=h.all i hi
    have:=H _ hc
    rw[cyc_length]at this
    exact((hl.steps hp q s hs).iff m).2 this
theorem CycL.winds {p:List Int} (hp:PermL p) {C:List (List Int)} (h:CycL p C) (w:List Int):(∀i,i<p.length→wnd p w (lcms C 1) i=0)↔ ∀c∈C,(c.map fun i=>w.getD i.toNat 0).sum=0:=by
  have key: ∀L s,(cyc p L s |>.map fun i=>w.getD i.toNat 0).sum=wnd p w L s:=by
    intro L
    induction L with
    |zero=>intro s;rfl
    |succ L ih=>
      intro s
      simp only[cyc,List.map_cons,List.sum_cons,wnd,Int.toNat_natCast]
      rw[ih]
  have hpos:0<lcms C 1:=lcms_pos C 1 (by omega) (fun c hc=>by
    obtain⟨L,s,hs,hl,rfl⟩:=h.good c hc
    rw[cyc_length];exact hl.pos)
  constructor
  · intro H c hc
    obtain⟨L,s,hs,hl,rfl⟩:=h.good c hc
    rw[key]
    have hd:L ∣ lcms C 1:=by
      have:=((lcms_dvd C 1 (lcms C 1)).1 (Nat.dvd_refl _)).2 _ hc
      rwa [cyc_length]at this
    obtain⟨q,hq⟩:=hd
    have:=H s hs
    rw[hq,Nat.mul_comm,wnd_mul w hl.back q]at this
    rcases Int.mul_eq_zero.1 this with e|e
    · have:q=0:=by omega
      subst this;simp at hq;omega
    · exact e
  · intro H i hi
    obtain⟨L,s,m,hc,hs,hl,rfl⟩:=h.all i hi
    have hd:L ∣ lcms C 1:=by
      have:=((lcms_dvd C 1 (lcms C 1)).1 (Nat.dvd_refl _)).2 _ hc
      rwa [cyc_length]at this
    obtain⟨q,hq⟩:=hd
    have hl':=hl.steps hp m s hs
    rw[hq,Nat.mul_comm,wnd_mul w hl'.back q,wnd_steps hp w m s hs hl,←key,H _ hc]
    simp
structure CInv (p:List Int) (seen:List Bool) (out:List (List Int)) (i:Nat):Prop where
  len:seen.length=p.length
  closed: ∀x,x<p.length→seen.getD (stp p x) false=seen.getD x false
  good: ∀c∈out,∃L s,s<p.length∧CLen p L s∧c=cyc p L s∧L≤p.length
  all: ∀x,x<p.length→seen.getD x false=true→ ∃L s m,cyc p L s∈out∧s<p.length∧CLen p L s∧x=itr p m s
  done: ∀x,x<i→seen.getD x false=true
  few:out.length≤i
structure CInn (p:List Int) (seen0 seen:List Bool) (i t:Nat):Prop where
  len:seen.length=p.length
  iff: ∀x,x<p.length→(seen.getD x false=true↔seen0.getD x false=true∨ ∃a,a<t∧x=itr p a i)
  fresh: ∀a,a<t→seen0.getD (itr p a i) false=false
  dist: ∀a b,a<b→b<t→itr p a i≠itr p b i
  cnt:t+seen.count false≤p.length
theorem getD_set_b (l:List Bool) (i j:Nat) (v:Bool) (h:i<l.length):(l.set i v).getD j false=if i=j then v else l.getD j false:=by
  simp only[List.getD_eq_getElem?_getD,List.getElem?_set]
  by_cases e:i=j
  · subst e;simp[h]
  · simp[e]
theorem CInn.start {p:List Int} {seen:List Bool} (h:seen.length=p.length) (i:Nat):CInn p seen seen i 0:=
  ⟨h,fun x _ =>⟨fun h=>Or.inl h,fun h=>h.elim id (fun⟨a,ha,_⟩=>by omega)⟩,fun a ha=>by omega,fun a b _ hb=>by omega,by rw[←h,Nat.zero_add];exact List.count_le_length⟩
theorem CInn.next {p:List Int} (hp:PermL p) {a4 seen:List Bool} {i t:Nat} (hi:i<p.length) (h:CInn p a4 seen i t) (hf:seen.getD (itr p t i) false=false):CInn p a4 (seen.set (itr p t i) true) i (t+1):=by
  have hlt:=itr_lt hp t i hi
  have hs:itr p t i<seen.length:=by rw[h.len];exact hlt
  refine⟨by rw[List.length_set];exact h.len,fun x hx=> ?_,fun a ha=> ?_,fun a b hab hb=> ?_, ?_⟩
  · rw[getD_set_b _ _ _ _ hs]
    by_cases e:itr p t i=x
    · rw[if_pos e];exact⟨fun _ =>Or.inr ⟨t,by omega,e.symm⟩,fun _ =>rfl⟩
    · rw[if_neg e,h.iff x hx]
      constructor
      · rintro(h1|⟨a,ha,h1⟩)
        · exact Or.inl h1
        · exact Or.inr ⟨a,by omega,h1⟩
      · rintro(h1|⟨a,ha,h1⟩)
        · exact Or.inl h1
        · by_cases c:a=t
          · subst c;exact absurd h1.symm e
          · exact Or.inr ⟨a,by omega,h1⟩
  · by_cases c:a=t
    · subst c
      by_cases q:a4.getD (itr p a i) false=true
      · have:=(h.iff _ hlt).2 (Or.inl q)
        rw[hf]at this;exact absurd this (by decide)
      · exact Bool.eq_false_iff.2 q
    · exact h.fresh a (by omega)
  · by_cases c:b=t
    · subst c
      intro e
      have:=(h.iff _ hlt).2 (Or.inr ⟨a,hab,e.symm⟩)
      rw[hf]at this;exact absurd this (by decide)
    · exact h.dist a b hab (by omega)
  · have e:=List.count_set (a:=true) (b:=false) hs
    have e1:seen[itr p t i]=false:=by
      have:=hf
      rw[List.getD_eq_getElem?_getD,List.getElem?_eq_getElem hs]at this
      simpa using this
    have e2:0<seen.count false:=List.count_pos_iff.2 (by rw[←e1];exact List.getElem_mem hs)
    rw[e1]at e
    simp at e
    have:=h.cnt
    omega
theorem CInn.stop {p:List Int} (hp:PermL p) {a4 seen:List Bool} {i t:Nat} (hi:i<p.length) (h0: ∀x,x<p.length→a4.getD (stp p x) false=a4.getD x false) (h:CInn p a4 seen i t) (ht:seen.getD (itr p t i) false=true):(t=0∧a4.getD i false=true)∨(0<t∧CLen p t i):=by
  have hlt:=itr_lt hp t i hi
  have back: ∀m,a4.getD (itr p m i) false=a4.getD i false:=by
    intro m
    induction m with
    |zero=>rfl
    |succ m ih=>rw[itr_succ,h0 _ (itr_lt hp m i hi),ih]
  rcases (h.iff _ hlt).1 ht with h1|⟨a,ha,h1⟩
  · rw[back t]at h1
    by_cases c:t=0
    · exact Or.inl ⟨c,h1⟩
    · have:=h.fresh 0 (by omega)
      rw[back 0,h1]at this;exact absurd this (by decide)
  · right
    refine⟨by omega,by omega, ?_,fun j hj hjt e=>h.dist 0 j hj hjt e.symm⟩
    by_cases c:a=0
    · subst c;exact h1
    · obtain⟨a,rfl⟩: ∃q,a=q+1:=⟨a - 1,by omega⟩
      obtain⟨t,rfl⟩: ∃q,t=q+1:=⟨t - 1,by omega⟩
      rw[itr_succ,itr_succ]at h1
      exact absurd (hp.inj _ _ (itr_lt hp _ _ hi) (itr_lt hp _ _ hi) h1).symm (h.dist a t (by omega) (by omega))
theorem CInv.more {p:List Int} (hp:PermL p) {a4 seen:List Bool} {out:List (List Int)} {i t:Nat} (hi:i<p.length) (h:CInv p a4 out i) (hn:CInn p a4 seen i t) (h0:0<t) (hl:CLen p t i):CInv p seen (out++ [cyc p t i]) (i+1):=by
  refine⟨hn.len,fun x hx=> ?_,fun c hc=> ?_,fun x hx hs=> ?_,fun x hx=> ?_,by simp;exact h.few⟩
  · rw[Bool.eq_iff_iff,hn.iff _ (hp.lt x hx),hn.iff _ hx,h.closed x hx]
    constructor
    · rintro(h1|⟨a,ha,h1⟩)
      · exact Or.inl h1
      · right
        by_cases c:a=0
        · subst c
          refine⟨t - 1,by omega, ?_⟩
          apply hp.inj _ _ hx (itr_lt hp _ _ hi)
          rw[←itr_succ,show t - 1+1=t by omega,hl.back];exact h1
        · refine⟨a - 1,by omega, ?_⟩
          apply hp.inj _ _ hx (itr_lt hp _ _ hi)
          rw[←itr_succ,show a - 1+1=a by omega];exact h1
    · rintro(h1|⟨a,ha,h1⟩)
      · exact Or.inl h1
      · right
        by_cases c:a+1=t
        · refine⟨0,h0, ?_⟩
          rw[h1,←itr_succ,c,hl.back];rfl
        · exact⟨a+1,by omega,by rw[h1,itr_succ]⟩
  · rcases List.mem_append.1 hc with h1|h1
    · exact h.good c h1
    · exact⟨t,i,hi,hl,by simpa using h1,by have:=hn.cnt;omega⟩
  · rcases (hn.iff x hx).1 hs with h1|⟨a,ha,h1⟩
    · obtain⟨L,s,m,e1,e2,e3,e4⟩:=h.all x hx h1
      exact⟨L,s,m,List.mem_append_left _ e1,e2,e3,e4⟩
    · exact⟨t,i,a,List.mem_append_right _ (by simp),hi,hl,h1⟩
  · by_cases c:x=i
    · subst c;exact(hn.iff x hi).2 (Or.inr ⟨0,h0,rfl⟩)
    · exact(hn.iff x (by omega)).2 (Or.inl (h.done x (by omega)))
theorem CInv.cycles {p:List Int} {seen:List Bool} {out:List (List Int)} (h:CInv p seen out p.length):CycL p out:=
  ⟨fun c hc=>by obtain⟨L,s,a,b,e,_⟩:=h.good c hc;exact⟨L,s,a,b,e⟩,fun i hi=>h.all i hi (h.done i hi)⟩
theorem CInv.zero (p:List Int):CInv p (List.replicate p.length false) [] 0:=by
  have e: ∀x,(List.replicate p.length false).getD x false=false:=by
    intro x
    simp only[List.getD_eq_getElem?_getD,List.getElem?_replicate]
    split<;>rfl
  refine⟨by simp,fun x _ =>by rw[e,e],fun c hc=>by simp at hc,fun x _ h=> ?_,fun x hx=>by omega,by simp⟩
  rw[e]at h;exact absurd h (by decide)
end Go.Proofs.Ytnagcjhgojchlaa.L
namespace Go.Proofs.Ytnagcjhgojchlaa.L
open Go.RowKit Go.Proofs.Ytnagcjhgojchlaa.Q Go.Proofs.YtnagcjhgojchlaaW.PrintWords Go.Proofs.YtnagcjhgojchlaaW.PrintLast
set_option linter.unusedVariables false
set_option linter.unusedSimpArgs false
theorem rdOf_get (l:List Bool) (i:Nat):rdOf false l (i:Int)=l.getD i false:=by simp[rdOf]
theorem stp_int {p:List Int} (hp: ∀x∈p,0≤x∧x≤(p.length:Int) - 1) (i:Nat) (hi:i<p.length):rd p (i:Int)=((stp p i:Nat):Int):=by
  have:=getD_of_mem p hp i hi
  rw[rd_get];unfold stp;omega
set_option maxHeartbeats 1000000 in
theorem cycles_l1 (p:List Int) (hp:PermL p) (h8:p.length≤8) (hb: ∀x∈p,0≤x∧x≤(p.length:Int) - 1) (a4:List Bool) (out:List (List Int)) (i:Nat) (hi:i<p.length) (hI:CInv p a4 out i):
    ∀(u t k:Nat) (seen:List Bool),CInn p a4 seen i t→p.length≤t+u→u+1<k→
      ∃k' seen' out',k≤k'+u+1∧CInv p seen' out' (i+1)∧spec_laCycles.l1 k p out seen (cyc p t i) ((itr p t i:Nat):Int) (p.length:Int) (i:Int)=spec_laCycles.l0 k' p out' seen' (p.length:Int) ((i+1:Nat):Int)
  |u,t,k,seen,hn,hu,hk=>by
    obtain⟨k,rfl⟩: ∃m,k=m+1:=⟨k - 1,by omega⟩
    have hlt:=itr_lt hp t i hi
    have hcl:=cyc_length p t i
    have hle:=hn.len
    have hcn:=hn.cnt
    have hfew:=hI.few
    simp only[spec_laCycles.l1]
    rw[if_pos (by omega),if_pos (by omega),rdOf_get]
    cases hb2:seen.getD (itr p t i) false with
    |true=>
      rw[if_pos rfl]
      have hw:wrap64 ((i:Int)+1)=((i+1:Nat):Int):=by rw[wrap_id (by omega) (by omega)];rfl
      rcases hn.stop hp hi hI.closed hb2 with⟨ht,hs⟩|⟨ht,hl⟩
      · subst ht
        refine⟨k,seen,out,by omega, ?_, ?_⟩
        · have e:seen=seen:=rfl
          exact⟨hn.len,fun x hx=>by
            have a:=hn.iff _ (hp.lt x hx)
            have b:=hn.iff _ hx
            rw[Bool.eq_iff_iff,a,b,hI.closed x hx]
            constructor
            · rintro(h|⟨a,ha,_⟩)
              · exact Or.inl h
              · omega
            · rintro(h|⟨a,ha,_⟩)
              · exact Or.inl h
              · omega,hI.good,fun x hx a5=>by
            rcases (hn.iff x hx).1 a5 with h|⟨a,ha,_⟩
            · exact hI.all x hx h
            · omega,fun x hx=>by
            rw[hn.iff x (by omega)]
            left
            by_cases c:x=i
            · subst c;exact hs
            · exact hI.done x (by omega),by omega⟩
        · rw[if_neg (by rw[hcl];omega),hw]
      · refine⟨k,seen,out++ [cyc p t i],by omega,hI.more hp hi hn ht hl, ?_⟩
        have c1:((cyc p t i).length:Int)>0:=by rw[hcl];omega
        have c2:out.length<5864062014805:=Nat.lt_of_le_of_lt (Nat.le_trans hfew (Nat.le_of_lt hi)) (Nat.lt_of_le_of_lt h8 (by decide))
        rw[if_pos c1,if_pos c2,hw]
    |false=>
      rw[if_neg (by decide),if_pos (by rw[hcl];omega),if_pos (by omega),Int.toNat_natCast]
      have a6:0<u:=by
        have e2:0<seen.count false:=List.count_pos_iff.2 (by
          rw[List.getD_eq_getElem?_getD,List.getElem?_eq_getElem (by omega)]at hb2
          simp at hb2
          rw[←hb2];exact List.getElem_mem (by omega))
        omega
      obtain⟨u,rfl⟩: ∃m,u=m+1:=⟨u - 1,by omega⟩
      obtain⟨k',s',o',h1,h2,h3⟩:=cycles_l1 p hp h8 hb a4 out i hi hI u (t+1) k (seen.set (itr p t i) true) (hn.next hp hi hb2) (by omega) (by omega)
      refine⟨k',s',o',by omega,h2, ?_⟩
      rw[←h3,cyc_snoc,itr_succ,stp_int hb _ hlt]
theorem cycles_l0 (p:List Int) (hp:PermL p) (h8:p.length≤8) (hb: ∀x∈p,0≤x∧x≤(p.length:Int) - 1): ∀(d i k:Nat) (seen:List Bool) (out:List (List Int)),i+d=p.length→CInv p seen out i→d*20<k→
      ∃out' seen',CInv p seen' out' p.length∧spec_laCycles.l0 k p out seen (p.length:Int) (i:Int)=some out'
  |0,i,k,seen,out,hi,hI,hk=>by
    obtain⟨k,rfl⟩: ∃m,k=m+1:=⟨k - 1,by omega⟩
    have e:i=p.length:=by omega
    refine⟨out,seen,e ▸ hI, ?_⟩
    simp only[spec_laCycles.l0]
    rw[if_neg (by omega)]
  |d+1,i,k,seen,out,hi,hI,hk=>by
    obtain⟨k,rfl⟩: ∃m,k=m+1:=⟨k - 1,by omega⟩
    simp only[spec_laCycles.l0]
    rw[if_pos (by omega)]
    obtain⟨k',s',o',h1,h2,h3⟩:=cycles_l1 p hp h8 hb seen out i (by omega) hI p.length 0 k seen (CInn.start hI.len i) (by omega) (by omega)
    have a4:spec_laCycles.l1 k p out seen ([]:List Int) (i:Int) (p.length:Int) (i:Int)= _ :=h3
    rw[a4]
    exact cycles_l0 p hp h8 hb d (i+1) k' s' o' (by omega) h2 (by omega)
theorem laCycles (p:List Int) (hp:PermL p) (h8:p.length≤8) (hb: ∀x∈p,0≤x∧x≤(p.length:Int) - 1) (k:Nat) (hk:200≤k): ∃C,spec_laCycles.f k p=some C∧CycL p C∧C.length≤8∧(∀c∈C,0<c.length∧c.length≤8∧ ∀x∈c,0≤x∧x<(p.length:Int)):=by
  obtain⟨C,s,h1,h2⟩:=cycles_l0 p hp h8 hb p.length 0 k (List.replicate p.length false) [] (by omega) (CInv.zero p) (by omega)
  refine⟨C, ?_,h1.cycles,by have:=h1.few;omega,fun c hc=> ?_⟩
  · unfold spec_laCycles.f
    rw[if_pos (by omega),if_pos (by omega),Int.toNat_natCast]
    exact h2
  · obtain⟨L,s,hs,hl,rfl,hL⟩:=h1.good c hc
    rw[cyc_length]
    refine⟨hl.pos,by omega,fun x hx=> ?_⟩
    obtain⟨j,hj,rfl⟩:=cyc_mem p L s x hx
    have:=itr_lt hp j s hs
    omega
theorem common_l0: ∀(b a k:Nat),b+1<k→spec_laCommon.l0 k (a:Int) (b:Int)=some ((Nat.gcd a b:Nat):Int):=by
  intro b
  induction b using Nat.strongRecOn with
  |ind b ih=>
    intro a k hk
    obtain⟨k,rfl⟩: ∃m,k=m+1:=⟨k - 1,by omega⟩
    simp only[spec_laCommon.l0]
    by_cases h:b=0
    · subst h
      rw[if_neg (by omega)];simp
    · have hm:=Nat.mod_lt a (by omega:b>0)
      rw[if_pos (by omega),if_neg (by omega),Int.tmod_eq_emod_of_nonneg (by omega)]
      have:=ih (a%b) hm b k (by omega)
      rw[Int.natCast_emod]at this
      rw[this,Nat.gcd_comm a b,Nat.gcd_rec b a,Nat.gcd_comm]
theorem ordGo_nodup (n:Int): ∀(l seen:List Int),ordGo n seen l=true→l.Nodup∧ ∀x∈l,x ∉ seen
  | [],_,_ =>⟨List.nodup_nil,fun x hx=>by simp at hx⟩
  |y::ys,seen,h=>by
    simp only[ordGo,Bool.and_eq_true,Bool.not_eq_true',decide_eq_false_iff_not]at h
    obtain⟨a,b⟩:=ordGo_nodup n ys _ h.2
    refine⟨List.nodup_cons.2 ⟨fun hy=>b y hy (by simp),a⟩,fun x hx=> ?_⟩
    rcases List.mem_cons.1 hx with rfl|hx
    · exact h.1.2
    · exact fun hs=>b x hx (List.mem_append_left _ hs)
theorem isOrd_inj {p:List Int} (h:isOrd p=true) (i j:Nat) (hi:i<p.length) (hj:j<p.length) (e:p.getD i 0=p.getD j 0):i=j:=by
  unfold isOrd at h
  simp only[Bool.and_eq_true,decide_eq_true_eq]at h
  have hn:=(ordGo_nodup _ _ _ h.2).1
  have hp:=List.pairwise_iff_getElem.1 hn
  rw[List.getD_eq_getElem?_getD,List.getElem?_eq_getElem hi,List.getD_eq_getElem?_getD,List.getElem?_eq_getElem hj]at e
  simp only[Option.getD_some]at e
  rcases Nat.lt_trichotomy i j with c|c|c
  · exact absurd e (hp i j hi hj c)
  · exact c
  · exact absurd e.symm (hp j i hj hi c)
theorem isOrd_perm {p:List Int} (h:isOrd p=true):PermL p:=by
  obtain⟨h1,h2,h3⟩:=isOrd_facts h
  refine⟨fun i hi=> ?_,fun i j hi hj e=> ?_⟩
  · have:=getD_of_mem p h3 i hi
    unfold stp;omega
  · have a:=getD_of_mem p h3 i hi
    have b:=getD_of_mem p h3 j hj
    unfold stp at e
    exact isOrd_inj h i j hi hj (by omega)
end Go.Proofs.Ytnagcjhgojchlaa.L
namespace Go.Proofs.Ytnagcjhgojchlaa.L
open Go.RowKit Go.Proofs.Ytnagcjhgojchlaa.Q Go.Proofs.YtnagcjhgojchlaaW.PrintWords Go.Proofs.YtnagcjhgojchlaaW.PrintLast
set_option linter.unusedVariables false
set_option linter.unusedSimpArgs false
theorem sm_ext {g h:Nat→Int}: ∀(d i:Nat),(∀j,i≤j→j<i+d→g j=h j)→sm g d i=sm h d i
  |0,_,_ =>rfl
  |d+1,i,H=>by
    rw[sm,sm,H i (by omega) (by omega),sm_ext d (i+1) (fun j a b=>H j (by omega) (by omega))]
theorem sm_add (g h:Nat→Int): ∀(d i:Nat),sm (fun j=>g j+h j) d i=sm g d i+sm h d i
  |0,_ =>rfl
  |d+1,i=>by
    rw[sm,sm,sm,sm_add g h d (i+1)]
    omega
theorem sm_cat (g:Nat→Int): ∀(d e i:Nat),sm g (d+e) i=sm g d i+sm g e (i+d)
  |0,e,i=>by simp[sm]
  |d+1,e,i=>by
    rw[show d+1+e=(d+e)+1 by omega,sm,sm,sm_cat g d e (i+1),show i+1+d=i+(d+1) by omega]
    omega
theorem sm_move (g:Nat→Int) (t:Nat): ∀(d i:Nat),sm (fun j=>g (j+t)) d i=sm g d (i+t)
  |0,_ =>rfl
  |d+1,i=>by
    rw[sm,sm,sm_move g t d (i+1),show i+1+t=i+t+1 by omega]
theorem cn_add (F:Int→Int) (v:Int): ∀(d e:Nat) (j:Int),cn F v (d+e) j=cn F v d j+cn F v e (j+d)
  |0,e,j=>by simp[cn]
  |d+1,e,j=>by
    rw[show d+1+e=(d+e)+1 by omega,cn,cn,cn_add F v d e (j+1),show j+1+(d:Int)=j+((d+1:Nat):Int) by omega]
    omega
theorem cn_sm (F:Int→Int) (v:Int): ∀(d i:Nat) (a:Int),cn F v d (a+i)=sm (fun t=>if F (a+t)<v then 1 else 0) d i
  |0,_,_ =>rfl
  |d+1,i,a=>by
    have:=cn_sm F v d (i+1) a
    rw[show a+((i+1:Nat):Int)=a+i+1 by omega]at this
    rw[cn,sm,this]
def ct (n v x:Int):Nat→Int
  |0=>0
  |D+1=>ct n v x D+(if x+n*D<v then 1 else 0)
theorem F_far {F:Int→Int} {n:Nat} (hF: ∀j,F (j+n)=F j+n): ∀(D:Nat) (j:Int),F (j+n*D)=F j+n*D
  |0,j=>by simp
  |D+1,j=>by
    have e:(n:Int)*((D+1:Nat):Int)=n*D+n:=by rw[show((D+1:Nat):Int)=(D:Int)+1 by omega,Int.mul_add,Int.mul_one]
    rw[e,←Int.add_assoc,hF,F_far hF D j]
    omega
theorem cn_ct {F:Int→Int} {n:Nat} (hF: ∀j,F (j+n)=F j+n) (v:Int) (a:Int): ∀D:Nat,cn F v (n*D) a=sm (fun t=>ct n v (F (a+t)) D) n 0
  |0=>by
    simp only[Nat.mul_zero,cn,ct]
    have: ∀d i,sm (fun _ =>(0:Int)) d i=0:=by
      intro d;induction d with
      |zero=>intro i;rfl
      |succ d ih=>intro i;rw[sm,ih];rfl
    rw[this]
  |D+1=>by
    rw[Nat.mul_succ,cn_add,cn_ct hF v a D]
    have e:=cn_sm F v n 0 (a+((n*D:Nat):Int))
    rw[show a+((n*D:Nat):Int)+((0:Nat):Int)=a+((n*D:Nat):Int) by omega]at e
    rw[e,←sm_add]
    refine sm_ext _ _ fun t _ _ => ?_
    rw[ct,show a+((n*D:Nat):Int)+(t:Int)=a+t+n*D by rw[Int.natCast_mul];omega,F_far hF]
theorem ct_eq (n v x:Int) (hn:0<n): ∀D:Nat,ct n v x D=max 0 (min (D:Int) (-((x - v) / n)))
  |0=>by simp only[ct];omega
  |D+1=>by
    rw[ct,ct_eq n v x hn D]
    have key:x+n*D<v↔(D:Int)< -((x - v) / n):=by
      constructor
      · intro h
        have h2:(x - v) / n< -(D:Int):=by
          apply Int.ediv_lt_of_lt_mul hn
          rw[Int.neg_mul,Int.mul_comm];omega
        omega
      · intro h
        have h2:(x - v) / n< -(D:Int):=by omega
        have h3:=(Int.ediv_lt_iff_lt_mul hn).mp h2
        rw[Int.neg_mul,Int.mul_comm]at h3;omega
    by_cases c:x+n*D<v
    · have:=key.mp c
      rw[if_pos c];omega
    · have: ¬(D:Int)< -((x - v) / n):=fun h=>c (key.mpr h)
      rw[if_neg c];omega
def pr (p w:List Int) (i j:Nat):Int:=max 0 (w.getD i 0 - w.getD j 0+(if p.getD j 0<p.getD i 0 then 1 else 0) - (if j≤i then 1 else 0))
def shi (p w:List Int):Int:=sm (fun i=>sm (fun j=>pr p w i j) p.length 0) p.length 0
theorem div_off (n x c:Int) (hn:0<n) (h1: -n<c) (h2:c<n):(c+n*x) / n=x+(if c<0 then -1 else 0):=by
  rw[Int.add_mul_ediv_left _ _ (by omega)]
  by_cases h:c<0
  · rw[if_pos h]
    have:c / n= -1:=by
      have:=(Int.ediv_emod_unique hn (a:=c) (r:=c+n) (q:= -1)).mpr ⟨by omega,by omega,by omega⟩
      exact this.1
    omega
  · rw[if_neg h,Int.ediv_eq_zero_of_lt (by omega) h2];omega
theorem cI_pr {F:Int→Int} {p w:List Int} (hF: ∀j,F (j+p.length)=F j+p.length) (hp: ∀j:Nat,j<p.length→0≤p.getD j 0∧p.getD j 0<(p.length:Int)) (hv: ∀j:Nat,j<p.length→F j=p.getD j 0+p.length*w.getD j 0)
    (hw: ∀j:Nat,-20≤w.getD j 0∧w.getD j 0≤20) (i:Nat) (hi:i<p.length):cn F (F (i:Int)) (p.length*43) ((i:Int)+1)=sm (fun j=>pr p w i j) p.length 0:=by
  have hn:0<(p.length:Int):=by omega
  rw[cn_ct hF]
  have hterm: ∀(j:Nat),j<p.length→ ∀(e:Int),0≤e→e≤1→ct (p.length:Int) (F (i:Int)) (F (j:Int)+p.length*e) 43=max 0 (w.getD i 0 - w.getD j 0+(if p.getD j 0<p.getD i 0 then 1 else 0) - e):=by
    intro j hj e a4 a5
    rw[ct_eq _ _ _ hn,hv i hi,hv j hj]
    have a:=hp i hi
    have b:=hp j hj
    have c:=hw i
    have d:=hw j
    rw[show p.getD j 0+(p.length:Int)*w.getD j 0+p.length*e - (p.getD i 0+p.length*w.getD i 0)=(p.getD j 0 - p.getD i 0)+p.length*(w.getD j 0+e - w.getD i 0) by
      rw[Int.mul_sub,Int.mul_add];omega]
    rw[div_off _ _ _ hn (by omega) (by omega)]
    by_cases hc:p.getD j 0<p.getD i 0
    · rw[if_pos hc,if_pos (by omega)];omega
    · rw[if_neg hc,if_neg (by omega)];omega
  obtain⟨r,hr⟩: ∃r,p.length=(i+1)+r:=⟨p.length - (i+1),by omega⟩
  have e1:sm (fun t=>ct (p.length:Int) (F (i:Int)) (F ((i:Int)+1+t)) 43) p.length 0=sm (fun t=>ct (p.length:Int) (F (i:Int)) (F ((i:Int)+1+t)) 43) r 0+sm (fun t=>ct (p.length:Int) (F (i:Int)) (F ((i:Int)+1+t)) 43) (i+1) (0+r):=by
    have:=sm_cat (fun t=>ct (p.length:Int) (F (i:Int)) (F ((i:Int)+1+t)) 43) r (i+1) 0
    rw[show r+(i+1)=p.length by omega]at this
    exact this
  have e2:sm (fun j=>pr p w i j) p.length 0=sm (fun j=>pr p w i j) (i+1) 0+sm (fun j=>pr p w i j) r (0+(i+1)):=by
    have:=sm_cat (fun j=>pr p w i j) (i+1) r 0
    rw[show i+1+r=p.length by omega]at this
    exact this
  rw[e1,e2,←sm_move (fun j=>pr p w i j) (i+1) r 0,←sm_move _ r (i+1) 0,Int.add_comm]
  congr 1
  · refine sm_ext _ _ fun t _ ht=> ?_
    have:=hterm t (by omega) 1 (by omega) (by omega)
    rw[Int.mul_one,←hF,show(t:Int)+p.length=(i:Int)+1+((t+r:Nat):Int) by omega]at this
    show ct _ _ (F ((i:Int)+1+((t+r:Nat):Int))) 43= _
    rw[this,pr,if_pos (show t≤i by omega)]
  · refine sm_ext _ _ fun t _ ht=> ?_
    have:=hterm (t+(i+1)) (by omega) 0 (by omega) (by omega)
    rw[Int.mul_zero,Int.add_zero,show((t+(i+1):Nat):Int)=(i:Int)+1+(t:Int) by omega]at this
    show ct _ _ (F ((i:Int)+1+(t:Int))) 43=pr p w i (t+(i+1))
    rw[this,pr,if_neg (show¬t+(i+1)≤i by omega)]
theorem sm_list (g:Nat→Int): ∀(d i:Nat),sm g d i=((List.range' i d).map g).sum
  |0,_ =>rfl
  |d+1,i=>by rw[sm,sm_list g d (i+1),List.range'_succ];simp
theorem nodup_perm: ∀(l1 l2:List Nat),l1.Nodup→(∀x∈l1,x∈l2)→l2.length≤l1.length→l1.Perm l2
  | [],l2,_,_,h=>by
    have:l2= []:=List.length_eq_zero_iff.1 (by simpa using h)
    rw[this]
  |x::l1,l2,hn,hs,hl=>by
    obtain⟨h1,h2⟩:=List.nodup_cons.1 hn
    have hx:=hs x List.mem_cons_self
    have hp:=List.perm_cons_erase hx
    have ih:=nodup_perm l1 (l2.erase x) h2 (fun y hy=>(List.mem_erase_of_ne (fun e=>h1 (by rw[←e];exact hy))).2 (hs y (List.mem_cons_of_mem _ hy))) (by rw[List.length_erase_of_mem hx];simp at hl;omega)
    exact(ih.cons x).trans hp.symm
theorem psum {a b:List Int} (h:a.Perm b):a.sum=b.sum:=by
  induction h with
  |nil=>rfl
  |cons x _ ih=>simp[ih]
  |swap x y l=>simp;omega
  |trans _ _ h1 h2=>exact h1.trans h2
theorem sm_perm (s:Nat→Nat) (n:Nat) (lt: ∀i,i<n→s i<n) (inj: ∀i j,i<n→j<n→s i=s j→i=j) (g:Nat→Int):sm (fun i=>g (s i)) n 0=sm g n 0:=by
  rw[sm_list,sm_list]
  have hp:((List.range' 0 n).map s).Perm (List.range' 0 n):=by
    refine nodup_perm _ _ ?_ ?_ (by simp)
    · rw[List.Nodup,List.pairwise_map]
      refine List.Pairwise.imp_of_mem ?_ (List.nodup_range' (step:=1) (by omega))
      intro a b ha hb hne e
      have ha:=List.mem_range'_1.1 ha
      have hb:=List.mem_range'_1.1 hb
      exact hne (inj a b (by omega) (by omega) e)
    · intro x hx
      obtain⟨a,ha,rfl⟩:=List.mem_map.1 hx
      have ha:=List.mem_range'_1.1 ha
      have:=lt a (by omega)
      exact List.mem_range'_1.2 (by omega)
  have:=psum (hp.map g)
  rw[List.map_map]at this
  exact this
theorem sm_zero: ∀(d i:Nat),sm (fun _ =>(0:Int)) d i=0
  |0,_ =>rfl
  |d+1,i=>by rw[sm,sm_zero d];rfl
theorem sm_swap2 (f:Nat→Nat→Int) (n:Nat): ∀(d i:Nat),sm (fun i=>sm (fun j=>f i j) n 0) d i=sm (fun j=>sm (fun i=>f i j) d i) n 0
  |0,i=>by simp only[sm];rw[sm_zero]
  |d+1,i=>by
    rw[sm,sm_swap2 f n d (i+1),←sm_add]
    rfl
theorem shi_back (p w b x:List Int) (s:Nat→Nat) (hs: ∀i,i<p.length→p.getD i 0=(s i:Int)) (lt: ∀i,i<p.length→s i<p.length) (inj: ∀i j,i<p.length→j<p.length→s i=s j→i=j) (hl:b.length=p.length)
    (hb: ∀i,i<p.length→b.getD (s i) 0=(i:Int)) (hx: ∀i,i<p.length→x.getD (s i) 0= - w.getD i 0):shi b x=shi p w:=by
  unfold shi
  rw[hl,←sm_perm s p.length lt inj (fun a=>sm (fun c=>pr b x a c) p.length 0),sm_swap2 (fun i j=>pr p w i j) p.length p.length 0]
  refine sm_ext _ _ fun j _ hj=> ?_
  show sm (fun c=>pr b x (s j) c) p.length 0=sm (fun i=>pr p w i j) p.length 0
  rw[←sm_perm s p.length lt inj (fun c=>pr b x (s j) c)]
  refine sm_ext _ _ fun i _ hi=> ?_
  show pr b x (s j) (s i)=pr p w i j
  unfold pr
  rw[hb i (by omega),hb j (by omega),hx i (by omega),hx j (by omega),hs i (by omega),hs j (by omega)]
  by_cases c:i=j
  · subst c
    rw[if_neg (show¬(i:Int)<(i:Int) by omega),if_pos (Nat.le_refl (s i)),if_neg (show¬(s i:Int)<(s i:Int) by omega),if_pos (Nat.le_refl i)]
    omega
  · have hne:s i≠s j:=fun e=>c (inj i j (by omega) (by omega) e)
    by_cases c1:i<j
    · rw[if_pos (show(i:Int)<(j:Int) by omega),if_neg (show¬j≤i by omega)]
      by_cases c2:s i≤s j
      · rw[if_pos c2,if_neg (by omega)];omega
      · rw[if_neg c2,if_pos (by omega)];omega
    · rw[if_neg (show¬(i:Int)<(j:Int) by omega),if_pos (show j≤i by omega)]
      by_cases c2:s i≤s j
      · rw[if_pos c2,if_neg (by omega)];omega
      · rw[if_neg c2,if_pos (by omega)];omega
theorem sum_sm (l:List Int):l.sum=sm (fun j=>l.getD j 0) l.length 0:=by
  induction l with
  |nil=>rfl
  |cons x l ih=>
    rw[List.sum_cons,List.length_cons,sm,ih,←sm_move (fun j=>(x::l).getD j 0) 1 l.length 0]
    rfl
theorem getD_set1 (l:List Int) (i j:Nat) (v:Int) (h:i<l.length):(l.set i v).getD j 0=if i=j then v else l.getD j 0:=by
  rw[List.getD_eq_getElem?_getD,List.getD_eq_getElem?_getD,List.getElem?_set]
  by_cases c:i=j
  · rw[if_pos c,if_pos c,if_pos (by omega)];rfl
  · rw[if_neg c,if_neg c]
theorem backE_get: ∀(l:List Int) (i:Nat) (acc:List Int),(∀x∈l,x.toNat<acc.length)→(l.map Int.toNat).Nodup→
    (∀y,y ∉ l.map Int.toNat→(backE l i acc).getD y 0=acc.getD y 0)∧(∀a,a<l.length→(backE l i acc).getD (l.getD a 0).toNat 0=((i+a:Nat):Int))
  | [],_,_,_,_ =>⟨fun _ _ =>rfl,fun a ha=>by simp at ha⟩
  |x::l,i,acc,hl,hn=>by
    obtain⟨h1,h2⟩:=List.nodup_cons.1 (show(x.toNat::l.map Int.toNat).Nodup from hn)
    obtain⟨g1,g2⟩:=backE_get l (i+1) (acc.set x.toNat (i:Int)) (fun y hy=>by have:=hl y (List.mem_cons_of_mem _ hy);simpa using this) h2
    have hx:=hl x List.mem_cons_self
    refine⟨fun y hy=> ?_,fun a ha=> ?_⟩
    · simp only[List.map_cons,List.mem_cons,not_or]at hy
      rw[backE,g1 y hy.2,getD_set1 _ _ _ _ hx,if_neg (fun e=>hy.1 e.symm)]
    · cases a with
      |zero=>
        show(backE (x::l) i acc).getD x.toNat 0= _
        rw[backE,g1 _ h1,getD_set1 _ _ _ _ hx,if_pos rfl];rfl
      |succ a=>
        rw[List.getD_cons_succ,backE,g2 a (by simpa using ha),show i+1+a=i+(a+1) by omega]
theorem backW_get (w:List Int): ∀(l:List Int) (i:Nat) (acc:List Int),(∀x∈l,x.toNat<acc.length)→(l.map Int.toNat).Nodup→
    (∀y,y ∉ l.map Int.toNat→(backW w l i acc).getD y 0=acc.getD y 0)∧(∀a,a<l.length→(backW w l i acc).getD (l.getD a 0).toNat 0=wrap64 (-(rd w ((i+a:Nat):Int))))
  | [],_,_,_,_ =>⟨fun _ _ =>rfl,fun a ha=>by simp at ha⟩
  |x::l,i,acc,hl,hn=>by
    obtain⟨h1,h2⟩:=List.nodup_cons.1 (show(x.toNat::l.map Int.toNat).Nodup from hn)
    obtain⟨g1,g2⟩:=backW_get w l (i+1) (acc.set x.toNat (wrap64 (-(rd w (i:Int))))) (fun y hy=>by have:=hl y (List.mem_cons_of_mem _ hy);simpa using this) h2
    have hx:=hl x List.mem_cons_self
    refine⟨fun y hy=> ?_,fun a ha=> ?_⟩
    · simp only[List.map_cons,List.mem_cons,not_or]at hy
      rw[backW,g1 y hy.2,getD_set1 _ _ _ _ hx,if_neg (fun e=>hy.1 e.symm)]
    · cases a with
      |zero=>
        show(backW w (x::l) i acc).getD x.toNat 0= _
        rw[backW,g1 _ h1,getD_set1 _ _ _ _ hx,if_pos rfl];rfl
      |succ a=>
        rw[List.getD_cons_succ,backW,g2 a (by simpa using ha),show i+1+a=i+(a+1) by omega]
def bkE (p:List Int):List Int:=backE p 0 (List.replicate p.length 0)
def bkW (p w:List Int):List Int:=backW w p 0 (List.replicate p.length 0)
theorem back_facts (p w:List Int) (h:isTur p w=true):(bkE p).length=p.length∧(bkW p w).length=p.length∧(∀i,i<p.length→(bkE p).getD (stp p i) 0=(i:Int))∧(∀i,i<p.length→(bkW p w).getD (stp p i) 0= - w.getD i 0):=by
  obtain⟨f1,f2,f3,f4,f5,f6,f7⟩:=isTur_facts h
  have hp:=isOrd_perm f1
  have hl: ∀x∈p,x.toNat<(List.replicate p.length (0:Int)).length:=fun x hx=>by have:=f5 x hx;simp;omega
  have hn:(p.map Int.toNat).Nodup:=by
    rw[List.Nodup,List.pairwise_iff_getElem]
    intro i j hi hj hij e
    simp only[List.length_map]at hi hj
    simp only[List.getElem_map]at e
    have:=hp.inj i j hi hj (by unfold stp;rw[List.getD_eq_getElem?_getD,List.getElem?_eq_getElem hi,List.getD_eq_getElem?_getD,List.getElem?_eq_getElem hj];exact e)
    omega
  refine⟨by unfold bkE;rw[backE_length];simp,by unfold bkW;rw[backW_length];simp,fun i hi=> ?_,fun i hi=> ?_⟩
  · have:=(backE_get p 0 _ hl hn).2 i hi
    rw[Nat.zero_add]at this
    exact this
  · have:=(backW_get w p 0 _ hl hn).2 i hi
    rw[Nat.zero_add,rd_get]at this
    have hb:=getD_bound w 20 (fun x hx=>by have:=f6 x hx;omega) (by omega) i
    rw[wrap_id (by omega) (by omega)]at this
    exact this
theorem stp_onto {p:List Int} (hp:PermL p) (y:Nat) (hy:y<p.length): ∃i,i<p.length∧stp p i=y:=by
  have hn:((List.range' 0 p.length).map (stp p)).Perm (List.range' 0 p.length):=by
    refine nodup_perm _ _ ?_ ?_ (by simp)
    · rw[List.Nodup,List.pairwise_map]
      refine List.Pairwise.imp_of_mem ?_ (List.nodup_range' (step:=1) (by omega))
      intro a b ha hb hne e
      have ha:=List.mem_range'_1.1 ha
      have hb:=List.mem_range'_1.1 hb
      exact hne (hp.inj a b (by omega) (by omega) e)
    · intro x hx
      obtain⟨a,ha,rfl⟩:=List.mem_map.1 hx
      have ha:=List.mem_range'_1.1 ha
      have:=hp.lt a (by omega)
      exact List.mem_range'_1.2 (by omega)
  obtain⟨i,hi,e⟩:=List.mem_map.1 (hn.mem_iff.2 (List.mem_range'_1.2 (by omega:0≤y∧y<0+p.length)))
  exact⟨i,by have:=List.mem_range'_1.1 hi;omega,e⟩
theorem stp_get {p:List Int} (hb: ∀x∈p,0≤x∧x≤(p.length:Int) - 1) (i:Nat) (hi:i<p.length):p.getD i 0=(stp p i:Int):=by
  have:=getD_of_mem p hb i hi
  unfold stp;omega
theorem back_tur (p w:List Int) (h:isTur p w=true):isTur (bkE p) (bkW p w)=true:=by
  obtain⟨f1,f2,f3,f4,f5,f6,f7⟩:=isTur_facts h
  have hp:=isOrd_perm f1
  obtain⟨h1,h2,h3,h4⟩:=back_facts p w h
  refine isTur_mk ?_ (by omega) (by omega) ?_ ?_
  · unfold isOrd
    simp only[Bool.and_eq_true,decide_eq_true_eq]
    refine⟨by omega, ?_⟩
    rw[ordGo_iff]
    refine⟨fun x hx=> ?_, ?_,by simp⟩
    · obtain⟨y,hy,rfl⟩:=List.mem_iff_getElem.1 hx
      obtain⟨i,hi,e⟩:=stp_onto hp y (by omega)
      have:=h3 i hi
      rw[e,List.getD_eq_getElem?_getD,List.getElem?_eq_getElem hy]at this
      simp only[Option.getD_some]at this
      omega
    · rw[List.Nodup,List.pairwise_iff_getElem]
      intro y z hy hz hyz e
      obtain⟨i,hi,ei⟩:=stp_onto hp y (by omega)
      obtain⟨j,hj,ej⟩:=stp_onto hp z (by omega)
      have a:=h3 i hi
      have b:=h3 j hj
      rw[ei,List.getD_eq_getElem?_getD,List.getElem?_eq_getElem hy]at a
      rw[ej,List.getD_eq_getElem?_getD,List.getElem?_eq_getElem hz]at b
      simp only[Option.getD_some]at a b
      have:i=j:=by omega
      subst this
      omega
  · intro x hx
    obtain⟨y,hy,rfl⟩:=List.mem_iff_getElem.1 hx
    obtain⟨i,hi,e⟩:=stp_onto hp y (by omega)
    have:=h4 i hi
    rw[e,List.getD_eq_getElem?_getD,List.getElem?_eq_getElem hy]at this
    simp only[Option.getD_some]at this
    have hb:=getD_bound w 20 (fun x hx=>by have:=f6 x hx;omega) (by omega) i
    omega
  · rw[sum_sm,h2,←sm_perm (stp p) p.length hp.lt hp.inj]
    rw[sum_sm,f4]at f7
    have:=sm_add (fun j=>(bkW p w).getD (stp p j) 0) (fun j=>w.getD j 0) p.length 0
    rw[f7,sm_ext (h:=fun _ =>0) p.length 0 (fun j _ hj=>by rw[h4 j (by omega)];omega),sm_zero]at this
    omega
theorem sm_le {g h:Nat→Int}: ∀(d i:Nat),(∀j,i≤j→j<i+d→g j≤h j)→sm g d i≤sm h d i
  |0,_,_ =>Int.le_refl _
  |d+1,i,H=>by
    have a:=H i (by omega) (by omega)
    have b:=sm_le d (i+1) (fun j a b=>H j (by omega) (by omega))
    rw[sm,sm];omega
theorem sm_nought {g:Nat→Int}: ∀(d i:Nat),(∀j,i≤j→j<i+d→0≤g j)→sm g d i=0→ ∀j,i≤j→j<i+d→g j=0
  |0,_,_,_,j,h1,h2=>by omega
  |d+1,i,H,e,j,h1,h2=>by
    rw[sm]at e
    have a:=H i (by omega) (by omega)
    have b:0≤sm g d (i+1):=by
      have:=sm_le (g:=fun _ =>0) (h:=g) d (i+1) (fun j a b=>H j (by omega) (by omega))
      rwa [sm_zero]at this
    by_cases c:j=i
    · subst c;omega
    · exact sm_nought d (i+1) (fun j a b=>H j (by omega) (by omega)) (by omega) j (by omega) (by omega)
theorem pr_nonneg (p w:List Int) (i j:Nat):0≤pr p w i j:=by unfold pr;omega
theorem rising_id (s:Nat→Nat) (n:Nat) (lt: ∀i,i<n→s i<n) (up: ∀i,i+1<n→s i<s (i+1)): ∀i,i<n→s i=i:=by
  have lo: ∀i,i<n→i≤s i:=by
    intro i
    induction i with
    |zero=>intro _;omega
    |succ i ih=>intro hi;have:=ih (by omega);have:=up i (by omega);omega
  have hi: ∀d i,i+d+1=n→s i+d<n:=by
    intro d
    induction d with
    |zero=>intro i h;have:=lt i (by omega);omega
    |succ d ih=>intro i h;have:=ih (i+1) (by omega);have:=up i (by omega);omega
  intro i h
  have:=lo i h
  have:=hi (n - 1 - i) i (by omega)
  omega
theorem shi_zero (p w:List Int) (h:isTur p w=true):shi p w=0↔(∀i,i<p.length→p.getD i 0=(i:Int)∧w.getD i 0=0):=by
  obtain⟨f1,f2,f3,f4,f5,f6,f7⟩:=isTur_facts h
  have hp:=isOrd_perm f1
  constructor
  · intro e
    have hz: ∀i,i<p.length→ ∀j,j<p.length→pr p w i j=0:=by
      intro i hi j hj
      have a:sm (fun j=>pr p w i j) p.length 0=0:=sm_nought p.length 0 (fun i _ _ =>by
        have:=sm_le (g:=fun _ =>0) (h:=fun j=>pr p w i j) p.length 0 (fun j _ _ =>pr_nonneg p w i j)
        rwa [sm_zero]at this) e i (by omega) (by omega)
      exact sm_nought p.length 0 (fun j _ _ =>pr_nonneg p w i j) a j (by omega) (by omega)
    have hs:sm (fun j=>w.getD j 0) p.length 0=0:=by rw[sum_sm,f4]at f7;exact f7
    have hup: ∀j,j<p.length→0<j→w.getD 0 0≤w.getD j 0∧w.getD j 0≤w.getD 0 0+1:=by
      intro j hj h0
      have a:=hz 0 (by omega) j hj
      have b:=hz j hj 0 (by omega)
      unfold pr at a b
      rw[if_neg (show¬j≤0 by omega)]at a
      rw[if_pos (show 0≤j by omega)]at b
      constructor
      · by_cases c:p.getD j 0<p.getD 0 0
        · rw[if_pos c]at a;omega
        · rw[if_neg c]at a;omega
      · by_cases c:p.getD 0 0<p.getD j 0
        · rw[if_pos c]at b;omega
        · rw[if_neg c]at b;omega
    have a4:w.getD 0 0=0:=by
      obtain⟨m,hm⟩: ∃m,p.length=m+1:=⟨p.length - 1,by omega⟩
      rw[hm,sm,Nat.zero_add]at hs
      by_cases c1:0<w.getD 0 0
      · have:=sm_le (g:=fun _ =>0) (h:=fun j=>w.getD j 0) m 1 (fun j _ _ =>by have:=(hup j (by omega) (by omega)).1;omega)
        rw[sm_zero]at this;omega
      · by_cases c2:w.getD 0 0<0
        · have:=sm_le (g:=fun j=>w.getD j 0) (h:=fun _ =>0) m 1 (fun j _ _ =>by have:=(hup j (by omega) (by omega)).2;omega)
          rw[sm_zero]at this;omega
        · omega
    have hw: ∀j,j<p.length→w.getD j 0=0:=fun j hj=>sm_nought p.length 0 (fun j _ hj=>by
      by_cases c:0<j
      · have:=(hup j (by omega) c).1;omega
      · rw[show j=0 by omega];omega) hs j (by omega) (by omega)
    have hrise:=rising_id (stp p) p.length hp.lt (fun i hi=>by
      have a:=hz i (by omega) (i+1) hi
      unfold pr at a
      rw[hw i (by omega),hw (i+1) hi,if_neg (show¬i+1≤i by omega),stp_get f5 i (by omega),stp_get f5 (i+1) hi]at a
      have hne:stp p i≠stp p (i+1):=fun e=>by have:=hp.inj i (i+1) (by omega) hi e;omega
      by_cases c:((stp p (i+1):Nat):Int)<(stp p i:Int)
      · rw[if_pos c]at a;omega
      · omega)
    intro i hi
    exact⟨by rw[stp_get f5 i hi,hrise i hi],hw i hi⟩
  · intro H
    unfold shi
    rw[sm_ext (h:=fun _ =>0) _ _ fun i _ hi=> ?_,sm_zero]
    show sm (fun j=>pr p w i j) p.length 0=0
    rw[sm_ext (h:=fun _ =>0) _ _ fun j _ hj=> ?_,sm_zero]
    show pr p w i j=0
    unfold pr
    rw[(H i (by omega)).1,(H i (by omega)).2,(H j (by omega)).1,(H j (by omega)).2]
    by_cases c:j<i
    · rw[if_pos (by omega),if_pos (by omega)];omega
    · rw[if_neg (by omega)]
      by_cases c2:j≤i
      · rw[if_pos c2];omega
      · rw[if_neg c2];omega
theorem place_low (p w:List Int) (j:Nat) (hj:j<p.length):placeV p w (j:Int)=p.getD j 0+p.length*w.getD j 0:=by
  unfold placeV
  rw[Int.emod_eq_of_lt (by omega) (by omega),fix_rd,fix_rd];omega
theorem inv_shi (p w:List Int) (h:isTur p w=true):invV p w=shi p w:=by
  obtain⟨f1,f2,f3,f4,f5,f6,f7⟩:=isTur_facts h
  rw[inv_sm p w h]
  refine sm_ext _ _ fun i _ hi=> ?_
  exact cI_pr (place_shift p w) (fun j hj=>by have:=pget p f5 j hj;omega) (place_low p w) (wget w f6) i (by omega)
theorem inv_back (p w:List Int) (h:isTur p w=true):invV (bkE p) (bkW p w)=invV p w:=by
  obtain⟨f1,f2,f3,f4,f5,f6,f7⟩:=isTur_facts h
  have hp:=isOrd_perm f1
  obtain⟨h1,h2,h3,h4⟩:=back_facts p w h
  rw[inv_shi _ _ (back_tur p w h),inv_shi p w h]
  exact shi_back p w _ _ (stp p) (stp_get f5) hp.lt hp.inj h1 h3 h4
end Go.Proofs.Ytnagcjhgojchlaa.L
namespace Go.Proofs.Ytnagcjhgojchlaa.L
open Go.RowKit Go.Proofs.Ytnagcjhgojchlaa.Q Go.Proofs.YtnagcjhgojchlaaW.PrintWords Go.Proofs.YtnagcjhgojchlaaW.PrintLast
set_option linter.unusedVariables false
set_option linter.unusedSimpArgs false
theorem implPoleResult (a:Int) (l:List Int) (k:Nat) (hk:100≤k):impl_PoleResult.f k a l=some (if isPole a l=true then(if isTur (resE a l) (resW a l)=true then(resE a l,resW a l,true)else([],[],false))else([],[],false)):=by
  unfold impl_PoleResult.f
  rw[isPole_eq,Option.bind_some]
  by_cases h:isPole a l=true
  · obtain⟨h1,h2,h3,h4⟩:=isPole_wires h
    rw[if_pos h,if_pos h,(result_at a l ⟨h1,h2⟩ h3 h4 k (by omega)).2,Option.bind_some]
    unfold impl_checkedTurned.f
    simp only[]
    rw[isTurned (resE a l) (resW a l) (by rw[resW,vals_length];omega) k (by rw[resW,vals_length];omega),Option.bind_some]
    cases isTur (resE a l) (resW a l)<;>rfl
  · rw[if_neg h,if_neg h]
end Go.Proofs.Ytnagcjhgojchlaa.L
namespace Go.Proofs.Ytnagcjhgojchlaa.L
open Go.RowKit Go.Proofs.Ytnagcjhgojchlaa.Q Go.Proofs.YtnagcjhgojchlaaW.PrintWords Go.Proofs.YtnagcjhgojchlaaW.PrintLast
set_option linter.unusedVariables false
set_option linter.unusedSimpArgs false
theorem vals_getD (f:Int→Int) (d j:Nat) (h:j<d):(vals f d 0).getD j 0=f (j:Int):=by
  rw[List.getD_eq_getElem?_getD,vals_get f d 0 j h,Int.zero_add];rfl
theorem resE_length (n:Nat) (l:List Int):(resE (n:Int) l).length=n:=by rw[resE,vals_length];omega
theorem resW_length (n:Nat) (l:List Int):(resW (n:Int) l).length=n:=by rw[resW,vals_length];omega
theorem resE_get (n:Nat) (l:List Int) (j:Nat) (hj:j<n):(resE (n:Int) l).getD j 0=pend (n:Int) l (j:Int):=by
  rw[resE,Int.toNat_natCast,vals_getD _ _ _ hj]
theorem resW_get (n:Nat) (l:List Int) (j:Nat) (hj:j<n):(resW (n:Int) l).getD j 0=(pdown (n:Int) l (j:Int)).2:=by
  rw[resW,Int.toNat_natCast,vals_getD _ _ _ hj]
theorem over_nx (n:Nat) (hn:3≤n∧n≤8) (r:Nat) (hr:r<n) (j:Nat) (hj:j<n):(nextP (n:Int) (j:Int) (r:Int)).1=(if j=r then((nx n r:Nat):Int)else if j=nx n r then(r:Int)else(j:Int))∧(nextP (n:Int) (j:Int) (r:Int)).2=(if nx n r=0 then(if j=r then 1 else if j=0 then -1 else 0)else 0):=by
  obtain⟨a,b⟩:=res_at n hn r hr j hj
  rw[resE_get _ _ _ hj]at a
  rw[resW_get _ _ _ hj]at b
  refine⟨a, ?_⟩
  rw[←b]
  show _ =(nextP (n:Int) (j:Int) (r:Int)).2+0
  omega
theorem same_list {a b:List Int} (h:a.length=b.length) (e: ∀j,j<a.length→a.getD j 0=b.getD j 0):a=b:=by
  rw[eq_vals a (fun i=>b.getD i.toNat 0) b.length h (fun j hj=>by rw[e j (by omega)];simp)]
  exact(eq_vals b (fun i=>b.getD i.toNat 0) b.length rfl (fun j hj=>by simp)).symm
theorem resE_cons (n:Nat) (hn:3≤n∧n≤8) (r:Nat) (hr:r<n) (rs:List Int):resE (n:Int) ((r:Int)::rs)=topE (resE (n:Int) rs) r:=by
  refine same_list (by rw[topE_length,resE_length,resE_length]) fun j hj=> ?_
  rw[resE_length]at hj
  obtain⟨h1,h2⟩:=nx_lt n r hn.1 hr
  rw[resE_get _ _ _ hj,topE_get _ _ _ (by rw[resE_length];omega) (by rw[resE_length];omega),resE_length,resE_get _ _ _ hr,resE_get _ _ _ h1,resE_get _ _ _ hj]
  show pend (n:Int) rs (nextP (n:Int) (j:Int) (r:Int)).1= _
  rw[(over_nx n hn r hr j hj).1]
  by_cases c:j=r
  · subst c
    rw[if_pos rfl,if_neg (by omega),if_pos rfl]
  · rw[if_neg c]
    by_cases c2:j=nx n r
    · rw[if_pos c2,if_pos (by omega)]
    · rw[if_neg c2,if_neg (by omega),if_neg (by omega)]
theorem resW_cons (n:Nat) (hn:3≤n∧n≤8) (r:Nat) (hr:r<n) (rs:List Int):resW (n:Int) ((r:Int)::rs)=topW (resW (n:Int) rs) r:=by
  refine same_list (by rw[topW_length,resW_length,resW_length]) fun j hj=> ?_
  rw[resW_length]at hj
  obtain⟨h1,h2⟩:=nx_lt n r hn.1 hr
  rw[resW_get _ _ _ hj,topW_get _ _ _ (by rw[resW_length];omega) (by rw[resW_length];omega),resW_length,resW_get _ _ _ hr,resW_get _ _ _ h1,resW_get _ _ _ hj,resW_get _ _ 0 (by omega)]
  show(nextP (n:Int) (j:Int) (r:Int)).2+(pdown (n:Int) rs (nextP (n:Int) (j:Int) (r:Int)).1).2= _
  rw[(over_nx n hn r hr j hj).1,(over_nx n hn r hr j hj).2]
  by_cases c0:nx n r=0
  · rw[if_pos c0,if_pos c0]
    by_cases c:j=r
    · subst c
      rw[if_pos rfl,if_pos rfl,if_neg (by omega),if_pos rfl,c0]
      show 1+(pdown (n:Int) rs 0).2=(pdown (n:Int) rs 0).2+1
      omega
    · rw[if_neg c,if_neg c]
      by_cases c2:j=0
      · rw[if_pos c2,if_pos (by omega),if_pos (by omega)];omega
      · rw[if_neg c2,if_neg (by omega),if_neg (by omega),if_neg (by omega)];omega
  · rw[if_neg c0,if_neg c0,Int.zero_add]
    by_cases c:j=r
    · subst c
      rw[if_pos rfl,if_neg (by omega),if_pos rfl]
    · rw[if_neg c]
      by_cases c2:j=nx n r
      · rw[if_pos c2,if_pos (by omega)]
      · rw[if_neg c2,if_neg (by omega),if_neg (by omega)]
theorem topE_twice (p:List Int) (r:Nat) (hn:3≤p.length) (hr:r<p.length):topE (topE p r) r=p:=by
  obtain⟨h1,h2⟩:=nx_lt p.length r hn hr
  refine same_list (by rw[topE_length,topE_length]) fun j hj=> ?_
  rw[topE_get _ _ _ (by rw[topE_length];omega) (by rw[topE_length];omega),topE_length,topE_get _ _ _ hn hr,topE_get _ _ _ hn hr,topE_get _ _ _ hn hr]
  by_cases c:nx p.length r=j
  · subst c
    rw[if_pos rfl,if_neg (by omega),if_pos rfl]
  · rw[if_neg c]
    by_cases c2:r=j
    · subst c2
      rw[if_pos rfl,if_pos rfl]
    · rw[if_neg c2,if_neg c,if_neg c2]
theorem topW_twice (w:List Int) (r:Nat) (hn:3≤w.length) (hr:r<w.length):topW (topW w r) r=w:=by
  obtain⟨h1,h2⟩:=nx_lt w.length r hn hr
  refine same_list (by rw[topW_length,topW_length]) fun j hj=> ?_
  have G:=fun k=>topW_get w r k hn hr
  rw[topW_get _ _ _ (by rw[topW_length];omega) (by rw[topW_length];omega),topW_length]
  by_cases c0:nx w.length r=0
  · rw[if_pos c0]
    have G0:(topW w r).getD 0 0=w.getD r 0 - 1:=by rw[G,if_pos c0,if_pos rfl]
    have Gr:(topW w r).getD r 0=w.getD 0 0+1:=by rw[G,if_pos c0,if_neg (by omega),if_pos rfl]
    by_cases c:0=j
    · rw[if_pos c,Gr,←c];omega
    · rw[if_neg c]
      by_cases c2:r=j
      · rw[if_pos c2,G0,←c2];omega
      · rw[if_neg c2,G,if_pos c0,if_neg c,if_neg c2]
  · rw[if_neg c0]
    have G0:(topW w r).getD (nx w.length r) 0=w.getD r 0:=by rw[G,if_neg c0,if_pos rfl]
    have Gr:(topW w r).getD r 0=w.getD (nx w.length r) 0:=by rw[G,if_neg c0,if_neg (by omega),if_pos rfl]
    by_cases c:nx w.length r=j
    · rw[if_pos c,Gr,←c]
    · rw[if_neg c]
      by_cases c2:r=j
      · rw[if_pos c2,G0,←c2]
      · rw[if_neg c2,G,if_neg c0,if_neg c,if_neg c2]
theorem desc_has (p w:List Int): ∀(d:Nat) (i:Int) (acc:List Int) (x:Int),(x∈acc∨(i≤x∧x<i+d∧placeV p w (x+1)<placeV p w x))→x∈desc p w d i acc
  |0,i,acc,x,h=>by
    rcases h with h|h
    · exact h
    · omega
  |d+1,i,acc,x,h=>by
    rw[desc]
    refine desc_has p w d (i+1) _ x ?_
    rcases h with h|⟨h1,h2,h3⟩
    · refine Or.inl ?_
      split
      · exact List.mem_append.2 (Or.inl h)
      · exact h
    · by_cases c:x=i
      · subst c
        rw[if_pos h3]
        exact Or.inl (List.mem_append.2 (Or.inr (List.mem_singleton.2 rfl)))
      · exact Or.inr ⟨by omega,by omega,h3⟩
theorem inv_none (p w:List Int) (h:isTur p w=true) (hd:descV p w= []):invV p w=0:=by
  obtain⟨f1,f2,f3,f4,f5,f6,f7⟩:=isTur_facts h
  have a4: ∀j:Nat,j<p.length→placeV p w (j:Int)≤placeV p w ((j:Int)+1):=by
    intro j hj
    by_cases c:placeV p w ((j:Int)+1)<placeV p w (j:Int)
    · have:=desc_has p w p.length 0 [] (j:Int) (Or.inr ⟨by omega,by omega,c⟩)
      have e:desc p w p.length 0 []= []:=hd
      rw[e]at this
      cases this
    · omega
  have far:=F_far (place_shift p w)
  have up: ∀j:Nat,placeV p w (j:Int)≤placeV p w ((j:Int)+1):=by
    intro j
    have hj:=Nat.div_add_mod j p.length
    have hm:=Nat.mod_lt j (show p.length>0 by omega)
    have a:=a4 (j%p.length) hm
    have b:=far (j / p.length) ((j%p.length:Nat):Int)
    have c:=far (j / p.length) (((j%p.length:Nat):Int)+1)
    have e:(j:Int)=((j%p.length:Nat):Int)+(p.length:Int)*((j / p.length:Nat):Int):=by rw[←Int.natCast_mul];omega
    rw[e,show((j%p.length:Nat):Int)+(p.length:Int)*((j / p.length:Nat):Int)+1=((j%p.length:Nat):Int)+1+(p.length:Int)*((j / p.length:Nat):Int) by omega,b,c]
    omega
  have ups: ∀(t i:Nat),placeV p w (i:Int)≤placeV p w ((i:Int)+(t:Int)):=by
    intro t
    induction t with
    |zero=>intro i;rw[show(i:Int)+((0:Nat):Int)=(i:Int) by omega];omega
    |succ t ih=>
      intro i
      have a:=ih i
      have b:=up (i+t)
      rw[show((i+t:Nat):Int)=(i:Int)+(t:Int) by omega]at b
      rw[show(i:Int)+((t+1:Nat):Int)=(i:Int)+(t:Int)+1 by omega]
      omega
  have none: ∀(d i t:Nat),cn (placeV p w) (placeV p w (i:Int)) d ((i:Int)+(t:Int))=0:=by
    intro d
    induction d with
    |zero=>intro i t;rfl
    |succ d ih=>
      intro i t
      have a:=ups t i
      have b:=ih i (t+1)
      rw[show(i:Int)+((t+1:Nat):Int)=(i:Int)+(t:Int)+1 by omega]at b
      rw[cn,b,if_neg (by omega)];rfl
  rw[inv_sm p w h,sm_ext (h:=fun _ =>0) _ _ fun i _ hi=> ?_,sm_zero]
  exact none (p.length*43) i 1
theorem inv_desc (p w:List Int) (h:isTur p w=true):invV p w=0↔descV p w= []:=
  ⟨fun e=>desc_zero p w h (by omega),inv_none p w h⟩
theorem lrun_acc: ∀(m:Nat) (p w acc:List Int),lrun m p w acc=acc++lrun m p w []
  |0,_,_,acc=>by simp[lrun]
  |m+1,p,w,acc=>by
    rw[lrun,lrun]
    match hd:descV p w with
    | []=>simp
    |r::rs=>
      show lrun m (topE p r.toNat) (topW w r.toNat) (acc++ [r])=acc++lrun m (topE p r.toNat) (topW w r.toNat) ([]++ [r])
      rw[lrun_acc m _ _ (acc++ [r]),lrun_acc m _ _ ([]++ [r])]
      simp
theorem lrun_facts: ∀(m:Nat) (p w:List Int),isTur p w=true→invV p w≤m→resE (p.length:Int) (lrun m p w [])=p∧resW (p.length:Int) (lrun m p w [])=w∧((lrun m p w []).length:Int)=invV p w∧(∀x∈lrun m p w [],0≤x∧x≤(p.length:Int) - 1)
  |m,p,w,h,hi=>by
    obtain⟨f1,f2,f3,f4,f5,f6,f7⟩:=isTur_facts h
    have a4:=inv_pos p w h
    have home:invV p w=0→resE (p.length:Int) []=p∧resW (p.length:Int) []=w:=by
      intro e
      rw[inv_shi p w h]at e
      have H:=(shi_zero p w h).1 e
      refine⟨same_list (resE_length _ _) fun j hj=> ?_,same_list (by rw[resW_length];omega) fun j hj=> ?_⟩
      · rw[resE_length]at hj
        rw[resE_get _ _ _ hj,(H j hj).1];rfl
      · rw[resW_length]at hj
        rw[resW_get _ _ _ hj,(H j hj).2];rfl
    match m with
    |0=>
      obtain⟨a,b⟩:=home (by omega)
      exact⟨a,b,by show((0:Nat):Int)= _;omega,by intro x hx;cases hx⟩
    |m+1=>
      match hd:descV p w with
      | []=>
        have e:=inv_none p w h hd
        obtain⟨a,b⟩:=home e
        have el:lrun (m+1) p w []= []:=by rw[lrun,hd]
        rw[el]
        exact⟨a,b,by show((0:Nat):Int)= _;omega,by intro x hx;cases hx⟩
      |r::rs=>
        obtain⟨h1,h2,h3⟩:=desc_head p w h r rs hd
        have t1:=top_tur p w h r.toNat h2 h3
        have t2:=inv_top p w h r.toNat h2 h3
        obtain⟨a,b,c,d⟩:=lrun_facts m _ _ t1 (by omega)
        rw[topE_length]at a b d
        have el:lrun (m+1) p w []=((r.toNat:Nat):Int)::lrun m (topE p r.toNat) (topW w r.toNat) []:=by
          rw[lrun,hd]
          show lrun m (topE p r.toNat) (topW w r.toNat) ([]++ [r])= _
          rw[lrun_acc,Int.toNat_of_nonneg h1];rfl
        rw[el,resE_cons p.length ⟨f2,f3⟩ r.toNat h2,resW_cons p.length ⟨f2,f3⟩ r.toNat h2,a,b,topE_twice p _ f2 h2,topW_twice w _ (by omega) (by omega)]
        refine⟨rfl,rfl,by rw[List.length_cons];omega, ?_⟩
        intro x hx
        rcases List.mem_cons.1 hx with rfl|hx
        · omega
        · exact d x hx
end Go.Proofs.Ytnagcjhgojchlaa.L
namespace Go.Proofs.Ytnagcjhgojchlaa.L
open Go.RowKit Go.Proofs.Ytnagcjhgojchlaa.Q Go.Proofs.YtnagcjhgojchlaaW.PrintWords Go.Proofs.YtnagcjhgojchlaaW.PrintLast
set_option linter.unusedVariables false
set_option linter.unusedSimpArgs false
theorem nil_ord: ∀m∈List.range 6,isOrd (resE (((m+3:Nat):Int)) [])=true∧(resW (((m+3:Nat):Int)) []).sum=0:=by decide+kernel
theorem gone (n:Nat) (hn:3≤n∧n≤8): ∀(l:List Int),(∀x∈l,0≤x∧x≤(n:Int) - 1)→ ∀j:Nat,j<n→
    (0≤pend (n:Int) l (j:Int)∧pend (n:Int) l (j:Int)<(n:Int))∧ -(l.length:Int)≤pend (n:Int) l (j:Int)+(n:Int)*(pdown (n:Int) l (j:Int)).2 - (j:Int)∧pend (n:Int) l (j:Int)+(n:Int)*(pdown (n:Int) l (j:Int)).2 - (j:Int)≤(l.length:Int)
  | [],_,j,hj=>by
    refine⟨⟨?_, ?_⟩, ?_, ?_⟩<;>simp only[pend,pdown,List.length_nil]<;>omega
  |r::rs,hl,j,hj=>by
    have hr:=hl r List.mem_cons_self
    obtain⟨q,rfl⟩: ∃q:Nat,r=(q:Int):=⟨r.toNat,by omega⟩
    have hq:q<n:=by omega
    obtain⟨h1,h2⟩:=nx_lt n q hn.1 hq
    obtain⟨a,b⟩:=over_nx n hn q hq j hj
    obtain⟨m,hm,e⟩: ∃m:Nat,m<n∧(nextP (n:Int) (j:Int) (q:Int)).1=(m:Int):=by
      rw[a]
      by_cases c:j=q
      · exact⟨nx n q,h1,by rw[if_pos c]⟩
      · by_cases c2:j=nx n q
        · exact⟨q,hq,by rw[if_neg c,if_pos c2]⟩
        · exact⟨j,hj,by rw[if_neg c,if_neg c2]⟩
    obtain⟨g0,g1,g2⟩:=gone n hn rs (fun x hx=>hl x (List.mem_cons_of_mem _ hx)) m hm
    have near: -1≤(m:Int)+(n:Int)*(nextP (n:Int) (j:Int) (q:Int)).2 - (j:Int)∧(m:Int)+(n:Int)*(nextP (n:Int) (j:Int) (q:Int)).2 - (j:Int)≤1:=by
      rw[←e,a,b]
      unfold nx
      by_cases c0:q+1=n
      · simp only[if_pos c0,if_true]
        by_cases c:j=q
        · simp only[if_pos c];omega
        · simp only[if_neg c]
          by_cases c2:j=0
          · simp only[if_pos c2];omega
          · simp only[if_neg c2];omega
      · have z: ¬q+1=0:=by omega
        simp only[if_neg c0,if_neg z]
        by_cases c:j=q
        · simp only[if_pos c];omega
        · simp only[if_neg c]
          by_cases c2:j=q+1
          · simp only[if_pos c2];omega
          · simp only[if_neg c2];omega
    show(0≤pend (n:Int) rs (nextP (n:Int) (j:Int) (q:Int)).1∧ _)∧ -_ ≤pend (n:Int) rs (nextP (n:Int) (j:Int) (q:Int)).1+(n:Int)*((nextP (n:Int) (j:Int) (q:Int)).2+(pdown (n:Int) rs (nextP (n:Int) (j:Int) (q:Int)).1).2) - (j:Int)∧pend (n:Int) rs (nextP (n:Int) (j:Int) (q:Int)).1+(n:Int)*((nextP (n:Int) (j:Int) (q:Int)).2+(pdown (n:Int) rs (nextP (n:Int) (j:Int) (q:Int)).1).2) - (j:Int)≤ _
    have e2:pend (n:Int) ((q:Int)::rs) (j:Int)=pend (n:Int) rs (nextP (n:Int) (j:Int) (q:Int)).1:=rfl
    rw[e2,e,Int.mul_add,List.length_cons]
    exact⟨g0,by omega,by omega⟩
theorem res_tur (a:Int) (l:List Int) (ha:3≤a∧a≤8) (a4:l.length≤60) (hl: ∀x∈l,0≤x∧x≤a - 1):isTur (resE a l) (resW a l)=true:=by
  obtain⟨n,rfl⟩: ∃n:Nat,a=(n:Int):=⟨a.toNat,by omega⟩
  have hn:3≤n∧n≤8:=by omega
  have key: ∀l:List Int,(∀x∈l,0≤x∧x≤(n:Int) - 1)→isOrd (resE (n:Int) l)=true∧(resW (n:Int) l).sum=0:=by
    intro l
    induction l with
    |nil=>
      intro _
      have:=nil_ord (n - 3) (List.mem_range.2 (by omega))
      rwa [show n - 3+3=n by omega]at this
    |cons r rs ih=>
      intro hl
      have hr:=hl r List.mem_cons_self
      obtain⟨q,rfl⟩: ∃q:Nat,r=(q:Int):=⟨r.toNat,by omega⟩
      have hq:q<n:=by omega
      obtain⟨i1,i2⟩:=ih (fun x hx=>hl x (List.mem_cons_of_mem _ hx))
      rw[resE_cons n hn q hq,resW_cons n hn q hq,topW_sum _ _ (by rw[resW_length];omega) (by rw[resW_length];omega)]
      exact⟨topE_ord _ i1 (by rw[resE_length];omega) q (by rw[resE_length];omega),i2⟩
  obtain⟨k1,k2⟩:=key l hl
  refine isTur_mk k1 (by rw[resE_length];omega) (by rw[resE_length,resW_length]) ?_ k2
  intro x hx
  obtain⟨j,hj,rfl⟩:=List.mem_iff_getElem.1 hx
  rw[resW_length]at hj
  have g:=gone n hn l hl j hj
  have e:=resW_get n l j hj
  rw[List.getD_eq_getElem?_getD,List.getElem?_eq_getElem (by rw[resW_length];omega)]at e
  simp only[Option.getD_some]at e
  rw[e]
  generalize (pdown (n:Int) l (j:Int)).2=x at g
  have hc:n=3∨n=4∨n=5∨n=6∨n=7∨n=8:=by omega
  rcases hc with rfl|rfl|rfl|rfl|rfl|rfl<;>omega
end Go.Proofs.Ytnagcjhgojchlaa.L
namespace Go.Proofs.Ytnagcjhgojchlaa.L
open Go.RowKit Go.Proofs.Ytnagcjhgojchlaa.Q Go.Proofs.YtnagcjhgojchlaaW.PrintWords Go.Proofs.YtnagcjhgojchlaaW.PrintLast
set_option linter.unusedVariables false
set_option linter.unusedSimpArgs false
theorem place_then (e f p w:List Int) (hn:0<e.length) (hf:f.length=e.length) (hl:p.length=e.length) (he: ∀j:Nat,j<e.length→0≤e.getD j 0∧e.getD j 0<(e.length:Int)) (k:Int):
    placeV (upto (fun j=>p.getD (e.getD j 0).toNat 0) e.length 0) (upto (fun j=>f.getD j 0+w.getD (e.getD j 0).toNat 0) e.length 0) k=placeV p w (placeV e f k):=by
  have m0:=Int.emod_nonneg k (show(e.length:Int)≠0 by omega)
  have m1:=Int.emod_lt_of_pos k (show 0<(e.length:Int) by omega)
  obtain⟨r,hr⟩: ∃r:Nat,k%(e.length:Int)=(r:Int):=⟨(k%(e.length:Int)).toNat,by omega⟩
  have hr':r<e.length:=by omega
  obtain⟨h0,h1⟩:=he r hr'
  obtain⟨q,hq⟩: ∃q:Nat,e.getD r 0=(q:Int):=⟨(e.getD r 0).toNat,by omega⟩
  have hd:=Int.mul_ediv_add_emod k (e.length:Int)
  have x:placeV e f k=(q:Int)+(e.length:Int)*(f.getD r 0+k / (e.length:Int)):=by
    unfold placeV
    rw[hr,rd_get,rd_get,hq,Int.mul_add];omega
  have xm:((q:Int)+(e.length:Int)*(f.getD r 0+k / (e.length:Int)))%(e.length:Int)=(q:Int):=by
    rw[Int.add_mul_emod_self_left,Int.emod_eq_of_lt (by omega) (by omega)]
  rw[x]
  unfold placeV
  rw[upto_length,hl,xm,hr,rd_get,rd_get,rd_get,rd_get,upto_get _ _ _ _ hr',upto_get _ _ _ _ hr',Nat.zero_add,hq,Int.toNat_natCast,Int.mul_add,Int.mul_add]
  omega
end Go.Proofs.Ytnagcjhgojchlaa.L
namespace Go.Proofs.Ytnagcjhgojchlaa.L
open Go.RowKit Go.Proofs.Ytnagcjhgojchlaa.Q Go.Proofs.YtnagcjhgojchlaaW.PrintWords Go.Proofs.YtnagcjhgojchlaaW.PrintLast
set_option linter.unusedVariables false
set_option linter.unusedSimpArgs false
theorem rd_getE (l:List Int) (i:Nat):rd l (i:Int)=l.getD i 0:=by simp[rd]
theorem equal_l0 (a b:List Int) (hl:a.length=b.length) (hb:a.length≤8): ∀(d i k:Nat),i+d=a.length→d<k→slices_Equal_int_int.l0 k a b (a.length:Int) (i:Int)=some (decide (∀j,j<a.length→i≤j→a.getD j 0=b.getD j 0))
  |0,i,k,h,hk=>by
    obtain⟨k,rfl⟩: ∃m,k=m+1:=⟨k - 1,by omega⟩
    simp only[slices_Equal_int_int.l0]
    rw[if_neg (by omega)]
    congr 1
    symm
    exact decide_eq_true (fun j h1 h2=>by omega)
  |d+1,i,k,h,hk=>by
    obtain⟨k,rfl⟩: ∃m,k=m+1:=⟨k - 1,by omega⟩
    simp only[slices_Equal_int_int.l0]
    rw[if_pos (by omega),if_pos (by omega),if_pos (by omega),if_pos (by omega),rd_getE,rd_getE]
    by_cases e:a.getD i 0=b.getD i 0
    · rw[if_pos e,wrap_id (by omega) (by omega),show((i:Int)+1)=((i+1:Nat):Int) by omega,equal_l0 a b hl hb d (i+1) k (by omega) (by omega)]
      congr 1
      rw[decide_eq_decide]
      constructor
      · intro H j h1 h2
        by_cases c:j=i
        · subst c;exact e
        · exact H j h1 (by omega)
      · exact fun H j h1 h2=>H j h1 (by omega)
    · rw[if_neg e]
      congr 1
      symm
      exact decide_eq_false (fun H=>e (H i (by omega) (by omega)))
theorem equalL (a b:List Int) (hl:a.length=b.length) (hb:a.length≤8) (k:Nat) (hk:20≤k):slices_Equal_int_int.f k a b=some (decide (∀j,j<a.length→a.getD j 0=b.getD j 0)):=by
  unfold slices_Equal_int_int.f
  rw[if_pos (by omega)]
  have:=equal_l0 a b hl hb a.length 0 k (by omega) (by omega)
  simpa using this
end Go.Proofs.Ytnagcjhgojchlaa.L
namespace Go.Proofs.Ytnagcjhgojchlaa.L
open Go.RowKit Go.Proofs.Ytnagcjhgojchlaa.Q Go.Proofs.YtnagcjhgojchlaaW.PrintWords Go.Proofs.YtnagcjhgojchlaaW.PrintLast
set_option linter.unusedVariables false
set_option linter.unusedSimpArgs false
theorem ident_l0 (n:Nat) (hn:n≤8): ∀(d i k:Nat) (a:List Int),i+d=n→a.length≤i→d<k→impl_identity.l0 k a (n:Int) (i:Int)=some (a++upto (fun j=>(j:Int)) d i)
  |0,i,k,a,h,ha,hk=>by
    obtain⟨k,rfl⟩: ∃m,k=m+1:=⟨k - 1,by omega⟩
    simp only[impl_identity.l0,upto,List.append_nil]
    rw[if_neg (by omega)]
  |d+1,i,k,a,h,ha,hk=>by
    obtain⟨k,rfl⟩: ∃m,k=m+1:=⟨k - 1,by omega⟩
    simp only[impl_identity.l0,upto]
    rw[if_pos (by omega),if_pos (by omega),wrap_id (by omega) (by omega),show((i:Int)+1)=((i+1:Nat):Int) by omega,ident_l0 n hn d (i+1) k (a++ [(i:Int)]) (by omega) (by simp;omega) (by omega)]
    simp
theorem identN (n:Nat) (hn:n≤8) (k:Nat) (hk:20≤k):impl_identity.f k (n:Int)=some (upto (fun j=>(j:Int)) n 0):=by
  unfold impl_identity.f
  have:=ident_l0 n hn n 0 k [] (by omega) (by simp) (by omega)
  simpa using this
theorem then_l0g (e p:List Int) (he: ∀j:Nat,j<e.length→0≤e.getD j 0∧e.getD j 0<(p.length:Int)) (hn:e.length≤8): ∀(d i k:Nat) (a:List Int),i+d=e.length→d<k→a.length≤i→
    impl_then.l0 k p a e (e.length:Int) (i:Int)=some (a++upto (fun j=>p.getD (e.getD j 0).toNat 0) d i)
  |0,i,k,a,h,hk,ha=>by
    obtain⟨k,rfl⟩: ∃m,k=m+1:=⟨k - 1,by omega⟩
    simp only[impl_then.l0,upto,List.append_nil]
    rw[if_neg (by omega)]
  |d+1,i,k,a,h,hk,ha=>by
    obtain⟨k,rfl⟩: ∃m,k=m+1:=⟨k - 1,by omega⟩
    have h1:=he i (by omega)
    obtain⟨q,hq⟩: ∃q:Nat,e.getD i 0=q:=⟨(e.getD i 0).toNat,by omega⟩
    have ih:=then_l0g e p he hn d (i+1) k (a++ [p.getD q 0]) (by omega) (by omega) (by simp;omega)
    simp only[impl_then.l0]
    rw[if_pos (by omega),if_pos (by omega),if_pos (by omega),show rd e (i:Int)=(q:Int) by rw[rd_get,hq],if_pos (by omega),if_pos (by omega),if_pos (by omega)]
    rw[rd_get,wrap_id (n:=(i:Int)+1) (by omega) (by omega),upto,hq,Int.toNat_natCast,show((i:Int)+1)=((i+1:Nat):Int) by omega,ih]
    simp
theorem thenG (e p:List Int) (he: ∀j:Nat,j<e.length→0≤e.getD j 0∧e.getD j 0<(p.length:Int)) (hn:e.length≤8) (k:Nat) (hk:20≤k):impl_then.f k e p=some (upto (fun j=>p.getD (e.getD j 0).toNat 0) e.length 0):=by
  unfold impl_then.f
  have:=then_l0g e p he hn e.length 0 k [] (by omega) (by omega) (by simp)
  simpa using this
def pw (p:List Int) (m:Nat):List Int:=upto (fun j=>((itr p m j:Nat):Int)) p.length 0
theorem pw_length (p:List Int) (m:Nat):(pw p m).length=p.length:=upto_length _ _ _
theorem pw_get (p:List Int) (m j:Nat) (h:j<p.length):(pw p m).getD j 0=((itr p m j:Nat):Int):=by
  unfold pw
  rw[upto_get _ _ _ _ h,Nat.zero_add]
theorem get_stp {p:List Int} (hb: ∀x∈p,0≤x∧x≤(p.length:Int) - 1) (i:Nat) (h:i<p.length):p.getD i 0=((stp p i:Nat):Int):=by
  have:=getD_of_mem p hb i h
  unfold stp;omega
theorem pw_one {p:List Int} (hb: ∀x∈p,0≤x∧x≤(p.length:Int) - 1):p=pw p 1:=by
  refine(eq_upto p).trans ?_
  unfold pw
  refine upto_congr _ _ fun j _ hj=> ?_
  rw[get_stp hb j (by omega)];rfl
theorem pw_range {p:List Int} (hp:PermL p) (m j:Nat) (h:j<p.length):0≤(pw p m).getD j 0∧(pw p m).getD j 0<(p.length:Int):=by
  have:=itr_lt hp m j h
  rw[pw_get _ _ _ h];omega
theorem pw_next {p:List Int} (hp:PermL p) (hb: ∀x∈p,0≤x∧x≤(p.length:Int) - 1) (m:Nat):upto (fun j=>p.getD ((pw p m).getD j 0).toNat 0) (pw p m).length 0=pw p (m+1):=by
  rw[pw_length]
  refine upto_congr _ _ fun j _ hj=> ?_
  have:=itr_lt hp m j (by omega)
  rw[pw_get _ _ _ (by omega),Int.toNat_natCast,get_stp hb _ this,itr_succ]
theorem home_iff {p:List Int} (h8:p.length≤8) (m k:Nat) (hk:20≤k):slices_Equal_int_int.f k (pw p m) (upto (fun j=>(j:Int)) p.length 0)=some (decide (∀j,j<p.length→itr p m j=j)):=by
  rw[equalL _ _ (by rw[pw_length,upto_length]) (by rw[pw_length];exact h8) k hk]
  congr 1
  rw[decide_eq_decide,pw_length]
  constructor
  · intro H j hj
    have:=H j hj
    rw[pw_get _ _ _ hj,upto_get _ _ _ _ hj]at this
    omega
  · intro H j hj
    rw[pw_get _ _ _ hj,upto_get _ _ _ _ hj,H j hj]
    omega
theorem times_l0 {p:List Int} (hp:PermL p) (hb: ∀x∈p,0≤x∧x≤(p.length:Int) - 1) (h8:p.length≤8) (L:Nat) (hL:L≤1000000000) (hF: ∀m,(∀j,j<p.length→itr p m j=j)↔L ∣ m): ∀(d m k:Nat),m+d=L→0<m→d+30<k→impl_OrderTimes.l0 k p (m:Int) (pw p m)=some ((L:Int),true)
  |0,m,k,h,h0,hk=>by
    obtain⟨k,rfl⟩: ∃q,k=q+1:=⟨k - 1,by omega⟩
    simp only[impl_OrderTimes.l0]
    rw[identN _ h8 k (by omega),Option.bind_some,home_iff h8 m k (by omega),Option.bind_some,decide_eq_true ((hF m).2 (by rw[←h];exact Nat.dvd_refl _)),if_pos rfl,show m=L by omega]
  |d+1,m,k,h,h0,hk=>by
    obtain⟨k,rfl⟩: ∃q,k=q+1:=⟨k - 1,by omega⟩
    simp only[impl_OrderTimes.l0]
    rw[identN _ h8 k (by omega),Option.bind_some,home_iff h8 m k (by omega),Option.bind_some,decide_eq_false (fun e=>by have:=Nat.le_of_dvd h0 ((hF m).1 e);omega),if_neg (by decide)]
    rw[thenG _ _ (fun j hj=>pw_range hp m j (by rwa [pw_length]at hj)) (by rw[pw_length];exact h8) k (by omega),Option.bind_some,pw_next hp hb,wrap_id (by omega) (by omega),show((m:Int)+1)=((m+1:Nat):Int) by omega]
    exact times_l0 hp hb h8 L hL hF d (m+1) k (by omega) (by omega) (by omega)
theorem orderTimes {p:List Int} (ho:isOrd p=true) (L:Nat) (h0:0<L) (hL:L≤1000000000) (hF: ∀m,(∀j,j<p.length→itr p m j=j)↔L ∣ m) (k:Nat) (hk:L+40≤k):impl_OrderTimes.f k p=some ((L:Int),true):=by
  obtain⟨h1,h8,hb⟩:=isOrd_facts ho
  unfold impl_OrderTimes.f
  rw[isOrder p k (by omega),Option.bind_some,if_pos ho]
  have:=times_l0 (isOrd_perm ho) hb h8 L hL hF (L - 1) 1 k (by omega) (by omega) (by omega)
  rw[←pw_one hb]at this
  exact this
def cw (w:List Int) (c:List Int):Int:=(c.map fun i=>w.getD i.toNat 0).sum
theorem power_l1 (p w:List Int) (M:List (List Int)) (n q:Int) (c:List Int) (hc:c.length≤8) (hr: ∀x∈c,0≤x∧x<(w.length:Int)) (hw: ∀j,-20≤w.getD j 0∧w.getD j 0≤20) (t:Int) (x6:List Int): ∀(d i k:Nat) (s:Int),i+d=c.length→(-20*(i:Int)≤s∧s≤20*(i:Int))→d<k→
    ∃k',k≤k'+d+1∧spec_PolePower.l1 k t x6 s M n q c (c.length:Int) (i:Int) p w=(if s+cw w (c.drop i)=0 then((spec_laCommon.f k' t (x6.length:Int)).bind fun g=>(if g=0 then(none)else(spec_PolePower.l0 k' (wrap64 ((wrap64 (Int.tdiv t g))*(x6.length:Int))) M n (wrap64 (q+1)) p w)))else some (0,false))
  |0,i,k,s,h,hs,hk=>by
    obtain⟨k,rfl⟩: ∃m,k=m+1:=⟨k - 1,by omega⟩
    refine⟨k,by omega, ?_⟩
    simp only[spec_PolePower.l1]
    rw[if_neg (by omega),show i=c.length by omega,List.drop_length]
    simp[cw]
  |d+1,i,k,s,h,hs,hk=>by
    obtain⟨k,rfl⟩: ∃m,k=m+1:=⟨k - 1,by omega⟩
    have hx:=hr _ (List.getElem_mem (by omega:i<c.length))
    obtain⟨x,hxe⟩: ∃x:Nat,c[i]=x:=⟨c[i].toNat,by omega⟩
    have hwx:=hw x
    obtain⟨k',h1,h2⟩:=power_l1 p w M n q c hc hr hw t x6 d (i+1) k (s+w.getD x 0) (by omega) (by omega) (by omega)
    refine⟨k',by omega, ?_⟩
    simp only[spec_PolePower.l1]
    rw[if_pos (by omega),if_pos (by omega),if_pos (by omega),rd_nat c i (by omega),hxe,if_pos (by omega),if_pos (by omega),rd_get,wrap_id (n:=s+w.getD x 0) (by omega) (by omega),wrap_id (n:=(i:Int)+1) (by omega) (by omega),show((i:Int)+1)=((i+1:Nat):Int) by omega,h2]
    have hcw:cw w (c.drop i)=w.getD x 0+cw w (c.drop (i+1)):=by
      rw[List.drop_eq_getElem_cons (by omega:i<c.length),hxe]
      simp[cw]
    rw[hcw,Int.add_assoc]
theorem lcm_le8 (t L:Nat) (hL:L≤8) (h0:0<L):Nat.lcm t L≤t*8:=by
  unfold Nat.lcm
  exact Nat.le_trans (Nat.div_le_self _ _) (Nat.mul_le_mul_left t hL)
theorem rdL_nat (M:List (List Int)) (q:Nat) (h:q<M.length):rd_L2 M (q:Int)=M[q]:=by
  unfold rd_L2
  rw[Int.toNat_natCast,List.getD_eq_getElem?_getD,List.getElem?_eq_getElem h];rfl
theorem power_l0 (p w:List Int) (M:List (List Int)) (hM:M.length≤8) (hc: ∀c∈M,0<c.length∧c.length≤8∧ ∀x∈c,0≤x∧x<(w.length:Int)) (hw: ∀j,-20≤w.getD j 0∧w.getD j 0≤20): ∀(d q k:Nat) (t:Nat),q+d=M.length→0<t→t≤8^q→d*40<k→
    spec_PolePower.l0 k (t:Int) M (M.length:Int) (q:Int) p w=some (if(∀c∈M.drop q,cw w c=0)then(((lcms (M.drop q) t:Nat):Int),true)else(0,false))
  |0,q,k,t,h,h0,ht,hk=>by
    obtain⟨k,rfl⟩: ∃m,k=m+1:=⟨k - 1,by omega⟩
    simp only[spec_PolePower.l0]
    rw[if_neg (by omega),show q=M.length by omega,List.drop_length,if_pos (by simp)]
    rfl
  |d+1,q,k,t,h,h0,ht,hk=>by
    obtain⟨k,rfl⟩: ∃m,k=m+1:=⟨k - 1,by omega⟩
    obtain⟨c1,c2,c3⟩:=hc _ (List.getElem_mem (by omega:q<M.length))
    have a5:(8:Nat)^q≤8^8:=Nat.pow_le_pow_right (by omega) (by omega)
    have e8:(8:Nat)^8=16777216:=by decide
    simp only[spec_PolePower.l0]
    rw[if_pos (by omega),if_pos (by omega),if_pos (by omega),rdL_nat M q (by omega)]
    obtain⟨k',g1,g2⟩:=power_l1 p w M (M.length:Int) (q:Int) M[q] c2 c3 hw (t:Int) M[q] M[q].length 0 k 0 (by omega) (by omega) (by omega)
    have a4:spec_PolePower.l1 k (t:Int) M[q] 0 M (M.length:Int) (q:Int) M[q] (M[q].length:Int) 0 p w= _ :=g2
    rw[a4,List.drop_zero,Int.zero_add,List.drop_eq_getElem_cons (by omega:q<M.length)]
    by_cases hz:cw w M[q]=0
    · rw[if_pos hz]
      unfold spec_laCommon.f
      have hg:0<Nat.gcd t M[q].length:=Nat.gcd_pos_of_pos_left _ h0
      have hdv:=Nat.gcd_dvd_left t M[q].length
      have a6:=lcm_le8 t M[q].length c2 c1
      have hle:=Nat.div_le_self t (Nat.gcd t M[q].length)
      have hlcm:t / Nat.gcd t M[q].length*M[q].length=Nat.lcm t M[q].length:=by
        rw[Nat.div_mul_right_comm hdv];rfl
      rw[common_l0 _ _ k' (by omega),Option.bind_some,if_neg (by omega),Int.tdiv_eq_ediv_of_nonneg (by omega),←Int.natCast_ediv]
      generalize t / Nat.gcd t M[q].length=dv at hlcm hle ⊢
      rw[wrap_id (n:=(dv:Int)) (by omega) (by omega),←Int.natCast_mul,hlcm,wrap_id (by omega) (by omega),wrap_id (by omega) (by omega),show((q:Int)+1)=((q+1:Nat):Int) by omega]
      rw[power_l0 p w M hM hc hw d (q+1) k' (Nat.lcm t M[q].length) (by omega) (Nat.lcm_pos h0 c1) (by rw[Nat.pow_succ];omega) (by omega)]
      congr 1
      by_cases hr: ∀c∈M.drop (q+1),cw w c=0
      · rw[if_pos hr,if_pos (by
          intro c hcc
          rcases List.mem_cons.1 hcc with e|e
          · rw[e];exact hz
          · exact hr c e)]
        rfl
      · rw[if_neg hr,if_neg (fun H=>hr fun c hcc=>H c (List.mem_cons_of_mem _ hcc))]
    · rw[if_neg hz,if_neg (fun H=>hz (H _ (List.mem_cons_self)))]
theorem lcms_bound: ∀(C:List (List Int)) (t:Nat),(∀c∈C,0<c.length∧c.length≤8)→lcms C t≤t*8^C.length
  | [],t,_ =>by simp[lcms]
  |c::C,t,h=>by
    obtain⟨a,b⟩:=h c (List.mem_cons_self)
    rw[lcms,List.length_cons,Nat.pow_succ]
    refine Nat.le_trans (lcms_bound C _ (fun x hx=>h x (List.mem_cons_of_mem _ hx))) ?_
    have:=lcm_le8 t c.length b a
    rw[Nat.mul_comm (8^C.length) 8,←Nat.mul_assoc]
    exact Nat.mul_le_mul_right _ this
end Go.Proofs.Ytnagcjhgojchlaa.L
namespace Go.Proofs.Ytnagcjhgojchlaa.L
open Go.RowKit Go.Proofs.Ytnagcjhgojchlaa.Q Go.Proofs.YtnagcjhgojchlaaW.PrintWords Go.Proofs.YtnagcjhgojchlaaW.PrintLast
set_option linter.unusedVariables false
set_option linter.unusedSimpArgs false
def ww (p w:List Int) (m:Nat):List Int:=upto (fun j=>wnd p w m j) p.length 0
theorem ww_length (p w:List Int) (m:Nat):(ww p w m).length=p.length:=upto_length _ _ _
theorem ww_get (p w:List Int) (m j:Nat) (h:j<p.length):(ww p w m).getD j 0=wnd p w m j:=by
  unfold ww
  rw[upto_get _ _ _ _ h,Nat.zero_add]
theorem wnd_bound (p w:List Int) (hw: ∀j,-20≤w.getD j 0∧w.getD j 0≤20): ∀(m i:Nat),-(20*(m:Int))≤wnd p w m i∧wnd p w m i≤20*(m:Int)
  |0,i=>by simp[wnd]
  |m+1,i=>by
    have h1:=hw i
    have h2:=wnd_bound p w hw m (stp p i)
    simp only[wnd]
    omega
theorem ww_one {p w:List Int} (h:w.length=p.length):w=ww p w 1:=by
  refine(eq_upto w).trans ?_
  unfold ww
  rw[h]
  refine upto_congr _ _ fun j _ hj=> ?_
  simp[wnd]
theorem ww_next {p:List Int} (hp:PermL p) (w:List Int) (m:Nat):upto (fun j=>(ww p w m).getD j 0+w.getD ((pw p m).getD j 0).toNat 0) (pw p m).length 0=ww p w (m+1):=by
  rw[pw_length]
  refine upto_congr _ _ fun j _ hj=> ?_
  rw[pw_get _ _ _ (by omega),ww_get _ _ _ _ (by omega),Int.toNat_natCast,wnd_succ]
theorem now_next {p w:List Int} (hp:PermL p) (hb: ∀x∈p,0≤x∧x≤(p.length:Int) - 1) (h8:p.length≤8) (hl:w.length=p.length) (hw: ∀j,-20≤w.getD j 0∧w.getD j 0≤20) (m:Nat) (h1:0<m) (hm:m≤20000000) (k:Nat) (hk:20≤k):impl_thenTurned.f k (pw p m) (ww p w m) p w=some (pw p (m+1),ww p w (m+1)):=by
  rw[thn_at (pw p m) (ww p w m) p w (20*(m:Int)) (fun j hj=>pw_range hp m j (by rwa [pw_length]at hj)) (by rw[ww_length,pw_length]) hl (by omega) ?_ (fun j=>by have:=hw j;omega) (by rw[pw_length];exact h8) k hk,pw_next hp hb,ww_next hp]
  intro j
  by_cases c:j<p.length
  · rw[ww_get _ _ _ _ c];exact wnd_bound p w hw m j
  · rw[List.getD_eq_getElem?_getD,List.getElem?_eq_none (by rw[ww_length];omega)];simp;omega
theorem power_impl {p w:List Int} (hp:PermL p) (hb: ∀x∈p,0≤x∧x≤(p.length:Int) - 1) (h8:p.length≤8) (hl:w.length=p.length) (hw: ∀j,-20≤w.getD j 0∧w.getD j 0≤20) (L:Nat) (hL:L≤20000000) (hF: ∀j,j<p.length→itr p L j=j): ∀(d m k:Nat),m+d=L→0<m→d+30<k→
    impl_PolePower.l0 k (L:Int) ((L:Int) - 1) ((m:Int) - 1) p w (pw p m) (ww p w m)=some (if(∀j,j<p.length→wnd p w L j=0)then((L:Int),true)else(0,false))
  |0,m,k,h,h0,hk=>by
    obtain⟨k,rfl⟩: ∃q,k=q+1:=⟨k - 1,by omega⟩
    have e:m=L:=by omega
    subst e
    simp only[impl_PolePower.l0]
    rw[if_neg (by omega)]
    unfold impl_isHome.f
    rw[pw_length,identN _ h8 k (by omega),Option.bind_some,home_iff h8 m k (by omega),Option.bind_some,decide_eq_true hF,if_pos rfl]
    unfold slices_ContainsFunc_int_int.f
    rw[Option.bind_some,Option.bind_some]
    by_cases c: ∀j,j<p.length→wnd p w m j=0
    · rw[if_pos c]
      have:((ww p w m).any fun x=>x != 0)=false:=by
        rw[List.any_eq_false]
        intro x hx
        obtain⟨j,hj,e⟩:=List.getElem_of_mem hx
        have:=ww_get p w m j (by rwa [ww_length]at hj)
        rw[List.getD_eq_getElem?_getD,List.getElem?_eq_getElem hj]at this
        simp only[Option.getD_some]at this
        rw[←e,this,c j (by rwa [ww_length]at hj)]
        decide
      rw[this];rfl
    · rw[if_neg c]
      have:((ww p w m).any fun x=>x != 0)=true:=by
        rw[List.any_eq_true]
        refine Classical.byContradiction fun H=>c fun j hj=>Classical.byContradiction fun ne=>H ⟨(ww p w m)[j]'(by rw[ww_length];exact hj),List.getElem_mem _, ?_⟩
        have:=ww_get p w m j hj
        rw[List.getD_eq_getElem?_getD,List.getElem?_eq_getElem (by rw[ww_length];exact hj)]at this
        simp only[Option.getD_some]at this
        rw[this]
        simpa using ne
      rw[this];rfl
  |d+1,m,k,h,h0,hk=>by
    obtain⟨k,rfl⟩: ∃q,k=q+1:=⟨k - 1,by omega⟩
    simp only[impl_PolePower.l0]
    rw[if_pos (by omega),now_next hp hb h8 hl hw m h0 (by omega) k (by omega),Option.bind_some]
    have:=power_impl hp hb h8 hl hw L hL hF d (m+1) k (by omega) (by omega) (by omega)
    rw[wrap_id (by omega) (by omega),show(m:Int) - 1+1=((m+1:Nat):Int) - 1 by omega]
    exact this
end Go.Proofs.Ytnagcjhgojchlaa.L
namespace Go.Proofs.Ytnagcjhgojchlaa.L
open Go.RowKit Go.Proofs.Ytnagcjhgojchlaa.Q Go.Proofs.YtnagcjhgojchlaaW.PrintWords Go.Proofs.YtnagcjhgojchlaaW.PrintLast
set_option linter.unusedVariables false
set_option linter.unusedSimpArgs false
def thE (e p:List Int):List Int:=upto (fun j=>p.getD (e.getD j 0).toNat 0) e.length 0
def thW (e f w:List Int):List Int:=upto (fun j=>f.getD j 0+w.getD (e.getD j 0).toNat 0) e.length 0
theorem thn_tur (e f p w:List Int) (h:isTur e f=true) (h':isTur p w=true) (hl:e.length=p.length) (k:Nat) (hk:20≤k):spec_poThen.f k e f p w=some (thE e p,thW e f w)∧impl_thenTurned.f k e f p w=some (thE e p,thW e f w):=by
  obtain⟨f1,f2,f3,f4,f5,f6,f7⟩:=isTur_facts h
  obtain⟨g1,g2,g3,g4,g5,g6,g7⟩:=isTur_facts h'
  have A: ∀j:Nat,j<e.length→0≤e.getD j 0∧e.getD j 0<(p.length:Int):=fun j hj=>by
    have:=getD_of_mem e f5 j hj
    omega
  have B:=getD_bound f 20 f6 (by omega)
  have C:=getD_bound w 20 g6 (by omega)
  exact⟨thn_sat e f p w 20 A f4 g4 (by omega) B C f3 k hk,thn_at e f p w 20 A f4 g4 (by omega) B C f3 k hk⟩
end Go.Proofs.Ytnagcjhgojchlaa.L
namespace Go.Proofs.Ytnagcjhgojchlaa.L
open Go.RowKit Go.Proofs.Ytnagcjhgojchlaa.Q Go.Proofs.YtnagcjhgojchlaaW.PrintWords Go.Proofs.YtnagcjhgojchlaaW.PrintLast
set_option linter.unusedVariables false
set_option linter.unusedSimpArgs false
def leastR (p w:List Int):Int × List Int × Bool:=if isTur p w=true∧invV p w≤60 then((p.length:Int),lrun 60 p w [],true)else(0,[],false)
theorem ex_LeastPole (p w:List Int) (hc:w.length≤35184372088832) (k:Nat) (hk:w.length+4000≤k):spec_LeastPole.f k p w=some (leastR p w)∧impl_LeastPole.f k p w=some (leastR p w):=by
  unfold leastR
  by_cases h:isTur p w=true
  · obtain⟨f1,f2,f3,f4,f5,f6,f7⟩:=isTur_facts h
    by_cases hi:invV p w≤60
    · rw[if_pos ⟨h,hi⟩]
      constructor
      · unfold spec_LeastPole.f
        rw[poTurned p w hc k (by omega),Option.bind_some,if_pos h,poInversions p w h k (by omega),Option.bind_some,decide_eq_false (by omega)]
        obtain⟨k,rfl⟩: ∃q,k=q+1:=⟨k - 1,by omega⟩
        simp only[spec_LeastPole.j0]
        rw[if_neg (by simp)]
        exact spec_run _ 60 0 p w [] k h (by omega) (by omega) (by omega) (by simp) (by omega)
      · unfold impl_LeastPole.f
        rw[isTurned p w hc k (by omega),Option.bind_some,if_pos h,poleInversions p w h,Option.bind_some,decide_eq_false (by omega)]
        obtain⟨k,rfl⟩: ∃q,k=q+1:=⟨k - 1,by omega⟩
        simp only[impl_LeastPole.j0]
        rw[if_neg (by simp),poleDescents p w h,Option.bind_some]
        exact impl_run 60 p w [] k h (by omega) (by simp) (by omega)
    · rw[if_neg (fun c=>hi c.2)]
      constructor
      · unfold spec_LeastPole.f
        rw[poTurned p w hc k (by omega),Option.bind_some,if_pos h,poInversions p w h k (by omega),Option.bind_some,decide_eq_true (by omega)]
        obtain⟨k,rfl⟩: ∃q,k=q+1:=⟨k - 1,by omega⟩
        simp only[spec_LeastPole.j0,if_true]
      · unfold impl_LeastPole.f
        rw[isTurned p w hc k (by omega),Option.bind_some,if_pos h,poleInversions p w h,Option.bind_some,decide_eq_true (by omega)]
        obtain⟨k,rfl⟩: ∃q,k=q+1:=⟨k - 1,by omega⟩
        simp only[impl_LeastPole.j0,if_true]
  · rw[if_neg (fun c=>h c.1)]
    constructor
    · unfold spec_LeastPole.f
      rw[poTurned p w hc k (by omega),Option.bind_some,if_neg h]
      obtain⟨k,rfl⟩: ∃q,k=q+1:=⟨k - 1,by omega⟩
      simp only[spec_LeastPole.j0,if_true]
    · unfold impl_LeastPole.f
      rw[isTurned p w hc k (by omega),Option.bind_some,if_neg h]
      obtain⟨k,rfl⟩: ∃q,k=q+1:=⟨k - 1,by omega⟩
      simp only[impl_LeastPole.j0,if_true]
def invR (p w:List Int):Int × Bool:=if isTur p w=true then(invV p w,true)else(0,false)
theorem ex_PoleInversions (p w:List Int) (hc:w.length≤35184372088832) (k:Nat) (hk:w.length+4000≤k):spec_PoleInversions.f k p w=some (invR p w)∧impl_PoleInversions.f k p w=some (invR p w):=by
  unfold invR
  by_cases h:isTur p w=true
  · rw[if_pos h]
    constructor
    · simp[spec_PoleInversions.f,poTurned p w hc k (by omega),h,poInversions p w h k (by omega)]
    · simp[impl_PoleInversions.f,isTurned p w hc k (by omega),h,poleInversions p w h]
  · rw[if_neg h]
    constructor
    · simp[spec_PoleInversions.f,poTurned p w hc k (by omega),h]
    · simp[impl_PoleInversions.f,isTurned p w hc k (by omega),h]
def descR (p w:List Int):List Int × Bool:=if isTur p w=true then(descV p w,true)else([],false)
theorem ex_PoleDescents (p w:List Int) (hc:w.length≤35184372088832) (k:Nat) (hk:w.length+4000≤k):spec_PoleDescents.f k p w=some (descR p w)∧impl_PoleDescents.f k p w=some (descR p w):=by
  unfold descR
  by_cases h:isTur p w=true
  · rw[if_pos h]
    constructor
    · simp[spec_PoleDescents.f,poTurned p w hc k (by omega),h,poDescents p w h k (by omega)]
    · simp[impl_PoleDescents.f,isTurned p w hc k (by omega),h,poleDescents p w h]
  · rw[if_neg h]
    constructor
    · simp[spec_PoleDescents.f,poTurned p w hc k (by omega),h]
    · simp[impl_PoleDescents.f,isTurned p w hc k (by omega),h]
def backR (p w:List Int):List Int × List Int × Bool:=if isTur p w=true then(bkE p,bkW p w,true)else([],[],false)
theorem ex_BackTurned (p w:List Int) (hc:w.length≤35184372088832) (k:Nat) (hk:w.length+4000≤k):spec_BackTurned.f k p w=some (backR p w)∧impl_BackTurned.f k p w=some (backR p w):=by
  unfold backR
  by_cases h:isTur p w=true
  · obtain⟨f1,f2,f3,f4,f5,f6,f7⟩:=isTur_facts h
    rw[if_pos h]
    unfold bkE bkW
    constructor
    · unfold spec_BackTurned.f
      rw[poTurned p w hc k (by omega),Option.bind_some,if_pos h,if_pos (by omega),if_pos (by omega)]
      have:=backS_l0 p w f3 f4 f5 p p.length 0 k (List.replicate p.length 0) (List.replicate p.length 0) (by omega) (by simp) (by simp) (by omega)
      simpa using this
    · unfold impl_BackTurned.f
      rw[isTurned p w hc k (by omega),Option.bind_some,if_pos h,back p f1 k (by omega),Option.bind_some,if_pos (by omega),if_pos (by omega)]
      have:=backI_l0 p w f3 f4 f5 p (backE p 0 (List.replicate p.length 0)) p.length 0 k (List.replicate p.length 0) (by omega) (by simp) (by omega)
      simpa using this
  · rw[if_neg h]
    constructor
    · unfold spec_BackTurned.f
      rw[poTurned p w hc k (by omega),Option.bind_some,if_neg h]
    · unfold impl_BackTurned.f
      rw[isTurned p w hc k (by omega),Option.bind_some,if_neg h]
theorem ex_IsTurned (p w:List Int) (hc:w.length≤35184372088832) (k:Nat) (hk:w.length+4000≤k):spec_IsTurned.f k p w=some (isTur p w)∧impl_IsTurned.f k p w=some (isTur p w):=by
  constructor
  · unfold spec_IsTurned.f
    rw[poTurned p w hc k (by omega),Option.bind_some]
  · unfold impl_IsTurned.f
    rw[isTurned p w hc k (by omega),Option.bind_some]
def placeR (p w:List Int) (i:Int):Int × Bool:=if isTur p w=true∧(-1000:Int)≤i∧i≤1000 then(placeV p w i,true)else(0,false)
theorem ex_PlaceOf (p w:List Int) (i:Int) (hc:w.length≤35184372088832) (k:Nat) (hk:w.length+4000≤k):spec_PlaceOf.f k p w i=some (placeR p w i)∧impl_PlaceOf.f k p w i=some (placeR p w i):=by
  unfold placeR
  by_cases h:isTur p w=true
  · by_cases h2:(-1000:Int)≤i∧i≤1000
    · have h3:=(place_at p w h i (by omega)).1
      rw[if_pos ⟨h,h2⟩]
      constructor
      · simp[spec_PlaceOf.f,poTurned p w hc k (by omega),h,l1In,h2,h3]
      · simp[impl_PlaceOf.f,isTurned p w hc k (by omega),h,between,h2,h3,place_same]
    · rw[if_neg (fun c=>h2 c.2)]
      constructor
      · simp only[spec_PlaceOf.f,poTurned p w hc k (by omega),h,l1In,decide_eq_false h2,Option.bind_some,if_true]
        rfl
      · simp only[impl_PlaceOf.f,isTurned p w hc k (by omega),h,between,decide_eq_false h2,Option.bind_some,if_true]
        rfl
  · rw[if_neg (fun c=>h c.1)]
    constructor
    · simp[spec_PlaceOf.f,poTurned p w hc k (by omega),h]
    · simp[impl_PlaceOf.f,isTurned p w hc k (by omega),h]
def thenR (p w q v:List Int):List Int × List Int × Bool:=if isTur p w=true∧isTur q v=true∧p.length=q.length∧isTur (thE p q) (thW p w v)=true then(thE p q,thW p w v,true)else([],[],false)
theorem ex_ThenTurned (p w q v:List Int) (hw:w.length≤35184372088832) (hv:v.length≤35184372088832) (k:Nat) (hk:w.length+v.length+4000≤k):spec_ThenTurned.f k p w q v=some (thenR p w q v)∧impl_ThenTurned.f k p w q v=some (thenR p w q v):=by
  have bad: ∀k,spec_ThenTurned.j0 (k+1) true p w q v=some ([],[],false)∧impl_ThenTurned.j0 (k+1) true p w q v=some ([],[],false):=fun k=>by
    simp only[spec_ThenTurned.j0,impl_ThenTurned.j0,if_true,and_self]
  unfold thenR
  by_cases h:isTur p w=true
  · by_cases h':isTur q v=true
    · by_cases hl:p.length=q.length
      · have e0:((p.length:Int) != (q.length:Int))=false:=by simp;omega
        have T:=thn_tur p w q v h h' hl
        have l1:(thE p q).length=p.length:=upto_length _ _ _
        have l2:(thW p w v).length=p.length:=upto_length _ _ _
        have f3:=(isTur_facts h).2.2.1
        unfold spec_ThenTurned.f impl_ThenTurned.f
        rw[poTurned p w hw k (by omega),isTurned p w hw k (by omega),Option.bind_some,Option.bind_some,if_pos h,if_pos h]
        rw[poTurned q v hv k (by omega),isTurned q v hv k (by omega),Option.bind_some,Option.bind_some,if_pos h',if_pos h',e0]
        obtain⟨k,rfl⟩: ∃m,k=m+1:=⟨k - 1,by omega⟩
        simp only[spec_ThenTurned.j0,impl_ThenTurned.j0,Bool.false_eq_true,if_false]
        rw[(T k (by omega)).1,(T k (by omega)).2,Option.bind_some,Option.bind_some]
        simp only[]
        unfold spec_poIf.f impl_checkedTurned.f
        rw[poTurned _ _ (by omega) k (by omega),isTurned _ _ (by omega) k (by omega)]
        by_cases ht:isTur (thE p q) (thW p w v)=true
        · rw[if_pos ⟨h,h',hl,ht⟩,ht];exact⟨rfl,rfl⟩
        · rw[if_neg (fun c=>ht c.2.2.2),Bool.eq_false_iff.2 ht];exact⟨rfl,rfl⟩
      · have e0:((p.length:Int) != (q.length:Int))=true:=by simp;omega
        rw[if_neg (fun c=>hl c.2.2.1)]
        unfold spec_ThenTurned.f impl_ThenTurned.f
        rw[poTurned p w hw k (by omega),isTurned p w hw k (by omega),Option.bind_some,Option.bind_some,if_pos h,if_pos h,poTurned q v hv k (by omega),isTurned q v hv k (by omega),Option.bind_some,Option.bind_some,if_pos h',if_pos h',e0]
        obtain⟨k,rfl⟩: ∃m,k=m+1:=⟨k - 1,by omega⟩
        exact bad k
    · rw[if_neg (fun c=>h' c.2.1)]
      unfold spec_ThenTurned.f impl_ThenTurned.f
      rw[poTurned p w hw k (by omega),isTurned p w hw k (by omega),Option.bind_some,Option.bind_some,if_pos h,if_pos h,poTurned q v hv k (by omega),isTurned q v hv k (by omega),Option.bind_some,Option.bind_some,if_neg h',if_neg h']
      obtain⟨k,rfl⟩: ∃m,k=m+1:=⟨k - 1,by omega⟩
      exact bad k
  · rw[if_neg (fun c=>h c.1)]
    unfold spec_ThenTurned.f impl_ThenTurned.f
    rw[poTurned p w hw k (by omega),isTurned p w hw k (by omega),Option.bind_some,Option.bind_some,if_neg h,if_neg h]
    obtain⟨k,rfl⟩: ∃m,k=m+1:=⟨k - 1,by omega⟩
    exact bad k
theorem ex_PoleResult (a:Int) (l:List Int) (h:isPole a l=true) (k:Nat) (hk:100≤k):impl_PoleResult.f k a l=some (resE a l,resW a l,true):=by
  obtain⟨h1,h2,h3,h4⟩:=isPole_wires h
  rw[implPoleResult a l k hk,if_pos h,if_pos (res_tur a l ⟨h1,h2⟩ h3 h4)]
theorem ex_IsLeastPole (a:Int) (l:List Int) (h:isPole a l=true) (k:Nat) (hk:4000≤k):impl_IsLeastPole.f k a l=some (decide ((l.length:Int)=invV (resE a l) (resW a l)),true):=by
  obtain⟨h1,h2,h3,h4⟩:=isPole_wires h
  have ht:=res_tur a l ⟨h1,h2⟩ h3 h4
  unfold impl_IsLeastPole.f
  rw[ex_PoleResult a l h k (by omega),Option.bind_some]
  simp only[]
  rw[if_pos trivial,poleInversions _ _ ht,Option.bind_some]
  congr 2
  by_cases e:(l.length:Int)=invV (resE a l) (resW a l)
  · rw[←e];simp
  · rw[decide_eq_false e];exact beq_eq_false_iff_ne.2 (fun h=>e h.symm)
theorem ex_PolePower (p w:List Int) (hc:w.length≤35184372088832): ∃L:Nat,0<L∧L≤16777216∧(isTur p w=true→ ∀m,(∀j,j<p.length→itr p m j=j)↔L ∣ m)∧
    ∀k,w.length+L+500≤k→spec_PolePower.f k p w=some (if isTur p w=true∧(∀j,j<p.length→wnd p w L j=0)then((L:Int),true)else(0,false))∧impl_PolePower.f k p w=some (if isTur p w=true∧(∀j,j<p.length→wnd p w L j=0)then((L:Int),true)else(0,false)):=by
  by_cases h:isTur p w=true
  · obtain⟨f1,f2,f3,f4,f5,f6,f7⟩:=isTur_facts h
    have hP:=isOrd_perm f1
    have hW:=getD_bound w 20 f6 (by omega)
    obtain⟨C,e1,hC,a4,hCc⟩:=laCycles p hP f3 f5 200 (by omega)
    have hpos:0<lcms C 1:=lcms_pos C 1 (by omega) (fun c hc=>(hCc c hc).1)
    have hle:lcms C 1≤16777216:=by
      refine Nat.le_trans (lcms_bound C 1 (fun c hc=>⟨(hCc c hc).1,(hCc c hc).2.1⟩)) ?_
      rw[Nat.one_mul]
      refine Nat.le_trans (Nat.pow_le_pow_right (by omega) a4) ?_
      decide
    have hF:=hC.fix hP
    have hWi:=hC.winds hP w
    refine⟨lcms C 1,hpos,hle,fun _ =>hF,fun k hk=>⟨?_, ?_⟩⟩
    · unfold spec_PolePower.f
      rw[poTurned p w hc k (by omega),Option.bind_some,if_pos h,at_rounds (fun k=>spec_laCycles.mono _ k) (by omega:200≤k) e1,Option.bind_some]
      have:=power_l0 p w C a4 (fun c hc=>⟨(hCc c hc).1,(hCc c hc).2.1,fun x hx=>by rw[f4];exact(hCc c hc).2.2 x hx⟩) hW C.length 0 k 1 (by omega) (by omega) (by simp) (by omega)
      rw[List.drop_zero]at this
      refine Eq.trans this ?_
      by_cases z: ∀c∈C,cw w c=0
      · rw[if_pos z,if_pos ⟨h,hWi.2 z⟩]
      · rw[if_neg z,if_neg (fun H=>z (hWi.1 H.2))]
    · unfold impl_PolePower.f
      rw[isTurned p w hc k (by omega),Option.bind_some,if_pos h,orderTimes f1 (lcms C 1) hpos (by omega) hF k (by omega),Option.bind_some]
      simp only[]
      rw[wrap_id (by omega) (by omega)]
      have:=power_impl hP f5 f3 f4 hW (lcms C 1) (by omega) ((hF _).2 (Nat.dvd_refl _)) (lcms C 1 - 1) 1 k (by omega) (by omega) (by omega)
      rw[←pw_one f5,←ww_one f4]at this
      refine Eq.trans this ?_
      by_cases z: ∀j,j<p.length→wnd p w (lcms C 1) j=0
      · rw[if_pos z,if_pos ⟨h,z⟩]
      · rw[if_neg z,if_neg (fun H=>z H.2)]
  · refine⟨1,by omega,by omega,fun c=>absurd c h,fun k hk=>⟨?_, ?_⟩⟩
    · unfold spec_PolePower.f
      rw[poTurned p w hc k (by omega),Option.bind_some,if_neg h,if_neg (fun c=>h c.1)]
    · unfold impl_PolePower.f
      rw[isTurned p w hc k (by omega),Option.bind_some,if_neg h,if_neg (fun c=>h c.1)]
theorem pw_away {p w:List Int} (h:isTur p w=true) {L:Nat} (hF: ∀m,(∀j,j<p.length→itr p m j=j)↔L ∣ m) (m:Nat) (h0:0<m) (hm:m<L) (ht:isTur (pw p m) (ww p w m)=true):invV (pw p m) (ww p w m)≠0:=by
  intro e
  rw[inv_shi _ _ ht]at e
  have H:=(shi_zero _ _ ht).1 e
  have:L ∣ m:=(hF m).1 fun j hj=>by
    have:=(H j (by rw[pw_length];exact hj)).1
    rw[pw_get _ _ _ hj]at this
    omega
  have:=Nat.le_of_dvd h0 this
  omega
theorem pw_home {p w:List Int} (h:isTur p w=true) {L:Nat} (hF: ∀m,(∀j,j<p.length→itr p m j=j)↔L ∣ m) (hz: ∀j,j<p.length→wnd p w L j=0) (ht:isTur (pw p L) (ww p w L)=true):invV (pw p L) (ww p w L)=0:=by
  rw[inv_shi _ _ ht]
  refine(shi_zero _ _ ht).2 fun j hj=> ?_
  rw[pw_length]at hj
  rw[pw_get _ _ _ hj,ww_get _ _ _ _ hj,hz j hj,(hF L).2 (Nat.dvd_refl _) j hj]
  exact⟨rfl,rfl⟩
theorem then_pw {p w:List Int} (h:isTur p w=true) (m:Nat) (ht:isTur (pw p m) (ww p w m)=true):thenR (pw p m) (ww p w m) p w=if isTur (pw p (m+1)) (ww p w (m+1))=true then(pw p (m+1),ww p w (m+1),true)else([],[],false):=by
  obtain⟨f1,f2,f3,f4,f5,f6,f7⟩:=isTur_facts h
  have hP:=isOrd_perm f1
  have e1:thE (pw p m) p=pw p (m+1):=pw_next hP f5 m
  have e2:thW (pw p m) (ww p w m) w=ww p w (m+1):=ww_next hP w m
  unfold thenR
  rw[e1,e2]
  by_cases c:isTur (pw p (m+1)) (ww p w (m+1))=true
  · rw[if_pos c,if_pos ⟨ht,h,pw_length p m,c⟩]
  · rw[if_neg c,if_neg (fun H=>c H.2.2.2)]
theorem lrun_head (p w:List Int) (h:isTur p w=true) (h0:0<invV p w) (a4:invV p w≤60):0<(lrun 60 p w []).length∧0<(descV p w).length∧(lrun 60 p w []).getD 0 0=(descV p w).getD 0 0:=by
  cases hd:descV p w with
  |nil=>have:=inv_none p w h hd;omega
  |cons r rs=>
    have e:lrun 60 p w []= [r]++lrun 59 (topE p r.toNat) (topW w r.toNat) []:=by
      show lrun (59+1) p w []= _
      rw[lrun,hd]
      show lrun 59 (topE p r.toNat) (topW w r.toNat) ([]++ [r])= _
      rw[lrun_acc];rfl
    rw[e]
    refine⟨by simp,by simp,by simp⟩
theorem least_pole (p w:List Int) (h:isTur p w=true) (a4:invV p w≤60):isPole (p.length:Int) (lrun 60 p w [])=true:=by
  obtain⟨f1,f2,f3,f4,f5,f6,f7⟩:=isTur_facts h
  obtain⟨a,b,c,d⟩:=lrun_facts 60 p w h a4
  unfold isPole
  simp only[Bool.and_eq_true,decide_eq_true_eq,List.all_eq_true]
  exact⟨⟨⟨by omega,by omega⟩,by omega⟩,d⟩
theorem then_places {p w q v:List Int} (h:isTur p w=true) (h':isTur q v=true) (hl:p.length=q.length) (i:Int):placeV (thE p q) (thW p w v) i=placeV q v (placeV p w i):=by
  obtain⟨f1,f2,f3,f4,f5,f6,f7⟩:=isTur_facts h
  refine place_then p w q v (by omega) f4 hl.symm (fun j hj=> ?_) i
  have:=getD_of_mem p f5 j hj
  omega
end Go.Proofs.Ytnagcjhgojchlaa.L
namespace Go.Proofs.Ytnagcjhgojchlaa.L
open Go.RowKit Go.Proofs.Ytnagcjhgojchlaa.Q Go.Proofs.YtnagcjhgojchlaaW.PrintWords Go.Proofs.YtnagcjhgojchlaaW.PrintLast
set_option linter.unusedVariables false
set_option linter.unusedSimpArgs false
theorem sureOrder_l0 {l:List Int} (hl:Code l) (n:Nat) (hn:n≤9): ∀(d i k:Nat) (a s:Int) (acc:List Int),i+d=n→acc.length=i→0≤a→a+d≤1000000000000000→d<k→
    ∃r b s',spec_l1Cur_sureOrder.l0 k (n:Int) acc (i:Int) l a s=some (r,b,s')∧r.length=n∧a≤b∧b≤a+d
  |0,i,k,a,s,acc,hi,ha,h0,h1,hk=>by
    obtain⟨k,rfl⟩: ∃m,k=m+1:=⟨k - 1,by omega⟩
    simp only[spec_l1Cur_sureOrder.l0]
    rw[if_neg (by omega)]
    exact⟨acc,a,s,rfl,by omega,by omega,by omega⟩
  |d+1,i,k,a,s,acc,hi,ha,h0,h1,hk=>by
    obtain⟨k,rfl⟩: ∃m,k=m+1:=⟨k - 1,by omega⟩
    obtain⟨v,b,s',e,hv,a4,a5,hb,a7⟩:=pick_ok hl a s ((acc.length:Int)+1) h0 (by omega) (by omega)
    have a6:v≤(acc.length:Int):=by
      by_cases c:(acc.length:Int)+1≤1
      · rw[a4 c];omega
      · have:=a5 (by omega);omega
    have hlen:(acc.take v.toNat++ [(i:Int)]++acc.drop v.toNat).length=i+1:=by
      simp[List.length_append,List.length_take,List.length_drop];omega
    obtain⟨r,b',s2,e2,hr,h3,h4⟩:=sureOrder_l0 hl n hn d (i+1) k b s' (acc.take v.toNat++ [(i:Int)]++acc.drop v.toNat) (by omega) hlen (by omega) (by omega) (by omega)
    have o:=own (acc.take v.toNat) (by rw[List.length_take];omega)
    simp only[spec_l1Cur_sureOrder.l0]
    rw[if_pos (by omega),wrap_id (n:=(acc.length:Int)+1) (by omega) (by omega),e,Option.bind_some]
    simp only[]
    rw[if_pos hv,if_pos a6,o,Option.bind_some,if_pos (by rw[List.length_take];omega),Option.bind_some,Option.bind_some,if_pos (by simp[List.length_append,List.length_take,List.length_drop];omega),wrap_id (n:=(i:Int)+1) (by omega) (by omega),show((i:Int)+1)=((i+1:Nat):Int) by omega,e2]
    exact⟨r,b',s2,rfl,hr,by omega,by omega⟩
theorem sureOrder_ok {l:List Int} (hl:Code l) (a s:Int) (n:Nat) (hn:n≤9) (h0:0≤a) (h1:a≤100000000000000): ∃r b s',spec_l1Cur_sureOrder.f 200 l a s (n:Int)=some (r,b,s')∧r.length=n∧a≤b∧b≤a+n:=by
  have:=sureOrder_l0 hl n hn n 0 200 a s [] (by omega) rfl h0 (by omega) (by omega)
  exact this
theorem turned_ok {l:List Int} (hl:Code l) (a s:Int) (h0:0≤a) (h1:a≤10000000000000): ∃p w b s',spec_l1Cur_turned.f 200 l a s=some (p,w,b,s')∧p.length≤100∧w.length≤100∧a≤b∧b≤a+100:=by
  obtain⟨wi,r,b,s1,e1,hw,hr,hrl,h2,h3⟩:=surePole_ok hl a s 20 (by omega) h0 (by omega)
  have e1:spec_l1Cur_surePole.f 200 l a s 20= _ :=e1
  have er:=(result_at wi r ⟨by omega,by omega⟩ (by omega) hr 200 (by omega)).1
  have l1:(resE wi r).length=wi.toNat:=vals_length _ _ _
  have l2:(resW wi r).length=wi.toNat:=vals_length _ _ _
  obtain⟨c,b2,s2,e2,hc,_,a5,h4,h5⟩:=pick_ok hl b s1 14 (by omega) (by omega) (by omega)
  unfold spec_l1Cur_turned.f
  rw[e1,Option.bind_some]
  simp only[]
  rw[er,Option.bind_some]
  simp only[]
  rw[e2,Option.bind_some]
  simp only[]
  by_cases c0:c=0
  · rw[if_pos c0]
    obtain⟨v,b3,s3,e3,hv,_,a4,h6,h7⟩:=pick_ok hl b2 s2 ((resW wi r).length:Int) (by omega) (by omega) (by omega)
    have a4:=a4 (by omega)
    rw[e3,Option.bind_some]
    simp only[]
    obtain⟨x,b4,s4,e4,hx,h8,h9⟩:=among_ok hl b3 s3 [1,(-1),1099511627776] (by omega) (by omega) (by decide) (by decide)
    rw[if_pos hv,if_pos a4,e4,Option.bind_some]
    exact⟨_,_,b4,s4,rfl,by omega,by rw[List.length_set];omega,by omega,by omega⟩
  · rw[if_neg c0]
    by_cases c1:c=1
    · rw[if_pos c1]
      obtain⟨x,b4,s4,e4,hx,h8,h9⟩:=among_ok hl b2 s2 [(-1),0,((resE wi r).length:Int)] (by omega) (by omega) (by simp) (by simp)
      rw[e4,Option.bind_some,if_pos (by omega)]
      exact⟨_,_,b4,s4,rfl,by rw[List.length_set];omega,by omega,by omega,by omega⟩
    · rw[if_neg c1]
      by_cases c2:c=2
      · rw[if_pos c2,if_pos (by omega)]
        exact⟨_,_,b2,s2,rfl,by omega,by rw[List.length_drop];omega,by omega,by omega⟩
      · rw[if_neg c2]
        by_cases c3:c=3
        · rw[if_pos c3]
          obtain⟨x,b4,s4,e4,hx,h8,h9⟩:=among_ok hl b2 s2 [20,5,3] (by omega) (by omega) (by decide) (by decide)
          obtain⟨o,b5,s5,e5,ho,a6,a7⟩:=sureOrder_ok hl b4 s4 (resE wi r).length (by omega) (by omega) (by omega)
          rw[e4,Option.bind_some]
          simp only[]
          rw[e5,Option.bind_some]
          simp only[]
          rw[if_pos (by omega),if_pos (by omega),Option.bind_some,if_pos (by rw[List.length_replicate];omega),if_pos (by rw[List.length_replicate];omega)]
          exact⟨_,_,b5,s5,rfl,by omega,by simp;omega,by omega,by omega⟩
        · rw[if_neg c3]
          exact⟨_,_,b2,s2,rfl,by omega,by omega,by omega,by omega⟩
theorem turned_at {l:List Int} (hl:Code l) (a s:Int) (h0:0≤a) (h1:a≤10000000000000): ∃p w b s',(∀k,200≤k→spec_l1Cur_turned.f k l a s=some (p,w,b,s'))∧p.length≤100∧w.length≤100∧a≤b∧b≤a+100:=by
  obtain⟨p,w,b,s',e,h⟩:=turned_ok hl a s h0 h1
  exact⟨p,w,b,s',fun k hk=>at_rounds (fun k=>spec_l1Cur_turned.mono _ _ _ k) hk e,h⟩
theorem drawLeastPole {l:List Int} (hl:Code l): ∃p w,(∀k,200≤k→spec_DrawLeastPole.f k l=some (p,w))∧p.length≤100∧w.length≤100:=by
  obtain⟨p,w,b,s',e,h1,h2,_⟩:=turned_at hl 0 0 (by omega) (by omega)
  refine⟨p,w,fun k hk=> ?_,h1,h2⟩
  unfold spec_DrawLeastPole.f spec_DrawIsTurned.f
  rw[e k hk,Option.bind_some,Option.bind_some]
theorem drawPolePower {l:List Int} (hl:Code l): ∃p w,(∀k,200≤k→spec_DrawPolePower.f k l=some (p,w))∧p.length≤100∧w.length≤100:=by
  obtain⟨o,b,s,e,h1,h2⟩:=one_ok hl 0 0 3 (by omega) (by omega) (by omega)
  by_cases c:o=true
  · obtain⟨v,b2,s2,e2,hv,_,a4,h3,h4⟩:=pick_ok hl b s 4 (by omega) (by omega) (by omega)
    have a4:=a4 (by omega)
    obtain⟨p,b3,s3,e3,hp,h5,h6⟩:=sureOrder_ok hl b2 s2 (3+v).toNat (by omega) (by omega) (by omega)
    rw[Int.toNat_of_nonneg (by omega)]at e3
    refine⟨p,List.replicate ((p.length:Int):Int).toNat 0,fun k hk=> ?_,by omega,by simp;omega⟩
    unfold spec_DrawPolePower.f
    rw[e,Option.bind_some,if_pos c]
    simp only[]
    rw[e2,Option.bind_some]
    simp only[]
    rw[wrap_id (by omega) (by omega),at_rounds (fun k=>spec_l1Cur_sureOrder.mono _ _ _ _ k) hk e3,Option.bind_some,if_pos (by simp only[];omega),if_pos (by simp only[];omega)]
  · obtain⟨p,w,b2,s2,e2,h3,h4,_⟩:=turned_at hl b s (by omega) (by omega)
    refine⟨p,w,fun k hk=> ?_,h3,h4⟩
    unfold spec_DrawPolePower.f
    rw[e,Option.bind_some,if_neg c]
    simp only[]
    rw[e2 k hk,Option.bind_some]
theorem drawThen_l0 {l:List Int} (hl:Code l) (p w:List Int): ∀(d i k:Nat) (a s:Int) (q v:List Int),i+d=6→0≤a→a≤1000000+100*(i:Int)→q.length≤100→v.length≤100→200+d<k→
    ∃q' v',spec_DrawThenTurned.l0 k (i:Int) l a s p w q v=some (p,w,q',v')∧q'.length≤100∧v'.length≤100
  |0,i,k,a,s,q,v,hi,h0,h1,hq,hv,hk=>by
    obtain⟨k,rfl⟩: ∃m,k=m+1:=⟨k - 1,by omega⟩
    simp only[spec_DrawThenTurned.l0]
    rw[if_neg (by omega)]
    exact⟨q,v,rfl,hq,hv⟩
  |d+1,i,k,a,s,q,v,hi,h0,h1,hq,hv,hk=>by
    obtain⟨k,rfl⟩: ∃m,k=m+1:=⟨k - 1,by omega⟩
    simp only[spec_DrawThenTurned.l0]
    rw[if_pos (by omega)]
    by_cases c:(p.length:Int)=(q.length:Int)
    · rw[if_pos c]
      exact⟨q,v,rfl,hq,hv⟩
    · rw[if_neg c]
      obtain⟨q2,v2,b,s2,e,h3,h4,h5,h6⟩:=turned_at hl a s h0 (by omega)
      rw[e k (by omega),Option.bind_some,wrap_id (by omega) (by omega),show((i:Int)+1)=((i+1:Nat):Int) by omega]
      simp only[]
      exact drawThen_l0 hl p w d (i+1) k b s2 q2 v2 (by omega) (by omega) (by push_cast;omega) h3 h4 (by omega)
theorem drawThenTurned {l:List Int} (hl:Code l): ∃p w q v,(∀k,300≤k→spec_DrawThenTurned.f k l=some (p,w,q,v))∧p.length≤100∧w.length≤100∧q.length≤100∧v.length≤100:=by
  obtain⟨p,w,b,s,e,h1,h2,h3,h4⟩:=turned_at hl 0 0 (by omega) (by omega)
  obtain⟨q,v,b2,s2,e2,h5,h6,h7,h8⟩:=turned_at hl b s (by omega) (by omega)
  obtain⟨q',v',e3,h9,a4⟩:=drawThen_l0 hl p w 6 0 300 b2 s2 q v (by omega) (by omega) (by omega) h5 h6 (by omega)
  refine⟨p,w,q',v',fun k hk=>at_rounds (fun k=>spec_DrawThenTurned.mono _ k) hk ?_,h1,h2,h9,a4⟩
  unfold spec_DrawThenTurned.f
  rw[e 300 (by omega),Option.bind_some]
  simp only[]
  rw[e2 300 (by omega),Option.bind_some]
  exact e3
theorem drawPlaceOf {l:List Int} (hl:Code l): ∃p w i,(∀k,200≤k→spec_DrawPlaceOf.f k l=some (p,w,i))∧p.length≤100∧w.length≤100:=by
  obtain⟨o,b,s,e,h1,h2⟩:=one_ok hl 0 0 10 (by omega) (by omega) (by omega)
  obtain⟨p,w,b2,s2,e2,h3,h4,h5,h6⟩:=turned_at hl b s (by omega) (by omega)
  by_cases c:o=true
  · obtain⟨x,b3,s3,e3,hx,h8,h9⟩:=among_ok hl b2 s2 [(-1001),(-1000),1000,1001] (by omega) (by omega) (by decide) (by decide)
    refine⟨p,w,x,fun k hk=> ?_,h3,h4⟩
    unfold spec_DrawPlaceOf.f
    rw[e,Option.bind_some,if_pos c]
    simp only[]
    rw[e2 k hk,Option.bind_some]
    simp only[]
    rw[e3,Option.bind_some]
  · obtain⟨v,b3,s3,e3,hv,_,a4,h7,h8⟩:=pick_ok hl b2 s2 40 (by omega) (by omega) (by omega)
    refine⟨p,w,wrap64 (v - 15),fun k hk=> ?_,h3,h4⟩
    unfold spec_DrawPlaceOf.f
    rw[e,Option.bind_some,if_neg c]
    simp only[]
    rw[e2 k hk,Option.bind_some]
    simp only[]
    rw[e3,Option.bind_some]
end Go.Proofs.Ytnagcjhgojchlaa.L
namespace Go.Proofs.Ytnagcjhgojchlaa.L
open Go.RowKit Go.Proofs.Ytnagcjhgojchlaa.Q Go.Proofs.YtnagcjhgojchlaaW.PrintWords Go.Proofs.YtnagcjhgojchlaaW.PrintLast
set_option linter.unusedVariables false
set_option linter.unusedSimpArgs false
theorem big_cases (l m:List Int) (hl:l.length≤9223372036854775807) (hm:m.length≤9223372036854775807):laws_big.f l m=some true∨(laws_big.f l m=some false∧l.length≤1048576∧m.length≤1048576):=by
  unfold laws_big.f
  by_cases h:(l.length:Int)>1048576
  · rw[if_pos h];exact Or.inl rfl
  · rw[if_neg h]
    have e:wrap64 (1048576 - (l.length:Int))=1048576 - (l.length:Int):=by unfold wrap64;omega
    rw[e]
    by_cases h2:(m.length:Int)>1048576 - (l.length:Int)
    · exact Or.inl (by simp;omega)
    · exact Or.inr ⟨by simp;omega,by omega,by omega⟩
end Go.Proofs.Ytnagcjhgojchlaa.L
namespace Go.Proofs.Ytnagcjhgojchlaa.L
open Go.RowKit Go.Proofs.Ytnagcjhgojchlaa.Q Go.Proofs.YtnagcjhgojchlaaW.PrintWords Go.Proofs.YtnagcjhgojchlaaW.PrintLast
set_option linter.unusedVariables false
set_option linter.unusedSimpArgs false
theorem wrap_idK {n:Int} (h1: -9223372036854775808≤n) (h2:n≤9223372036854775807):wrap64 n=n:=by unfold wrap64;omega
theorem kSame_l0 (l:List Int) (hb:l.length≤35184372088832): ∀(d i k:Nat),i+d=l.length→d<k→laws_kSame.l0 k l l (l.length:Int) (i:Int)=some true
  |0,i,k,h,hk=>by
    obtain⟨k,rfl⟩: ∃m,k=m+1:=⟨k - 1,by omega⟩
    simp only[laws_kSame.l0]
    rw[if_neg (by omega)]
  |d+1,i,k,h,hk=>by
    obtain⟨k,rfl⟩: ∃m,k=m+1:=⟨k - 1,by omega⟩
    simp only[laws_kSame.l0]
    rw[if_pos (by omega),if_pos (by omega),if_pos (by omega),if_pos (by omega),if_pos trivial,wrap_idK (by omega) (by omega),show((i:Int)+1)=((i+1:Nat):Int) by omega]
    exact kSame_l0 l hb d (i+1) k (by omega) (by omega)
theorem kSame_self (l:List Int) (hb:l.length≤35184372088832) (k:Nat) (hk:l.length+1≤k):laws_kSame.f k l l=some true:=by
  unfold laws_kSame.f
  rw[if_pos rfl]
  exact kSame_l0 l hb l.length 0 k (by omega) (by omega)
theorem kPole_self (a:Int) (l:List Int) (hb:l.length≤35184372088832) (k:Nat) (hk:l.length+1≤k):laws_kPole.f k a l a l=some true:=by
  unfold laws_kPole.f
  rw[if_pos rfl,kSame_self l hb k hk];rfl
theorem kTurned_self (l m:List Int) (hb:l.length≤35184372088832) (hc:m.length≤35184372088832) (k:Nat) (hk:l.length+m.length+1≤k):laws_kTurned.f k l m l m=some true:=by
  unfold laws_kTurned.f
  rw[kSame_self l hb k (by omega),Option.bind_some,if_pos rfl,kSame_self m hc k (by omega)];rfl
end Go.Proofs.Ytnagcjhgojchlaa.L
namespace Go.Proofs.Ytnagcjhgojchlaa.L
open Go.RowKit Go.Proofs.Ytnagcjhgojchlaa.Q Go.Proofs.YtnagcjhgojchlaaW.PrintWords Go.Proofs.YtnagcjhgojchlaaW.PrintLast
set_option linter.unusedVariables false
set_option linter.unusedSimpArgs false
theorem bne_me {α:Type} [BEq α] [LawfulBEq α] (a:α): ¬((a != a)=true):=by simp
theorem thenR_true {p w q v:List Int} (h:(thenR p w q v).2.2=true):isTur p w=true∧isTur q v=true∧p.length=q.length∧isTur (thE p q) (thW p w v)=true∧thenR p w q v=(thE p q,thW p w v,true):=by
  unfold thenR at h ⊢
  by_cases c:isTur p w=true∧isTur q v=true∧p.length=q.length∧isTur (thE p q) (thW p w v)=true
  · rw[if_pos c];exact⟨c.1,c.2.1,c.2.2.1,c.2.2.2,rfl⟩
  · rw[if_neg c]at h;exact absurd h (by simp)
theorem thenR_len (p w q v:List Int):(thenR p w q v).1.length≤8∧(thenR p w q v).2.1.length≤8:=by
  unfold thenR
  split
  · rename_i c
    obtain⟨f1,f2,f3,f4,f5,f6,f7⟩:=isTur_facts c.2.2.2
    exact⟨f3,by dsimp only;omega⟩
  · exact⟨by simp,by simp⟩
theorem places_l1 {p w q v:List Int} (h:isTur p w=true) (h':isTur q v=true) (hl:p.length=q.length) (ht:isTur (thE p q) (thW p w v)=true): ∀(d i k:Nat),i+d=p.length→5000+2*d<k→
    laws_FnPolesLeast.l1 k (p.length:Int) (i:Int) p w q v (thE p q) (thW p w v)=some true
  |0,i,k,hi,hk=>by
    obtain⟨k,rfl⟩: ∃m,k=m+1:=⟨k - 1,by omega⟩
    simp only[laws_FnPolesLeast.l1]
    rw[if_neg (by omega)]
  |d+1,i,k,hi,hk=>by
    obtain⟨f1,f2,f3,f4,f5,f6,f7⟩:=isTur_facts h
    obtain⟨g1,g2,g3,g4,g5,g6,g7⟩:=isTur_facts h'
    obtain⟨t1,t2,t3,t4,t5,t6,t7⟩:=isTur_facts ht
    obtain⟨k,rfl⟩: ∃m,k=m+2:=⟨k - 2,by omega⟩
    obtain⟨_,b1,b2⟩:=place_at p w h (i:Int) (by omega)
    have ep:placeR p w (i:Int)=(placeV p w i,true):=by unfold placeR;rw[if_pos ⟨h,by omega,by omega⟩]
    have eq:placeR q v (placeV p w i)=(placeV q v (placeV p w i),true):=by unfold placeR;rw[if_pos ⟨h',by omega,by omega⟩]
    have er:placeR (thE p q) (thW p w v) (i:Int)=(placeV q v (placeV p w i),true):=by unfold placeR;rw[if_pos ⟨ht,by omega,by omega⟩,then_places h h' hl]
    simp only[laws_FnPolesLeast.l1]
    rw[if_pos (by omega),(ex_PlaceOf p w i (by omega) (k+1) (by omega)).2,ep,Option.bind_some]
    dsimp only
    rw[if_pos rfl,if_neg (by omega),decide_eq_false (by omega)]
    simp only[laws_FnPolesLeast.j9]
    rw[if_neg (by simp),(ex_PlaceOf q v _ (by omega) k (by omega)).2,eq,Option.bind_some,(ex_PlaceOf _ _ (i:Int) (by omega) k (by omega)).2,er,Option.bind_some]
    dsimp only
    rw[if_pos rfl,if_pos rfl,if_pos rfl,wrap_id (by omega) (by omega),show((i:Int)+1)=((i+1:Nat):Int) by omega]
    exact places_l1 h h' hl ht d (i+1) k (by omega) (by omega)
theorem j6_ok {l:List Int} (hl:Code l) (k:Nat) (hk:10000≤k):laws_FnPolesLeast.j6 k l=some true:=by
  obtain⟨k,rfl⟩: ∃m,k=m+2:=⟨k - 2,by omega⟩
  obtain⟨p,w,q,v,e,h1,h2,h3,h4⟩:=drawThenTurned hl
  obtain⟨p2,w2,i,e2,h5,h6⟩:=drawPlaceOf hl
  obtain⟨n1,n2⟩:=thenR_len p w q v
  simp only[laws_FnPolesLeast.j6]
  rw[e (k+1) (by omega),Option.bind_some]
  dsimp only
  rw[(ex_ThenTurned p w q v (by omega) (by omega) (k+1) (by omega)).2,(ex_ThenTurned p w q v (by omega) (by omega) (k+1) (by omega)).1,Option.bind_some,Option.bind_some,e2 (k+1) (by omega),Option.bind_some]
  dsimp only
  rw[(ex_PlaceOf p2 w2 i (by omega) (k+1) (by omega)).2,(ex_PlaceOf p2 w2 i (by omega) (k+1) (by omega)).1,Option.bind_some,Option.bind_some,if_neg (bne_me _),kTurned_self _ _ (by omega) (by omega) (k+1) (by omega),Option.bind_some,if_pos rfl,if_neg (bne_me _)]
  simp only[laws_FnPolesLeast.j7]
  rw[if_neg (bne_me _)]
  by_cases c:(thenR p w q v).2.2=true
  · obtain⟨c1,c2,c3,c4,c5⟩:=thenR_true c
    rw[if_pos c,c5]
    exact places_l1 c1 c2 c3 c4 p.length 0 k (by omega) (by have:=(isTur_facts c1).2.2.1;omega)
  · rw[if_neg c]
theorem away_l0 {l:List Int} (hl:Code l) (p w:List Int) (L m:Int) (k:Nat) (hk:10002≤k):laws_FnPolesLeast.l0 k l L false m p w [] []=some true:=by
  obtain⟨k,rfl⟩: ∃m,k=m+2:=⟨k - 2,by omega⟩
  simp only[laws_FnPolesLeast.l0]
  split<;>(simp only[laws_FnPolesLeast.j5];rw[if_neg (by simp),if_neg (by simp)];exact j6_ok hl k (by omega))
theorem pow_l0 {l:List Int} (hl:Code l) {p w:List Int} (h:isTur p w=true) {L:Nat} (hL:L≤16777216) (hF: ∀m,(∀j,j<p.length→itr p m j=j)↔L ∣ m) (hz: ∀j,j<p.length→wnd p w L j=0): ∀(d m k:Nat),m+d=L→0<m→20000+2*d≤k→isTur (pw p m) (ww p w m)=true→
    laws_FnPolesLeast.l0 k l (L:Int) true (m:Int) p w (pw p m) (ww p w m)=some true
  |0,m,k,hm,h0,hk,ht=>by
    obtain⟨f1,f2,f3,f4,f5,f6,f7⟩:=isTur_facts h
    obtain⟨k,rfl⟩: ∃m,k=m+2:=⟨k - 2,by omega⟩
    have e:m=L:=by omega
    subst e
    have ei:invR (pw p m) (ww p w m)=(0,true):=by unfold invR;rw[if_pos ht,pw_home h hF hz ht]
    simp only[laws_FnPolesLeast.l0]
    rw[if_neg (by omega)]
    simp only[laws_FnPolesLeast.j5]
    rw[if_neg (by simp),if_pos trivial,(ex_PoleInversions _ _ (by rw[ww_length];omega) k (by rw[ww_length];omega)).2,ei,Option.bind_some]
    dsimp only
    rw[if_pos rfl,if_pos rfl]
    exact j6_ok hl k (by omega)
  |d+1,m,k,hm,h0,hk,ht=>by
    obtain⟨f1,f2,f3,f4,f5,f6,f7⟩:=isTur_facts h
    obtain⟨k,rfl⟩: ∃m,k=m+2:=⟨k - 2,by omega⟩
    have ei:invR (pw p m) (ww p w m)=(invV (pw p m) (ww p w m),true):=by unfold invR;rw[if_pos ht]
    have ne:=pw_away h hF m h0 (by omega) ht
    simp only[laws_FnPolesLeast.l0]
    rw[if_pos (by omega)]
    simp only[laws_FnPolesLeast.j5]
    rw[if_pos trivial,(ex_PoleInversions _ _ (by rw[ww_length];omega) k (by rw[ww_length];omega)).2,ei,Option.bind_some]
    dsimp only
    rw[if_pos rfl,if_neg ne,(ex_ThenTurned _ _ p w (by rw[ww_length];omega) (by omega) k (by rw[ww_length];omega)).2,then_pw h m ht,Option.bind_some,wrap_id (by omega) (by omega),show((m:Int)+1)=((m+1:Nat):Int) by omega]
    by_cases c:isTur (pw p (m+1)) (ww p w (m+1))=true
    · rw[if_pos c]
      exact pow_l0 hl h hL hF hz d (m+1) k (by omega) (by omega) (by omega) c
    · rw[if_neg c]
      exact away_l0 hl p w _ _ k (by omega)
theorem j2_ok {l:List Int} (hl:Code l) (k:Nat) (hk:40000000≤k):laws_FnPolesLeast.j2 k l=some true:=by
  obtain⟨k,rfl⟩: ∃m,k=m+2:=⟨k - 2,by omega⟩
  obtain⟨p,w,e,h1,h2⟩:=drawPolePower hl
  obtain⟨L,a4,hL,hF,hE⟩:=ex_PolePower p w (by omega)
  have hE:=hE (k+1) (by omega)
  simp only[laws_FnPolesLeast.j2]
  rw[e (k+1) (by omega),Option.bind_some]
  dsimp only
  by_cases c:isTur p w=true∧ ∀j,j<p.length→wnd p w L j=0
  · rw[if_pos c]at hE
    obtain⟨c1,c2⟩:=c
    obtain⟨f1,f2,f3,f4,f5,f6,f7⟩:=isTur_facts c1
    rw[hE.2,hE.1,Option.bind_some,Option.bind_some,if_neg (bne_me _)]
    simp only[laws_FnPolesLeast.j3]
    rw[if_neg (bne_me _),if_pos trivial]
    have:=pow_l0 hl c1 hL (hF c1) c2 (L - 1) 1 k (by omega) (by omega) (by omega) (by rw[←pw_one f5,←ww_one f4];exact c1)
    rw[←pw_one f5,←ww_one f4]at this
    exact this
  · rw[if_neg c]at hE
    rw[hE.2,hE.1,Option.bind_some,Option.bind_some,if_neg (bne_me _)]
    simp only[laws_FnPolesLeast.j3]
    rw[if_neg (bne_me _),if_neg (by simp)]
    exact j6_ok hl k (by omega)
theorem rd_zero (l:List Int):rd l 0=l.getD 0 0:=by simp[rd]
theorem j1_ok {l:List Int} (hl:Code l) {p w:List Int} (h:isTur p w=true) (k:Nat) (hk:40000010≤k):laws_FnPolesLeast.j1 k l (leastR p w).2.2 (invV p w) (descV p w) p w (leastR p w).1 (leastR p w).2.1=some true:=by
  obtain⟨f1,f2,f3,f4,f5,f6,f7⟩:=isTur_facts h
  obtain⟨k,rfl⟩: ∃m,k=m+1:=⟨k - 1,by omega⟩
  simp only[laws_FnPolesLeast.j1]
  by_cases c:invV p w≤60
  · have e:leastR p w=((p.length:Int),lrun 60 p w [],true):=by unfold leastR;rw[if_pos ⟨h,c⟩]
    obtain⟨a,b,d,g⟩:=lrun_facts 60 p w h c
    have hp:=least_pole p w h c
    rw[e]
    dsimp only
    rw[if_pos rfl,ex_PoleResult _ _ hp k (by omega),ex_IsLeastPole _ _ hp k (by omega),a,b,Option.bind_some,Option.bind_some]
    dsimp only
    rw[if_pos rfl,kTurned_self p w (by omega) (by omega) k (by omega),Option.bind_some,if_pos rfl,if_pos d,if_pos rfl,if_pos (decide_eq_true d)]
    by_cases z:invV p w>0
    · obtain⟨y1,y2,y3⟩:=lrun_head p w h z c
      rw[if_pos z,if_pos (by omega),if_pos (by omega),if_pos (by rw[rd_zero,rd_zero];exact y3)]
      exact j2_ok hl k (by omega)
    · rw[if_neg z]
      exact j2_ok hl k (by omega)
  · have e:leastR p w=(0,[],false):=by unfold leastR;rw[if_neg (fun x=>c x.2)]
    rw[e]
    dsimp only
    rw[if_neg (by simp)]
    exact j2_ok hl k (by omega)
theorem j1_no {l:List Int} (hl:Code l) (a4:Int) (a5 a b c:List Int) (d:Int) (k:Nat) (hk:40000010≤k):laws_FnPolesLeast.j1 k l false a4 a5 a b d c=some true:=by
  obtain⟨k,rfl⟩: ∃m,k=m+1:=⟨k - 1,by omega⟩
  simp only[laws_FnPolesLeast.j1]
  rw[if_neg (by simp)]
  exact j2_ok hl k (by omega)
end Go.Proofs.Ytnagcjhgojchlaa.L
namespace Go.Proofs.Ytnagcjhgojchlaa.Pure
open Go.RowKit Go.Proofs.Ytnagcjhgojchlaa.Q Go.Proofs.YtnagcjhgojchlaaW.PrintWords Go.Proofs.YtnagcjhgojchlaaW.PrintLast Go.Proofs.Ytnagcjhgojchlaa.L
theorem FnPolesLeast (l0:List Int) (l1:List Int) (a4:l0.length≤9223372036854775807) (a5: ∀x∈l0,(Lit.int .u8 x).wf=true) (a6:l1.length≤9223372036854775807) (a7: ∀x∈l1,(Lit.int .u8 x).wf=true): ∃k,laws_FnPolesLeast.f k l0 l1=some true:=by
  rcases big_cases l0 l1 a4 a6 with hb|⟨hb,g0,g1⟩
  · refine⟨0, ?_⟩
    unfold laws_FnPolesLeast.f
    rw[hb];rfl
  · have c0:=code_of a5 (by omega)
    have c1:=code_of a7 (by omega)
    obtain⟨p,w,e,h1,h2⟩:=drawLeastPole c0
    obtain⟨k,hk⟩: ∃k:Nat,k=40001000:=⟨_,rfl⟩
    have E1:=ex_LeastPole p w (by omega) k (by omega)
    have E2:=ex_PoleInversions p w (by omega) k (by omega)
    have E3:=ex_PoleDescents p w (by omega) k (by omega)
    have E4:=ex_BackTurned p w (by omega) k (by omega)
    have E5:=ex_IsTurned p w (by omega) k (by omega)
    refine⟨k, ?_⟩
    unfold laws_FnPolesLeast.f
    rw[hb,Option.bind_some,if_neg (by decide),e k (by omega),Option.bind_some]
    dsimp only
    rw[E1.1,E1.2,E2.1,E2.2,E3.1,E3.2,E4.1,E4.2,E5.1,E5.2]
    simp only[Option.bind_some]
    by_cases h:isTur p w=true
    · obtain⟨f1,f2,f3,f4,f5,f6,f7⟩:=isTur_facts h
      have hd:(descV p w).length≤8:=by
        have:=desc_length p w p.length 0 []
        unfold descV;simp at this;omega
      have hbl:=(back_facts p w h).1
      have hbw:=(back_facts p w h).2.1
      have hll:(leastR p w).2.1.length≤60:=by
        unfold leastR
        split
        · have:=lrun_length 60 p w [];simpa using this
        · simp
      have e2:invR p w=(invV p w,true):=by unfold invR;rw[if_pos h]
      have e3:descR p w=(descV p w,true):=by unfold descR;rw[if_pos h]
      have e4:backR p w=(bkE p,bkW p w,true):=by unfold backR;rw[if_pos h]
      rw[e2,e3,e4]
      dsimp only
      rw[if_neg (bne_me _),kPole_self _ _ (by omega) k (by omega),Option.bind_some,if_pos rfl,if_neg (bne_me _),if_pos rfl,if_neg (bne_me _),kSame_self _ (by omega) k (by omega),Option.bind_some,if_pos rfl,if_neg (bne_me _),kTurned_self _ _ (by omega) (by omega) k (by omega),Option.bind_some,if_pos rfl,h,if_neg (bne_me _),if_neg (bne_me _),if_neg (bne_me _),if_neg (bne_me _),if_pos trivial]
      have ok:((leastR p w).2.2 != decide (invV p w≤60))=false:=by
        unfold leastR
        by_cases c:invV p w≤60
        · rw[if_pos ⟨h,c⟩,decide_eq_true c];rfl
        · rw[if_neg (fun x=>c x.2),decide_eq_false c];rfl
      rw[ok]
      obtain⟨k',rfl⟩: ∃m,k=m+1:=⟨k - 1,by omega⟩
      simp only[laws_FnPolesLeast.j0]
      have hin:invR (bkE p) (bkW p w)=(invV p w,true):=by unfold invR;rw[if_pos (back_tur p w h),inv_back p w h]
      rw[if_neg (by simp),if_pos trivial,(ex_PoleInversions _ _ (by omega) k' (by omega)).2,hin,Option.bind_some]
      dsimp only
      rw[if_pos rfl,if_pos rfl,if_neg (by
        have:=inv_desc p w h
        by_cases z:invV p w=0
        · rw[z,this.1 z];decide
        · have nd:descV p w≠ []:=fun y=>z (this.2 y)
          have l0:((descV p w).length:Int)≠0:=by
            intro y
            exact nd (List.length_eq_zero_iff.1 (by omega))
          rw[beq_eq_false_iff_ne.2 l0,beq_eq_false_iff_ne.2 z];decide)]
      exact j1_ok c1 h k' (by omega)
    · have e1:leastR p w=(0,[],false):=by unfold leastR;rw[if_neg (fun x=>h x.1)]
      have e2:invR p w=(0,false):=by unfold invR;rw[if_neg h]
      have e3:descR p w=([],false):=by unfold descR;rw[if_neg h]
      have e4:backR p w=([],[],false):=by unfold backR;rw[if_neg h]
      rw[e1,e2,e3,e4,Bool.eq_false_iff.2 h]
      dsimp only
      rw[if_neg (bne_me _),kPole_self _ _ (by simp) k (by simp;omega),Option.bind_some,if_pos rfl,if_neg (bne_me _),if_pos trivial,if_neg (bne_me _),kSame_self _ (by simp) k (by simp;omega),Option.bind_some,if_pos rfl,if_neg (bne_me _),kTurned_self _ _ (by simp) (by simp) k (by simp;omega),Option.bind_some,if_pos rfl,if_neg (bne_me _),if_neg (bne_me _),if_neg (bne_me _),if_neg (bne_me _),if_neg (by simp)]
      obtain⟨k',rfl⟩: ∃m,k=m+1:=⟨k - 1,by omega⟩
      simp only[laws_FnPolesLeast.j0]
      rw[if_neg (by simp),if_neg (by simp)]
      exact j1_no c1 _ _ _ _ _ _ k' (by omega)
end Go.Proofs.Ytnagcjhgojchlaa.Pure
