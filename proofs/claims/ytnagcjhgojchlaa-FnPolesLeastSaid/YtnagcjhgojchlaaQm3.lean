/- Each function below comes to the Lean function beside it (theorems '.calls'); no condition beyond each theorem's own. Written by our program oprint.py over the kit's print. -/
import Derived.Test.YtnagcjhgojchlaaQm0
import Derived.Test.YtnagcjhgojchlaaQm1
import Derived.Shelf.Abstract
namespace Go.Proofs.Ytnagcjhgojchlaa.Q
open Go.RowKit Go.Proofs.YtnagcjhgojchlaaW.PrintWords Go.Proofs.YtnagcjhgojchlaaW.PrintLast Go.Proofs.YtnagcjhgojchlaaW.PrintMore
attribute [local go_sem] max2_int min2_int max_two min_two max_three min_three max_four min_four
set_option linter.unusedVariables false
set_option linter.unusedSimpArgs false
def spec_BackTurned.l0:Nat→List Int→Int→Int→List Int→List Int→List Int→List Int→Option (List Int × List Int × Bool)
 |0,_,_,_,_,_,_,_ =>none
 |k+1,a9,b6,a7,a8,a4,a5,a6=>if a7<b6 then(if 0≤a7 then(if a7<(a9.length:Int)then(if 0≤(rd a9 a7)then(if(rd a9 a7)<(a5.length:Int)then(if a7<(a4.length:Int)then(if(rd a9 a7)<(a6.length:Int)then(spec_BackTurned.l0 k a9 b6 (wrap64 (a7+1)) a8 a4 (a5.set ((rd a9 a7):Int).toNat a7) (a6.set ((rd a9 a7):Int).toNat (wrap64 (-(rd a4 a7)))))else(none))else(none))else(none))else(none))else(none))else(none))else(some (a5,a6,true))
def spec_BackTurned.f (k:Nat) (a4:List Int) (a5:List Int):Option (List Int × List Int × Bool):=(spec_poTurned.f k a4 a5).bind fun a6=>(if a6=true then(if 0≤(a4.length:Int)then(if((a4.length:Int):Int).toNat≤35184372088832 then(spec_BackTurned.l0 k a4 (a4.length:Int) 0 a4 a5 (List.replicate ((a4.length:Int):Int).toNat 0) (List.replicate ((a4.length:Int):Int).toNat 0))else(none))else(none))else(some (([]:List Int),([]:List Int),false)))
def spec_BackTurned.T9:Bool × List (List Nat × List Nat):=(true,[([],[]),([0],[0]),([],[]),([],[]),([3],[3]),([],[]),([4,5],[4,5]),([6],[6]),([7],[7]),([1,2,0,1,2,3,4,5,6,7,8],[1,2]),([9,8,0,1,2,3,4,5,6,7,8],[8,9])])
def spec_BackTurned.B9:List Nat:= [0,1,0,0,8,0,56,120,248,511,1023]
theorem spec_BackTurned.tab9:rtab .any (opsOf Try.f13 9)=spec_BackTurned.T9:=by kernel_rfl
theorem spec_BackTurned.bits9:waitsOk spec_BackTurned.T9.2 spec_BackTurned.B9=true:=by kernel_rfl
set_option maxHeartbeats 8000000 in
set_option maxRecDepth 100000 in
theorem spec_BackTurned.calls (k:Nat) (g8:Option Addr) (f8:Nat) (a6:List Int) (g9:Option Addr) (f9:Nat) (e6:List Int) (r1:List Int) (r2:List Int) (r3:Bool) (w:World) (r8:Kd.C (Kd.int .i64) w g8 a6.length a6) (r9:a6.length≤f8) (s6:Kd.C (Kd.int .i64) w g9 e6.length e6) (s7:e6.length≤f9) (h:spec_BackTurned.f k a6 e6=some (r1,r2,r3)):
  Calls Try.prog 13 #[.agg #[.slice g8 a6.length f8,.slice g9 e6.length f9]] w fun e w'=> ∃J2 J3:Value,e= .returned (.tuple #[.agg #[J2,J3],.bool r3])∧Kd.R (Kd.int .i64) 3 w' w.heap.size (fun k_=>Zn k_ J3) J2 r1∧Kd.R (Kd.int .i64) 3 w' w.heap.size (fun k_=>Zn k_ J2) J3 r2∧Below w.heap.size w w':=by
 have O0:=Try.underlying26;have o3:=Aside0.mk r8;have s9:=Aside0.mk r9;clear r8 r9;have o4:=Aside0.mk s6;have t0:=Aside0.mk s7;clear s6 s7;have HB:=Zm (Below.refl w.heap.size w);have H:((spec_poTurned.f k a6 e6).bind fun z4=>(if z4=true then(if 0≤(a6.length:Int)then(if((a6.length:Int):Int).toNat≤35184372088832 then(spec_BackTurned.l0 k a6 (a6.length:Int) 0 a6 e6 (List.replicate ((a6.length:Int):Int).toNat 0) (List.replicate ((a6.length:Int):Int).toNat 0))else(none))else(none))else(some (([]:List Int),([]:List Int),false))))=some (r1,r2,r3):=h;clear h
 replace H:=Zb0 H;obtain⟨z4,A2,H⟩:=H
 by_cases c3:z4=true
 ·
  subst c3
  rw[if_pos rfl]at H
  replace H:=Zif H;obtain⟨c4,H⟩:=H;have O1:=eq_true c4;have O2:decide (0≤(a6.length:Int))=true:=decide_eq_true c4;clear c4
  replace H:=Zif H;obtain⟨c5,H⟩:=H;have O3:=eq_true c5;have O4:decide (((a6.length:Int):Int).toNat≤35184372088832)=true:=decide_eq_true c5;clear c5;obtain⟨i3,n3⟩: ∃y_:List Int,y_=(List.replicate ((a6.length:Int):Int).toNat 0):=⟨_,rfl⟩;(replace H:(spec_BackTurned.l0 k a6 (a6.length:Int) 0 a6 e6 i3 (List.replicate ((a6.length:Int):Int).toNat 0))=some (r1,r2,r3):=by first|(rw[n3];with_reducible exact H)|(have z5:=(Option.bind_some _ _).symm.trans H;rw[n3];with_reducible exact z5)|(have z5:=(Option.bind_some _ _).symm.trans H;with_reducible exact z5)|with_reducible exact H|(rw[n3];exact H)|exact H)
  have l3:=Aside0.mk n3;clear n3
  obtain⟨i4,n4⟩: ∃y_:List Int,y_=(List.replicate ((a6.length:Int):Int).toNat 0):=⟨_,rfl⟩;(replace H:(spec_BackTurned.l0 k a6 (a6.length:Int) 0 a6 e6 i3 i4)=some (r1,r2,r3):=by first|(rw[n4];with_reducible exact H)|(have z5:=(Option.bind_some _ _).symm.trans H;rw[n4];with_reducible exact z5)|(have z5:=(Option.bind_some _ _).symm.trans H;with_reducible exact z5)|with_reducible exact H|(rw[n4];exact H)|exact H)
  have l4:=Aside0.mk n4;clear n4;have H':=Aside0.mk H;clear H
  go_enter Try.func13,Try.ntmps13
  try go_wp2_with (first|((with_reducible refine gate_dst (N:=1) rfl ?_);refine Zbe 1 #[.slice g8 a6.length f8,.slice g9 e6.length f9] 26 ?_;intro b9 hg w6 hbox hb;have a4:=Zm (hbox);have C6:=Zx hg HB;have C7:=Zx hg HB;replace HB:=Zh HB hb;clear hb hbox hg)|((with_reducible refine gate_dst (N:=2) rfl ?_);refine Zbe 2 #[.slice none 0 0,.slice none 0 0] 26 ?_;intro c9 hg w7 hbox hb;have a5:=Zm (hbox);have C8:=Zx hg HB;have C9:=Zx hg HB;replace HB:=Zh HB hb;have i7:=Zq hg a4;have i8:=Zp hg a4;replace a4:=Zk a4 hb;clear hb hbox hg;have O5:=i7.out;have O6:=i8.out;obtain⟨J4,J5,J6,J7⟩:=Z2 a4)|((with_reducible refine gate_callee (f:=36) rfl ?_);refine Ga (some 9) Try.func36 #[.agg #[.slice g8 a6.length f8,.slice g9 e6.length f9]] (h:= ?_);(with_reducible refine(spec_poTurned.calls k _ _ a6 _ _ e6 true _ ?o5 ?o6 ?o7 ?o8 A2.out).mono ?_);(case o5=>exact Zca (Kd.C_below o3.out HB.out));(case o6=>exact s9.out);(case o7=>exact Zca (Kd.C_below o4.out HB.out));(case o8=>exact t0.out);rintro e O7 ⟨rfl,hb⟩;refine⟨_,rfl, ?_⟩;replace a4:=Zk a4 hb;replace a5:=Zk a5 hb;replace HB:=Zh HB hb;obtain⟨F1,F2,F3,F4⟩:=Z2 a4))
  replace a4:=Zm (blk_drew a4.out);replace a5:=Zm (blk_drew a5.out);replace HB:=Zm (below_drew1 HB.out)
  refine start_ (n:=7) (S:=fun w'=>True) (ds:= []) (fl 7 0) (by kernel_rfl) rfl rfl trivial (fun hHeld=> ?_)
  generalize O7.drew=Q4 at a4 a5 HB hHeld ⊢
  refine pure_ (i:=0) (N:=some 15) (v:= ?_) (a':= ?_) (fl 7 1) rfl rfl (by kernel_rfl) (fun _ _ _ h=>h) (Or.inl ⟨by rfl, ?_⟩) ?_ ?_
  rotate_left
  ·
   intro w'
   go_simp
   with_reducible rfl
  rotate_left
  ·
   simp only[Act.put,List.setIfInBounds_toArray,List.set_cons_zero,List.set_cons_succ,i64_w,i32_w]
   rfl
  refine pure_ (i:=2) (N:=some 17) (v:= ?_) (a':= ?_) (fl 7 5) rfl rfl (by kernel_rfl) (fun _ _ _ h=>h) (Or.inl ⟨by rfl, ?_⟩) ?_ ?_
  rotate_left
  ·
   intro w'
   go_simp
   with_reducible rfl
  rotate_left
  ·
   simp only[Act.put,List.setIfInBounds_toArray,List.set_cons_zero,List.set_cons_succ,i64_w,i32_w]
   rfl
  refine join_ (σ:=Value × Value × Nat) 1 (fl 7 63) (fun s_=> [(16,s_.1),(18,s_.2.1),(5,.pointer (some ⟨s_.2.2,0,none⟩)),(19,.agg #[s_.1,s_.2.1])]) (fun s_ w'=>(Kd.R (Kd.int .i64) 3 w' w.heap.size (fun k_=>Zn k_ s_.2.1) s_.1 i3)∧(Kd.R (Kd.int .i64) 3 w' w.heap.size (fun k_=>Zn k_ s_.1) s_.2.1 i4)∧(w'.heap[b9]? =some (.cells #[.slice g8 a6.length f8,.slice g9 e6.length f9] 26 (0,0)))∧(w'.heap[c9]? =some (.cells #[.slice none 0 0,.slice none 0 0] 26 (0,0)))∧(w'.heap[s_.2.2]? =some (.cells #[.slice none 0 0,.slice none 0 0] 26 (0,0)))∧(w.heap.size≤s_.2.2)∧(w.heap.size≤s_.2.2)∧(b9≠s_.2.2)∧(s_.2.2≠b9)∧(c9≠s_.2.2)∧(s_.2.2≠c9)∧(Below w.heap.size w w')) ?_ ?_
  rotate_left
  ·
   intro n0
   refine join_ (σ:=Value × Value) 2 (fl 7 31) (fun s_=> [(16,s_.1),(18,s_.2),(19,.agg #[s_.1,s_.2])]) (fun s_ w'=>(Kd.R (Kd.int .i64) 3 w' w.heap.size (fun k_=>Zn k_ s_.2) s_.1 i3)∧(Kd.R (Kd.int .i64) 3 w' w.heap.size (fun k_=>Zn k_ s_.1) s_.2 i4)∧(w'.heap[b9]? =some (.cells #[.slice g8 a6.length f8,.slice g9 e6.length f9] 26 (0,0)))∧(w'.heap[c9]? =some (.cells #[.slice none 0 0,.slice none 0 0] 26 (0,0)))∧(Below w.heap.size w w')) ?_ ?_
   rotate_left
   ·
    intro t8
    refine join_ (σ:=Value × Nat) 3 (fl 7 39) (fun s_=> [(16,s_.1),(5,.pointer (some ⟨s_.2,0,none⟩))]) (fun s_ w'=>(Kd.R (Kd.int .i64) 3 w' w.heap.size (fun _ =>True) s_.1 i3)∧(w'.heap[b9]? =some (.cells #[.slice g8 a6.length f8,.slice g9 e6.length f9] 26 (0,0)))∧(w'.heap[c9]? =some (.cells #[.slice none 0 0,.slice none 0 0] 26 (0,0)))∧(w'.heap[s_.2]? =some (.cells #[.slice none 0 0,.slice none 0 0] 26 (0,0)))∧(w.heap.size≤s_.2)∧(w.heap.size≤s_.2)∧(b9≠s_.2)∧(s_.2≠b9)∧(c9≠s_.2)∧(s_.2≠c9)∧(Below w.heap.size w w')) ?_ ?_
    rotate_left
    ·
     intro t9
     refine join_ (σ:=Value × Nat) 3 (fl 7 45) (fun s_=> [(18,s_.1),(5,.pointer (some ⟨s_.2,0,none⟩))]) (fun s_ w'=>(Kd.R (Kd.int .i64) 3 w' w.heap.size (fun _ =>True) s_.1 i4)∧(w'.heap[b9]? =some (.cells #[.slice g8 a6.length f8,.slice g9 e6.length f9] 26 (0,0)))∧(w'.heap[c9]? =some (.cells #[.slice none 0 0,.slice none 0 0] 26 (0,0)))∧(w'.heap[s_.2]? =some (.cells #[.slice none 0 0,.slice none 0 0] 26 (0,0)))∧(w.heap.size≤s_.2)∧(w.heap.size≤s_.2)∧(b9≠s_.2)∧(s_.2≠b9)∧(c9≠s_.2)∧(s_.2≠c9)∧(Below w.heap.size w w')) ?_ ?_
     rotate_left
     ·
      intro y8
      refine join_ (σ:=Value) 4 (fl 7 7) (fun s_=> [(16,s_)]) (fun s_ w'=>(Kd.R (Kd.int .i64) 3 w' w.heap.size (fun _ =>True) s_ i3)∧(w'.heap[b9]? =some (.cells #[.slice g8 a6.length f8,.slice g9 e6.length f9] 26 (0,0)))∧(w'.heap[c9]? =some (.cells #[.slice none 0 0,.slice none 0 0] 26 (0,0)))∧(Below w.heap.size w w')) ?_ ?_
      rotate_left
      ·
       intro O8
       refine join_ (σ:=Value) 4 (fl 7 13) (fun s_=> [(18,s_)]) (fun s_ w'=>(Kd.R (Kd.int .i64) 3 w' w.heap.size (fun _ =>True) s_ i4)∧(w'.heap[b9]? =some (.cells #[.slice g8 a6.length f8,.slice g9 e6.length f9] 26 (0,0)))∧(w'.heap[c9]? =some (.cells #[.slice none 0 0,.slice none 0 0] 26 (0,0)))∧(Below w.heap.size w w')) ?_ ?_
       rotate_left
       ·
        intro O9
        refine join_ (σ:=Nat) 4 (fl 7 37) (fun s_=> [(5,.pointer (some ⟨s_,0,none⟩))]) (fun s_ w'=>(w'.heap[b9]? =some (.cells #[.slice g8 a6.length f8,.slice g9 e6.length f9] 26 (0,0)))∧(w'.heap[c9]? =some (.cells #[.slice none 0 0,.slice none 0 0] 26 (0,0)))∧(w'.heap[s_]? =some (.cells #[.slice none 0 0,.slice none 0 0] 26 (0,0)))∧(w.heap.size≤s_)∧(w.heap.size≤s_)∧(b9≠s_)∧(s_≠b9)∧(c9≠s_)∧(s_≠c9)∧(Below w.heap.size w w')) ?_ ?_
        rotate_left
        ·
         intro P0
         refine three_ (i:=1) (j:=3) (k:=5) (Ni:=some 16) (Nj:=some 18) (Nk:=some 5) (fl 7 7) (fl 7 13) (fl 7 37) rfl rfl rfl rfl rfl rfl (by kernel_rfl) (by decide) (by decide) (by decide) (fun K hK=> ?_) (fun K hK=> ?_) (fun K hK=> ?_)
         ·
          refine Kd.R_make_step (Kd.int .i64) _ 3 (by rfl) (N:=16) rfl 24 _ _ rfl (a6.length:Int) rfl rfl Try.underlying24 (.int .i64 0) 8 info3 rfl (by decide) (by omega) 0 (ok:=fun _ =>True) (okp:=fun _ =>True) rfl (fun _ hk=>hk) trivial (of_decide_eq_true (by first|(with_reducible assumption)|assumption)) (Nat.le_trans (Nat.mul_le_mul_right _ (of_decide_eq_true (by first|(with_reducible assumption)|assumption):(a6.length:Int).toNat≤35184372088832)) (by omega)) (Below.refl _ _) (Nat.le_refl _) ?_
          intro i9 L6 l6 hb hg_ hnew_
          clear hg_ hnew_
          (first|rw[←l3.out]at l6|(simp only[Int.reduceToNat]at l6;rw[←l3.out]at l6))
          have d4:=Zj l6 HB;replace a4:=Zk a4 hb;replace a5:=Zk a5 hb;replace HB:=Zh HB hb;clear hb l6
          refine hK.out _ _ trivial (fun hHeld=> ?_)
          clear hK K;refine Yn 16 (h:= ?_)
          exact norm_ (by first|(simp only[putAll,Act.put,List.setIfInBounds_toArray,List.set_cons_zero,List.set_cons_succ];done)|(simp only[putAll,Act.put,List.setIfInBounds_toArray,List.set_cons_zero,List.set_cons_succ];rfl)) (O8 (i9) _ ⟨(Zr d4),(Zb a4),(Zb a5),(Zl HB)⟩)
         ·
          refine Kd.R_make_step (Kd.int .i64) _ 3 (by rfl) (N:=18) rfl 24 _ _ rfl (a6.length:Int) rfl rfl Try.underlying24 (.int .i64 0) 8 info3 rfl (by decide) (by omega) 0 (ok:=fun _ =>True) (okp:=fun _ =>True) rfl (fun _ hk=>hk) trivial (of_decide_eq_true (by first|(with_reducible assumption)|assumption)) (Nat.le_trans (Nat.mul_le_mul_right _ (of_decide_eq_true (by first|(with_reducible assumption)|assumption):(a6.length:Int).toNat≤35184372088832)) (by omega)) (Below.refl _ _) (Nat.le_refl _) ?_
          intro k3 L6 l6 hb hg_ hnew_
          clear hg_ hnew_
          (first|rw[←l4.out]at l6|(simp only[Int.reduceToNat]at l6;rw[←l4.out]at l6))
          have d5:=Zj l6 HB;replace a4:=Zk a4 hb;replace a5:=Zk a5 hb;replace HB:=Zh HB hb;clear hb l6
          refine hK.out _ _ trivial (fun hHeld=> ?_)
          clear hK K;refine Yn 18 (h:= ?_)
          exact norm_ (by first|(simp only[putAll,Act.put,List.setIfInBounds_toArray,List.set_cons_zero,List.set_cons_succ];done)|(simp only[putAll,Act.put,List.setIfInBounds_toArray,List.set_cons_zero,List.set_cons_succ];rfl)) (O9 (k3) _ ⟨(Zr d5),(Zb a4),(Zb a5),(Zl HB)⟩)
         ·
          refine Zbs 5 #[.slice none 0 0,.slice none 0 0] 26 ?_
          intro a9 hg L6 hbox hb
          have b8:=Zm (hbox);have e7:=Zx hg HB;have e9:=Zx hg HB;replace HB:=Zh HB hb;have a7:=Zq hg a4;have a8:=Zp hg a4;replace a4:=Zk a4 hb;have b6:=Zq hg a5;have b7:=Zp hg a5;replace a5:=Zk a5 hb;clear hb hbox hg
          refine hK.out _ _ trivial (fun hHeld=> ?_)
          clear hK K;refine Yn 5 (h:= ?_)
          exact norm_ (by first|(simp only[putAll,Act.put,List.setIfInBounds_toArray,List.set_cons_zero,List.set_cons_succ];done)|(simp only[putAll,Act.put,List.setIfInBounds_toArray,List.set_cons_zero,List.set_cons_succ];rfl)) (P0 (a9) _ ⟨(Zb a4),(Zb a5),(Zb b8),e7.out,e9.out,a7.out,a8.out,b6.out,b7.out,(Zl HB)⟩)
        ·
         rintro a9 F5 ⟨m6,m7,m8,m9,o1,o9,p3,p4,p5,p6⟩
         replace a4:Aside0 (F5.heap[b9]? =some (.cells #[.slice g8 a6.length f8,.slice g9 e6.length f9] 26 (0,0))):=⟨m6⟩;replace a5:Aside0 (F5.heap[c9]? =some (.cells #[.slice none 0 0,.slice none 0 0] 26 (0,0))):=⟨m7⟩;have b8:Aside0 (F5.heap[a9]? =some (.cells #[.slice none 0 0,.slice none 0 0] 26 (0,0))):=⟨m8⟩;have e7:Aside0 (w.heap.size≤a9):=⟨m9⟩;have e9:Aside0 (w.heap.size≤a9):=⟨o1⟩;have a7:Aside0 (b9≠a9):=⟨o9⟩;have a8:Aside0 (a9≠b9):=⟨p3⟩;have b6:Aside0 (c9≠a9):=⟨p4⟩;have b7:Aside0 (a9≠c9):=⟨p5⟩;replace HB:Aside0 (Below w.heap.size w F5):=⟨p6⟩;clear m6 m7 m8 m9 o1 o9 p3 p4 p5 p6;have hHeld:=trivial
         refine norm_ (a':= ?_) ?_ ?_
         rotate_left
         ·
          simp only[putAll,Act.put,List.setIfInBounds_toArray,List.set_cons_zero,List.set_cons_succ]
          rfl
         refine two_ (i:=1) (j:=3) (Ni:=some 16) (Nj:=some 18) (fl 7 39) (fl 7 45) rfl rfl rfl rfl (by kernel_rfl) (by decide) (by decide) (fun K hK=> ?_) (fun K hK=> ?_)
         ·
          refine Kd.R_make_step (Kd.int .i64) _ 3 (by rfl) (N:=16) rfl 24 _ _ rfl (a6.length:Int) rfl rfl Try.underlying24 (.int .i64 0) 8 info3 rfl (by decide) (by omega) 0 (ok:=fun _ =>True) (okp:=fun _ =>True) rfl (fun _ hk=>hk) trivial (of_decide_eq_true (by first|(with_reducible assumption)|assumption)) (Nat.le_trans (Nat.mul_le_mul_right _ (of_decide_eq_true (by first|(with_reducible assumption)|assumption):(a6.length:Int).toNat≤35184372088832)) (by omega)) (Below.refl _ _) (Nat.le_refl _) ?_
          intro i9 p7 l7 hb hg_ hnew_
          clear hg_ hnew_
          (first|rw[←l3.out]at l7|(simp only[Int.reduceToNat]at l7;rw[←l3.out]at l7))
          have d4:=Zj l7 HB;replace a4:=Zk a4 hb;replace a5:=Zk a5 hb;replace b8:=Zk b8 hb;replace HB:=Zh HB hb;clear hb l7
          refine hK.out _ _ trivial (fun hHeld=> ?_)
          clear hK K;refine Yn 16 (h:= ?_)
          exact norm_ (by first|(simp only[putAll,Act.put,List.setIfInBounds_toArray,List.set_cons_zero,List.set_cons_succ];done)|(simp only[putAll,Act.put,List.setIfInBounds_toArray,List.set_cons_zero,List.set_cons_succ];rfl)) (t9 (i9,a9) _ ⟨(Zr d4),(Zb a4),(Zb a5),(Zb b8),e7.out,e9.out,a7.out,a8.out,b6.out,b7.out,(Zl HB)⟩)
         ·
          refine Kd.R_make_step (Kd.int .i64) _ 3 (by rfl) (N:=18) rfl 24 _ _ rfl (a6.length:Int) rfl rfl Try.underlying24 (.int .i64 0) 8 info3 rfl (by decide) (by omega) 0 (ok:=fun _ =>True) (okp:=fun _ =>True) rfl (fun _ hk=>hk) trivial (of_decide_eq_true (by first|(with_reducible assumption)|assumption)) (Nat.le_trans (Nat.mul_le_mul_right _ (of_decide_eq_true (by first|(with_reducible assumption)|assumption):(a6.length:Int).toNat≤35184372088832)) (by omega)) (Below.refl _ _) (Nat.le_refl _) ?_
          intro k3 p7 l7 hb hg_ hnew_
          clear hg_ hnew_
          (first|rw[←l4.out]at l7|(simp only[Int.reduceToNat]at l7;rw[←l4.out]at l7))
          have d5:=Zj l7 HB;replace a4:=Zk a4 hb;replace a5:=Zk a5 hb;replace b8:=Zk b8 hb;replace HB:=Zh HB hb;clear hb l7
          refine hK.out _ _ trivial (fun hHeld=> ?_)
          clear hK K;refine Yn 18 (h:= ?_)
          exact norm_ (by first|(simp only[putAll,Act.put,List.setIfInBounds_toArray,List.set_cons_zero,List.set_cons_succ];done)|(simp only[putAll,Act.put,List.setIfInBounds_toArray,List.set_cons_zero,List.set_cons_succ];rfl)) (y8 (k3,a9) _ ⟨(Zr d5),(Zb a4),(Zb a5),(Zb b8),e7.out,e9.out,a7.out,a8.out,b6.out,b7.out,(Zl HB)⟩)
       ·
        rintro k3 p7 ⟨m6,m7,m8,m9⟩;(have d5:Aside0 (Kd.R (Kd.int .i64) 3 p7 w.heap.size (fun _ =>True) k3 i4):=⟨m6⟩;replace a4:Aside0 (p7.heap[b9]? =some (.cells #[.slice g8 a6.length f8,.slice g9 e6.length f9] 26 (0,0))):=⟨m7⟩;replace a5:Aside0 (p7.heap[c9]? =some (.cells #[.slice none 0 0,.slice none 0 0] 26 (0,0))):=⟨m8⟩;replace HB:Aside0 (Below w.heap.size w p7):=⟨m9⟩;clear m6 m7 m8 m9;have hHeld:=trivial)
        refine norm_ (a':= ?_) ?_ ?_
        rotate_left
        ·
         simp only[putAll,Act.put,List.setIfInBounds_toArray,List.set_cons_zero,List.set_cons_succ]
         rfl
        refine two_ (i:=1) (j:=5) (Ni:=some 16) (Nj:=some 5) (fl 7 15) (fl 7 45) rfl rfl rfl rfl (by kernel_rfl) (by decide) (by decide) (fun K hK=> ?_) (fun K hK=> ?_)
        ·
         refine Kd.R_make_step (Kd.int .i64) _ 3 (by rfl) (N:=16) rfl 24 _ _ rfl (a6.length:Int) rfl rfl Try.underlying24 (.int .i64 0) 8 info3 rfl (by decide) (by omega) 0 (ok:=fun _ =>True) (okp:=fun _ =>True) rfl (fun _ hk=>hk) trivial (of_decide_eq_true (by first|(with_reducible assumption)|assumption)) (Nat.le_trans (Nat.mul_le_mul_right _ (of_decide_eq_true (by first|(with_reducible assumption)|assumption):(a6.length:Int).toNat≤35184372088832)) (by omega)) (Below.refl _ _) (Nat.le_refl _) ?_
         intro i9 n7 k8 hb hg_ hnew_
         clear hg_ hnew_
         (first|rw[←l3.out]at k8|(simp only[Int.reduceToNat]at k8;rw[←l3.out]at k8))
         have d4:=Zj (Zv k8 d5) HB;replace d5:=Zm (Kd.R_elder' (Zr d5) (Kd.R_base k8) hb);replace a4:=Zk a4 hb;replace a5:=Zk a5 hb;replace HB:=Zh HB hb;clear hb k8;obtain⟨z6,z7,p8⟩:=Kd.R_slice d5.out
         (first|subst p8|(injection p8 with i5 l8 i6;have l9:=i5.symm;have m4:=i6.symm;clear i5 l8 i6;subst l9;subst m4))
         obtain⟨n8,n9,m5⟩:=Kd.R_slice d4.out
         (first|subst m5|(injection m5 with i5 l8 i6;have l9:=i5.symm;have m4:=i6.symm;clear i5 l8 i6;subst l9;subst m4))
         refine hK.out _ _ trivial (fun hHeld=> ?_)
         clear hK K;refine Yn 16 (h:= ?_)
         refine pure_ (i:=4) (N:=some 19) (v:= ?_) (a':= ?_) (fl 7 31) rfl rfl (by kernel_rfl) (fun _ _ _ h=>h) (Or.inl ⟨by rfl, ?_⟩) ?_ ?_
         rotate_left
         ·
          intro w'
          go_simp
          with_reducible rfl
         rotate_left
         ·
          simp only[Act.put,List.setIfInBounds_toArray,List.set_cons_zero,List.set_cons_succ,i64_w,i32_w]
          rfl
         exact norm_ (by first|(simp only[putAll,Act.put,List.setIfInBounds_toArray,List.set_cons_zero,List.set_cons_succ];done)|(simp only[putAll,Act.put,List.setIfInBounds_toArray,List.set_cons_zero,List.set_cons_succ];rfl)) (t8 (.slice n8 i3.length n9,.slice z6 i4.length z7) _ ⟨(Zc d4),(Zc d5),(Zb a4),(Zb a5),(Zl HB)⟩)
        ·
         refine Zbs 5 #[.slice none 0 0,.slice none 0 0] 26 ?_
         intro a9 hg n7 hbox hb
         replace d5:=Zo d5 hb;have b8:=Zm (hbox);have e7:=Zx hg HB;have e9:=Zx hg HB;replace HB:=Zh HB hb;have a7:=Zq hg a4;have a8:=Zp hg a4;replace a4:=Zk a4 hb;have b6:=Zq hg a5;have b7:=Zp hg a5;replace a5:=Zk a5 hb;clear hb hbox hg
         refine hK.out _ _ trivial (fun hHeld=> ?_)
         clear hK K;refine Yn 5 (h:= ?_)
         exact norm_ (by first|(simp only[putAll,Act.put,List.setIfInBounds_toArray,List.set_cons_zero,List.set_cons_succ];done)|(simp only[putAll,Act.put,List.setIfInBounds_toArray,List.set_cons_zero,List.set_cons_succ];rfl)) (y8 (k3,a9) _ ⟨(Zr d5),(Zb a4),(Zb a5),(Zb b8),e7.out,e9.out,a7.out,a8.out,b6.out,b7.out,(Zl HB)⟩)
      ·
       rintro i9 p7 ⟨m6,m7,m8,m9⟩;(have d4:Aside0 (Kd.R (Kd.int .i64) 3 p7 w.heap.size (fun _ =>True) i9 i3):=⟨m6⟩;replace a4:Aside0 (p7.heap[b9]? =some (.cells #[.slice g8 a6.length f8,.slice g9 e6.length f9] 26 (0,0))):=⟨m7⟩;replace a5:Aside0 (p7.heap[c9]? =some (.cells #[.slice none 0 0,.slice none 0 0] 26 (0,0))):=⟨m8⟩;replace HB:Aside0 (Below w.heap.size w p7):=⟨m9⟩;clear m6 m7 m8 m9;have hHeld:=trivial)
       refine norm_ (a':= ?_) ?_ ?_
       rotate_left
       ·
        simp only[putAll,Act.put,List.setIfInBounds_toArray,List.set_cons_zero,List.set_cons_succ]
        rfl
       refine two_ (i:=3) (j:=5) (Ni:=some 18) (Nj:=some 5) (fl 7 15) (fl 7 39) rfl rfl rfl rfl (by kernel_rfl) (by decide) (by decide) (fun K hK=> ?_) (fun K hK=> ?_)
       ·
        refine Kd.R_make_step (Kd.int .i64) _ 3 (by rfl) (N:=18) rfl 24 _ _ rfl (a6.length:Int) rfl rfl Try.underlying24 (.int .i64 0) 8 info3 rfl (by decide) (by omega) 0 (ok:=fun _ =>True) (okp:=fun _ =>True) rfl (fun _ hk=>hk) trivial (of_decide_eq_true (by first|(with_reducible assumption)|assumption)) (Nat.le_trans (Nat.mul_le_mul_right _ (of_decide_eq_true (by first|(with_reducible assumption)|assumption):(a6.length:Int).toNat≤35184372088832)) (by omega)) (Below.refl _ _) (Nat.le_refl _) ?_
        intro k3 n7 k8 hb hg_ hnew_
        clear hg_ hnew_
        (first|rw[←l4.out]at k8|(simp only[Int.reduceToNat]at k8;rw[←l4.out]at k8))
        have d5:=Zj (Zv k8 d4) HB;replace d4:=Zm (Kd.R_elder' (Zr d4) (Kd.R_base k8) hb);replace a4:=Zk a4 hb;replace a5:=Zk a5 hb;replace HB:=Zh HB hb;clear hb k8;obtain⟨z6,z7,p8⟩:=Kd.R_slice d5.out
        (first|subst p8|(injection p8 with i5 l8 i6;have l9:=i5.symm;have m4:=i6.symm;clear i5 l8 i6;subst l9;subst m4))
        obtain⟨n8,n9,m5⟩:=Kd.R_slice d4.out
        (first|subst m5|(injection m5 with i5 l8 i6;have l9:=i5.symm;have m4:=i6.symm;clear i5 l8 i6;subst l9;subst m4))
        refine hK.out _ _ trivial (fun hHeld=> ?_)
        clear hK K;refine Yn 18 (h:= ?_)
        refine pure_ (i:=4) (N:=some 19) (v:= ?_) (a':= ?_) (fl 7 31) rfl rfl (by kernel_rfl) (fun _ _ _ h=>h) (Or.inl ⟨by rfl, ?_⟩) ?_ ?_
        rotate_left
        ·
         intro w'
         go_simp
         with_reducible rfl
        rotate_left
        ·
         simp only[Act.put,List.setIfInBounds_toArray,List.set_cons_zero,List.set_cons_succ,i64_w,i32_w]
         rfl
        exact norm_ (by first|(simp only[putAll,Act.put,List.setIfInBounds_toArray,List.set_cons_zero,List.set_cons_succ];done)|(simp only[putAll,Act.put,List.setIfInBounds_toArray,List.set_cons_zero,List.set_cons_succ];rfl)) (t8 (.slice n8 i3.length n9,.slice z6 i4.length z7) _ ⟨(Zc d4),(Zc d5),(Zb a4),(Zb a5),(Zl HB)⟩)
       ·
        refine Zbs 5 #[.slice none 0 0,.slice none 0 0] 26 ?_
        intro a9 hg n7 hbox hb
        replace d4:=Zo d4 hb;have b8:=Zm (hbox);have e7:=Zx hg HB;have e9:=Zx hg HB;replace HB:=Zh HB hb;have a7:=Zq hg a4;have a8:=Zp hg a4;replace a4:=Zk a4 hb;have b6:=Zq hg a5;have b7:=Zp hg a5;replace a5:=Zk a5 hb;clear hb hbox hg
        refine hK.out _ _ trivial (fun hHeld=> ?_)
        clear hK K;refine Yn 5 (h:= ?_)
        exact norm_ (by first|(simp only[putAll,Act.put,List.setIfInBounds_toArray,List.set_cons_zero,List.set_cons_succ];done)|(simp only[putAll,Act.put,List.setIfInBounds_toArray,List.set_cons_zero,List.set_cons_succ];rfl)) (t9 (i9,a9) _ ⟨(Zr d4),(Zb a4),(Zb a5),(Zb b8),e7.out,e9.out,a7.out,a8.out,b6.out,b7.out,(Zl HB)⟩)
     ·
      rintro⟨k3,a9⟩ n7 ⟨m6,m7,m8,m9,o1,o9,p3,p4,p5,p6,n5⟩;(have d5:Aside0 (Kd.R (Kd.int .i64) 3 n7 w.heap.size (fun _ =>True) k3 i4):=⟨m6⟩;replace a4:Aside0 (n7.heap[b9]? =some (.cells #[.slice g8 a6.length f8,.slice g9 e6.length f9] 26 (0,0))):=⟨m7⟩;replace a5:Aside0 (n7.heap[c9]? =some (.cells #[.slice none 0 0,.slice none 0 0] 26 (0,0))):=⟨m8⟩;have b8:Aside0 (n7.heap[a9]? =some (.cells #[.slice none 0 0,.slice none 0 0] 26 (0,0))):=⟨m9⟩;have e7:Aside0 (w.heap.size≤a9):=⟨o1⟩;have e9:Aside0 (w.heap.size≤a9):=⟨o9⟩;have a7:Aside0 (b9≠a9):=⟨p3⟩;have a8:Aside0 (a9≠b9):=⟨p4⟩;have b6:Aside0 (c9≠a9):=⟨p5⟩;have b7:Aside0 (a9≠c9):=⟨p6⟩;replace HB:Aside0 (Below w.heap.size w n7):=⟨n5⟩;clear m6 m7 m8 m9 o1 o9 p3 p4 p5 p6 n5;have hHeld:=trivial)
      refine norm_ (a':= ?_) ?_ ?_
      rotate_left
      ·
       simp only[putAll,Act.put,List.setIfInBounds_toArray,List.set_cons_zero,List.set_cons_succ]
       rfl
      refine one_ (i:=1) (N:=some 16) (fl 7 47) rfl rfl (by kernel_rfl) (by decide) (fun K hK=> ?_)
      refine Kd.R_make_step (Kd.int .i64) _ 3 (by rfl) (N:=16) rfl 24 _ _ rfl (a6.length:Int) rfl rfl Try.underlying24 (.int .i64 0) 8 info3 rfl (by decide) (by omega) 0 (ok:=fun _ =>True) (okp:=fun _ =>True) rfl (fun _ hk=>hk) trivial (of_decide_eq_true (by first|(with_reducible assumption)|assumption)) (Nat.le_trans (Nat.mul_le_mul_right _ (of_decide_eq_true (by first|(with_reducible assumption)|assumption):(a6.length:Int).toNat≤35184372088832)) (by omega)) (Below.refl _ _) (Nat.le_refl _) ?_
      intro i9 P1 k9 hb hg_ hnew_
      clear hg_ hnew_
      (first|rw[←l3.out]at k9|(simp only[Int.reduceToNat]at k9;rw[←l3.out]at k9))
      have d4:=Zj (Zv k9 d5) HB;replace d5:=Zm (Kd.R_elder' (Zr d5) (Kd.R_base k9) hb);replace a4:=Zk a4 hb;replace a5:=Zk a5 hb;replace b8:=Zk b8 hb;replace HB:=Zh HB hb;clear hb k9;obtain⟨n8,n9,m5⟩:=Kd.R_slice d5.out
      (first|subst m5|(injection m5 with i5 l8 i6;have l9:=i5.symm;have m4:=i6.symm;clear i5 l8 i6;subst l9;subst m4))
      obtain⟨p9,q3,n6⟩:=Kd.R_slice d4.out
      (first|subst n6|(injection n6 with i5 l8 i6;have l9:=i5.symm;have m4:=i6.symm;clear i5 l8 i6;subst l9;subst m4))
      refine hK.out _ _ trivial (fun hHeld=> ?_)
      clear hK K;refine Yn 16 (h:= ?_)
      refine pure_ (i:=4) (N:=some 19) (v:= ?_) (a':= ?_) (fl 7 63) rfl rfl (by kernel_rfl) (fun _ _ _ h=>h) (Or.inl ⟨by rfl, ?_⟩) ?_ ?_
      rotate_left
      ·
       intro w'
       go_simp
       with_reducible rfl
      rotate_left
      ·
       simp only[Act.put,List.setIfInBounds_toArray,List.set_cons_zero,List.set_cons_succ,i64_w,i32_w]
       rfl
      exact norm_ (by first|(simp only[putAll,Act.put,List.setIfInBounds_toArray,List.set_cons_zero,List.set_cons_succ];done)|(simp only[putAll,Act.put,List.setIfInBounds_toArray,List.set_cons_zero,List.set_cons_succ];rfl)) (n0 (.slice p9 i3.length q3,.slice n8 i4.length n9,a9) _ ⟨(Zc d4),(Zc d5),(Zb a4),(Zb a5),(Zb b8),e7.out,e9.out,a7.out,a8.out,b6.out,b7.out,(Zl HB)⟩)
    ·
     rintro⟨i9,a9⟩ n7 ⟨m6,m7,m8,m9,o1,o9,p3,p4,p5,p6,n5⟩;(have d4:Aside0 (Kd.R (Kd.int .i64) 3 n7 w.heap.size (fun _ =>True) i9 i3):=⟨m6⟩;replace a4:Aside0 (n7.heap[b9]? =some (.cells #[.slice g8 a6.length f8,.slice g9 e6.length f9] 26 (0,0))):=⟨m7⟩;replace a5:Aside0 (n7.heap[c9]? =some (.cells #[.slice none 0 0,.slice none 0 0] 26 (0,0))):=⟨m8⟩;have b8:Aside0 (n7.heap[a9]? =some (.cells #[.slice none 0 0,.slice none 0 0] 26 (0,0))):=⟨m9⟩;have e7:Aside0 (w.heap.size≤a9):=⟨o1⟩;have e9:Aside0 (w.heap.size≤a9):=⟨o9⟩;have a7:Aside0 (b9≠a9):=⟨p3⟩;have a8:Aside0 (a9≠b9):=⟨p4⟩;have b6:Aside0 (c9≠a9):=⟨p5⟩;have b7:Aside0 (a9≠c9):=⟨p6⟩;replace HB:Aside0 (Below w.heap.size w n7):=⟨n5⟩;clear m6 m7 m8 m9 o1 o9 p3 p4 p5 p6 n5;have hHeld:=trivial)
     refine norm_ (a':= ?_) ?_ ?_
     rotate_left
     ·
      simp only[putAll,Act.put,List.setIfInBounds_toArray,List.set_cons_zero,List.set_cons_succ]
      rfl
     refine one_ (i:=3) (N:=some 18) (fl 7 47) rfl rfl (by kernel_rfl) (by decide) (fun K hK=> ?_)
     refine Kd.R_make_step (Kd.int .i64) _ 3 (by rfl) (N:=18) rfl 24 _ _ rfl (a6.length:Int) rfl rfl Try.underlying24 (.int .i64 0) 8 info3 rfl (by decide) (by omega) 0 (ok:=fun _ =>True) (okp:=fun _ =>True) rfl (fun _ hk=>hk) trivial (of_decide_eq_true (by first|(with_reducible assumption)|assumption)) (Nat.le_trans (Nat.mul_le_mul_right _ (of_decide_eq_true (by first|(with_reducible assumption)|assumption):(a6.length:Int).toNat≤35184372088832)) (by omega)) (Below.refl _ _) (Nat.le_refl _) ?_
     intro k3 P1 k9 hb hg_ hnew_
     clear hg_ hnew_
     (first|rw[←l4.out]at k9|(simp only[Int.reduceToNat]at k9;rw[←l4.out]at k9))
     have d5:=Zj (Zv k9 d4) HB;replace d4:=Zm (Kd.R_elder' (Zr d4) (Kd.R_base k9) hb);replace a4:=Zk a4 hb;replace a5:=Zk a5 hb;replace b8:=Zk b8 hb;replace HB:=Zh HB hb;clear hb k9;obtain⟨n8,n9,m5⟩:=Kd.R_slice d5.out
     (first|subst m5|(injection m5 with i5 l8 i6;have l9:=i5.symm;have m4:=i6.symm;clear i5 l8 i6;subst l9;subst m4))
     obtain⟨p9,q3,n6⟩:=Kd.R_slice d4.out
     (first|subst n6|(injection n6 with i5 l8 i6;have l9:=i5.symm;have m4:=i6.symm;clear i5 l8 i6;subst l9;subst m4))
     refine hK.out _ _ trivial (fun hHeld=> ?_)
     clear hK K;refine Yn 18 (h:= ?_)
     refine pure_ (i:=4) (N:=some 19) (v:= ?_) (a':= ?_) (fl 7 63) rfl rfl (by kernel_rfl) (fun _ _ _ h=>h) (Or.inl ⟨by rfl, ?_⟩) ?_ ?_
     rotate_left
     ·
      intro w'
      go_simp
      with_reducible rfl
     rotate_left
     ·
      simp only[Act.put,List.setIfInBounds_toArray,List.set_cons_zero,List.set_cons_succ,i64_w,i32_w]
      rfl
     exact norm_ (by first|(simp only[putAll,Act.put,List.setIfInBounds_toArray,List.set_cons_zero,List.set_cons_succ];done)|(simp only[putAll,Act.put,List.setIfInBounds_toArray,List.set_cons_zero,List.set_cons_succ];rfl)) (n0 (.slice p9 i3.length q3,.slice n8 i4.length n9,a9) _ ⟨(Zc d4),(Zc d5),(Zb a4),(Zb a5),(Zb b8),e7.out,e9.out,a7.out,a8.out,b6.out,b7.out,(Zl HB)⟩)
   ·
    rintro⟨i9,k3⟩ D0 ⟨m6,m7,m8,m9,o1⟩;(have d4:Aside0 (Kd.R (Kd.int .i64) 3 D0 w.heap.size (fun k_=>Zn k_ k3) i9 i3):=⟨m6⟩;have d5:Aside0 (Kd.R (Kd.int .i64) 3 D0 w.heap.size (fun k_=>Zn k_ i9) k3 i4):=⟨m7⟩;replace a4:Aside0 (D0.heap[b9]? =some (.cells #[.slice g8 a6.length f8,.slice g9 e6.length f9] 26 (0,0))):=⟨m8⟩;replace a5:Aside0 (D0.heap[c9]? =some (.cells #[.slice none 0 0,.slice none 0 0] 26 (0,0))):=⟨m9⟩;replace HB:Aside0 (Below w.heap.size w D0):=⟨o1⟩;clear m6 m7 m8 m9 o1;have hHeld:=trivial);obtain⟨p9,q3,n6⟩:=Kd.R_slice d5.out
    (first|subst n6|(injection n6 with i5 l8 i6;have l9:=i5.symm;have m4:=i6.symm;clear i5 l8 i6;subst l9;subst m4))
    obtain⟨q4,q5,q6⟩:=Kd.R_slice d4.out
    (first|subst q6|(injection q6 with i5 l8 i6;have l9:=i5.symm;have m4:=i6.symm;clear i5 l8 i6;subst l9;subst m4))
    refine norm_ (a':= ?_) ?_ ?_
    rotate_left
    ·
     simp only[putAll,Act.put,List.setIfInBounds_toArray,List.set_cons_zero,List.set_cons_succ]
     rfl
    refine one_ (i:=5) (N:=some 5) (fl 7 63) rfl rfl (by kernel_rfl) (by decide) (fun K hK=> ?_)
    refine Zbs 5 #[.slice none 0 0,.slice none 0 0] 26 ?_
    intro a9 hg Q5 hbox hb
    replace d4:=Zo d4 hb;replace d5:=Zo d5 hb;have b8:=Zm (hbox);have e7:=Zx hg HB;have e9:=Zx hg HB;replace HB:=Zh HB hb;have a7:=Zq hg a4;have a8:=Zp hg a4;replace a4:=Zk a4 hb;have b6:=Zq hg a5;have b7:=Zp hg a5;replace a5:=Zk a5 hb;clear hb hbox hg
    refine hK.out _ _ trivial (fun hHeld=> ?_)
    clear hK K;refine Yn 5 (h:= ?_)
    exact norm_ (by first|(simp only[putAll,Act.put,List.setIfInBounds_toArray,List.set_cons_zero,List.set_cons_succ];done)|(simp only[putAll,Act.put,List.setIfInBounds_toArray,List.set_cons_zero,List.set_cons_succ];rfl)) (n0 (.slice q4 i3.length q5,.slice p9 i4.length q3,a9) _ ⟨(Zr d4),(Zr d5),(Zb a4),(Zb a5),(Zb b8),e7.out,e9.out,a7.out,a8.out,b6.out,b7.out,(Zl HB)⟩)
  rintro⟨i9,k3,a9⟩ C5 ⟨m6,m7,m8,m9,o1,o9,p3,p4,p5,p6,n5,D1⟩;(have d4:Aside0 (Kd.R (Kd.int .i64) 3 C5 w.heap.size (fun k_=>Zn k_ k3) i9 i3):=⟨m6⟩;have d5:Aside0 (Kd.R (Kd.int .i64) 3 C5 w.heap.size (fun k_=>Zn k_ i9) k3 i4):=⟨m7⟩;replace a4:Aside0 (C5.heap[b9]? =some (.cells #[.slice g8 a6.length f8,.slice g9 e6.length f9] 26 (0,0))):=⟨m8⟩;replace a5:Aside0 (C5.heap[c9]? =some (.cells #[.slice none 0 0,.slice none 0 0] 26 (0,0))):=⟨m9⟩;have b8:Aside0 (C5.heap[a9]? =some (.cells #[.slice none 0 0,.slice none 0 0] 26 (0,0))):=⟨o1⟩;have e7:Aside0 (w.heap.size≤a9):=⟨o9⟩;have e9:Aside0 (w.heap.size≤a9):=⟨p3⟩;have a7:Aside0 (b9≠a9):=⟨p4⟩;have a8:Aside0 (a9≠b9):=⟨p5⟩;have b6:Aside0 (c9≠a9):=⟨p6⟩;have b7:Aside0 (a9≠c9):=⟨n5⟩;replace HB:Aside0 (Below w.heap.size w C5):=⟨D1⟩;clear m6 m7 m8 m9 o1 o9 p3 p4 p5 p6 n5 D1;have hHeld:=trivial);obtain⟨q4,q5,q6⟩:=Kd.R_slice d5.out
  (first|subst q6|(injection q6 with i5 l8 i6;have l9:=i5.symm;have m4:=i6.symm;clear i5 l8 i6;subst l9;subst m4))
  obtain⟨q8,q9,D2⟩:=Kd.R_slice d4.out
  (first|subst D2|(injection D2 with i5 l8 i6;have l9:=i5.symm;have m4:=i6.symm;clear i5 l8 i6;subst l9;subst m4))
  refine norm_ (a':= ?_) ?_ ?_
  rotate_left
  ·
   simp only[putAll,Act.put,List.setIfInBounds_toArray,List.set_cons_zero,List.set_cons_succ]
   rfl
  refine one_ (i:=6) (N:=none) (fl 7 127) rfl rfl (by kernel_rfl) (by decide) (fun K hK=> ?_)
  have P2:=Zc0 b8 0;have L7:=blk_frozen b8.out 0;have F6:=a7.out;have F7:=b6.out;have F8:=a8.out;have F9:=b7.out;have P3:=Zc0 b8 1;have L8:=blk_frozen b8.out 1;have G1:=a7.out;have G2:=b6.out;have G3:=a8.out;have G4:=b7.out
  refine skip_ (w1:= ?_) (by rfl) rfl ?_ ?_
  rotate_left
  ·
   go_simp
   rfl
  refine hK.out _ _ trivial (fun hHeld=> ?_)
  clear hK K
  refine done_ (by kernel_rfl) ?_
  have L9:=a7.out;have M0:=a8.out;obtain⟨G5,G6,G7,G8⟩:=Z2 a4
  try go_wp2
  go_loopg [23] k (fun kq P4 w'=> ∃(d8:Int) (d3:List Int) (d9:List Int) (l5:Value) (k4:Value),P4= .int .i64 d8∧Aside0 (spec_BackTurned.l0 kq a6 (a6.length:Int) d8 a6 e6 d3 d9=some (r1,r2,r3))∧Aside0 (kq≤k)∧Aside0 (Kd.R (Kd.int .i64) 3 w' w.heap.size (fun k_=>Zn k_ k4) l5 d3)∧Aside0 (Kd.R (Kd.int .i64) 3 w' w.heap.size (fun k_=>Zn k_ l5) k4 d9)∧Aside0 (w'.heap[b9]? =some (.cells #[(.slice g8 a6.length f8),(.slice g9 e6.length f9)] 26 (0,0)))∧Aside0 (w'.heap[c9]? =some (.cells #[(.slice none 0 0),(.slice none 0 0)] 26 (0,0)))∧Aside0 (w'.heap[a9]? =some (.cells #[l5,k4] 26 (0,0)))∧Aside0 (Below w.heap.size w w'))
  case atStart=>exact⟨(0),(i3),(i4),(.slice q8 i3.length q9),(.slice q4 i4.length q5),Zs,H',⟨Nat.le_refl _⟩,⟨Zrr (Zfm d4 b8 (.slice q8 i3.length q9) (.slice q4 i4.length q5) (fun _ hk=>hk.1))⟩,⟨Zrr (Zfm d5 b8 (.slice q8 i3.length q9) (.slice q4 i4.length q5) (fun _ hk=>hk.1))⟩,⟨Zbf a4⟩,⟨Zbf a5⟩,⟨by refine Zrb ?_;refine blk_put (cs:= #[.slice q8 i3.length q9,.slice none 0 0]) ?_ 1 _ rfl;refine Zrb ?_;refine blk_put (cs:= #[.slice none 0 0,.slice none 0 0]) ?_ 0 _ rfl;refine Zrb ?_;exact b8.out⟩,⟨Zl HB⟩⟩
  case round=>
   (clear H');obtain⟨d8,d3,d9,l5,k4,rfl,HA,M1,d6,d7,a4,a5,b8,HB⟩:=hrel
   cases gk with
   |zero=>exact absurd HA.out (by simp[spec_BackTurned.l0])
   |succ k1=>
    have H:=HA.out;clear HA
    simp only[spec_BackTurned.l0]at H
    by_cases c27:d8<(a6.length:Int)
    ·
     rw[if_pos c27]at H;have D3:=decide_eq_true c27;clear c27
     replace H:=Zit H;obtain⟨M2,H⟩:=H
     replace H:=Zit H;obtain⟨M3,H⟩:=H
     replace H:=Zit H;obtain⟨M4,H⟩:=H
     replace H:=Zit H;obtain⟨M5,H⟩:=H;generalize y9:(d3.set ((rd a6 d8):Int).toNat d8)=D4 at H;have D5:=Aside0.mk y9.symm;clear y9
     replace H:=Zit H;obtain⟨M6,H⟩:=H
     replace H:=Zit H;obtain⟨M7,H⟩:=H;generalize z2:(d9.set ((rd a6 d8):Int).toNat (wrap64 (-(rd e6 d8))))=J8 at H;have D6:=Aside0.mk z2.symm;clear z2;have H':=Aside0.mk H;clear H;obtain⟨D7,J9,G9,P5,P6⟩:=Zat o3 HB (d8)
     cases J9
     have M8:=a8.out;have M9:=a7.out;have N0:=b7.out;have N1:=b6.out;obtain⟨H1,H2,H3,H4⟩:=Z2 b8;have K0:0≤((rd a6 d8):Int):=Zoa;have K1:((rd a6 d8):Int)<((d3.length:Int):Int):=Zoa
     obtain⟨o0,q7,D8,D9,K2,P7,E0⟩:=Kd.R_form d6.out (by omega)
     (first|cases D8|(injection D8 with ea_ en_ ec_;(first|subst ea_|(injection ea_ with ea_;subst ea_));subst ec_;clear en_))
     have K3:=Aside0.mk D9;have P8:=Aside0.mk E0;clear D9 K2 E0
     obtain⟨K4,K5⟩:=Kd.R_celln 0 d6.out ((rd a6 d8):Int) K0 K1
     replace K0:=eq_true K0
     replace K1:=eq_true K1
     have z8:=Kd.R_putg d6.out ((rd a6 d8):Int) d8
     try go_wp2_with (first|((with_reducible refine gate_store (t:=3) (p:=32) rfl ?_);refine store_event (t:=3) (p:=32) (v:= ?K6) (w1:=(wr.setCell ⟨o0,((rd a6 d8):Int).toNat,none⟩ (.int .i64 d8))) ?hg ?ho ?hn ?hr ?_;(case ho=>rfl);(case hg=>rfl);(case hn=>rfl);(case hr=>first|(go_simp;done)|(go_simp;rfl));intro H5 hw;have hg:wr.grownBy H5 (some o0):=(by rw[hw];exact z8.2);have hp_:Kd.R (Kd.int .i64) 3 H5 w.heap.size (fun k_=>Zn k_ k4) (.slice (some ⟨o0,0,none⟩) d3.length q7) D4:=(by rw[hw,D5.out];exact z8.1);clear z8;replace d7:=Zm (Kd.R_after (v:=(.slice (some ⟨o0,0,none⟩) d3.length q7)) (v1:=(.slice (some ⟨o0,0,none⟩) d3.length q7)) (ok:=(fun _ =>True)) (Zc d7) hg (.inl rfl));replace a4:=Zm (blk_grown (Zb a4) hg (Kd.R_ne d6.out a4.out (by decide)));replace a5:=Zm (blk_grown (Zb a5) hg (Kd.R_ne d6.out a5.out (by decide)));replace b8:=Zm (blk_grown (Zb b8) hg (Kd.R_ne d6.out b8.out (by decide)));replace d6:=Zm (hp_);replace HB:=Zm ((by rw[hw];exact below_set (HB.out) K3.out:Below w.heap.size w H5));clear hg hw hp_))
     replace d6:=Zm (Kd.R_drew d6.out);replace d7:=Zm (Kd.R_drew d7.out);replace a4:=Zm (blk_drew a4.out);replace a5:=Zm (blk_drew a5.out);replace b8:=Zm (blk_drew b8.out);replace HB:=Zm (below_drew1 HB.out);have z9:0≤(d8:Int):=Zoa;have B0:d8<(e6.length:Int):=Zoa
     obtain⟨z3,K7,k6⟩:=Kd.at_int o4.out d8 z9 B0
     have o2:=k6
     cases K7
     replace k6:=(HB.out.cell (World.block_lt_of_cell? w _ k6)).trans k6
     replace z9:=eq_true z9
     replace B0:=eq_true B0
     have K8:0≤((rd a6 d8):Int):=Zoa;have K9:((rd a6 d8):Int)<((d9.length:Int):Int):=Zoa
     obtain⟨r5,E6,E7,E8,L2,P9,E9⟩:=Kd.R_form d7.out (by omega)
     (first|cases E7|(injection E7 with ea_ en_ ec_;(first|subst ea_|(injection ea_ with ea_;subst ea_));subst ec_;clear en_))
     have Q0:=Aside0.mk E8;have L3:=Aside0.mk E9;clear E8 L2 E9
     obtain⟨C0,C1⟩:=Kd.R_celln 0 d7.out ((rd a6 d8):Int) K8 K9
     replace K8:=eq_true K8
     replace K9:=eq_true K9
     have C2:=Kd.R_putn d7.out ((rd a6 d8):Int) (wrap64 (-(rd e6 d8)))
     rw[←D6.out]at C2
     have F0:=Aside0.mk C2;clear C2
     refine start_ (n:=11) (S:=fun w'=>w'.cell? ⟨a9,0,none⟩=some (.slice (some ⟨o0,0,none⟩) d3.length q7)∧w'.cell? ⟨a9,1,none⟩=some (.slice (some ⟨r5,0,none⟩) d9.length E6)∧w'.cell? ⟨b9,0,none⟩=some (.slice (some D7) a6.length f8)∧w'.cell? ⟨b9,1,none⟩=some (.slice (some z3) e6.length f9)∧w'.cell? (z3.add (d8).toNat)=some (.int .i64 (rd e6 d8))) (ds:= [10]) (fl 11 0) (by kernel_rfl) rfl rfl ⟨Zc0 b8 0,Zc0 b8 1,Zc0 a4 0,Zc0 a4 1,((HB.out.cell (World.block_lt_of_cell? w _ o2)).trans o2)⟩ (fun hHeld=> ?_);refine with_tabW spec_BackTurned.tab9 spec_BackTurned.bits9 (fun HT_ HW_=> ?_)
     generalize H5.drew=Q6 at d6 d7 a4 a5 b8 HB L3 F0 C1 C0 k6 hHeld ⊢;refine Yu 0 33 (fl 11 1) HT_ (h:= ?_);refine Yu 2 35 (fl 11 5) HT_ (h:= ?_);refine Yu 3 36 (fl 11 13) HT_ (h:= ?_);refine Yu 5 38 (fl 11 45) HT_ (h:= ?_);refine Yt 1 34 (fl 11 47) HT_ HW_ hHeld (h:= ?_);refine Yt 4 37 (fl 11 63) HT_ HW_ hHeld (h:= ?_);refine Yu 6 39 (fl 11 127) HT_ (h:= ?_);refine Yt 7 40 (fl 11 255) HT_ HW_ hHeld (h:= ?_);refine Yu 8 41 (fl 11 511) HT_ (h:= ?_);refine Yu 9 42 (fl 11 1023) HT_ (h:= ?_)
     refine last_ (i:=10) (N:=none) (fl 11 2047) rfl rfl (one_of HT_.out (by kernel_rfl)) (by decide) (fun K hK=> ?_)
     refine skip_ (w1:= ?_) (by rfl) rfl ?_ ?_
     rotate_left
     ·
      go_simp
      rfl
     refine hK.out _ _ ?_
     clear hK K
     refine done_ (done_of HT_.out (by kernel_rfl)) ?_
     try go_wp2
     go_roundg k1
     case measure=>have:=M1.out;omega
     case rel=>exact⟨(wrap64 (d8+1)),(D4),(J8),(.slice (some ⟨o0,0,none⟩) d3.length q7),(.slice (some ⟨r5,0,none⟩) d9.length E6),Zs,H',⟨by have:=M1.out;omega⟩,⟨Zrr (Kd.R_mono (Kd.R_far (p:=⟨r5,((rd a6 d8):Int).toNat,none⟩) (Kd.R_mono d6.out (fun k_ hk=>(⟨hk,fun e_=>hk (by rw[e_];rfl)⟩: _ ∧k_≠r5))) (fun _ hk=>hk.2) (.int .i64 (wrap64 (-(rd e6 d8))))) (fun _ hk=>hk.1))⟩,⟨Zc F0⟩,⟨by refine Zrb ?_;refine blk_far ?_ (by have h_:=Kd.R_ne d7.out a4.out (by decide);intro e_;exact h_ (by rw[e_];rfl)) _;refine Zrb ?_;exact a4.out⟩,⟨by refine Zrb ?_;refine blk_far ?_ (by have h_:=Kd.R_ne d7.out a5.out (by decide);intro e_;exact h_ (by rw[e_];rfl)) _;refine Zrb ?_;exact a5.out⟩,⟨by refine Zrb ?_;refine blk_far ?_ (by have h_:=Kd.R_ne d7.out b8.out (by decide);intro e_;exact h_ (by rw[e_];rfl)) _;refine Zrb ?_;exact b8.out⟩,⟨Zl HB⟩⟩
    ·
     rw[if_neg c27]at H;have D3:=decide_eq_false c27;clear c27
     obtain⟨rfl,rfl,rfl⟩:=Zs3 H;clear H
     have N2:=a8.out;have N3:=a7.out;have N4:=b7.out;have N5:=b6.out;obtain⟨H6,H7,H8,H9⟩:=Z2 b8
     obtain⟨r6,r7,L4⟩:=Kd.R_slice d6.out;subst L4
     have N6:=i8.out;have N7:=i7.out;obtain⟨I0,I1,I2,I3⟩:=Z2 a5
     obtain⟨C3,C4,L5⟩:=Kd.R_slice d7.out;subst L5
     go_wp2
     refine bodyPost_ret (results_ct rfl _ _ c9 26 #[.slice r6 d3.length r7,.slice C3 d9.length C4] (0,0) _ rfl (by refine Zrb ?_;refine blk_put (cs:= #[.slice r6 d3.length r7,.slice none 0 0]) ?_ 1 _ rfl;refine Zrb ?_;refine blk_put (cs:= #[.slice none 0 0,.slice none 0 0]) ?_ 0 _ rfl;refine Zrb ?_;exact a5.out) Try.underlying26 rfl (by kernel_rfl)) rfl ?_
     exact⟨_,_,Ze,Zrr (Zfm d6 a5 (.slice r6 d3.length r7) (.slice C3 d9.length C4) (fun _ hk=>hk.1)),Zrr (Zfm d7 a5 (.slice r6 d3.length r7) (.slice C3 d9.length C4) (fun _ hk=>hk.1)),Zl HB⟩
 ·
  replace c3:=Bool.eq_false_iff.mpr c3
  subst c3
  rw[if_neg Bool.false_ne_true]at H
  obtain⟨rfl,rfl,rfl⟩:=Zs3 H;clear H
  go_enter Try.func13,Try.ntmps13
  go_wp2_with (first|((with_reducible refine gate_dst (N:=1) rfl ?_);refine Zbe 1 #[.slice g8 a6.length f8,.slice g9 e6.length f9] 26 ?_;intro b9 hg Q7 hbox hb;have a4:=Zm (hbox);have C6:=Zx hg HB;have C7:=Zx hg HB;replace HB:=Zh HB hb;clear hb hbox hg)|((with_reducible refine gate_dst (N:=2) rfl ?_);refine Zbe 2 #[.slice none 0 0,.slice none 0 0] 26 ?_;intro c9 hg Q8 hbox hb;have a5:=Zm (hbox);have C8:=Zx hg HB;have C9:=Zx hg HB;replace HB:=Zh HB hb;have i7:=Zq hg a4;have i8:=Zp hg a4;replace a4:=Zk a4 hb;clear hb hbox hg;have N8:=i7.out;have N9:=i8.out;obtain⟨I4,I5,I6,I7⟩:=Z2 a4)|((with_reducible refine gate_callee (f:=36) rfl ?_);refine Ga (some 9) Try.func36 #[.agg #[.slice g8 a6.length f8,.slice g9 e6.length f9]] (h:= ?_);(with_reducible refine(spec_poTurned.calls k _ _ a6 _ _ e6 false _ ?o5 ?o6 ?o7 ?o8 A2.out).mono ?_);(case o5=>exact Zca (Kd.C_below o3.out HB.out));(case o6=>exact s9.out);(case o7=>exact Zca (Kd.C_below o4.out HB.out));(case o8=>exact t0.out);rintro e Q9 ⟨rfl,hb⟩;refine⟨_,rfl, ?_⟩;replace a4:=Zk a4 hb;replace a5:=Zk a5 hb;replace HB:=Zh HB hb;obtain⟨I8,I9,J0,J1⟩:=Z2 a5))
  refine bodyPost_ret (results_ct rfl _ _ c9 26 #[.slice none 0 0,.slice none 0 0] (0,0) _ rfl (by refine Zrb ?_;refine blk_put (cs:= #[.slice none 0 0,.slice none 0 0]) ?_ 1 _ rfl;refine Zrb ?_;refine blk_put (cs:= #[.slice none 0 0,.slice none 0 0]) ?_ 0 _ rfl;refine Zrb ?_;exact a5.out) Try.underlying26 rfl (by kernel_rfl)) rfl ?_
  exact⟨_,_,Ze,Znl,Znl,Zl HB⟩
def laws_kSame.l0:Nat→List Int→List Int→Int→Int→Option (Bool)
 |0,_,_,_,_ =>none
 |k+1,x0,x1,a5,a4=>if a4<a5 then(if 0≤a4 then(if a4<(x0.length:Int)then(if a4<(x1.length:Int)then(if(rd x0 a4)=(rd x1 a4)then(laws_kSame.l0 k x0 x1 a5 (wrap64 (a4+1)))else(some false))else(none))else(none))else(none))else(some true)
def laws_kSame.f (k:Nat) (l0:List Int) (l1:List Int):Option (Bool):=if(l0.length:Int)=(l1.length:Int)then(laws_kSame.l0 k l0 l1 (l0.length:Int) 0)else(some false)
set_option maxHeartbeats 8000000 in
set_option maxRecDepth 100000 in
theorem laws_kSame.calls (k:Nat) (A0:Option Addr) (c0:Nat) (l0:List Int) (A1:Option Addr) (c1:Nat) (l1:List Int) (r:Bool) (w:World) (d9:Kd.C (Kd.int .i64) w A0 l0.length l0) (e6:l0.length≤c0) (e7:Kd.C (Kd.int .i64) w A1 l1.length l1) (e9:l1.length≤c1) (h:laws_kSame.f k l0 l1=some r):
  Calls Try.prog 15 #[.slice A0 l0.length c0,.slice A1 l1.length c1] w fun e w'=>e= .returned (.bool r)∧Drawn0 w w':=by
 have f8:=Aside0.mk d9;have i6:=Aside0.mk e6;clear d9 e6;have f9:=Aside0.mk e7;have i7:=Aside0.mk e9;clear e7 e9;have H:(if(l0.length:Int)=(l1.length:Int)then(laws_kSame.l0 k l0 l1 (l0.length:Int) 0)else(some false))=some r:=h;clear h
 by_cases c3:(l0.length:Int)=(l1.length:Int)
 ·
  rw[if_pos c3]at H;have d3:((l0.length:Int) == (l1.length:Int))=true:=beq_iff_eq.mpr c3;have d4:((l0.length:Int) != (l1.length:Int))=false:=bne_eq_false_iff_eq.mpr c3;(have d5:(l0.length == l1.length)=true:=by first|simpa using c3|(simp at c3 ⊢;omega));clear c3;have H':=Aside0.mk H;clear H
  go_enter Try.func15,Try.ntmps15
  go_wp2
  repeat(go_quiet (fail);try go_wp2)
  go_loopg [13] k (fun kq g9 w'=> ∃(a4:Int),g9= .int .i64 a4∧Aside0 (laws_kSame.l0 kq l0 l1 (l0.length:Int) a4=some r)∧Aside0 (kq≤k)∧Drawn0 w w')
  case atStart=>exact⟨(0),Zs,H',⟨Nat.le_refl _⟩,by repeat(first|exact Drawn0.refl _ |apply Drawn0.step)⟩
  case round=>
   (clear H');obtain⟨a4,rfl,HA,g8,⟨m1,rfl⟩⟩:=hrel
   cases gk with
   |zero=>exact absurd HA.out (by simp[laws_kSame.l0])
   |succ k1=>
    have H:=HA.out;clear HA
    simp only[laws_kSame.l0]at H
    by_cases c4:a4<(l0.length:Int)
    ·
     rw[if_pos c4]at H;have d6:decide (a4<(l0.length:Int))=true:=decide_eq_true c4;clear c4
     replace H:=Zit H;obtain⟨i3,H⟩:=H
     replace H:=Zit H;obtain⟨i4,H⟩:=H
     replace H:=Zit H;obtain⟨i5,H⟩:=H
     by_cases c8:(rd l0 a4)=(rd l1 a4)
     ·
      rw[if_pos c8]at H;have d7:((rd l0 a4) == (rd l1 a4))=true:=beq_iff_eq.mpr c8;have d8:((rd l0 a4) != (rd l1 a4))=false:=bne_eq_false_iff_eq.mpr c8;clear c8;have H':=Aside0.mk H;clear H;have a5:0≤(a4:Int):=Zoa;have a6:a4<(l0.length:Int):=Zoa;obtain⟨b9,b7,a9⟩:=Kd.at_int f8.out a4 a5 a6
      cases b7
      replace a5:=eq_true a5
      replace a6:=eq_true a6
      have a7:0≤(a4:Int):=Zoa;have a8:a4<(l1.length:Int):=Zoa
      obtain⟨c9,b8,b6⟩:=Kd.at_int f9.out a4 a7 a8
      cases b8
      replace a7:=eq_true a7
      replace a8:=eq_true a8
      go_wp2
      repeat(go_quiet (fail);try go_wp2)
      go_roundg k1
      case measure=>have:=g8.out;omega
      case rel=>exact⟨(wrap64 (a4+1)),Zs,H',⟨by have:=g8.out;omega⟩,by repeat(first|exact Drawn0.refl _ |apply Drawn0.step)⟩
     ·
      rw[if_neg c8]at H;have d7:((rd l0 a4) == (rd l1 a4))=false:=beq_eq_false_iff_ne.mpr c8;have d8:((rd l0 a4) != (rd l1 a4))=true:=bne_iff_ne.mpr c8;obtain rfl:=Option.some.inj H
      have a5:0≤(a4:Int):=Zoa;have a6:a4<(l0.length:Int):=Zoa
      obtain⟨b9,b7,a9⟩:=Kd.at_int f8.out a4 a5 a6
      cases b7
      replace a5:=eq_true a5
      replace a6:=eq_true a6
      have a7:0≤(a4:Int):=Zoa;have a8:a4<(l1.length:Int):=Zoa
      obtain⟨c9,b8,b6⟩:=Kd.at_int f9.out a4 a7 a8
      cases b8
      replace a7:=eq_true a7
      replace a8:=eq_true a8
      go_wp2
      repeat(go_quiet (fail);try go_wp2)
      go_ret
      exact⟨by first|rfl|(simp;done)|(simp[*];done),by repeat(first|exact Drawn0.refl _ |apply Drawn0.step)⟩
    ·
     rw[if_neg c4]at H;have d6:decide (a4<(l0.length:Int))=false:=decide_eq_false c4;clear c4;obtain rfl:=Option.some.inj H
     go_wp2
     repeat(go_quiet (fail);try go_wp2)
     go_ret
     exact⟨by first|rfl|(simp;done)|(simp[*];done),by repeat(first|exact Drawn0.refl _ |apply Drawn0.step)⟩
 ·
  rw[if_neg c3]at H;have d3:((l0.length:Int) == (l1.length:Int))=false:=beq_eq_false_iff_ne.mpr c3;have d4:((l0.length:Int) != (l1.length:Int))=true:=bne_iff_ne.mpr c3;(have d5:(l0.length == l1.length)=false:=by first|simpa using c3|(simp at c3 ⊢;omega));obtain rfl:=Option.some.inj H
  go_enter Try.func15,Try.ntmps15
  go_wp2
  repeat(go_quiet (fail);try go_wp2)
  go_ret
  exact⟨by first|rfl|(simp;done)|(simp[*];done),by repeat(first|exact Drawn0.refl _ |apply Drawn0.step)⟩
def laws_kPole.f (k:Nat) (a4:Int) (a5:List Int) (a6:Int) (a7:List Int):Option (Bool):=if a4=a6 then((laws_kSame.f k a5 a7).bind fun a8=>(some a8))else(some false)
set_option maxHeartbeats 8000000 in
set_option maxRecDepth 100000 in
theorem laws_kPole.calls (k:Nat) (a7:Int) (b8:Option Addr) (b9:Nat) (a9:List Int) (a8:Int) (c9:Option Addr) (d3:Nat) (b6:List Int) (r:Bool) (w:World) (d4:Kd.C (Kd.int .i64) w b8 a9.length a9) (d5:a9.length≤b9) (d6:Kd.C (Kd.int .i64) w c9 b6.length b6) (d7:b6.length≤d3) (h:laws_kPole.f k a7 a9 a8 b6=some r):
  Calls Try.prog 14 #[.agg #[.int .i64 a7,.slice b8 a9.length b9],.agg #[.int .i64 a8,.slice c9 b6.length d3]] w fun e w'=>e= .returned (.bool r)∧Below w.heap.size w w':=by
 have n3:=Try.underlying29;have d9:=Aside0.mk d4;have e6:=Aside0.mk d5;clear d4 d5;have e7:=Aside0.mk d6;have e9:=Aside0.mk d7;clear d6 d7;have HB:=Zm (Below.refl w.heap.size w);have H:(if a7=a8 then((laws_kSame.f k a9 b6).bind fun d8=>(some d8))else(some false))=some r:=h;clear h
 by_cases c3:a7=a8
 ·
  rw[if_pos c3]at H;have l5:(a7 == a8)=true:=beq_iff_eq.mpr c3;have l6:(a7 != a8)=false:=bne_eq_false_iff_eq.mpr c3;clear c3;replace H:=Zb0 H;obtain⟨d8,A4,H⟩:=H;obtain rfl:=Option.some.inj H
  go_enter Try.func14,Try.ntmps14
  go_wp2_with (first|((with_reducible refine gate_dst (N:=2) rfl ?_);refine Zbe 2 #[.int .i64 a7,.slice b8 a9.length b9] 29 ?_;intro f8 hg w5 hbox hb;have a4:=Zm (hbox);have f9:=Zx hg HB;have g8:=Zx hg HB;replace HB:=Zh HB hb;clear hb hbox hg)|((with_reducible refine gate_dst (N:=3) rfl ?_);refine Zbe 3 #[.int .i64 a8,.slice c9 b6.length d3] 29 ?_;intro g9 hg w6 hbox hb;have b7:=Zm (hbox);have i3:=Zx hg HB;have i4:=Zx hg HB;replace HB:=Zh HB hb;have a5:=Zq hg a4;have a6:=Zp hg a4;replace a4:=Zk a4 hb;clear hb hbox hg;have n4:=a5.out;have n5:=a6.out;obtain⟨l7,l8,l9,m4⟩:=Z2 a4;obtain⟨m5,m6,m7,m8⟩:=Z2 b7)|(go_at_call 15;(with_reducible refine(laws_kSame.calls k _ _ a9 _ _ b6 d8 _ ?i5 ?i6 ?i7 ?i8 A4.out).mono ?_);(case i5=>exact Zca (Kd.C_below d9.out HB.out));(case i6=>exact e6.out);(case i7=>exact Zca (Kd.C_below e7.out HB.out));(case i8=>exact e9.out);rintro e w' ⟨rfl,⟨nd,rfl⟩⟩))
  go_ret
  exact⟨Ze,Zl HB⟩
 ·
  rw[if_neg c3]at H;have l5:(a7 == a8)=false:=beq_eq_false_iff_ne.mpr c3;have l6:(a7 != a8)=true:=bne_iff_ne.mpr c3;obtain rfl:=Option.some.inj H
  go_enter Try.func14,Try.ntmps14
  go_wp2_with (first|((with_reducible refine gate_dst (N:=2) rfl ?_);refine Zbe 2 #[.int .i64 a7,.slice b8 a9.length b9] 29 ?_;intro f8 hg n6 hbox hb;have a4:=Zm (hbox);have f9:=Zx hg HB;have g8:=Zx hg HB;replace HB:=Zh HB hb;clear hb hbox hg)|((with_reducible refine gate_dst (N:=3) rfl ?_);refine Zbe 3 #[.int .i64 a8,.slice c9 b6.length d3] 29 ?_;intro g9 hg n7 hbox hb;have b7:=Zm (hbox);have i3:=Zx hg HB;have i4:=Zx hg HB;replace HB:=Zh HB hb;have a5:=Zq hg a4;have a6:=Zp hg a4;replace a4:=Zk a4 hb;clear hb hbox hg;have m9:=a5.out;have n0:=a6.out;obtain⟨i9,k3,k4,k6⟩:=Z2 a4;obtain⟨k8,k9,l3,l4⟩:=Z2 b7))
  go_ret
  exact⟨Ze,Zl HB⟩
def laws_kTurned.f (k:Nat) (a4:List Int) (a5:List Int) (a6:List Int) (a7:List Int):Option (Bool):=(laws_kSame.f k a4 a6).bind fun a8=>(if a8=true then((laws_kSame.f k a5 a7).bind fun a9=>(some a9))else(some false))
set_option maxHeartbeats 8000000 in
set_option maxRecDepth 100000 in
theorem laws_kTurned.calls (k:Nat) (d3:Option Addr) (d4:Nat) (a7:List Int) (d8:Option Addr) (d9:Nat) (a9:List Int) (d5:Option Addr) (d6:Nat) (a8:List Int) (e6:Option Addr) (e7:Nat) (b6:List Int) (r:Bool) (w:World) (e9:Kd.C (Kd.int .i64) w d3 a7.length a7) (f8:a7.length≤d4) (f9:Kd.C (Kd.int .i64) w d8 a9.length a9) (g8:a9.length≤d9) (g9:Kd.C (Kd.int .i64) w d5 a8.length a8) (i3:a8.length≤d6) (i4:Kd.C (Kd.int .i64) w e6 b6.length b6) (i5:b6.length≤e7) (h:laws_kTurned.f k a7 a9 a8 b6=some r):
  Calls Try.prog 16 #[.agg #[.slice d3 a7.length d4,.slice d8 a9.length d9],.agg #[.slice d5 a8.length d6,.slice e6 b6.length e7]] w fun e w'=>e= .returned (.bool r)∧Below w.heap.size w w':=by
 have o4:=Try.underlying26;have i6:=Aside0.mk e9;have i7:=Aside0.mk f8;clear e9 f8;have k6:=Aside0.mk f9;have k8:=Aside0.mk g8;clear f9 g8;have i8:=Aside0.mk g9;have i9:=Aside0.mk i3;clear g9 i3;have k9:=Aside0.mk i4;have l3:=Aside0.mk i5;clear i4 i5;have HB:=Zm (Below.refl w.heap.size w);have H:((laws_kSame.f k a7 a8).bind fun k3=>(if k3=true then((laws_kSame.f k a9 b6).bind fun k4=>(some k4))else(some false)))=some r:=h;clear h
 replace H:=Zb0 H;obtain⟨k3,A3,H⟩:=H
 by_cases c4:k3=true
 ·
  subst c4
  rw[if_pos rfl]at H
  replace H:=Zb0 H;obtain⟨k4,A5,H⟩:=H;obtain rfl:=Option.some.inj H
  go_enter Try.func16,Try.ntmps16
  go_wp2_with (first|((with_reducible refine gate_dst (N:=2) rfl ?_);refine Zbe 2 #[.slice d3 a7.length d4,.slice d8 a9.length d9] 26 ?_;intro l4 hg w6 hbox hb;have a4:=Zm (hbox);have l5:=Zx hg HB;have l6:=Zx hg HB;replace HB:=Zh HB hb;clear hb hbox hg)|((with_reducible refine gate_dst (N:=3) rfl ?_);refine Zbe 3 #[.slice d5 a8.length d6,.slice e6 b6.length e7] 26 ?_;intro l7 hg w7 hbox hb;have d7:=Zm (hbox);have l8:=Zx hg HB;have l9:=Zx hg HB;replace HB:=Zh HB hb;have a5:=Zq hg a4;have a6:=Zp hg a4;replace a4:=Zk a4 hb;clear hb hbox hg;have o5:=a5.out;have o6:=a6.out;obtain⟨n8,n9,o0,o1⟩:=Z2 a4;obtain⟨m4,m5,m6,m7⟩:=Z2 d7)|((with_reducible refine gate_callee (f:=15) rfl ?_);refine Ga (some 9) Try.func15 #[.slice d3 a7.length d4,.slice d5 a8.length d6] (h:= ?_);(with_reducible refine(laws_kSame.calls k _ _ a7 _ _ a8 true _ ?b7 ?b8 ?b9 ?c9 A3.out).mono ?_);(case b7=>exact Zca (Kd.C_below i6.out HB.out));(case b8=>exact i7.out);(case b9=>exact Zca (Kd.C_below i8.out HB.out));(case c9=>exact i9.out);rintro e w' ⟨rfl,⟨nd,rfl⟩⟩;refine⟨_,rfl, ?_⟩)|(go_at_call 15;(with_reducible refine(laws_kSame.calls k _ _ a9 _ _ b6 k4 _ ?b7 ?b8 ?b9 ?c9 A5.out).mono ?_);(case b7=>exact Zca (Kd.C_below k6.out (Zl HB)));(case b8=>exact k8.out);(case b9=>exact Zca (Kd.C_below k9.out (Zl HB)));(case c9=>exact l3.out);rintro e w' ⟨rfl,⟨nd,rfl⟩⟩))
  go_ret
  exact⟨Ze,Zl HB⟩
 ·
  replace c4:=Bool.eq_false_iff.mpr c4
  subst c4
  rw[if_neg Bool.false_ne_true]at H
  obtain rfl:=Option.some.inj H
  go_enter Try.func16,Try.ntmps16
  go_wp2_with (first|((with_reducible refine gate_dst (N:=2) rfl ?_);refine Zbe 2 #[.slice d3 a7.length d4,.slice d8 a9.length d9] 26 ?_;intro l4 hg o7 hbox hb;have a4:=Zm (hbox);have l5:=Zx hg HB;have l6:=Zx hg HB;replace HB:=Zh HB hb;clear hb hbox hg)|((with_reducible refine gate_dst (N:=3) rfl ?_);refine Zbe 3 #[.slice d5 a8.length d6,.slice e6 b6.length e7] 26 ?_;intro l7 hg o8 hbox hb;have d7:=Zm (hbox);have l8:=Zx hg HB;have l9:=Zx hg HB;replace HB:=Zh HB hb;have a5:=Zq hg a4;have a6:=Zp hg a4;replace a4:=Zk a4 hb;clear hb hbox hg;have o2:=a5.out;have o3:=a6.out;obtain⟨m8,m9,n0,n3⟩:=Z2 a4;obtain⟨n4,n5,n6,n7⟩:=Z2 d7)|((with_reducible refine gate_callee (f:=15) rfl ?_);refine Ga (some 9) Try.func15 #[.slice d3 a7.length d4,.slice d5 a8.length d6] (h:= ?_);(with_reducible refine(laws_kSame.calls k _ _ a7 _ _ a8 false _ ?b7 ?b8 ?b9 ?c9 A3.out).mono ?_);(case b7=>exact Zca (Kd.C_below i6.out HB.out));(case b8=>exact i7.out);(case b9=>exact Zca (Kd.C_below i8.out HB.out));(case c9=>exact i9.out);rintro e w' ⟨rfl,⟨nd,rfl⟩⟩;refine⟨_,rfl, ?_⟩))
  go_ret
  exact⟨Ze,Zl HB⟩
def impl_IsTurned.f (k:Nat) (a4:List Int) (a5:List Int):Option (Bool):=(impl_isTurned.f k a4 a5).bind fun a6=>(some a6)
set_option maxHeartbeats 8000000 in
set_option maxRecDepth 100000 in
theorem impl_IsTurned.calls (k:Nat) (a7:Option Addr) (a8:Nat) (a4:List Int) (a9:Option Addr) (b6:Nat) (a5:List Int) (r:Bool) (w:World) (b7:Kd.C (Kd.int .i64) w a7 a4.length a4) (b8:a4.length≤a8) (b9:Kd.C (Kd.int .i64) w a9 a5.length a5) (c9:a5.length≤b6) (h:impl_IsTurned.f k a4 a5=some r):
  Calls Try.prog 17 #[.agg #[.slice a7 a4.length a8,.slice a9 a5.length b6]] w fun e w'=>e= .returned (.bool r)∧Below w.heap.size w w':=by
 have i5:=Try.underlying26;have d4:=Aside0.mk b7;have d5:=Aside0.mk b8;clear b7 b8;have d6:=Aside0.mk b9;have d7:=Aside0.mk c9;clear b9 c9;have HB:=Zm (Below.refl w.heap.size w);have H:((impl_isTurned.f k a4 a5).bind fun d3=>(some d3))=some r:=h;clear h
 replace H:=Zb0 H;obtain⟨d3,A2,H⟩:=H;obtain rfl:=Option.some.inj H
 go_enter Try.func17,Try.ntmps17
 go_wp2_with (first|((with_reducible refine gate_dst (N:=1) rfl ?_);refine Zbe 1 #[.slice a7 a4.length a8,.slice a9 a5.length b6] 26 ?_;intro g9 hg w3 hbox hb;have a6:=Zm (hbox);have i3:=Zx hg HB;have i4:=Zx hg HB;replace HB:=Zh HB hb;clear hb hbox hg;obtain⟨e9,f8,f9,g8⟩:=Z2 a6)|((with_reducible refine gate_callee (f:=31) rfl ?_);refine Ga (some 4) Try.func31 #[.agg #[.slice a7 a4.length a8,.slice a9 a5.length b6]] (h:= ?_);(with_reducible refine(impl_isTurned.calls k _ _ a4 _ _ a5 d3 _ ?d8 ?d9 ?e6 ?e7 A2.out).mono ?_);(case d8=>exact Zca (Kd.C_below d4.out HB.out));(case d9=>exact d5.out);(case e6=>exact Zca (Kd.C_below d6.out HB.out));(case e7=>exact d7.out);rintro e w5 ⟨rfl,hb⟩;refine⟨_,rfl, ?_⟩;replace a6:=Zk a6 hb;replace HB:=Zh HB hb))
 go_ret
 exact⟨Ze,Zl HB⟩
def spec_IsTurned.f (k:Nat) (a4:List Int) (a5:List Int):Option (Bool):=(spec_poTurned.f k a4 a5).bind fun a6=>(some a6)
set_option maxHeartbeats 8000000 in
set_option maxRecDepth 100000 in
theorem spec_IsTurned.calls (k:Nat) (a7:Option Addr) (a8:Nat) (a4:List Int) (a9:Option Addr) (b6:Nat) (a5:List Int) (r:Bool) (w:World) (b7:Kd.C (Kd.int .i64) w a7 a4.length a4) (b8:a4.length≤a8) (b9:Kd.C (Kd.int .i64) w a9 a5.length a5) (c9:a5.length≤b6) (h:spec_IsTurned.f k a4 a5=some r):
  Calls Try.prog 18 #[.agg #[.slice a7 a4.length a8,.slice a9 a5.length b6]] w fun e w'=>e= .returned (.bool r)∧Below w.heap.size w w':=by
 have i5:=Try.underlying26;have d4:=Aside0.mk b7;have d5:=Aside0.mk b8;clear b7 b8;have d6:=Aside0.mk b9;have d7:=Aside0.mk c9;clear b9 c9;have HB:=Zm (Below.refl w.heap.size w);have H:((spec_poTurned.f k a4 a5).bind fun d3=>(some d3))=some r:=h;clear h
 replace H:=Zb0 H;obtain⟨d3,A2,H⟩:=H;obtain rfl:=Option.some.inj H
 go_enter Try.func18,Try.ntmps18
 go_wp2_with (first|((with_reducible refine gate_dst (N:=1) rfl ?_);refine Zbe 1 #[.slice a7 a4.length a8,.slice a9 a5.length b6] 26 ?_;intro g9 hg w3 hbox hb;have a6:=Zm (hbox);have i3:=Zx hg HB;have i4:=Zx hg HB;replace HB:=Zh HB hb;clear hb hbox hg;obtain⟨e9,f8,f9,g8⟩:=Z2 a6)|((with_reducible refine gate_callee (f:=36) rfl ?_);refine Ga (some 4) Try.func36 #[.agg #[.slice a7 a4.length a8,.slice a9 a5.length b6]] (h:= ?_);(with_reducible refine(spec_poTurned.calls k _ _ a4 _ _ a5 d3 _ ?d8 ?d9 ?e6 ?e7 A2.out).mono ?_);(case d8=>exact Zca (Kd.C_below d4.out HB.out));(case d9=>exact d5.out);(case e6=>exact Zca (Kd.C_below d6.out HB.out));(case e7=>exact d7.out);rintro e w5 ⟨rfl,hb⟩;refine⟨_,rfl, ?_⟩;replace a6:=Zk a6 hb;replace HB:=Zh HB hb))
 go_ret
 exact⟨Ze,Zl HB⟩
def AsksInt (g:Nat) (lb:Array Value) (p:Int→Bool) (w:World):Prop:=
  ∀(x:Int) (q:Nat),Calls Try.prog g (#[.int .i64 x]++lb) (w.drewN q) fun e w'=>e= .returned (.bool (p x))∧Drawn0 (w.drewN q) w'
def offRange (m x:Int):Bool:= !decide (0≤x∧x≤m)
set_option maxHeartbeats 4000000 in
set_option maxRecDepth 100000 in
theorem slices_IndexFunc_int.calls (g:Nat) (lb:Array Value) (p:Int→Bool) (A0:Option Addr) (c0:Nat) (l0:List Int) (w:World) (a4:Kd.C (Kd.int .i64) w A0 l0.length l0) (a5:l0.length≤c0)
    (eg: ∀args w,(callFunc g args).run Try.prog w= .ok (.enter g args) w) (hp:AsksInt g lb p w):
    Calls Try.prog 75 #[.slice A0 l0.length c0,.func (.func g) #[] lb] w fun e w'=>(∃r:Int,e= .returned (.int .i64 r)∧decide (0≤r)=l0.any p)∧Drawn0 w w':=by
  have a6:=Aside0.mk a4
  have a8:=Aside0.mk a5
  have hbig:l0.length≤9223372036854775807:=a4.2.1
  have HP:=Aside0.mk hp
  clear a4 a5 hp
  go_enter Try.func75,Try.ntmps75
  go_wp2
  go_loopg [5,8] l0.length (fun gg _ s8 wr=> ∃kk:Nat,∃q:Nat,kk≤l0.length∧l0.length - kk≤gg∧s8= .int .i64 kk∧wr=w.drewN q∧Aside0 ((l0.take kk).any p=false))
  case atStart=>exact⟨0,0,Nat.zero_le _,by omega,rfl,rfl,⟨by simp⟩⟩
  case round=>
    obtain⟨kk,q,hkk,hg,rfl,rfl,A⟩:=hrel
    by_cases hlt:kk<l0.length
    · have hltz:(kk:Int)<(l0.length:Int):=by omega
      have a7:(0:Int)≤(kk:Int):=by omega
      obtain⟨ad,ead,hx⟩:=Kd.at_int a6.out (kk:Int) a7 hltz
      cases ead
      have hx':w.cell? (ad.add kk)=some (.int .i64 l0[kk]):=by
        have e1:((kk:Int)).toNat=kk:=by omega
        have e2:rd l0 (kk:Int)=l0[kk]:=by unfold rd;rw[e1,List.getD_eq_getElem?_getD,List.getElem?_eq_getElem hlt];rfl
        rw[e1,e2]at hx
        exact hx
      clear hx
      have HT:=Aside0.mk (show l0.take (kk+1)=l0.take kk++ [l0[kk]]from by rw[List.take_succ_eq_append_getElem hlt])
      generalize hy:l0[kk]=y at hx' HT
      have HY:=Aside0.mk hy
      clear hy
      cases hq:p y with
      |true=>
        have hcall:=HP.out y
        rw[hq]at hcall
        have HQ:=Aside0.mk hq
        clear hq
        go_wp2_with (go_at_fn g;refine(hcall _).mono ?_;rintro e w' ⟨rfl,hd'⟩;obtain⟨q',rfl⟩:=hd'.out;clear hd')
        go_ret
        refine⟨⟨_,rfl, ?_⟩, ?_⟩
        · have:l0.any p=true:=by
            rw[List.any_eq_true]
            exact⟨y,by rw[←HY.out];exact List.getElem_mem _,HQ.out⟩
          rw[this]
          exact decide_eq_true (by omega)
        · exact⟨_,by first|rfl|exact World.drewN_drewN _ _ _⟩
      |false=>
        have hcall:=HP.out y
        rw[hq]at hcall
        have HQ:=Aside0.mk hq
        clear hq
        go_wp2_with (go_at_fn g;refine(hcall _).mono ?_;rintro e w' ⟨rfl,hd'⟩;obtain⟨q',rfl⟩:=hd'.out;clear hd')
        go_roundg (l0.length - (kk+1))
        case measure=>omega
        case rel=>
          refine⟨kk+1,_,by omega,by omega,by go_num,by first|rfl|exact World.drewN_drewN _ _ _,⟨?_⟩⟩
          rw[HT.out,List.any_append,A.out]
          simp[HQ.out]
    · have hltz: ¬(kk:Int)<(l0.length:Int):=by omega
      have hk:kk=l0.length:=by omega
      have HA:=Aside0.mk (show l0.any p=false from by have:=A.out;rw[hk,List.take_length]at this;exact this)
      clear A
      clear hk
      go_wp2
      go_ret
      refine⟨⟨_,rfl, ?_⟩,⟨q,rfl⟩⟩
      rw[HA.out]
      rfl
set_option maxHeartbeats 4000000 in
set_option maxRecDepth 100000 in
theorem slices_ContainsFunc_int.calls (g:Nat) (lb:Array Value) (p:Int→Bool) (A0:Option Addr) (c0:Nat) (l0:List Int) (w:World) (a4:Kd.C (Kd.int .i64) w A0 l0.length l0) (a5:l0.length≤c0)
    (eg: ∀args w,(callFunc g args).run Try.prog w= .ok (.enter g args) w) (hp:AsksInt g lb p w):
    Calls Try.prog 63 #[.slice A0 l0.length c0,.func (.func g) #[] lb] w fun e w'=>e= .returned (.bool (l0.any p))∧Drawn0 w w':=by
  have hidx:=slices_IndexFunc_int.calls g lb p A0 c0 l0 w a4 a5 eg hp
  clear a4 a5 hp
  go_enter Try.func63,Try.ntmps63
  go_wp2_with (go_at_call 75;refine hidx.mono ?_;rintro e w' ⟨⟨r,rfl,hrr⟩,hd⟩;obtain⟨q,rfl⟩:=hd.out;clear hd;have HRR:=Aside0.mk hrr;clear hrr)
  go_ret
  refine⟨?_,⟨q,rfl⟩⟩
  rw[←HRR.out]
  rfl
def impl_isPole.f (a4:Int) (a5:List Int):Option (Bool):=some (decide (3≤a4∧a4≤8) && decide (a5.length≤60) && a5.all fun r=>decide (0≤r∧r≤a4 - 1))
set_option maxHeartbeats 4000000 in
set_option maxRecDepth 100000 in
theorem impl_isPole_1.calls (a:Int) (ha:3≤a∧a≤8) (g:Nat) (x:Int) (w:World) (hcell:w.cell? ⟨g,0,none⟩=some (.int .i64 a)):
    Calls Try.prog 64 #[.int .i64 x,.pointer (some ⟨g,0,none⟩)] w fun e w'=>e= .returned (.bool (offRange (a - 1) x))∧Drawn0 w w':=by
  unfold offRange
  have hlo:=ha.1
  have hhi:=ha.2
  clear ha
  have hb:impl_between.f x 0 (a - 1)=some (decide (0≤x∧x≤a - 1)):=by
    unfold impl_between.f
    by_cases h:x≥0
    · rw[if_pos h];congr 1;simp[h]
    · rw[if_neg h];congr 1;simp;omega
  have hB:=fun W=>impl_between.calls x 0 (a - 1) _ W hb
  have HB:=Aside0.mk hB
  clear hb hB
  generalize decide (0≤x∧x≤a - 1)=b at HB
  go_enter Try.func64,Try.ntmps64
  go_wp2_with (go_at_call 54;(with_reducible refine(HB.out _).mono ?_);rintro e w' ⟨rfl,⟨nd,rfl⟩⟩)
  go_ret
  exact⟨rfl,by repeat(first|exact Drawn0.refl _ |apply Drawn0.step)⟩
set_option maxHeartbeats 4000000 in
set_option maxRecDepth 100000 in
theorem impl_isPole.calls (a5:Int) (a8:Option Addr) (a9:Nat) (a4:List Int) (r:Bool) (w:World) (a6:Kd.C (Kd.int .i64) w a8 a4.length a4) (a7:a4.length≤a9) (h:impl_isPole.f a5 a4=some r):
    Calls Try.prog 41 #[.agg #[.int .i64 a5,.slice a8 a4.length a9]] w fun e w'=>e= .returned (.bool r)∧Below w.heap.size w w':=by
  have HRR:=Aside0.mk (Option.some.inj h).symm
  clear h
  have HCC: ∀W,Below w.heap.size w W→Kd.C (Kd.int .i64) W a8 a4.length a4:=fun W hb=>Kd.C_below a6 hb
  have hbig:a4.length≤9223372036854775807:=a6.2.1
  have HC:=Aside0.mk HCC
  have b7:=Aside0.mk a7
  clear HCC a6 a7
  by_cases h1:3≤a5∧a5≤8
  · have hb:impl_between.f a5 3 8=some true:=by unfold impl_between.f;rw[if_pos h1.1,decide_eq_true h1.2]
    have HB:=Aside0.mk (fun W=>impl_between.calls a5 3 8 _ W hb)
    clear hb
    by_cases h2:a4.length≤60
    · have b8:decide ((a4.length:Int)≤60)=true:=decide_eq_true (by omega)
      have b9:decide (a4.length≤60)=true:=decide_eq_true h2
      have HAK:=Aside0.mk (show∀(W:World) (g:Nat),W.cell? ⟨g,0,none⟩=some (.int .i64 a5)→AsksInt 64 #[.pointer (some ⟨g,0,none⟩)] (offRange (a5 - 1)) W from fun W g hg x q=>impl_isPole_1.calls a5 h1 g x _ (by simpa using hg))
      have b6:=Aside0.mk (show r= !(a4.any (offRange (a5 - 1))) by
        rw[HRR.out,decide_eq_true h1,decide_eq_true h2]
        simp only[Bool.true_and]
        rw[List.all_eq_not_any_not]
        rfl)
      clear HRR h2
      have eg:=enters_of Try.func64 (by kernel_rfl) rfl
      have EG:=Aside0.mk eg
      clear eg h1
      go_enter Try.func41,Try.ntmps41
      go_wp2_with (first|(go_at_call 54;(with_reducible refine(HB.out _).mono ?_);rintro e w' ⟨rfl,⟨nd,rfl⟩⟩)|(go_at_call 63;refine(slices_ContainsFunc_int.calls _ _ (offRange (a5 - 1)) _ _ a4 _ (HC.out _ (by repeat(first|exact Below.refl _ _ |apply below_alloc|apply pw_below_drewN|apply below_drew1))) b7.out EG.out (HAK.out _ _ (by first|(go_simp;done)|go_simp))).mono ?_;rintro e w' ⟨rfl,⟨nd,rfl⟩⟩))
      go_ret
      exact⟨by rw[b6.out];rfl,by repeat(first|exact Below.refl _ _ |apply below_alloc|apply pw_below_drewN|apply below_drew1)⟩
    · have b8:decide ((a4.length:Int)≤60)=false:=decide_eq_false (by omega)
      have b9:decide (a4.length≤60)=false:=decide_eq_false h2
      have b6:=Aside0.mk (show r=false by rw[HRR.out,decide_eq_false h2];simp)
      clear HRR h1 h2
      go_enter Try.func41,Try.ntmps41
      go_wp2_with (first|(go_at_call 54;(with_reducible refine(HB.out _).mono ?_);rintro e w' ⟨rfl,⟨nd,rfl⟩⟩))
      go_ret
      exact⟨by rw[b6.out];rfl,by repeat(first|exact Below.refl _ _ |apply below_alloc|apply pw_below_drewN|apply below_drew1)⟩
  · have hb:impl_between.f a5 3 8=some false:=by
      unfold impl_between.f
      split
      · rw[decide_eq_false (by omega)]
      · rfl
    have HB:=Aside0.mk (fun W=>impl_between.calls a5 3 8 _ W hb)
    have b6:=Aside0.mk (show r=false by rw[HRR.out,decide_eq_false h1];simp)
    clear hb HRR h1
    go_enter Try.func41,Try.ntmps41
    go_wp2_with (first|(go_at_call 54;(with_reducible refine(HB.out _).mono ?_);rintro e w' ⟨rfl,⟨nd,rfl⟩⟩))
    go_ret
    exact⟨by rw[b6.out];rfl,by repeat(first|exact Below.refl _ _ |apply below_alloc|apply pw_below_drewN|apply below_drew1)⟩
def impl_checkedTurned.f (k:Nat) (a4:List Int) (a5:List Int):Option (List Int × List Int × Bool):=(impl_isTurned.f k a4 a5).bind fun a6=>(if a6=true then(some (a4,a5,true))else(some (([]:List Int),([]:List Int),false)))
set_option maxHeartbeats 8000000 in
set_option maxRecDepth 100000 in
theorem impl_checkedTurned.calls (k:Nat) (a4:Nat→Prop) (d4:Value) (b6:List Int) (a5:Nat→Prop) (d5:Value) (b7:List Int) (r1:List Int) (r2:List Int) (r3:Bool) (w0 w:World) (hB:Below w0.heap.size w0 w) (f9:Kd.R (Kd.int .i64) 3 w w0.heap.size a4 d4 b6) (d8: ∀k_,a4 k_→ ¬a5 k_) (g8:Kd.R (Kd.int .i64) 3 w w0.heap.size a5 d5 b7) (d9: ∀k_,a5 k_→ ¬a4 k_) (h:impl_checkedTurned.f k b6 b7=some (r1,r2,r3)):
  Calls Try.prog 42 #[.agg #[d4,d5]] w fun e w'=> ∃n3 n4:Value,e= .returned (.tuple #[.agg #[n3,n4],.bool r3])∧Kd.R (Kd.int .i64) 3 w' w0.heap.size (fun k_=>((a4 k_∨a5 k_)∨w.heap.size≤k_)∧Zn k_ n4) n3 r1∧Kd.R (Kd.int .i64) 3 w' w0.heap.size (fun k_=>((a4 k_∨a5 k_)∨w.heap.size≤k_)∧Zn k_ n3) n4 r2∧Below w0.heap.size w0 w'∧Kept w w' (fun k_=>a4 k_∨a5 k_):=by
 have o3:=Try.underlying26;have a6:=Zm (show Kd.R (Kd.int .i64) 3 w w0.heap.size (fun k_=>((a4 k_∨a5 k_)∨w.heap.size≤k_)∧Zn k_ d5) d4 b6 from Kd.R_mono f9 (fun k_ hk=>⟨(.inl (.inl hk)),fun e_=>d8 k_ hk (g8.1 k_ e_.symm)⟩));have a7:=Zm (show Kd.R (Kd.int .i64) 3 w w0.heap.size (fun k_=>((a4 k_∨a5 k_)∨w.heap.size≤k_)∧Zn k_ d4) d5 b7 from Kd.R_mono g8 (fun k_ hk=>⟨(.inl (.inr hk)),fun e_=>d9 k_ hk (f9.1 k_ e_.symm)⟩));have HK:=Zm (Kept.refl w (fun k_=>a4 k_∨a5 k_));have o8:=Aside0.mk hB.size;have HB:=Aside0.mk hB;clear hB;have H:((impl_isTurned.f k b6 b7).bind fun g9=>(if g9=true then(some (b6,b7,true))else(some (([]:List Int),([]:List Int),false))))=some (r1,r2,r3):=h;clear h
 replace H:=Zb0 H;obtain⟨g9,A2,H⟩:=H
 by_cases c3:g9=true
 ·
  subst c3
  rw[if_pos rfl]at H
  obtain⟨rfl,rfl,rfl⟩:=Zs3 H;clear H;obtain⟨i3,i4,o4⟩:=Kd.R_slice a6.out;subst o4;obtain⟨i5,i6,o5⟩:=Kd.R_slice a7.out;subst o5
  go_enter Try.func42,Try.ntmps42
  go_wp2_with (first|((with_reducible refine gate_dst (N:=1) rfl ?_);refine Zbe 1 #[.slice i3 b6.length i4,.slice i5 b7.length i6] 26 ?_;intro d6 hg w6 hbox hb;replace a6:=Zo a6 hb;replace a7:=Zo a7 hb;have a8:=Zm (hbox);have b8:=Zm ((by rw[hg];exact(by first|exact HK.out.1|exact(show Kept w _ (fun k_=>a4 k_∨a5 k_)from by repeat(first|(with_reducible first|exact HK.out|apply Kept.alloc|apply Kept.drewN|apply Kept.drew)|exact HK.out)).1):w.heap.size≤d6));replace HK:=Zm (Kept.below (S:=(fun k_=>a4 k_∨a5 k_)) (by repeat(first|(with_reducible first|exact HK.out|apply Kept.alloc|apply Kept.drewN|apply Kept.drew)|exact HK.out)) hb);have i7:=Zm ((by rw[hg];exact(below_size (Zl HB)):w0.heap.size≤d6));replace HB:=Zh HB hb;clear hb hbox hg)|((with_reducible refine gate_dst (N:=2) rfl ?_);refine Zbe 2 #[.slice none 0 0,.slice none 0 0] 26 ?_;intro d3 hg w7 hbox hb;replace a6:=Zo a6 hb;replace a7:=Zo a7 hb;have a9:=Zm (hbox);have d7:=Zm ((by rw[hg];exact(by first|exact HK.out.1|exact(show Kept w _ (fun k_=>a4 k_∨a5 k_)from by repeat(first|(with_reducible first|exact HK.out|apply Kept.alloc|apply Kept.drewN|apply Kept.drew|refine Kept.setCell ?_ (.inr b8.out) _)|exact HK.out)).1):w.heap.size≤d3));replace HK:=Zm (Kept.below (S:=(fun k_=>a4 k_∨a5 k_)) (by repeat(first|(with_reducible first|exact HK.out|apply Kept.alloc|apply Kept.drewN|apply Kept.drew|refine Kept.setCell ?_ (.inr b8.out) _)|exact HK.out)) hb);have i8:=Zm ((by rw[hg];exact(below_size (Zl HB)):w0.heap.size≤d3));replace HB:=Zh HB hb;have b9:=Zq hg a8;have c9:=Zp hg a8;replace a8:=Zk a8 hb;clear hb hbox hg;have o6:=b9.out;have o7:=c9.out;obtain⟨n5,n6,n7,n8⟩:=Z2 a8)|((with_reducible refine gate_callee (f:=31) rfl ?_);refine Ga (some 5) Try.func31 #[.agg #[.slice i3 b6.length i4,.slice i5 b7.length i6]] (h:= ?_);(with_reducible refine(impl_isTurned.calls k _ _ b6 _ _ b7 true _ ?e6 ?e7 ?e9 ?f8 A2.out).mono ?_);(case e6=>exact Zca (Kd.R_reads' a6.out).2.2);(case e7=>exact(Kd.R_reads' a6.out).2.1);(case e9=>exact Zca (Kd.R_reads' a7.out).2.2);(case f8=>exact(Kd.R_reads' a7.out).2.1);rintro e o9 ⟨rfl,hb⟩;refine⟨_,rfl, ?_⟩;replace a6:=Zo a6 hb;replace a7:=Zo a7 hb;replace a8:=Zk a8 hb;replace a9:=Zk a9 hb;replace HK:=Zm (Kept.below (S:=(fun k_=>a4 k_∨a5 k_)) (by repeat(first|(with_reducible first|exact HK.out|apply Kept.alloc|apply Kept.drewN|apply Kept.drew|refine Kept.setCell ?_ (.inr b8.out) _ |refine Kept.setCell ?_ (.inr d7.out) _)|exact HK.out)) hb);replace HB:=Zh HB hb;obtain⟨k8,k9,l3,l4⟩:=Z2 a8;obtain⟨l5,l6,l7,l8⟩:=Z2 a9))
  refine bodyPost_ret (results_ct rfl _ _ d3 26 #[.slice i3 b6.length i4,.slice i5 b7.length i6] (0,0) _ rfl (by refine Zrb ?_;refine blk_put (cs:= #[.slice i3 b6.length i4,.slice none 0 0]) ?_ 1 _ rfl;refine Zrb ?_;refine blk_put (cs:= #[.slice none 0 0,.slice none 0 0]) ?_ 0 _ rfl;refine Zrb ?_;exact a9.out) Try.underlying26 rfl (by kernel_rfl)) rfl ?_
  exact⟨_,_,Ze,Zrr (Zfm a6 a9 (.slice i3 b6.length i4) (.slice i5 b7.length i6) (fun _ hk=>⟨hk.1.1,hk.1.2⟩)),Zrr (Zfm a7 a9 (.slice i3 b6.length i4) (.slice i5 b7.length i6) (fun _ hk=>⟨hk.1.1,hk.1.2⟩)),Zl HB,by repeat(first|(with_reducible first|exact HK.out|apply Kept.alloc|apply Kept.drewN|apply Kept.drew|refine Kept.setCell ?_ (.inr b8.out) _ |refine Kept.setCell ?_ (.inr d7.out) _)|exact HK.out)⟩
 ·
  replace c3:=Bool.eq_false_iff.mpr c3
  subst c3
  rw[if_neg Bool.false_ne_true]at H
  obtain⟨rfl,rfl,rfl⟩:=Zs3 H;clear H;obtain⟨i9,k3,n9⟩:=Kd.R_slice a6.out;subst n9;obtain⟨k4,k6,o0⟩:=Kd.R_slice a7.out;subst o0
  go_enter Try.func42,Try.ntmps42
  go_wp2_with (first|((with_reducible refine gate_dst (N:=1) rfl ?_);refine Zbe 1 #[.slice i9 b6.length k3,.slice k4 b7.length k6] 26 ?_;intro d6 hg p3 hbox hb;replace a6:=Zo a6 hb;replace a7:=Zo a7 hb;have a8:=Zm (hbox);have b8:=Zm ((by rw[hg];exact(by first|exact HK.out.1|exact(show Kept w _ (fun k_=>a4 k_∨a5 k_)from by repeat(first|(with_reducible first|exact HK.out|apply Kept.alloc|apply Kept.drewN|apply Kept.drew)|exact HK.out)).1):w.heap.size≤d6));replace HK:=Zm (Kept.below (S:=(fun k_=>a4 k_∨a5 k_)) (by repeat(first|(with_reducible first|exact HK.out|apply Kept.alloc|apply Kept.drewN|apply Kept.drew)|exact HK.out)) hb);have i7:=Zm ((by rw[hg];exact(below_size (Zl HB)):w0.heap.size≤d6));replace HB:=Zh HB hb;clear hb hbox hg)|((with_reducible refine gate_dst (N:=2) rfl ?_);refine Zbe 2 #[.slice none 0 0,.slice none 0 0] 26 ?_;intro d3 hg p4 hbox hb;replace a6:=Zo a6 hb;replace a7:=Zo a7 hb;have a9:=Zm (hbox);have d7:=Zm ((by rw[hg];exact(by first|exact HK.out.1|exact(show Kept w _ (fun k_=>a4 k_∨a5 k_)from by repeat(first|(with_reducible first|exact HK.out|apply Kept.alloc|apply Kept.drewN|apply Kept.drew|refine Kept.setCell ?_ (.inr b8.out) _)|exact HK.out)).1):w.heap.size≤d3));replace HK:=Zm (Kept.below (S:=(fun k_=>a4 k_∨a5 k_)) (by repeat(first|(with_reducible first|exact HK.out|apply Kept.alloc|apply Kept.drewN|apply Kept.drew|refine Kept.setCell ?_ (.inr b8.out) _)|exact HK.out)) hb);have i8:=Zm ((by rw[hg];exact(below_size (Zl HB)):w0.heap.size≤d3));replace HB:=Zh HB hb;have b9:=Zq hg a8;have c9:=Zp hg a8;replace a8:=Zk a8 hb;clear hb hbox hg;have o1:=b9.out;have o2:=c9.out;obtain⟨l9,m4,m5,m6⟩:=Z2 a8)|((with_reducible refine gate_callee (f:=31) rfl ?_);refine Ga (some 5) Try.func31 #[.agg #[.slice i9 b6.length k3,.slice k4 b7.length k6]] (h:= ?_);(with_reducible refine(impl_isTurned.calls k _ _ b6 _ _ b7 false _ ?e6 ?e7 ?e9 ?f8 A2.out).mono ?_);(case e6=>exact Zca (Kd.R_reads' a6.out).2.2);(case e7=>exact(Kd.R_reads' a6.out).2.1);(case e9=>exact Zca (Kd.R_reads' a7.out).2.2);(case f8=>exact(Kd.R_reads' a7.out).2.1);rintro e p5 ⟨rfl,hb⟩;refine⟨_,rfl, ?_⟩;replace a6:=Zo a6 hb;replace a7:=Zo a7 hb;replace a8:=Zk a8 hb;replace a9:=Zk a9 hb;replace HK:=Zm (Kept.below (S:=(fun k_=>a4 k_∨a5 k_)) (by repeat(first|(with_reducible first|exact HK.out|apply Kept.alloc|apply Kept.drewN|apply Kept.drew|refine Kept.setCell ?_ (.inr b8.out) _ |refine Kept.setCell ?_ (.inr d7.out) _)|exact HK.out)) hb);replace HB:=Zh HB hb;obtain⟨m7,m8,m9,n0⟩:=Z2 a9))
  refine bodyPost_ret (results_ct rfl _ _ d3 26 #[.slice none 0 0,.slice none 0 0] (0,0) _ rfl (by refine Zrb ?_;refine blk_put (cs:= #[.slice none 0 0,.slice none 0 0]) ?_ 1 _ rfl;refine Zrb ?_;refine blk_put (cs:= #[.slice none 0 0,.slice none 0 0]) ?_ 0 _ rfl;refine Zrb ?_;exact a9.out) Try.underlying26 rfl (by kernel_rfl)) rfl ?_
  exact⟨_,_,Ze,Znl,Znl,Zl HB,by repeat(first|(with_reducible first|exact HK.out|apply Kept.alloc|apply Kept.drewN|apply Kept.drew|refine Kept.setCell ?_ (.inr b8.out) _ |refine Kept.setCell ?_ (.inr d7.out) _)|exact HK.out)⟩
def impl_PoleResult.f (k:Nat) (a6:Int) (a7:List Int):Option (List Int × List Int × Bool):=(impl_isPole.f a6 a7).bind fun a8=>(if a8=true then((impl_poleResult.f k a6 a7).bind fun a5=>((impl_checkedTurned.f k a5.1 a5.2).bind fun a4=>(some (a4.1,a4.2.1,a4.2.2))))else(some (([]:List Int),([]:List Int),false)))
set_option maxHeartbeats 8000000 in
set_option maxRecDepth 100000 in
theorem impl_PoleResult.calls (k:Nat) (a9:Int) (c9:Option Addr) (d3:Nat) (a6:List Int) (r1:List Int) (r2:List Int) (r3:Bool) (w:World) (f9:Kd.C (Kd.int .i64) w c9 a6.length a6) (g8:a6.length≤d3) (h:impl_PoleResult.f k a9 a6=some (r1,r2,r3)):
  Calls Try.prog 19 #[.agg #[.int .i64 a9,.slice c9 a6.length d3]] w fun e w'=> ∃o0 o1:Value,e= .returned (.tuple #[.agg #[o0,o1],.bool r3])∧Kd.R (Kd.int .i64) 3 w' w.heap.size (fun k_=>Zn k_ o1) o0 r1∧Kd.R (Kd.int .i64) 3 w' w.heap.size (fun k_=>Zn k_ o0) o1 r2∧Below w.heap.size w w':=by
 have q3:=Try.underlying29;have q4:=Try.underlying26;have d4:=Aside0.mk f9;have d5:=Aside0.mk g8;clear f9 g8;have HB:=Zm (Below.refl w.heap.size w);have H:((impl_isPole.f a9 a6).bind fun i5=>(if i5=true then((impl_poleResult.f k a9 a6).bind fun g9=>((impl_checkedTurned.f k g9.1 g9.2).bind fun d6=>(some (d6.1,d6.2.1,d6.2.2))))else(some (([]:List Int),([]:List Int),false))))=some (r1,r2,r3):=h;clear h
 replace H:=Zb0 H;obtain⟨i5,A2,H⟩:=H
 by_cases c3:i5=true
 ·
  subst c3
  rw[if_pos rfl]at H
  replace H:=Zb0 H;obtain⟨⟨d7,d8⟩,A4,H⟩:=H;(try dsimp only at H);replace H:=Zb0 H;obtain⟨⟨d9,e7,o2⟩,A5,H⟩:=H;(try dsimp only at H)
  obtain⟨rfl,rfl,rfl⟩:=Zs3 H;clear H
  go_enter Try.func19,Try.ntmps19
  go_wp2_with (first|((with_reducible refine gate_dst (N:=1) rfl ?_);refine Zbe 1 #[.int .i64 a9,.slice c9 a6.length d3] 29 ?_;intro k6 hg w6 hbox hb;have a4:=Zm (hbox);have k8:=Zx hg HB;have k9:=Zx hg HB;replace HB:=Zh HB hb;clear hb hbox hg)|((with_reducible refine gate_dst (N:=2) rfl ?_);refine Zbe 2 #[.slice none 0 0,.slice none 0 0] 26 ?_;intro e6 hg w7 hbox hb;have a5:=Zm (hbox);have l3:=Zx hg HB;have l4:=Zx hg HB;replace HB:=Zh HB hb;have a7:=Zq hg a4;have a8:=Zp hg a4;replace a4:=Zk a4 hb;clear hb hbox hg;have q5:=a7.out;have q6:=a8.out;obtain⟨o3,o4,o5,o6⟩:=Z2 a4)|((with_reducible refine gate_callee (f:=41) rfl ?_);refine Ga (some 5) Try.func41 #[.agg #[.int .i64 a9,.slice c9 a6.length d3]] (h:= ?_);(with_reducible refine(impl_isPole.calls a9 _ _ a6 true _ ?b6 ?b7 A2.out).mono ?_);(case b6=>exact Zca (Kd.C_below d4.out HB.out));(case b7=>exact d5.out);rintro e q9 ⟨rfl,hb⟩;refine⟨_,rfl, ?_⟩;replace a4:=Zk a4 hb;replace a5:=Zk a5 hb;replace HB:=Zh HB hb;obtain⟨l8,l9,m4,m5⟩:=Z2 a4)|((with_reducible refine gate_callee (f:=34) rfl ?_);refine Ga (some 9) Try.func34 #[.agg #[.int .i64 a9,.slice c9 a6.length d3]] (h:= ?_);(with_reducible refine(impl_poleResult.calls k a9 _ _ a6 d7 d8 _ ?b6 ?b7 A4.out).mono ?_);(case b6=>exact Zca (Kd.C_below d4.out HB.out));(case b7=>exact d5.out);rintro e r5 ⟨q7,q8,rfl,o7,o8,hb⟩;refine⟨_,rfl, ?_⟩;have b8:=Zj o7 HB;have b9:=Zj o8 HB;replace a4:=Zk a4 hb;replace a5:=Zk a5 hb;replace HB:=Zh HB hb;obtain⟨i6,i7,o9⟩:=Kd.R_slice b8.out;subst o9;obtain⟨i8,i9,p3⟩:=Kd.R_slice b9.out;subst p3)|((with_reducible refine gate_callee (f:=42) rfl ?_);refine Ga (some 10) Try.func42 #[.agg #[.slice i6 d7.length i7,.slice i8 d8.length i9]] (h:= ?_);(with_reducible refine(impl_checkedTurned.calls k (fun k_=>some k_=(.slice i6 d7.length i7:Value).ownBlock) (.slice i6 d7.length i7) d7 (fun k_=>some k_=(.slice i8 d8.length i9:Value).ownBlock) (.slice i8 d8.length i9) d8 d9 e7 o2 w _ ?b6 ?b7 ?l5 ?l6 ?l7 A5.out).mono ?_);(case b6=>exact Zl HB);(case b7=>exact Kd.R_tight rfl b8.out);(case l5=>exact fun k_ e_=>(b8.out.1 k_ e_.symm));(case l6=>exact Kd.R_tight rfl b9.out);(case l7=>exact fun k_ e_=>(b9.out.1 k_ e_.symm));rintro e r6 ⟨p4,p5,rfl,o7,o8,hb,hkp⟩;refine⟨_,rfl, ?_⟩;replace a4:=Zm (blk_kept (Zb a4) hkp (fun hs_=>Or.elim hs_ (fun e_=>(fun e_=>(Kd.R_ne b8.out a4.out (by decide)) e_) e_) (fun e_=>(fun e_=>(Kd.R_ne b9.out a4.out (by decide)) e_) e_)));replace a5:=Zm (blk_kept (Zb a5) hkp (fun hs_=>Or.elim hs_ (fun e_=>(fun e_=>(Kd.R_ne b8.out a5.out (by decide)) e_) e_) (fun e_=>(fun e_=>(Kd.R_ne b9.out a5.out (by decide)) e_) e_)));have i3:=Zm (Kd.R_mono (ok':=fun k_=>Zn k_ p5) o7 (fun k_ hk_=>hk_.2));have i4:=Zm (Kd.R_mono (ok':=fun k_=>Zn k_ p4) o8 (fun k_ hk_=>hk_.2));replace HB:=Zm (hb);clear b8 b9;obtain⟨e9,f8,p6⟩:=Kd.R_slice i3.out;subst p6;obtain⟨m6,m7,m8,m9⟩:=Z2 a5;obtain⟨k3,k4,p7⟩:=Kd.R_slice i4.out;subst p7))
  refine bodyPost_ret (results_ct rfl _ _ e6 26 #[.slice e9 d9.length f8,.slice k3 e7.length k4] (0,0) _ rfl (by refine Zrb ?_;refine blk_put (cs:= #[.slice e9 d9.length f8,.slice none 0 0]) ?_ 1 _ rfl;refine Zrb ?_;refine blk_put (cs:= #[.slice none 0 0,.slice none 0 0]) ?_ 0 _ rfl;refine Zrb ?_;exact a5.out) Try.underlying26 rfl (by kernel_rfl)) rfl ?_
  exact⟨_,_,Ze,Zrr (Zfm i3 a5 (.slice e9 d9.length f8) (.slice k3 e7.length k4) (fun _ hk=>hk.1)),Zrr (Zfm i4 a5 (.slice e9 d9.length f8) (.slice k3 e7.length k4) (fun _ hk=>hk.1)),Zl HB⟩
 ·
  replace c3:=Bool.eq_false_iff.mpr c3
  subst c3
  rw[if_neg Bool.false_ne_true]at H
  obtain⟨rfl,rfl,rfl⟩:=Zs3 H;clear H
  go_enter Try.func19,Try.ntmps19
  go_wp2_with (first|((with_reducible refine gate_dst (N:=1) rfl ?_);refine Zbe 1 #[.int .i64 a9,.slice c9 a6.length d3] 29 ?_;intro k6 hg r7 hbox hb;have a4:=Zm (hbox);have k8:=Zx hg HB;have k9:=Zx hg HB;replace HB:=Zh HB hb;clear hb hbox hg)|((with_reducible refine gate_dst (N:=2) rfl ?_);refine Zbe 2 #[.slice none 0 0,.slice none 0 0] 26 ?_;intro e6 hg r8 hbox hb;have a5:=Zm (hbox);have l3:=Zx hg HB;have l4:=Zx hg HB;replace HB:=Zh HB hb;have a7:=Zq hg a4;have a8:=Zp hg a4;replace a4:=Zk a4 hb;clear hb hbox hg;have p8:=a7.out;have p9:=a8.out;obtain⟨n0,n3,n4,n5⟩:=Z2 a4)|((with_reducible refine gate_callee (f:=41) rfl ?_);refine Ga (some 5) Try.func41 #[.agg #[.int .i64 a9,.slice c9 a6.length d3]] (h:= ?_);(with_reducible refine(impl_isPole.calls a9 _ _ a6 false _ ?b6 ?b7 A2.out).mono ?_);(case b6=>exact Zca (Kd.C_below d4.out HB.out));(case b7=>exact d5.out);rintro e r9 ⟨rfl,hb⟩;refine⟨_,rfl, ?_⟩;replace a4:=Zk a4 hb;replace a5:=Zk a5 hb;replace HB:=Zh HB hb;obtain⟨n6,n7,n8,n9⟩:=Z2 a5))
  refine bodyPost_ret (results_ct rfl _ _ e6 26 #[.slice none 0 0,.slice none 0 0] (0,0) _ rfl (by refine Zrb ?_;refine blk_put (cs:= #[.slice none 0 0,.slice none 0 0]) ?_ 1 _ rfl;refine Zrb ?_;refine blk_put (cs:= #[.slice none 0 0,.slice none 0 0]) ?_ 0 _ rfl;refine Zrb ?_;exact a5.out) Try.underlying26 rfl (by kernel_rfl)) rfl ?_
  exact⟨_,_,Ze,Znl,Znl,Zl HB⟩
def impl_IsLeastPole.f (k:Nat) (a6:Int) (a5:List Int):Option (Bool × Bool):=(impl_PoleResult.f k a6 a5).bind fun a4=>(if a4.2.2=true then((impl_poleInversions.f a4.1 a4.2.1).bind fun a7=>(some ((a7 == (a5.length:Int)),true)))else(some (false,false)))
def impl_IsLeastPole.T4:Bool × List (List Nat × List Nat):=(true,[([],[]),([0],[0]),([],[]),([2],[2]),([3],[3]),([1,4],[1,4]),([5,1,0,1,2,3,4,5],[5]),([6,0,1,2,3,4,5,6],[])])
def impl_IsLeastPole.B4:List Nat:= [0,1,0,4,12,31,63,127]
theorem impl_IsLeastPole.tab4:rtab .any (opsOf Try.f20 4)=impl_IsLeastPole.T4:=by kernel_rfl
theorem impl_IsLeastPole.bits4:waitsOk impl_IsLeastPole.T4.2 impl_IsLeastPole.B4=true:=by kernel_rfl
set_option maxHeartbeats 8000000 in
set_option maxRecDepth 100000 in
theorem impl_IsLeastPole.calls (k:Nat) (b7:Int) (b9:Option Addr) (c9:Nat) (a8:List Int) (r1:Bool) (r2:Bool) (w:World) (e7:Kd.C (Kd.int .i64) w b9 a8.length a8) (e9:a8.length≤c9) (h:impl_IsLeastPole.f k b7 a8=some (r1,r2)):
  Calls Try.prog 20 #[.agg #[.int .i64 b7,.slice b9 a8.length c9]] w fun e w'=>e= .returned (.tuple #[.bool r1,.bool r2])∧Below w.heap.size w w':=by
 have o3:=Try.underlying29;have o4:=Try.underlying26;have f8:=Aside0.mk e7;have f9:=Aside0.mk e9;clear e7 e9;have HB:=Zm (Below.refl w.heap.size w);have H:((impl_PoleResult.f k b7 a8).bind fun d8=>(if d8.2.2=true then((impl_poleInversions.f d8.1 d8.2.1).bind fun g8=>(some ((g8 == (a8.length:Int)),true)))else(some (false,false))))=some (r1,r2):=h;clear h
 replace H:=Zb0 H;obtain⟨⟨d3,d6,m5⟩,A2,H⟩:=H;(try dsimp only at H)
 by_cases c3:m5=true
 ·
  subst c3
  rw[if_pos rfl]at H
  replace H:=Zb0 H;obtain⟨g8,A4,H⟩:=H
  obtain⟨rfl,rfl⟩:=Zs2 H;clear H
  go_enter Try.func20,Try.ntmps20
  try go_wp2_with (first|((with_reducible refine gate_dst (N:=1) rfl ?_);refine Zbe 1 #[.int .i64 b7,.slice b9 a8.length c9] 29 ?_;intro d7 hg w5 hbox hb;have a4:=Zm (hbox);have g9:=Zx hg HB;have i3:=Zx hg HB;replace HB:=Zh HB hb;clear hb hbox hg;obtain⟨m6,m7,m8,m9⟩:=Z2 a4)|((with_reducible refine gate_callee (f:=19) rfl ?_);refine Ga (some 8) Try.func19 #[.agg #[.int .i64 b7,.slice b9 a8.length c9]] (h:= ?_);(with_reducible refine(impl_PoleResult.calls k b7 _ _ a8 d3 d6 true _ ?d4 ?d5 A2.out).mono ?_);(case d4=>exact Zca (Kd.C_below f8.out HB.out));(case d5=>exact f9.out);rintro e w7 ⟨n0,n3,rfl,n4,n5,hb⟩;refine⟨_,rfl, ?_⟩;have a5:=Zj n4 HB;have a6:=Zj n5 HB;replace a4:=Zk a4 hb;replace HB:=Zh HB hb)|((with_reducible refine gate_dst (N:=4) rfl ?_);refine Zbe 4 #[.slice none 0 0,.slice none 0 0] 26 ?_;intro b8 hg w8 hbox hb;replace a5:=Zo a5 hb;replace a6:=Zo a6 hb;have a7:=Zm (hbox);have i4:=Zx hg HB;have i5:=Zx hg HB;replace HB:=Zh HB hb;have a9:=Zq hg a4;have b6:=Zp hg a4;replace a4:=Zk a4 hb;clear hb hbox hg;obtain⟨i6,i7,o5⟩:=Kd.R_slice a5.out;subst o5;have n9:=b6.out;have o0:=a9.out;obtain⟨k3,k4,k6,k8⟩:=Z2 a7;obtain⟨d9,e6,n6⟩:=Kd.R_slice a6.out;subst n6))
  generalize hW_:((w8.setCell ⟨b8,0,none⟩ (.slice i6 d3.length i7)).setCell ⟨b8,1,none⟩ (.slice d9 d6.length e6))=k9;replace a5:=Zw2 hW_ a5 a7;replace a6:=Zw2 hW_ a6 a7;replace a4:Aside0 (k9.heap[d7]? =some (.cells #[.int .i64 b7,.slice b9 a8.length c9] 29 (0,0))):=⟨by rw[←hW_];exact Zbf a4⟩;replace a7:Aside0 (k9.heap[b8]? =some (.cells #[.slice i6 d3.length i7,.slice d9 d6.length e6] 26 (0,0))):=⟨by rw[←hW_];refine Zrb ?_;refine blk_put (cs:= #[.slice i6 d3.length i7,.slice none 0 0]) ?_ 1 _ rfl;refine Zrb ?_;refine blk_put (cs:= #[.slice none 0 0,.slice none 0 0]) ?_ 0 _ rfl;refine Zrb ?_;exact a7.out⟩;replace HB:Aside0 (Below w.heap.size w k9):=⟨by rw[←hW_];exact Zl HB⟩;clear hW_;replace a5:=Zm (Kd.R_drew a5.out);replace a6:=Zm (Kd.R_drew a6.out);replace a4:=Zm (blk_drew a4.out);replace a7:=Zm (blk_drew a7.out);replace HB:=Zm (below_drew1 HB.out)
  refine start_ (n:=8) (S:=fun w'=>w'.cell? ⟨b8,0,none⟩=some (.slice i6 d3.length i7)∧w'.cell? ⟨b8,1,none⟩=some (.slice d9 d6.length e6)∧w'.cell? ⟨d7,0,none⟩=some (.int .i64 b7)∧w'.cell? ⟨d7,1,none⟩=some (.slice b9 a8.length c9)) (ds:= []) (fl 8 0) (by kernel_rfl) rfl rfl ⟨Zc0 a7 0,Zc0 a7 1,Zc0 a4 0,Zc0 a4 1⟩ (fun hHeld=> ?_);refine with_tabW impl_IsLeastPole.tab4 impl_IsLeastPole.bits4 (fun HT_ HW_=> ?_)
  generalize k9.drew=p3 at a5 a6 a4 a7 HB hHeld ⊢;refine Yu 2 15 (fl 8 4) HT_ (h:= ?_);refine Yt 0 13 (fl 8 5) HT_ HW_ hHeld (h:= ?_);refine Yt 3 16 (fl 8 13) HT_ HW_ hHeld (h:= ?_);refine Yu 4 17 (fl 8 29) HT_ (h:= ?_)
  refine one_ (i:=1) (N:=some 14) (fl 8 31) rfl rfl (one_of HT_.out (by kernel_rfl)) (by decide) (fun K hK=> ?_)
  refine goes_ Try.func32 (by kernel_rfl) rfl #[.agg #[.slice i6 d3.length i7,.slice d9 d6.length e6]] (by rfl) rfl rfl (by(try simp only[List.map_toArray,List.map_cons,List.map_nil]);first|done|rfl) ?_
  with_reducible refine(impl_poleInversions.calls _ _ d3 _ _ d6 g8 _ ?d4 ?d5 ?i8 ?i9 A4.out).mono ?_
  (case d4=>exact Zca (Kd.R_reads' a5.out).2.2)
  (case d5=>exact(Kd.R_reads' a5.out).2.1)
  (case i8=>exact Zca (Kd.R_reads' a6.out).2.2)
  (case i9=>exact(Kd.R_reads' a6.out).2.1)
  rintro e p4 ⟨rfl,hb⟩
  refine⟨_,rfl, ?_⟩
  replace a5:=Zo a5 hb;replace a6:=Zo a6 hb;replace a4:=Zk a4 hb;replace a7:=Zk a7 hb;replace HB:=Zh HB hb
  refine hK.out _ _ ⟨Zc0 a7 0,Zc0 a7 1,Zc0 a4 0,Zc0 a4 1⟩ (fun hHeld=> ?_)
  clear hK K;refine Yn 14 (h:= ?_);refine Yu 5 18 (fl 8 63) HT_ (h:= ?_);refine Yu 6 2 (fl 8 127) HT_ (h:= ?_);refine Yu 7 3 (fl 8 255) HT_ (h:= ?_)
  refine done_ (done_of HT_.out (by kernel_rfl)) ?_
  try go_wp2
  go_ret2
  exact⟨Ze,Zl HB⟩
 ·
  replace c3:=Bool.eq_false_iff.mpr c3
  subst c3
  rw[if_neg Bool.false_ne_true]at H
  obtain⟨rfl,rfl⟩:=Zs2 H;clear H
  go_enter Try.func20,Try.ntmps20
  go_wp2_with (first|((with_reducible refine gate_dst (N:=1) rfl ?_);refine Zbe 1 #[.int .i64 b7,.slice b9 a8.length c9] 29 ?_;intro d7 hg p5 hbox hb;have a4:=Zm (hbox);have g9:=Zx hg HB;have i3:=Zx hg HB;replace HB:=Zh HB hb;clear hb hbox hg;obtain⟨l3,l4,l5,l6⟩:=Z2 a4)|((with_reducible refine gate_callee (f:=19) rfl ?_);refine Ga (some 8) Try.func19 #[.agg #[.int .i64 b7,.slice b9 a8.length c9]] (h:= ?_);(with_reducible refine(impl_PoleResult.calls k b7 _ _ a8 d3 d6 false _ ?d4 ?d5 A2.out).mono ?_);(case d4=>exact Zca (Kd.C_below f8.out HB.out));(case d5=>exact f9.out);rintro e p6 ⟨n0,n3,rfl,n4,n5,hb⟩;refine⟨_,rfl, ?_⟩;have a5:=Zj n4 HB;have a6:=Zj n5 HB;replace a4:=Zk a4 hb;replace HB:=Zh HB hb)|((with_reducible refine gate_dst (N:=4) rfl ?_);refine Zbe 4 #[.slice none 0 0,.slice none 0 0] 26 ?_;intro b8 hg p7 hbox hb;replace a5:=Zo a5 hb;replace a6:=Zo a6 hb;have a7:=Zm (hbox);have i4:=Zx hg HB;have i5:=Zx hg HB;replace HB:=Zh HB hb;have a9:=Zq hg a4;have b6:=Zp hg a4;replace a4:=Zk a4 hb;clear hb hbox hg;obtain⟨o6,o7,n7⟩:=Kd.R_slice a5.out;subst n7;have o1:=b6.out;have o2:=a9.out;obtain⟨l7,l8,l9,m4⟩:=Z2 a7;obtain⟨o8,o9,n8⟩:=Kd.R_slice a6.out;subst n8))
  go_ret2
  exact⟨Ze,Zl HB⟩
def spec_l1Cur_one.f (a5:List Int) (a6:Int) (a7:Int) (a1:Int):Option (Bool × Int × Int):=(spec_l1Cur_pick.f a5 a6 a7 a1).bind fun a4=>(some ((a4.1 == 0),a4.2.1,a4.2.2))
set_option maxHeartbeats 8000000 in
set_option maxRecDepth 100000 in
theorem spec_l1Cur_one.calls (g:Nat) (a4:List Int) (a6:Int) (a7:Int) (a1:Int) (r1:Bool) (r2:Int) (r3:Int) (w0 w:World) (hI:IsS61 w0 w g a4 a6 a7) (hB:Below w0.heap.size w0 w) (h:spec_l1Cur_one.f a4 a6 a7 a1=some (r1,r2,r3)):
  Calls Try.prog 43 #[.pointer (some ⟨g,0,none⟩),.int .i64 a1] w fun e w'=>e= .returned (.bool r1)∧IsS61 w0 w' g a4 r2 r3∧Below w0.heap.size w0 w'∧KeepBut w w' g none:=by
 (have b6:=Aside0.mk hI;have HK:=Zm (KeepBut.refl w g none);have HL:=Aside0.mk hB.size;clear hI;have c9:=Aside0.mk hB.size;have HB:=Aside0.mk hB;clear hB;have H:((spec_l1Cur_pick.f a4 a6 a7 a1).bind fun a5=>(some ((a5.1 == 0),a5.2.1,a5.2.2)))=some (r1,r2,r3):=h;clear h);replace H:=Zb0 H;obtain⟨⟨b7,b8,b9⟩,A3,H⟩:=H;(try dsimp only at H)
 obtain⟨rfl,rfl,rfl⟩:=Zs3 H;clear H
 go_enter Try.func43,Try.ntmps43
 go_wp2_with (first|((with_reducible refine gate_callee (f:=45) rfl ?_);refine Ga (some 7) Try.func45 #[.pointer (some ⟨g,0,none⟩),.int .i64 a1] (h:= ?_);(with_reducible refine(spec_l1Cur_pick.calls g a4 a6 a7 a1 b7 b8 b9 w0 _ ?a8 ?a9 A3.out).mono ?_);(case a8=>exact Zis b6);(case a9=>exact Zlb HB);rintro e w4 ⟨rfl,hi,hb,hk⟩;refine⟨_,rfl, ?_⟩;replace HK:=Zm (KeepBut.trans (Zke HK) hk (.inl rfl));replace HB:=Zm (hb);replace b6:=Zm (hi)))
 go_ret
 exact⟨Ze,Zis b6,Zlb HB,Zke HK⟩
def slices_Equal_int_int.l0:Nat→List Int→List Int→Int→Int→Option (Bool)
 |0,_,_,_,_ =>none
 |k+1,x0,x1,a5,a4=>if a4<a5 then(if 0≤a4 then(if a4<(x0.length:Int)then(if a4<(x1.length:Int)then(if(rd x0 a4)=(rd x1 a4)then(slices_Equal_int_int.l0 k x0 x1 a5 (wrap64 (a4+1)))else(some false))else(none))else(none))else(none))else(some true)
def slices_Equal_int_int.f (k:Nat) (l0:List Int) (l1:List Int):Option (Bool):=if(l0.length:Int)=(l1.length:Int)then(slices_Equal_int_int.l0 k l0 l1 (l0.length:Int) 0)else(some false)
set_option maxHeartbeats 8000000 in
set_option maxRecDepth 100000 in
theorem slices_Equal_int_int.calls (k:Nat) (A0:Option Addr) (c0:Nat) (l0:List Int) (A1:Option Addr) (c1:Nat) (l1:List Int) (r:Bool) (w:World) (d9:Kd.C (Kd.int .i64) w A0 l0.length l0) (e6:l0.length≤c0) (e7:Kd.C (Kd.int .i64) w A1 l1.length l1) (e9:l1.length≤c1) (h:slices_Equal_int_int.f k l0 l1=some r):
  Calls Try.prog 68 #[.slice A0 l0.length c0,.slice A1 l1.length c1] w fun e w'=>e= .returned (.bool r)∧Drawn0 w w':=by
 have f8:=Aside0.mk d9
 have i6:=Aside0.mk e6
 clear d9 e6
 have f9:=Aside0.mk e7
 have i7:=Aside0.mk e9
 clear e7 e9
 have H:(if(l0.length:Int)=(l1.length:Int)then(slices_Equal_int_int.l0 k l0 l1 (l0.length:Int) 0)else(some false))=some r:=h
 clear h
 by_cases c3:(l0.length:Int)=(l1.length:Int)
 ·
  rw[if_pos c3]at H
  have b9:((l0.length:Int) == (l1.length:Int))=true:=beq_iff_eq.mpr c3
  have c9:((l0.length:Int) != (l1.length:Int))=false:=bne_eq_false_iff_eq.mpr c3
  have d3:(l0.length == l1.length)=true:=by first|simpa using c3|(simp at c3 ⊢;omega)
  clear c3
  have H':=Aside0.mk H
  clear H
  go_enter Try.func68,Try.ntmps68
  go_wp2
  repeat(go_quiet (fail);try go_wp2)
  go_loopg [13] k (fun kq g9 w'=> ∃(a4:Int),g9= .int .i64 a4∧Aside0 (slices_Equal_int_int.l0 kq l0 l1 (l0.length:Int) a4=some r)∧Aside0 (kq≤k)∧Drawn0 w w')
  case atStart=>exact⟨(0),(by first|rfl|(simp;done)|(simp[*];done)),H',⟨Nat.le_refl _⟩,by repeat(first|exact Drawn0.refl _ |apply Drawn0.step)⟩
  case round=>
   clear H'
   try clear c1
   try clear p2
   try clear c3
   try clear b9
   try clear c9
   try clear d3
   obtain⟨a4,rfl,HA,g8,⟨m1,rfl⟩⟩:=hrel
   cases gk with
   |zero=>exact absurd HA.out (by simp[slices_Equal_int_int.l0])
   |succ k1=>
    have H:=HA.out
    clear HA
    simp only[slices_Equal_int_int.l0]at H
    by_cases c4:a4<(l0.length:Int)
    ·
     rw[if_pos c4]at H
     have d6:decide (a4<(l0.length:Int))=true:=decide_eq_true c4
     clear c4
     by_cases c5:0≤a4
     ·
      rw[if_pos c5]at H
      have i3:decide (0≤a4)=true:=decide_eq_true c5
      clear c5
      by_cases c6:a4<(l0.length:Int)
      ·
       rw[if_pos c6]at H
       have i4:decide (a4<(l0.length:Int))=true:=decide_eq_true c6
       clear c6
       by_cases c7:a4<(l1.length:Int)
       ·
        rw[if_pos c7]at H
        have i5:decide (a4<(l1.length:Int))=true:=decide_eq_true c7
        clear c7
        by_cases c8:(rd l0 a4)=(rd l1 a4)
        ·
         rw[if_pos c8]at H
         have d7:((rd l0 a4) == (rd l1 a4))=true:=beq_iff_eq.mpr c8
         have d8:((rd l0 a4) != (rd l1 a4))=false:=bne_eq_false_iff_eq.mpr c8
         clear c8
         have H':=Aside0.mk H
         clear H
         have a5:0≤(a4:Int):=of_decide_eq_true (by first|(with_reducible assumption)|assumption)
         have a6:a4<(l0.length:Int):=of_decide_eq_true (by first|(with_reducible assumption)|assumption)
         obtain⟨d4,b7,a9⟩:=Kd.at_int f8.out a4 a5 a6
         cases b7
         replace a5:=eq_true a5
         replace a6:=eq_true a6
         have a7:0≤(a4:Int):=of_decide_eq_true (by first|(with_reducible assumption)|assumption)
         have a8:a4<(l1.length:Int):=of_decide_eq_true (by first|(with_reducible assumption)|assumption)
         obtain⟨d5,b8,b6⟩:=Kd.at_int f9.out a4 a7 a8
         cases b8
         replace a7:=eq_true a7
         replace a8:=eq_true a8
         go_wp2
         repeat(go_quiet (fail);try go_wp2)
         go_roundg k1
         case measure=>have:=g8.out;omega
         case rel=>exact⟨(wrap64 (a4+1)),(by first|rfl|(simp;done)|(simp[*];done)),H',⟨by have:=g8.out;omega⟩,by repeat(first|exact Drawn0.refl _ |apply Drawn0.step)⟩
        ·
         rw[if_neg c8]at H
         have d7:((rd l0 a4) == (rd l1 a4))=false:=beq_eq_false_iff_ne.mpr c8
         have d8:((rd l0 a4) != (rd l1 a4))=true:=bne_iff_ne.mpr c8
         obtain rfl:=Option.some.inj H
         have a5:0≤(a4:Int):=of_decide_eq_true (by first|(with_reducible assumption)|assumption)
         have a6:a4<(l0.length:Int):=of_decide_eq_true (by first|(with_reducible assumption)|assumption)
         obtain⟨d4,b7,a9⟩:=Kd.at_int f8.out a4 a5 a6
         cases b7
         replace a5:=eq_true a5
         replace a6:=eq_true a6
         have a7:0≤(a4:Int):=of_decide_eq_true (by first|(with_reducible assumption)|assumption)
         have a8:a4<(l1.length:Int):=of_decide_eq_true (by first|(with_reducible assumption)|assumption)
         obtain⟨d5,b8,b6⟩:=Kd.at_int f9.out a4 a7 a8
         cases b8
         replace a7:=eq_true a7
         replace a8:=eq_true a8
         go_wp2
         repeat(go_quiet (fail);try go_wp2)
         go_ret
         exact⟨by first|rfl|(simp;done)|(simp[*];done),by repeat(first|exact Drawn0.refl _ |apply Drawn0.step)⟩
       ·
        rw[if_neg c7]at H
        exact absurd H (by simp)
      ·
       rw[if_neg c6]at H
       exact absurd H (by simp)
     ·
      rw[if_neg c5]at H
      exact absurd H (by simp)
    ·
     rw[if_neg c4]at H
     have d6:decide (a4<(l0.length:Int))=false:=decide_eq_false c4
     clear c4
     obtain rfl:=Option.some.inj H
     go_wp2
     repeat(go_quiet (fail);try go_wp2)
     go_ret
     exact⟨by first|rfl|(simp;done)|(simp[*];done),by repeat(first|exact Drawn0.refl _ |apply Drawn0.step)⟩
 ·
  rw[if_neg c3]at H
  have b9:((l0.length:Int) == (l1.length:Int))=false:=beq_eq_false_iff_ne.mpr c3
  have c9:((l0.length:Int) != (l1.length:Int))=true:=bne_iff_ne.mpr c3
  have d3:(l0.length == l1.length)=false:=by first|simpa using c3|(simp at c3 ⊢;omega)
  obtain rfl:=Option.some.inj H
  go_enter Try.func68,Try.ntmps68
  go_wp2
  repeat(go_quiet (fail);try go_wp2)
  go_ret
  exact⟨by first|rfl|(simp;done)|(simp[*];done),by repeat(first|exact Drawn0.refl _ |apply Drawn0.step)⟩
def impl_identity.l0:Nat→List Int→Int→Int→Option (List Int)
 |0,_,_,_ =>none
 |k+1,x3,x6,x7=>if x7<x6 then(if x3.length<17592186044416 then(impl_identity.l0 k (x3++ [x7]) x6 (wrap64 (x7+1)))else(none))else(some x3)
def impl_identity.f (k:Nat) (a0:Int):Option (List Int):=impl_identity.l0 k (([]:List Int)) a0 0
set_option maxHeartbeats 8000000 in
set_option maxRecDepth 100000 in
theorem impl_identity.calls (k:Nat) (a0:Int) (r:List Int) (w:World) (h:impl_identity.f k a0=some r):
  Calls Try.prog 69 #[.int .i64 a0] w fun e w'=> ∃d7:Value,e= .returned (d7)∧Kd.R (Kd.int .i64) 3 w' w.heap.size (fun _ =>True) d7 r∧Below w.heap.size w w':=by
 have HB:=Zm (Below.refl w.heap.size w);have H:(impl_identity.l0 k (([]:List Int)) a0 0)=some r:=h;clear h;obtain⟨b6,a4⟩: ∃y_:List Int,y_=(([]:List Int)):=⟨_,rfl⟩;(replace H:(impl_identity.l0 k b6 a0 0)=some r:=by first|(rw[a4];with_reducible exact H)|(have d3:=(Option.bind_some _ _).symm.trans H;rw[a4];with_reducible exact d3)|(have d3:=(Option.bind_some _ _).symm.trans H;with_reducible exact d3)|with_reducible exact H|(rw[a4];exact H)|exact H)
 have a7:=Aside0.mk a4;clear a4;have H':=Aside0.mk H;clear H
 go_enter Try.func69,Try.ntmps69
 go_wp2_with (first|((with_reducible refine gate_dst (N:=5) rfl ?_);refine Kd.R_lit (Kd.int .i64) _ 3 ?hg (N:=5) ?hd (xs:=([]:List Int)) (inner:= []) (ok:=fun _ =>True) (okp:=fun _ =>True) ?hr ?hp (fun _ hk=>hk) trivial (Below.refl _ _) (Nat.le_refl _) (by simp) ?_;(case hd=>rfl);(case hg=>rfl);(case hr=>first|(go_simp;done)|(go_simp;rfl));(case hp=>exact(Reps.none _ _));intro d9 w2 b7 hb hg_ hnew_;clear hg_ hnew_;(first|rw[←a7.out]at b7|(simp only[Int.reduceToNat]at b7;rw[←a7.out]at b7));have b8:=Zj b7 HB;replace HB:=Zh HB hb;clear hb b7))
 go_loopg [3,7] k (fun kq v3 v7 w'=> ∃(a6:List Int) (a5:Int),v7= .int .i64 a5∧Aside0 (impl_identity.l0 kq a6 a0 a5=some r)∧Aside0 (kq≤k)∧Aside0 (Kd.R (Kd.int .i64) 3 w' w.heap.size (fun _ =>True) v3 a6)∧Aside0 (Below w.heap.size w w'))
 case atStart=>exact⟨(b6),(0),Zs,H',⟨Nat.le_refl _⟩,⟨Zr b8⟩,⟨Zl HB⟩⟩
 case round=>
  (clear H');obtain⟨a6,a5,rfl,HA,d8,a9,HB⟩:=hrel
  cases gk with
  |zero=>exact absurd HA.out (by simp[impl_identity.l0])
  |succ k1=>
   have H:=HA.out;clear HA
   simp only[impl_identity.l0]at H
   by_cases c4:a5<a0
   ·
    rw[if_pos c4]at H;have d4:=decide_eq_true c4;clear c4
    replace H:=Zif H;obtain⟨c5,H⟩:=H
    have d5:=Aside0.mk c5;clear c5
    generalize a8:((a6++ [a5]):List Int)=d6 at H;have b9:=Aside0.mk a8.symm;clear a8;have H':=Aside0.mk H;clear H
    go_wp2_with (first|((with_reducible refine gate_builtin (b:= .append) (xs:= #[.tmp 10,.tmp 12]) rfl ?_);at_builtin;refine Kd.R_append (Kd.int .i64) (w0:=w) w.heap.size rfl (.tmp 10) (.tmp 12) 24 3 (.int .i64 0) 8 rfl Try.underlying24 info3 rfl (by decide) (by omega) u3 a6 a5 [.int .i64 a5] (fun _ =>True) (fun _ =>False) rfl rfl ?aP (fun _ hk=>hk.elim) ?aF ?aO ?aB ?aS ?aL ?_;(case aP=>exact rfl);(case aB=>exact(Zl HB));(case aF=>exact(fun _ _ =>trivial));(case aO=>exact(Zr a9));(case aS=>exact(below_size (Zl HB)));(case aL=>have:=d5.out;omega);intro e6 w6 ho hb hg hat;rw[←b9.out]at ho;replace HB:=Zm (hb);have c9:=Zm (ho);clear a9 ho hb hg hat))
    go_roundg k1
    case measure=>have:=d8.out;omega
    case rel=>exact⟨(d6),(wrap64 (a5+1)),Zs,H',⟨by have:=d8.out;omega⟩,⟨Zr c9⟩,⟨Zl HB⟩⟩
   ·
    rw[if_neg c4]at H;have d4:=decide_eq_false c4;clear c4;obtain rfl:=Option.some.inj H
    go_wp2
    go_ret
    exact⟨_,Ze,Zr a9,Zl HB⟩
def impl_then.l0:Nat→List Int→List Int→List Int→Int→Int→Option (List Int)
 |0,_,_,_,_,_ =>none
 |k+1,x1,x5,x9,a5,a4=>if a4<a5 then(if 0≤a4 then(if a4<(x9.length:Int)then(if 0≤(rd x9 a4)then(if(rd x9 a4)<(x1.length:Int)then(if x5.length<17592186044416 then(impl_then.l0 k x1 (x5++ [rd x1 (rd x9 a4)]) x9 a5 (wrap64 (a4+1)))else(none))else(none))else(none))else(none))else(none))else(some x5)
def impl_then.f (k:Nat) (l0:List Int) (l1:List Int):Option (List Int):=impl_then.l0 k l1 (([]:List Int)) l0 (l0.length:Int) 0
set_option maxHeartbeats 8000000 in
set_option maxRecDepth 100000 in
theorem impl_then.calls (k:Nat) (A0:Option Addr) (c0:Nat) (l0:List Int) (A1:Option Addr) (c1:Nat) (l1:List Int) (r:List Int) (w:World) (e7:Kd.C (Kd.int .i64) w A0 l0.length l0) (e9:l0.length≤c0) (f8:Kd.C (Kd.int .i64) w A1 l1.length l1) (f9:l1.length≤c1) (h:impl_then.f k l0 l1=some r):
  Calls Try.prog 70 #[.slice A0 l0.length c0,.slice A1 l1.length c1] w fun e w'=> ∃g8:Value,e= .returned (g8)∧Kd.R (Kd.int .i64) 3 w' w.heap.size (fun _ =>True) g8 r∧Below w.heap.size w w':=by
 have i5:=Aside0.mk e7;have l6:=Aside0.mk e9;clear e7 e9;have i6:=Aside0.mk f8;have l7:=Aside0.mk f9;clear f8 f9;have HB:=Zm (Below.refl w.heap.size w);have H:(impl_then.l0 k l1 (([]:List Int)) l0 (l0.length:Int) 0)=some r:=h;clear h;obtain⟨b6,a5⟩: ∃y_:List Int,y_=(([]:List Int)):=⟨_,rfl⟩;(replace H:(impl_then.l0 k l1 b6 l0 (l0.length:Int) 0)=some r:=by first|(rw[a5];with_reducible exact H)|(have d6:=(Option.bind_some _ _).symm.trans H;rw[a5];with_reducible exact d6)|(have d6:=(Option.bind_some _ _).symm.trans H;with_reducible exact d6)|with_reducible exact H|(rw[a5];exact H)|exact H)
 have a7:=Aside0.mk a5;clear a5;have H':=Aside0.mk H;clear H
 go_enter Try.func70,Try.ntmps70
 go_wp2_with (first|((with_reducible refine gate_dst (N:=8) rfl ?_);refine Kd.R_lit (Kd.int .i64) _ 3 ?hg (N:=8) ?hd (xs:=([]:List Int)) (inner:= []) (ok:=fun _ =>True) (okp:=fun _ =>True) ?hr ?hp (fun _ hk=>hk) trivial (Below.refl _ _) (Nat.le_refl _) (by simp) ?_;(case hd=>rfl);(case hg=>rfl);(case hr=>first|(go_simp;done)|(go_simp;rfl));(case hp=>exact(Reps.none _ _));intro i7 w3 b7 hb hg_ hnew_;clear hg_ hnew_;(first|rw[←a7.out]at b7|(simp only[Int.reduceToNat]at b7;rw[←a7.out]at b7));have b8:=Zj b7 HB;replace HB:=Zh HB hb;clear hb b7))
 go_loopg [5,11] k (fun kq v5 i8 w'=> ∃(a6:List Int) (a4:Int),i8= .int .i64 a4∧Aside0 (impl_then.l0 kq l1 a6 l0 (l0.length:Int) a4=some r)∧Aside0 (kq≤k)∧Aside0 (Kd.R (Kd.int .i64) 3 w' w.heap.size (fun _ =>True) v5 a6)∧Aside0 (Below w.heap.size w w'))
 case atStart=>exact⟨(b6),(0),Zs,H',⟨Nat.le_refl _⟩,⟨Zr b8⟩,⟨Zl HB⟩⟩
 case round=>
  (clear H');obtain⟨a6,a4,rfl,HA,g9,a9,HB⟩:=hrel
  cases gk with
  |zero=>exact absurd HA.out (by simp[impl_then.l0])
  |succ k1=>
   have H:=HA.out;clear HA
   simp only[impl_then.l0]at H
   by_cases c5:a4<(l0.length:Int)
   ·
    rw[if_pos c5]at H;have d7:=decide_eq_true c5;clear c5
    replace H:=Zif H;obtain⟨c6,H⟩:=H;have i9:decide (0≤a4)=true:=decide_eq_true c6;clear c6
    replace H:=Zit H;obtain⟨k3,H⟩:=H
    replace H:=Zit H;obtain⟨k4,H⟩:=H
    replace H:=Zit H;obtain⟨k6,H⟩:=H
    replace H:=Zif H;obtain⟨c10,H⟩:=H
    have b9:=Aside0.mk c10;clear c10
    generalize a8:((a6++ [rd l1 (rd l0 a4)]):List Int)=d8 at H;have c9:=Aside0.mk a8.symm;clear a8;have H':=Aside0.mk H;clear H;obtain⟨i3,d9,d4,k8,k9⟩:=Zat i5 HB (a4)
    cases d9
    obtain⟨i4,e6,d5,l3,l4⟩:=Zat i6 HB ((rd l0 a4))
    cases e6
    go_wp2_with (first|((with_reducible refine gate_builtin (b:= .append) (xs:= #[.tmp 15,.tmp 20]) rfl ?_);at_builtin;refine Kd.R_append (Kd.int .i64) (w0:=w) w.heap.size rfl (.tmp 15) (.tmp 20) 24 3 (.int .i64 0) 8 rfl Try.underlying24 info3 rfl (by decide) (by omega) u5 a6 (rd l1 (rd l0 a4)) [.int .i64 (rd l1 (rd l0 a4))] (fun _ =>True) (fun _ =>False) rfl rfl ?aP (fun _ hk=>hk.elim) ?aF ?aO ?aB ?aS ?aL ?_;(case aP=>exact rfl);(case aB=>exact(Zl HB));(case aF=>exact(fun _ _ =>trivial));(case aO=>exact(Zr a9));(case aS=>exact(below_size (Zl HB)));(case aL=>have:=b9.out;omega);intro l5 l8 ho hb hg hat;rw[←c9.out]at ho;replace HB:=Zm (hb);have d3:=Zm (ho);clear a9 ho hb hg hat))
    go_roundg k1
    case measure=>have:=g9.out;omega
    case rel=>exact⟨(d8),(wrap64 (a4+1)),Zs,H',⟨by have:=g9.out;omega⟩,⟨Zr d3⟩,⟨Zl HB⟩⟩
   ·
    rw[if_neg c5]at H;have d7:=decide_eq_false c5;clear c5;obtain rfl:=Option.some.inj H
    go_wp2
    go_ret
    exact⟨_,Ze,Zr a9,Zl HB⟩
def impl_OrderTimes.l0:Nat→List Int→Int→List Int→Option (Int × Bool)
 |0,_,_,_ =>none
 |k+1,x0,x4,x5=>(impl_identity.f k (x0.length:Int)).bind fun a4=>((slices_Equal_int_int.f k x5 a4).bind fun a5=>(if a5=true then(some (x4,true))else((impl_then.f k x5 x0).bind fun a6=>(impl_OrderTimes.l0 k x0 (wrap64 (x4+1)) a6))))
def impl_OrderTimes.f (k:Nat) (l0:List Int):Option (Int × Bool):=(impl_isOrder.f k l0).bind fun a4=>(if a4=true then(impl_OrderTimes.l0 k l0 1 l0)else(some (0,false)))
set_option maxHeartbeats 8000000 in
set_option maxRecDepth 100000 in
theorem impl_OrderTimes.calls (k:Nat) (d9:Nat→Prop) (A0:Option Addr) (c0:Nat) (l0:List Int) (r1:Int) (r2:Bool) (w:World) (i3:Kd.V (Kd.int .i64) 3 w w.heap.size (fun k_=>d9 k_) (.slice A0 l0.length c0) l0) (h:impl_OrderTimes.f k l0=some (r1,r2)):
  Calls Try.prog 47 #[.slice A0 l0.length c0] w fun e w'=>e= .returned (.tuple #[.int .i64 r1,.bool r2])∧Below w.heap.size w w':=by
 (have d4:=Zm (show Kd.V (Kd.int .i64) 3 w w.heap.size (fun k_=>(d9 k_∨w.heap.size≤k_)) (.slice A0 l0.length c0) l0 from Kd.V_mono i3 (fun k_ hk=> .inl hk));have HB:=Zm (Below.refl w.heap.size w);have H:((impl_isOrder.f k l0).bind fun d3=>(if d3=true then(impl_OrderTimes.l0 k l0 1 l0)else(some (0,false))))=some (r1,r2):=h;clear h);replace H:=Zb0 H;obtain⟨d3,A2,H⟩:=H
 by_cases c3:d3=true
 ·
  subst c3
  rw[if_pos rfl]at H
  have H':=Aside0.mk H;clear H
  go_enter Try.func47,Try.ntmps47
  go_wp2_with (first|((with_reducible refine gate_callee (f:=58) rfl ?_);refine Ga (some 7) Try.func58 #[.slice A0 l0.length c0] (h:= ?_);(with_reducible refine(impl_isOrder.calls k _ _ l0 true _ ?a5 ?a6 A2.out).mono ?_);(case a5=>exact Zca (Kd.V_reads' d4.out).2.2);(case a6=>exact(Kd.V_reads' d4.out).2.1);rintro e w' ⟨rfl,⟨nd,rfl⟩⟩;refine⟨_,rfl, ?_⟩))
  go_loopg [4,5] k (fun kq v4 v5 w'=> ∃(c9:Int) (a8:List Int),v4= .int .i64 c9∧Aside0 (impl_OrderTimes.l0 kq l0 c9 a8=some (r1,r2))∧Aside0 (kq≤k)∧Aside0 (Kd.V (Kd.int .i64) 3 w' w.heap.size (fun k_=>(d9 k_∨w.heap.size≤k_)) (.slice A0 l0.length c0) l0)∧Aside0 (Kd.V (Kd.int .i64) 3 w' w.heap.size (fun k_=>(d9 k_∨w.heap.size≤k_)) v5 a8)∧Aside0 (Below w.heap.size w w'))
  case atStart=>exact⟨(1),(l0),Zs,H',⟨Nat.le_refl _⟩,⟨Zrv (d4.out)⟩,⟨Zrv (d4.out)⟩,⟨Zl HB⟩⟩
  case round=>
   (clear H');obtain⟨c9,a8,rfl,HA,g9,a9,a7,HB⟩:=hrel
   cases gk with
   |zero=>exact absurd HA.out (by simp[impl_OrderTimes.l0])
   |succ k1=>
    have H:=HA.out;clear HA
    simp only[impl_OrderTimes.l0]at H
    replace H:=Zb0 H;obtain⟨b8,A4,H⟩:=H;replace H:=Zb0 H;obtain⟨e6,A5,H⟩:=H
    by_cases c6:e6=true
    ·
     subst c6
     rw[if_pos rfl]at H
     obtain⟨rfl,rfl⟩:=Zs2 H;clear H
     go_wp2_with (first|((with_reducible refine gate_callee (f:=69) rfl ?_);refine Ga (some 13) Try.func69 #[.int .i64 (l0.length:Int)] (h:= ?_);(with_reducible refine(impl_identity.calls k1 (l0.length:Int) b8 _ A4.out).mono ?_);rintro e w7 ⟨e7,rfl,b9,hb⟩;refine⟨_,rfl, ?_⟩;replace a9:=Zm (Kd.V_elder' (Zva a9) (Kd.R_base b9) hb);replace a7:=Zm (Kd.V_elder' (Zva a7) (Kd.R_base b9) hb);have a4:=Zj (Kd.R_newM (M:=fun k_=>(w.heap.size≤k_)) b9 (below_size (Zl HB)) (fun k_ h_=>h_)) HB;replace HB:=Zh HB hb;obtain⟨i4,i5,i6⟩:=Kd.V_slice a7.out;subst i6;obtain⟨i7,i8,i9⟩:=Kd.R_slice a4.out;subst i9)|((with_reducible refine gate_callee (f:=68) rfl ?_);refine Ga (some 14) Try.func68 #[.slice i4 a8.length i5,.slice i7 b8.length i8] (h:= ?_);(with_reducible refine(slices_Equal_int_int.calls k1 _ _ a8 _ _ b8 true _ ?a5 ?a6 ?b6 ?b7 A5.out).mono ?_);(case a5=>exact Zca (Kd.V_reads' a7.out).2.2);(case a6=>exact(Kd.V_reads' a7.out).2.1);(case b6=>exact Zca (Kd.R_reads' a4.out).2.2);(case b7=>exact(Kd.R_reads' a4.out).2.1);rintro e w' ⟨rfl,⟨nd,rfl⟩⟩;refine⟨_,rfl, ?_⟩))
     go_ret2
     exact⟨Ze,Zl HB⟩
    ·
     replace c6:=Bool.eq_false_iff.mpr c6
     subst c6
     rw[if_neg Bool.false_ne_true]at H
     replace H:=Zb0 H;obtain⟨d5,k3,H⟩:=H;have H':=Aside0.mk H;clear H
     go_wp2_with (first|((with_reducible refine gate_callee (f:=69) rfl ?_);refine Ga (some 13) Try.func69 #[.int .i64 (l0.length:Int)] (h:= ?_);(with_reducible refine(impl_identity.calls k1 (l0.length:Int) b8 _ A4.out).mono ?_);rintro e k6 ⟨e7,rfl,b9,hb⟩;refine⟨_,rfl, ?_⟩;replace a9:=Zm (Kd.V_elder' (Zva a9) (Kd.R_base b9) hb);replace a7:=Zm (Kd.V_elder' (Zva a7) (Kd.R_base b9) hb);have a4:=Zj (Kd.R_newM (M:=fun k_=>(w.heap.size≤k_)) b9 (below_size (Zl HB)) (fun k_ h_=>h_)) HB;replace HB:=Zh HB hb;obtain⟨d6,d7,e9⟩:=Kd.V_slice a7.out;subst e9;obtain⟨f8,f9,g8⟩:=Kd.R_slice a4.out;subst g8)|((with_reducible refine gate_callee (f:=68) rfl ?_);refine Ga (some 14) Try.func68 #[.slice d6 a8.length d7,.slice f8 b8.length f9] (h:= ?_);(with_reducible refine(slices_Equal_int_int.calls k1 _ _ a8 _ _ b8 false _ ?a5 ?a6 ?b6 ?b7 A5.out).mono ?_);(case a5=>exact Zca (Kd.V_reads' a7.out).2.2);(case a6=>exact(Kd.V_reads' a7.out).2.1);(case b6=>exact Zca (Kd.R_reads' a4.out).2.2);(case b7=>exact(Kd.R_reads' a4.out).2.1);rintro e w' ⟨rfl,⟨nd,rfl⟩⟩;refine⟨_,rfl, ?_⟩)|((with_reducible refine gate_callee (f:=70) rfl ?_);refine Ga (some 20) Try.func70 #[.slice d6 a8.length d7,.slice A0 l0.length c0] (h:= ?_);(with_reducible refine(impl_then.calls k1 _ _ a8 _ _ l0 d5 _ ?a5 ?a6 ?b6 ?b7 k3.out).mono ?_);(case a5=>exact Zca (Kd.V_reads' a7.out).2.2);(case a6=>exact(Kd.V_reads' a7.out).2.1);(case b6=>exact Zca (Kd.V_reads' a9.out).2.2);(case b7=>exact(Kd.V_reads' a9.out).2.1);rintro e k8 ⟨k4,rfl,b9,hb⟩;refine⟨_,rfl, ?_⟩;replace a9:=Zm (Kd.V_elder' (Zva a9) (Kd.R_base b9) hb);replace a7:=Zm (Kd.V_elder' (Zva a7) (Kd.R_base b9) hb);have d8:=Zj (Zv (Kd.R_newM (M:=fun k_=>(w.heap.size≤k_)) b9 (below_size (Zl HB)) (fun k_ h_=>h_)) a4) HB;replace a4:=Zm (Kd.R_elder' (Zr a4) (Kd.R_base b9) hb);replace HB:=Zh HB hb))
     go_roundg k1
     case measure=>have:=g9.out;omega
     case rel=>exact⟨(wrap64 (c9+1)),(d5),Zs,H',⟨by have:=g9.out;omega⟩,⟨Zrv (Kd.V_mono a9.out (fun _ hk=>hk.1.1))⟩,⟨Kd.V_mono (Kd.R_V (Zr d8)) (fun k_ hk=>by first|exact⟨.inr hk.1,hk.2⟩|exact .inr hk|exact .inr hk.1.1)⟩,⟨Zl HB⟩⟩
 ·
  replace c3:=Bool.eq_false_iff.mpr c3
  subst c3
  rw[if_neg Bool.false_ne_true]at H
  obtain⟨rfl,rfl⟩:=Zs2 H;clear H
  go_enter Try.func47,Try.ntmps47
  go_wp2_with (first|((with_reducible refine gate_callee (f:=58) rfl ?_);refine Ga (some 7) Try.func58 #[.slice A0 l0.length c0] (h:= ?_);(with_reducible refine(impl_isOrder.calls k _ _ l0 false _ ?a5 ?a6 A2.out).mono ?_);(case a5=>exact Zca (Kd.V_reads' d4.out).2.2);(case a6=>exact(Kd.V_reads' d4.out).2.1);rintro e w' ⟨rfl,⟨nd,rfl⟩⟩;refine⟨_,rfl, ?_⟩))
  go_ret2
  exact⟨Ze,Zl HB⟩
def impl_isHome_1.f (a0:Int):Option (Bool):=some (a0 != 0)
set_option maxHeartbeats 4000000 in
set_option maxRecDepth 100000 in
theorem impl_isHome_1.calls (a0:Int) (r:Bool) (w:World) (h:impl_isHome_1.f a0=some r):
    Calls Try.prog 71 #[.int .i64 a0] w fun e w'=>e= .returned (.bool r)∧Drawn0 w w':=by
  have hr:=(Option.some.inj h).symm
  have h1:r=decide (¬a0=0):=by rw[hr];by_cases h:a0=0<;>simp[h]
  clear h hr
  subst h1
  go_enter Try.func71,Try.ntmps71
  go_wp2
  go_ret
  exact⟨by by_cases h:a0=0<;>simp[h],by repeat(first|exact Drawn0.refl _ |apply Drawn0.step)⟩
def slices_ContainsFunc_int_int.f (l0:List Int):Option (Bool):=some (l0.any fun x=>x != 0)
theorem slices_ContainsFunc_int_int.calls (A0:Option Addr) (c0:Nat) (l0:List Int) (r:Bool) (w:World) (a4:Kd.C (Kd.int .i64) w A0 l0.length l0) (a5:l0.length≤c0) (h:slices_ContainsFunc_int_int.f l0=some r):
    Calls Try.prog 63 #[.slice A0 l0.length c0,.func (.func 71) #[] #[]] w fun e w'=>e= .returned (.bool r)∧Drawn0 w w':=by
  have hr:=(Option.some.inj h).symm
  subst hr
  exact slices_ContainsFunc_int.calls 71 #[] (fun x=>x != 0) A0 c0 l0 w a4 a5 (enters_of Try.func71 (by kernel_rfl) rfl) (fun x n=>by simpa using impl_isHome_1.calls x _ _ rfl)
def impl_isHome.f (k:Nat) (a4:List Int) (a5:List Int):Option (Bool):=(impl_identity.f k (a4.length:Int)).bind fun a6=>((slices_Equal_int_int.f k a4 a6).bind fun a7=>(if a7=true then((slices_ContainsFunc_int_int.f a5).bind fun a8=>(some (!a8)))else(some false)))
def impl_isHome.T1:Bool × List (List Nat × List Nat):=(true,[([],[]),([0],[0]),([],[]),([2],[2]),([3],[3]),([4],[4]),([1,5,5],[1,5]),([6,6],[6]),([7],[7]),([8,7],[7,8]),([9,7,7],[7,9]),([10,7],[7,10]),([7,11],[7,11]),([12,10,0,1,2,3,4,5,6,7,8,9,10,11,12],[12])])
def impl_isHome.B1:List Nat:= [0,1,0,4,12,28,63,127,255,511,1023,2047,4095,8191]
theorem impl_isHome.tab1:rtab .any (opsOf Try.f48 1)=impl_isHome.T1:=by kernel_rfl
theorem impl_isHome.bits1:waitsOk impl_isHome.T1.2 impl_isHome.B1=true:=by kernel_rfl
set_option maxHeartbeats 8000000 in
set_option maxRecDepth 100000 in
theorem impl_isHome.calls (k:Nat) (a8:Option Addr) (a9:Nat) (a5:List Int) (c9:Option Addr) (d3:Nat) (a6:List Int) (r:Bool) (w:World) (d6:Kd.C (Kd.int .i64) w a8 a5.length a5) (d7:a5.length≤a9) (d8:Kd.C (Kd.int .i64) w c9 a6.length a6) (d9:a6.length≤d3) (h:impl_isHome.f k a5 a6=some r):
  Calls Try.prog 48 #[.agg #[.slice a8 a5.length a9,.slice c9 a6.length d3]] w fun e w'=>e= .returned (.bool r)∧Below w.heap.size w w':=by
 have l3:=Try.underlying26;have e6:=Aside0.mk d6;have e7:=Aside0.mk d7;clear d6 d7;have f9:=Aside0.mk d8;have g8:=Aside0.mk d9;clear d8 d9;have HB:=Zm (Below.refl w.heap.size w);have H:((impl_identity.f k (a5.length:Int)).bind fun b6=>((slices_Equal_int_int.f k a5 b6).bind fun e9=>(if e9=true then((slices_ContainsFunc_int_int.f a6).bind fun f8=>(some (!f8)))else(some false))))=some r:=h;clear h
 replace H:=Zb0 H;obtain⟨b6,A2,H⟩:=H;replace H:=Zb0 H;obtain⟨e9,A3,H⟩:=H
 by_cases c4:e9=true
 ·
  subst c4
  rw[if_pos rfl]at H
  replace H:=Zb0 H;obtain⟨f8,A5,H⟩:=H;obtain rfl:=Option.some.inj H
  go_enter Try.func48,Try.ntmps48
  try go_wp2_with (first|((with_reducible refine gate_dst (N:=1) rfl ?_);refine Zbe 1 #[.slice a8 a5.length a9,.slice c9 a6.length d3] 26 ?_;intro b7 hg w6 hbox hb;have a4:=Zm (hbox);have g9:=Zx hg HB;have i3:=Zx hg HB;replace HB:=Zh HB hb;clear hb hbox hg))
  replace a4:=Zm (blk_drew a4.out);replace HB:=Zm (below_drew1 HB.out)
  refine start_ (n:=14) (S:=fun w'=>w'.cell? ⟨b7,0,none⟩=some (.slice a8 a5.length a9)∧w'.cell? ⟨b7,1,none⟩=some (.slice c9 a6.length d3)) (ds:= []) (fl 14 0) (by kernel_rfl) rfl rfl ⟨Zc0 a4 0,Zc0 a4 1⟩ (fun hHeld=> ?_);refine with_tabW impl_isHome.tab1 impl_isHome.bits1 (fun HT_ HW_=> ?_)
  generalize w6.drew=w7 at a4 HB hHeld ⊢;refine Yu 0 3 (fl 14 1) HT_ (h:= ?_);refine Yu 2 5 (fl 14 5) HT_ (h:= ?_);refine Yt 1 4 (fl 14 7) HT_ HW_ hHeld (h:= ?_);refine Yt 3 6 (fl 14 15) HT_ HW_ hHeld (h:= ?_);refine Yu 4 7 (fl 14 31) HT_ (h:= ?_)
  refine one_ (i:=5) (N:=some 8) (fl 14 63) rfl rfl (one_of HT_.out (by kernel_rfl)) (by decide) (fun K hK=> ?_)
  refine goes_ Try.func69 (by kernel_rfl) rfl #[.int .i64 (a5.length:Int)] (by rfl) rfl rfl (by(try simp only[List.map_toArray,List.map_cons,List.map_nil]);first|done|rfl) ?_
  with_reducible refine(impl_identity.calls k (a5.length:Int) b6 _ A2.out).mono ?_
  rintro e w8 ⟨i7,rfl,i8,hb⟩
  refine⟨_,rfl, ?_⟩
  have a7:=Zj i8 HB;replace a4:=Zk a4 hb;replace HB:=Zh HB hb;obtain⟨l4,l5,k9⟩:=Kd.R_slice a7.out
  (first|subst k9|(injection k9 with i4 i9 i5;have k3:=i4.symm;have k4:=i5.symm;clear i4 i9 i5;subst k3;subst k4))
  refine hK.out _ _ ⟨Zc0 a4 0,Zc0 a4 1⟩ (fun hHeld=> ?_)
  clear hK K;refine Yn 8 (h:= ?_)
  refine one_ (i:=6) (N:=some 9) (fl 14 127) rfl rfl (one_of HT_.out (by kernel_rfl)) (by decide) (fun K hK=> ?_)
  refine goes_ Try.func68 (by kernel_rfl) rfl #[.slice a8 a5.length a9,.slice l4 b6.length l5] (by rfl) rfl rfl (by(try simp only[List.map_toArray,List.map_cons,List.map_nil]);first|done|rfl) ?_
  with_reducible refine(slices_Equal_int_int.calls k _ _ a5 _ _ b6 true _ ?b8 ?b9 ?d4 ?d5 A3.out).mono ?_
  (case b8=>exact Zca (Kd.C_below e6.out HB.out))
  (case b9=>exact e7.out)
  (case d4=>exact Zca (Kd.R_reads' a7.out).2.2)
  (case d5=>exact(Kd.R_reads' a7.out).2.1)
  rintro e w' ⟨rfl,⟨nd,rfl⟩⟩
  refine⟨_,rfl, ?_⟩
  refine hK.out _ _ ⟨Zc0 a4 0,Zc0 a4 1⟩ (fun hHeld=> ?_)
  clear hK K;refine Yn 9 (h:= ?_);refine Yu 7 10 (fl 14 255) HT_ (h:= ?_);refine Yu 8 11 (fl 14 511) HT_ (h:= ?_);refine Yt 9 12 (fl 14 1023) HT_ HW_ hHeld (h:= ?_)
  refine one_ (i:=10) (N:=some 13) (fl 14 2047) rfl rfl (one_of HT_.out (by kernel_rfl)) (by decide) (fun K hK=> ?_)
  refine goes_ Try.func63 (by kernel_rfl) rfl #[.slice c9 a6.length d3,.func (.func 71) #[] #[]] (by rfl) rfl rfl (by(try simp only[List.map_toArray,List.map_cons,List.map_nil]);first|done|rfl) ?_
  with_reducible refine(slices_ContainsFunc_int_int.calls _ _ a6 f8 _ ?b8 ?b9 A5.out).mono ?_
  (case b8=>exact Zca (Kd.C_below f9.out (Zl HB)))
  (case b9=>exact g8.out)
  rintro e w' ⟨rfl,⟨nd,rfl⟩⟩
  refine⟨_,rfl, ?_⟩
  refine hK.out _ _ ⟨Zc0 a4 0,Zc0 a4 1⟩ (fun hHeld=> ?_)
  clear hK K;refine Yn 13 (h:= ?_);refine Yu 11 14 (fl 14 4095) HT_ (h:= ?_);refine Yu 12 15 (fl 14 8191) HT_ (h:= ?_);refine Yu 13 2 (fl 14 16383) HT_ (h:= ?_)
  refine done_ (done_of HT_.out (by kernel_rfl)) ?_
  try go_wp2
  go_ret
  exact⟨Ze,Zl HB⟩
 ·
  replace c4:=Bool.eq_false_iff.mpr c4
  subst c4
  rw[if_neg Bool.false_ne_true]at H
  obtain rfl:=Option.some.inj H
  go_enter Try.func48,Try.ntmps48
  try go_wp2_with (first|((with_reducible refine gate_dst (N:=1) rfl ?_);refine Zbe 1 #[.slice a8 a5.length a9,.slice c9 a6.length d3] 26 ?_;intro b7 hg l6 hbox hb;have a4:=Zm (hbox);have g9:=Zx hg HB;have i3:=Zx hg HB;replace HB:=Zh HB hb;clear hb hbox hg))
  replace a4:=Zm (blk_drew a4.out);replace HB:=Zm (below_drew1 HB.out)
  refine start_ (n:=14) (S:=fun w'=>w'.cell? ⟨b7,0,none⟩=some (.slice a8 a5.length a9)∧w'.cell? ⟨b7,1,none⟩=some (.slice c9 a6.length d3)) (ds:= []) (fl 14 0) (by kernel_rfl) rfl rfl ⟨Zc0 a4 0,Zc0 a4 1⟩ (fun hHeld=> ?_);refine with_tabW impl_isHome.tab1 impl_isHome.bits1 (fun HT_ HW_=> ?_)
  generalize l6.drew=l7 at a4 HB hHeld ⊢;refine Yu 0 3 (fl 14 1) HT_ (h:= ?_);refine Yu 2 5 (fl 14 5) HT_ (h:= ?_);refine Yt 1 4 (fl 14 7) HT_ HW_ hHeld (h:= ?_);refine Yt 3 6 (fl 14 15) HT_ HW_ hHeld (h:= ?_);refine Yu 4 7 (fl 14 31) HT_ (h:= ?_)
  refine one_ (i:=5) (N:=some 8) (fl 14 63) rfl rfl (one_of HT_.out (by kernel_rfl)) (by decide) (fun K hK=> ?_)
  refine goes_ Try.func69 (by kernel_rfl) rfl #[.int .i64 (a5.length:Int)] (by rfl) rfl rfl (by(try simp only[List.map_toArray,List.map_cons,List.map_nil]);first|done|rfl) ?_
  with_reducible refine(impl_identity.calls k (a5.length:Int) b6 _ A2.out).mono ?_
  rintro e l8 ⟨i7,rfl,i8,hb⟩
  refine⟨_,rfl, ?_⟩
  have a7:=Zj i8 HB;replace a4:=Zk a4 hb;replace HB:=Zh HB hb;obtain⟨k6,k8,i6⟩:=Kd.R_slice a7.out
  (first|subst i6|(injection i6 with i4 i9 i5;have k3:=i4.symm;have k4:=i5.symm;clear i4 i9 i5;subst k3;subst k4))
  refine hK.out _ _ ⟨Zc0 a4 0,Zc0 a4 1⟩ (fun hHeld=> ?_)
  clear hK K;refine Yn 8 (h:= ?_)
  refine one_ (i:=6) (N:=some 9) (fl 14 127) rfl rfl (one_of HT_.out (by kernel_rfl)) (by decide) (fun K hK=> ?_)
  refine goes_ Try.func68 (by kernel_rfl) rfl #[.slice a8 a5.length a9,.slice k6 b6.length k8] (by rfl) rfl rfl (by(try simp only[List.map_toArray,List.map_cons,List.map_nil]);first|done|rfl) ?_
  with_reducible refine(slices_Equal_int_int.calls k _ _ a5 _ _ b6 false _ ?b8 ?b9 ?d4 ?d5 A3.out).mono ?_
  (case b8=>exact Zca (Kd.C_below e6.out HB.out))
  (case b9=>exact e7.out)
  (case d4=>exact Zca (Kd.R_reads' a7.out).2.2)
  (case d5=>exact(Kd.R_reads' a7.out).2.1)
  rintro e w' ⟨rfl,⟨nd,rfl⟩⟩
  refine⟨_,rfl, ?_⟩
  refine hK.out _ _ ⟨Zc0 a4 0,Zc0 a4 1⟩ (fun hHeld=> ?_)
  clear hK K;refine Yn 9 (h:= ?_);refine Yu 7 10 (fl 14 255) HT_ (h:= ?_)
  refine pure_ (i:=8) (N:=some 11) (v:=undef) (a':= ?_) (fl 14 511) rfl rfl (any_of HT_.out (by kernel_rfl)) (fun _ _ _ h=>h) (Or.inr ⟨by rfl,rfl⟩) ?_ ?_
  rotate_left
  ·
   simp only[Act.put,List.setIfInBounds_toArray,List.set_cons_zero,List.set_cons_succ,i64_w,i32_w]
   rfl
  refine pure_ (i:=9) (N:=some 12) (v:=undef) (a':= ?_) (fl 14 1023) rfl rfl (any_of HT_.out (by kernel_rfl)) (fun _ _ _ h=>h) (Or.inr ⟨by rfl,rfl⟩) ?_ ?_
  rotate_left
  ·
   simp only[Act.put,List.setIfInBounds_toArray,List.set_cons_zero,List.set_cons_succ,i64_w,i32_w]
   rfl
  refine pure_ (i:=10) (N:=some 13) (v:=undef) (a':= ?_) (fl 14 2047) rfl rfl (any_of HT_.out (by kernel_rfl)) (fun _ _ _ h=>h) (Or.inr ⟨by rfl,rfl⟩) ?_ ?_
  rotate_left
  ·
   simp only[Act.put,List.setIfInBounds_toArray,List.set_cons_zero,List.set_cons_succ,i64_w,i32_w]
   rfl
  refine pure_ (i:=11) (N:=some 14) (v:=undef) (a':= ?_) (fl 14 4095) rfl rfl (any_of HT_.out (by kernel_rfl)) (fun _ _ _ h=>h) (Or.inr ⟨by rfl,rfl⟩) ?_ ?_
  rotate_left
  ·
   simp only[Act.put,List.setIfInBounds_toArray,List.set_cons_zero,List.set_cons_succ,i64_w,i32_w]
   rfl
  refine Yu 12 15 (fl 14 8191) HT_ (h:= ?_);refine Yu 13 2 (fl 14 16383) HT_ (h:= ?_)
  refine done_ (done_of HT_.out (by kernel_rfl)) ?_
  try go_wp2
  go_ret
  exact⟨Ze,Zl HB⟩
def impl_PolePower.l0:Nat→Int→Int→Int→List Int→List Int→List Int→List Int→Option (Int × Bool)
 |0,_,_,_,_,_,_,_ =>none
 |k+1,x4,b6,b7,a4,a5,a6,a7=>if b7<b6 then((impl_thenTurned.f k a6 a7 a4 a5).bind fun a8=>(impl_PolePower.l0 k x4 b6 (wrap64 (b7+1)) a4 a5 a8.1 a8.2))else((impl_isHome.f k a6 a7).bind fun a9=>(if a9=true then(some (x4,true))else(some (0,false))))
def impl_PolePower.f (k:Nat) (a4:List Int) (a6:List Int):Option (Int × Bool):=(impl_isTurned.f k a4 a6).bind fun a7=>(if a7=true then((impl_OrderTimes.f k a4).bind fun a5=>(impl_PolePower.l0 k a5.1 (wrap64 (a5.1 - 1)) 0 a4 a6 a4 a6))else(some (0,false)))
set_option maxHeartbeats 8000000 in
set_option maxRecDepth 100000 in
theorem impl_PolePower.calls (k:Nat) (g9:Nat→Prop) (d5:Option Addr) (d6:Nat) (b8:List Int) (i3:Nat→Prop) (e7:Option Addr) (e9:Nat) (d4:List Int) (r1:Int) (r2:Bool) (w:World) (l9:Kd.V (Kd.int .i64) 3 w w.heap.size (fun k_=>g9 k_) (.slice d5 b8.length d6) b8) (m4:Kd.V (Kd.int .i64) 3 w w.heap.size (fun k_=>i3 k_) (.slice e7 d4.length e9) d4) (h:impl_PolePower.f k b8 d4=some (r1,r2)):
  Calls Try.prog 22 #[.agg #[.slice d5 b8.length d6,.slice e7 d4.length e9]] w fun e w'=>e= .returned (.tuple #[.int .i64 r1,.bool r2])∧Below w.heap.size w w':=by
 have E7:=Try.underlying26;have b9:=Zm (show Kd.V (Kd.int .i64) 3 w w.heap.size (fun k_=>((g9 k_∨i3 k_)∨w.heap.size≤k_)) (.slice d5 b8.length d6) b8 from Kd.V_mono l9 (fun k_ hk=> .inl (.inl hk)));have c9:=Zm (show Kd.V (Kd.int .i64) 3 w w.heap.size (fun k_=>((g9 k_∨i3 k_)∨w.heap.size≤k_)) (.slice e7 d4.length e9) d4 from Kd.V_mono m4 (fun k_ hk=> .inl (.inr hk)));have HB:=Zm (Below.refl w.heap.size w);have H:((impl_isTurned.f k b8 d4).bind fun l5=>(if l5=true then((impl_OrderTimes.f k b8).bind fun k9=>(impl_PolePower.l0 k k9.1 (wrap64 (k9.1 - 1)) 0 b8 d4 b8 d4))else(some (0,false))))=some (r1,r2):=h;clear h
 replace H:=Zb0 H;obtain⟨l5,A2,H⟩:=H
 by_cases c3:l5=true
 ·
  subst c3
  rw[if_pos rfl]at H
  replace H:=Zb0 H;obtain⟨⟨k8,s7⟩,A4,H⟩:=H;(try dsimp only at H);have H':=Aside0.mk H;clear H
  go_enter Try.func22,Try.ntmps22
  go_wp2_with (first|((with_reducible refine gate_dst (N:=1) rfl ?_);refine Zbe 1 #[.slice d5 b8.length d6,.slice e7 d4.length e9] 26 ?_;intro d7 hg w5 hbox hb;replace b9:=Zm (Kd.V_below (Kd.V_elderB (Zva b9) d7 (Nat.le_of_eq hg.symm)) hb);replace c9:=Zm (Kd.V_below (Kd.V_elderB (Zva c9) d7 (Nat.le_of_eq hg.symm)) hb);have a7:=Zm (hbox);have m5:=Zx hg HB;have m6:=Zx hg HB;replace HB:=Zh HB hb;clear hb hbox hg;obtain⟨s9,t0,t8,t9⟩:=Z2 a7)|((with_reducible refine gate_callee (f:=31) rfl ?_);refine Ga (some 8) Try.func31 #[.agg #[.slice d5 b8.length d6,.slice e7 d4.length e9]] (h:= ?_);(with_reducible refine(impl_isTurned.calls k _ _ b8 _ _ d4 true _ ?d8 ?f8 ?f9 ?g8 A2.out).mono ?_);(case d8=>exact Zca (Kd.V_reads' b9.out).2.2);(case f8=>exact(Kd.V_reads' b9.out).2.1);(case f9=>exact Zca (Kd.V_reads' c9.out).2.2);(case g8=>exact(Kd.V_reads' c9.out).2.1);rintro e w7 ⟨rfl,hb⟩;refine⟨_,rfl, ?_⟩;replace b9:=Zm (Kd.V_below (Zva b9) hb);replace c9:=Zm (Kd.V_below (Zva c9) hb);replace a7:=Zk a7 hb;replace HB:=Zh HB hb;obtain⟨y8,y9,z2,z3⟩:=Z2 a7)|((with_reducible refine gate_callee (f:=47) rfl ?_);refine Ga (some 13) Try.func47 #[.slice d5 b8.length d6] (h:= ?_);(with_reducible refine(impl_OrderTimes.calls k (fun k_=>(((g9 k_∨i3 k_)∨w.heap.size≤k_)∧k_≠d7)) _ _ b8 k8 s7 _ ?d8 A4.out).mono ?_);(case d8=>exact b9.out);rintro e w9 ⟨rfl,hb⟩;refine⟨_,rfl, ?_⟩;replace b9:=Zm (Kd.V_below (Zva b9) hb);replace c9:=Zm (Kd.V_below (Zva c9) hb);replace a7:=Zk a7 hb;replace HB:=Zh HB hb;obtain⟨n8,n9,o0,o1⟩:=Z2 a7)|((with_reducible refine gate_dst (N:=6) rfl ?_);refine Zbe 6 #[.slice none 0 0,.slice none 0 0] 26 ?_;intro a6 hg F2 hbox hb;replace b9:=Zm (Kd.V_below (Kd.V_elderB (Zva b9) a6 (Nat.le_of_eq hg.symm)) hb);replace c9:=Zm (Kd.V_below (Kd.V_elderB (Zva c9) a6 (Nat.le_of_eq hg.symm)) hb);have d3:=Zm (hbox);have D0:=Zx hg HB;have D1:=Zx hg HB;replace HB:=Zh HB hb;have d9:=Zq hg a7;have e6:=Zp hg a7;replace a7:=Zk a7 hb;clear hb hbox hg;have D2:=e6.out;have D3:=d9.out;obtain⟨o2,o3,o4,o5⟩:=Z2 d3))
  go_loopg [19] k (fun kq E8 w'=> ∃(i6:Int) (a9:List Int) (a8:List Int) (i4:Value) (i5:Value),E8= .int .i64 i6∧Aside0 (impl_PolePower.l0 kq k8 (wrap64 (k8 - 1)) i6 b8 d4 a9 a8=some (r1,r2))∧Aside0 (kq≤k)∧Aside0 (Kd.V (Kd.int .i64) 3 w' w.heap.size (fun k_=>((g9 k_∨i3 k_)∨w.heap.size≤k_)∧k_≠d7∧k_≠a6) (.slice d5 b8.length d6) b8)∧Aside0 (Kd.V (Kd.int .i64) 3 w' w.heap.size (fun k_=>((g9 k_∨i3 k_)∨w.heap.size≤k_)∧k_≠d7∧k_≠a6) (.slice e7 d4.length e9) d4)∧Aside0 (Kd.V (Kd.int .i64) 3 w' w.heap.size (fun k_=>((g9 k_∨i3 k_)∨w.heap.size≤k_)∧k_≠d7∧k_≠a6) i4 a9)∧Aside0 (Kd.V (Kd.int .i64) 3 w' w.heap.size (fun k_=>((g9 k_∨i3 k_)∨w.heap.size≤k_)∧k_≠d7∧k_≠a6) i5 a8)∧Aside0 (w'.heap[d7]? =some (.cells #[(.slice d5 b8.length d6),(.slice e7 d4.length e9)] 26 (0,0)))∧Aside0 (w'.heap[a6]? =some (.cells #[i4,i5] 26 (0,0)))∧Aside0 (Below w.heap.size w w'))
  case atStart=>exact⟨(0),(b8),(d4),(.slice d5 b8.length d6),(.slice e7 d4.length e9),Zs,H',⟨Nat.le_refl _⟩,⟨Zrv (Kd.V_mono (Kd.V_far (p:=⟨a6,1,none⟩) (Kd.V_far (p:=⟨a6,0,none⟩) (Kd.V_mono b9.out (fun k_ hk=>(⟨hk,hk.2⟩: _ ∧k_≠a6))) (fun _ hk=>hk.2) (.slice d5 b8.length d6)) (fun _ hk=>hk.2) (.slice e7 d4.length e9)) (fun _ hk=>⟨hk.1.1.1,⟨hk.1.1.2,hk.1.2⟩⟩))⟩,⟨Zrv (Kd.V_mono (Kd.V_far (p:=⟨a6,1,none⟩) (Kd.V_far (p:=⟨a6,0,none⟩) (Kd.V_mono c9.out (fun k_ hk=>(⟨hk,hk.2⟩: _ ∧k_≠a6))) (fun _ hk=>hk.2) (.slice d5 b8.length d6)) (fun _ hk=>hk.2) (.slice e7 d4.length e9)) (fun _ hk=>⟨hk.1.1.1,⟨hk.1.1.2,hk.1.2⟩⟩))⟩,⟨Zrv (Kd.V_mono (Kd.V_far (p:=⟨a6,1,none⟩) (Kd.V_far (p:=⟨a6,0,none⟩) (Kd.V_mono b9.out (fun k_ hk=>(⟨hk,hk.2⟩: _ ∧k_≠a6))) (fun _ hk=>hk.2) (.slice d5 b8.length d6)) (fun _ hk=>hk.2) (.slice e7 d4.length e9)) (fun _ hk=>⟨hk.1.1.1,⟨hk.1.1.2,hk.1.2⟩⟩))⟩,⟨Zrv (Kd.V_mono (Kd.V_far (p:=⟨a6,1,none⟩) (Kd.V_far (p:=⟨a6,0,none⟩) (Kd.V_mono c9.out (fun k_ hk=>(⟨hk,hk.2⟩: _ ∧k_≠a6))) (fun _ hk=>hk.2) (.slice d5 b8.length d6)) (fun _ hk=>hk.2) (.slice e7 d4.length e9)) (fun _ hk=>⟨hk.1.1.1,⟨hk.1.1.2,hk.1.2⟩⟩))⟩,⟨Zbf a7⟩,⟨by refine Zrb ?_;refine blk_put (cs:= #[.slice d5 b8.length d6,.slice none 0 0]) ?_ 1 _ rfl;refine Zrb ?_;refine blk_put (cs:= #[.slice none 0 0,.slice none 0 0]) ?_ 0 _ rfl;refine Zrb ?_;exact d3.out⟩,⟨Zl HB⟩⟩
  case round=>
   (clear H');obtain⟨i6,a9,a8,i4,i5,rfl,HA,D4,b6,b7,a4,a5,a7,d3,HB⟩:=hrel
   cases gk with
   |zero=>exact absurd HA.out (by simp[impl_PolePower.l0])
   |succ k1=>
    have H:=HA.out;clear HA
    simp only[impl_PolePower.l0]at H
    by_cases l8:i6<(wrap64 (k8 - 1))
    ·
     rw[if_pos l8]at H;have m7:=decide_eq_true l8;clear l8;replace H:=Zb0 H;obtain⟨⟨i7,i8⟩,E9,H⟩:=H;(try dsimp only at H);have H':=Aside0.mk H;clear H;have D5:=e6.out;have D6:=d9.out;obtain⟨o6,o7,o8,o9⟩:=Z2 d3;obtain⟨p3,p4,p5,p6⟩:=Z2 a7;obtain⟨m8,m9,z4⟩:=Kd.V_slice a4.out;subst z4;obtain⟨l6,l7,z5⟩:=Kd.V_slice a5.out;subst z5
     go_wp2_with (first|((with_reducible refine gate_callee (f:=35) rfl ?_);refine Ga (some 23) Try.func35 #[.agg #[.slice m8 a9.length m9,.slice l6 a8.length l7],.agg #[.slice d5 b8.length d6,.slice e7 d4.length e9]] (h:= ?_);(with_reducible refine(impl_thenTurned.calls k1 _ _ a9 _ _ a8 _ _ b8 _ _ d4 i7 i8 _ ?d8 ?f8 ?f9 ?g8 ?n0 ?n3 ?n4 ?n5 E9.out).mono ?_);(case d8=>exact Zca (Kd.V_reads' a4.out).2.2);(case f8=>exact(Kd.V_reads' a4.out).2.1);(case f9=>exact Zca (Kd.V_reads' a5.out).2.2);(case g8=>exact(Kd.V_reads' a5.out).2.1);(case n0=>exact Zca (Kd.V_reads' b6.out).2.2);(case n3=>exact(Kd.V_reads' b6.out).2.1);(case n4=>exact Zca (Kd.V_reads' b7.out).2.2);(case n5=>exact(Kd.V_reads' b7.out).2.1);rintro e F3 ⟨F0,F1,rfl,n6,n7,hb⟩;refine⟨_,rfl, ?_⟩;replace b6:=Zm (Kd.V_mono (Kd.V_told (Kd.V_told (Kd.V_old (Zva b6) hb) (Kd.R_base n6)) (Kd.R_base n7)) (fun _ h_=>h_.1));replace b7:=Zm (Kd.V_mono (Kd.V_told (Kd.V_told (Kd.V_old (Zva b7) hb) (Kd.R_base n6)) (Kd.R_base n7)) (fun _ h_=>h_.1));replace a4:=Zm (Kd.V_mono (Kd.V_told (Kd.V_told (Kd.V_old (Zva a4) hb) (Kd.R_base n6)) (Kd.R_base n7)) (fun _ h_=>h_.1));replace a5:=Zm (Kd.V_mono (Kd.V_told (Kd.V_told (Kd.V_old (Zva a5) hb) (Kd.R_base n6)) (Kd.R_base n7)) (fun _ h_=>h_.1));have l3:=Zj (Kd.R_newM (M:=fun k_=>(w.heap.size≤k_)) n6 (below_size (Zl HB)) (fun k_ h_=>h_)) HB;have l4:=Zj (Kd.R_newM (M:=fun k_=>(w.heap.size≤k_)) n7 (below_size (Zl HB)) (fun k_ h_=>h_)) HB;replace a7:=Zk a7 hb;replace d3:=Zk d3 hb;replace HB:=Zh HB hb;obtain⟨i9,k3,z6⟩:=Kd.R_slice l3.out;subst z6;obtain⟨p7,p8,p9,q3⟩:=Z2 d3;obtain⟨k4,k6,z7⟩:=Kd.R_slice l4.out;subst z7))
     go_roundg k1
     case measure=>have:=D4.out;omega
     case rel=>exact⟨(wrap64 (i6+1)),(i7),(i8),(.slice i9 i7.length k3),(.slice k4 i8.length k6),Zs,H',⟨by have:=D4.out;omega⟩,⟨Zrv (Kd.V_mono (Kd.V_far (p:=⟨a6,1,none⟩) (Kd.V_far (p:=⟨a6,0,none⟩) (Kd.V_mono b6.out (fun k_ hk=>(⟨hk,hk.1.1.2.2⟩: _ ∧k_≠a6))) (fun _ hk=>hk.2) (.slice i9 i7.length k3)) (fun _ hk=>hk.2) (.slice k4 i8.length k6)) (fun _ hk=>⟨hk.1.1.1.1,⟨hk.1.1.1.2.1,hk.1.1.1.2.2⟩⟩))⟩,⟨Zrv (Kd.V_mono (Kd.V_far (p:=⟨a6,1,none⟩) (Kd.V_far (p:=⟨a6,0,none⟩) (Kd.V_mono b7.out (fun k_ hk=>(⟨hk,hk.1.1.2.2⟩: _ ∧k_≠a6))) (fun _ hk=>hk.2) (.slice i9 i7.length k3)) (fun _ hk=>hk.2) (.slice k4 i8.length k6)) (fun _ hk=>⟨hk.1.1.1.1,⟨hk.1.1.1.2.1,hk.1.1.1.2.2⟩⟩))⟩,⟨Kd.V_mono (Kd.R_V (Zr ⟨(Kd.R_far (p:=⟨a6,1,none⟩) (Kd.R_far (p:=⟨a6,0,none⟩) (Kd.R_types (Kd.R_types (Kd.R_types l3.out a7.out (by decide)) d3.out (by decide)) d3.out (by decide)) (fun _ hk=>hk.2) (.slice i9 i7.length k3)) (fun _ hk=>hk.2) (.slice k4 i8.length k6))⟩)) (fun k_ hk=>by first|exact⟨.inr (hk.1.1.1.1),⟨hk.1.1.2,hk.1.2⟩⟩|exact .inr ⟨hk.1.1.1.1,⟨hk.1.1.2,hk.1.2⟩⟩)⟩,⟨Kd.V_mono (Kd.R_V (Zr ⟨(Kd.R_far (p:=⟨a6,1,none⟩) (Kd.R_far (p:=⟨a6,0,none⟩) (Kd.R_types (Kd.R_types (Kd.R_types l4.out a7.out (by decide)) d3.out (by decide)) d3.out (by decide)) (fun _ hk=>hk.2) (.slice i9 i7.length k3)) (fun _ hk=>hk.2) (.slice k4 i8.length k6))⟩)) (fun k_ hk=>by first|exact⟨.inr (hk.1.1.1.1),⟨hk.1.1.2,hk.1.2⟩⟩|exact .inr ⟨hk.1.1.1.1,⟨hk.1.1.2,hk.1.2⟩⟩)⟩,⟨Zbf a7⟩,⟨by refine Zrb ?_;refine blk_put (cs:= #[.slice i9 i7.length k3,.slice l6 a8.length l7]) ?_ 1 _ rfl;refine Zrb ?_;refine blk_put (cs:= #[.slice m8 a9.length m9,.slice l6 a8.length l7]) ?_ 0 _ rfl;refine Zrb ?_;exact d3.out⟩,⟨Zl HB⟩⟩
    ·
     rw[if_neg l8]at H;have m7:=decide_eq_false l8;clear l8;replace H:=Zb0 H;obtain⟨z8,D7,H⟩:=H
     by_cases c26:z8=true
     ·
      subst c26
      rw[if_pos rfl]at H
      obtain⟨rfl,rfl⟩:=Zs2 H;clear H
      have D8:=e6.out;have D9:=d9.out;obtain⟨q4,q5,q6,q7⟩:=Z2 d3
      obtain⟨z9,B0,C0⟩:=Kd.V_slice a4.out;subst C0;obtain⟨C1,C2,C3⟩:=Kd.V_slice a5.out;subst C3
      go_wp2_with (first|((with_reducible refine gate_callee (f:=48) rfl ?_);refine Ga (some 26) Try.func48 #[.agg #[.slice z9 a9.length B0,.slice C1 a8.length C2]] (h:= ?_);(with_reducible refine(impl_isHome.calls k1 _ _ a9 _ _ a8 true _ ?d8 ?f8 ?f9 ?g8 D7.out).mono ?_);(case d8=>exact Zca (Kd.V_reads' a4.out).2.2);(case f8=>exact(Kd.V_reads' a4.out).2.1);(case f9=>exact Zca (Kd.V_reads' a5.out).2.2);(case g8=>exact(Kd.V_reads' a5.out).2.1);rintro e F4 ⟨rfl,hb⟩;refine⟨_,rfl, ?_⟩;replace b6:=Zm (Kd.V_below (Zva b6) hb);replace b7:=Zm (Kd.V_below (Zva b7) hb);replace a4:=Zm (Kd.V_below (Zva a4) hb);replace a5:=Zm (Kd.V_below (Zva a5) hb);replace a7:=Zk a7 hb;replace d3:=Zk d3 hb;replace HB:=Zh HB hb))
      go_ret2
      exact⟨Ze,Zl HB⟩
     ·
      replace c26:=Bool.eq_false_iff.mpr c26
      subst c26
      rw[if_neg Bool.false_ne_true]at H
      obtain⟨rfl,rfl⟩:=Zs2 H;clear H
      have E0:=e6.out;have E6:=d9.out;obtain⟨q8,q9,r5,r6⟩:=Z2 d3
      obtain⟨C4,C5,C6⟩:=Kd.V_slice a4.out;subst C6;obtain⟨C7,C8,C9⟩:=Kd.V_slice a5.out;subst C9
      go_wp2_with (first|((with_reducible refine gate_callee (f:=48) rfl ?_);refine Ga (some 26) Try.func48 #[.agg #[.slice C4 a9.length C5,.slice C7 a8.length C8]] (h:= ?_);(with_reducible refine(impl_isHome.calls k1 _ _ a9 _ _ a8 false _ ?d8 ?f8 ?f9 ?g8 D7.out).mono ?_);(case d8=>exact Zca (Kd.V_reads' a4.out).2.2);(case f8=>exact(Kd.V_reads' a4.out).2.1);(case f9=>exact Zca (Kd.V_reads' a5.out).2.2);(case g8=>exact(Kd.V_reads' a5.out).2.1);rintro e F5 ⟨rfl,hb⟩;refine⟨_,rfl, ?_⟩;replace b6:=Zm (Kd.V_below (Zva b6) hb);replace b7:=Zm (Kd.V_below (Zva b7) hb);replace a4:=Zm (Kd.V_below (Zva a4) hb);replace a5:=Zm (Kd.V_below (Zva a5) hb);replace a7:=Zk a7 hb;replace d3:=Zk d3 hb;replace HB:=Zh HB hb))
      go_ret2
      exact⟨Ze,Zl HB⟩
 ·
  replace c3:=Bool.eq_false_iff.mpr c3
  subst c3
  rw[if_neg Bool.false_ne_true]at H
  obtain⟨rfl,rfl⟩:=Zs2 H;clear H
  go_enter Try.func22,Try.ntmps22
  go_wp2_with (first|((with_reducible refine gate_dst (N:=1) rfl ?_);refine Zbe 1 #[.slice d5 b8.length d6,.slice e7 d4.length e9] 26 ?_;intro d7 hg F6 hbox hb;replace b9:=Zm (Kd.V_below (Kd.V_elderB (Zva b9) d7 (Nat.le_of_eq hg.symm)) hb);replace c9:=Zm (Kd.V_below (Kd.V_elderB (Zva c9) d7 (Nat.le_of_eq hg.symm)) hb);have a7:=Zm (hbox);have m5:=Zx hg HB;have m6:=Zx hg HB;replace HB:=Zh HB hb;clear hb hbox hg;obtain⟨r7,r8,r9,s6⟩:=Z2 a7)|((with_reducible refine gate_callee (f:=31) rfl ?_);refine Ga (some 8) Try.func31 #[.agg #[.slice d5 b8.length d6,.slice e7 d4.length e9]] (h:= ?_);(with_reducible refine(impl_isTurned.calls k _ _ b8 _ _ d4 false _ ?d8 ?f8 ?f9 ?g8 A2.out).mono ?_);(case d8=>exact Zca (Kd.V_reads' b9.out).2.2);(case f8=>exact(Kd.V_reads' b9.out).2.1);(case f9=>exact Zca (Kd.V_reads' c9.out).2.2);(case g8=>exact(Kd.V_reads' c9.out).2.1);rintro e F7 ⟨rfl,hb⟩;refine⟨_,rfl, ?_⟩;replace b9:=Zm (Kd.V_below (Zva b9) hb);replace c9:=Zm (Kd.V_below (Zva c9) hb);replace a7:=Zk a7 hb;replace HB:=Zh HB hb))
  go_ret2
  exact⟨Ze,Zl HB⟩
mutual
def spec_laCycles.l0:Nat→List Int→List (List Int)→List Bool→Int→Int→Option ((List (List Int)))
 |0,_,_,_,_,_ =>none
 |k+1,x0,x3,x4,a5,a4=>if a4<a5 then(spec_laCycles.l1 k x0 x3 x4 ([]:List Int) a4 a5 a4)else(some x3)
def spec_laCycles.l1:Nat→List Int→List (List Int)→List Bool→List Int→Int→Int→Int→Option ((List (List Int)))
 |0,_,_,_,_,_,_,_ =>none
 |k+1,x0,x3,x4,x6,x7,a5,a4=>if 0≤x7 then(if x7<(x4.length:Int)then(if rdOf false x4 x7=true then(if(x6.length:Int)>0 then(if x3.length<5864062014805 then(spec_laCycles.l0 k x0 (x3++ [x6]) x4 a5 (wrap64 (a4+1)))else(none))else(spec_laCycles.l0 k x0 x3 x4 a5 (wrap64 (a4+1))))else(if x6.length<17592186044416 then(if x7<(x0.length:Int)then(spec_laCycles.l1 k x0 x3 (x4.set (x7:Int).toNat true) (x6++ [x7]) (rd x0 x7) a5 a4)else(none))else(none)))else(none))else(none)
end
def spec_laCycles.f (k:Nat) (l0:List Int):Option ((List (List Int))):=if 0≤(l0.length:Int)then(if((l0.length:Int):Int).toNat≤281474976710656 then(spec_laCycles.l0 k l0 ([]:List (List Int)) (List.replicate ((l0.length:Int):Int).toNat false) (l0.length:Int) 0)else(none))else(none)
theorem spec_laCycles.mono_l: ∀k,(∀y0 y1 y2 y3 y4,LeO (spec_laCycles.l0 k y0 y1 y2 y3 y4) (spec_laCycles.l0 (k+1) y0 y1 y2 y3 y4))∧(∀y0 y1 y2 y3 y4 y5 y6,LeO (spec_laCycles.l1 k y0 y1 y2 y3 y4 y5 y6) (spec_laCycles.l1 (k+1) y0 y1 y2 y3 y4 y5 y6))
 |0=>⟨fun _ _ _ _ _ r h=>by simp[spec_laCycles.l0]at h,fun _ _ _ _ _ _ _ r h=>by simp[spec_laCycles.l1]at h⟩
 |k+1=>by
  obtain⟨a4,a5⟩:=spec_laCycles.mono_l k
  refine⟨?_, ?_⟩<;>intros<;>(first|unfold spec_laCycles.l0|unfold spec_laCycles.l1)<;>repeat' (with_reducible first|exact a4 _ _ _ _ _ |exact a5 _ _ _ _ _ _ _ |exact LeO.refl _ |exact LeO.none _ |refine LeO.ite ?_ ?_ |refine LeO.bind ?_ (fun _ => ?_))
theorem spec_laCycles.mono: ∀a0 k,LeO (spec_laCycles.f k a0) (spec_laCycles.f (k+1) a0):=by
 intro a0 k
 obtain⟨a4,a5⟩:=spec_laCycles.mono_l k
 unfold spec_laCycles.f
 repeat' (with_reducible first|exact a4 _ _ _ _ _ |exact a5 _ _ _ _ _ _ _ |exact LeO.refl _ |exact LeO.none _ |refine LeO.ite ?_ ?_ |refine LeO.bind ?_ (fun _ => ?_))
set_option maxHeartbeats 8000000 in
set_option maxRecDepth 100000 in
theorem spec_laCycles.calls (k:Nat) (A0:Option Addr) (c0:Nat) (l0:List Int) (r:List (List Int)) (w:World) (o9:Kd.C (Kd.int .i64) w A0 l0.length l0) (p3:l0.length≤c0) (h:spec_laCycles.f k l0=some r):
  Calls Try.prog 49 #[.slice A0 l0.length c0] w fun e w'=> ∃p4:Value,e= .returned (p4)∧Kd.S (Kd.slice 3 (Kd.int .i64)) 24 w' w.heap.size (fun _ =>True) p4 r∧Below w.heap.size w w':=by
 have q3:=Aside0.mk o9;have z2:=Aside0.mk p3;clear o9 p3;have HB:=Zm (Below.refl w.heap.size w);have H:(if 0≤(l0.length:Int)then(if((l0.length:Int):Int).toNat≤281474976710656 then(spec_laCycles.l0 k l0 ([]:List (List Int)) (List.replicate ((l0.length:Int):Int).toNat false) (l0.length:Int) 0)else(none))else(none))=some r:=h;clear h
 by_cases c2:0≤(l0.length:Int)
 ·
  rw[if_pos c2]at H;have q4:=eq_true c2;have q5:decide (0≤(l0.length:Int))=true:=decide_eq_true c2;clear c2
  replace H:=Zif H;obtain⟨c3,H⟩:=H;have q6:=eq_true c3;have q7:decide (((l0.length:Int):Int).toNat≤281474976710656)=true:=decide_eq_true c3;clear c3;generalize d8:((List.replicate ((l0.length:Int):Int).toNat false):List Bool)=m9 at H;have d9:=Aside0.mk d8.symm;clear d8;have H':=Aside0.mk H;clear H
  go_enter Try.func49,Try.ntmps49
  go_wp2_with (first|((with_reducible refine gate_dst (N:=10) rfl ?_);refine Kd.R_make Kd.bool _ 4 rfl (N:=10) rfl 81 _ _ rfl (l0.length:Int) rfl rfl Try.underlying81 (.bool false) 1 info4 rfl (by decide) (by omega) false (ok:=fun _ =>True) (okp:=fun _ =>True) rfl (fun _ hk=>hk) trivial (of_decide_eq_true (by first|(with_reducible assumption)|assumption)) (Nat.le_trans (Nat.mul_le_mul_right _ (of_decide_eq_true (by first|(with_reducible assumption)|assumption):(l0.length:Int).toNat≤281474976710656)) (by omega)) (Below.refl _ _) (Nat.le_refl _) ?_;intro i8 w4 i9 hb hg_ hnew_;clear hg_ hnew_;(first|rw[←d9.out]at i9|(simp only[Int.reduceToNat]at i9;rw[←d9.out]at i9));have k3:=Zj i9 HB;replace HB:=Zh HB hb;clear hb i9))
  go_loopg [3,13] k (fun kq v3 q8 w'=> ∃(b7:List (List Int)) (d7:List Bool) (a6:Int),q8= .int .i64 a6∧Aside0 (spec_laCycles.l0 kq l0 b7 d7 (l0.length:Int) a6=some r)∧Aside0 (kq≤k)∧Aside0 (Kd.S (Kd.slice 3 (Kd.int .i64)) 24 w' w.heap.size (fun _ =>True) v3 b7)∧Aside0 (Kd.R Kd.bool 4 w' w.heap.size (fun _ =>True) i8 d7)∧Aside0 (Below w.heap.size w w'))
  case atStart=>exact⟨(([]:List (List Int))),(m9),(0),Zs,H',⟨Nat.le_refl _⟩,⟨by first|exact Kd.S_nil _ _ _ _ _ |exact Kd.N_nil _ _ _ _ _ |exact Kd.V_nil _ _ _ _ _ |exact Kd.Q_nil _ _ _ _ _ |exact Kd.R_nil _ _ _ _ _⟩,⟨Zr k3⟩,⟨Zl HB⟩⟩
  case round=>
   (clear H');obtain⟨b7,d7,a6,rfl,HA,i5,b6,a5,HB⟩:=hrel
   cases gk with
   |zero=>exact absurd HA.out (by simp[spec_laCycles.l0])
   |succ k1=>
    have H:=HA.out;clear HA
    simp only[spec_laCycles.l0]at H
    by_cases c6:a6<(l0.length:Int)
    ·
     rw[if_pos c6]at H;have n0:=decide_eq_true c6;clear c6;have H':=Aside0.mk H;clear H
     go_wp2
     go_loopg [6,7] k1 (fun kq v6 v7 w'=> ∃(a7:List Bool) (a8:List Int) (a4:Int),v7= .int .i64 a4∧Aside0 (spec_laCycles.l1 kq l0 b7 a7 a8 a4 (l0.length:Int) a6=some r)∧Aside0 (kq≤k1)∧Aside0 (Kd.S (Kd.slice 3 (Kd.int .i64)) 24 w' w.heap.size (fun k_=>Zn k_ v6) u3 b7)∧Aside0 (Kd.R Kd.bool 4 w' w.heap.size (fun _ =>True) i8 a7)∧Aside0 (Kd.R (Kd.int .i64) 3 w' w.heap.size (fun _ =>True) v6 a8)∧Aside0 (Below w.heap.size w w'))
     case atStart=>exact⟨(d7),(([]:List Int)),(a6),Zs,H',⟨Nat.le_refl _⟩,⟨Zrs (Kd.S_mono b6.out (fun _ hk=>(by simp[Value.ownBlock])))⟩,⟨Zr a5⟩,⟨Znl⟩,⟨Zl HB⟩⟩
     case round=>
      (clear H');obtain⟨a7,a8,a4,rfl,HA,i6,b6,a5,c9,HB⟩:=hrel
      cases gk with
      |zero=>exact absurd HA.out (by simp[spec_laCycles.l1])
      |succ k2=>
       have H:=HA.out;clear HA
       simp only[spec_laCycles.l1]at H
       replace H:=Zit H;obtain⟨q9,H⟩:=H
       replace H:=Zit H;obtain⟨r5,H⟩:=H;obtain⟨p5,f8⟩: ∃b_:Bool,b_=(rdOf false a7 a4):=⟨_,rfl⟩;(replace H:(if p5=true then(if(a8.length:Int)>0 then(if b7.length<5864062014805 then(spec_laCycles.l0 k2 l0 (b7++ [a8]) a7 (l0.length:Int) (wrap64 (a6+1)))else(none))else(spec_laCycles.l0 k2 l0 b7 a7 (l0.length:Int) (wrap64 (a6+1))))else(if a8.length<17592186044416 then(if a4<(l0.length:Int)then(spec_laCycles.l1 k2 l0 b7 (a7.set (a4:Int).toNat true) (a8++ [a4]) (rd l0 a4) (l0.length:Int) a6)else(none))else(none)))=some r:=by rw[←f8]at H;exact H)
       have f9:=Aside0.mk f8;clear f8
       by_cases c10:p5=true
       ·
        subst c10
        rw[if_pos rfl]at H
        by_cases i7:(a8.length:Int)>0
        ·
         rw[if_pos i7]at H;have k4:decide (0<(a8.length:Int))=true:=decide_eq_true i7;have k6:decide (0<a8.length)=true:=decide_eq_true (by omega);clear i7
         replace H:=Zif H;obtain⟨p6,H⟩:=H
         have k8:=Aside0.mk p6;clear p6
         obtain⟨k9,d4⟩: ∃y_:List (List Int),y_=(b7++ [a8]):=⟨_,rfl⟩;(replace H:(spec_laCycles.l0 k2 l0 k9 a7 (l0.length:Int) (wrap64 (a6+1)))=some r:=by first|(rw[d4];with_reducible exact H)|(have n3:=(Option.bind_some _ _).symm.trans H;rw[d4];with_reducible exact n3)|(have n3:=(Option.bind_some _ _).symm.trans H;with_reducible exact n3)|with_reducible exact H|(rw[d4];exact H)|exact H)
         have l3:=Aside0.mk d4;clear d4;have H':=Aside0.mk H;clear H
         obtain⟨r6,r7,n4⟩:=Kd.R_slice a5.out;subst n4
         have b8:0≤(a4:Int):=Zoa;have b9:a4<(a7.length:Int):=Zoa
         obtain⟨e6,d5,a9⟩:=Kd.at_bool (Kd.R_reads' a5.out).2.2 a4 b8 b9
         (try rw[←f9.out]at a9)
         cases d5
         replace b8:=eq_true b8
         replace b9:=eq_true b9
         obtain⟨l4,l5,n5⟩:=Kd.R_slice c9.out;subst n5
         go_wp2_with (first|((with_reducible refine gate_builtin (b:= .append) (xs:= #[.tmp 36,.tmp 38]) rfl ?_);at_builtin;refine Kd.S_append (Kd.slice 3 (Kd.int .i64)) (w0:=w) w.heap.size rfl (.tmp 36) (.tmp 38) 67 24 (.slice none 0 0) 24 rfl Try.underlying67 info24 rfl (by decide) (by omega) u3 b7 a8 [.slice l4 a8.length l5] (fun _ =>True) (fun k_=>some k_=(.slice l4 a8.length l5:Value).ownBlock) rfl rfl ?aP (fun k_ hk_=>((Kd.R_mono (ok':=fun k_=>((fun _ =>True)) k_∧Zn k_ u3) (Kd.R_apart' (c9.out) (Kd.S_typed b6.out) (by decide)) (fun k_ hk=>⟨trivial,hk.2⟩))).1 k_ hk_.symm) ?aF ?aO ?aB ?aS ?aL ?_;(case aP=>exact Kd.M_row (Kd.R_mono (Kd.R_tight rfl (Kd.R_mono (ok':=fun k_=>((fun _ =>True)) k_∧Zn k_ u3) (Kd.R_apart' (c9.out) (Kd.S_typed b6.out) (by decide)) (fun k_ hk=>⟨trivial,hk.2⟩))) (fun _ h_=>h_)));(case aB=>exact(Zl HB));(case aF=>exact(fun _ _ =>trivial));(case aO=>exact(Zrs (Kd.S_mono b6.out (fun k_ hk=>⟨trivial,fun e_=>hk e_⟩))));(case aS=>exact(below_size (Zl HB)));(case aL=>have:=k8.out;omega);intro r8 z3 ho hb hg hat;rw[←l3.out]at ho;replace a5:=Zm (Kd.R_over' (Zr a5) (Kd.S_typed (Zrs (b6.out))) (by decide) hg);replace HB:=Zm (hb);have l6:=Zm (ho);clear b6 c9 ho hb hg hat))
         go_roundg k2
         case measure=>have:=i5.out;have:=i6.out;omega
         case rel=>exact⟨(k9),(a7),(wrap64 (a6+1)),Zs,H',⟨by have:=i5.out;have:=i6.out;omega⟩,⟨Zrs (l6.out)⟩,⟨Zr a5⟩,⟨Zl HB⟩⟩
        ·
         rw[if_neg i7]at H;have k4:decide (0<(a8.length:Int))=false:=decide_eq_false i7;have k6:decide (0<a8.length)=false:=decide_eq_false (by omega);clear i7;have H':=Aside0.mk H;clear H;obtain⟨r9,s6,n6⟩:=Kd.R_slice a5.out;subst n6
         have b8:0≤(a4:Int):=Zoa;have b9:a4<(a7.length:Int):=Zoa
         obtain⟨e6,d5,a9⟩:=Kd.at_bool (Kd.R_reads' a5.out).2.2 a4 b8 b9
         (try rw[←f9.out]at a9)
         cases d5
         replace b8:=eq_true b8
         replace b9:=eq_true b9
         obtain⟨s7,s9,n7⟩:=Kd.R_slice c9.out;subst n7
         go_wp2
         go_roundg k2
         case measure=>have:=i5.out;have:=i6.out;omega
         case rel=>exact⟨(b7),(a7),(wrap64 (a6+1)),Zs,H',⟨by have:=i5.out;have:=i6.out;omega⟩,⟨Zrs (Kd.S_mono b6.out (fun _ hk=>trivial))⟩,⟨Zr a5⟩,⟨Zl HB⟩⟩
       ·
        replace c10:=Bool.eq_false_iff.mpr c10
        subst c10
        rw[if_neg Bool.false_ne_true]at H
        generalize e7:(a7.set (a4:Int).toNat true)=l7 at H;have l8:=Aside0.mk e7.symm;clear e7
        replace H:=Zif H;obtain⟨p7,H⟩:=H
        have l9:=Aside0.mk p7;clear p7
        generalize e9:((a8++ [a4]):List Int)=n8 at H;have m4:=Aside0.mk e9.symm;clear e9
        replace H:=Zit H;obtain⟨p8,H⟩:=H;have H':=Aside0.mk H;clear H;obtain⟨t0,g8,n9⟩:=Kd.R_slice a5.out;subst n9
        have b8:0≤(a4:Int):=Zoa;have b9:a4<(a7.length:Int):=Zoa
        obtain⟨e6,d5,a9⟩:=Kd.at_bool (Kd.R_reads' a5.out).2.2 a4 b8 b9
        (try rw[←f9.out]at a9)
        cases d5
        replace b8:=eq_true b8
        replace b9:=eq_true b9
        have o0:0≤(a4:Int):=Zoa;have o1:(a4:Int)<((a7.length:Int):Int):=Zoa
        obtain⟨d6,t8,m5,m6,o2,t9,m7⟩:=Kd.R_form a5.out (by omega)
        (first|cases m5|(injection m5 with ea_ en_ ec_;(first|subst ea_|(injection ea_ with ea_;subst ea_));subst ec_;clear en_))
        have o3:=Aside0.mk m6;have y8:=Aside0.mk m7;clear m6 o2 m7
        (first|simp only[add_plain]at a9|skip)
        obtain⟨o4,o5⟩:=Kd.R_celln false a5.out (a4:Int) o0 o1
        replace o0:=eq_true o0
        replace o1:=eq_true o1
        have g9:=Kd.R_putg a5.out (a4:Int) true
        go_wp2_with (first|((with_reducible refine gate_store (t:=4) (p:=28) rfl ?_);refine store_event (t:=4) (p:=28) (v:= ?o6) (w1:=(wr.setCell ⟨d6,(a4:Int).toNat,none⟩ (.bool true))) ?hg ?ho ?hn ?hr ?_;(case ho=>rfl);(case hg=>rfl);(case hn=>rfl);(case hr=>first|(go_simp;done)|(go_simp;rfl));intro o7 hw;have hg:wr.grownBy o7 (some d6):=(by rw[hw];exact g9.2);have hp_:Kd.R Kd.bool 4 o7 w.heap.size (fun _ =>True) (.slice (some ⟨d6,0,none⟩) a7.length g8) l7:=(by rw[hw,l8.out];exact g9.1);clear g9;replace b6:=Zm (Kd.S_over' (v:=(.slice (some ⟨d6,0,none⟩) a7.length g8)) (Zrs (b6.out)) (Kd.R_typed a5.out) (by decide) hg);replace c9:=Zm (Kd.R_over' (v:=(.slice (some ⟨d6,0,none⟩) a7.length g8)) (Zr c9) (Kd.R_typed a5.out) (by decide) hg);replace a5:=Zm (hp_);replace HB:=Zm ((by rw[hw];exact below_set (HB.out) o3.out:Below w.heap.size w o7));clear hg hw hp_)|((with_reducible refine gate_builtin (b:= .append) (xs:= #[.tmp 29,.tmp 31]) rfl ?_);at_builtin;refine Kd.R_append (Kd.int .i64) (w0:=w) w.heap.size rfl (.tmp 29) (.tmp 31) 24 3 (.int .i64 0) 8 rfl Try.underlying24 info3 rfl (by decide) (by omega) u6 a8 a4 [.int .i64 a4] (fun _ =>True) (fun _ =>False) rfl rfl ?aP (fun _ hk=>hk.elim) ?aF ?aO ?aB ?aS ?aL ?_;(case aP=>exact rfl);(case aB=>exact(Zl HB));(case aF=>exact(fun _ _ =>trivial));(case aO=>exact(Zr c9));(case aS=>exact(below_size (Zl HB)));(case aL=>have:=l9.out;omega);intro y9 z4 ho hb hg hat;rw[←m4.out]at ho;replace b6:=Zm (Kd.S_after (ok:=(fun _ =>True)) (Zrs (Kd.S_mono b6.out (fun _ hk=>⟨trivial,hk⟩))) hg hat);replace a5:=Zm (Kd.R_over' (Zr a5) (Kd.R_typed (Zr c9)) (by decide) hg);replace HB:=Zm (hb);have m8:=Zm (ho);clear c9 ho hb hg hat;have i3:0≤(a4:Int):=Zoa;have i4:a4<(l0.length:Int):=Zoa;obtain⟨p9,o8,d3⟩:=Kd.at_int q3.out a4 i3 i4;cases o8;replace d3:=(HB.out.cell (World.block_lt_of_cell? w _ d3)).trans d3;replace i3:=eq_true i3;replace i4:=eq_true i4))
        go_roundg k2
        case measure=>have:=i5.out;have:=i6.out;omega
        case rel=>exact⟨(l7),(n8),(rd l0 a4),Zs,H',⟨by have:=i5.out;have:=i6.out;omega⟩,⟨Zrs (Kd.S_mono b6.out (fun _ hk=>hk.2))⟩,⟨Zr a5⟩,⟨Zr m8⟩,⟨Zl HB⟩⟩
    ·
     rw[if_neg c6]at H;have n0:=decide_eq_false c6;clear c6;obtain rfl:=Option.some.inj H
     go_wp2
     go_ret
     exact⟨_,Ze,Zrs (b6.out),Zl HB⟩
 ·
  rw[if_neg c2]at H
  exact absurd H (by simp)
def spec_laCommon.l0:Nat→Int→Int→Option (Int)
 |0,_,_ =>none
 |k+1,x0,x1=>if x1>0 then(if x1=0 then(none)else(spec_laCommon.l0 k x1 (Int.tmod x0 x1)))else(some x0)
def spec_laCommon.f (k:Nat) (a0:Int) (a1:Int):Option (Int):=spec_laCommon.l0 k a0 a1
set_option maxHeartbeats 8000000 in
set_option maxRecDepth 100000 in
theorem spec_laCommon.calls (k:Nat) (a0:Int) (a1:Int) (r:Int) (w:World) (h:spec_laCommon.f k a0 a1=some r):
  Calls Try.prog 50 #[.int .i64 a0,.int .i64 a1] w fun e w'=>e= .returned (.int .i64 r)∧Drawn0 w w':=by
 have H:(spec_laCommon.l0 k a0 a1)=some r:=h
 clear h
 have H':=Aside0.mk H
 clear H
 go_enter Try.func50,Try.ntmps50
 go_wp2
 repeat(go_quiet (fail);try go_wp2)
 go_loopg [0,1] k (fun kq v0 v1 w'=> ∃(a5:Int) (a4:Int),v0= .int .i64 a5∧v1= .int .i64 a4∧Aside0 (spec_laCommon.l0 kq a5 a4=some r)∧Aside0 (kq≤k)∧Drawn0 w w')
 case atStart=>exact⟨(a0),(a1),(by first|rfl|(simp;done)|(simp[*];done)),(by first|rfl|(simp;done)|(simp[*];done)),H',⟨Nat.le_refl _⟩,by repeat(first|exact Drawn0.refl _ |apply Drawn0.step)⟩
 case round=>
  clear H'
  try clear p2
  obtain⟨a5,a4,rfl,rfl,HA,a7,⟨m1,rfl⟩⟩:=hrel
  cases gk with
  |zero=>exact absurd HA.out (by simp[spec_laCommon.l0])
  |succ k1=>
   have H:=HA.out
   clear HA
   simp only[spec_laCommon.l0]at H
   by_cases c3:a4>0
   ·
    rw[if_pos c3]at H
    have a6:decide (0<a4)=true:=decide_eq_true c3
    clear c3
    by_cases c4:a4=0
    ·
     rw[if_pos c4]at H
     exact absurd H (by simp)
    ·
     rw[if_neg c4]at H
     have a8:(a4 == 0)=false:=beq_eq_false_iff_ne.mpr c4
     have a9:(a4 != 0)=true:=bne_iff_ne.mpr c4
     have H':=Aside0.mk H
     clear H
     go_wp2
     repeat(go_quiet (fail);try go_wp2)
     go_roundg k1
     case measure=>have:=a7.out;omega
     case rel=>exact⟨(a4),(Int.tmod a5 a4),(by first|rfl|(simp;done)|(simp[*];done)),(by first|rfl|(simp;done)|(simp[*];done)),H',⟨by have:=a7.out;omega⟩,by repeat(first|exact Drawn0.refl _ |apply Drawn0.step)⟩
   ·
    rw[if_neg c3]at H
    have a6:decide (0<a4)=false:=decide_eq_false c3
    clear c3
    obtain rfl:=Option.some.inj H
    go_wp2
    repeat(go_quiet (fail);try go_wp2)
    go_ret
    exact⟨by first|rfl|(simp;done)|(simp[*];done),by repeat(first|exact Drawn0.refl _ |apply Drawn0.step)⟩
mutual
def spec_PolePower.l0:Nat→Int→List (List Int)→Int→Int→List Int→List Int→Option (Int × Bool)
 |0,_,_,_,_,_,_ =>none
 |k+1,x4,a7,a9,a6,a5,a4=>if a6<a9 then(if 0≤a6 then(if a6<(a7.length:Int)then(spec_PolePower.l1 k x4 (rd_L2 a7 a6) 0 a7 a9 a6 (rd_L2 a7 a6) ((rd_L2 a7 a6).length:Int) 0 a5 a4)else(none))else(none))else(some (x4,true))
def spec_PolePower.l1:Nat→Int→List Int→Int→List (List Int)→Int→Int→List Int→Int→Int→List Int→List Int→Option (Int × Bool)
 |0,_,_,_,_,_,_,_,_,_,_,_ =>none
 |k+1,x4,x6,x7,a7,a9,a6,b6,b8,a8,a5,a4=>if a8<b8 then(if 0≤a8 then(if a8<(b6.length:Int)then(if 0≤(rd b6 a8)then(if(rd b6 a8)<(a4.length:Int)then(spec_PolePower.l1 k x4 x6 (wrap64 (x7+(rd a4 (rd b6 a8)))) a7 a9 a6 b6 b8 (wrap64 (a8+1)) a5 a4)else(none))else(none))else(none))else(none))else(if x7=0 then((spec_laCommon.f k x4 (x6.length:Int)).bind fun b7=>(if b7=0 then(none)else(spec_PolePower.l0 k (wrap64 ((wrap64 (Int.tdiv x4 b7))*(x6.length:Int))) a7 a9 (wrap64 (a6+1)) a5 a4)))else(some (0,false)))
end
def spec_PolePower.f (k:Nat) (a4:List Int) (a5:List Int):Option (Int × Bool):=(spec_poTurned.f k a4 a5).bind fun a7=>(if a7=true then((spec_laCycles.f k a4).bind fun a6=>(spec_PolePower.l0 k 1 a6 (a6.length:Int) 0 a4 a5))else(some (0,false)))
set_option maxHeartbeats 8000000 in
set_option maxRecDepth 100000 in
theorem spec_PolePower.calls (k:Nat) (b9:Option Addr) (c9:Nat) (a7:List Int) (d7:Option Addr) (d8:Nat) (a8:List Int) (r1:Int) (r2:Bool) (w:World) (k4:Kd.C (Kd.int .i64) w b9 a7.length a7) (k6:a7.length≤c9) (k8:Kd.C (Kd.int .i64) w d7 a8.length a8) (k9:a8.length≤d8) (h:spec_PolePower.f k a7 a8=some (r1,r2)):
  Calls Try.prog 23 #[.agg #[.slice b9 a7.length c9,.slice d7 a8.length d8]] w fun e w'=>e= .returned (.tuple #[.int .i64 r1,.bool r2])∧Below w.heap.size w w':=by
 have z3:=Try.underlying26;have f9:=Aside0.mk k4;have g8:=Aside0.mk k6;clear k4 k6;have g9:=Aside0.mk k8;have l3:=Aside0.mk k9;clear k8 k9;have HB:=Zm (Below.refl w.heap.size w);have H:((spec_poTurned.f k a7 a8).bind fun l5=>(if l5=true then((spec_laCycles.f k a7).bind fun a5=>(spec_PolePower.l0 k 1 a5 (a5.length:Int) 0 a7 a8))else(some (0,false))))=some (r1,r2):=h;clear h
 replace H:=Zb0 H;obtain⟨l5,A2,H⟩:=H
 by_cases c3:l5=true
 ·
  subst c3
  rw[if_pos rfl]at H
  replace H:=Zb0 H;obtain⟨a5,A4,H⟩:=H;have H':=Aside0.mk H;clear H
  go_enter Try.func23,Try.ntmps23
  go_wp2_with (first|((with_reducible refine gate_dst (N:=1) rfl ?_);refine Zbe 1 #[.slice b9 a7.length c9,.slice d7 a8.length d8] 26 ?_;intro i3 hg w5 hbox hb;have a6:=Zm (hbox);have n0:=Zx hg HB;have n3:=Zx hg HB;replace HB:=Zh HB hb;clear hb hbox hg;obtain⟨p6,p7,p8,p9⟩:=Z2 a6)|((with_reducible refine gate_callee (f:=36) rfl ?_);refine Ga (some 11) Try.func36 #[.agg #[.slice b9 a7.length c9,.slice d7 a8.length d8]] (h:= ?_);(with_reducible refine(spec_poTurned.calls k _ _ a7 _ _ a8 true _ ?d9 ?e6 ?i4 ?i5 A2.out).mono ?_);(case d9=>exact Zca (Kd.C_below f9.out HB.out));(case e6=>exact g8.out);(case i4=>exact Zca (Kd.C_below g9.out HB.out));(case i5=>exact l3.out);rintro e w7 ⟨rfl,hb⟩;refine⟨_,rfl, ?_⟩;replace a6:=Zk a6 hb;replace HB:=Zh HB hb;obtain⟨q3,q4,q5,q6⟩:=Z2 a6)|((with_reducible refine gate_callee (f:=49) rfl ?_);refine Ga (some 15) Try.func49 #[.slice b9 a7.length c9] (h:= ?_);(with_reducible refine(spec_laCycles.calls k _ _ a7 a5 _ ?d9 ?e6 A4.out).mono ?_);(case d9=>exact Zca (Kd.C_below f9.out HB.out));(case e6=>exact g8.out);rintro e w9 ⟨z4,rfl,z5,hb⟩;refine⟨_,rfl, ?_⟩;have l4:=Zm (Kd.S_lower z5 (below_size (Zl HB)));replace a6:=Zk a6 hb;replace HB:=Zh HB hb;obtain⟨q7,n4,q8⟩:=Kd.S_slice l4.out;subst q8))
  go_loopg [4,17] k (fun kq v4 z6 w'=> ∃(e7:Int) (a4:Int),v4= .int .i64 e7∧z6= .int .i64 a4∧Aside0 (spec_PolePower.l0 kq e7 a5 (a5.length:Int) a4 a7 a8=some (r1,r2))∧Aside0 (kq≤k)∧Aside0 (Kd.S (Kd.slice 3 (Kd.int .i64)) 24 w' w.heap.size (fun _ =>True) (.slice q7 a5.length n4) a5)∧Aside0 (w'.heap[i3]? =some (.cells #[(.slice b9 a7.length c9),(.slice d7 a8.length d8)] 26 (0,0)))∧Aside0 (Below w.heap.size w w'))
  case atStart=>exact⟨(1),(0),Zs,Zs,H',⟨Nat.le_refl _⟩,⟨Zrs (l4.out)⟩,⟨Zb a6⟩,⟨Zl HB⟩⟩
  case round=>
   (clear H');obtain⟨e7,a4,rfl,rfl,HA,o0,b8,a6,HB⟩:=hrel
   cases gk with
   |zero=>exact absurd HA.out (by simp[spec_PolePower.l0])
   |succ k1=>
    have H:=HA.out;clear HA
    simp only[spec_PolePower.l0]at H
    by_cases m8:a4<(a5.length:Int)
    ·
     rw[if_pos m8]at H;have n5:=decide_eq_true m8;clear m8
     replace H:=Zit H;obtain⟨r8,H⟩:=H
     replace H:=Zit H;obtain⟨r9,H⟩:=H;have H':=Aside0.mk H;clear H;have i7:0≤(a4:Int):=Zoa;have i8:a4<(a5.length:Int):=Zoa;obtain⟨n6,l6,q9,r5,i9,e9,f8⟩:=at_L2 (Kd.S_reads' b8.out).2.2 a4 i7 i8
     cases r5
     obtain⟨s6,l7,l8,i6⟩:=Kd.S_get b8.out [] a4 i7 (by first|exact i8|exact of_decide_eq_true (by first|(with_reducible assumption)|assumption)|(have e_:=(Kd.S_reads' b8.out).1;omega));obtain⟨o1,rfl,d3⟩:=l8
     have b7:=i6 0 _ rfl
     rw[Nat.add_zero,show((Kd.slice 3 (Kd.int .i64))).sz=1 from rfl,Nat.mul_one]at b7
     replace b7:=Option.some.inj (b7.symm.trans i9)
     rw[b7]at d3
     have o2:=Zm (show Kd.R (Kd.int .i64) 3 _ _ _ _ (rd_L2 a5 a4)from d3);clear b7 d3 i6 l7;have b6:=Aside0.mk f8;have o3:=Aside0.mk e9;clear f8 e9
     replace i7:=eq_true i7
     replace i8:=eq_true i8
     go_wp2
     go_loopg [7,23] k1 (fun kq v7 z7 w'=> ∃(d4:Int) (a9:Int),v7= .int .i64 d4∧z7= .int .i64 a9∧Aside0 (spec_PolePower.l1 kq e7 (rd_L2 a5 a4) d4 a5 (a5.length:Int) a4 (rd_L2 a5 a4) ((rd_L2 a5 a4).length:Int) a9 a7 a8=some (r1,r2))∧Aside0 (kq≤k1)∧Aside0 (Kd.S (Kd.slice 3 (Kd.int .i64)) 24 w' w.heap.size (fun _ =>True) (.slice (some n6) a5.length n4) a5)∧Aside0 (w'.heap[i3]? =some (.cells #[(.slice b9 a7.length c9),(.slice d7 a8.length d8)] 26 (0,0)))∧Aside0 (Kd.C (Kd.int .i64) w' l6 (rd_L2 a5 a4).length (rd_L2 a5 a4))∧Aside0 (Below w.heap.size w w'))
     case atStart=>exact⟨(0),(0),Zs,Zs,H',⟨Nat.le_refl _⟩,⟨Zrs (b8.out)⟩,⟨Zb a6⟩,⟨by repeat(first|(with_reducible exact b6.out)|(with_reducible refine Kd.C_alloc ?_ _)|(with_reducible refine Kd.C_drewN ?_ _)|(with_reducible refine Kd.C_drew ?_)|exact b6.out)⟩,⟨Zl HB⟩⟩
     case round=>
      (clear H');obtain⟨d4,a9,rfl,rfl,HA,o4,b8,a6,b6,HB⟩:=hrel
      cases gk with
      |zero=>exact absurd HA.out (by simp[spec_PolePower.l1])
      |succ k2=>
       have H:=HA.out;clear HA
       simp only[spec_PolePower.l1]at H
       by_cases m9:a9<((rd_L2 a5 a4).length:Int)
       ·
        rw[if_pos m9]at H;have n7:=decide_eq_true m9;clear m9
        replace H:=Zit H;obtain⟨s7,H⟩:=H
        replace H:=Zit H;obtain⟨s9,H⟩:=H
        replace H:=Zit H;obtain⟨t0,H⟩:=H
        replace H:=Zit H;obtain⟨t8,H⟩:=H;have H':=Aside0.mk H;clear H;have l9:0≤(a9:Int):=Zoa;have m4:a9<((rd_L2 a5 a4).length:Int):=Zoa;obtain⟨t9,r6,d5⟩:=Kd.at_int b6.out a9 l9 m4
        cases r6
        try replace d5:=(HB.out.cell (World.block_lt_of_cell? w _ d5)).trans d5
        replace l9:=eq_true l9
        replace m4:=eq_true m4
        obtain⟨o5,o6,o7,o8⟩:=Z2 a6;have m5:0≤((rd (rd_L2 a5 a4) a9):Int):=Zoa;have m6:(rd (rd_L2 a5 a4) a9)<(a8.length:Int):=Zoa
        obtain⟨y8,r7,d6⟩:=Kd.at_int g9.out (rd (rd_L2 a5 a4) a9) m5 m6
        cases r7
        try replace d6:=(HB.out.cell (World.block_lt_of_cell? w _ d6)).trans d6
        replace m5:=eq_true m5
        replace m6:=eq_true m6
        go_wp2
        go_roundg k2
        case measure=>have:=o0.out;have:=o4.out;omega
        case rel=>exact⟨(wrap64 (d4+(rd a8 (rd (rd_L2 a5 a4) a9)))),(wrap64 (a9+1)),Zs,Zs,H',⟨by have:=o0.out;have:=o4.out;omega⟩,⟨Zrs (b8.out)⟩,⟨Zb a6⟩,⟨by repeat(first|(with_reducible exact b6.out)|(with_reducible refine Kd.C_alloc ?_ _)|(with_reducible refine Kd.C_drewN ?_ _)|(with_reducible refine Kd.C_drew ?_)|exact b6.out)⟩,⟨Zl HB⟩⟩
       ·
        rw[if_neg m9]at H;have n7:=decide_eq_false m9;clear m9
        by_cases m7:d4=0
        ·
         rw[if_pos m7]at H;have n8:(d4 == 0)=true:=beq_iff_eq.mpr m7;have n9:(d4 != 0)=false:=bne_eq_false_iff_eq.mpr m7;clear m7;replace H:=Zb0 H;obtain⟨k3,z8,H⟩:=H
         replace H:=Zie H;obtain⟨c22,H⟩:=H;have y9:(k3 == 0)=false:=beq_eq_false_iff_ne.mpr c22;have z2:(k3 != 0)=true:=bne_iff_ne.mpr c22;have H':=Aside0.mk H;clear H
         go_wp2_with (first|((with_reducible refine gate_callee (f:=50) rfl ?_);refine Ga (some 41) Try.func50 #[.int .i64 e7,.int .i64 ((rd_L2 a5 a4).length:Int)] (h:= ?_);(with_reducible refine(spec_laCommon.calls k2 e7 ((rd_L2 a5 a4).length:Int) k3 _ z8.out).mono ?_);rintro e w' ⟨rfl,⟨nd,rfl⟩⟩;refine⟨_,rfl, ?_⟩))
         go_roundg k2
         case measure=>have:=o0.out;have:=o4.out;omega
         case rel=>exact⟨(wrap64 ((wrap64 (Int.tdiv e7 k3))*((rd_L2 a5 a4).length:Int))),(wrap64 (a4+1)),Zs,Zs,H',⟨by have:=o0.out;have:=o4.out;omega⟩,⟨Zrs (b8.out)⟩,⟨Zb a6⟩,⟨Zl HB⟩⟩
        ·
         rw[if_neg m7]at H;have n8:(d4 == 0)=false:=beq_eq_false_iff_ne.mpr m7;have n9:(d4 != 0)=true:=bne_iff_ne.mpr m7
         obtain⟨rfl,rfl⟩:=Zs2 H;clear H
         go_wp2
         go_ret2
         exact⟨Ze,Zl HB⟩
    ·
     rw[if_neg m8]at H;have n5:=decide_eq_false m8;clear m8
     obtain⟨rfl,rfl⟩:=Zs2 H;clear H
     go_wp2
     go_ret2
     exact⟨Ze,Zl HB⟩
 ·
  replace c3:=Bool.eq_false_iff.mpr c3
  subst c3
  rw[if_neg Bool.false_ne_true]at H
  obtain⟨rfl,rfl⟩:=Zs2 H;clear H
  go_enter Try.func23,Try.ntmps23
  go_wp2_with (first|((with_reducible refine gate_dst (N:=1) rfl ?_);refine Zbe 1 #[.slice b9 a7.length c9,.slice d7 a8.length d8] 26 ?_;intro i3 hg z9 hbox hb;have a6:=Zm (hbox);have n0:=Zx hg HB;have n3:=Zx hg HB;replace HB:=Zh HB hb;clear hb hbox hg;obtain⟨o9,p3,p4,p5⟩:=Z2 a6)|((with_reducible refine gate_callee (f:=36) rfl ?_);refine Ga (some 11) Try.func36 #[.agg #[.slice b9 a7.length c9,.slice d7 a8.length d8]] (h:= ?_);(with_reducible refine(spec_poTurned.calls k _ _ a7 _ _ a8 false _ ?d9 ?e6 ?i4 ?i5 A2.out).mono ?_);(case d9=>exact Zca (Kd.C_below f9.out HB.out));(case e6=>exact g8.out);(case i4=>exact Zca (Kd.C_below g9.out HB.out));(case i5=>exact l3.out);rintro e B0 ⟨rfl,hb⟩;refine⟨_,rfl, ?_⟩;replace a6:=Zk a6 hb;replace HB:=Zh HB hb))
  go_ret2
  exact⟨Ze,Zl HB⟩
end Go.Proofs.Ytnagcjhgojchlaa.Q
