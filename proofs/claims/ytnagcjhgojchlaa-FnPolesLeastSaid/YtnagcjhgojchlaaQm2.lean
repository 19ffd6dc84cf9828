/- Each function below comes to the Lean function beside it (theorems '.calls'); no condition beyond each theorem's own. Written by our program oprint.py over the kit's print. -/
import Derived.Test.YtnagcjhgojchlaaQm0
import Derived.Test.YtnagcjhgojchlaaQm1
namespace Go.Proofs.Ytnagcjhgojchlaa.Q
open Go.RowKit Go.Proofs.YtnagcjhgojchlaaW.PrintWords Go.Proofs.YtnagcjhgojchlaaW.PrintLast Go.Proofs.YtnagcjhgojchlaaW.PrintMore
attribute [local go_sem] max2_int min2_int max_two min_two max_three min_three max_four min_four
set_option linter.unusedVariables false
set_option linter.unusedSimpArgs false
def spec_poTop.f (a4:List Int) (a5:List Int) (a1:Int):Option (List Int × List Int):=(spec_l1Own.f a4).bind fun a7=>((spec_l1Own.f a5).bind fun a6=>(if(a4.length:Int)=0 then(none)else(if 0≤(Int.tmod (wrap64 (a1+1)) (a4.length:Int))then(if(Int.tmod (wrap64 (a1+1)) (a4.length:Int))<(a4.length:Int)then(if 0≤a1 then(if a1<(a7.length:Int)then(if a1<(a4.length:Int)then(if(Int.tmod (wrap64 (a1+1)) (a4.length:Int))<(a7.length:Int)then((some ((a7.set (a1:Int).toNat (rd a4 (Int.tmod (wrap64 (a1+1)) (a4.length:Int)))).set ((Int.tmod (wrap64 (a1+1)) (a4.length:Int)):Int).toNat (rd a4 a1):List Int)).bind fun a9=>(if(Int.tmod (wrap64 (a1+1)) (a4.length:Int))<(a5.length:Int)then(if a1<(a6.length:Int)then(if a1<(a5.length:Int)then(if(Int.tmod (wrap64 (a1+1)) (a4.length:Int))<(a6.length:Int)then((some ((a6.set (a1:Int).toNat (rd a5 (Int.tmod (wrap64 (a1+1)) (a4.length:Int)))).set ((Int.tmod (wrap64 (a1+1)) (a4.length:Int)):Int).toNat (rd a5 a1):List Int)).bind fun a8=>(if(Int.tmod (wrap64 (a1+1)) (a4.length:Int))=0 then(if 0<(a6.length:Int)then((some (a8.set (0:Int).toNat (wrap64 ((rd a8 0) - 1)):List Int)).bind fun b6=>(some (a9,(b6.set (a1:Int).toNat (wrap64 ((rd b6 a1)+1))))))else(none))else(some (a9,a8))))else(none))else(none))else(none))else(none)))else(none))else(none))else(none))else(none))else(none))else(none))))
def spec_poTop.T2:Bool × List (List Nat × List Nat):=(true,[([],[]),([0],[0]),([1],[1]),([],[]),([3],[3]),([4,2],[4]),([2,5],[2,5]),([],[]),([7,6,5,0,1,2,3,4,5,6,7],[6,7])])
def spec_poTop.B2:List Nat:= [0,1,3,0,8,31,63,0,255]
theorem spec_poTop.tab2:rtab .any (opsOf Try.f39 2)=spec_poTop.T2:=by kernel_rfl
theorem spec_poTop.bits2:waitsOk spec_poTop.T2.2 spec_poTop.B2=true:=by kernel_rfl
def spec_poTop.T4:Bool × List (List Nat × List Nat):=(true,[([],[]),([0],[0]),([],[]),([],[]),([3],[3]),([],[]),([4,5],[4,5]),([6],[6]),([1,2,0,1,2,3,4,5,6,7],[1,2]),([8,7,0,1,2,3,4,5,6,7],[7,8])])
def spec_poTop.B4:List Nat:= [0,1,0,0,8,0,56,120,255,511]
theorem spec_poTop.tab4:rtab .any (opsOf Try.f39 4)=spec_poTop.T4:=by kernel_rfl
theorem spec_poTop.bits4:waitsOk spec_poTop.T4.2 spec_poTop.B4=true:=by kernel_rfl
def spec_poTop.T5:Bool × List (List Nat × List Nat):=(true,[([],[]),([0],[0]),([],[]),([],[]),([3],[3]),([],[]),([4,5],[4,5]),([6],[6]),([1,2,0,1,2,3,4,5,6,7],[1,2]),([8,7,0,1,2,3,4,5,6,7],[7,8])])
def spec_poTop.B5:List Nat:= [0,1,0,0,8,0,56,120,255,511]
theorem spec_poTop.tab5:rtab .any (opsOf Try.f39 5)=spec_poTop.T5:=by kernel_rfl
theorem spec_poTop.bits5:waitsOk spec_poTop.T5.2 spec_poTop.B5=true:=by kernel_rfl
def spec_poTop.T6:Bool × List (List Nat × List Nat):=(true,[([],[]),([0],[0]),([],[]),([],[]),([3],[3]),([],[]),([4,5],[4,5]),([6],[6]),([1,2,0,1,2,3,4,5,6,7],[1,2]),([8,7,0,1,2,3,4,5,6,7],[7,8])])
def spec_poTop.B6:List Nat:= [0,1,0,0,8,0,56,120,255,511]
theorem spec_poTop.tab6:rtab .any (opsOf Try.f39 6)=spec_poTop.T6:=by kernel_rfl
theorem spec_poTop.bits6:waitsOk spec_poTop.T6.2 spec_poTop.B6=true:=by kernel_rfl
def spec_poTop.T7:Bool × List (List Nat × List Nat):=(true,[([],[]),([0],[0]),([],[]),([],[]),([3],[3]),([],[]),([4,5],[4,5]),([6],[6]),([1,2,0,1,2,3,4,5,6,7],[1,2]),([8,7,0,1,2,3,4,5,6,7],[7,8])])
def spec_poTop.B7:List Nat:= [0,1,0,0,8,0,56,120,255,511]
theorem spec_poTop.tab7:rtab .any (opsOf Try.f39 7)=spec_poTop.T7:=by kernel_rfl
theorem spec_poTop.bits7:waitsOk spec_poTop.T7.2 spec_poTop.B7=true:=by kernel_rfl
set_option maxHeartbeats 8000000 in
set_option maxRecDepth 100000 in
theorem spec_poTop.calls (i9:Option Addr) (i3:Nat) (b7:List Int) (i4:Option Addr) (e6:Nat) (d4:List Int) (a1:Int) (r1:List Int) (r2:List Int) (w:World) (B0:Kd.C (Kd.int .i64) w i9 b7.length b7) (C0:b7.length≤i3) (C1:Kd.C (Kd.int .i64) w i4 d4.length d4) (C2:d4.length≤e6) (h:spec_poTop.f b7 d4 a1=some (r1,r2)):
  Calls Try.prog 39 #[.agg #[.slice i9 b7.length i3,.slice i4 d4.length e6],.int .i64 a1] w fun e w'=> ∃Q8 Q9:Value,e= .returned (.agg #[Q8,Q9])∧Kd.R (Kd.int .i64) 3 w' w.heap.size (fun k_=>Zn k_ Q9) Q8 r1∧Kd.R (Kd.int .i64) 3 w' w.heap.size (fun k_=>Zn k_ Q8) Q9 r2∧Below w.heap.size w w':=by
 have aE:=Try.underlying26;have n3:=Aside0.mk B0;have q5:=Aside0.mk C0;clear B0 C0;have l3:=Aside0.mk C1;have n7:=Aside0.mk C2;clear C1 C2;have HB:=Zm (Below.refl w.heap.size w);have H:((spec_l1Own.f b7).bind fun d6=>((spec_l1Own.f d4).bind fun b8=>(if(b7.length:Int)=0 then(none)else(if 0≤(Int.tmod (wrap64 (a1+1)) (b7.length:Int))then(if(Int.tmod (wrap64 (a1+1)) (b7.length:Int))<(b7.length:Int)then(if 0≤a1 then(if a1<(d6.length:Int)then(if a1<(b7.length:Int)then(if(Int.tmod (wrap64 (a1+1)) (b7.length:Int))<(d6.length:Int)then((some ((d6.set (a1:Int).toNat (rd b7 (Int.tmod (wrap64 (a1+1)) (b7.length:Int)))).set ((Int.tmod (wrap64 (a1+1)) (b7.length:Int)):Int).toNat (rd b7 a1):List Int)).bind fun o0=>(if(Int.tmod (wrap64 (a1+1)) (b7.length:Int))<(d4.length:Int)then(if a1<(b8.length:Int)then(if a1<(d4.length:Int)then(if(Int.tmod (wrap64 (a1+1)) (b7.length:Int))<(b8.length:Int)then((some ((b8.set (a1:Int).toNat (rd d4 (Int.tmod (wrap64 (a1+1)) (b7.length:Int)))).set ((Int.tmod (wrap64 (a1+1)) (b7.length:Int)):Int).toNat (rd d4 a1):List Int)).bind fun l8=>(if(Int.tmod (wrap64 (a1+1)) (b7.length:Int))=0 then(if 0<(b8.length:Int)then((some (l8.set (0:Int).toNat (wrap64 ((rd l8 0) - 1)):List Int)).bind fun n4=>(some (o0,(n4.set (a1:Int).toNat (wrap64 ((rd n4 a1)+1))))))else(none))else(some (o0,l8))))else(none))else(none))else(none))else(none)))else(none))else(none))else(none))else(none))else(none))else(none)))))=some (r1,r2):=h;clear h
 replace H:=Zb0 H;obtain⟨d6,A3,H⟩:=H;replace H:=Zb0 H;obtain⟨b8,A4,H⟩:=H
 replace H:=Zie H;obtain⟨c5,H⟩:=H;have aG:((b7.length:Int) == 0)=false:=beq_eq_false_iff_ne.mpr c5;have aH:((b7.length:Int) != 0)=true:=bne_iff_ne.mpr c5;(have aI: ¬(b7= []):=fun h_=>c5 (by rw[h_];rfl));obtain⟨d7,q8⟩: ∃j_:Int,(Int.tmod (wrap64 (a1+1)) (b7.length:Int))=j_:=⟨_,rfl⟩;(replace H:(if 0≤(d7)then(if(d7)<(b7.length:Int)then(if 0≤a1 then(if a1<(d6.length:Int)then(if a1<(b7.length:Int)then(if(d7)<(d6.length:Int)then((some ((d6.set (a1:Int).toNat (rd b7 (d7))).set ((d7):Int).toNat (rd b7 a1):List Int)).bind fun o0=>(if(d7)<(d4.length:Int)then(if a1<(b8.length:Int)then(if a1<(d4.length:Int)then(if(d7)<(b8.length:Int)then((some ((b8.set (a1:Int).toNat (rd d4 (d7))).set ((d7):Int).toNat (rd d4 a1):List Int)).bind fun l8=>(if(d7)=0 then(if 0<(b8.length:Int)then((some (l8.set (0:Int).toNat (wrap64 ((rd l8 0) - 1)):List Int)).bind fun n4=>(some (o0,(n4.set (a1:Int).toNat (wrap64 ((rd n4 a1)+1))))))else(none))else(some (o0,l8))))else(none))else(none))else(none))else(none)))else(none))else(none))else(none))else(none))else(none))else(none))=some (r1,r2):=by first|(rw[q8]at H;exact H)|(simp only[q8]at H ⊢;exact H))
 (try rw[q8]at A3)
 (try rw[q8]at A4)
 by_cases c7:0≤(d7)
 ·
  rw[if_pos c7]at H;have aJ:=decide_eq_true c7;clear c7
  replace H:=Zit H;obtain⟨aK,H⟩:=H
  replace H:=Zit H;obtain⟨aM,H⟩:=H
  replace H:=Zit H;obtain⟨U7,H⟩:=H;generalize C3:(d6.set (a1:Int).toNat (rd b7 (d7)))=H6 at H;have C4:=Aside0.mk C3.symm;clear C3
  replace H:=Zit H;obtain⟨U8,H⟩:=H
  replace H:=Zit H;obtain⟨U9,H⟩:=H;replace H:=Zgb H;obtain⟨o0,C5,H⟩:=H
  replace H:=Zit H;obtain⟨V0,H⟩:=H
  replace H:=Zit H;obtain⟨V1,H⟩:=H;generalize C6:(b8.set (a1:Int).toNat (rd d4 (d7)))=H7 at H;have q6:=Aside0.mk C6.symm;clear C6
  replace H:=Zit H;obtain⟨V2,H⟩:=H
  replace H:=Zit H;obtain⟨V3,H⟩:=H;replace H:=Zgb H;obtain⟨l8,q7,H⟩:=H
  by_cases D1:(d7)=0
  ·
   rw[if_pos D1]at H;have H8:((d7) == 0)=true:=beq_iff_eq.mpr D1;have H9:((d7) != 0)=false:=bne_eq_false_iff_eq.mpr D1;clear D1
   replace H:=Zif H;obtain⟨c22,H⟩:=H;have V4:=decide_eq_true c22;have V5:decide (0<b8.length)=true:=decide_eq_true (by omega);clear c22;replace H:=Zgb H;obtain⟨n4,C7,H⟩:=H
   generalize C8:(n4.set (a1:Int).toNat (wrap64 ((rd n4 a1)+1)))=R0 at H;have I0:=Aside0.mk C8.symm;clear C8
   obtain⟨rfl,rfl⟩:=Zs2 H;clear H
   go_enter Try.func39,Try.ntmps39
   try go_wp2_with (first|((with_reducible refine gate_dst (N:=2) rfl ?_);refine Zbe 2 #[.slice i9 b7.length i3,.slice i4 d4.length e6] 26 ?_;intro d5 hg bK hbox hb;have a4:=Zm (hbox);have I1:=Zx hg HB;have I2:=Zx hg HB;replace HB:=Zh HB hb;clear hb hbox hg)|((with_reducible refine gate_dst (N:=4) rfl ?_);refine Zbe 4 #[.slice none 0 0,.slice none 0 0] 26 ?_;intro i5 hg aN hbox hb;have a5:=Zm (hbox);have I3:=Zx hg HB;have I4:=Zx hg HB;replace HB:=Zh HB hb;have m8:=Zq hg a4;have m9:=Zp hg a4;replace a4:=Zk a4 hb;clear hb hbox hg;have V6:=m8.out;have V7:=m9.out;obtain⟨L6,L7,L8,L9⟩:=Z2 a4))
   replace a4:=Zm (blk_drew a4.out);replace a5:=Zm (blk_drew a5.out);replace HB:=Zm (below_drew1 HB.out)
   refine start_ (n:=9) (S:=fun w'=>w'.cell? ⟨d5,0,none⟩=some (.slice i9 b7.length i3)∧w'.cell? ⟨d5,1,none⟩=some (.slice i4 d4.length e6)) (ds:= []) (fl 9 0) (by kernel_rfl) rfl rfl ⟨Zc0 a4 0,Zc0 a4 1⟩ (fun hHeld=> ?_);refine with_tabW spec_poTop.tab2 spec_poTop.bits2 (fun HT_ HW_=> ?_)
   generalize aN.drew=bL at a4 a5 HB hHeld ⊢;refine Yu 0 11 (fl 9 1) HT_ (h:= ?_);refine Yu 3 14 (fl 9 9) HT_ (h:= ?_);refine Yt 1 12 (fl 9 11) HT_ HW_ hHeld (h:= ?_);refine Yt 4 15 (fl 9 27) HT_ HW_ hHeld (h:= ?_)
   refine join_ (σ:=Value × Value × Nat) 1 (fl 9 255) (fun s_=> [(13,s_.1),(16,s_.2.1),(6,.pointer (some ⟨s_.2.2,0,none⟩)),(17,.agg #[s_.1,s_.2.1])]) (fun s_ w'=>(w'.cell? ⟨d5,0,none⟩=some (.slice i9 b7.length i3)∧w'.cell? ⟨d5,1,none⟩=some (.slice i4 d4.length e6))∧(Kd.R (Kd.int .i64) 3 w' w.heap.size (fun k_=>Zn k_ s_.2.1) s_.1 d6)∧(Kd.R (Kd.int .i64) 3 w' w.heap.size (fun k_=>Zn k_ s_.1) s_.2.1 b8)∧(w'.heap[d5]? =some (.cells #[.slice i9 b7.length i3,.slice i4 d4.length e6] 26 (0,0)))∧(w'.heap[i5]? =some (.cells #[.slice none 0 0,.slice none 0 0] 26 (0,0)))∧(w'.heap[s_.2.2]? =some (.cells #[.slice none 0 0,.slice none 0 0] 26 (0,0)))∧(w.heap.size≤s_.2.2)∧(w.heap.size≤s_.2.2)∧(d5≠s_.2.2)∧(s_.2.2≠d5)∧(i5≠s_.2.2)∧(s_.2.2≠i5)∧(Below w.heap.size w w')) ?_ ?_
   rotate_left
   ·
    intro hCont
    refine two_ (i:=2) (j:=7) (Ni:=some 13) (Nj:=some 6) (fl 9 31) (fl 9 155) rfl rfl rfl rfl (two_of HT_.out (by kernel_rfl)) (by decide) (by decide) (fun K hK=> ?_) (fun K hK=> ?_)
    ·
     refine goes_ Try.func62 (by kernel_rfl) rfl #[.slice i9 b7.length i3] (by rfl) rfl rfl (by(try simp only[List.map_toArray,List.map_cons,List.map_nil]);first|done|rfl) ?_
     with_reducible refine(spec_l1Own.calls _ _ b7 d6 _ ?e7 ?e9 A3.out).mono ?_
     (case e7=>exact Zca (Kd.C_below n3.out HB.out))
     (case e9=>exact q5.out)
     rintro e aQ ⟨n8,rfl,n5,hb⟩
     refine⟨_,rfl, ?_⟩
     have a6:=Zj n5 HB;replace a4:=Zk a4 hb;replace a5:=Zk a5 hb;replace HB:=Zh HB hb
     refine hK.out _ _ ⟨Zc0 a4 0,Zc0 a4 1⟩ (fun hHeld=> ?_)
     clear hK K;refine Yn 13 (h:= ?_)
     refine two_ (i:=5) (j:=7) (Ni:=some 16) (Nj:=some 6) (fl 9 63) (fl 9 159) rfl rfl rfl rfl (two_of HT_.out (by kernel_rfl)) (by decide) (by decide) (fun K hK=> ?_) (fun K hK=> ?_)
     ·
      refine goes_ Try.func62 (by kernel_rfl) rfl #[.slice i4 d4.length e6] (by rfl) rfl rfl (by(try simp only[List.map_toArray,List.map_cons,List.map_nil]);first|done|rfl) ?_
      with_reducible refine(spec_l1Own.calls _ _ d4 b8 _ ?e7 ?e9 A4.out).mono ?_
      (case e7=>exact Zca (Kd.C_below l3.out HB.out))
      (case e9=>exact n7.out)
      rintro e V8 ⟨n6,rfl,n5,hb⟩
      refine⟨_,rfl, ?_⟩
      have a7:=Zj (Zv n5 a6) HB;replace a6:=Zm (Kd.R_elder' (Zr a6) (Kd.R_base n5) hb);replace a4:=Zk a4 hb;replace a5:=Zk a5 hb;replace HB:=Zh HB hb;obtain⟨R1,R2,I5⟩:=Kd.R_slice a7.out
      (first|subst I5|(injection I5 with i6 l4 i7;have l5:=i6.symm;have l6:=i7.symm;clear i6 l4 i7;subst l5;subst l6))
      obtain⟨r6,r7,o1⟩:=Kd.R_slice a6.out
      (first|subst o1|(injection o1 with i6 l4 i7;have l5:=i6.symm;have l6:=i7.symm;clear i6 l4 i7;subst l5;subst l6))
      refine hK.out _ _ ⟨Zc0 a4 0,Zc0 a4 1⟩ (fun hHeld=> ?_)
      clear hK K;refine Yn 16 (h:= ?_);refine Yu 6 17 (fl 9 127) HT_ (h:= ?_)
      refine one_ (i:=7) (N:=some 6) (fl 9 255) rfl rfl (one_of HT_.out (by kernel_rfl)) (by decide) (fun K hK=> ?_)
      refine Zbs 6 #[.slice none 0 0,.slice none 0 0] 26 ?_
      intro b6 hg bM hbox hb
      replace a6:=Zo a6 hb;replace a7:=Zo a7 hb;have a8:=Zm (hbox);have k3:=Zx hg HB;have k4:=Zx hg HB;replace HB:=Zh HB hb;have a9:=Zq hg a4;have b9:=Zp hg a4;replace a4:=Zk a4 hb;have c9:=Zq hg a5;have d3:=Zp hg a5;replace a5:=Zk a5 hb;clear hb hbox hg
      refine hK.out _ _ ⟨Zc0 a4 0,Zc0 a4 1⟩ (fun hHeld=> ?_)
      clear hK K;refine Yn 6 (h:= ?_)
      exact norm_ (by simp only[putAll,Act.put,List.setIfInBounds_toArray,List.set_cons_zero,List.set_cons_succ]) (hCont (.slice r6 d6.length r7,.slice R1 b8.length R2,b6) _ ⟨hHeld,(Zc a6),(Zc a7),(Zb a4),(Zb a5),(Zb a8),k3.out,k4.out,a9.out,b9.out,c9.out,d3.out,(Zl HB)⟩)
     ·
      refine Zbs 6 #[.slice none 0 0,.slice none 0 0] 26 ?_
      intro b6 hg V8 hbox hb
      replace a6:=Zo a6 hb;have a8:=Zm (hbox);have k3:=Zx hg HB;have k4:=Zx hg HB;replace HB:=Zh HB hb;have a9:=Zq hg a4;have b9:=Zp hg a4;replace a4:=Zk a4 hb;have c9:=Zq hg a5;have d3:=Zp hg a5;replace a5:=Zk a5 hb;clear hb hbox hg
      refine hK.out _ _ ⟨Zc0 a4 0,Zc0 a4 1⟩ (fun hHeld=> ?_)
      clear hK K;refine Yn 6 (h:= ?_)
      refine one_ (i:=5) (N:=some 16) (fl 9 191) rfl rfl (one_of HT_.out (by kernel_rfl)) (by decide) (fun K hK=> ?_)
      refine goes_ Try.func62 (by kernel_rfl) rfl #[.slice i4 d4.length e6] (by rfl) rfl rfl (by(try simp only[List.map_toArray,List.map_cons,List.map_nil]);first|done|rfl) ?_
      with_reducible refine(spec_l1Own.calls _ _ d4 b8 _ ?e7 ?e9 A4.out).mono ?_
      (case e7=>exact Zca (Kd.C_below l3.out HB.out))
      (case e9=>exact n7.out)
      rintro e aT ⟨n6,rfl,n5,hb⟩
      refine⟨_,rfl, ?_⟩
      have a7:=Zj (Zv n5 a6) HB;replace a6:=Zm (Kd.R_elder' (Zr a6) (Kd.R_base n5) hb);replace a4:=Zk a4 hb;replace a5:=Zk a5 hb;replace a8:=Zk a8 hb;replace HB:=Zh HB hb;obtain⟨r6,r7,o1⟩:=Kd.R_slice a7.out
      (first|subst o1|(injection o1 with i6 l4 i7;have l5:=i6.symm;have l6:=i7.symm;clear i6 l4 i7;subst l5;subst l6))
      obtain⟨D2,D3,r8⟩:=Kd.R_slice a6.out
      (first|subst r8|(injection r8 with i6 l4 i7;have l5:=i6.symm;have l6:=i7.symm;clear i6 l4 i7;subst l5;subst l6))
      refine hK.out _ _ ⟨Zc0 a4 0,Zc0 a4 1⟩ (fun hHeld=> ?_)
      clear hK K;refine Yn 16 (h:= ?_);refine Yu 6 17 (fl 9 255) HT_ (h:= ?_)
      exact norm_ (by simp only[putAll,Act.put,List.setIfInBounds_toArray,List.set_cons_zero,List.set_cons_succ]) (hCont (.slice D2 d6.length D3,.slice r6 b8.length r7,b6) _ ⟨hHeld,(Zc a6),(Zc a7),(Zb a4),(Zb a5),(Zb a8),k3.out,k4.out,a9.out,b9.out,c9.out,d3.out,(Zl HB)⟩)
    ·
     refine Zbs 6 #[.slice none 0 0,.slice none 0 0] 26 ?_
     intro b6 hg aQ hbox hb
     have a8:=Zm (hbox);have k3:=Zx hg HB;have k4:=Zx hg HB;replace HB:=Zh HB hb;have a9:=Zq hg a4;have b9:=Zp hg a4;replace a4:=Zk a4 hb;have c9:=Zq hg a5;have d3:=Zp hg a5;replace a5:=Zk a5 hb;clear hb hbox hg
     refine hK.out _ _ ⟨Zc0 a4 0,Zc0 a4 1⟩ (fun hHeld=> ?_)
     clear hK K;refine Yn 6 (h:= ?_)
     refine one_ (i:=2) (N:=some 13) (fl 9 159) rfl rfl (one_of HT_.out (by kernel_rfl)) (by decide) (fun K hK=> ?_)
     refine goes_ Try.func62 (by kernel_rfl) rfl #[.slice i9 b7.length i3] (by rfl) rfl rfl (by(try simp only[List.map_toArray,List.map_cons,List.map_nil]);first|done|rfl) ?_
     with_reducible refine(spec_l1Own.calls _ _ b7 d6 _ ?e7 ?e9 A3.out).mono ?_
     (case e7=>exact Zca (Kd.C_below n3.out HB.out))
     (case e9=>exact q5.out)
     rintro e V8 ⟨n8,rfl,n5,hb⟩
     refine⟨_,rfl, ?_⟩
     have a6:=Zj n5 HB;replace a4:=Zk a4 hb;replace a5:=Zk a5 hb;replace a8:=Zk a8 hb;replace HB:=Zh HB hb
     refine hK.out _ _ ⟨Zc0 a4 0,Zc0 a4 1⟩ (fun hHeld=> ?_)
     clear hK K;refine Yn 13 (h:= ?_)
     refine one_ (i:=5) (N:=some 16) (fl 9 191) rfl rfl (one_of HT_.out (by kernel_rfl)) (by decide) (fun K hK=> ?_)
     refine goes_ Try.func62 (by kernel_rfl) rfl #[.slice i4 d4.length e6] (by rfl) rfl rfl (by(try simp only[List.map_toArray,List.map_cons,List.map_nil]);first|done|rfl) ?_
     with_reducible refine(spec_l1Own.calls _ _ d4 b8 _ ?e7 ?e9 A4.out).mono ?_
     (case e7=>exact Zca (Kd.C_below l3.out HB.out))
     (case e9=>exact n7.out)
     rintro e aT ⟨n6,rfl,n5,hb⟩
     refine⟨_,rfl, ?_⟩
     have a7:=Zj (Zv n5 a6) HB;replace a6:=Zm (Kd.R_elder' (Zr a6) (Kd.R_base n5) hb);replace a4:=Zk a4 hb;replace a5:=Zk a5 hb;replace a8:=Zk a8 hb;replace HB:=Zh HB hb;obtain⟨r6,r7,o1⟩:=Kd.R_slice a7.out
     (first|subst o1|(injection o1 with i6 l4 i7;have l5:=i6.symm;have l6:=i7.symm;clear i6 l4 i7;subst l5;subst l6))
     obtain⟨D2,D3,r8⟩:=Kd.R_slice a6.out
     (first|subst r8|(injection r8 with i6 l4 i7;have l5:=i6.symm;have l6:=i7.symm;clear i6 l4 i7;subst l5;subst l6))
     refine hK.out _ _ ⟨Zc0 a4 0,Zc0 a4 1⟩ (fun hHeld=> ?_)
     clear hK K;refine Yn 16 (h:= ?_);refine Yu 6 17 (fl 9 255) HT_ (h:= ?_)
     exact norm_ (by simp only[putAll,Act.put,List.setIfInBounds_toArray,List.set_cons_zero,List.set_cons_succ]) (hCont (.slice D2 d6.length D3,.slice r6 b8.length r7,b6) _ ⟨hHeld,(Zc a6),(Zc a7),(Zb a4),(Zb a5),(Zb a8),k3.out,k4.out,a9.out,b9.out,c9.out,d3.out,(Zl HB)⟩)
   rintro⟨n8,n6,b6⟩ z8 ⟨hS_,I6,I7,I8,I9,J0,J1,J2,J3,J4,J5,r9,s6⟩;(have a6:Aside0 (Kd.R (Kd.int .i64) 3 z8 w.heap.size (fun k_=>Zn k_ n6) n8 d6):=⟨I6⟩;have a7:Aside0 (Kd.R (Kd.int .i64) 3 z8 w.heap.size (fun k_=>Zn k_ n8) n6 b8):=⟨I7⟩;replace a4:Aside0 (z8.heap[d5]? =some (.cells #[.slice i9 b7.length i3,.slice i4 d4.length e6] 26 (0,0))):=⟨I8⟩;replace a5:Aside0 (z8.heap[i5]? =some (.cells #[.slice none 0 0,.slice none 0 0] 26 (0,0))):=⟨I9⟩;have a8:Aside0 (z8.heap[b6]? =some (.cells #[.slice none 0 0,.slice none 0 0] 26 (0,0))):=⟨J0⟩;have k3:Aside0 (w.heap.size≤b6):=⟨J1⟩;have k4:Aside0 (w.heap.size≤b6):=⟨J2⟩;have a9:Aside0 (d5≠b6):=⟨J3⟩;have b9:Aside0 (b6≠d5):=⟨J4⟩;have c9:Aside0 (i5≠b6):=⟨J5⟩;have d3:Aside0 (b6≠i5):=⟨r9⟩;replace HB:Aside0 (Below w.heap.size w z8):=⟨s6⟩;clear I6 I7 I8 I9 J0 J1 J2 J3 J4 J5 r9 s6;have hHeld:z8.cell? ⟨d5,0,none⟩=some (.slice i9 b7.length i3)∧z8.cell? ⟨d5,1,none⟩=some (.slice i4 d4.length e6):=hS_);obtain⟨q9,k6,J6⟩:=Kd.R_slice a7.out
   (first|subst J6|(injection J6 with i6 l4 i7;have l5:=i6.symm;have l6:=i7.symm;clear i6 l4 i7;subst l5;subst l6))
   obtain⟨D4,k8,J7⟩:=Kd.R_slice a6.out
   (first|subst J7|(injection J7 with i6 l4 i7;have l5:=i6.symm;have l6:=i7.symm;clear i6 l4 i7;subst l5;subst l6))
   refine norm_ (a':= ?_) ?_ ?_
   rotate_left
   ·
    simp only[putAll,Act.put,List.setIfInBounds_toArray,List.set_cons_zero,List.set_cons_succ]
    rfl
   refine one_ (i:=8) (N:=none) (fl 9 511) rfl rfl (one_of HT_.out (by kernel_rfl)) (by decide) (fun K hK=> ?_)
   have aU:=Zc0 a8 0;have V9:=blk_frozen a8.out 0;have M0:=a9.out;have M1:=c9.out;have M2:=b9.out;have M3:=d3.out;have aV:=Zc0 a8 1;have W0:=blk_frozen a8.out 1;have M4:=a9.out;have M5:=c9.out;have M6:=b9.out;have M7:=d3.out
   refine skip_ (w1:= ?_) (by rfl) rfl ?_ ?_
   rotate_left
   ·
    go_simp
    rfl
   refine hK.out _ _ ⟨((cell_far (p:=⟨b6,_,none⟩) a9.out _).trans (((cell_far (p:=⟨b6,_,none⟩) a9.out _).trans (hHeld.1)))),((cell_far (p:=⟨b6,_,none⟩) a9.out _).trans (((cell_far (p:=⟨b6,_,none⟩) a9.out _).trans (hHeld.2))))⟩ (fun hHeld=> ?_)
   clear hK K
   refine done_ (done_of HT_.out (by kernel_rfl)) ?_
   try go_wp2
   generalize hW_:((z8.setCell ⟨b6,0,none⟩ (.slice D4 d6.length k8)).setCell ⟨b6,1,none⟩ (.slice q9 b8.length k6))=J8;replace a6:=Zw2 hW_ a6 a8;replace a7:=Zw2 hW_ a7 a8;replace a4:Aside0 (J8.heap[d5]? =some (.cells #[.slice i9 b7.length i3,.slice i4 d4.length e6] 26 (0,0))):=⟨by rw[←hW_];exact Zbf a4⟩;replace a5:Aside0 (J8.heap[i5]? =some (.cells #[.slice none 0 0,.slice none 0 0] 26 (0,0))):=⟨by rw[←hW_];exact Zbf a5⟩;replace a8:Aside0 (J8.heap[b6]? =some (.cells #[.slice D4 d6.length k8,.slice q9 b8.length k6] 26 (0,0))):=⟨by rw[←hW_];refine Zrb ?_;refine blk_put (cs:= #[.slice D4 d6.length k8,.slice none 0 0]) ?_ 1 _ rfl;refine Zrb ?_;refine blk_put (cs:= #[.slice none 0 0,.slice none 0 0]) ?_ 0 _ rfl;refine Zrb ?_;exact a8.out⟩;replace HB:Aside0 (Below w.heap.size w J8):=⟨by rw[←hW_];exact Zl HB⟩;clear hW_;replace a6:=Zm (Kd.R_drew a6.out);replace a7:=Zm (Kd.R_drew a7.out);replace a4:=Zm (blk_drew a4.out);replace a5:=Zm (blk_drew a5.out);replace a8:=Zm (blk_drew a8.out);replace HB:=Zm (below_drew1 HB.out);have o3:0≤((d7):Int):=Zoa;have o4:(d7)<(b7.length:Int):=Zoa;obtain⟨i8,D5,f8⟩:=Kd.at_int n3.out (d7) o3 o4
   have l9:=f8
   cases D5
   replace f8:=(HB.out.cell (World.block_lt_of_cell? w _ f8)).trans f8
   replace o3:=eq_true o3
   replace o4:=eq_true o4
   have D6:0≤(a1:Int):=Zoa;have D7:(a1:Int)<((d6.length:Int):Int):=Zoa
   obtain⟨d8,R3,s7,s9,D8,R4,t0⟩:=Kd.R_form a6.out (by omega)
   (first|cases s7|(injection s7 with ea_ en_ ec_;(first|subst ea_|(injection ea_ with ea_;subst ea_));subst ec_;clear en_))
   have R5:=Aside0.mk s9;have D9:=Aside0.mk t0;clear s9 D8 t0
   obtain⟨o5,o6⟩:=Kd.R_celln 0 a6.out (a1:Int) D6 D7
   replace D6:=eq_true D6
   replace D7:=eq_true D7
   have E0:=Kd.R_putn a6.out (a1:Int) (rd b7 (d7))
   rw[←C4.out]at E0
   have J9:=Aside0.mk E0;clear E0
   refine start_ (n:=10) (S:=fun w'=>w'.cell? ⟨b6,0,none⟩=some (.slice (some ⟨d8,0,none⟩) d6.length k8)∧w'.cell? ⟨b6,1,none⟩=some (.slice q9 b8.length k6)∧w'.cell? ⟨d5,0,none⟩=some (.slice (some i8) b7.length i3)∧w'.cell? ⟨d5,1,none⟩=some (.slice i4 d4.length e6)∧w'.cell? (i8.add ((d7)).toNat)=some (.int .i64 (rd b7 (d7)))) (ds:= [9]) (fl 10 0) (by kernel_rfl) rfl rfl ⟨Zc0 a8 0,Zc0 a8 1,Zc0 a4 0,Zc0 a4 1,((HB.out.cell (World.block_lt_of_cell? w _ l9)).trans l9)⟩ (fun hHeld=> ?_);refine with_tabW spec_poTop.tab4 spec_poTop.bits4 (fun HT_ HW_=> ?_)
   generalize J8.drew=aW at a6 a7 a4 a5 a8 HB D9 J9 o6 o5 f8 hHeld ⊢;refine Yu 0 22 (fl 10 1) HT_ (h:= ?_);refine Yu 2 24 (fl 10 5) HT_ (h:= ?_);refine Yu 3 25 (fl 10 13) HT_ (h:= ?_);refine Yu 5 27 (fl 10 45) HT_ (h:= ?_);refine Yt 1 23 (fl 10 47) HT_ HW_ hHeld (h:= ?_);refine Yt 4 26 (fl 10 63) HT_ HW_ hHeld (h:= ?_);refine Yu 6 28 (fl 10 127) HT_ (h:= ?_);refine Yt 7 29 (fl 10 255) HT_ HW_ hHeld (h:= ?_);refine Yu 8 30 (fl 10 511) HT_ (h:= ?_)
   refine last_ (i:=9) (N:=none) (fl 10 1023) rfl rfl (one_of HT_.out (by kernel_rfl)) (by decide) (fun K hK=> ?_)
   refine skip_ (w1:= ?_) (by rfl) rfl ?_ ?_
   rotate_left
   ·
    go_simp
    rfl
   refine hK.out _ _ ?_
   clear hK K
   refine done_ (done_of HT_.out (by kernel_rfl)) ?_
   generalize hW_:(aW.setCell ⟨d8,(a1:Int).toNat,none⟩ (.int .i64 (rd b7 (d7))))=R6;replace a7:=Zwr hW_ a7 (fun k_ hk e_=>hk (by rw[e_];rfl));replace a4:=Zwb hW_ a4 a6;replace a5:=Zwb hW_ a5 a6;replace a8:=Zwb hW_ a8 a6;replace a6:Aside0 (Kd.R (Kd.int .i64) 3 R6 w.heap.size (fun k_=>Zn k_ (.slice q9 b8.length k6)) (.slice (some ⟨d8,0,none⟩) d6.length k8) H6):=⟨by rw[←hW_];exact Zr J9⟩;replace HB:Aside0 (Below w.heap.size w R6):=⟨by rw[←hW_];exact Zl HB⟩;clear hW_
   try go_wp2
   replace a6:=Zm (Kd.R_drew a6.out);replace a7:=Zm (Kd.R_drew a7.out);replace a4:=Zm (blk_drew a4.out);replace a5:=Zm (blk_drew a5.out);replace a8:=Zm (blk_drew a8.out);replace HB:=Zm (below_drew1 HB.out);have o7:0≤(a1:Int):=Zoa;have o8:a1<(b7.length:Int):=Zoa
   obtain⟨t8,E6,f9⟩:=Kd.at_int n3.out a1 o7 o8
   have m4:=f9
   obtain rfl:i8=t8:=(by injection E6)
   replace f9:=(HB.out.cell (World.block_lt_of_cell? w _ f9)).trans f9
   replace o7:=eq_true o7
   replace o8:=eq_true o8
   have E7:0≤((d7):Int):=Zoa;have E8:((d7):Int)<((d6.length:Int):Int):=Zoa
   obtain⟨o9,p3⟩:=Kd.R_celln 0 a6.out ((d7):Int) E7 E8
   replace E7:=eq_true E7
   replace E8:=eq_true E8
   have E9:=Kd.R_putn a6.out ((d7):Int) (rd b7 a1)
   rw[←C5.out]at E9
   have K0:=Aside0.mk E9;clear E9
   refine start_ (n:=10) (S:=fun w'=>w'.cell? ⟨b6,0,none⟩=some (.slice (some ⟨d8,0,none⟩) d6.length k8)∧w'.cell? ⟨b6,1,none⟩=some (.slice q9 b8.length k6)∧w'.cell? ⟨d5,0,none⟩=some (.slice (some i8) b7.length i3)∧w'.cell? ⟨d5,1,none⟩=some (.slice i4 d4.length e6)∧w'.cell? (i8.add (a1).toNat)=some (.int .i64 (rd b7 a1))) (ds:= [9]) (fl 10 0) (by kernel_rfl) rfl rfl ⟨Zc0 a8 0,Zc0 a8 1,Zc0 a4 0,Zc0 a4 1,((HB.out.cell (World.block_lt_of_cell? w _ m4)).trans m4)⟩ (fun hHeld=> ?_);refine with_tabW spec_poTop.tab5 spec_poTop.bits5 (fun HT_ HW_=> ?_)
   generalize R6.drew=aX at a6 a7 a4 a5 a8 HB K0 p3 o9 f9 hHeld ⊢;refine Yu 0 31 (fl 10 1) HT_ (h:= ?_);refine Yu 2 33 (fl 10 5) HT_ (h:= ?_);refine Yu 3 34 (fl 10 13) HT_ (h:= ?_);refine Yu 5 36 (fl 10 45) HT_ (h:= ?_);refine Yt 1 32 (fl 10 47) HT_ HW_ hHeld (h:= ?_);refine Yt 4 35 (fl 10 63) HT_ HW_ hHeld (h:= ?_);refine Yu 6 37 (fl 10 127) HT_ (h:= ?_);refine Yt 7 38 (fl 10 255) HT_ HW_ hHeld (h:= ?_);refine Yu 8 39 (fl 10 511) HT_ (h:= ?_)
   refine last_ (i:=9) (N:=none) (fl 10 1023) rfl rfl (one_of HT_.out (by kernel_rfl)) (by decide) (fun K hK=> ?_)
   refine skip_ (w1:= ?_) (by rfl) rfl ?_ ?_
   rotate_left
   ·
    go_simp
    rfl
   refine hK.out _ _ ?_
   clear hK K
   refine done_ (done_of HT_.out (by kernel_rfl)) ?_
   generalize hW_:(aX.setCell ⟨d8,((d7):Int).toNat,none⟩ (.int .i64 (rd b7 a1)))=R7;replace a7:=Zwr hW_ a7 (fun k_ hk e_=>hk (by rw[e_];rfl));replace a4:=Zwb hW_ a4 a6;replace a5:=Zwb hW_ a5 a6;replace a8:=Zwb hW_ a8 a6;replace a6:Aside0 (Kd.R (Kd.int .i64) 3 R7 w.heap.size (fun k_=>Zn k_ (.slice q9 b8.length k6)) (.slice (some ⟨d8,0,none⟩) d6.length k8) o0):=⟨by rw[←hW_];exact Zr K0⟩;replace HB:Aside0 (Below w.heap.size w R7):=⟨by rw[←hW_];exact Zl HB⟩;clear hW_
   try go_wp2
   replace a6:=Zm (Kd.R_drew a6.out);replace a7:=Zm (Kd.R_drew a7.out);replace a4:=Zm (blk_drew a4.out);replace a5:=Zm (blk_drew a5.out);replace a8:=Zm (blk_drew a8.out);replace HB:=Zm (below_drew1 HB.out);have p4:0≤((d7):Int):=Zoa;have p5:(d7)<(d4.length:Int):=Zoa
   obtain⟨k9,F0,g8⟩:=Kd.at_int l3.out (d7) p4 p5
   have m5:=g8
   cases F0
   replace g8:=(HB.out.cell (World.block_lt_of_cell? w _ g8)).trans g8
   replace p4:=eq_true p4
   replace p5:=eq_true p5
   have F1:0≤(a1:Int):=Zoa;have F2:(a1:Int)<((b8.length:Int):Int):=Zoa
   obtain⟨d9,R8,t9,y8,F3,R9,y9⟩:=Kd.R_form a7.out (by omega)
   (first|cases t9|(injection t9 with ea_ en_ ec_;(first|subst ea_|(injection ea_ with ea_;subst ea_));subst ec_;clear en_))
   have F4:=Aside0.mk y8;have F5:=Aside0.mk y9;clear y8 F3 y9
   obtain⟨p6,p7⟩:=Kd.R_celln 0 a7.out (a1:Int) F1 F2
   replace F1:=eq_true F1
   replace F2:=eq_true F2
   have F6:=Kd.R_putn a7.out (a1:Int) (rd d4 (d7))
   rw[←q6.out]at F6
   have K1:=Aside0.mk F6;clear F6
   refine start_ (n:=10) (S:=fun w'=>w'.cell? ⟨b6,0,none⟩=some (.slice (some ⟨d8,0,none⟩) d6.length k8)∧w'.cell? ⟨b6,1,none⟩=some (.slice (some ⟨d9,0,none⟩) b8.length k6)∧w'.cell? ⟨d5,0,none⟩=some (.slice (some i8) b7.length i3)∧w'.cell? ⟨d5,1,none⟩=some (.slice (some k9) d4.length e6)∧w'.cell? (k9.add ((d7)).toNat)=some (.int .i64 (rd d4 (d7)))) (ds:= [9]) (fl 10 0) (by kernel_rfl) rfl rfl ⟨Zc0 a8 0,Zc0 a8 1,Zc0 a4 0,Zc0 a4 1,((HB.out.cell (World.block_lt_of_cell? w _ m5)).trans m5)⟩ (fun hHeld=> ?_);refine with_tabW spec_poTop.tab6 spec_poTop.bits6 (fun HT_ HW_=> ?_)
   generalize R7.drew=aY at a6 a7 a4 a5 a8 HB F5 K1 p7 p6 g8 hHeld ⊢;refine Yu 0 40 (fl 10 1) HT_ (h:= ?_);refine Yu 2 42 (fl 10 5) HT_ (h:= ?_);refine Yu 3 43 (fl 10 13) HT_ (h:= ?_);refine Yu 5 45 (fl 10 45) HT_ (h:= ?_);refine Yt 1 41 (fl 10 47) HT_ HW_ hHeld (h:= ?_);refine Yt 4 44 (fl 10 63) HT_ HW_ hHeld (h:= ?_);refine Yu 6 46 (fl 10 127) HT_ (h:= ?_);refine Yt 7 47 (fl 10 255) HT_ HW_ hHeld (h:= ?_);refine Yu 8 48 (fl 10 511) HT_ (h:= ?_)
   refine last_ (i:=9) (N:=none) (fl 10 1023) rfl rfl (one_of HT_.out (by kernel_rfl)) (by decide) (fun K hK=> ?_)
   refine skip_ (w1:= ?_) (by rfl) rfl ?_ ?_
   rotate_left
   ·
    go_simp
    rfl
   refine hK.out _ _ ?_
   clear hK K
   refine done_ (done_of HT_.out (by kernel_rfl)) ?_
   generalize hW_:(aY.setCell ⟨d9,(a1:Int).toNat,none⟩ (.int .i64 (rd d4 (d7))))=S0;replace a6:=Zwr hW_ a6 (fun k_ hk e_=>hk (by rw[e_];rfl));replace a4:=Zwb hW_ a4 a7;replace a5:=Zwb hW_ a5 a7;replace a8:=Zwb hW_ a8 a7;replace a7:Aside0 (Kd.R (Kd.int .i64) 3 S0 w.heap.size (fun k_=>some k_≠(.slice (some ⟨d8,0,none⟩) d6.length k8:Value).ownBlock) (.slice (some ⟨d9,0,none⟩) b8.length k6) H7):=⟨by rw[←hW_];exact Zr K1⟩;replace HB:Aside0 (Below w.heap.size w S0):=⟨by rw[←hW_];exact Zl HB⟩;clear hW_
   try go_wp2
   replace a6:=Zm (Kd.R_drew a6.out);replace a7:=Zm (Kd.R_drew a7.out);replace a4:=Zm (blk_drew a4.out);replace a5:=Zm (blk_drew a5.out);replace a8:=Zm (blk_drew a8.out);replace HB:=Zm (below_drew1 HB.out);have p8:0≤(a1:Int):=Zoa;have p9:a1<(d4.length:Int):=Zoa
   obtain⟨z2,F7,g9⟩:=Kd.at_int l3.out a1 p8 p9
   have m6:=g9
   obtain rfl:k9=z2:=(by injection F7)
   replace g9:=(HB.out.cell (World.block_lt_of_cell? w _ g9)).trans g9
   replace p8:=eq_true p8
   replace p9:=eq_true p9
   have F8:0≤((d7):Int):=Zoa;have F9:((d7):Int)<((b8.length:Int):Int):=Zoa
   obtain⟨q3,q4⟩:=Kd.R_celln 0 a7.out ((d7):Int) F8 F9
   replace F8:=eq_true F8
   replace F9:=eq_true F9
   have G1:=Kd.R_putn a7.out ((d7):Int) (rd d4 a1)
   rw[←q7.out]at G1
   have K2:=Aside0.mk G1;clear G1
   refine start_ (n:=10) (S:=fun w'=>w'.cell? ⟨b6,0,none⟩=some (.slice (some ⟨d8,0,none⟩) d6.length k8)∧w'.cell? ⟨b6,1,none⟩=some (.slice (some ⟨d9,0,none⟩) b8.length k6)∧w'.cell? ⟨d5,0,none⟩=some (.slice (some i8) b7.length i3)∧w'.cell? ⟨d5,1,none⟩=some (.slice (some k9) d4.length e6)∧w'.cell? (k9.add (a1).toNat)=some (.int .i64 (rd d4 a1))) (ds:= [9]) (fl 10 0) (by kernel_rfl) rfl rfl ⟨Zc0 a8 0,Zc0 a8 1,Zc0 a4 0,Zc0 a4 1,((HB.out.cell (World.block_lt_of_cell? w _ m6)).trans m6)⟩ (fun hHeld=> ?_);refine with_tabW spec_poTop.tab7 spec_poTop.bits7 (fun HT_ HW_=> ?_)
   generalize S0.drew=aZ at a6 a7 a4 a5 a8 HB K2 q4 q3 g9 hHeld ⊢;refine Yu 0 49 (fl 10 1) HT_ (h:= ?_);refine Yu 2 51 (fl 10 5) HT_ (h:= ?_);refine Yu 3 52 (fl 10 13) HT_ (h:= ?_);refine Yu 5 54 (fl 10 45) HT_ (h:= ?_);refine Yt 1 50 (fl 10 47) HT_ HW_ hHeld (h:= ?_);refine Yt 4 53 (fl 10 63) HT_ HW_ hHeld (h:= ?_);refine Yu 6 55 (fl 10 127) HT_ (h:= ?_);refine Yt 7 56 (fl 10 255) HT_ HW_ hHeld (h:= ?_);refine Yu 8 57 (fl 10 511) HT_ (h:= ?_)
   refine last_ (i:=9) (N:=none) (fl 10 1023) rfl rfl (one_of HT_.out (by kernel_rfl)) (by decide) (fun K hK=> ?_)
   refine skip_ (w1:= ?_) (by rfl) rfl ?_ ?_
   rotate_left
   ·
    go_simp
    rfl
   refine hK.out _ _ ?_
   clear hK K
   refine done_ (done_of HT_.out (by kernel_rfl)) ?_
   generalize hW_:(aZ.setCell ⟨d9,((d7):Int).toNat,none⟩ (.int .i64 (rd d4 a1)))=M8;replace a6:=Zwr hW_ a6 (fun k_ hk e_=>hk (by rw[e_];rfl));replace a4:=Zwb hW_ a4 a7;replace a5:=Zwb hW_ a5 a7;replace a8:=Zwb hW_ a8 a7;replace a7:Aside0 (Kd.R (Kd.int .i64) 3 M8 w.heap.size (fun k_=>some k_≠(.slice (some ⟨d8,0,none⟩) d6.length k8:Value).ownBlock) (.slice (some ⟨d9,0,none⟩) b8.length k6) l8):=⟨by rw[←hW_];exact Zr K2⟩;replace HB:Aside0 (Below w.heap.size w M8):=⟨by rw[←hW_];exact Zl HB⟩;clear hW_;have W3:=b9.out;have W4:=a9.out;have W5:=d3.out;have W6:=c9.out;obtain⟨M9,N0,N1,N2⟩:=Z2 a8;have G2:0≤(0:Int):=(by omega);have G3:0<(l8.length:Int):=(by have h_:(0:Int)<((b8.length:Int):Int):=Zoa;first|(have e_:=(Kd.R_reads' a7.out).1;omega)|simpa only[q6.out,q7.out,List.length_set]using h_);have W7:((0:Int)<((b8.length:Int):Int))=True:=eq_true (of_decide_eq_true (by first|(with_reducible assumption)|assumption))
   (try have W8:(0<b8.length)=True:=eq_true (by have h_:(0:Int)<((b8.length:Int):Int):=Zoa;omega))
   obtain⟨K3,S1,m7⟩:=Kd.at_int (Kd.R_reads' a7.out).2.2 0 G2 G3;obtain rfl:(⟨d9,0,none⟩:Addr)=K3:=(by injection S1)
   (first|simp only[add_plain]at m7|simp only[add_at]at m7|simp only[Addr.add,Nat.zero_add]at m7|skip)
   have W9:(0<l8.length)=True:=eq_true (by omega)
   (try rw[show((0:Int)).toNat=0 from rfl]at m7)
   (try rw[Addr.add_zero']at m7)
   replace G2:=eq_true G2
   replace G3:=eq_true G3
   have S3:0≤(0:Int):=(by omega);have S4:(0:Int)<((b8.length:Int):Int):=Zoa;have bA:(0<b8.length)=True:=eq_true (by omega)
   obtain⟨z3,z4⟩:=Kd.R_celln 0 a7.out (0:Int) S3 S4
   (try rw[show((0:Int)).toNat=0 from rfl]at z3)
   (try simp only[Nat.reduceMul,Nat.zero_mul,Nat.zero_add,Nat.reduceAdd]at z3)
   (try rw[show((0:Int)).toNat=0 from rfl]at z4)
   (try simp only[Nat.reduceMul,Nat.zero_mul,Nat.zero_add,Nat.reduceAdd]at z4)
   replace S3:=eq_true S3
   replace S4:=eq_true S4
   obtain⟨C9,D0⟩:=Kd.R_celln 0 a7.out (0:Int) (by omega) (of_decide_eq_true (by first|(with_reducible assumption)|assumption))
   (try simp only[Int.reduceToNat,Int.toNat_zero,Int.toNat_ofNat,Nat.reduceMul,Nat.zero_mul,Nat.zero_add]at C9 D0)
   (try rw[show((0:Int)).toNat=0 from rfl]at C9)
   (try rw[show((0:Int)).toNat=0 from rfl]at D0)
   have G4:=Kd.R_putg a7.out (0:Int) (wrap64 ((rd l8 0) - 1))
   try go_wp2_with (first|((with_reducible refine gate_store (t:=3) (p:=65) rfl ?_);refine store_event (t:=3) (p:=65) (v:= ?S5) (w1:=(M8.setCell ⟨d9,(0:Int).toNat,none⟩ (.int .i64 (wrap64 ((rd l8 0) - 1))))) ?hg ?ho ?hn ?hr ?_;(case ho=>rfl);(case hg=>rfl);(case hn=>rfl);(case hr=>first|(go_simp;done)|(go_simp;rfl));intro K4 hw;have hg:M8.grownBy K4 (some d9):=(by rw[hw];exact G4.2);have hp_:Kd.R (Kd.int .i64) 3 K4 w.heap.size (fun k_=>some k_≠(.slice (some ⟨d8,0,none⟩) d6.length k8:Value).ownBlock) (.slice (some ⟨d9,0,none⟩) b8.length k6) n4:=(by rw[hw,C7.out];exact G4.1);clear G4;replace a4:=Zm (blk_grown (Zb a4) hg (Kd.R_ne a7.out a4.out (by decide)));replace a5:=Zm (blk_grown (Zb a5) hg (Kd.R_ne a7.out a5.out (by decide)));replace a6:=Zm (Kd.R_after (v:=(.slice (some ⟨d9,0,none⟩) b8.length k6)) (v1:=(.slice (some ⟨d9,0,none⟩) b8.length k6)) (ok:=(fun _ =>True)) (Zc a6) hg (.inl rfl));replace a8:=Zm (blk_grown (Zb a8) hg (Kd.R_ne a7.out a8.out (by decide)));replace a7:=Zm (hp_);replace HB:=Zm ((by rw[hw];exact below_set (HB.out) F4.out:Below w.heap.size w K4));clear hg hw hp_;obtain⟨N3,N4,N5,N6⟩:=Z2 a8;have G5:0≤(a1:Int):=Zoa;have G6:a1<(n4.length:Int):=(by have h_:(a1:Int)<((b8.length:Int):Int):=Zoa;first|(have e_:=(Kd.R_reads' a7.out).1;omega)|simpa only[q6.out,q7.out,C7.out,List.length_set]using h_);have X0:((a1:Int)<((b8.length:Int):Int))=True:=eq_true (of_decide_eq_true (by first|(with_reducible assumption)|assumption));obtain⟨K5,S6,n9⟩:=Kd.at_int (Kd.R_reads' a7.out).2.2 a1 G5 G6;obtain rfl:(⟨d9,0,none⟩:Addr)=K5:=(by injection S6);(first|simp only[add_plain]at n9|simp only[add_at]at n9|simp only[Addr.add,Nat.zero_add]at n9|skip);replace G5:=eq_true G5;replace G6:=eq_true G6;have S7:0≤(a1:Int):=Zoa;have S8:(a1:Int)<((b8.length:Int):Int):=Zoa;obtain⟨S9,T0⟩:=Kd.R_celln 0 a7.out (a1:Int) S7 S8;replace S7:=eq_true S7;replace S8:=eq_true S8;obtain⟨X1,X2⟩:=Kd.R_celln 0 a7.out (a1:Int) (of_decide_eq_true (by first|(with_reducible assumption)|assumption)) (of_decide_eq_true (by first|(with_reducible assumption)|assumption));have G7:=Kd.R_putg a7.out (a1:Int) (wrap64 ((rd n4 a1)+1)))|((with_reducible refine gate_store (t:=3) (p:=72) rfl ?_);refine store_event (t:=3) (p:=72) (v:= ?U0) (w1:=(K4.setCell ⟨d9,(a1:Int).toNat,none⟩ (.int .i64 (wrap64 ((rd n4 a1)+1))))) ?hg ?ho ?hn ?hr ?_;(case ho=>rfl);(case hg=>rfl);(case hn=>rfl);(case hr=>first|(go_simp;done)|(go_simp;rfl));intro U1 hw;have hg:K4.grownBy U1 (some d9):=(by rw[hw];exact G7.2);have hp_:Kd.R (Kd.int .i64) 3 U1 w.heap.size (fun k_=>some k_≠(.slice (some ⟨d8,0,none⟩) d6.length k8:Value).ownBlock) (.slice (some ⟨d9,0,none⟩) b8.length k6) R0:=(by rw[hw,I0.out];exact G7.1);clear G7;replace a4:=Zm (blk_grown (Zb a4) hg (Kd.R_ne a7.out a4.out (by decide)));replace a5:=Zm (blk_grown (Zb a5) hg (Kd.R_ne a7.out a5.out (by decide)));replace a6:=Zm (Kd.R_after (v:=(.slice (some ⟨d9,0,none⟩) b8.length k6)) (v1:=(.slice (some ⟨d9,0,none⟩) b8.length k6)) (ok:=(fun _ =>True)) (Zr a6) hg (.inl rfl));replace a8:=Zm (blk_grown (Zb a8) hg (Kd.R_ne a7.out a8.out (by decide)));replace a7:=Zm (hp_);replace HB:=Zm ((by rw[hw];exact below_set (HB.out) F4.out:Below w.heap.size w U1));clear hg hw hp_;obtain⟨N7,N8,N9,O0⟩:=Z2 a8;obtain⟨O1,O2,O3,O4⟩:=Z2 a5))
   refine bodyPost_ret (results_cell_row rfl _ _ i5 26 #[.slice (some ⟨d8,0,none⟩) d6.length k8,.slice (some ⟨d9,0,none⟩) b8.length k6] (0,0) _ rfl (by refine Zrb ?_;refine blk_put (cs:= #[.slice (some ⟨d8,0,none⟩) d6.length k8,.slice none 0 0]) ?_ 1 _ rfl;refine Zrb ?_;refine blk_put (cs:= #[.slice none 0 0,.slice none 0 0]) ?_ 0 _ rfl;refine Zrb ?_;exact a5.out) Try.underlying26 rfl (by kernel_rfl)) rfl ?_
   exact⟨_,_,by first|rfl|(simp[errW_none,errW_some]<;>rfl)|(simp only[←q8];first|rfl|(simp[errW_none,errW_some]<;>rfl))|(simp[*,errW_none,errW_some]<;>rfl),Zrr (Zfm a6 a5 (.slice (some ⟨d8,0,none⟩) d6.length k8) (.slice (some ⟨d9,0,none⟩) b8.length k6) (fun _ hk=>hk.1.2)),Zrr (Zfm a7 a5 (.slice (some ⟨d8,0,none⟩) d6.length k8) (.slice (some ⟨d9,0,none⟩) b8.length k6) (fun _ hk=>hk.1)),Zl HB⟩
  ·
   rw[if_neg D1]at H;have H8:((d7) == 0)=false:=beq_eq_false_iff_ne.mpr D1;have H9:((d7) != 0)=true:=bne_iff_ne.mpr D1
   obtain⟨rfl,rfl⟩:=Zs2 H;clear H
   go_enter Try.func39,Try.ntmps39
   try go_wp2_with (first|((with_reducible refine gate_dst (N:=2) rfl ?_);refine Zbe 2 #[.slice i9 b7.length i3,.slice i4 d4.length e6] 26 ?_;intro d5 hg bN hbox hb;have a4:=Zm (hbox);have I1:=Zx hg HB;have I2:=Zx hg HB;replace HB:=Zh HB hb;clear hb hbox hg)|((with_reducible refine gate_dst (N:=4) rfl ?_);refine Zbe 4 #[.slice none 0 0,.slice none 0 0] 26 ?_;intro i5 hg bB hbox hb;have a5:=Zm (hbox);have I3:=Zx hg HB;have I4:=Zx hg HB;replace HB:=Zh HB hb;have m8:=Zq hg a4;have m9:=Zp hg a4;replace a4:=Zk a4 hb;clear hb hbox hg;have X3:=m8.out;have X4:=m9.out;obtain⟨O5,O6,O7,O8⟩:=Z2 a4))
   replace a4:=Zm (blk_drew a4.out);replace a5:=Zm (blk_drew a5.out);replace HB:=Zm (below_drew1 HB.out)
   refine start_ (n:=9) (S:=fun w'=>w'.cell? ⟨d5,0,none⟩=some (.slice i9 b7.length i3)∧w'.cell? ⟨d5,1,none⟩=some (.slice i4 d4.length e6)) (ds:= []) (fl 9 0) (by kernel_rfl) rfl rfl ⟨Zc0 a4 0,Zc0 a4 1⟩ (fun hHeld=> ?_);refine with_tabW spec_poTop.tab2 spec_poTop.bits2 (fun HT_ HW_=> ?_)
   generalize bB.drew=bO at a4 a5 HB hHeld ⊢;refine Yu 0 11 (fl 9 1) HT_ (h:= ?_);refine Yu 3 14 (fl 9 9) HT_ (h:= ?_);refine Yt 1 12 (fl 9 11) HT_ HW_ hHeld (h:= ?_);refine Yt 4 15 (fl 9 27) HT_ HW_ hHeld (h:= ?_)
   refine join_ (σ:=Value × Value × Nat) 1 (fl 9 255) (fun s_=> [(13,s_.1),(16,s_.2.1),(6,.pointer (some ⟨s_.2.2,0,none⟩)),(17,.agg #[s_.1,s_.2.1])]) (fun s_ w'=>(w'.cell? ⟨d5,0,none⟩=some (.slice i9 b7.length i3)∧w'.cell? ⟨d5,1,none⟩=some (.slice i4 d4.length e6))∧(Kd.R (Kd.int .i64) 3 w' w.heap.size (fun k_=>Zn k_ s_.2.1) s_.1 d6)∧(Kd.R (Kd.int .i64) 3 w' w.heap.size (fun k_=>Zn k_ s_.1) s_.2.1 b8)∧(w'.heap[d5]? =some (.cells #[.slice i9 b7.length i3,.slice i4 d4.length e6] 26 (0,0)))∧(w'.heap[i5]? =some (.cells #[.slice none 0 0,.slice none 0 0] 26 (0,0)))∧(w'.heap[s_.2.2]? =some (.cells #[.slice none 0 0,.slice none 0 0] 26 (0,0)))∧(w.heap.size≤s_.2.2)∧(w.heap.size≤s_.2.2)∧(d5≠s_.2.2)∧(s_.2.2≠d5)∧(i5≠s_.2.2)∧(s_.2.2≠i5)∧(Below w.heap.size w w')) ?_ ?_
   rotate_left
   ·
    intro hCont
    refine two_ (i:=2) (j:=7) (Ni:=some 13) (Nj:=some 6) (fl 9 31) (fl 9 155) rfl rfl rfl rfl (two_of HT_.out (by kernel_rfl)) (by decide) (by decide) (fun K hK=> ?_) (fun K hK=> ?_)
    ·
     refine goes_ Try.func62 (by kernel_rfl) rfl #[.slice i9 b7.length i3] (by rfl) rfl rfl (by(try simp only[List.map_toArray,List.map_cons,List.map_nil]);first|done|rfl) ?_
     with_reducible refine(spec_l1Own.calls _ _ b7 d6 _ ?e7 ?e9 A3.out).mono ?_
     (case e7=>exact Zca (Kd.C_below n3.out HB.out))
     (case e9=>exact q5.out)
     rintro e bC ⟨n8,rfl,n5,hb⟩
     refine⟨_,rfl, ?_⟩
     have a6:=Zj n5 HB;replace a4:=Zk a4 hb;replace a5:=Zk a5 hb;replace HB:=Zh HB hb
     refine hK.out _ _ ⟨Zc0 a4 0,Zc0 a4 1⟩ (fun hHeld=> ?_)
     clear hK K;refine Yn 13 (h:= ?_)
     refine two_ (i:=5) (j:=7) (Ni:=some 16) (Nj:=some 6) (fl 9 63) (fl 9 159) rfl rfl rfl rfl (two_of HT_.out (by kernel_rfl)) (by decide) (by decide) (fun K hK=> ?_) (fun K hK=> ?_)
     ·
      refine goes_ Try.func62 (by kernel_rfl) rfl #[.slice i4 d4.length e6] (by rfl) rfl rfl (by(try simp only[List.map_toArray,List.map_cons,List.map_nil]);first|done|rfl) ?_
      with_reducible refine(spec_l1Own.calls _ _ d4 b8 _ ?e7 ?e9 A4.out).mono ?_
      (case e7=>exact Zca (Kd.C_below l3.out HB.out))
      (case e9=>exact n7.out)
      rintro e X5 ⟨n6,rfl,n5,hb⟩
      refine⟨_,rfl, ?_⟩
      have a7:=Zj (Zv n5 a6) HB;replace a6:=Zm (Kd.R_elder' (Zr a6) (Kd.R_base n5) hb);replace a4:=Zk a4 hb;replace a5:=Zk a5 hb;replace HB:=Zh HB hb;obtain⟨U2,U3,K6⟩:=Kd.R_slice a7.out
      (first|subst K6|(injection K6 with i6 l4 i7;have l5:=i6.symm;have l6:=i7.symm;clear i6 l4 i7;subst l5;subst l6))
      obtain⟨z5,z6,o2⟩:=Kd.R_slice a6.out
      (first|subst o2|(injection o2 with i6 l4 i7;have l5:=i6.symm;have l6:=i7.symm;clear i6 l4 i7;subst l5;subst l6))
      refine hK.out _ _ ⟨Zc0 a4 0,Zc0 a4 1⟩ (fun hHeld=> ?_)
      clear hK K;refine Yn 16 (h:= ?_);refine Yu 6 17 (fl 9 127) HT_ (h:= ?_)
      refine one_ (i:=7) (N:=some 6) (fl 9 255) rfl rfl (one_of HT_.out (by kernel_rfl)) (by decide) (fun K hK=> ?_)
      refine Zbs 6 #[.slice none 0 0,.slice none 0 0] 26 ?_
      intro b6 hg bP hbox hb
      replace a6:=Zo a6 hb;replace a7:=Zo a7 hb;have a8:=Zm (hbox);have k3:=Zx hg HB;have k4:=Zx hg HB;replace HB:=Zh HB hb;have a9:=Zq hg a4;have b9:=Zp hg a4;replace a4:=Zk a4 hb;have c9:=Zq hg a5;have d3:=Zp hg a5;replace a5:=Zk a5 hb;clear hb hbox hg
      refine hK.out _ _ ⟨Zc0 a4 0,Zc0 a4 1⟩ (fun hHeld=> ?_)
      clear hK K;refine Yn 6 (h:= ?_)
      exact norm_ (by simp only[putAll,Act.put,List.setIfInBounds_toArray,List.set_cons_zero,List.set_cons_succ]) (hCont (.slice z5 d6.length z6,.slice U2 b8.length U3,b6) _ ⟨hHeld,(Zc a6),(Zc a7),(Zb a4),(Zb a5),(Zb a8),k3.out,k4.out,a9.out,b9.out,c9.out,d3.out,(Zl HB)⟩)
     ·
      refine Zbs 6 #[.slice none 0 0,.slice none 0 0] 26 ?_
      intro b6 hg X5 hbox hb
      replace a6:=Zo a6 hb;have a8:=Zm (hbox);have k3:=Zx hg HB;have k4:=Zx hg HB;replace HB:=Zh HB hb;have a9:=Zq hg a4;have b9:=Zp hg a4;replace a4:=Zk a4 hb;have c9:=Zq hg a5;have d3:=Zp hg a5;replace a5:=Zk a5 hb;clear hb hbox hg
      refine hK.out _ _ ⟨Zc0 a4 0,Zc0 a4 1⟩ (fun hHeld=> ?_)
      clear hK K;refine Yn 6 (h:= ?_)
      refine one_ (i:=5) (N:=some 16) (fl 9 191) rfl rfl (one_of HT_.out (by kernel_rfl)) (by decide) (fun K hK=> ?_)
      refine goes_ Try.func62 (by kernel_rfl) rfl #[.slice i4 d4.length e6] (by rfl) rfl rfl (by(try simp only[List.map_toArray,List.map_cons,List.map_nil]);first|done|rfl) ?_
      with_reducible refine(spec_l1Own.calls _ _ d4 b8 _ ?e7 ?e9 A4.out).mono ?_
      (case e7=>exact Zca (Kd.C_below l3.out HB.out))
      (case e9=>exact n7.out)
      rintro e bD ⟨n6,rfl,n5,hb⟩
      refine⟨_,rfl, ?_⟩
      have a7:=Zj (Zv n5 a6) HB;replace a6:=Zm (Kd.R_elder' (Zr a6) (Kd.R_base n5) hb);replace a4:=Zk a4 hb;replace a5:=Zk a5 hb;replace a8:=Zk a8 hb;replace HB:=Zh HB hb;obtain⟨z5,z6,o2⟩:=Kd.R_slice a7.out
      (first|subst o2|(injection o2 with i6 l4 i7;have l5:=i6.symm;have l6:=i7.symm;clear i6 l4 i7;subst l5;subst l6))
      obtain⟨G8,G9,z7⟩:=Kd.R_slice a6.out
      (first|subst z7|(injection z7 with i6 l4 i7;have l5:=i6.symm;have l6:=i7.symm;clear i6 l4 i7;subst l5;subst l6))
      refine hK.out _ _ ⟨Zc0 a4 0,Zc0 a4 1⟩ (fun hHeld=> ?_)
      clear hK K;refine Yn 16 (h:= ?_);refine Yu 6 17 (fl 9 255) HT_ (h:= ?_)
      exact norm_ (by simp only[putAll,Act.put,List.setIfInBounds_toArray,List.set_cons_zero,List.set_cons_succ]) (hCont (.slice G8 d6.length G9,.slice z5 b8.length z6,b6) _ ⟨hHeld,(Zc a6),(Zc a7),(Zb a4),(Zb a5),(Zb a8),k3.out,k4.out,a9.out,b9.out,c9.out,d3.out,(Zl HB)⟩)
    ·
     refine Zbs 6 #[.slice none 0 0,.slice none 0 0] 26 ?_
     intro b6 hg bC hbox hb
     have a8:=Zm (hbox);have k3:=Zx hg HB;have k4:=Zx hg HB;replace HB:=Zh HB hb;have a9:=Zq hg a4;have b9:=Zp hg a4;replace a4:=Zk a4 hb;have c9:=Zq hg a5;have d3:=Zp hg a5;replace a5:=Zk a5 hb;clear hb hbox hg
     refine hK.out _ _ ⟨Zc0 a4 0,Zc0 a4 1⟩ (fun hHeld=> ?_)
     clear hK K;refine Yn 6 (h:= ?_)
     refine one_ (i:=2) (N:=some 13) (fl 9 159) rfl rfl (one_of HT_.out (by kernel_rfl)) (by decide) (fun K hK=> ?_)
     refine goes_ Try.func62 (by kernel_rfl) rfl #[.slice i9 b7.length i3] (by rfl) rfl rfl (by(try simp only[List.map_toArray,List.map_cons,List.map_nil]);first|done|rfl) ?_
     with_reducible refine(spec_l1Own.calls _ _ b7 d6 _ ?e7 ?e9 A3.out).mono ?_
     (case e7=>exact Zca (Kd.C_below n3.out HB.out))
     (case e9=>exact q5.out)
     rintro e X5 ⟨n8,rfl,n5,hb⟩
     refine⟨_,rfl, ?_⟩
     have a6:=Zj n5 HB;replace a4:=Zk a4 hb;replace a5:=Zk a5 hb;replace a8:=Zk a8 hb;replace HB:=Zh HB hb
     refine hK.out _ _ ⟨Zc0 a4 0,Zc0 a4 1⟩ (fun hHeld=> ?_)
     clear hK K;refine Yn 13 (h:= ?_)
     refine one_ (i:=5) (N:=some 16) (fl 9 191) rfl rfl (one_of HT_.out (by kernel_rfl)) (by decide) (fun K hK=> ?_)
     refine goes_ Try.func62 (by kernel_rfl) rfl #[.slice i4 d4.length e6] (by rfl) rfl rfl (by(try simp only[List.map_toArray,List.map_cons,List.map_nil]);first|done|rfl) ?_
     with_reducible refine(spec_l1Own.calls _ _ d4 b8 _ ?e7 ?e9 A4.out).mono ?_
     (case e7=>exact Zca (Kd.C_below l3.out HB.out))
     (case e9=>exact n7.out)
     rintro e bD ⟨n6,rfl,n5,hb⟩
     refine⟨_,rfl, ?_⟩
     have a7:=Zj (Zv n5 a6) HB;replace a6:=Zm (Kd.R_elder' (Zr a6) (Kd.R_base n5) hb);replace a4:=Zk a4 hb;replace a5:=Zk a5 hb;replace a8:=Zk a8 hb;replace HB:=Zh HB hb;obtain⟨z5,z6,o2⟩:=Kd.R_slice a7.out
     (first|subst o2|(injection o2 with i6 l4 i7;have l5:=i6.symm;have l6:=i7.symm;clear i6 l4 i7;subst l5;subst l6))
     obtain⟨G8,G9,z7⟩:=Kd.R_slice a6.out
     (first|subst z7|(injection z7 with i6 l4 i7;have l5:=i6.symm;have l6:=i7.symm;clear i6 l4 i7;subst l5;subst l6))
     refine hK.out _ _ ⟨Zc0 a4 0,Zc0 a4 1⟩ (fun hHeld=> ?_)
     clear hK K;refine Yn 16 (h:= ?_);refine Yu 6 17 (fl 9 255) HT_ (h:= ?_)
     exact norm_ (by simp only[putAll,Act.put,List.setIfInBounds_toArray,List.set_cons_zero,List.set_cons_succ]) (hCont (.slice G8 d6.length G9,.slice z5 b8.length z6,b6) _ ⟨hHeld,(Zc a6),(Zc a7),(Zb a4),(Zb a5),(Zb a8),k3.out,k4.out,a9.out,b9.out,c9.out,d3.out,(Zl HB)⟩)
   rintro⟨n8,n6,b6⟩ z9 ⟨hS_,I6,I7,I8,I9,J0,J1,J2,J3,J4,J5,r9,s6⟩;(have a6:Aside0 (Kd.R (Kd.int .i64) 3 z9 w.heap.size (fun k_=>Zn k_ n6) n8 d6):=⟨I6⟩;have a7:Aside0 (Kd.R (Kd.int .i64) 3 z9 w.heap.size (fun k_=>Zn k_ n8) n6 b8):=⟨I7⟩;replace a4:Aside0 (z9.heap[d5]? =some (.cells #[.slice i9 b7.length i3,.slice i4 d4.length e6] 26 (0,0))):=⟨I8⟩;replace a5:Aside0 (z9.heap[i5]? =some (.cells #[.slice none 0 0,.slice none 0 0] 26 (0,0))):=⟨I9⟩;have a8:Aside0 (z9.heap[b6]? =some (.cells #[.slice none 0 0,.slice none 0 0] 26 (0,0))):=⟨J0⟩;have k3:Aside0 (w.heap.size≤b6):=⟨J1⟩;have k4:Aside0 (w.heap.size≤b6):=⟨J2⟩;have a9:Aside0 (d5≠b6):=⟨J3⟩;have b9:Aside0 (b6≠d5):=⟨J4⟩;have c9:Aside0 (i5≠b6):=⟨J5⟩;have d3:Aside0 (b6≠i5):=⟨r9⟩;replace HB:Aside0 (Below w.heap.size w z9):=⟨s6⟩;clear I6 I7 I8 I9 J0 J1 J2 J3 J4 J5 r9 s6;have hHeld:z9.cell? ⟨d5,0,none⟩=some (.slice i9 b7.length i3)∧z9.cell? ⟨d5,1,none⟩=some (.slice i4 d4.length e6):=hS_);obtain⟨r5,n0,K7⟩:=Kd.R_slice a7.out
   (first|subst K7|(injection K7 with i6 l4 i7;have l5:=i6.symm;have l6:=i7.symm;clear i6 l4 i7;subst l5;subst l6))
   obtain⟨H1,l7,K8⟩:=Kd.R_slice a6.out
   (first|subst K8|(injection K8 with i6 l4 i7;have l5:=i6.symm;have l6:=i7.symm;clear i6 l4 i7;subst l5;subst l6))
   refine norm_ (a':= ?_) ?_ ?_
   rotate_left
   ·
    simp only[putAll,Act.put,List.setIfInBounds_toArray,List.set_cons_zero,List.set_cons_succ]
    rfl
   refine one_ (i:=8) (N:=none) (fl 9 511) rfl rfl (one_of HT_.out (by kernel_rfl)) (by decide) (fun K hK=> ?_)
   have bE:=Zc0 a8 0;have X6:=blk_frozen a8.out 0;have O9:=a9.out;have P0:=c9.out;have P1:=b9.out;have P2:=d3.out;have bF:=Zc0 a8 1;have X7:=blk_frozen a8.out 1;have P3:=a9.out;have P4:=c9.out;have P5:=b9.out;have P6:=d3.out
   refine skip_ (w1:= ?_) (by rfl) rfl ?_ ?_
   rotate_left
   ·
    go_simp
    rfl
   refine hK.out _ _ ⟨((cell_far (p:=⟨b6,_,none⟩) a9.out _).trans (((cell_far (p:=⟨b6,_,none⟩) a9.out _).trans (hHeld.1)))),((cell_far (p:=⟨b6,_,none⟩) a9.out _).trans (((cell_far (p:=⟨b6,_,none⟩) a9.out _).trans (hHeld.2))))⟩ (fun hHeld=> ?_)
   clear hK K
   refine done_ (done_of HT_.out (by kernel_rfl)) ?_
   try go_wp2
   generalize hW_:((z9.setCell ⟨b6,0,none⟩ (.slice H1 d6.length l7)).setCell ⟨b6,1,none⟩ (.slice r5 b8.length n0))=K9;replace a6:=Zw2 hW_ a6 a8;replace a7:=Zw2 hW_ a7 a8;replace a4:Aside0 (K9.heap[d5]? =some (.cells #[.slice i9 b7.length i3,.slice i4 d4.length e6] 26 (0,0))):=⟨by rw[←hW_];exact Zbf a4⟩;replace a5:Aside0 (K9.heap[i5]? =some (.cells #[.slice none 0 0,.slice none 0 0] 26 (0,0))):=⟨by rw[←hW_];exact Zbf a5⟩;replace a8:Aside0 (K9.heap[b6]? =some (.cells #[.slice H1 d6.length l7,.slice r5 b8.length n0] 26 (0,0))):=⟨by rw[←hW_];refine Zrb ?_;refine blk_put (cs:= #[.slice H1 d6.length l7,.slice none 0 0]) ?_ 1 _ rfl;refine Zrb ?_;refine blk_put (cs:= #[.slice none 0 0,.slice none 0 0]) ?_ 0 _ rfl;refine Zrb ?_;exact a8.out⟩;replace HB:Aside0 (Below w.heap.size w K9):=⟨by rw[←hW_];exact Zl HB⟩;clear hW_;replace a6:=Zm (Kd.R_drew a6.out);replace a7:=Zm (Kd.R_drew a7.out);replace a4:=Zm (blk_drew a4.out);replace a5:=Zm (blk_drew a5.out);replace a8:=Zm (blk_drew a8.out);replace HB:=Zm (below_drew1 HB.out);have o3:0≤((d7):Int):=Zoa;have o4:(d7)<(b7.length:Int):=Zoa;obtain⟨i8,D5,f8⟩:=Kd.at_int n3.out (d7) o3 o4
   have l9:=f8
   cases D5
   replace f8:=(HB.out.cell (World.block_lt_of_cell? w _ f8)).trans f8
   replace o3:=eq_true o3
   replace o4:=eq_true o4
   have D6:0≤(a1:Int):=Zoa;have D7:(a1:Int)<((d6.length:Int):Int):=Zoa
   obtain⟨d8,R3,s7,s9,D8,R4,t0⟩:=Kd.R_form a6.out (by omega)
   (first|cases s7|(injection s7 with ea_ en_ ec_;(first|subst ea_|(injection ea_ with ea_;subst ea_));subst ec_;clear en_))
   have R5:=Aside0.mk s9;have D9:=Aside0.mk t0;clear s9 D8 t0
   obtain⟨o5,o6⟩:=Kd.R_celln 0 a6.out (a1:Int) D6 D7
   replace D6:=eq_true D6
   replace D7:=eq_true D7
   have H2:=Kd.R_putn a6.out (a1:Int) (rd b7 (d7))
   rw[←C4.out]at H2
   have L2:=Aside0.mk H2;clear H2
   refine start_ (n:=10) (S:=fun w'=>w'.cell? ⟨b6,0,none⟩=some (.slice (some ⟨d8,0,none⟩) d6.length l7)∧w'.cell? ⟨b6,1,none⟩=some (.slice r5 b8.length n0)∧w'.cell? ⟨d5,0,none⟩=some (.slice (some i8) b7.length i3)∧w'.cell? ⟨d5,1,none⟩=some (.slice i4 d4.length e6)∧w'.cell? (i8.add ((d7)).toNat)=some (.int .i64 (rd b7 (d7)))) (ds:= [9]) (fl 10 0) (by kernel_rfl) rfl rfl ⟨Zc0 a8 0,Zc0 a8 1,Zc0 a4 0,Zc0 a4 1,((HB.out.cell (World.block_lt_of_cell? w _ l9)).trans l9)⟩ (fun hHeld=> ?_);refine with_tabW spec_poTop.tab4 spec_poTop.bits4 (fun HT_ HW_=> ?_)
   generalize K9.drew=bG at a6 a7 a4 a5 a8 HB D9 L2 o6 o5 f8 hHeld ⊢;refine Yu 0 22 (fl 10 1) HT_ (h:= ?_);refine Yu 2 24 (fl 10 5) HT_ (h:= ?_);refine Yu 3 25 (fl 10 13) HT_ (h:= ?_);refine Yu 5 27 (fl 10 45) HT_ (h:= ?_);refine Yt 1 23 (fl 10 47) HT_ HW_ hHeld (h:= ?_);refine Yt 4 26 (fl 10 63) HT_ HW_ hHeld (h:= ?_);refine Yu 6 28 (fl 10 127) HT_ (h:= ?_);refine Yt 7 29 (fl 10 255) HT_ HW_ hHeld (h:= ?_);refine Yu 8 30 (fl 10 511) HT_ (h:= ?_)
   refine last_ (i:=9) (N:=none) (fl 10 1023) rfl rfl (one_of HT_.out (by kernel_rfl)) (by decide) (fun K hK=> ?_)
   refine skip_ (w1:= ?_) (by rfl) rfl ?_ ?_
   rotate_left
   ·
    go_simp
    rfl
   refine hK.out _ _ ?_
   clear hK K
   refine done_ (done_of HT_.out (by kernel_rfl)) ?_
   generalize hW_:(bG.setCell ⟨d8,(a1:Int).toNat,none⟩ (.int .i64 (rd b7 (d7))))=U4;replace a7:=Zwr hW_ a7 (fun k_ hk e_=>hk (by rw[e_];rfl));replace a4:=Zwb hW_ a4 a6;replace a5:=Zwb hW_ a5 a6;replace a8:=Zwb hW_ a8 a6;replace a6:Aside0 (Kd.R (Kd.int .i64) 3 U4 w.heap.size (fun k_=>Zn k_ (.slice r5 b8.length n0)) (.slice (some ⟨d8,0,none⟩) d6.length l7) H6):=⟨by rw[←hW_];exact Zr L2⟩;replace HB:Aside0 (Below w.heap.size w U4):=⟨by rw[←hW_];exact Zl HB⟩;clear hW_
   try go_wp2
   replace a6:=Zm (Kd.R_drew a6.out);replace a7:=Zm (Kd.R_drew a7.out);replace a4:=Zm (blk_drew a4.out);replace a5:=Zm (blk_drew a5.out);replace a8:=Zm (blk_drew a8.out);replace HB:=Zm (below_drew1 HB.out);have o7:0≤(a1:Int):=Zoa;have o8:a1<(b7.length:Int):=Zoa
   obtain⟨t8,E6,f9⟩:=Kd.at_int n3.out a1 o7 o8
   have m4:=f9
   obtain rfl:i8=t8:=(by injection E6)
   replace f9:=(HB.out.cell (World.block_lt_of_cell? w _ f9)).trans f9
   replace o7:=eq_true o7
   replace o8:=eq_true o8
   have E7:0≤((d7):Int):=Zoa;have E8:((d7):Int)<((d6.length:Int):Int):=Zoa
   obtain⟨o9,p3⟩:=Kd.R_celln 0 a6.out ((d7):Int) E7 E8
   replace E7:=eq_true E7
   replace E8:=eq_true E8
   have H3:=Kd.R_putn a6.out ((d7):Int) (rd b7 a1)
   rw[←C5.out]at H3
   have L3:=Aside0.mk H3;clear H3
   refine start_ (n:=10) (S:=fun w'=>w'.cell? ⟨b6,0,none⟩=some (.slice (some ⟨d8,0,none⟩) d6.length l7)∧w'.cell? ⟨b6,1,none⟩=some (.slice r5 b8.length n0)∧w'.cell? ⟨d5,0,none⟩=some (.slice (some i8) b7.length i3)∧w'.cell? ⟨d5,1,none⟩=some (.slice i4 d4.length e6)∧w'.cell? (i8.add (a1).toNat)=some (.int .i64 (rd b7 a1))) (ds:= [9]) (fl 10 0) (by kernel_rfl) rfl rfl ⟨Zc0 a8 0,Zc0 a8 1,Zc0 a4 0,Zc0 a4 1,((HB.out.cell (World.block_lt_of_cell? w _ m4)).trans m4)⟩ (fun hHeld=> ?_);refine with_tabW spec_poTop.tab5 spec_poTop.bits5 (fun HT_ HW_=> ?_)
   generalize U4.drew=bH at a6 a7 a4 a5 a8 HB L3 p3 o9 f9 hHeld ⊢;refine Yu 0 31 (fl 10 1) HT_ (h:= ?_);refine Yu 2 33 (fl 10 5) HT_ (h:= ?_);refine Yu 3 34 (fl 10 13) HT_ (h:= ?_);refine Yu 5 36 (fl 10 45) HT_ (h:= ?_);refine Yt 1 32 (fl 10 47) HT_ HW_ hHeld (h:= ?_);refine Yt 4 35 (fl 10 63) HT_ HW_ hHeld (h:= ?_);refine Yu 6 37 (fl 10 127) HT_ (h:= ?_);refine Yt 7 38 (fl 10 255) HT_ HW_ hHeld (h:= ?_);refine Yu 8 39 (fl 10 511) HT_ (h:= ?_)
   refine last_ (i:=9) (N:=none) (fl 10 1023) rfl rfl (one_of HT_.out (by kernel_rfl)) (by decide) (fun K hK=> ?_)
   refine skip_ (w1:= ?_) (by rfl) rfl ?_ ?_
   rotate_left
   ·
    go_simp
    rfl
   refine hK.out _ _ ?_
   clear hK K
   refine done_ (done_of HT_.out (by kernel_rfl)) ?_
   generalize hW_:(bH.setCell ⟨d8,((d7):Int).toNat,none⟩ (.int .i64 (rd b7 a1)))=U5;replace a7:=Zwr hW_ a7 (fun k_ hk e_=>hk (by rw[e_];rfl));replace a4:=Zwb hW_ a4 a6;replace a5:=Zwb hW_ a5 a6;replace a8:=Zwb hW_ a8 a6;replace a6:Aside0 (Kd.R (Kd.int .i64) 3 U5 w.heap.size (fun k_=>Zn k_ (.slice r5 b8.length n0)) (.slice (some ⟨d8,0,none⟩) d6.length l7) o0):=⟨by rw[←hW_];exact Zr L3⟩;replace HB:Aside0 (Below w.heap.size w U5):=⟨by rw[←hW_];exact Zl HB⟩;clear hW_
   try go_wp2
   replace a6:=Zm (Kd.R_drew a6.out);replace a7:=Zm (Kd.R_drew a7.out);replace a4:=Zm (blk_drew a4.out);replace a5:=Zm (blk_drew a5.out);replace a8:=Zm (blk_drew a8.out);replace HB:=Zm (below_drew1 HB.out);have p4:0≤((d7):Int):=Zoa;have p5:(d7)<(d4.length:Int):=Zoa
   obtain⟨k9,F0,g8⟩:=Kd.at_int l3.out (d7) p4 p5
   have m5:=g8
   cases F0
   replace g8:=(HB.out.cell (World.block_lt_of_cell? w _ g8)).trans g8
   replace p4:=eq_true p4
   replace p5:=eq_true p5
   have F1:0≤(a1:Int):=Zoa;have F2:(a1:Int)<((b8.length:Int):Int):=Zoa
   obtain⟨d9,R8,t9,y8,F3,R9,y9⟩:=Kd.R_form a7.out (by omega)
   (first|cases t9|(injection t9 with ea_ en_ ec_;(first|subst ea_|(injection ea_ with ea_;subst ea_));subst ec_;clear en_))
   have F4:=Aside0.mk y8;have F5:=Aside0.mk y9;clear y8 F3 y9
   obtain⟨p6,p7⟩:=Kd.R_celln 0 a7.out (a1:Int) F1 F2
   replace F1:=eq_true F1
   replace F2:=eq_true F2
   have H4:=Kd.R_putn a7.out (a1:Int) (rd d4 (d7))
   rw[←q6.out]at H4
   have L4:=Aside0.mk H4;clear H4
   refine start_ (n:=10) (S:=fun w'=>w'.cell? ⟨b6,0,none⟩=some (.slice (some ⟨d8,0,none⟩) d6.length l7)∧w'.cell? ⟨b6,1,none⟩=some (.slice (some ⟨d9,0,none⟩) b8.length n0)∧w'.cell? ⟨d5,0,none⟩=some (.slice (some i8) b7.length i3)∧w'.cell? ⟨d5,1,none⟩=some (.slice (some k9) d4.length e6)∧w'.cell? (k9.add ((d7)).toNat)=some (.int .i64 (rd d4 (d7)))) (ds:= [9]) (fl 10 0) (by kernel_rfl) rfl rfl ⟨Zc0 a8 0,Zc0 a8 1,Zc0 a4 0,Zc0 a4 1,((HB.out.cell (World.block_lt_of_cell? w _ m5)).trans m5)⟩ (fun hHeld=> ?_);refine with_tabW spec_poTop.tab6 spec_poTop.bits6 (fun HT_ HW_=> ?_)
   generalize U5.drew=bI at a6 a7 a4 a5 a8 HB F5 L4 p7 p6 g8 hHeld ⊢;refine Yu 0 40 (fl 10 1) HT_ (h:= ?_);refine Yu 2 42 (fl 10 5) HT_ (h:= ?_);refine Yu 3 43 (fl 10 13) HT_ (h:= ?_);refine Yu 5 45 (fl 10 45) HT_ (h:= ?_);refine Yt 1 41 (fl 10 47) HT_ HW_ hHeld (h:= ?_);refine Yt 4 44 (fl 10 63) HT_ HW_ hHeld (h:= ?_);refine Yu 6 46 (fl 10 127) HT_ (h:= ?_);refine Yt 7 47 (fl 10 255) HT_ HW_ hHeld (h:= ?_);refine Yu 8 48 (fl 10 511) HT_ (h:= ?_)
   refine last_ (i:=9) (N:=none) (fl 10 1023) rfl rfl (one_of HT_.out (by kernel_rfl)) (by decide) (fun K hK=> ?_)
   refine skip_ (w1:= ?_) (by rfl) rfl ?_ ?_
   rotate_left
   ·
    go_simp
    rfl
   refine hK.out _ _ ?_
   clear hK K
   refine done_ (done_of HT_.out (by kernel_rfl)) ?_
   generalize hW_:(bI.setCell ⟨d9,(a1:Int).toNat,none⟩ (.int .i64 (rd d4 (d7))))=U6;replace a6:=Zwr hW_ a6 (fun k_ hk e_=>hk (by rw[e_];rfl));replace a4:=Zwb hW_ a4 a7;replace a5:=Zwb hW_ a5 a7;replace a8:=Zwb hW_ a8 a7;replace a7:Aside0 (Kd.R (Kd.int .i64) 3 U6 w.heap.size (fun k_=>some k_≠(.slice (some ⟨d8,0,none⟩) d6.length l7:Value).ownBlock) (.slice (some ⟨d9,0,none⟩) b8.length n0) H7):=⟨by rw[←hW_];exact Zr L4⟩;replace HB:Aside0 (Below w.heap.size w U6):=⟨by rw[←hW_];exact Zl HB⟩;clear hW_
   try go_wp2
   replace a6:=Zm (Kd.R_drew a6.out);replace a7:=Zm (Kd.R_drew a7.out);replace a4:=Zm (blk_drew a4.out);replace a5:=Zm (blk_drew a5.out);replace a8:=Zm (blk_drew a8.out);replace HB:=Zm (below_drew1 HB.out);have p8:0≤(a1:Int):=Zoa;have p9:a1<(d4.length:Int):=Zoa
   obtain⟨z2,F7,g9⟩:=Kd.at_int l3.out a1 p8 p9
   have m6:=g9
   obtain rfl:k9=z2:=(by injection F7)
   replace g9:=(HB.out.cell (World.block_lt_of_cell? w _ g9)).trans g9
   replace p8:=eq_true p8
   replace p9:=eq_true p9
   have F8:0≤((d7):Int):=Zoa;have F9:((d7):Int)<((b8.length:Int):Int):=Zoa
   obtain⟨q3,q4⟩:=Kd.R_celln 0 a7.out ((d7):Int) F8 F9
   replace F8:=eq_true F8
   replace F9:=eq_true F9
   have H5:=Kd.R_putn a7.out ((d7):Int) (rd d4 a1)
   rw[←q7.out]at H5
   have L5:=Aside0.mk H5;clear H5
   refine start_ (n:=10) (S:=fun w'=>w'.cell? ⟨b6,0,none⟩=some (.slice (some ⟨d8,0,none⟩) d6.length l7)∧w'.cell? ⟨b6,1,none⟩=some (.slice (some ⟨d9,0,none⟩) b8.length n0)∧w'.cell? ⟨d5,0,none⟩=some (.slice (some i8) b7.length i3)∧w'.cell? ⟨d5,1,none⟩=some (.slice (some k9) d4.length e6)∧w'.cell? (k9.add (a1).toNat)=some (.int .i64 (rd d4 a1))) (ds:= [9]) (fl 10 0) (by kernel_rfl) rfl rfl ⟨Zc0 a8 0,Zc0 a8 1,Zc0 a4 0,Zc0 a4 1,((HB.out.cell (World.block_lt_of_cell? w _ m6)).trans m6)⟩ (fun hHeld=> ?_);refine with_tabW spec_poTop.tab7 spec_poTop.bits7 (fun HT_ HW_=> ?_)
   generalize U6.drew=bJ at a6 a7 a4 a5 a8 HB L5 q4 q3 g9 hHeld ⊢;refine Yu 0 49 (fl 10 1) HT_ (h:= ?_);refine Yu 2 51 (fl 10 5) HT_ (h:= ?_);refine Yu 3 52 (fl 10 13) HT_ (h:= ?_);refine Yu 5 54 (fl 10 45) HT_ (h:= ?_);refine Yt 1 50 (fl 10 47) HT_ HW_ hHeld (h:= ?_);refine Yt 4 53 (fl 10 63) HT_ HW_ hHeld (h:= ?_);refine Yu 6 55 (fl 10 127) HT_ (h:= ?_);refine Yt 7 56 (fl 10 255) HT_ HW_ hHeld (h:= ?_);refine Yu 8 57 (fl 10 511) HT_ (h:= ?_)
   refine last_ (i:=9) (N:=none) (fl 10 1023) rfl rfl (one_of HT_.out (by kernel_rfl)) (by decide) (fun K hK=> ?_)
   refine skip_ (w1:= ?_) (by rfl) rfl ?_ ?_
   rotate_left
   ·
    go_simp
    rfl
   refine hK.out _ _ ?_
   clear hK K
   refine done_ (done_of HT_.out (by kernel_rfl)) ?_
   generalize hW_:(bJ.setCell ⟨d9,((d7):Int).toNat,none⟩ (.int .i64 (rd d4 a1)))=X8;replace a6:=Zwr hW_ a6 (fun k_ hk e_=>hk (by rw[e_];rfl));replace a4:=Zwb hW_ a4 a7;replace a5:=Zwb hW_ a5 a7;replace a8:=Zwb hW_ a8 a7;replace a7:Aside0 (Kd.R (Kd.int .i64) 3 X8 w.heap.size (fun k_=>some k_≠(.slice (some ⟨d8,0,none⟩) d6.length l7:Value).ownBlock) (.slice (some ⟨d9,0,none⟩) b8.length n0) l8):=⟨by rw[←hW_];exact Zr L5⟩;replace HB:Aside0 (Below w.heap.size w X8):=⟨by rw[←hW_];exact Zl HB⟩;clear hW_;have X9:=b9.out;have aA:=a9.out;have aC:=d3.out;have aD:=c9.out;obtain⟨P7,P8,P9,Q0⟩:=Z2 a8;obtain⟨Q4,Q5,Q6,Q7⟩:=Z2 a5
   try go_wp2
   refine bodyPost_ret (results_cell_row rfl _ _ i5 26 #[.slice (some ⟨d8,0,none⟩) d6.length l7,.slice (some ⟨d9,0,none⟩) b8.length n0] (0,0) _ rfl (by refine Zrb ?_;refine blk_put (cs:= #[.slice (some ⟨d8,0,none⟩) d6.length l7,.slice none 0 0]) ?_ 1 _ rfl;refine Zrb ?_;refine blk_put (cs:= #[.slice none 0 0,.slice none 0 0]) ?_ 0 _ rfl;refine Zrb ?_;exact a5.out) Try.underlying26 rfl (by kernel_rfl)) rfl ?_
   exact⟨_,_,by first|rfl|(simp[errW_none,errW_some]<;>rfl)|(simp only[←q8];first|rfl|(simp[errW_none,errW_some]<;>rfl))|(simp[*,errW_none,errW_some]<;>rfl),Zrr (Zfm a6 a5 (.slice (some ⟨d8,0,none⟩) d6.length l7) (.slice (some ⟨d9,0,none⟩) b8.length n0) (fun _ hk=>hk.1)),Zrr (Zfm a7 a5 (.slice (some ⟨d8,0,none⟩) d6.length l7) (.slice (some ⟨d9,0,none⟩) b8.length n0) (fun _ hk=>hk.1)),Zl HB⟩
 ·
  rw[if_neg c7]at H
  exact absurd H (by simp)
mutual
def spec_LeastPole.j0:Nat→Bool→List Int→List Int→Option (Int × List Int × Bool)
 |0,_,_,_ =>none
 |k+1,b6,a4,a5=>if b6=true then(some (0,([]:List Int),false))else(spec_LeastPole.l0 k 0 a4 a5 (a4.length:Int) ([]:List Int))
def spec_LeastPole.l0:Nat→Int→List Int→List Int→Int→List Int→Option (Int × List Int × Bool)
 |0,_,_,_,_,_ =>none
 |k+1,x5,a4,a5,a7,a6=>if x5≤60 then((spec_poDescents.f k a4 a5).bind fun a8=>(if(a8.length:Int)=0 then(some (a7,a6,true))else(if 0<(a8.length:Int)then(if a6.length<17592186044416 then((spec_poTop.f a4 a5 (rd a8 0)).bind fun a9=>(spec_LeastPole.l0 k (wrap64 (x5+1)) a9.1 a9.2 a7 (a6++ [rd a8 0])))else(none))else(none))))else(some (a7,a6,true))
end
def spec_LeastPole.f (k:Nat) (a4:List Int) (a5:List Int):Option (Int × List Int × Bool):=(spec_poTurned.f k a4 a5).bind fun a6=>(if a6=true then((spec_poInversions.f k a4 a5).bind fun a7=>(spec_LeastPole.j0 k (decide (a7>60)) a4 a5))else(spec_LeastPole.j0 k true a4 a5))
def spec_LeastPole.T9:Bool × List (List Nat × List Nat):=(true,[([],[]),([0],[0]),([],[]),([2],[2]),([3],[3]),([4],[4]),([1,5],[1,5]),([0,1,2,3,4,5,6],[]),([7,6,6,0,1,2,3,4,5,6],[6,7])])
def spec_LeastPole.B9:List Nat:= [0,1,0,4,12,28,63,127,255]
theorem spec_LeastPole.tab9:rtab .any (opsOf Try.f7 9)=spec_LeastPole.T9:=by kernel_rfl
theorem spec_LeastPole.bits9:waitsOk spec_LeastPole.T9.2 spec_LeastPole.B9=true:=by kernel_rfl
set_option maxHeartbeats 8000000 in
set_option maxRecDepth 100000 in
theorem spec_LeastPole.calls (k:Nat) (g8:Nat→Prop) (l4:Option Addr) (l5:Nat) (c9:List Int) (g9:Nat→Prop) (l6:Option Addr) (l7:Nat) (f8:List Int) (r1:Int) (r2:List Int) (r3:Bool) (w:World) (p6:Kd.V (Kd.int .i64) 3 w w.heap.size (fun k_=>g8 k_) (.slice l4 c9.length l5) c9) (p7:Kd.V (Kd.int .i64) 3 w w.heap.size (fun k_=>g9 k_) (.slice l6 f8.length l7) f8) (h:spec_LeastPole.f k c9 f8=some (r1,r2,r3)):
  Calls Try.prog 7 #[.agg #[.slice l4 c9.length l5,.slice l6 f8.length l7]] w fun e w'=> ∃J0:Value,e= .returned (.tuple #[.agg #[.int .i64 r1,J0],.bool r3])∧Kd.R (Kd.int .i64) 3 w' w.heap.size (fun k_=>(w.heap.size≤k_)) J0 r2∧Below w.heap.size w w':=by
 have N9:=Try.underlying26;have O0:=Try.underlying29;have d8:=Zm (show Kd.V (Kd.int .i64) 3 w w.heap.size (fun k_=>((g8 k_∨g9 k_)∨w.heap.size≤k_)) (.slice l4 c9.length l5) c9 from Kd.V_mono p6 (fun k_ hk=> .inl (.inl hk)));have d9:=Zm (show Kd.V (Kd.int .i64) 3 w w.heap.size (fun k_=>((g8 k_∨g9 k_)∨w.heap.size≤k_)) (.slice l6 f8.length l7) f8 from Kd.V_mono p7 (fun k_ hk=> .inl (.inr hk)));have HB:=Zm (Below.refl w.heap.size w);have H:((spec_poTurned.f k c9 f8).bind fun o8=>(if o8=true then((spec_poInversions.f k c9 f8).bind fun n8=>(spec_LeastPole.j0 k (decide (n8>60)) c9 f8))else(spec_LeastPole.j0 k true c9 f8)))=some (r1,r2,r3):=h;clear h;have G9:=Aside0.mk H;clear H
 go_enter Try.func7,Try.ntmps7
 go_upto_region 1 with(first|((with_reducible refine gate_dst (N:=1) rfl ?_);refine Zbe 1 #[.slice l4 c9.length l5,.slice l6 f8.length l7] 26 ?_;intro d6 hg w3 hbox hb;replace d8:=Zm (Kd.V_below (Kd.V_elderB (Zva d8) d6 (Nat.le_of_eq hg.symm)) hb);replace d9:=Zm (Kd.V_below (Kd.V_elderB (Zva d9) d6 (Nat.le_of_eq hg.symm)) hb);have a7:=Zm (hbox);have J1:=Zx hg HB;have J2:=Zx hg HB;replace HB:=Zh HB hb;clear hb hbox hg)|((with_reducible refine gate_dst (N:=2) rfl ?_);refine Zbe 2 #[.int .i64 0,.slice none 0 0] 29 ?_;intro e9 hg w4 hbox hb;replace d8:=Zm (Kd.V_below (Kd.V_elderB (Zva d8) e9 (Nat.le_of_eq hg.symm)) hb);replace d9:=Zm (Kd.V_below (Kd.V_elderB (Zva d9) e9 (Nat.le_of_eq hg.symm)) hb);have a8:=Zm (hbox);have J3:=Zx hg HB;have J4:=Zx hg HB;replace HB:=Zh HB hb;have d3:=Zq hg a7;have d4:=Zp hg a7;replace a7:=Zk a7 hb;clear hb hbox hg))
 (try simp only[Act.put,List.setIfInBounds_toArray,List.set_cons_zero,List.set_cons_succ])
 go_cut [14] (fun O1 wc=> ∃(kq:Nat) (m9:Bool),O1= .bool m9∧Aside0 (spec_LeastPole.j0 kq m9 c9 f8=some (r1,r2,r3))∧Aside0 (kq≤k)∧Aside0 (Kd.V (Kd.int .i64) 3 wc w.heap.size (fun k_=>((g8 k_∨g9 k_)∨w.heap.size≤k_)∧k_≠d6∧k_≠e9) (.slice l4 c9.length l5) c9)∧Aside0 (Kd.V (Kd.int .i64) 3 wc w.heap.size (fun k_=>((g8 k_∨g9 k_)∨w.heap.size≤k_)∧k_≠d6∧k_≠e9) (.slice l6 f8.length l7) f8)∧Aside0 (wc.heap[d6]? =some (.cells #[(.slice l4 c9.length l5),(.slice l6 f8.length l7)] 26 (0,0)))∧Aside0 (wc.heap[e9]? =some (.cells #[.int .i64 0,(.slice none 0 0)] 29 (0,0)))∧Aside0 (Below w.heap.size w wc))
 case first=>
  have H:=G9.out;clear G9;replace H:=Zb0 H;obtain⟨o8,A5,H⟩:=H
  by_cases c6:o8=true
  ·
   subst c6
   rw[if_pos rfl]at H
   replace H:=Zb0 H;obtain⟨n8,A7,H⟩:=H;have H':=Aside0.mk H;clear H;have O2:=d3.out;have O3:=d4.out;obtain⟨H1,H2,H3,H4⟩:=Z2 a7
   go_wp2_with (first|((with_reducible refine gate_callee (f:=36) rfl ?_);refine Ga (some 8) Try.func36 #[.agg #[.slice l4 c9.length l5,.slice l6 f8.length l7]] (h:= ?_);(with_reducible refine(spec_poTurned.calls k _ _ c9 _ _ f8 true _ ?i3 ?i4 ?i5 ?i6 A5.out).mono ?_);(case i3=>exact Zca (Kd.V_reads' d8.out).2.2);(case i4=>exact(Kd.V_reads' d8.out).2.1);(case i5=>exact Zca (Kd.V_reads' d9.out).2.2);(case i6=>exact(Kd.V_reads' d9.out).2.1);rintro e P6 ⟨rfl,hb⟩;refine⟨_,rfl, ?_⟩;replace d8:=Zm (Kd.V_below (Zva d8) hb);replace d9:=Zm (Kd.V_below (Zva d9) hb);replace a7:=Zk a7 hb;replace a8:=Zk a8 hb;replace HB:=Zh HB hb;obtain⟨t0,t8,t9,y8⟩:=Z2 a7)|(go_at_call 37;(with_reducible refine(spec_poInversions.calls k _ _ c9 _ _ f8 n8 _ ?i3 ?i4 ?i5 ?i6 A7.out).mono ?_);(case i3=>exact Zca (Kd.V_reads' d8.out).2.2);(case i4=>exact(Kd.V_reads' d8.out).2.1);(case i5=>exact Zca (Kd.V_reads' d9.out).2.2);(case i6=>exact(Kd.V_reads' d9.out).2.1);rintro e P7 ⟨rfl,hb⟩;replace d8:=Zm (Kd.V_below (Zva d8) hb);replace d9:=Zm (Kd.V_below (Zva d9) hb);replace a7:=Zk a7 hb;replace a8:=Zk a8 hb;replace HB:=Zh HB hb))
   go_meet
   case rel=>exact⟨_,(decide (n8>60)),Zs,H',⟨by first|omega|exact Nat.le_refl _⟩,⟨Zrv (Kd.V_mono d8.out (fun _ hk=>⟨hk.1.1,⟨hk.1.2,hk.2⟩⟩))⟩,⟨Zrv (Kd.V_mono d9.out (fun _ hk=>⟨hk.1.1,⟨hk.1.2,hk.2⟩⟩))⟩,⟨Zb a7⟩,⟨Zb a8⟩,⟨Zl HB⟩⟩
  ·
   replace c6:=Bool.eq_false_iff.mpr c6
   subst c6
   rw[if_neg Bool.false_ne_true]at H
   have H':=Aside0.mk H;clear H;have J5:=d3.out;have J6:=d4.out;obtain⟨y9,z2,z3,z4⟩:=Z2 a7
   go_wp2_with (first|((with_reducible refine gate_callee (f:=36) rfl ?_);refine Ga (some 8) Try.func36 #[.agg #[.slice l4 c9.length l5,.slice l6 f8.length l7]] (h:= ?_);(with_reducible refine(spec_poTurned.calls k _ _ c9 _ _ f8 false _ ?i3 ?i4 ?i5 ?i6 A5.out).mono ?_);(case i3=>exact Zca (Kd.V_reads' d8.out).2.2);(case i4=>exact(Kd.V_reads' d8.out).2.1);(case i5=>exact Zca (Kd.V_reads' d9.out).2.2);(case i6=>exact(Kd.V_reads' d9.out).2.1);rintro e P8 ⟨rfl,hb⟩;refine⟨_,rfl, ?_⟩;replace d8:=Zm (Kd.V_below (Zva d8) hb);replace d9:=Zm (Kd.V_below (Zva d9) hb);replace a7:=Zk a7 hb;replace a8:=Zk a8 hb;replace HB:=Zh HB hb))
   go_meet
   case rel=>exact⟨_,(true),Zs,H',⟨by first|omega|exact Nat.le_refl _⟩,⟨Zrv (Kd.V_mono d8.out (fun _ hk=>⟨hk.1.1,⟨hk.1.2,hk.2⟩⟩))⟩,⟨Zrv (Kd.V_mono d9.out (fun _ hk=>⟨hk.1.1,⟨hk.1.2,hk.2⟩⟩))⟩,⟨Zb a7⟩,⟨Zb a8⟩,⟨Zl HB⟩⟩
 case rest=>
  (clear G9);obtain⟨kq,m9,rfl,HA,J7,a4,a5,a7,a8,HB⟩:=hcut
  cases kq with
  |zero=>exact absurd HA.out (by simp[spec_LeastPole.j0])
  |succ J8=>
   have H:=HA.out;clear HA
   simp only[spec_LeastPole.j0]at H
   by_cases z5:m9=true
   ·
    subst z5
    rw[if_pos rfl]at H
    obtain⟨rfl,rfl,rfl⟩:=Zs3 H;clear H
    have J9:=d4.out;have K0:=d3.out;obtain⟨z6,z7,z8,z9⟩:=Z2 a8
    go_wp2
    refine bodyPost_ret (results_ct rfl _ _ e9 29 #[.int .i64 0,.slice none 0 0] (0,0) _ rfl (by refine Zrb ?_;refine blk_put (cs:= #[.int .i64 0,.slice none 0 0]) ?_ 1 _ rfl;refine Zrb ?_;refine blk_put (cs:= #[.int .i64 0,.slice none 0 0]) ?_ 0 _ rfl;refine Zrb ?_;exact a8.out) Try.underlying29 rfl (by kernel_rfl)) rfl ?_
    exact⟨_,Ze,Znl,Zl HB⟩
   ·
    replace z5:=Bool.eq_false_iff.mpr z5
    subst z5
    rw[if_neg Bool.false_ne_true]at H
    have H':=Aside0.mk H;clear H;have K1:=d3.out;have K2:=d4.out;obtain⟨B0,C0,C1,C2⟩:=Z2 a7
    go_wp2_with (first|((with_reducible refine gate_dst (N:=4) rfl ?_);refine Zbe 4 #[.int .i64 0,.slice none 0 0] 29 ?_;intro b9 hg P9 hbox hb;replace a4:=Zm (Kd.V_below (Kd.V_elderB (Zva a4) b9 (Nat.le_of_eq hg.symm)) hb);replace a5:=Zm (Kd.V_below (Kd.V_elderB (Zva a5) b9 (Nat.le_of_eq hg.symm)) hb);have b6:=Zm (hbox);have K3:=Zx hg HB;have K4:=Zx hg HB;replace HB:=Zh HB hb;have e6:=Zq hg a7;have e7:=Zp hg a7;replace a7:=Zk a7 hb;have i8:=Zq hg a8;have i9:=Zp hg a8;replace a8:=Zk a8 hb;clear hb hbox hg;have K5:=e7.out;have K6:=e6.out;have K7:=i9.out;have K8:=i8.out;obtain⟨C3,C4,C5,C6⟩:=Z2 b6))
    go_loopg [5] J8 (fun kq v5 w'=> ∃(n5:Int) (b7:List Int) (a9:List Int) (d5:List Int) (l8:Value) (l9:Value) (f9:Value),v5= .int .i64 n5∧Aside0 (spec_LeastPole.l0 kq n5 b7 a9 (c9.length:Int) d5=some (r1,r2,r3))∧Aside0 (kq≤J8)∧Aside0 (Kd.V (Kd.int .i64) 3 w' w.heap.size (fun k_=>((g8 k_∨g9 k_)∨w.heap.size≤k_)∧Zn k_ f9∧k_≠d6∧k_≠e9∧k_≠b9) l8 b7)∧Aside0 (Kd.V (Kd.int .i64) 3 w' w.heap.size (fun k_=>((g8 k_∨g9 k_)∨w.heap.size≤k_)∧Zn k_ f9∧k_≠d6∧k_≠e9∧k_≠b9) l9 a9)∧Aside0 (Kd.R (Kd.int .i64) 3 w' w.heap.size (fun k_=>(w.heap.size≤k_)) f9 d5)∧Aside0 (w'.heap[d6]? =some (.cells #[l8,l9] 26 (0,0)))∧Aside0 (w'.heap[e9]? =some (.cells #[.int .i64 0,(.slice none 0 0)] 29 (0,0)))∧Aside0 (w'.heap[b9]? =some (.cells #[.int .i64 (c9.length:Int),f9] 29 (0,0)))∧Aside0 (Below w.heap.size w w'))
    case atStart=>exact⟨(0),(c9),(f8),(([]:List Int)),(.slice l4 c9.length l5),(.slice l6 f8.length l7),(.slice none 0 0),Zs,H',⟨Nat.le_refl _⟩,⟨Zrv (Kd.V_mono (Kd.V_far (p:=⟨b9,1,none⟩) (Kd.V_far (p:=⟨b9,0,none⟩) (Kd.V_mono a4.out (fun k_ hk=>(⟨hk,hk.2⟩: _ ∧k_≠b9))) (fun _ hk=>hk.2) (.int .i64 (c9.length:Int))) (fun _ hk=>hk.2) (.slice none 0 0)) (fun _ hk=>⟨hk.1.1.1,⟨(by simp[Value.ownBlock]),⟨hk.1.1.2.1,⟨hk.1.1.2.2,hk.1.2⟩⟩⟩⟩))⟩,⟨Zrv (Kd.V_mono (Kd.V_far (p:=⟨b9,1,none⟩) (Kd.V_far (p:=⟨b9,0,none⟩) (Kd.V_mono a5.out (fun k_ hk=>(⟨hk,hk.2⟩: _ ∧k_≠b9))) (fun _ hk=>hk.2) (.int .i64 (c9.length:Int))) (fun _ hk=>hk.2) (.slice none 0 0)) (fun _ hk=>⟨hk.1.1.1,⟨(by simp[Value.ownBlock]),⟨hk.1.1.2.1,⟨hk.1.1.2.2,hk.1.2⟩⟩⟩⟩))⟩,⟨Znl⟩,⟨Zbf a7⟩,⟨Zbf a8⟩,⟨by refine Zrb ?_;refine blk_put (cs:= #[.int .i64 (c9.length:Int),.slice none 0 0]) ?_ 1 _ rfl;refine Zrb ?_;refine blk_put (cs:= #[.int .i64 0,.slice none 0 0]) ?_ 0 _ rfl;refine Zrb ?_;exact b6.out⟩,⟨Zl HB⟩⟩
    case round=>
     (clear H');obtain⟨n5,b7,a9,d5,l8,l9,f9,rfl,HA,K9,a4,a5,a6,a7,a8,b6,HB⟩:=hrel
     cases gk with
     |zero=>exact absurd HA.out (by simp[spec_LeastPole.l0])
     |succ k2=>
      have H:=HA.out;clear HA
      simp only[spec_LeastPole.l0]at H
      by_cases c25:n5≤60
      ·
       rw[if_pos c25]at H;have p8:=decide_eq_true c25;clear c25;replace H:=Zb0 H;obtain⟨d7,L2,H⟩:=H
       by_cases c27:(d7.length:Int)=0
       ·
        rw[if_pos c27]at H;have p9:((d7.length:Int) == 0)=true:=beq_iff_eq.mpr c27;have q3:((d7.length:Int) != 0)=false:=bne_eq_false_iff_eq.mpr c27;clear c27
        obtain⟨rfl,rfl,rfl⟩:=Zs3 H;clear H
        have L3:=d3.out;have L4:=d4.out;have L5:=e6.out;have L6:=e7.out;obtain⟨C7,C8,C9,D0⟩:=Z2 a7
        obtain⟨H5,H6,H7⟩:=Kd.V_slice a4.out;subst H7;obtain⟨H8,H9,I0⟩:=Kd.V_slice a5.out;subst I0
        go_wp2_with (first|((with_reducible refine gate_callee (f:=38) rfl ?_);refine Ga (some 25) Try.func38 #[.agg #[.slice H5 b7.length H6,.slice H8 a9.length H9]] (h:= ?_);(with_reducible refine(spec_poDescents.calls k2 _ _ b7 _ _ a9 d7 _ ?i3 ?i4 ?i5 ?i6 L2.out).mono ?_);(case i3=>exact Zca (Kd.V_reads' a4.out).2.2);(case i4=>exact(Kd.V_reads' a4.out).2.1);(case i5=>exact Zca (Kd.V_reads' a5.out).2.2);(case i6=>exact(Kd.V_reads' a5.out).2.1);rintro e Q0 ⟨I1,rfl,m4,hb⟩;refine⟨_,rfl, ?_⟩;replace a4:=Zm (Kd.V_elder' (Zva a4) (Kd.R_base m4) hb);replace a5:=Zm (Kd.V_elder' (Zva a5) (Kd.R_base m4) hb);have b8:=Zj (Zv (Kd.R_newM (M:=fun k_=>(w.heap.size≤k_)) m4 (below_size (Zl HB)) (fun k_ h_=>h_)) a6) HB;replace a6:=Zm (Kd.R_elder' (Zr a6) (Kd.R_base m4) hb);replace a7:=Zk a7 hb;replace a8:=Zk a8 hb;replace b6:=Zk b6 hb;replace HB:=Zh HB hb;obtain⟨O4,O5,I2⟩:=Kd.R_slice b8.out;subst I2;have L7:=i9.out;have L8:=i8.out;obtain⟨D1,D2,D3,D4⟩:=Z2 b6;obtain⟨D5,D6,D7,D8⟩:=Z2 a8;obtain⟨q4,q5,I3⟩:=Kd.R_slice a6.out;subst I3))
        refine bodyPost_ret (results_ct rfl _ _ e9 29 #[.int .i64 (c9.length:Int),.slice q4 d5.length q5] (0,0) _ rfl (by refine Zrb ?_;refine blk_put (cs:= #[.int .i64 (c9.length:Int),.slice none 0 0]) ?_ 1 _ rfl;refine Zrb ?_;refine blk_put (cs:= #[.int .i64 0,.slice none 0 0]) ?_ 0 _ rfl;refine Zrb ?_;exact a8.out) Try.underlying29 rfl (by kernel_rfl)) rfl ?_
        exact⟨_,Ze,Zrr (Zfm a6 a8 (.int .i64 (c9.length:Int)) (.slice q4 d5.length q5) (fun _ hk=>hk.1.1)),Zl HB⟩
       ·
        rw[if_neg c27]at H;have p9:((d7.length:Int) == 0)=false:=beq_eq_false_iff_ne.mpr c27;have q3:((d7.length:Int) != 0)=true:=bne_iff_ne.mpr c27;(have L9: ¬(d7= []):=fun h_=>c27 (by rw[h_];rfl))
        replace H:=Zif H;obtain⟨M0,H⟩:=H;have M1:=decide_eq_true M0;have M2:decide (0<d7.length)=true:=decide_eq_true (by omega);clear M0
        replace H:=Zif H;obtain⟨M3,H⟩:=H
        have q6:=Aside0.mk M3;clear M3
        generalize o3:((d5++ [rd d7 0]):List Int)=k4 at H;have q7:=Aside0.mk o3.symm;clear o3
        replace H:=Zb0 H;obtain⟨⟨m5,n0⟩,O6,H⟩:=H;(try dsimp only at H);have H':=Aside0.mk H;clear H;have M4:=d3.out;have M5:=d4.out;have M6:=e6.out;have M7:=e7.out;obtain⟨D9,E0,E6,E7⟩:=Z2 a7;obtain⟨n3,n4,I4⟩:=Kd.V_slice a4.out;subst I4;obtain⟨m6,m7,I5⟩:=Kd.V_slice a5.out;subst I5
        try go_wp2_with (first|((with_reducible refine gate_callee (f:=38) rfl ?_);refine Ga (some 25) Try.func38 #[.agg #[.slice n3 b7.length n4,.slice m6 a9.length m7]] (h:= ?_);(with_reducible refine(spec_poDescents.calls k2 _ _ b7 _ _ a9 d7 _ ?i3 ?i4 ?i5 ?i6 L2.out).mono ?_);(case i3=>exact Zca (Kd.V_reads' a4.out).2.2);(case i4=>exact(Kd.V_reads' a4.out).2.1);(case i5=>exact Zca (Kd.V_reads' a5.out).2.2);(case i6=>exact(Kd.V_reads' a5.out).2.1);rintro e O7 ⟨I1,rfl,m4,hb⟩;refine⟨_,rfl, ?_⟩;replace a4:=Zm (Kd.V_elder' (Zva a4) (Kd.R_base m4) hb);replace a5:=Zm (Kd.V_elder' (Zva a5) (Kd.R_base m4) hb);have b8:=Zj (Zv (Kd.R_newM (M:=fun k_=>(w.heap.size≤k_)) m4 (below_size (Zl HB)) (fun k_ h_=>h_)) a6) HB;replace a6:=Zm (Kd.R_elder' (Zr a6) (Kd.R_base m4) hb);replace a7:=Zk a7 hb;replace a8:=Zk a8 hb;replace b6:=Zk b6 hb;replace HB:=Zh HB hb;obtain⟨O8,m8,I6⟩:=Kd.R_slice b8.out;subst I6))
        replace a4:=Zm (Kd.V_drew a4.out);replace a5:=Zm (Kd.V_drew a5.out);replace a6:=Zm (Kd.R_drew a6.out);replace b8:=Zm (Kd.R_drew b8.out);replace a7:=Zm (blk_drew a7.out);replace a8:=Zm (blk_drew a8.out);replace b6:=Zm (blk_drew b6.out);replace HB:=Zm (below_drew1 HB.out);have o9:0≤(0:Int):=(by omega);have p3:0<(d7.length:Int):=Zoa
        obtain⟨k3,I7,k6⟩:=Kd.at_int (Kd.R_reads' b8.out).2.2 0 o9 p3
        cases I7
        have M8:(0<d7.length)=True:=eq_true (by omega)
        (try rw[show((0:Int)).toNat=0 from rfl]at k6)
        (try rw[Addr.add_zero']at k6)
        replace o9:=eq_true o9
        replace p3:=eq_true p3
        refine start_ (n:=9) (S:=fun w'=>w'.cell? ⟨b9,0,none⟩=some (.int .i64 (c9.length:Int))∧w'.cell? ⟨b9,1,none⟩=some (f9)∧w'.cell? k3=some (.int .i64 (rd d7 0))) (ds:= [8]) (fl 9 0) (by kernel_rfl) rfl rfl ⟨Zc0 b6 0,Zc0 b6 1,k6⟩ (fun hHeld=> ?_);refine with_tabW spec_LeastPole.tab9 spec_LeastPole.bits9 (fun HT_ HW_=> ?_)
        generalize O7.drew=Q4 at a4 a5 a6 b8 a7 a8 b6 HB k6 hHeld ⊢;refine Yu 0 29 (fl 9 1) HT_ (h:= ?_);refine Yu 2 31 (fl 9 5) HT_ (h:= ?_);refine Yu 3 32 (fl 9 13) HT_ (h:= ?_);refine Yt 1 30 (fl 9 15) HT_ HW_ hHeld (h:= ?_);refine Yt 4 33 (fl 9 31) HT_ HW_ hHeld (h:= ?_)
        refine one_ (i:=5) (N:=some 34) (fl 9 63) rfl rfl (one_of HT_.out (by kernel_rfl)) (by decide) (fun K hK=> ?_)
        refine value_ (w1:= ?_) (v:= ?_) (by rfl) rfl ?_ ?_
        rotate_left 2
        ·
         go_simp
         constructor
         ·
          rfl
         ·
          rfl
        refine hK.out _ _ ⟨(blk_cell (blk_alloc b6.out _) 0).trans rfl,(blk_cell (blk_alloc b6.out _) 1).trans rfl,(World.cell?_alloc_lt _ _ _ (World.block_lt_of_cell? _ _ (hHeld.2.2))).trans (hHeld.2.2)⟩ (fun hHeld=> ?_)
        clear hK K;refine Yn 34 (h:= ?_)
        refine one_ (i:=6) (N:=some 35) (fl 9 127) rfl rfl (one_of HT_.out (by kernel_rfl)) (by decide) (fun K hK=> ?_)
        refine Kd.R_append_step (Kd.int .i64) (w0:=w) w.heap.size (by rfl) (.tmp 30) (.tmp 34) 24 3 (.int .i64 0) 8 rfl Try.underlying24 info3 rfl (by decide) (by omega) f9 d5 (rd d7 0) [.int .i64 (rd d7 0)] (fun k_=>(w.heap.size≤k_)∧some k_≠(.slice (some k3) d7.length m8:Value).ownBlock) (fun _ =>False) rfl rfl ?aP (fun _ hk=>hk.elim) ?aF ?aO ?aB ?aS ?aL ?_
        (case aP=>exact rfl)
        (case aB=>exact(Zl HB))
        (case aF=>exact(fun k_ hk=>⟨(Nat.le_trans (below_size (Zl HB)) hk),Kd.fresh' (Kd.R_lt (Zr b8)) k_ hk⟩))
        (case aO=>exact(Zr a6))
        (case aS=>exact(below_size (Zl HB)))
        (case aL=>have:=q6.out;omega)
        intro O9 P0 ho hb hg hat
        (first|have n9:=cell_grown hg (hHeld.2.2) (by first|(rw[add_block];exact(by first|exact Zhn (b8.out.1 _ rfl)|exact fun e_=>absurd (a6.out.1 _ e_.symm) (by simp)))|(show some (Addr.add _ _).block≠ _;rw[add_block];exact(by first|exact Zhn (b8.out.1 _ rfl)|exact fun e_=>absurd (a6.out.1 _ e_.symm) (by simp)))|exact(by first|exact Zhn (b8.out.1 _ rfl)|exact fun e_=>absurd (a6.out.1 _ e_.symm) (by simp)))|have n9:=cell_grown hg (cell_unalloc (hHeld.2.2) (by first|(rw[add_block];exact Kd.R_lt b8.out _ rfl)|(show(Addr.add _ _).block< _;rw[add_block];exact Kd.R_lt b8.out _ rfl)|exact Kd.R_lt b8.out _ rfl)) (by first|(rw[add_block];exact(by first|exact Zhn (b8.out.1 _ rfl)|exact fun e_=>absurd (a6.out.1 _ e_.symm) (by simp)))|(show some (Addr.add _ _).block≠ _;rw[add_block];exact(by first|exact Zhn (b8.out.1 _ rfl)|exact fun e_=>absurd (a6.out.1 _ e_.symm) (by simp)))|exact(by first|exact Zhn (b8.out.1 _ rfl)|exact fun e_=>absurd (a6.out.1 _ e_.symm) (by simp))))
        rw[←q7.out]at ho
        replace a4:=Zm (Kd.V_afterv (ok:=(fun k_=>((g8 k_∨g9 k_)∨w.heap.size≤k_)∧some k_≠(.slice (some k3) d7.length m8:Value).ownBlock∧k_≠d6∧k_≠e9∧k_≠b9)) (Zrv (Kd.V_mono a4.out (fun _ hk=>⟨⟨hk.1.1,⟨hk.2,⟨hk.1.2.2.1,⟨hk.1.2.2.2.1,hk.1.2.2.2.2⟩⟩⟩⟩,hk.1.2.1⟩))) hg hat);replace a5:=Zm (Kd.V_afterv (ok:=(fun k_=>((g8 k_∨g9 k_)∨w.heap.size≤k_)∧some k_≠(.slice (some k3) d7.length m8:Value).ownBlock∧k_≠d6∧k_≠e9∧k_≠b9)) (Zrv (Kd.V_mono a5.out (fun _ hk=>⟨⟨hk.1.1,⟨hk.2,⟨hk.1.2.2.1,⟨hk.1.2.2.2.1,hk.1.2.2.2.2⟩⟩⟩⟩,hk.1.2.1⟩))) hg hat);replace a7:=Zm (blk_grown (Zb a7) hg (Kd.R_ne a6.out a7.out (by decide)));replace a8:=Zm (blk_grown (Zb a8) hg (Kd.R_ne a6.out a8.out (by decide)));replace b6:=Zm (blk_grown (Zb b6) hg (Kd.R_ne a6.out b6.out (by decide)));replace b8:=Zm (Kd.R_after (ok:=(fun k_=>(w.heap.size≤k_))) (Zc b8) hg hat);replace HB:=Zm (hb);have i7:=Zm (ho);clear a6 ho hb hg hat
        obtain⟨k9,l3,q8⟩:=Kd.R_slice i7.out
        (first|subst q8|(injection q8 with o4 q9 o5;have r5:=o4.symm;have r6:=o5.symm;clear o4 q9 o5;subst r5;subst r6))
        refine hK.out _ _ ⟨Zc0 b6 0,Zc0 b6 1,n9⟩ (fun hHeld=> ?_)
        clear hK K;refine Yn 35 (h:= ?_);refine Yu 7 36 (fl 9 255) HT_ (h:= ?_)
        refine last_ (i:=8) (N:=none) (fl 9 511) rfl rfl (one_of HT_.out (by kernel_rfl)) (by decide) (fun K hK=> ?_)
        have P1:=Zc0 b6 1;have M9:=blk_frozen b6.out 1;have E8:=e6.out;have E9:=i8.out;have F0:=e7.out;have F1:=i9.out
        refine skip_ (w1:= ?_) (by rfl) rfl ?_ ?_
        rotate_left
        ·
         go_simp
         rfl
        refine hK.out _ _ ?_
        clear hK K
        refine done_ (done_of HT_.out (by kernel_rfl)) ?_
        try go_wp2
        generalize hW_:(P0.setCell ⟨b9,1,none⟩ (.slice k9 k4.length l3))=o0;replace a4:Aside0 (Kd.V (Kd.int .i64) 3 o0 w.heap.size (fun k_=>((g8 k_∨g9 k_)∨w.heap.size≤k_)∧some k_≠(.slice (some k3) d7.length m8:Value).ownBlock∧some k_≠(.slice k9 k4.length l3:Value).ownBlock∧k_≠d6∧k_≠e9∧k_≠b9) (.slice n3 b7.length n4) b7):=⟨by rw[←hW_];(with_reducible repeat(first|apply Kd.V_alloc|apply Kd.V_drewN|apply Kd.V_drew));exact Kd.V_mono (Kd.V_far (p:=⟨b9,1,none⟩) (Kd.V_mono a4.out (fun k_ hk=>(⟨hk,hk.1.2.2.2.2⟩: _ ∧k_≠b9))) (fun _ hk=>hk.2) (.slice k9 k4.length l3)) (fun _ hk=>⟨hk.1.1.1,⟨hk.1.1.2.1,⟨hk.1.2,⟨hk.1.1.2.2.1,⟨hk.1.1.2.2.2.1,hk.1.1.2.2.2.2⟩⟩⟩⟩⟩)⟩;replace a5:Aside0 (Kd.V (Kd.int .i64) 3 o0 w.heap.size (fun k_=>((g8 k_∨g9 k_)∨w.heap.size≤k_)∧some k_≠(.slice (some k3) d7.length m8:Value).ownBlock∧some k_≠(.slice k9 k4.length l3:Value).ownBlock∧k_≠d6∧k_≠e9∧k_≠b9) (.slice m6 a9.length m7) a9):=⟨by rw[←hW_];(with_reducible repeat(first|apply Kd.V_alloc|apply Kd.V_drewN|apply Kd.V_drew));exact Kd.V_mono (Kd.V_far (p:=⟨b9,1,none⟩) (Kd.V_mono a5.out (fun k_ hk=>(⟨hk,hk.1.2.2.2.2⟩: _ ∧k_≠b9))) (fun _ hk=>hk.2) (.slice k9 k4.length l3)) (fun _ hk=>⟨hk.1.1.1,⟨hk.1.1.2.1,⟨hk.1.2,⟨hk.1.1.2.2.1,⟨hk.1.1.2.2.2.1,hk.1.1.2.2.2.2⟩⟩⟩⟩⟩)⟩;replace b8:Aside0 (Kd.R (Kd.int .i64) 3 o0 w.heap.size (fun k_=>(w.heap.size≤k_)∧some k_≠(.slice k9 k4.length l3:Value).ownBlock) (.slice (some k3) d7.length m8) d7):=⟨by rw[←hW_];(with_reducible repeat(first|apply Kd.R_alloc|apply Kd.R_drewN|apply Kd.R_drew));exact Kd.R_mono (Kd.R_far (p:=⟨b9,1,none⟩) (Kd.R_types b8.out b6.out (by decide)) (fun _ hk=>hk.2) (.slice k9 k4.length l3)) (fun _ hk=>⟨hk.1.1,hk.1.2⟩)⟩;replace i7:Aside0 (Kd.R (Kd.int .i64) 3 o0 w.heap.size (fun k_=>(w.heap.size≤k_)∧some k_≠(.slice (some k3) d7.length m8:Value).ownBlock) (.slice k9 k4.length l3) k4):=⟨by rw[←hW_];(with_reducible repeat(first|apply Kd.R_alloc|apply Kd.R_drewN|apply Kd.R_drew));exact Kd.R_mono (Kd.R_far (p:=⟨b9,1,none⟩) (Kd.R_types i7.out b6.out (by decide)) (fun _ hk=>hk.2) (.slice k9 k4.length l3)) (fun _ hk=>⟨hk.1.1,hk.1.2⟩)⟩;replace a7:Aside0 (o0.heap[d6]? =some (.cells #[.slice n3 b7.length n4,.slice m6 a9.length m7] 26 (0,0))):=⟨by rw[←hW_];exact Zbf a7⟩;replace a8:Aside0 (o0.heap[e9]? =some (.cells #[.int .i64 0,.slice none 0 0] 29 (0,0))):=⟨by rw[←hW_];exact Zbf a8⟩;replace b6:Aside0 (o0.heap[b9]? =some (.cells #[.int .i64 (c9.length:Int),.slice k9 k4.length l3] 29 (0,0))):=⟨by rw[←hW_];refine Zrb ?_;refine blk_put (cs:= #[.int .i64 (c9.length:Int),f9]) ?_ 1 _ rfl;refine Zrb ?_;exact b6.out⟩;replace HB:Aside0 (Below w.heap.size w o0):=⟨by rw[←hW_];exact Zl HB⟩;clear hW_;replace a4:=Zm (Kd.V_drew a4.out);replace a5:=Zm (Kd.V_drew a5.out);replace b8:=Zm (Kd.R_drew b8.out);replace i7:=Zm (Kd.R_drew i7.out);replace a7:=Zm (blk_drew a7.out);replace a8:=Zm (blk_drew a8.out);replace b6:=Zm (blk_drew b6.out);replace HB:=Zm (below_drew1 HB.out);have p4:0≤(0:Int):=(by omega);have p5:0<(d7.length:Int):=Zoa;obtain⟨r7,I8,k8⟩:=Kd.at_int (Kd.R_reads' b8.out).2.2 0 p4 p5;obtain rfl:k3=r7:=(by injection I8)
        have N0:(0<d7.length)=True:=eq_true (by omega)
        (try rw[show((0:Int)).toNat=0 from rfl]at k8)
        (try rw[Addr.add_zero']at k8)
        replace p4:=eq_true p4
        replace p5:=eq_true p5
        refine start_ (n:=6) (S:=fun w'=>w'.cell? ⟨d6,0,none⟩=some (.slice n3 b7.length n4)∧w'.cell? ⟨d6,1,none⟩=some (.slice m6 a9.length m7)∧w'.cell? k3=some (.int .i64 (rd d7 0))) (ds:= [5]) (fl 6 0) (by kernel_rfl) rfl rfl ⟨Zc0 a7 0,Zc0 a7 1,k8⟩ (fun hHeld=> ?_)
        generalize o0.drew=Q5 at a4 a5 b8 i7 a7 a8 b6 HB k8 hHeld ⊢
        refine pure_ (i:=1) (N:=some 38) (v:= ?_) (a':= ?_) (fl 6 2) rfl rfl (by kernel_rfl) (fun _ _ _ h=>h) (Or.inl ⟨by rfl, ?_⟩) ?_ ?_
        rotate_left
        ·
         intro w'
         go_simp
         with_reducible rfl
        rotate_left
        ·
         simp only[Act.put,List.setIfInBounds_toArray,List.set_cons_zero,List.set_cons_succ,i64_w,i32_w]
         rfl
        refine pure_ (i:=2) (N:=some 39) (v:= ?_) (a':= ?_) (fl 6 6) rfl rfl (by kernel_rfl) (fun _ _ _ h=>h) (Or.inl ⟨by rfl, ?_⟩) ?_ ?_
        rotate_left
        ·
         intro w'
         go_simp
         with_reducible rfl
        rotate_left
        ·
         simp only[Act.put,List.setIfInBounds_toArray,List.set_cons_zero,List.set_cons_succ,i64_w,i32_w]
         rfl
        refine take_ (i:=0) (N:=some 37) (v:= ?_) (a':= ?_) (fl 6 7) rfl rfl (by kernel_rfl) (fun _ _ _ h=>h) (Or.inl ⟨by rfl, ?_⟩) hHeld ?_ ?_
        rotate_left
        ·
         rintro w' ⟨s0,s1,s2⟩
         go_simp
         with_reducible rfl
        rotate_left
        ·
         simp only[Act.put,List.setIfInBounds_toArray,List.set_cons_zero,List.set_cons_succ,i64_w,i32_w]
         rfl
        refine take_ (i:=3) (N:=some 40) (v:= ?_) (a':= ?_) (fl 6 15) rfl rfl (by kernel_rfl) (fun _ _ _ h=>h) (Or.inl ⟨by rfl, ?_⟩) hHeld ?_ ?_
        rotate_left
        ·
         rintro w' ⟨s0,s1,s2⟩
         go_simp
         with_reducible rfl
        rotate_left
        ·
         simp only[Act.put,List.setIfInBounds_toArray,List.set_cons_zero,List.set_cons_succ,i64_w,i32_w]
         rfl
        refine one_ (i:=4) (N:=some 41) (fl 6 31) rfl rfl (by kernel_rfl) (by decide) (fun K hK=> ?_)
        refine goes_ Try.func39 (by kernel_rfl) rfl #[.agg #[.slice n3 b7.length n4,.slice m6 a9.length m7],.int .i64 (rd d7 0)] (by rfl) rfl rfl (by(try simp only[List.map_toArray,List.map_cons,List.map_nil]);first|done|rfl) ?_
        with_reducible refine(spec_poTop.calls _ _ b7 _ _ a9 (rd d7 0) m5 n0 _ ?i3 ?i4 ?i5 ?i6 O6.out).mono ?_
        (case i3=>exact Zca (Kd.V_reads' a4.out).2.2)
        (case i4=>exact(Kd.V_reads' a4.out).2.1)
        (case i5=>exact Zca (Kd.V_reads' a5.out).2.2)
        (case i6=>exact(Kd.V_reads' a5.out).2.1)
        rintro e Q6 ⟨P2,P3,rfl,m4,r8,hb⟩
        have n9:=(hb.cell (World.block_lt_of_cell? _ _ (hHeld.2.2))).trans (hHeld.2.2)
        refine⟨_,rfl, ?_⟩
        replace a4:=Zm (Kd.V_mono (Kd.V_told (Kd.V_told (Kd.V_old (Zva a4) hb) (Kd.R_base m4)) (Kd.R_base r8)) (fun _ h_=>h_.1));replace a5:=Zm (Kd.V_mono (Kd.V_told (Kd.V_told (Kd.V_old (Zva a5) hb) (Kd.R_base m4)) (Kd.R_base r8)) (fun _ h_=>h_.1));have o6:=Zj (Zv (Zv (Kd.R_newM (M:=fun k_=>(w.heap.size≤k_)) m4 (below_size (Zl HB)) (fun k_ h_=>h_)) b8) i7) HB;have o7:=Zj (Zv (Zv (Kd.R_newM (M:=fun k_=>(w.heap.size≤k_)) r8 (below_size (Zl HB)) (fun k_ h_=>h_)) b8) i7) HB;replace b8:=Zu b8 hb m4 r8;replace i7:=Zu i7 hb m4 r8;replace a7:=Zk a7 hb;replace a8:=Zk a8 hb;replace b6:=Zk b6 hb;replace HB:=Zh HB hb
        obtain⟨n6,n7,r9⟩:=Kd.R_slice o6.out
        (first|subst r9|(injection r9 with o4 q9 o5;have r5:=o4.symm;have r6:=o5.symm;clear o4 q9 o5;subst r5;subst r6))
        obtain⟨o1,o2,s6⟩:=Kd.R_slice o7.out
        (first|subst s6|(injection s6 with o4 q9 o5;have r5:=o4.symm;have r6:=o5.symm;clear o4 q9 o5;subst r5;subst r6))
        refine hK.out _ _ ⟨Zc0 a7 0,Zc0 a7 1,n9⟩ (fun hHeld=> ?_)
        clear hK K;refine Yn 41 (h:= ?_)
        refine last_ (i:=5) (N:=none) (fl 6 63) rfl rfl (by kernel_rfl) (by decide) (fun K hK=> ?_)
        have P4:=Zc0 a7 0;have N1:=blk_frozen a7.out 0;have F2:=d4.out;have F3:=e7.out;have F4:=d3.out;have F5:=e6.out;have P5:=Zc0 a7 1;have N2:=blk_frozen a7.out 1;have F6:=d4.out;have F7:=e7.out;have F8:=d3.out;have F9:=e6.out
        refine skip_ (w1:= ?_) (by rfl) rfl ?_ ?_
        rotate_left
        ·
         go_simp
         rfl
        refine hK.out _ _ ?_
        clear hK K
        refine done_ (by kernel_rfl) ?_
        try go_wp2
        go_roundg k2
        case measure=>have:=J7.out;have:=K9.out;omega
        case rel=>exact⟨(wrap64 (n5+1)),(m5),(n0),(k4),(.slice n6 m5.length n7),(.slice o1 n0.length o2),(.slice k9 k4.length l3),Zs,H',⟨by have:=J7.out;have:=K9.out;omega⟩,⟨Kd.V_mono (Kd.R_V (Zr ⟨(Kd.R_far (p:=⟨d6,1,none⟩) (Kd.R_far (p:=⟨d6,0,none⟩) (Kd.R_types (Kd.R_types (Kd.R_types (Kd.R_types o6.out a7.out (by decide)) a8.out (by decide)) b6.out (by decide)) a7.out (by decide)) (fun _ hk=>hk.2) (.slice n6 m5.length n7)) (fun _ hk=>hk.2) (.slice o1 n0.length o2))⟩)) (fun k_ hk=>by first|exact⟨.inr (hk.1.1.1.1.1.1.1),⟨hk.1.1.1.1.2,⟨hk.1.1.1.2,⟨hk.1.1.2,hk.1.2⟩⟩⟩⟩|exact .inr ⟨hk.1.1.1.1.1.1.1,⟨hk.1.1.1.1.2,⟨hk.1.1.1.2,⟨hk.1.1.2,hk.1.2⟩⟩⟩⟩)⟩,⟨Kd.V_mono (Kd.R_V (Zr ⟨(Kd.R_far (p:=⟨d6,1,none⟩) (Kd.R_far (p:=⟨d6,0,none⟩) (Kd.R_types (Kd.R_types (Kd.R_types (Kd.R_types o7.out a7.out (by decide)) a8.out (by decide)) b6.out (by decide)) a7.out (by decide)) (fun _ hk=>hk.2) (.slice n6 m5.length n7)) (fun _ hk=>hk.2) (.slice o1 n0.length o2))⟩)) (fun k_ hk=>by first|exact⟨.inr (hk.1.1.1.1.1.1.1),⟨hk.1.1.1.1.2,⟨hk.1.1.1.2,⟨hk.1.1.2,hk.1.2⟩⟩⟩⟩|exact .inr ⟨hk.1.1.1.1.1.1.1,⟨hk.1.1.1.1.2,⟨hk.1.1.1.2,⟨hk.1.1.2,hk.1.2⟩⟩⟩⟩)⟩,⟨Zrr (Zfm i7 a7 (.slice n6 m5.length n7) (.slice o1 n0.length o2) (fun _ hk=>hk.1.1.1.1))⟩,⟨by refine Zrb ?_;refine blk_put (cs:= #[.slice n6 m5.length n7,.slice m6 a9.length m7]) ?_ 1 _ rfl;refine Zrb ?_;refine blk_put (cs:= #[.slice n3 b7.length n4,.slice m6 a9.length m7]) ?_ 0 _ rfl;refine Zrb ?_;exact a7.out⟩,⟨Zbf a8⟩,⟨Zbf b6⟩,⟨Zl HB⟩⟩
      ·
       rw[if_neg c25]at H;have p8:=decide_eq_false c25;clear c25
       obtain⟨rfl,rfl,rfl⟩:=Zs3 H;clear H
       have N3:=e7.out;have N4:=e6.out;have N5:=i9.out;have N6:=i8.out;obtain⟨G1,G2,G3,G4⟩:=Z2 b6;have N7:=d4.out;have N8:=d3.out;obtain⟨G5,G6,G7,G8⟩:=Z2 a8
       obtain⟨s7,s9,I9⟩:=Kd.R_slice a6.out;subst I9
       go_wp2
       refine bodyPost_ret (results_ct rfl _ _ e9 29 #[.int .i64 (c9.length:Int),.slice s7 d5.length s9] (0,0) _ rfl (by refine Zrb ?_;refine blk_put (cs:= #[.int .i64 (c9.length:Int),.slice none 0 0]) ?_ 1 _ rfl;refine Zrb ?_;refine blk_put (cs:= #[.int .i64 0,.slice none 0 0]) ?_ 0 _ rfl;refine Zrb ?_;exact a8.out) Try.underlying29 rfl (by kernel_rfl)) rfl ?_
       exact⟨_,Ze,Zrr (Zfm a6 a8 (.int .i64 (c9.length:Int)) (.slice s7 d5.length s9) (fun _ hk=>hk.1)),Zl HB⟩
def impl_PoleInversions.f (k:Nat) (a4:List Int) (a5:List Int):Option (Int × Bool):=(impl_isTurned.f k a4 a5).bind fun a6=>(if a6=true then((impl_poleInversions.f a4 a5).bind fun a7=>(some (a7,true)))else(some (0,false)))
set_option maxHeartbeats 8000000 in
set_option maxRecDepth 100000 in
theorem impl_PoleInversions.calls (k:Nat) (b7:Option Addr) (b8:Nat) (a5:List Int) (b9:Option Addr) (c9:Nat) (a6:List Int) (r1:Int) (r2:Bool) (w:World) (d7:Kd.C (Kd.int .i64) w b7 a5.length a5) (d8:a5.length≤b8) (d9:Kd.C (Kd.int .i64) w b9 a6.length a6) (e6:a6.length≤c9) (h:impl_PoleInversions.f k a5 a6=some (r1,r2)):
  Calls Try.prog 8 #[.agg #[.slice b7 a5.length b8,.slice b9 a6.length c9]] w fun e w'=>e= .returned (.tuple #[.int .i64 r1,.bool r2])∧Below w.heap.size w w':=by
 have k9:=Try.underlying26;have d3:=Aside0.mk d7;have d4:=Aside0.mk d8;clear d7 d8;have d5:=Aside0.mk d9;have d6:=Aside0.mk e6;clear d9 e6;have HB:=Zm (Below.refl w.heap.size w);have H:((impl_isTurned.f k a5 a6).bind fun e7=>(if e7=true then((impl_poleInversions.f a5 a6).bind fun e9=>(some (e9,true)))else(some (0,false))))=some (r1,r2):=h;clear h
 replace H:=Zb0 H;obtain⟨e7,A2,H⟩:=H
 by_cases c3:e7=true
 ·
  subst c3
  rw[if_pos rfl]at H
  replace H:=Zb0 H;obtain⟨e9,A4,H⟩:=H
  obtain⟨rfl,rfl⟩:=Zs2 H;clear H
  go_enter Try.func8,Try.ntmps8
  go_wp2_with (first|((with_reducible refine gate_dst (N:=1) rfl ?_);refine Zbe 1 #[.slice b7 a5.length b8,.slice b9 a6.length c9] 26 ?_;intro f8 hg w5 hbox hb;have a4:=Zm (hbox);have f9:=Zx hg HB;have g8:=Zx hg HB;replace HB:=Zh HB hb;clear hb hbox hg;obtain⟨i6,i7,i8,i9⟩:=Z2 a4)|((with_reducible refine gate_callee (f:=31) rfl ?_);refine Ga (some 5) Try.func31 #[.agg #[.slice b7 a5.length b8,.slice b9 a6.length c9]] (h:= ?_);(with_reducible refine(impl_isTurned.calls k _ _ a5 _ _ a6 true _ ?a7 ?a8 ?a9 ?b6 A2.out).mono ?_);(case a7=>exact Zca (Kd.C_below d3.out HB.out));(case a8=>exact d4.out);(case a9=>exact Zca (Kd.C_below d5.out HB.out));(case b6=>exact d6.out);rintro e w7 ⟨rfl,hb⟩;refine⟨_,rfl, ?_⟩;replace a4:=Zk a4 hb;replace HB:=Zh HB hb;obtain⟨k3,k4,k6,k8⟩:=Z2 a4)|((with_reducible refine gate_callee (f:=32) rfl ?_);refine Ga (some 8) Try.func32 #[.agg #[.slice b7 a5.length b8,.slice b9 a6.length c9]] (h:= ?_);(with_reducible refine(impl_poleInversions.calls _ _ a5 _ _ a6 e9 _ ?a7 ?a8 ?a9 ?b6 A4.out).mono ?_);(case a7=>exact Zca (Kd.C_below d3.out HB.out));(case a8=>exact d4.out);(case a9=>exact Zca (Kd.C_below d5.out HB.out));(case b6=>exact d6.out);rintro e w9 ⟨rfl,hb⟩;refine⟨_,rfl, ?_⟩;replace a4:=Zk a4 hb;replace HB:=Zh HB hb))
  go_ret2
  exact⟨Ze,Zl HB⟩
 ·
  replace c3:=Bool.eq_false_iff.mpr c3
  subst c3
  rw[if_neg Bool.false_ne_true]at H
  obtain⟨rfl,rfl⟩:=Zs2 H;clear H
  go_enter Try.func8,Try.ntmps8
  go_wp2_with (first|((with_reducible refine gate_dst (N:=1) rfl ?_);refine Zbe 1 #[.slice b7 a5.length b8,.slice b9 a6.length c9] 26 ?_;intro f8 hg l3 hbox hb;have a4:=Zm (hbox);have f9:=Zx hg HB;have g8:=Zx hg HB;replace HB:=Zh HB hb;clear hb hbox hg;obtain⟨g9,i3,i4,i5⟩:=Z2 a4)|((with_reducible refine gate_callee (f:=31) rfl ?_);refine Ga (some 5) Try.func31 #[.agg #[.slice b7 a5.length b8,.slice b9 a6.length c9]] (h:= ?_);(with_reducible refine(impl_isTurned.calls k _ _ a5 _ _ a6 false _ ?a7 ?a8 ?a9 ?b6 A2.out).mono ?_);(case a7=>exact Zca (Kd.C_below d3.out HB.out));(case a8=>exact d4.out);(case a9=>exact Zca (Kd.C_below d5.out HB.out));(case b6=>exact d6.out);rintro e l4 ⟨rfl,hb⟩;refine⟨_,rfl, ?_⟩;replace a4:=Zk a4 hb;replace HB:=Zh HB hb))
  go_ret2
  exact⟨Ze,Zl HB⟩
def spec_PoleInversions.f (k:Nat) (a4:List Int) (a5:List Int):Option (Int × Bool):=(spec_poTurned.f k a4 a5).bind fun a6=>(if a6=true then((spec_poInversions.f k a4 a5).bind fun a7=>(some (a7,true)))else(some (0,false)))
set_option maxHeartbeats 8000000 in
set_option maxRecDepth 100000 in
theorem spec_PoleInversions.calls (k:Nat) (b7:Option Addr) (b8:Nat) (a5:List Int) (b9:Option Addr) (c9:Nat) (a6:List Int) (r1:Int) (r2:Bool) (w:World) (d7:Kd.C (Kd.int .i64) w b7 a5.length a5) (d8:a5.length≤b8) (d9:Kd.C (Kd.int .i64) w b9 a6.length a6) (e6:a6.length≤c9) (h:spec_PoleInversions.f k a5 a6=some (r1,r2)):
  Calls Try.prog 9 #[.agg #[.slice b7 a5.length b8,.slice b9 a6.length c9]] w fun e w'=>e= .returned (.tuple #[.int .i64 r1,.bool r2])∧Below w.heap.size w w':=by
 have k9:=Try.underlying26;have d3:=Aside0.mk d7;have d4:=Aside0.mk d8;clear d7 d8;have d5:=Aside0.mk d9;have d6:=Aside0.mk e6;clear d9 e6;have HB:=Zm (Below.refl w.heap.size w);have H:((spec_poTurned.f k a5 a6).bind fun e7=>(if e7=true then((spec_poInversions.f k a5 a6).bind fun e9=>(some (e9,true)))else(some (0,false))))=some (r1,r2):=h;clear h
 replace H:=Zb0 H;obtain⟨e7,A2,H⟩:=H
 by_cases c3:e7=true
 ·
  subst c3
  rw[if_pos rfl]at H
  replace H:=Zb0 H;obtain⟨e9,A4,H⟩:=H
  obtain⟨rfl,rfl⟩:=Zs2 H;clear H
  go_enter Try.func9,Try.ntmps9
  go_wp2_with (first|((with_reducible refine gate_dst (N:=1) rfl ?_);refine Zbe 1 #[.slice b7 a5.length b8,.slice b9 a6.length c9] 26 ?_;intro f8 hg w5 hbox hb;have a4:=Zm (hbox);have f9:=Zx hg HB;have g8:=Zx hg HB;replace HB:=Zh HB hb;clear hb hbox hg;obtain⟨i6,i7,i8,i9⟩:=Z2 a4)|((with_reducible refine gate_callee (f:=36) rfl ?_);refine Ga (some 5) Try.func36 #[.agg #[.slice b7 a5.length b8,.slice b9 a6.length c9]] (h:= ?_);(with_reducible refine(spec_poTurned.calls k _ _ a5 _ _ a6 true _ ?a7 ?a8 ?a9 ?b6 A2.out).mono ?_);(case a7=>exact Zca (Kd.C_below d3.out HB.out));(case a8=>exact d4.out);(case a9=>exact Zca (Kd.C_below d5.out HB.out));(case b6=>exact d6.out);rintro e w7 ⟨rfl,hb⟩;refine⟨_,rfl, ?_⟩;replace a4:=Zk a4 hb;replace HB:=Zh HB hb;obtain⟨k3,k4,k6,k8⟩:=Z2 a4)|((with_reducible refine gate_callee (f:=37) rfl ?_);refine Ga (some 8) Try.func37 #[.agg #[.slice b7 a5.length b8,.slice b9 a6.length c9]] (h:= ?_);(with_reducible refine(spec_poInversions.calls k _ _ a5 _ _ a6 e9 _ ?a7 ?a8 ?a9 ?b6 A4.out).mono ?_);(case a7=>exact Zca (Kd.C_below d3.out HB.out));(case a8=>exact d4.out);(case a9=>exact Zca (Kd.C_below d5.out HB.out));(case b6=>exact d6.out);rintro e w9 ⟨rfl,hb⟩;refine⟨_,rfl, ?_⟩;replace a4:=Zk a4 hb;replace HB:=Zh HB hb))
  go_ret2
  exact⟨Ze,Zl HB⟩
 ·
  replace c3:=Bool.eq_false_iff.mpr c3
  subst c3
  rw[if_neg Bool.false_ne_true]at H
  obtain⟨rfl,rfl⟩:=Zs2 H;clear H
  go_enter Try.func9,Try.ntmps9
  go_wp2_with (first|((with_reducible refine gate_dst (N:=1) rfl ?_);refine Zbe 1 #[.slice b7 a5.length b8,.slice b9 a6.length c9] 26 ?_;intro f8 hg l3 hbox hb;have a4:=Zm (hbox);have f9:=Zx hg HB;have g8:=Zx hg HB;replace HB:=Zh HB hb;clear hb hbox hg;obtain⟨g9,i3,i4,i5⟩:=Z2 a4)|((with_reducible refine gate_callee (f:=36) rfl ?_);refine Ga (some 5) Try.func36 #[.agg #[.slice b7 a5.length b8,.slice b9 a6.length c9]] (h:= ?_);(with_reducible refine(spec_poTurned.calls k _ _ a5 _ _ a6 false _ ?a7 ?a8 ?a9 ?b6 A2.out).mono ?_);(case a7=>exact Zca (Kd.C_below d3.out HB.out));(case a8=>exact d4.out);(case a9=>exact Zca (Kd.C_below d5.out HB.out));(case b6=>exact d6.out);rintro e l4 ⟨rfl,hb⟩;refine⟨_,rfl, ?_⟩;replace a4:=Zk a4 hb;replace HB:=Zh HB hb))
  go_ret2
  exact⟨Ze,Zl HB⟩
def impl_PoleDescents.f (k:Nat) (a4:List Int) (a5:List Int):Option (List Int × Bool):=(impl_isTurned.f k a4 a5).bind fun a6=>(if a6=true then((impl_poleDescents.f a4 a5).bind fun a7=>(some (a7,true)))else(some (([]:List Int),false)))
set_option maxHeartbeats 8000000 in
set_option maxRecDepth 100000 in
theorem impl_PoleDescents.calls (k:Nat) (b7:Option Addr) (b8:Nat) (a5:List Int) (b9:Option Addr) (c9:Nat) (a6:List Int) (r1:List Int) (r2:Bool) (w:World) (d7:Kd.C (Kd.int .i64) w b7 a5.length a5) (d8:a5.length≤b8) (d9:Kd.C (Kd.int .i64) w b9 a6.length a6) (e6:a6.length≤c9) (h:impl_PoleDescents.f k a5 a6=some (r1,r2)):
  Calls Try.prog 10 #[.agg #[.slice b7 a5.length b8,.slice b9 a6.length c9]] w fun e w'=> ∃l3:Value,e= .returned (.tuple #[l3,.bool r2])∧Kd.R (Kd.int .i64) 3 w' w.heap.size (fun _ =>True) l3 r1∧Below w.heap.size w w':=by
 have l4:=Try.underlying26;have d3:=Aside0.mk d7;have d4:=Aside0.mk d8;clear d7 d8;have d5:=Aside0.mk d9;have d6:=Aside0.mk e6;clear d9 e6;have HB:=Zm (Below.refl w.heap.size w);have H:((impl_isTurned.f k a5 a6).bind fun e7=>(if e7=true then((impl_poleDescents.f a5 a6).bind fun e9=>(some (e9,true)))else(some (([]:List Int),false))))=some (r1,r2):=h;clear h
 replace H:=Zb0 H;obtain⟨e7,A2,H⟩:=H
 by_cases c3:e7=true
 ·
  subst c3
  rw[if_pos rfl]at H
  replace H:=Zb0 H;obtain⟨e9,A4,H⟩:=H
  obtain⟨rfl,rfl⟩:=Zs2 H;clear H
  go_enter Try.func10,Try.ntmps10
  go_wp2_with (first|((with_reducible refine gate_dst (N:=1) rfl ?_);refine Zbe 1 #[.slice b7 a5.length b8,.slice b9 a6.length c9] 26 ?_;intro f8 hg w5 hbox hb;have a4:=Zm (hbox);have f9:=Zx hg HB;have g8:=Zx hg HB;replace HB:=Zh HB hb;clear hb hbox hg;obtain⟨i7,i8,i9,k3⟩:=Z2 a4)|((with_reducible refine gate_callee (f:=31) rfl ?_);refine Ga (some 5) Try.func31 #[.agg #[.slice b7 a5.length b8,.slice b9 a6.length c9]] (h:= ?_);(with_reducible refine(impl_isTurned.calls k _ _ a5 _ _ a6 true _ ?a7 ?a8 ?a9 ?b6 A2.out).mono ?_);(case a7=>exact Zca (Kd.C_below d3.out HB.out));(case a8=>exact d4.out);(case a9=>exact Zca (Kd.C_below d5.out HB.out));(case b6=>exact d6.out);rintro e w7 ⟨rfl,hb⟩;refine⟨_,rfl, ?_⟩;replace a4:=Zk a4 hb;replace HB:=Zh HB hb;obtain⟨k4,k6,k8,k9⟩:=Z2 a4)|((with_reducible refine gate_callee (f:=33) rfl ?_);refine Ga (some 8) Try.func33 #[.agg #[.slice b7 a5.length b8,.slice b9 a6.length c9]] (h:= ?_);(with_reducible refine(impl_poleDescents.calls _ _ a5 _ _ a6 e9 _ ?a7 ?a8 ?a9 ?b6 A4.out).mono ?_);(case a7=>exact Zca (Kd.C_below d3.out HB.out));(case a8=>exact d4.out);(case a9=>exact Zca (Kd.C_below d5.out HB.out));(case b6=>exact d6.out);rintro e w9 ⟨l5,rfl,l6,hb⟩;refine⟨_,rfl, ?_⟩;have g9:=Zj l6 HB;replace a4:=Zk a4 hb;replace HB:=Zh HB hb))
  go_ret2
  exact⟨_,Ze,Zr g9,Zl HB⟩
 ·
  replace c3:=Bool.eq_false_iff.mpr c3
  subst c3
  rw[if_neg Bool.false_ne_true]at H
  obtain⟨rfl,rfl⟩:=Zs2 H;clear H
  go_enter Try.func10,Try.ntmps10
  go_wp2_with (first|((with_reducible refine gate_dst (N:=1) rfl ?_);refine Zbe 1 #[.slice b7 a5.length b8,.slice b9 a6.length c9] 26 ?_;intro f8 hg l7 hbox hb;have a4:=Zm (hbox);have f9:=Zx hg HB;have g8:=Zx hg HB;replace HB:=Zh HB hb;clear hb hbox hg;obtain⟨i3,i4,i5,i6⟩:=Z2 a4)|((with_reducible refine gate_callee (f:=31) rfl ?_);refine Ga (some 5) Try.func31 #[.agg #[.slice b7 a5.length b8,.slice b9 a6.length c9]] (h:= ?_);(with_reducible refine(impl_isTurned.calls k _ _ a5 _ _ a6 false _ ?a7 ?a8 ?a9 ?b6 A2.out).mono ?_);(case a7=>exact Zca (Kd.C_below d3.out HB.out));(case a8=>exact d4.out);(case a9=>exact Zca (Kd.C_below d5.out HB.out));(case b6=>exact d6.out);rintro e l8 ⟨rfl,hb⟩;refine⟨_,rfl, ?_⟩;replace a4:=Zk a4 hb;replace HB:=Zh HB hb))
  go_ret2
  exact⟨_,Ze,Znl,Zl HB⟩
def spec_PoleDescents.f (k:Nat) (a4:List Int) (a5:List Int):Option (List Int × Bool):=(spec_poTurned.f k a4 a5).bind fun a6=>(if a6=true then((spec_poDescents.f k a4 a5).bind fun a7=>(some (a7,true)))else(some (([]:List Int),false)))
set_option maxHeartbeats 8000000 in
set_option maxRecDepth 100000 in
theorem spec_PoleDescents.calls (k:Nat) (b7:Option Addr) (b8:Nat) (a5:List Int) (b9:Option Addr) (c9:Nat) (a6:List Int) (r1:List Int) (r2:Bool) (w:World) (d7:Kd.C (Kd.int .i64) w b7 a5.length a5) (d8:a5.length≤b8) (d9:Kd.C (Kd.int .i64) w b9 a6.length a6) (e6:a6.length≤c9) (h:spec_PoleDescents.f k a5 a6=some (r1,r2)):
  Calls Try.prog 11 #[.agg #[.slice b7 a5.length b8,.slice b9 a6.length c9]] w fun e w'=> ∃l3:Value,e= .returned (.tuple #[l3,.bool r2])∧Kd.R (Kd.int .i64) 3 w' w.heap.size (fun _ =>True) l3 r1∧Below w.heap.size w w':=by
 have l4:=Try.underlying26;have d3:=Aside0.mk d7;have d4:=Aside0.mk d8;clear d7 d8;have d5:=Aside0.mk d9;have d6:=Aside0.mk e6;clear d9 e6;have HB:=Zm (Below.refl w.heap.size w);have H:((spec_poTurned.f k a5 a6).bind fun e7=>(if e7=true then((spec_poDescents.f k a5 a6).bind fun e9=>(some (e9,true)))else(some (([]:List Int),false))))=some (r1,r2):=h;clear h
 replace H:=Zb0 H;obtain⟨e7,A2,H⟩:=H
 by_cases c3:e7=true
 ·
  subst c3
  rw[if_pos rfl]at H
  replace H:=Zb0 H;obtain⟨e9,A4,H⟩:=H
  obtain⟨rfl,rfl⟩:=Zs2 H;clear H
  go_enter Try.func11,Try.ntmps11
  go_wp2_with (first|((with_reducible refine gate_dst (N:=1) rfl ?_);refine Zbe 1 #[.slice b7 a5.length b8,.slice b9 a6.length c9] 26 ?_;intro f8 hg w5 hbox hb;have a4:=Zm (hbox);have f9:=Zx hg HB;have g8:=Zx hg HB;replace HB:=Zh HB hb;clear hb hbox hg;obtain⟨i7,i8,i9,k3⟩:=Z2 a4)|((with_reducible refine gate_callee (f:=36) rfl ?_);refine Ga (some 5) Try.func36 #[.agg #[.slice b7 a5.length b8,.slice b9 a6.length c9]] (h:= ?_);(with_reducible refine(spec_poTurned.calls k _ _ a5 _ _ a6 true _ ?a7 ?a8 ?a9 ?b6 A2.out).mono ?_);(case a7=>exact Zca (Kd.C_below d3.out HB.out));(case a8=>exact d4.out);(case a9=>exact Zca (Kd.C_below d5.out HB.out));(case b6=>exact d6.out);rintro e w7 ⟨rfl,hb⟩;refine⟨_,rfl, ?_⟩;replace a4:=Zk a4 hb;replace HB:=Zh HB hb;obtain⟨k4,k6,k8,k9⟩:=Z2 a4)|((with_reducible refine gate_callee (f:=38) rfl ?_);refine Ga (some 8) Try.func38 #[.agg #[.slice b7 a5.length b8,.slice b9 a6.length c9]] (h:= ?_);(with_reducible refine(spec_poDescents.calls k _ _ a5 _ _ a6 e9 _ ?a7 ?a8 ?a9 ?b6 A4.out).mono ?_);(case a7=>exact Zca (Kd.C_below d3.out HB.out));(case a8=>exact d4.out);(case a9=>exact Zca (Kd.C_below d5.out HB.out));(case b6=>exact d6.out);rintro e w9 ⟨l5,rfl,l6,hb⟩;refine⟨_,rfl, ?_⟩;have g9:=Zj l6 HB;replace a4:=Zk a4 hb;replace HB:=Zh HB hb))
  go_ret2
  exact⟨_,Ze,Zr g9,Zl HB⟩
 ·
  replace c3:=Bool.eq_false_iff.mpr c3
  subst c3
  rw[if_neg Bool.false_ne_true]at H
  obtain⟨rfl,rfl⟩:=Zs2 H;clear H
  go_enter Try.func11,Try.ntmps11
  go_wp2_with (first|((with_reducible refine gate_dst (N:=1) rfl ?_);refine Zbe 1 #[.slice b7 a5.length b8,.slice b9 a6.length c9] 26 ?_;intro f8 hg l7 hbox hb;have a4:=Zm (hbox);have f9:=Zx hg HB;have g8:=Zx hg HB;replace HB:=Zh HB hb;clear hb hbox hg;obtain⟨i3,i4,i5,i6⟩:=Z2 a4)|((with_reducible refine gate_callee (f:=36) rfl ?_);refine Ga (some 5) Try.func36 #[.agg #[.slice b7 a5.length b8,.slice b9 a6.length c9]] (h:= ?_);(with_reducible refine(spec_poTurned.calls k _ _ a5 _ _ a6 false _ ?a7 ?a8 ?a9 ?b6 A2.out).mono ?_);(case a7=>exact Zca (Kd.C_below d3.out HB.out));(case a8=>exact d4.out);(case a9=>exact Zca (Kd.C_below d5.out HB.out));(case b6=>exact d6.out);rintro e l8 ⟨rfl,hb⟩;refine⟨_,rfl, ?_⟩;replace a4:=Zk a4 hb;replace HB:=Zh HB hb))
  go_ret2
  exact⟨_,Ze,Znl,Zl HB⟩
def impl_back.l0:Nat→List Int→List Int→Int→Int→Option (List Int)
 |0,_,_,_,_ =>none
 |k+1,x3,x9,a5,a4=>if a4<a5 then(if 0≤a4 then(if a4<(x9.length:Int)then(if 0≤(rd x9 a4)then(if(rd x9 a4)<(x3.length:Int)then(impl_back.l0 k (x3.set ((rd x9 a4):Int).toNat a4) x9 a5 (wrap64 (a4+1)))else(none))else(none))else(none))else(none))else(some x3)
def impl_back.f (k:Nat) (l0:List Int):Option (List Int):=if 0≤(l0.length:Int)then(if((l0.length:Int):Int).toNat≤35184372088832 then(impl_back.l0 k (List.replicate ((l0.length:Int):Int).toNat 0) l0 (l0.length:Int) 0)else(none))else(none)
set_option maxHeartbeats 8000000 in
set_option maxRecDepth 100000 in
theorem impl_back.calls (k:Nat) (A0:Option Addr) (c0:Nat) (l0:List Int) (r:List Int) (w:World) (i7:Kd.C (Kd.int .i64) w A0 l0.length l0) (i8:l0.length≤c0) (h:impl_back.f k l0=some r):
  Calls Try.prog 40 #[.slice A0 l0.length c0] w fun e w'=> ∃i9:Value,e= .returned (i9)∧Kd.R (Kd.int .i64) 3 w' w.heap.size (fun _ =>True) i9 r∧Below w.heap.size w w':=by
 have k8:=Aside0.mk i7;have m8:=Aside0.mk i8;clear i7 i8;have HB:=Zm (Below.refl w.heap.size w);have H:(if 0≤(l0.length:Int)then(if((l0.length:Int):Int).toNat≤35184372088832 then(impl_back.l0 k (List.replicate ((l0.length:Int):Int).toNat 0) l0 (l0.length:Int) 0)else(none))else(none))=some r:=h;clear h
 by_cases c2:0≤(l0.length:Int)
 ·
  rw[if_pos c2]at H;have k9:=eq_true c2;have l3:decide (0≤(l0.length:Int))=true:=decide_eq_true c2;clear c2
  replace H:=Zif H;obtain⟨c3,H⟩:=H;have l4:=eq_true c3;have l5:decide (((l0.length:Int):Int).toNat≤35184372088832)=true:=decide_eq_true c3;clear c3;generalize a7:((List.replicate ((l0.length:Int):Int).toNat 0):List Int)=d8 at H;have a8:=Aside0.mk a7.symm;clear a7;have H':=Aside0.mk H;clear H
  go_enter Try.func40,Try.ntmps40
  go_wp2_with (first|((with_reducible refine gate_dst (N:=8) rfl ?_);refine Kd.R_make (Kd.int .i64) _ 3 rfl (N:=8) rfl 24 _ _ rfl (l0.length:Int) rfl rfl Try.underlying24 (.int .i64 0) 8 info3 rfl (by decide) (by omega) 0 (ok:=fun _ =>True) (okp:=fun _ =>True) rfl (fun _ hk=>hk) trivial (of_decide_eq_true (by first|(with_reducible assumption)|assumption)) (Nat.le_trans (Nat.mul_le_mul_right _ (of_decide_eq_true (by first|(with_reducible assumption)|assumption):(l0.length:Int).toNat≤35184372088832)) (by omega)) (Below.refl _ _) (Nat.le_refl _) ?_;intro d9 w4 b8 hb hg_ hnew_;clear hg_ hnew_;(first|rw[←a8.out]at b8|(simp only[Int.reduceToNat]at b8;rw[←a8.out]at b8));have b9:=Zj b8 HB;replace HB:=Zh HB hb;clear hb b8))
  go_loopg [11] k (fun kq l6 w'=> ∃(a5:List Int) (a4:Int),l6= .int .i64 a4∧Aside0 (impl_back.l0 kq a5 l0 (l0.length:Int) a4=some r)∧Aside0 (kq≤k)∧Aside0 (Kd.R (Kd.int .i64) 3 w' w.heap.size (fun _ =>True) d9 a5)∧Aside0 (Below w.heap.size w w'))
  case atStart=>exact⟨(d8),(0),Zs,H',⟨Nat.le_refl _⟩,⟨Zr b9⟩,⟨Zl HB⟩⟩
  case round=>
   (clear H');obtain⟨a5,a4,rfl,HA,k3,a6,HB⟩:=hrel
   cases gk with
   |zero=>exact absurd HA.out (by simp[impl_back.l0])
   |succ k1=>
    have H:=HA.out;clear HA
    simp only[impl_back.l0]at H
    by_cases c6:a4<(l0.length:Int)
    ·
     rw[if_pos c6]at H;have e6:=decide_eq_true c6;clear c6
     replace H:=Zit H;obtain⟨l7,H⟩:=H
     replace H:=Zit H;obtain⟨l8,H⟩:=H
     replace H:=Zit H;obtain⟨l9,H⟩:=H
     replace H:=Zit H;obtain⟨k4,H⟩:=H;generalize a9:(a5.set ((rd l0 a4):Int).toNat a4)=c9 at H;have d3:=Aside0.mk a9.symm;clear a9;have H':=Aside0.mk H;clear H;obtain⟨k6,e7,d7,m4,m5⟩:=Zat k8 HB (a4)
     cases e7
     have e9:0≤((rd l0 a4):Int):=Zoa;have f8:((rd l0 a4):Int)<((a5.length:Int):Int):=Zoa
     obtain⟨b6,f9,d4,d5,g8,m6,d6⟩:=Kd.R_form a6.out (by omega)
     (first|cases d4|(injection d4 with ea_ en_ ec_;(first|subst ea_|(injection ea_ with ea_;subst ea_));subst ec_;clear en_))
     have g9:=Aside0.mk d5;have m7:=Aside0.mk d6;clear d5 g8 d6
     obtain⟨i3,i4⟩:=Kd.R_celln 0 a6.out ((rd l0 a4):Int) e9 f8
     replace e9:=eq_true e9
     replace f8:=eq_true f8
     have b7:=Kd.R_putg a6.out ((rd l0 a4):Int) a4
     go_wp2_with (first|((with_reducible refine gate_store (t:=3) (p:=19) rfl ?_);refine store_event (t:=3) (p:=19) (v:= ?i5) (w1:=(wr.setCell ⟨b6,((rd l0 a4):Int).toNat,none⟩ (.int .i64 a4))) ?hg ?ho ?hn ?hr ?_;(case ho=>rfl);(case hg=>rfl);(case hn=>rfl);(case hr=>first|(go_simp;done)|(go_simp;rfl));intro i6 hw;have hg:wr.grownBy i6 (some b6):=(by rw[hw];exact b7.2);have hp_:Kd.R (Kd.int .i64) 3 i6 w.heap.size (fun _ =>True) (.slice (some ⟨b6,0,none⟩) a5.length f9) c9:=(by rw[hw,d3.out];exact b7.1);clear b7;replace a6:=Zm (hp_);replace HB:=Zm ((by rw[hw];exact below_set (HB.out) g9.out:Below w.heap.size w i6));clear hg hw hp_))
     go_roundg k1
     case measure=>have:=k3.out;omega
     case rel=>exact⟨(c9),(wrap64 (a4+1)),Zs,H',⟨by have:=k3.out;omega⟩,⟨Zr a6⟩,⟨Zl HB⟩⟩
    ·
     rw[if_neg c6]at H;have e6:=decide_eq_false c6;clear c6;obtain rfl:=Option.some.inj H
     go_wp2
     go_ret
     exact⟨_,Ze,Zr a6,Zl HB⟩
 ·
  rw[if_neg c2]at H
  exact absurd H (by simp)
def impl_BackTurned.l0:Nat→List Int→Int→Int→List Int→List Int→List Int→List Int→Option (List Int × List Int × Bool)
 |0,_,_,_,_,_,_,_ =>none
 |k+1,a9,b6,a7,a8,a4,a6,a5=>if a7<b6 then(if 0≤a7 then(if a7<(a9.length:Int)then(if a7<(a4.length:Int)then(if 0≤(rd a9 a7)then(if(rd a9 a7)<(a5.length:Int)then(impl_BackTurned.l0 k a9 b6 (wrap64 (a7+1)) a8 a4 a6 (a5.set ((rd a9 a7):Int).toNat (wrap64 (-(rd a4 a7)))))else(none))else(none))else(none))else(none))else(none))else(some (a6,a5,true))
def impl_BackTurned.f (k:Nat) (a4:List Int) (a5:List Int):Option (List Int × List Int × Bool):=(impl_isTurned.f k a4 a5).bind fun a6=>(if a6=true then((impl_back.f k a4).bind fun a7=>(if 0≤(a4.length:Int)then(if((a4.length:Int):Int).toNat≤35184372088832 then(impl_BackTurned.l0 k a4 (a4.length:Int) 0 a4 a5 a7 (List.replicate ((a4.length:Int):Int).toNat 0))else(none))else(none)))else(some (([]:List Int),([]:List Int),false)))
def impl_BackTurned.T3:Bool × List (List Nat × List Nat):=(true,[([],[]),([0],[0]),([1],[1]),([],[]),([3],[3]),([4],[4]),([5,5],[5]),([2,6],[2,6]),([],[]),([8,7,2,0,1,2,3,4,5,6,7,8],[7,8])])
def impl_BackTurned.B3:List Nat:= [0,1,3,0,8,24,56,127,0,511]
theorem impl_BackTurned.tab3:rtab .any (opsOf Try.f12 3)=impl_BackTurned.T3:=by kernel_rfl
theorem impl_BackTurned.bits3:waitsOk impl_BackTurned.T3.2 impl_BackTurned.B3=true:=by kernel_rfl
def impl_BackTurned.T7:Bool × List (List Nat × List Nat):=(true,[([],[]),([0],[0]),([],[]),([],[]),([3],[3]),([],[]),([4,5],[4,5]),([6],[6]),([7],[7]),([1,2,0,1,2,3,4,5,6,7,8],[1,2]),([9,8,0,1,2,3,4,5,6,7,8],[8,9])])
def impl_BackTurned.B7:List Nat:= [0,1,0,0,8,0,56,120,248,511,1023]
theorem impl_BackTurned.tab7:rtab .any (opsOf Try.f12 7)=impl_BackTurned.T7:=by kernel_rfl
theorem impl_BackTurned.bits7:waitsOk impl_BackTurned.T7.2 impl_BackTurned.B7=true:=by kernel_rfl
set_option maxHeartbeats 8000000 in
set_option maxRecDepth 100000 in
theorem impl_BackTurned.calls (k:Nat) (d8:Option Addr) (d6:Nat) (a8:List Int) (e7:Option Addr) (e6:Nat) (d3:List Int) (r1:List Int) (r2:List Int) (r3:Bool) (w:World) (r5:Kd.C (Kd.int .i64) w d8 a8.length a8) (r6:a8.length≤d6) (r7:Kd.C (Kd.int .i64) w e7 d3.length d3) (r8:d3.length≤e6) (h:impl_BackTurned.f k a8 d3=some (r1,r2,r3)):
  Calls Try.prog 12 #[.agg #[.slice d8 a8.length d6,.slice e7 d3.length e6]] w fun e w'=> ∃H5 H6:Value,e= .returned (.tuple #[.agg #[H5,H6],.bool r3])∧Kd.R (Kd.int .i64) 3 w' w.heap.size (fun k_=>Zn k_ H6) H5 r1∧Kd.R (Kd.int .i64) 3 w' w.heap.size (fun k_=>Zn k_ H5) H6 r2∧Below w.heap.size w w':=by
 have K5:=Try.underlying26;have l6:=Aside0.mk r5;have m5:=Aside0.mk r6;clear r5 r6;have o2:=Aside0.mk r7;have r9:=Aside0.mk r8;clear r7 r8;have HB:=Zm (Below.refl w.heap.size w);have H:((impl_isTurned.f k a8 d3).bind fun y9=>(if y9=true then((impl_back.f k a8).bind fun f9=>(if 0≤(a8.length:Int)then(if((a8.length:Int):Int).toNat≤35184372088832 then(impl_BackTurned.l0 k a8 (a8.length:Int) 0 a8 d3 f9 (List.replicate ((a8.length:Int):Int).toNat 0))else(none))else(none)))else(some (([]:List Int),([]:List Int),false))))=some (r1,r2,r3):=h;clear h
 replace H:=Zb0 H;obtain⟨y9,A2,H⟩:=H
 by_cases c3:y9=true
 ·
  subst c3
  rw[if_pos rfl]at H
  replace H:=Zb0 H;obtain⟨f9,A4,H⟩:=H
  replace H:=Zif H;obtain⟨c5,H⟩:=H;have K6:=eq_true c5;have K7:decide (0≤(a8.length:Int))=true:=decide_eq_true c5;clear c5
  replace H:=Zif H;obtain⟨c6,H⟩:=H;have K8:=eq_true c6;have K9:decide (((a8.length:Int):Int).toNat≤35184372088832)=true:=decide_eq_true c6;clear c6;generalize s6:((List.replicate ((a8.length:Int):Int).toNat 0):List Int)=i4 at H;have l3:=Aside0.mk s6.symm;clear s6;have H':=Aside0.mk H;clear H
  go_enter Try.func12,Try.ntmps12
  try go_wp2_with (first|((with_reducible refine gate_dst (N:=1) rfl ?_);refine Zbe 1 #[.slice d8 a8.length d6,.slice e7 d3.length e6] 26 ?_;intro a6 hg w7 hbox hb;have a4:=Zm (hbox);have C1:=Zx hg HB;have C2:=Zx hg HB;replace HB:=Zh HB hb;clear hb hbox hg)|((with_reducible refine gate_dst (N:=2) rfl ?_);refine Zbe 2 #[.slice none 0 0,.slice none 0 0] 26 ?_;intro c9 hg w8 hbox hb;have a5:=Zm (hbox);have C3:=Zx hg HB;have C4:=Zx hg HB;replace HB:=Zh HB hb;have i9:=Zq hg a4;have k3:=Zp hg a4;replace a4:=Zk a4 hb;clear hb hbox hg;have L2:=i9.out;have L3:=k3.out;obtain⟨D5,D6,D7,D8⟩:=Z2 a4)|((with_reducible refine gate_callee (f:=31) rfl ?_);refine Ga (some 8) Try.func31 #[.agg #[.slice d8 a8.length d6,.slice e7 d3.length e6]] (h:= ?_);(with_reducible refine(impl_isTurned.calls k _ _ a8 _ _ d3 true _ ?i5 ?i6 ?o3 ?o4 A2.out).mono ?_);(case i5=>exact Zca (Kd.C_below l6.out HB.out));(case i6=>exact m5.out);(case o3=>exact Zca (Kd.C_below o2.out HB.out));(case o4=>exact r9.out);rintro e L4 ⟨rfl,hb⟩;refine⟨_,rfl, ?_⟩;replace a4:=Zk a4 hb;replace a5:=Zk a5 hb;replace HB:=Zh HB hb))
  replace a4:=Zm (blk_drew a4.out);replace a5:=Zm (blk_drew a5.out);replace HB:=Zm (below_drew1 HB.out)
  refine start_ (n:=10) (S:=fun w'=>w'.cell? ⟨a6,0,none⟩=some (.slice d8 a8.length d6)∧w'.cell? ⟨a6,1,none⟩=some (.slice e7 d3.length e6)) (ds:= []) (fl 10 0) (by kernel_rfl) rfl rfl ⟨Zc0 a4 0,Zc0 a4 1⟩ (fun hHeld=> ?_);refine with_tabW impl_BackTurned.tab3 impl_BackTurned.bits3 (fun HT_ HW_=> ?_)
  generalize L4.drew=M5 at a4 a5 HB hHeld ⊢;refine Yu 0 11 (fl 10 1) HT_ (h:= ?_);refine Yu 3 14 (fl 10 9) HT_ (h:= ?_);refine Yt 1 12 (fl 10 11) HT_ HW_ hHeld (h:= ?_);refine Yt 4 15 (fl 10 27) HT_ HW_ hHeld (h:= ?_);refine Yu 5 16 (fl 10 59) HT_ (h:= ?_)
  refine join_ (σ:=Value × Value × Nat) 1 (fl 10 511) (fun s_=> [(13,s_.1),(17,s_.2.1),(4,.pointer (some ⟨s_.2.2,0,none⟩)),(18,.agg #[s_.1,s_.2.1])]) (fun s_ w'=>(w'.cell? ⟨a6,0,none⟩=some (.slice d8 a8.length d6)∧w'.cell? ⟨a6,1,none⟩=some (.slice e7 d3.length e6))∧(Kd.R (Kd.int .i64) 3 w' w.heap.size (fun k_=>Zn k_ s_.2.1) s_.1 f9)∧(Kd.R (Kd.int .i64) 3 w' w.heap.size (fun k_=>Zn k_ s_.1) s_.2.1 i4)∧(w'.heap[a6]? =some (.cells #[.slice d8 a8.length d6,.slice e7 d3.length e6] 26 (0,0)))∧(w'.heap[c9]? =some (.cells #[.slice none 0 0,.slice none 0 0] 26 (0,0)))∧(w'.heap[s_.2.2]? =some (.cells #[.slice none 0 0,.slice none 0 0] 26 (0,0)))∧(w.heap.size≤s_.2.2)∧(w.heap.size≤s_.2.2)∧(a6≠s_.2.2)∧(s_.2.2≠a6)∧(c9≠s_.2.2)∧(s_.2.2≠c9)∧(Below w.heap.size w w')) ?_ ?_
  rotate_left
  ·
   intro n0
   refine join_ (σ:=Value × Value) 2 (fl 10 255) (fun s_=> [(13,s_.1),(17,s_.2),(18,.agg #[s_.1,s_.2])]) (fun s_ w'=>(w'.cell? ⟨a6,0,none⟩=some (.slice d8 a8.length d6)∧w'.cell? ⟨a6,1,none⟩=some (.slice e7 d3.length e6))∧(Kd.R (Kd.int .i64) 3 w' w.heap.size (fun k_=>Zn k_ s_.2) s_.1 f9)∧(Kd.R (Kd.int .i64) 3 w' w.heap.size (fun k_=>Zn k_ s_.1) s_.2 i4)∧(w'.heap[a6]? =some (.cells #[.slice d8 a8.length d6,.slice e7 d3.length e6] 26 (0,0)))∧(w'.heap[c9]? =some (.cells #[.slice none 0 0,.slice none 0 0] 26 (0,0)))∧(Below w.heap.size w w')) ?_ ?_
   rotate_left
   ·
    intro s7
    refine join_ (σ:=Value × Nat) 3 (fl 10 319) (fun s_=> [(13,s_.1),(4,.pointer (some ⟨s_.2,0,none⟩))]) (fun s_ w'=>(w'.cell? ⟨a6,0,none⟩=some (.slice d8 a8.length d6)∧w'.cell? ⟨a6,1,none⟩=some (.slice e7 d3.length e6))∧(Kd.R (Kd.int .i64) 3 w' w.heap.size (fun _ =>True) s_.1 f9)∧(w'.heap[a6]? =some (.cells #[.slice d8 a8.length d6,.slice e7 d3.length e6] 26 (0,0)))∧(w'.heap[c9]? =some (.cells #[.slice none 0 0,.slice none 0 0] 26 (0,0)))∧(w'.heap[s_.2]? =some (.cells #[.slice none 0 0,.slice none 0 0] 26 (0,0)))∧(w.heap.size≤s_.2)∧(w.heap.size≤s_.2)∧(a6≠s_.2)∧(s_.2≠a6)∧(c9≠s_.2)∧(s_.2≠c9)∧(Below w.heap.size w w')) ?_ ?_
    rotate_left
    ·
     intro s9
     refine join_ (σ:=Value × Nat) 3 (fl 10 379) (fun s_=> [(17,s_.1),(4,.pointer (some ⟨s_.2,0,none⟩))]) (fun s_ w'=>(w'.cell? ⟨a6,0,none⟩=some (.slice d8 a8.length d6)∧w'.cell? ⟨a6,1,none⟩=some (.slice e7 d3.length e6))∧(Kd.R (Kd.int .i64) 3 w' w.heap.size (fun _ =>True) s_.1 i4)∧(w'.heap[a6]? =some (.cells #[.slice d8 a8.length d6,.slice e7 d3.length e6] 26 (0,0)))∧(w'.heap[c9]? =some (.cells #[.slice none 0 0,.slice none 0 0] 26 (0,0)))∧(w'.heap[s_.2]? =some (.cells #[.slice none 0 0,.slice none 0 0] 26 (0,0)))∧(w.heap.size≤s_.2)∧(w.heap.size≤s_.2)∧(a6≠s_.2)∧(s_.2≠a6)∧(c9≠s_.2)∧(s_.2≠c9)∧(Below w.heap.size w w')) ?_ ?_
     rotate_left
     ·
      intro t0
      refine join_ (σ:=Value) 4 (fl 10 63) (fun s_=> [(13,s_)]) (fun s_ w'=>(w'.cell? ⟨a6,0,none⟩=some (.slice d8 a8.length d6)∧w'.cell? ⟨a6,1,none⟩=some (.slice e7 d3.length e6))∧(Kd.R (Kd.int .i64) 3 w' w.heap.size (fun _ =>True) s_ f9)∧(w'.heap[a6]? =some (.cells #[.slice d8 a8.length d6,.slice e7 d3.length e6] 26 (0,0)))∧(w'.heap[c9]? =some (.cells #[.slice none 0 0,.slice none 0 0] 26 (0,0)))∧(Below w.heap.size w w')) ?_ ?_
      rotate_left
      ·
       intro L5
       refine join_ (σ:=Value) 4 (fl 10 123) (fun s_=> [(17,s_)]) (fun s_ w'=>(w'.cell? ⟨a6,0,none⟩=some (.slice d8 a8.length d6)∧w'.cell? ⟨a6,1,none⟩=some (.slice e7 d3.length e6))∧(Kd.R (Kd.int .i64) 3 w' w.heap.size (fun _ =>True) s_ i4)∧(w'.heap[a6]? =some (.cells #[.slice d8 a8.length d6,.slice e7 d3.length e6] 26 (0,0)))∧(w'.heap[c9]? =some (.cells #[.slice none 0 0,.slice none 0 0] 26 (0,0)))∧(Below w.heap.size w w')) ?_ ?_
       rotate_left
       ·
        intro L6
        refine join_ (σ:=Nat) 4 (fl 10 315) (fun s_=> [(4,.pointer (some ⟨s_,0,none⟩))]) (fun s_ w'=>(w'.cell? ⟨a6,0,none⟩=some (.slice d8 a8.length d6)∧w'.cell? ⟨a6,1,none⟩=some (.slice e7 d3.length e6))∧(w'.heap[a6]? =some (.cells #[.slice d8 a8.length d6,.slice e7 d3.length e6] 26 (0,0)))∧(w'.heap[c9]? =some (.cells #[.slice none 0 0,.slice none 0 0] 26 (0,0)))∧(w'.heap[s_]? =some (.cells #[.slice none 0 0,.slice none 0 0] 26 (0,0)))∧(w.heap.size≤s_)∧(w.heap.size≤s_)∧(a6≠s_)∧(s_≠a6)∧(c9≠s_)∧(s_≠c9)∧(Below w.heap.size w w')) ?_ ?_
        rotate_left
        ·
         intro L7
         refine three_ (i:=2) (j:=6) (k:=8) (Ni:=some 13) (Nj:=some 17) (Nk:=some 4) (fl 10 63) (fl 10 123) (fl 10 315) rfl rfl rfl rfl rfl rfl (three_of HT_.out (by kernel_rfl)) (by decide) (by decide) (by decide) (fun K hK=> ?_) (fun K hK=> ?_) (fun K hK=> ?_)
         ·
          refine goes_ Try.func40 (by kernel_rfl) rfl #[.slice d8 a8.length d6] (by rfl) rfl rfl (by(try simp only[List.map_toArray,List.map_cons,List.map_nil]);first|done|rfl) ?_
          with_reducible refine(impl_back.calls k _ _ a8 f9 _ ?i5 ?i6 A4.out).mono ?_
          (case i5=>exact Zca (Kd.C_below l6.out HB.out))
          (case i6=>exact m5.out)
          rintro e I6 ⟨k6,rfl,q4,hb⟩
          refine⟨_,rfl, ?_⟩
          have d4:=Zj q4 HB;replace a4:=Zk a4 hb;replace a5:=Zk a5 hb;replace HB:=Zh HB hb
          refine hK.out _ _ ⟨Zc0 a4 0,Zc0 a4 1⟩ (fun hHeld=> ?_)
          clear hK K;refine Yn 13 (h:= ?_)
          exact norm_ (by first|(simp only[putAll,Act.put,List.setIfInBounds_toArray,List.set_cons_zero,List.set_cons_succ];done)|(simp only[putAll,Act.put,List.setIfInBounds_toArray,List.set_cons_zero,List.set_cons_succ];rfl)) (L5 (k6) _ ⟨hHeld,(Zr d4),(Zb a4),(Zb a5),(Zl HB)⟩)
         ·
          refine Kd.R_make_step (Kd.int .i64) _ 3 (by rfl) (N:=17) rfl 24 _ _ rfl (a8.length:Int) rfl rfl Try.underlying24 (.int .i64 0) 8 info3 rfl (by decide) (by omega) 0 (ok:=fun _ =>True) (okp:=fun _ =>True) rfl (fun _ hk=>hk) trivial (of_decide_eq_true (by first|(with_reducible assumption)|assumption)) (Nat.le_trans (Nat.mul_le_mul_right _ (of_decide_eq_true (by first|(with_reducible assumption)|assumption):(a8.length:Int).toNat≤35184372088832)) (by omega)) (Below.refl _ _) (Nat.le_refl _) ?_
          intro k8 I6 o5 hb hg_ hnew_
          clear hg_ hnew_
          (first|rw[←l3.out]at o5|(simp only[Int.reduceToNat]at o5;rw[←l3.out]at o5))
          have d5:=Zj o5 HB;replace a4:=Zk a4 hb;replace a5:=Zk a5 hb;replace HB:=Zh HB hb;clear hb o5
          refine hK.out _ _ ⟨Zc0 a4 0,Zc0 a4 1⟩ (fun hHeld=> ?_)
          clear hK K;refine Yn 17 (h:= ?_)
          exact norm_ (by first|(simp only[putAll,Act.put,List.setIfInBounds_toArray,List.set_cons_zero,List.set_cons_succ];done)|(simp only[putAll,Act.put,List.setIfInBounds_toArray,List.set_cons_zero,List.set_cons_succ];rfl)) (L6 (k8) _ ⟨hHeld,(Zr d5),(Zb a4),(Zb a5),(Zl HB)⟩)
         ·
          refine Zbs 4 #[.slice none 0 0,.slice none 0 0] 26 ?_
          intro a9 hg I6 hbox hb
          have b9:=Zm (hbox);have g9:=Zx hg HB;have i3:=Zx hg HB;replace HB:=Zh HB hb;have a7:=Zq hg a4;have b6:=Zp hg a4;replace a4:=Zk a4 hb;have b7:=Zq hg a5;have b8:=Zp hg a5;replace a5:=Zk a5 hb;clear hb hbox hg
          refine hK.out _ _ ⟨Zc0 a4 0,Zc0 a4 1⟩ (fun hHeld=> ?_)
          clear hK K;refine Yn 4 (h:= ?_)
          exact norm_ (by first|(simp only[putAll,Act.put,List.setIfInBounds_toArray,List.set_cons_zero,List.set_cons_succ];done)|(simp only[putAll,Act.put,List.setIfInBounds_toArray,List.set_cons_zero,List.set_cons_succ];rfl)) (L7 (a9) _ ⟨hHeld,(Zb a4),(Zb a5),(Zb b9),g9.out,i3.out,a7.out,b6.out,b7.out,b8.out,(Zl HB)⟩)
        ·
         rintro a9 o0 ⟨hS_,m6,m7,m8,m9,n8,o6,o7,o8,o9,p3⟩
         replace a4:Aside0 (o0.heap[a6]? =some (.cells #[.slice d8 a8.length d6,.slice e7 d3.length e6] 26 (0,0))):=⟨m6⟩;replace a5:Aside0 (o0.heap[c9]? =some (.cells #[.slice none 0 0,.slice none 0 0] 26 (0,0))):=⟨m7⟩;have b9:Aside0 (o0.heap[a9]? =some (.cells #[.slice none 0 0,.slice none 0 0] 26 (0,0))):=⟨m8⟩;have g9:Aside0 (w.heap.size≤a9):=⟨m9⟩;have i3:Aside0 (w.heap.size≤a9):=⟨n8⟩;have a7:Aside0 (a6≠a9):=⟨o6⟩;have b6:Aside0 (a9≠a6):=⟨o7⟩;have b7:Aside0 (c9≠a9):=⟨o8⟩;have b8:Aside0 (a9≠c9):=⟨o9⟩;replace HB:Aside0 (Below w.heap.size w o0):=⟨p3⟩;clear m6 m7 m8 m9 n8 o6 o7 o8 o9 p3;have hHeld:o0.cell? ⟨a6,0,none⟩=some (.slice d8 a8.length d6)∧o0.cell? ⟨a6,1,none⟩=some (.slice e7 d3.length e6):=hS_
         refine norm_ (a':= ?_) ?_ ?_
         rotate_left
         ·
          simp only[putAll,Act.put,List.setIfInBounds_toArray,List.set_cons_zero,List.set_cons_succ]
          rfl
         refine two_ (i:=2) (j:=6) (Ni:=some 13) (Nj:=some 17) (fl 10 319) (fl 10 379) rfl rfl rfl rfl (two_of HT_.out (by kernel_rfl)) (by decide) (by decide) (fun K hK=> ?_) (fun K hK=> ?_)
         ·
          refine goes_ Try.func40 (by kernel_rfl) rfl #[.slice d8 a8.length d6] (by rfl) rfl rfl (by(try simp only[List.map_toArray,List.map_cons,List.map_nil]);first|done|rfl) ?_
          with_reducible refine(impl_back.calls k _ _ a8 f9 _ ?i5 ?i6 A4.out).mono ?_
          (case i5=>exact Zca (Kd.C_below l6.out HB.out))
          (case i6=>exact m5.out)
          rintro e n3 ⟨k6,rfl,q4,hb⟩
          refine⟨_,rfl, ?_⟩
          have d4:=Zj q4 HB;replace a4:=Zk a4 hb;replace a5:=Zk a5 hb;replace b9:=Zk b9 hb;replace HB:=Zh HB hb
          refine hK.out _ _ ⟨Zc0 a4 0,Zc0 a4 1⟩ (fun hHeld=> ?_)
          clear hK K;refine Yn 13 (h:= ?_)
          exact norm_ (by first|(simp only[putAll,Act.put,List.setIfInBounds_toArray,List.set_cons_zero,List.set_cons_succ];done)|(simp only[putAll,Act.put,List.setIfInBounds_toArray,List.set_cons_zero,List.set_cons_succ];rfl)) (s9 (k6,a9) _ ⟨hHeld,(Zr d4),(Zb a4),(Zb a5),(Zb b9),g9.out,i3.out,a7.out,b6.out,b7.out,b8.out,(Zl HB)⟩)
         ·
          refine Kd.R_make_step (Kd.int .i64) _ 3 (by rfl) (N:=17) rfl 24 _ _ rfl (a8.length:Int) rfl rfl Try.underlying24 (.int .i64 0) 8 info3 rfl (by decide) (by omega) 0 (ok:=fun _ =>True) (okp:=fun _ =>True) rfl (fun _ hk=>hk) trivial (of_decide_eq_true (by first|(with_reducible assumption)|assumption)) (Nat.le_trans (Nat.mul_le_mul_right _ (of_decide_eq_true (by first|(with_reducible assumption)|assumption):(a8.length:Int).toNat≤35184372088832)) (by omega)) (Below.refl _ _) (Nat.le_refl _) ?_
          intro k8 n3 l4 hb hg_ hnew_
          clear hg_ hnew_
          (first|rw[←l3.out]at l4|(simp only[Int.reduceToNat]at l4;rw[←l3.out]at l4))
          have d5:=Zj l4 HB;replace a4:=Zk a4 hb;replace a5:=Zk a5 hb;replace b9:=Zk b9 hb;replace HB:=Zh HB hb;clear hb l4
          refine hK.out _ _ ⟨Zc0 a4 0,Zc0 a4 1⟩ (fun hHeld=> ?_)
          clear hK K;refine Yn 17 (h:= ?_)
          exact norm_ (by first|(simp only[putAll,Act.put,List.setIfInBounds_toArray,List.set_cons_zero,List.set_cons_succ];done)|(simp only[putAll,Act.put,List.setIfInBounds_toArray,List.set_cons_zero,List.set_cons_succ];rfl)) (t0 (k8,a9) _ ⟨hHeld,(Zr d5),(Zb a4),(Zb a5),(Zb b9),g9.out,i3.out,a7.out,b6.out,b7.out,b8.out,(Zl HB)⟩)
       ·
        rintro k8 n3 ⟨hS_,m6,m7,m8,m9⟩;(have d5:Aside0 (Kd.R (Kd.int .i64) 3 n3 w.heap.size (fun _ =>True) k8 i4):=⟨m6⟩;replace a4:Aside0 (n3.heap[a6]? =some (.cells #[.slice d8 a8.length d6,.slice e7 d3.length e6] 26 (0,0))):=⟨m7⟩;replace a5:Aside0 (n3.heap[c9]? =some (.cells #[.slice none 0 0,.slice none 0 0] 26 (0,0))):=⟨m8⟩;replace HB:Aside0 (Below w.heap.size w n3):=⟨m9⟩;clear m6 m7 m8 m9;have hHeld:n3.cell? ⟨a6,0,none⟩=some (.slice d8 a8.length d6)∧n3.cell? ⟨a6,1,none⟩=some (.slice e7 d3.length e6):=hS_)
        refine norm_ (a':= ?_) ?_ ?_
        rotate_left
        ·
         simp only[putAll,Act.put,List.setIfInBounds_toArray,List.set_cons_zero,List.set_cons_succ]
         rfl
        refine two_ (i:=2) (j:=8) (Ni:=some 13) (Nj:=some 4) (fl 10 127) (fl 10 379) rfl rfl rfl rfl (two_of HT_.out (by kernel_rfl)) (by decide) (by decide) (fun K hK=> ?_) (fun K hK=> ?_)
        ·
         refine goes_ Try.func40 (by kernel_rfl) rfl #[.slice d8 a8.length d6] (by rfl) rfl rfl (by(try simp only[List.map_toArray,List.map_cons,List.map_nil]);first|done|rfl) ?_
         with_reducible refine(impl_back.calls k _ _ a8 f9 _ ?i5 ?i6 A4.out).mono ?_
         (case i5=>exact Zca (Kd.C_below l6.out HB.out))
         (case i6=>exact m5.out)
         rintro e q3 ⟨k6,rfl,q4,hb⟩
         refine⟨_,rfl, ?_⟩
         have d4:=Zj (Zv q4 d5) HB;replace d5:=Zm (Kd.R_elder' (Zr d5) (Kd.R_base q4) hb);replace a4:=Zk a4 hb;replace a5:=Zk a5 hb;replace HB:=Zh HB hb;obtain⟨z2,z3,p4⟩:=Kd.R_slice d5.out
         (first|subst p4|(injection p4 with i7 l7 i8;have l8:=i7.symm;have l9:=i8.symm;clear i7 l7 i8;subst l8;subst l9))
         obtain⟨n6,n7,m4⟩:=Kd.R_slice d4.out
         (first|subst m4|(injection m4 with i7 l7 i8;have l8:=i7.symm;have l9:=i8.symm;clear i7 l7 i8;subst l8;subst l9))
         refine hK.out _ _ ⟨Zc0 a4 0,Zc0 a4 1⟩ (fun hHeld=> ?_)
         clear hK K;refine Yn 13 (h:= ?_);refine Yu 7 18 (fl 10 255) HT_ (h:= ?_)
         exact norm_ (by first|(simp only[putAll,Act.put,List.setIfInBounds_toArray,List.set_cons_zero,List.set_cons_succ];done)|(simp only[putAll,Act.put,List.setIfInBounds_toArray,List.set_cons_zero,List.set_cons_succ];rfl)) (s7 (.slice n6 f9.length n7,.slice z2 i4.length z3) _ ⟨hHeld,(Zc d4),(Zc d5),(Zb a4),(Zb a5),(Zl HB)⟩)
        ·
         refine Zbs 4 #[.slice none 0 0,.slice none 0 0] 26 ?_
         intro a9 hg q3 hbox hb
         replace d5:=Zo d5 hb;have b9:=Zm (hbox);have g9:=Zx hg HB;have i3:=Zx hg HB;replace HB:=Zh HB hb;have a7:=Zq hg a4;have b6:=Zp hg a4;replace a4:=Zk a4 hb;have b7:=Zq hg a5;have b8:=Zp hg a5;replace a5:=Zk a5 hb;clear hb hbox hg
         refine hK.out _ _ ⟨Zc0 a4 0,Zc0 a4 1⟩ (fun hHeld=> ?_)
         clear hK K;refine Yn 4 (h:= ?_)
         exact norm_ (by first|(simp only[putAll,Act.put,List.setIfInBounds_toArray,List.set_cons_zero,List.set_cons_succ];done)|(simp only[putAll,Act.put,List.setIfInBounds_toArray,List.set_cons_zero,List.set_cons_succ];rfl)) (t0 (k8,a9) _ ⟨hHeld,(Zr d5),(Zb a4),(Zb a5),(Zb b9),g9.out,i3.out,a7.out,b6.out,b7.out,b8.out,(Zl HB)⟩)
      ·
       rintro k6 o0 ⟨hS_,m6,m7,m8,m9⟩;(have d4:Aside0 (Kd.R (Kd.int .i64) 3 o0 w.heap.size (fun _ =>True) k6 f9):=⟨m6⟩;replace a4:Aside0 (o0.heap[a6]? =some (.cells #[.slice d8 a8.length d6,.slice e7 d3.length e6] 26 (0,0))):=⟨m7⟩;replace a5:Aside0 (o0.heap[c9]? =some (.cells #[.slice none 0 0,.slice none 0 0] 26 (0,0))):=⟨m8⟩;replace HB:Aside0 (Below w.heap.size w o0):=⟨m9⟩;clear m6 m7 m8 m9;have hHeld:o0.cell? ⟨a6,0,none⟩=some (.slice d8 a8.length d6)∧o0.cell? ⟨a6,1,none⟩=some (.slice e7 d3.length e6):=hS_)
       refine norm_ (a':= ?_) ?_ ?_
       rotate_left
       ·
        simp only[putAll,Act.put,List.setIfInBounds_toArray,List.set_cons_zero,List.set_cons_succ]
        rfl
       refine two_ (i:=6) (j:=8) (Ni:=some 17) (Nj:=some 4) (fl 10 127) (fl 10 319) rfl rfl rfl rfl (two_of HT_.out (by kernel_rfl)) (by decide) (by decide) (fun K hK=> ?_) (fun K hK=> ?_)
       ·
        refine Kd.R_make_step (Kd.int .i64) _ 3 (by rfl) (N:=17) rfl 24 _ _ rfl (a8.length:Int) rfl rfl Try.underlying24 (.int .i64 0) 8 info3 rfl (by decide) (by omega) 0 (ok:=fun _ =>True) (okp:=fun _ =>True) rfl (fun _ hk=>hk) trivial (of_decide_eq_true (by first|(with_reducible assumption)|assumption)) (Nat.le_trans (Nat.mul_le_mul_right _ (of_decide_eq_true (by first|(with_reducible assumption)|assumption):(a8.length:Int).toNat≤35184372088832)) (by omega)) (Below.refl _ _) (Nat.le_refl _) ?_
        intro k8 n3 l4 hb hg_ hnew_
        clear hg_ hnew_
        (first|rw[←l3.out]at l4|(simp only[Int.reduceToNat]at l4;rw[←l3.out]at l4))
        have d5:=Zj (Zv l4 d4) HB;replace d4:=Zm (Kd.R_elder' (Zr d4) (Kd.R_base l4) hb);replace a4:=Zk a4 hb;replace a5:=Zk a5 hb;replace HB:=Zh HB hb;clear hb l4;obtain⟨z2,z3,p4⟩:=Kd.R_slice d5.out
        (first|subst p4|(injection p4 with i7 l7 i8;have l8:=i7.symm;have l9:=i8.symm;clear i7 l7 i8;subst l8;subst l9))
        obtain⟨n6,n7,m4⟩:=Kd.R_slice d4.out
        (first|subst m4|(injection m4 with i7 l7 i8;have l8:=i7.symm;have l9:=i8.symm;clear i7 l7 i8;subst l8;subst l9))
        refine hK.out _ _ ⟨Zc0 a4 0,Zc0 a4 1⟩ (fun hHeld=> ?_)
        clear hK K;refine Yn 17 (h:= ?_);refine Yu 7 18 (fl 10 255) HT_ (h:= ?_)
        exact norm_ (by first|(simp only[putAll,Act.put,List.setIfInBounds_toArray,List.set_cons_zero,List.set_cons_succ];done)|(simp only[putAll,Act.put,List.setIfInBounds_toArray,List.set_cons_zero,List.set_cons_succ];rfl)) (s7 (.slice n6 f9.length n7,.slice z2 i4.length z3) _ ⟨hHeld,(Zc d4),(Zc d5),(Zb a4),(Zb a5),(Zl HB)⟩)
       ·
        refine Zbs 4 #[.slice none 0 0,.slice none 0 0] 26 ?_
        intro a9 hg n3 hbox hb
        replace d4:=Zo d4 hb;have b9:=Zm (hbox);have g9:=Zx hg HB;have i3:=Zx hg HB;replace HB:=Zh HB hb;have a7:=Zq hg a4;have b6:=Zp hg a4;replace a4:=Zk a4 hb;have b7:=Zq hg a5;have b8:=Zp hg a5;replace a5:=Zk a5 hb;clear hb hbox hg
        refine hK.out _ _ ⟨Zc0 a4 0,Zc0 a4 1⟩ (fun hHeld=> ?_)
        clear hK K;refine Yn 4 (h:= ?_)
        exact norm_ (by first|(simp only[putAll,Act.put,List.setIfInBounds_toArray,List.set_cons_zero,List.set_cons_succ];done)|(simp only[putAll,Act.put,List.setIfInBounds_toArray,List.set_cons_zero,List.set_cons_succ];rfl)) (s9 (k6,a9) _ ⟨hHeld,(Zr d4),(Zb a4),(Zb a5),(Zb b9),g9.out,i3.out,a7.out,b6.out,b7.out,b8.out,(Zl HB)⟩)
     ·
      rintro⟨k8,a9⟩ q3 ⟨hS_,m6,m7,m8,m9,n8,o6,o7,o8,o9,p3,n4⟩;(have d5:Aside0 (Kd.R (Kd.int .i64) 3 q3 w.heap.size (fun _ =>True) k8 i4):=⟨m6⟩;replace a4:Aside0 (q3.heap[a6]? =some (.cells #[.slice d8 a8.length d6,.slice e7 d3.length e6] 26 (0,0))):=⟨m7⟩;replace a5:Aside0 (q3.heap[c9]? =some (.cells #[.slice none 0 0,.slice none 0 0] 26 (0,0))):=⟨m8⟩;have b9:Aside0 (q3.heap[a9]? =some (.cells #[.slice none 0 0,.slice none 0 0] 26 (0,0))):=⟨m9⟩;have g9:Aside0 (w.heap.size≤a9):=⟨n8⟩;have i3:Aside0 (w.heap.size≤a9):=⟨o6⟩;have a7:Aside0 (a6≠a9):=⟨o7⟩;have b6:Aside0 (a9≠a6):=⟨o8⟩;have b7:Aside0 (c9≠a9):=⟨o9⟩;have b8:Aside0 (a9≠c9):=⟨p3⟩;replace HB:Aside0 (Below w.heap.size w q3):=⟨n4⟩;clear m6 m7 m8 m9 n8 o6 o7 o8 o9 p3 n4;have hHeld:q3.cell? ⟨a6,0,none⟩=some (.slice d8 a8.length d6)∧q3.cell? ⟨a6,1,none⟩=some (.slice e7 d3.length e6):=hS_)
      refine norm_ (a':= ?_) ?_ ?_
      rotate_left
      ·
       simp only[putAll,Act.put,List.setIfInBounds_toArray,List.set_cons_zero,List.set_cons_succ]
       rfl
      refine one_ (i:=2) (N:=some 13) (fl 10 383) rfl rfl (one_of HT_.out (by kernel_rfl)) (by decide) (fun K hK=> ?_)
      refine goes_ Try.func40 (by kernel_rfl) rfl #[.slice d8 a8.length d6] (by rfl) rfl rfl (by(try simp only[List.map_toArray,List.map_cons,List.map_nil]);first|done|rfl) ?_
      with_reducible refine(impl_back.calls k _ _ a8 f9 _ ?i5 ?i6 A4.out).mono ?_
      (case i5=>exact Zca (Kd.C_below l6.out HB.out))
      (case i6=>exact m5.out)
      rintro e M6 ⟨k6,rfl,q4,hb⟩
      refine⟨_,rfl, ?_⟩
      have d4:=Zj (Zv q4 d5) HB;replace d5:=Zm (Kd.R_elder' (Zr d5) (Kd.R_base q4) hb);replace a4:=Zk a4 hb;replace a5:=Zk a5 hb;replace b9:=Zk b9 hb;replace HB:=Zh HB hb;obtain⟨n6,n7,m4⟩:=Kd.R_slice d5.out
      (first|subst m4|(injection m4 with i7 l7 i8;have l8:=i7.symm;have l9:=i8.symm;clear i7 l7 i8;subst l8;subst l9))
      obtain⟨p5,p6,n5⟩:=Kd.R_slice d4.out
      (first|subst n5|(injection n5 with i7 l7 i8;have l8:=i7.symm;have l9:=i8.symm;clear i7 l7 i8;subst l8;subst l9))
      refine hK.out _ _ ⟨Zc0 a4 0,Zc0 a4 1⟩ (fun hHeld=> ?_)
      clear hK K;refine Yn 13 (h:= ?_);refine Yu 7 18 (fl 10 511) HT_ (h:= ?_)
      exact norm_ (by first|(simp only[putAll,Act.put,List.setIfInBounds_toArray,List.set_cons_zero,List.set_cons_succ];done)|(simp only[putAll,Act.put,List.setIfInBounds_toArray,List.set_cons_zero,List.set_cons_succ];rfl)) (n0 (.slice p5 f9.length p6,.slice n6 i4.length n7,a9) _ ⟨hHeld,(Zc d4),(Zc d5),(Zb a4),(Zb a5),(Zb b9),g9.out,i3.out,a7.out,b6.out,b7.out,b8.out,(Zl HB)⟩)
    ·
     rintro⟨k6,a9⟩ n3 ⟨hS_,m6,m7,m8,m9,n8,o6,o7,o8,o9,p3,n4⟩;(have d4:Aside0 (Kd.R (Kd.int .i64) 3 n3 w.heap.size (fun _ =>True) k6 f9):=⟨m6⟩;replace a4:Aside0 (n3.heap[a6]? =some (.cells #[.slice d8 a8.length d6,.slice e7 d3.length e6] 26 (0,0))):=⟨m7⟩;replace a5:Aside0 (n3.heap[c9]? =some (.cells #[.slice none 0 0,.slice none 0 0] 26 (0,0))):=⟨m8⟩;have b9:Aside0 (n3.heap[a9]? =some (.cells #[.slice none 0 0,.slice none 0 0] 26 (0,0))):=⟨m9⟩;have g9:Aside0 (w.heap.size≤a9):=⟨n8⟩;have i3:Aside0 (w.heap.size≤a9):=⟨o6⟩;have a7:Aside0 (a6≠a9):=⟨o7⟩;have b6:Aside0 (a9≠a6):=⟨o8⟩;have b7:Aside0 (c9≠a9):=⟨o9⟩;have b8:Aside0 (a9≠c9):=⟨p3⟩;replace HB:Aside0 (Below w.heap.size w n3):=⟨n4⟩;clear m6 m7 m8 m9 n8 o6 o7 o8 o9 p3 n4;have hHeld:n3.cell? ⟨a6,0,none⟩=some (.slice d8 a8.length d6)∧n3.cell? ⟨a6,1,none⟩=some (.slice e7 d3.length e6):=hS_)
     refine norm_ (a':= ?_) ?_ ?_
     rotate_left
     ·
      simp only[putAll,Act.put,List.setIfInBounds_toArray,List.set_cons_zero,List.set_cons_succ]
      rfl
     refine one_ (i:=6) (N:=some 17) (fl 10 383) rfl rfl (one_of HT_.out (by kernel_rfl)) (by decide) (fun K hK=> ?_)
     refine Kd.R_make_step (Kd.int .i64) _ 3 (by rfl) (N:=17) rfl 24 _ _ rfl (a8.length:Int) rfl rfl Try.underlying24 (.int .i64 0) 8 info3 rfl (by decide) (by omega) 0 (ok:=fun _ =>True) (okp:=fun _ =>True) rfl (fun _ hk=>hk) trivial (of_decide_eq_true (by first|(with_reducible assumption)|assumption)) (Nat.le_trans (Nat.mul_le_mul_right _ (of_decide_eq_true (by first|(with_reducible assumption)|assumption):(a8.length:Int).toNat≤35184372088832)) (by omega)) (Below.refl _ _) (Nat.le_refl _) ?_
     intro k8 q3 o1 hb hg_ hnew_
     clear hg_ hnew_
     (first|rw[←l3.out]at o1|(simp only[Int.reduceToNat]at o1;rw[←l3.out]at o1))
     have d5:=Zj (Zv o1 d4) HB;replace d4:=Zm (Kd.R_elder' (Zr d4) (Kd.R_base o1) hb);replace a4:=Zk a4 hb;replace a5:=Zk a5 hb;replace b9:=Zk b9 hb;replace HB:=Zh HB hb;clear hb o1;obtain⟨n6,n7,m4⟩:=Kd.R_slice d5.out
     (first|subst m4|(injection m4 with i7 l7 i8;have l8:=i7.symm;have l9:=i8.symm;clear i7 l7 i8;subst l8;subst l9))
     obtain⟨p5,p6,n5⟩:=Kd.R_slice d4.out
     (first|subst n5|(injection n5 with i7 l7 i8;have l8:=i7.symm;have l9:=i8.symm;clear i7 l7 i8;subst l8;subst l9))
     refine hK.out _ _ ⟨Zc0 a4 0,Zc0 a4 1⟩ (fun hHeld=> ?_)
     clear hK K;refine Yn 17 (h:= ?_);refine Yu 7 18 (fl 10 511) HT_ (h:= ?_)
     exact norm_ (by first|(simp only[putAll,Act.put,List.setIfInBounds_toArray,List.set_cons_zero,List.set_cons_succ];done)|(simp only[putAll,Act.put,List.setIfInBounds_toArray,List.set_cons_zero,List.set_cons_succ];rfl)) (n0 (.slice p5 f9.length p6,.slice n6 i4.length n7,a9) _ ⟨hHeld,(Zc d4),(Zc d5),(Zb a4),(Zb a5),(Zb b9),g9.out,i3.out,a7.out,b6.out,b7.out,b8.out,(Zl HB)⟩)
   ·
    rintro⟨k6,k8⟩ z4 ⟨hS_,m6,m7,m8,m9,n8⟩;(have d4:Aside0 (Kd.R (Kd.int .i64) 3 z4 w.heap.size (fun k_=>Zn k_ k8) k6 f9):=⟨m6⟩;have d5:Aside0 (Kd.R (Kd.int .i64) 3 z4 w.heap.size (fun k_=>Zn k_ k6) k8 i4):=⟨m7⟩;replace a4:Aside0 (z4.heap[a6]? =some (.cells #[.slice d8 a8.length d6,.slice e7 d3.length e6] 26 (0,0))):=⟨m8⟩;replace a5:Aside0 (z4.heap[c9]? =some (.cells #[.slice none 0 0,.slice none 0 0] 26 (0,0))):=⟨m9⟩;replace HB:Aside0 (Below w.heap.size w z4):=⟨n8⟩;clear m6 m7 m8 m9 n8;have hHeld:z4.cell? ⟨a6,0,none⟩=some (.slice d8 a8.length d6)∧z4.cell? ⟨a6,1,none⟩=some (.slice e7 d3.length e6):=hS_);obtain⟨p5,p6,n5⟩:=Kd.R_slice d5.out
    (first|subst n5|(injection n5 with i7 l7 i8;have l8:=i7.symm;have l9:=i8.symm;clear i7 l7 i8;subst l8;subst l9))
    obtain⟨p7,p8,p9⟩:=Kd.R_slice d4.out
    (first|subst p9|(injection p9 with i7 l7 i8;have l8:=i7.symm;have l9:=i8.symm;clear i7 l7 i8;subst l8;subst l9))
    refine norm_ (a':= ?_) ?_ ?_
    rotate_left
    ·
     simp only[putAll,Act.put,List.setIfInBounds_toArray,List.set_cons_zero,List.set_cons_succ]
     rfl
    refine one_ (i:=8) (N:=some 4) (fl 10 511) rfl rfl (one_of HT_.out (by kernel_rfl)) (by decide) (fun K hK=> ?_)
    refine Zbs 4 #[.slice none 0 0,.slice none 0 0] 26 ?_
    intro a9 hg M7 hbox hb
    replace d4:=Zo d4 hb;replace d5:=Zo d5 hb;have b9:=Zm (hbox);have g9:=Zx hg HB;have i3:=Zx hg HB;replace HB:=Zh HB hb;have a7:=Zq hg a4;have b6:=Zp hg a4;replace a4:=Zk a4 hb;have b7:=Zq hg a5;have b8:=Zp hg a5;replace a5:=Zk a5 hb;clear hb hbox hg
    refine hK.out _ _ ⟨Zc0 a4 0,Zc0 a4 1⟩ (fun hHeld=> ?_)
    clear hK K;refine Yn 4 (h:= ?_)
    exact norm_ (by first|(simp only[putAll,Act.put,List.setIfInBounds_toArray,List.set_cons_zero,List.set_cons_succ];done)|(simp only[putAll,Act.put,List.setIfInBounds_toArray,List.set_cons_zero,List.set_cons_succ];rfl)) (n0 (.slice p7 f9.length p8,.slice p5 i4.length p6,a9) _ ⟨hHeld,(Zr d4),(Zr d5),(Zb a4),(Zb a5),(Zb b9),g9.out,i3.out,a7.out,b6.out,b7.out,b8.out,(Zl HB)⟩)
  rintro⟨k6,k8,a9⟩ t8 ⟨hS_,m6,m7,m8,m9,n8,o6,o7,o8,o9,p3,n4,C5⟩;(have d4:Aside0 (Kd.R (Kd.int .i64) 3 t8 w.heap.size (fun k_=>Zn k_ k8) k6 f9):=⟨m6⟩;have d5:Aside0 (Kd.R (Kd.int .i64) 3 t8 w.heap.size (fun k_=>Zn k_ k6) k8 i4):=⟨m7⟩;replace a4:Aside0 (t8.heap[a6]? =some (.cells #[.slice d8 a8.length d6,.slice e7 d3.length e6] 26 (0,0))):=⟨m8⟩;replace a5:Aside0 (t8.heap[c9]? =some (.cells #[.slice none 0 0,.slice none 0 0] 26 (0,0))):=⟨m9⟩;have b9:Aside0 (t8.heap[a9]? =some (.cells #[.slice none 0 0,.slice none 0 0] 26 (0,0))):=⟨n8⟩;have g9:Aside0 (w.heap.size≤a9):=⟨o6⟩;have i3:Aside0 (w.heap.size≤a9):=⟨o7⟩;have a7:Aside0 (a6≠a9):=⟨o8⟩;have b6:Aside0 (a9≠a6):=⟨o9⟩;have b7:Aside0 (c9≠a9):=⟨p3⟩;have b8:Aside0 (a9≠c9):=⟨n4⟩;replace HB:Aside0 (Below w.heap.size w t8):=⟨C5⟩;clear m6 m7 m8 m9 n8 o6 o7 o8 o9 p3 n4 C5;have hHeld:t8.cell? ⟨a6,0,none⟩=some (.slice d8 a8.length d6)∧t8.cell? ⟨a6,1,none⟩=some (.slice e7 d3.length e6):=hS_);obtain⟨p7,p8,p9⟩:=Kd.R_slice d5.out
  (first|subst p9|(injection p9 with i7 l7 i8;have l8:=i7.symm;have l9:=i8.symm;clear i7 l7 i8;subst l8;subst l9))
  obtain⟨q5,q6,C6⟩:=Kd.R_slice d4.out
  (first|subst C6|(injection C6 with i7 l7 i8;have l8:=i7.symm;have l9:=i8.symm;clear i7 l7 i8;subst l8;subst l9))
  refine norm_ (a':= ?_) ?_ ?_
  rotate_left
  ·
   simp only[putAll,Act.put,List.setIfInBounds_toArray,List.set_cons_zero,List.set_cons_succ]
   rfl
  refine one_ (i:=9) (N:=none) (fl 10 1023) rfl rfl (one_of HT_.out (by kernel_rfl)) (by decide) (fun K hK=> ?_)
  have L8:=Zc0 b9 0;have I7:=blk_frozen b9.out 0;have D9:=a7.out;have E0:=b7.out;have E6:=b6.out;have E7:=b8.out;have L9:=Zc0 b9 1;have I8:=blk_frozen b9.out 1;have E8:=a7.out;have E9:=b7.out;have F0:=b6.out;have F1:=b8.out
  refine skip_ (w1:= ?_) (by rfl) rfl ?_ ?_
  rotate_left
  ·
   go_simp
   rfl
  refine hK.out _ _ ⟨((cell_far (p:=⟨a9,_,none⟩) a7.out _).trans (((cell_far (p:=⟨a9,_,none⟩) a7.out _).trans (hHeld.1)))),((cell_far (p:=⟨a9,_,none⟩) a7.out _).trans (((cell_far (p:=⟨a9,_,none⟩) a7.out _).trans (hHeld.2))))⟩ (fun hHeld=> ?_)
  clear hK K
  refine done_ (done_of HT_.out (by kernel_rfl)) ?_
  have I9:=a7.out;have J0:=b6.out;obtain⟨F2,F3,F4,F5⟩:=Z2 a4
  try go_wp2
  go_loopg [22] k (fun kq M0 w'=> ∃(e9:Int) (f8:List Int) (d9:List Int) (k4:Value) (l5:Value),M0= .int .i64 e9∧Aside0 (impl_BackTurned.l0 kq a8 (a8.length:Int) e9 a8 d3 f8 d9=some (r1,r2,r3))∧Aside0 (kq≤k)∧Aside0 (Kd.R (Kd.int .i64) 3 w' w.heap.size (fun k_=>Zn k_ l5) k4 f8)∧Aside0 (Kd.R (Kd.int .i64) 3 w' w.heap.size (fun k_=>Zn k_ k4) l5 d9)∧Aside0 (w'.heap[a6]? =some (.cells #[(.slice d8 a8.length d6),(.slice e7 d3.length e6)] 26 (0,0)))∧Aside0 (w'.heap[c9]? =some (.cells #[(.slice none 0 0),(.slice none 0 0)] 26 (0,0)))∧Aside0 (w'.heap[a9]? =some (.cells #[k4,l5] 26 (0,0)))∧Aside0 (Below w.heap.size w w'))
  case atStart=>exact⟨(0),(f9),(i4),(.slice q5 f9.length q6),(.slice p7 i4.length p8),Zs,H',⟨Nat.le_refl _⟩,⟨Zrr (Zfm d4 b9 (.slice q5 f9.length q6) (.slice p7 i4.length p8) (fun _ hk=>hk.1))⟩,⟨Zrr (Zfm d5 b9 (.slice q5 f9.length q6) (.slice p7 i4.length p8) (fun _ hk=>hk.1))⟩,⟨Zbf a4⟩,⟨Zbf a5⟩,⟨by refine Zrb ?_;refine blk_put (cs:= #[.slice q5 f9.length q6,.slice none 0 0]) ?_ 1 _ rfl;refine Zrb ?_;refine blk_put (cs:= #[.slice none 0 0,.slice none 0 0]) ?_ 0 _ rfl;refine Zrb ?_;exact b9.out⟩,⟨Zl HB⟩⟩
  case round=>
   (clear H');obtain⟨e9,f8,d9,k4,l5,rfl,HA,J1,g8,d7,a4,a5,b9,HB⟩:=hrel
   cases gk with
   |zero=>exact absurd HA.out (by simp[impl_BackTurned.l0])
   |succ k1=>
    have H:=HA.out;clear HA
    simp only[impl_BackTurned.l0]at H
    by_cases c26:e9<(a8.length:Int)
    ·
     rw[if_pos c26]at H;have C7:=decide_eq_true c26;clear c26
     replace H:=Zit H;obtain⟨J2,H⟩:=H
     replace H:=Zit H;obtain⟨J3,H⟩:=H
     replace H:=Zit H;obtain⟨J4,H⟩:=H
     replace H:=Zit H;obtain⟨J5,H⟩:=H
     replace H:=Zit H;obtain⟨J6,H⟩:=H;generalize t9:(d9.set ((rd a8 e9):Int).toNat (wrap64 (-(rd d3 e9))))=H7 at H;have C8:=Aside0.mk t9.symm;clear t9;have H':=Aside0.mk H;clear H;obtain⟨C9,H8,F6,M1,M2⟩:=Zat l6 HB (e9)
     cases H8
     try go_wp2
     replace g8:=Zm (Kd.R_drew g8.out);replace d7:=Zm (Kd.R_drew d7.out);replace a4:=Zm (blk_drew a4.out);replace a5:=Zm (blk_drew a5.out);replace b9:=Zm (blk_drew b9.out);replace HB:=Zm (below_drew1 HB.out);have z5:0≤(e9:Int):=Zoa;have z6:e9<(d3.length:Int):=Zoa
     obtain⟨y8,H9,k9⟩:=Kd.at_int o2.out e9 z5 z6
     have n9:=k9
     cases H9
     replace k9:=(HB.out.cell (World.block_lt_of_cell? w _ k9)).trans k9
     replace z5:=eq_true z5
     replace z6:=eq_true z6
     have I0:0≤((rd a8 e9):Int):=Zoa;have I1:((rd a8 e9):Int)<((d9.length:Int):Int):=Zoa
     obtain⟨q7,D0,D1,D2,I2,M3,D3⟩:=Kd.R_form d7.out (by omega)
     (first|cases D1|(injection D1 with ea_ en_ ec_;(first|subst ea_|(injection ea_ with ea_;subst ea_));subst ec_;clear en_))
     have M4:=Aside0.mk D2;have I3:=Aside0.mk D3;clear D2 I2 D3
     obtain⟨z7,z8⟩:=Kd.R_celln 0 d7.out ((rd a8 e9):Int) I0 I1
     replace I0:=eq_true I0
     replace I1:=eq_true I1
     have z9:=Kd.R_putn d7.out ((rd a8 e9):Int) (wrap64 (-(rd d3 e9)))
     rw[←C8.out]at z9
     have D4:=Aside0.mk z9;clear z9
     refine start_ (n:=11) (S:=fun w'=>w'.cell? ⟨a9,0,none⟩=some (k4)∧w'.cell? ⟨a9,1,none⟩=some (.slice (some ⟨q7,0,none⟩) d9.length D0)∧w'.cell? ⟨a6,0,none⟩=some (.slice (some C9) a8.length d6)∧w'.cell? ⟨a6,1,none⟩=some (.slice (some y8) d3.length e6)∧w'.cell? (y8.add (e9).toNat)=some (.int .i64 (rd d3 e9))) (ds:= [10]) (fl 11 0) (by kernel_rfl) rfl rfl ⟨Zc0 b9 0,Zc0 b9 1,Zc0 a4 0,Zc0 a4 1,((HB.out.cell (World.block_lt_of_cell? w _ n9)).trans n9)⟩ (fun hHeld=> ?_);refine with_tabW impl_BackTurned.tab7 impl_BackTurned.bits7 (fun HT_ HW_=> ?_)
     generalize wr.drew=M8 at g8 d7 a4 a5 b9 HB I3 D4 z8 z7 k9 hHeld ⊢;refine Yu 0 27 (fl 11 1) HT_ (h:= ?_);refine Yu 2 29 (fl 11 5) HT_ (h:= ?_);refine Yu 3 30 (fl 11 13) HT_ (h:= ?_);refine Yu 5 32 (fl 11 45) HT_ (h:= ?_);refine Yt 1 28 (fl 11 47) HT_ HW_ hHeld (h:= ?_);refine Yt 4 31 (fl 11 63) HT_ HW_ hHeld (h:= ?_);refine Yu 6 33 (fl 11 127) HT_ (h:= ?_);refine Yt 7 34 (fl 11 255) HT_ HW_ hHeld (h:= ?_);refine Yu 8 35 (fl 11 511) HT_ (h:= ?_);refine Yu 9 36 (fl 11 1023) HT_ (h:= ?_)
     refine last_ (i:=10) (N:=none) (fl 11 2047) rfl rfl (one_of HT_.out (by kernel_rfl)) (by decide) (fun K hK=> ?_)
     refine skip_ (w1:= ?_) (by rfl) rfl ?_ ?_
     rotate_left
     ·
      go_simp
      rfl
     refine hK.out _ _ ?_
     clear hK K
     refine done_ (done_of HT_.out (by kernel_rfl)) ?_
     try go_wp2
     go_roundg k1
     case measure=>have:=J1.out;omega
     case rel=>exact⟨(wrap64 (e9+1)),(f8),(H7),(k4),(.slice (some ⟨q7,0,none⟩) d9.length D0),Zs,H',⟨by have:=J1.out;omega⟩,⟨Zrr (Kd.R_mono (Kd.R_far (p:=⟨q7,((rd a8 e9):Int).toNat,none⟩) (Kd.R_mono g8.out (fun k_ hk=>(⟨hk,fun e_=>hk (by rw[e_];rfl)⟩: _ ∧k_≠q7))) (fun _ hk=>hk.2) (.int .i64 (wrap64 (-(rd d3 e9))))) (fun _ hk=>hk.1))⟩,⟨Zr D4⟩,⟨by refine Zrb ?_;refine blk_far ?_ (by have h_:=Kd.R_ne d7.out a4.out (by decide);intro e_;exact h_ (by rw[e_];rfl)) _;refine Zrb ?_;exact a4.out⟩,⟨by refine Zrb ?_;refine blk_far ?_ (by have h_:=Kd.R_ne d7.out a5.out (by decide);intro e_;exact h_ (by rw[e_];rfl)) _;refine Zrb ?_;exact a5.out⟩,⟨by refine Zrb ?_;refine blk_far ?_ (by have h_:=Kd.R_ne d7.out b9.out (by decide);intro e_;exact h_ (by rw[e_];rfl)) _;refine Zrb ?_;exact b9.out⟩,⟨Zl HB⟩⟩
    ·
     rw[if_neg c26]at H;have C7:=decide_eq_false c26;clear c26
     obtain⟨rfl,rfl,rfl⟩:=Zs3 H;clear H
     have J7:=b6.out;have J8:=a7.out;have J9:=b8.out;have K0:=b7.out;obtain⟨F7,F8,F9,G1⟩:=Z2 b9
     obtain⟨q8,q9,I4⟩:=Kd.R_slice g8.out;subst I4
     have K1:=k3.out;have K2:=i9.out;obtain⟨G2,G3,G4,G5⟩:=Z2 a5
     obtain⟨B0,C0,I5⟩:=Kd.R_slice d7.out;subst I5
     go_wp2
     refine bodyPost_ret (results_ct rfl _ _ c9 26 #[.slice q8 f8.length q9,.slice B0 d9.length C0] (0,0) _ rfl (by refine Zrb ?_;refine blk_put (cs:= #[.slice q8 f8.length q9,.slice none 0 0]) ?_ 1 _ rfl;refine Zrb ?_;refine blk_put (cs:= #[.slice none 0 0,.slice none 0 0]) ?_ 0 _ rfl;refine Zrb ?_;exact a5.out) Try.underlying26 rfl (by kernel_rfl)) rfl ?_
     exact⟨_,_,Ze,Zrr (Zfm g8 a5 (.slice q8 f8.length q9) (.slice B0 d9.length C0) (fun _ hk=>hk.1)),Zrr (Zfm d7 a5 (.slice q8 f8.length q9) (.slice B0 d9.length C0) (fun _ hk=>hk.1)),Zl HB⟩
 ·
  replace c3:=Bool.eq_false_iff.mpr c3
  subst c3
  rw[if_neg Bool.false_ne_true]at H
  obtain⟨rfl,rfl,rfl⟩:=Zs3 H;clear H
  go_enter Try.func12,Try.ntmps12
  go_wp2_with (first|((with_reducible refine gate_dst (N:=1) rfl ?_);refine Zbe 1 #[.slice d8 a8.length d6,.slice e7 d3.length e6] 26 ?_;intro a6 hg M9 hbox hb;have a4:=Zm (hbox);have C1:=Zx hg HB;have C2:=Zx hg HB;replace HB:=Zh HB hb;clear hb hbox hg)|((with_reducible refine gate_dst (N:=2) rfl ?_);refine Zbe 2 #[.slice none 0 0,.slice none 0 0] 26 ?_;intro c9 hg N0 hbox hb;have a5:=Zm (hbox);have C3:=Zx hg HB;have C4:=Zx hg HB;replace HB:=Zh HB hb;have i9:=Zq hg a4;have k3:=Zp hg a4;replace a4:=Zk a4 hb;clear hb hbox hg;have K3:=i9.out;have K4:=k3.out;obtain⟨G6,G7,G8,G9⟩:=Z2 a4)|((with_reducible refine gate_callee (f:=31) rfl ?_);refine Ga (some 8) Try.func31 #[.agg #[.slice d8 a8.length d6,.slice e7 d3.length e6]] (h:= ?_);(with_reducible refine(impl_isTurned.calls k _ _ a8 _ _ d3 false _ ?i5 ?i6 ?o3 ?o4 A2.out).mono ?_);(case i5=>exact Zca (Kd.C_below l6.out HB.out));(case i6=>exact m5.out);(case o3=>exact Zca (Kd.C_below o2.out HB.out));(case o4=>exact r9.out);rintro e N1 ⟨rfl,hb⟩;refine⟨_,rfl, ?_⟩;replace a4:=Zk a4 hb;replace a5:=Zk a5 hb;replace HB:=Zh HB hb;obtain⟨H1,H2,H3,H4⟩:=Z2 a5))
  refine bodyPost_ret (results_ct rfl _ _ c9 26 #[.slice none 0 0,.slice none 0 0] (0,0) _ rfl (by refine Zrb ?_;refine blk_put (cs:= #[.slice none 0 0,.slice none 0 0]) ?_ 1 _ rfl;refine Zrb ?_;refine blk_put (cs:= #[.slice none 0 0,.slice none 0 0]) ?_ 0 _ rfl;refine Zrb ?_;exact a5.out) Try.underlying26 rfl (by kernel_rfl)) rfl ?_
  exact⟨_,_,Ze,Znl,Znl,Zl HB⟩
end Go.Proofs.Ytnagcjhgojchlaa.Q
