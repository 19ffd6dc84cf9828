/- Each function below comes to the Lean function beside it (theorems '.calls'); no condition beyond each theorem's own. Written by our program oprint.py over the kit's print. -/
import Derived.Test.YtnagcjhgojchlaaQm0
namespace Go.Proofs.Ytnagcjhgojchlaa.Q
open Go.RowKit Go.Proofs.YtnagcjhgojchlaaW.PrintWords Go.Proofs.YtnagcjhgojchlaaW.PrintLast Go.Proofs.YtnagcjhgojchlaaW.PrintMore
attribute [local go_sem] max2_int min2_int max_two min_two max_three min_three max_four min_four
set_option linter.unusedVariables false
set_option linter.unusedSimpArgs false
def impl_thenTurned.l0:Nat→List Int→Int→Int→List Int→List Int→List Int→List Int→List Int→List Int→Option (List Int × List Int)
 |0,_,_,_,_,_,_,_,_,_ =>none
 |k+1,b7,c9,a9,b6,a4,a5,a6,a7,a8=>if a9<c9 then(if 0≤a9 then(if a9<(b7.length:Int)then(if 0≤(rd b7 a9)then(if(rd b7 a9)<(a5.length:Int)then((some (([rd a5 (rd b7 a9)]:List Int):List Int)).bind fun b8=>(if a7.length+b8.length<17592186044416 then(if a9<(a4.length:Int)then(if(rd b7 a9)<(a6.length:Int)then((some (([wrap64 ((rd a4 a9)+(rd a6 (rd b7 a9)))]:List Int):List Int)).bind fun b9=>(if a8.length+b9.length<17592186044416 then(impl_thenTurned.l0 k b7 c9 (wrap64 (a9+1)) b6 a4 a5 a6 (a7++b8) (a8++b9))else(none)))else(none))else(none))else(none)))else(none))else(none))else(none))else(none))else(some (a7,a8))
def impl_thenTurned.f (k:Nat) (a4:List Int) (a5:List Int) (a6:List Int) (a7:List Int):Option (List Int × List Int):=impl_thenTurned.l0 k a4 (a4.length:Int) 0 a4 a5 a6 a7 ([]:List Int) ([]:List Int)
def impl_thenTurned.T5:Bool × List (List Nat × List Nat):=(true,[([],[]),([0],[0]),([],[]),([2],[2]),([],[]),([3,4],[3,4]),([5],[5]),([6],[6]),([1,7],[1,7]),([],[]),([9],[9]),([],[]),([11],[11]),([],[]),([12,13],[12,13]),([14],[14]),([],[]),([16],[16]),([],[]),([17,18],[17,18]),([19],[19]),([15,20],[15,20]),([21],[21]),([10,22,8],[10,22]),([0,1,2,3,4,5,6,7,8,9,10],[]),([24,8,23,0,1,2,3,4,5,6,7,8,9,10],[8,24]),([0,1,2,3,4,5,6,7,8,9,10,11,12,13,14,15,16,17,18,19,20,21,22,23,24,25],[]),([26,23,25,0,1,2,3,4,5,6,7,8,9,10,11,12,13,14,15,16,17,18,19,20,21,22,23,24,25],[23,26])])
def impl_thenTurned.B5:List Nat:= [0,1,0,4,0,28,60,124,255,0,512,0,2048,0,14336,30720,0,65536,0,458752,983040,2095104,4192256,8388607,2047,33554431,67108863,134217727]
theorem impl_thenTurned.tab5:rtab .any (opsOf Try.f35 5)=impl_thenTurned.T5:=by kernel_rfl
theorem impl_thenTurned.bits5:waitsOk impl_thenTurned.T5.2 impl_thenTurned.B5=true:=by kernel_rfl
set_option maxHeartbeats 8000000 in
set_option maxRecDepth 100000 in
theorem impl_thenTurned.calls (k:Nat) (p9:Option Addr) (m6:Nat) (b9:List Int) (q3:Option Addr) (m7:Nat) (d7:List Int) (q4:Option Addr) (m8:Nat) (d9:List Int) (q5:Option Addr) (m9:Nat) (d8:List Int) (r1:List Int) (r2:List Int) (w:World) (r6:Kd.C (Kd.int .i64) w p9 b9.length b9) (r7:b9.length≤m6) (r8:Kd.C (Kd.int .i64) w q3 d7.length d7) (r9:d7.length≤m7) (s6:Kd.C (Kd.int .i64) w q4 d9.length d9) (s7:d9.length≤m8) (s9:Kd.C (Kd.int .i64) w q5 d8.length d8) (t0:d8.length≤m9) (h:impl_thenTurned.f k b9 d7 d9 d8=some (r1,r2)):
  Calls Try.prog 35 #[.agg #[.slice p9 b9.length m6,.slice q3 d7.length m7],.agg #[.slice q4 d9.length m8,.slice q5 d8.length m9]] w fun e w'=> ∃H2 H3:Value,e= .returned (.agg #[H2,H3])∧Kd.R (Kd.int .i64) 3 w' w.heap.size (fun k_=>Zn k_ H3) H2 r1∧Kd.R (Kd.int .i64) 3 w' w.heap.size (fun k_=>Zn k_ H2) H3 r2∧Below w.heap.size w w':=by
 have N1:=Try.underlying26;have C5:=Aside0.mk r6;have I2:=Aside0.mk r7;clear r6 r7;have C6:=Aside0.mk r8;have I3:=Aside0.mk r9;clear r8 r9;have C7:=Aside0.mk s6;have I4:=Aside0.mk s7;clear s6 s7;have C8:=Aside0.mk s9;have I5:=Aside0.mk t0;clear s9 t0;have HB:=Zm (Below.refl w.heap.size w);have H:(impl_thenTurned.l0 k b9 (b9.length:Int) 0 b9 d7 d9 d8 ([]:List Int) ([]:List Int))=some (r1,r2):=h;clear h;have H':=Aside0.mk H;clear H
 go_enter Try.func35,Try.ntmps35
 go_wp2_with (first|((with_reducible refine gate_dst (N:=2) rfl ?_);refine Zbe 2 #[.slice p9 b9.length m6,.slice q3 d7.length m7] 26 ?_;intro k3 hg w3 hbox hb;have a7:=Zm (hbox);have I6:=Zx hg HB;have I7:=Zx hg HB;replace HB:=Zh HB hb;clear hb hbox hg)|((with_reducible refine gate_dst (N:=3) rfl ?_);refine Zbe 3 #[.slice q4 d9.length m8,.slice q5 d8.length m9] 26 ?_;intro k4 hg w4 hbox hb;have a9:=Zm (hbox);have I8:=Zx hg HB;have I9:=Zx hg HB;replace HB:=Zh HB hb;have o6:=Zq hg a7;have o7:=Zp hg a7;replace a7:=Zk a7 hb;clear hb hbox hg)|((with_reducible refine gate_dst (N:=4) rfl ?_);refine Zbe 4 #[.slice none 0 0,.slice none 0 0] 26 ?_;intro o4 hg w5 hbox hb;have b8:=Zm (hbox);have J0:=Zx hg HB;have J1:=Zx hg HB;replace HB:=Zh HB hb;have l9:=Zq hg a7;have m4:=Zp hg a7;replace a7:=Zk a7 hb;have o8:=Zq hg a9;have o9:=Zp hg a9;replace a9:=Zk a9 hb;clear hb hbox hg)|((with_reducible refine gate_dst (N:=5) rfl ?_);refine Zbe 5 #[.slice none 0 0,.slice none 0 0] 26 ?_;intro i8 hg w6 hbox hb;have b6:=Zm (hbox);have J2:=Zx hg HB;have J3:=Zx hg HB;replace HB:=Zh HB hb;have g8:=Zq hg a7;have g9:=Zp hg a7;replace a7:=Zk a7 hb;have i3:=Zq hg a9;have i4:=Zp hg a9;replace a9:=Zk a9 hb;have i5:=Zq hg b8;have i6:=Zp hg b8;replace b8:=Zk b8 hb;clear hb hbox hg;have N2:=g9.out;have N3:=g8.out;have N4:=i4.out;have N5:=i3.out;have N6:=i6.out;have N7:=i5.out;obtain⟨D6,D7,D8,D9⟩:=Z2 b6;have J4:=o6.out;have J5:=o7.out;have J6:=l9.out;have J7:=m4.out;obtain⟨E0,E6,E7,E8⟩:=Z2 a7))
 go_loopg [12] k (fun kq N8 w'=> ∃(a8:Int) (b7:List Int) (a6:List Int) (l7:Value) (l8:Value),N8= .int .i64 a8∧Aside0 (impl_thenTurned.l0 kq b9 (b9.length:Int) a8 b9 d7 d9 d8 b7 a6=some (r1,r2))∧Aside0 (kq≤k)∧Aside0 (Kd.R (Kd.int .i64) 3 w' w.heap.size (fun k_=>Zn k_ l8) l7 b7)∧Aside0 (Kd.R (Kd.int .i64) 3 w' w.heap.size (fun k_=>Zn k_ l7) l8 a6)∧Aside0 (w'.heap[k3]? =some (.cells #[(.slice p9 b9.length m6),(.slice q3 d7.length m7)] 26 (0,0)))∧Aside0 (w'.heap[k4]? =some (.cells #[(.slice q4 d9.length m8),(.slice q5 d8.length m9)] 26 (0,0)))∧Aside0 (w'.heap[o4]? =some (.cells #[(.slice none 0 0),(.slice none 0 0)] 26 (0,0)))∧Aside0 (w'.heap[i8]? =some (.cells #[l7,l8] 26 (0,0)))∧Aside0 (Below w.heap.size w w'))
 case atStart=>exact⟨(0),(([]:List Int)),(([]:List Int)),(.slice none 0 0),(.slice none 0 0),Zs,H',⟨Nat.le_refl _⟩,⟨Znl⟩,⟨Znl⟩,⟨Zbf a7⟩,⟨Zbf a9⟩,⟨Zbf b8⟩,⟨by refine Zrb ?_;refine blk_put (cs:= #[.slice none 0 0,.slice none 0 0]) ?_ 1 _ rfl;refine Zrb ?_;refine blk_put (cs:= #[.slice none 0 0,.slice none 0 0]) ?_ 0 _ rfl;refine Zrb ?_;exact b6.out⟩,⟨Zl HB⟩⟩
 case round=>
  (clear H');obtain⟨a8,b7,a6,l7,l8,rfl,HA,J8,a5,a4,a7,a9,b8,b6,HB⟩:=hrel
  cases gk with
  |zero=>exact absurd HA.out (by simp[impl_thenTurned.l0])
  |succ k1=>
   have H:=HA.out;clear HA
   simp only[impl_thenTurned.l0]at H
   by_cases C4:a8<(b9.length:Int)
   ·
    rw[if_pos C4]at H;have C9:=decide_eq_true C4;clear C4
    replace H:=Zit H;obtain⟨J9,H⟩:=H
    replace H:=Zit H;obtain⟨K0,H⟩:=H
    replace H:=Zit H;obtain⟨K1,H⟩:=H
    replace H:=Zit H;obtain⟨K2,H⟩:=H;replace H:=Zgb H;obtain⟨f8,o5,H⟩:=H
    replace H:=Zif H;obtain⟨K3,H⟩:=H
    have p3:=Aside0.mk K3;clear K3
    generalize t8:(b7++f8)=o2 at H;have p4:=Aside0.mk t8.symm;clear t8
    replace H:=Zit H;obtain⟨K4,H⟩:=H
    replace H:=Zit H;obtain⟨K5,H⟩:=H;replace H:=Zgb H;obtain⟨o3,m5,H⟩:=H
    replace H:=Zif H;obtain⟨c22,H⟩:=H
    have D0:=Aside0.mk c22;clear c22
    generalize t9:(a6++o3)=q6 at H;have D1:=Aside0.mk t9.symm;clear t9;have H':=Aside0.mk H;clear H;obtain⟨n8,H4,E9,N9,O0⟩:=Zat C5 HB (a8)
    cases H4
    obtain⟨n0,n3,H5⟩:=Kd.R_slice a5.out;subst H5;obtain⟨e6,e7,H6⟩:=Kd.R_slice a4.out;subst H6
    try go_wp2
    replace a5:=Zm (Kd.R_drew a5.out);replace a4:=Zm (Kd.R_drew a4.out);replace a7:=Zm (blk_drew a7.out);replace a9:=Zm (blk_drew a9.out);replace b8:=Zm (blk_drew b8.out);replace b6:=Zm (blk_drew b6.out);replace HB:=Zm (below_drew1 HB.out);have y9:0≤((rd b9 a8):Int):=Zoa;have z2:(rd b9 a8)<(d9.length:Int):=Zoa
    obtain⟨l4,H7,k6⟩:=Kd.at_int C7.out (rd b9 a8) y9 z2
    have c9:=k6
    cases H7
    replace k6:=(HB.out.cell (World.block_lt_of_cell? w _ k6)).trans k6
    replace y9:=eq_true y9
    replace z2:=eq_true z2
    have z3:0≤(a8:Int):=Zoa;have z4:a8<(d7.length:Int):=Zoa
    obtain⟨l5,H8,k8⟩:=Kd.at_int C6.out a8 z3 z4
    have d3:=k8
    cases H8
    replace k8:=(HB.out.cell (World.block_lt_of_cell? w _ k8)).trans k8
    replace z3:=eq_true z3
    replace z4:=eq_true z4
    have z5:0≤((rd b9 a8):Int):=Zoa;have z6:(rd b9 a8)<(d8.length:Int):=Zoa
    obtain⟨l6,H9,k9⟩:=Kd.at_int C8.out (rd b9 a8) z5 z6
    have d4:=k9
    cases H9
    replace k9:=(HB.out.cell (World.block_lt_of_cell? w _ k9)).trans k9
    replace z5:=eq_true z5
    replace z6:=eq_true z6
    refine start_ (n:=28) (S:=fun w'=>w'.cell? ⟨i8,0,none⟩=some (.slice n0 b7.length n3)∧w'.cell? ⟨i8,1,none⟩=some (.slice e6 a6.length e7)∧w'.cell? ⟨k4,0,none⟩=some (.slice (some l4) d9.length m8)∧w'.cell? ⟨k4,1,none⟩=some (.slice (some l6) d8.length m9)∧w'.cell? ⟨k3,0,none⟩=some (.slice (some n8) b9.length m6)∧w'.cell? ⟨k3,1,none⟩=some (.slice (some l5) d7.length m7)∧w'.cell? (l4.add ((rd b9 a8)).toNat)=some (.int .i64 (rd d9 (rd b9 a8)))∧w'.cell? (l5.add (a8).toNat)=some (.int .i64 (rd d7 a8))∧w'.cell? (l6.add ((rd b9 a8)).toNat)=some (.int .i64 (rd d8 (rd b9 a8)))) (ds:= [25,27]) (fl 28 0) (by kernel_rfl) rfl rfl ⟨Zc0 b6 0,Zc0 b6 1,Zc0 a9 0,Zc0 a9 1,Zc0 a7 0,Zc0 a7 1,((HB.out.cell (World.block_lt_of_cell? w _ c9)).trans c9),((HB.out.cell (World.block_lt_of_cell? w _ d3)).trans d3),((HB.out.cell (World.block_lt_of_cell? w _ d4)).trans d4)⟩ (fun hHeld=> ?_);refine with_tabW impl_thenTurned.tab5 impl_thenTurned.bits5 (fun HT_ HW_=> ?_)
    generalize wr.drew=O5 at a5 a4 a7 a9 b8 b6 HB k6 k8 k9 hHeld ⊢;refine Yu 0 17 (fl 28 1) HT_ (h:= ?_);refine Yu 2 19 (fl 28 5) HT_ (h:= ?_);refine Yu 4 21 (fl 28 21) HT_ (h:= ?_);refine Yu 9 26 (fl 28 533) HT_ (h:= ?_);refine Yu 11 28 (fl 28 2581) HT_ (h:= ?_);refine Yu 13 30 (fl 28 10773) HT_ (h:= ?_);refine Yu 16 33 (fl 28 76309) HT_ (h:= ?_);refine Yu 18 35 (fl 28 338453) HT_ (h:= ?_);refine Yt 1 18 (fl 28 338455) HT_ HW_ hHeld (h:= ?_);refine Yt 3 20 (fl 28 338463) HT_ HW_ hHeld (h:= ?_);refine Yu 5 22 (fl 28 338495) HT_ (h:= ?_);refine Yt 6 23 (fl 28 338559) HT_ HW_ hHeld (h:= ?_);refine Yt 10 27 (fl 28 339583) HT_ HW_ hHeld (h:= ?_);refine Yt 12 29 (fl 28 343679) HT_ HW_ hHeld (h:= ?_);refine Yu 14 31 (fl 28 360063) HT_ (h:= ?_);refine Yt 15 32 (fl 28 392831) HT_ HW_ hHeld (h:= ?_);refine Yt 17 34 (fl 28 523903) HT_ HW_ hHeld (h:= ?_);refine Yu 19 36 (fl 28 1048191) HT_ (h:= ?_);refine Yt 20 37 (fl 28 2096767) HT_ HW_ hHeld (h:= ?_);refine Yu 21 38 (fl 28 4193919) HT_ (h:= ?_)
    refine join_ (σ:=Value × Value × Value) 4 (fl 28 25165823) (fun s_=> [(24,s_.1),(25,s_.2.1),(39,s_.2.2),(41,.pointer (some ⟨i8,0,none⟩))]) (fun s_ w'=>(w'.cell? ⟨i8,0,none⟩=some (.slice n0 b7.length n3)∧w'.cell? ⟨i8,1,none⟩=some (.slice e6 a6.length e7)∧w'.cell? ⟨k4,0,none⟩=some (.slice (some l4) d9.length m8)∧w'.cell? ⟨k4,1,none⟩=some (.slice (some l6) d8.length m9)∧w'.cell? ⟨k3,0,none⟩=some (.slice (some n8) b9.length m6)∧w'.cell? ⟨k3,1,none⟩=some (.slice (some l5) d7.length m7)∧w'.cell? (l4.add ((rd b9 a8)).toNat)=some (.int .i64 (rd d9 (rd b9 a8)))∧w'.cell? (l5.add (a8).toNat)=some (.int .i64 (rd d7 a8))∧w'.cell? (l6.add ((rd b9 a8)).toNat)=some (.int .i64 (rd d8 (rd b9 a8))))∧(Kd.R (Kd.int .i64) 3 w' w.heap.size (fun k_=>Zn k_ s_.2.1∧Zn k_ s_.2.2∧some k_≠(.slice e6 a6.length e7:Value).ownBlock) s_.1 f8)∧(Kd.R (Kd.int .i64) 3 w' w.heap.size (fun k_=>Zn k_ s_.1∧Zn k_ s_.2.2∧some k_≠(.slice e6 a6.length e7:Value).ownBlock) s_.2.1 o2)∧(Kd.R (Kd.int .i64) 3 w' w.heap.size (fun k_=>Zn k_ s_.1∧Zn k_ s_.2.1∧some k_≠(.slice e6 a6.length e7:Value).ownBlock) s_.2.2 o3)∧(Kd.R (Kd.int .i64) 3 w' w.heap.size (fun k_=>Zn k_ s_.1∧Zn k_ s_.2.1∧Zn k_ s_.2.2) (.slice e6 a6.length e7) a6)∧(w'.heap[k3]? =some (.cells #[.slice (some n8) b9.length m6,.slice (some l5) d7.length m7] 26 (0,0)))∧(w'.heap[k4]? =some (.cells #[.slice (some l4) d9.length m8,.slice (some l6) d8.length m9] 26 (0,0)))∧(w'.heap[o4]? =some (.cells #[.slice none 0 0,.slice none 0 0] 26 (0,0)))∧(w'.heap[i8]? =some (.cells #[.slice n0 b7.length n3,.slice e6 a6.length e7] 26 (0,0)))∧(Below w.heap.size w w')) ?_ ?_
    rotate_left
    ·
     intro hCont
     refine two_ (i:=7) (j:=22) (Ni:=some 24) (Nj:=some 39) (fl 28 4194047) (fl 28 8388223) rfl rfl rfl rfl (two_of HT_.out (by kernel_rfl)) (by decide) (by decide) (fun K hK=> ?_) (fun K hK=> ?_)
     ·
      refine Kd.R_lit_step (Kd.int .i64) _ 3 ?hg (N:=24) ?hd (xs:=([rd d9 (rd b9 a8)]:List Int)) (inner:= [.int .i64 (rd d9 (rd b9 a8))]) (ok:=fun _ =>True) (okp:=fun _ =>True) ?hr ?hp (fun _ hk=>hk) trivial (Below.refl _ _) (Nat.le_refl _) (by simp) ?_;(case hd=>rfl);(case hg=>rfl);(case hr=>first|(go_simp;done)|(go_simp;rfl));(case hp=>exact(Reps.one (show Kd.M (Kd.int .i64) _ _ _ (rd d9 (rd b9 a8)) [.int .i64 (rd d9 (rd b9 a8))]from rfl) (Reps.none _ _)))
      intro n4 O1 i9 hb hg_ hnew_
      clear hg_ hnew_
      (first|rw[←o5.out]at i9|(simp only[Int.reduceToNat]at i9;rw[←o5.out]at i9))
      have d5:=Zj (Zv (Zv i9 a5) a4) HB;replace a5:=Zm (Kd.R_elder' (Zr a5) (Kd.R_base i9) hb);replace a4:=Zm (Kd.R_elder' (Zr a4) (Kd.R_base i9) hb);replace a7:=Zk a7 hb;replace a9:=Zk a9 hb;replace b8:=Zk b8 hb;replace b6:=Zk b6 hb;replace HB:=Zh HB hb;clear hb i9;obtain⟨z7,z8,D2⟩:=Kd.R_slice d5.out
      (first|subst D2|(injection D2 with n9 p5 o0;have p6:=n9.symm;have p7:=o0.symm;clear n9 p5 o0;subst p6;subst p7))
      refine hK.out _ _ ⟨Zc0 b6 0,Zc0 b6 1,Zc0 a9 0,Zc0 a9 1,Zc0 a7 0,Zc0 a7 1,((HB.out.cell (World.block_lt_of_cell? w _ c9)).trans c9),((HB.out.cell (World.block_lt_of_cell? w _ d3)).trans d3),((HB.out.cell (World.block_lt_of_cell? w _ d4)).trans d4)⟩ (fun hHeld=> ?_)
      clear hK K;refine Yn 24 (h:= ?_)
      refine two_ (i:=8) (j:=22) (Ni:=some 25) (Nj:=some 39) (fl 28 4194303) (fl 28 8388351) rfl rfl rfl rfl (two_of HT_.out (by kernel_rfl)) (by decide) (by decide) (fun K hK=> ?_) (fun K hK=> ?_)
      ·
       refine Kd.R_append_rows_step (Kd.int .i64) (w0:=w) w.heap.size (by rfl) (.tmp 18) (.tmp 24) 24 3 (.int .i64 0) 8 rfl Try.underlying24 info3 rfl (by decide) (by omega) (.slice n0 b7.length n3) b7 f8 _ _ _ (fun k_=>some k_≠(.slice e6 a6.length e7:Value).ownBlock∧some k_≠(.slice z7 f8.length z8:Value).ownBlock) (fun _ =>False) rfl rfl ?aO ?aR (fun _ _ h=>h) (fun _ h=>h.elim) ?aF ?aB ?aS ?aL ?_
       (case aR=>exact Zca (Kd.R_reads' d5.out).2.2)
       (case aB=>exact(Zl HB))
       (case aF=>exact(fun k_ hk=>⟨Kd.fresh' (Kd.R_lt (Zr a4)) k_ hk,Kd.fresh' (Kd.R_lt (Zr d5)) k_ hk⟩))
       (case aO=>exact(Zr a5))
       (case aS=>exact(below_size (Zl HB)))
       (case aL=>have:=p3.out;omega)
       intro l3 K6 ho hb hg hat
       rw[←p4.out]at ho
       replace a4:=Zm (Kd.R_after (ok:=(fun k_=>some k_≠(.slice z7 f8.length z8:Value).ownBlock)) (Zc a4) hg hat);replace a7:=Zm (blk_grown (Zb a7) hg (Kd.R_ne a5.out a7.out (by decide)));replace a9:=Zm (blk_grown (Zb a9) hg (Kd.R_ne a5.out a9.out (by decide)));replace b8:=Zm (blk_grown (Zb b8) hg (Kd.R_ne a5.out b8.out (by decide)));replace b6:=Zm (blk_grown (Zb b6) hg (Kd.R_ne a5.out b6.out (by decide)));replace d5:=Zm (Kd.R_after (ok:=(fun k_=>some k_≠(.slice e6 a6.length e7:Value).ownBlock)) (Zc d5) hg hat);replace HB:=Zm (hb);have e9:=Zm (ho);clear a5 ho hb hg hat
       refine hK.out _ _ ⟨Zc0 b6 0,Zc0 b6 1,Zc0 a9 0,Zc0 a9 1,Zc0 a7 0,Zc0 a7 1,((HB.out.cell (World.block_lt_of_cell? w _ c9)).trans c9),((HB.out.cell (World.block_lt_of_cell? w _ d3)).trans d3),((HB.out.cell (World.block_lt_of_cell? w _ d4)).trans d4)⟩ (fun hHeld=> ?_)
       clear hK K;refine Yn 25 (h:= ?_);refine Yu 24 41 (fl 28 20971519) HT_ (h:= ?_)
       refine one_ (i:=22) (N:=some 39) (fl 28 25165823) rfl rfl (one_of HT_.out (by kernel_rfl)) (by decide) (fun K hK=> ?_)
       refine Kd.R_lit_step (Kd.int .i64) _ 3 ?hg (N:=39) ?hd (xs:=([wrap64 ((rd d7 a8)+(rd d8 (rd b9 a8)))]:List Int)) (inner:= [.int .i64 (wrap64 ((rd d7 a8)+(rd d8 (rd b9 a8))))]) (ok:=fun _ =>True) (okp:=fun _ =>True) ?hr ?hp (fun _ hk=>hk) trivial (Below.refl _ _) (Nat.le_refl _) (by simp) ?_;(case hd=>rfl);(case hg=>rfl);(case hr=>first|(go_simp;done)|(go_simp;rfl));(case hp=>exact(Reps.one (show Kd.M (Kd.int .i64) _ _ _ (wrap64 ((rd d7 a8)+(rd d8 (rd b9 a8)))) [.int .i64 (wrap64 ((rd d7 a8)+(rd d8 (rd b9 a8))))]from rfl) (Reps.none _ _)))
       intro i7 K7 o1 hb hg_ hnew_
       clear hg_ hnew_
       (first|rw[←m5.out]at o1|(simp only[Int.reduceToNat]at o1;rw[←m5.out]at o1))
       have d6:=Zj (Zv (Zv (Zv o1 a4) d5) e9) HB;replace a4:=Zm (Kd.R_elder' (Zr a4) (Kd.R_base o1) hb);replace d5:=Zm (Kd.R_elder' (Zr d5) (Kd.R_base o1) hb);replace e9:=Zm (Kd.R_elder' (Zr e9) (Kd.R_base o1) hb);replace a7:=Zk a7 hb;replace a9:=Zk a9 hb;replace b8:=Zk b8 hb;replace b6:=Zk b6 hb;replace HB:=Zh HB hb;clear hb o1
       refine hK.out _ _ ⟨Zc0 b6 0,Zc0 b6 1,Zc0 a9 0,Zc0 a9 1,Zc0 a7 0,Zc0 a7 1,((HB.out.cell (World.block_lt_of_cell? w _ c9)).trans c9),((HB.out.cell (World.block_lt_of_cell? w _ d3)).trans d3),((HB.out.cell (World.block_lt_of_cell? w _ d4)).trans d4)⟩ (fun hHeld=> ?_)
       clear hK K;refine Yn 39 (h:= ?_)
       exact norm_ (by simp only[putAll,Act.put,List.setIfInBounds_toArray,List.set_cons_zero,List.set_cons_succ]) (hCont (.slice z7 f8.length z8,l3,i7) _ ⟨hHeld,(Zc d5),(Zc e9),(Zc d6),(Zc a4),(Zb a7),(Zb a9),(Zb b8),(Zb b6),(Zl HB)⟩)
      ·
       refine Kd.R_lit_step (Kd.int .i64) _ 3 ?hg (N:=39) ?hd (xs:=([wrap64 ((rd d7 a8)+(rd d8 (rd b9 a8)))]:List Int)) (inner:= [.int .i64 (wrap64 ((rd d7 a8)+(rd d8 (rd b9 a8))))]) (ok:=fun _ =>True) (okp:=fun _ =>True) ?hr ?hp (fun _ hk=>hk) trivial (Below.refl _ _) (Nat.le_refl _) (by simp) ?_;(case hd=>rfl);(case hg=>rfl);(case hr=>first|(go_simp;done)|(go_simp;rfl));(case hp=>exact(Reps.one (show Kd.M (Kd.int .i64) _ _ _ (wrap64 ((rd d7 a8)+(rd d8 (rd b9 a8)))) [.int .i64 (wrap64 ((rd d7 a8)+(rd d8 (rd b9 a8))))]from rfl) (Reps.none _ _)))
       intro i7 K6 f9 hb hg_ hnew_
       clear hg_ hnew_
       (first|rw[←m5.out]at f9|(simp only[Int.reduceToNat]at f9;rw[←m5.out]at f9))
       have d6:=Zj (Zv (Zv (Zv f9 a5) a4) d5) HB;replace a5:=Zm (Kd.R_elder' (Zr a5) (Kd.R_base f9) hb);replace a4:=Zm (Kd.R_elder' (Zr a4) (Kd.R_base f9) hb);replace d5:=Zm (Kd.R_elder' (Zr d5) (Kd.R_base f9) hb);replace a7:=Zk a7 hb;replace a9:=Zk a9 hb;replace b8:=Zk b8 hb;replace b6:=Zk b6 hb;replace HB:=Zh HB hb;clear hb f9;obtain⟨n5,n6,p8⟩:=Kd.R_slice d5.out
       (first|subst p8|(injection p8 with n9 p5 o0;have p6:=n9.symm;have p7:=o0.symm;clear n9 p5 o0;subst p6;subst p7))
       refine hK.out _ _ ⟨Zc0 b6 0,Zc0 b6 1,Zc0 a9 0,Zc0 a9 1,Zc0 a7 0,Zc0 a7 1,((HB.out.cell (World.block_lt_of_cell? w _ c9)).trans c9),((HB.out.cell (World.block_lt_of_cell? w _ d3)).trans d3),((HB.out.cell (World.block_lt_of_cell? w _ d4)).trans d4)⟩ (fun hHeld=> ?_)
       clear hK K;refine Yn 39 (h:= ?_)
       refine one_ (i:=8) (N:=some 25) (fl 28 8388607) rfl rfl (one_of HT_.out (by kernel_rfl)) (by decide) (fun K hK=> ?_)
       refine Kd.R_append_rows_step (Kd.int .i64) (w0:=w) w.heap.size (by rfl) (.tmp 18) (.tmp 24) 24 3 (.int .i64 0) 8 rfl Try.underlying24 info3 rfl (by decide) (by omega) (.slice n0 b7.length n3) b7 f8 _ _ _ (fun k_=>some k_≠(.slice e6 a6.length e7:Value).ownBlock∧some k_≠(.slice n5 f8.length n6:Value).ownBlock∧Zn k_ i7) (fun _ =>False) rfl rfl ?aO ?aR (fun _ _ h=>h) (fun _ h=>h.elim) ?aF ?aB ?aS ?aL ?_
       (case aR=>exact Zca (Kd.R_reads' d5.out).2.2)
       (case aB=>exact(Zl HB))
       (case aF=>exact(fun k_ hk=>⟨Kd.fresh' (Kd.R_lt (Zr a4)) k_ hk,Kd.fresh' (Kd.R_lt (Zr d5)) k_ hk,Kd.fresh' (Kd.R_lt (Zr d6)) k_ hk⟩))
       (case aO=>exact(Zc a5))
       (case aS=>exact(below_size (Zl HB)))
       (case aL=>have:=p3.out;omega)
       intro l3 K7 ho hb hg hat
       rw[←p4.out]at ho
       replace a4:=Zm (Kd.R_after (ok:=(fun k_=>some k_≠(.slice n5 f8.length n6:Value).ownBlock∧Zn k_ i7)) (Zc a4) hg hat);replace a7:=Zm (blk_grown (Zb a7) hg (Kd.R_ne a5.out a7.out (by decide)));replace a9:=Zm (blk_grown (Zb a9) hg (Kd.R_ne a5.out a9.out (by decide)));replace b8:=Zm (blk_grown (Zb b8) hg (Kd.R_ne a5.out b8.out (by decide)));replace b6:=Zm (blk_grown (Zb b6) hg (Kd.R_ne a5.out b6.out (by decide)));replace d5:=Zm (Kd.R_after (ok:=(fun k_=>some k_≠(.slice e6 a6.length e7:Value).ownBlock∧Zn k_ i7)) (Zc d5) hg hat);replace d6:=Zm (Kd.R_after (ok:=(fun k_=>some k_≠(.slice e6 a6.length e7:Value).ownBlock∧some k_≠(.slice n5 f8.length n6:Value).ownBlock)) (Zc d6) hg hat);replace HB:=Zm (hb);have e9:=Zm (ho);clear a5 ho hb hg hat
       refine hK.out _ _ ⟨Zc0 b6 0,Zc0 b6 1,Zc0 a9 0,Zc0 a9 1,Zc0 a7 0,Zc0 a7 1,((HB.out.cell (World.block_lt_of_cell? w _ c9)).trans c9),((HB.out.cell (World.block_lt_of_cell? w _ d3)).trans d3),((HB.out.cell (World.block_lt_of_cell? w _ d4)).trans d4)⟩ (fun hHeld=> ?_)
       clear hK K;refine Yn 25 (h:= ?_);refine Yu 24 41 (fl 28 25165823) HT_ (h:= ?_)
       exact norm_ (by simp only[putAll,Act.put,List.setIfInBounds_toArray,List.set_cons_zero,List.set_cons_succ]) (hCont (.slice n5 f8.length n6,l3,i7) _ ⟨hHeld,(Zc d5),(Zc e9),(Zc d6),(Zc a4),(Zb a7),(Zb a9),(Zb b8),(Zb b6),(Zl HB)⟩)
     ·
      refine Kd.R_lit_step (Kd.int .i64) _ 3 ?hg (N:=39) ?hd (xs:=([wrap64 ((rd d7 a8)+(rd d8 (rd b9 a8)))]:List Int)) (inner:= [.int .i64 (wrap64 ((rd d7 a8)+(rd d8 (rd b9 a8))))]) (ok:=fun _ =>True) (okp:=fun _ =>True) ?hr ?hp (fun _ hk=>hk) trivial (Below.refl _ _) (Nat.le_refl _) (by simp) ?_;(case hd=>rfl);(case hg=>rfl);(case hr=>first|(go_simp;done)|(go_simp;rfl));(case hp=>exact(Reps.one (show Kd.M (Kd.int .i64) _ _ _ (wrap64 ((rd d7 a8)+(rd d8 (rd b9 a8)))) [.int .i64 (wrap64 ((rd d7 a8)+(rd d8 (rd b9 a8))))]from rfl) (Reps.none _ _)))
      intro i7 O1 i9 hb hg_ hnew_
      clear hg_ hnew_
      (first|rw[←m5.out]at i9|(simp only[Int.reduceToNat]at i9;rw[←m5.out]at i9))
      have d6:=Zj (Zv (Zv i9 a5) a4) HB;replace a5:=Zm (Kd.R_elder' (Zr a5) (Kd.R_base i9) hb);replace a4:=Zm (Kd.R_elder' (Zr a4) (Kd.R_base i9) hb);replace a7:=Zk a7 hb;replace a9:=Zk a9 hb;replace b8:=Zk b8 hb;replace b6:=Zk b6 hb;replace HB:=Zh HB hb;clear hb i9
      refine hK.out _ _ ⟨Zc0 b6 0,Zc0 b6 1,Zc0 a9 0,Zc0 a9 1,Zc0 a7 0,Zc0 a7 1,((HB.out.cell (World.block_lt_of_cell? w _ c9)).trans c9),((HB.out.cell (World.block_lt_of_cell? w _ d3)).trans d3),((HB.out.cell (World.block_lt_of_cell? w _ d4)).trans d4)⟩ (fun hHeld=> ?_)
      clear hK K;refine Yn 39 (h:= ?_)
      refine one_ (i:=7) (N:=some 24) (fl 28 8388351) rfl rfl (one_of HT_.out (by kernel_rfl)) (by decide) (fun K hK=> ?_)
      refine Kd.R_lit_step (Kd.int .i64) _ 3 ?hg (N:=24) ?hd (xs:=([rd d9 (rd b9 a8)]:List Int)) (inner:= [.int .i64 (rd d9 (rd b9 a8))]) (ok:=fun _ =>True) (okp:=fun _ =>True) ?hr ?hp (fun _ hk=>hk) trivial (Below.refl _ _) (Nat.le_refl _) (by simp) ?_;(case hd=>rfl);(case hg=>rfl);(case hr=>first|(go_simp;done)|(go_simp;rfl));(case hp=>exact(Reps.one (show Kd.M (Kd.int .i64) _ _ _ (rd d9 (rd b9 a8)) [.int .i64 (rd d9 (rd b9 a8))]from rfl) (Reps.none _ _)))
      intro n4 K6 f9 hb hg_ hnew_
      clear hg_ hnew_
      (first|rw[←o5.out]at f9|(simp only[Int.reduceToNat]at f9;rw[←o5.out]at f9))
      have d5:=Zj (Zv (Zv (Zv f9 a5) a4) d6) HB;replace a5:=Zm (Kd.R_elder' (Zr a5) (Kd.R_base f9) hb);replace a4:=Zm (Kd.R_elder' (Zr a4) (Kd.R_base f9) hb);replace d6:=Zm (Kd.R_elder' (Zr d6) (Kd.R_base f9) hb);replace a7:=Zk a7 hb;replace a9:=Zk a9 hb;replace b8:=Zk b8 hb;replace b6:=Zk b6 hb;replace HB:=Zh HB hb;clear hb f9;obtain⟨n5,n6,p8⟩:=Kd.R_slice d5.out
      (first|subst p8|(injection p8 with n9 p5 o0;have p6:=n9.symm;have p7:=o0.symm;clear n9 p5 o0;subst p6;subst p7))
      refine hK.out _ _ ⟨Zc0 b6 0,Zc0 b6 1,Zc0 a9 0,Zc0 a9 1,Zc0 a7 0,Zc0 a7 1,((HB.out.cell (World.block_lt_of_cell? w _ c9)).trans c9),((HB.out.cell (World.block_lt_of_cell? w _ d3)).trans d3),((HB.out.cell (World.block_lt_of_cell? w _ d4)).trans d4)⟩ (fun hHeld=> ?_)
      clear hK K;refine Yn 24 (h:= ?_)
      refine one_ (i:=8) (N:=some 25) (fl 28 8388607) rfl rfl (one_of HT_.out (by kernel_rfl)) (by decide) (fun K hK=> ?_)
      refine Kd.R_append_rows_step (Kd.int .i64) (w0:=w) w.heap.size (by rfl) (.tmp 18) (.tmp 24) 24 3 (.int .i64 0) 8 rfl Try.underlying24 info3 rfl (by decide) (by omega) (.slice n0 b7.length n3) b7 f8 _ _ _ (fun k_=>some k_≠(.slice e6 a6.length e7:Value).ownBlock∧Zn k_ i7∧some k_≠(.slice n5 f8.length n6:Value).ownBlock) (fun _ =>False) rfl rfl ?aO ?aR (fun _ _ h=>h) (fun _ h=>h.elim) ?aF ?aB ?aS ?aL ?_
      (case aR=>exact Zca (Kd.R_reads' d5.out).2.2)
      (case aB=>exact(Zl HB))
      (case aF=>exact(fun k_ hk=>⟨Kd.fresh' (Kd.R_lt (Zr a4)) k_ hk,Kd.fresh' (Kd.R_lt (Zr d6)) k_ hk,Kd.fresh' (Kd.R_lt (Zr d5)) k_ hk⟩))
      (case aO=>exact(Zc a5))
      (case aS=>exact(below_size (Zl HB)))
      (case aL=>have:=p3.out;omega)
      intro l3 K7 ho hb hg hat
      rw[←p4.out]at ho
      replace a4:=Zm (Kd.R_after (ok:=(fun k_=>Zn k_ i7∧some k_≠(.slice n5 f8.length n6:Value).ownBlock)) (Zc a4) hg hat);replace a7:=Zm (blk_grown (Zb a7) hg (Kd.R_ne a5.out a7.out (by decide)));replace a9:=Zm (blk_grown (Zb a9) hg (Kd.R_ne a5.out a9.out (by decide)));replace b8:=Zm (blk_grown (Zb b8) hg (Kd.R_ne a5.out b8.out (by decide)));replace b6:=Zm (blk_grown (Zb b6) hg (Kd.R_ne a5.out b6.out (by decide)));replace d6:=Zm (Kd.R_after (ok:=(fun k_=>some k_≠(.slice e6 a6.length e7:Value).ownBlock∧some k_≠(.slice n5 f8.length n6:Value).ownBlock)) (Zc d6) hg hat);replace d5:=Zm (Kd.R_after (ok:=(fun k_=>some k_≠(.slice e6 a6.length e7:Value).ownBlock∧Zn k_ i7)) (Zc d5) hg hat);replace HB:=Zm (hb);have e9:=Zm (ho);clear a5 ho hb hg hat
      refine hK.out _ _ ⟨Zc0 b6 0,Zc0 b6 1,Zc0 a9 0,Zc0 a9 1,Zc0 a7 0,Zc0 a7 1,((HB.out.cell (World.block_lt_of_cell? w _ c9)).trans c9),((HB.out.cell (World.block_lt_of_cell? w _ d3)).trans d3),((HB.out.cell (World.block_lt_of_cell? w _ d4)).trans d4)⟩ (fun hHeld=> ?_)
      clear hK K;refine Yn 25 (h:= ?_);refine Yu 24 41 (fl 28 25165823) HT_ (h:= ?_)
      exact norm_ (by simp only[putAll,Act.put,List.setIfInBounds_toArray,List.set_cons_zero,List.set_cons_succ]) (hCont (.slice n5 f8.length n6,l3,i7) _ ⟨hHeld,(Zc d5),(Zc e9),(Zc d6),(Zc a4),(Zb a7),(Zb a9),(Zb b8),(Zb b6),(Zl HB)⟩)
    rintro⟨n4,l3,i7⟩ n7 ⟨hS_,K8,K9,L2,L3,L4,L5,L6,L7,L8⟩;(have d5:Aside0 (Kd.R (Kd.int .i64) 3 n7 w.heap.size (fun k_=>Zn k_ l3∧Zn k_ i7∧some k_≠(.slice e6 a6.length e7:Value).ownBlock) n4 f8):=⟨K8⟩;have e9:Aside0 (Kd.R (Kd.int .i64) 3 n7 w.heap.size (fun k_=>Zn k_ n4∧Zn k_ i7∧some k_≠(.slice e6 a6.length e7:Value).ownBlock) l3 o2):=⟨K9⟩;have d6:Aside0 (Kd.R (Kd.int .i64) 3 n7 w.heap.size (fun k_=>Zn k_ n4∧Zn k_ l3∧some k_≠(.slice e6 a6.length e7:Value).ownBlock) i7 o3):=⟨L2⟩;replace a4:Aside0 (Kd.R (Kd.int .i64) 3 n7 w.heap.size (fun k_=>Zn k_ n4∧Zn k_ l3∧Zn k_ i7) (.slice e6 a6.length e7) a6):=⟨L3⟩;replace a7:Aside0 (n7.heap[k3]? =some (.cells #[.slice (some n8) b9.length m6,.slice (some l5) d7.length m7] 26 (0,0))):=⟨L4⟩;replace a9:Aside0 (n7.heap[k4]? =some (.cells #[.slice (some l4) d9.length m8,.slice (some l6) d8.length m9] 26 (0,0))):=⟨L5⟩;replace b8:Aside0 (n7.heap[o4]? =some (.cells #[.slice none 0 0,.slice none 0 0] 26 (0,0))):=⟨L6⟩;replace b6:Aside0 (n7.heap[i8]? =some (.cells #[.slice n0 b7.length n3,.slice e6 a6.length e7] 26 (0,0))):=⟨L7⟩;replace HB:Aside0 (Below w.heap.size w n7):=⟨L8⟩;clear a5 K8 K9 L2 L3 L4 L5 L6 L7 L8;have hHeld:n7.cell? ⟨i8,0,none⟩=some (.slice n0 b7.length n3)∧n7.cell? ⟨i8,1,none⟩=some (.slice e6 a6.length e7)∧n7.cell? ⟨k4,0,none⟩=some (.slice (some l4) d9.length m8)∧n7.cell? ⟨k4,1,none⟩=some (.slice (some l6) d8.length m9)∧n7.cell? ⟨k3,0,none⟩=some (.slice (some n8) b9.length m6)∧n7.cell? ⟨k3,1,none⟩=some (.slice (some l5) d7.length m7)∧n7.cell? (l4.add ((rd b9 a8)).toNat)=some (.int .i64 (rd d9 (rd b9 a8)))∧n7.cell? (l5.add (a8).toNat)=some (.int .i64 (rd d7 a8))∧n7.cell? (l6.add ((rd b9 a8)).toNat)=some (.int .i64 (rd d8 (rd b9 a8))):=hS_);obtain⟨z9,B0,D3⟩:=Kd.R_slice d6.out
    (first|subst D3|(injection D3 with n9 p5 o0;have p6:=n9.symm;have p7:=o0.symm;clear n9 p5 o0;subst p6;subst p7))
    refine norm_ (a':= ?_) ?_ ?_
    rotate_left
    ·
     simp only[putAll,Act.put,List.setIfInBounds_toArray,List.set_cons_zero,List.set_cons_succ]
     rfl
    refine one_ (i:=23) (N:=some 40) (fl 28 33554431) rfl rfl (one_of HT_.out (by kernel_rfl)) (by decide) (fun K hK=> ?_)
    refine Kd.R_append_rows_step (Kd.int .i64) (w0:=w) w.heap.size (by rfl) (.tmp 27) (.tmp 39) 24 3 (.int .i64 0) 8 rfl Try.underlying24 info3 rfl (by decide) (by omega) (.slice e6 a6.length e7) a6 o3 _ _ _ (fun k_=>Zn k_ n4∧Zn k_ l3∧some k_≠(.slice z9 o3.length B0:Value).ownBlock) (fun _ =>False) rfl rfl ?aO ?aR (fun _ _ h=>h) (fun _ h=>h.elim) ?aF ?aB ?aS ?aL ?_
    (case aR=>exact Zca (Kd.R_reads' d6.out).2.2)
    (case aB=>exact(Zl HB))
    (case aF=>exact(fun k_ hk=>⟨Kd.fresh' (Kd.R_lt (Zr d5)) k_ hk,Kd.fresh' (Kd.R_lt (Zr e9)) k_ hk,Kd.fresh' (Kd.R_lt (Zr d6)) k_ hk⟩))
    (case aO=>exact(Zr a4))
    (case aS=>exact(below_size (Zl HB)))
    (case aL=>have:=D0.out;omega)
    intro O2 O6 ho hb hg hat
    rw[←D1.out]at ho
    replace a7:=Zm (blk_grown (Zb a7) hg (Kd.R_ne a4.out a7.out (by decide)));replace a9:=Zm (blk_grown (Zb a9) hg (Kd.R_ne a4.out a9.out (by decide)));replace b8:=Zm (blk_grown (Zb b8) hg (Kd.R_ne a4.out b8.out (by decide)));replace b6:=Zm (blk_grown (Zb b6) hg (Kd.R_ne a4.out b6.out (by decide)));replace d5:=Zm (Kd.R_after (ok:=(fun k_=>Zn k_ l3∧some k_≠(.slice z9 o3.length B0:Value).ownBlock)) (Zc d5) hg hat);replace e9:=Zm (Kd.R_after (ok:=(fun k_=>Zn k_ n4∧some k_≠(.slice z9 o3.length B0:Value).ownBlock)) (Zc e9) hg hat);replace d6:=Zm (Kd.R_after (ok:=(fun k_=>Zn k_ n4∧Zn k_ l3)) (Zc d6) hg hat);replace HB:=Zm (hb);have y8:=Zm (ho);clear a4 ho hb hg hat
    obtain⟨q7,q8,D4⟩:=Kd.R_slice e9.out
    (first|subst D4|(injection D4 with n9 p5 o0;have p6:=n9.symm;have p7:=o0.symm;clear n9 p5 o0;subst p6;subst p7))
    obtain⟨C0,C1,D5⟩:=Kd.R_slice y8.out
    (first|subst D5|(injection D5 with n9 p5 o0;have p6:=n9.symm;have p7:=o0.symm;clear n9 p5 o0;subst p6;subst p7))
    refine hK.out _ _ ⟨Zc0 b6 0,Zc0 b6 1,Zc0 a9 0,Zc0 a9 1,Zc0 a7 0,Zc0 a7 1,((HB.out.cell (World.block_lt_of_cell? w _ c9)).trans c9),((HB.out.cell (World.block_lt_of_cell? w _ d3)).trans d3),((HB.out.cell (World.block_lt_of_cell? w _ d4)).trans d4)⟩ (fun hHeld=> ?_)
    clear hK K;refine Yn 40 (h:= ?_)
    refine last_ (i:=25) (N:=none) (fl 28 67108863) rfl rfl (one_of HT_.out (by kernel_rfl)) (by decide) (fun K hK=> ?_)
    have O3:=Zc0 b6 0;have L9:=blk_frozen b6.out 0;have F0:=g8.out;have F1:=i3.out;have F2:=i5.out;have F3:=g9.out;have F4:=i4.out;have F5:=i6.out
    refine skip_ (w1:= ?_) (by rfl) rfl ?_ ?_
    rotate_left
    ·
     go_simp
     rfl
    refine hK.out _ _ ?_
    clear hK K;refine Yu 26 42 (fl 28 134217727) HT_ (h:= ?_)
    refine last_ (i:=27) (N:=none) (fl 28 268435455) rfl rfl (one_of HT_.out (by kernel_rfl)) (by decide) (fun K hK=> ?_)
    have O4:=Zc0 b6 1;have M0:=blk_frozen b6.out 1;have F6:=g8.out;have F7:=i3.out;have F8:=i5.out;have F9:=g9.out;have G1:=i4.out;have G2:=i6.out
    refine skip_ (w1:= ?_) (by rfl) rfl ?_ ?_
    rotate_left
    ·
     go_simp
     rfl
    refine hK.out _ _ ?_
    clear hK K
    refine done_ (done_of HT_.out (by kernel_rfl)) ?_
    try go_wp2
    go_roundg k1
    case measure=>have:=J8.out;omega
    case rel=>exact⟨(wrap64 (a8+1)),(o2),(q6),(.slice q7 o2.length q8),(.slice C0 q6.length C1),Zs,H',⟨by have:=J8.out;omega⟩,⟨Zrr (Zfm e9 b6 (.slice q7 o2.length q8) (.slice C0 q6.length C1) (fun _ hk=>hk.1.2))⟩,⟨Zrr (Zfm y8 b6 (.slice q7 o2.length q8) (.slice C0 q6.length C1) (fun _ hk=>hk.1.2.1))⟩,⟨Zbf a7⟩,⟨Zbf a9⟩,⟨Zbf b8⟩,⟨by refine Zrb ?_;refine blk_put (cs:= #[.slice q7 o2.length q8,.slice e6 a6.length e7]) ?_ 1 _ rfl;refine Zrb ?_;refine blk_put (cs:= #[.slice n0 b7.length n3,.slice e6 a6.length e7]) ?_ 0 _ rfl;refine Zrb ?_;exact b6.out⟩,⟨Zl HB⟩⟩
   ·
    rw[if_neg C4]at H;have C9:=decide_eq_false C4;clear C4
    obtain⟨rfl,rfl⟩:=Zs2 H;clear H
    have M1:=g9.out;have M2:=g8.out;have M3:=i4.out;have M4:=i3.out;have M5:=i6.out;have M6:=i5.out;obtain⟨G3,G4,G5,G6⟩:=Z2 b6
    obtain⟨q9,r5,I0⟩:=Kd.R_slice a5.out;subst I0
    have M7:=m4.out;have M8:=l9.out;have M9:=o9.out;have N0:=o8.out;obtain⟨G7,G8,G9,H1⟩:=Z2 b8
    obtain⟨C2,C3,I1⟩:=Kd.R_slice a4.out;subst I1
    go_wp2
    refine bodyPost_ret (results_cell_row rfl _ _ o4 26 #[.slice q9 b7.length r5,.slice C2 a6.length C3] (0,0) _ rfl (by refine Zrb ?_;refine blk_put (cs:= #[.slice q9 b7.length r5,.slice none 0 0]) ?_ 1 _ rfl;refine Zrb ?_;refine blk_put (cs:= #[.slice none 0 0,.slice none 0 0]) ?_ 0 _ rfl;refine Zrb ?_;exact b8.out) Try.underlying26 rfl (by kernel_rfl)) rfl ?_
    exact⟨_,_,Ze,Zrr (Zfm a5 b8 (.slice q9 b7.length r5) (.slice C2 a6.length C3) (fun _ hk=>hk.1)),Zrr (Zfm a4 b8 (.slice q9 b7.length r5) (.slice C2 a6.length C3) (fun _ hk=>hk.1)),Zl HB⟩
mutual
def impl_LeastPole.j0:Nat→Bool→List Int→List Int→Option (Int × List Int × Bool)
 |0,_,_,_ =>none
 |k+1,b8,a4,a5=>if b8=true then(some (0,([]:List Int),false))else((impl_poleDescents.f a4 a5).bind fun b6=>(impl_LeastPole.l0 k b6 a4 a5 (a4.length:Int) ([]:List Int)))
def impl_LeastPole.l0:Nat→List Int→List Int→List Int→Int→List Int→Option (Int × List Int × Bool)
 |0,_,_,_,_,_ =>none
 |k+1,x5,a4,a5,a6,a7=>if(x5.length:Int)>0 then(if 1≤(x5.length:Int)then((impl_poleResult.f k a6 (x5.take 1)).bind fun a9=>(if 0<(x5.length:Int)then(if a7.length<17592186044416 then((impl_thenTurned.f k a9.1 a9.2 a4 a5).bind fun a8=>((impl_poleDescents.f a8.1 a8.2).bind fun b7=>(impl_LeastPole.l0 k b7 a8.1 a8.2 a6 (a7++ [rd x5 0]))))else(none))else(none)))else(none))else(some (a6,a7,true))
end
def impl_LeastPole.f (k:Nat) (a4:List Int) (a5:List Int):Option (Int × List Int × Bool):=(impl_isTurned.f k a4 a5).bind fun a6=>(if a6=true then((impl_poleInversions.f a4 a5).bind fun a7=>(impl_LeastPole.j0 k (decide (a7>60)) a4 a5))else(impl_LeastPole.j0 k true a4 a5))
def impl_LeastPole.T7:Bool × List (List Nat × List Nat):=(true,[([],[]),([0],[0]),([],[]),([2],[2]),([1,3],[1,3]),([4],[4]),([],[]),([6,5,5,0,1,2,3,4,5,6],[5,6])])
def impl_LeastPole.B7:List Nat:= [0,1,0,4,15,31,0,127]
theorem impl_LeastPole.tab7:rtab .any (opsOf Try.f6 7)=impl_LeastPole.T7:=by kernel_rfl
theorem impl_LeastPole.bits7:waitsOk impl_LeastPole.T7.2 impl_LeastPole.B7=true:=by kernel_rfl
def impl_LeastPole.T8:Bool × List (List Nat × List Nat):=(true,[([],[]),([0],[0]),([],[]),([2],[2]),([3],[3]),([4],[4]),([1,5],[1,5]),([],[]),([],[]),([7,8,6],[7,8]),([0,1,2,3,4,5,6],[]),([10,6,9,0,1,2,3,4,5,6],[6,10]),([9,11,0,1,2,3,4,5,6,7,8,9,10,11],[9])])
def impl_LeastPole.B8:List Nat:= [0,1,0,4,12,28,63,0,0,511,127,2047,4095]
theorem impl_LeastPole.tab8:rtab .any (opsOf Try.f6 8)=impl_LeastPole.T8:=by kernel_rfl
theorem impl_LeastPole.bits8:waitsOk impl_LeastPole.T8.2 impl_LeastPole.B8=true:=by kernel_rfl
set_option maxHeartbeats 8000000 in
set_option maxRecDepth 100000 in
theorem impl_LeastPole.calls (k:Nat) (k8:Nat→Prop) (o9:Option Addr) (o6:Nat) (d4:List Int) (k9:Nat→Prop) (p3:Option Addr) (o7:Nat) (l3:List Int) (r1:Int) (r2:List Int) (r3:Bool) (w:World) (z9:Kd.V (Kd.int .i64) 3 w w.heap.size (fun k_=>k8 k_) (.slice o9 d4.length o6) d4) (B0:Kd.V (Kd.int .i64) 3 w w.heap.size (fun k_=>k9 k_) (.slice p3 l3.length o7) l3) (h:impl_LeastPole.f k d4 l3=some (r1,r2,r3)):
  Calls Try.prog 6 #[.agg #[.slice o9 d4.length o6,.slice p3 l3.length o7]] w fun e w'=> ∃O1:Value,e= .returned (.tuple #[.agg #[.int .i64 r1,O1],.bool r3])∧Kd.R (Kd.int .i64) 3 w' w.heap.size (fun k_=>(w.heap.size≤k_)) O1 r2∧Below w.heap.size w w':=by
 have U9:=Try.underlying26;have V0:=Try.underlying29;have i7:=Zm (show Kd.V (Kd.int .i64) 3 w w.heap.size (fun k_=>((k8 k_∨k9 k_)∨w.heap.size≤k_)) (.slice o9 d4.length o6) d4 from Kd.V_mono z9 (fun k_ hk=> .inl (.inl hk)));have i8:=Zm (show Kd.V (Kd.int .i64) 3 w w.heap.size (fun k_=>((k8 k_∨k9 k_)∨w.heap.size≤k_)) (.slice p3 l3.length o7) l3 from Kd.V_mono B0 (fun k_ hk=> .inl (.inr hk)));have HB:=Zm (Below.refl w.heap.size w);have H:((impl_isTurned.f k d4 l3).bind fun y8=>(if y8=true then((impl_poleInversions.f d4 l3).bind fun r9=>(impl_LeastPole.j0 k (decide (r9>60)) d4 l3))else(impl_LeastPole.j0 k true d4 l3)))=some (r1,r2,r3):=h;clear h;have N0:=Aside0.mk H;clear H
 go_enter Try.func6,Try.ntmps6
 go_upto_region 1 with(first|((with_reducible refine gate_dst (N:=1) rfl ?_);refine Zbe 1 #[.slice o9 d4.length o6,.slice p3 l3.length o7] 26 ?_;intro a9 hg w3 hbox hb;replace i7:=Zm (Kd.V_below (Kd.V_elderB (Zva i7) a9 (Nat.le_of_eq hg.symm)) hb);replace i8:=Zm (Kd.V_below (Kd.V_elderB (Zva i8) a9 (Nat.le_of_eq hg.symm)) hb);have a5:=Zm (hbox);have O2:=Zx hg HB;have O3:=Zx hg HB;replace HB:=Zh HB hb;clear hb hbox hg)|((with_reducible refine gate_dst (N:=2) rfl ?_);refine Zbe 2 #[.int .i64 0,.slice none 0 0] 29 ?_;intro d6 hg w4 hbox hb;replace i7:=Zm (Kd.V_below (Kd.V_elderB (Zva i7) d6 (Nat.le_of_eq hg.symm)) hb);replace i8:=Zm (Kd.V_below (Kd.V_elderB (Zva i8) d6 (Nat.le_of_eq hg.symm)) hb);have b8:=Zm (hbox);have O4:=Zx hg HB;have O5:=Zx hg HB;replace HB:=Zh HB hb;have g9:=Zq hg a5;have i3:=Zp hg a5;replace a5:=Zk a5 hb;clear hb hbox hg))
 (try simp only[Act.put,List.setIfInBounds_toArray,List.set_cons_zero,List.set_cons_succ])
 go_cut [14] (fun V1 wc=> ∃(kq:Nat) (q4:Bool),V1= .bool q4∧Aside0 (impl_LeastPole.j0 kq q4 d4 l3=some (r1,r2,r3))∧Aside0 (kq≤k)∧Aside0 (Kd.V (Kd.int .i64) 3 wc w.heap.size (fun k_=>((k8 k_∨k9 k_)∨w.heap.size≤k_)∧k_≠a9∧k_≠d6) (.slice o9 d4.length o6) d4)∧Aside0 (Kd.V (Kd.int .i64) 3 wc w.heap.size (fun k_=>((k8 k_∨k9 k_)∨w.heap.size≤k_)∧k_≠a9∧k_≠d6) (.slice p3 l3.length o7) l3)∧Aside0 (wc.heap[a9]? =some (.cells #[(.slice o9 d4.length o6),(.slice p3 l3.length o7)] 26 (0,0)))∧Aside0 (wc.heap[d6]? =some (.cells #[.int .i64 0,(.slice none 0 0)] 29 (0,0)))∧Aside0 (Below w.heap.size w wc))
 case first=>
  have H:=N0.out;clear N0;replace H:=Zb0 H;obtain⟨y8,A5,H⟩:=H
  by_cases c6:y8=true
  ·
   subst c6
   rw[if_pos rfl]at H
   replace H:=Zb0 H;obtain⟨r9,A7,H⟩:=H;have H':=Aside0.mk H;clear H;have V2:=g9.out;have V3:=i3.out;obtain⟨N1,N2,N3,N4⟩:=Z2 a5
   go_wp2_with (first|((with_reducible refine gate_callee (f:=31) rfl ?_);refine Ga (some 8) Try.func31 #[.agg #[.slice o9 d4.length o6,.slice p3 l3.length o7]] (h:= ?_);(with_reducible refine(impl_isTurned.calls k _ _ d4 _ _ l3 true _ ?m7 ?m8 ?n9 ?o0 A5.out).mono ?_);(case m7=>exact Zca (Kd.V_reads' i7.out).2.2);(case m8=>exact(Kd.V_reads' i7.out).2.1);(case n9=>exact Zca (Kd.V_reads' i8.out).2.2);(case o0=>exact(Kd.V_reads' i8.out).2.1);rintro e X6 ⟨rfl,hb⟩;refine⟨_,rfl, ?_⟩;replace i7:=Zm (Kd.V_below (Zva i7) hb);replace i8:=Zm (Kd.V_below (Zva i8) hb);replace a5:=Zk a5 hb;replace b8:=Zk b8 hb;replace HB:=Zh HB hb;obtain⟨F9,G1,G2,G3⟩:=Z2 a5)|(go_at_call 32;(with_reducible refine(impl_poleInversions.calls _ _ d4 _ _ l3 r9 _ ?m7 ?m8 ?n9 ?o0 A7.out).mono ?_);(case m7=>exact Zca (Kd.V_reads' i7.out).2.2);(case m8=>exact(Kd.V_reads' i7.out).2.1);(case n9=>exact Zca (Kd.V_reads' i8.out).2.2);(case o0=>exact(Kd.V_reads' i8.out).2.1);rintro e X7 ⟨rfl,hb⟩;replace i7:=Zm (Kd.V_below (Zva i7) hb);replace i8:=Zm (Kd.V_below (Zva i8) hb);replace a5:=Zk a5 hb;replace b8:=Zk b8 hb;replace HB:=Zh HB hb))
   go_meet
   case rel=>exact⟨_,(decide (r9>60)),Zs,H',⟨by first|omega|exact Nat.le_refl _⟩,⟨Zrv (Kd.V_mono i7.out (fun _ hk=>⟨hk.1.1,⟨hk.1.2,hk.2⟩⟩))⟩,⟨Zrv (Kd.V_mono i8.out (fun _ hk=>⟨hk.1.1,⟨hk.1.2,hk.2⟩⟩))⟩,⟨Zb a5⟩,⟨Zb b8⟩,⟨Zl HB⟩⟩
  ·
   replace c6:=Bool.eq_false_iff.mpr c6
   subst c6
   rw[if_neg Bool.false_ne_true]at H
   have H':=Aside0.mk H;clear H;have O6:=g9.out;have O7:=i3.out;obtain⟨G4,G5,G6,G7⟩:=Z2 a5
   go_wp2_with (first|((with_reducible refine gate_callee (f:=31) rfl ?_);refine Ga (some 8) Try.func31 #[.agg #[.slice o9 d4.length o6,.slice p3 l3.length o7]] (h:= ?_);(with_reducible refine(impl_isTurned.calls k _ _ d4 _ _ l3 false _ ?m7 ?m8 ?n9 ?o0 A5.out).mono ?_);(case m7=>exact Zca (Kd.V_reads' i7.out).2.2);(case m8=>exact(Kd.V_reads' i7.out).2.1);(case n9=>exact Zca (Kd.V_reads' i8.out).2.2);(case o0=>exact(Kd.V_reads' i8.out).2.1);rintro e X8 ⟨rfl,hb⟩;refine⟨_,rfl, ?_⟩;replace i7:=Zm (Kd.V_below (Zva i7) hb);replace i8:=Zm (Kd.V_below (Zva i8) hb);replace a5:=Zk a5 hb;replace b8:=Zk b8 hb;replace HB:=Zh HB hb))
   go_meet
   case rel=>exact⟨_,(true),Zs,H',⟨by first|omega|exact Nat.le_refl _⟩,⟨Zrv (Kd.V_mono i7.out (fun _ hk=>⟨hk.1.1,⟨hk.1.2,hk.2⟩⟩))⟩,⟨Zrv (Kd.V_mono i8.out (fun _ hk=>⟨hk.1.1,⟨hk.1.2,hk.2⟩⟩))⟩,⟨Zb a5⟩,⟨Zb b8⟩,⟨Zl HB⟩⟩
 case rest=>
  (clear N0);obtain⟨kq,q4,rfl,HA,O8,a6,a7,a5,b8,HB⟩:=hcut
  cases kq with
  |zero=>exact absurd HA.out (by simp[impl_LeastPole.j0])
  |succ O9=>
   have H:=HA.out;clear HA
   simp only[impl_LeastPole.j0]at H
   by_cases G8:q4=true
   ·
    subst G8
    rw[if_pos rfl]at H
    obtain⟨rfl,rfl,rfl⟩:=Zs3 H;clear H
    have P0:=i3.out;have P1:=g9.out;obtain⟨G9,H1,H2,H3⟩:=Z2 b8
    go_wp2
    refine bodyPost_ret (results_ct rfl _ _ d6 29 #[.int .i64 0,.slice none 0 0] (0,0) _ rfl (by refine Zrb ?_;refine blk_put (cs:= #[.int .i64 0,.slice none 0 0]) ?_ 1 _ rfl;refine Zrb ?_;refine blk_put (cs:= #[.int .i64 0,.slice none 0 0]) ?_ 0 _ rfl;refine Zrb ?_;exact b8.out) Try.underlying29 rfl (by kernel_rfl)) rfl ?_
    exact⟨_,Ze,Znl,Zl HB⟩
   ·
    replace G8:=Bool.eq_false_iff.mpr G8
    subst G8
    rw[if_neg Bool.false_ne_true]at H
    replace H:=Zb0 H;obtain⟨C0,V4,H⟩:=H;have H':=Aside0.mk H;clear H;have P2:=g9.out;have P3:=i3.out;obtain⟨H4,H5,H6,H7⟩:=Z2 a5
    go_wp2_with (first|((with_reducible refine gate_dst (N:=4) rfl ?_);refine Zbe 4 #[.int .i64 0,.slice none 0 0] 29 ?_;intro b6 hg X9 hbox hb;replace a6:=Zm (Kd.V_below (Kd.V_elderB (Zva a6) b6 (Nat.le_of_eq hg.symm)) hb);replace a7:=Zm (Kd.V_below (Kd.V_elderB (Zva a7) b6 (Nat.le_of_eq hg.symm)) hb);have a8:=Zm (hbox);have P4:=Zx hg HB;have P5:=Zx hg HB;replace HB:=Zh HB hb;have i9:=Zq hg a5;have i4:=Zp hg a5;replace a5:=Zk a5 hb;have o3:=Zq hg b8;have o4:=Zp hg b8;replace b8:=Zk b8 hb;clear hb hbox hg;have P6:=i4.out;have P7:=i9.out;have P8:=o4.out;have P9:=o3.out;obtain⟨H8,H9,I0,I1⟩:=Z2 a8;obtain⟨I2,I3,I4,I5⟩:=Z2 a5)|((with_reducible refine gate_callee (f:=33) rfl ?_);refine Ga (some 21) Try.func33 #[.agg #[.slice o9 d4.length o6,.slice p3 l3.length o7]] (h:= ?_);(with_reducible refine(impl_poleDescents.calls _ _ d4 _ _ l3 C0 _ ?m7 ?m8 ?n9 ?o0 V4.out).mono ?_);(case m7=>refine(Kd.V_reads' (e:=3) (base:=w.heap.size) (ok:=fun k_=>((((k8 k_∨k9 k_)∨w.heap.size≤k_)∧(k_≠a9∧k_≠d6))∧k_≠b6)) (n:=d4.length) (c:=o6) ?_).2.2;exact(Zrv ((Kd.V_mono (Kd.V_far (p:=⟨b6,1,none⟩) (Kd.V_far (p:=⟨b6,0,none⟩) (Kd.V_mono a6.out (fun k_ hk=>(⟨hk,hk.2⟩: _ ∧k_≠b6))) (fun _ hk=>hk.2) (.int .i64 (d4.length:Int))) (fun _ hk=>hk.2) (.slice none 0 0)) (fun _ h_=>h_.1)))));(case m8=>exact(Kd.V_reads' a6.out).2.1);(case n9=>refine(Kd.V_reads' (e:=3) (base:=w.heap.size) (ok:=fun k_=>((((k8 k_∨k9 k_)∨w.heap.size≤k_)∧(k_≠a9∧k_≠d6))∧k_≠b6)) (n:=l3.length) (c:=o7) ?_).2.2;exact(Zrv ((Kd.V_mono (Kd.V_far (p:=⟨b6,1,none⟩) (Kd.V_far (p:=⟨b6,0,none⟩) (Kd.V_mono a7.out (fun k_ hk=>(⟨hk,hk.2⟩: _ ∧k_≠b6))) (fun _ hk=>hk.2) (.int .i64 (d4.length:Int))) (fun _ hk=>hk.2) (.slice none 0 0)) (fun _ h_=>h_.1)))));(case o0=>exact(Kd.V_reads' a7.out).2.1);rintro e aA ⟨V5,rfl,o1,hb⟩;refine⟨_,rfl, ?_⟩;replace a6:=Zm (Kd.V_elder' (Zrv ((Kd.V_mono (Kd.V_far (p:=⟨b6,1,none⟩) (Kd.V_far (p:=⟨b6,0,none⟩) (Kd.V_mono a6.out (fun k_ hk=>(⟨hk,hk.2⟩: _ ∧k_≠b6))) (fun _ hk=>hk.2) (.int .i64 (d4.length:Int))) (fun _ hk=>hk.2) (.slice none 0 0)) (fun _ h_=>h_.1)))) (Kd.R_base o1) hb);replace a7:=Zm (Kd.V_elder' (Zrv ((Kd.V_mono (Kd.V_far (p:=⟨b6,1,none⟩) (Kd.V_far (p:=⟨b6,0,none⟩) (Kd.V_mono a7.out (fun k_ hk=>(⟨hk,hk.2⟩: _ ∧k_≠b6))) (fun _ hk=>hk.2) (.int .i64 (d4.length:Int))) (fun _ hk=>hk.2) (.slice none 0 0)) (fun _ h_=>h_.1)))) (Kd.R_base o1) hb);have C1:=Zj (Kd.R_newM (M:=fun k_=>(w.heap.size≤k_)) o1 (below_size (Zl HB)) (fun k_ h_=>h_)) HB;replace a5:=Zm (blk_below (g:=a9) (o:= .cells #[.slice o9 d4.length o6,.slice p3 l3.length o7] 26 (0,0)) (Zbf a5) hb);replace b8:=Zm (blk_below (g:=d6) (o:= .cells #[.int .i64 0,.slice none 0 0] 29 (0,0)) (Zbf b8) hb);replace a8:=Zm (blk_below (g:=b6) (o:= .cells #[.int .i64 (d4.length:Int),.slice none 0 0] 29 (0,0)) (by refine Zrb ?_;refine blk_put (cs:= #[.int .i64 (d4.length:Int),.slice none 0 0]) ?_ 1 _ rfl;refine Zrb ?_;refine blk_put (cs:= #[.int .i64 0,.slice none 0 0]) ?_ 0 _ rfl;refine Zrb ?_;exact a8.out) hb);replace HB:=Zh HB hb))
    go_loopg [5] O9 (fun kq v5 w'=> ∃(d3:List Int) (e9:List Int) (d8:List Int) (d9:List Int) (k4:Value) (k6:Value) (b7:Value),Aside0 (impl_LeastPole.l0 kq d3 e9 d8 (d4.length:Int) d9=some (r1,r2,r3))∧Aside0 (kq≤O9)∧Aside0 (Kd.R (Kd.int .i64) 3 w' w.heap.size (fun k_=>(w.heap.size≤k_)∧Zn k_ b7) v5 d3)∧Aside0 (Kd.V (Kd.int .i64) 3 w' w.heap.size (fun k_=>((k8 k_∨k9 k_)∨w.heap.size≤k_)∧Zn k_ v5∧Zn k_ b7∧k_≠a9∧k_≠d6∧k_≠b6) k4 e9)∧Aside0 (Kd.V (Kd.int .i64) 3 w' w.heap.size (fun k_=>((k8 k_∨k9 k_)∨w.heap.size≤k_)∧Zn k_ v5∧Zn k_ b7∧k_≠a9∧k_≠d6∧k_≠b6) k6 d8)∧Aside0 (Kd.R (Kd.int .i64) 3 w' w.heap.size (fun k_=>(w.heap.size≤k_)∧Zn k_ v5) b7 d9)∧Aside0 (w'.heap[a9]? =some (.cells #[k4,k6] 26 (0,0)))∧Aside0 (w'.heap[d6]? =some (.cells #[.int .i64 0,(.slice none 0 0)] 29 (0,0)))∧Aside0 (w'.heap[b6]? =some (.cells #[.int .i64 (d4.length:Int),b7] 29 (0,0)))∧Aside0 (Below w.heap.size w w'))
    case atStart=>exact⟨(C0),(d4),(l3),(([]:List Int)),(.slice o9 d4.length o6),(.slice p3 l3.length o7),(.slice none 0 0),H',⟨Nat.le_refl _⟩,⟨Zc C1⟩,⟨Zrv (Kd.V_mono a6.out (fun _ hk=>⟨hk.1.1.1,⟨hk.2,⟨(by simp[Value.ownBlock]),⟨hk.1.1.2.1,⟨hk.1.1.2.2,hk.1.2⟩⟩⟩⟩⟩))⟩,⟨Zrv (Kd.V_mono a7.out (fun _ hk=>⟨hk.1.1.1,⟨hk.2,⟨(by simp[Value.ownBlock]),⟨hk.1.1.2.1,⟨hk.1.1.2.2,hk.1.2⟩⟩⟩⟩⟩))⟩,⟨Znl⟩,⟨Zb a5⟩,⟨Zb b8⟩,⟨Zb a8⟩,⟨Zl HB⟩⟩
    case round=>
     (clear H');obtain⟨d3,e9,d8,d9,k4,k6,b7,HA,Q0,d5,a6,a7,a4,a5,b8,a8,HB⟩:=hrel
     cases gk with
     |zero=>exact absurd HA.out (by simp[impl_LeastPole.l0])
     |succ k2=>
      have H:=HA.out;clear HA
      simp only[impl_LeastPole.l0]at H
      by_cases z8:(d3.length:Int)>0
      ·
       rw[if_pos z8]at H;have C2:decide (0<(d3.length:Int))=true:=decide_eq_true z8;have C3:decide (0<d3.length)=true:=decide_eq_true (by omega);clear z8
       replace H:=Zif H;obtain⟨N5,H⟩:=H;have Q4:=eq_true N5;have Q5:decide (1≤(d3.length:Int))=true:=decide_eq_true N5;clear N5;generalize s7:(d3.take 1)=q9 at H;have s9:=Aside0.mk s7.symm;clear s7
       replace H:=Zb0 H;obtain⟨⟨g8,i5⟩,Q6,H⟩:=H;(try dsimp only at H)
       replace H:=Zif H;obtain⟨Q7,H⟩:=H;have Q8:=decide_eq_true Q7;have Q9:decide (0<d3.length)=true:=decide_eq_true (by omega);clear Q7
       replace H:=Zif H;obtain⟨R0,H⟩:=H
       have C4:=Aside0.mk R0;clear R0
       generalize t0:((d9++ [rd d3 0]):List Int)=n3 at H;have C5:=Aside0.mk t0.symm;clear t0
       replace H:=Zb0 H;obtain⟨⟨l5,l8⟩,V6,H⟩:=H;(try dsimp only at H);replace H:=Zb0 H;obtain⟨C6,V7,H⟩:=H;have H':=Aside0.mk H;clear H;obtain⟨m9,i6,N6⟩:=Kd.R_slice d5.out;subst N6
       try go_wp2
       replace d5:=Zm (Kd.R_drew d5.out);replace a6:=Zm (Kd.V_drew a6.out);replace a7:=Zm (Kd.V_drew a7.out);replace a4:=Zm (Kd.R_drew a4.out);replace a5:=Zm (blk_drew a5.out);replace b8:=Zm (blk_drew b8.out);replace a8:=Zm (blk_drew a8.out);replace HB:=Zm (below_drew1 HB.out);have N7:(1:Int)≤((d3.length:Int):Int):=Zoa
       obtain⟨V8,t8,_,C7,_⟩:=info_parts info3
       have q5:d3.length≤i6:=(Kd.R_reads' d5.out).2.1;have C8:Kd.C (Kd.int .i64) _ m9 d3.length d3:=(Kd.R_reads' d5.out).2.2;have y9:=cut_to (P:=Try.prog) 24 3 .i64 Try.underlying24 t8 m9 d3.length i6 1 (by omega) N7 q5;have z2:=Kd.C_take (m:=1) C8 (by omega);have z3:q9.length=(1:Int).toNat:=(by rw[s9.out,List.length_take];omega)
       rw[←s9.out]at z2;rw[←z3]at y9;have l4:=Aside0.mk z2;have t9:=Zm (show q9.length≤i6 from by omega);clear z2 C8 q5 t8 C7;have V9:=Aside0.mk z3;clear z3;have W0:=Zm (show 1≤d3.length from by omega)
       replace N7:=eq_true N7
       refine start_ (n:=8) (S:=fun w'=>w'.cell? ⟨b6,0,none⟩=some (.int .i64 (d4.length:Int))∧w'.cell? ⟨b6,1,none⟩=some (b7)) (ds:= []) (fl 8 0) (by kernel_rfl) rfl rfl ⟨Zc0 a8 0,Zc0 a8 1⟩ (fun hHeld=> ?_);refine with_tabW impl_LeastPole.tab7 impl_LeastPole.bits7 (fun HT_ HW_=> ?_)
       generalize wr.drew=aC at d5 a6 a7 a4 a5 b8 a8 HB l4 hHeld ⊢;refine Yu 0 27 (fl 8 1) HT_ (h:= ?_);refine Yu 2 29 (fl 8 5) HT_ (h:= ?_);refine Yu 3 30 (fl 8 13) HT_ (h:= ?_);refine Yt 1 28 (fl 8 15) HT_ HW_ hHeld (h:= ?_);refine Yu 4 31 (fl 8 31) HT_ (h:= ?_)
       refine join_ (σ:=Value × Value × Nat) 1 (fl 8 127) (fun s_=> [(32,.agg #[s_.1,s_.2.1]),(6,.pointer (some ⟨s_.2.2,0,none⟩))]) (fun s_ w'=>(w'.cell? ⟨b6,0,none⟩=some (.int .i64 (d4.length:Int))∧w'.cell? ⟨b6,1,none⟩=some (b7))∧(Kd.R (Kd.int .i64) 3 w' w.heap.size (fun k_=>(w.heap.size≤k_)∧Zn k_ s_.2.1∧Zn k_ b7∧some k_≠(.slice m9 d3.length i6:Value).ownBlock) s_.1 g8)∧(Kd.R (Kd.int .i64) 3 w' w.heap.size (fun k_=>(w.heap.size≤k_)∧Zn k_ s_.1∧Zn k_ b7∧some k_≠(.slice m9 d3.length i6:Value).ownBlock) s_.2.1 i5)∧(Kd.V (Kd.int .i64) 3 w' w.heap.size (fun k_=>((k8 k_∨k9 k_)∨w.heap.size≤k_)∧Zn k_ s_.1∧Zn k_ s_.2.1∧Zn k_ b7∧some k_≠(.slice m9 d3.length i6:Value).ownBlock∧k_≠a9∧k_≠d6∧k_≠b6∧k_≠s_.2.2) k4 e9)∧(Kd.V (Kd.int .i64) 3 w' w.heap.size (fun k_=>((k8 k_∨k9 k_)∨w.heap.size≤k_)∧Zn k_ s_.1∧Zn k_ s_.2.1∧Zn k_ b7∧some k_≠(.slice m9 d3.length i6:Value).ownBlock∧k_≠a9∧k_≠d6∧k_≠b6∧k_≠s_.2.2) k6 d8)∧(Kd.R (Kd.int .i64) 3 w' w.heap.size (fun k_=>(w.heap.size≤k_)∧Zn k_ s_.1∧Zn k_ s_.2.1∧some k_≠(.slice m9 d3.length i6:Value).ownBlock) b7 d9)∧(Kd.R (Kd.int .i64) 3 w' w.heap.size (fun k_=>(w.heap.size≤k_)∧Zn k_ s_.1∧Zn k_ s_.2.1∧Zn k_ b7) (.slice m9 d3.length i6) d3)∧(w'.heap[a9]? =some (.cells #[k4,k6] 26 (0,0)))∧(w'.heap[d6]? =some (.cells #[.int .i64 0,.slice none 0 0] 29 (0,0)))∧(w'.heap[b6]? =some (.cells #[.int .i64 (d4.length:Int),b7] 29 (0,0)))∧(w'.heap[s_.2.2]? =some (.cells #[.slice none 0 0,.slice none 0 0] 26 (0,0)))∧(w.heap.size≤s_.2.2)∧(w.heap.size≤s_.2.2)∧(a9≠s_.2.2)∧(s_.2.2≠a9)∧(d6≠s_.2.2)∧(s_.2.2≠d6)∧(b6≠s_.2.2)∧(s_.2.2≠b6)∧(Below w.heap.size w w')) ?_ ?_
       rotate_left
       ·
        intro hCont
        refine two_ (i:=5) (j:=6) (Ni:=some 32) (Nj:=some 6) (fl 8 63) (fl 8 95) rfl rfl rfl rfl (two_of HT_.out (by kernel_rfl)) (by decide) (by decide) (fun K hK=> ?_) (fun K hK=> ?_)
        ·
         refine goes_ Try.func34 (by kernel_rfl) rfl #[.agg #[.int .i64 (d4.length:Int),.slice m9 q9.length i6]] (by rfl) rfl rfl (by(try simp only[List.map_toArray,List.map_cons,List.map_nil]);first|done|rfl) ?_
         with_reducible refine(impl_poleResult.calls k2 (d4.length:Int) _ _ q9 g8 i5 _ ?m7 ?m8 Q6.out).mono ?_
         (case m7=>repeat(first|exact(by repeat(first|(with_reducible exact l4.out)|(with_reducible refine Kd.C_alloc ?_ _)|(with_reducible refine Kd.C_drewN ?_ _)|(with_reducible refine Kd.C_drew ?_)|exact l4.out))|(with_reducible refine Kd.C_alloc ?_ _)|(with_reducible refine Kd.C_drewN ?_ _)|(with_reducible refine Kd.C_drew ?_)))
         (case m8=>exact t9.out)
         rintro e W3 ⟨p6,p7,rfl,o1,q3,hb⟩
         refine⟨_,rfl, ?_⟩
         replace a6:=Zm (Kd.V_mono (Kd.V_told (Kd.V_told (Kd.V_old (Zva a6) hb) (Kd.R_base o1)) (Kd.R_base q3)) (fun _ h_=>h_.1));replace a7:=Zm (Kd.V_mono (Kd.V_told (Kd.V_told (Kd.V_old (Zva a7) hb) (Kd.R_base o1)) (Kd.R_base q3)) (fun _ h_=>h_.1));have e6:=Zj (Zv (Zv (Kd.R_newM (M:=fun k_=>(w.heap.size≤k_)) o1 (below_size (Zl HB)) (fun k_ h_=>h_)) d5) a4) HB;have e7:=Zj (Zv (Zv (Kd.R_newM (M:=fun k_=>(w.heap.size≤k_)) q3 (below_size (Zl HB)) (fun k_ h_=>h_)) d5) a4) HB;replace d5:=Zu d5 hb o1 q3;replace a4:=Zu a4 hb o1 q3;replace a5:=Zk a5 hb;replace b8:=Zk b8 hb;replace a8:=Zk a8 hb;replace l4:=Zm (Kd.C_below (by repeat(first|(with_reducible exact l4.out)|(with_reducible refine Kd.C_alloc ?_ _)|(with_reducible refine Kd.C_drewN ?_ _)|(with_reducible refine Kd.C_drew ?_)|exact l4.out)) hb);replace HB:=Zh HB hb
         refine hK.out _ _ ⟨Zc0 a8 0,Zc0 a8 1⟩ (fun hHeld=> ?_)
         clear hK K;refine Yn 32 (h:= ?_)
         refine one_ (i:=6) (N:=some 6) (fl 8 127) rfl rfl (one_of HT_.out (by kernel_rfl)) (by decide) (fun K hK=> ?_)
         refine Zbs 6 #[.slice none 0 0,.slice none 0 0] 26 ?_
         intro b9 hg W4 hbox hb
         replace d5:=Zo d5 hb;replace a6:=Zm (Kd.V_below (Kd.V_elderB (Zva a6) b9 (Nat.le_of_eq hg.symm)) hb);replace a7:=Zm (Kd.V_below (Kd.V_elderB (Zva a7) b9 (Nat.le_of_eq hg.symm)) hb);replace a4:=Zo a4 hb;replace e6:=Zo e6 hb;replace e7:=Zo e7 hb;replace l4:=Zm (Kd.C_below (by repeat(first|(with_reducible exact l4.out)|(with_reducible refine Kd.C_alloc ?_ _)|(with_reducible refine Kd.C_drewN ?_ _)|(with_reducible refine Kd.C_drew ?_)|exact l4.out)) hb);have c9:=Zm (hbox);have q6:=Zx hg HB;have q7:=Zx hg HB;replace HB:=Zh HB hb;have f8:=Zq hg a5;have f9:=Zp hg a5;replace a5:=Zk a5 hb;have m5:=Zq hg b8;have m6:=Zp hg b8;replace b8:=Zk b8 hb;have d7:=Zq hg a8;have k3:=Zp hg a8;replace a8:=Zk a8 hb;clear hb hbox hg
         refine hK.out _ _ ⟨Zc0 a8 0,Zc0 a8 1⟩ (fun hHeld=> ?_)
         clear hK K;refine Yn 6 (h:= ?_)
         exact norm_ (by simp only[putAll,Act.put,List.setIfInBounds_toArray,List.set_cons_zero,List.set_cons_succ]) (hCont (p6,p7,b9) _ ⟨hHeld,(Zc e6),(Zc e7),(Zrv (Kd.V_mono a6.out (fun _ hk=>⟨hk.1.1.1.1,⟨hk.1.1.2,⟨hk.1.2,⟨hk.1.1.1.2.2.1,⟨hk.1.1.1.2.1,⟨hk.1.1.1.2.2.2.1,⟨hk.1.1.1.2.2.2.2.1,⟨hk.1.1.1.2.2.2.2.2,hk.2⟩⟩⟩⟩⟩⟩⟩⟩))),(Zrv (Kd.V_mono a7.out (fun _ hk=>⟨hk.1.1.1.1,⟨hk.1.1.2,⟨hk.1.2,⟨hk.1.1.1.2.2.1,⟨hk.1.1.1.2.1,⟨hk.1.1.1.2.2.2.1,⟨hk.1.1.1.2.2.2.2.1,⟨hk.1.1.1.2.2.2.2.2,hk.2⟩⟩⟩⟩⟩⟩⟩⟩))),(Zc a4),(Zc d5),(Zb a5),(Zb b8),(Zb a8),(Zb c9),q6.out,q7.out,f8.out,f9.out,m5.out,m6.out,d7.out,k3.out,(Zl HB)⟩)
        ·
         refine Zbs 6 #[.slice none 0 0,.slice none 0 0] 26 ?_
         intro b9 hg W3 hbox hb
         replace d5:=Zo d5 hb;replace a6:=Zm (Kd.V_below (Kd.V_elderB (Zva a6) b9 (Nat.le_of_eq hg.symm)) hb);replace a7:=Zm (Kd.V_below (Kd.V_elderB (Zva a7) b9 (Nat.le_of_eq hg.symm)) hb);replace a4:=Zo a4 hb;replace l4:=Zm (Kd.C_below (by repeat(first|(with_reducible exact l4.out)|(with_reducible refine Kd.C_alloc ?_ _)|(with_reducible refine Kd.C_drewN ?_ _)|(with_reducible refine Kd.C_drew ?_)|exact l4.out)) hb);have c9:=Zm (hbox);have q6:=Zx hg HB;have q7:=Zx hg HB;replace HB:=Zh HB hb;have f8:=Zq hg a5;have f9:=Zp hg a5;replace a5:=Zk a5 hb;have m5:=Zq hg b8;have m6:=Zp hg b8;replace b8:=Zk b8 hb;have d7:=Zq hg a8;have k3:=Zp hg a8;replace a8:=Zk a8 hb;clear hb hbox hg
         refine hK.out _ _ ⟨Zc0 a8 0,Zc0 a8 1⟩ (fun hHeld=> ?_)
         clear hK K;refine Yn 6 (h:= ?_)
         refine one_ (i:=5) (N:=some 32) (fl 8 127) rfl rfl (one_of HT_.out (by kernel_rfl)) (by decide) (fun K hK=> ?_)
         refine goes_ Try.func34 (by kernel_rfl) rfl #[.agg #[.int .i64 (d4.length:Int),.slice m9 q9.length i6]] (by rfl) rfl rfl (by(try simp only[List.map_toArray,List.map_cons,List.map_nil]);first|done|rfl) ?_
         with_reducible refine(impl_poleResult.calls k2 (d4.length:Int) _ _ q9 g8 i5 _ ?m7 ?m8 Q6.out).mono ?_
         (case m7=>repeat(first|exact(by repeat(first|(with_reducible exact l4.out)|(with_reducible refine Kd.C_alloc ?_ _)|(with_reducible refine Kd.C_drewN ?_ _)|(with_reducible refine Kd.C_drew ?_)|exact l4.out))|(with_reducible refine Kd.C_alloc ?_ _)|(with_reducible refine Kd.C_drewN ?_ _)|(with_reducible refine Kd.C_drew ?_)))
         (case m8=>exact t9.out)
         rintro e W4 ⟨p6,p7,rfl,o1,q3,hb⟩
         refine⟨_,rfl, ?_⟩
         replace a6:=Zm (Kd.V_mono (Kd.V_told (Kd.V_told (Kd.V_old (Zva a6) hb) (Kd.R_base o1)) (Kd.R_base q3)) (fun _ h_=>h_.1));replace a7:=Zm (Kd.V_mono (Kd.V_told (Kd.V_told (Kd.V_old (Zva a7) hb) (Kd.R_base o1)) (Kd.R_base q3)) (fun _ h_=>h_.1));have e6:=Zj (Zv (Zv (Kd.R_newM (M:=fun k_=>(w.heap.size≤k_)) o1 (below_size (Zl HB)) (fun k_ h_=>h_)) d5) a4) HB;have e7:=Zj (Zv (Zv (Kd.R_newM (M:=fun k_=>(w.heap.size≤k_)) q3 (below_size (Zl HB)) (fun k_ h_=>h_)) d5) a4) HB;replace d5:=Zu d5 hb o1 q3;replace a4:=Zu a4 hb o1 q3;replace a5:=Zk a5 hb;replace b8:=Zk b8 hb;replace a8:=Zk a8 hb;replace l4:=Zm (Kd.C_below (by repeat(first|(with_reducible exact l4.out)|(with_reducible refine Kd.C_alloc ?_ _)|(with_reducible refine Kd.C_drewN ?_ _)|(with_reducible refine Kd.C_drew ?_)|exact l4.out)) hb);replace c9:=Zk c9 hb;replace HB:=Zh HB hb
         refine hK.out _ _ ⟨Zc0 a8 0,Zc0 a8 1⟩ (fun hHeld=> ?_)
         clear hK K;refine Yn 32 (h:= ?_)
         exact norm_ (by simp only[putAll,Act.put,List.setIfInBounds_toArray,List.set_cons_zero,List.set_cons_succ]) (hCont (p6,p7,b9) _ ⟨hHeld,(Zc e6),(Zc e7),(Zrv (Kd.V_mono a6.out (fun _ hk=>⟨hk.1.1.1.1,⟨hk.1.2,⟨hk.2,⟨hk.1.1.1.2.2.1,⟨hk.1.1.1.2.1,⟨hk.1.1.1.2.2.2.1,⟨hk.1.1.1.2.2.2.2.1,⟨hk.1.1.1.2.2.2.2.2,hk.1.1.2⟩⟩⟩⟩⟩⟩⟩⟩))),(Zrv (Kd.V_mono a7.out (fun _ hk=>⟨hk.1.1.1.1,⟨hk.1.2,⟨hk.2,⟨hk.1.1.1.2.2.1,⟨hk.1.1.1.2.1,⟨hk.1.1.1.2.2.2.1,⟨hk.1.1.1.2.2.2.2.1,⟨hk.1.1.1.2.2.2.2.2,hk.1.1.2⟩⟩⟩⟩⟩⟩⟩⟩))),(Zc a4),(Zc d5),(Zb a5),(Zb b8),(Zb a8),(Zb c9),q6.out,q7.out,f8.out,f9.out,m5.out,m6.out,d7.out,k3.out,(Zl HB)⟩)
       rintro⟨p6,p7,b9⟩ q8 ⟨hS_,R1,R2,R3,R4,R5,R6,R7,R8,R9,S0,C9,D0,D1,D2,D3,D4,D5,D6,D7⟩;(have e6:Aside0 (Kd.R (Kd.int .i64) 3 q8 w.heap.size (fun k_=>(w.heap.size≤k_)∧Zn k_ p7∧Zn k_ b7∧some k_≠(.slice m9 d3.length i6:Value).ownBlock) p6 g8):=⟨R1⟩;have e7:Aside0 (Kd.R (Kd.int .i64) 3 q8 w.heap.size (fun k_=>(w.heap.size≤k_)∧Zn k_ p6∧Zn k_ b7∧some k_≠(.slice m9 d3.length i6:Value).ownBlock) p7 i5):=⟨R2⟩;replace a6:Aside0 (Kd.V (Kd.int .i64) 3 q8 w.heap.size (fun k_=>((k8 k_∨k9 k_)∨w.heap.size≤k_)∧Zn k_ p6∧Zn k_ p7∧Zn k_ b7∧some k_≠(.slice m9 d3.length i6:Value).ownBlock∧k_≠a9∧k_≠d6∧k_≠b6∧k_≠b9) k4 e9):=⟨R3⟩;replace a7:Aside0 (Kd.V (Kd.int .i64) 3 q8 w.heap.size (fun k_=>((k8 k_∨k9 k_)∨w.heap.size≤k_)∧Zn k_ p6∧Zn k_ p7∧Zn k_ b7∧some k_≠(.slice m9 d3.length i6:Value).ownBlock∧k_≠a9∧k_≠d6∧k_≠b6∧k_≠b9) k6 d8):=⟨R4⟩;replace a4:Aside0 (Kd.R (Kd.int .i64) 3 q8 w.heap.size (fun k_=>(w.heap.size≤k_)∧Zn k_ p6∧Zn k_ p7∧some k_≠(.slice m9 d3.length i6:Value).ownBlock) b7 d9):=⟨R5⟩;replace d5:Aside0 (Kd.R (Kd.int .i64) 3 q8 w.heap.size (fun k_=>(w.heap.size≤k_)∧Zn k_ p6∧Zn k_ p7∧Zn k_ b7) (.slice m9 d3.length i6) d3):=⟨R6⟩;replace a5:Aside0 (q8.heap[a9]? =some (.cells #[k4,k6] 26 (0,0))):=⟨R7⟩;replace b8:Aside0 (q8.heap[d6]? =some (.cells #[.int .i64 0,.slice none 0 0] 29 (0,0))):=⟨R8⟩;replace a8:Aside0 (q8.heap[b6]? =some (.cells #[.int .i64 (d4.length:Int),b7] 29 (0,0))):=⟨R9⟩;have c9:Aside0 (q8.heap[b9]? =some (.cells #[.slice none 0 0,.slice none 0 0] 26 (0,0))):=⟨S0⟩;have q6:Aside0 (w.heap.size≤b9):=⟨C9⟩;have q7:Aside0 (w.heap.size≤b9):=⟨D0⟩;have f8:Aside0 (a9≠b9):=⟨D1⟩;have f9:Aside0 (b9≠a9):=⟨D2⟩;have m5:Aside0 (d6≠b9):=⟨D3⟩;have m6:Aside0 (b9≠d6):=⟨D4⟩;have d7:Aside0 (b6≠b9):=⟨D5⟩;have k3:Aside0 (b9≠b6):=⟨D6⟩;replace HB:Aside0 (Below w.heap.size w q8):=⟨D7⟩;clear R1 R2 R3 R4 R5 R6 R7 R8 R9 S0 C9 D0 D1 D2 D3 D4 D5 D6 D7;have hHeld:q8.cell? ⟨b6,0,none⟩=some (.int .i64 (d4.length:Int))∧q8.cell? ⟨b6,1,none⟩=some (b7):=hS_);obtain⟨l6,l7,D8⟩:=Kd.R_slice e6.out
       (first|subst D8|(injection D8 with p8 r5 p9;have r6:=p8.symm;have r7:=p9.symm;clear p8 r5 p9;subst r6;subst r7))
       obtain⟨l9,m4,D9⟩:=Kd.R_slice e7.out
       (first|subst D9|(injection D9 with p8 r5 p9;have r6:=p8.symm;have r7:=p9.symm;clear p8 r5 p9;subst r6;subst r7))
       refine norm_ (a':= ?_) ?_ ?_
       rotate_left
       ·
        simp only[putAll,Act.put,List.setIfInBounds_toArray,List.set_cons_zero,List.set_cons_succ]
        rfl
       refine one_ (i:=7) (N:=none) (fl 8 255) rfl rfl (one_of HT_.out (by kernel_rfl)) (by decide) (fun K hK=> ?_)
       have W5:=Zc0 c9 0;have S1:=blk_frozen c9.out 0;have I6:=f8.out;have I7:=m5.out;have I8:=d7.out;have I9:=f9.out;have J0:=m6.out;have J1:=k3.out;have W6:=Zc0 c9 1;have S3:=blk_frozen c9.out 1;have J2:=f8.out;have J3:=m5.out;have J4:=d7.out;have J5:=f9.out;have J6:=m6.out;have J7:=k3.out
       refine skip_ (w1:= ?_) (by rfl) rfl ?_ ?_
       rotate_left
       ·
        go_simp
        rfl
       refine hK.out _ _ ⟨((cell_far (p:=⟨b9,_,none⟩) d7.out _).trans (((cell_far (p:=⟨b9,_,none⟩) d7.out _).trans (hHeld.1)))),((cell_far (p:=⟨b9,_,none⟩) d7.out _).trans (((cell_far (p:=⟨b9,_,none⟩) d7.out _).trans (hHeld.2))))⟩ (fun hHeld=> ?_)
       clear hK K
       refine done_ (done_of HT_.out (by kernel_rfl)) ?_
       try go_wp2
       generalize hW_:((q8.setCell ⟨b9,0,none⟩ (.slice l6 g8.length l7)).setCell ⟨b9,1,none⟩ (.slice l9 i5.length m4))=r8;replace d5:Aside0 (Kd.R (Kd.int .i64) 3 r8 w.heap.size (fun k_=>(w.heap.size≤k_)∧Zn k_ b7∧Zn k_ (.slice l6 g8.length l7)∧Zn k_ (.slice l9 i5.length m4)) (.slice m9 d3.length i6) d3):=⟨by rw[←hW_];(with_reducible repeat(first|apply Kd.R_alloc|apply Kd.R_drewN|apply Kd.R_drew));exact Zfm d5 c9 (.slice l6 g8.length l7) (.slice l9 i5.length m4) (fun _ hk=>⟨hk.1.1,⟨hk.1.2.2.2,⟨hk.1.2.1,hk.1.2.2.1⟩⟩⟩)⟩;replace a6:Aside0 (Kd.V (Kd.int .i64) 3 r8 w.heap.size (fun k_=>((k8 k_∨k9 k_)∨w.heap.size≤k_)∧some k_≠(.slice m9 d3.length i6:Value).ownBlock∧Zn k_ b7∧Zn k_ (.slice l6 g8.length l7)∧Zn k_ (.slice l9 i5.length m4)∧k_≠a9∧k_≠d6∧k_≠b6∧k_≠b9) k4 e9):=⟨by rw[←hW_];(with_reducible repeat(first|apply Kd.V_alloc|apply Kd.V_drewN|apply Kd.V_drew));exact Kd.V_mono (Kd.V_far (p:=⟨b9,1,none⟩) (Kd.V_far (p:=⟨b9,0,none⟩) (Kd.V_mono a6.out (fun k_ hk=>(⟨hk,hk.2.2.2.2.2.2.2.2⟩: _ ∧k_≠b9))) (fun _ hk=>hk.2) (.slice l6 g8.length l7)) (fun _ hk=>hk.2) (.slice l9 i5.length m4)) (fun _ hk=>⟨hk.1.1,⟨hk.1.2.2.2.2.1,⟨hk.1.2.2.2.1,⟨hk.1.2.1,⟨hk.1.2.2.1,⟨hk.1.2.2.2.2.2.1,⟨hk.1.2.2.2.2.2.2.1,⟨hk.1.2.2.2.2.2.2.2.1,hk.1.2.2.2.2.2.2.2.2⟩⟩⟩⟩⟩⟩⟩⟩)⟩;replace a7:Aside0 (Kd.V (Kd.int .i64) 3 r8 w.heap.size (fun k_=>((k8 k_∨k9 k_)∨w.heap.size≤k_)∧some k_≠(.slice m9 d3.length i6:Value).ownBlock∧Zn k_ b7∧Zn k_ (.slice l6 g8.length l7)∧Zn k_ (.slice l9 i5.length m4)∧k_≠a9∧k_≠d6∧k_≠b6∧k_≠b9) k6 d8):=⟨by rw[←hW_];(with_reducible repeat(first|apply Kd.V_alloc|apply Kd.V_drewN|apply Kd.V_drew));exact Kd.V_mono (Kd.V_far (p:=⟨b9,1,none⟩) (Kd.V_far (p:=⟨b9,0,none⟩) (Kd.V_mono a7.out (fun k_ hk=>(⟨hk,hk.2.2.2.2.2.2.2.2⟩: _ ∧k_≠b9))) (fun _ hk=>hk.2) (.slice l6 g8.length l7)) (fun _ hk=>hk.2) (.slice l9 i5.length m4)) (fun _ hk=>⟨hk.1.1,⟨hk.1.2.2.2.2.1,⟨hk.1.2.2.2.1,⟨hk.1.2.1,⟨hk.1.2.2.1,⟨hk.1.2.2.2.2.2.1,⟨hk.1.2.2.2.2.2.2.1,⟨hk.1.2.2.2.2.2.2.2.1,hk.1.2.2.2.2.2.2.2.2⟩⟩⟩⟩⟩⟩⟩⟩)⟩;replace a4:Aside0 (Kd.R (Kd.int .i64) 3 r8 w.heap.size (fun k_=>(w.heap.size≤k_)∧some k_≠(.slice m9 d3.length i6:Value).ownBlock∧Zn k_ (.slice l6 g8.length l7)∧Zn k_ (.slice l9 i5.length m4)) b7 d9):=⟨by rw[←hW_];(with_reducible repeat(first|apply Kd.R_alloc|apply Kd.R_drewN|apply Kd.R_drew));exact Zfm a4 c9 (.slice l6 g8.length l7) (.slice l9 i5.length m4) (fun _ hk=>⟨hk.1.1,⟨hk.1.2.2.2,⟨hk.1.2.1,hk.1.2.2.1⟩⟩⟩)⟩;replace e6:Aside0 (Kd.R (Kd.int .i64) 3 r8 w.heap.size (fun k_=>(w.heap.size≤k_)∧some k_≠(.slice m9 d3.length i6:Value).ownBlock∧Zn k_ b7∧Zn k_ (.slice l9 i5.length m4)) (.slice l6 g8.length l7) g8):=⟨by rw[←hW_];(with_reducible repeat(first|apply Kd.R_alloc|apply Kd.R_drewN|apply Kd.R_drew));exact Zfm e6 c9 (.slice l6 g8.length l7) (.slice l9 i5.length m4) (fun _ hk=>⟨hk.1.1,⟨hk.1.2.2.2,⟨hk.1.2.2.1,hk.1.2.1⟩⟩⟩)⟩;replace e7:Aside0 (Kd.R (Kd.int .i64) 3 r8 w.heap.size (fun k_=>(w.heap.size≤k_)∧some k_≠(.slice m9 d3.length i6:Value).ownBlock∧Zn k_ b7∧Zn k_ (.slice l6 g8.length l7)) (.slice l9 i5.length m4) i5):=⟨by rw[←hW_];(with_reducible repeat(first|apply Kd.R_alloc|apply Kd.R_drewN|apply Kd.R_drew));exact Zfm e7 c9 (.slice l6 g8.length l7) (.slice l9 i5.length m4) (fun _ hk=>⟨hk.1.1,⟨hk.1.2.2.2,⟨hk.1.2.2.1,hk.1.2.1⟩⟩⟩)⟩;replace a5:Aside0 (r8.heap[a9]? =some (.cells #[k4,k6] 26 (0,0))):=⟨by rw[←hW_];exact Zbf a5⟩;replace b8:Aside0 (r8.heap[d6]? =some (.cells #[.int .i64 0,.slice none 0 0] 29 (0,0))):=⟨by rw[←hW_];exact Zbf b8⟩;replace a8:Aside0 (r8.heap[b6]? =some (.cells #[.int .i64 (d4.length:Int),b7] 29 (0,0))):=⟨by rw[←hW_];exact Zbf a8⟩;replace c9:Aside0 (r8.heap[b9]? =some (.cells #[.slice l6 g8.length l7,.slice l9 i5.length m4] 26 (0,0))):=⟨by rw[←hW_];refine Zrb ?_;refine blk_put (cs:= #[.slice l6 g8.length l7,.slice none 0 0]) ?_ 1 _ rfl;refine Zrb ?_;refine blk_put (cs:= #[.slice none 0 0,.slice none 0 0]) ?_ 0 _ rfl;refine Zrb ?_;exact c9.out⟩;replace HB:Aside0 (Below w.heap.size w r8):=⟨by rw[←hW_];exact Zl HB⟩;clear hW_;replace d5:=Zm (Kd.R_drew d5.out);replace a6:=Zm (Kd.V_drew a6.out);replace a7:=Zm (Kd.V_drew a7.out);replace a4:=Zm (Kd.R_drew a4.out);replace e6:=Zm (Kd.R_drew e6.out);replace e7:=Zm (Kd.R_drew e7.out);replace a5:=Zm (blk_drew a5.out);replace b8:=Zm (blk_drew b8.out);replace a8:=Zm (blk_drew a8.out);replace c9:=Zm (blk_drew c9.out);replace HB:=Zm (below_drew1 HB.out);have z4:0≤(0:Int):=(by omega);have z5:0<(d3.length:Int):=Zoa;obtain⟨o5,N8,o8⟩:=Kd.at_int (Kd.R_reads' d5.out).2.2 0 z4 z5
       cases N8
       have S4:(0<d3.length)=True:=eq_true (by omega)
       (try rw[show((0:Int)).toNat=0 from rfl]at o8)
       (try rw[Addr.add_zero']at o8)
       replace z4:=eq_true z4
       replace z5:=eq_true z5
       refine start_ (n:=13) (S:=fun w'=>w'.cell? ⟨b6,0,none⟩=some (.int .i64 (d4.length:Int))∧w'.cell? ⟨b6,1,none⟩=some (b7)∧w'.cell? ⟨b9,0,none⟩=some (.slice l6 g8.length l7)∧w'.cell? ⟨b9,1,none⟩=some (.slice l9 i5.length m4)∧w'.cell? ⟨a9,0,none⟩=some (k4)∧w'.cell? ⟨a9,1,none⟩=some (k6)∧w'.cell? o5=some (.int .i64 (rd d3 0))) (ds:= [11,12]) (fl 13 0) (by kernel_rfl) rfl rfl ⟨Zc0 a8 0,Zc0 a8 1,Zc0 c9 0,Zc0 c9 1,Zc0 a5 0,Zc0 a5 1,o8⟩ (fun hHeld=> ?_);refine with_tabW impl_LeastPole.tab8 impl_LeastPole.bits8 (fun HT_ HW_=> ?_)
       generalize r8.drew=aD at d5 a6 a7 a4 e6 e7 a5 b8 a8 c9 HB o8 hHeld ⊢;refine Yu 0 33 (fl 13 1) HT_ (h:= ?_);refine Yu 2 35 (fl 13 5) HT_ (h:= ?_);refine Yu 3 36 (fl 13 13) HT_ (h:= ?_);refine Yt 1 34 (fl 13 15) HT_ HW_ hHeld (h:= ?_);refine Yt 4 37 (fl 13 31) HT_ HW_ hHeld (h:= ?_);refine Yt 7 40 (fl 13 159) HT_ HW_ hHeld (h:= ?_);refine Yt 8 41 (fl 13 415) HT_ HW_ hHeld (h:= ?_)
       refine one_ (i:=5) (N:=some 38) (fl 13 447) rfl rfl (one_of HT_.out (by kernel_rfl)) (by decide) (fun K hK=> ?_)
       refine value_ (w1:= ?_) (v:= ?_) (by rfl) rfl ?_ ?_
       rotate_left 2
       ·
        go_simp
        constructor
        ·
         rfl
        ·
         rfl
       refine hK.out _ _ ⟨(blk_cell (blk_alloc a8.out _) 0).trans rfl,(blk_cell (blk_alloc a8.out _) 1).trans rfl,(blk_cell (blk_alloc c9.out _) 0).trans rfl,(blk_cell (blk_alloc c9.out _) 1).trans rfl,(blk_cell (blk_alloc a5.out _) 0).trans rfl,(blk_cell (blk_alloc a5.out _) 1).trans rfl,(World.cell?_alloc_lt _ _ _ (World.block_lt_of_cell? _ _ (hHeld.2.2.2.2.2.2))).trans (hHeld.2.2.2.2.2.2)⟩ (fun hHeld=> ?_)
       clear hK K;refine Yn 38 (h:= ?_)
       refine one_ (i:=6) (N:=some 39) (fl 13 511) rfl rfl (one_of HT_.out (by kernel_rfl)) (by decide) (fun K hK=> ?_)
       refine Kd.R_append_step (Kd.int .i64) (w0:=w) w.heap.size (by rfl) (.tmp 34) (.tmp 38) 24 3 (.int .i64 0) 8 rfl Try.underlying24 info3 rfl (by decide) (by omega) b7 d9 (rd d3 0) [.int .i64 (rd d3 0)] (fun k_=>(w.heap.size≤k_)∧some k_≠(.slice (some o5) d3.length i6:Value).ownBlock∧Zn k_ (.slice l6 g8.length l7)∧Zn k_ (.slice l9 i5.length m4)) (fun _ =>False) rfl rfl ?aP (fun _ hk=>hk.elim) ?aF ?aO ?aB ?aS ?aL ?_
       (case aP=>exact rfl)
       (case aB=>exact(Zl HB))
       (case aF=>exact(fun k_ hk=>⟨(Nat.le_trans (below_size (Zl HB)) hk),Kd.fresh' (Kd.R_lt (Zr d5)) k_ hk,Kd.fresh' (Kd.R_lt (Zr e6)) k_ hk,Kd.fresh' (Kd.R_lt (Zr e7)) k_ hk⟩))
       (case aO=>exact(Zr a4))
       (case aS=>exact(below_size (Zl HB)))
       (case aL=>have:=C4.out;omega)
       intro W7 aE ho hb hg hat
       (first|have s6:=cell_grown hg (hHeld.2.2.2.2.2.2) (by first|(rw[add_block];exact(by first|exact Zhn (d5.out.1 _ rfl)|exact fun e_=>absurd (a4.out.1 _ e_.symm) (by simp)))|(show some (Addr.add _ _).block≠ _;rw[add_block];exact(by first|exact Zhn (d5.out.1 _ rfl)|exact fun e_=>absurd (a4.out.1 _ e_.symm) (by simp)))|exact(by first|exact Zhn (d5.out.1 _ rfl)|exact fun e_=>absurd (a4.out.1 _ e_.symm) (by simp)))|have s6:=cell_grown hg (cell_unalloc (hHeld.2.2.2.2.2.2) (by first|(rw[add_block];exact Kd.R_lt d5.out _ rfl)|(show(Addr.add _ _).block< _;rw[add_block];exact Kd.R_lt d5.out _ rfl)|exact Kd.R_lt d5.out _ rfl)) (by first|(rw[add_block];exact(by first|exact Zhn (d5.out.1 _ rfl)|exact fun e_=>absurd (a4.out.1 _ e_.symm) (by simp)))|(show some (Addr.add _ _).block≠ _;rw[add_block];exact(by first|exact Zhn (d5.out.1 _ rfl)|exact fun e_=>absurd (a4.out.1 _ e_.symm) (by simp)))|exact(by first|exact Zhn (d5.out.1 _ rfl)|exact fun e_=>absurd (a4.out.1 _ e_.symm) (by simp))))
       rw[←C5.out]at ho
       replace d5:=Zm (Kd.R_after (ok:=(fun k_=>(w.heap.size≤k_)∧Zn k_ (.slice l6 g8.length l7)∧Zn k_ (.slice l9 i5.length m4))) (Zc d5) hg hat);replace a6:=Zm (Kd.V_afterv (ok:=(fun k_=>((k8 k_∨k9 k_)∨w.heap.size≤k_)∧some k_≠(.slice (some o5) d3.length i6:Value).ownBlock∧Zn k_ (.slice l6 g8.length l7)∧Zn k_ (.slice l9 i5.length m4)∧k_≠a9∧k_≠d6∧k_≠b6∧k_≠b9)) (Zrv (Kd.V_mono a6.out (fun _ hk=>⟨⟨hk.1,⟨hk.2.1,⟨hk.2.2.2.1,⟨hk.2.2.2.2.1,⟨hk.2.2.2.2.2.1,⟨hk.2.2.2.2.2.2.1,⟨hk.2.2.2.2.2.2.2.1,hk.2.2.2.2.2.2.2.2⟩⟩⟩⟩⟩⟩⟩,hk.2.2.1⟩))) hg hat);replace a7:=Zm (Kd.V_afterv (ok:=(fun k_=>((k8 k_∨k9 k_)∨w.heap.size≤k_)∧some k_≠(.slice (some o5) d3.length i6:Value).ownBlock∧Zn k_ (.slice l6 g8.length l7)∧Zn k_ (.slice l9 i5.length m4)∧k_≠a9∧k_≠d6∧k_≠b6∧k_≠b9)) (Zrv (Kd.V_mono a7.out (fun _ hk=>⟨⟨hk.1,⟨hk.2.1,⟨hk.2.2.2.1,⟨hk.2.2.2.2.1,⟨hk.2.2.2.2.2.1,⟨hk.2.2.2.2.2.2.1,⟨hk.2.2.2.2.2.2.2.1,hk.2.2.2.2.2.2.2.2⟩⟩⟩⟩⟩⟩⟩,hk.2.2.1⟩))) hg hat);replace a5:=Zm (blk_grown (Zb a5) hg (Kd.R_ne a4.out a5.out (by decide)));replace b8:=Zm (blk_grown (Zb b8) hg (Kd.R_ne a4.out b8.out (by decide)));replace a8:=Zm (blk_grown (Zb a8) hg (Kd.R_ne a4.out a8.out (by decide)));replace e6:=Zm (Kd.R_after (ok:=(fun k_=>(w.heap.size≤k_)∧some k_≠(.slice (some o5) d3.length i6:Value).ownBlock∧Zn k_ (.slice l9 i5.length m4))) (Zc e6) hg hat);replace e7:=Zm (Kd.R_after (ok:=(fun k_=>(w.heap.size≤k_)∧some k_≠(.slice (some o5) d3.length i6:Value).ownBlock∧Zn k_ (.slice l6 g8.length l7))) (Zc e7) hg hat);replace c9:=Zm (blk_grown (Zb c9) hg (Kd.R_ne a4.out c9.out (by decide)));replace HB:=Zm (hb);have o2:=Zm (ho);clear a4 ho hb hg hat
       obtain⟨E0,E6,E7⟩:=Kd.V_slice a6.out
       (first|subst E7|(injection E7 with p8 r5 p9;have r6:=p8.symm;have r7:=p9.symm;clear p8 r5 p9;subst r6;subst r7))
       obtain⟨z6,z7,E8⟩:=Kd.V_slice a7.out
       (first|subst E8|(injection E8 with p8 r5 p9;have r6:=p8.symm;have r7:=p9.symm;clear p8 r5 p9;subst r6;subst r7))
       refine hK.out _ _ ⟨Zc0 a8 0,Zc0 a8 1,Zc0 c9 0,Zc0 c9 1,Zc0 a5 0,Zc0 a5 1,s6⟩ (fun hHeld=> ?_)
       clear hK K;refine Yn 39 (h:= ?_);refine Yu 10 43 (fl 13 1535) HT_ (h:= ?_)
       refine one_ (i:=9) (N:=some 42) (fl 13 2047) rfl rfl (one_of HT_.out (by kernel_rfl)) (by decide) (fun K hK=> ?_)
       refine goes_ Try.func35 (by kernel_rfl) rfl #[.agg #[.slice l6 g8.length l7,.slice l9 i5.length m4],.agg #[.slice E0 e9.length E6,.slice z6 d8.length z7]] (by rfl) rfl rfl (by(try simp only[List.map_toArray,List.map_cons,List.map_nil]);first|done|rfl) ?_
       with_reducible refine(impl_thenTurned.calls k2 _ _ g8 _ _ i5 _ _ e9 _ _ d8 l5 l8 _ ?m7 ?m8 ?n9 ?o0 ?E9 ?F0 ?F1 ?F2 V6.out).mono ?_
       (case m7=>exact Zca (Kd.R_reads' e6.out).2.2)
       (case m8=>exact(Kd.R_reads' e6.out).2.1)
       (case n9=>exact Zca (Kd.R_reads' e7.out).2.2)
       (case o0=>exact(Kd.R_reads' e7.out).2.1)
       (case E9=>exact Zca (Kd.V_reads' a6.out).2.2)
       (case F0=>exact(Kd.V_reads' a6.out).2.1)
       (case F1=>exact Zca (Kd.V_reads' a7.out).2.2)
       (case F2=>exact(Kd.V_reads' a7.out).2.1)
       rintro e aG ⟨W8,W9,rfl,o1,q3,hb⟩
       have s6:=(hb.cell (World.block_lt_of_cell? _ _ (hHeld.2.2.2.2.2.2))).trans (hHeld.2.2.2.2.2.2)
       refine⟨_,rfl, ?_⟩
       replace a6:=Zm (Kd.V_mono (Kd.V_told (Kd.V_told (Kd.V_old (Zva a6) hb) (Kd.R_base o1)) (Kd.R_base q3)) (fun _ h_=>h_.1));replace a7:=Zm (Kd.V_mono (Kd.V_told (Kd.V_told (Kd.V_old (Zva a7) hb) (Kd.R_base o1)) (Kd.R_base q3)) (fun _ h_=>h_.1));have p4:=Zj (Zv (Zv (Zv (Zv (Kd.R_newM (M:=fun k_=>(w.heap.size≤k_)) o1 (below_size (Zl HB)) (fun k_ h_=>h_)) d5) e6) e7) o2) HB;have p5:=Zj (Zv (Zv (Zv (Zv (Kd.R_newM (M:=fun k_=>(w.heap.size≤k_)) q3 (below_size (Zl HB)) (fun k_ h_=>h_)) d5) e6) e7) o2) HB;replace d5:=Zu d5 hb o1 q3;replace e6:=Zu e6 hb o1 q3;replace e7:=Zu e7 hb o1 q3;replace o2:=Zu o2 hb o1 q3;replace a5:=Zk a5 hb;replace b8:=Zk b8 hb;replace a8:=Zk a8 hb;replace c9:=Zk c9 hb;replace HB:=Zh HB hb
       obtain⟨n6,n7,F3⟩:=Kd.R_slice o2.out
       (first|subst F3|(injection F3 with p8 r5 p9;have r6:=p8.symm;have r7:=p9.symm;clear p8 r5 p9;subst r6;subst r7))
       obtain⟨n4,n0,F4⟩:=Kd.R_slice p4.out
       (first|subst F4|(injection F4 with p8 r5 p9;have r6:=p8.symm;have r7:=p9.symm;clear p8 r5 p9;subst r6;subst r7))
       obtain⟨n8,n5,F5⟩:=Kd.R_slice p5.out
       (first|subst F5|(injection F5 with p8 r5 p9;have r6:=p8.symm;have r7:=p9.symm;clear p8 r5 p9;subst r6;subst r7))
       refine hK.out _ _ ⟨Zc0 a8 0,Zc0 a8 1,Zc0 c9 0,Zc0 c9 1,Zc0 a5 0,Zc0 a5 1,s6⟩ (fun hHeld=> ?_)
       clear hK K;refine Yn 42 (h:= ?_)
       refine last_ (i:=11) (N:=none) (fl 13 4095) rfl rfl (one_of HT_.out (by kernel_rfl)) (by decide) (fun K hK=> ?_)
       have X0:=Zc0 a8 1;have S5:=blk_frozen a8.out 1;have J8:=i9.out;have J9:=o3.out;have K0:=k3.out;have K1:=i4.out;have K2:=o4.out;have K3:=d7.out
       refine skip_ (w1:= ?_) (by rfl) rfl ?_ ?_
       rotate_left
       ·
        go_simp
        rfl
       refine hK.out _ _ ?_
       clear hK K
       refine last_ (i:=12) (N:=none) (fl 13 8191) rfl rfl (one_of HT_.out (by kernel_rfl)) (by decide) (fun K hK=> ?_)
       have X1:=Zc0 a5 0;have S6:=blk_frozen a5.out 0;have K4:=i3.out;have K5:=i4.out;have K6:=f9.out;have K7:=g9.out;have K8:=i9.out;have K9:=f8.out;have X2:=Zc0 a5 1;have S7:=blk_frozen a5.out 1;have L2:=i3.out;have L3:=i4.out;have L4:=f9.out;have L5:=g9.out;have L6:=i9.out;have L7:=f8.out
       refine skip_ (w1:= ?_) (by rfl) rfl ?_ ?_
       rotate_left
       ·
        go_simp
        rfl
       refine hK.out _ _ ?_
       clear hK K
       refine done_ (done_of HT_.out (by kernel_rfl)) ?_
       have S8:=g9.out;have S9:=i3.out;have T0:=i9.out;have U0:=i4.out;have U1:=f8.out;have U2:=f9.out;obtain⟨L8,L9,M0,M1⟩:=Z2 a5
       try go_wp2_with (first|((with_reducible refine gate_callee (f:=33) rfl ?_);refine Ga (some 26) Try.func33 #[.agg #[.slice n4 l5.length n0,.slice n8 l8.length n5]] (h:= ?_);(with_reducible refine(impl_poleDescents.calls _ _ l5 _ _ l8 C6 _ ?m7 ?m8 ?n9 ?o0 V7.out).mono ?_);(case m7=>refine(Kd.R_reads' (e:=3) (base:=w.heap.size) (ok:=fun k_=>((((((w.heap.size≤k_)∧Zn k_ (.slice n8 l8.length n5))∧some k_≠(.slice (some o5) d3.length i6:Value).ownBlock)∧Zn k_ (.slice l6 g8.length l7))∧Zn k_ (.slice l9 i5.length m4))∧some k_≠(.slice n6 n3.length n7:Value).ownBlock)) (n:=l5.length) (c:=n0) ?_).2.2;exact(Zr ⟨(Kd.R_mono (Kd.R_mono (Kd.R_far (p:=⟨a9,1,none⟩) (Kd.R_far (p:=⟨a9,0,none⟩) (Kd.R_far (p:=⟨b6,1,none⟩) (Kd.R_types (Kd.R_types p4.out a8.out (by decide)) a5.out (by decide)) (fun _ hk=>hk.1.2) (.slice n6 n3.length n7)) (fun _ hk=>hk.2) (.slice n4 l5.length n0)) (fun _ hk=>hk.2) (.slice n8 l8.length n5)) (fun _ h_=>h_.1)) (fun _ h_=>h_.1))⟩));(case m8=>exact(Kd.R_reads' p4.out).2.1);(case n9=>refine(Kd.R_reads' (e:=3) (base:=w.heap.size) (ok:=fun k_=>((((((w.heap.size≤k_)∧Zn k_ (.slice n4 l5.length n0))∧some k_≠(.slice (some o5) d3.length i6:Value).ownBlock)∧Zn k_ (.slice l6 g8.length l7))∧Zn k_ (.slice l9 i5.length m4))∧some k_≠(.slice n6 n3.length n7:Value).ownBlock)) (n:=l8.length) (c:=n5) ?_).2.2;exact(Zr ⟨(Kd.R_mono (Kd.R_mono (Kd.R_far (p:=⟨a9,1,none⟩) (Kd.R_far (p:=⟨a9,0,none⟩) (Kd.R_far (p:=⟨b6,1,none⟩) (Kd.R_types (Kd.R_types p5.out a8.out (by decide)) a5.out (by decide)) (fun _ hk=>hk.1.2) (.slice n6 n3.length n7)) (fun _ hk=>hk.2) (.slice n4 l5.length n0)) (fun _ hk=>hk.2) (.slice n8 l8.length n5)) (fun _ h_=>h_.1)) (fun _ h_=>h_.1))⟩));(case o0=>exact(Kd.R_reads' p5.out).2.1);rintro e aH ⟨X3,rfl,o1,hb⟩;refine⟨_,rfl, ?_⟩;replace a6:=Zm (Kd.V_elder' (Zrv ((Kd.V_mono (Kd.V_mono (Kd.V_far (p:=⟨a9,1,none⟩) (Kd.V_far (p:=⟨a9,0,none⟩) (Kd.V_far (p:=⟨b6,1,none⟩) (Kd.V_mono (Kd.V_mono a6.out (fun k_ hk=>(⟨hk,hk.1.1.1.2.2.2.2.2.2.1⟩: _ ∧k_≠b6))) (fun k_ hk=>(⟨hk,hk.1.1.1.1.2.2.2.2.1⟩: _ ∧k_≠a9))) (fun _ hk=>hk.1.2) (.slice n6 n3.length n7)) (fun _ hk=>hk.2) (.slice n4 l5.length n0)) (fun _ hk=>hk.2) (.slice n8 l8.length n5)) (fun _ h_=>h_.1)) (fun _ h_=>h_.1)))) (Kd.R_base o1) hb);replace a7:=Zm (Kd.V_elder' (Zrv ((Kd.V_mono (Kd.V_mono (Kd.V_far (p:=⟨a9,1,none⟩) (Kd.V_far (p:=⟨a9,0,none⟩) (Kd.V_far (p:=⟨b6,1,none⟩) (Kd.V_mono (Kd.V_mono a7.out (fun k_ hk=>(⟨hk,hk.1.1.1.2.2.2.2.2.2.1⟩: _ ∧k_≠b6))) (fun k_ hk=>(⟨hk,hk.1.1.1.1.2.2.2.2.1⟩: _ ∧k_≠a9))) (fun _ hk=>hk.1.2) (.slice n6 n3.length n7)) (fun _ hk=>hk.2) (.slice n4 l5.length n0)) (fun _ hk=>hk.2) (.slice n8 l8.length n5)) (fun _ h_=>h_.1)) (fun _ h_=>h_.1)))) (Kd.R_base o1) hb);have F6:=Zj (Zv (Zv (Zv (Zv (Zv (Zv (Kd.R_newM (M:=fun k_=>(w.heap.size≤k_)) o1 (below_size (Zl HB)) (fun k_ h_=>h_)) ⟨(Kd.R_mono (Kd.R_mono (Kd.R_far (p:=⟨a9,1,none⟩) (Kd.R_far (p:=⟨a9,0,none⟩) (Kd.R_far (p:=⟨b6,1,none⟩) (Kd.R_types (Kd.R_types d5.out a8.out (by decide)) a5.out (by decide)) (fun _ hk=>hk.1.2) (.slice n6 n3.length n7)) (fun _ hk=>hk.2) (.slice n4 l5.length n0)) (fun _ hk=>hk.2) (.slice n8 l8.length n5)) (fun _ h_=>h_.1)) (fun _ h_=>h_.1))⟩) ⟨(Kd.R_mono (Kd.R_mono (Kd.R_far (p:=⟨a9,1,none⟩) (Kd.R_far (p:=⟨a9,0,none⟩) (Kd.R_far (p:=⟨b6,1,none⟩) (Kd.R_types (Kd.R_types e6.out a8.out (by decide)) a5.out (by decide)) (fun _ hk=>hk.1.2) (.slice n6 n3.length n7)) (fun _ hk=>hk.2) (.slice n4 l5.length n0)) (fun _ hk=>hk.2) (.slice n8 l8.length n5)) (fun _ h_=>h_.1)) (fun _ h_=>h_.1))⟩) ⟨(Kd.R_mono (Kd.R_mono (Kd.R_far (p:=⟨a9,1,none⟩) (Kd.R_far (p:=⟨a9,0,none⟩) (Kd.R_far (p:=⟨b6,1,none⟩) (Kd.R_types (Kd.R_types e7.out a8.out (by decide)) a5.out (by decide)) (fun _ hk=>hk.1.2) (.slice n6 n3.length n7)) (fun _ hk=>hk.2) (.slice n4 l5.length n0)) (fun _ hk=>hk.2) (.slice n8 l8.length n5)) (fun _ h_=>h_.1)) (fun _ h_=>h_.1))⟩) ⟨(Kd.R_mono (Kd.R_mono (Kd.R_far (p:=⟨a9,1,none⟩) (Kd.R_far (p:=⟨a9,0,none⟩) (Kd.R_far (p:=⟨b6,1,none⟩) (Kd.R_types (Kd.R_types o2.out a8.out (by decide)) a5.out (by decide)) (fun _ hk=>hk.1.2) (.slice n6 n3.length n7)) (fun _ hk=>hk.2) (.slice n4 l5.length n0)) (fun _ hk=>hk.2) (.slice n8 l8.length n5)) (fun _ h_=>h_.1)) (fun _ h_=>h_.1))⟩) ⟨(Kd.R_mono (Kd.R_mono (Kd.R_far (p:=⟨a9,1,none⟩) (Kd.R_far (p:=⟨a9,0,none⟩) (Kd.R_far (p:=⟨b6,1,none⟩) (Kd.R_types (Kd.R_types p4.out a8.out (by decide)) a5.out (by decide)) (fun _ hk=>hk.1.2) (.slice n6 n3.length n7)) (fun _ hk=>hk.2) (.slice n4 l5.length n0)) (fun _ hk=>hk.2) (.slice n8 l8.length n5)) (fun _ h_=>h_.1)) (fun _ h_=>h_.1))⟩) ⟨(Kd.R_mono (Kd.R_mono (Kd.R_far (p:=⟨a9,1,none⟩) (Kd.R_far (p:=⟨a9,0,none⟩) (Kd.R_far (p:=⟨b6,1,none⟩) (Kd.R_types (Kd.R_types p5.out a8.out (by decide)) a5.out (by decide)) (fun _ hk=>hk.1.2) (.slice n6 n3.length n7)) (fun _ hk=>hk.2) (.slice n4 l5.length n0)) (fun _ hk=>hk.2) (.slice n8 l8.length n5)) (fun _ h_=>h_.1)) (fun _ h_=>h_.1))⟩) HB;replace d5:=Zm (Kd.R_elder' (Zr ⟨(Kd.R_mono (Kd.R_mono (Kd.R_far (p:=⟨a9,1,none⟩) (Kd.R_far (p:=⟨a9,0,none⟩) (Kd.R_far (p:=⟨b6,1,none⟩) (Kd.R_types (Kd.R_types d5.out a8.out (by decide)) a5.out (by decide)) (fun _ hk=>hk.1.2) (.slice n6 n3.length n7)) (fun _ hk=>hk.2) (.slice n4 l5.length n0)) (fun _ hk=>hk.2) (.slice n8 l8.length n5)) (fun _ h_=>h_.1)) (fun _ h_=>h_.1))⟩) (Kd.R_base o1) hb);replace e6:=Zm (Kd.R_elder' (Zr ⟨(Kd.R_mono (Kd.R_mono (Kd.R_far (p:=⟨a9,1,none⟩) (Kd.R_far (p:=⟨a9,0,none⟩) (Kd.R_far (p:=⟨b6,1,none⟩) (Kd.R_types (Kd.R_types e6.out a8.out (by decide)) a5.out (by decide)) (fun _ hk=>hk.1.2) (.slice n6 n3.length n7)) (fun _ hk=>hk.2) (.slice n4 l5.length n0)) (fun _ hk=>hk.2) (.slice n8 l8.length n5)) (fun _ h_=>h_.1)) (fun _ h_=>h_.1))⟩) (Kd.R_base o1) hb);replace e7:=Zm (Kd.R_elder' (Zr ⟨(Kd.R_mono (Kd.R_mono (Kd.R_far (p:=⟨a9,1,none⟩) (Kd.R_far (p:=⟨a9,0,none⟩) (Kd.R_far (p:=⟨b6,1,none⟩) (Kd.R_types (Kd.R_types e7.out a8.out (by decide)) a5.out (by decide)) (fun _ hk=>hk.1.2) (.slice n6 n3.length n7)) (fun _ hk=>hk.2) (.slice n4 l5.length n0)) (fun _ hk=>hk.2) (.slice n8 l8.length n5)) (fun _ h_=>h_.1)) (fun _ h_=>h_.1))⟩) (Kd.R_base o1) hb);replace o2:=Zm (Kd.R_elder' (Zr ⟨(Kd.R_mono (Kd.R_mono (Kd.R_far (p:=⟨a9,1,none⟩) (Kd.R_far (p:=⟨a9,0,none⟩) (Kd.R_far (p:=⟨b6,1,none⟩) (Kd.R_types (Kd.R_types o2.out a8.out (by decide)) a5.out (by decide)) (fun _ hk=>hk.1.2) (.slice n6 n3.length n7)) (fun _ hk=>hk.2) (.slice n4 l5.length n0)) (fun _ hk=>hk.2) (.slice n8 l8.length n5)) (fun _ h_=>h_.1)) (fun _ h_=>h_.1))⟩) (Kd.R_base o1) hb);replace p4:=Zm (Kd.R_elder' (Zr ⟨(Kd.R_mono (Kd.R_mono (Kd.R_far (p:=⟨a9,1,none⟩) (Kd.R_far (p:=⟨a9,0,none⟩) (Kd.R_far (p:=⟨b6,1,none⟩) (Kd.R_types (Kd.R_types p4.out a8.out (by decide)) a5.out (by decide)) (fun _ hk=>hk.1.2) (.slice n6 n3.length n7)) (fun _ hk=>hk.2) (.slice n4 l5.length n0)) (fun _ hk=>hk.2) (.slice n8 l8.length n5)) (fun _ h_=>h_.1)) (fun _ h_=>h_.1))⟩) (Kd.R_base o1) hb);replace p5:=Zm (Kd.R_elder' (Zr ⟨(Kd.R_mono (Kd.R_mono (Kd.R_far (p:=⟨a9,1,none⟩) (Kd.R_far (p:=⟨a9,0,none⟩) (Kd.R_far (p:=⟨b6,1,none⟩) (Kd.R_types (Kd.R_types p5.out a8.out (by decide)) a5.out (by decide)) (fun _ hk=>hk.1.2) (.slice n6 n3.length n7)) (fun _ hk=>hk.2) (.slice n4 l5.length n0)) (fun _ hk=>hk.2) (.slice n8 l8.length n5)) (fun _ h_=>h_.1)) (fun _ h_=>h_.1))⟩) (Kd.R_base o1) hb);replace a5:=Zm (blk_below (g:=a9) (o:= .cells #[.slice n4 l5.length n0,.slice n8 l8.length n5] 26 (0,0)) (by refine Zrb ?_;refine blk_put (cs:= #[.slice n4 l5.length n0,.slice z6 d8.length z7]) ?_ 1 _ rfl;refine Zrb ?_;refine blk_put (cs:= #[.slice E0 e9.length E6,.slice z6 d8.length z7]) ?_ 0 _ rfl;refine Zrb ?_;refine blk_far ?_ i9.out _;refine Zrb ?_;exact a5.out) hb);replace b8:=Zm (blk_below (g:=d6) (o:= .cells #[.int .i64 0,.slice none 0 0] 29 (0,0)) (Zbf b8) hb);replace a8:=Zm (blk_below (g:=b6) (o:= .cells #[.int .i64 (d4.length:Int),.slice n6 n3.length n7] 29 (0,0)) (by refine Zrb ?_;refine blk_far ?_ i4.out _;refine Zrb ?_;refine blk_far ?_ i4.out _;refine Zrb ?_;refine blk_put (cs:= #[.int .i64 (d4.length:Int),b7]) ?_ 1 _ rfl;refine Zrb ?_;exact a8.out) hb);replace c9:=Zm (blk_below (g:=b9) (o:= .cells #[.slice l6 g8.length l7,.slice l9 i5.length m4] 26 (0,0)) (Zbf c9) hb);replace HB:=Zh HB hb))
       go_roundg k2
       case measure=>have:=O8.out;have:=Q0.out;omega
       case rel=>exact⟨(C6),(l5),(l8),(n3),(.slice n4 l5.length n0),(.slice n8 l8.length n5),(.slice n6 n3.length n7),H',⟨by have:=O8.out;have:=Q0.out;omega⟩,⟨Zc F6⟩,⟨Kd.V_mono (Kd.R_V (Zr ⟨(Kd.R_types (Kd.R_types (Kd.R_types p4.out a5.out (by decide)) b8.out (by decide)) a8.out (by decide))⟩)) (fun k_ hk=>by first|exact⟨.inr (hk.1.1.1.1.1.1.1.1.1),⟨hk.1.1.1.2,⟨hk.1.1.1.1.2,⟨hk.1.1.2,⟨hk.1.2,hk.2⟩⟩⟩⟩⟩|exact .inr ⟨hk.1.1.1.1.1.1.1.1.1,⟨hk.1.1.1.2,⟨hk.1.1.1.1.2,⟨hk.1.1.2,⟨hk.1.2,hk.2⟩⟩⟩⟩⟩)⟩,⟨Kd.V_mono (Kd.R_V (Zr ⟨(Kd.R_types (Kd.R_types (Kd.R_types p5.out a5.out (by decide)) b8.out (by decide)) a8.out (by decide))⟩)) (fun k_ hk=>by first|exact⟨.inr (hk.1.1.1.1.1.1.1.1.1),⟨hk.1.1.1.2,⟨hk.1.1.1.1.2,⟨hk.1.1.2,⟨hk.1.2,hk.2⟩⟩⟩⟩⟩|exact .inr ⟨hk.1.1.1.1.1.1.1.1.1,⟨hk.1.1.1.2,⟨hk.1.1.1.1.2,⟨hk.1.1.2,⟨hk.1.2,hk.2⟩⟩⟩⟩⟩)⟩,⟨Zc o2⟩,⟨Zb a5⟩,⟨Zb b8⟩,⟨Zb a8⟩,⟨Zl HB⟩⟩
      ·
       rw[if_neg z8]at H;have C2:decide (0<(d3.length:Int))=false:=decide_eq_false z8;have C3:decide (0<d3.length)=false:=decide_eq_false (by omega);clear z8
       obtain⟨rfl,rfl,rfl⟩:=Zs3 H;clear H;obtain⟨X4,X5,N9⟩:=Kd.R_slice d5.out;subst N9
       have U3:=i4.out;have U4:=i9.out;have U5:=o4.out;have U6:=o3.out;obtain⟨M2,M3,M4,M5⟩:=Z2 a8;have U7:=i3.out;have U8:=g9.out;obtain⟨M6,M7,M8,M9⟩:=Z2 b8
       obtain⟨F7,F8,O0⟩:=Kd.R_slice a4.out;subst O0
       go_wp2
       refine bodyPost_ret (results_ct rfl _ _ d6 29 #[.int .i64 (d4.length:Int),.slice F7 d9.length F8] (0,0) _ rfl (by refine Zrb ?_;refine blk_put (cs:= #[.int .i64 (d4.length:Int),.slice none 0 0]) ?_ 1 _ rfl;refine Zrb ?_;refine blk_put (cs:= #[.int .i64 0,.slice none 0 0]) ?_ 0 _ rfl;refine Zrb ?_;exact b8.out) Try.underlying29 rfl (by kernel_rfl)) rfl ?_
       exact⟨_,Ze,Zrr (Zfm a4 b8 (.int .i64 (d4.length:Int)) (.slice F7 d9.length F8) (fun _ hk=>hk.1.1)),Zl HB⟩
def spec_l1In.f (a0:Int) (a1:Int) (a2:Int):Option (Bool):=if a0≥a1 then(some (decide (a0≤a2)))else(some false)
set_option maxHeartbeats 8000000 in
set_option maxRecDepth 100000 in
theorem spec_l1In.calls (a0:Int) (a1:Int) (a2:Int) (r:Bool) (w:World) (h:spec_l1In.f a0 a1 a2=some r):
  Calls Try.prog 56 #[.int .i64 a0,.int .i64 a1,.int .i64 a2] w fun e w'=>e= .returned (.bool r)∧Drawn0 w w':=by
 have H:(if a0≥a1 then(some (decide (a0≤a2)))else(some false))=some r:=h;clear h
 by_cases c4:a0≥a1
 ·
  rw[if_pos c4]at H;have a4:decide (a1≤a0)=true:=decide_eq_true c4;clear c4;obtain rfl:=Option.some.inj H
  go_enter Try.func56,Try.ntmps56
  go_wp2
  go_ret
  exact⟨by first|rfl|(simp;done)|(simp[*];done),by repeat(first|exact Drawn0.refl _ |apply Drawn0.step)⟩
 ·
  rw[if_neg c4]at H;have a4:decide (a1≤a0)=false:=decide_eq_false c4;clear c4;obtain rfl:=Option.some.inj H
  go_enter Try.func56,Try.ntmps56
  go_wp2
  go_ret
  exact⟨by first|rfl|(simp;done)|(simp[*];done),by repeat(first|exact Drawn0.refl _ |apply Drawn0.step)⟩
def spec_l1Has.l0:Nat→Int→List Int→Int→Int→Option (Bool)
 |0,_,_,_,_ =>none
 |k+1,x1,x7,x8,x9=>if x9<x8 then(if 0≤x9 then(if x9<(x7.length:Int)then(if(rd x7 x9)=x1 then(some true)else(spec_l1Has.l0 k x1 x7 x8 (wrap64 (x9+1))))else(none))else(none))else(some false)
def spec_l1Has.f (k:Nat) (l0:List Int) (a1:Int):Option (Bool):=spec_l1Has.l0 k a1 l0 (l0.length:Int) 0
set_option maxHeartbeats 8000000 in
set_option maxRecDepth 100000 in
theorem spec_l1Has.calls (k:Nat) (A0:Option Addr) (c0:Nat) (l0:List Int) (a1:Int) (r:Bool) (w:World) (b9:Kd.C (Kd.int .i64) w A0 l0.length l0) (c9:l0.length≤c0) (h:spec_l1Has.f k l0 a1=some r):
  Calls Try.prog 74 #[.slice A0 l0.length c0,.int .i64 a1] w fun e w'=>e= .returned (.bool r)∧Drawn0 w w':=by
 have d3:=Aside0.mk b9;have d7:=Aside0.mk c9;clear b9 c9;have H:(spec_l1Has.l0 k a1 l0 (l0.length:Int) 0)=some r:=h;clear h;have H':=Aside0.mk H;clear H
 go_enter Try.func74,Try.ntmps74
 go_wp2
 go_loopg [9] k (fun kq v9 w'=> ∃(a4:Int),v9= .int .i64 a4∧Aside0 (spec_l1Has.l0 kq a1 l0 (l0.length:Int) a4=some r)∧Aside0 (kq≤k)∧Drawn0 w w')
 case atStart=>exact⟨(0),Zs,H',⟨Nat.le_refl _⟩,by repeat(first|exact Drawn0.refl _ |apply Drawn0.step)⟩
 case round=>
  (clear H');obtain⟨a4,rfl,HA,d4,⟨m1,rfl⟩⟩:=hrel
  cases gk with
  |zero=>exact absurd HA.out (by simp[spec_l1Has.l0])
  |succ k1=>
   have H:=HA.out;clear HA
   simp only[spec_l1Has.l0]at H
   by_cases c3:a4<(l0.length:Int)
   ·
    rw[if_pos c3]at H;have b6:decide (a4<(l0.length:Int))=true:=decide_eq_true c3;clear c3
    replace H:=Zif H;obtain⟨c4,H⟩:=H;have d5:decide (0≤a4)=true:=decide_eq_true c4;clear c4
    replace H:=Zif H;obtain⟨c5,H⟩:=H;have d6:decide (a4<(l0.length:Int))=true:=decide_eq_true c5;clear c5
    by_cases c6:(rd l0 a4)=a1
    ·
     rw[if_pos c6]at H;have b7:((rd l0 a4) == a1)=true:=beq_iff_eq.mpr c6;have b8:((rd l0 a4) != a1)=false:=bne_eq_false_iff_eq.mpr c6;clear c6;obtain rfl:=Option.some.inj H
     have a5:0≤(a4:Int):=Zoa;have a6:a4<(l0.length:Int):=Zoa
     obtain⟨a9,a8,a7⟩:=Kd.at_int d3.out a4 a5 a6
     cases a8
     replace a5:=eq_true a5
     replace a6:=eq_true a6
     go_wp2
     go_ret
     exact⟨by first|rfl|(simp;done)|(simp[*];done),by repeat(first|exact Drawn0.refl _ |apply Drawn0.step)⟩
    ·
     rw[if_neg c6]at H;have b7:((rd l0 a4) == a1)=false:=beq_eq_false_iff_ne.mpr c6;have b8:((rd l0 a4) != a1)=true:=bne_iff_ne.mpr c6;have H':=Aside0.mk H;clear H;have a5:0≤(a4:Int):=Zoa;have a6:a4<(l0.length:Int):=Zoa;obtain⟨a9,a8,a7⟩:=Kd.at_int d3.out a4 a5 a6
     cases a8
     replace a5:=eq_true a5
     replace a6:=eq_true a6
     go_wp2
     go_roundg k1
     case measure=>have:=d4.out;omega
     case rel=>exact⟨(wrap64 (a4+1)),Zs,H',⟨by have:=d4.out;omega⟩,by repeat(first|exact Drawn0.refl _ |apply Drawn0.step)⟩
   ·
    rw[if_neg c3]at H;have b6:decide (a4<(l0.length:Int))=false:=decide_eq_false c3;clear c3;obtain rfl:=Option.some.inj H
    go_wp2
    go_ret
    exact⟨by first|rfl|(simp;done)|(simp[*];done),by repeat(first|exact Drawn0.refl _ |apply Drawn0.step)⟩
def spec_laOrder.l0:Nat→List Int→List Int→Int→Int→Option (Bool)
 |0,_,_,_,_ =>none
 |k+1,x0,x9,a7,a4=>if a4<a7 then(if 0≤a4 then(if a4<(x9.length:Int)then((spec_l1In.f (rd x9 a4) 0 (wrap64 ((x0.length:Int) - 1))).bind fun a5=>(if a5=true then(if a4≤(x0.length:Int)then((spec_l1Has.f k (x0.take (a4:Int).toNat) (rd x9 a4)).bind fun a6=>(if a6=true then(some false)else(spec_laOrder.l0 k x0 x9 a7 (wrap64 (a4+1)))))else(none))else(some false)))else(none))else(none))else(some true)
def spec_laOrder.f (k:Nat) (l0:List Int):Option (Bool):=(spec_l1In.f (l0.length:Int) 1 8).bind fun a4=>(if a4=true then(spec_laOrder.l0 k l0 l0 (l0.length:Int) 0)else(some false))
theorem spec_laOrder.slice_len {P:Program} {f:Nat} {A:Option Addr} {n m c:Nat} {x:Value} {w:World} {Q:Ending→World→Prop} (h:n=m) (H:Calls P f #[.slice A n c,x] w Q):Calls P f #[.slice A m c,x] w Q:=h ▸ H
set_option maxHeartbeats 8000000 in
set_option maxRecDepth 100000 in
theorem spec_laOrder.calls (k:Nat) (A0:Option Addr) (c0:Nat) (l0:List Int) (r:Bool) (w:World) (i4:Kd.C (Kd.int .i64) w A0 l0.length l0) (i5:l0.length≤c0) (h:spec_laOrder.f k l0=some r):
  Calls Try.prog 60 #[.slice A0 l0.length c0] w fun e w'=>e= .returned (.bool r)∧Drawn0 w w':=by
 (have d7:=Aside0.mk i4;have i6:=Aside0.mk i5;clear i4 i5;have H:((spec_l1In.f (l0.length:Int) 1 8).bind fun d6=>(if d6=true then(spec_laOrder.l0 k l0 l0 (l0.length:Int) 0)else(some false)))=some r:=h;clear h);replace H:=Zb0 H;obtain⟨d6,A2,H⟩:=H
 by_cases c3:d6=true
 ·
  subst c3
  rw[if_pos rfl]at H
  have H':=Aside0.mk H;clear H
  go_enter Try.func60,Try.ntmps60
  go_wp2_with (first|((with_reducible refine gate_callee (f:=56) rfl ?_);refine Ga (some 7) Try.func56 #[.int .i64 (l0.length:Int),.int .i64 1,.int .i64 8] (h:= ?_);(with_reducible refine(spec_l1In.calls (l0.length:Int) 1 8 true _ A2.out).mono ?_);rintro e w' ⟨rfl,⟨nd,rfl⟩⟩;refine⟨_,rfl, ?_⟩))
  go_loopg [11] k (fun kq k4 w'=> ∃(a4:Int),k4= .int .i64 a4∧Aside0 (spec_laOrder.l0 kq l0 l0 (l0.length:Int) a4=some r)∧Aside0 (kq≤k)∧Drawn0 w w')
  case atStart=>exact⟨(0),Zs,H',⟨Nat.le_refl _⟩,by repeat(first|exact Drawn0.refl _ |apply Drawn0.step)⟩
  case round=>
   (clear H');obtain⟨a4,rfl,HA,i7,⟨m1,rfl⟩⟩:=hrel
   cases gk with
   |zero=>exact absurd HA.out (by simp[spec_laOrder.l0])
   |succ k1=>
    have H:=HA.out;clear HA
    simp only[spec_laOrder.l0]at H
    by_cases c4:a4<(l0.length:Int)
    ·
     rw[if_pos c4]at H;have f8:=decide_eq_true c4;clear c4
     replace H:=Zit H;obtain⟨k6,H⟩:=H
     replace H:=Zit H;obtain⟨k8,H⟩:=H;replace H:=Zb0 H;obtain⟨f9,A7,H⟩:=H
     by_cases c8:f9=true
     ·
      subst c8
      rw[if_pos rfl]at H
      have k9:=eq_true (of_decide_eq_true (by first|(with_reducible assumption)|assumption):0≤a4)
      replace H:=Zif H;obtain⟨c10,H⟩:=H;have i8:=eq_true c10;have i9:decide (a4≤(l0.length:Int))=true:=decide_eq_true c10;clear c10;replace H:=Zb0 H;obtain⟨g8,k3,H⟩:=H
      by_cases e9:g8=true
      ·
       subst e9
       rw[if_pos rfl]at H
       obtain rfl:=Option.some.inj H
       have a6:0≤(a4:Int):=Zoa;have a5:a4<(l0.length:Int):=Zoa
       obtain⟨a7,a9,a8⟩:=Kd.at_int d7.out a4 a6 a5
       cases a9
       replace a6:=eq_true a6
       replace a5:=eq_true a5
       go_wp2_with (first|((with_reducible refine gate_callee (f:=56) rfl ?_);refine Ga (some 20) Try.func56 #[.int .i64 (rd l0 a4),.int .i64 0,.int .i64 (wrap64 ((l0.length:Int) - 1))] (h:= ?_);(with_reducible refine(spec_l1In.calls (rd l0 a4) 0 (wrap64 ((l0.length:Int) - 1)) true _ A7.out).mono ?_);rintro e w' ⟨rfl,⟨nd,rfl⟩⟩;refine⟨_,rfl, ?_⟩;obtain⟨l3,c9,_,d3,_⟩:=info_parts info3;obtain⟨g9,d8,d9⟩:=print_take_of (P:=Try.prog) (Value.int .i64) 0 24 3 .i64 Try.underlying24 c9 d3 (some a7) c0 l0 a4 (of_decide_eq_true (by first|(with_reducible assumption)|assumption)) (of_decide_eq_true (by first|(with_reducible assumption)|assumption)) i6.out;have b6:=Zm (Kd.C_of_reads (h1:=fun _ =>rfl) (d8 _ (Kd.reads_of_C d7.out)));have b7:=Aside0.mk d9;clear d8 d9 c9 d3)|(go_at_call 74;(with_reducible refine(spec_laOrder.slice_len (n:=(l0.take (a4:Int).toNat).length) ?sideN (spec_l1Has.calls k1 _ _ (l0.take (a4:Int).toNat) (rd l0 a4) true _ ?b8 ?b9 k3.out)).mono ?_);(case sideN=>have hq_:=of_eq_true a5;rw[List.length_take];omega);(case b8=>exact Zca b6.out);(case b9=>exact b7.out);rintro e w' ⟨rfl,⟨nd,rfl⟩⟩))
       go_ret
       exact⟨by first|rfl|(simp;done)|(simp[*];done),by repeat(first|exact Drawn0.refl _ |apply Drawn0.step)⟩
      ·
       replace e9:=Bool.eq_false_iff.mpr e9
       subst e9
       rw[if_neg Bool.false_ne_true]at H
       have H':=Aside0.mk H;clear H;have a6:0≤(a4:Int):=Zoa;have a5:a4<(l0.length:Int):=Zoa;obtain⟨a7,a9,a8⟩:=Kd.at_int d7.out a4 a6 a5
       cases a9
       replace a6:=eq_true a6
       replace a5:=eq_true a5
       go_wp2_with (first|((with_reducible refine gate_callee (f:=56) rfl ?_);refine Ga (some 20) Try.func56 #[.int .i64 (rd l0 a4),.int .i64 0,.int .i64 (wrap64 ((l0.length:Int) - 1))] (h:= ?_);(with_reducible refine(spec_l1In.calls (rd l0 a4) 0 (wrap64 ((l0.length:Int) - 1)) true _ A7.out).mono ?_);rintro e w' ⟨rfl,⟨nd,rfl⟩⟩;refine⟨_,rfl, ?_⟩;obtain⟨l4,d4,_,d5,_⟩:=info_parts info3;obtain⟨i3,e6,e7⟩:=print_take_of (P:=Try.prog) (Value.int .i64) 0 24 3 .i64 Try.underlying24 d4 d5 (some a7) c0 l0 a4 (of_decide_eq_true (by first|(with_reducible assumption)|assumption)) (of_decide_eq_true (by first|(with_reducible assumption)|assumption)) i6.out;have b6:=Zm (Kd.C_of_reads (h1:=fun _ =>rfl) (e6 _ (Kd.reads_of_C d7.out)));have b7:=Aside0.mk e7;clear e6 e7 d4 d5)|(go_at_call 74;(with_reducible refine(spec_laOrder.slice_len (n:=(l0.take (a4:Int).toNat).length) ?sideN (spec_l1Has.calls k1 _ _ (l0.take (a4:Int).toNat) (rd l0 a4) false _ ?b8 ?b9 k3.out)).mono ?_);(case sideN=>have hq_:=of_eq_true a5;rw[List.length_take];omega);(case b8=>exact Zca b6.out);(case b9=>exact b7.out);rintro e w' ⟨rfl,⟨nd,rfl⟩⟩))
       go_roundg k1
       case measure=>have:=i7.out;omega
       case rel=>exact⟨(wrap64 (a4+1)),Zs,H',⟨by have:=i7.out;omega⟩,by repeat(first|exact Drawn0.refl _ |apply Drawn0.step)⟩
     ·
      replace c8:=Bool.eq_false_iff.mpr c8
      subst c8
      rw[if_neg Bool.false_ne_true]at H
      obtain rfl:=Option.some.inj H
      have a6:0≤(a4:Int):=Zoa;have a5:a4<(l0.length:Int):=Zoa
      obtain⟨a7,a9,a8⟩:=Kd.at_int d7.out a4 a6 a5
      cases a9
      replace a6:=eq_true a6
      replace a5:=eq_true a5
      go_wp2_with (first|((with_reducible refine gate_callee (f:=56) rfl ?_);refine Ga (some 20) Try.func56 #[.int .i64 (rd l0 a4),.int .i64 0,.int .i64 (wrap64 ((l0.length:Int) - 1))] (h:= ?_);(with_reducible refine(spec_l1In.calls (rd l0 a4) 0 (wrap64 ((l0.length:Int) - 1)) false _ A7.out).mono ?_);rintro e w' ⟨rfl,⟨nd,rfl⟩⟩;refine⟨_,rfl, ?_⟩))
      go_ret
      exact⟨by first|rfl|(simp;done)|(simp[*];done),by repeat(first|exact Drawn0.refl _ |apply Drawn0.step)⟩
    ·
     rw[if_neg c4]at H;have f8:=decide_eq_false c4;clear c4;obtain rfl:=Option.some.inj H
     go_wp2
     go_ret
     exact⟨by first|rfl|(simp;done)|(simp[*];done),by repeat(first|exact Drawn0.refl _ |apply Drawn0.step)⟩
 ·
  replace c3:=Bool.eq_false_iff.mpr c3
  subst c3
  rw[if_neg Bool.false_ne_true]at H
  obtain rfl:=Option.some.inj H
  go_enter Try.func60,Try.ntmps60
  go_wp2_with (first|((with_reducible refine gate_callee (f:=56) rfl ?_);refine Ga (some 7) Try.func56 #[.int .i64 (l0.length:Int),.int .i64 1,.int .i64 8] (h:= ?_);(with_reducible refine(spec_l1In.calls (l0.length:Int) 1 8 false _ A2.out).mono ?_);rintro e w' ⟨rfl,⟨nd,rfl⟩⟩;refine⟨_,rfl, ?_⟩))
  go_ret
  exact⟨by first|rfl|(simp;done)|(simp[*];done),by repeat(first|exact Drawn0.refl _ |apply Drawn0.step)⟩
def spec_l1All.l0:Nat→Int→Int→List Int→Int→Int→Option (Bool)
 |0,_,_,_,_,_ =>none
 |k+1,x1,x2,x9,a6,a4=>if a4<a6 then(if 0≤a4 then(if a4<(x9.length:Int)then((spec_l1In.f (rd x9 a4) x1 x2).bind fun a5=>(if a5=true then(spec_l1All.l0 k x1 x2 x9 a6 (wrap64 (a4+1)))else(some false)))else(none))else(none))else(some true)
def spec_l1All.f (k:Nat) (l0:List Int) (a1:Int) (a2:Int):Option (Bool):=spec_l1All.l0 k a1 a2 l0 (l0.length:Int) 0
set_option maxHeartbeats 8000000 in
set_option maxRecDepth 100000 in
theorem spec_l1All.calls (k:Nat) (A0:Option Addr) (c0:Nat) (l0:List Int) (a1:Int) (a2:Int) (r:Bool) (w:World) (b8:Kd.C (Kd.int .i64) w A0 l0.length l0) (b9:l0.length≤c0) (h:spec_l1All.f k l0 a1 a2=some r):
  Calls Try.prog 61 #[.slice A0 l0.length c0,.int .i64 a1,.int .i64 a2] w fun e w'=>e= .returned (.bool r)∧Drawn0 w w':=by
 have c9:=Aside0.mk b8;have d7:=Aside0.mk b9;clear b8 b9;have H:(spec_l1All.l0 k a1 a2 l0 (l0.length:Int) 0)=some r:=h;clear h;have H':=Aside0.mk H;clear H
 go_enter Try.func61,Try.ntmps61
 go_wp2
 go_loopg [11] k (fun kq d4 w'=> ∃(a4:Int),d4= .int .i64 a4∧Aside0 (spec_l1All.l0 kq a1 a2 l0 (l0.length:Int) a4=some r)∧Aside0 (kq≤k)∧Drawn0 w w')
 case atStart=>exact⟨(0),Zs,H',⟨Nat.le_refl _⟩,by repeat(first|exact Drawn0.refl _ |apply Drawn0.step)⟩
 case round=>
  (clear H');obtain⟨a4,rfl,HA,d3,⟨m1,rfl⟩⟩:=hrel
  cases gk with
  |zero=>exact absurd HA.out (by simp[spec_l1All.l0])
  |succ k1=>
   have H:=HA.out;clear HA
   simp only[spec_l1All.l0]at H
   by_cases c4:a4<(l0.length:Int)
   ·
    rw[if_pos c4]at H;have b6:=decide_eq_true c4;clear c4
    replace H:=Zit H;obtain⟨d5,H⟩:=H
    replace H:=Zit H;obtain⟨d6,H⟩:=H;replace H:=Zb0 H;obtain⟨b7,A7,H⟩:=H
    by_cases c8:b7=true
    ·
     subst c8
     rw[if_pos rfl]at H
     have H':=Aside0.mk H;clear H;have a5:0≤(a4:Int):=Zoa;have a6:a4<(l0.length:Int):=Zoa;obtain⟨a9,a8,a7⟩:=Kd.at_int c9.out a4 a5 a6
     cases a8
     replace a5:=eq_true a5
     replace a6:=eq_true a6
     go_wp2_with (first|((with_reducible refine gate_callee (f:=56) rfl ?_);refine Ga (some 18) Try.func56 #[.int .i64 (rd l0 a4),.int .i64 a1,.int .i64 a2] (h:= ?_);(with_reducible refine(spec_l1In.calls (rd l0 a4) a1 a2 true _ A7.out).mono ?_);rintro e w' ⟨rfl,⟨nd,rfl⟩⟩;refine⟨_,rfl, ?_⟩))
     go_roundg k1
     case measure=>have:=d3.out;omega
     case rel=>exact⟨(wrap64 (a4+1)),Zs,H',⟨by have:=d3.out;omega⟩,by repeat(first|exact Drawn0.refl _ |apply Drawn0.step)⟩
    ·
     replace c8:=Bool.eq_false_iff.mpr c8
     subst c8
     rw[if_neg Bool.false_ne_true]at H
     obtain rfl:=Option.some.inj H
     have a5:0≤(a4:Int):=Zoa;have a6:a4<(l0.length:Int):=Zoa
     obtain⟨a9,a8,a7⟩:=Kd.at_int c9.out a4 a5 a6
     cases a8
     replace a5:=eq_true a5
     replace a6:=eq_true a6
     go_wp2_with (first|((with_reducible refine gate_callee (f:=56) rfl ?_);refine Ga (some 18) Try.func56 #[.int .i64 (rd l0 a4),.int .i64 a1,.int .i64 a2] (h:= ?_);(with_reducible refine(spec_l1In.calls (rd l0 a4) a1 a2 false _ A7.out).mono ?_);rintro e w' ⟨rfl,⟨nd,rfl⟩⟩;refine⟨_,rfl, ?_⟩))
     go_ret
     exact⟨by first|rfl|(simp;done)|(simp[*];done),by repeat(first|exact Drawn0.refl _ |apply Drawn0.step)⟩
   ·
    rw[if_neg c4]at H;have b6:=decide_eq_false c4;clear c4;obtain rfl:=Option.some.inj H
    go_wp2
    go_ret
    exact⟨by first|rfl|(simp;done)|(simp[*];done),by repeat(first|exact Drawn0.refl _ |apply Drawn0.step)⟩
mutual
def spec_poTurned.j0:Nat→Bool→List Int→List Int→Option (Bool)
 |0,_,_,_ =>none
 |k+1,a9,a6,a4=>if a9=true then(some false)else(spec_poTurned.l0 k 0 a4 (a4.length:Int) 0)
def spec_poTurned.l0:Nat→Int→List Int→Int→Int→Option (Bool)
 |0,_,_,_,_ =>none
 |k+1,x3,a7,a8,a5=>if a5<a8 then(if 0≤a5 then(if a5<(a7.length:Int)then(spec_poTurned.l0 k (wrap64 (x3+(rd a7 a5))) a7 a8 (wrap64 (a5+1)))else(none))else(none))else(some (x3 == 0))
end
def spec_poTurned.f (k:Nat) (a4:List Int) (a5:List Int):Option (Bool):=(spec_laOrder.f k a4).bind fun a6=>(if a6=true then(if(a4.length:Int)<3 then(spec_poTurned.j0 k true a4 a5)else(if(a5.length:Int)=(a4.length:Int)then((spec_l1All.f k a5 (-20) 20).bind fun a7=>(spec_poTurned.j0 k (!a7) a4 a5))else(spec_poTurned.j0 k true a4 a5)))else(spec_poTurned.j0 k true a4 a5))
set_option maxHeartbeats 8000000 in
set_option maxRecDepth 100000 in
theorem spec_poTurned.calls (k:Nat) (b6:Option Addr) (b7:Nat) (a4:List Int) (d4:Option Addr) (d5:Nat) (a5:List Int) (r:Bool) (w:World) (d9:Kd.C (Kd.int .i64) w b6 a4.length a4) (e6:a4.length≤b7) (e7:Kd.C (Kd.int .i64) w d4 a5.length a5) (e9:a5.length≤d5) (h:spec_poTurned.f k a4 a5=some r):
  Calls Try.prog 36 #[.agg #[.slice b6 a4.length b7,.slice d4 a5.length d5]] w fun e w'=>e= .returned (.bool r)∧Below w.heap.size w w':=by
 have o6:=Try.underlying26;have b9:=Aside0.mk d9;have c9:=Aside0.mk e6;clear d9 e6;have f8:=Aside0.mk e7;have i5:=Aside0.mk e9;clear e7 e9;have HB:=Zm (Below.refl w.heap.size w);have H:((spec_laOrder.f k a4).bind fun g8=>(if g8=true then(if(a4.length:Int)<3 then(spec_poTurned.j0 k true a4 a5)else(if(a5.length:Int)=(a4.length:Int)then((spec_l1All.f k a5 (-20) 20).bind fun d7=>(spec_poTurned.j0 k (!d7) a4 a5))else(spec_poTurned.j0 k true a4 a5)))else(spec_poTurned.j0 k true a4 a5)))=some r:=h;clear h;have m6:=Aside0.mk H;clear H
 go_enter Try.func36,Try.ntmps36
 go_upto_region 1 with(first|((with_reducible refine gate_dst (N:=1) rfl ?_);(try(refine gate_guard (by rfl) ?_;dsimp only));refine Zbe 1 #[.slice b6 a4.length b7,.slice d4 a5.length d5] 26 ?_;intro f9 hg w3 hbox hb;have a6:=Zm (hbox);have n8:=Zx hg HB;have n9:=Zx hg HB;replace HB:=Zh HB hb;clear hb hbox hg))
 (try simp only[Act.put,List.setIfInBounds_toArray,List.set_cons_zero,List.set_cons_succ])
 go_cut [30] (fun o7 wc=> ∃(kq:Nat) (d3:Bool),o7= .bool d3∧Aside0 (spec_poTurned.j0 kq d3 a4 a5=some r)∧Aside0 (kq≤k)∧Aside0 (wc.heap[f9]? =some (.cells #[(.slice b6 a4.length b7),(.slice d4 a5.length d5)] 26 (0,0)))∧Aside0 (Below w.heap.size w wc))
 case first=>
  have H:=m6.out;clear m6;replace H:=Zb0 H;obtain⟨g8,A4,H⟩:=H
  by_cases c5:g8=true
  ·
   subst c5
   rw[if_pos rfl]at H
   by_cases c6:(a4.length:Int)<3
   ·
    rw[if_pos c6]at H;have d6:decide ((a4.length:Int)<3)=true:=decide_eq_true c6;have m7:decide (a4.length<3)=true:=decide_eq_true (by omega);clear c6
    (first|rw[d6]|(simp only[i64_w,i32_w];rw[d6])|skip)
    have H':=Aside0.mk H;clear H;obtain⟨m8,m9,n0,n3⟩:=Z2 a6
    go_wp2_with (first|((with_reducible refine gate_callee (f:=60) rfl ?_);refine Ga (some 8) Try.func60 #[.slice b6 a4.length b7] (h:= ?_);(with_reducible refine(spec_laOrder.calls k _ _ a4 true _ ?a7 ?a8 A4.out).mono ?_);(case a7=>exact Zca (Kd.C_below b9.out HB.out));(case a8=>exact c9.out);rintro e w' ⟨rfl,⟨nd,rfl⟩⟩;refine⟨_,rfl, ?_⟩))
    go_meet
    case rel=>exact⟨_,(true),Zs,H',⟨by first|omega|exact Nat.le_refl _⟩,⟨Zb a6⟩,⟨Zl HB⟩⟩
   ·
    rw[if_neg c6]at H;have d6:decide ((a4.length:Int)<3)=false:=decide_eq_false c6;have m7:decide (a4.length<3)=false:=decide_eq_false (by omega);clear c6
    (first|rw[d6]|(simp only[i64_w,i32_w];rw[d6])|skip)
    by_cases c8:(a5.length:Int)=(a4.length:Int)
    ·
     rw[if_pos c8]at H;have n4:((a5.length:Int) == (a4.length:Int))=true:=beq_iff_eq.mpr c8;have n5:((a5.length:Int) != (a4.length:Int))=false:=bne_eq_false_iff_eq.mpr c8;(have n6:(a5.length == a4.length)=true:=by first|simpa using c8|(simp at c8 ⊢;omega));clear c8;replace H:=Zb0 H;obtain⟨d7,A9,H⟩:=H;have H':=Aside0.mk H;clear H;obtain⟨i7,i8,i9,k3⟩:=Z2 a6
     go_wp2_with (first|((with_reducible refine gate_callee (f:=60) rfl ?_);refine Ga (some 8) Try.func60 #[.slice b6 a4.length b7] (h:= ?_);(with_reducible refine(spec_laOrder.calls k _ _ a4 true _ ?a7 ?a8 A4.out).mono ?_);(case a7=>exact Zca (Kd.C_below b9.out HB.out));(case a8=>exact c9.out);rintro e w' ⟨rfl,⟨nd,rfl⟩⟩;refine⟨_,rfl, ?_⟩)|(go_at_call 61;(with_reducible refine(spec_l1All.calls k _ _ a5 (-20) 20 d7 _ ?a7 ?a8 A9.out).mono ?_);(case a7=>exact Zca (Kd.C_below f8.out (Zl HB)));(case a8=>exact i5.out);rintro e w' ⟨rfl,⟨nd,rfl⟩⟩))
     go_meet
     case rel=>exact⟨_,(!d7),Zs,H',⟨by first|omega|exact Nat.le_refl _⟩,⟨Zb a6⟩,⟨Zl HB⟩⟩
    ·
     rw[if_neg c8]at H;have n4:((a5.length:Int) == (a4.length:Int))=false:=beq_eq_false_iff_ne.mpr c8;have n5:((a5.length:Int) != (a4.length:Int))=true:=bne_iff_ne.mpr c8;(have n6:(a5.length == a4.length)=false:=by first|simpa using c8|(simp at c8 ⊢;omega))
     have H':=Aside0.mk H;clear H;obtain⟨k4,k6,k8,k9⟩:=Z2 a6
     go_wp2_with (first|((with_reducible refine gate_callee (f:=60) rfl ?_);refine Ga (some 8) Try.func60 #[.slice b6 a4.length b7] (h:= ?_);(with_reducible refine(spec_laOrder.calls k _ _ a4 true _ ?a7 ?a8 A4.out).mono ?_);(case a7=>exact Zca (Kd.C_below b9.out HB.out));(case a8=>exact c9.out);rintro e w' ⟨rfl,⟨nd,rfl⟩⟩;refine⟨_,rfl, ?_⟩))
     go_meet
     case rel=>exact⟨_,(true),Zs,H',⟨by first|omega|exact Nat.le_refl _⟩,⟨Zb a6⟩,⟨Zl HB⟩⟩
  ·
   replace c5:=Bool.eq_false_iff.mpr c5
   subst c5
   rw[if_neg Bool.false_ne_true]at H
   have H':=Aside0.mk H;clear H;obtain⟨l3,l4,l5,l6⟩:=Z2 a6
   go_wp2_with (first|((with_reducible refine gate_callee (f:=60) rfl ?_);refine Ga (some 8) Try.func60 #[.slice b6 a4.length b7] (h:= ?_);(with_reducible refine(spec_laOrder.calls k _ _ a4 false _ ?a7 ?a8 A4.out).mono ?_);(case a7=>exact Zca (Kd.C_below b9.out HB.out));(case a8=>exact c9.out);rintro e w' ⟨rfl,⟨nd,rfl⟩⟩;refine⟨_,rfl, ?_⟩))
   go_meet
   case rel=>exact⟨_,(true),Zs,H',⟨by first|omega|exact Nat.le_refl _⟩,⟨Zb a6⟩,⟨Zl HB⟩⟩
 case rest=>
  (clear m6);obtain⟨kq,d3,rfl,HA,o0,a6,HB⟩:=hcut
  cases kq with
  |zero=>exact absurd HA.out (by simp[spec_poTurned.j0])
  |succ o1=>
   have H:=HA.out;clear HA
   simp only[spec_poTurned.j0]at H
   by_cases l7:d3=true
   ·
    subst l7
    rw[if_pos rfl]at H
    obtain rfl:=Option.some.inj H
    go_wp2
    go_ret
    exact⟨Ze,Zl HB⟩
   ·
    replace l7:=Bool.eq_false_iff.mpr l7
    subst l7
    rw[if_neg Bool.false_ne_true]at H
    have H':=Aside0.mk H;clear H;obtain⟨l8,l9,m4,m5⟩:=Z2 a6
    go_wp2
    go_loopg [3,34] o1 (fun kq v3 o8 w'=> ∃(d8:Int) (a9:Int),v3= .int .i64 d8∧o8= .int .i64 a9∧Aside0 (spec_poTurned.l0 kq d8 a5 (a5.length:Int) a9=some r)∧Aside0 (kq≤o1)∧Aside0 (w'.heap[f9]? =some (.cells #[(.slice b6 a4.length b7),(.slice d4 a5.length d5)] 26 (0,0)))∧Aside0 (Below w.heap.size w w'))
    case atStart=>exact⟨(0),(0),Zs,Zs,H',⟨Nat.le_refl _⟩,⟨Zb a6⟩,⟨Zl HB⟩⟩
    case round=>
     (clear H');obtain⟨d8,a9,rfl,rfl,HA,o2,a6,HB⟩:=hrel
     cases gk with
     |zero=>exact absurd HA.out (by simp[spec_poTurned.l0])
     |succ k2=>
      have H:=HA.out;clear HA
      simp only[spec_poTurned.l0]at H
      by_cases i4:a9<(a5.length:Int)
      ·
       rw[if_pos i4]at H;have i6:=decide_eq_true i4;clear i4
       replace H:=Zit H;obtain⟨o3,H⟩:=H
       replace H:=Zit H;obtain⟨o4,H⟩:=H;have H':=Aside0.mk H;clear H;have g9:0≤(a9:Int):=Zoa;have i3:a9<(a5.length:Int):=Zoa;obtain⟨o5,n7,b8⟩:=Kd.at_int f8.out a9 g9 i3
       cases n7
       replace b8:=(HB.out.cell (World.block_lt_of_cell? w _ b8)).trans b8
       replace g9:=eq_true g9
       replace i3:=eq_true i3
       go_wp2
       go_roundg k2
       case measure=>have:=o0.out;have:=o2.out;omega
       case rel=>exact⟨(wrap64 (d8+(rd a5 a9))),(wrap64 (a9+1)),Zs,Zs,H',⟨by have:=o0.out;have:=o2.out;omega⟩,⟨Zb a6⟩,⟨Zl HB⟩⟩
      ·
       rw[if_neg i4]at H;have i6:=decide_eq_false i4;clear i4;obtain rfl:=Option.some.inj H
       go_wp2
       go_ret
       exact⟨Ze,Zl HB⟩
def spec_poPlace.f (a4:List Int) (a5:List Int) (a1:Int):Option (Int):=if(a4.length:Int)=0 then(none)else(if 0≤(Int.tmod (wrap64 ((Int.tmod a1 (a4.length:Int))+(a4.length:Int))) (a4.length:Int))then(if(Int.tmod (wrap64 ((Int.tmod a1 (a4.length:Int))+(a4.length:Int))) (a4.length:Int))<(a4.length:Int)then(if(Int.tmod (wrap64 ((Int.tmod a1 (a4.length:Int))+(a4.length:Int))) (a4.length:Int))<(a5.length:Int)then(some (wrap64 ((wrap64 ((wrap64 ((rd a4 (Int.tmod (wrap64 ((Int.tmod a1 (a4.length:Int))+(a4.length:Int))) (a4.length:Int)))+(wrap64 ((a4.length:Int)*(rd a5 (Int.tmod (wrap64 ((Int.tmod a1 (a4.length:Int))+(a4.length:Int))) (a4.length:Int)))))))+a1)) - (Int.tmod (wrap64 ((Int.tmod a1 (a4.length:Int))+(a4.length:Int))) (a4.length:Int)))))else(none))else(none))else(none))
set_option maxHeartbeats 8000000 in
set_option maxRecDepth 100000 in
theorem spec_poPlace.calls (b9:Option Addr) (c9:Nat) (a4:List Int) (d3:Option Addr) (d4:Nat) (a5:List Int) (a1:Int) (r:Int) (w:World) (a9:Kd.C (Kd.int .i64) w b9 a4.length a4) (b6:a4.length≤c9) (b7:Kd.C (Kd.int .i64) w d3 a5.length a5) (b8:a5.length≤d4) (h:spec_poPlace.f a4 a5 a1=some r):
  Calls Try.prog 57 #[.agg #[.slice b9 a4.length c9,.slice d3 a5.length d4],.int .i64 a1] w fun e w'=>e= .returned (.int .i64 r)∧Below w.heap.size w w':=by
 have k6:=Try.underlying26;have e6:=Aside0.mk a9;have i5:=Aside0.mk b6;clear a9 b6;have e7:=Aside0.mk b7;have i6:=Aside0.mk b8;clear b7 b8;have HB:=Zm (Below.refl w.heap.size w);have H:(if(a4.length:Int)=0 then(none)else(if 0≤(Int.tmod (wrap64 ((Int.tmod a1 (a4.length:Int))+(a4.length:Int))) (a4.length:Int))then(if(Int.tmod (wrap64 ((Int.tmod a1 (a4.length:Int))+(a4.length:Int))) (a4.length:Int))<(a4.length:Int)then(if(Int.tmod (wrap64 ((Int.tmod a1 (a4.length:Int))+(a4.length:Int))) (a4.length:Int))<(a5.length:Int)then(some (wrap64 ((wrap64 ((wrap64 ((rd a4 (Int.tmod (wrap64 ((Int.tmod a1 (a4.length:Int))+(a4.length:Int))) (a4.length:Int)))+(wrap64 ((a4.length:Int)*(rd a5 (Int.tmod (wrap64 ((Int.tmod a1 (a4.length:Int))+(a4.length:Int))) (a4.length:Int)))))))+a1)) - (Int.tmod (wrap64 ((Int.tmod a1 (a4.length:Int))+(a4.length:Int))) (a4.length:Int)))))else(none))else(none))else(none)))=some r:=h;clear h
 replace H:=Zie H;obtain⟨c3,H⟩:=H;have k8:((a4.length:Int) == 0)=false:=beq_eq_false_iff_ne.mpr c3;have k9:((a4.length:Int) != 0)=true:=bne_iff_ne.mpr c3;(have l3: ¬(a4= []):=fun h_=>c3 (by rw[h_];rfl));obtain⟨a8,d5⟩: ∃j_:Int,(Int.tmod (wrap64 ((Int.tmod a1 (a4.length:Int))+(a4.length:Int))) (a4.length:Int))=j_:=⟨_,rfl⟩;(replace H:(if 0≤(a8)then(if(a8)<(a4.length:Int)then(if(a8)<(a5.length:Int)then(some (wrap64 ((wrap64 ((wrap64 ((rd a4 (a8))+(wrap64 ((a4.length:Int)*(rd a5 (a8))))))+a1)) - (a8))))else(none))else(none))else(none))=some r:=by first|(rw[d5]at H;exact H)|(simp only[d5]at H ⊢;exact H))
 by_cases c5:0≤(a8)
 ·
  rw[if_pos c5]at H;have l4:=decide_eq_true c5;clear c5
  replace H:=Zit H;obtain⟨l5,H⟩:=H
  replace H:=Zit H;obtain⟨l6,H⟩:=H;obtain rfl:=Option.some.inj H
  go_enter Try.func57,Try.ntmps57
  go_wp2_with (first|((with_reducible refine gate_dst (N:=2) rfl ?_);refine Zbe 2 #[.slice b9 a4.length c9,.slice d3 a5.length d4] 26 ?_;intro i7 hg w8 hbox hb;have e9:=Zm (hbox);have i8:=Zx hg HB;have i9:=Zx hg HB;replace HB:=Zh HB hb;clear hb hbox hg;obtain⟨f8,f9,g8,g9⟩:=Z2 e9;have d6:0≤((a8):Int):=Zoa;have d7:(a8)<(a4.length:Int):=Zoa;obtain⟨k3,i3,a6⟩:=Kd.at_int e6.out (a8) d6 d7;cases i3;replace a6:=(HB.out.cell (World.block_lt_of_cell? w _ a6)).trans a6;replace d6:=eq_true d6;replace d7:=eq_true d7;have d8:0≤((a8):Int):=Zoa;have d9:(a8)<(a5.length:Int):=Zoa;obtain⟨k4,i4,a7⟩:=Kd.at_int e7.out (a8) d8 d9;cases i4;replace a7:=(HB.out.cell (World.block_lt_of_cell? w _ a7)).trans a7;replace d8:=eq_true d8;replace d9:=eq_true d9))
  repeat(go_quiet (fail);try go_wp2)
  go_ret
  exact⟨by first|rfl|(simp[errW_none,errW_some]<;>rfl)|(simp only[←d5];first|rfl|(simp[errW_none,errW_some]<;>rfl))|(simp[*,errW_none,errW_some]<;>rfl),Zl HB⟩
 ·
  rw[if_neg c5]at H
  exact absurd H (by simp)
mutual
def spec_poInversions.l0:Nat→Int→Int→Int→List Int→List Int→Option (Int)
 |0,_,_,_,_,_ =>none
 |k+1,x3,x4,x5,a4,a5=>if x5<x3 then(spec_poInversions.l1 k x3 x4 x5 (wrap64 (x5+1)) a4 a5)else(some x4)
def spec_poInversions.l1:Nat→Int→Int→Int→Int→List Int→List Int→Option (Int)
 |0,_,_,_,_,_,_ =>none
 |k+1,x3,x4,x5,x6,a4,a5=>if x6≤(wrap64 (x5+(wrap64 (x3*43))))then((spec_poPlace.f a4 a5 x6).bind fun a6=>((spec_poPlace.f a4 a5 x5).bind fun a7=>(if a6<a7 then(spec_poInversions.l1 k x3 (wrap64 (x4+1)) x5 (wrap64 (x6+1)) a4 a5)else(spec_poInversions.l1 k x3 x4 x5 (wrap64 (x6+1)) a4 a5))))else(spec_poInversions.l0 k x3 x4 (wrap64 (x5+1)) a4 a5)
end
def spec_poInversions.f (k:Nat) (a4:List Int) (a5:List Int):Option (Int):=spec_poInversions.l0 k (a4.length:Int) 0 0 a4 a5
set_option maxHeartbeats 8000000 in
set_option maxRecDepth 100000 in
theorem spec_poInversions.calls (k:Nat) (a8:Option Addr) (a9:Nat) (a5:List Int) (b6:Option Addr) (b7:Nat) (a6:List Int) (r:Int) (w:World) (e9:Kd.C (Kd.int .i64) w a8 a5.length a5) (f8:a5.length≤a9) (f9:Kd.C (Kd.int .i64) w b6 a6.length a6) (g8:a6.length≤b7) (h:spec_poInversions.f k a5 a6=some r):
  Calls Try.prog 37 #[.agg #[.slice a8 a5.length a9,.slice b6 a6.length b7]] w fun e w'=>e= .returned (.int .i64 r)∧Below w.heap.size w w':=by
 have l3:=Try.underlying26;have d6:=Aside0.mk e9;have d7:=Aside0.mk f8;clear e9 f8;have d8:=Aside0.mk f9;have d9:=Aside0.mk g8;clear f9 g8;have HB:=Zm (Below.refl w.heap.size w);have H:(spec_poInversions.l0 k (a5.length:Int) 0 0 a5 a6)=some r:=h;clear h;have H':=Aside0.mk H;clear H
 go_enter Try.func37,Try.ntmps37
 go_wp2_with (first|((with_reducible refine gate_dst (N:=1) rfl ?_);refine Zbe 1 #[.slice a8 a5.length a9,.slice b6 a6.length b7] 26 ?_;intro d5 hg w2 hbox hb;have a4:=Zm (hbox);have k8:=Zx hg HB;have k9:=Zx hg HB;replace HB:=Zh HB hb;clear hb hbox hg;obtain⟨i6,i7,i8,i9⟩:=Z2 a4))
 go_loopg [4,5] k (fun kq v4 v5 w'=> ∃(e7:Int) (a7:Int),v4= .int .i64 e7∧v5= .int .i64 a7∧Aside0 (spec_poInversions.l0 kq (a5.length:Int) e7 a7 a5 a6=some r)∧Aside0 (kq≤k)∧Aside0 (w'.heap[d5]? =some (.cells #[(.slice a8 a5.length a9),(.slice b6 a6.length b7)] 26 (0,0)))∧Aside0 (Below w.heap.size w w'))
 case atStart=>exact⟨(0),(0),Zs,Zs,H',⟨Nat.le_refl _⟩,⟨Zb a4⟩,⟨Zl HB⟩⟩
 case round=>
  (clear H');obtain⟨e7,a7,rfl,rfl,HA,i4,a4,HB⟩:=hrel
  cases gk with
  |zero=>exact absurd HA.out (by simp[spec_poInversions.l0])
  |succ k1=>
   have H:=HA.out;clear HA
   simp only[spec_poInversions.l0]at H
   by_cases c4:a7<(a5.length:Int)
   ·
    rw[if_pos c4]at H;have k3:=decide_eq_true c4;clear c4;have H':=Aside0.mk H;clear H
    go_wp2
    go_loopg [4,6] k1 (fun kq v4 v6 w'=> ∃(e6:Int) (d4:Int),v4= .int .i64 e6∧v6= .int .i64 d4∧Aside0 (spec_poInversions.l1 kq (a5.length:Int) e6 a7 d4 a5 a6=some r)∧Aside0 (kq≤k1)∧Aside0 (w'.heap[d5]? =some (.cells #[(.slice a8 a5.length a9),(.slice b6 a6.length b7)] 26 (0,0)))∧Aside0 (Below w.heap.size w w'))
    case atStart=>exact⟨(e7),(wrap64 (a7+1)),Zs,Zs,H',⟨Nat.le_refl _⟩,⟨Zb a4⟩,⟨Zl HB⟩⟩
    case round=>
     (clear H');obtain⟨e6,d4,rfl,rfl,HA,i5,a4,HB⟩:=hrel
     cases gk with
     |zero=>exact absurd HA.out (by simp[spec_poInversions.l1])
     |succ k2=>
      have H:=HA.out;clear HA
      simp only[spec_poInversions.l1]at H
      by_cases c5:d4≤(wrap64 (a7+(wrap64 ((a5.length:Int)*43))))
      ·
       rw[if_pos c5]at H;have k4:=decide_eq_true c5;clear c5;replace H:=Zb0 H;obtain⟨g9,A6,H⟩:=H;replace H:=Zb0 H;obtain⟨i3,A7,H⟩:=H
       by_cases c8:g9<i3
       ·
        rw[if_pos c8]at H;have k6:=decide_eq_true c8;clear c8;have H':=Aside0.mk H;clear H
        try go_wp2
        replace a4:=Zm (blk_drew a4.out);replace HB:=Zm (below_drew1 HB.out)
        refine start_ (n:=7) (S:=fun w'=>w'.cell? ⟨d5,0,none⟩=some (.slice a8 a5.length a9)∧w'.cell? ⟨d5,1,none⟩=some (.slice b6 a6.length b7)) (ds:= []) (fl 7 0) (by kernel_rfl) rfl rfl ⟨Zc0 a4 0,Zc0 a4 1⟩ (fun hHeld=> ?_)
        generalize wr.drew=w9 at a4 HB hHeld ⊢
        refine pure_ (i:=1) (N:=some 26) (v:= ?_) (a':= ?_) (fl 7 2) rfl rfl (by kernel_rfl) (fun _ _ _ h=>h) (Or.inl ⟨by rfl, ?_⟩) ?_ ?_
        rotate_left
        ·
         intro w'
         go_simp
         with_reducible rfl
        rotate_left
        ·
         simp only[Act.put,List.setIfInBounds_toArray,List.set_cons_zero,List.set_cons_succ,i64_w,i32_w]
         rfl
        refine pure_ (i:=4) (N:=some 29) (v:= ?_) (a':= ?_) (fl 7 18) rfl rfl (by kernel_rfl) (fun _ _ _ h=>h) (Or.inl ⟨by rfl, ?_⟩) ?_ ?_
        rotate_left
        ·
         intro w'
         go_simp
         with_reducible rfl
        rotate_left
        ·
         simp only[Act.put,List.setIfInBounds_toArray,List.set_cons_zero,List.set_cons_succ,i64_w,i32_w]
         rfl
        refine take_ (i:=0) (N:=some 25) (v:= ?_) (a':= ?_) (fl 7 19) rfl rfl (by kernel_rfl) (fun _ _ _ h=>h) (Or.inl ⟨by rfl, ?_⟩) hHeld ?_ ?_
        rotate_left
        ·
         rintro w' ⟨s0,s1⟩
         go_simp
         with_reducible rfl
        rotate_left
        ·
         simp only[Act.put,List.setIfInBounds_toArray,List.set_cons_zero,List.set_cons_succ,i64_w,i32_w]
         rfl
        refine take_ (i:=3) (N:=some 28) (v:= ?_) (a':= ?_) (fl 7 27) rfl rfl (by kernel_rfl) (fun _ _ _ h=>h) (Or.inl ⟨by rfl, ?_⟩) hHeld ?_ ?_
        rotate_left
        ·
         rintro w' ⟨s0,s1⟩
         go_simp
         with_reducible rfl
        rotate_left
        ·
         simp only[Act.put,List.setIfInBounds_toArray,List.set_cons_zero,List.set_cons_succ,i64_w,i32_w]
         rfl
        refine one_ (i:=2) (N:=some 27) (fl 7 31) rfl rfl (by kernel_rfl) (by decide) (fun K hK=> ?_)
        refine goes_ Try.func57 (by kernel_rfl) rfl #[.agg #[.slice a8 a5.length a9,.slice b6 a6.length b7],.int .i64 d4] (by rfl) rfl rfl (by(try simp only[List.map_toArray,List.map_cons,List.map_nil]);first|done|rfl) ?_
        with_reducible refine(spec_poPlace.calls _ _ a5 _ _ a6 d4 g9 _ ?b8 ?b9 ?c9 ?d3 A6.out).mono ?_
        (case b8=>exact Zca (Kd.C_below d6.out HB.out))
        (case b9=>exact d7.out)
        (case c9=>exact Zca (Kd.C_below d8.out HB.out))
        (case d3=>exact d9.out)
        rintro e l4 ⟨rfl,hb⟩
        refine⟨_,rfl, ?_⟩
        replace a4:=Zk a4 hb;replace HB:=Zh HB hb
        refine hK.out _ _ ⟨Zc0 a4 0,Zc0 a4 1⟩ (fun hHeld=> ?_)
        clear hK K;refine Yn 27 (h:= ?_)
        refine one_ (i:=5) (N:=some 30) (fl 7 63) rfl rfl (by kernel_rfl) (by decide) (fun K hK=> ?_)
        refine goes_ Try.func57 (by kernel_rfl) rfl #[.agg #[.slice a8 a5.length a9,.slice b6 a6.length b7],.int .i64 a7] (by rfl) rfl rfl (by(try simp only[List.map_toArray,List.map_cons,List.map_nil]);first|done|rfl) ?_
        with_reducible refine(spec_poPlace.calls _ _ a5 _ _ a6 a7 i3 _ ?b8 ?b9 ?c9 ?d3 A7.out).mono ?_
        (case b8=>exact Zca (Kd.C_below d6.out HB.out))
        (case b9=>exact d7.out)
        (case c9=>exact Zca (Kd.C_below d8.out HB.out))
        (case d3=>exact d9.out)
        rintro e l5 ⟨rfl,hb⟩
        refine⟨_,rfl, ?_⟩
        replace a4:=Zk a4 hb;replace HB:=Zh HB hb
        refine hK.out _ _ ⟨Zc0 a4 0,Zc0 a4 1⟩ (fun hHeld=> ?_)
        clear hK K;refine Yn 30 (h:= ?_)
        refine pure_ (i:=6) (N:=some 31) (v:= ?_) (a':= ?_) (fl 7 127) rfl rfl (by kernel_rfl) (fun _ _ _ h=>h) (Or.inl ⟨by rfl, ?_⟩) ?_ ?_
        rotate_left
        ·
         intro w'
         go_simp
         with_reducible rfl
        rotate_left
        ·
         simp only[Act.put,List.setIfInBounds_toArray,List.set_cons_zero,List.set_cons_succ,i64_w,i32_w]
         rfl
        refine done_ (by kernel_rfl) ?_
        try go_wp2
        go_roundg k2
        case measure=>have:=i4.out;have:=i5.out;omega
        case rel=>exact⟨(wrap64 (e6+1)),(wrap64 (d4+1)),Zs,Zs,H',⟨by have:=i4.out;have:=i5.out;omega⟩,⟨Zb a4⟩,⟨Zl HB⟩⟩
       ·
        rw[if_neg c8]at H;have k6:=decide_eq_false c8;clear c8;have H':=Aside0.mk H;clear H
        try go_wp2
        replace a4:=Zm (blk_drew a4.out);replace HB:=Zm (below_drew1 HB.out)
        refine start_ (n:=7) (S:=fun w'=>w'.cell? ⟨d5,0,none⟩=some (.slice a8 a5.length a9)∧w'.cell? ⟨d5,1,none⟩=some (.slice b6 a6.length b7)) (ds:= []) (fl 7 0) (by kernel_rfl) rfl rfl ⟨Zc0 a4 0,Zc0 a4 1⟩ (fun hHeld=> ?_)
        generalize wr.drew=l6 at a4 HB hHeld ⊢
        refine pure_ (i:=1) (N:=some 26) (v:= ?_) (a':= ?_) (fl 7 2) rfl rfl (by kernel_rfl) (fun _ _ _ h=>h) (Or.inl ⟨by rfl, ?_⟩) ?_ ?_
        rotate_left
        ·
         intro w'
         go_simp
         with_reducible rfl
        rotate_left
        ·
         simp only[Act.put,List.setIfInBounds_toArray,List.set_cons_zero,List.set_cons_succ,i64_w,i32_w]
         rfl
        refine pure_ (i:=4) (N:=some 29) (v:= ?_) (a':= ?_) (fl 7 18) rfl rfl (by kernel_rfl) (fun _ _ _ h=>h) (Or.inl ⟨by rfl, ?_⟩) ?_ ?_
        rotate_left
        ·
         intro w'
         go_simp
         with_reducible rfl
        rotate_left
        ·
         simp only[Act.put,List.setIfInBounds_toArray,List.set_cons_zero,List.set_cons_succ,i64_w,i32_w]
         rfl
        refine take_ (i:=0) (N:=some 25) (v:= ?_) (a':= ?_) (fl 7 19) rfl rfl (by kernel_rfl) (fun _ _ _ h=>h) (Or.inl ⟨by rfl, ?_⟩) hHeld ?_ ?_
        rotate_left
        ·
         rintro w' ⟨s0,s1⟩
         go_simp
         with_reducible rfl
        rotate_left
        ·
         simp only[Act.put,List.setIfInBounds_toArray,List.set_cons_zero,List.set_cons_succ,i64_w,i32_w]
         rfl
        refine take_ (i:=3) (N:=some 28) (v:= ?_) (a':= ?_) (fl 7 27) rfl rfl (by kernel_rfl) (fun _ _ _ h=>h) (Or.inl ⟨by rfl, ?_⟩) hHeld ?_ ?_
        rotate_left
        ·
         rintro w' ⟨s0,s1⟩
         go_simp
         with_reducible rfl
        rotate_left
        ·
         simp only[Act.put,List.setIfInBounds_toArray,List.set_cons_zero,List.set_cons_succ,i64_w,i32_w]
         rfl
        refine one_ (i:=2) (N:=some 27) (fl 7 31) rfl rfl (by kernel_rfl) (by decide) (fun K hK=> ?_)
        refine goes_ Try.func57 (by kernel_rfl) rfl #[.agg #[.slice a8 a5.length a9,.slice b6 a6.length b7],.int .i64 d4] (by rfl) rfl rfl (by(try simp only[List.map_toArray,List.map_cons,List.map_nil]);first|done|rfl) ?_
        with_reducible refine(spec_poPlace.calls _ _ a5 _ _ a6 d4 g9 _ ?b8 ?b9 ?c9 ?d3 A6.out).mono ?_
        (case b8=>exact Zca (Kd.C_below d6.out HB.out))
        (case b9=>exact d7.out)
        (case c9=>exact Zca (Kd.C_below d8.out HB.out))
        (case d3=>exact d9.out)
        rintro e l7 ⟨rfl,hb⟩
        refine⟨_,rfl, ?_⟩
        replace a4:=Zk a4 hb;replace HB:=Zh HB hb
        refine hK.out _ _ ⟨Zc0 a4 0,Zc0 a4 1⟩ (fun hHeld=> ?_)
        clear hK K;refine Yn 27 (h:= ?_)
        refine one_ (i:=5) (N:=some 30) (fl 7 63) rfl rfl (by kernel_rfl) (by decide) (fun K hK=> ?_)
        refine goes_ Try.func57 (by kernel_rfl) rfl #[.agg #[.slice a8 a5.length a9,.slice b6 a6.length b7],.int .i64 a7] (by rfl) rfl rfl (by(try simp only[List.map_toArray,List.map_cons,List.map_nil]);first|done|rfl) ?_
        with_reducible refine(spec_poPlace.calls _ _ a5 _ _ a6 a7 i3 _ ?b8 ?b9 ?c9 ?d3 A7.out).mono ?_
        (case b8=>exact Zca (Kd.C_below d6.out HB.out))
        (case b9=>exact d7.out)
        (case c9=>exact Zca (Kd.C_below d8.out HB.out))
        (case d3=>exact d9.out)
        rintro e l8 ⟨rfl,hb⟩
        refine⟨_,rfl, ?_⟩
        replace a4:=Zk a4 hb;replace HB:=Zh HB hb
        refine hK.out _ _ ⟨Zc0 a4 0,Zc0 a4 1⟩ (fun hHeld=> ?_)
        clear hK K;refine Yn 30 (h:= ?_)
        refine pure_ (i:=6) (N:=some 31) (v:= ?_) (a':= ?_) (fl 7 127) rfl rfl (by kernel_rfl) (fun _ _ _ h=>h) (Or.inl ⟨by rfl, ?_⟩) ?_ ?_
        rotate_left
        ·
         intro w'
         go_simp
         with_reducible rfl
        rotate_left
        ·
         simp only[Act.put,List.setIfInBounds_toArray,List.set_cons_zero,List.set_cons_succ,i64_w,i32_w]
         rfl
        refine done_ (by kernel_rfl) ?_
        try go_wp2
        go_roundg k2
        case measure=>have:=i4.out;have:=i5.out;omega
        case rel=>exact⟨(e6),(wrap64 (d4+1)),Zs,Zs,H',⟨by have:=i4.out;have:=i5.out;omega⟩,⟨Zb a4⟩,⟨Zl HB⟩⟩
      ·
       rw[if_neg c5]at H;have k4:=decide_eq_false c5;clear c5;have H':=Aside0.mk H;clear H
       go_wp2
       go_roundg k2
       case measure=>have:=i4.out;have:=i5.out;omega
       case rel=>exact⟨(e6),(wrap64 (a7+1)),Zs,Zs,H',⟨by have:=i4.out;have:=i5.out;omega⟩,⟨Zb a4⟩,⟨Zl HB⟩⟩
   ·
    rw[if_neg c4]at H;have k3:=decide_eq_false c4;clear c4;obtain rfl:=Option.some.inj H
    go_wp2
    go_ret
    exact⟨Ze,Zl HB⟩
def spec_poDescents.l0:Nat→List Int→Int→Int→List Int→List Int→Option (List Int)
 |0,_,_,_,_,_ =>none
 |k+1,x3,x7,x8,a4,a5=>if x8<x7 then((spec_poPlace.f a4 a5 x8).bind fun a6=>((spec_poPlace.f a4 a5 (wrap64 (x8+1))).bind fun a7=>(if a6>a7 then(if x3.length<17592186044416 then(spec_poDescents.l0 k (x3++ [x8]) x7 (wrap64 (x8+1)) a4 a5)else(none))else(spec_poDescents.l0 k x3 x7 (wrap64 (x8+1)) a4 a5))))else(some x3)
def spec_poDescents.f (k:Nat) (a4:List Int) (a5:List Int):Option (List Int):=spec_poDescents.l0 k ([]:List Int) (a4.length:Int) 0 a4 a5
def spec_poDescents.T5:Bool × List (List Nat × List Nat):=(true,[([],[]),([],[]),([0,1],[0,1]),([],[]),([],[]),([4],[4]),([3,5,2],[3,5]),([2,6],[2,6])])
def spec_poDescents.B5:List Nat:= [0,0,3,0,0,16,63,127]
theorem spec_poDescents.tab5:rtab .any (opsOf Try.f38 5)=spec_poDescents.T5:=by kernel_rfl
theorem spec_poDescents.bits5:waitsOk spec_poDescents.T5.2 spec_poDescents.B5=true:=by kernel_rfl
set_option maxHeartbeats 8000000 in
set_option maxRecDepth 100000 in
theorem spec_poDescents.calls (k:Nat) (b9:Option Addr) (c9:Nat) (a5:List Int) (d3:Option Addr) (d4:Nat) (a6:List Int) (r:List Int) (w:World) (f8:Kd.C (Kd.int .i64) w b9 a5.length a5) (f9:a5.length≤c9) (g8:Kd.C (Kd.int .i64) w d3 a6.length a6) (g9:a6.length≤d4) (h:spec_poDescents.f k a5 a6=some r):
  Calls Try.prog 38 #[.agg #[.slice b9 a5.length c9,.slice d3 a6.length d4]] w fun e w'=> ∃l3:Value,e= .returned (l3)∧Kd.R (Kd.int .i64) 3 w' w.heap.size (fun _ =>True) l3 r∧Below w.heap.size w w':=by
 have l6:=Try.underlying26;have d6:=Aside0.mk f8;have d7:=Aside0.mk f9;clear f8 f9;have d8:=Aside0.mk g8;have d9:=Aside0.mk g9;clear g8 g9;have HB:=Zm (Below.refl w.heap.size w);have H:(spec_poDescents.l0 k ([]:List Int) (a5.length:Int) 0 a5 a6)=some r:=h;clear h;have H':=Aside0.mk H;clear H
 go_enter Try.func38,Try.ntmps38
 go_wp2_with (first|((with_reducible refine gate_dst (N:=1) rfl ?_);refine Zbe 1 #[.slice b9 a5.length c9,.slice d3 a6.length d4] 26 ?_;intro d5 hg w2 hbox hb;have a4:=Zm (hbox);have l4:=Zx hg HB;have l5:=Zx hg HB;replace HB:=Zh HB hb;clear hb hbox hg;obtain⟨i7,i8,i9,k3⟩:=Z2 a4))
 go_loopg [3,8] k (fun kq v3 v8 w'=> ∃(e6:List Int) (a8:Int),v8= .int .i64 a8∧Aside0 (spec_poDescents.l0 kq e6 (a5.length:Int) a8 a5 a6=some r)∧Aside0 (kq≤k)∧Aside0 (Kd.R (Kd.int .i64) 3 w' w.heap.size (fun _ =>True) v3 e6)∧Aside0 (w'.heap[d5]? =some (.cells #[(.slice b9 a5.length c9),(.slice d3 a6.length d4)] 26 (0,0)))∧Aside0 (Below w.heap.size w w'))
 case atStart=>exact⟨(([]:List Int)),(0),Zs,H',⟨Nat.le_refl _⟩,⟨Znl⟩,⟨Zb a4⟩,⟨Zl HB⟩⟩
 case round=>
  (clear H');obtain⟨e6,a8,rfl,HA,i6,a7,a4,HB⟩:=hrel
  cases gk with
  |zero=>exact absurd HA.out (by simp[spec_poDescents.l0])
  |succ k1=>
   have H:=HA.out;clear HA
   simp only[spec_poDescents.l0]at H
   by_cases c4:a8<(a5.length:Int)
   ·
    rw[if_pos c4]at H;have k4:=decide_eq_true c4;clear c4;replace H:=Zb0 H;obtain⟨e7,A5,H⟩:=H;replace H:=Zb0 H;obtain⟨e9,A6,H⟩:=H
    by_cases c7:e7>e9
    ·
     rw[if_pos c7]at H;have k6:decide (e9<e7)=true:=decide_eq_true c7;clear c7
     replace H:=Zif H;obtain⟨c8,H⟩:=H
     have k8:=Aside0.mk c8;clear c8
     generalize i3:((e6++ [a8]):List Int)=k9 at H;have i4:=Aside0.mk i3.symm;clear i3;have H':=Aside0.mk H;clear H
     try go_wp2
     replace a7:=Zm (Kd.R_drew a7.out);replace a4:=Zm (blk_drew a4.out);replace HB:=Zm (below_drew1 HB.out)
     refine start_ (n:=8) (S:=fun w'=>w'.cell? ⟨d5,0,none⟩=some (.slice b9 a5.length c9)∧w'.cell? ⟨d5,1,none⟩=some (.slice d3 a6.length d4)) (ds:= []) (fl 8 0) (by kernel_rfl) rfl rfl ⟨Zc0 a4 0,Zc0 a4 1⟩ (fun hHeld=> ?_);refine with_tabW spec_poDescents.tab5 spec_poDescents.bits5 (fun HT_ HW_=> ?_)
     generalize wr.drew=w9 at a7 a4 HB hHeld ⊢;refine Yu 1 12 (fl 8 2) HT_ (h:= ?_);refine Yu 4 15 (fl 8 18) HT_ (h:= ?_);refine Yu 5 16 (fl 8 50) HT_ (h:= ?_);refine Yt 0 11 (fl 8 51) HT_ HW_ hHeld (h:= ?_);refine Yt 3 14 (fl 8 59) HT_ HW_ hHeld (h:= ?_)
     refine one_ (i:=2) (N:=some 13) (fl 8 63) rfl rfl (one_of HT_.out (by kernel_rfl)) (by decide) (fun K hK=> ?_)
     refine goes_ Try.func57 (by kernel_rfl) rfl #[.agg #[.slice b9 a5.length c9,.slice d3 a6.length d4],.int .i64 a8] (by rfl) rfl rfl (by(try simp only[List.map_toArray,List.map_cons,List.map_nil]);first|done|rfl) ?_
     with_reducible refine(spec_poPlace.calls _ _ a5 _ _ a6 a8 e7 _ ?a9 ?b6 ?b7 ?b8 A5.out).mono ?_
     (case a9=>exact Zca (Kd.C_below d6.out HB.out))
     (case b6=>exact d7.out)
     (case b7=>exact Zca (Kd.C_below d8.out HB.out))
     (case b8=>exact d9.out)
     rintro e l8 ⟨rfl,hb⟩
     refine⟨_,rfl, ?_⟩
     replace a7:=Zo a7 hb;replace a4:=Zk a4 hb;replace HB:=Zh HB hb
     refine hK.out _ _ ⟨Zc0 a4 0,Zc0 a4 1⟩ (fun hHeld=> ?_)
     clear hK K;refine Yn 13 (h:= ?_)
     refine one_ (i:=6) (N:=some 17) (fl 8 127) rfl rfl (one_of HT_.out (by kernel_rfl)) (by decide) (fun K hK=> ?_)
     refine goes_ Try.func57 (by kernel_rfl) rfl #[.agg #[.slice b9 a5.length c9,.slice d3 a6.length d4],.int .i64 (wrap64 (a8+1))] (by rfl) rfl rfl (by(try simp only[List.map_toArray,List.map_cons,List.map_nil]);first|done|rfl) ?_
     with_reducible refine(spec_poPlace.calls _ _ a5 _ _ a6 (wrap64 (a8+1)) e9 _ ?a9 ?b6 ?b7 ?b8 A6.out).mono ?_
     (case a9=>exact Zca (Kd.C_below d6.out HB.out))
     (case b6=>exact d7.out)
     (case b7=>exact Zca (Kd.C_below d8.out HB.out))
     (case b8=>exact d9.out)
     rintro e l9 ⟨rfl,hb⟩
     refine⟨_,rfl, ?_⟩
     replace a7:=Zo a7 hb;replace a4:=Zk a4 hb;replace HB:=Zh HB hb
     refine hK.out _ _ ⟨Zc0 a4 0,Zc0 a4 1⟩ (fun hHeld=> ?_)
     clear hK K;refine Yn 17 (h:= ?_);refine Yu 7 18 (fl 8 255) HT_ (h:= ?_)
     refine done_ (done_of HT_.out (by kernel_rfl)) ?_
     try go_wp2_with (first|((with_reducible refine gate_builtin (b:= .append) (xs:= #[.tmp 19,.tmp 21]) rfl ?_);at_builtin;refine Kd.R_append (Kd.int .i64) (w0:=w) w.heap.size rfl (.tmp 19) (.tmp 21) 24 3 (.int .i64 0) 8 rfl Try.underlying24 info3 rfl (by decide) (by omega) u3 e6 a8 [.int .i64 a8] (fun _ =>True) (fun _ =>False) rfl rfl ?aP (fun _ hk=>hk.elim) ?aF ?aO ?aB ?aS ?aL ?_;(case aP=>exact rfl);(case aB=>exact(Zl HB));(case aF=>exact(fun _ _ =>trivial));(case aO=>exact(Zr a7));(case aS=>exact(below_size (Zl HB)));(case aL=>have:=k8.out;omega);intro l7 m4 ho hb hg hat;rw[←i4.out]at ho;replace a4:=Zm (blk_grown (Zb a4) hg (Kd.R_ne a7.out a4.out (by decide)));replace HB:=Zm (hb);have i5:=Zm (ho);clear a7 ho hb hg hat))
     go_roundg k1
     case measure=>have:=i6.out;omega
     case rel=>exact⟨(k9),(wrap64 (a8+1)),Zs,H',⟨by have:=i6.out;omega⟩,⟨Zr i5⟩,⟨Zb a4⟩,⟨Zl HB⟩⟩
    ·
     rw[if_neg c7]at H;have k6:decide (e9<e7)=false:=decide_eq_false c7;clear c7;have H':=Aside0.mk H;clear H
     try go_wp2
     replace a7:=Zm (Kd.R_drew a7.out);replace a4:=Zm (blk_drew a4.out);replace HB:=Zm (below_drew1 HB.out)
     refine start_ (n:=8) (S:=fun w'=>w'.cell? ⟨d5,0,none⟩=some (.slice b9 a5.length c9)∧w'.cell? ⟨d5,1,none⟩=some (.slice d3 a6.length d4)) (ds:= []) (fl 8 0) (by kernel_rfl) rfl rfl ⟨Zc0 a4 0,Zc0 a4 1⟩ (fun hHeld=> ?_);refine with_tabW spec_poDescents.tab5 spec_poDescents.bits5 (fun HT_ HW_=> ?_)
     generalize wr.drew=m5 at a7 a4 HB hHeld ⊢;refine Yu 1 12 (fl 8 2) HT_ (h:= ?_);refine Yu 4 15 (fl 8 18) HT_ (h:= ?_);refine Yu 5 16 (fl 8 50) HT_ (h:= ?_);refine Yt 0 11 (fl 8 51) HT_ HW_ hHeld (h:= ?_);refine Yt 3 14 (fl 8 59) HT_ HW_ hHeld (h:= ?_)
     refine one_ (i:=2) (N:=some 13) (fl 8 63) rfl rfl (one_of HT_.out (by kernel_rfl)) (by decide) (fun K hK=> ?_)
     refine goes_ Try.func57 (by kernel_rfl) rfl #[.agg #[.slice b9 a5.length c9,.slice d3 a6.length d4],.int .i64 a8] (by rfl) rfl rfl (by(try simp only[List.map_toArray,List.map_cons,List.map_nil]);first|done|rfl) ?_
     with_reducible refine(spec_poPlace.calls _ _ a5 _ _ a6 a8 e7 _ ?a9 ?b6 ?b7 ?b8 A5.out).mono ?_
     (case a9=>exact Zca (Kd.C_below d6.out HB.out))
     (case b6=>exact d7.out)
     (case b7=>exact Zca (Kd.C_below d8.out HB.out))
     (case b8=>exact d9.out)
     rintro e m6 ⟨rfl,hb⟩
     refine⟨_,rfl, ?_⟩
     replace a7:=Zo a7 hb;replace a4:=Zk a4 hb;replace HB:=Zh HB hb
     refine hK.out _ _ ⟨Zc0 a4 0,Zc0 a4 1⟩ (fun hHeld=> ?_)
     clear hK K;refine Yn 13 (h:= ?_)
     refine one_ (i:=6) (N:=some 17) (fl 8 127) rfl rfl (one_of HT_.out (by kernel_rfl)) (by decide) (fun K hK=> ?_)
     refine goes_ Try.func57 (by kernel_rfl) rfl #[.agg #[.slice b9 a5.length c9,.slice d3 a6.length d4],.int .i64 (wrap64 (a8+1))] (by rfl) rfl rfl (by(try simp only[List.map_toArray,List.map_cons,List.map_nil]);first|done|rfl) ?_
     with_reducible refine(spec_poPlace.calls _ _ a5 _ _ a6 (wrap64 (a8+1)) e9 _ ?a9 ?b6 ?b7 ?b8 A6.out).mono ?_
     (case a9=>exact Zca (Kd.C_below d6.out HB.out))
     (case b6=>exact d7.out)
     (case b7=>exact Zca (Kd.C_below d8.out HB.out))
     (case b8=>exact d9.out)
     rintro e m7 ⟨rfl,hb⟩
     refine⟨_,rfl, ?_⟩
     replace a7:=Zo a7 hb;replace a4:=Zk a4 hb;replace HB:=Zh HB hb
     refine hK.out _ _ ⟨Zc0 a4 0,Zc0 a4 1⟩ (fun hHeld=> ?_)
     clear hK K;refine Yn 17 (h:= ?_);refine Yu 7 18 (fl 8 255) HT_ (h:= ?_)
     refine done_ (done_of HT_.out (by kernel_rfl)) ?_
     try go_wp2
     go_roundg k1
     case measure=>have:=i6.out;omega
     case rel=>exact⟨(e6),(wrap64 (a8+1)),Zs,H',⟨by have:=i6.out;omega⟩,⟨Zr a7⟩,⟨Zb a4⟩,⟨Zl HB⟩⟩
   ·
    rw[if_neg c4]at H;have k4:=decide_eq_false c4;clear c4;obtain rfl:=Option.some.inj H
    go_wp2
    go_ret
    exact⟨_,Ze,Zr a7,Zl HB⟩
end Go.Proofs.Ytnagcjhgojchlaa.Q
