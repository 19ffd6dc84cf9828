/- Each function below comes to the Lean function beside it (theorems '.calls'); no condition beyond each theorem's own. Written by our program oprint.py over the kit's print. -/
import Derived.Test.YtnagcjhgojchlaaQwp343
namespace Go.Proofs.Ytnagcjhgojchlaa.Q
open Go.RowKit Go.Proofs.YtnagcjhgojchlaaW.PrintWords Go.Proofs.YtnagcjhgojchlaaW.PrintLast Go.Proofs.YtnagcjhgojchlaaW.PrintMore
attribute [local go_sem] max2_int min2_int max_two min_two max_three min_three max_four min_four
set_option linter.unusedVariables false
set_option linter.unusedSimpArgs false
set_option maxHeartbeats 8000000 in
set_option maxRecDepth 100000 in
def laws_FnPolesLeast_p529:Part1 (laws_FnPolesLeast_p343.Q3):=by
 refine Part1.mk ?Q1 (fun I2=> ?main)
 case main=>
  iterate 1043 (intro _)
  intro k A0 c0 l0 A1 c1 l1 r w C1 C2 I3 I4 I0 I1 A3 C3 C4 A5 C5 C6 C7 A6 C8 C9 D0 A7 D1 D2 A8 D3 D4 A9 D5 D6 I5 D7 D8 I6 D9 E0 E6 I7 E7 E8 E9 I8 _ nd I9 _ m8 J0 m9 n0 F0 F1 F2 F3 _ _ _ J1 J2 _ n3 J3 n4 n5 d6 d7 F4 F5 _ J4 J5 _ n6 J6 n7 n8 d8 d9 e6 e7 F6 F7 _ J7 _ J8 _ J9 F8 _ _ K0 F9 _ _ K1 _ n9 K2 o0 o1 e9 f8 f9 g8 g9 i3 G1 G2 G3 G4 _ _ K3 hb o2 K4 o3 o4 o5 _ i4 i5 _ i6 i7 _ i8 i9 o6 k3 k4 _ G5 G6 G7 G8 G9 H1 o7 o8 o9 p3 p4 p5 p6 p7 p8 p9 _ _ _ _ k6 k8 _ _ q3 _ H2 q4 q5 k9 l3 l4 q6 q7 HB H3 q8 q9 _ wc hcut
  (clear q9);obtain⟨kq,HA,m5,HB⟩:=hcut
  cases kq with
  |zero=>exact absurd HA.out (by simp[laws_FnPolesLeast.j2])
  |succ b9=>
   have H:=HA.out;clear HA
   simp only[laws_FnPolesLeast.j2]at H
   replace H:=Zb0 H;obtain⟨⟨a9,b8⟩,r5,H⟩:=H;(try dsimp only at H);replace H:=Zb0 H;obtain⟨⟨l8,l9⟩,r6,H⟩:=H;(try dsimp only at H);replace H:=Zb0 H;obtain⟨⟨m6,m7⟩,r7,H⟩:=H;(try dsimp only at H);have l5:=Aside0.mk H;clear H
   go_upto_region 26 with(first|((with_reducible refine gate_callee (f:=21) rfl ?_);refine Ga (some 247) Try.func21 #[.slice A1 l1.length c1] (h:= ?_);(with_reducible refine(spec_DrawPolePower.calls b9 _ _ l1 a9 b8 _ ?c9 ?d3 r5.out).mono ?_);(case c9=>exact Zca (Kd.C_below I0.out HB.out));(case d3=>exact I1.out);rintro e H4 ⟨K5,K6,rfl,G9,H1,hb⟩;refine⟨_,rfl, ?_⟩;have a5:=Zj G9 HB;have a6:=Zm (Kd.Q_lower H1 (below_size (Zl HB)));replace HB:=Zh HB hb)|((with_reducible refine gate_dst (N:=28) rfl ?_);(try(refine gate_guard (by rfl) ?_;dsimp only));refine Zbe 28 #[.slice none 0 0,.slice none 0 0] 26 ?_;intro d4 hg r8 hbox hb;replace a5:=Zo a5 hb;replace a6:=Zm (Kd.Q_below (Zrq (a6.out)) hb);have a4:=Zm (hbox);have r9:=Zx hg HB;have s6:=Zx hg HB;replace HB:=Zh HB hb;clear hb hbox hg;obtain⟨a7,a8,s7⟩:=Kd.R_slice a5.out;subst s7;obtain⟨s9,t0,t8,t9⟩:=Z2 a4;obtain⟨b6,b7,y8,_⟩:=Kd.Q_slice a6.out;subst y8)|((with_reducible refine gate_store (t:=26) (p:=28) rfl ?_);refine store_event (t:=26) (p:=28) (v:= ?C0) (w1:=((r8.setCell ⟨d4,0,none⟩ (.slice a7 a9.length a8)).setCell ⟨d4,1,none⟩ (.slice b6 b8.length b7))) ?hg ?ho ?hn ?hr ?_;(case ho=>rfl);(case hg=>rfl);(case hn=>rfl);(case hr=>first|(go_simp;done)|(go_simp;rfl));intro l6 hw;replace a5:Aside0 (Kd.R (Kd.int .i64) 3 l6 w.heap.size (fun k_=>Zn k_ (.slice b6 b8.length b7)) (.slice a7 a9.length a8) a9):=⟨(by rw[hw];exact(Zrr (Zfm a5 a4 (.slice a7 a9.length a8) (.slice b6 b8.length b7) (fun _ hk=>hk.1))))⟩;replace a6:Aside0 (Kd.Q (Kd.int .i64) 3 l6 w.heap.size (fun k_=>Zn k_ (.slice a7 a9.length a8)) (.slice b6 b8.length b7) b8):=⟨(by rw[hw];exact(Zrq (Zfq a6 a4 (.slice a7 a9.length a8) (.slice b6 b8.length b7) (fun _ hk=>hk.1))))⟩;replace a4:Aside0 (l6.heap[d4]? =some (.cells #[.slice a7 a9.length a8,.slice b6 b8.length b7] 26 (0,0))):=⟨(by rw[hw];exact(by refine Zrb ?_;refine blk_put (cs:= #[.slice a7 a9.length a8,.slice none 0 0]) ?_ 1 _ rfl;refine Zrb ?_;refine blk_put (cs:= #[.slice none 0 0,.slice none 0 0]) ?_ 0 _ rfl;refine Zrb ?_;exact a4.out))⟩;replace HB:Aside0 (Below w.heap.size w l6):=⟨(by rw[hw];exact(Zl HB))⟩;clear hw;obtain⟨y9,z2,z3,z4⟩:=Z2 a4)|((with_reducible refine gate_callee (f:=22) rfl ?_);refine Ga (some 250) Try.func22 #[.agg #[.slice a7 a9.length a8,.slice b6 b8.length b7]] (h:= ?_);(with_reducible refine(impl_PolePower.calls b9 (fun k_=>some k_=(.slice a7 a9.length a8:Value).ownBlock) _ _ a9 (fun k_=>some k_=(.slice b6 b8.length b7:Value).ownBlock) _ _ b8 l8 l9 _ ?c9 ?d3 r6.out).mono ?_);(case c9=>exact Kd.R_V (Kd.R_tight rfl (Kd.R_types (a5.out) a4.out (by decide))));(case d3=>exact Kd.Q_V (Kd.Q_tight rfl (Kd.Q_types (a6.out) a4.out (by decide))));rintro e H5 ⟨rfl,hb⟩;refine⟨_,rfl, ?_⟩;replace a5:=Zo a5 hb;replace a6:=Zm (Kd.Q_below (Zrq (a6.out)) hb);replace a4:=Zk a4 hb;replace HB:=Zh HB hb;obtain⟨z5,z6,z7,z8⟩:=Z2 a4)|((with_reducible refine gate_callee (f:=23) rfl ?_);refine Ga (some 255) Try.func23 #[.agg #[.slice a7 a9.length a8,.slice b6 b8.length b7]] (h:= ?_);(with_reducible refine(spec_PolePower.calls b9 _ _ a9 _ _ b8 m6 m7 _ ?c9 ?d3 ?z9 ?B0 r7.out).mono ?_);(case c9=>exact Zca (Kd.R_reads' a5.out).2.2);(case d3=>exact(Kd.R_reads' a5.out).2.1);(case z9=>exact Zca (Kd.Q_reads' a6.out).2.2);(case B0=>exact(Kd.Q_reads' a6.out).2.1);rintro e H6 ⟨rfl,hb⟩;refine⟨_,rfl, ?_⟩;replace a5:=Zo a5 hb;replace a6:=Zm (Kd.Q_below (Zrq (a6.out)) hb);replace a4:=Zk a4 hb;replace HB:=Zh HB hb))
   (try simp only[Act.put,List.setIfInBounds_toArray,List.set_cons_zero,List.set_cons_succ])
   go_cut [265] (fun H7 wc=> ∃(kq:Nat) (d5:Bool),H7= .bool d5∧Aside0 (laws_FnPolesLeast.j3 kq l1 l8 l9 d5 a9 b8=some r)∧Aside0 (kq≤b9)∧Aside0 (Kd.R (Kd.int .i64) 3 wc w.heap.size (fun _ =>True) (.slice a7 a9.length a8) a9)∧Aside0 (Kd.Q (Kd.int .i64) 3 wc w.heap.size (fun _ =>True) (.slice b6 b8.length b7) b8)∧Aside0 (wc.heap[d4]? =some (.cells #[(.slice a7 a9.length a8),(.slice b6 b8.length b7)] 26 (0,0)))∧Aside0 (Below w.heap.size w wc))
   case first=>as_aux_lemma=>
    (repeat(rename World.cell? _ _ = _ =>z_;clear z_));(repeat(rename World.frozen? _ _ = _ =>z_;clear z_))
    have H:=l5.out;clear l5
    by_cases m4:(l9 != m7)=true
    ·
     rw[if_pos m4]at H
     exact absurd H (by simp)
    · as_aux_lemma=>
     rw[if_neg m4]at H;obtain⟨l7,H8,H9⟩:=Zd m4;clear m4
     (first|rw[l7]|(simp only[i64_w,i32_w];rw[l7])|skip)
     have H':=Aside0.mk H;clear H
     go_wp2
     go_meet
     case rel=>exact⟨_,((l8 != m6)),Zs,H',⟨by have:=q4.out;have:=q8.out;have:=m5.out;first|omega|exact Nat.le_refl _⟩,⟨Zc a5⟩,⟨Zrq (Kd.Q_mono a6.out (fun _ hk=>trivial))⟩,⟨Zb a4⟩,⟨Zl HB⟩⟩
   case rest=>
    (repeat(rename World.cell? _ _ = _ =>z_;clear z_));(repeat(rename World.frozen? _ _ = _ =>z_;clear z_));(repeat(rename @Ne Nat _ _ =>z_;clear z_))
    revert k A0 c0 l0 A1 c1 l1 r w C1 C2 I3 I4 I0 I1 A3 C3 C4 A5 C5 C6 C7 A6 C8 C9 D0 A7 D1 D2 A8 D3 D4 A9 D5 D6 I5 D7 D8 I6 D9 E0 E6 I7 E7 E8 E9 I8 nd I9 m8 J0 m9 n0 F0 F1 F2 F3 J1 J2 n3 J3 n4 n5 d6 d7 F4 F5 J4 J5 n6 J6 n7 n8 d8 d9 e6 e7 F6 F7 J7 J8 J9 F8 K0 F9 K1 n9 K2 o0 o1 e9 f8 f9 g8 g9 i3 G1 G2 G3 G4 K3 o2 K4 o3 o4 o5 i4 i5 i6 i7 i8 i9 o6 k3 k4 G5 G6 G7 G8 o7 o8 o9 p3 p4 p5 p6 p7 p8 p9 k6 k8 q3 H2 q4 q5 k9 l3 l4 q6 q7 H3 q8 b9 m5 a9 b8 r5 l8 l9 r6 m6 m7 r7 l5 H4 d4 r8 r9 s6 a7 a8 b6 b7 G9 H1 l6 H5 H6 hb a5 a6 a4 HB wc hcut;iterate 1389 (rename _ =>z_;revert z_)
    exact I2.out
end Go.Proofs.Ytnagcjhgojchlaa.Q
