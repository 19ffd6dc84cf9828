/- Each function below comes to the Lean function beside it (theorems '.calls'); no condition beyond each theorem's own. Written by our program oprint.py over the kit's print. -/
import Derived.Test.YtnagcjhgojchlaaQwp579
namespace Go.Proofs.Ytnagcjhgojchlaa.Q
open Go.RowKit Go.Proofs.YtnagcjhgojchlaaW.PrintWords Go.Proofs.YtnagcjhgojchlaaW.PrintLast Go.Proofs.YtnagcjhgojchlaaW.PrintMore
attribute [local go_sem] max2_int min2_int max_two min_two max_three min_three max_four min_four
set_option linter.unusedVariables false
set_option linter.unusedSimpArgs false
set_option maxHeartbeats 8000000 in
set_option maxRecDepth 100000 in
theorem laws_FnPolesLeast_p615:laws_FnPolesLeast_p579.Q1:=by
 iterate 1449 (intro _)
 intro k A0 c0 l0 A1 c1 l1 r w J2 J3 P5 P6 P7 P8 A3 J4 J5 A5 J6 J7 J8 A6 J9 K0 K1 A7 K2 K3 A8 K4 K5 A9 K6 K7 P9 K8 K9 Q0 L2 L3 L4 Q4 L5 L6 L7 Q5 _ nd Q6 _ E9 Q7 F0 F1 L8 L9 M0 M1 _ _ _ Q8 Q9 _ F2 R0 F3 F4 l7 l8 M2 M3 _ R1 R2 _ F5 R3 F6 F7 l9 m4 m5 m6 M4 M5 _ R4 _ R5 _ R6 M6 _ _ R7 M7 _ _ R8 _ F8 R9 F9 G1 m7 m8 m9 n0 n3 n4 M8 M9 N0 N1 _ _ S0 _ G2 S1 G3 G4 G5 _ n5 n6 _ n7 n8 _ n9 o0 G6 o1 o2 _ N2 N3 N4 N5 _ _ G7 G8 G9 H1 H2 H3 H4 H5 H6 H7 _ _ _ _ o3 o4 _ _ H8 _ N6 i8 H9 o5 o6 o7 I0 I1 _ N7 i9 I2 e9 p3 p4 N8 N9 O0 O1 O2 O3 _ I3 O4 I4 I5 p5 p6 p7 p8 _ o8 o9 O5 O6 _ O7 hb I6 I7 _ _ I8 f8 _ O8 _ I9 O9 _ _ _ J0 J1 _ b8 b9 _ _ wr _ p9 q3 a9 a8 C8 C9 a6 a7 a4 a5 b7 b6 HB k5 _ D0 q4 _ _ wc hcut
 (clear q4);obtain⟨kq,i4,rfl,HA,f9,a6,a7,a4,a5,b7,b6,HB⟩:=hcut
 cases kq with
 |zero=>exact absurd HA.out (by simp[laws_FnPolesLeast.j5])
 |succ g8=>
  have H:=HA.out;clear HA
  simp only[laws_FnPolesLeast.j5]at H
  by_cases k3:i4=true
  ·
   subst k3
   rw[if_pos rfl]at H
   replace H:=Zb0 H;obtain⟨⟨k4,D1⟩,D2,H⟩:=H;(try dsimp only at H)
   by_cases k6:D1=true
   ·
    subst k6
    rw[if_pos rfl]at H
    by_cases k8:k4=0
    ·
     rw[if_pos k8]at H
     exact absurd H (by simp)
    · as_aux_lemma=>
     rw[if_neg k8]at H;have D3:(k4 == 0)=false:=beq_eq_false_iff_ne.mpr k8;have D4:(k4 != 0)=true:=bne_iff_ne.mpr k8;replace H:=Zb0 H;obtain⟨⟨d4,e7,q5⟩,D5,H⟩:=H;(try dsimp only at H);have H':=Aside0.mk H;clear H;have D6:=b9.out;have D7:=b8.out;obtain⟨q6,q7,q8,q9⟩:=Z2 b6;obtain⟨i5,i6,r5⟩:=Kd.R_slice a4.out;subst r5;obtain⟨g9,i3,r6,_⟩:=Kd.Q_slice a5.out;subst r6
     go_wp2_with (first|((with_reducible refine gate_callee (f:=8) rfl ?_);refine Ga (some 278) Try.func8 #[.agg #[.slice i5 a9.length i6,.slice g9 a8.length i3]] (h:= ?_);(with_reducible refine(impl_PoleInversions.calls g8 _ _ a9 _ _ a8 k4 true _ ?d5 ?d6 ?d7 ?d8 D2.out).mono ?_);(case d5=>exact Zca (Kd.R_reads' a4.out).2.2);(case d6=>exact(Kd.R_reads' a4.out).2.1);(case d7=>exact Zca (Kd.Q_reads' a5.out).2.2);(case d8=>exact(Kd.Q_reads' a5.out).2.1);rintro e P0 ⟨rfl,hb⟩;refine⟨_,rfl, ?_⟩;replace a6:=Zo a6 hb;replace a7:=Zm (Kd.Q_below (Zrq (a7.out)) hb);replace a4:=Zo a4 hb;replace a5:=Zm (Kd.Q_below (Zrq (a5.out)) hb);replace b7:=Zk b7 hb;replace b6:=Zk b6 hb;replace HB:=Zh HB hb;obtain⟨r7,r8,r9,s6⟩:=Z2 b6;obtain⟨s7,s9,t0,t8⟩:=Z2 b7)|((with_reducible refine gate_callee (f:=24) rfl ?_);refine Ga (some 290) Try.func24 #[.agg #[.slice i5 a9.length i6,.slice g9 a8.length i3],.agg #[.slice p5 p3.length p6,.slice p7 p4.length p8]] (h:= ?_);(with_reducible refine(impl_ThenTurned.calls g8 _ _ a9 _ _ a8 _ _ p3 _ _ p4 d4 e7 q5 _ ?d5 ?d6 ?d7 ?d8 ?t9 ?y8 ?y9 ?z2 D5.out).mono ?_);(case d5=>exact Zca (Kd.R_reads' a4.out).2.2);(case d6=>exact(Kd.R_reads' a4.out).2.1);(case d7=>exact Zca (Kd.Q_reads' a5.out).2.2);(case d8=>exact(Kd.Q_reads' a5.out).2.1);(case t9=>exact Zca (Kd.R_reads' a6.out).2.2);(case y8=>exact(Kd.R_reads' a6.out).2.1);(case y9=>exact Zca (Kd.Q_reads' a7.out).2.2);(case z2=>exact(Kd.Q_reads' a7.out).2.1);rintro e P1 ⟨P2,P3,rfl,o8,o9,hb⟩;refine⟨_,rfl, ?_⟩;have l5:=Zj (Kd.R_new' (Zv (Kd.R_new' (Zv o8 a6) (Kd.Q_lt (Zrq (a7.out)))) a4) (Kd.Q_lt (Zrq (a5.out)))) HB;have l6:=Zj (Kd.R_new' (Zv (Kd.R_new' (Zv o9 a6) (Kd.Q_lt (Zrq (a7.out)))) a4) (Kd.Q_lt (Zrq (a5.out)))) HB;replace a6:=Zu a6 hb o8 o9;replace a7:=Zm (Kd.Q_mono (Kd.Q_told (Kd.Q_told (Kd.Q_old (Zrq (a7.out)) hb) (Kd.R_base o8)) (Kd.R_base o9)) (fun _ h_=>h_.1));replace a4:=Zu a4 hb o8 o9;replace a5:=Zm (Kd.Q_mono (Kd.Q_told (Kd.Q_told (Kd.Q_old (Zrq (a5.out)) hb) (Kd.R_base o8)) (Kd.R_base o9)) (fun _ h_=>h_.1));replace b7:=Zk b7 hb;replace b6:=Zk b6 hb;replace HB:=Zh HB hb;obtain⟨c9,d3,z3⟩:=Kd.R_slice l5.out;subst z3;obtain⟨z4,z5,z6,z7⟩:=Z2 b6;obtain⟨d9,e6,z8⟩:=Kd.R_slice l6.out;subst z8))
     go_roundg g8
     case measure=>have:=i8.out;have:=i9.out;have:=e9.out;have:=f8.out;have:=D0.out;have:=f9.out;omega
     case rel=>exact⟨(q5),(wrap64 (q3+1)),(d4),(e7),(.slice c9 d4.length d3),(.slice d9 e7.length e6),Zs,Zs,H',⟨by have:=i8.out;have:=i9.out;have:=e9.out;have:=f8.out;have:=D0.out;have:=f9.out;omega⟩,⟨Zrr (Zfm a6 b6 (.slice c9 d4.length d3) (.slice d9 e7.length e6) (fun _ hk=>trivial))⟩,⟨Zrq (Zfq a7 b6 (.slice c9 d4.length d3) (.slice d9 e7.length e6) (fun _ hk=>trivial))⟩,⟨Zrr (Zfm l5 b6 (.slice c9 d4.length d3) (.slice d9 e7.length e6) (fun _ hk=>trivial))⟩,⟨Kd.Q_of_R (Zrr (Zfm l6 b6 (.slice c9 d4.length d3) (.slice d9 e7.length e6) (fun _ hk=>trivial)))⟩,⟨Zbf b7⟩,⟨by refine Zrb ?_;refine blk_put (cs:= #[.slice c9 d4.length d3,.slice g9 a8.length i3]) ?_ 1 _ rfl;refine Zrb ?_;refine blk_put (cs:= #[.slice i5 a9.length i6,.slice g9 a8.length i3]) ?_ 0 _ rfl;refine Zrb ?_;exact b6.out⟩,⟨Zl HB⟩⟩
   ·
    replace k6:=Bool.eq_false_iff.mpr k6
    subst k6
    rw[if_neg Bool.false_ne_true]at H
    exact absurd H (by simp)
  ·
   replace k3:=Bool.eq_false_iff.mpr k3
   subst k3
   rw[if_neg Bool.false_ne_true]at H
   by_cases k9:p9=true
   ·
    subst k9
    rw[if_pos rfl]at H
    replace H:=Zb0 H;obtain⟨⟨l3,D8⟩,D9,H⟩:=H;(try dsimp only at H)
    by_cases l4:D8=true
    ·
     subst l4
     rw[if_pos rfl]at H
     by_cases i7:l3=0
     · as_aux_lemma=>
      rw[if_pos i7]at H;have E0:(l3 == 0)=true:=beq_iff_eq.mpr i7;have E6:(l3 != 0)=false:=bne_eq_false_iff_eq.mpr i7;clear i7;have H':=Aside0.mk H;clear H;have E7:=b9.out;have E8:=b8.out;obtain⟨z9,B0,C0,C1⟩:=Z2 b6;obtain⟨C2,C3,C4⟩:=Kd.R_slice a4.out;subst C4;obtain⟨C5,C6,C7,_⟩:=Kd.Q_slice a5.out;subst C7
      go_wp2_with (first|((with_reducible refine gate_callee (f:=8) rfl ?_);refine Ga (some 296) Try.func8 #[.agg #[.slice C2 a9.length C3,.slice C5 a8.length C6]] (h:= ?_);(with_reducible refine(impl_PoleInversions.calls g8 _ _ a9 _ _ a8 l3 true _ ?d5 ?d6 ?d7 ?d8 D9.out).mono ?_);(case d5=>exact Zca (Kd.R_reads' a4.out).2.2);(case d6=>exact(Kd.R_reads' a4.out).2.1);(case d7=>exact Zca (Kd.Q_reads' a5.out).2.2);(case d8=>exact(Kd.Q_reads' a5.out).2.1);rintro e P4 ⟨rfl,hb⟩;refine⟨_,rfl, ?_⟩;replace a6:=Zo a6 hb;replace a7:=Zm (Kd.Q_below (Zrq (a7.out)) hb);replace a4:=Zo a4 hb;replace a5:=Zm (Kd.Q_below (Zrq (a5.out)) hb);replace b7:=Zk b7 hb;replace b6:=Zk b6 hb;replace HB:=Zh HB hb))
      go_meet
      case rel=>exact⟨_,H',⟨by have:=i8.out;have:=i9.out;have:=e9.out;have:=f8.out;have:=D0.out;have:=f9.out;first|omega|exact Nat.le_refl _⟩,⟨Zl HB⟩⟩
     ·
      rw[if_neg i7]at H
      exact absurd H (by simp)
    ·
     replace l4:=Bool.eq_false_iff.mpr l4
     subst l4
     rw[if_neg Bool.false_ne_true]at H
     exact absurd H (by simp)
   · as_aux_lemma=>
    replace k9:=Bool.eq_false_iff.mpr k9
    subst k9
    rw[if_neg Bool.false_ne_true]at H
    have H':=Aside0.mk H;clear H
    go_wp2
    go_meet
    case rel=>exact⟨_,H',⟨by have:=i8.out;have:=i9.out;have:=e9.out;have:=f8.out;have:=D0.out;have:=f9.out;first|omega|exact Nat.le_refl _⟩,⟨Zl HB⟩⟩
end Go.Proofs.Ytnagcjhgojchlaa.Q
