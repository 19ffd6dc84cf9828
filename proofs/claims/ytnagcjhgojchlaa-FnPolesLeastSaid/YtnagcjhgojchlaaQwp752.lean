/- Each function below comes to the Lean function beside it (theorems '.calls'); no condition beyond each theorem's own. Written by our program oprint.py over the kit's print. -/
import Derived.Test.YtnagcjhgojchlaaQwp726
namespace Go.Proofs.Ytnagcjhgojchlaa.Q
open Go.RowKit Go.Proofs.YtnagcjhgojchlaaW.PrintWords Go.Proofs.YtnagcjhgojchlaaW.PrintLast Go.Proofs.YtnagcjhgojchlaaW.PrintMore
attribute [local go_sem] max2_int min2_int max_two min_two max_three min_three max_four min_four
set_option linter.unusedVariables false
set_option linter.unusedSimpArgs false
set_option maxHeartbeats 8000000 in
set_option maxRecDepth 100000 in
theorem laws_FnPolesLeast_p752:laws_FnPolesLeast_p726.Q1:=by
 iterate 2137 (intro _)
 intro k A0 c0 l0 A1 c1 l1 r w N8 N9 aC aD aE aG A3 O0 O1 A5 O2 O3 O4 A6 O5 O6 O7 A7 O8 O9 A8 P0 P1 A9 P2 P3 aH P4 P5 aI P6 P7 P8 aJ P9 Q0 Q4 aK _ nd aM _ F7 aN F8 F9 Q5 Q6 Q7 Q8 _ _ _ aQ aT _ G1 aU G2 G3 o2 o3 Q9 R0 _ aV aW _ G4 aX G5 G6 o4 o5 o6 o7 R1 R2 _ aY _ aZ _ bA R3 _ _ bB R4 _ _ bC _ G7 bD G8 G9 o8 o9 p3 p4 p5 p6 R5 R6 R7 R8 _ _ bE _ H1 bF H2 H3 H4 _ p7 p8 _ p9 q3 _ q4 q5 H5 q6 q7 _ R9 S0 S1 S3 _ _ H6 H7 H8 H9 I0 I1 I2 I3 I4 I5 _ _ _ _ q8 q9 _ _ I6 _ S4 n9 I7 r5 r6 r7 I8 I9 _ S5 o0 J0 i7 S6 S7 S8 S9 T0 U0 U1 U2 U3 U4 _ J1 U5 J2 J3 J4 J5 J6 J7 _ _ _ U6 U7 _ U8 _ J8 J9 _ _ r8 r9 K0 _ K1 i8 K2 i9 d7 e9 f8 f9 U9 g8 g9 V0 V1 V2 V3 V4 V5 V6 V7 V8 V9 W0 W3 W4 W5 W6 _ z8 W7 K3 K4 z9 W8 K5 K6 d3 d4 k3 k4 k6 k8 _ k9 l3 l4 l5 _ _ _ bG bH W9 _ B0 X0 K7 K8 d5 d6 i3 i4 l6 l7 l8 l9 _ _ X1 _ K9 X2 L2 L3 s6 s7 s9 t0 t8 t9 L4 L5 L6 L7 _ _ X3 _ L8 X4 L9 M0 y8 y9 z2 z3 z4 z5 z6 z7 M1 M2 M3 M4 _ bI bJ X5 _ X6 hb M5 M6 M7 M8 M9 N0 N1 N2 N3 N4 _ _ _ N5 N6 _ wc a4 a5 a6 a7 a8 a9 b6 b7 b8 HB N7 m4 X7 _ gk wr hrel _ _
 obtain⟨b9,rfl,HA,D3,a4,a5,a6,a7,a8,a9,b6,b7,b8,HB⟩:=hrel
 cases gk with
 |zero=>exact absurd HA.out (by simp[laws_FnPolesLeast.l1])
 |succ k7=>
  have H:=HA.out;clear HA
  simp only[laws_FnPolesLeast.l1]at H
  by_cases i5:b9<(d7.length:Int)
  ·
   rw[if_pos i5]at H;have o1:=decide_eq_true i5;clear i5;replace H:=Zb0 H;obtain⟨⟨i6,C0⟩,D4,H⟩:=H;(try dsimp only at H);have m5:=Aside0.mk H;clear H;have D5:=d3.out;have D6:=d4.out;have D7:=d5.out;have D8:=d6.out;obtain⟨C1,C2,C3,C4⟩:=Z2 b6
   go_upto_region 55 with(first|((with_reducible refine gate_callee (f:=28) rfl ?_);refine Ga (some 368) Try.func28 #[.agg #[.slice k3 d7.length k4,.slice k6 e9.length k8],.int .i64 b9] (h:= ?_);(with_reducible refine(impl_PlaceOf.calls k7 _ _ d7 _ _ e9 b9 i6 C0 _ ?d8 ?d9 ?e6 ?e7 D4.out).mono ?_);(case d8=>exact Zca (Kd.R_reads' a4.out).2.2);(case d9=>exact(Kd.R_reads' a4.out).2.1);(case e6=>exact Zca (Kd.Q_reads' a5.out).2.2);(case e7=>exact(Kd.Q_reads' a5.out).2.1);rintro e X8 ⟨rfl,hb⟩;refine⟨_,rfl, ?_⟩;replace a4:=Zo a4 hb;replace a5:=Zm (Kd.Q_below (Zrq (a5.out)) hb);replace a6:=Zo a6 hb;replace a7:=Zm (Kd.Q_below (Zrq (a7.out)) hb);replace a8:=Zo a8 hb;replace a9:=Zm (Kd.Q_below (Zrq (a9.out)) hb);replace b6:=Zk b6 hb;replace b7:=Zk b7 hb;replace b8:=Zk b8 hb;replace HB:=Zh HB hb))
   (try simp only[Act.put,List.setIfInBounds_toArray,List.set_cons_zero,List.set_cons_succ])
   go_cut [380] (fun D9 wc=> ∃(kq:Nat) (c9:Bool),D9= .bool c9∧Aside0 (laws_FnPolesLeast.j9 kq b9 i6 (d7.length:Int) b9 c9 d7 e9 f8 f9 g8 g9=some r)∧Aside0 (kq≤k7)∧Aside0 (Kd.R (Kd.int .i64) 3 wc w.heap.size (fun _ =>True) (.slice k3 d7.length k4) d7)∧Aside0 (Kd.Q (Kd.int .i64) 3 wc w.heap.size (fun _ =>True) (.slice k6 e9.length k8) e9)∧Aside0 (Kd.R (Kd.int .i64) 3 wc w.heap.size (fun _ =>True) (.slice k9 f8.length l3) f8)∧Aside0 (Kd.Q (Kd.int .i64) 3 wc w.heap.size (fun _ =>True) (.slice l4 f9.length l5) f9)∧Aside0 (Kd.R (Kd.int .i64) 3 wc w.heap.size (fun _ =>True) (.slice l6 g8.length l7) g8)∧Aside0 (Kd.Q (Kd.int .i64) 3 wc w.heap.size (fun _ =>True) (.slice l8 g9.length l9) g9)∧Aside0 (wc.heap[z8]? =some (.cells #[(.slice k3 d7.length k4),(.slice k6 e9.length k8)] 26 (0,0)))∧Aside0 (wc.heap[z9]? =some (.cells #[(.slice k9 f8.length l3),(.slice l4 f9.length l5)] 26 (0,0)))∧Aside0 (wc.heap[B0]? =some (.cells #[(.slice l6 g8.length l7),(.slice l8 g9.length l9)] 26 (0,0)))∧Aside0 (Below w.heap.size w wc))
   case first=>as_aux_lemma=>
    (repeat(rename World.cell? _ _ = _ =>z_;clear z_));(repeat(rename World.frozen? _ _ = _ =>z_;clear z_))
    have H:=m5.out;clear m5
    by_cases m9:C0=true
    ·
     subst m9
     rw[if_pos rfl]at H
     by_cases n0:i6<(-1000)
     ·
      rw[if_pos n0]at H
      exact absurd H (by simp)
     · as_aux_lemma=>
      rw[if_neg n0]at H;have m6:=decide_eq_false n0;clear n0
      (first|rw[m6]|(simp only[i64_w,i32_w];rw[m6])|skip)
      have H':=Aside0.mk H;clear H
      go_wp2
      go_meet
      case rel=>exact⟨_,(decide (i6>1000)),Zs,H',⟨by have:=n9.out;have:=o0.out;have:=i7.out;have:=i8.out;have:=i9.out;have:=m4.out;have:=D3.out;first|omega|exact Nat.le_refl _⟩,⟨Zr a4⟩,⟨Zrq (a5.out)⟩,⟨Zr a6⟩,⟨Zrq (a7.out)⟩,⟨Zr a8⟩,⟨Zrq (a9.out)⟩,⟨Zb b6⟩,⟨Zb b7⟩,⟨Zb b8⟩,⟨Zl HB⟩⟩
    ·
     replace m9:=Bool.eq_false_iff.mpr m9
     subst m9
     rw[if_neg Bool.false_ne_true]at H
     exact absurd H (by simp)
   case rest=>as_aux_lemma=>
    (repeat(rename World.cell? _ _ = _ =>z_;clear z_));(repeat(rename World.frozen? _ _ = _ =>z_;clear z_));(repeat(rename @Ne Nat _ _ =>z_;clear z_))
    clear m5
    obtain⟨kq,c9,rfl,HA,n8,a4,a5,a6,a7,a8,a9,b6,b7,b8,HB⟩:=hcut
    cases kq with
    |zero=>exact absurd HA.out (by simp[laws_FnPolesLeast.j9])
    |succ m7=>
     have H:=HA.out;clear HA
     simp only[laws_FnPolesLeast.j9]at H
     by_cases n3:c9=true
     ·
      subst n3
      rw[if_pos rfl]at H
      exact absurd H (by simp)
     ·
      replace n3:=Bool.eq_false_iff.mpr n3
      subst n3
      rw[if_neg Bool.false_ne_true]at H
      replace H:=Zb0 H;obtain⟨⟨n4,E0⟩,E6,H⟩:=H;(try dsimp only at H);replace H:=Zb0 H;obtain⟨⟨n5,E7⟩,E8,H⟩:=H;(try dsimp only at H)
      by_cases n6:E0=true
      ·
       subst n6
       rw[if_pos rfl]at H
       by_cases n7:E7=true
       ·
        subst n7
        rw[if_pos rfl]at H
        by_cases m8:n4=n5
        · as_aux_lemma=>
         rw[if_pos m8]at H;have E9:(n4 == n5)=true:=beq_iff_eq.mpr m8;have F0:(n4 != n5)=false:=bne_eq_false_iff_eq.mpr m8;clear m8;have H':=Aside0.mk H;clear H;have F1:=d4.out;have F2:=d3.out;have F3:=i3.out;have F4:=i4.out;obtain⟨C5,C6,C7,C8⟩:=Z2 b7
         go_wp2_with (first|((with_reducible refine gate_callee (f:=28) rfl ?_);refine Ga (some 384) Try.func28 #[.agg #[.slice k9 f8.length l3,.slice l4 f9.length l5],.int .i64 i6] (h:= ?_);(with_reducible refine(impl_PlaceOf.calls m7 _ _ f8 _ _ f9 i6 n4 true _ ?d8 ?d9 ?e6 ?e7 E6.out).mono ?_);(case d8=>exact Zca (Kd.R_reads' a6.out).2.2);(case d9=>exact(Kd.R_reads' a6.out).2.1);(case e6=>exact Zca (Kd.Q_reads' a7.out).2.2);(case e7=>exact(Kd.Q_reads' a7.out).2.1);rintro e X9 ⟨rfl,hb⟩;refine⟨_,rfl, ?_⟩;replace a4:=Zo a4 hb;replace a5:=Zm (Kd.Q_below (Zrq (a5.out)) hb);replace a6:=Zo a6 hb;replace a7:=Zm (Kd.Q_below (Zrq (a7.out)) hb);replace a8:=Zo a8 hb;replace a9:=Zm (Kd.Q_below (Zrq (a9.out)) hb);replace b6:=Zk b6 hb;replace b7:=Zk b7 hb;replace b8:=Zk b8 hb;replace HB:=Zh HB hb;have F5:=d6.out;have F6:=d5.out;obtain⟨C9,D0,D1,D2⟩:=Z2 b8)|((with_reducible refine gate_callee (f:=28) rfl ?_);refine Ga (some 390) Try.func28 #[.agg #[.slice l6 g8.length l7,.slice l8 g9.length l9],.int .i64 b9] (h:= ?_);(with_reducible refine(impl_PlaceOf.calls m7 _ _ g8 _ _ g9 b9 n5 true _ ?d8 ?d9 ?e6 ?e7 E8.out).mono ?_);(case d8=>exact Zca (Kd.R_reads' a8.out).2.2);(case d9=>exact(Kd.R_reads' a8.out).2.1);(case e6=>exact Zca (Kd.Q_reads' a9.out).2.2);(case e7=>exact(Kd.Q_reads' a9.out).2.1);rintro e aA ⟨rfl,hb⟩;refine⟨_,rfl, ?_⟩;replace a4:=Zo a4 hb;replace a5:=Zm (Kd.Q_below (Zrq (a5.out)) hb);replace a6:=Zo a6 hb;replace a7:=Zm (Kd.Q_below (Zrq (a7.out)) hb);replace a8:=Zo a8 hb;replace a9:=Zm (Kd.Q_below (Zrq (a9.out)) hb);replace b6:=Zk b6 hb;replace b7:=Zk b7 hb;replace b8:=Zk b8 hb;replace HB:=Zh HB hb))
         go_roundg m7
         case measure=>have:=n9.out;have:=o0.out;have:=i7.out;have:=i8.out;have:=i9.out;have:=m4.out;have:=D3.out;have:=n8.out;omega
         case rel=>exact⟨(wrap64 (b9+1)),Zs,H',⟨by have:=n9.out;have:=o0.out;have:=i7.out;have:=i8.out;have:=i9.out;have:=m4.out;have:=D3.out;have:=n8.out;omega⟩,⟨Zr a4⟩,⟨Zrq (a5.out)⟩,⟨Zr a6⟩,⟨Zrq (a7.out)⟩,⟨Zr a8⟩,⟨Zrq (a9.out)⟩,⟨Zb b6⟩,⟨Zb b7⟩,⟨Zb b8⟩,⟨Zl HB⟩⟩
        ·
         rw[if_neg m8]at H
         exact absurd H (by simp)
       ·
        replace n7:=Bool.eq_false_iff.mpr n7
        subst n7
        rw[if_neg Bool.false_ne_true]at H
        exact absurd H (by simp)
      ·
       replace n6:=Bool.eq_false_iff.mpr n6
       subst n6
       rw[if_neg Bool.false_ne_true]at H
       exact absurd H (by simp)
  · as_aux_lemma=>
   rw[if_neg i5]at H;have o1:=decide_eq_false i5;clear i5;obtain rfl:=Option.some.inj H
   go_wp2
   go_ret
   exact⟨Ze,Zl HB⟩
end Go.Proofs.Ytnagcjhgojchlaa.Q
