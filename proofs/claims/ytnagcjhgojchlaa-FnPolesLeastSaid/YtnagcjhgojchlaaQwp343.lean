/- Each function below comes to the Lean function beside it (theorems '.calls'); no condition beyond each theorem's own. Written by our program oprint.py over the kit's print. -/
import Derived.Test.YtnagcjhgojchlaaQwp287
namespace Go.Proofs.Ytnagcjhgojchlaa.Q
open Go.RowKit Go.Proofs.YtnagcjhgojchlaaW.PrintWords Go.Proofs.YtnagcjhgojchlaaW.PrintLast Go.Proofs.YtnagcjhgojchlaaW.PrintMore
attribute [local go_sem] max2_int min2_int max_two min_two max_three min_three max_four min_four
set_option linter.unusedVariables false
set_option linter.unusedSimpArgs false
set_option maxHeartbeats 8000000 in
set_option maxRecDepth 100000 in
def laws_FnPolesLeast_p343:Part3 (laws_FnPolesLeast_p287.Q1):=by
 refine Part3.mk ?Q1 ?Q2 ?Q3 (fun H9 I0 I1=> ?main)
 case main=>
  iterate 693 (intro _)
  intro k A0 c0 l0 A1 c1 l1 r w p6 p7 E7 E8 E9 F0 A3 p8 p9 A5 q3 i4 D2 A6 q4 q5 q6 A7 i5 q7 A8 q8 q9 A9 i9 r5 F1 r6 r7 F2 r8 r9 s6 F3 s7 s9 t0 F4 _ nd F5 _ k3 F6 k4 k6 t8 t9 y8 y9 _ _ _ F7 F8 _ k8 F9 k9 l3 a7 a8 z2 z3 _ G1 G2 _ l4 G3 l5 l6 a9 b6 b7 b8 z4 z5 _ G4 _ G5 _ G6 z6 _ _ G7 z7 _ _ G8 _ l7 G9 l8 l9 b9 c9 d3 d4 d5 d6 z8 z9 B0 C0 _ _ H1 hb m4 H2 m5 m6 m7 _ d7 d8 _ d9 e6 _ e7 e9 m8 f8 f9 _ C1 C2 C3 C4 H3 H4 m9 n0 n3 n4 n5 n6 n7 n8 n9 o0 i6 a4 a5 a6 g8 g9 i7 i8 o1 HB C5 o4 D3 _ wc hcut
  (clear D3);obtain⟨kq,HA,o5,i6,a4,a5,a6,i7,i8,HB⟩:=hcut
  cases kq with
  |zero=>exact absurd HA.out (by simp[laws_FnPolesLeast.j1])
  |succ o6=>
   have H:=HA.out;clear HA
   simp only[laws_FnPolesLeast.j1]at H
   have o2:=Aside0.mk H;clear H
   go_upto_if 198 with(fail)
   go_cut [] (fun wc=> ∃(kq:Nat),Aside0 (laws_FnPolesLeast.j2 kq l1=some r)∧Aside0 (kq≤o6)∧Aside0 (Below w.heap.size w wc))
   case first=>
    (repeat(rename World.cell? _ _ = _ =>z_;clear z_));(repeat(rename World.frozen? _ _ = _ =>z_;clear z_))
    have H:=o2.out;clear o2
    by_cases o7:D2=true
    ·
     subst o7
     rw[if_pos rfl]at H
     replace H:=Zb0 H;obtain⟨⟨D4,D5,H5⟩,D6,H⟩:=H;(try dsimp only at H);replace H:=Zb0 H;obtain⟨⟨H6,H7⟩,D7,H⟩:=H;(try dsimp only at H)
     by_cases o8:H5=true
     ·
      subst o8
      rw[if_pos rfl]at H
      replace H:=Zb0 H;obtain⟨H8,D8,H⟩:=H
      by_cases o9:H8=true
      ·
       subst o9
       rw[if_pos rfl]at H
       replace H:=Zif H;obtain⟨C6,H⟩:=H;have i3:((i4.length:Int) == i5)=true:=beq_iff_eq.mpr C6;have o3:((i4.length:Int) != i5)=false:=bne_eq_false_iff_eq.mpr C6;clear C6
       (first|rw[i3]|(simp only[i64_w,i32_w];rw[i3])|skip)
       by_cases p3:H7=true
       ·
        subst p3
        rw[if_pos rfl]at H
        by_cases p4:H6=true
        ·
         subst p4
         rw[if_pos rfl]at H
         by_cases p5:i5>0
         ·
          rw[if_pos p5]at H;have C7:decide (0<i5)=true:=decide_eq_true p5;clear p5
          replace H:=Zif H;obtain⟨D9,H⟩:=H;have C8:=decide_eq_true D9;have C9:decide (0<i4.length)=true:=decide_eq_true (by omega);clear D9
          replace H:=Zif H;obtain⟨E0,H⟩:=H;have D0:=decide_eq_true E0;have D1:decide (0<i9.length)=true:=decide_eq_true (by omega);clear E0
          by_cases E6:(rd i4 0)=(rd i9 0)
          ·
           revert k A0 c0 l0 A1 c1 l1 r w p6 p7 E7 E8 E9 F0 A3 p8 p9 A5 q3 i4 q4 q5 q6 A7 i5 q7 A8 q8 q9 A9 i9 r5 F1 r6 r7 F2 r8 r9 s6 F3 s7 s9 t0 F4 nd F5 k3 F6 k4 k6 t8 t9 y8 y9 F7 F8 k8 F9 k9 l3 a7 a8 z2 z3 G1 G2 l4 G3 l5 l6 a9 b6 b7 b8 z4 z5 G4 G5 G6 z6 G7 z7 G8 l7 G9 l8 l9 b9 c9 d3 d4 d5 d6 z8 z9 B0 C0 H1 hb m4 H2 m5 m6 m7 d7 d8 d9 e6 e7 e9 m8 f8 f9 C1 C2 C3 C4 H3 H4 m9 n0 n3 n4 n5 n6 n7 n8 n9 o0 g8 g9 o1 C5 o4 wc i6 a4 a5 a6 i7 i8 HB o6 o5 A6 D4 D5 D6 D8 i3 o3 D7 C7 C8 C9 H D0 D1 E6;iterate 696 (rename _ =>z_;revert z_)
           exact H9.out
          ·
           rw[if_neg E6]at H
           exact absurd H (by simp)
         ·
          revert k A0 c0 l0 A1 c1 l1 r w p6 p7 E7 E8 E9 F0 A3 p8 p9 A5 q3 i4 q4 q5 q6 A7 i5 q7 A8 q8 q9 A9 i9 r5 F1 r6 r7 F2 r8 r9 s6 F3 s7 s9 t0 F4 nd F5 k3 F6 k4 k6 t8 t9 y8 y9 F7 F8 k8 F9 k9 l3 a7 a8 z2 z3 G1 G2 l4 G3 l5 l6 a9 b6 b7 b8 z4 z5 G4 G5 G6 z6 G7 z7 G8 l7 G9 l8 l9 b9 c9 d3 d4 d5 d6 z8 z9 B0 C0 H1 hb m4 H2 m5 m6 m7 d7 d8 d9 e6 e7 e9 m8 f8 f9 C1 C2 C3 C4 H3 H4 m9 n0 n3 n4 n5 n6 n7 n8 n9 o0 g8 g9 o1 C5 o4 wc i6 a4 a5 a6 i7 i8 HB o6 o5 A6 D4 D5 D6 D8 i3 o3 D7 H p5;iterate 696 (rename _ =>z_;revert z_)
          exact I0.out
        ·
         replace p4:=Bool.eq_false_iff.mpr p4
         subst p4
         rw[if_neg Bool.false_ne_true]at H
         exact absurd H (by simp)
       ·
        replace p3:=Bool.eq_false_iff.mpr p3
        subst p3
        rw[if_neg Bool.false_ne_true]at H
        exact absurd H (by simp)
      ·
       replace o9:=Bool.eq_false_iff.mpr o9
       subst o9
       rw[if_neg Bool.false_ne_true]at H
       exact absurd H (by simp)
     ·
      replace o8:=Bool.eq_false_iff.mpr o8
      subst o8
      rw[if_neg Bool.false_ne_true]at H
      exact absurd H (by simp)
    · as_aux_lemma=>
     replace o7:=Bool.eq_false_iff.mpr o7
     subst o7
     rw[if_neg Bool.false_ne_true]at H
     have H':=Aside0.mk H;clear H
     go_wp2
     go_meet
     case rel=>exact⟨_,H',⟨by have:=o4.out;have:=o5.out;first|omega|exact Nat.le_refl _⟩,⟨Zl HB⟩⟩
   case rest=>
    (repeat(rename World.cell? _ _ = _ =>z_;clear z_));(repeat(rename World.frozen? _ _ = _ =>z_;clear z_));(repeat(rename @Ne Nat _ _ =>z_;clear z_))
    revert k A0 c0 l0 A1 c1 l1 r w p6 p7 E7 E8 E9 F0 A3 p8 p9 A5 q3 i4 D2 A6 q4 q5 q6 A7 i5 q7 A8 q8 q9 A9 i9 r5 F1 r6 r7 F2 r8 r9 s6 F3 s7 s9 t0 F4 nd F5 k3 F6 k4 k6 t8 t9 y8 y9 F7 F8 k8 F9 k9 l3 a7 a8 z2 z3 G1 G2 l4 G3 l5 l6 a9 b6 b7 b8 z4 z5 G4 G5 G6 z6 G7 z7 G8 l7 G9 l8 l9 b9 c9 d3 d4 d5 d6 z8 z9 B0 C0 H1 hb m4 H2 m5 m6 m7 d7 d8 d9 e6 e7 e9 m8 f8 f9 C1 C2 C3 C4 H3 H4 m9 n0 n3 n4 n5 n6 n7 n8 n9 o0 g8 g9 o1 C5 o4 i6 a4 a5 a6 i7 i8 HB o6 o5 o2 wc hcut;iterate 1043 (rename _ =>z_;revert z_)
    exact I1.out
end Go.Proofs.Ytnagcjhgojchlaa.Q
