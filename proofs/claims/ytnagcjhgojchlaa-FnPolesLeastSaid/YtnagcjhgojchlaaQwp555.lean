/- Each function below comes to the Lean function beside it (theorems '.calls'); no condition beyond each theorem's own. Written by our program oprint.py over the kit's print. -/
import Derived.Test.YtnagcjhgojchlaaQwp529
namespace Go.Proofs.Ytnagcjhgojchlaa.Q
open Go.RowKit Go.Proofs.YtnagcjhgojchlaaW.PrintWords Go.Proofs.YtnagcjhgojchlaaW.PrintLast Go.Proofs.YtnagcjhgojchlaaW.PrintMore
attribute [local go_sem] max2_int min2_int max_two min_two max_three min_three max_four min_four
set_option linter.unusedVariables false
set_option linter.unusedSimpArgs false
set_option maxHeartbeats 8000000 in
set_option maxRecDepth 100000 in
def laws_FnPolesLeast_p555:Part2 (laws_FnPolesLeast_p529.Q1):=by
 refine Part2.mk ?Q1 ?Q2 (fun I6 I7=> ?main)
 case main=>
  iterate 1389 (intro _)
  intro k A0 c0 l0 A1 c1 l1 r w q7 q8 F8 F9 G1 G2 A3 q9 r5 A5 r6 r7 r8 A6 r9 s6 s7 A7 s9 t0 A8 t8 t9 A9 y8 y9 G3 z2 z3 G4 z4 z5 z6 G5 z7 z8 z9 G6 _ nd G7 _ k8 G8 k9 l3 B0 C0 C1 C2 _ _ _ G9 H1 _ l4 H2 l5 l6 a4 a5 C3 C4 _ H3 H4 _ l7 H5 l8 l9 a6 a7 a8 a9 C5 C6 _ H6 _ H7 _ H8 C7 _ _ H9 C8 _ _ I0 _ m4 I1 m5 m6 b6 b7 b8 b9 c9 d3 C9 D0 D1 D2 _ _ I2 _ m7 I3 m8 m9 n0 _ d4 d5 _ d6 d7 _ d8 d9 n3 e6 e7 _ D3 D4 D5 D6 _ _ n4 n5 n6 n7 n8 n9 o0 o1 o2 o3 _ _ _ _ e9 f8 _ _ o4 _ D7 q4 o5 f9 g8 g9 o6 o7 _ D8 q5 o8 i5 D9 E0 E6 E7 q6 E8 E9 F0 F1 F2 F3 _ o9 F4 p3 p4 p5 p6 p7 p8 _ I4 I5 F5 F6 _ F7 hb p9 q3 i6 HB _ _ wc hcut
  (clear F2);obtain⟨kq,i7,rfl,HA,i8,i3,i4,i6,HB⟩:=hcut
  cases kq with
  |zero=>exact absurd HA.out (by simp[laws_FnPolesLeast.j3])
  |succ i9=>
   have H:=HA.out;clear HA
   simp only[laws_FnPolesLeast.j3]at H
   by_cases k4:i7=true
   ·
    subst k4
    rw[if_pos rfl]at H
    exact absurd H (by simp)
   ·
    replace k4:=Bool.eq_false_iff.mpr k4
    subst k4
    rw[if_neg Bool.false_ne_true]at H
    have k3:=Aside0.mk H;clear H
    go_upto_if 266 with(fail)
    go_cut [] (fun wc=> ∃(kq:Nat),Aside0 (laws_FnPolesLeast.j6 kq l1=some r)∧Aside0 (kq≤i9)∧Aside0 (Below w.heap.size w wc))
    case first=>
     (repeat(rename World.cell? _ _ = _ =>z_;clear z_));(repeat(rename World.frozen? _ _ = _ =>z_;clear z_))
     have H:=k3.out;clear k3
     by_cases k6:q6=true
     ·
      revert k A0 c0 l0 A1 c1 l1 r w q7 q8 F8 F9 G1 G2 A3 q9 r5 A5 r6 r7 r8 A6 r9 s6 s7 A7 s9 t0 A8 t8 t9 A9 y8 y9 G3 z2 z3 G4 z4 z5 z6 G5 z7 z8 z9 G6 nd G7 k8 G8 k9 l3 B0 C0 C1 C2 G9 H1 l4 H2 l5 l6 a4 a5 C3 C4 H3 H4 l7 H5 l8 l9 a6 a7 a8 a9 C5 C6 H6 H7 H8 C7 H9 C8 I0 m4 I1 m5 m6 b6 b7 b8 b9 c9 d3 C9 D0 D1 D2 I2 m7 I3 m8 m9 n0 d4 d5 d6 d7 d8 d9 n3 e6 e7 D3 D4 D5 D6 n4 n5 n6 n7 n8 n9 o0 o1 o2 o3 e9 f8 o4 D7 q4 o5 f9 g8 g9 o6 o7 D8 q5 o8 i5 D9 E0 E6 E7 q6 E8 E9 F0 F1 F3 o9 F4 p3 p4 p5 p6 p7 p8 I4 I5 F5 F6 F7 hb p9 q3 wc i3 i4 i6 HB i9 i8 H k6;iterate 1390 (rename _ =>z_;revert z_)
      exact I6.out
     · as_aux_lemma=>
      replace k6:=Bool.eq_false_iff.mpr k6
      subst k6
      rw[if_neg Bool.false_ne_true]at H
      have H':=Aside0.mk H;clear H
      go_wp2
      go_meet
      case rel=>exact⟨_,H',⟨by have:=q4.out;have:=q5.out;have:=i5.out;have:=i8.out;first|omega|exact Nat.le_refl _⟩,⟨Zl HB⟩⟩
    case rest=>
     (repeat(rename World.cell? _ _ = _ =>z_;clear z_));(repeat(rename World.frozen? _ _ = _ =>z_;clear z_));(repeat(rename @Ne Nat _ _ =>z_;clear z_))
     revert k A0 c0 l0 A1 c1 l1 r w q7 q8 F8 F9 G1 G2 A3 q9 r5 A5 r6 r7 r8 A6 r9 s6 s7 A7 s9 t0 A8 t8 t9 A9 y8 y9 G3 z2 z3 G4 z4 z5 z6 G5 z7 z8 z9 G6 nd G7 k8 G8 k9 l3 B0 C0 C1 C2 G9 H1 l4 H2 l5 l6 a4 a5 C3 C4 H3 H4 l7 H5 l8 l9 a6 a7 a8 a9 C5 C6 H6 H7 H8 C7 H9 C8 I0 m4 I1 m5 m6 b6 b7 b8 b9 c9 d3 C9 D0 D1 D2 I2 m7 I3 m8 m9 n0 d4 d5 d6 d7 d8 d9 n3 e6 e7 D3 D4 D5 D6 n4 n5 n6 n7 n8 n9 o0 o1 o2 o3 e9 f8 o4 D7 q4 o5 f9 g8 g9 o6 o7 D8 q5 o8 i5 D9 E0 E6 E7 q6 E8 E9 F0 F1 F3 o9 F4 p3 p4 p5 p6 p7 p8 I4 I5 F5 F6 F7 hb p9 q3 i3 i4 i6 HB i9 i8 k3 wc hcut;iterate 1740 (rename _ =>z_;revert z_)
     exact I7.out
end Go.Proofs.Ytnagcjhgojchlaa.Q
