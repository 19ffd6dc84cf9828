/- Each function below comes to the Lean function beside it (theorems '.calls'); no condition beyond each theorem's own. Written by our program oprint.py over the kit's print. -/
import Derived.Test.YtnagcjhgojchlaaQwp690
namespace Go.Proofs.Ytnagcjhgojchlaa.Q
open Go.RowKit Go.Proofs.YtnagcjhgojchlaaW.PrintWords Go.Proofs.YtnagcjhgojchlaaW.PrintLast Go.Proofs.YtnagcjhgojchlaaW.PrintMore
attribute [local go_sem] max2_int min2_int max_two min_two max_three min_three max_four min_four
set_option linter.unusedVariables false
set_option linter.unusedSimpArgs false
set_option maxHeartbeats 8000000 in
set_option maxRecDepth 100000 in
def laws_FnPolesLeast_p726:Part1 (laws_FnPolesLeast_p690.Q1):=by
 refine Part1.mk ?Q1 (fun S8=> ?main)
 case main=>
  iterate 2086 (intro _)
  intro k A0 c0 l0 A1 c1 l1 r w I9 J0 S9 T0 U0 U1 A3 J1 J2 A5 J3 J4 J5 A6 J6 J7 J8 A7 J9 K0 A8 K1 K2 A9 K3 K4 U2 K5 K6 U3 K7 K8 K9 U4 L2 L3 L4 U5 _ nd U6 _ r5 U7 r6 r7 L5 L6 L7 L8 _ _ _ U8 U9 _ r8 V0 r9 s6 d3 d4 L9 M0 _ V1 V2 _ s7 V3 s9 t0 d5 d6 d7 d8 M1 M2 _ V4 _ V5 _ V6 M3 _ _ V7 M4 _ _ V8 _ t8 V9 t9 y8 d9 e6 e7 e9 f8 f9 M5 M6 M7 M8 _ _ W0 _ y9 W3 z2 z3 z4 _ g8 g9 _ i3 i4 _ i5 i6 z5 i7 i8 _ M9 N0 N1 N2 _ _ z6 z7 z8 z9 B0 C0 C1 C2 C3 C4 _ _ _ _ i9 k3 _ _ C5 _ N3 N4 C6 k4 k6 k8 C7 C8 _ N5 N6 C9 D0 N7 N8 N9 O0 O1 O2 O3 O4 O5 O6 _ D1 O7 D2 D3 D4 D5 D6 D7 _ _ _ O8 O9 _ P0 _ D8 D9 _ _ k9 l3 E0 _ E6 E7 E8 E9 l4 n7 n8 n9 P1 o0 o1 P2 P3 P4 P5 P6 P7 P8 P9 Q0 Q4 Q5 Q6 Q7 Q8 Q9 R0 R1 _ q7 R2 F0 F1 q8 R3 F2 F3 a4 a5 o2 o3 o4 o5 _ o6 o7 o8 o9 _ _ _ W4 W5 R4 _ q9 R5 F4 F5 a6 a7 l5 l6 p3 p4 p5 p6 _ _ R6 _ F6 R7 F7 F8 l7 l8 l9 m4 m5 m6 F9 G1 G2 G3 _ _ R8 _ G4 R9 G5 G6 m7 m8 m9 n0 n3 n4 n5 n6 G7 G8 G9 H1 _ W6 W7 S0 _ S1 hb H2 H3 H4 H5 H6 H7 H8 H9 I0 I1 c9 p7 p8 I2 I3 HB _ _ wc hcut
  obtain⟨kq,p9,rfl,HA,I4,a8,a9,b6,b7,b8,b9,c9,p7,p8,HB⟩:=hcut
  cases kq with
  |zero=>exact absurd HA.out (by simp[laws_FnPolesLeast.j7])
  |succ q3=>
   have H:=HA.out;clear HA
   simp only[laws_FnPolesLeast.j7]at H
   by_cases q5:p9=true
   ·
    subst q5
    rw[if_pos rfl]at H
    exact absurd H (by simp)
   ·
    replace q5:=Bool.eq_false_iff.mpr q5
    subst q5
    rw[if_neg Bool.false_ne_true]at H
    by_cases q6:P2=true
    ·
     subst q6
     rw[if_pos rfl]at H
     have H':=Aside0.mk H;clear H;have S3:=a4.out;have S4:=a5.out;have S5:=a6.out;have S6:=a7.out;obtain⟨I5,I6,I7,I8⟩:=Z2 c9
     go_wp2
     go_loopg [362] q3 (fun kq S7 w'=> ∃(q4:Int),S7= .int .i64 q4∧Aside0 (laws_FnPolesLeast.l1 kq (l4.length:Int) q4 l4 n7 n8 n9 o0 o1=some r)∧Aside0 (kq≤q3)∧Aside0 (Kd.R (Kd.int .i64) 3 w' w.heap.size (fun _ =>True) (.slice o2 l4.length o3) l4)∧Aside0 (Kd.Q (Kd.int .i64) 3 w' w.heap.size (fun _ =>True) (.slice o4 n7.length o5) n7)∧Aside0 (Kd.R (Kd.int .i64) 3 w' w.heap.size (fun _ =>True) (.slice o6 n8.length o7) n8)∧Aside0 (Kd.Q (Kd.int .i64) 3 w' w.heap.size (fun _ =>True) (.slice o8 n9.length o9) n9)∧Aside0 (Kd.R (Kd.int .i64) 3 w' w.heap.size (fun _ =>True) (.slice p3 o0.length p4) o0)∧Aside0 (Kd.Q (Kd.int .i64) 3 w' w.heap.size (fun _ =>True) (.slice p5 o1.length p6) o1)∧Aside0 (w'.heap[q7]? =some (.cells #[(.slice o2 l4.length o3),(.slice o4 n7.length o5)] 26 (0,0)))∧Aside0 (w'.heap[q8]? =some (.cells #[(.slice o6 n8.length o7),(.slice o8 n9.length o9)] 26 (0,0)))∧Aside0 (w'.heap[q9]? =some (.cells #[(.slice p3 o0.length p4),(.slice p5 o1.length p6)] 26 (0,0)))∧Aside0 (Below w.heap.size w w'))
     case atStart=>exact⟨(0),Zs,H',⟨Nat.le_refl _⟩,⟨Zr a8⟩,⟨Zrq (a9.out)⟩,⟨Zr b6⟩,⟨Zrq (b7.out)⟩,⟨Zr b8⟩,⟨Zrq (b9.out)⟩,⟨Zb c9⟩,⟨Zb p7⟩,⟨Zb p8⟩,⟨Zl HB⟩⟩
     case round=>
      (repeat(rename World.cell? _ _ = _ =>z_;clear z_));(repeat(rename World.frozen? _ _ = _ =>z_;clear z_));(repeat(rename @Ne Nat _ _ =>z_;clear z_))
      clear H'
      revert k A0 c0 l0 A1 c1 l1 r w I9 J0 S9 T0 U0 U1 A3 J1 J2 A5 J3 J4 J5 A6 J6 J7 J8 A7 J9 K0 A8 K1 K2 A9 K3 K4 U2 K5 K6 U3 K7 K8 K9 U4 L2 L3 L4 U5 nd U6 r5 U7 r6 r7 L5 L6 L7 L8 U8 U9 r8 V0 r9 s6 d3 d4 L9 M0 V1 V2 s7 V3 s9 t0 d5 d6 d7 d8 M1 M2 V4 V5 V6 M3 V7 M4 V8 t8 V9 t9 y8 d9 e6 e7 e9 f8 f9 M5 M6 M7 M8 W0 y9 W3 z2 z3 z4 g8 g9 i3 i4 i5 i6 z5 i7 i8 M9 N0 N1 N2 z6 z7 z8 z9 B0 C0 C1 C2 C3 C4 i9 k3 C5 N3 N4 C6 k4 k6 k8 C7 C8 N5 N6 C9 D0 N7 N8 N9 O0 O1 O2 O3 O4 O5 O6 D1 O7 D2 D3 D4 D5 D6 D7 O8 O9 P0 D8 D9 k9 l3 E0 E6 E7 E8 E9 l4 n7 n8 n9 P1 o0 o1 P4 P5 P6 P7 P8 P9 Q0 Q4 Q5 Q6 Q7 Q8 Q9 R0 R1 q7 R2 F0 F1 q8 R3 F2 F3 a4 a5 o2 o3 o4 o5 o6 o7 o8 o9 W4 W5 R4 q9 R5 F4 F5 a6 a7 l5 l6 p3 p4 p5 p6 R6 F6 R7 F7 F8 l7 l8 l9 m4 m5 m6 F9 G1 G2 G3 R8 G4 R9 G5 G6 m7 m8 m9 n0 n3 n4 n5 n6 G7 G8 G9 H1 W6 W7 S0 S1 hb H2 H3 H4 H5 H6 H7 H8 H9 I0 I1 I2 I3 wc a8 a9 b6 b7 b8 b9 c9 p7 p8 HB q3 I4 P3 gk wr hrel;iterate 2137 (rename _ =>z_;revert z_)
      exact S8.out
    · as_aux_lemma=>
     replace q6:=Bool.eq_false_iff.mpr q6
     subst q6
     rw[if_neg Bool.false_ne_true]at H
     obtain rfl:=Option.some.inj H
     go_wp2
     go_ret
     exact⟨Ze,Zl HB⟩
end Go.Proofs.Ytnagcjhgojchlaa.Q
