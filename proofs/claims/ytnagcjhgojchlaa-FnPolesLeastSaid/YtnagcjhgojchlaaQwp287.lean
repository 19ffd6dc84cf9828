/- Each function below comes to the Lean function beside it (theorems '.calls'); no condition beyond each theorem's own. Written by our program oprint.py over the kit's print. -/
import Derived.Test.YtnagcjhgojchlaaQwp0
namespace Go.Proofs.Ytnagcjhgojchlaa.Q
open Go.RowKit Go.Proofs.YtnagcjhgojchlaaW.PrintWords Go.Proofs.YtnagcjhgojchlaaW.PrintLast Go.Proofs.YtnagcjhgojchlaaW.PrintMore
attribute [local go_sem] max2_int min2_int max_two min_two max_three min_three max_four min_four
set_option linter.unusedVariables false
set_option linter.unusedSimpArgs false
set_option maxHeartbeats 8000000 in
set_option maxRecDepth 100000 in
def laws_FnPolesLeast_p287:Part1 (laws_FnPolesLeast_p0.Q3):=by
 refine Part1.mk ?Q1 (fun F2=> ?main)
 case main=>
  iterate 347 (intro _)
  intro k A0 c0 l0 A1 c1 l1 r w z4 z5 F3 F4 F5 F6 A3 i7 i8 A5 l8 i9 n7 A6 z6 z7 z8 A7 k3 n8 A8 z9 B0 A9 k8 C0 F7 C1 C2 F8 l9 m4 C3 F9 C4 C5 C6 G1 C7 _ nd G2 _ l6 G3 n9 o0 m5 m6 m7 m8 _ _ _ G4 G5 _ l7 G6 o1 o2 d5 d6 m9 n0 _ G7 G8 _ o3 G9 o4 o5 d7 d8 d9 e6 C8 C9 _ H1 _ H2 _ H3 o6 _ _ H4 D0 _ _ H5 _ o7 H6 o8 o9 a9 b6 b7 b8 e7 e9 p3 p4 p5 p6 _ _ H7 hb p7 H8 p8 p9 q3 HB f8 f9 b9 g8 g9 c9 i3 i4 q4 i5 i6 d4 D1 D2 D3 D4 H9 I0 q5 q6 q7 q8 q9 r5 r6 r7 r8 r9 _ _ wc hcut
  (clear C7);obtain⟨kq,k9,rfl,HA,n3,d3,a4,a5,a6,a7,a8,b9,c9,d4,HB⟩:=hcut
  cases kq with
  |zero=>exact absurd HA.out (by simp[laws_FnPolesLeast.j0])
  |succ n4=>
   have H:=HA.out;clear HA
   simp only[laws_FnPolesLeast.j0]at H
   by_cases z3:k9=true
   ·
    subst z3
    rw[if_pos rfl]at H
    exact absurd H (by simp)
   ·
    replace z3:=Bool.eq_false_iff.mpr z3
    subst z3
    rw[if_neg Bool.false_ne_true]at H
    have k4:=Aside0.mk H;clear H
    go_upto_if 177 with(fail)
    go_cut [] (fun wc=> ∃(kq:Nat),Aside0 (laws_FnPolesLeast.j1 kq l1 n7 k3 k8 i7 i8 l8 i9=some r)∧Aside0 (kq≤n4)∧Aside0 (Kd.R (Kd.int .i64) 3 wc w.heap.size (fun _ =>True) o6 k8)∧Aside0 (Kd.R (Kd.int .i64) 3 wc w.heap.size (fun _ =>True) (.slice m5 i7.length m6) i7)∧Aside0 (Kd.Q (Kd.int .i64) 3 wc w.heap.size (fun _ =>True) (.slice m7 i8.length m8) i8)∧Aside0 (Kd.R (Kd.int .i64) 3 wc w.heap.size (fun _ =>True) (.slice m9 i9.length n0) i9)∧Aside0 (wc.heap[l6]? =some (.cells #[(.slice m5 i7.length m6),(.slice m7 i8.length m8)] 26 (0,0)))∧Aside0 (wc.heap[l7]? =some (.cells #[.int .i64 l8,(.slice m9 i9.length n0)] 29 (0,0)))∧Aside0 (Below w.heap.size w wc))
    case first=>as_aux_lemma=>
     (repeat(rename World.cell? _ _ = _ =>z_;clear z_));(repeat(rename World.frozen? _ _ = _ =>z_;clear z_))
     have H:=k4.out;clear k4
     by_cases l3:n8=true
     ·
      subst l3
      rw[if_pos rfl]at H
      replace H:=Zb0 H;obtain⟨⟨n5,D5⟩,D6,H⟩:=H;(try dsimp only at H)
      by_cases l4:D5=true
      ·
       subst l4
       rw[if_pos rfl]at H
       replace H:=Zif H;obtain⟨n6,H⟩:=H;have k6:(n5 == k3)=true:=beq_iff_eq.mpr n6;have D7:(n5 != k3)=false:=bne_eq_false_iff_eq.mpr n6;clear n6
       (first|rw[k6]|(simp only[i64_w,i32_w];rw[k6])|skip)
       by_cases l5:(((k8.length:Int) == 0) != (k3 == 0))=true
       ·
        rw[if_pos l5]at H
        exact absurd H (by simp)
       · as_aux_lemma=>
        rw[if_neg l5]at H;obtain⟨D8,D9,E0⟩:=Zd l5;clear l5;have H':=Aside0.mk H;clear H;have E6:=b6.out;have E7:=a9.out;have E8:=b8.out;have E9:=b7.out;obtain⟨s6,s7,s9,t0⟩:=Z2 d4
        go_wp2_with (first|((with_reducible refine gate_callee (f:=8) rfl ?_);refine Ga (some 180) Try.func8 #[.agg #[.slice p3 l9.length p4,.slice p5 m4.length p6]] (h:= ?_);(with_reducible refine(impl_PoleInversions.calls n4 _ _ l9 _ _ m4 n5 true _ ?t8 ?t9 ?y8 ?y9 D6.out).mono ?_);(case t8=>exact Zca (Kd.R_reads' a7.out).2.2);(case t9=>exact(Kd.R_reads' a7.out).2.1);(case y8=>exact Zca (Kd.Q_reads' a8.out).2.2);(case y9=>exact(Kd.Q_reads' a8.out).2.1);rintro e I1 ⟨rfl,hb⟩;refine⟨_,rfl, ?_⟩;replace d3:=Zo d3 hb;replace a4:=Zo a4 hb;replace a5:=Zm (Kd.Q_below (Zrq (a5.out)) hb);replace a6:=Zo a6 hb;replace a7:=Zo a7 hb;replace a8:=Zm (Kd.Q_below (Zrq (a8.out)) hb);replace b9:=Zk b9 hb;replace c9:=Zk c9 hb;replace d4:=Zk d4 hb;replace HB:=Zh HB hb;obtain⟨F0,F1,z2⟩:=Kd.R_slice d3.out;subst z2))
        go_meet
        case rel=>exact⟨_,H',⟨by have:=n3.out;first|omega|exact Nat.le_refl _⟩,⟨Zr d3⟩,⟨Zr a4⟩,⟨Zrq (a5.out)⟩,⟨Zr a6⟩,⟨Zb b9⟩,⟨Zb c9⟩,⟨Zl HB⟩⟩
      ·
       replace l4:=Bool.eq_false_iff.mpr l4
       subst l4
       rw[if_neg Bool.false_ne_true]at H
       exact absurd H (by simp)
     · as_aux_lemma=>
      replace l3:=Bool.eq_false_iff.mpr l3
      subst l3
      rw[if_neg Bool.false_ne_true]at H
      have H':=Aside0.mk H;clear H
      go_wp2
      go_meet
      case rel=>exact⟨_,H',⟨by have:=n3.out;first|omega|exact Nat.le_refl _⟩,⟨Zr d3⟩,⟨Zr a4⟩,⟨Zrq (a5.out)⟩,⟨Zr a6⟩,⟨Zb b9⟩,⟨Zb c9⟩,⟨Zl HB⟩⟩
    case rest=>
     (repeat(rename World.cell? _ _ = _ =>z_;clear z_));(repeat(rename World.frozen? _ _ = _ =>z_;clear z_));(repeat(rename @Ne Nat _ _ =>z_;clear z_))
     revert k A0 c0 l0 A1 c1 l1 r w z4 z5 F3 F4 F5 F6 A3 i7 i8 A5 l8 i9 n7 A6 z6 z7 z8 A7 k3 n8 A8 z9 B0 A9 k8 C0 F7 C1 C2 F8 l9 m4 C3 F9 C4 C5 C6 G1 nd G2 l6 G3 n9 o0 m5 m6 m7 m8 G4 G5 l7 G6 o1 o2 d5 d6 m9 n0 G7 G8 o3 G9 o4 o5 d7 d8 d9 e6 C8 C9 H1 H2 H3 o6 H4 D0 H5 o7 H6 o8 o9 a9 b6 b7 b8 e7 e9 p3 p4 p5 p6 H7 hb p7 H8 p8 p9 q3 f8 f9 g8 g9 i3 i4 q4 i5 i6 D1 D2 D3 D4 H9 I0 q5 q6 q7 q8 q9 r5 r6 r7 r8 r9 d3 a4 a5 a6 a7 a8 b9 c9 d4 HB n4 n3 k4 wc hcut;iterate 693 (rename _ =>z_;revert z_)
     exact F2.out
end Go.Proofs.Ytnagcjhgojchlaa.Q
