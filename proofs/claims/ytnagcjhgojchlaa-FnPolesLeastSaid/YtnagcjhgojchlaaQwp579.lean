/- Each function below comes to the Lean function beside it (theorems '.calls'); no condition beyond each theorem's own. Written by our program oprint.py over the kit's print. -/
import Derived.Test.YtnagcjhgojchlaaQwp555
namespace Go.Proofs.Ytnagcjhgojchlaa.Q
open Go.RowKit Go.Proofs.YtnagcjhgojchlaaW.PrintWords Go.Proofs.YtnagcjhgojchlaaW.PrintLast Go.Proofs.YtnagcjhgojchlaaW.PrintMore
attribute [local go_sem] max2_int min2_int max_two min_two max_three min_three max_four min_four
set_option linter.unusedVariables false
set_option linter.unusedSimpArgs false
set_option maxHeartbeats 8000000 in
set_option maxRecDepth 100000 in
def laws_FnPolesLeast_p579:Part1 (laws_FnPolesLeast_p555.Q1):=by
 refine Part1.mk ?Q1 (fun I6=> ?main)
 case main=>
  iterate 1390 (intro _)
  intro k A0 c0 l0 A1 c1 l1 r w B0 C0 I7 I8 I9 J0 A3 C1 C2 A5 C3 C4 C5 A6 C6 C7 C8 A7 C9 D0 A8 D1 D2 A9 D3 D4 J1 D5 D6 J2 D7 D8 D9 J3 E0 E6 E7 J4 _ nd J5 _ n9 J6 o0 o1 E8 E9 F0 F1 _ _ _ J7 J8 _ o2 J9 o3 o4 f9 g8 F2 F3 _ K0 K1 _ o5 K2 o6 o7 g9 i3 i4 i5 F4 F5 _ K3 _ K4 _ K5 F6 _ _ K6 F7 _ _ K7 _ o8 K8 o9 p3 i6 i7 i8 i9 k3 k4 F8 F9 G1 G2 _ _ K9 _ p4 L2 p5 p6 p7 _ k6 k8 _ k9 l3 _ l4 l5 p8 l6 l7 _ G3 G4 G5 G6 _ _ p9 q3 q4 q5 q6 q7 q8 q9 r5 r6 _ _ _ _ l8 l9 _ _ r7 _ G7 n7 r8 m4 m5 m6 r9 s6 _ G8 n8 s7 m8 b8 d5 G9 n6 L3 H1 H2 H3 H4 H5 _ m9 H6 s9 t0 a8 a9 b9 c9 _ L4 L5 H7 H8 _ H9 hb t8 t9 _ _ wc a4 a5 d3 HB n0 n3 _ _ H I0
  subst I0
  rw[if_pos rfl]at H
  have H':=Aside0.mk H;clear H;obtain⟨y8,y9,z2,z3⟩:=Z2 d3
  go_wp2_with (first|((with_reducible refine gate_dst (N:=33) rfl ?_);(try(refine gate_guard (by rfl) ?_;dsimp only));refine Zbe 33 #[.slice none 0 0,.slice none 0 0] 26 ?_;intro n4 hg I1 hbox hb;replace a4:=Zo a4 hb;replace a5:=Zm (Kd.Q_below (Zrq (a5.out)) hb);have d4:=Zm (hbox);have z4:=Zx hg HB;have z5:=Zx hg HB;replace HB:=Zh HB hb;have d9:=Zq hg d3;have e6:=Zp hg d3;replace d3:=Zk d3 hb;clear hb hbox hg;have I2:=e6.out;have I3:=d9.out;obtain⟨z6,z7,z8,z9⟩:=Z2 d4))
  go_loopg [34,35] n0 (fun kq L6 L7 w'=> ∃(e7:Bool) (e9:Int) (a6:List Int) (a7:List Int) (b6:Value) (b7:Value),L6= .bool e7∧L7= .int .i64 e9∧Aside0 (laws_FnPolesLeast.l0 kq l1 n6 e7 e9 b8 d5 a6 a7=some r)∧Aside0 (kq≤n0)∧Aside0 (Kd.R (Kd.int .i64) 3 w' w.heap.size (fun _ =>True) (.slice a8 b8.length a9) b8)∧Aside0 (Kd.Q (Kd.int .i64) 3 w' w.heap.size (fun _ =>True) (.slice b9 d5.length c9) d5)∧Aside0 (Kd.R (Kd.int .i64) 3 w' w.heap.size (fun _ =>True) b6 a6)∧Aside0 (Kd.Q (Kd.int .i64) 3 w' w.heap.size (fun _ =>True) b7 a7)∧Aside0 (w'.heap[m9]? =some (.cells #[(.slice a8 b8.length a9),(.slice b9 d5.length c9)] 26 (0,0)))∧Aside0 (w'.heap[n4]? =some (.cells #[b6,b7] 26 (0,0)))∧Aside0 (Below w.heap.size w w'))
  case atStart=>exact⟨(true),(1),(b8),(d5),(.slice a8 b8.length a9),(.slice b9 d5.length c9),Zs,Zs,H',⟨Nat.le_refl _⟩,⟨Zrr (Zfm a4 d4 (.slice a8 b8.length a9) (.slice b9 d5.length c9) (fun _ hk=>trivial))⟩,⟨Zrq (Zfq a5 d4 (.slice a8 b8.length a9) (.slice b9 d5.length c9) (fun _ hk=>trivial))⟩,⟨Zrr (Zfm a4 d4 (.slice a8 b8.length a9) (.slice b9 d5.length c9) (fun _ hk=>trivial))⟩,⟨Zrq (Zfq a5 d4 (.slice a8 b8.length a9) (.slice b9 d5.length c9) (fun _ hk=>trivial))⟩,⟨Zbf d3⟩,⟨by refine Zrb ?_;refine blk_put (cs:= #[.slice a8 b8.length a9,.slice none 0 0]) ?_ 1 _ rfl;refine Zrb ?_;refine blk_put (cs:= #[.slice none 0 0,.slice none 0 0]) ?_ 0 _ rfl;refine Zrb ?_;exact d4.out⟩,⟨Zl HB⟩⟩
  case round=>
   (repeat(rename World.cell? _ _ = _ =>z_;clear z_));(repeat(rename World.frozen? _ _ = _ =>z_;clear z_));(repeat(rename @Ne Nat _ _ =>z_;clear z_))
   (clear H');obtain⟨e7,e9,a6,a7,b6,b7,rfl,rfl,HA,I4,a4,a5,d6,d7,d3,d4,HB⟩:=hrel
   cases gk with
   |zero=>exact absurd HA.out (by simp[laws_FnPolesLeast.l0])
   |succ k5=>
    have H:=HA.out;clear HA
    simp only[laws_FnPolesLeast.l0]at H
    have n5:=Aside0.mk H;clear H
    go_upto_region 32 with(fail)
    go_cut [273] (fun I5 wc=> ∃(kq:Nat) (f8:Bool),I5= .bool f8∧Aside0 (laws_FnPolesLeast.j5 kq l1 n6 e7 e9 f8 b8 d5 a6 a7=some r)∧Aside0 (kq≤k5)∧Aside0 (Kd.R (Kd.int .i64) 3 wc w.heap.size (fun _ =>True) (.slice a8 b8.length a9) b8)∧Aside0 (Kd.Q (Kd.int .i64) 3 wc w.heap.size (fun _ =>True) (.slice b9 d5.length c9) d5)∧Aside0 (Kd.R (Kd.int .i64) 3 wc w.heap.size (fun _ =>True) b6 a6)∧Aside0 (Kd.Q (Kd.int .i64) 3 wc w.heap.size (fun _ =>True) b7 a7)∧Aside0 (wc.heap[m9]? =some (.cells #[(.slice a8 b8.length a9),(.slice b9 d5.length c9)] 26 (0,0)))∧Aside0 (wc.heap[n4]? =some (.cells #[b6,b7] 26 (0,0)))∧Aside0 (Below w.heap.size w wc))
    case first=>as_aux_lemma=>
     (repeat(rename World.cell? _ _ = _ =>z_;clear z_));(repeat(rename World.frozen? _ _ = _ =>z_;clear z_))
     have H:=n5.out;clear n5
     by_cases m7:e9<n6
     · as_aux_lemma=>
      rw[if_pos m7]at H;have d8:=decide_eq_true m7;clear m7
      (first|rw[d8]|(simp only[i64_w,i32_w];rw[d8])|skip)
      have H':=Aside0.mk H;clear H
      go_wp2
      go_meet
      case rel=>exact⟨_,(e7),Zs,H',⟨by have:=n7.out;have:=n8.out;have:=m8.out;have:=n3.out;have:=I4.out;first|omega|exact Nat.le_refl _⟩,⟨Zr a4⟩,⟨Zrq (a5.out)⟩,⟨Zr d6⟩,⟨Zrq (d7.out)⟩,⟨Zb d3⟩,⟨Zb d4⟩,⟨Zl HB⟩⟩
     · as_aux_lemma=>
      rw[if_neg m7]at H;have d8:=decide_eq_false m7;clear m7
      (first|rw[d8]|(simp only[i64_w,i32_w];rw[d8])|skip)
      have H':=Aside0.mk H;clear H
      go_wp2
      go_meet
      case rel=>exact⟨_,(false),Zs,H',⟨by have:=n7.out;have:=n8.out;have:=m8.out;have:=n3.out;have:=I4.out;first|omega|exact Nat.le_refl _⟩,⟨Zr a4⟩,⟨Zrq (a5.out)⟩,⟨Zr d6⟩,⟨Zrq (d7.out)⟩,⟨Zb d3⟩,⟨Zb d4⟩,⟨Zl HB⟩⟩
    case rest=>
     (repeat(rename World.cell? _ _ = _ =>z_;clear z_));(repeat(rename World.frozen? _ _ = _ =>z_;clear z_));(repeat(rename @Ne Nat _ _ =>z_;clear z_))
     revert k A0 c0 l0 A1 c1 l1 r w B0 C0 I7 I8 I9 J0 A3 C1 C2 A5 C3 C4 C5 A6 C6 C7 C8 A7 C9 D0 A8 D1 D2 A9 D3 D4 J1 D5 D6 J2 D7 D8 D9 J3 E0 E6 E7 J4 nd J5 n9 J6 o0 o1 E8 E9 F0 F1 J7 J8 o2 J9 o3 o4 f9 g8 F2 F3 K0 K1 o5 K2 o6 o7 g9 i3 i4 i5 F4 F5 K3 K4 K5 F6 K6 F7 K7 o8 K8 o9 p3 i6 i7 i8 i9 k3 k4 F8 F9 G1 G2 K9 p4 L2 p5 p6 p7 k6 k8 k9 l3 l4 l5 p8 l6 l7 G3 G4 G5 G6 p9 q3 q4 q5 q6 q7 q8 q9 r5 r6 l8 l9 r7 G7 n7 r8 m4 m5 m6 r9 s6 G8 n8 s7 m8 b8 d5 G9 n6 H2 H3 H4 H5 m9 H6 s9 t0 a8 a9 b9 c9 L4 L5 H7 H8 H9 hb t8 t9 n0 n3 H1 n4 I1 z4 z5 d9 e6 wr e7 e9 a6 a7 b6 b7 a4 a5 d6 d7 d3 d4 HB k5 I4 n5 wc hcut;iterate 1449 (rename _ =>z_;revert z_)
     exact I6.out
end Go.Proofs.Ytnagcjhgojchlaa.Q
