/- Each function below comes to the Lean function beside it (theorems '.calls'); no condition beyond each theorem's own. Written by our program oprint.py over the kit's print. -/
import Derived.Test.YtnagcjhgojchlaaQwp343
namespace Go.Proofs.Ytnagcjhgojchlaa.Q
open Go.RowKit Go.Proofs.YtnagcjhgojchlaaW.PrintWords Go.Proofs.YtnagcjhgojchlaaW.PrintLast Go.Proofs.YtnagcjhgojchlaaW.PrintMore
attribute [local go_sem] max2_int min2_int max_two min_two max_three min_three max_four min_four
set_option linter.unusedVariables false
set_option linter.unusedSimpArgs false
set_option maxHeartbeats 8000000 in
set_option maxRecDepth 100000 in
theorem laws_FnPolesLeast_p434:laws_FnPolesLeast_p343.Q2:=by
 iterate 696 (intro _)
 intro k A0 c0 l0 A1 c1 l1 r w E0 E6 I4 I5 I6 I7 A3 i7 i8 A5 e6 d8 E7 E8 E9 A7 q8 F0 A8 F1 F2 A9 F3 F4 I8 F5 F6 I9 F7 F8 F9 J0 G1 G2 G3 J1 _ nd J2 _ i3 J3 z3 z4 k3 k4 k6 k8 _ _ _ J4 J5 _ i4 J6 z5 z6 e7 e9 i9 i5 _ J7 J8 _ z7 J9 z8 z9 l4 l5 l6 l7 G4 G5 _ K0 _ K1 _ K2 G6 _ _ K3 G7 _ _ K4 _ B0 K5 C0 C1 l8 l9 m4 m5 m6 m7 G8 G9 H1 H2 _ _ K6 hb C2 K7 C3 C4 C5 _ m8 m9 _ n0 n3 _ n4 n5 C6 n6 n7 _ H3 H4 H5 H6 n8 n9 C7 C8 C9 D0 D1 D2 D3 D4 D5 D6 _ _ _ _ o0 o1 _ _ D7 _ H7 q9 wc b6 a5 a6 a4 a9 a7 HB k9 r5 _ A6 _ d3 d9 r6 r7 r8 r9 s6 H l3
 rw[if_neg l3]at H;have s7:decide (0<q8)=false:=decide_eq_false l3;clear l3;have H':=Aside0.mk H;clear H;have s9:=e9.out;have t0:=e7.out;obtain⟨o2,o3,o4,o5⟩:=Z2 a7
 try go_wp2_with (first|((with_reducible refine gate_callee (f:=19) rfl ?_);refine Ga (some 201) Try.func19 #[.agg #[.int .i64 e6,.slice i9 d8.length i5]] (h:= ?_);(with_reducible refine(impl_PoleResult.calls k9 e6 _ _ d8 d3 d9 true _ ?d4 ?d5 r6.out).mono ?_);(case d4=>exact Zca (Kd.R_reads' a4.out).2.2);(case d5=>exact(Kd.R_reads' a4.out).2.1);rintro e H8 ⟨H9,I0,rfl,n8,n9,hb⟩;refine⟨_,rfl, ?_⟩;have b7:=Zj (Zv (Kd.R_new' (Zv (Zv n8 b6) a5) (Kd.Q_lt (Zrq (a6.out)))) a4) HB;have b8:=Zj (Zv (Kd.R_new' (Zv (Zv n9 b6) a5) (Kd.Q_lt (Zrq (a6.out)))) a4) HB;replace b6:=Zu b6 hb n8 n9;replace a5:=Zu a5 hb n8 n9;replace a6:=Zm (Kd.Q_mono (Kd.Q_told (Kd.Q_told (Kd.Q_old (Zrq (a6.out)) hb) (Kd.R_base n8)) (Kd.R_base n9)) (fun _ h_=>h_.1));replace a4:=Zu a4 hb n8 n9;replace a9:=Zk a9 hb;replace a7:=Zk a7 hb;replace HB:=Zh HB hb)|((with_reducible refine gate_dst (N:=24) rfl ?_);(try(refine gate_guard (by rfl) ?_;dsimp only));refine Zbe 24 #[.slice none 0 0,.slice none 0 0] 26 ?_;intro i6 hg I1 hbox hb;replace b6:=Zo b6 hb;replace a5:=Zo a5 hb;replace a6:=Zm (Kd.Q_below (Zrq (a6.out)) hb);replace a4:=Zo a4 hb;replace b7:=Zo b7 hb;replace b8:=Zo b8 hb;have a8:=Zm (hbox);have D8:=Zx hg HB;have D9:=Zx hg HB;replace HB:=Zh HB hb;have f8:=Zq hg a9;have f9:=Zp hg a9;replace a9:=Zk a9 hb;have g8:=Zq hg a7;have g9:=Zp hg a7;replace a7:=Zk a7 hb;clear hb hbox hg;obtain⟨b9,c9,o6⟩:=Kd.R_slice b7.out;subst o6;have t8:=f9.out;have t9:=f8.out;have y8:=g9.out;have y9:=g8.out;obtain⟨o7,o8,o9,p3⟩:=Z2 a8;obtain⟨d6,d7,p4⟩:=Kd.R_slice b8.out;subst p4;obtain⟨p5,p6,p7,p8⟩:=Z2 a7)|((with_reducible refine gate_callee (f:=20) rfl ?_);refine Ga (some 206) Try.func20 #[.agg #[.int .i64 e6,.slice i9 d8.length i5]] (h:= ?_);(with_reducible refine(impl_IsLeastPole.calls k9 e6 _ _ d8 true true _ ?d4 ?d5 s6.out).mono ?_);(case d4=>refine(Kd.R_reads' (e:=3) (base:=w.heap.size) (ok:=fun k_=>((True∧Zn k_ (.slice b9 d3.length c9))∧Zn k_ (.slice d6 d9.length d7))) (n:=d8.length) (c:=i5) ?_).2.2;exact(Zy a4 a8));(case d5=>exact(Kd.R_reads' a4.out).2.1);rintro e z2 ⟨rfl,hb⟩;refine⟨_,rfl, ?_⟩;replace b6:=Zm (Kd.R_below (Zy b6 a8) hb);replace a5:=Zm (Kd.R_below (Zy a5 a8) hb);replace a6:=Zm (Kd.Q_below (Zrq ((Zfq a6 a8 (.slice b9 d3.length c9) (.slice d6 d9.length d7) (fun _ h_=>h_.1)))) hb);replace a4:=Zm (Kd.R_below (Zy a4 a8) hb);replace b7:=Zm (Kd.R_below (Zy b7 a8) hb);replace b8:=Zm (Kd.R_below (Zy b8 a8) hb);replace a9:=Zm (blk_below (g:=i3) (o:= .cells #[.slice k3 i7.length k4,.slice k6 i8.length k8] 26 (0,0)) (Zbf a9) hb);replace a7:=Zm (blk_below (g:=i4) (o:= .cells #[.int .i64 e6,.slice i9 d8.length i5] 29 (0,0)) (Zbf a7) hb);replace a8:=Zm (blk_below (g:=i6) (o:= .cells #[.slice b9 d3.length c9,.slice d6 d9.length d7] 26 (0,0)) (by refine Zrb ?_;refine blk_put (cs:= #[.slice b9 d3.length c9,.slice none 0 0]) ?_ 1 _ rfl;refine Zrb ?_;refine blk_put (cs:= #[.slice none 0 0,.slice none 0 0]) ?_ 0 _ rfl;refine Zrb ?_;exact a8.out) hb);replace HB:=Zh HB hb))
 replace b6:=Zm (Kd.R_drew b6.out);replace a5:=Zm (Kd.R_drew a5.out);replace a6:=Zm (Kd.Q_drew a6.out);replace a4:=Zm (Kd.R_drew a4.out);replace b7:=Zm (Kd.R_drew b7.out);replace b8:=Zm (Kd.R_drew b8.out);replace a9:=Zm (blk_drew a9.out);replace a7:=Zm (blk_drew a7.out);replace a8:=Zm (blk_drew a8.out);replace HB:=Zm (below_drew1 HB.out)
 refine start_ (n:=37) (S:=fun w'=>w'.cell? ⟨i6,0,none⟩=some (.slice b9 d3.length c9)∧w'.cell? ⟨i6,1,none⟩=some (.slice d6 d9.length d7)∧w'.cell? ⟨i3,0,none⟩=some (.slice k3 i7.length k4)∧w'.cell? ⟨i3,1,none⟩=some (.slice k6 i8.length k8)∧w'.cell? ⟨i4,0,none⟩=some (.int .i64 e6)∧w'.cell? ⟨i4,1,none⟩=some (.slice i9 d8.length i5)) (ds:= []) (fl 37 0) (by kernel_rfl) rfl rfl ⟨Zc0 a8 0,Zc0 a8 1,Zc0 a9 0,Zc0 a9 1,Zc0 a7 0,Zc0 a7 1⟩ (fun hHeld=> ?_);refine with_tabW laws_FnPolesLeast.tab21 laws_FnPolesLeast.bits21 (fun HT_ HW_=> ?_)
 generalize z2.drew=I2 at b6 a5 a6 a4 b7 b8 a9 a7 a8 HB hHeld ⊢;refine Yu 0 209 (fl 37 1) HT_ (h:= ?_);refine Yu 1 210 (fl 37 3) HT_ (h:= ?_);refine Yu 2 211 (fl 37 7) HT_ (h:= ?_);refine Yt 3 212 (fl 37 15) HT_ HW_ hHeld (h:= ?_);refine Yt 4 213 (fl 37 31) HT_ HW_ hHeld (h:= ?_)
 refine one_ (i:=5) (N:=some 214) (fl 37 63) rfl rfl (one_of HT_.out (by kernel_rfl)) (by decide) (fun K hK=> ?_)
 refine goes_ Try.func16 (by kernel_rfl) rfl #[.agg #[.slice b9 d3.length c9,.slice d6 d9.length d7],.agg #[.slice k3 i7.length k4,.slice k6 i8.length k8]] (by rfl) rfl rfl (by(try simp only[List.map_toArray,List.map_cons,List.map_nil]);first|done|rfl) ?_
 with_reducible refine(laws_kTurned.calls k9 _ _ d3 _ _ d9 _ _ i7 _ _ i8 true _ ?d4 ?d5 ?p9 ?q3 ?q4 ?q5 ?q6 ?q7 r7.out).mono ?_
 (case d4=>exact Zca (Kd.R_reads' b7.out).2.2)
 (case d5=>exact(Kd.R_reads' b7.out).2.1)
 (case p9=>exact Zca (Kd.R_reads' b8.out).2.2)
 (case q3=>exact(Kd.R_reads' b8.out).2.1)
 (case q4=>exact Zca (Kd.R_reads' a5.out).2.2)
 (case q5=>exact(Kd.R_reads' a5.out).2.1)
 (case q6=>exact Zca (Kd.Q_reads' a6.out).2.2)
 (case q7=>exact(Kd.Q_reads' a6.out).2.1)
 rintro e I3 ⟨rfl,hb⟩
 refine⟨_,rfl, ?_⟩
 replace b6:=Zo b6 hb;replace a5:=Zo a5 hb;replace a6:=Zm (Kd.Q_below (Zrq (a6.out)) hb);replace a4:=Zo a4 hb;replace b7:=Zo b7 hb;replace b8:=Zo b8 hb;replace a9:=Zk a9 hb;replace a7:=Zk a7 hb;replace a8:=Zk a8 hb;replace HB:=Zh HB hb
 refine hK.out _ _ ⟨Zc0 a8 0,Zc0 a8 1,Zc0 a9 0,Zc0 a9 1,Zc0 a7 0,Zc0 a7 1⟩ (fun hHeld=> ?_)
 clear hK K;refine Yn 214 (h:= ?_);refine Yu 6 215 (fl 37 127) HT_ (h:= ?_);refine Yu 7 216 (fl 37 255) HT_ (h:= ?_);refine Yu 8 217 (fl 37 511) HT_ (h:= ?_);refine Yu 9 218 (fl 37 1023) HT_ (h:= ?_);refine Yu 12 221 (fl 37 5119) HT_ (h:= ?_);refine Yt 10 219 (fl 37 6143) HT_ HW_ hHeld (h:= ?_);refine Yu 11 220 (fl 37 8191) HT_ (h:= ?_);refine Yu 13 222 (fl 37 16383) HT_ (h:= ?_);refine Yu 14 223 (fl 37 32767) HT_ (h:= ?_);refine Yu 15 224 (fl 37 65535) HT_ (h:= ?_);refine Yu 16 225 (fl 37 131071) HT_ (h:= ?_);refine Yu 17 226 (fl 37 262143) HT_ (h:= ?_);refine Yu 18 227 (fl 37 524287) HT_ (h:= ?_);refine Yu 19 228 (fl 37 1048575) HT_ (h:= ?_);refine Yu 20 229 (fl 37 2097151) HT_ (h:= ?_);refine Yu 21 230 (fl 37 4194303) HT_ (h:= ?_);refine Yu 22 231 (fl 37 8388607) HT_ (h:= ?_);refine Yu 23 232 (fl 37 16777215) HT_ (h:= ?_);refine Yu 24 233 (fl 37 33554431) HT_ (h:= ?_);refine Yu 25 234 (fl 37 67108863) HT_ (h:= ?_);refine Yu 26 235 (fl 37 134217727) HT_ (h:= ?_)
 refine pure_ (i:=27) (N:=some 236) (v:=undef) (a':= ?_) (fl 37 268435455) rfl rfl (any_of HT_.out (by kernel_rfl)) (fun _ _ _ h=>h) (Or.inr ⟨by rfl,rfl⟩) ?_ ?_
 rotate_left
 ·
  simp only[Act.put,List.setIfInBounds_toArray,List.set_cons_zero,List.set_cons_succ,i64_w,i32_w]
  rfl
 refine pure_ (i:=28) (N:=some 237) (v:=undef) (a':= ?_) (fl 37 536870911) rfl rfl (any_of HT_.out (by kernel_rfl)) (fun _ _ _ h=>h) (Or.inr ⟨by rfl,rfl⟩) ?_ ?_
 rotate_left
 ·
  simp only[Act.put,List.setIfInBounds_toArray,List.set_cons_zero,List.set_cons_succ,i64_w,i32_w]
  rfl
 refine pure_ (i:=29) (N:=some 238) (v:=undef) (a':= ?_) (fl 37 1073741823) rfl rfl (any_of HT_.out (by kernel_rfl)) (fun _ _ _ h=>h) (Or.inr ⟨by rfl,rfl⟩) ?_ ?_
 rotate_left
 ·
  simp only[Act.put,List.setIfInBounds_toArray,List.set_cons_zero,List.set_cons_succ,i64_w,i32_w]
  rfl
 refine pure_ (i:=30) (N:=some 239) (v:=undef) (a':= ?_) (fl 37 2147483647) rfl rfl (any_of HT_.out (by kernel_rfl)) (fun _ _ _ h=>h) (Or.inr ⟨by rfl,rfl⟩) ?_ ?_
 rotate_left
 ·
  simp only[Act.put,List.setIfInBounds_toArray,List.set_cons_zero,List.set_cons_succ,i64_w,i32_w]
  rfl
 refine pure_ (i:=31) (N:=some 240) (v:=undef) (a':= ?_) (fl 37 4294967295) rfl rfl (any_of HT_.out (by kernel_rfl)) (fun _ _ _ h=>h) (Or.inr ⟨by rfl,rfl⟩) ?_ ?_
 rotate_left
 ·
  simp only[Act.put,List.setIfInBounds_toArray,List.set_cons_zero,List.set_cons_succ,i64_w,i32_w]
  rfl
 refine pure_ (i:=32) (N:=some 241) (v:=undef) (a':= ?_) (fl 37 8589934591) rfl rfl (any_of HT_.out (by kernel_rfl)) (fun _ _ _ h=>h) (Or.inr ⟨by rfl,rfl⟩) ?_ ?_
 rotate_left
 ·
  simp only[Act.put,List.setIfInBounds_toArray,List.set_cons_zero,List.set_cons_succ,i64_w,i32_w]
  rfl
 refine pure_ (i:=33) (N:=some 242) (v:=undef) (a':= ?_) (fl 37 17179869183) rfl rfl (any_of HT_.out (by kernel_rfl)) (fun _ _ _ h=>h) (Or.inr ⟨by rfl,rfl⟩) ?_ ?_
 rotate_left
 ·
  simp only[Act.put,List.setIfInBounds_toArray,List.set_cons_zero,List.set_cons_succ,i64_w,i32_w]
  rfl
 refine pure_ (i:=34) (N:=some 243) (v:=undef) (a':= ?_) (fl 37 34359738367) rfl rfl (any_of HT_.out (by kernel_rfl)) (fun _ _ _ h=>h) (Or.inr ⟨by rfl,rfl⟩) ?_ ?_
 rotate_left
 ·
  simp only[Act.put,List.setIfInBounds_toArray,List.set_cons_zero,List.set_cons_succ,i64_w,i32_w]
  rfl
 refine Yu 35 244 (fl 37 68719476735) HT_ (h:= ?_);refine Yu 36 245 (fl 37 137438953471) HT_ (h:= ?_)
 refine done_ (done_of HT_.out (by kernel_rfl)) ?_
 try go_wp2
 go_meet
 case rel=>exact⟨_,H',⟨by have:=q9.out;have:=r5.out;first|omega|exact Nat.le_refl _⟩,⟨Zl HB⟩⟩
end Go.Proofs.Ytnagcjhgojchlaa.Q
