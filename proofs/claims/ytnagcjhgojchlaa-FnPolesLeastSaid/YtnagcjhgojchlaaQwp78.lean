/- Each function below comes to the Lean function beside it (theorems '.calls'); no condition beyond each theorem's own. Written by our program oprint.py over the kit's print. -/
import Derived.Test.YtnagcjhgojchlaaQwp0
namespace Go.Proofs.Ytnagcjhgojchlaa.Q
open Go.RowKit Go.Proofs.YtnagcjhgojchlaaW.PrintWords Go.Proofs.YtnagcjhgojchlaaW.PrintLast Go.Proofs.YtnagcjhgojchlaaW.PrintMore
attribute [local go_sem] max2_int min2_int max_two min_two max_three min_three max_four min_four
set_option linter.unusedVariables false
set_option linter.unusedSimpArgs false
set_option maxHeartbeats 8000000 in
set_option maxRecDepth 100000 in
theorem laws_FnPolesLeast_p78:laws_FnPolesLeast_p0.Q1:=by
 iterate 6 (intro _)
 intro k A0 c0 l0 A1 c1 l1 r w H2 H3 J2 J3 J4 J5 A3 e7 e9 A5 l4 l5 q9 A6 l6 l7 H4 A7 r5 H5 A8 H6 H7 A9 p6 H8 J6 p7 H9 J7 l8 l9 I0 J8 f9 i5 I1 J9 _ nd K0 _ i6 K1 y8 y9 i7 i8 i9 k3 _ _ _ K2 K3 _ k4 K4 z2 z3 n7 n8 z4 z5 m6 m7 _ K5 K6 _ k6 K7 z6 z7 n9 o0 o1 o2 z8 z9 B0 C0 m8 m9 _ K8 _ K9 _ L2 I2 _ _ L3 I3 _ _ L4 _ k8 L5 C1 C2 o3 o4 o5 o6 o7 o8 n0 n3 C3 C4 C5 C6 C7 C8 n4 n5 _ _ L6 hb f8 I4 a4 C9 D0 HB g8 o9 a5 g9 p3 a6 i3 p4 a8 i4 p5 a7 k9 l3 D1 D2 D3 D4 D5 D6 D7 D8 m4 m5 L7 L8 a9 b6 b8 d4 b7 b9 c9 d3 d5 d6 _ _ _ D9 E0 E6 I5 E7 E8 E9 F0 F1 F2 F3 F4 I6 F5 F6 F7 I7 r6 I8 F8 F9 G1 r7 I9 r8 J0 G2 G3 G4 G5 G6 G7 H G8 G9 H1 J1
 subst J1
 rw[if_pos rfl]at H
 have H':=Aside0.mk H;clear H
 try go_wp2
 generalize hW_:((I4.setCell ⟨f8,0,none⟩ (.slice k9 f9.length l3)).setCell ⟨f8,1,none⟩ (.slice m4 i5.length m5))=n6;replace a9:=Zw2 hW_ a9 a4;replace b6:=Zq2 hW_ b6 a4;replace b8:=Zw2 hW_ b8 a4;replace d4:=Zw2 hW_ d4 a4;replace b7:=Zw2 hW_ b7 a4;replace b9:=Zw2 hW_ b9 a4;replace c9:=Zw2 hW_ c9 a4;replace d3:=Zw2 hW_ d3 a4;replace d5:=Zw2 hW_ d5 a4;replace d6:=Zw2 hW_ d6 a4;replace a5:Aside0 (n6.heap[i6]? =some (.cells #[.slice i7 e7.length i8,.slice i9 e9.length k3] 26 (0,0))):=⟨by rw[←hW_];exact Yf a5 g8⟩;replace a6:Aside0 (n6.heap[k4]? =some (.cells #[.int .i64 l4,.slice m6 l5.length m7] 29 (0,0))):=⟨by rw[←hW_];exact Yf a6 g9⟩;replace a8:Aside0 (n6.heap[k6]? =some (.cells #[.int .i64 l6,.slice m8 l7.length m9] 29 (0,0))):=⟨by rw[←hW_];exact Yf a8 i3⟩;replace a7:Aside0 (n6.heap[k8]? =some (.cells #[.slice n0 l8.length n3,.slice n4 l9.length n5] 26 (0,0))):=⟨by rw[←hW_];exact Yf a7 i4⟩;replace a4:Aside0 (n6.heap[f8]? =some (.cells #[.slice k9 f9.length l3,.slice m4 i5.length m5] 26 (0,0))):=⟨by rw[←hW_];refine Zrb ?_;refine blk_put (cs:= #[.slice k9 f9.length l3,.slice none 0 0]) ?_ 1 _ rfl;refine Zrb ?_;refine blk_put (cs:= #[.slice none 0 0,.slice none 0 0]) ?_ 0 _ rfl;refine Zrb ?_;exact a4.out⟩;replace HB:Aside0 (Below w.heap.size w n6):=⟨by rw[←hW_];exact Zl HB⟩;clear hW_;replace a9:=Zm (Kd.R_drew a9.out);replace b6:=Zm (Kd.Q_drew b6.out);replace b8:=Zm (Kd.R_drew b8.out);replace d4:=Zm (Kd.R_drew d4.out);replace b7:=Zm (Kd.R_drew b7.out);replace b9:=Zm (Kd.R_drew b9.out);replace c9:=Zm (Kd.R_drew c9.out);replace d3:=Zm (Kd.R_drew d3.out);replace d5:=Zm (Kd.R_drew d5.out);replace d6:=Zm (Kd.R_drew d6.out);replace a5:=Zm (blk_drew a5.out);replace a6:=Zm (blk_drew a6.out);replace a8:=Zm (blk_drew a8.out);replace a7:=Zm (blk_drew a7.out);replace a4:=Zm (blk_drew a4.out);replace HB:=Zm (below_drew1 HB.out)
 refine start_ (n:=73) (S:=fun w'=>w'.cell? ⟨k4,0,none⟩=some (.int .i64 l4)∧w'.cell? ⟨k4,1,none⟩=some (.slice m6 l5.length m7)∧w'.cell? ⟨k6,0,none⟩=some (.int .i64 l6)∧w'.cell? ⟨k6,1,none⟩=some (.slice m8 l7.length m9)∧w'.cell? ⟨k8,0,none⟩=some (.slice n0 l8.length n3)∧w'.cell? ⟨k8,1,none⟩=some (.slice n4 l9.length n5)∧w'.cell? ⟨f8,0,none⟩=some (.slice k9 f9.length l3)∧w'.cell? ⟨f8,1,none⟩=some (.slice m4 i5.length m5)∧w'.cell? ⟨i6,0,none⟩=some (.slice i7 e7.length i8)∧w'.cell? ⟨i6,1,none⟩=some (.slice i9 e9.length k3)) (ds:= []) (fl 73 0) (by kernel_rfl) rfl rfl ⟨Zc0 a6 0,Zc0 a6 1,Zc0 a8 0,Zc0 a8 1,Zc0 a7 0,Zc0 a7 1,Zc0 a4 0,Zc0 a4 1,Zc0 a5 0,Zc0 a5 1⟩ (fun hHeld=> ?_);refine with_tabW laws_FnPolesLeast.tab12 laws_FnPolesLeast.bits12 (fun HT_ HW_=> ?_)
 generalize n6.drew=L9 at a9 b6 b8 d4 b7 b9 c9 d3 d5 d6 a5 a6 a8 a7 a4 HB hHeld ⊢;refine Yu 0 104 (fl 73 1) HT_ (h:= ?_);refine Yu 1 105 (fl 73 3) HT_ (h:= ?_);refine Yu 2 106 (fl 73 7) HT_ (h:= ?_);refine Yu 3 107 (fl 73 15) HT_ (h:= ?_);refine Yt 4 108 (fl 73 31) HT_ HW_ hHeld (h:= ?_);refine Yt 5 109 (fl 73 63) HT_ HW_ hHeld (h:= ?_)
 refine one_ (i:=6) (N:=some 110) (fl 73 127) rfl rfl (one_of HT_.out (by kernel_rfl)) (by decide) (fun K hK=> ?_)
 refine goes_ Try.func14 (by kernel_rfl) rfl #[.agg #[.int .i64 l4,.slice m6 l5.length m7],.agg #[.int .i64 l6,.slice m8 l7.length m9]] (by rfl) rfl rfl (by(try simp only[List.map_toArray,List.map_cons,List.map_nil]);first|done|rfl) ?_
 with_reducible refine(laws_kPole.calls k l4 _ _ l5 l6 _ _ l7 true _ ?d7 ?d8 ?d9 ?e6 I5.out).mono ?_
 (case d7=>exact Zca (Kd.R_reads' b8.out).2.2)
 (case d8=>exact(Kd.R_reads' b8.out).2.1)
 (case d9=>exact Zca (Kd.R_reads' d4.out).2.2)
 (case e6=>exact(Kd.R_reads' d4.out).2.1)
 rintro e M0 ⟨rfl,hb⟩
 refine⟨_,rfl, ?_⟩
 replace a9:=Zo a9 hb;replace b6:=Zm (Kd.Q_below (Zrq (b6.out)) hb);replace b8:=Zo b8 hb;replace d4:=Zo d4 hb;replace b7:=Zo b7 hb;replace b9:=Zo b9 hb;replace c9:=Zo c9 hb;replace d3:=Zo d3 hb;replace d5:=Zo d5 hb;replace d6:=Zo d6 hb;replace a5:=Zk a5 hb;replace a6:=Zk a6 hb;replace a8:=Zk a8 hb;replace a7:=Zk a7 hb;replace a4:=Zk a4 hb;replace HB:=Zh HB hb
 obtain⟨r9,s6,p8⟩:=Kd.R_slice b7.out
 (first|subst p8|(injection p8 with p9 s7 q3;have s9:=p9.symm;have t0:=q3.symm;clear p9 s7 q3;subst s9;subst t0))
 obtain⟨t8,t9,q4⟩:=Kd.R_slice b9.out
 (first|subst q4|(injection q4 with p9 s7 q3;have s9:=p9.symm;have t0:=q3.symm;clear p9 s7 q3;subst s9;subst t0))
 refine hK.out _ _ ⟨Zc0 a6 0,Zc0 a6 1,Zc0 a8 0,Zc0 a8 1,Zc0 a7 0,Zc0 a7 1,Zc0 a4 0,Zc0 a4 1,Zc0 a5 0,Zc0 a5 1⟩ (fun hHeld=> ?_)
 clear hK K;refine Yn 110 (h:= ?_);refine Yu 7 111 (fl 73 255) HT_ (h:= ?_);refine Yu 8 112 (fl 73 511) HT_ (h:= ?_);refine Yu 9 113 (fl 73 1023) HT_ (h:= ?_);refine Yu 10 114 (fl 73 2047) HT_ (h:= ?_);refine Yu 11 115 (fl 73 4095) HT_ (h:= ?_);refine Yu 12 116 (fl 73 8191) HT_ (h:= ?_);refine Yu 13 117 (fl 73 16383) HT_ (h:= ?_);refine Yu 14 118 (fl 73 32767) HT_ (h:= ?_);refine Yu 15 119 (fl 73 65535) HT_ (h:= ?_);refine Yu 16 120 (fl 73 131071) HT_ (h:= ?_);refine Yu 17 121 (fl 73 262143) HT_ (h:= ?_);refine Yu 18 122 (fl 73 524287) HT_ (h:= ?_);refine Yu 19 123 (fl 73 1048575) HT_ (h:= ?_);refine Yu 20 124 (fl 73 2097151) HT_ (h:= ?_);refine Yu 21 125 (fl 73 4194303) HT_ (h:= ?_);refine Yu 22 126 (fl 73 8388607) HT_ (h:= ?_);refine Yu 23 127 (fl 73 16777215) HT_ (h:= ?_);refine Yu 24 128 (fl 73 33554431) HT_ (h:= ?_);refine Yu 25 129 (fl 73 67108863) HT_ (h:= ?_);refine Yu 26 130 (fl 73 134217727) HT_ (h:= ?_)
 refine one_ (i:=27) (N:=some 131) (fl 73 268435455) rfl rfl (one_of HT_.out (by kernel_rfl)) (by decide) (fun K hK=> ?_)
 refine goes_ Try.func15 (by kernel_rfl) rfl #[.slice r9 p6.length s6,.slice t8 p7.length t9] (by rfl) rfl rfl (by(try simp only[List.map_toArray,List.map_cons,List.map_nil]);first|done|rfl) ?_
 with_reducible refine(laws_kSame.calls k _ _ p6 _ _ p7 true _ ?d7 ?d8 ?d9 ?e6 I6.out).mono ?_
 (case d7=>exact Zca (Kd.R_reads' b7.out).2.2)
 (case d8=>exact(Kd.R_reads' b7.out).2.1)
 (case d9=>exact Zca (Kd.R_reads' b9.out).2.2)
 (case e6=>exact(Kd.R_reads' b9.out).2.1)
 rintro e w' ⟨rfl,⟨nd,rfl⟩⟩
 refine⟨_,rfl, ?_⟩
 refine hK.out _ _ ⟨Zc0 a6 0,Zc0 a6 1,Zc0 a8 0,Zc0 a8 1,Zc0 a7 0,Zc0 a7 1,Zc0 a4 0,Zc0 a4 1,Zc0 a5 0,Zc0 a5 1⟩ (fun hHeld=> ?_)
 clear hK K;refine Yn 131 (h:= ?_);refine Yu 28 132 (fl 73 536870911) HT_ (h:= ?_);refine Yu 29 133 (fl 73 1073741823) HT_ (h:= ?_);refine Yu 30 134 (fl 73 2147483647) HT_ (h:= ?_);refine Yu 31 135 (fl 73 4294967295) HT_ (h:= ?_);refine Yu 32 136 (fl 73 8589934591) HT_ (h:= ?_);refine Yu 33 137 (fl 73 17179869183) HT_ (h:= ?_);refine Yu 34 138 (fl 73 34359738367) HT_ (h:= ?_);refine Yu 35 139 (fl 73 68719476735) HT_ (h:= ?_);refine Yt 36 140 (fl 73 137438953471) HT_ HW_ hHeld (h:= ?_);refine Yt 37 141 (fl 73 274877906943) HT_ HW_ hHeld (h:= ?_)
 refine one_ (i:=38) (N:=some 142) (fl 73 549755813887) rfl rfl (one_of HT_.out (by kernel_rfl)) (by decide) (fun K hK=> ?_)
 refine goes_ Try.func16 (by kernel_rfl) rfl #[.agg #[.slice n0 l8.length n3,.slice n4 l9.length n5],.agg #[.slice k9 f9.length l3,.slice m4 i5.length m5]] (by rfl) rfl rfl (by(try simp only[List.map_toArray,List.map_cons,List.map_nil]);first|done|rfl) ?_
 with_reducible refine(laws_kTurned.calls k _ _ l8 _ _ l9 _ _ f9 _ _ i5 true _ ?d7 ?d8 ?d9 ?e6 ?q5 ?q6 ?q7 ?q8 I7.out).mono ?_
 (case d7=>exact Zca (Kd.R_reads' c9.out).2.2)
 (case d8=>exact(Kd.R_reads' c9.out).2.1)
 (case d9=>exact Zca (Kd.R_reads' d3.out).2.2)
 (case e6=>exact(Kd.R_reads' d3.out).2.1)
 (case q5=>exact Zca (Kd.R_reads' d5.out).2.2)
 (case q6=>exact(Kd.R_reads' d5.out).2.1)
 (case q7=>exact Zca (Kd.R_reads' d6.out).2.2)
 (case q8=>exact(Kd.R_reads' d6.out).2.1)
 rintro e M1 ⟨rfl,hb⟩
 refine⟨_,rfl, ?_⟩
 replace a9:=Zo a9 hb;replace b6:=Zm (Kd.Q_below (Zrq (b6.out)) hb);replace b8:=Zo b8 hb;replace d4:=Zo d4 hb;replace b7:=Zo b7 hb;replace b9:=Zo b9 hb;replace c9:=Zo c9 hb;replace d3:=Zo d3 hb;replace d5:=Zo d5 hb;replace d6:=Zo d6 hb;replace a5:=Zk a5 hb;replace a6:=Zk a6 hb;replace a8:=Zk a8 hb;replace a7:=Zk a7 hb;replace a4:=Zk a4 hb;replace HB:=Zh HB hb
 refine hK.out _ _ ⟨Zc0 a6 0,Zc0 a6 1,Zc0 a8 0,Zc0 a8 1,Zc0 a7 0,Zc0 a7 1,Zc0 a4 0,Zc0 a4 1,Zc0 a5 0,Zc0 a5 1⟩ (fun hHeld=> ?_)
 clear hK K;refine Yn 142 (h:= ?_);refine Yu 39 143 (fl 73 1099511627775) HT_ (h:= ?_);refine Yu 40 144 (fl 73 2199023255551) HT_ (h:= ?_);refine Yu 41 145 (fl 73 4398046511103) HT_ (h:= ?_);refine Yu 42 146 (fl 73 8796093022207) HT_ (h:= ?_);refine Yt 43 147 (fl 73 17592186044415) HT_ HW_ hHeld (h:= ?_)
 refine one_ (i:=44) (N:=some 148) (fl 73 35184372088831) rfl rfl (one_of HT_.out (by kernel_rfl)) (by decide) (fun K hK=> ?_)
 refine goes_ Try.func17 (by kernel_rfl) rfl #[.agg #[.slice i7 e7.length i8,.slice i9 e9.length k3]] (by rfl) rfl rfl (by(try simp only[List.map_toArray,List.map_cons,List.map_nil]);first|done|rfl) ?_
 with_reducible refine(impl_IsTurned.calls k _ _ e7 _ _ e9 r6 _ ?d7 ?d8 ?d9 ?e6 I8.out).mono ?_
 (case d7=>exact Zca (Kd.R_reads' a9.out).2.2)
 (case d8=>exact(Kd.R_reads' a9.out).2.1)
 (case d9=>exact Zca (Kd.Q_reads' b6.out).2.2)
 (case e6=>exact(Kd.Q_reads' b6.out).2.1)
 rintro e M2 ⟨rfl,hb⟩
 refine⟨_,rfl, ?_⟩
 replace a9:=Zo a9 hb;replace b6:=Zm (Kd.Q_below (Zrq (b6.out)) hb);replace b8:=Zo b8 hb;replace d4:=Zo d4 hb;replace b7:=Zo b7 hb;replace b9:=Zo b9 hb;replace c9:=Zo c9 hb;replace d3:=Zo d3 hb;replace d5:=Zo d5 hb;replace d6:=Zo d6 hb;replace a5:=Zk a5 hb;replace a6:=Zk a6 hb;replace a8:=Zk a8 hb;replace a7:=Zk a7 hb;replace a4:=Zk a4 hb;replace HB:=Zh HB hb
 refine hK.out _ _ ⟨Zc0 a6 0,Zc0 a6 1,Zc0 a8 0,Zc0 a8 1,Zc0 a7 0,Zc0 a7 1,Zc0 a4 0,Zc0 a4 1,Zc0 a5 0,Zc0 a5 1⟩ (fun hHeld=> ?_)
 clear hK K;refine Yn 148 (h:= ?_);refine Yu 45 149 (fl 73 70368744177663) HT_ (h:= ?_);refine Yu 46 150 (fl 73 140737488355327) HT_ (h:= ?_);refine Yu 47 151 (fl 73 281474976710655) HT_ (h:= ?_);refine Yt 48 152 (fl 73 562949953421311) HT_ HW_ hHeld (h:= ?_);refine Yt 50 154 (fl 73 1688849860263935) HT_ HW_ hHeld (h:= ?_)
 refine one_ (i:=49) (N:=some 153) (fl 73 2251799813685247) rfl rfl (one_of HT_.out (by kernel_rfl)) (by decide) (fun K hK=> ?_)
 refine goes_ Try.func17 (by kernel_rfl) rfl #[.agg #[.slice i7 e7.length i8,.slice i9 e9.length k3]] (by rfl) rfl rfl (by(try simp only[List.map_toArray,List.map_cons,List.map_nil]);first|done|rfl) ?_
 with_reducible refine(impl_IsTurned.calls k _ _ e7 _ _ e9 r7 _ ?d7 ?d8 ?d9 ?e6 I9.out).mono ?_
 (case d7=>exact Zca (Kd.R_reads' a9.out).2.2)
 (case d8=>exact(Kd.R_reads' a9.out).2.1)
 (case d9=>exact Zca (Kd.Q_reads' b6.out).2.2)
 (case e6=>exact(Kd.Q_reads' b6.out).2.1)
 rintro e M3 ⟨rfl,hb⟩
 refine⟨_,rfl, ?_⟩
 replace a9:=Zo a9 hb;replace b6:=Zm (Kd.Q_below (Zrq (b6.out)) hb);replace b8:=Zo b8 hb;replace d4:=Zo d4 hb;replace b7:=Zo b7 hb;replace b9:=Zo b9 hb;replace c9:=Zo c9 hb;replace d3:=Zo d3 hb;replace d5:=Zo d5 hb;replace d6:=Zo d6 hb;replace a5:=Zk a5 hb;replace a6:=Zk a6 hb;replace a8:=Zk a8 hb;replace a7:=Zk a7 hb;replace a4:=Zk a4 hb;replace HB:=Zh HB hb
 refine hK.out _ _ ⟨Zc0 a6 0,Zc0 a6 1,Zc0 a8 0,Zc0 a8 1,Zc0 a7 0,Zc0 a7 1,Zc0 a4 0,Zc0 a4 1,Zc0 a5 0,Zc0 a5 1⟩ (fun hHeld=> ?_)
 clear hK K;refine Yn 153 (h:= ?_)
 refine one_ (i:=51) (N:=some 155) (fl 73 4503599627370495) rfl rfl (one_of HT_.out (by kernel_rfl)) (by decide) (fun K hK=> ?_)
 refine goes_ Try.func18 (by kernel_rfl) rfl #[.agg #[.slice i7 e7.length i8,.slice i9 e9.length k3]] (by rfl) rfl rfl (by(try simp only[List.map_toArray,List.map_cons,List.map_nil]);first|done|rfl) ?_
 with_reducible refine(spec_IsTurned.calls k _ _ e7 _ _ e9 r8 _ ?d7 ?d8 ?d9 ?e6 J0.out).mono ?_
 (case d7=>exact Zca (Kd.R_reads' a9.out).2.2)
 (case d8=>exact(Kd.R_reads' a9.out).2.1)
 (case d9=>exact Zca (Kd.Q_reads' b6.out).2.2)
 (case e6=>exact(Kd.Q_reads' b6.out).2.1)
 rintro e M4 ⟨rfl,hb⟩
 refine⟨_,rfl, ?_⟩
 replace a9:=Zo a9 hb;replace b6:=Zm (Kd.Q_below (Zrq (b6.out)) hb);replace b8:=Zo b8 hb;replace d4:=Zo d4 hb;replace b7:=Zo b7 hb;replace b9:=Zo b9 hb;replace c9:=Zo c9 hb;replace d3:=Zo d3 hb;replace d5:=Zo d5 hb;replace d6:=Zo d6 hb;replace a5:=Zk a5 hb;replace a6:=Zk a6 hb;replace a8:=Zk a8 hb;replace a7:=Zk a7 hb;replace a4:=Zk a4 hb;replace HB:=Zh HB hb
 refine hK.out _ _ ⟨Zc0 a6 0,Zc0 a6 1,Zc0 a8 0,Zc0 a8 1,Zc0 a7 0,Zc0 a7 1,Zc0 a4 0,Zc0 a4 1,Zc0 a5 0,Zc0 a5 1⟩ (fun hHeld=> ?_)
 clear hK K;refine Yn 155 (h:= ?_);refine Yu 52 156 (fl 73 9007199254740991) HT_ (h:= ?_);refine Yu 53 157 (fl 73 18014398509481983) HT_ (h:= ?_);refine Yu 54 158 (fl 73 36028797018963967) HT_ (h:= ?_);refine Yu 55 159 (fl 73 72057594037927935) HT_ (h:= ?_);refine Yu 56 160 (fl 73 144115188075855871) HT_ (h:= ?_);refine Yu 57 161 (fl 73 288230376151711743) HT_ (h:= ?_);refine Yu 58 162 (fl 73 576460752303423487) HT_ (h:= ?_);refine Yu 59 163 (fl 73 1152921504606846975) HT_ (h:= ?_);refine Yu 60 164 (fl 73 2305843009213693951) HT_ (h:= ?_);refine Yu 61 165 (fl 73 4611686018427387903) HT_ (h:= ?_);refine Yu 62 166 (fl 73 9223372036854775807) HT_ (h:= ?_);refine Yu 63 167 (fl 73 18446744073709551615) HT_ (h:= ?_);refine Yu 64 168 (fl 73 36893488147419103231) HT_ (h:= ?_);refine Yu 65 169 (fl 73 73786976294838206463) HT_ (h:= ?_);refine Yu 66 170 (fl 73 147573952589676412927) HT_ (h:= ?_);refine Yu 67 171 (fl 73 295147905179352825855) HT_ (h:= ?_);refine Yu 68 172 (fl 73 590295810358705651711) HT_ (h:= ?_);refine Yu 69 173 (fl 73 1180591620717411303423) HT_ (h:= ?_);refine Yu 70 174 (fl 73 2361183241434822606847) HT_ (h:= ?_);refine Yu 71 175 (fl 73 4722366482869645213695) HT_ (h:= ?_);refine Yu 72 176 (fl 73 9444732965739290427391) HT_ (h:= ?_)
 refine done_ (done_of HT_.out (by kernel_rfl)) ?_
 try go_wp2
 go_meet
 case rel=>exact⟨_,((q9 != (decide (r5≤60)))),Zs,H',⟨by first|omega|exact Nat.le_refl _⟩,⟨Zc b7⟩,⟨Zc a9⟩,⟨Zrq (Kd.Q_mono b6.out (fun _ hk=>trivial))⟩,⟨Zc b8⟩,⟨Zc c9⟩,⟨Kd.Q_of_R (Zc d3)⟩,⟨Zb a5⟩,⟨Zb a6⟩,⟨Zb a7⟩,⟨Zl HB⟩⟩
end Go.Proofs.Ytnagcjhgojchlaa.Q
