/- Each function below comes to the Lean function beside it (theorems '.calls'); no condition beyond each theorem's own. Written by our program oprint.py over the kit's print. -/
import Derived.Test.YtnagcjhgojchlaaQwp343
namespace Go.Proofs.Ytnagcjhgojchlaa.Q
open Go.RowKit Go.Proofs.YtnagcjhgojchlaaW.PrintWords Go.Proofs.YtnagcjhgojchlaaW.PrintLast Go.Proofs.YtnagcjhgojchlaaW.PrintMore
attribute [local go_sem] max2_int min2_int max_two min_two max_three min_three max_four min_four
set_option linter.unusedVariables false
set_option linter.unusedSimpArgs false
set_option maxHeartbeats 8000000 in
set_option maxRecDepth 100000 in
theorem laws_FnPolesLeast_p387:laws_FnPolesLeast_p343.Q1:=by
 iterate 696 (intro _)
 intro k A0 c0 l0 A1 c1 l1 r w H3 H4 L7 L8 L9 M0 A3 k3 k4 A5 e9 b9 H5 H6 H7 A7 H8 H9 A8 I0 I1 A9 i5 I2 M1 I3 I4 M2 I5 I6 I7 M3 I8 I9 J0 M4 _ nd M5 _ i6 M6 D2 D3 l3 l4 l5 l6 _ _ _ M7 M8 _ i7 M9 D4 D5 f8 f9 l7 i8 _ N0 N1 _ D6 N2 D7 D8 m7 m8 m9 n0 J1 J2 _ N3 _ N4 _ N5 J3 _ _ N6 J4 _ _ N7 _ D9 N8 E0 E6 n3 n4 n5 n6 n7 n8 J5 J6 J7 J8 _ _ N9 hb E7 O0 E8 E9 F0 _ n9 o0 _ o1 o2 _ o3 o4 F1 o5 o6 _ J9 K0 K1 K2 o7 o8 F2 F3 F4 F5 F6 F7 F8 F9 G1 G2 _ _ _ _ o9 p3 _ _ G3 _ K3 t0 wc b6 a5 a6 a4 a9 a7 HB l8 t8 _ A6 _ d6 e7 t9 y8 y9 z2 z3 z4 z5 z6 H z7 z8 k6
 rw[if_pos k6]at H;have z9:((rd b9 0) == (rd i5 0))=true:=beq_iff_eq.mpr k6;have B0:((rd b9 0) != (rd i5 0))=false:=bne_eq_false_iff_eq.mpr k6;clear k6;have H':=Aside0.mk H;clear H;have C0:=f9.out;have C1:=f8.out;obtain⟨p4,p5,p6,p7⟩:=Z2 a7
 try go_wp2_with (first|((with_reducible refine gate_callee (f:=19) rfl ?_);refine Ga (some 201) Try.func19 #[.agg #[.int .i64 e9,.slice l7 b9.length i8]] (h:= ?_);(with_reducible refine(impl_PoleResult.calls l8 e9 _ _ b9 d6 e7 true _ ?d7 ?d8 t9.out).mono ?_);(case d7=>exact Zca (Kd.R_reads' a4.out).2.2);(case d8=>exact(Kd.R_reads' a4.out).2.1);rintro e K4 ⟨K5,K6,rfl,o7,o8,hb⟩;refine⟨_,rfl, ?_⟩;have b7:=Zj (Zv (Kd.R_new' (Zv (Zv o7 b6) a5) (Kd.Q_lt (Zrq (a6.out)))) a4) HB;have b8:=Zj (Zv (Kd.R_new' (Zv (Zv o8 b6) a5) (Kd.Q_lt (Zrq (a6.out)))) a4) HB;replace b6:=Zu b6 hb o7 o8;replace a5:=Zu a5 hb o7 o8;replace a6:=Zm (Kd.Q_mono (Kd.Q_told (Kd.Q_told (Kd.Q_old (Zrq (a6.out)) hb) (Kd.R_base o7)) (Kd.R_base o8)) (fun _ h_=>h_.1));replace a4:=Zu a4 hb o7 o8;replace a9:=Zk a9 hb;replace a7:=Zk a7 hb;replace HB:=Zh HB hb)|((with_reducible refine gate_dst (N:=24) rfl ?_);(try(refine gate_guard (by rfl) ?_;dsimp only));refine Zbe 24 #[.slice none 0 0,.slice none 0 0] 26 ?_;intro i9 hg K7 hbox hb;replace b6:=Zo b6 hb;replace a5:=Zo a5 hb;replace a6:=Zm (Kd.Q_below (Zrq (a6.out)) hb);replace a4:=Zo a4 hb;replace b7:=Zo b7 hb;replace b8:=Zo b8 hb;have a8:=Zm (hbox);have G4:=Zx hg HB;have G5:=Zx hg HB;replace HB:=Zh HB hb;have g8:=Zq hg a9;have g9:=Zp hg a9;replace a9:=Zk a9 hb;have i3:=Zq hg a7;have i4:=Zp hg a7;replace a7:=Zk a7 hb;clear hb hbox hg;obtain⟨d4,d5,p8⟩:=Kd.R_slice b7.out;subst p8;have C2:=g9.out;have C3:=g8.out;have C4:=i4.out;have C5:=i3.out;obtain⟨p9,q3,q4,q5⟩:=Z2 a8;obtain⟨d9,e6,q6⟩:=Kd.R_slice b8.out;subst q6;obtain⟨q7,q8,q9,r5⟩:=Z2 a7)|((with_reducible refine gate_callee (f:=20) rfl ?_);refine Ga (some 206) Try.func20 #[.agg #[.int .i64 e9,.slice l7 b9.length i8]] (h:= ?_);(with_reducible refine(impl_IsLeastPole.calls l8 e9 _ _ b9 true true _ ?d7 ?d8 z3.out).mono ?_);(case d7=>refine(Kd.R_reads' (e:=3) (base:=w.heap.size) (ok:=fun k_=>((True∧Zn k_ (.slice d4 d6.length d5))∧Zn k_ (.slice d9 e7.length e6))) (n:=b9.length) (c:=i8) ?_).2.2;exact(Zy a4 a8));(case d8=>exact(Kd.R_reads' a4.out).2.1);rintro e C6 ⟨rfl,hb⟩;refine⟨_,rfl, ?_⟩;replace b6:=Zm (Kd.R_below (Zy b6 a8) hb);replace a5:=Zm (Kd.R_below (Zy a5 a8) hb);replace a6:=Zm (Kd.Q_below (Zrq ((Zfq a6 a8 (.slice d4 d6.length d5) (.slice d9 e7.length e6) (fun _ h_=>h_.1)))) hb);replace a4:=Zm (Kd.R_below (Zy a4 a8) hb);replace b7:=Zm (Kd.R_below (Zy b7 a8) hb);replace b8:=Zm (Kd.R_below (Zy b8 a8) hb);replace a9:=Zm (blk_below (g:=i6) (o:= .cells #[.slice l3 k3.length l4,.slice l5 k4.length l6] 26 (0,0)) (Zbf a9) hb);replace a7:=Zm (blk_below (g:=i7) (o:= .cells #[.int .i64 e9,.slice l7 b9.length i8] 29 (0,0)) (Zbf a7) hb);replace a8:=Zm (blk_below (g:=i9) (o:= .cells #[.slice d4 d6.length d5,.slice d9 e7.length e6] 26 (0,0)) (by refine Zrb ?_;refine blk_put (cs:= #[.slice d4 d6.length d5,.slice none 0 0]) ?_ 1 _ rfl;refine Zrb ?_;refine blk_put (cs:= #[.slice none 0 0,.slice none 0 0]) ?_ 0 _ rfl;refine Zrb ?_;exact a8.out) hb);replace HB:=Zh HB hb))
 replace b6:=Zm (Kd.R_drew b6.out);replace a5:=Zm (Kd.R_drew a5.out);replace a6:=Zm (Kd.Q_drew a6.out);replace a4:=Zm (Kd.R_drew a4.out);replace b7:=Zm (Kd.R_drew b7.out);replace b8:=Zm (Kd.R_drew b8.out);replace a9:=Zm (blk_drew a9.out);replace a7:=Zm (blk_drew a7.out);replace a8:=Zm (blk_drew a8.out);replace HB:=Zm (below_drew1 HB.out);have l9:0≤(0:Int):=(by omega);have m4:0<(b9.length:Int):=Zoa
 obtain⟨k8,C7,c9⟩:=Kd.at_int (Kd.R_reads' a4.out).2.2 0 l9 m4
 cases C7
 have G6:(0<b9.length)=True:=eq_true (by omega)
 (try rw[show((0:Int)).toNat=0 from rfl]at c9)
 (try rw[Addr.add_zero']at c9)
 replace l9:=eq_true l9
 replace m4:=eq_true m4
 have m5:0≤(0:Int):=(by omega);have m6:0<(i5.length:Int):=Zoa
 obtain⟨K8,K9,C8⟩:=Kd.R_slice b6.out;subst C8;obtain⟨r6,C9,d3⟩:=Kd.at_int (Kd.R_reads' b6.out).2.2 0 m5 m6
 cases C9
 have G7:(0<i5.length)=True:=eq_true (by omega)
 (try rw[show((0:Int)).toNat=0 from rfl]at d3)
 (try rw[Addr.add_zero']at d3)
 replace m5:=eq_true m5
 replace m6:=eq_true m6
 refine start_ (n:=37) (S:=fun w'=>w'.cell? ⟨i9,0,none⟩=some (.slice d4 d6.length d5)∧w'.cell? ⟨i9,1,none⟩=some (.slice d9 e7.length e6)∧w'.cell? ⟨i6,0,none⟩=some (.slice l3 k3.length l4)∧w'.cell? ⟨i6,1,none⟩=some (.slice l5 k4.length l6)∧w'.cell? ⟨i7,0,none⟩=some (.int .i64 e9)∧w'.cell? ⟨i7,1,none⟩=some (.slice (some k8) b9.length i8)∧w'.cell? k8=some (.int .i64 (rd b9 0))∧w'.cell? r6=some (.int .i64 (rd i5 0))) (ds:= []) (fl 37 0) (by kernel_rfl) rfl rfl ⟨Zc0 a8 0,Zc0 a8 1,Zc0 a9 0,Zc0 a9 1,Zc0 a7 0,Zc0 a7 1,c9,d3⟩ (fun hHeld=> ?_);refine with_tabW laws_FnPolesLeast.tab21 laws_FnPolesLeast.bits21 (fun HT_ HW_=> ?_)
 generalize C6.drew=L2 at b6 a5 a6 a4 b7 b8 a9 a7 a8 HB c9 d3 hHeld ⊢;refine Yu 0 209 (fl 37 1) HT_ (h:= ?_);refine Yu 1 210 (fl 37 3) HT_ (h:= ?_);refine Yu 2 211 (fl 37 7) HT_ (h:= ?_);refine Yt 3 212 (fl 37 15) HT_ HW_ hHeld (h:= ?_);refine Yt 4 213 (fl 37 31) HT_ HW_ hHeld (h:= ?_)
 refine one_ (i:=5) (N:=some 214) (fl 37 63) rfl rfl (one_of HT_.out (by kernel_rfl)) (by decide) (fun K hK=> ?_)
 refine goes_ Try.func16 (by kernel_rfl) rfl #[.agg #[.slice d4 d6.length d5,.slice d9 e7.length e6],.agg #[.slice l3 k3.length l4,.slice l5 k4.length l6]] (by rfl) rfl rfl (by(try simp only[List.map_toArray,List.map_cons,List.map_nil]);first|done|rfl) ?_
 with_reducible refine(laws_kTurned.calls l8 _ _ d6 _ _ e7 _ _ k3 _ _ k4 true _ ?d7 ?d8 ?r7 ?r8 ?r9 ?s6 ?s7 ?s9 y8.out).mono ?_
 (case d7=>exact Zca (Kd.R_reads' b7.out).2.2)
 (case d8=>exact(Kd.R_reads' b7.out).2.1)
 (case r7=>exact Zca (Kd.R_reads' b8.out).2.2)
 (case r8=>exact(Kd.R_reads' b8.out).2.1)
 (case r9=>exact Zca (Kd.R_reads' a5.out).2.2)
 (case s6=>exact(Kd.R_reads' a5.out).2.1)
 (case s7=>exact Zca (Kd.Q_reads' a6.out).2.2)
 (case s9=>exact(Kd.Q_reads' a6.out).2.1)
 rintro e L3 ⟨rfl,hb⟩
 have D0:=(hb.cell (World.block_lt_of_cell? _ _ (hHeld.2.2.2.2.2.2.1))).trans (hHeld.2.2.2.2.2.2.1);have D1:=(hb.cell (World.block_lt_of_cell? _ _ (hHeld.2.2.2.2.2.2.2))).trans (hHeld.2.2.2.2.2.2.2)
 refine⟨_,rfl, ?_⟩
 replace b6:=Zo b6 hb;replace a5:=Zo a5 hb;replace a6:=Zm (Kd.Q_below (Zrq (a6.out)) hb);replace a4:=Zo a4 hb;replace b7:=Zo b7 hb;replace b8:=Zo b8 hb;replace a9:=Zk a9 hb;replace a7:=Zk a7 hb;replace a8:=Zk a8 hb;replace HB:=Zh HB hb
 obtain⟨G8,G9,k9⟩:=Kd.R_slice b6.out
 (first|subst k9|(injection k9 with H1 L4 H2;have L5:=H1.symm;have L6:=H2.symm;clear H1 L4 H2;subst L5;subst L6))
 refine hK.out _ _ ⟨Zc0 a8 0,Zc0 a8 1,Zc0 a9 0,Zc0 a9 1,Zc0 a7 0,Zc0 a7 1,D0,D1⟩ (fun hHeld=> ?_)
 clear hK K;refine Yn 214 (h:= ?_);refine Yu 6 215 (fl 37 127) HT_ (h:= ?_);refine Yu 7 216 (fl 37 255) HT_ (h:= ?_);refine Yu 8 217 (fl 37 511) HT_ (h:= ?_);refine Yu 9 218 (fl 37 1023) HT_ (h:= ?_);refine Yu 12 221 (fl 37 5119) HT_ (h:= ?_);refine Yt 10 219 (fl 37 6143) HT_ HW_ hHeld (h:= ?_);refine Yu 11 220 (fl 37 8191) HT_ (h:= ?_);refine Yu 13 222 (fl 37 16383) HT_ (h:= ?_);refine Yu 14 223 (fl 37 32767) HT_ (h:= ?_);refine Yu 15 224 (fl 37 65535) HT_ (h:= ?_);refine Yu 16 225 (fl 37 131071) HT_ (h:= ?_);refine Yu 17 226 (fl 37 262143) HT_ (h:= ?_);refine Yu 18 227 (fl 37 524287) HT_ (h:= ?_);refine Yu 19 228 (fl 37 1048575) HT_ (h:= ?_);refine Yu 20 229 (fl 37 2097151) HT_ (h:= ?_);refine Yu 21 230 (fl 37 4194303) HT_ (h:= ?_);refine Yu 22 231 (fl 37 8388607) HT_ (h:= ?_);refine Yu 23 232 (fl 37 16777215) HT_ (h:= ?_);refine Yu 24 233 (fl 37 33554431) HT_ (h:= ?_);refine Yu 25 234 (fl 37 67108863) HT_ (h:= ?_);refine Yu 26 235 (fl 37 134217727) HT_ (h:= ?_);refine Yu 27 236 (fl 37 268435455) HT_ (h:= ?_);refine Yu 31 240 (fl 37 2415919103) HT_ (h:= ?_);refine Yu 32 241 (fl 37 6710886399) HT_ (h:= ?_);refine Yt 28 237 (fl 37 6979321855) HT_ HW_ hHeld (h:= ?_);refine Yu 29 238 (fl 37 7516192767) HT_ (h:= ?_);refine Yt 30 239 (fl 37 8589934591) HT_ HW_ hHeld (h:= ?_);refine Yt 33 242 (fl 37 17179869183) HT_ HW_ hHeld (h:= ?_);refine Yu 34 243 (fl 37 34359738367) HT_ (h:= ?_);refine Yu 35 244 (fl 37 68719476735) HT_ (h:= ?_);refine Yu 36 245 (fl 37 137438953471) HT_ (h:= ?_)
 refine done_ (done_of HT_.out (by kernel_rfl)) ?_
 try go_wp2
 go_meet
 case rel=>exact⟨_,H',⟨by have:=t0.out;have:=t8.out;first|omega|exact Nat.le_refl _⟩,⟨Zl HB⟩⟩
end Go.Proofs.Ytnagcjhgojchlaa.Q
