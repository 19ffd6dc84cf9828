/- Each function below comes to the Lean function beside it (theorems '.calls'); no condition beyond each theorem's own. Written by our program oprint.py over the kit's print. -/
import Derived.Test.YtnagcjhgojchlaaQm0
import Derived.Test.YtnagcjhgojchlaaQm1
import Derived.Test.YtnagcjhgojchlaaQm3
namespace Go.Proofs.Ytnagcjhgojchlaa.Q
open Go.RowKit Go.Proofs.YtnagcjhgojchlaaW.PrintWords Go.Proofs.YtnagcjhgojchlaaW.PrintLast Go.Proofs.YtnagcjhgojchlaaW.PrintMore
attribute [local go_sem] max2_int min2_int max_two min_two max_three min_three max_four min_four
set_option linter.unusedVariables false
set_option linter.unusedSimpArgs false
def impl_ThenTurned.j0:Nat→Bool→List Int→List Int→List Int→List Int→Option (List Int × List Int × Bool)
 |0,_,_,_,_,_ =>none
 |k+1,b6,a5,a6,a7,a8=>if b6=true then(some (([]:List Int),([]:List Int),false))else((impl_thenTurned.f k a5 a6 a7 a8).bind fun a9=>((impl_checkedTurned.f k a9.1 a9.2).bind fun a4=>(some (a4.1,a4.2.1,a4.2.2))))
def impl_ThenTurned.f (k:Nat) (a4:List Int) (a6:List Int) (a5:List Int) (a7:List Int):Option (List Int × List Int × Bool):=(impl_isTurned.f k a4 a6).bind fun a8=>(if a8=true then((impl_isTurned.f k a5 a7).bind fun a9=>(if a9=true then(impl_ThenTurned.j0 k ((a4.length:Int) != (a5.length:Int)) a4 a6 a5 a7)else(impl_ThenTurned.j0 k true a4 a6 a5 a7)))else(impl_ThenTurned.j0 k true a4 a6 a5 a7))
set_option maxHeartbeats 8000000 in
set_option maxRecDepth 100000 in
theorem impl_ThenTurned.calls (k:Nat) (e7:Option Addr) (e9:Nat) (a7:List Int) (f8:Option Addr) (f9:Nat) (a8:List Int) (i6:Option Addr) (i7:Nat) (d3:List Int) (i8:Option Addr) (i9:Nat) (d8:List Int) (r1:List Int) (r2:List Int) (r3:Bool) (w:World) (m4:Kd.C (Kd.int .i64) w e7 a7.length a7) (m5:a7.length≤e9) (m6:Kd.C (Kd.int .i64) w f8 a8.length a8) (m7:a8.length≤f9) (m8:Kd.C (Kd.int .i64) w i6 d3.length d3) (m9:d3.length≤i7) (n0:Kd.C (Kd.int .i64) w i8 d8.length d8) (n3:d8.length≤i9) (h:impl_ThenTurned.f k a7 a8 d3 d8=some (r1,r2,r3)):
  Calls Try.prog 24 #[.agg #[.slice e7 a7.length e9,.slice f8 a8.length f9],.agg #[.slice i6 d3.length i7,.slice i8 d8.length i9]] w fun e w'=> ∃C8 C9:Value,e= .returned (.tuple #[.agg #[C8,C9],.bool r3])∧Kd.R (Kd.int .i64) 3 w' w.heap.size (fun k_=>Zn k_ C9) C8 r1∧Kd.R (Kd.int .i64) 3 w' w.heap.size (fun k_=>Zn k_ C8) C9 r2∧Below w.heap.size w w':=by
 have I0:=Try.underlying26;have g8:=Aside0.mk m4;have g9:=Aside0.mk m5;clear m4 m5;have i3:=Aside0.mk m6;have i4:=Aside0.mk m7;clear m6 m7;have k3:=Aside0.mk m8;have k4:=Aside0.mk m9;clear m8 m9;have k6:=Aside0.mk n0;have k8:=Aside0.mk n3;clear n0 n3;have HB:=Zm (Below.refl w.heap.size w);have H:((impl_isTurned.f k a7 a8).bind fun n6=>(if n6=true then((impl_isTurned.f k d3 d8).bind fun n7=>(if n7=true then(impl_ThenTurned.j0 k ((a7.length:Int) != (d3.length:Int)) a7 a8 d3 d8)else(impl_ThenTurned.j0 k true a7 a8 d3 d8)))else(impl_ThenTurned.j0 k true a7 a8 d3 d8)))=some (r1,r2,r3):=h;clear h;have D0:=Aside0.mk H;clear H
 go_enter Try.func24,Try.ntmps24
 go_upto_region 1 with(first|((with_reducible refine gate_dst (N:=2) rfl ?_);(try(refine gate_guard (by rfl) ?_;dsimp only));refine Zbe 2 #[.slice e7 a7.length e9,.slice f8 a8.length f9] 26 ?_;intro o4 hg w4 hbox hb;have a4:=Zm (hbox);have E0:=Zx hg HB;have E6:=Zx hg HB;replace HB:=Zh HB hb;clear hb hbox hg)|((with_reducible refine gate_dst (N:=3) rfl ?_);(try(refine gate_guard (by rfl) ?_;dsimp only));refine Zbe 3 #[.slice i6 d3.length i7,.slice i8 d8.length i9] 26 ?_;intro o5 hg w5 hbox hb;have a5:=Zm (hbox);have E7:=Zx hg HB;have E8:=Zx hg HB;replace HB:=Zh HB hb;have d4:=Zq hg a4;have d5:=Zp hg a4;replace a4:=Zk a4 hb;clear hb hbox hg)|((with_reducible refine gate_dst (N:=4) rfl ?_);(try(refine gate_guard (by rfl) ?_;dsimp only));refine Zbe 4 #[.slice none 0 0,.slice none 0 0] 26 ?_;intro k9 hg w6 hbox hb;have a6:=Zm (hbox);have E9:=Zx hg HB;have F0:=Zx hg HB;replace HB:=Zh HB hb;have a9:=Zq hg a4;have b6:=Zp hg a4;replace a4:=Zk a4 hb;have d6:=Zq hg a5;have d7:=Zp hg a5;replace a5:=Zk a5 hb;clear hb hbox hg))
 (try simp only[Act.put,List.setIfInBounds_toArray,List.set_cons_zero,List.set_cons_succ])
 go_cut [22] (fun I1 wc=> ∃(kq:Nat) (i5:Bool),I1= .bool i5∧Aside0 (impl_ThenTurned.j0 kq i5 a7 a8 d3 d8=some (r1,r2,r3))∧Aside0 (kq≤k)∧Aside0 (wc.heap[o4]? =some (.cells #[(.slice e7 a7.length e9),(.slice f8 a8.length f9)] 26 (0,0)))∧Aside0 (wc.heap[o5]? =some (.cells #[(.slice i6 d3.length i7),(.slice i8 d8.length i9)] 26 (0,0)))∧Aside0 (wc.heap[k9]? =some (.cells #[(.slice none 0 0),(.slice none 0 0)] 26 (0,0)))∧Aside0 (Below w.heap.size w wc))
 case first=>
  have H:=D0.out;clear D0;replace H:=Zb0 H;obtain⟨n6,A7,H⟩:=H
  by_cases c8:n6=true
  ·
   subst c8
   rw[if_pos rfl]at H
   replace H:=Zb0 H;obtain⟨n7,A9,H⟩:=H
   by_cases c10:n7=true
   ·
    subst c10
    rw[if_pos rfl]at H
    have H':=Aside0.mk H;clear H;have F1:=d4.out;have F2:=d5.out;have F3:=a9.out;have F4:=b6.out;obtain⟨o9,p3,p4,p5⟩:=Z2 a4
    go_wp2_with (first|((with_reducible refine gate_callee (f:=31) rfl ?_);refine Ga (some 7) Try.func31 #[.agg #[.slice e7 a7.length e9,.slice f8 a8.length f9]] (h:= ?_);(with_reducible refine(impl_isTurned.calls k _ _ a7 _ _ a8 true _ ?b7 ?b8 ?b9 ?c9 A7.out).mono ?_);(case b7=>exact Zca (Kd.C_below g8.out HB.out));(case b8=>exact g9.out);(case b9=>exact Zca (Kd.C_below i3.out HB.out));(case c9=>exact i4.out);rintro e I6 ⟨rfl,hb⟩;refine⟨_,rfl, ?_⟩;replace a4:=Zk a4 hb;replace a5:=Zk a5 hb;replace a6:=Zk a6 hb;replace HB:=Zh HB hb;have F5:=d6.out;have F6:=d7.out;obtain⟨p6,p7,p8,p9⟩:=Z2 a5)|(go_at_call 31;(with_reducible refine(impl_isTurned.calls k _ _ d3 _ _ d8 true _ ?b7 ?b8 ?b9 ?c9 A9.out).mono ?_);(case b7=>exact Zca (Kd.C_below k3.out HB.out));(case b8=>exact k4.out);(case b9=>exact Zca (Kd.C_below k6.out HB.out));(case c9=>exact k8.out);rintro e I7 ⟨rfl,hb⟩;replace a4:=Zk a4 hb;replace a5:=Zk a5 hb;replace a6:=Zk a6 hb;replace HB:=Zh HB hb;obtain⟨q3,q4,q5,q6⟩:=Z2 a4;obtain⟨q7,q8,q9,r5⟩:=Z2 a5))
    go_meet
    case rel=>exact⟨_,(((a7.length:Int) != (d3.length:Int))),Zs,H',⟨by first|omega|exact Nat.le_refl _⟩,⟨Zb a4⟩,⟨Zb a5⟩,⟨Zb a6⟩,⟨Zl HB⟩⟩
   ·
    replace c10:=Bool.eq_false_iff.mpr c10
    subst c10
    rw[if_neg Bool.false_ne_true]at H
    have H':=Aside0.mk H;clear H;have F7:=d4.out;have F8:=d5.out;have F9:=a9.out;have G1:=b6.out;obtain⟨r6,r7,r8,r9⟩:=Z2 a4
    go_wp2_with (first|((with_reducible refine gate_callee (f:=31) rfl ?_);refine Ga (some 7) Try.func31 #[.agg #[.slice e7 a7.length e9,.slice f8 a8.length f9]] (h:= ?_);(with_reducible refine(impl_isTurned.calls k _ _ a7 _ _ a8 true _ ?b7 ?b8 ?b9 ?c9 A7.out).mono ?_);(case b7=>exact Zca (Kd.C_below g8.out HB.out));(case b8=>exact g9.out);(case b9=>exact Zca (Kd.C_below i3.out HB.out));(case c9=>exact i4.out);rintro e I8 ⟨rfl,hb⟩;refine⟨_,rfl, ?_⟩;replace a4:=Zk a4 hb;replace a5:=Zk a5 hb;replace a6:=Zk a6 hb;replace HB:=Zh HB hb;have G2:=d6.out;have G3:=d7.out;obtain⟨s6,s7,s9,t0⟩:=Z2 a5)|(go_at_call 31;(with_reducible refine(impl_isTurned.calls k _ _ d3 _ _ d8 false _ ?b7 ?b8 ?b9 ?c9 A9.out).mono ?_);(case b7=>exact Zca (Kd.C_below k3.out HB.out));(case b8=>exact k4.out);(case b9=>exact Zca (Kd.C_below k6.out HB.out));(case c9=>exact k8.out);rintro e I9 ⟨rfl,hb⟩;replace a4:=Zk a4 hb;replace a5:=Zk a5 hb;replace a6:=Zk a6 hb;replace HB:=Zh HB hb))
    go_meet
    case rel=>exact⟨_,(true),Zs,H',⟨by first|omega|exact Nat.le_refl _⟩,⟨Zb a4⟩,⟨Zb a5⟩,⟨Zb a6⟩,⟨Zl HB⟩⟩
  ·
   replace c8:=Bool.eq_false_iff.mpr c8
   subst c8
   rw[if_neg Bool.false_ne_true]at H
   have H':=Aside0.mk H;clear H;have G4:=d4.out;have G5:=d5.out;have G6:=a9.out;have G7:=b6.out;obtain⟨t8,t9,y8,y9⟩:=Z2 a4
   go_wp2_with (first|((with_reducible refine gate_callee (f:=31) rfl ?_);refine Ga (some 7) Try.func31 #[.agg #[.slice e7 a7.length e9,.slice f8 a8.length f9]] (h:= ?_);(with_reducible refine(impl_isTurned.calls k _ _ a7 _ _ a8 false _ ?b7 ?b8 ?b9 ?c9 A7.out).mono ?_);(case b7=>exact Zca (Kd.C_below g8.out HB.out));(case b8=>exact g9.out);(case b9=>exact Zca (Kd.C_below i3.out HB.out));(case c9=>exact i4.out);rintro e J0 ⟨rfl,hb⟩;refine⟨_,rfl, ?_⟩;replace a4:=Zk a4 hb;replace a5:=Zk a5 hb;replace a6:=Zk a6 hb;replace HB:=Zh HB hb))
   go_meet
   case rel=>exact⟨_,(true),Zs,H',⟨by first|omega|exact Nat.le_refl _⟩,⟨Zb a4⟩,⟨Zb a5⟩,⟨Zb a6⟩,⟨Zl HB⟩⟩
 case rest=>
  (clear D0);obtain⟨kq,i5,rfl,HA,J1,a4,a5,a6,HB⟩:=hcut
  cases kq with
  |zero=>exact absurd HA.out (by simp[impl_ThenTurned.j0])
  |succ G8=>
   have H:=HA.out;clear HA
   simp only[impl_ThenTurned.j0]at H
   by_cases z2:i5=true
   ·
    subst z2
    rw[if_pos rfl]at H
    obtain⟨rfl,rfl,rfl⟩:=Zs3 H;clear H
    have G9:=b6.out;have H1:=a9.out;have H2:=d7.out;have H3:=d6.out;obtain⟨z3,z4,z5,z6⟩:=Z2 a6
    go_wp2
    refine bodyPost_ret (results_ct rfl _ _ k9 26 #[.slice none 0 0,.slice none 0 0] (0,0) _ rfl (by refine Zrb ?_;refine blk_put (cs:= #[.slice none 0 0,.slice none 0 0]) ?_ 1 _ rfl;refine Zrb ?_;refine blk_put (cs:= #[.slice none 0 0,.slice none 0 0]) ?_ 0 _ rfl;refine Zrb ?_;exact a6.out) Try.underlying26 rfl (by kernel_rfl)) rfl ?_
    exact⟨_,_,Ze,Znl,Znl,Zl HB⟩
   ·
    replace z2:=Bool.eq_false_iff.mpr z2
    subst z2
    rw[if_neg Bool.false_ne_true]at H
    replace H:=Zb0 H;obtain⟨⟨l3,l4⟩,I2,H⟩:=H;(try dsimp only at H);replace H:=Zb0 H;obtain⟨⟨l5,l7,D1⟩,I3,H⟩:=H;(try dsimp only at H)
    obtain⟨rfl,rfl,rfl⟩:=Zs3 H;clear H
    have H4:=d4.out;have H5:=d5.out;have H6:=a9.out;have H7:=b6.out;obtain⟨z7,z8,z9,B0⟩:=Z2 a4;have H8:=d6.out;have H9:=d7.out;obtain⟨C0,C1,C2,C3⟩:=Z2 a5
    go_wp2_with (first|((with_reducible refine gate_callee (f:=35) rfl ?_);refine Ga (some 26) Try.func35 #[.agg #[.slice e7 a7.length e9,.slice f8 a8.length f9],.agg #[.slice i6 d3.length i7,.slice i8 d8.length i9]] (h:= ?_);(with_reducible refine(impl_thenTurned.calls G8 _ _ a7 _ _ a8 _ _ d3 _ _ d8 l3 l4 _ ?b7 ?b8 ?b9 ?c9 ?l6 ?o6 ?o7 ?o8 I2.out).mono ?_);(case b7=>exact Zca (Kd.C_below g8.out HB.out));(case b8=>exact g9.out);(case b9=>exact Zca (Kd.C_below i3.out HB.out));(case c9=>exact i4.out);(case l6=>exact Zca (Kd.C_below k3.out HB.out));(case o6=>exact k4.out);(case o7=>exact Zca (Kd.C_below k6.out HB.out));(case o8=>exact k8.out);rintro e J2 ⟨I4,I5,rfl,D2,D3,hb⟩;refine⟨_,rfl, ?_⟩;have d9:=Zj D2 HB;have e6:=Zj D3 HB;replace a4:=Zk a4 hb;replace a5:=Zk a5 hb;replace a6:=Zk a6 hb;replace HB:=Zh HB hb;obtain⟨n8,n9,D4⟩:=Kd.R_slice d9.out;subst D4;obtain⟨o0,o1,D5⟩:=Kd.R_slice e6.out;subst D5)|((with_reducible refine gate_callee (f:=42) rfl ?_);refine Ga (some 27) Try.func42 #[.agg #[.slice n8 l3.length n9,.slice o0 l4.length o1]] (h:= ?_);(with_reducible refine(impl_checkedTurned.calls G8 (fun k_=>some k_=(.slice n8 l3.length n9:Value).ownBlock) (.slice n8 l3.length n9) l3 (fun k_=>some k_=(.slice o0 l4.length o1:Value).ownBlock) (.slice o0 l4.length o1) l4 l5 l7 D1 w _ ?b7 ?b8 ?b9 ?c9 ?l6 I3.out).mono ?_);(case b7=>exact Zl HB);(case b8=>exact Kd.R_tight rfl d9.out);(case b9=>exact fun k_ e_=>(d9.out.1 k_ e_.symm));(case c9=>exact Kd.R_tight rfl e6.out);(case l6=>exact fun k_ e_=>(e6.out.1 k_ e_.symm));rintro e J3 ⟨D6,D7,rfl,D2,D3,hb,hkp⟩;refine⟨_,rfl, ?_⟩;replace a4:=Zm (blk_kept (Zb a4) hkp (fun hs_=>Or.elim hs_ (fun e_=>(fun e_=>(Kd.R_ne d9.out a4.out (by decide)) e_) e_) (fun e_=>(fun e_=>(Kd.R_ne e6.out a4.out (by decide)) e_) e_)));replace a5:=Zm (blk_kept (Zb a5) hkp (fun hs_=>Or.elim hs_ (fun e_=>(fun e_=>(Kd.R_ne d9.out a5.out (by decide)) e_) e_) (fun e_=>(fun e_=>(Kd.R_ne e6.out a5.out (by decide)) e_) e_)));replace a6:=Zm (blk_kept (Zb a6) hkp (fun hs_=>Or.elim hs_ (fun e_=>(fun e_=>(Kd.R_ne d9.out a6.out (by decide)) e_) e_) (fun e_=>(fun e_=>(Kd.R_ne e6.out a6.out (by decide)) e_) e_)));have n4:=Zm (Kd.R_mono (ok':=fun k_=>Zn k_ D7) D2 (fun k_ hk_=>hk_.2));have n5:=Zm (Kd.R_mono (ok':=fun k_=>Zn k_ D6) D3 (fun k_ hk_=>hk_.2));replace HB:=Zm (hb);clear d9 e6;obtain⟨l8,l9,D8⟩:=Kd.R_slice n4.out;subst D8;obtain⟨C4,C5,C6,C7⟩:=Z2 a6;obtain⟨o2,o3,D9⟩:=Kd.R_slice n5.out;subst D9))
    refine bodyPost_ret (results_ct rfl _ _ k9 26 #[.slice l8 l5.length l9,.slice o2 l7.length o3] (0,0) _ rfl (by refine Zrb ?_;refine blk_put (cs:= #[.slice l8 l5.length l9,.slice none 0 0]) ?_ 1 _ rfl;refine Zrb ?_;refine blk_put (cs:= #[.slice none 0 0,.slice none 0 0]) ?_ 0 _ rfl;refine Zrb ?_;exact a6.out) Try.underlying26 rfl (by kernel_rfl)) rfl ?_
    exact⟨_,_,Ze,Zrr (Zfm n4 a6 (.slice l8 l5.length l9) (.slice o2 l7.length o3) (fun _ hk=>hk.1)),Zrr (Zfm n5 a6 (.slice l8 l5.length l9) (.slice o2 l7.length o3) (fun _ hk=>hk.1)),Zl HB⟩
def spec_poIf.f (k:Nat) (a4:List Int) (a5:List Int):Option (List Int × List Int × Bool):=(spec_poTurned.f k a4 a5).bind fun a6=>(if a6=true then(some (a4,a5,true))else(some (([]:List Int),([]:List Int),false)))
set_option maxHeartbeats 8000000 in
set_option maxRecDepth 100000 in
theorem spec_poIf.calls (k:Nat) (a4:Nat→Prop) (d4:Value) (b6:List Int) (a5:Nat→Prop) (d5:Value) (b7:List Int) (r1:List Int) (r2:List Int) (r3:Bool) (w0 w:World) (hB:Below w0.heap.size w0 w) (f9:Kd.R (Kd.int .i64) 3 w w0.heap.size a4 d4 b6) (d8: ∀k_,a4 k_→ ¬a5 k_) (g8:Kd.R (Kd.int .i64) 3 w w0.heap.size a5 d5 b7) (d9: ∀k_,a5 k_→ ¬a4 k_) (h:spec_poIf.f k b6 b7=some (r1,r2,r3)):
  Calls Try.prog 51 #[.agg #[d4,d5]] w fun e w'=> ∃n3 n4:Value,e= .returned (.tuple #[.agg #[n3,n4],.bool r3])∧Kd.R (Kd.int .i64) 3 w' w0.heap.size (fun k_=>((a4 k_∨a5 k_)∨w.heap.size≤k_)∧Zn k_ n4) n3 r1∧Kd.R (Kd.int .i64) 3 w' w0.heap.size (fun k_=>((a4 k_∨a5 k_)∨w.heap.size≤k_)∧Zn k_ n3) n4 r2∧Below w0.heap.size w0 w'∧Kept w w' (fun k_=>a4 k_∨a5 k_):=by
 have o3:=Try.underlying26;have a6:=Zm (show Kd.R (Kd.int .i64) 3 w w0.heap.size (fun k_=>((a4 k_∨a5 k_)∨w.heap.size≤k_)∧Zn k_ d5) d4 b6 from Kd.R_mono f9 (fun k_ hk=>⟨(.inl (.inl hk)),fun e_=>d8 k_ hk (g8.1 k_ e_.symm)⟩));have a7:=Zm (show Kd.R (Kd.int .i64) 3 w w0.heap.size (fun k_=>((a4 k_∨a5 k_)∨w.heap.size≤k_)∧Zn k_ d4) d5 b7 from Kd.R_mono g8 (fun k_ hk=>⟨(.inl (.inr hk)),fun e_=>d9 k_ hk (f9.1 k_ e_.symm)⟩));have HK:=Zm (Kept.refl w (fun k_=>a4 k_∨a5 k_));have o8:=Aside0.mk hB.size;have HB:=Aside0.mk hB;clear hB;have H:((spec_poTurned.f k b6 b7).bind fun g9=>(if g9=true then(some (b6,b7,true))else(some (([]:List Int),([]:List Int),false))))=some (r1,r2,r3):=h;clear h
 replace H:=Zb0 H;obtain⟨g9,A2,H⟩:=H
 by_cases c3:g9=true
 ·
  subst c3
  rw[if_pos rfl]at H
  obtain⟨rfl,rfl,rfl⟩:=Zs3 H;clear H;obtain⟨i3,i4,o4⟩:=Kd.R_slice a6.out;subst o4;obtain⟨i5,i6,o5⟩:=Kd.R_slice a7.out;subst o5
  go_enter Try.func51,Try.ntmps51
  go_wp2_with (first|((with_reducible refine gate_dst (N:=1) rfl ?_);refine Zbe 1 #[.slice i3 b6.length i4,.slice i5 b7.length i6] 26 ?_;intro d6 hg w6 hbox hb;replace a6:=Zo a6 hb;replace a7:=Zo a7 hb;have a8:=Zm (hbox);have b8:=Zm ((by rw[hg];exact(by first|exact HK.out.1|exact(show Kept w _ (fun k_=>a4 k_∨a5 k_)from by repeat(first|(with_reducible first|exact HK.out|apply Kept.alloc|apply Kept.drewN|apply Kept.drew)|exact HK.out)).1):w.heap.size≤d6));replace HK:=Zm (Kept.below (S:=(fun k_=>a4 k_∨a5 k_)) (by repeat(first|(with_reducible first|exact HK.out|apply Kept.alloc|apply Kept.drewN|apply Kept.drew)|exact HK.out)) hb);have i7:=Zm ((by rw[hg];exact(below_size (Zl HB)):w0.heap.size≤d6));replace HB:=Zh HB hb;clear hb hbox hg)|((with_reducible refine gate_dst (N:=2) rfl ?_);refine Zbe 2 #[.slice none 0 0,.slice none 0 0] 26 ?_;intro d3 hg w7 hbox hb;replace a6:=Zo a6 hb;replace a7:=Zo a7 hb;have a9:=Zm (hbox);have d7:=Zm ((by rw[hg];exact(by first|exact HK.out.1|exact(show Kept w _ (fun k_=>a4 k_∨a5 k_)from by repeat(first|(with_reducible first|exact HK.out|apply Kept.alloc|apply Kept.drewN|apply Kept.drew|refine Kept.setCell ?_ (.inr b8.out) _)|exact HK.out)).1):w.heap.size≤d3));replace HK:=Zm (Kept.below (S:=(fun k_=>a4 k_∨a5 k_)) (by repeat(first|(with_reducible first|exact HK.out|apply Kept.alloc|apply Kept.drewN|apply Kept.drew|refine Kept.setCell ?_ (.inr b8.out) _)|exact HK.out)) hb);have i8:=Zm ((by rw[hg];exact(below_size (Zl HB)):w0.heap.size≤d3));replace HB:=Zh HB hb;have b9:=Zq hg a8;have c9:=Zp hg a8;replace a8:=Zk a8 hb;clear hb hbox hg;have o6:=b9.out;have o7:=c9.out;obtain⟨n5,n6,n7,n8⟩:=Z2 a8)|((with_reducible refine gate_callee (f:=36) rfl ?_);refine Ga (some 5) Try.func36 #[.agg #[.slice i3 b6.length i4,.slice i5 b7.length i6]] (h:= ?_);(with_reducible refine(spec_poTurned.calls k _ _ b6 _ _ b7 true _ ?e6 ?e7 ?e9 ?f8 A2.out).mono ?_);(case e6=>exact Zca (Kd.R_reads' a6.out).2.2);(case e7=>exact(Kd.R_reads' a6.out).2.1);(case e9=>exact Zca (Kd.R_reads' a7.out).2.2);(case f8=>exact(Kd.R_reads' a7.out).2.1);rintro e o9 ⟨rfl,hb⟩;refine⟨_,rfl, ?_⟩;replace a6:=Zo a6 hb;replace a7:=Zo a7 hb;replace a8:=Zk a8 hb;replace a9:=Zk a9 hb;replace HK:=Zm (Kept.below (S:=(fun k_=>a4 k_∨a5 k_)) (by repeat(first|(with_reducible first|exact HK.out|apply Kept.alloc|apply Kept.drewN|apply Kept.drew|refine Kept.setCell ?_ (.inr b8.out) _ |refine Kept.setCell ?_ (.inr d7.out) _)|exact HK.out)) hb);replace HB:=Zh HB hb;obtain⟨k8,k9,l3,l4⟩:=Z2 a8;obtain⟨l5,l6,l7,l8⟩:=Z2 a9))
  refine bodyPost_ret (results_ct rfl _ _ d3 26 #[.slice i3 b6.length i4,.slice i5 b7.length i6] (0,0) _ rfl (by refine Zrb ?_;refine blk_put (cs:= #[.slice i3 b6.length i4,.slice none 0 0]) ?_ 1 _ rfl;refine Zrb ?_;refine blk_put (cs:= #[.slice none 0 0,.slice none 0 0]) ?_ 0 _ rfl;refine Zrb ?_;exact a9.out) Try.underlying26 rfl (by kernel_rfl)) rfl ?_
  exact⟨_,_,Ze,Zrr (Zfm a6 a9 (.slice i3 b6.length i4) (.slice i5 b7.length i6) (fun _ hk=>⟨hk.1.1,hk.1.2⟩)),Zrr (Zfm a7 a9 (.slice i3 b6.length i4) (.slice i5 b7.length i6) (fun _ hk=>⟨hk.1.1,hk.1.2⟩)),Zl HB,by repeat(first|(with_reducible first|exact HK.out|apply Kept.alloc|apply Kept.drewN|apply Kept.drew|refine Kept.setCell ?_ (.inr b8.out) _ |refine Kept.setCell ?_ (.inr d7.out) _)|exact HK.out)⟩
 ·
  replace c3:=Bool.eq_false_iff.mpr c3
  subst c3
  rw[if_neg Bool.false_ne_true]at H
  obtain⟨rfl,rfl,rfl⟩:=Zs3 H;clear H;obtain⟨i9,k3,n9⟩:=Kd.R_slice a6.out;subst n9;obtain⟨k4,k6,o0⟩:=Kd.R_slice a7.out;subst o0
  go_enter Try.func51,Try.ntmps51
  go_wp2_with (first|((with_reducible refine gate_dst (N:=1) rfl ?_);refine Zbe 1 #[.slice i9 b6.length k3,.slice k4 b7.length k6] 26 ?_;intro d6 hg p3 hbox hb;replace a6:=Zo a6 hb;replace a7:=Zo a7 hb;have a8:=Zm (hbox);have b8:=Zm ((by rw[hg];exact(by first|exact HK.out.1|exact(show Kept w _ (fun k_=>a4 k_∨a5 k_)from by repeat(first|(with_reducible first|exact HK.out|apply Kept.alloc|apply Kept.drewN|apply Kept.drew)|exact HK.out)).1):w.heap.size≤d6));replace HK:=Zm (Kept.below (S:=(fun k_=>a4 k_∨a5 k_)) (by repeat(first|(with_reducible first|exact HK.out|apply Kept.alloc|apply Kept.drewN|apply Kept.drew)|exact HK.out)) hb);have i7:=Zm ((by rw[hg];exact(below_size (Zl HB)):w0.heap.size≤d6));replace HB:=Zh HB hb;clear hb hbox hg)|((with_reducible refine gate_dst (N:=2) rfl ?_);refine Zbe 2 #[.slice none 0 0,.slice none 0 0] 26 ?_;intro d3 hg p4 hbox hb;replace a6:=Zo a6 hb;replace a7:=Zo a7 hb;have a9:=Zm (hbox);have d7:=Zm ((by rw[hg];exact(by first|exact HK.out.1|exact(show Kept w _ (fun k_=>a4 k_∨a5 k_)from by repeat(first|(with_reducible first|exact HK.out|apply Kept.alloc|apply Kept.drewN|apply Kept.drew|refine Kept.setCell ?_ (.inr b8.out) _)|exact HK.out)).1):w.heap.size≤d3));replace HK:=Zm (Kept.below (S:=(fun k_=>a4 k_∨a5 k_)) (by repeat(first|(with_reducible first|exact HK.out|apply Kept.alloc|apply Kept.drewN|apply Kept.drew|refine Kept.setCell ?_ (.inr b8.out) _)|exact HK.out)) hb);have i8:=Zm ((by rw[hg];exact(below_size (Zl HB)):w0.heap.size≤d3));replace HB:=Zh HB hb;have b9:=Zq hg a8;have c9:=Zp hg a8;replace a8:=Zk a8 hb;clear hb hbox hg;have o1:=b9.out;have o2:=c9.out;obtain⟨l9,m4,m5,m6⟩:=Z2 a8)|((with_reducible refine gate_callee (f:=36) rfl ?_);refine Ga (some 5) Try.func36 #[.agg #[.slice i9 b6.length k3,.slice k4 b7.length k6]] (h:= ?_);(with_reducible refine(spec_poTurned.calls k _ _ b6 _ _ b7 false _ ?e6 ?e7 ?e9 ?f8 A2.out).mono ?_);(case e6=>exact Zca (Kd.R_reads' a6.out).2.2);(case e7=>exact(Kd.R_reads' a6.out).2.1);(case e9=>exact Zca (Kd.R_reads' a7.out).2.2);(case f8=>exact(Kd.R_reads' a7.out).2.1);rintro e p5 ⟨rfl,hb⟩;refine⟨_,rfl, ?_⟩;replace a6:=Zo a6 hb;replace a7:=Zo a7 hb;replace a8:=Zk a8 hb;replace a9:=Zk a9 hb;replace HK:=Zm (Kept.below (S:=(fun k_=>a4 k_∨a5 k_)) (by repeat(first|(with_reducible first|exact HK.out|apply Kept.alloc|apply Kept.drewN|apply Kept.drew|refine Kept.setCell ?_ (.inr b8.out) _ |refine Kept.setCell ?_ (.inr d7.out) _)|exact HK.out)) hb);replace HB:=Zh HB hb;obtain⟨m7,m8,m9,n0⟩:=Z2 a9))
  refine bodyPost_ret (results_ct rfl _ _ d3 26 #[.slice none 0 0,.slice none 0 0] (0,0) _ rfl (by refine Zrb ?_;refine blk_put (cs:= #[.slice none 0 0,.slice none 0 0]) ?_ 1 _ rfl;refine Zrb ?_;refine blk_put (cs:= #[.slice none 0 0,.slice none 0 0]) ?_ 0 _ rfl;refine Zrb ?_;exact a9.out) Try.underlying26 rfl (by kernel_rfl)) rfl ?_
  exact⟨_,_,Ze,Znl,Znl,Zl HB,by repeat(first|(with_reducible first|exact HK.out|apply Kept.alloc|apply Kept.drewN|apply Kept.drew|refine Kept.setCell ?_ (.inr b8.out) _ |refine Kept.setCell ?_ (.inr d7.out) _)|exact HK.out)⟩
def spec_poThen.l0:Nat→List Int→Int→Int→List Int→List Int→List Int→List Int→List Int→List Int→Option (List Int × List Int)
 |0,_,_,_,_,_,_,_,_,_ =>none
 |k+1,b7,b8,a9,b6,a4,a5,a6,a7,a8=>if a9<b8 then(if 0≤a9 then(if a9<(b7.length:Int)then(if 0≤(rd b7 a9)then(if(rd b7 a9)<(a5.length:Int)then(if a7.length<17592186044416 then(if a9<(a4.length:Int)then(if(rd b7 a9)<(a6.length:Int)then(if a8.length<17592186044416 then(spec_poThen.l0 k b7 b8 (wrap64 (a9+1)) b6 a4 a5 a6 (a7++ [rd a5 (rd b7 a9)]) (a8++ [wrap64 ((rd a4 a9)+(rd a6 (rd b7 a9)))]))else(none))else(none))else(none))else(none))else(none))else(none))else(none))else(none))else(some (a7,a8))
def spec_poThen.f (k:Nat) (a4:List Int) (a5:List Int) (a6:List Int) (a7:List Int):Option (List Int × List Int):=spec_poThen.l0 k a4 (a4.length:Int) 0 a4 a5 a6 a7 ([]:List Int) ([]:List Int)
def spec_poThen.T5:Bool × List (List Nat × List Nat):=(true,[([],[]),([0],[0]),([],[]),([2],[2]),([],[]),([3,4],[3,4]),([5],[5]),([6],[6]),([1,7],[1,7]),([0,1,2,3,4,5,6,7,8],[]),([9,8,8,0,1,2,3,4,5,6,7,8],[8,9])])
def spec_poThen.B5:List Nat:= [0,1,0,4,0,28,60,124,255,511,1023]
theorem spec_poThen.tab5:rtab .any (opsOf Try.f52 5)=spec_poThen.T5:=by kernel_rfl
theorem spec_poThen.bits5:waitsOk spec_poThen.T5.2 spec_poThen.B5=true:=by kernel_rfl
def spec_poThen.T6:Bool × List (List Nat × List Nat):=(true,[([],[]),([0],[0]),([],[]),([2],[2]),([],[]),([3,4],[3,4]),([5],[5]),([],[]),([7],[7]),([],[]),([8,9],[8,9]),([10],[10]),([6,11],[6,11]),([12],[12]),([1,13],[1,13]),([0,1,2,3,4,5,6,7,8,9,10,11,12,13,14],[]),([15,14,14,0,1,2,3,4,5,6,7,8,9,10,11,12,13,14],[14,15])])
def spec_poThen.B6:List Nat:= [0,1,0,4,0,28,60,0,128,0,896,1920,4092,8188,16383,32767,65535]
theorem spec_poThen.tab6:rtab .any (opsOf Try.f52 6)=spec_poThen.T6:=by kernel_rfl
theorem spec_poThen.bits6:waitsOk spec_poThen.T6.2 spec_poThen.B6=true:=by kernel_rfl
set_option maxHeartbeats 8000000 in
set_option maxRecDepth 100000 in
theorem spec_poThen.calls (k:Nat) (m8:Option Addr) (l5:Nat) (c9:List Int) (m6:Option Addr) (l6:Nat) (g9:List Int) (m9:Option Addr) (k8:Nat) (d7:List Int) (l7:Option Addr) (k9:Nat) (d8:List Int) (r1:List Int) (r2:List Int) (w:World) (n5:Kd.C (Kd.int .i64) w m8 c9.length c9) (n6:c9.length≤l5) (n7:Kd.C (Kd.int .i64) w m6 g9.length g9) (n8:g9.length≤l6) (n9:Kd.C (Kd.int .i64) w m9 d7.length d7) (o0:d7.length≤k8) (o1:Kd.C (Kd.int .i64) w l7 d8.length d8) (o2:d8.length≤k9) (h:spec_poThen.f k c9 g9 d7 d8=some (r1,r2)):
  Calls Try.prog 52 #[.agg #[.slice m8 c9.length l5,.slice m6 g9.length l6],.agg #[.slice m9 d7.length k8,.slice l7 d8.length k9]] w fun e w'=> ∃D7 D8:Value,e= .returned (.agg #[D7,D8])∧Kd.R (Kd.int .i64) 3 w' w.heap.size (fun k_=>Zn k_ D8) D7 r1∧Kd.R (Kd.int .i64) 3 w' w.heap.size (fun k_=>Zn k_ D7) D8 r2∧Below w.heap.size w w':=by
 have J1:=Try.underlying26;have q7:=Aside0.mk n5;have F3:=Aside0.mk n6;clear n5 n6;have q8:=Aside0.mk n7;have F4:=Aside0.mk n8;clear n7 n8;have q9:=Aside0.mk n9;have F5:=Aside0.mk o0;clear n9 o0;have r5:=Aside0.mk o1;have F6:=Aside0.mk o2;clear o1 o2;have HB:=Zm (Below.refl w.heap.size w);have H:(spec_poThen.l0 k c9 (c9.length:Int) 0 c9 g9 d7 d8 ([]:List Int) ([]:List Int))=some (r1,r2):=h;clear h;have H':=Aside0.mk H;clear H
 go_enter Try.func52,Try.ntmps52
 go_wp2_with (first|((with_reducible refine gate_dst (N:=2) rfl ?_);refine Zbe 2 #[.slice m8 c9.length l5,.slice m6 g9.length l6] 26 ?_;intro l3 hg w3 hbox hb;have a7:=Zm (hbox);have F7:=Zx hg HB;have F8:=Zx hg HB;replace HB:=Zh HB hb;clear hb hbox hg)|((with_reducible refine gate_dst (N:=3) rfl ?_);refine Zbe 3 #[.slice m9 d7.length k8,.slice l7 d8.length k9] 26 ?_;intro k3 hg w4 hbox hb;have a6:=Zm (hbox);have F9:=Zx hg HB;have G1:=Zx hg HB;replace HB:=Zh HB hb;have l8:=Zq hg a7;have l9:=Zp hg a7;replace a7:=Zk a7 hb;clear hb hbox hg)|((with_reducible refine gate_dst (N:=4) rfl ?_);refine Zbe 4 #[.slice none 0 0,.slice none 0 0] 26 ?_;intro m7 hg w5 hbox hb;have b6:=Zm (hbox);have G2:=Zx hg HB;have G3:=Zx hg HB;replace HB:=Zh HB hb;have k4:=Zq hg a7;have k6:=Zp hg a7;replace a7:=Zk a7 hb;have m4:=Zq hg a6;have m5:=Zp hg a6;replace a6:=Zk a6 hb;clear hb hbox hg)|((with_reducible refine gate_dst (N:=5) rfl ?_);refine Zbe 5 #[.slice none 0 0,.slice none 0 0] 26 ?_;intro d9 hg w6 hbox hb;have a5:=Zm (hbox);have G4:=Zx hg HB;have G5:=Zx hg HB;replace HB:=Zh HB hb;have e6:=Zq hg a7;have e7:=Zp hg a7;replace a7:=Zk a7 hb;have e9:=Zq hg a6;have f8:=Zp hg a6;replace a6:=Zk a6 hb;have f9:=Zq hg b6;have g8:=Zp hg b6;replace b6:=Zk b6 hb;clear hb hbox hg;have J2:=e7.out;have J3:=e6.out;have J4:=f8.out;have J5:=e9.out;have J6:=g8.out;have J7:=f9.out;obtain⟨t9,y8,y9,z2⟩:=Z2 a5;have G6:=l8.out;have G7:=l9.out;have G8:=k4.out;have G9:=k6.out;obtain⟨z3,z4,z5,z6⟩:=Z2 a7))
 go_loopg [12] k (fun kq J8 w'=> ∃(a8:Int) (b7:List Int) (b8:List Int) (d6:Value) (b9:Value),J8= .int .i64 a8∧Aside0 (spec_poThen.l0 kq c9 (c9.length:Int) a8 c9 g9 d7 d8 b7 b8=some (r1,r2))∧Aside0 (kq≤k)∧Aside0 (Kd.R (Kd.int .i64) 3 w' w.heap.size (fun k_=>Zn k_ b9) d6 b7)∧Aside0 (Kd.R (Kd.int .i64) 3 w' w.heap.size (fun k_=>Zn k_ d6) b9 b8)∧Aside0 (w'.heap[l3]? =some (.cells #[(.slice m8 c9.length l5),(.slice m6 g9.length l6)] 26 (0,0)))∧Aside0 (w'.heap[k3]? =some (.cells #[(.slice m9 d7.length k8),(.slice l7 d8.length k9)] 26 (0,0)))∧Aside0 (w'.heap[m7]? =some (.cells #[(.slice none 0 0),(.slice none 0 0)] 26 (0,0)))∧Aside0 (w'.heap[d9]? =some (.cells #[d6,b9] 26 (0,0)))∧Aside0 (Below w.heap.size w w'))
 case atStart=>exact⟨(0),(([]:List Int)),(([]:List Int)),(.slice none 0 0),(.slice none 0 0),Zs,H',⟨Nat.le_refl _⟩,⟨Znl⟩,⟨Znl⟩,⟨Zbf a7⟩,⟨Zbf a6⟩,⟨Zbf b6⟩,⟨by refine Zrb ?_;refine blk_put (cs:= #[.slice none 0 0,.slice none 0 0]) ?_ 1 _ rfl;refine Zrb ?_;refine blk_put (cs:= #[.slice none 0 0,.slice none 0 0]) ?_ 0 _ rfl;refine Zrb ?_;exact a5.out⟩,⟨Zl HB⟩⟩
 case round=>
  (clear H');obtain⟨a8,b7,b8,d6,b9,rfl,HA,H1,a9,a4,a7,a6,b6,a5,HB⟩:=hrel
  cases gk with
  |zero=>exact absurd HA.out (by simp[spec_poThen.l0])
  |succ k1=>
   have H:=HA.out;clear HA
   simp only[spec_poThen.l0]at H
   by_cases q6:a8<(c9.length:Int)
   ·
    rw[if_pos q6]at H;have r6:=decide_eq_true q6;clear q6
    replace H:=Zit H;obtain⟨H2,H⟩:=H
    replace H:=Zit H;obtain⟨H3,H⟩:=H
    replace H:=Zit H;obtain⟨H4,H⟩:=H
    replace H:=Zit H;obtain⟨H5,H⟩:=H
    replace H:=Zif H;obtain⟨H6,H⟩:=H
    have r7:=Aside0.mk H6;clear H6
    generalize o3:((b7++ [rd d7 (rd c9 a8)]):List Int)=i7 at H;have r8:=Aside0.mk o3.symm;clear o3
    replace H:=Zit H;obtain⟨H7,H⟩:=H
    replace H:=Zit H;obtain⟨H8,H⟩:=H
    replace H:=Zif H;obtain⟨c22,H⟩:=H
    have r9:=Aside0.mk c22;clear c22
    generalize o4:((b8++ [wrap64 ((rd g9 a8)+(rd d8 (rd c9 a8)))]):List Int)=n0 at H;have s6:=Aside0.mk o4.symm;clear o4;have H':=Aside0.mk H;clear H;obtain⟨o5,D9,z7,J9,K0⟩:=Zat q7 HB (a8)
    cases D9
    try go_wp2
    replace a9:=Zm (Kd.R_drew a9.out);replace a4:=Zm (Kd.R_drew a4.out);replace a7:=Zm (blk_drew a7.out);replace a6:=Zm (blk_drew a6.out);replace b6:=Zm (blk_drew b6.out);replace a5:=Zm (blk_drew a5.out);replace HB:=Zm (below_drew1 HB.out);have p3:0≤((rd c9 a8):Int):=Zoa;have p4:(rd c9 a8)<(d7.length:Int):=Zoa
    obtain⟨l4,E0,i4⟩:=Kd.at_int q9.out (rd c9 a8) p3 p4
    have d3:=i4
    cases E0
    replace i4:=(HB.out.cell (World.block_lt_of_cell? w _ i4)).trans i4
    replace p3:=eq_true p3
    replace p4:=eq_true p4
    refine start_ (n:=11) (S:=fun w'=>w'.cell? ⟨d9,0,none⟩=some (d6)∧w'.cell? ⟨d9,1,none⟩=some (b9)∧w'.cell? ⟨k3,0,none⟩=some (.slice (some l4) d7.length k8)∧w'.cell? ⟨k3,1,none⟩=some (.slice l7 d8.length k9)∧w'.cell? (l4.add ((rd c9 a8)).toNat)=some (.int .i64 (rd d7 (rd c9 a8)))) (ds:= [10]) (fl 11 0) (by kernel_rfl) rfl rfl ⟨Zc0 a5 0,Zc0 a5 1,Zc0 a6 0,Zc0 a6 1,((HB.out.cell (World.block_lt_of_cell? w _ d3)).trans d3)⟩ (fun hHeld=> ?_);refine with_tabW spec_poThen.tab5 spec_poThen.bits5 (fun HT_ HW_=> ?_)
    generalize wr.drew=K6 at a9 a4 a7 a6 b6 a5 HB i4 hHeld ⊢;refine Yu 0 17 (fl 11 1) HT_ (h:= ?_);refine Yu 2 19 (fl 11 5) HT_ (h:= ?_);refine Yu 4 21 (fl 11 21) HT_ (h:= ?_);refine Yt 1 18 (fl 11 23) HT_ HW_ hHeld (h:= ?_);refine Yt 3 20 (fl 11 31) HT_ HW_ hHeld (h:= ?_);refine Yu 5 22 (fl 11 63) HT_ (h:= ?_);refine Yt 6 23 (fl 11 127) HT_ HW_ hHeld (h:= ?_)
    refine one_ (i:=7) (N:=some 24) (fl 11 255) rfl rfl (one_of HT_.out (by kernel_rfl)) (by decide) (fun K hK=> ?_)
    refine value_ (w1:= ?_) (v:= ?_) (by rfl) rfl ?_ ?_
    rotate_left 2
    ·
     go_simp
     constructor
     ·
      rfl
     ·
      rfl
    refine hK.out _ _ ⟨(blk_cell (blk_alloc a5.out _) 0).trans rfl,(blk_cell (blk_alloc a5.out _) 1).trans rfl,(blk_cell (blk_alloc a6.out _) 0).trans rfl,(blk_cell (blk_alloc a6.out _) 1).trans rfl,(World.cell?_alloc_lt _ _ _ (World.block_lt_of_cell? _ _ (((HB.out.cell (World.block_lt_of_cell? w _ d3)).trans d3)))).trans (((HB.out.cell (World.block_lt_of_cell? w _ d3)).trans d3))⟩ (fun hHeld=> ?_)
    clear hK K;refine Yn 24 (h:= ?_)
    refine one_ (i:=8) (N:=some 25) (fl 11 511) rfl rfl (one_of HT_.out (by kernel_rfl)) (by decide) (fun K hK=> ?_)
    refine Kd.R_append_step (Kd.int .i64) (w0:=w) w.heap.size (by rfl) (.tmp 18) (.tmp 24) 24 3 (.int .i64 0) 8 rfl Try.underlying24 info3 rfl (by decide) (by omega) d6 b7 (rd d7 (rd c9 a8)) [.int .i64 (rd d7 (rd c9 a8))] (fun k_=>Zn k_ b9) (fun _ =>False) rfl rfl ?aP (fun _ hk=>hk.elim) ?aF ?aO ?aB ?aS ?aL ?_
    (case aP=>exact rfl)
    (case aB=>exact(Zl HB))
    (case aF=>exact(fun k_ hk=>Kd.fresh' (Kd.R_lt (Zr a4)) k_ hk))
    (case aO=>exact(Zr a9))
    (case aS=>exact(below_size (Zl HB)))
    (case aL=>have:=r7.out;omega)
    intro K1 K2 ho hb hg hat
    rw[←r8.out]at ho
    replace a4:=Zm (Kd.R_after (ok:=(fun _ =>True)) (Zc a4) hg hat);replace a7:=Zm (blk_grown (Zb a7) hg (Kd.R_ne a9.out a7.out (by decide)));replace a6:=Zm (blk_grown (Zb a6) hg (Kd.R_ne a9.out a6.out (by decide)));replace b6:=Zm (blk_grown (Zb b6) hg (Kd.R_ne a9.out b6.out (by decide)));replace a5:=Zm (blk_grown (Zb a5) hg (Kd.R_ne a9.out a5.out (by decide)));replace HB:=Zm (hb);have i3:=Zm (ho);clear a9 ho hb hg hat
    obtain⟨i8,i9,s7⟩:=Kd.R_slice i3.out
    (first|subst s7|(injection s7 with s9 E6 t0;have E7:=s9.symm;have E8:=t0.symm;clear s9 E6 t0;subst E7;subst E8))
    refine hK.out _ _ ⟨Zc0 a5 0,Zc0 a5 1,Zc0 a6 0,Zc0 a6 1,((HB.out.cell (World.block_lt_of_cell? w _ d3)).trans d3)⟩ (fun hHeld=> ?_)
    clear hK K;refine Yn 25 (h:= ?_);refine Yu 9 26 (fl 11 1023) HT_ (h:= ?_)
    refine last_ (i:=10) (N:=none) (fl 11 2047) rfl rfl (one_of HT_.out (by kernel_rfl)) (by decide) (fun K hK=> ?_)
    have K3:=Zc0 a5 0;have H9:=blk_frozen a5.out 0;have z8:=e6.out;have z9:=e9.out;have B0:=f9.out;have C0:=e7.out;have C1:=f8.out;have C2:=g8.out
    refine skip_ (w1:= ?_) (by rfl) rfl ?_ ?_
    rotate_left
    ·
     go_simp
     rfl
    refine hK.out _ _ ?_
    clear hK K
    refine done_ (done_of HT_.out (by kernel_rfl)) ?_
    try go_wp2
    generalize hW_:(K2.setCell ⟨d9,0,none⟩ (.slice i8 i7.length i9))=o6;replace a4:Aside0 (Kd.R (Kd.int .i64) 3 o6 w.heap.size (fun k_=>some k_≠(.slice i8 i7.length i9:Value).ownBlock) b9 b8):=⟨by rw[←hW_];(with_reducible repeat(first|apply Kd.R_alloc|apply Kd.R_drewN|apply Kd.R_drew));exact Kd.R_mono (Kd.R_far (p:=⟨d9,0,none⟩) (Kd.R_types a4.out a5.out (by decide)) (fun _ hk=>hk.2) (.slice i8 i7.length i9)) (fun _ hk=>hk.1.2)⟩;replace i3:Aside0 (Kd.R (Kd.int .i64) 3 o6 w.heap.size (fun k_=>Zn k_ b9) (.slice i8 i7.length i9) i7):=⟨by rw[←hW_];(with_reducible repeat(first|apply Kd.R_alloc|apply Kd.R_drewN|apply Kd.R_drew));exact Kd.R_mono (Kd.R_far (p:=⟨d9,0,none⟩) (Kd.R_types i3.out a5.out (by decide)) (fun _ hk=>hk.2) (.slice i8 i7.length i9)) (fun _ hk=>hk.1)⟩;replace a7:Aside0 (o6.heap[l3]? =some (.cells #[.slice (some o5) c9.length l5,.slice m6 g9.length l6] 26 (0,0))):=⟨by rw[←hW_];exact Zbf a7⟩;replace a6:Aside0 (o6.heap[k3]? =some (.cells #[.slice (some l4) d7.length k8,.slice l7 d8.length k9] 26 (0,0))):=⟨by rw[←hW_];exact Zbf a6⟩;replace b6:Aside0 (o6.heap[m7]? =some (.cells #[.slice none 0 0,.slice none 0 0] 26 (0,0))):=⟨by rw[←hW_];exact Zbf b6⟩;replace a5:Aside0 (o6.heap[d9]? =some (.cells #[.slice i8 i7.length i9,b9] 26 (0,0))):=⟨by rw[←hW_];refine Zrb ?_;refine blk_put (cs:= #[d6,b9]) ?_ 0 _ rfl;refine Zrb ?_;exact a5.out⟩;replace HB:Aside0 (Below w.heap.size w o6):=⟨by rw[←hW_];exact Zl HB⟩;clear hW_;replace a4:=Zm (Kd.R_drew a4.out);replace i3:=Zm (Kd.R_drew i3.out);replace a7:=Zm (blk_drew a7.out);replace a6:=Zm (blk_drew a6.out);replace b6:=Zm (blk_drew b6.out);replace a5:=Zm (blk_drew a5.out);replace HB:=Zm (below_drew1 HB.out);have p5:0≤(a8:Int):=Zoa;have p6:a8<(g9.length:Int):=Zoa;obtain⟨o7,E9,i5⟩:=Kd.at_int q8.out a8 p5 p6
    have d4:=i5
    cases E9
    replace i5:=(HB.out.cell (World.block_lt_of_cell? w _ i5)).trans i5
    replace p5:=eq_true p5
    replace p6:=eq_true p6
    have p7:0≤((rd c9 a8):Int):=Zoa;have p8:(rd c9 a8)<(d8.length:Int):=Zoa
    obtain⟨o8,F0,i6⟩:=Kd.at_int r5.out (rd c9 a8) p7 p8
    have d5:=i6
    cases F0
    replace i6:=(HB.out.cell (World.block_lt_of_cell? w _ i6)).trans i6
    replace p7:=eq_true p7
    replace p8:=eq_true p8
    refine start_ (n:=17) (S:=fun w'=>w'.cell? ⟨d9,0,none⟩=some (.slice i8 i7.length i9)∧w'.cell? ⟨d9,1,none⟩=some (b9)∧w'.cell? ⟨l3,0,none⟩=some (.slice (some o5) c9.length l5)∧w'.cell? ⟨l3,1,none⟩=some (.slice (some o7) g9.length l6)∧w'.cell? ⟨k3,0,none⟩=some (.slice (some l4) d7.length k8)∧w'.cell? ⟨k3,1,none⟩=some (.slice (some o8) d8.length k9)∧w'.cell? (o7.add (a8).toNat)=some (.int .i64 (rd g9 a8))∧w'.cell? (o8.add ((rd c9 a8)).toNat)=some (.int .i64 (rd d8 (rd c9 a8)))) (ds:= [16]) (fl 17 0) (by kernel_rfl) rfl rfl ⟨Zc0 a5 0,Zc0 a5 1,Zc0 a7 0,Zc0 a7 1,Zc0 a6 0,Zc0 a6 1,((HB.out.cell (World.block_lt_of_cell? w _ d4)).trans d4),((HB.out.cell (World.block_lt_of_cell? w _ d5)).trans d5)⟩ (fun hHeld=> ?_);refine with_tabW spec_poThen.tab6 spec_poThen.bits6 (fun HT_ HW_=> ?_)
    generalize o6.drew=K7 at a4 i3 a7 a6 b6 a5 HB i5 i6 hHeld ⊢;refine Yu 0 27 (fl 17 1) HT_ (h:= ?_);refine Yu 2 29 (fl 17 5) HT_ (h:= ?_);refine Yu 4 31 (fl 17 21) HT_ (h:= ?_);refine Yu 7 34 (fl 17 149) HT_ (h:= ?_);refine Yu 9 36 (fl 17 661) HT_ (h:= ?_);refine Yt 1 28 (fl 17 663) HT_ HW_ hHeld (h:= ?_);refine Yt 3 30 (fl 17 671) HT_ HW_ hHeld (h:= ?_);refine Yu 5 32 (fl 17 703) HT_ (h:= ?_);refine Yt 6 33 (fl 17 767) HT_ HW_ hHeld (h:= ?_);refine Yt 8 35 (fl 17 1023) HT_ HW_ hHeld (h:= ?_);refine Yu 10 37 (fl 17 2047) HT_ (h:= ?_);refine Yt 11 38 (fl 17 4095) HT_ HW_ hHeld (h:= ?_);refine Yu 12 39 (fl 17 8191) HT_ (h:= ?_)
    refine one_ (i:=13) (N:=some 40) (fl 17 16383) rfl rfl (one_of HT_.out (by kernel_rfl)) (by decide) (fun K hK=> ?_)
    refine value_ (w1:= ?_) (v:= ?_) (by rfl) rfl ?_ ?_
    rotate_left 2
    ·
     go_simp
     constructor
     ·
      rfl
     ·
      rfl
    refine hK.out _ _ ⟨(blk_cell (blk_alloc a5.out _) 0).trans rfl,(blk_cell (blk_alloc a5.out _) 1).trans rfl,(blk_cell (blk_alloc a7.out _) 0).trans rfl,(blk_cell (blk_alloc a7.out _) 1).trans rfl,(blk_cell (blk_alloc a6.out _) 0).trans rfl,(blk_cell (blk_alloc a6.out _) 1).trans rfl,(World.cell?_alloc_lt _ _ _ (World.block_lt_of_cell? _ _ (((HB.out.cell (World.block_lt_of_cell? w _ d4)).trans d4)))).trans (((HB.out.cell (World.block_lt_of_cell? w _ d4)).trans d4)),(World.cell?_alloc_lt _ _ _ (World.block_lt_of_cell? _ _ (((HB.out.cell (World.block_lt_of_cell? w _ d5)).trans d5)))).trans (((HB.out.cell (World.block_lt_of_cell? w _ d5)).trans d5))⟩ (fun hHeld=> ?_)
    clear hK K;refine Yn 40 (h:= ?_)
    refine one_ (i:=14) (N:=some 41) (fl 17 32767) rfl rfl (one_of HT_.out (by kernel_rfl)) (by decide) (fun K hK=> ?_)
    refine Kd.R_append_step (Kd.int .i64) (w0:=w) w.heap.size (by rfl) (.tmp 28) (.tmp 40) 24 3 (.int .i64 0) 8 rfl Try.underlying24 info3 rfl (by decide) (by omega) b9 b8 (wrap64 ((rd g9 a8)+(rd d8 (rd c9 a8)))) [.int .i64 (wrap64 ((rd g9 a8)+(rd d8 (rd c9 a8))))] (fun k_=>some k_≠(.slice i8 i7.length i9:Value).ownBlock) (fun _ =>False) rfl rfl ?aP (fun _ hk=>hk.elim) ?aF ?aO ?aB ?aS ?aL ?_
    (case aP=>exact rfl)
    (case aB=>exact(Zl HB))
    (case aF=>exact(fun k_ hk=>Kd.fresh' (Kd.R_lt (Zr i3)) k_ hk))
    (case aO=>exact(Zr a4))
    (case aS=>exact(below_size (Zl HB)))
    (case aL=>have:=r9.out;omega)
    intro K4 K8 ho hb hg hat
    rw[←s6.out]at ho
    replace a7:=Zm (blk_grown (Zb a7) hg (Kd.R_ne a4.out a7.out (by decide)));replace a6:=Zm (blk_grown (Zb a6) hg (Kd.R_ne a4.out a6.out (by decide)));replace b6:=Zm (blk_grown (Zb b6) hg (Kd.R_ne a4.out b6.out (by decide)));replace a5:=Zm (blk_grown (Zb a5) hg (Kd.R_ne a4.out a5.out (by decide)));replace i3:=Zm (Kd.R_after (ok:=(fun _ =>True)) (Zc i3) hg hat);replace HB:=Zm (hb);have o9:=Zm (ho);clear a4 ho hb hg hat
    obtain⟨p9,q3,t8⟩:=Kd.R_slice o9.out
    (first|subst t8|(injection t8 with s9 E6 t0;have E7:=s9.symm;have E8:=t0.symm;clear s9 E6 t0;subst E7;subst E8))
    refine hK.out _ _ ⟨Zc0 a5 0,Zc0 a5 1,Zc0 a7 0,Zc0 a7 1,Zc0 a6 0,Zc0 a6 1,((HB.out.cell (World.block_lt_of_cell? w _ d4)).trans d4),((HB.out.cell (World.block_lt_of_cell? w _ d5)).trans d5)⟩ (fun hHeld=> ?_)
    clear hK K;refine Yn 41 (h:= ?_);refine Yu 15 42 (fl 17 65535) HT_ (h:= ?_)
    refine last_ (i:=16) (N:=none) (fl 17 131071) rfl rfl (one_of HT_.out (by kernel_rfl)) (by decide) (fun K hK=> ?_)
    have K5:=Zc0 a5 1;have I0:=blk_frozen a5.out 1;have C3:=e6.out;have C4:=e9.out;have C5:=f9.out;have C6:=e7.out;have C7:=f8.out;have C8:=g8.out
    refine skip_ (w1:= ?_) (by rfl) rfl ?_ ?_
    rotate_left
    ·
     go_simp
     rfl
    refine hK.out _ _ ?_
    clear hK K
    refine done_ (done_of HT_.out (by kernel_rfl)) ?_
    try go_wp2
    go_roundg k1
    case measure=>have:=H1.out;omega
    case rel=>exact⟨(wrap64 (a8+1)),(i7),(n0),(.slice i8 i7.length i9),(.slice p9 n0.length q3),Zs,H',⟨by have:=H1.out;omega⟩,⟨Zrr (Kd.R_mono (Kd.R_far (p:=⟨d9,1,none⟩) (Kd.R_types i3.out a5.out (by decide)) (fun _ hk=>hk.2) (.slice p9 n0.length q3)) (fun _ hk=>hk.1.2))⟩,⟨Zrr (Kd.R_mono (Kd.R_far (p:=⟨d9,1,none⟩) (Kd.R_types o9.out a5.out (by decide)) (fun _ hk=>hk.2) (.slice p9 n0.length q3)) (fun _ hk=>hk.1))⟩,⟨Zbf a7⟩,⟨Zbf a6⟩,⟨Zbf b6⟩,⟨by refine Zrb ?_;refine blk_put (cs:= #[.slice i8 i7.length i9,b9]) ?_ 1 _ rfl;refine Zrb ?_;exact a5.out⟩,⟨Zl HB⟩⟩
   ·
    rw[if_neg q6]at H;have r6:=decide_eq_false q6;clear q6
    obtain⟨rfl,rfl⟩:=Zs2 H;clear H
    have I1:=e7.out;have I2:=e6.out;have I3:=f8.out;have I4:=e9.out;have I5:=g8.out;have I6:=f9.out;obtain⟨C9,D0,D1,D2⟩:=Z2 a5
    obtain⟨n3,n4,F1⟩:=Kd.R_slice a9.out;subst F1
    have I7:=k6.out;have I8:=k4.out;have I9:=m5.out;have J0:=m4.out;obtain⟨D3,D4,D5,D6⟩:=Z2 b6
    obtain⟨q4,q5,F2⟩:=Kd.R_slice a4.out;subst F2
    go_wp2
    refine bodyPost_ret (results_cell_row rfl _ _ m7 26 #[.slice n3 b7.length n4,.slice q4 b8.length q5] (0,0) _ rfl (by refine Zrb ?_;refine blk_put (cs:= #[.slice n3 b7.length n4,.slice none 0 0]) ?_ 1 _ rfl;refine Zrb ?_;refine blk_put (cs:= #[.slice none 0 0,.slice none 0 0]) ?_ 0 _ rfl;refine Zrb ?_;exact b6.out) Try.underlying26 rfl (by kernel_rfl)) rfl ?_
    exact⟨_,_,Ze,Zrr (Zfm a9 b6 (.slice n3 b7.length n4) (.slice q4 b8.length q5) (fun _ hk=>hk.1)),Zrr (Zfm a4 b6 (.slice n3 b7.length n4) (.slice q4 b8.length q5) (fun _ hk=>hk.1)),Zl HB⟩
def spec_ThenTurned.j0:Nat→Bool→List Int→List Int→List Int→List Int→Option (List Int × List Int × Bool)
 |0,_,_,_,_,_ =>none
 |k+1,b6,a5,a6,a7,a8=>if b6=true then(some (([]:List Int),([]:List Int),false))else((spec_poThen.f k a5 a6 a7 a8).bind fun a9=>((spec_poIf.f k a9.1 a9.2).bind fun a4=>(some (a4.1,a4.2.1,a4.2.2))))
def spec_ThenTurned.f (k:Nat) (a4:List Int) (a6:List Int) (a5:List Int) (a7:List Int):Option (List Int × List Int × Bool):=(spec_poTurned.f k a4 a6).bind fun a8=>(if a8=true then((spec_poTurned.f k a5 a7).bind fun a9=>(if a9=true then(spec_ThenTurned.j0 k ((a4.length:Int) != (a5.length:Int)) a4 a6 a5 a7)else(spec_ThenTurned.j0 k true a4 a6 a5 a7)))else(spec_ThenTurned.j0 k true a4 a6 a5 a7))
set_option maxHeartbeats 8000000 in
set_option maxRecDepth 100000 in
theorem spec_ThenTurned.calls (k:Nat) (e7:Option Addr) (e9:Nat) (a7:List Int) (f8:Option Addr) (f9:Nat) (a8:List Int) (i6:Option Addr) (i7:Nat) (d3:List Int) (i8:Option Addr) (i9:Nat) (d8:List Int) (r1:List Int) (r2:List Int) (r3:Bool) (w:World) (m4:Kd.C (Kd.int .i64) w e7 a7.length a7) (m5:a7.length≤e9) (m6:Kd.C (Kd.int .i64) w f8 a8.length a8) (m7:a8.length≤f9) (m8:Kd.C (Kd.int .i64) w i6 d3.length d3) (m9:d3.length≤i7) (n0:Kd.C (Kd.int .i64) w i8 d8.length d8) (n3:d8.length≤i9) (h:spec_ThenTurned.f k a7 a8 d3 d8=some (r1,r2,r3)):
  Calls Try.prog 26 #[.agg #[.slice e7 a7.length e9,.slice f8 a8.length f9],.agg #[.slice i6 d3.length i7,.slice i8 d8.length i9]] w fun e w'=> ∃C8 C9:Value,e= .returned (.tuple #[.agg #[C8,C9],.bool r3])∧Kd.R (Kd.int .i64) 3 w' w.heap.size (fun k_=>Zn k_ C9) C8 r1∧Kd.R (Kd.int .i64) 3 w' w.heap.size (fun k_=>Zn k_ C8) C9 r2∧Below w.heap.size w w':=by
 have I0:=Try.underlying26;have g8:=Aside0.mk m4;have g9:=Aside0.mk m5;clear m4 m5;have i3:=Aside0.mk m6;have i4:=Aside0.mk m7;clear m6 m7;have k3:=Aside0.mk m8;have k4:=Aside0.mk m9;clear m8 m9;have k6:=Aside0.mk n0;have k8:=Aside0.mk n3;clear n0 n3;have HB:=Zm (Below.refl w.heap.size w);have H:((spec_poTurned.f k a7 a8).bind fun n6=>(if n6=true then((spec_poTurned.f k d3 d8).bind fun n7=>(if n7=true then(spec_ThenTurned.j0 k ((a7.length:Int) != (d3.length:Int)) a7 a8 d3 d8)else(spec_ThenTurned.j0 k true a7 a8 d3 d8)))else(spec_ThenTurned.j0 k true a7 a8 d3 d8)))=some (r1,r2,r3):=h;clear h;have D0:=Aside0.mk H;clear H
 go_enter Try.func26,Try.ntmps26
 go_upto_region 1 with(first|((with_reducible refine gate_dst (N:=2) rfl ?_);(try(refine gate_guard (by rfl) ?_;dsimp only));refine Zbe 2 #[.slice e7 a7.length e9,.slice f8 a8.length f9] 26 ?_;intro o4 hg w4 hbox hb;have a4:=Zm (hbox);have E0:=Zx hg HB;have E6:=Zx hg HB;replace HB:=Zh HB hb;clear hb hbox hg)|((with_reducible refine gate_dst (N:=3) rfl ?_);(try(refine gate_guard (by rfl) ?_;dsimp only));refine Zbe 3 #[.slice i6 d3.length i7,.slice i8 d8.length i9] 26 ?_;intro o5 hg w5 hbox hb;have a5:=Zm (hbox);have E7:=Zx hg HB;have E8:=Zx hg HB;replace HB:=Zh HB hb;have d4:=Zq hg a4;have d5:=Zp hg a4;replace a4:=Zk a4 hb;clear hb hbox hg)|((with_reducible refine gate_dst (N:=4) rfl ?_);(try(refine gate_guard (by rfl) ?_;dsimp only));refine Zbe 4 #[.slice none 0 0,.slice none 0 0] 26 ?_;intro k9 hg w6 hbox hb;have a6:=Zm (hbox);have E9:=Zx hg HB;have F0:=Zx hg HB;replace HB:=Zh HB hb;have a9:=Zq hg a4;have b6:=Zp hg a4;replace a4:=Zk a4 hb;have d6:=Zq hg a5;have d7:=Zp hg a5;replace a5:=Zk a5 hb;clear hb hbox hg))
 (try simp only[Act.put,List.setIfInBounds_toArray,List.set_cons_zero,List.set_cons_succ])
 go_cut [22] (fun I1 wc=> ∃(kq:Nat) (i5:Bool),I1= .bool i5∧Aside0 (spec_ThenTurned.j0 kq i5 a7 a8 d3 d8=some (r1,r2,r3))∧Aside0 (kq≤k)∧Aside0 (wc.heap[o4]? =some (.cells #[(.slice e7 a7.length e9),(.slice f8 a8.length f9)] 26 (0,0)))∧Aside0 (wc.heap[o5]? =some (.cells #[(.slice i6 d3.length i7),(.slice i8 d8.length i9)] 26 (0,0)))∧Aside0 (wc.heap[k9]? =some (.cells #[(.slice none 0 0),(.slice none 0 0)] 26 (0,0)))∧Aside0 (Below w.heap.size w wc))
 case first=>
  have H:=D0.out;clear D0;replace H:=Zb0 H;obtain⟨n6,A7,H⟩:=H
  by_cases c8:n6=true
  ·
   subst c8
   rw[if_pos rfl]at H
   replace H:=Zb0 H;obtain⟨n7,A9,H⟩:=H
   by_cases c10:n7=true
   ·
    subst c10
    rw[if_pos rfl]at H
    have H':=Aside0.mk H;clear H;have F1:=d4.out;have F2:=d5.out;have F3:=a9.out;have F4:=b6.out;obtain⟨o9,p3,p4,p5⟩:=Z2 a4
    go_wp2_with (first|((with_reducible refine gate_callee (f:=36) rfl ?_);refine Ga (some 7) Try.func36 #[.agg #[.slice e7 a7.length e9,.slice f8 a8.length f9]] (h:= ?_);(with_reducible refine(spec_poTurned.calls k _ _ a7 _ _ a8 true _ ?b7 ?b8 ?b9 ?c9 A7.out).mono ?_);(case b7=>exact Zca (Kd.C_below g8.out HB.out));(case b8=>exact g9.out);(case b9=>exact Zca (Kd.C_below i3.out HB.out));(case c9=>exact i4.out);rintro e I6 ⟨rfl,hb⟩;refine⟨_,rfl, ?_⟩;replace a4:=Zk a4 hb;replace a5:=Zk a5 hb;replace a6:=Zk a6 hb;replace HB:=Zh HB hb;have F5:=d6.out;have F6:=d7.out;obtain⟨p6,p7,p8,p9⟩:=Z2 a5)|(go_at_call 36;(with_reducible refine(spec_poTurned.calls k _ _ d3 _ _ d8 true _ ?b7 ?b8 ?b9 ?c9 A9.out).mono ?_);(case b7=>exact Zca (Kd.C_below k3.out HB.out));(case b8=>exact k4.out);(case b9=>exact Zca (Kd.C_below k6.out HB.out));(case c9=>exact k8.out);rintro e I7 ⟨rfl,hb⟩;replace a4:=Zk a4 hb;replace a5:=Zk a5 hb;replace a6:=Zk a6 hb;replace HB:=Zh HB hb;obtain⟨q3,q4,q5,q6⟩:=Z2 a4;obtain⟨q7,q8,q9,r5⟩:=Z2 a5))
    go_meet
    case rel=>exact⟨_,(((a7.length:Int) != (d3.length:Int))),Zs,H',⟨by first|omega|exact Nat.le_refl _⟩,⟨Zb a4⟩,⟨Zb a5⟩,⟨Zb a6⟩,⟨Zl HB⟩⟩
   ·
    replace c10:=Bool.eq_false_iff.mpr c10
    subst c10
    rw[if_neg Bool.false_ne_true]at H
    have H':=Aside0.mk H;clear H;have F7:=d4.out;have F8:=d5.out;have F9:=a9.out;have G1:=b6.out;obtain⟨r6,r7,r8,r9⟩:=Z2 a4
    go_wp2_with (first|((with_reducible refine gate_callee (f:=36) rfl ?_);refine Ga (some 7) Try.func36 #[.agg #[.slice e7 a7.length e9,.slice f8 a8.length f9]] (h:= ?_);(with_reducible refine(spec_poTurned.calls k _ _ a7 _ _ a8 true _ ?b7 ?b8 ?b9 ?c9 A7.out).mono ?_);(case b7=>exact Zca (Kd.C_below g8.out HB.out));(case b8=>exact g9.out);(case b9=>exact Zca (Kd.C_below i3.out HB.out));(case c9=>exact i4.out);rintro e I8 ⟨rfl,hb⟩;refine⟨_,rfl, ?_⟩;replace a4:=Zk a4 hb;replace a5:=Zk a5 hb;replace a6:=Zk a6 hb;replace HB:=Zh HB hb;have G2:=d6.out;have G3:=d7.out;obtain⟨s6,s7,s9,t0⟩:=Z2 a5)|(go_at_call 36;(with_reducible refine(spec_poTurned.calls k _ _ d3 _ _ d8 false _ ?b7 ?b8 ?b9 ?c9 A9.out).mono ?_);(case b7=>exact Zca (Kd.C_below k3.out HB.out));(case b8=>exact k4.out);(case b9=>exact Zca (Kd.C_below k6.out HB.out));(case c9=>exact k8.out);rintro e I9 ⟨rfl,hb⟩;replace a4:=Zk a4 hb;replace a5:=Zk a5 hb;replace a6:=Zk a6 hb;replace HB:=Zh HB hb))
    go_meet
    case rel=>exact⟨_,(true),Zs,H',⟨by first|omega|exact Nat.le_refl _⟩,⟨Zb a4⟩,⟨Zb a5⟩,⟨Zb a6⟩,⟨Zl HB⟩⟩
  ·
   replace c8:=Bool.eq_false_iff.mpr c8
   subst c8
   rw[if_neg Bool.false_ne_true]at H
   have H':=Aside0.mk H;clear H;have G4:=d4.out;have G5:=d5.out;have G6:=a9.out;have G7:=b6.out;obtain⟨t8,t9,y8,y9⟩:=Z2 a4
   go_wp2_with (first|((with_reducible refine gate_callee (f:=36) rfl ?_);refine Ga (some 7) Try.func36 #[.agg #[.slice e7 a7.length e9,.slice f8 a8.length f9]] (h:= ?_);(with_reducible refine(spec_poTurned.calls k _ _ a7 _ _ a8 false _ ?b7 ?b8 ?b9 ?c9 A7.out).mono ?_);(case b7=>exact Zca (Kd.C_below g8.out HB.out));(case b8=>exact g9.out);(case b9=>exact Zca (Kd.C_below i3.out HB.out));(case c9=>exact i4.out);rintro e J0 ⟨rfl,hb⟩;refine⟨_,rfl, ?_⟩;replace a4:=Zk a4 hb;replace a5:=Zk a5 hb;replace a6:=Zk a6 hb;replace HB:=Zh HB hb))
   go_meet
   case rel=>exact⟨_,(true),Zs,H',⟨by first|omega|exact Nat.le_refl _⟩,⟨Zb a4⟩,⟨Zb a5⟩,⟨Zb a6⟩,⟨Zl HB⟩⟩
 case rest=>
  (clear D0);obtain⟨kq,i5,rfl,HA,J1,a4,a5,a6,HB⟩:=hcut
  cases kq with
  |zero=>exact absurd HA.out (by simp[spec_ThenTurned.j0])
  |succ G8=>
   have H:=HA.out;clear HA
   simp only[spec_ThenTurned.j0]at H
   by_cases z2:i5=true
   ·
    subst z2
    rw[if_pos rfl]at H
    obtain⟨rfl,rfl,rfl⟩:=Zs3 H;clear H
    have G9:=b6.out;have H1:=a9.out;have H2:=d7.out;have H3:=d6.out;obtain⟨z3,z4,z5,z6⟩:=Z2 a6
    go_wp2
    refine bodyPost_ret (results_ct rfl _ _ k9 26 #[.slice none 0 0,.slice none 0 0] (0,0) _ rfl (by refine Zrb ?_;refine blk_put (cs:= #[.slice none 0 0,.slice none 0 0]) ?_ 1 _ rfl;refine Zrb ?_;refine blk_put (cs:= #[.slice none 0 0,.slice none 0 0]) ?_ 0 _ rfl;refine Zrb ?_;exact a6.out) Try.underlying26 rfl (by kernel_rfl)) rfl ?_
    exact⟨_,_,Ze,Znl,Znl,Zl HB⟩
   ·
    replace z2:=Bool.eq_false_iff.mpr z2
    subst z2
    rw[if_neg Bool.false_ne_true]at H
    replace H:=Zb0 H;obtain⟨⟨l3,l4⟩,I2,H⟩:=H;(try dsimp only at H);replace H:=Zb0 H;obtain⟨⟨l5,l7,D1⟩,I3,H⟩:=H;(try dsimp only at H)
    obtain⟨rfl,rfl,rfl⟩:=Zs3 H;clear H
    have H4:=d4.out;have H5:=d5.out;have H6:=a9.out;have H7:=b6.out;obtain⟨z7,z8,z9,B0⟩:=Z2 a4;have H8:=d6.out;have H9:=d7.out;obtain⟨C0,C1,C2,C3⟩:=Z2 a5
    go_wp2_with (first|((with_reducible refine gate_callee (f:=52) rfl ?_);refine Ga (some 26) Try.func52 #[.agg #[.slice e7 a7.length e9,.slice f8 a8.length f9],.agg #[.slice i6 d3.length i7,.slice i8 d8.length i9]] (h:= ?_);(with_reducible refine(spec_poThen.calls G8 _ _ a7 _ _ a8 _ _ d3 _ _ d8 l3 l4 _ ?b7 ?b8 ?b9 ?c9 ?l6 ?o6 ?o7 ?o8 I2.out).mono ?_);(case b7=>exact Zca (Kd.C_below g8.out HB.out));(case b8=>exact g9.out);(case b9=>exact Zca (Kd.C_below i3.out HB.out));(case c9=>exact i4.out);(case l6=>exact Zca (Kd.C_below k3.out HB.out));(case o6=>exact k4.out);(case o7=>exact Zca (Kd.C_below k6.out HB.out));(case o8=>exact k8.out);rintro e J2 ⟨I4,I5,rfl,D2,D3,hb⟩;refine⟨_,rfl, ?_⟩;have d9:=Zj D2 HB;have e6:=Zj D3 HB;replace a4:=Zk a4 hb;replace a5:=Zk a5 hb;replace a6:=Zk a6 hb;replace HB:=Zh HB hb;obtain⟨n8,n9,D4⟩:=Kd.R_slice d9.out;subst D4;obtain⟨o0,o1,D5⟩:=Kd.R_slice e6.out;subst D5)|((with_reducible refine gate_callee (f:=51) rfl ?_);refine Ga (some 27) Try.func51 #[.agg #[.slice n8 l3.length n9,.slice o0 l4.length o1]] (h:= ?_);(with_reducible refine(spec_poIf.calls G8 (fun k_=>some k_=(.slice n8 l3.length n9:Value).ownBlock) (.slice n8 l3.length n9) l3 (fun k_=>some k_=(.slice o0 l4.length o1:Value).ownBlock) (.slice o0 l4.length o1) l4 l5 l7 D1 w _ ?b7 ?b8 ?b9 ?c9 ?l6 I3.out).mono ?_);(case b7=>exact Zl HB);(case b8=>exact Kd.R_tight rfl d9.out);(case b9=>exact fun k_ e_=>(d9.out.1 k_ e_.symm));(case c9=>exact Kd.R_tight rfl e6.out);(case l6=>exact fun k_ e_=>(e6.out.1 k_ e_.symm));rintro e J3 ⟨D6,D7,rfl,D2,D3,hb,hkp⟩;refine⟨_,rfl, ?_⟩;replace a4:=Zm (blk_kept (Zb a4) hkp (fun hs_=>Or.elim hs_ (fun e_=>(fun e_=>(Kd.R_ne d9.out a4.out (by decide)) e_) e_) (fun e_=>(fun e_=>(Kd.R_ne e6.out a4.out (by decide)) e_) e_)));replace a5:=Zm (blk_kept (Zb a5) hkp (fun hs_=>Or.elim hs_ (fun e_=>(fun e_=>(Kd.R_ne d9.out a5.out (by decide)) e_) e_) (fun e_=>(fun e_=>(Kd.R_ne e6.out a5.out (by decide)) e_) e_)));replace a6:=Zm (blk_kept (Zb a6) hkp (fun hs_=>Or.elim hs_ (fun e_=>(fun e_=>(Kd.R_ne d9.out a6.out (by decide)) e_) e_) (fun e_=>(fun e_=>(Kd.R_ne e6.out a6.out (by decide)) e_) e_)));have n4:=Zm (Kd.R_mono (ok':=fun k_=>Zn k_ D7) D2 (fun k_ hk_=>hk_.2));have n5:=Zm (Kd.R_mono (ok':=fun k_=>Zn k_ D6) D3 (fun k_ hk_=>hk_.2));replace HB:=Zm (hb);clear d9 e6;obtain⟨l8,l9,D8⟩:=Kd.R_slice n4.out;subst D8;obtain⟨C4,C5,C6,C7⟩:=Z2 a6;obtain⟨o2,o3,D9⟩:=Kd.R_slice n5.out;subst D9))
    refine bodyPost_ret (results_ct rfl _ _ k9 26 #[.slice l8 l5.length l9,.slice o2 l7.length o3] (0,0) _ rfl (by refine Zrb ?_;refine blk_put (cs:= #[.slice l8 l5.length l9,.slice none 0 0]) ?_ 1 _ rfl;refine Zrb ?_;refine blk_put (cs:= #[.slice none 0 0,.slice none 0 0]) ?_ 0 _ rfl;refine Zrb ?_;exact a6.out) Try.underlying26 rfl (by kernel_rfl)) rfl ?_
    exact⟨_,_,Ze,Zrr (Zfm n4 a6 (.slice l8 l5.length l9) (.slice o2 l7.length o3) (fun _ hk=>hk.1)),Zrr (Zfm n5 a6 (.slice l8 l5.length l9) (.slice o2 l7.length o3) (fun _ hk=>hk.1)),Zl HB⟩
def spec_PlaceOf.f (k:Nat) (a4:List Int) (a5:List Int) (a1:Int):Option (Int × Bool):=(spec_poTurned.f k a4 a5).bind fun a6=>(if a6=true then((spec_l1In.f a1 (-1000) 1000).bind fun a7=>(if a7=true then((spec_poPlace.f a4 a5 a1).bind fun a8=>(some (a8,true)))else(some (0,false))))else(some (0,false)))
set_option maxHeartbeats 8000000 in
set_option maxRecDepth 100000 in
theorem spec_PlaceOf.calls (k:Nat) (b7:Option Addr) (b8:Nat) (a5:List Int) (b9:Option Addr) (c9:Nat) (a6:List Int) (a1:Int) (r1:Int) (r2:Bool) (w:World) (d7:Kd.C (Kd.int .i64) w b7 a5.length a5) (d8:a5.length≤b8) (d9:Kd.C (Kd.int .i64) w b9 a6.length a6) (e6:a6.length≤c9) (h:spec_PlaceOf.f k a5 a6 a1=some (r1,r2)):
  Calls Try.prog 29 #[.agg #[.slice b7 a5.length b8,.slice b9 a6.length c9],.int .i64 a1] w fun e w'=>e= .returned (.tuple #[.int .i64 r1,.bool r2])∧Below w.heap.size w w':=by
 have l7:=Try.underlying26;have d3:=Aside0.mk d7;have d4:=Aside0.mk d8;clear d7 d8;have d5:=Aside0.mk d9;have d6:=Aside0.mk e6;clear d9 e6;have HB:=Zm (Below.refl w.heap.size w);have H:((spec_poTurned.f k a5 a6).bind fun f9=>(if f9=true then((spec_l1In.f a1 (-1000) 1000).bind fun g8=>(if g8=true then((spec_poPlace.f a5 a6 a1).bind fun g9=>(some (g9,true)))else(some (0,false))))else(some (0,false))))=some (r1,r2):=h;clear h
 replace H:=Zb0 H;obtain⟨f9,A3,H⟩:=H
 by_cases c4:f9=true
 ·
  subst c4
  rw[if_pos rfl]at H
  replace H:=Zb0 H;obtain⟨g8,A5,H⟩:=H
  by_cases c6:g8=true
  ·
   subst c6
   rw[if_pos rfl]at H
   replace H:=Zb0 H;obtain⟨g9,A7,H⟩:=H
   obtain⟨rfl,rfl⟩:=Zs2 H;clear H
   go_enter Try.func29,Try.ntmps29
   go_wp2_with (first|((with_reducible refine gate_dst (N:=2) rfl ?_);refine Zbe 2 #[.slice b7 a5.length b8,.slice b9 a6.length c9] 26 ?_;intro e7 hg w8 hbox hb;have a4:=Zm (hbox);have e9:=Zx hg HB;have f8:=Zx hg HB;replace HB:=Zh HB hb;clear hb hbox hg;obtain⟨l3,l4,l5,l6⟩:=Z2 a4)|((with_reducible refine gate_callee (f:=36) rfl ?_);refine Ga (some 7) Try.func36 #[.agg #[.slice b7 a5.length b8,.slice b9 a6.length c9]] (h:= ?_);(with_reducible refine(spec_poTurned.calls k _ _ a5 _ _ a6 true _ ?a7 ?a8 ?a9 ?b6 A3.out).mono ?_);(case a7=>exact Zca (Kd.C_below d3.out HB.out));(case a8=>exact d4.out);(case a9=>exact Zca (Kd.C_below d5.out HB.out));(case b6=>exact d6.out);rintro e l8 ⟨rfl,hb⟩;refine⟨_,rfl, ?_⟩;replace a4:=Zk a4 hb;replace HB:=Zh HB hb)|(go_at_call 56;(with_reducible refine(spec_l1In.calls a1 (-1000) 1000 true _ A5.out).mono ?_);rintro e w' ⟨rfl,⟨nd,rfl⟩⟩;obtain⟨i3,i4,i5,i6⟩:=Z2 a4)|((with_reducible refine gate_callee (f:=57) rfl ?_);refine Ga (some 16) Try.func57 #[.agg #[.slice b7 a5.length b8,.slice b9 a6.length c9],.int .i64 a1] (h:= ?_);(with_reducible refine(spec_poPlace.calls _ _ a5 _ _ a6 a1 g9 _ ?a7 ?a8 ?a9 ?b6 A7.out).mono ?_);(case a7=>exact Zca (Kd.C_below d3.out (Zl HB)));(case a8=>exact d4.out);(case a9=>exact Zca (Kd.C_below d5.out (Zl HB)));(case b6=>exact d6.out);rintro e l9 ⟨rfl,hb⟩;refine⟨_,rfl, ?_⟩;replace a4:=Zk a4 hb;replace HB:=Zh HB hb))
   go_ret2
   exact⟨Ze,Zl HB⟩
  ·
   replace c6:=Bool.eq_false_iff.mpr c6
   subst c6
   rw[if_neg Bool.false_ne_true]at H
   obtain⟨rfl,rfl⟩:=Zs2 H;clear H
   go_enter Try.func29,Try.ntmps29
   go_wp2_with (first|((with_reducible refine gate_dst (N:=2) rfl ?_);refine Zbe 2 #[.slice b7 a5.length b8,.slice b9 a6.length c9] 26 ?_;intro e7 hg m4 hbox hb;have a4:=Zm (hbox);have e9:=Zx hg HB;have f8:=Zx hg HB;replace HB:=Zh HB hb;clear hb hbox hg;obtain⟨i7,i8,i9,k3⟩:=Z2 a4)|((with_reducible refine gate_callee (f:=36) rfl ?_);refine Ga (some 7) Try.func36 #[.agg #[.slice b7 a5.length b8,.slice b9 a6.length c9]] (h:= ?_);(with_reducible refine(spec_poTurned.calls k _ _ a5 _ _ a6 true _ ?a7 ?a8 ?a9 ?b6 A3.out).mono ?_);(case a7=>exact Zca (Kd.C_below d3.out HB.out));(case a8=>exact d4.out);(case a9=>exact Zca (Kd.C_below d5.out HB.out));(case b6=>exact d6.out);rintro e m5 ⟨rfl,hb⟩;refine⟨_,rfl, ?_⟩;replace a4:=Zk a4 hb;replace HB:=Zh HB hb)|(go_at_call 56;(with_reducible refine(spec_l1In.calls a1 (-1000) 1000 false _ A5.out).mono ?_);rintro e w' ⟨rfl,⟨nd,rfl⟩⟩))
   go_ret2
   exact⟨Ze,Zl HB⟩
 ·
  replace c4:=Bool.eq_false_iff.mpr c4
  subst c4
  rw[if_neg Bool.false_ne_true]at H
  obtain⟨rfl,rfl⟩:=Zs2 H;clear H
  go_enter Try.func29,Try.ntmps29
  go_wp2_with (first|((with_reducible refine gate_dst (N:=2) rfl ?_);refine Zbe 2 #[.slice b7 a5.length b8,.slice b9 a6.length c9] 26 ?_;intro e7 hg m6 hbox hb;have a4:=Zm (hbox);have e9:=Zx hg HB;have f8:=Zx hg HB;replace HB:=Zh HB hb;clear hb hbox hg;obtain⟨k4,k6,k8,k9⟩:=Z2 a4)|((with_reducible refine gate_callee (f:=36) rfl ?_);refine Ga (some 7) Try.func36 #[.agg #[.slice b7 a5.length b8,.slice b9 a6.length c9]] (h:= ?_);(with_reducible refine(spec_poTurned.calls k _ _ a5 _ _ a6 false _ ?a7 ?a8 ?a9 ?b6 A3.out).mono ?_);(case a7=>exact Zca (Kd.C_below d3.out HB.out));(case a8=>exact d4.out);(case a9=>exact Zca (Kd.C_below d5.out HB.out));(case b6=>exact d6.out);rintro e m7 ⟨rfl,hb⟩;refine⟨_,rfl, ?_⟩;replace a4:=Zk a4 hb;replace HB:=Zh HB hb))
  go_ret2
  exact⟨Ze,Zl HB⟩
def spec_poOver.f (a0:Int) (a1:Int) (a2:Int):Option (Int × Int):=if a0=0 then(none)else(if a1=a2 then(if(Int.tmod (wrap64 (a2+1)) a0)=0 then(some (0,1))else(some (Int.tmod (wrap64 (a2+1)) a0,0)))else(if a1=(Int.tmod (wrap64 (a2+1)) a0)then(if(Int.tmod (wrap64 (a2+1)) a0)=0 then(some (a2,(-1)))else(some (a2,0)))else(some (a1,0))))
set_option maxHeartbeats 8000000 in
set_option maxRecDepth 100000 in
theorem spec_poOver.calls (a0:Int) (a1:Int) (a2:Int) (r1:Int) (r2:Int) (w:World) (h:spec_poOver.f a0 a1 a2=some (r1,r2)):
  Calls Try.prog 78 #[.int .i64 a0,.int .i64 a1,.int .i64 a2] w fun e w'=>e= .returned (.tuple #[.int .i64 r1,.int .i64 r2])∧Drawn0 w w':=by
 have H:(if a0=0 then(none)else(if a1=a2 then(if(Int.tmod (wrap64 (a2+1)) a0)=0 then(some (0,1))else(some (Int.tmod (wrap64 (a2+1)) a0,0)))else(if a1=(Int.tmod (wrap64 (a2+1)) a0)then(if(Int.tmod (wrap64 (a2+1)) a0)=0 then(some (a2,(-1)))else(some (a2,0)))else(some (a1,0)))))=some (r1,r2):=h;clear h
 replace H:=Zie H;obtain⟨c4,H⟩:=H;have b8:(a0 == 0)=false:=beq_eq_false_iff_ne.mpr c4;have b9:(a0 != 0)=true:=bne_iff_ne.mpr c4
 by_cases c5:a1=a2
 ·
  rw[if_pos c5]at H;have a4:(a1 == a2)=true:=beq_iff_eq.mpr c5;have a5:(a1 != a2)=false:=bne_eq_false_iff_eq.mpr c5;clear c5
  by_cases c6:(Int.tmod (wrap64 (a2+1)) a0)=0
  ·
   rw[if_pos c6]at H;have a6:((Int.tmod (wrap64 (a2+1)) a0) == 0)=true:=beq_iff_eq.mpr c6;have a7:((Int.tmod (wrap64 (a2+1)) a0) != 0)=false:=bne_eq_false_iff_eq.mpr c6;clear c6
   obtain⟨rfl,rfl⟩:=Zs2 H;clear H
   go_enter Try.func78,Try.ntmps78
   go_wp2
   go_ret2
   exact⟨by first|rfl|(simp;done)|(simp[*];done),by repeat(first|exact Drawn0.refl _ |apply Drawn0.step)⟩
  ·
   rw[if_neg c6]at H;have a6:((Int.tmod (wrap64 (a2+1)) a0) == 0)=false:=beq_eq_false_iff_ne.mpr c6;have a7:((Int.tmod (wrap64 (a2+1)) a0) != 0)=true:=bne_iff_ne.mpr c6
   obtain⟨rfl,rfl⟩:=Zs2 H;clear H
   go_enter Try.func78,Try.ntmps78
   go_wp2
   go_ret2
   exact⟨by first|rfl|(simp;done)|(simp[*];done),by repeat(first|exact Drawn0.refl _ |apply Drawn0.step)⟩
 ·
  rw[if_neg c5]at H;have a4:(a1 == a2)=false:=beq_eq_false_iff_ne.mpr c5;have a5:(a1 != a2)=true:=bne_iff_ne.mpr c5
  by_cases c7:a1=(Int.tmod (wrap64 (a2+1)) a0)
  ·
   rw[if_pos c7]at H;have a8:(a1 == (Int.tmod (wrap64 (a2+1)) a0))=true:=beq_iff_eq.mpr c7;have a9:(a1 != (Int.tmod (wrap64 (a2+1)) a0))=false:=bne_eq_false_iff_eq.mpr c7;clear c7
   by_cases c8:(Int.tmod (wrap64 (a2+1)) a0)=0
   ·
    rw[if_pos c8]at H;have b6:((Int.tmod (wrap64 (a2+1)) a0) == 0)=true:=beq_iff_eq.mpr c8;have b7:((Int.tmod (wrap64 (a2+1)) a0) != 0)=false:=bne_eq_false_iff_eq.mpr c8;clear c8
    obtain⟨rfl,rfl⟩:=Zs2 H;clear H
    go_enter Try.func78,Try.ntmps78
    go_wp2
    go_ret2
    exact⟨by first|rfl|(simp;done)|(simp[*];done),by repeat(first|exact Drawn0.refl _ |apply Drawn0.step)⟩
   ·
    rw[if_neg c8]at H;have b6:((Int.tmod (wrap64 (a2+1)) a0) == 0)=false:=beq_eq_false_iff_ne.mpr c8;have b7:((Int.tmod (wrap64 (a2+1)) a0) != 0)=true:=bne_iff_ne.mpr c8
    obtain⟨rfl,rfl⟩:=Zs2 H;clear H
    go_enter Try.func78,Try.ntmps78
    go_wp2
    go_ret2
    exact⟨by first|rfl|(simp;done)|(simp[*];done),by repeat(first|exact Drawn0.refl _ |apply Drawn0.step)⟩
  ·
   rw[if_neg c7]at H;have a8:(a1 == (Int.tmod (wrap64 (a2+1)) a0))=false:=beq_eq_false_iff_ne.mpr c7;have a9:(a1 != (Int.tmod (wrap64 (a2+1)) a0))=true:=bne_iff_ne.mpr c7
   obtain⟨rfl,rfl⟩:=Zs2 H;clear H
   go_enter Try.func78,Try.ntmps78
   go_wp2
   go_ret2
   exact⟨by first|rfl|(simp;done)|(simp[*];done),by repeat(first|exact Drawn0.refl _ |apply Drawn0.step)⟩
def spec_poDown.l0:Nat→Int→List Int→Int→List Int→Int→Int→Int→List Int→Option (List Int × Int)
 |0,_,_,_,_,_,_,_,_ =>none
 |k+1,x1,x6,x7,a8,a9,a7,a4,a6=>if a7<a9 then(if 0≤a7 then(if a7<(a8.length:Int)then((spec_poOver.f a4 x1 (rd a8 a7)).bind fun a5=>(if x6.length<17592186044416 then(spec_poDown.l0 k a5.1 (x6++ [a5.1]) (wrap64 (x7+a5.2)) a8 a9 (wrap64 (a7+1)) a4 a6)else(none)))else(none))else(none))else(some (x6,x7))
def spec_poDown.f (k:Nat) (a5:Int) (a4:List Int) (a1:Int):Option (List Int × Int):=spec_poDown.l0 k a1 (([a1]:List Int)) 0 a4 (a4.length:Int) 0 a5 a4
theorem spec_poDown.mono_l: ∀k,(∀y0 y1 y2 y3 y4 y5 y6 y7,LeO (spec_poDown.l0 k y0 y1 y2 y3 y4 y5 y6 y7) (spec_poDown.l0 (k+1) y0 y1 y2 y3 y4 y5 y6 y7))
 |0=>fun _ _ _ _ _ _ _ _ r h=>by simp[spec_poDown.l0]at h
 |k+1=>by
  have a4:=spec_poDown.mono_l k
  ·
   intro y0 y1 y2 y3 y4 y5 y6 y7
   unfold spec_poDown.l0
   repeat' (with_reducible first|exact a4 _ _ _ _ _ _ _ _ |exact LeO.refl _ |exact LeO.none _ |refine LeO.ite ?_ ?_ |refine LeO.bind ?_ (fun _ => ?_))
theorem spec_poDown.mono: ∀a0 a1 a2 k,LeO (spec_poDown.f k a0 a1 a2) (spec_poDown.f (k+1) a0 a1 a2):=by
 intro a0 a1 a2 k
 have a4:=spec_poDown.mono_l k
 unfold spec_poDown.f
 repeat' (with_reducible first|exact a4 _ _ _ _ _ _ _ _ |exact LeO.refl _ |exact LeO.none _ |refine LeO.ite ?_ ?_ |refine LeO.bind ?_ (fun _ => ?_))
set_option maxHeartbeats 8000000 in
set_option maxRecDepth 100000 in
theorem spec_poDown.calls (k:Nat) (a7:Int) (b7:Option Addr) (b8:Nat) (a4:List Int) (a1:Int) (r1:List Int) (r2:Int) (w:World) (d3:Kd.C (Kd.int .i64) w b7 a4.length a4) (d4:a4.length≤b8) (h:spec_poDown.f k a7 a4 a1=some (r1,r2)):
  Calls Try.prog 76 #[.agg #[.int .i64 a7,.slice b7 a4.length b8],.int .i64 a1] w fun e w'=> ∃l3:Value,e= .returned (.tuple #[l3,.int .i64 r2])∧Kd.R (Kd.int .i64) 3 w' w.heap.size (fun _ =>True) l3 r1∧Below w.heap.size w w':=by
 have m4:=Try.underlying29;have d8:=Aside0.mk d3;have l4:=Aside0.mk d4;clear d3 d4;have HB:=Zm (Below.refl w.heap.size w);have H:(spec_poDown.l0 k a1 (([a1]:List Int)) 0 a4 (a4.length:Int) 0 a7 a4)=some (r1,r2):=h;clear h
 generalize d5:([a1]:List Int)=i7 at H;have d6:=Aside0.mk d5.symm;clear d5;have H':=Aside0.mk H;clear H
 go_enter Try.func76,Try.ntmps76
 go_wp2_with (first|((with_reducible refine gate_dst (N:=2) rfl ?_);refine Zbe 2 #[.int .i64 a7,.slice b7 a4.length b8] 29 ?_;intro d9 hg w3 hbox hb;have a5:=Zm (hbox);have l5:=Zx hg HB;have l6:=Zx hg HB;replace HB:=Zh HB hb;clear hb hbox hg)|((with_reducible refine gate_dst (N:=13) rfl ?_);refine Kd.R_lit (Kd.int .i64) _ 3 ?hg (N:=13) ?hd (xs:=([a1]:List Int)) (inner:= [.int .i64 a1]) (ok:=fun _ =>True) (okp:=fun _ =>True) ?hr ?hp (fun _ hk=>hk) trivial (Below.refl _ _) (Nat.le_refl _) (by simp) ?_;(case hd=>rfl);(case hg=>rfl);(case hr=>first|(go_simp;done)|(go_simp;rfl));(case hp=>exact(Reps.one (show Kd.M (Kd.int .i64) _ _ _ a1 [.int .i64 a1]from rfl) (Reps.none _ _)));intro m5 w4 e6 hb hg_ hnew_;clear hg_ hnew_;(first|rw[←d6.out]at e6|(simp only[Int.reduceToNat]at e6;rw[←d6.out]at e6));have e7:=Zj e6 HB;replace a5:=Zk a5 hb;replace HB:=Zh HB hb;clear hb e6;obtain⟨i8,i9,k3,k4⟩:=Z2 a5))
 go_loopg [1,6,7,17] k (fun kq v1 v6 v7 m6 w'=> ∃(a8:Int) (a9:List Int) (b9:Int) (a6:Int),v1= .int .i64 a8∧v7= .int .i64 b9∧m6= .int .i64 a6∧Aside0 (spec_poDown.l0 kq a8 a9 b9 a4 (a4.length:Int) a6 a7 a4=some (r1,r2))∧Aside0 (kq≤k)∧Aside0 (Kd.R (Kd.int .i64) 3 w' w.heap.size (fun _ =>True) v6 a9)∧Aside0 (w'.heap[d9]? =some (.cells #[.int .i64 a7,(.slice b7 a4.length b8)] 29 (0,0)))∧Aside0 (Below w.heap.size w w'))
 case atStart=>exact⟨(a1),(i7),(0),(0),Zs,Zs,Zs,H',⟨Nat.le_refl _⟩,⟨Zr e7⟩,⟨Zb a5⟩,⟨Zl HB⟩⟩
 case round=>
  (clear H');obtain⟨a8,a9,b9,a6,rfl,rfl,rfl,HA,l7,c9,a5,HB⟩:=hrel
  cases gk with
  |zero=>exact absurd HA.out (by simp[spec_poDown.l0])
  |succ k1=>
   have H:=HA.out;clear HA
   simp only[spec_poDown.l0]at H
   by_cases c7:a6<(a4.length:Int)
   ·
    rw[if_pos c7]at H;have k6:=decide_eq_true c7;clear c7
    replace H:=Zit H;obtain⟨m7,H⟩:=H
    replace H:=Zit H;obtain⟨m8,H⟩:=H;replace H:=Zb0 H;obtain⟨⟨b6,e9⟩,m9,H⟩:=H;(try dsimp only at H)
    replace H:=Zif H;obtain⟨l8,H⟩:=H
    have f8:=Aside0.mk l8;clear l8
    generalize d7:((a9++ [b6]):List Int)=k8 at H;have f9:=Aside0.mk d7.symm;clear d7;have H':=Aside0.mk H;clear H;obtain⟨l9,k9,g9,n0,n3⟩:=Zat d8 HB (a6)
    cases k9
    obtain⟨i3,i4,i5,i6⟩:=Z2 a5
    go_wp2_with (first|((with_reducible refine gate_callee (f:=78) rfl ?_);refine Ga (some 26) Try.func78 #[.int .i64 a7,.int .i64 a8,.int .i64 (rd a4 a6)] (h:= ?_);(with_reducible refine(spec_poOver.calls a7 a8 (rd a4 a6) b6 e9 _ m9.out).mono ?_);rintro e w' ⟨rfl,⟨nd,rfl⟩⟩;refine⟨_,rfl, ?_⟩)|((with_reducible refine gate_builtin (b:= .append) (xs:= #[.tmp 33,.tmp 35]) rfl ?_);at_builtin;refine Kd.R_append (Kd.int .i64) (w0:=w) w.heap.size rfl (.tmp 33) (.tmp 35) 24 3 (.int .i64 0) 8 rfl Try.underlying24 info3 rfl (by decide) (by omega) u6 a9 b6 [.int .i64 b6] (fun _ =>True) (fun _ =>False) rfl rfl ?aP (fun _ hk=>hk.elim) ?aF ?aO ?aB ?aS ?aL ?_;(case aP=>exact rfl);(case aB=>exact(Zl HB));(case aF=>exact(fun _ _ =>trivial));(case aO=>exact(Zr c9));(case aS=>exact(below_size (Zl HB)));(case aL=>have:=f8.out;omega);intro n4 n5 ho hb hg hat;rw[←f9.out]at ho;replace a5:=Zm (blk_grown (Zb a5) hg (Kd.R_ne c9.out a5.out (by decide)));replace HB:=Zm (hb);have g8:=Zm (ho);clear c9 ho hb hg hat))
    go_roundg k1
    case measure=>have:=l7.out;omega
    case rel=>exact⟨(b6),(k8),(wrap64 (b9+e9)),(wrap64 (a6+1)),Zs,Zs,Zs,H',⟨by have:=l7.out;omega⟩,⟨Zr g8⟩,⟨Zb a5⟩,⟨Zl HB⟩⟩
   ·
    rw[if_neg c7]at H;have k6:=decide_eq_false c7;clear c7
    obtain⟨rfl,rfl⟩:=Zs2 H;clear H
    go_wp2
    go_ret2
    exact⟨_,Ze,Zr c9,Zl HB⟩
def spec_poResult.l0:Nat→Int→Int→List Int→List Int→List Int→Option (List Int × List Int)
 |0,_,_,_,_,_ =>none
 |k+1,x4,a5,a4,a6,a7=>if x4<a5 then((spec_poDown.f k a5 a4 x4).bind fun a8=>(if 0≤(a4.length:Int)then(if(a4.length:Int)<(a8.1.length:Int)then(if a6.length<17592186044416 then(if a7.length<17592186044416 then(spec_poResult.l0 k (wrap64 (x4+1)) a5 a4 (a6++ [rd a8.1 (a4.length:Int)]) (a7++ [a8.2]))else(none))else(none))else(none))else(none)))else(some (a6,a7))
def spec_poResult.f (k:Nat) (a4:Int) (a5:List Int):Option (List Int × List Int):=spec_poResult.l0 k 0 a4 a5 ([]:List Int) ([]:List Int)
theorem spec_poResult.mono_l: ∀k,(∀y0 y1 y2 y3 y4,LeO (spec_poResult.l0 k y0 y1 y2 y3 y4) (spec_poResult.l0 (k+1) y0 y1 y2 y3 y4))
 |0=>fun _ _ _ _ _ r h=>by simp[spec_poResult.l0]at h
 |k+1=>by
  have a4:=spec_poResult.mono_l k
  ·
   intro y0 y1 y2 y3 y4
   unfold spec_poResult.l0
   repeat' (with_reducible first|exact a4 _ _ _ _ _ |exact spec_poDown.mono _ _ _ _ |exact LeO.refl _ |exact LeO.none _ |refine LeO.ite ?_ ?_ |refine LeO.bind ?_ (fun _ => ?_))
theorem spec_poResult.mono: ∀a0 a1 k,LeO (spec_poResult.f k a0 a1) (spec_poResult.f (k+1) a0 a1):=by
 intro a0 a1 k
 have a4:=spec_poResult.mono_l k
 unfold spec_poResult.f
 repeat' (with_reducible first|exact a4 _ _ _ _ _ |exact spec_poDown.mono _ _ _ _ |exact LeO.refl _ |exact LeO.none _ |refine LeO.ite ?_ ?_ |refine LeO.bind ?_ (fun _ => ?_))
def spec_poResult.T6:Bool × List (List Nat × List Nat):=(true,[([],[]),([0],[0]),([],[]),([],[]),([3],[3]),([4],[4]),([2,5],[2,5]),([6],[6]),([7],[7]),([1,8],[1,8]),([0,1,2,3,4,5,6,7,8,9],[]),([10,9,9,0,1,2,3,4,5,6,7,8,9],[9,10])])
def spec_poResult.B6:List Nat:= [0,1,0,0,8,24,60,124,252,511,1023,2047]
theorem spec_poResult.tab6:rtab .any (opsOf Try.f66 6)=spec_poResult.T6:=by kernel_rfl
theorem spec_poResult.bits6:waitsOk spec_poResult.T6.2 spec_poResult.B6=true:=by kernel_rfl
set_option maxHeartbeats 8000000 in
set_option maxRecDepth 100000 in
theorem spec_poResult.calls (k:Nat) (d8:Int) (i4:Option Addr) (i5:Nat) (b9:List Int) (r1:List Int) (r2:List Int) (w:World) (k9:Kd.C (Kd.int .i64) w i4 b9.length b9) (l3:b9.length≤i5) (h:spec_poResult.f k d8 b9=some (r1,r2)):
  Calls Try.prog 66 #[.agg #[.int .i64 d8,.slice i4 b9.length i5]] w fun e w'=> ∃s7 s9:Value,e= .returned (.agg #[s7,s9])∧Kd.R (Kd.int .i64) 3 w' w.heap.size (fun k_=>Zn k_ s9) s7 r1∧Kd.R (Kd.int .i64) 3 w' w.heap.size (fun k_=>Zn k_ s7) s9 r2∧Below w.heap.size w w':=by
 have F1:=Try.underlying29;have F2:=Try.underlying26;have m7:=Aside0.mk k9;have m8:=Aside0.mk l3;clear k9 l3;have HB:=Zm (Below.refl w.heap.size w);have H:(spec_poResult.l0 k 0 d8 b9 ([]:List Int) ([]:List Int))=some (r1,r2):=h;clear h;have H':=Aside0.mk H;clear H
 go_enter Try.func66,Try.ntmps66
 go_wp2_with (first|((with_reducible refine gate_dst (N:=1) rfl ?_);refine Zbe 1 #[.int .i64 d8,.slice i4 b9.length i5] 29 ?_;intro i7 hg w2 hbox hb;have a7:=Zm (hbox);have C0:=Zx hg HB;have C1:=Zx hg HB;replace HB:=Zh HB hb;clear hb hbox hg)|((with_reducible refine gate_dst (N:=2) rfl ?_);refine Zbe 2 #[.slice none 0 0,.slice none 0 0] 26 ?_;intro i8 hg w3 hbox hb;have a9:=Zm (hbox);have C2:=Zx hg HB;have C3:=Zx hg HB;replace HB:=Zh HB hb;have f8:=Zq hg a7;have f9:=Zp hg a7;replace a7:=Zk a7 hb;clear hb hbox hg)|((with_reducible refine gate_dst (N:=3) rfl ?_);refine Zbe 3 #[.slice none 0 0,.slice none 0 0] 26 ?_;intro d3 hg w4 hbox hb;have a6:=Zm (hbox);have C4:=Zx hg HB;have C5:=Zx hg HB;replace HB:=Zh HB hb;have d4:=Zq hg a7;have d5:=Zp hg a7;replace a7:=Zk a7 hb;have d6:=Zq hg a9;have d7:=Zp hg a9;replace a9:=Zk a9 hb;clear hb hbox hg;have F3:=d5.out;have F4:=d4.out;have F5:=d7.out;have F6:=d6.out;obtain⟨t0,t8,t9,y8⟩:=Z2 a6))
 go_loopg [4] k (fun kq v4 w'=> ∃(i6:Int) (a8:List Int) (b6:List Int) (c9:Value) (b8:Value),v4= .int .i64 i6∧Aside0 (spec_poResult.l0 kq i6 d8 b9 a8 b6=some (r1,r2))∧Aside0 (kq≤k)∧Aside0 (Kd.R (Kd.int .i64) 3 w' w.heap.size (fun k_=>Zn k_ b8) c9 a8)∧Aside0 (Kd.R (Kd.int .i64) 3 w' w.heap.size (fun k_=>Zn k_ c9) b8 b6)∧Aside0 (w'.heap[i7]? =some (.cells #[.int .i64 d8,(.slice i4 b9.length i5)] 29 (0,0)))∧Aside0 (w'.heap[i8]? =some (.cells #[(.slice none 0 0),(.slice none 0 0)] 26 (0,0)))∧Aside0 (w'.heap[d3]? =some (.cells #[c9,b8] 26 (0,0)))∧Aside0 (Below w.heap.size w w'))
 case atStart=>exact⟨(0),(([]:List Int)),(([]:List Int)),(.slice none 0 0),(.slice none 0 0),Zs,H',⟨Nat.le_refl _⟩,⟨Znl⟩,⟨Znl⟩,⟨Zbf a7⟩,⟨Zbf a9⟩,⟨by refine Zrb ?_;refine blk_put (cs:= #[.slice none 0 0,.slice none 0 0]) ?_ 1 _ rfl;refine Zrb ?_;refine blk_put (cs:= #[.slice none 0 0,.slice none 0 0]) ?_ 0 _ rfl;refine Zrb ?_;exact a6.out⟩,⟨Zl HB⟩⟩
 case round=>
  (clear H');obtain⟨i6,a8,b6,c9,b8,rfl,HA,C6,a4,a5,a7,a9,a6,HB⟩:=hrel
  cases gk with
  |zero=>exact absurd HA.out (by simp[spec_poResult.l0])
  |succ k1=>
   have H:=HA.out;clear HA
   simp only[spec_poResult.l0]at H
   by_cases c8:i6<d8
   ·
    rw[if_pos c8]at H;have y9:=decide_eq_true c8;clear c8;replace H:=Zb0 H;obtain⟨⟨d9,i9⟩,A9,H⟩:=H;(try dsimp only at H)
    replace H:=Zif H;obtain⟨c10,H⟩:=H;have C7:=decide_eq_true c10;have C8:decide (0≤b9.length)=true:=decide_eq_true (by omega);clear c10
    replace H:=Zif H;obtain⟨z2,H⟩:=H;have C9:=decide_eq_true z2;have D0:decide (b9.length<d9.length)=true:=decide_eq_true (Int.ofNat_lt.mp z2);clear z2
    replace H:=Zif H;obtain⟨D1,H⟩:=H
    have m9:=Aside0.mk D1;clear D1
    generalize l4:((a8++ [rd d9 (b9.length:Int)]):List Int)=e6 at H;have n0:=Aside0.mk l4.symm;clear l4
    replace H:=Zif H;obtain⟨D2,H⟩:=H
    have n3:=Aside0.mk D2;clear D2
    generalize l5:((b6++ [i9]):List Int)=k3 at H;have n4:=Aside0.mk l5.symm;clear l5;have H':=Aside0.mk H;clear H;have D3:=f8.out;have D4:=f9.out;have D5:=d4.out;have D6:=d5.out;obtain⟨o2,o3,o4,o5⟩:=Z2 a7
    try go_wp2_with (first|((with_reducible refine gate_callee (f:=76) rfl ?_);refine Ga (some 17) Try.func76 #[.agg #[.int .i64 d8,.slice i4 b9.length i5],.int .i64 i6] (h:= ?_);(with_reducible refine(spec_poDown.calls k1 d8 _ _ b9 i6 d9 i9 _ ?n5 ?n6 A9.out).mono ?_);(case n5=>exact Zca (Kd.C_below m7.out HB.out));(case n6=>exact m8.out);rintro e F7 ⟨F8,rfl,z3,hb⟩;refine⟨_,rfl, ?_⟩;have b7:=Zj (Zv (Zv z3 a4) a5) HB;replace a4:=Zm (Kd.R_elder' (Zr a4) (Kd.R_base z3) hb);replace a5:=Zm (Kd.R_elder' (Zr a5) (Kd.R_base z3) hb);replace a7:=Zk a7 hb;replace a9:=Zk a9 hb;replace a6:=Zk a6 hb;replace HB:=Zh HB hb))
    replace a4:=Zm (Kd.R_drew a4.out);replace a5:=Zm (Kd.R_drew a5.out);replace b7:=Zm (Kd.R_drew b7.out);replace a7:=Zm (blk_drew a7.out);replace a9:=Zm (blk_drew a9.out);replace a6:=Zm (blk_drew a6.out);replace HB:=Zm (below_drew1 HB.out)
    obtain⟨F9,k4,n7⟩:=Kd.R_slice b7.out
    (first|subst n7|(injection n7 with n8 z4 n9;have z5:=n8.symm;have z6:=n9.symm;clear n8 z4 n9;subst z5;subst z6))
    have l7:0≤((b9.length:Int):Int):=Zoa;have l8:(b9.length:Int)<(d9.length:Int):=Zoa
    obtain⟨g9,z7,g8⟩:=Kd.at_int (Kd.R_reads' b7.out).2.2 (b9.length:Int) l7 l8
    cases z7
    (try simp only[Go.IntWalk.toNatUp]at g8)
    replace l7:=eq_true l7
    replace l8:=eq_true l8
    refine start_ (n:=12) (S:=fun w'=>w'.cell? ⟨d3,0,none⟩=some (c9)∧w'.cell? ⟨d3,1,none⟩=some (b8)∧w'.cell? ⟨i7,0,none⟩=some (.int .i64 d8)∧w'.cell? ⟨i7,1,none⟩=some (.slice i4 b9.length i5)∧w'.cell? (g9.add b9.length)=some (.int .i64 (rd d9 (b9.length:Int)))) (ds:= [11]) (fl 12 0) (by kernel_rfl) rfl rfl ⟨Zc0 a6 0,Zc0 a6 1,Zc0 a7 0,Zc0 a7 1,g8⟩ (fun hHeld=> ?_);refine with_tabW spec_poResult.tab6 spec_poResult.bits6 (fun HT_ HW_=> ?_)
    generalize F7.drew=G4 at a4 a5 b7 a7 a9 a6 HB g8 hHeld ⊢;refine Yu 0 20 (fl 12 1) HT_ (h:= ?_);refine Yu 2 22 (fl 12 5) HT_ (h:= ?_);refine Yu 3 23 (fl 12 13) HT_ (h:= ?_);refine Yt 1 21 (fl 12 15) HT_ HW_ hHeld (h:= ?_);refine Yt 4 24 (fl 12 31) HT_ HW_ hHeld (h:= ?_);refine Yu 5 25 (fl 12 63) HT_ (h:= ?_);refine Yu 6 26 (fl 12 127) HT_ (h:= ?_);refine Yt 7 27 (fl 12 255) HT_ HW_ hHeld (h:= ?_)
    refine one_ (i:=8) (N:=some 28) (fl 12 511) rfl rfl (one_of HT_.out (by kernel_rfl)) (by decide) (fun K hK=> ?_)
    refine value_ (w1:= ?_) (v:= ?_) (by rfl) rfl ?_ ?_
    rotate_left 2
    ·
     go_simp
     constructor
     ·
      rfl
     ·
      rfl
    refine hK.out _ _ ⟨(blk_cell (blk_alloc a6.out _) 0).trans rfl,(blk_cell (blk_alloc a6.out _) 1).trans rfl,(blk_cell (blk_alloc a7.out _) 0).trans rfl,(blk_cell (blk_alloc a7.out _) 1).trans rfl,(World.cell?_alloc_lt _ _ _ (World.block_lt_of_cell? _ _ (hHeld.2.2.2.2))).trans (hHeld.2.2.2.2)⟩ (fun hHeld=> ?_)
    clear hK K;refine Yn 28 (h:= ?_)
    refine one_ (i:=9) (N:=some 29) (fl 12 1023) rfl rfl (one_of HT_.out (by kernel_rfl)) (by decide) (fun K hK=> ?_)
    refine Kd.R_append_step (Kd.int .i64) (w0:=w) w.heap.size (by rfl) (.tmp 21) (.tmp 28) 24 3 (.int .i64 0) 8 rfl Try.underlying24 info3 rfl (by decide) (by omega) c9 a8 (rd d9 (b9.length:Int)) [.int .i64 (rd d9 (b9.length:Int))] (fun k_=>Zn k_ b8∧some k_≠(.slice (some g9) d9.length k4:Value).ownBlock) (fun _ =>False) rfl rfl ?aP (fun _ hk=>hk.elim) ?aF ?aO ?aB ?aS ?aL ?_
    (case aP=>exact rfl)
    (case aB=>exact(Zl HB))
    (case aF=>exact(fun k_ hk=>⟨Kd.fresh' (Kd.R_lt (Zr a5)) k_ hk,Kd.fresh' (Kd.R_lt (Zr b7)) k_ hk⟩))
    (case aO=>exact(Zr a4))
    (case aS=>exact(below_size (Zl HB)))
    (case aL=>have:=m9.out;omega)
    intro G1 G5 ho hb hg hat
    (first|have o0:=cell_grown hg (hHeld.2.2.2.2) (by first|(rw[add_block];exact(by first|exact Zhn (b7.out.1 _ rfl)|exact fun e_=>absurd (a4.out.1 _ e_.symm) (by simp)))|(show some (Addr.add _ _).block≠ _;rw[add_block];exact(by first|exact Zhn (b7.out.1 _ rfl)|exact fun e_=>absurd (a4.out.1 _ e_.symm) (by simp)))|exact(by first|exact Zhn (b7.out.1 _ rfl)|exact fun e_=>absurd (a4.out.1 _ e_.symm) (by simp)))|have o0:=cell_grown hg (cell_unalloc (hHeld.2.2.2.2) (by first|(rw[add_block];exact Kd.R_lt b7.out _ rfl)|(show(Addr.add _ _).block< _;rw[add_block];exact Kd.R_lt b7.out _ rfl)|exact Kd.R_lt b7.out _ rfl)) (by first|(rw[add_block];exact(by first|exact Zhn (b7.out.1 _ rfl)|exact fun e_=>absurd (a4.out.1 _ e_.symm) (by simp)))|(show some (Addr.add _ _).block≠ _;rw[add_block];exact(by first|exact Zhn (b7.out.1 _ rfl)|exact fun e_=>absurd (a4.out.1 _ e_.symm) (by simp)))|exact(by first|exact Zhn (b7.out.1 _ rfl)|exact fun e_=>absurd (a4.out.1 _ e_.symm) (by simp))))
    rw[←n0.out]at ho
    replace a5:=Zm (Kd.R_after (ok:=(fun k_=>some k_≠(.slice (some g9) d9.length k4:Value).ownBlock)) (Zc a5) hg hat);replace a7:=Zm (blk_grown (Zb a7) hg (Kd.R_ne a4.out a7.out (by decide)));replace a9:=Zm (blk_grown (Zb a9) hg (Kd.R_ne a4.out a9.out (by decide)));replace a6:=Zm (blk_grown (Zb a6) hg (Kd.R_ne a4.out a6.out (by decide)));replace b7:=Zm (Kd.R_after (ok:=(fun k_=>Zn k_ b8)) (Zc b7) hg hat);replace HB:=Zm (hb);have i3:=Zm (ho);clear a4 ho hb hg hat
    obtain⟨e7,e9,o1⟩:=Kd.R_slice i3.out
    (first|subst o1|(injection o1 with n8 z4 n9;have z5:=n8.symm;have z6:=n9.symm;clear n8 z4 n9;subst z5;subst z6))
    refine hK.out _ _ ⟨Zc0 a6 0,Zc0 a6 1,Zc0 a7 0,Zc0 a7 1,o0⟩ (fun hHeld=> ?_)
    clear hK K;refine Yn 29 (h:= ?_);refine Yu 10 30 (fl 12 2047) HT_ (h:= ?_)
    refine last_ (i:=11) (N:=none) (fl 12 4095) rfl rfl (one_of HT_.out (by kernel_rfl)) (by decide) (fun K hK=> ?_)
    have G2:=Zc0 a6 0;have D7:=blk_frozen a6.out 0;have o6:=d4.out;have o7:=d6.out;have o8:=d5.out;have o9:=d7.out
    refine skip_ (w1:= ?_) (by rfl) rfl ?_ ?_
    rotate_left
    ·
     go_simp
     rfl
    refine hK.out _ _ ?_
    clear hK K
    refine done_ (done_of HT_.out (by kernel_rfl)) ?_
    have D8:=d7.out;have D9:=d6.out;obtain⟨p3,p4,p5,p6⟩:=Z2 a6
    try go_wp2_with (first|((with_reducible refine gate_builtin (b:= .append) (xs:= #[.tmp 32,.tmp 34]) rfl ?_);at_builtin;refine Kd.R_append (Kd.int .i64) (w0:=w) w.heap.size rfl (.tmp 32) (.tmp 34) 24 3 (.int .i64 0) 8 rfl Try.underlying24 info3 rfl (by decide) (by omega) b8 b6 i9 [.int .i64 i9] (fun k_=>some k_≠(.slice (some g9) d9.length k4:Value).ownBlock∧some k_≠(.slice e7 e6.length e9:Value).ownBlock) (fun _ =>False) rfl (by first|(go_simp;done)|(go_simp;rfl)) ?aP (fun _ hk=>hk.elim) ?aF ?aO ?aB ?aS ?aL ?_;(case aP=>exact rfl);(case aB=>exact(Zl HB));(case aF=>exact(fun k_ hk=>⟨Kd.fresh' (Kd.R_lt (Zr ⟨(Kd.R_mono (Kd.R_far (p:=⟨d3,0,none⟩) (Kd.R_types b7.out a6.out (by decide)) (fun _ hk=>hk.2) (.slice e7 e6.length e9)) (fun _ h_=>h_.1))⟩)) k_ hk,Kd.fresh' (Kd.R_lt (Zr ⟨(Kd.R_mono (Kd.R_far (p:=⟨d3,0,none⟩) (Kd.R_types i3.out a6.out (by decide)) (fun _ hk=>hk.2) (.slice e7 e6.length e9)) (fun _ h_=>h_.1))⟩)) k_ hk⟩));(case aO=>exact(Zrr (Kd.R_mono (Kd.R_far (p:=⟨d3,0,none⟩) (Kd.R_types a5.out a6.out (by decide)) (fun _ hk=>hk.2) (.slice e7 e6.length e9)) (fun _ hk=>⟨hk.1.1,hk.1.2⟩))));(case aS=>exact(below_size (Zl HB)));(case aL=>have:=n3.out;omega);intro G3 G6 ho hb hg hat;rw[←n4.out]at ho;replace a7:=Zm (blk_grown (g:=i7) (o:= .cells #[.int .i64 d8,.slice i4 b9.length i5] 29 (0,0)) (Zbf a7) hg (Kd.R_ne a5.out a7.out (by decide)));replace a9:=Zm (blk_grown (g:=i8) (o:= .cells #[.slice none 0 0,.slice none 0 0] 26 (0,0)) (Zbf a9) hg (Kd.R_ne a5.out a9.out (by decide)));replace b7:=Zm (Kd.R_after (ok:=(fun k_=>some k_≠(.slice e7 e6.length e9:Value).ownBlock)) (Zrr (Kd.R_mono (Kd.R_far (p:=⟨d3,0,none⟩) (Kd.R_types b7.out a6.out (by decide)) (fun _ hk=>hk.2) (.slice e7 e6.length e9)) (fun _ hk=>⟨hk.1.2,hk.1.1⟩))) hg hat);replace i3:=Zm (Kd.R_after (ok:=(fun k_=>some k_≠(.slice (some g9) d9.length k4:Value).ownBlock)) (Zrr (Kd.R_mono (Kd.R_far (p:=⟨d3,0,none⟩) (Kd.R_types i3.out a6.out (by decide)) (fun _ hk=>hk.2) (.slice e7 e6.length e9)) (fun _ hk=>⟨hk.1.2,hk.1.1⟩))) hg hat);replace a6:=Zm (blk_grown (g:=d3) (o:= .cells #[.slice e7 e6.length e9,b8] 26 (0,0)) (by refine Zrb ?_;refine blk_put (cs:= #[c9,b8]) ?_ 0 _ rfl;refine Zrb ?_;exact a6.out) hg (Kd.R_ne a5.out a6.out (by decide)));replace HB:=Zm (hb);have l6:=Zm (ho);clear a5 ho hb hg hat;obtain⟨l9,m4,z8⟩:=Kd.R_slice l6.out;subst z8;obtain⟨p7,p8,p9,q3⟩:=Z2 a6))
    go_roundg k1
    case measure=>have:=C6.out;omega
    case rel=>exact⟨(wrap64 (i6+1)),(e6),(k3),(.slice e7 e6.length e9),(.slice l9 k3.length m4),Zs,H',⟨by have:=C6.out;omega⟩,⟨Zrr (Kd.R_mono (Kd.R_far (p:=⟨d3,1,none⟩) (Kd.R_types i3.out a6.out (by decide)) (fun _ hk=>hk.2) (.slice l9 k3.length m4)) (fun _ hk=>hk.1.2))⟩,⟨Zrr (Kd.R_mono (Kd.R_far (p:=⟨d3,1,none⟩) (Kd.R_types l6.out a6.out (by decide)) (fun _ hk=>hk.2) (.slice l9 k3.length m4)) (fun _ hk=>hk.1.2))⟩,⟨Zbf a7⟩,⟨Zbf a9⟩,⟨by refine Zrb ?_;refine blk_put (cs:= #[.slice e7 e6.length e9,b8]) ?_ 1 _ rfl;refine Zrb ?_;exact a6.out⟩,⟨Zl HB⟩⟩
   ·
    rw[if_neg c8]at H;have y9:=decide_eq_false c8;clear c8
    obtain⟨rfl,rfl⟩:=Zs2 H;clear H
    have E0:=f8.out;have E6:=f9.out;have E7:=d4.out;have E8:=d5.out;obtain⟨q4,q5,q6,q7⟩:=Z2 a7;have E9:=d7.out;have F0:=d6.out;obtain⟨q8,q9,r5,r6⟩:=Z2 a6
    obtain⟨k6,k8,z9⟩:=Kd.R_slice a4.out;subst z9
    obtain⟨r7,r8,r9,s6⟩:=Z2 a9
    obtain⟨m5,m6,B0⟩:=Kd.R_slice a5.out;subst B0
    go_wp2
    refine bodyPost_ret (results_cell_row rfl _ _ i8 26 #[.slice k6 a8.length k8,.slice m5 b6.length m6] (0,0) _ rfl (by refine Zrb ?_;refine blk_put (cs:= #[.slice k6 a8.length k8,.slice none 0 0]) ?_ 1 _ rfl;refine Zrb ?_;refine blk_put (cs:= #[.slice none 0 0,.slice none 0 0]) ?_ 0 _ rfl;refine Zrb ?_;exact a9.out) Try.underlying26 rfl (by kernel_rfl)) rfl ?_
    exact⟨_,_,Ze,Zrr (Zfm a4 a9 (.slice k6 a8.length k8) (.slice m5 b6.length m6) (fun _ hk=>hk.1)),Zrr (Zfm a5 a9 (.slice k6 a8.length k8) (.slice m5 b6.length m6) (fun _ hk=>hk.1)),Zl HB⟩
def spec_l1Cur_turned.f (k:Nat) (a7:List Int) (c9:Int) (d3:Int):Option (List Int × List Int × Int × Int):=(spec_l1Cur_surePole.f k a7 c9 d3 20).bind fun a8=>((spec_poResult.f k a8.1 a8.2.1).bind fun a4=>((spec_l1Cur_pick.f a7 a8.2.2.1 a8.2.2.2 14).bind fun a5=>(if a5.1=0 then((spec_l1Cur_pick.f a7 a5.2.1 a5.2.2 (a4.2.length:Int)).bind fun a6=>(if 0≤a6.1 then(if a6.1<(a4.2.length:Int)then((spec_l1Cur_among.f a7 a6.2.1 a6.2.2 (([1,(-1),1099511627776]:List Int))).bind fun b6=>(some (a4.1,(a4.2.set (a6.1:Int).toNat (wrap64 ((rd a4.2 a6.1)+b6.1))),b6.2.1,b6.2.2)))else(none))else(none)))else(if a5.1=1 then((spec_l1Cur_among.f a7 a5.2.1 a5.2.2 (([(-1),0,(a4.1.length:Int)]:List Int))).bind fun b7=>(if 0<(a4.1.length:Int)then(some ((a4.1.set (0:Int).toNat b7.1),a4.2,b7.2.1,b7.2.2))else(none)))else(if a5.1=2 then(if 1≤(a4.2.length:Int)then(some (a4.1,(a4.2.drop (1:Int).toNat),a5.2.1,a5.2.2))else(none))else(if a5.1=3 then((spec_l1Cur_among.f a7 a5.2.1 a5.2.2 (([20,5,3]:List Int))).bind fun a9=>((spec_l1Cur_sureOrder.f k a7 a9.2.1 a9.2.2 (a4.1.length:Int)).bind fun b8=>(if 0≤(a4.1.length:Int)then(if((a4.1.length:Int):Int).toNat≤35184372088832 then((some (List.replicate ((a4.1.length:Int):Int).toNat 0:List Int)).bind fun b9=>(if 0<(b9.length:Int)then(if 1<(b9.length:Int)then(some (b8.1,((b9.set (0:Int).toNat a9.1).set (1:Int).toNat (wrap64 (-a9.1))),b8.2.1,b8.2.2))else(none))else(none)))else(none))else(none))))else(some (a4.1,a4.2,a5.2.1,a5.2.2))))))))
theorem spec_l1Cur_turned.mono: ∀a0 a1 a2 k,LeO (spec_l1Cur_turned.f k a0 a1 a2) (spec_l1Cur_turned.f (k+1) a0 a1 a2):=by
 intro a0 a1 a2 k
 unfold spec_l1Cur_turned.f
 repeat' (with_reducible first|exact spec_l1Cur_sureOrder.mono _ _ _ _ _ |exact spec_l1Cur_surePole.mono _ _ _ _ _ |exact spec_poResult.mono _ _ _ |exact LeO.refl _ |exact LeO.none _ |refine LeO.ite ?_ ?_ |refine LeO.bind ?_ (fun _ => ?_))
def spec_l1Cur_turned.T4:Bool × List (List Nat × List Nat):=(true,[([],[]),([0],[0]),([],[]),([],[]),([3],[3]),([4],[4]),([2,5],[2,5]),([1,6],[1,6]),([7],[7]),([],[]),([],[]),([9,10,6],[9,10]),([8,11],[8,11]),([1,6,0,1,2,3,4,5,6,7,8,9,10,11,12],[1,6]),([13,12,11,0,1,2,3,4,5,6,7,8,9,10,11,12],[12,13])])
def spec_l1Cur_turned.B4:List Nat:= [0,1,0,0,8,24,60,127,255,0,0,1660,4095,8191,16383]
theorem spec_l1Cur_turned.tab4:rtab .any (opsOf Try.f46 4)=spec_l1Cur_turned.T4:=by kernel_rfl
theorem spec_l1Cur_turned.bits4:waitsOk spec_l1Cur_turned.T4.2 spec_l1Cur_turned.B4=true:=by kernel_rfl
def spec_l1Cur_turned.T6:Bool × List (List Nat × List Nat):=(true,[([],[]),([0],[0]),([],[]),([],[]),([3],[3]),([4],[4]),([5],[5]),([2,6],[2,6]),([1,0,1,2,3,4,5,6,7],[1]),([8,7,7,0,1,2,3,4,5,6,7],[7,8])])
def spec_l1Cur_turned.B6:List Nat:= [0,1,0,0,8,24,56,124,255,511]
theorem spec_l1Cur_turned.tab6:rtab .any (opsOf Try.f46 6)=spec_l1Cur_turned.T6:=by kernel_rfl
theorem spec_l1Cur_turned.bits6:waitsOk spec_l1Cur_turned.T6.2 spec_l1Cur_turned.B6=true:=by kernel_rfl
set_option maxHeartbeats 8000000 in
set_option maxRecDepth 100000 in
theorem spec_l1Cur_turned.calls (k:Nat) (g:Nat) (b7:List Int) (n4:Int) (n5:Int) (r1:List Int) (r2:List Int) (r3:Int) (r4:Int) (w0 w:World) (hI:IsS61 w0 w g b7 n4 n5) (hB:Below w0.heap.size w0 w) (h:spec_l1Cur_turned.f k b7 n4 n5=some (r1,r2,r3,r4)):
  Calls Try.prog 46 #[.pointer (some ⟨g,0,none⟩)] w fun e w'=> ∃aI aJ:Value,e= .returned (.agg #[aI,aJ])∧Kd.R (Kd.int .i64) 3 w' w.heap.size (fun k_=>Zn k_ aJ) aI r1∧Kd.Q (Kd.int .i64) 3 w' w.heap.size (fun k_=>Zn k_ aI) aJ r2∧IsS61 w0 w' g b7 r3 r4∧Below w0.heap.size w0 w'∧KeepBut w w' g none:=by
 have eG:=Try.underlying26;have b8:=Aside0.mk hI;have HK:=Zm (KeepBut.refl w g none);have HL:=Aside0.mk hB.size;clear hI;have G6:=Aside0.mk hB.size;have HB:=Aside0.mk hB;clear hB;have H:((spec_l1Cur_surePole.f k b7 n4 n5 20).bind fun B0=>((spec_poResult.f k B0.1 B0.2.1).bind fun l5=>((spec_l1Cur_pick.f b7 B0.2.2.1 B0.2.2.2 14).bind fun m9=>(if m9.1=0 then((spec_l1Cur_pick.f b7 m9.2.1 m9.2.2 (l5.2.length:Int)).bind fun p7=>(if 0≤p7.1 then(if p7.1<(l5.2.length:Int)then((spec_l1Cur_among.f b7 p7.2.1 p7.2.2 (([1,(-1),1099511627776]:List Int))).bind fun D0=>(some (l5.1,(l5.2.set (p7.1:Int).toNat (wrap64 ((rd l5.2 p7.1)+D0.1))),D0.2.1,D0.2.2)))else(none))else(none)))else(if m9.1=1 then((spec_l1Cur_among.f b7 m9.2.1 m9.2.2 (([(-1),0,(l5.1.length:Int)]:List Int))).bind fun D1=>(if 0<(l5.1.length:Int)then(some ((l5.1.set (0:Int).toNat D1.1),l5.2,D1.2.1,D1.2.2))else(none)))else(if m9.1=2 then(if 1≤(l5.2.length:Int)then(some (l5.1,(l5.2.drop (1:Int).toNat),m9.2.1,m9.2.2))else(none))else(if m9.1=3 then((spec_l1Cur_among.f b7 m9.2.1 m9.2.2 (([20,5,3]:List Int))).bind fun C0=>((spec_l1Cur_sureOrder.f k b7 C0.2.1 C0.2.2 (l5.1.length:Int)).bind fun D2=>(if 0≤(l5.1.length:Int)then(if((l5.1.length:Int):Int).toNat≤35184372088832 then((some (List.replicate ((l5.1.length:Int):Int).toNat 0:List Int)).bind fun d8=>(if 0<(d8.length:Int)then(if 1<(d8.length:Int)then(some (D2.1,((d8.set (0:Int).toNat C0.1).set (1:Int).toNat (wrap64 (-C0.1))),D2.2.1,D2.2.2))else(none))else(none)))else(none))else(none))))else(some (l5.1,l5.2,m9.2.1,m9.2.2)))))))))=some (r1,r2,r3,r4):=h;clear h
 replace H:=Zb0 H;obtain⟨⟨n9,d3,i8,i9⟩,A2,H⟩:=H;(try dsimp only at H);replace H:=Zb0 H;obtain⟨⟨a9,b6⟩,A3,H⟩:=H;(try dsimp only at H);replace H:=Zb0 H;obtain⟨⟨l9,m4,m5⟩,A4,H⟩:=H;(try dsimp only at H)
 by_cases c5:l9=0
 ·
  rw[if_pos c5]at H;have aK:(l9 == 0)=true:=beq_iff_eq.mpr c5;have aM:(l9 != 0)=false:=bne_eq_false_iff_eq.mpr c5;clear c5;replace H:=Zb0 H;obtain⟨⟨k4,q5,q6⟩,A6,H⟩:=H;(try dsimp only at H)
  replace H:=Zit H;obtain⟨eH,H⟩:=H
  replace H:=Zit H;obtain⟨eI,H⟩:=H;generalize H5:([1,(-1),1099511627776]:List Int)=q7 at H;have C1:=Aside0.mk H5.symm;clear H5
  replace H:=Zb0 H;obtain⟨⟨z3,K5,K6⟩,A9,H⟩:=H;(try dsimp only at H);generalize H6:(b6.set (k4:Int).toNat (wrap64 ((rd b6 k4)+z3)))=aN at H;have K7:=Aside0.mk H6.symm;clear H6
  obtain⟨rfl,rfl,rfl,rfl⟩:=Zs4 H;clear H
  go_enter Try.func46,Try.ntmps46
  try go_wp2_with (first|((with_reducible refine gate_dst (N:=2) rfl ?_);refine Zbe 2 #[.slice none 0 0,.slice none 0 0] 26 ?_;intro b9 hg fP hbox hb;replace HB:=Zm (below_step (Zlb HB) hb);have a4:=Zm (hbox);have C2:=Zm ((by rw[hg];exact(keep_size (w:=w) (g:=g) (row:=none) (Zke HK)):w.heap.size≤b9));have p8:=Zm ((Nat.le_trans G6.out (by rw[hg];exact(keep_size (w:=w) (g:=g) (row:=none) (Zke HK)):w.heap.size≤b9):w0.heap.size≤b9));replace HK:=Zm (KeepBut.trans (Zke HK) (KeepBut.of_below hb g none) (.inl rfl));have m6:=Zm ((by rw[hg];exact Nat.ne_of_lt (IsS61.lt (show IsS61 w0 _ g b7 n4 n5 from Zis b8)):g≠b9));have d4:=Zm ((by rw[hg];exact Nat.ne_of_gt (IsS61.lt (show IsS61 w0 _ g b7 n4 n5 from Zis b8)):b9≠g));replace b8:=Zm (IsS61.below (Zis b8) hb);clear hb hbox hg)|((with_reducible refine gate_callee (f:=67) rfl ?_);refine Ga (some 7) Try.func67 #[.pointer (some ⟨g,0,none⟩),.int .i64 20] (h:= ?_);(with_reducible refine(spec_l1Cur_surePole.calls k g b7 n4 n5 20 n9 d3 i8 i9 w0 _ ?d5 ?d6 A2.out).mono ?_);(case d5=>exact Zis b8);(case d6=>exact Zlb HB);rintro e fQ ⟨G7,rfl,n6,hi,hb,hk⟩;refine⟨_,rfl, ?_⟩;replace a4:=Zm (KeepBut.blk hk (g':=b9) (o:= .cells #[.slice none 0 0,.slice none 0 0] 26 (0,0)) (Zb a4) d4.out (by simp));have a6:=Zm (Kd.R_lower n6 (keep_size (w:=w) (g:=g) (row:=none) (Zke HK)));replace HK:=Zm (KeepBut.trans (Zke HK) hk (.inl rfl));replace HB:=Zm (hb);replace b8:=Zm (hi);obtain⟨o1,o2,aQ⟩:=Kd.R_slice a6.out;subst aQ)|((with_reducible refine gate_callee (f:=66) rfl ?_);refine Ga (some 8) Try.func66 #[.agg #[.int .i64 n9,.slice o1 d3.length o2]] (h:= ?_);(with_reducible refine(spec_poResult.calls k n9 _ _ d3 a9 b6 _ ?d5 ?d6 A3.out).mono ?_);(case d5=>exact Zca (Kd.R_reads' a6.out).2.2);(case d6=>exact(Kd.R_reads' a6.out).2.1);rintro e fR ⟨G8,G9,rfl,n6,C3,hb⟩;refine⟨_,rfl, ?_⟩;have a8:=Zm (Kd.R_lower (Zv n6 a6) (keep_size (w:=w) (g:=g) (row:=none) (Zke HK)));have a7:=Zm (Kd.R_lower (Zv C3 a6) (keep_size (w:=w) (g:=g) (row:=none) (Zke HK)));replace a6:=Zu a6 hb n6 C3;replace a4:=Zk a4 hb;replace HK:=Zm (KeepBut.trans (Zke HK) (KeepBut.of_below hb g none) (.inl rfl));replace HB:=Zm (below_step (Zlb HB) hb);replace b8:=Zm (IsS61.below (Zis b8) hb))|((with_reducible refine gate_dst (N:=3) rfl ?_);refine Zbe 3 #[.slice none 0 0,.slice none 0 0] 26 ?_;intro c9 hg fS hbox hb;replace a6:=Zo a6 hb;replace a8:=Zo a8 hb;replace a7:=Zo a7 hb;replace HB:=Zm (below_step (Zlb HB) hb);have a5:=Zm (hbox);have C4:=Zm ((by rw[hg];exact(keep_size (w:=w) (g:=g) (row:=none) (Zke HK)):w.heap.size≤c9));have p9:=Zm ((Nat.le_trans G6.out (by rw[hg];exact(keep_size (w:=w) (g:=g) (row:=none) (Zke HK)):w.heap.size≤c9):w0.heap.size≤c9));replace HK:=Zm (KeepBut.trans (Zke HK) (KeepBut.of_below hb g none) (.inl rfl));have e9:=Zq hg a4;have g8:=Zp hg a4;replace a4:=Zk a4 hb;have m7:=Zm ((by rw[hg];exact Nat.ne_of_lt (IsS61.lt (show IsS61 w0 _ g b7 i8 i9 from Zis b8)):g≠c9));have d9:=Zm ((by rw[hg];exact Nat.ne_of_gt (IsS61.lt (show IsS61 w0 _ g b7 i8 i9 from Zis b8)):c9≠g));replace b8:=Zm (IsS61.below (Zis b8) hb);clear hb hbox hg;obtain⟨l6,l7,aT⟩:=Kd.R_slice a8.out;subst aT;have cQ:=g8.out;have cR:=e9.out;have cS:=d9.out;have cT:=m7.out;obtain⟨U2,U3,U4,U5⟩:=Z2 a5;obtain⟨aU,m8,aV⟩:=Kd.R_slice a7.out;subst aV)|((with_reducible refine gate_callee (f:=45) rfl ?_);refine Ga (some 10) Try.func45 #[.pointer (some ⟨g,0,none⟩),.int .i64 14] (h:= ?_);(with_reducible refine(spec_l1Cur_pick.calls g b7 i8 i9 14 l9 m4 m5 w0 _ ?d5 ?d6 A4.out).mono ?_);(case d5=>exact Zis b8);(case d6=>exact Zlb HB);rintro e eJ ⟨rfl,hi,hb,hk⟩;refine⟨_,rfl, ?_⟩;replace a4:=Zm (KeepBut.blk hk (g':=b9) (o:= .cells #[.slice none 0 0,.slice none 0 0] 26 (0,0)) (Zbf a4) d4.out (by simp));replace a6:=Zm (Kd.R_mono (Kd.R_keep (IsS61.apart (show IsS61 w0 _ g b7 i8 i9 from Zis b8) (Zy a6 a5) (by decide)) hk (fun _ h=>h.2)) (fun _ h=>h.1));replace a8:=Zm (Kd.R_mono (Kd.R_keep (IsS61.apart (show IsS61 w0 _ g b7 i8 i9 from Zis b8) (Zy a8 a5) (by decide)) hk (fun _ h=>h.2)) (fun _ h=>h.1));replace a7:=Zm (Kd.R_mono (Kd.R_keep (IsS61.apart (show IsS61 w0 _ g b7 i8 i9 from Zis b8) (Zy a7 a5) (by decide)) hk (fun _ h=>h.2)) (fun _ h=>h.1));replace a5:=Zm (KeepBut.blk hk (g':=c9) (o:= .cells #[.slice l6 a9.length l7,.slice aU b6.length m8] 26 (0,0)) (by refine Zrb ?_;refine blk_put (cs:= #[.slice l6 a9.length l7,.slice none 0 0]) ?_ 1 _ rfl;refine Zrb ?_;refine blk_put (cs:= #[.slice none 0 0,.slice none 0 0]) ?_ 0 _ rfl;refine Zrb ?_;exact a5.out) d9.out (by simp));replace HK:=Zm (KeepBut.trans (Zke HK) hk (.inl rfl));replace HB:=Zm (hb);replace b8:=Zm (hi)))
  replace a6:=Zm (Kd.R_drew a6.out);replace a8:=Zm (Kd.R_drew a8.out);replace a7:=Zm (Kd.R_drew a7.out);replace a4:=Zm (blk_drew a4.out);replace a5:=Zm (blk_drew a5.out);replace b8:=Zm (IsS61.drew b8.out);replace HK:=Zm (keep_drew HK.out);replace HB:=Zm (below_drew1 HB.out);have J0:0≤(k4:Int):=Zoa;have J1:k4<(b6.length:Int):=Zoa
  obtain⟨g9,eK,K8,K9,aW,eL,L2⟩:=Kd.R_form a7.out (by omega)
  (first|cases K8|(injection K8 with ea_ en_ ec_;(first|subst ea_|(injection ea_ with ea_;subst ea_));subst ec_;clear en_))
  have aX:=Aside0.mk K9;have eM:=Aside0.mk L2;clear K9 aW L2
  obtain⟨cU,aY,q8⟩:=Kd.at_int (Kd.R_reads' a7.out).2.2 k4 J0 J1
  cases aY
  (first|simp only[add_plain]at q8|skip)
  replace J0:=eq_true J0
  replace J1:=eq_true J1
  refine start_ (n:=15) (S:=fun w'=>w'.cell? ⟨c9,0,none⟩=some (.slice l6 a9.length l7)∧w'.cell? ⟨c9,1,none⟩=some (.slice (some ⟨g9,0,none⟩) b6.length m8)∧w'.cell? ⟨g9,(k4).toNat,none⟩=some (.int .i64 (rd b6 k4))) (ds:= [14]) (fl 15 0) (by kernel_rfl) rfl rfl ⟨Zc0 a5 0,Zc0 a5 1,q8⟩ (fun hHeld=> ?_);refine with_tabW spec_l1Cur_turned.tab4 spec_l1Cur_turned.bits4 (fun HT_ HW_=> ?_)
  generalize eJ.drew=fT at a6 a8 a7 a4 a5 b8 HK HB q8 hHeld ⊢;refine Yu 0 13 (fl 15 1) HT_ (h:= ?_);refine Yu 2 15 (fl 15 5) HT_ (h:= ?_);refine Yu 3 16 (fl 15 13) HT_ (h:= ?_);refine Yu 9 22 (fl 15 525) HT_ (h:= ?_);refine Yt 1 14 (fl 15 527) HT_ HW_ hHeld (h:= ?_);refine Yt 4 17 (fl 15 543) HT_ HW_ hHeld (h:= ?_);refine Yu 5 18 (fl 15 575) HT_ (h:= ?_)
  refine join_ (σ:=Value) 4 (fl 15 2047) (fun s_=> [(19,.int .i64 k4),(23,s_),(20,.pointer (some ⟨g9,(k4).toNat,none⟩)),(21,.int .i64 (rd b6 k4))]) (fun s_ w'=>(w'.cell? ⟨c9,0,none⟩=some (.slice l6 a9.length l7)∧w'.cell? ⟨c9,1,none⟩=some (.slice (some ⟨g9,0,none⟩) b6.length m8)∧w'.cell? ⟨g9,(k4).toNat,none⟩=some (.int .i64 (rd b6 k4)))∧(Kd.R (Kd.int .i64) 3 w' w.heap.size (fun k_=>Zn k_ (.slice l6 a9.length l7)∧some k_≠(.slice (some ⟨g9,0,none⟩) b6.length m8:Value).ownBlock∧Zn k_ s_) (.slice o1 d3.length o2) d3)∧(Kd.R (Kd.int .i64) 3 w' w.heap.size (fun k_=>Zn k_ (.slice o1 d3.length o2)∧some k_≠(.slice (some ⟨g9,0,none⟩) b6.length m8:Value).ownBlock∧Zn k_ s_) (.slice l6 a9.length l7) a9)∧(Kd.R (Kd.int .i64) 3 w' w.heap.size (fun k_=>Zn k_ (.slice o1 d3.length o2)∧Zn k_ (.slice l6 a9.length l7)∧Zn k_ s_) (.slice (some ⟨g9,0,none⟩) b6.length m8) b6)∧(Kd.R (Kd.int .i64) 3 w' w.heap.size (fun k_=>Zn k_ (.slice o1 d3.length o2)∧Zn k_ (.slice l6 a9.length l7)∧some k_≠(.slice (some ⟨g9,0,none⟩) b6.length m8:Value).ownBlock) s_ q7)∧(w'.heap[b9]? =some (.cells #[.slice none 0 0,.slice none 0 0] 26 (0,0)))∧(w'.heap[c9]? =some (.cells #[.slice l6 a9.length l7,.slice (some ⟨g9,0,none⟩) b6.length m8] 26 (0,0)))∧(IsS61 w0 w' g b7 q5 q6)∧(KeepBut w w' g none)∧(Below w0.heap.size w0 w')) ?_ ?_
  rotate_left
  ·
   intro hCont
   refine two_ (i:=6) (j:=10) (Ni:=some 19) (Nj:=some 23) (fl 15 639) (fl 15 1599) rfl rfl rfl rfl (two_of HT_.out (by kernel_rfl)) (by decide) (by decide) (fun K hK=> ?_) (fun K hK=> ?_)
   ·
    refine goes_ Try.func45 (by kernel_rfl) rfl #[.pointer (some ⟨g,0,none⟩),.int .i64 (b6.length:Int)] (by rfl) rfl rfl (by(try simp only[List.map_toArray,List.map_cons,List.map_nil]);first|done|rfl) ?_
    with_reducible refine(spec_l1Cur_pick.calls g b7 m4 m5 (b6.length:Int) k4 q5 q6 w0 _ ?d5 ?d6 A6.out).mono ?_
    (case d5=>exact Zis b8)
    (case d6=>exact Zlb HB)
    rintro e eN ⟨rfl,hi,hb,hk⟩
    have q9:=keep_cell hk (hHeld.2.2) (by first|(rw[add_block];exact Kd.own_blk (IsS61.own_ne b8.out a7.out (by decide)))|(show(Addr.add _ _).block≠ _;rw[add_block];exact Kd.own_blk (IsS61.own_ne b8.out a7.out (by decide)))|exact Ne.symm (show g≠g9 from by have h_:=IsS61.own_ne b8.out a7.out (by decide);intro e_;exact h_ (by rw[e_];rfl)))
    refine⟨_,rfl, ?_⟩
    replace a4:=Zm (KeepBut.blk hk (g':=b9) (o:= .cells #[.slice none 0 0,.slice none 0 0] 26 (0,0)) (Zb a4) d4.out (by simp));replace a6:=Zm (Kd.R_mono (Kd.R_keep (IsS61.apart (show IsS61 w0 _ g b7 m4 m5 from Zis b8) (Zr a6) (by decide)) hk (fun _ h=>h.2)) (fun _ h=>h.1));replace a8:=Zm (Kd.R_mono (Kd.R_keep (IsS61.apart (show IsS61 w0 _ g b7 m4 m5 from Zis b8) (Zr a8) (by decide)) hk (fun _ h=>h.2)) (fun _ h=>h.1));replace a7:=Zm (Kd.R_mono (Kd.R_keep (IsS61.apart (show IsS61 w0 _ g b7 m4 m5 from Zis b8) (Zr a7) (by decide)) hk (fun _ h=>h.2)) (fun _ h=>h.1));replace a5:=Zm (KeepBut.blk hk (g':=c9) (o:= .cells #[.slice l6 a9.length l7,.slice (some ⟨g9,0,none⟩) b6.length m8] 26 (0,0)) (Zb a5) d9.out (by simp));replace HK:=Zm (KeepBut.trans (Zke HK) hk (.inl rfl));replace HB:=Zm (hb);replace b8:=Zm (hi)
    refine hK.out _ _ ⟨Zc0 a5 0,Zc0 a5 1,q9⟩ (fun hHeld=> ?_)
    clear hK K;refine Yn 19 (h:= ?_);refine Yu 7 20 (fl 15 767) HT_ (h:= ?_);refine Yt 8 21 (fl 15 1023) HT_ HW_ hHeld (h:= ?_)
    refine one_ (i:=10) (N:=some 23) (fl 15 2047) rfl rfl (one_of HT_.out (by kernel_rfl)) (by decide) (fun K hK=> ?_)
    refine Kd.R_lit_step (Kd.int .i64) _ 3 ?hg (N:=23) ?hd (xs:=([1,(-1),1099511627776]:List Int)) (inner:= [.int .i64 1,.int .i64 (-1),.int .i64 1099511627776]) (ok:=fun _ =>True) (okp:=fun _ =>True) ?hr ?hp (fun _ hk=>hk) trivial (Below.refl _ _) (Nat.le_refl _) (by simp) ?_;(case hd=>rfl);(case hg=>rfl);(case hr=>first|(go_simp;done)|(go_simp;rfl));(case hp=>exact(Reps.one (show Kd.M (Kd.int .i64) _ _ _ 1 [.int .i64 1]from rfl) (Reps.one (show Kd.M (Kd.int .i64) _ _ _ (-1) [.int .i64 (-1)]from rfl) (Reps.one (show Kd.M (Kd.int .i64) _ _ _ 1099511627776 [.int .i64 1099511627776]from rfl) (Reps.none _ _)))))
    intro r5 fU r6 hb hg_ hnew_
    have q9:=(hb.cell (World.block_lt_of_cell? _ _ (hHeld.2.2))).trans (hHeld.2.2);clear hg_ hnew_
    (first|rw[←C1.out]at r6|(simp only[Int.reduceToNat]at r6;rw[←C1.out]at r6))
    have n0:=Zm (Kd.R_lower (Zv (Zv (Zv r6 a6) a8) a7) (keep_size (w:=w) (g:=g) (row:=none) (Zke HK)));replace a6:=Zm (Kd.R_elder' (Zr a6) (Kd.R_base r6) hb);replace a8:=Zm (Kd.R_elder' (Zr a8) (Kd.R_base r6) hb);replace a7:=Zm (Kd.R_elder' (Zr a7) (Kd.R_base r6) hb);replace a4:=Zk a4 hb;replace a5:=Zk a5 hb;replace HK:=Zm (KeepBut.trans (Zke HK) (KeepBut.of_below hb g none) (.inl rfl));replace HB:=Zm (below_step (Zlb HB) hb);replace b8:=Zm (IsS61.below (Zis b8) hb);clear hb r6
    refine hK.out _ _ ⟨Zc0 a5 0,Zc0 a5 1,q9⟩ (fun hHeld=> ?_)
    clear hK K;refine Yn 23 (h:= ?_)
    exact norm_ (by simp only[putAll,Act.put,List.setIfInBounds_toArray,List.set_cons_zero,List.set_cons_succ]) (hCont (r5) _ ⟨hHeld,(Zc a6),(Zc a8),(Zc a7),(Zc n0),(Zb a4),(Zb a5),(Zis b8),(Zke HK),(Zlb HB)⟩)
   ·
    refine Kd.R_lit_step (Kd.int .i64) _ 3 ?hg (N:=23) ?hd (xs:=([1,(-1),1099511627776]:List Int)) (inner:= [.int .i64 1,.int .i64 (-1),.int .i64 1099511627776]) (ok:=fun _ =>True) (okp:=fun _ =>True) ?hr ?hp (fun _ hk=>hk) trivial (Below.refl _ _) (Nat.le_refl _) (by simp) ?_;(case hd=>rfl);(case hg=>rfl);(case hr=>first|(go_simp;done)|(go_simp;rfl));(case hp=>exact(Reps.one (show Kd.M (Kd.int .i64) _ _ _ 1 [.int .i64 1]from rfl) (Reps.one (show Kd.M (Kd.int .i64) _ _ _ (-1) [.int .i64 (-1)]from rfl) (Reps.one (show Kd.M (Kd.int .i64) _ _ _ 1099511627776 [.int .i64 1099511627776]from rfl) (Reps.none _ _)))))
    intro r5 eN r7 hb hg_ hnew_
    have q9:=(hb.cell (World.block_lt_of_cell? _ _ (hHeld.2.2))).trans (hHeld.2.2);clear hg_ hnew_
    (first|rw[←C1.out]at r7|(simp only[Int.reduceToNat]at r7;rw[←C1.out]at r7))
    have n0:=Zm (Kd.R_lower (Zv (Zv (Zv r7 a6) a8) a7) (keep_size (w:=w) (g:=g) (row:=none) (Zke HK)));replace a6:=Zm (Kd.R_elder' (Zr a6) (Kd.R_base r7) hb);replace a8:=Zm (Kd.R_elder' (Zr a8) (Kd.R_base r7) hb);replace a7:=Zm (Kd.R_elder' (Zr a7) (Kd.R_base r7) hb);replace a4:=Zk a4 hb;replace a5:=Zk a5 hb;replace HK:=Zm (KeepBut.trans (Zke HK) (KeepBut.of_below hb g none) (.inl rfl));replace HB:=Zm (below_step (Zlb HB) hb);replace b8:=Zm (IsS61.below (Zis b8) hb);clear hb r7
    refine hK.out _ _ ⟨Zc0 a5 0,Zc0 a5 1,q9⟩ (fun hHeld=> ?_)
    clear hK K;refine Yn 23 (h:= ?_)
    refine one_ (i:=6) (N:=some 19) (fl 15 1663) rfl rfl (one_of HT_.out (by kernel_rfl)) (by decide) (fun K hK=> ?_)
    refine goes_ Try.func45 (by kernel_rfl) rfl #[.pointer (some ⟨g,0,none⟩),.int .i64 (b6.length:Int)] (by rfl) rfl rfl (by(try simp only[List.map_toArray,List.map_cons,List.map_nil]);first|done|rfl) ?_
    with_reducible refine(spec_l1Cur_pick.calls g b7 m4 m5 (b6.length:Int) k4 q5 q6 w0 _ ?d5 ?d6 A6.out).mono ?_
    (case d5=>exact Zis b8)
    (case d6=>exact Zlb HB)
    rintro e fV ⟨rfl,hi,hb,hk⟩
    have q9:=keep_cell hk (hHeld.2.2) (by first|(rw[add_block];exact Kd.own_blk (IsS61.own_ne b8.out a7.out (by decide)))|(show(Addr.add _ _).block≠ _;rw[add_block];exact Kd.own_blk (IsS61.own_ne b8.out a7.out (by decide)))|exact Ne.symm (show g≠g9 from by have h_:=IsS61.own_ne b8.out a7.out (by decide);intro e_;exact h_ (by rw[e_];rfl)))
    refine⟨_,rfl, ?_⟩
    replace a4:=Zm (KeepBut.blk hk (g':=b9) (o:= .cells #[.slice none 0 0,.slice none 0 0] 26 (0,0)) (Zb a4) d4.out (by simp));replace a6:=Zm (Kd.R_mono (Kd.R_keep (IsS61.apart (show IsS61 w0 _ g b7 m4 m5 from Zis b8) (Zr a6) (by decide)) hk (fun _ h=>h.2)) (fun _ h=>h.1));replace a8:=Zm (Kd.R_mono (Kd.R_keep (IsS61.apart (show IsS61 w0 _ g b7 m4 m5 from Zis b8) (Zr a8) (by decide)) hk (fun _ h=>h.2)) (fun _ h=>h.1));replace a7:=Zm (Kd.R_mono (Kd.R_keep (IsS61.apart (show IsS61 w0 _ g b7 m4 m5 from Zis b8) (Zr a7) (by decide)) hk (fun _ h=>h.2)) (fun _ h=>h.1));replace a5:=Zm (KeepBut.blk hk (g':=c9) (o:= .cells #[.slice l6 a9.length l7,.slice (some ⟨g9,0,none⟩) b6.length m8] 26 (0,0)) (Zb a5) d9.out (by simp));replace n0:=Zm (Kd.R_mono (Kd.R_keep (IsS61.apart (show IsS61 w0 _ g b7 m4 m5 from Zis b8) (Zr n0) (by decide)) hk (fun _ h=>h.2)) (fun _ h=>h.1));replace HK:=Zm (KeepBut.trans (Zke HK) hk (.inl rfl));replace HB:=Zm (hb);replace b8:=Zm (hi)
    refine hK.out _ _ ⟨Zc0 a5 0,Zc0 a5 1,q9⟩ (fun hHeld=> ?_)
    clear hK K;refine Yn 19 (h:= ?_);refine Yu 7 20 (fl 15 1791) HT_ (h:= ?_);refine Yt 8 21 (fl 15 2047) HT_ HW_ hHeld (h:= ?_)
    exact norm_ (by simp only[putAll,Act.put,List.setIfInBounds_toArray,List.set_cons_zero,List.set_cons_succ]) (hCont (r5) _ ⟨hHeld,(Zc a6),(Zc a8),(Zc a7),(Zc n0),(Zb a4),(Zb a5),(Zis b8),(Zke HK),(Zlb HB)⟩)
  rintro r5 C9 ⟨hS_,L3,L4,L5,L6,L7,L8,L9,M0,M1⟩
  replace a6:Aside0 (Kd.R (Kd.int .i64) 3 C9 w.heap.size (fun k_=>Zn k_ (.slice l6 a9.length l7)∧some k_≠(.slice (some ⟨g9,0,none⟩) b6.length m8:Value).ownBlock∧Zn k_ r5) (.slice o1 d3.length o2) d3):=⟨L3⟩;replace a8:Aside0 (Kd.R (Kd.int .i64) 3 C9 w.heap.size (fun k_=>Zn k_ (.slice o1 d3.length o2)∧some k_≠(.slice (some ⟨g9,0,none⟩) b6.length m8:Value).ownBlock∧Zn k_ r5) (.slice l6 a9.length l7) a9):=⟨L4⟩;replace a7:Aside0 (Kd.R (Kd.int .i64) 3 C9 w.heap.size (fun k_=>Zn k_ (.slice o1 d3.length o2)∧Zn k_ (.slice l6 a9.length l7)∧Zn k_ r5) (.slice (some ⟨g9,0,none⟩) b6.length m8) b6):=⟨L5⟩;have n0:Aside0 (Kd.R (Kd.int .i64) 3 C9 w.heap.size (fun k_=>Zn k_ (.slice o1 d3.length o2)∧Zn k_ (.slice l6 a9.length l7)∧some k_≠(.slice (some ⟨g9,0,none⟩) b6.length m8:Value).ownBlock) r5 q7):=⟨L6⟩;replace a4:Aside0 (C9.heap[b9]? =some (.cells #[.slice none 0 0,.slice none 0 0] 26 (0,0))):=⟨L7⟩;replace a5:Aside0 (C9.heap[c9]? =some (.cells #[.slice l6 a9.length l7,.slice (some ⟨g9,0,none⟩) b6.length m8] 26 (0,0))):=⟨L8⟩;replace b8:Aside0 (IsS61 w0 C9 g b7 q5 q6):=⟨L9⟩;replace HK:Aside0 (KeepBut w C9 g none):=⟨M0⟩;replace HB:Aside0 (Below w0.heap.size w0 C9):=⟨M1⟩;clear L3 L4 L5 L6 L7 L8 L9 M0 M1;have hHeld:C9.cell? ⟨c9,0,none⟩=some (.slice l6 a9.length l7)∧C9.cell? ⟨c9,1,none⟩=some (.slice (some ⟨g9,0,none⟩) b6.length m8)∧C9.cell? ⟨g9,(k4).toNat,none⟩=some (.int .i64 (rd b6 k4)):=hS_
  obtain⟨D3,D4,M2⟩:=Kd.R_slice n0.out
  (first|subst M2|(injection M2 with o9 z4 p3;have z5:=o9.symm;have z6:=p3.symm;clear o9 z4 p3;subst z5;subst z6))
  refine norm_ (a':= ?_) ?_ ?_
  rotate_left
  ·
   simp only[putAll,Act.put,List.setIfInBounds_toArray,List.set_cons_zero,List.set_cons_succ]
   rfl
  refine one_ (i:=11) (N:=some 24) (fl 15 4095) rfl rfl (one_of HT_.out (by kernel_rfl)) (by decide) (fun K hK=> ?_)
  refine goes_ Try.func53 (by kernel_rfl) rfl #[.pointer (some ⟨g,0,none⟩),.slice D3 q7.length D4] (by rfl) rfl rfl (by(try simp only[List.map_toArray,List.map_cons,List.map_nil]);first|done|rfl) ?_
  with_reducible refine(spec_l1Cur_among.calls g b7 q5 q6 _ _ q7 z3 K5 K6 w0 _ ?d5 ?d6 ?r8 ?r9 ?s6 A9.out).mono ?_
  (case d5=>exact Zis b8)
  (case d6=>exact Zlb HB)
  (case r8=>exact Zca (Kd.R_reads' n0.out).2.2)
  (case r9=>exact(Kd.R_reads' n0.out).2.1)
  (case s6=>exact far_slice (IsS61.own_ne b8.out n0.out (by decide)))
  rintro e eO ⟨rfl,hi,hb,hk⟩
  have q9:=keep_cell hk (hHeld.2.2) (by first|(rw[add_block];exact Kd.own_blk (IsS61.own_ne b8.out a7.out (by decide)))|(show(Addr.add _ _).block≠ _;rw[add_block];exact Kd.own_blk (IsS61.own_ne b8.out a7.out (by decide)))|exact Ne.symm (show g≠g9 from by have h_:=IsS61.own_ne b8.out a7.out (by decide);intro e_;exact h_ (by rw[e_];rfl)))
  refine⟨_,rfl, ?_⟩
  replace a4:=Zm (KeepBut.blk hk (g':=b9) (o:= .cells #[.slice none 0 0,.slice none 0 0] 26 (0,0)) (Zb a4) d4.out (by simp));replace a6:=Zm (Kd.R_mono (Kd.R_keep (IsS61.apart (show IsS61 w0 _ g b7 q5 q6 from Zis b8) (Zr a6) (by decide)) hk (fun _ h=>h.2)) (fun _ h=>h.1));replace a8:=Zm (Kd.R_mono (Kd.R_keep (IsS61.apart (show IsS61 w0 _ g b7 q5 q6 from Zis b8) (Zr a8) (by decide)) hk (fun _ h=>h.2)) (fun _ h=>h.1));replace a7:=Zm (Kd.R_mono (Kd.R_keep (IsS61.apart (show IsS61 w0 _ g b7 q5 q6 from Zis b8) (Zr a7) (by decide)) hk (fun _ h=>h.2)) (fun _ h=>h.1));replace a5:=Zm (KeepBut.blk hk (g':=c9) (o:= .cells #[.slice l6 a9.length l7,.slice (some ⟨g9,0,none⟩) b6.length m8] 26 (0,0)) (Zb a5) d9.out (by simp));replace n0:=Zm (Kd.R_mono (Kd.R_keep (IsS61.apart (show IsS61 w0 _ g b7 q5 q6 from Zis b8) (Zr n0) (by decide)) hk (fun _ h=>h.2)) (fun _ h=>h.1));replace HK:=Zm (KeepBut.trans (Zke HK) hk (.inl rfl));replace HB:=Zm (hb);replace b8:=Zm (hi)
  have aZ:0≤(k4:Int):=Zoa;have bA:(k4:Int)<((b6.length:Int):Int):=Zoa
  obtain⟨bB,bC⟩:=Kd.R_celln 0 a7.out (k4:Int) aZ bA
  replace aZ:=eq_true aZ
  replace bA:=eq_true bA
  have M3:=Zm (show g≠g9 from by have h_:=IsS61.own_ne b8.out a7.out (by decide);intro e_;exact h_ (by rw[e_];rfl));have J2:=Kd.R_putn a7.out (k4:Int) (wrap64 ((rd b6 k4)+z3))
  rw[←K7.out]at J2
  have bD:=Aside0.mk J2;clear J2
  refine hK.out _ _ ⟨Zc0 a5 0,Zc0 a5 1,q9⟩ (fun hHeld=> ?_)
  clear hK K;refine Yn 24 (h:= ?_);refine Yu 12 25 (fl 15 8191) HT_ (h:= ?_);refine Yu 13 26 (fl 15 16383) HT_ (h:= ?_)
  refine last_ (i:=14) (N:=none) (fl 15 32767) rfl rfl (one_of HT_.out (by kernel_rfl)) (by decide) (fun K hK=> ?_)
  refine skip_ (w1:= ?_) (by rfl) rfl ?_ ?_
  rotate_left
  ·
   go_simp
   rfl
  refine hK.out _ _ ?_
  clear hK K
  refine done_ (done_of HT_.out (by kernel_rfl)) ?_
  generalize hW_:(eO.setCell ⟨g9,(k4:Int).toNat,none⟩ (.int .i64 (wrap64 ((rd b6 k4)+z3))))=J3;replace a6:Aside0 (Kd.R (Kd.int .i64) 3 J3 w.heap.size (fun k_=>Zn k_ (.slice l6 a9.length l7)∧some k_≠(.slice (some ⟨g9,0,none⟩) b6.length m8:Value).ownBlock∧some k_≠(.slice D3 q7.length D4:Value).ownBlock) (.slice o1 d3.length o2) d3):=⟨by rw[←hW_];(with_reducible repeat(first|apply Kd.R_alloc|apply Kd.R_drewN|apply Kd.R_drew));exact Kd.R_mono (Kd.R_far (p:=⟨g9,(k4:Int).toNat,none⟩) (Kd.R_mono a6.out (fun k_ hk=>(⟨hk,fun e_=>hk.2.1 (by rw[e_];rfl)⟩: _ ∧k_≠g9))) (fun _ hk=>hk.2) (.int .i64 (wrap64 ((rd b6 k4)+z3)))) (fun _ hk=>⟨hk.1.1,⟨hk.1.2.1,hk.1.2.2⟩⟩)⟩;replace a8:Aside0 (Kd.R (Kd.int .i64) 3 J3 w.heap.size (fun k_=>Zn k_ (.slice o1 d3.length o2)∧some k_≠(.slice (some ⟨g9,0,none⟩) b6.length m8:Value).ownBlock∧some k_≠(.slice D3 q7.length D4:Value).ownBlock) (.slice l6 a9.length l7) a9):=⟨by rw[←hW_];(with_reducible repeat(first|apply Kd.R_alloc|apply Kd.R_drewN|apply Kd.R_drew));exact Kd.R_mono (Kd.R_far (p:=⟨g9,(k4:Int).toNat,none⟩) (Kd.R_mono a8.out (fun k_ hk=>(⟨hk,fun e_=>hk.2.1 (by rw[e_];rfl)⟩: _ ∧k_≠g9))) (fun _ hk=>hk.2) (.int .i64 (wrap64 ((rd b6 k4)+z3)))) (fun _ hk=>⟨hk.1.1,⟨hk.1.2.1,hk.1.2.2⟩⟩)⟩;replace n0:Aside0 (Kd.R (Kd.int .i64) 3 J3 w.heap.size (fun k_=>Zn k_ (.slice o1 d3.length o2)∧Zn k_ (.slice l6 a9.length l7)∧some k_≠(.slice (some ⟨g9,0,none⟩) b6.length m8:Value).ownBlock) (.slice D3 q7.length D4) q7):=⟨by rw[←hW_];(with_reducible repeat(first|apply Kd.R_alloc|apply Kd.R_drewN|apply Kd.R_drew));exact Kd.R_mono (Kd.R_far (p:=⟨g9,(k4:Int).toNat,none⟩) (Kd.R_mono n0.out (fun k_ hk=>(⟨hk,fun e_=>hk.2.2 (by rw[e_];rfl)⟩: _ ∧k_≠g9))) (fun _ hk=>hk.2) (.int .i64 (wrap64 ((rd b6 k4)+z3)))) (fun _ hk=>⟨hk.1.1,⟨hk.1.2.1,hk.1.2.2⟩⟩)⟩;replace a4:=Zwb hW_ a4 a7;replace a5:=Zwb hW_ a5 a7;replace a7:Aside0 (Kd.R (Kd.int .i64) 3 J3 w.heap.size (fun k_=>Zn k_ (.slice o1 d3.length o2)∧Zn k_ (.slice l6 a9.length l7)∧some k_≠(.slice D3 q7.length D4:Value).ownBlock) (.slice (some ⟨g9,0,none⟩) b6.length m8) aN):=⟨by rw[←hW_];exact Zr bD⟩;replace HK:Aside0 (KeepBut w J3 g none):=⟨by rw[←hW_];exact Zke HK⟩;replace HB:Aside0 (Below w0.heap.size w0 J3):=⟨by rw[←hW_];repeat(first|(with_reducible first|exact HB.out|apply below_alloc|apply pw_below_drewN|apply below_drew1|refine below_set ?_ (Nat.le_trans HL.out aX.out)|refine below_set ?_ (IsS61.ge b8.out)|refine below_set ?_ p8.out|refine below_set ?_ p9.out)|exact HB.out)⟩;replace b8:Aside0 (IsS61 w0 J3 g b7 K5 K6):=⟨by rw[←hW_];exact Zis b8⟩;clear hW_;obtain⟨U6,U7,U8,U9⟩:=Z2 a5;have cV:=d4.out;have cW:=m6.out;obtain⟨V0,V1,V2,V3⟩:=Z2 a4
  try go_wp2
  refine bodyPost_ret (results_cell_row rfl _ _ b9 26 #[.slice l6 a9.length l7,.slice (some ⟨g9,0,none⟩) b6.length m8] (0,0) _ rfl (by refine Zrb ?_;refine blk_put (cs:= #[.slice l6 a9.length l7,.slice none 0 0]) ?_ 1 _ rfl;refine Zrb ?_;refine blk_put (cs:= #[.slice none 0 0,.slice none 0 0]) ?_ 0 _ rfl;refine Zrb ?_;exact a4.out) Try.underlying26 rfl (by kernel_rfl)) rfl ?_
  exact⟨_,_,Ze,Zrr (Zfm a8 a4 (.slice l6 a9.length l7) (.slice (some ⟨g9,0,none⟩) b6.length m8) (fun _ hk=>hk.1.2.1)),Kd.Q_of_R (Zrr (Zfm a7 a4 (.slice l6 a9.length l7) (.slice (some ⟨g9,0,none⟩) b6.length m8) (fun _ hk=>hk.1.2.1))),Zis b8,Zlb HB,Zke HK⟩
 ·
  rw[if_neg c5]at H;have aK:(l9 == 0)=false:=beq_eq_false_iff_ne.mpr c5;have aM:(l9 != 0)=true:=bne_iff_ne.mpr c5
  by_cases J4:l9=1
  ·
   rw[if_pos J4]at H;have M4:(l9 == 1)=true:=beq_iff_eq.mpr J4;have M5:(l9 != 1)=false:=bne_eq_false_iff_eq.mpr J4;clear J4;generalize H7:([(-1),0,(a9.length:Int)]:List Int)=z7 at H;have H8:=Aside0.mk H7.symm;clear H7
   replace H:=Zb0 H;obtain⟨⟨z8,M6,M7⟩,eP,H⟩:=H;(try dsimp only at H)
   replace H:=Zif H;obtain⟨cX,H⟩:=H;have cY:=decide_eq_true cX;have cZ:decide (0<a9.length)=true:=decide_eq_true (by omega);clear cX;generalize H9:(a9.set (0:Int).toNat z8)=bE at H;have M8:=Aside0.mk H9.symm;clear H9
   obtain⟨rfl,rfl,rfl,rfl⟩:=Zs4 H;clear H
   go_enter Try.func46,Try.ntmps46
   try go_wp2_with (first|((with_reducible refine gate_dst (N:=2) rfl ?_);refine Zbe 2 #[.slice none 0 0,.slice none 0 0] 26 ?_;intro b9 hg fW hbox hb;replace HB:=Zm (below_step (Zlb HB) hb);have a4:=Zm (hbox);have C2:=Zm ((by rw[hg];exact(keep_size (w:=w) (g:=g) (row:=none) (Zke HK)):w.heap.size≤b9));have p8:=Zm ((Nat.le_trans G6.out (by rw[hg];exact(keep_size (w:=w) (g:=g) (row:=none) (Zke HK)):w.heap.size≤b9):w0.heap.size≤b9));replace HK:=Zm (KeepBut.trans (Zke HK) (KeepBut.of_below hb g none) (.inl rfl));have m6:=Zm ((by rw[hg];exact Nat.ne_of_lt (IsS61.lt (show IsS61 w0 _ g b7 n4 n5 from Zis b8)):g≠b9));have d4:=Zm ((by rw[hg];exact Nat.ne_of_gt (IsS61.lt (show IsS61 w0 _ g b7 n4 n5 from Zis b8)):b9≠g));replace b8:=Zm (IsS61.below (Zis b8) hb);clear hb hbox hg)|((with_reducible refine gate_callee (f:=67) rfl ?_);refine Ga (some 7) Try.func67 #[.pointer (some ⟨g,0,none⟩),.int .i64 20] (h:= ?_);(with_reducible refine(spec_l1Cur_surePole.calls k g b7 n4 n5 20 n9 d3 i8 i9 w0 _ ?d5 ?d6 A2.out).mono ?_);(case d5=>exact Zis b8);(case d6=>exact Zlb HB);rintro e fX ⟨G7,rfl,n6,hi,hb,hk⟩;refine⟨_,rfl, ?_⟩;replace a4:=Zm (KeepBut.blk hk (g':=b9) (o:= .cells #[.slice none 0 0,.slice none 0 0] 26 (0,0)) (Zb a4) d4.out (by simp));have a6:=Zm (Kd.R_lower n6 (keep_size (w:=w) (g:=g) (row:=none) (Zke HK)));replace HK:=Zm (KeepBut.trans (Zke HK) hk (.inl rfl));replace HB:=Zm (hb);replace b8:=Zm (hi);obtain⟨D5,D6,bF⟩:=Kd.R_slice a6.out;subst bF)|((with_reducible refine gate_callee (f:=66) rfl ?_);refine Ga (some 8) Try.func66 #[.agg #[.int .i64 n9,.slice D5 d3.length D6]] (h:= ?_);(with_reducible refine(spec_poResult.calls k n9 _ _ d3 a9 b6 _ ?d5 ?d6 A3.out).mono ?_);(case d5=>exact Zca (Kd.R_reads' a6.out).2.2);(case d6=>exact(Kd.R_reads' a6.out).2.1);rintro e fY ⟨G8,G9,rfl,n6,C3,hb⟩;refine⟨_,rfl, ?_⟩;have a8:=Zm (Kd.R_lower (Zv n6 a6) (keep_size (w:=w) (g:=g) (row:=none) (Zke HK)));have a7:=Zm (Kd.R_lower (Zv C3 a6) (keep_size (w:=w) (g:=g) (row:=none) (Zke HK)));replace a6:=Zu a6 hb n6 C3;replace a4:=Zk a4 hb;replace HK:=Zm (KeepBut.trans (Zke HK) (KeepBut.of_below hb g none) (.inl rfl));replace HB:=Zm (below_step (Zlb HB) hb);replace b8:=Zm (IsS61.below (Zis b8) hb))|((with_reducible refine gate_dst (N:=3) rfl ?_);refine Zbe 3 #[.slice none 0 0,.slice none 0 0] 26 ?_;intro c9 hg fZ hbox hb;replace a6:=Zo a6 hb;replace a8:=Zo a8 hb;replace a7:=Zo a7 hb;replace HB:=Zm (below_step (Zlb HB) hb);have a5:=Zm (hbox);have C4:=Zm ((by rw[hg];exact(keep_size (w:=w) (g:=g) (row:=none) (Zke HK)):w.heap.size≤c9));have p9:=Zm ((Nat.le_trans G6.out (by rw[hg];exact(keep_size (w:=w) (g:=g) (row:=none) (Zke HK)):w.heap.size≤c9):w0.heap.size≤c9));replace HK:=Zm (KeepBut.trans (Zke HK) (KeepBut.of_below hb g none) (.inl rfl));have e9:=Zq hg a4;have g8:=Zp hg a4;replace a4:=Zk a4 hb;have m7:=Zm ((by rw[hg];exact Nat.ne_of_lt (IsS61.lt (show IsS61 w0 _ g b7 i8 i9 from Zis b8)):g≠c9));have d9:=Zm ((by rw[hg];exact Nat.ne_of_gt (IsS61.lt (show IsS61 w0 _ g b7 i8 i9 from Zis b8)):c9≠g));replace b8:=Zm (IsS61.below (Zis b8) hb);clear hb hbox hg;obtain⟨H1,o5,bG⟩:=Kd.R_slice a8.out;subst bG;have dA:=g8.out;have dB:=e9.out;have dC:=d9.out;have dD:=m7.out;obtain⟨V4,V5,V6,V7⟩:=Z2 a5;obtain⟨p5,p6,bH⟩:=Kd.R_slice a7.out;subst bH)|((with_reducible refine gate_callee (f:=45) rfl ?_);refine Ga (some 10) Try.func45 #[.pointer (some ⟨g,0,none⟩),.int .i64 14] (h:= ?_);(with_reducible refine(spec_l1Cur_pick.calls g b7 i8 i9 14 l9 m4 m5 w0 _ ?d5 ?d6 A4.out).mono ?_);(case d5=>exact Zis b8);(case d6=>exact Zlb HB);rintro e eQ ⟨rfl,hi,hb,hk⟩;refine⟨_,rfl, ?_⟩;replace a4:=Zm (KeepBut.blk hk (g':=b9) (o:= .cells #[.slice none 0 0,.slice none 0 0] 26 (0,0)) (Zbf a4) d4.out (by simp));replace a6:=Zm (Kd.R_mono (Kd.R_keep (IsS61.apart (show IsS61 w0 _ g b7 i8 i9 from Zis b8) (Zy a6 a5) (by decide)) hk (fun _ h=>h.2)) (fun _ h=>h.1));replace a8:=Zm (Kd.R_mono (Kd.R_keep (IsS61.apart (show IsS61 w0 _ g b7 i8 i9 from Zis b8) (Zy a8 a5) (by decide)) hk (fun _ h=>h.2)) (fun _ h=>h.1));replace a7:=Zm (Kd.R_mono (Kd.R_keep (IsS61.apart (show IsS61 w0 _ g b7 i8 i9 from Zis b8) (Zy a7 a5) (by decide)) hk (fun _ h=>h.2)) (fun _ h=>h.1));replace a5:=Zm (KeepBut.blk hk (g':=c9) (o:= .cells #[.slice H1 a9.length o5,.slice p5 b6.length p6] 26 (0,0)) (by refine Zrb ?_;refine blk_put (cs:= #[.slice H1 a9.length o5,.slice none 0 0]) ?_ 1 _ rfl;refine Zrb ?_;refine blk_put (cs:= #[.slice none 0 0,.slice none 0 0]) ?_ 0 _ rfl;refine Zrb ?_;exact a5.out) d9.out (by simp));replace HK:=Zm (KeepBut.trans (Zke HK) hk (.inl rfl));replace HB:=Zm (hb);replace b8:=Zm (hi)))
   replace a6:=Zm (Kd.R_drew a6.out);replace a8:=Zm (Kd.R_drew a8.out);replace a7:=Zm (Kd.R_drew a7.out);replace a4:=Zm (blk_drew a4.out);replace a5:=Zm (blk_drew a5.out);replace b8:=Zm (IsS61.drew b8.out);replace HK:=Zm (keep_drew HK.out);replace HB:=Zm (below_drew1 HB.out)
   refine start_ (n:=10) (S:=fun w'=>w'.cell? ⟨c9,0,none⟩=some (.slice H1 a9.length o5)∧w'.cell? ⟨c9,1,none⟩=some (.slice p5 b6.length p6)) (ds:= [9]) (fl 10 0) (by kernel_rfl) rfl rfl ⟨Zc0 a5 0,Zc0 a5 1⟩ (fun hHeld=> ?_);refine with_tabW spec_l1Cur_turned.tab6 spec_l1Cur_turned.bits6 (fun HT_ HW_=> ?_)
   generalize eQ.drew=gA at a6 a8 a7 a4 a5 b8 HK HB hHeld ⊢;refine Yu 0 29 (fl 10 1) HT_ (h:= ?_);refine Yu 2 31 (fl 10 5) HT_ (h:= ?_);refine Yu 3 32 (fl 10 13) HT_ (h:= ?_);refine Yt 1 30 (fl 10 15) HT_ HW_ hHeld (h:= ?_);refine Yt 4 33 (fl 10 31) HT_ HW_ hHeld (h:= ?_);refine Yu 5 34 (fl 10 63) HT_ (h:= ?_)
   refine one_ (i:=6) (N:=some 35) (fl 10 127) rfl rfl (one_of HT_.out (by kernel_rfl)) (by decide) (fun K hK=> ?_)
   refine Kd.R_lit_step (Kd.int .i64) _ 3 ?hg (N:=35) ?hd (xs:=([(-1),0,(a9.length:Int)]:List Int)) (inner:= [.int .i64 (-1),.int .i64 0,.int .i64 (a9.length:Int)]) (ok:=fun _ =>True) (okp:=fun _ =>True) ?hr ?hp (fun _ hk=>hk) trivial (Below.refl _ _) (Nat.le_refl _) (by simp) ?_;(case hd=>rfl);(case hg=>rfl);(case hr=>first|(go_simp;done)|(go_simp;rfl));(case hp=>exact(Reps.one (show Kd.M (Kd.int .i64) _ _ _ (-1) [.int .i64 (-1)]from rfl) (Reps.one (show Kd.M (Kd.int .i64) _ _ _ 0 [.int .i64 0]from rfl) (Reps.one (show Kd.M (Kd.int .i64) _ _ _ (a9.length:Int) [.int .i64 (a9.length:Int)]from rfl) (Reps.none _ _)))))
   intro eR gB s7 hb hg_ hnew_
   clear hg_ hnew_
   (first|rw[←H8.out]at s7|(simp only[Int.reduceToNat]at s7;rw[←H8.out]at s7))
   have o4:=Zm (Kd.R_lower (Zv (Zv (Zv s7 a6) a8) a7) (keep_size (w:=w) (g:=g) (row:=none) (Zke HK)));replace a6:=Zm (Kd.R_elder' (Zr a6) (Kd.R_base s7) hb);replace a8:=Zm (Kd.R_elder' (Zr a8) (Kd.R_base s7) hb);replace a7:=Zm (Kd.R_elder' (Zr a7) (Kd.R_base s7) hb);replace a4:=Zk a4 hb;replace a5:=Zk a5 hb;replace HK:=Zm (KeepBut.trans (Zke HK) (KeepBut.of_below hb g none) (.inl rfl));replace HB:=Zm (below_step (Zlb HB) hb);replace b8:=Zm (IsS61.below (Zis b8) hb);clear hb s7;obtain⟨D7,D8,M9⟩:=Kd.R_slice o4.out
   (first|subst M9|(injection M9 with o9 z4 p3;have z5:=o9.symm;have z6:=p3.symm;clear o9 z4 p3;subst z5;subst z6))
   refine hK.out _ _ ⟨Zc0 a5 0,Zc0 a5 1⟩ (fun hHeld=> ?_)
   clear hK K;refine Yn 35 (h:= ?_)
   refine one_ (i:=7) (N:=some 36) (fl 10 255) rfl rfl (one_of HT_.out (by kernel_rfl)) (by decide) (fun K hK=> ?_)
   refine goes_ Try.func53 (by kernel_rfl) rfl #[.pointer (some ⟨g,0,none⟩),.slice D7 z7.length D8] (by rfl) rfl rfl (by(try simp only[List.map_toArray,List.map_cons,List.map_nil]);first|done|rfl) ?_
   with_reducible refine(spec_l1Cur_among.calls g b7 m4 m5 _ _ z7 z8 M6 M7 w0 _ ?d5 ?d6 ?r8 ?r9 ?s6 eP.out).mono ?_
   (case d5=>exact Zis b8)
   (case d6=>exact Zlb HB)
   (case r8=>exact Zca (Kd.R_reads' o4.out).2.2)
   (case r9=>exact(Kd.R_reads' o4.out).2.1)
   (case s6=>exact far_slice (IsS61.own_ne b8.out o4.out (by decide)))
   rintro e eS ⟨rfl,hi,hb,hk⟩
   refine⟨_,rfl, ?_⟩
   replace a4:=Zm (KeepBut.blk hk (g':=b9) (o:= .cells #[.slice none 0 0,.slice none 0 0] 26 (0,0)) (Zb a4) d4.out (by simp));replace a6:=Zm (Kd.R_mono (Kd.R_keep (IsS61.apart (show IsS61 w0 _ g b7 m4 m5 from Zis b8) (Zr a6) (by decide)) hk (fun _ h=>h.2)) (fun _ h=>h.1));replace a8:=Zm (Kd.R_mono (Kd.R_keep (IsS61.apart (show IsS61 w0 _ g b7 m4 m5 from Zis b8) (Zr a8) (by decide)) hk (fun _ h=>h.2)) (fun _ h=>h.1));replace a7:=Zm (Kd.R_mono (Kd.R_keep (IsS61.apart (show IsS61 w0 _ g b7 m4 m5 from Zis b8) (Zr a7) (by decide)) hk (fun _ h=>h.2)) (fun _ h=>h.1));replace a5:=Zm (KeepBut.blk hk (g':=c9) (o:= .cells #[.slice H1 a9.length o5,.slice p5 b6.length p6] 26 (0,0)) (Zb a5) d9.out (by simp));replace o4:=Zm (Kd.R_mono (Kd.R_keep (IsS61.apart (show IsS61 w0 _ g b7 m4 m5 from Zis b8) (Zr o4) (by decide)) hk (fun _ h=>h.2)) (fun _ h=>h.1));replace HK:=Zm (KeepBut.trans (Zke HK) hk (.inl rfl));replace HB:=Zm (hb);replace b8:=Zm (hi)
   have bI:0≤(0:Int):=(by omega);have bJ:(0:Int)<((a9.length:Int):Int):=Zoa;have eT:(0<a9.length)=True:=eq_true (by omega)
   obtain⟨n7,eU,N0,N1,bK,eV,N2⟩:=Kd.R_form a8.out (by omega)
   (first|cases N0|(injection N0 with ea_ en_ ec_;(first|subst ea_|(injection ea_ with ea_;subst ea_));subst ec_;clear en_))
   have bL:=Aside0.mk N1;have eW:=Aside0.mk N2;clear N1 bK N2
   obtain⟨D9,E0⟩:=Kd.R_celln 0 a8.out (0:Int) bI bJ
   (try rw[show((0:Int)).toNat=0 from rfl]at D9)
   (try simp only[Nat.reduceMul,Nat.zero_mul,Nat.zero_add,Nat.reduceAdd]at D9)
   (try rw[show((0:Int)).toNat=0 from rfl]at E0)
   (try simp only[Nat.reduceMul,Nat.zero_mul,Nat.zero_add,Nat.reduceAdd]at E0)
   replace bI:=eq_true bI
   replace bJ:=eq_true bJ
   have N3:=Zm (show g≠n7 from by have h_:=IsS61.own_ne b8.out a8.out (by decide);intro e_;exact h_ (by rw[e_];rfl));have J5:=Kd.R_putn a8.out (0:Int) z8
   rw[←M8.out]at J5
   have bM:=Aside0.mk J5;clear J5
   refine hK.out _ _ ⟨Zc0 a5 0,Zc0 a5 1⟩ (fun hHeld=> ?_)
   clear hK K;refine Yn 36 (h:= ?_);refine Yu 8 37 (fl 10 511) HT_ (h:= ?_)
   refine last_ (i:=9) (N:=none) (fl 10 1023) rfl rfl (one_of HT_.out (by kernel_rfl)) (by decide) (fun K hK=> ?_)
   refine skip_ (w1:= ?_) (by rfl) rfl ?_ ?_
   rotate_left
   ·
    go_simp
    rfl
   refine hK.out _ _ ?_
   clear hK K
   refine done_ (done_of HT_.out (by kernel_rfl)) ?_
   generalize hW_:(eS.setCell ⟨n7,0,none⟩ (.int .i64 z8))=J6;replace a6:Aside0 (Kd.R (Kd.int .i64) 3 J6 w.heap.size (fun k_=>some k_≠(.slice (some ⟨n7,0,none⟩) a9.length o5:Value).ownBlock∧Zn k_ (.slice p5 b6.length p6)∧some k_≠(.slice D7 z7.length D8:Value).ownBlock) (.slice D5 d3.length D6) d3):=⟨by rw[←hW_];(with_reducible repeat(first|apply Kd.R_alloc|apply Kd.R_drewN|apply Kd.R_drew));exact Kd.R_mono (Kd.R_far (p:=⟨n7,0,none⟩) (Kd.R_mono a6.out (fun k_ hk=>(⟨hk,fun e_=>hk.1.1.2 (by rw[e_];rfl)⟩: _ ∧k_≠n7))) (fun _ hk=>hk.2) (.int .i64 z8)) (fun _ hk=>⟨hk.1.1.1.2,⟨hk.1.1.2,hk.1.2⟩⟩)⟩;replace a7:Aside0 (Kd.R (Kd.int .i64) 3 J6 w.heap.size (fun k_=>Zn k_ (.slice D5 d3.length D6)∧some k_≠(.slice (some ⟨n7,0,none⟩) a9.length o5:Value).ownBlock∧some k_≠(.slice D7 z7.length D8:Value).ownBlock) (.slice p5 b6.length p6) b6):=⟨by rw[←hW_];(with_reducible repeat(first|apply Kd.R_alloc|apply Kd.R_drewN|apply Kd.R_drew));exact Kd.R_mono (Kd.R_far (p:=⟨n7,0,none⟩) (Kd.R_mono a7.out (fun k_ hk=>(⟨hk,fun e_=>hk.1.1 (by rw[e_];rfl)⟩: _ ∧k_≠n7))) (fun _ hk=>hk.2) (.int .i64 z8)) (fun _ hk=>⟨hk.1.1.2,⟨hk.1.1.1,hk.1.2⟩⟩)⟩;replace o4:Aside0 (Kd.R (Kd.int .i64) 3 J6 w.heap.size (fun k_=>Zn k_ (.slice D5 d3.length D6)∧some k_≠(.slice (some ⟨n7,0,none⟩) a9.length o5:Value).ownBlock∧Zn k_ (.slice p5 b6.length p6)) (.slice D7 z7.length D8) z7):=⟨by rw[←hW_];(with_reducible repeat(first|apply Kd.R_alloc|apply Kd.R_drewN|apply Kd.R_drew));exact Kd.R_mono (Kd.R_far (p:=⟨n7,0,none⟩) (Kd.R_mono o4.out (fun k_ hk=>(⟨hk,fun e_=>hk.1.2 (by rw[e_];rfl)⟩: _ ∧k_≠n7))) (fun _ hk=>hk.2) (.int .i64 z8)) (fun _ hk=>⟨hk.1.1.1.2,⟨hk.1.1.2,hk.1.2⟩⟩)⟩;replace a4:=Zwb hW_ a4 a8;replace a5:=Zwb hW_ a5 a8;replace a8:Aside0 (Kd.R (Kd.int .i64) 3 J6 w.heap.size (fun k_=>Zn k_ (.slice D5 d3.length D6)∧Zn k_ (.slice p5 b6.length p6)∧some k_≠(.slice D7 z7.length D8:Value).ownBlock) (.slice (some ⟨n7,0,none⟩) a9.length o5) bE):=⟨by rw[←hW_];exact Zc bM⟩;replace HK:Aside0 (KeepBut w J6 g none):=⟨by rw[←hW_];exact Zke HK⟩;replace HB:Aside0 (Below w0.heap.size w0 J6):=⟨by rw[←hW_];repeat(first|(with_reducible first|exact HB.out|apply below_alloc|apply pw_below_drewN|apply below_drew1|refine below_set ?_ (Nat.le_trans HL.out bL.out)|refine below_set ?_ (IsS61.ge b8.out)|refine below_set ?_ p8.out|refine below_set ?_ p9.out)|exact HB.out)⟩;replace b8:Aside0 (IsS61 w0 J6 g b7 M6 M7):=⟨by rw[←hW_];exact Zis b8⟩;clear hW_;obtain⟨V8,V9,W0,W3⟩:=Z2 a5;have dE:=d4.out;have dF:=m6.out;obtain⟨W4,W5,W6,W7⟩:=Z2 a4
   try go_wp2
   refine bodyPost_ret (results_cell_row rfl _ _ b9 26 #[.slice (some ⟨n7,0,none⟩) a9.length o5,.slice p5 b6.length p6] (0,0) _ rfl (by refine Zrb ?_;refine blk_put (cs:= #[.slice (some ⟨n7,0,none⟩) a9.length o5,.slice none 0 0]) ?_ 1 _ rfl;refine Zrb ?_;refine blk_put (cs:= #[.slice none 0 0,.slice none 0 0]) ?_ 0 _ rfl;refine Zrb ?_;exact a4.out) Try.underlying26 rfl (by kernel_rfl)) rfl ?_
   exact⟨_,_,Ze,Zrr (Zfm a8 a4 (.slice (some ⟨n7,0,none⟩) a9.length o5) (.slice p5 b6.length p6) (fun _ hk=>hk.1.2.1)),Kd.Q_of_R (Zrr (Zfm a7 a4 (.slice (some ⟨n7,0,none⟩) a9.length o5) (.slice p5 b6.length p6) (fun _ hk=>hk.1.2.1))),Zis b8,Zlb HB,Zke HK⟩
  ·
   rw[if_neg J4]at H;have M4:(l9 == 1)=false:=beq_eq_false_iff_ne.mpr J4;have M5:(l9 != 1)=true:=bne_iff_ne.mpr J4
   by_cases J7:l9=2
   ·
    rw[if_pos J7]at H;have N4:(l9 == 2)=true:=beq_iff_eq.mpr J7;have N5:(l9 != 2)=false:=bne_eq_false_iff_eq.mpr J7;clear J7
    replace H:=Zif H;obtain⟨bN,H⟩:=H;have dG:=eq_true bN;have dH:decide (1≤(b6.length:Int))=true:=decide_eq_true bN;clear bN;generalize I0:(b6.drop (1:Int).toNat)=p4 at H;have I1:=Aside0.mk I0.symm;clear I0
    obtain⟨rfl,rfl,rfl,rfl⟩:=Zs4 H;clear H
    go_enter Try.func46,Try.ntmps46
    go_wp2_with (first|((with_reducible refine gate_dst (N:=2) rfl ?_);refine Zbe 2 #[.slice none 0 0,.slice none 0 0] 26 ?_;intro b9 hg gC hbox hb;replace HB:=Zm (below_step (Zlb HB) hb);have a4:=Zm (hbox);have C2:=Zm ((by rw[hg];exact(keep_size (w:=w) (g:=g) (row:=none) (Zke HK)):w.heap.size≤b9));have p8:=Zm ((Nat.le_trans G6.out (by rw[hg];exact(keep_size (w:=w) (g:=g) (row:=none) (Zke HK)):w.heap.size≤b9):w0.heap.size≤b9));replace HK:=Zm (KeepBut.trans (Zke HK) (KeepBut.of_below hb g none) (.inl rfl));have m6:=Zm ((by rw[hg];exact Nat.ne_of_lt (IsS61.lt (show IsS61 w0 _ g b7 n4 n5 from Zis b8)):g≠b9));have d4:=Zm ((by rw[hg];exact Nat.ne_of_gt (IsS61.lt (show IsS61 w0 _ g b7 n4 n5 from Zis b8)):b9≠g));replace b8:=Zm (IsS61.below (Zis b8) hb);clear hb hbox hg)|((with_reducible refine gate_callee (f:=67) rfl ?_);refine Ga (some 7) Try.func67 #[.pointer (some ⟨g,0,none⟩),.int .i64 20] (h:= ?_);(with_reducible refine(spec_l1Cur_surePole.calls k g b7 n4 n5 20 n9 d3 i8 i9 w0 _ ?d5 ?d6 A2.out).mono ?_);(case d5=>exact Zis b8);(case d6=>exact Zlb HB);rintro e gD ⟨G7,rfl,n6,hi,hb,hk⟩;refine⟨_,rfl, ?_⟩;replace a4:=Zm (KeepBut.blk hk (g':=b9) (o:= .cells #[.slice none 0 0,.slice none 0 0] 26 (0,0)) (Zb a4) d4.out (by simp));have a6:=Zm (Kd.R_lower n6 (keep_size (w:=w) (g:=g) (row:=none) (Zke HK)));replace HK:=Zm (KeepBut.trans (Zke HK) hk (.inl rfl));replace HB:=Zm (hb);replace b8:=Zm (hi);obtain⟨J8,J9,bO⟩:=Kd.R_slice a6.out;subst bO)|((with_reducible refine gate_callee (f:=66) rfl ?_);refine Ga (some 8) Try.func66 #[.agg #[.int .i64 n9,.slice J8 d3.length J9]] (h:= ?_);(with_reducible refine(spec_poResult.calls k n9 _ _ d3 a9 b6 _ ?d5 ?d6 A3.out).mono ?_);(case d5=>exact Zca (Kd.R_reads' a6.out).2.2);(case d6=>exact(Kd.R_reads' a6.out).2.1);rintro e gE ⟨G8,G9,rfl,n6,C3,hb⟩;refine⟨_,rfl, ?_⟩;have a8:=Zm (Kd.R_lower (Zv n6 a6) (keep_size (w:=w) (g:=g) (row:=none) (Zke HK)));have a7:=Zm (Kd.R_lower (Zv C3 a6) (keep_size (w:=w) (g:=g) (row:=none) (Zke HK)));replace a6:=Zu a6 hb n6 C3;replace a4:=Zk a4 hb;replace HK:=Zm (KeepBut.trans (Zke HK) (KeepBut.of_below hb g none) (.inl rfl));replace HB:=Zm (below_step (Zlb HB) hb);replace b8:=Zm (IsS61.below (Zis b8) hb))|((with_reducible refine gate_dst (N:=3) rfl ?_);refine Zbe 3 #[.slice none 0 0,.slice none 0 0] 26 ?_;intro c9 hg gF hbox hb;replace a6:=Zo a6 hb;replace a8:=Zo a8 hb;replace a7:=Zo a7 hb;replace HB:=Zm (below_step (Zlb HB) hb);have a5:=Zm (hbox);have C4:=Zm ((by rw[hg];exact(keep_size (w:=w) (g:=g) (row:=none) (Zke HK)):w.heap.size≤c9));have p9:=Zm ((Nat.le_trans G6.out (by rw[hg];exact(keep_size (w:=w) (g:=g) (row:=none) (Zke HK)):w.heap.size≤c9):w0.heap.size≤c9));replace HK:=Zm (KeepBut.trans (Zke HK) (KeepBut.of_below hb g none) (.inl rfl));have e9:=Zq hg a4;have g8:=Zp hg a4;replace a4:=Zk a4 hb;have m7:=Zm ((by rw[hg];exact Nat.ne_of_lt (IsS61.lt (show IsS61 w0 _ g b7 i8 i9 from Zis b8)):g≠c9));have d9:=Zm ((by rw[hg];exact Nat.ne_of_gt (IsS61.lt (show IsS61 w0 _ g b7 i8 i9 from Zis b8)):c9≠g));replace b8:=Zm (IsS61.below (Zis b8) hb);clear hb hbox hg;obtain⟨s9,t0,bP⟩:=Kd.R_slice a8.out;subst bP;have dI:=g8.out;have dJ:=e9.out;have dK:=d9.out;have dL:=m7.out;obtain⟨W8,W9,X0,X1⟩:=Z2 a5;obtain⟨C8,E6,bQ⟩:=Kd.R_slice a7.out;subst bQ)|((with_reducible refine gate_callee (f:=45) rfl ?_);refine Ga (some 10) Try.func45 #[.pointer (some ⟨g,0,none⟩),.int .i64 14] (h:= ?_);(with_reducible refine(spec_l1Cur_pick.calls g b7 i8 i9 14 l9 m4 m5 w0 _ ?d5 ?d6 A4.out).mono ?_);(case d5=>exact Zis b8);(case d6=>exact Zlb HB);rintro e eX ⟨rfl,hi,hb,hk⟩;refine⟨_,rfl, ?_⟩;replace a4:=Zm (KeepBut.blk hk (g':=b9) (o:= .cells #[.slice none 0 0,.slice none 0 0] 26 (0,0)) (Zbf a4) d4.out (by simp));replace a6:=Zm (Kd.R_mono (Kd.R_keep (IsS61.apart (show IsS61 w0 _ g b7 i8 i9 from Zis b8) (Zy a6 a5) (by decide)) hk (fun _ h=>h.2)) (fun _ h=>h.1));replace a8:=Zm (Kd.R_mono (Kd.R_keep (IsS61.apart (show IsS61 w0 _ g b7 i8 i9 from Zis b8) (Zy a8 a5) (by decide)) hk (fun _ h=>h.2)) (fun _ h=>h.1));replace a7:=Zm (Kd.R_mono (Kd.R_keep (IsS61.apart (show IsS61 w0 _ g b7 i8 i9 from Zis b8) (Zy a7 a5) (by decide)) hk (fun _ h=>h.2)) (fun _ h=>h.1));replace a5:=Zm (KeepBut.blk hk (g':=c9) (o:= .cells #[.slice s9 a9.length t0,.slice C8 b6.length E6] 26 (0,0)) (by refine Zrb ?_;refine blk_put (cs:= #[.slice s9 a9.length t0,.slice none 0 0]) ?_ 1 _ rfl;refine Zrb ?_;refine blk_put (cs:= #[.slice none 0 0,.slice none 0 0]) ?_ 0 _ rfl;refine Zrb ?_;exact a5.out) d9.out (by simp));replace HK:=Zm (KeepBut.trans (Zke HK) hk (.inl rfl));replace HB:=Zm (hb);replace b8:=Zm (hi);obtain⟨X2,X3,X4,X5⟩:=Z2 a5;have bR:(1:Int)≤((b6.length:Int):Int):=Zoa;obtain⟨eY,I2,_,I3,_⟩:=info_parts info3;have K0:=cut_from (P:=Try.prog) 24 3 .i64 Try.underlying24 I2 1 I3 C8 b6.length E6 1 (by omega) bR;have E7:=Kd.Q_drop (k:=(1:Int).toNat) (Kd.Q_of_R a7.out) (by omega);obtain⟨H2,H3⟩: ∃A1,A1=(if E6=(1:Int).toNat then C8 else(C8:Option Addr).map (·.add ((1:Int).toNat*1))):=⟨_,rfl⟩;obtain⟨H4,K1⟩: ∃c1,c1=E6 - (1:Int).toNat:=⟨_,rfl⟩;have K2:p4.length=b6.length - (1:Int).toNat:=(by rw[I1.out,List.length_drop]);rw[←I1.out]at E7;rw[←K2,←H3,←K1]at K0;replace E7:Kd.Q (Kd.int .i64) 3 eX w.heap.size (fun k_=>Zn k_ (.slice s9 a9.length t0)∧Zn k_ (.slice J8 d3.length J9)) (.slice H2 p4.length H4) p4:=(by rw[H3,K1,K2];exact E7);have N6:Aside0 ((Value.slice H2 p4.length H4).ownBlock=(.slice C8 b6.length E6:Value).ownBlock):=⟨by rw[H3];split<;>(cases (C8:Option Addr)<;>rfl)⟩;clear K2 I2 I3 a7 H3 K1;have N7:=Aside0.mk E7;clear E7;replace bR:=eq_true bR;have n_:=Zm (Kd.R_mono (ok':=fun k_=>((True∧Zn k_ (.slice s9 a9.length t0))∧some k_≠(.slice H2 p4.length H4:Value).ownBlock)) a6.out (fun k_ hk=>⟨⟨trivial,hk.1.2⟩,(by rw[N6.out];exact hk.2)⟩));clear a6;have a6:=n_;clear n_;have n_:=Zm (Kd.R_mono (ok':=fun k_=>(some k_≠(.slice H2 p4.length H4:Value).ownBlock∧Zn k_ (.slice J8 d3.length J9))) a8.out (fun k_ hk=>⟨(by rw[N6.out];exact hk.1),hk.2⟩));clear a8;have a8:=n_;clear n_;have dM:=d4.out;have dN:=m6.out;obtain⟨X6,X7,X8,X9⟩:=Z2 a4))
    refine bodyPost_ret (results_cell_row rfl _ _ b9 26 #[.slice s9 a9.length t0,.slice H2 p4.length H4] (0,0) _ rfl (by refine Zrb ?_;refine blk_put (cs:= #[.slice s9 a9.length t0,.slice none 0 0]) ?_ 1 _ rfl;refine Zrb ?_;refine blk_put (cs:= #[.slice none 0 0,.slice none 0 0]) ?_ 0 _ rfl;refine Zrb ?_;refine blk_far ?_ e9.out _;refine Zrb ?_;exact a4.out) Try.underlying26 rfl (by kernel_rfl)) rfl ?_
    exact⟨_,_,Ze,Zrr (Kd.R_mono (Kd.R_far (p:=⟨b9,1,none⟩) (Kd.R_far (p:=⟨b9,0,none⟩) (Kd.R_far (p:=⟨c9,1,none⟩) (Kd.R_types (Kd.R_types a8.out a5.out (by decide)) a4.out (by decide)) (fun _ hk=>hk.1.2) (.slice H2 p4.length H4)) (fun _ hk=>hk.2) (.slice s9 a9.length t0)) (fun _ hk=>hk.2) (.slice H2 p4.length H4)) (fun _ hk=>hk.1.1.1)),Zrq (Kd.Q_mono (Kd.Q_far (p:=⟨b9,1,none⟩) (Kd.Q_far (p:=⟨b9,0,none⟩) (Kd.Q_far (p:=⟨c9,1,none⟩) (Kd.Q_types (Kd.Q_types N7.out a5.out (by decide)) a4.out (by decide)) (fun _ hk=>hk.1.2) (.slice H2 p4.length H4)) (fun _ hk=>hk.2) (.slice s9 a9.length t0)) (fun _ hk=>hk.2) (.slice H2 p4.length H4)) (fun _ hk=>hk.1.1.1)),Zis b8,Zlb HB,Zke HK⟩
   ·
    rw[if_neg J7]at H;have N4:(l9 == 2)=false:=beq_eq_false_iff_ne.mpr J7;have N5:(l9 != 2)=true:=bne_iff_ne.mpr J7
    by_cases K3:l9=3
    ·
     rw[if_pos K3]at H;have N8:(l9 == 3)=true:=beq_iff_eq.mpr K3;have N9:(l9 != 3)=false:=bne_eq_false_iff_eq.mpr K3;clear K3;generalize I4:([20,5,3]:List Int)=k3 at H;have I5:=Aside0.mk I4.symm;clear I4
     replace H:=Zb0 H;obtain⟨⟨z9,o6,o7⟩,eZ,H⟩:=H;(try dsimp only at H);replace H:=Zb0 H;obtain⟨⟨i3,E8,E9⟩,dO,H⟩:=H;(try dsimp only at H)
     replace H:=Zif H;obtain⟨bS,H⟩:=H;have dP:=eq_true bS;have dQ:decide (0≤(a9.length:Int))=true:=decide_eq_true bS;clear bS
     replace H:=Zif H;obtain⟨bT,H⟩:=H;have dR:=eq_true bT;have dS:decide (((a9.length:Int):Int).toNat≤35184372088832)=true:=decide_eq_true bT;clear bT;replace H:=Zgb H;obtain⟨d8,C5,H⟩:=H
     replace H:=Zif H;obtain⟨dT,H⟩:=H;have dU:=decide_eq_true dT;have dV:decide (0<d8.length)=true:=decide_eq_true (by omega);clear dT;generalize I6:(d8.set (0:Int).toNat z9)=O0 at H;have O1:=Aside0.mk I6.symm;clear I6
     replace H:=Zif H;obtain⟨dW,H⟩:=H;have dX:=decide_eq_true dW;have dY:decide (1<d8.length)=true:=decide_eq_true (by omega);clear dW;generalize I7:(O0.set (1:Int).toNat (wrap64 (-z9)))=bU at H;have O2:=Aside0.mk I7.symm;clear I7
     obtain⟨rfl,rfl,rfl,rfl⟩:=Zs4 H;clear H
     go_enter Try.func46,Try.ntmps46
     try go_wp2_with (first|((with_reducible refine gate_dst (N:=2) rfl ?_);refine Zbe 2 #[.slice none 0 0,.slice none 0 0] 26 ?_;intro b9 hg gG hbox hb;replace HB:=Zm (below_step (Zlb HB) hb);have a4:=Zm (hbox);have C2:=Zm ((by rw[hg];exact(keep_size (w:=w) (g:=g) (row:=none) (Zke HK)):w.heap.size≤b9));have p8:=Zm ((Nat.le_trans G6.out (by rw[hg];exact(keep_size (w:=w) (g:=g) (row:=none) (Zke HK)):w.heap.size≤b9):w0.heap.size≤b9));replace HK:=Zm (KeepBut.trans (Zke HK) (KeepBut.of_below hb g none) (.inl rfl));have m6:=Zm ((by rw[hg];exact Nat.ne_of_lt (IsS61.lt (show IsS61 w0 _ g b7 n4 n5 from Zis b8)):g≠b9));have d4:=Zm ((by rw[hg];exact Nat.ne_of_gt (IsS61.lt (show IsS61 w0 _ g b7 n4 n5 from Zis b8)):b9≠g));replace b8:=Zm (IsS61.below (Zis b8) hb);clear hb hbox hg)|((with_reducible refine gate_callee (f:=67) rfl ?_);refine Ga (some 7) Try.func67 #[.pointer (some ⟨g,0,none⟩),.int .i64 20] (h:= ?_);(with_reducible refine(spec_l1Cur_surePole.calls k g b7 n4 n5 20 n9 d3 i8 i9 w0 _ ?d5 ?d6 A2.out).mono ?_);(case d5=>exact Zis b8);(case d6=>exact Zlb HB);rintro e gH ⟨G7,rfl,n6,hi,hb,hk⟩;refine⟨_,rfl, ?_⟩;replace a4:=Zm (KeepBut.blk hk (g':=b9) (o:= .cells #[.slice none 0 0,.slice none 0 0] 26 (0,0)) (Zb a4) d4.out (by simp));have a6:=Zm (Kd.R_lower n6 (keep_size (w:=w) (g:=g) (row:=none) (Zke HK)));replace HK:=Zm (KeepBut.trans (Zke HK) hk (.inl rfl));replace HB:=Zm (hb);replace b8:=Zm (hi);obtain⟨k6,k8,bV⟩:=Kd.R_slice a6.out;subst bV)|((with_reducible refine gate_callee (f:=66) rfl ?_);refine Ga (some 8) Try.func66 #[.agg #[.int .i64 n9,.slice k6 d3.length k8]] (h:= ?_);(with_reducible refine(spec_poResult.calls k n9 _ _ d3 a9 b6 _ ?d5 ?d6 A3.out).mono ?_);(case d5=>exact Zca (Kd.R_reads' a6.out).2.2);(case d6=>exact(Kd.R_reads' a6.out).2.1);rintro e gI ⟨G8,G9,rfl,n6,C3,hb⟩;refine⟨_,rfl, ?_⟩;have a8:=Zm (Kd.R_lower (Zv n6 a6) (keep_size (w:=w) (g:=g) (row:=none) (Zke HK)));have a7:=Zm (Kd.R_lower (Zv C3 a6) (keep_size (w:=w) (g:=g) (row:=none) (Zke HK)));replace a6:=Zu a6 hb n6 C3;replace a4:=Zk a4 hb;replace HK:=Zm (KeepBut.trans (Zke HK) (KeepBut.of_below hb g none) (.inl rfl));replace HB:=Zm (below_step (Zlb HB) hb);replace b8:=Zm (IsS61.below (Zis b8) hb))|((with_reducible refine gate_dst (N:=3) rfl ?_);refine Zbe 3 #[.slice none 0 0,.slice none 0 0] 26 ?_;intro c9 hg gJ hbox hb;replace a6:=Zo a6 hb;replace a8:=Zo a8 hb;replace a7:=Zo a7 hb;replace HB:=Zm (below_step (Zlb HB) hb);have a5:=Zm (hbox);have C4:=Zm ((by rw[hg];exact(keep_size (w:=w) (g:=g) (row:=none) (Zke HK)):w.heap.size≤c9));have p9:=Zm ((Nat.le_trans G6.out (by rw[hg];exact(keep_size (w:=w) (g:=g) (row:=none) (Zke HK)):w.heap.size≤c9):w0.heap.size≤c9));replace HK:=Zm (KeepBut.trans (Zke HK) (KeepBut.of_below hb g none) (.inl rfl));have e9:=Zq hg a4;have g8:=Zp hg a4;replace a4:=Zk a4 hb;have m7:=Zm ((by rw[hg];exact Nat.ne_of_lt (IsS61.lt (show IsS61 w0 _ g b7 i8 i9 from Zis b8)):g≠c9));have d9:=Zm ((by rw[hg];exact Nat.ne_of_gt (IsS61.lt (show IsS61 w0 _ g b7 i8 i9 from Zis b8)):c9≠g));replace b8:=Zm (IsS61.below (Zis b8) hb);clear hb hbox hg;obtain⟨i4,i5,bW⟩:=Kd.R_slice a8.out;subst bW;have dZ:=g8.out;have eA:=e9.out;have eB:=d9.out;have eC:=m7.out;obtain⟨aA,aC,aD,aE⟩:=Z2 a5;obtain⟨i6,i7,bX⟩:=Kd.R_slice a7.out;subst bX)|((with_reducible refine gate_callee (f:=45) rfl ?_);refine Ga (some 10) Try.func45 #[.pointer (some ⟨g,0,none⟩),.int .i64 14] (h:= ?_);(with_reducible refine(spec_l1Cur_pick.calls g b7 i8 i9 14 l9 m4 m5 w0 _ ?d5 ?d6 A4.out).mono ?_);(case d5=>exact Zis b8);(case d6=>exact Zlb HB);rintro e gK ⟨rfl,hi,hb,hk⟩;refine⟨_,rfl, ?_⟩;replace a4:=Zm (KeepBut.blk hk (g':=b9) (o:= .cells #[.slice none 0 0,.slice none 0 0] 26 (0,0)) (Zbf a4) d4.out (by simp));replace a6:=Zm (Kd.R_mono (Kd.R_keep (IsS61.apart (show IsS61 w0 _ g b7 i8 i9 from Zis b8) (Zy a6 a5) (by decide)) hk (fun _ h=>h.2)) (fun _ h=>h.1));replace a8:=Zm (Kd.R_mono (Kd.R_keep (IsS61.apart (show IsS61 w0 _ g b7 i8 i9 from Zis b8) (Zy a8 a5) (by decide)) hk (fun _ h=>h.2)) (fun _ h=>h.1));replace a7:=Zm (Kd.R_mono (Kd.R_keep (IsS61.apart (show IsS61 w0 _ g b7 i8 i9 from Zis b8) (Zy a7 a5) (by decide)) hk (fun _ h=>h.2)) (fun _ h=>h.1));replace a5:=Zm (KeepBut.blk hk (g':=c9) (o:= .cells #[.slice i4 a9.length i5,.slice i6 b6.length i7] 26 (0,0)) (by refine Zrb ?_;refine blk_put (cs:= #[.slice i4 a9.length i5,.slice none 0 0]) ?_ 1 _ rfl;refine Zrb ?_;refine blk_put (cs:= #[.slice none 0 0,.slice none 0 0]) ?_ 0 _ rfl;refine Zrb ?_;exact a5.out) d9.out (by simp));replace HK:=Zm (KeepBut.trans (Zke HK) hk (.inl rfl));replace HB:=Zm (hb);replace b8:=Zm (hi))|((with_reducible refine gate_dst (N:=47) rfl ?_);refine Kd.R_lit (Kd.int .i64) _ 3 ?hg (N:=47) ?hd (xs:=([20,5,3]:List Int)) (inner:= [.int .i64 20,.int .i64 5,.int .i64 3]) (ok:=fun _ =>True) (okp:=fun _ =>True) ?hr ?hp (fun _ hk=>hk) trivial (Below.refl _ _) (Nat.le_refl _) (by simp) ?_;(case hd=>rfl);(case hg=>rfl);(case hr=>first|(go_simp;done)|(go_simp;rfl));(case hp=>exact(Reps.one (show Kd.M (Kd.int .i64) _ _ _ 20 [.int .i64 20]from rfl) (Reps.one (show Kd.M (Kd.int .i64) _ _ _ 5 [.int .i64 5]from rfl) (Reps.one (show Kd.M (Kd.int .i64) _ _ _ 3 [.int .i64 3]from rfl) (Reps.none _ _)))));intro fA gL t8 hb hg_ hnew_;clear hg_ hnew_;(first|rw[←I5.out]at t8|(simp only[Int.reduceToNat]at t8;rw[←I5.out]at t8));have e6:=Zm (Kd.R_lower (Zv (Zv (Zv t8 a6) a8) a7) (keep_size (w:=w) (g:=g) (row:=none) (Zke HK)));replace a6:=Zm (Kd.R_elder' (Zr a6) (Kd.R_base t8) hb);replace a8:=Zm (Kd.R_elder' (Zr a8) (Kd.R_base t8) hb);replace a7:=Zm (Kd.R_elder' (Zr a7) (Kd.R_base t8) hb);replace a4:=Zk a4 hb;replace a5:=Zk a5 hb;replace HK:=Zm (KeepBut.trans (Zke HK) (KeepBut.of_below hb g none) (.inl rfl));replace HB:=Zm (below_step (Zlb HB) hb);replace b8:=Zm (IsS61.below (Zis b8) hb);clear hb t8;obtain⟨k9,l3,bY⟩:=Kd.R_slice e6.out;subst bY)|((with_reducible refine gate_callee (f:=53) rfl ?_);refine Ga (some 48) Try.func53 #[.pointer (some ⟨g,0,none⟩),.slice k9 k3.length l3] (h:= ?_);(with_reducible refine(spec_l1Cur_among.calls g b7 m4 m5 _ _ k3 z9 o6 o7 w0 _ ?d5 ?d6 ?r8 ?r9 ?s6 eZ.out).mono ?_);(case d5=>exact Zis b8);(case d6=>exact Zlb HB);(case r8=>exact Zca (Kd.R_reads' e6.out).2.2);(case r9=>exact(Kd.R_reads' e6.out).2.1);(case s6=>exact far_slice (IsS61.own_ne b8.out e6.out (by decide)));rintro e fB ⟨rfl,hi,hb,hk⟩;refine⟨_,rfl, ?_⟩;replace a4:=Zm (KeepBut.blk hk (g':=b9) (o:= .cells #[.slice none 0 0,.slice none 0 0] 26 (0,0)) (Zb a4) d4.out (by simp));replace a6:=Zm (Kd.R_mono (Kd.R_keep (IsS61.apart (show IsS61 w0 _ g b7 m4 m5 from Zis b8) (Zr a6) (by decide)) hk (fun _ h=>h.2)) (fun _ h=>h.1));replace a8:=Zm (Kd.R_mono (Kd.R_keep (IsS61.apart (show IsS61 w0 _ g b7 m4 m5 from Zis b8) (Zr a8) (by decide)) hk (fun _ h=>h.2)) (fun _ h=>h.1));replace a7:=Zm (Kd.R_mono (Kd.R_keep (IsS61.apart (show IsS61 w0 _ g b7 m4 m5 from Zis b8) (Zr a7) (by decide)) hk (fun _ h=>h.2)) (fun _ h=>h.1));replace a5:=Zm (KeepBut.blk hk (g':=c9) (o:= .cells #[.slice i4 a9.length i5,.slice i6 b6.length i7] 26 (0,0)) (Zb a5) d9.out (by simp));replace e6:=Zm (Kd.R_mono (Kd.R_keep (IsS61.apart (show IsS61 w0 _ g b7 m4 m5 from Zis b8) (Zr e6) (by decide)) hk (fun _ h=>h.2)) (fun _ h=>h.1));replace HK:=Zm (KeepBut.trans (Zke HK) hk (.inl rfl));replace HB:=Zm (hb);replace b8:=Zm (hi);obtain⟨O3,O4,O5,O6⟩:=Z2 a5))
     replace a6:=Zm (Kd.R_drew a6.out);replace a8:=Zm (Kd.R_drew a8.out);replace a7:=Zm (Kd.R_drew a7.out);replace e6:=Zm (Kd.R_drew e6.out);replace a4:=Zm (blk_drew a4.out);replace a5:=Zm (blk_drew a5.out);replace b8:=Zm (IsS61.drew b8.out);replace HK:=Zm (keep_drew HK.out);replace HB:=Zm (below_drew1 HB.out)
     refine start_ (n:=7) (S:=fun w'=>True) (ds:= []) (fl 7 0) (by kernel_rfl) rfl rfl trivial (fun hHeld=> ?_)
     generalize fB.drew=fC at a6 a8 a7 e6 a4 a5 b8 HK HB hHeld ⊢
     refine pure_ (i:=0) (N:=some 52) (v:= ?_) (a':= ?_) (fl 7 1) rfl rfl (by kernel_rfl) (fun _ _ _ h=>h) (Or.inl ⟨by rfl, ?_⟩) ?_ ?_
     rotate_left
     ·
      intro w'
      go_simp
      with_reducible rfl
     rotate_left
     ·
      simp only[Act.put,List.setIfInBounds_toArray,List.set_cons_zero,List.set_cons_succ,i64_w,i32_w]
      rfl
     refine pure_ (i:=1) (N:=some 53) (v:= ?_) (a':= ?_) (fl 7 3) rfl rfl (by kernel_rfl) (fun _ _ _ h=>h) (Or.inl ⟨by rfl, ?_⟩) ?_ ?_
     rotate_left
     ·
      intro w'
      go_simp
      with_reducible rfl
     rotate_left
     ·
      simp only[Act.put,List.setIfInBounds_toArray,List.set_cons_zero,List.set_cons_succ,i64_w,i32_w]
      rfl
     refine pure_ (i:=3) (N:=some 55) (v:= ?_) (a':= ?_) (fl 7 11) rfl rfl (by kernel_rfl) (fun _ _ _ h=>h) (Or.inl ⟨by rfl, ?_⟩) ?_ ?_
     rotate_left
     ·
      intro w'
      go_simp
      with_reducible rfl
     rotate_left
     ·
      simp only[Act.put,List.setIfInBounds_toArray,List.set_cons_zero,List.set_cons_succ,i64_w,i32_w]
      rfl
     refine join_ (σ:=Value × Value) 2 (fl 7 31) (fun s_=> [(54,s_.1),(56,s_.2)]) (fun s_ w'=>(Kd.R (Kd.int .i64) 3 w' w.heap.size (fun k_=>Zn k_ (.slice i4 a9.length i5)∧Zn k_ (.slice i6 b6.length i7)∧some k_≠(.slice k9 k3.length l3:Value).ownBlock∧Zn k_ s_.1∧Zn k_ s_.2) (.slice k6 d3.length k8) d3)∧(Kd.R (Kd.int .i64) 3 w' w.heap.size (fun k_=>Zn k_ (.slice k6 d3.length k8)∧Zn k_ (.slice i6 b6.length i7)∧some k_≠(.slice k9 k3.length l3:Value).ownBlock∧Zn k_ s_.1∧Zn k_ s_.2) (.slice i4 a9.length i5) a9)∧(Kd.R (Kd.int .i64) 3 w' w.heap.size (fun k_=>Zn k_ (.slice k6 d3.length k8)∧Zn k_ (.slice i4 a9.length i5)∧some k_≠(.slice k9 k3.length l3:Value).ownBlock∧Zn k_ s_.1∧Zn k_ s_.2) (.slice i6 b6.length i7) b6)∧(Kd.R (Kd.int .i64) 3 w' w.heap.size (fun k_=>Zn k_ (.slice k6 d3.length k8)∧Zn k_ (.slice i4 a9.length i5)∧Zn k_ (.slice i6 b6.length i7)∧Zn k_ s_.1∧Zn k_ s_.2) (.slice k9 k3.length l3) k3)∧(Kd.R (Kd.int .i64) 3 w' w.heap.size (fun k_=>Zn k_ (.slice k6 d3.length k8)∧Zn k_ (.slice i4 a9.length i5)∧Zn k_ (.slice i6 b6.length i7)∧some k_≠(.slice k9 k3.length l3:Value).ownBlock∧Zn k_ s_.2) s_.1 i3)∧(Kd.R (Kd.int .i64) 3 w' w.heap.size (fun k_=>Zn k_ (.slice k6 d3.length k8)∧Zn k_ (.slice i4 a9.length i5)∧Zn k_ (.slice i6 b6.length i7)∧some k_≠(.slice k9 k3.length l3:Value).ownBlock∧Zn k_ s_.1) s_.2 d8)∧(w'.heap[b9]? =some (.cells #[.slice none 0 0,.slice none 0 0] 26 (0,0)))∧(w'.heap[c9]? =some (.cells #[.slice i4 a9.length i5,.slice i6 b6.length i7] 26 (0,0)))∧(IsS61 w0 w' g b7 E8 E9)∧(KeepBut w w' g none)∧(Below w0.heap.size w0 w')) ?_ ?_
     rotate_left
     ·
      intro hCont
      refine two_ (i:=2) (j:=4) (Ni:=some 54) (Nj:=some 56) (fl 7 15) (fl 7 27) rfl rfl rfl rfl (by kernel_rfl) (by decide) (by decide) (fun K hK=> ?_) (fun K hK=> ?_)
      ·
       refine goes_ Try.func44 (by kernel_rfl) rfl #[.pointer (some ⟨g,0,none⟩),.int .i64 (a9.length:Int)] (by rfl) rfl rfl (by(try simp only[List.map_toArray,List.map_cons,List.map_nil]);first|done|rfl) ?_
       with_reducible refine(spec_l1Cur_sureOrder.calls k g b7 o6 o7 (a9.length:Int) i3 E8 E9 w0 _ ?d5 ?d6 dO.out).mono ?_
       (case d5=>exact Zis b8)
       (case d6=>exact Zlb HB)
       rintro e bZ ⟨t9,rfl,n6,hi,hb,hk⟩
       refine⟨_,rfl, ?_⟩
       replace a4:=Zm (KeepBut.blk hk (g':=b9) (o:= .cells #[.slice none 0 0,.slice none 0 0] 26 (0,0)) (Zb a4) d4.out (by simp));replace a5:=Zm (KeepBut.blk hk (g':=c9) (o:= .cells #[.slice i4 a9.length i5,.slice i6 b6.length i7] 26 (0,0)) (Zb a5) d9.out (by simp));have l8:=Zm (Kd.R_lower (Zv (Zv (Zv (Zv n6 a6) a8) a7) e6) (keep_size (w:=w) (g:=g) (row:=none) (Zke HK)));replace a6:=Zm (Kd.R_mono (Kd.R_told (Kd.R_oldK (IsS61.apart (show IsS61 w0 _ g b7 o6 o7 from Zis b8) (Zr a6) (by decide)) hk) (Kd.R_base n6)) (fun _ h_=>h_.1));replace a8:=Zm (Kd.R_mono (Kd.R_told (Kd.R_oldK (IsS61.apart (show IsS61 w0 _ g b7 o6 o7 from Zis b8) (Zr a8) (by decide)) hk) (Kd.R_base n6)) (fun _ h_=>h_.1));replace a7:=Zm (Kd.R_mono (Kd.R_told (Kd.R_oldK (IsS61.apart (show IsS61 w0 _ g b7 o6 o7 from Zis b8) (Zr a7) (by decide)) hk) (Kd.R_base n6)) (fun _ h_=>h_.1));replace e6:=Zm (Kd.R_mono (Kd.R_told (Kd.R_oldK (IsS61.apart (show IsS61 w0 _ g b7 o6 o7 from Zis b8) (Zr e6) (by decide)) hk) (Kd.R_base n6)) (fun _ h_=>h_.1));replace HK:=Zm (KeepBut.trans (Zke HK) hk (.inl rfl));replace HB:=Zm (hb);replace b8:=Zm (hi)
       refine hK.out _ _ trivial (fun hHeld=> ?_)
       clear hK K;refine Yn 54 (h:= ?_)
       refine one_ (i:=4) (N:=some 56) (fl 7 31) rfl rfl (by kernel_rfl) (by decide) (fun K hK=> ?_)
       refine Kd.R_make_step (Kd.int .i64) _ 3 (by rfl) (N:=56) rfl 24 _ _ rfl (a9.length:Int) rfl rfl Try.underlying24 (.int .i64 0) 8 info3 rfl (by decide) (by omega) 0 (ok:=fun _ =>True) (okp:=fun _ =>True) rfl (fun _ hk=>hk) trivial (of_decide_eq_true (by first|(with_reducible assumption)|assumption)) (Nat.le_trans (Nat.mul_le_mul_right _ (of_decide_eq_true (by first|(with_reducible assumption)|assumption):(a9.length:Int).toNat≤35184372088832)) (by omega)) (Below.refl _ _) (Nat.le_refl _) ?_
       intro y8 fD n8 hb hg_ hnew_
       clear hg_ hnew_
       (first|rw[←C5.out]at n8|(simp only[Int.reduceToNat]at n8;rw[←C5.out]at n8))
       have e7:=Zm (Kd.R_lower (Zv (Zv (Zv (Zv (Zv n8 a6) a8) a7) e6) l8) (keep_size (w:=w) (g:=g) (row:=none) (Zke HK)));replace a6:=Zm (Kd.R_elder' (Zr a6) (Kd.R_base n8) hb);replace a8:=Zm (Kd.R_elder' (Zr a8) (Kd.R_base n8) hb);replace a7:=Zm (Kd.R_elder' (Zr a7) (Kd.R_base n8) hb);replace e6:=Zm (Kd.R_elder' (Zr e6) (Kd.R_base n8) hb);replace l8:=Zm (Kd.R_elder' (Zr l8) (Kd.R_base n8) hb);replace a4:=Zk a4 hb;replace a5:=Zk a5 hb;replace HK:=Zm (KeepBut.trans (Zke HK) (KeepBut.of_below hb g none) (.inl rfl));replace HB:=Zm (below_step (Zlb HB) hb);replace b8:=Zm (IsS61.below (Zis b8) hb);clear hb n8;obtain⟨F0,F1,y9⟩:=Kd.R_slice e7.out
       (first|subst y9|(injection y9 with o9 z4 p3;have z5:=o9.symm;have z6:=p3.symm;clear o9 z4 p3;subst z5;subst z6))
       obtain⟨F2,F3,z2⟩:=Kd.R_slice l8.out
       (first|subst z2|(injection z2 with o9 z4 p3;have z5:=o9.symm;have z6:=p3.symm;clear o9 z4 p3;subst z5;subst z6))
       refine hK.out _ _ trivial (fun hHeld=> ?_)
       clear hK K;refine Yn 56 (h:= ?_)
       exact norm_ (by simp only[putAll,Act.put,List.setIfInBounds_toArray,List.set_cons_zero,List.set_cons_succ]) (hCont (.slice F2 i3.length F3,.slice F0 d8.length F1) _ ⟨(Zc a6),(Zc a8),(Zc a7),(Zc e6),(Zc l8),(Zc e7),(Zb a4),(Zb a5),(Zis b8),(Zke HK),(Zlb HB)⟩)
      ·
       refine Kd.R_make_step (Kd.int .i64) _ 3 (by rfl) (N:=56) rfl 24 _ _ rfl (a9.length:Int) rfl rfl Try.underlying24 (.int .i64 0) 8 info3 rfl (by decide) (by omega) 0 (ok:=fun _ =>True) (okp:=fun _ =>True) rfl (fun _ hk=>hk) trivial (of_decide_eq_true (by first|(with_reducible assumption)|assumption)) (Nat.le_trans (Nat.mul_le_mul_right _ (of_decide_eq_true (by first|(with_reducible assumption)|assumption):(a9.length:Int).toNat≤35184372088832)) (by omega)) (Below.refl _ _) (Nat.le_refl _) ?_
       intro y8 bZ o0 hb hg_ hnew_
       clear hg_ hnew_
       (first|rw[←C5.out]at o0|(simp only[Int.reduceToNat]at o0;rw[←C5.out]at o0))
       have e7:=Zm (Kd.R_lower (Zv (Zv (Zv (Zv o0 a6) a8) a7) e6) (keep_size (w:=w) (g:=g) (row:=none) (Zke HK)));replace a6:=Zm (Kd.R_elder' (Zr a6) (Kd.R_base o0) hb);replace a8:=Zm (Kd.R_elder' (Zr a8) (Kd.R_base o0) hb);replace a7:=Zm (Kd.R_elder' (Zr a7) (Kd.R_base o0) hb);replace e6:=Zm (Kd.R_elder' (Zr e6) (Kd.R_base o0) hb);replace a4:=Zk a4 hb;replace a5:=Zk a5 hb;replace HK:=Zm (KeepBut.trans (Zke HK) (KeepBut.of_below hb g none) (.inl rfl));replace HB:=Zm (below_step (Zlb HB) hb);replace b8:=Zm (IsS61.below (Zis b8) hb);clear hb o0
       refine hK.out _ _ trivial (fun hHeld=> ?_)
       clear hK K;refine Yn 56 (h:= ?_)
       refine one_ (i:=2) (N:=some 54) (fl 7 31) rfl rfl (by kernel_rfl) (by decide) (fun K hK=> ?_)
       refine goes_ Try.func44 (by kernel_rfl) rfl #[.pointer (some ⟨g,0,none⟩),.int .i64 (a9.length:Int)] (by rfl) rfl rfl (by(try simp only[List.map_toArray,List.map_cons,List.map_nil]);first|done|rfl) ?_
       with_reducible refine(spec_l1Cur_sureOrder.calls k g b7 o6 o7 (a9.length:Int) i3 E8 E9 w0 _ ?d5 ?d6 dO.out).mono ?_
       (case d5=>exact Zis b8)
       (case d6=>exact Zlb HB)
       rintro e fE ⟨t9,rfl,n6,hi,hb,hk⟩
       refine⟨_,rfl, ?_⟩
       replace a4:=Zm (KeepBut.blk hk (g':=b9) (o:= .cells #[.slice none 0 0,.slice none 0 0] 26 (0,0)) (Zb a4) d4.out (by simp));replace a5:=Zm (KeepBut.blk hk (g':=c9) (o:= .cells #[.slice i4 a9.length i5,.slice i6 b6.length i7] 26 (0,0)) (Zb a5) d9.out (by simp));have l8:=Zm (Kd.R_lower (Zv (Zv (Zv (Zv (Zv n6 a6) a8) a7) e6) e7) (keep_size (w:=w) (g:=g) (row:=none) (Zke HK)));replace a6:=Zm (Kd.R_mono (Kd.R_told (Kd.R_oldK (IsS61.apart (show IsS61 w0 _ g b7 o6 o7 from Zis b8) (Zr a6) (by decide)) hk) (Kd.R_base n6)) (fun _ h_=>h_.1));replace a8:=Zm (Kd.R_mono (Kd.R_told (Kd.R_oldK (IsS61.apart (show IsS61 w0 _ g b7 o6 o7 from Zis b8) (Zr a8) (by decide)) hk) (Kd.R_base n6)) (fun _ h_=>h_.1));replace a7:=Zm (Kd.R_mono (Kd.R_told (Kd.R_oldK (IsS61.apart (show IsS61 w0 _ g b7 o6 o7 from Zis b8) (Zr a7) (by decide)) hk) (Kd.R_base n6)) (fun _ h_=>h_.1));replace e6:=Zm (Kd.R_mono (Kd.R_told (Kd.R_oldK (IsS61.apart (show IsS61 w0 _ g b7 o6 o7 from Zis b8) (Zr e6) (by decide)) hk) (Kd.R_base n6)) (fun _ h_=>h_.1));replace e7:=Zm (Kd.R_mono (Kd.R_told (Kd.R_oldK (IsS61.apart (show IsS61 w0 _ g b7 o6 o7 from Zis b8) (Zr e7) (by decide)) hk) (Kd.R_base n6)) (fun _ h_=>h_.1));replace HK:=Zm (KeepBut.trans (Zke HK) hk (.inl rfl));replace HB:=Zm (hb);replace b8:=Zm (hi)
       obtain⟨F0,F1,y9⟩:=Kd.R_slice e7.out
       (first|subst y9|(injection y9 with o9 z4 p3;have z5:=o9.symm;have z6:=p3.symm;clear o9 z4 p3;subst z5;subst z6))
       obtain⟨F2,F3,z2⟩:=Kd.R_slice l8.out
       (first|subst z2|(injection z2 with o9 z4 p3;have z5:=o9.symm;have z6:=p3.symm;clear o9 z4 p3;subst z5;subst z6))
       refine hK.out _ _ trivial (fun hHeld=> ?_)
       clear hK K;refine Yn 54 (h:= ?_)
       exact norm_ (by simp only[putAll,Act.put,List.setIfInBounds_toArray,List.set_cons_zero,List.set_cons_succ]) (hCont (.slice F2 i3.length F3,.slice F0 d8.length F1) _ ⟨(Zc a6),(Zc a8),(Zc a7),(Zc e6),(Zc l8),(Zc e7),(Zb a4),(Zb a5),(Zis b8),(Zke HK),(Zlb HB)⟩)
     rintro⟨t9,y8⟩ o8 ⟨L3,L4,L5,L6,L7,L8,L9,M0,M1,eD,O7⟩
     replace a6:Aside0 (Kd.R (Kd.int .i64) 3 o8 w.heap.size (fun k_=>Zn k_ (.slice i4 a9.length i5)∧Zn k_ (.slice i6 b6.length i7)∧some k_≠(.slice k9 k3.length l3:Value).ownBlock∧Zn k_ t9∧Zn k_ y8) (.slice k6 d3.length k8) d3):=⟨L3⟩;replace a8:Aside0 (Kd.R (Kd.int .i64) 3 o8 w.heap.size (fun k_=>Zn k_ (.slice k6 d3.length k8)∧Zn k_ (.slice i6 b6.length i7)∧some k_≠(.slice k9 k3.length l3:Value).ownBlock∧Zn k_ t9∧Zn k_ y8) (.slice i4 a9.length i5) a9):=⟨L4⟩;replace a7:Aside0 (Kd.R (Kd.int .i64) 3 o8 w.heap.size (fun k_=>Zn k_ (.slice k6 d3.length k8)∧Zn k_ (.slice i4 a9.length i5)∧some k_≠(.slice k9 k3.length l3:Value).ownBlock∧Zn k_ t9∧Zn k_ y8) (.slice i6 b6.length i7) b6):=⟨L5⟩;replace e6:Aside0 (Kd.R (Kd.int .i64) 3 o8 w.heap.size (fun k_=>Zn k_ (.slice k6 d3.length k8)∧Zn k_ (.slice i4 a9.length i5)∧Zn k_ (.slice i6 b6.length i7)∧Zn k_ t9∧Zn k_ y8) (.slice k9 k3.length l3) k3):=⟨L6⟩;have l8:Aside0 (Kd.R (Kd.int .i64) 3 o8 w.heap.size (fun k_=>Zn k_ (.slice k6 d3.length k8)∧Zn k_ (.slice i4 a9.length i5)∧Zn k_ (.slice i6 b6.length i7)∧some k_≠(.slice k9 k3.length l3:Value).ownBlock∧Zn k_ y8) t9 i3):=⟨L7⟩;have e7:Aside0 (Kd.R (Kd.int .i64) 3 o8 w.heap.size (fun k_=>Zn k_ (.slice k6 d3.length k8)∧Zn k_ (.slice i4 a9.length i5)∧Zn k_ (.slice i6 b6.length i7)∧some k_≠(.slice k9 k3.length l3:Value).ownBlock∧Zn k_ t9) y8 d8):=⟨L8⟩;replace a4:Aside0 (o8.heap[b9]? =some (.cells #[.slice none 0 0,.slice none 0 0] 26 (0,0))):=⟨L9⟩;replace a5:Aside0 (o8.heap[c9]? =some (.cells #[.slice i4 a9.length i5,.slice i6 b6.length i7] 26 (0,0))):=⟨M0⟩;replace b8:Aside0 (IsS61 w0 o8 g b7 E8 E9):=⟨M1⟩;replace HK:Aside0 (KeepBut w o8 g none):=⟨eD⟩;replace HB:Aside0 (Below w0.heap.size w0 o8):=⟨O7⟩;clear L3 L4 L5 L6 L7 L8 L9 M0 M1 eD O7;have hHeld:=trivial
     obtain⟨n3,d7,I8⟩:=Kd.R_slice e7.out
     (first|subst I8|(injection I8 with o9 z4 p3;have z5:=o9.symm;have z6:=p3.symm;clear o9 z4 p3;subst z5;subst z6))
     obtain⟨f8,f9,I9⟩:=Kd.R_slice l8.out
     (first|subst I9|(injection I9 with o9 z4 p3;have z5:=o9.symm;have z6:=p3.symm;clear o9 z4 p3;subst z5;subst z6))
     refine norm_ (a':= ?_) ?_ ?_
     rotate_left
     ·
      simp only[putAll,Act.put,List.setIfInBounds_toArray,List.set_cons_zero,List.set_cons_succ]
      rfl
     refine pure_ (i:=5) (N:=some 57) (v:= ?_) (a':= ?_) (fl 7 63) rfl rfl (by kernel_rfl) (fun _ _ _ h=>h) (Or.inl ⟨by rfl, ?_⟩) ?_ ?_
     rotate_left
     ·
      intro w'
      go_simp
      with_reducible rfl
     rotate_left
     ·
      simp only[Act.put,List.setIfInBounds_toArray,List.set_cons_zero,List.set_cons_succ,i64_w,i32_w]
      rfl
     refine one_ (i:=6) (N:=none) (fl 7 127) rfl rfl (by kernel_rfl) (by decide) (fun K hK=> ?_)
     have eE:=Zc0 a5 0;have cA:=blk_frozen a5.out 0;have O8:=e9.out;have O9:=g8.out;have eF:=Zc0 a5 1;have cB:=blk_frozen a5.out 1;have P0:=e9.out;have P1:=g8.out
     refine skip_ (w1:= ?_) (by rfl) rfl ?_ ?_
     rotate_left
     ·
      go_simp
      rfl
     refine hK.out _ _ trivial (fun hHeld=> ?_)
     clear hK K
     refine done_ (by kernel_rfl) ?_
     generalize hW_:((o8.setCell ⟨c9,0,none⟩ (.slice f8 i3.length f9)).setCell ⟨c9,1,none⟩ (.slice n3 d8.length d7))=o3;replace a6:Aside0 (Kd.R (Kd.int .i64) 3 o3 w.heap.size (fun k_=>Zn k_ (.slice i4 a9.length i5)∧Zn k_ (.slice i6 b6.length i7)∧some k_≠(.slice k9 k3.length l3:Value).ownBlock∧Zn k_ (.slice f8 i3.length f9)∧some k_≠(.slice n3 d8.length d7:Value).ownBlock) (.slice k6 d3.length k8) d3):=⟨by rw[←hW_];(with_reducible repeat(first|apply Kd.R_alloc|apply Kd.R_drewN|apply Kd.R_drew));exact Zfm a6 a5 (.slice f8 i3.length f9) (.slice n3 d8.length d7) (fun _ hk=>⟨hk.1.1,⟨hk.1.2.1,⟨hk.1.2.2.1,⟨hk.1.2.2.2.1,hk.1.2.2.2.2⟩⟩⟩⟩)⟩;replace a8:Aside0 (Kd.R (Kd.int .i64) 3 o3 w.heap.size (fun k_=>Zn k_ (.slice k6 d3.length k8)∧Zn k_ (.slice i6 b6.length i7)∧some k_≠(.slice k9 k3.length l3:Value).ownBlock∧Zn k_ (.slice f8 i3.length f9)∧some k_≠(.slice n3 d8.length d7:Value).ownBlock) (.slice i4 a9.length i5) a9):=⟨by rw[←hW_];(with_reducible repeat(first|apply Kd.R_alloc|apply Kd.R_drewN|apply Kd.R_drew));exact Zfm a8 a5 (.slice f8 i3.length f9) (.slice n3 d8.length d7) (fun _ hk=>⟨hk.1.1,⟨hk.1.2.1,⟨hk.1.2.2.1,⟨hk.1.2.2.2.1,hk.1.2.2.2.2⟩⟩⟩⟩)⟩;replace a7:Aside0 (Kd.R (Kd.int .i64) 3 o3 w.heap.size (fun k_=>Zn k_ (.slice k6 d3.length k8)∧Zn k_ (.slice i4 a9.length i5)∧some k_≠(.slice k9 k3.length l3:Value).ownBlock∧Zn k_ (.slice f8 i3.length f9)∧some k_≠(.slice n3 d8.length d7:Value).ownBlock) (.slice i6 b6.length i7) b6):=⟨by rw[←hW_];(with_reducible repeat(first|apply Kd.R_alloc|apply Kd.R_drewN|apply Kd.R_drew));exact Zfm a7 a5 (.slice f8 i3.length f9) (.slice n3 d8.length d7) (fun _ hk=>⟨hk.1.1,⟨hk.1.2.1,⟨hk.1.2.2.1,⟨hk.1.2.2.2.1,hk.1.2.2.2.2⟩⟩⟩⟩)⟩;replace e6:Aside0 (Kd.R (Kd.int .i64) 3 o3 w.heap.size (fun k_=>Zn k_ (.slice k6 d3.length k8)∧Zn k_ (.slice i4 a9.length i5)∧Zn k_ (.slice i6 b6.length i7)∧Zn k_ (.slice f8 i3.length f9)∧some k_≠(.slice n3 d8.length d7:Value).ownBlock) (.slice k9 k3.length l3) k3):=⟨by rw[←hW_];(with_reducible repeat(first|apply Kd.R_alloc|apply Kd.R_drewN|apply Kd.R_drew));exact Zfm e6 a5 (.slice f8 i3.length f9) (.slice n3 d8.length d7) (fun _ hk=>⟨hk.1.1,⟨hk.1.2.1,⟨hk.1.2.2.1,⟨hk.1.2.2.2.1,hk.1.2.2.2.2⟩⟩⟩⟩)⟩;replace l8:Aside0 (Kd.R (Kd.int .i64) 3 o3 w.heap.size (fun k_=>Zn k_ (.slice k6 d3.length k8)∧Zn k_ (.slice i4 a9.length i5)∧Zn k_ (.slice i6 b6.length i7)∧some k_≠(.slice k9 k3.length l3:Value).ownBlock∧some k_≠(.slice n3 d8.length d7:Value).ownBlock) (.slice f8 i3.length f9) i3):=⟨by rw[←hW_];(with_reducible repeat(first|apply Kd.R_alloc|apply Kd.R_drewN|apply Kd.R_drew));exact Zfm l8 a5 (.slice f8 i3.length f9) (.slice n3 d8.length d7) (fun _ hk=>⟨hk.1.1,⟨hk.1.2.1,⟨hk.1.2.2.1,⟨hk.1.2.2.2.1,hk.1.2.2.2.2⟩⟩⟩⟩)⟩;replace e7:Aside0 (Kd.R (Kd.int .i64) 3 o3 w.heap.size (fun k_=>Zn k_ (.slice k6 d3.length k8)∧Zn k_ (.slice i4 a9.length i5)∧Zn k_ (.slice i6 b6.length i7)∧some k_≠(.slice k9 k3.length l3:Value).ownBlock∧Zn k_ (.slice f8 i3.length f9)) (.slice n3 d8.length d7) d8):=⟨by rw[←hW_];(with_reducible repeat(first|apply Kd.R_alloc|apply Kd.R_drewN|apply Kd.R_drew));exact Zfm e7 a5 (.slice f8 i3.length f9) (.slice n3 d8.length d7) (fun _ hk=>⟨hk.1.1,⟨hk.1.2.1,⟨hk.1.2.2.1,⟨hk.1.2.2.2.1,hk.1.2.2.2.2⟩⟩⟩⟩)⟩;replace a4:Aside0 (o3.heap[b9]? =some (.cells #[.slice none 0 0,.slice none 0 0] 26 (0,0))):=⟨by rw[←hW_];exact Zbf a4⟩;replace a5:Aside0 (o3.heap[c9]? =some (.cells #[.slice f8 i3.length f9,.slice n3 d8.length d7] 26 (0,0))):=⟨by rw[←hW_];refine Zrb ?_;refine blk_put (cs:= #[.slice f8 i3.length f9,.slice i6 b6.length i7]) ?_ 1 _ rfl;refine Zrb ?_;refine blk_put (cs:= #[.slice i4 a9.length i5,.slice i6 b6.length i7]) ?_ 0 _ rfl;refine Zrb ?_;exact a5.out⟩;replace b8:Aside0 (IsS61 w0 o3 g b7 E8 E9):=⟨by rw[←hW_];exact Zis b8⟩;replace HK:Aside0 (KeepBut w o3 g none):=⟨by rw[←hW_];exact Zke HK⟩;replace HB:Aside0 (Below w0.heap.size w0 o3):=⟨by rw[←hW_];exact Zlb HB⟩;clear hW_;obtain⟨P2,P3,P4,P5⟩:=Z2 a5;have cC:0≤(0:Int):=(by omega);have cD:(0:Int)<((d8.length:Int):Int):=Zoa;have fF:(0<d8.length)=True:=eq_true (by omega);obtain⟨l4,fG,P6,P7,cE,fH,P8⟩:=Kd.R_form e7.out (by omega)
     (first|cases P6|(injection P6 with ea_ en_ ec_;(first|subst ea_|(injection ea_ with ea_;subst ea_));subst ec_;clear en_))
     have P9:=Aside0.mk P7;have fI:=Aside0.mk P8;clear P7 cE P8
     obtain⟨F4,F5⟩:=Kd.R_celln 0 e7.out (0:Int) cC cD
     (try rw[show((0:Int)).toNat=0 from rfl]at F4)
     (try simp only[Nat.reduceMul,Nat.zero_mul,Nat.zero_add,Nat.reduceAdd]at F4)
     (try rw[show((0:Int)).toNat=0 from rfl]at F5)
     (try simp only[Nat.reduceMul,Nat.zero_mul,Nat.zero_add,Nat.reduceAdd]at F5)
     replace cC:=eq_true cC
     replace cD:=eq_true cD
     obtain⟨F6,F7⟩:=Kd.R_celln 0 e7.out (0:Int) (by omega) (of_decide_eq_true (by first|(with_reducible assumption)|assumption))
     (try simp only[Int.reduceToNat,Int.toNat_zero,Int.toNat_ofNat,Nat.reduceMul,Nat.zero_mul,Nat.zero_add]at F6 F7)
     (try rw[show((0:Int)).toNat=0 from rfl]at F6)
     (try rw[show((0:Int)).toNat=0 from rfl]at F7)
     have F8:=Kd.R_putg e7.out (0:Int) z9
     try go_wp2_with (first|((with_reducible refine gate_store (t:=3) (p:=61) rfl ?_);refine store_event (t:=3) (p:=61) (v:= ?aG) (w1:=(o3.setCell ⟨l4,(0:Int).toNat,none⟩ (.int .i64 z9))) ?hg ?ho ?hn ?hr ?_;(case ho=>rfl);(case hg=>rfl);(case hn=>rfl);(case hr=>first|(go_simp;done)|(go_simp;rfl));intro F9 hw;have hg:o3.grownBy F9 (some l4):=(by rw[hw];exact F8.2);have hp_:Kd.R (Kd.int .i64) 3 F9 w.heap.size (fun k_=>Zn k_ (.slice k6 d3.length k8)∧Zn k_ (.slice i4 a9.length i5)∧Zn k_ (.slice i6 b6.length i7)∧some k_≠(.slice k9 k3.length l3:Value).ownBlock∧Zn k_ (.slice f8 i3.length f9)) (.slice (some ⟨l4,0,none⟩) d8.length d7) O0:=(by rw[hw,O1.out];exact F8.1);clear F8;replace b8:=Zm (IsS61.grown (Zis b8) hg (IsS61.own_ne b8.out e7.out (by decide)));replace a4:=Zm (blk_grown (Zb a4) hg (Kd.R_ne e7.out a4.out (by decide)));replace a6:=Zm (Kd.R_after (v:=(.slice (some ⟨l4,0,none⟩) d8.length d7)) (v1:=(.slice (some ⟨l4,0,none⟩) d8.length d7)) (ok:=(fun k_=>Zn k_ (.slice i4 a9.length i5)∧Zn k_ (.slice i6 b6.length i7)∧some k_≠(.slice k9 k3.length l3:Value).ownBlock∧Zn k_ (.slice f8 i3.length f9))) (Zc a6) hg (.inl rfl));replace a8:=Zm (Kd.R_after (v:=(.slice (some ⟨l4,0,none⟩) d8.length d7)) (v1:=(.slice (some ⟨l4,0,none⟩) d8.length d7)) (ok:=(fun k_=>Zn k_ (.slice k6 d3.length k8)∧Zn k_ (.slice i6 b6.length i7)∧some k_≠(.slice k9 k3.length l3:Value).ownBlock∧Zn k_ (.slice f8 i3.length f9))) (Zc a8) hg (.inl rfl));replace a7:=Zm (Kd.R_after (v:=(.slice (some ⟨l4,0,none⟩) d8.length d7)) (v1:=(.slice (some ⟨l4,0,none⟩) d8.length d7)) (ok:=(fun k_=>Zn k_ (.slice k6 d3.length k8)∧Zn k_ (.slice i4 a9.length i5)∧some k_≠(.slice k9 k3.length l3:Value).ownBlock∧Zn k_ (.slice f8 i3.length f9))) (Zc a7) hg (.inl rfl));replace a5:=Zm (blk_grown (Zb a5) hg (Kd.R_ne e7.out a5.out (by decide)));replace e6:=Zm (Kd.R_after (v:=(.slice (some ⟨l4,0,none⟩) d8.length d7)) (v1:=(.slice (some ⟨l4,0,none⟩) d8.length d7)) (ok:=(fun k_=>Zn k_ (.slice k6 d3.length k8)∧Zn k_ (.slice i4 a9.length i5)∧Zn k_ (.slice i6 b6.length i7)∧Zn k_ (.slice f8 i3.length f9))) (Zc e6) hg (.inl rfl));replace l8:=Zm (Kd.R_after (v:=(.slice (some ⟨l4,0,none⟩) d8.length d7)) (v1:=(.slice (some ⟨l4,0,none⟩) d8.length d7)) (ok:=(fun k_=>Zn k_ (.slice k6 d3.length k8)∧Zn k_ (.slice i4 a9.length i5)∧Zn k_ (.slice i6 b6.length i7)∧some k_≠(.slice k9 k3.length l3:Value).ownBlock)) (Zc l8) hg (.inl rfl));replace HB:=Zm ((by rw[hw];exact below_set (HB.out) (Nat.le_trans HL.out P9.out):Below w0.heap.size w0 F9));replace HK:=Zm (KeepBut.trans (Zke HK) (KeepBut.of_grown hg g) (Kd.R_base2 e7.out));replace e7:=Zm (hp_);clear hg hw hp_;obtain⟨Q0,Q4,Q5,Q6⟩:=Z2 a5;have cF:0≤(1:Int):=(by omega);have cG:(1:Int)<((d8.length:Int):Int):=Zoa;have fJ:(1<d8.length)=True:=eq_true (by omega);obtain⟨G1,G2⟩:=Kd.R_celln 0 e7.out (1:Int) cF cG;(try rw[show((1:Int)).toNat=1 from rfl]at G1);(try simp only[Nat.reduceMul,Nat.zero_mul,Nat.zero_add,Nat.reduceAdd]at G1);(try rw[show((1:Int)).toNat=1 from rfl]at G2);(try simp only[Nat.reduceMul,Nat.zero_mul,Nat.zero_add,Nat.reduceAdd]at G2);replace cF:=eq_true cF;replace cG:=eq_true cG;obtain⟨G3,G4⟩:=Kd.R_celln 0 e7.out (1:Int) (by omega) (of_decide_eq_true (by first|(with_reducible assumption)|assumption));(try simp only[Int.reduceToNat,Int.toNat_zero,Int.toNat_ofNat,Nat.reduceMul,Nat.zero_mul,Nat.zero_add]at G3 G4);(try rw[show((1:Int)).toNat=1 from rfl]at G3);(try rw[show((1:Int)).toNat=1 from rfl]at G4);have G5:=Kd.R_putg e7.out (1:Int) (wrap64 (-z9)))|((with_reducible refine gate_store (t:=3) (p:=66) rfl ?_);refine store_event (t:=3) (p:=66) (v:= ?aH) (w1:=(F9.setCell ⟨l4,(1:Int).toNat,none⟩ (.int .i64 (wrap64 (-z9))))) ?hg ?ho ?hn ?hr ?_;(case ho=>rfl);(case hg=>rfl);(case hn=>rfl);(case hr=>first|(go_simp;done)|(go_simp;rfl));intro K4 hw;have hg:F9.grownBy K4 (some l4):=(by rw[hw];exact G5.2);have hp_:Kd.R (Kd.int .i64) 3 K4 w.heap.size (fun k_=>Zn k_ (.slice k6 d3.length k8)∧Zn k_ (.slice i4 a9.length i5)∧Zn k_ (.slice i6 b6.length i7)∧some k_≠(.slice k9 k3.length l3:Value).ownBlock∧Zn k_ (.slice f8 i3.length f9)) (.slice (some ⟨l4,0,none⟩) d8.length d7) bU:=(by rw[hw,O2.out];exact G5.1);clear G5;replace b8:=Zm (IsS61.grown (Zis b8) hg (IsS61.own_ne b8.out e7.out (by decide)));replace a4:=Zm (blk_grown (Zb a4) hg (Kd.R_ne e7.out a4.out (by decide)));replace a6:=Zm (Kd.R_after (v:=(.slice (some ⟨l4,0,none⟩) d8.length d7)) (v1:=(.slice (some ⟨l4,0,none⟩) d8.length d7)) (ok:=(fun k_=>Zn k_ (.slice i4 a9.length i5)∧Zn k_ (.slice i6 b6.length i7)∧some k_≠(.slice k9 k3.length l3:Value).ownBlock∧Zn k_ (.slice f8 i3.length f9))) (Zr a6) hg (.inl rfl));replace a8:=Zm (Kd.R_after (v:=(.slice (some ⟨l4,0,none⟩) d8.length d7)) (v1:=(.slice (some ⟨l4,0,none⟩) d8.length d7)) (ok:=(fun k_=>Zn k_ (.slice k6 d3.length k8)∧Zn k_ (.slice i6 b6.length i7)∧some k_≠(.slice k9 k3.length l3:Value).ownBlock∧Zn k_ (.slice f8 i3.length f9))) (Zr a8) hg (.inl rfl));replace a7:=Zm (Kd.R_after (v:=(.slice (some ⟨l4,0,none⟩) d8.length d7)) (v1:=(.slice (some ⟨l4,0,none⟩) d8.length d7)) (ok:=(fun k_=>Zn k_ (.slice k6 d3.length k8)∧Zn k_ (.slice i4 a9.length i5)∧some k_≠(.slice k9 k3.length l3:Value).ownBlock∧Zn k_ (.slice f8 i3.length f9))) (Zr a7) hg (.inl rfl));replace a5:=Zm (blk_grown (Zb a5) hg (Kd.R_ne e7.out a5.out (by decide)));replace e6:=Zm (Kd.R_after (v:=(.slice (some ⟨l4,0,none⟩) d8.length d7)) (v1:=(.slice (some ⟨l4,0,none⟩) d8.length d7)) (ok:=(fun k_=>Zn k_ (.slice k6 d3.length k8)∧Zn k_ (.slice i4 a9.length i5)∧Zn k_ (.slice i6 b6.length i7)∧Zn k_ (.slice f8 i3.length f9))) (Zr e6) hg (.inl rfl));replace l8:=Zm (Kd.R_after (v:=(.slice (some ⟨l4,0,none⟩) d8.length d7)) (v1:=(.slice (some ⟨l4,0,none⟩) d8.length d7)) (ok:=(fun k_=>Zn k_ (.slice k6 d3.length k8)∧Zn k_ (.slice i4 a9.length i5)∧Zn k_ (.slice i6 b6.length i7)∧some k_≠(.slice k9 k3.length l3:Value).ownBlock)) (Zr l8) hg (.inl rfl));replace HB:=Zm ((by rw[hw];exact below_set (HB.out) (Nat.le_trans HL.out P9.out):Below w0.heap.size w0 K4));replace HK:=Zm (KeepBut.trans (Zke HK) (KeepBut.of_grown hg g) (Kd.R_base2 e7.out));replace e7:=Zm (hp_);clear hg hw hp_;obtain⟨Q7,Q8,Q9,R0⟩:=Z2 a5;have cH:=d4.out;have cJ:=m6.out;obtain⟨R1,R2,R3,R4⟩:=Z2 a4))
     refine bodyPost_ret (results_cell_row rfl _ _ b9 26 #[.slice f8 i3.length f9,.slice (some ⟨l4,0,none⟩) d8.length d7] (0,0) _ rfl (by refine Zrb ?_;refine blk_put (cs:= #[.slice f8 i3.length f9,.slice none 0 0]) ?_ 1 _ rfl;refine Zrb ?_;refine blk_put (cs:= #[.slice none 0 0,.slice none 0 0]) ?_ 0 _ rfl;refine Zrb ?_;exact a4.out) Try.underlying26 rfl (by kernel_rfl)) rfl ?_
     exact⟨_,_,Ze,Zrr (Zfm l8 a4 (.slice f8 i3.length f9) (.slice (some ⟨l4,0,none⟩) d8.length d7) (fun _ hk=>hk.1.2)),Kd.Q_of_R (Zrr (Zfm e7 a4 (.slice f8 i3.length f9) (.slice (some ⟨l4,0,none⟩) d8.length d7) (fun _ hk=>hk.1.2.2.2.2))),Zis b8,Zlb HB,Zke HK⟩
    ·
     rw[if_neg K3]at H;have N8:(l9 == 3)=false:=beq_eq_false_iff_ne.mpr K3;have N9:(l9 != 3)=true:=bne_iff_ne.mpr K3
     obtain⟨rfl,rfl,rfl,rfl⟩:=Zs4 H;clear H
     go_enter Try.func46,Try.ntmps46
     go_wp2_with (first|((with_reducible refine gate_dst (N:=2) rfl ?_);refine Zbe 2 #[.slice none 0 0,.slice none 0 0] 26 ?_;intro b9 hg fK hbox hb;replace HB:=Zm (below_step (Zlb HB) hb);have a4:=Zm (hbox);have C2:=Zm ((by rw[hg];exact(keep_size (w:=w) (g:=g) (row:=none) (Zke HK)):w.heap.size≤b9));have p8:=Zm ((Nat.le_trans G6.out (by rw[hg];exact(keep_size (w:=w) (g:=g) (row:=none) (Zke HK)):w.heap.size≤b9):w0.heap.size≤b9));replace HK:=Zm (KeepBut.trans (Zke HK) (KeepBut.of_below hb g none) (.inl rfl));have m6:=Zm ((by rw[hg];exact Nat.ne_of_lt (IsS61.lt (show IsS61 w0 _ g b7 n4 n5 from Zis b8)):g≠b9));have d4:=Zm ((by rw[hg];exact Nat.ne_of_gt (IsS61.lt (show IsS61 w0 _ g b7 n4 n5 from Zis b8)):b9≠g));replace b8:=Zm (IsS61.below (Zis b8) hb);clear hb hbox hg)|((with_reducible refine gate_callee (f:=67) rfl ?_);refine Ga (some 7) Try.func67 #[.pointer (some ⟨g,0,none⟩),.int .i64 20] (h:= ?_);(with_reducible refine(spec_l1Cur_surePole.calls k g b7 n4 n5 20 n9 d3 i8 i9 w0 _ ?d5 ?d6 A2.out).mono ?_);(case d5=>exact Zis b8);(case d6=>exact Zlb HB);rintro e fL ⟨G7,rfl,n6,hi,hb,hk⟩;refine⟨_,rfl, ?_⟩;replace a4:=Zm (KeepBut.blk hk (g':=b9) (o:= .cells #[.slice none 0 0,.slice none 0 0] 26 (0,0)) (Zb a4) d4.out (by simp));have a6:=Zm (Kd.R_lower n6 (keep_size (w:=w) (g:=g) (row:=none) (Zke HK)));replace HK:=Zm (KeepBut.trans (Zke HK) hk (.inl rfl));replace HB:=Zm (hb);replace b8:=Zm (hi);obtain⟨R5,R6,R7⟩:=Kd.R_slice a6.out;subst R7)|((with_reducible refine gate_callee (f:=66) rfl ?_);refine Ga (some 8) Try.func66 #[.agg #[.int .i64 n9,.slice R5 d3.length R6]] (h:= ?_);(with_reducible refine(spec_poResult.calls k n9 _ _ d3 a9 b6 _ ?d5 ?d6 A3.out).mono ?_);(case d5=>exact Zca (Kd.R_reads' a6.out).2.2);(case d6=>exact(Kd.R_reads' a6.out).2.1);rintro e fM ⟨G8,G9,rfl,n6,C3,hb⟩;refine⟨_,rfl, ?_⟩;have a8:=Zm (Kd.R_lower (Zv n6 a6) (keep_size (w:=w) (g:=g) (row:=none) (Zke HK)));have a7:=Zm (Kd.R_lower (Zv C3 a6) (keep_size (w:=w) (g:=g) (row:=none) (Zke HK)));replace a6:=Zu a6 hb n6 C3;replace a4:=Zk a4 hb;replace HK:=Zm (KeepBut.trans (Zke HK) (KeepBut.of_below hb g none) (.inl rfl));replace HB:=Zm (below_step (Zlb HB) hb);replace b8:=Zm (IsS61.below (Zis b8) hb))|((with_reducible refine gate_dst (N:=3) rfl ?_);refine Zbe 3 #[.slice none 0 0,.slice none 0 0] 26 ?_;intro c9 hg fN hbox hb;replace a6:=Zo a6 hb;replace a8:=Zo a8 hb;replace a7:=Zo a7 hb;replace HB:=Zm (below_step (Zlb HB) hb);have a5:=Zm (hbox);have C4:=Zm ((by rw[hg];exact(keep_size (w:=w) (g:=g) (row:=none) (Zke HK)):w.heap.size≤c9));have p9:=Zm ((Nat.le_trans G6.out (by rw[hg];exact(keep_size (w:=w) (g:=g) (row:=none) (Zke HK)):w.heap.size≤c9):w0.heap.size≤c9));replace HK:=Zm (KeepBut.trans (Zke HK) (KeepBut.of_below hb g none) (.inl rfl));have e9:=Zq hg a4;have g8:=Zp hg a4;replace a4:=Zk a4 hb;have m7:=Zm ((by rw[hg];exact Nat.ne_of_lt (IsS61.lt (show IsS61 w0 _ g b7 i8 i9 from Zis b8)):g≠c9));have d9:=Zm ((by rw[hg];exact Nat.ne_of_gt (IsS61.lt (show IsS61 w0 _ g b7 i8 i9 from Zis b8)):c9≠g));replace b8:=Zm (IsS61.below (Zis b8) hb);clear hb hbox hg;obtain⟨q3,q4,R8⟩:=Kd.R_slice a8.out;subst R8;have cK:=g8.out;have cL:=e9.out;have cM:=d9.out;have cN:=m7.out;obtain⟨R9,S0,S1,S3⟩:=Z2 a5;obtain⟨C6,C7,S4⟩:=Kd.R_slice a7.out;subst S4)|((with_reducible refine gate_callee (f:=45) rfl ?_);refine Ga (some 10) Try.func45 #[.pointer (some ⟨g,0,none⟩),.int .i64 14] (h:= ?_);(with_reducible refine(spec_l1Cur_pick.calls g b7 i8 i9 14 l9 m4 m5 w0 _ ?d5 ?d6 A4.out).mono ?_);(case d5=>exact Zis b8);(case d6=>exact Zlb HB);rintro e fO ⟨rfl,hi,hb,hk⟩;refine⟨_,rfl, ?_⟩;replace a4:=Zm (KeepBut.blk hk (g':=b9) (o:= .cells #[.slice none 0 0,.slice none 0 0] 26 (0,0)) (Zbf a4) d4.out (by simp));replace a6:=Zm (Kd.R_mono (Kd.R_keep (IsS61.apart (show IsS61 w0 _ g b7 i8 i9 from Zis b8) (Zy a6 a5) (by decide)) hk (fun _ h=>h.2)) (fun _ h=>h.1));replace a8:=Zm (Kd.R_mono (Kd.R_keep (IsS61.apart (show IsS61 w0 _ g b7 i8 i9 from Zis b8) (Zy a8 a5) (by decide)) hk (fun _ h=>h.2)) (fun _ h=>h.1));replace a7:=Zm (Kd.R_mono (Kd.R_keep (IsS61.apart (show IsS61 w0 _ g b7 i8 i9 from Zis b8) (Zy a7 a5) (by decide)) hk (fun _ h=>h.2)) (fun _ h=>h.1));replace a5:=Zm (KeepBut.blk hk (g':=c9) (o:= .cells #[.slice q3 a9.length q4,.slice C6 b6.length C7] 26 (0,0)) (by refine Zrb ?_;refine blk_put (cs:= #[.slice q3 a9.length q4,.slice none 0 0]) ?_ 1 _ rfl;refine Zrb ?_;refine blk_put (cs:= #[.slice none 0 0,.slice none 0 0]) ?_ 0 _ rfl;refine Zrb ?_;exact a5.out) d9.out (by simp));replace HK:=Zm (KeepBut.trans (Zke HK) hk (.inl rfl));replace HB:=Zm (hb);replace b8:=Zm (hi);obtain⟨S5,S6,S7,S8⟩:=Z2 a5;have cO:=d4.out;have cP:=m6.out;obtain⟨S9,T0,U0,U1⟩:=Z2 a4))
     refine bodyPost_ret (results_cell_row rfl _ _ b9 26 #[.slice q3 a9.length q4,.slice C6 b6.length C7] (0,0) _ rfl (by refine Zrb ?_;refine blk_put (cs:= #[.slice q3 a9.length q4,.slice none 0 0]) ?_ 1 _ rfl;refine Zrb ?_;refine blk_put (cs:= #[.slice none 0 0,.slice none 0 0]) ?_ 0 _ rfl;refine Zrb ?_;exact a4.out) Try.underlying26 rfl (by kernel_rfl)) rfl ?_
     exact⟨_,_,Ze,Zrr (Zfm a8 a4 (.slice q3 a9.length q4) (.slice C6 b6.length C7) (fun _ hk=>hk.1.1)),Kd.Q_of_R (Zrr (Zfm a7 a4 (.slice q3 a9.length q4) (.slice C6 b6.length C7) (fun _ hk=>hk.1.1))),Zis b8,Zlb HB,Zke HK⟩
end Go.Proofs.Ytnagcjhgojchlaa.Q
