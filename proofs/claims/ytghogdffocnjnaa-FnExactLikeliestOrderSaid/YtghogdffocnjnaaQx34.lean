/- Each function below comes to the Lean function beside it (theorems '.calls'); no condition beyond each theorem's own. Written by our program oprint.py over the kit's print. -/
import Derived.Test.YtghogdffocnjnaaQx0
import Derived.Test.YtghogdffocnjnaaQx24
import Derived.Test.YtghogdffocnjnaaQx29
import Derived.Test.YtghogdffocnjnaaQx35
import Derived.Test.YtghogdffocnjnaaQx49
import Derived.Laws.EntriesVeiled
import Derived.Shelf.Abstract
import Derived.Deep.RegionHeld3
import Derived.Deep.QuietTactic
import Derived.BigQuiet
namespace Go.Proofs.Ytghogdffocnjnaa.Q
open Go.RowKit Go.Proofs.YtghogdffocnjnaaW.PrintWords Go.Proofs.YtghogdffocnjnaaW.PrintLast Go.Proofs.YtghogdffocnjnaaW.PrintMore
attribute [local go_sem] max2_int min2_int max_two min_two max_three min_three max_four min_four   -- for this text's walks alone
set_option linter.unusedVariables false
set_option linter.unusedSimpArgs false

def ordLoop {α : Type} (rec : List Int → List Int → α → Option α) (done left : List Int) : Nat → Nat → α → Option α
  | 0, _, s => some s
  | c + 1, i, s => (rec (done ++ [left.getD i 0]) (left.take i ++ left.drop (i + 1)) s).bind fun s2 => ordLoop rec done left c (i + 1) s2
def ordF {α : Type} (step : α → List Int → Option α) : Nat → List Int → List Int → α → Option α
  | 0, done, left, s => if left = [] then step s done else none
  | d + 1, done, left, s => if left.length = d + 1 ∧ left.length ≤ 100 ∧ done.length ≤ 100 then ordLoop (ordF step d) done left (d + 1) 0 s else none
theorem row_one {W : World} {g : Nat} {y : Int} (h : W.heap[g]? = some (.cells #[.int .i64 y] 3 (0, 0))) : Kd.C (Kd.int .i64) W (some ⟨g, 0, none⟩) 1 [y] := by
  refine ⟨rfl, by decide, fun _ => ⟨_, rfl, fun j p hj => ⟨[.int .i64 p], rfl, rfl, fun i u hu => ?_⟩⟩⟩
  have hi : i = 0 := by have := (List.getElem?_eq_some_iff.1 hu).1; simpa using this
  subst hi
  have hj0 : j = 0 := by have := (List.getElem?_eq_some_iff.1 hj).1; simpa using this
  subst hj0
  have hu' : u = .int .i64 p := by simpa using hu.symm
  have hp : p = y := by simpa using hj.symm
  subst hu'
  subst hp
  exact cell_of_one h
def addFn (bw ba : Nat) : Value := .func (.func 86) #[] #[.pointer (some ⟨bw, 0, none⟩), .pointer (some ⟨ba, 0, none⟩)]
set_option maxHeartbeats 16000000 in
set_option maxRecDepth 100000 in
theorem impl_orders_1.calls {α : Type} (step : α → List Int → Option α) (I : α → (Nat → Prop) → World → Prop) (g : Nat) (lb : Array Value) (B : Nat) (cl0 : CloList g lb B I step) (bw ba : Nat) (d : Nat) : ∀ (done left : List Int) (vd vl : Value) (s s2 : α) (S : Nat → Prop) (W : World) (hi0 : I s S W) (hBw : B ≤ W.heap.size)
    (hbw : W.heap[bw]? = some (.cells #[.func (.func g) #[] lb] 64 (0, 0))) (hba : W.heap[ba]? = some (.cells #[addFn bw ba] 70 (0, 0))) (hnw : ¬ S bw) (hna : ¬ S ba)
    (hd : Kd.R (Kd.int .i64) 3 W B (fun k => ¬ S k) vd done) (hl : Kd.R (Kd.int .i64) 3 W B (fun k => ¬ S k) vl left) (h : ordF step d done left s = some s2),
    Calls Try.prog 86 #[vd, vl, .pointer (some ⟨bw, 0, none⟩), .pointer (some ⟨ba, 0, none⟩)] W fun e w' => e = .returned (.tuple #[]) ∧ ∃ S', I s2 S' w' ∧ Eff S W w' ∧ ∀ k, S' k → S k ∨ vd.ownBlock = some k ∨ W.heap.size ≤ k := by
  have eg := cl0.enters
  have eo : ∀ args w, (callFunc 86 args).run Try.prog w = .ok (.enter 86 args) w := enters_of Try.func86 (by kernel_rfl) rfl
  have CL := Aside0.mk cl0
  clear cl0
  induction d with
  | zero =>
    intro done left vd vl s s2 S W hi0 hBw hbw hba hnw hna hd hl h
    rw [ordF] at h
    by_cases hle : left = []
    · rw [if_pos hle] at h
      subst hle
      obtain ⟨Al, cl, rfl⟩ := Kd.R_slice hl
      have HI := Aside0.mk hi0
      have HD := Aside0.mk hd
      have HH := Aside0.mk h
      have hcw := cell_of_one hbw
      clear hi0 hBw hbw hba hnw hna hd hl h
      go_enter Try.func86, Try.ntmps86
      go_wp2_with (first | (go_at_fn g; refine (CL.out.call s s2 S _ vd done HI.out HD.out HH.out).mono ?_; rintro e w24 ⟨rfl, S2, hi2, he2, hs2⟩; have HI2 := Aside0.mk hi2; have HE2 := Aside0.mk he2; have HS2 := Aside0.mk hs2; clear hi2 he2 hs2))
      go_loopg [16] 0 (fun gg v16 wr => v16 = .int .i64 0 ∧ wr = w24)
      case atStart => exact ⟨rfl, rfl⟩
      case round =>
        obtain ⟨rfl, rfl⟩ := hrel
        go_wp2
        go_end0
        exact ⟨rfl, S2, HI2.out, HE2.out, HS2.out⟩
    · rw [if_neg hle] at h
      cases h
  | succ d ih =>
    intro done left vd vl s s2 S W hi0 hBw hbw hba hnw hna hd hl h
    rw [ordF] at h
    by_cases hle : left.length = d + 1 ∧ left.length ≤ 100 ∧ done.length ≤ 100
    · rw [if_pos hle] at h
      obtain ⟨hlen, hl100, hd100⟩ := hle
      obtain ⟨Al, cl, rfl⟩ := Kd.R_slice hl
      obtain ⟨Ad, cd, rfl⟩ := Kd.R_slice hd
      have IH := Aside0.mk ih
      have HI := Aside0.mk hi0
      have HBW := Aside0.mk hBw
      have HWB := Aside0.mk hbw
      have HAB := Aside0.mk hba
      have HNW := Aside0.mk hnw
      have HNA := Aside0.mk hna
      have HD := Aside0.mk hd
      have HL := Aside0.mk hl
      have HH := Aside0.mk (show ordLoop (ordF step d) done left (left.length - 0) 0 s = some s2 from by rw [hlen]; exact h)
      have HLEN := Aside0.mk hlen
      have hne : decide ((left.length : Int) = 0) = false := decide_eq_false (by omega)
      have hne2 : ((left.length : Int) == 0) = false := beq_eq_false_iff_ne.2 (by omega)
      have HD100 := Aside0.mk hd100
      clear ih hi0 hBw hbw hba hnw hna hd hl h hlen hd100
      go_enter Try.func86, Try.ntmps86
      go_wp2
      go_loopg [16] left.length (fun gg v16 wr => ∃ (i : Nat) (s1 : α) (S1 : Nat → Prop), v16 = .int .i64 (i : Int) ∧ i ≤ left.length ∧ left.length - i ≤ gg ∧ Aside0 (ordLoop (ordF step d) done left (left.length - i) i s1 = some s2) ∧ Aside0 (I s1 S1 wr) ∧ Aside0 (Eff S W wr) ∧ Aside0 (∀ k, S1 k → S k ∨ W.heap.size ≤ k) ∧ Aside0 (Kd.R (Kd.int .i64) 3 wr B (fun k => ¬ S1 k) (.slice Ad done.length cd) done) ∧ Aside0 (Kd.R (Kd.int .i64) 3 wr B (fun k => ¬ S1 k) (.slice Al left.length cl) left))
      case atStart => exact ⟨0, s, S, rfl, Nat.zero_le _, by omega, ⟨HH.out⟩, ⟨HI.out⟩, ⟨Eff.refl _ _⟩, ⟨fun _ h_ => .inl h_⟩, ⟨HD.out⟩, ⟨HL.out⟩⟩
      case round =>
        clear HH HI HD HL
        obtain ⟨i, s1, S1, rfl, hi, hg, HA, HI, HB, HSS, HD, HL⟩ := hrel
        by_cases hlt : i < left.length
        · have hltz : (i : Int) < (left.length : Int) := by omega
          have h0i : (0 : Int) ≤ (i : Int) := by omega
          have h1 := HA.out
          clear HA
          rw [show left.length - i = (left.length - (i + 1)) + 1 from by omega] at h1
          simp only [ordLoop] at h1
          replace h1 := Option.bind_eq_some_iff.mp h1
          obtain ⟨s3, e1, e2⟩ := h1
          have HE1 := Aside0.mk e1
          have HE2 := Aside0.mk e2
          clear e1 e2
          have HN1 := Aside0.mk (show ¬ S1 bw from fun hs => (HSS.out bw hs).elim HNW.out (fun h2 => by have := blk_lt HWB.out; omega))
          have HN2 := Aside0.mk (show ¬ S1 ba from fun hs => (HSS.out ba hs).elim HNA.out (fun h2 => by have := blk_lt HAB.out; omega))
          obtain ⟨wo, rfl⟩ : ∃ wo : World, wo = wr := ⟨_, rfl⟩
          have HW1 := Aside0.mk (blk_kept HWB.out HB.out.k HNW.out)
          have HA1 := Aside0.mk (blk_kept HAB.out HB.out.k HNA.out)
          obtain ⟨ad193, e193, hx193⟩ := Kd.at_int (Kd.R_reads' HL.out).2.2 (i : Int) (by omega) (by omega)
          cases e193
          simp only [Int.toNat_natCast] at hx193
          generalize hy : rd left (i : Int) = y at hx193
          have HY := Aside0.mk hy
          clear hy
          have hcl : addFn bw ba = addFn bw ba := rfl
          have hca : wo.cell? ⟨ba, 0, none⟩ = some (.func (.func 86) #[] #[.pointer (some ⟨bw, 0, none⟩), .pointer (some ⟨ba, 0, none⟩)]) := cell_of_one HA1.out
          clear hcl
          have HCA := Aside0.mk hca
          have HLT := Aside0.mk (blk_lt HA1.out)
          have HDR := Aside0.mk (Kd.R_reads' HD.out).2
          have HLR := Aside0.mk (Kd.R_reads' HL.out).2
          have HCL := Aside0.mk (show slices_Clone_int_int.f done = some done from by unfold slices_Clone_int_int.f; rw [if_pos (by have := HD100.out; omega)])
          obtain ⟨left2, hleft2⟩ : ∃ l2 : List Int, l2 = left.take i ++ left.drop (i + 1) := ⟨_, rfl⟩
          have HWF := Aside0.mk (show impl_without.f left (i : Int) = some left2 from by unfold impl_without.f; rw [if_pos (by omega), hleft2]; rfl)
          have HE3 := Aside0.mk (show ordF step d (done ++ [y]) left2 s1 = some s3 from by rw [hleft2, ← HY.out]; exact HE1.out)
          clear hleft2 HE1
          have HBi := Aside0.mk (Below.refl wo.heap.size wo)
          go_wp2
          go_region_held3 (fun w' => w'.cell? ⟨ba, 0, none⟩ = some (.func (.func 86) #[] #[.pointer (some ⟨bw, 0, none⟩), .pointer (some ⟨ba, 0, none⟩)])) (first | assumption | go_keep) (first | (go_at_call 87; refine (slices_Clone_int_int.calls _ _ done done _ ?sA1 HDR.out.1 HCL.out).mono ?_; (case sA1 => exact (Kd.C_below HDR.out.2 (by repeat (first | exact HBi.out | apply below_alloc | apply pw_below_drewN | apply below_drew1)))); rintro e w5 ⟨v5, rfl, ho5, hb5⟩; (first | (have n_ := Aside0.mk (blk_below (blk_drew (blk_new _ (.cells #[.int .i64 y] 3))) hb5); have HK := n_; clear n_) | (have n_ := Aside0.mk (blk_below (blk_new _ (.cells #[.int .i64 y] 3)) hb5); have HK := n_; clear n_) | skip); have n0_ : Aside0 (Kd.R (Kd.int .i64) 3 w5 wo.heap.size (fun _ => True) v5 done) := Aside0.mk (Kd.R_lower ho5 (below_size (by repeat (first | exact HBi.out | apply below_alloc | apply pw_below_drewN | apply below_drew1)))); have n1_ : Aside0 (Below wo.heap.size wo w5) := Aside0.mk (below_step (by repeat (first | exact HBi.out | apply below_alloc | apply pw_below_drewN | apply below_drew1)) hb5); clear HBi; have HC5 := n0_; have HBi := n1_; clear n0_ n1_ hb5 ho5; have hcb : w5.cell? ⟨ba, 0, none⟩ = some (.func (.func 86) #[] #[.pointer (some ⟨bw, 0, none⟩), .pointer (some ⟨ba, 0, none⟩)]) := (HBi.out.cell (p := ⟨ba, 0, none⟩) HLT.out).trans HCA.out) | (go_at_call 88; refine (impl_without.calls _ _ left (i : Int) left2 _ ?sA2 HLR.out.1 HWF.out).mono ?_; (case sA2 => exact (Kd.C_below HLR.out.2 (by repeat (first | exact HBi.out | apply below_alloc | apply pw_below_drewN | apply below_drew1)))); rintro e w7 ⟨v7, rfl, ho7, hb7⟩; have n0_ : Aside0 (Kd.R (Kd.int .i64) 3 w7 wo.heap.size (fun _ => True) v7 left2) := Aside0.mk (Kd.R_lower ho7 (below_size (by repeat (first | exact HBi.out | apply below_alloc | apply pw_below_drewN | apply below_drew1)))); have n2_ : Aside0 (Kd.R (Kd.int .i64) 3 w7 wo.heap.size (fun _ => True) v6 (done ++ [y])) := Aside0.mk (Kd.R_below (by (with_reducible repeat (first | apply Kd.R_alloc | apply Kd.R_drewN | apply Kd.R_drew)); exact HO6.out) hb7); have n1_ : Aside0 (Below wo.heap.size wo w7) := Aside0.mk (below_step (by repeat (first | exact HBi.out | apply below_alloc | apply pw_below_drewN | apply below_drew1)) hb7); clear HBi HO6; have HW7 := n0_; have HO6 := n2_; have HBi := n1_; clear n0_ n1_ n2_ hb7 ho7; have hcb7 : w7.cell? ⟨ba, 0, none⟩ = some (.func (.func 86) #[] #[.pointer (some ⟨bw, 0, none⟩), .pointer (some ⟨ba, 0, none⟩)]) := (HBi.out.cell (p := ⟨ba, 0, none⟩) HLT.out).trans HCA.out) | (refine Kd.R_append_rows_step (Kd.int .i64) (w0 := wo) wo.heap.size (by simp [Region.wanted]) (.tmp 23) (.tmp 25) 41 3 (.int .i64 0) 8 (by rfl) Try.underlying41 infoI (by rfl) (by decide) (by omega) v5 done [y] _ 1 1 (fun _ => True) (fun _ => False) (by rfl) (by rfl) ?aO ?aR (fun _ _ h_ => h_) (fun _ h_ => h_.elim) (fun _ _ => trivial) ?aB ?aS (by have := HD100.out; omega) ?_; (case aO => exact (by (with_reducible repeat (first | apply Kd.R_alloc | apply Kd.R_drewN | apply Kd.R_drew)); exact HC5.out)); (case aR => exact row_one (by first | exact HK.out | exact blk_new _ _)); (case aB => repeat (first | exact HBi.out | apply below_alloc | apply pw_below_drewN | apply below_drew1)); (case aS => exact below_size (by repeat (first | exact HBi.out | apply below_alloc | apply pw_below_drewN | apply below_drew1))); intro v6 w6 ho6 hb6 hg6 hat6; have HO6 := Aside0.mk ho6; clear HBi; have HBi := Aside0.mk hb6; clear hg6 hat6 ho6 hb6; have hcb6 : w6.cell? ⟨ba, 0, none⟩ = some (.func (.func 86) #[] #[.pointer (some ⟨bw, 0, none⟩), .pointer (some ⟨ba, 0, none⟩)]) := (HBi.out.cell (p := ⟨ba, 0, none⟩) HLT.out).trans HCA.out) | (go_at_fn 86; refine (IH.out (done ++ [y]) left2 v6 v7 s1 s3 S1 _ ?hI ?hBw ?hbw ?hba HN1.out HN2.out ?hd ?hl HE3.out).mono ?_; (case hI => exact CL.out.move _ _ _ _ HI.out (fun k_ hk_ _ => HBi.out.block k_ hk_) HBi.out.size); (case hBw => exact Nat.le_trans HBW.out (Nat.le_trans (eff_size HB.out) HBi.out.size)); (case hbw => exact blk_below HW1.out HBi.out); (case hba => exact blk_below HA1.out HBi.out); (case hd => exact Kd.R_lower (fresh_row HO6.out (fun k_ h_ => CL.out.lt _ _ _ _ HI.out h_)) (Nat.le_trans HBW.out (eff_size HB.out))); (case hl => exact Kd.R_lower (fresh_row HW7.out (fun k_ h_ => CL.out.lt _ _ _ _ HI.out h_)) (Nat.le_trans HBW.out (eff_size HB.out))); rintro e w30 ⟨rfl, S3, hi3, he3, hs3⟩; have HI3 := Aside0.mk hi3; have HE30 : Aside0 (Eff S1 wo w30) := Aside0.mk (eff_then (Eff.of_below HBi.out) he3 (fun _ h_ => .inl h_)); have HS30 : Aside0 (∀ k_, S3 k_ → S1 k_ ∨ wo.heap.size ≤ k_) := Aside0.mk (fun k_ h_ => (hs3 k_ h_).elim .inl (fun h2_ => .inr (h2_.elim (fun h3_ => ((Kd.R_bound HO6.out).1 k_ h3_).2.1) (fun h3_ => Nat.le_trans HBi.out.size h3_)))); have HB3 := Aside0.mk (eff_then HB.out HE30.out HSS.out); have HS3 : Aside0 (∀ k_, S3 k_ → S k_ ∨ W.heap.size ≤ k_) := Aside0.mk (fun k_ h_ => (HS30.out k_ h_).elim (HSS.out k_) (fun h2_ => .inr (Nat.le_trans (eff_size HB.out) h2_))); have HD3 := Aside0.mk (clo_row HD.out HE30.out HS30.out); have HL3 := Aside0.mk (clo_row HL.out HE30.out HS30.out); have hcb30 : w30.cell? ⟨ba, 0, none⟩ = some (.func (.func 86) #[] #[.pointer (some ⟨bw, 0, none⟩), .pointer (some ⟨ba, 0, none⟩)]) := cell_of_one (blk_kept HA1.out HE30.out.k HN2.out); clear hi3 he3 hs3))
          all_goals
            go_wp2
            go_roundg (left.length - (i + 1))
            case measure => omega
            case rel => exact ⟨i + 1, s3, S3, by go_num, by omega, by omega, ⟨HE2.out⟩, ⟨HI3.out⟩, ⟨HB3.out⟩, ⟨HS3.out⟩, ⟨HD3.out⟩, ⟨HL3.out⟩⟩
        · have hltz : ¬ (i : Int) < (left.length : Int) := by omega
          have h1 := HA.out
          clear HA
          rw [show left.length - i = 0 from by omega] at h1
          obtain rfl := Option.some.inj h1
          clear h1
          go_wp2
          go_end0
          exact ⟨rfl, S1, HI.out, HB.out, fun k_ h_ => (HSS.out k_ h_).elim .inl (fun h2_ => .inr (.inr h2_))⟩
    · rw [if_neg hle] at h
      cases h
theorem ordLoop_mono {α : Type} {r1 r2 : List Int → List Int → α → Option α} (h : ∀ a b s, LeO (r1 a b s) (r2 a b s)) (done left : List Int) : ∀ c i s, LeO (ordLoop r1 done left c i s) (ordLoop r2 done left c i s)
  | 0, _, _ => LeO.refl _
  | c + 1, i, s => LeO.bind (h _ _ _) (fun _ => ordLoop_mono h done left c (i + 1) _)
theorem ordF_mono {α : Type} {s1 s2 : α → List Int → Option α} (h : ∀ s xs, LeO (s1 s xs) (s2 s xs)) : ∀ d done left s, LeO (ordF s1 d done left s) (ordF s2 d done left s)
  | 0, done, left, s => by
    rw [ordF, ordF]
    exact LeO.ite (h _ _) (LeO.refl _)
  | d + 1, done, left, s => by
    rw [ordF, ordF]
    exact LeO.ite (ordLoop_mono (fun a b s => ordF_mono h d a b s) done left _ _ _) (LeO.refl _)
def ordersF {α : Type} (step : α → List Int → Option α) (k : Nat) (n : Int) (s : α) : Option α := (impl_identity.f k n).bind fun l => ordF step l.length [] l s
theorem ordersF_mono {α : Type} {s1 s2 : α → List Int → Option α} (h : ∀ s xs, LeO (s1 s xs) (s2 s xs)) (k : Nat) (n : Int) (s : α) : LeO (ordersF s1 k n s) (ordersF s2 (k + 1) n s) := LeO.bind (impl_identity.mono _ _) (fun _ => ordF_mono h _ _ _ _)
set_option maxHeartbeats 16000000 in
set_option maxRecDepth 100000 in
theorem impl_orders.calls {α : Type} (step : α → List Int → Option α) (I : α → (Nat → Prop) → World → Prop) (g : Nat) (lb : Array Value) (B : Nat) (cl0 : CloList g lb B I step) (k : Nat) (n : Int) (st0 : α) (S0 : Nat → Prop) (rs : α) (w : World) (hi0 : I st0 S0 w) (hBw : B ≤ w.heap.size) (h : ordersF step k n st0 = some rs) :
    Calls Try.prog 75 #[.int .i64 n, .func (.func g) #[] lb] w fun e w' => e = .returned (.tuple #[]) ∧ ∃ (S' : Nat → Prop), I rs S' w' ∧ Eff S0 w w' ∧ ∀ k_, S' k_ → S0 k_ ∨ w.heap.size ≤ k_ := by
  have eo : ∀ args w, (callFunc 86 args).run Try.prog w = .ok (.enter 86 args) w := enters_of Try.func86 (by kernel_rfl) rfl
  have hmf : ∀ (fn : Fn) (first cap : Array Value) (w : World), (Instr.makeFunc fn first cap).run Try.prog w = .ok (.func fn first cap) w := fun _ _ _ _ => rfl
  unfold ordersF at h
  replace h := Option.bind_eq_some_iff.mp h
  obtain ⟨l, e1, h⟩ := h
  have HID := Aside0.mk e1
  have HH := Aside0.mk h
  have CL := Aside0.mk cl0
  have HI := Aside0.mk hi0
  have HBW := Aside0.mk hBw
  clear cl0 hi0 hBw e1 h
  go_enter Try.func75, Try.ntmps75
  go_wp2
  have HSZ := Aside0.mk (show (w.alloc (.cells #[.func (.func g) #[] lb] 64)).heap.size = w.heap.size + 1 from Array.size_push _)
  have HLT := Aside0.mk (fun k_ (h_ : S0 k_) => CL.out.lt _ _ _ _ HI.out h_)
  go_region_held3 (fun w' => w'.cell? ⟨w.heap.size + 1, 0, none⟩ = some (.func (.func 86) #[] #[.pointer (some ⟨w.heap.size, 0, none⟩), .pointer (some ⟨w.heap.size + 1, 0, none⟩)])) (first | assumption | go_keep) (first | (go_at_call 82; refine (impl_identity.calls k n l _ HID.out).mono ?_; rintro e w5 ⟨v5, rfl, ho5, hb5⟩; have HB : Aside0 (Below w.heap.size w w5) := Aside0.mk (below_step (below_drew1 (below_alloc (below_alloc (Below.refl w.heap.size w) (.cells #[.func (.func g) #[] lb] 64)) (.cells #[addFn w.heap.size (w.heap.size + 1)] 70))) hb5); have HBWK := Aside0.mk (blk_below (blk_drew (blk_alloc (blk_new w (.cells #[.func (.func g) #[] lb] 64)) (.cells #[addFn w.heap.size (w.heap.size + 1)] 70))) hb5); have HBAK : Aside0 (w5.heap[w.heap.size + 1]? = some (.cells #[addFn w.heap.size (w.heap.size + 1)] 70 (0, 0))) := Aside0.mk (blk_below (blk_drew (by rw [← HSZ.out]; exact blk_new (w.alloc (.cells #[.func (.func g) #[] lb] 64)) _)) hb5); have HO : Aside0 (Kd.R (Kd.int .i64) 3 w5 w.heap.size (fun _ => True) v5 l) := Aside0.mk (Kd.R_lower ho5 (below_size (below_drew1 (below_alloc (below_alloc (Below.refl w.heap.size w) (.cells #[.func (.func g) #[] lb] 64)) (.cells #[addFn w.heap.size (w.heap.size + 1)] 70))))); have hcb : w5.cell? ⟨w.heap.size + 1, 0, none⟩ = some (.func (.func 86) #[] #[.pointer (some ⟨w.heap.size, 0, none⟩), .pointer (some ⟨w.heap.size + 1, 0, none⟩)]) := cell_of_one HBAK.out; clear ho5 hb5) | (go_at_fn 86; refine (impl_orders_1.calls step I g lb B CL.out w.heap.size (w.heap.size + 1) l.length [] l (.slice none 0 0) v5 st0 rs S0 _ ?hI ?hBw HBWK.out HBAK.out ?hnw ?hna (Kd.R_nil _ _ _ _ _) ?hl HH.out).mono ?_; (case hI => exact CL.out.move _ _ _ _ HI.out (fun k_ hk_ _ => HB.out.block k_ hk_) HB.out.size); (case hBw => exact Nat.le_trans HBW.out HB.out.size); (case hnw => exact fun h_ => Nat.lt_irrefl _ (HLT.out _ h_)); (case hna => exact fun h_ => Nat.not_succ_le_self _ (Nat.le_of_lt (HLT.out _ h_))); (case hl => exact Kd.R_lower (fresh_row HO.out (fun k_ h_ => HLT.out k_ h_)) HBW.out); rintro e w9 ⟨rfl, S3, hi3, he3, hs3⟩; have HI3 := Aside0.mk hi3; have HE3 := Aside0.mk (eff_then (Eff.of_below HB.out) he3 (fun _ h_ => .inl h_)); have HS3 : Aside0 (∀ k_, S3 k_ → S0 k_ ∨ w.heap.size ≤ k_) := Aside0.mk (fun k_ h_ => (hs3 k_ h_).elim .inl (fun h2_ => h2_.elim (fun e_ => by simp [Value.ownBlock] at e_) (fun h3_ => .inr (Nat.le_trans HB.out.size h3_)))); have hcb9 : w9.cell? ⟨w.heap.size + 1, 0, none⟩ = some (.func (.func 86) #[] #[.pointer (some ⟨w.heap.size, 0, none⟩), .pointer (some ⟨w.heap.size + 1, 0, none⟩)]) := cell_of_one (blk_kept HBAK.out he3.k (fun h_ => Nat.not_succ_le_self _ (Nat.le_of_lt (HLT.out _ h_)))); clear hi3 he3 hs3))
  all_goals
    go_wp2
    go_end0
    exact ⟨rfl, S3, HI3.out, HE3.out, HS3.out⟩

end Go.Proofs.Ytghogdffocnjnaa.Q
