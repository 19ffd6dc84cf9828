/- MeanMeetings, by its sums. The counts are told as lists; how often two wires have met is told by its sum alone (modulo 2 to the 64); both sides come to one sum. No condition. -/
import Derived.Test.YtabobnlpcapohaaQm1
import Derived.Test.YtabobnlpcapohaaQm6
import Derived.Test.YtabobnlpcapohaaQm7
import Derived.Test.YtabobnlpcapohaaQm3
import Derived.Test.YtabobnlpcapohaaQm10
import Derived.IntWalk
import Derived.Test.YtabobnlpcapohaaQm0
import Derived.Test.YtabobnlpcapohaaQm5
import Derived.Test.YtabobnlpcapohaaQm4
import Derived.Test.YtabobnlpcapohaaQm8
namespace Go.Proofs.Ytabobnlpcapohaa.Pure
open Go.RowKit Go.Proofs.Ytabobnlpcapohaa.Q Go.Proofs.YtabobnlpcapohaaW.PrintWords Go.Proofs.YtabobnlpcapohaaW.PrintLast
set_option linter.unusedSimpArgs false
set_option linter.unusedVariables false
namespace FnExactMeanMeetingsAid
theorem between_in (a lo hi : Int) (h1 : lo ≤ a) (h2 : a ≤ hi) : impl_between.f a lo hi = some true := by
  unfold impl_between.f; rw [if_pos h1, decide_eq_true h2]
theorem between_out (a lo hi : Int) (h : a < lo ∨ hi < a) : impl_between.f a lo hi = some false := by
  unfold impl_between.f
  split
  · rw [decide_eq_false (by omega)]
  · rfl
theorem l1In_in (a lo hi : Int) (h1 : lo ≤ a) (h2 : a ≤ hi) : spec_l1In.f a lo hi = some true := by
  unfold spec_l1In.f; rw [if_pos h1, decide_eq_true h2]
theorem l1In_out (a lo hi : Int) (h : a < lo ∨ hi < a) : spec_l1In.f a lo hi = some false := by
  unfold spec_l1In.f
  split
  · rw [decide_eq_false (by omega)]
  · rfl
def ov (p r : Nat) : Nat := if p = r then r + 1 else if p = r + 1 then r else p
def ix (n a r : Nat) : Nat := ov (a / n) r * n + ov (a % n) r
def hit (n a r : Nat) : Nat := if ov (a / n) r = a % n ∧ ov (a % n) r = a / n then 1 else 0
def adj (n a : Nat) : Nat := if a / n = a % n + 1 ∨ a % n = a / n + 1 then 1 else 0
def hits (n a : Nat) : Nat → Nat → Nat
  | 0, _ => 0
  | d + 1, r => hit n a r + hits n a d (r + 1)
theorem w_in {x : Int} (h1 : -9223372036854775808 ≤ x) (h2 : x ≤ 9223372036854775807) : wrap64 x = x := by unfold wrap64; omega
theorem w_mod (x : Int) : ∃ z : Int, wrap64 x = x + z * 18446744073709551616 := ⟨(wrap64 x - x) / 18446744073709551616, by unfold wrap64; omega⟩
theorem facts : ∀ n ∈ List.range 7, 2 ≤ n → ∀ a ∈ List.range (n * n), (wrap64 (Int.tdiv (a : Int) (n : Int)) = ((a / n : Nat) : Int) ∧ Int.tmod (a : Int) (n : Int) = ((a % n : Nat) : Int) ∧ (a / n ≠ a % n → hits n a (n - 1) 0 = adj n a) ∧ adj n a ≤ 1) ∧ ∀ r ∈ List.range (n - 1),
    spec_laOver.f ((a / n : Nat) : Int) (r : Int) = some (ov (a / n) r : Int) ∧ spec_laOver.f ((a % n : Nat) : Int) (r : Int) = some (ov (a % n) r : Int) ∧
    impl_over.f ((a / n : Nat) : Int) (r : Int) = some (ov (a / n) r : Int) ∧ impl_over.f ((a % n : Nat) : Int) (r : Int) = some (ov (a % n) r : Int) ∧
    wrap64 ((wrap64 ((ov (a / n) r : Int) * (n : Int))) + (ov (a % n) r : Int)) = (ix n a r : Int) ∧ ix n a r < n * n ∧ (a / n ≠ a % n → ix n a r / n ≠ ix n a r % n) := by decide +kernel
def add (l : List Int) (i : Nat) (v : Int) : List Int := l.set i (l.getD i 0 + v)
def row (n a : Nat) (c : Int) : Nat → Nat → List Int → List Int
  | 0, _, l => l
  | d + 1, r, l => row n a c d (r + 1) (add l (ix n a r) c)
def rnd (n : Nat) (C : List Int) : Nat → Nat → List Int → List Int
  | 0, _, l => l
  | e + 1, a, l => rnd n C e (a + 1) (row n a (C.getD a 0) (n - 1) 0 l)
def nxt (n : Nat) (C : List Int) : List Int := rnd n C (n * n) 0 (List.replicate (n * n) 0)
def Cs (n : Nat) (C : List Int) : Nat → List Int
  | 0 => C
  | j + 1 => nxt n (Cs n C j)
structure G (n : Nat) (l : List Int) (s : Int) : Prop where
  len : l.length = n * n
  pos : ∀ i, 0 ≤ l.getD i 0
  dia : ∀ i, i / n = i % n → l.getD i 0 = 0
  sum : l.sum = s
theorem sum_set : ∀ (l : List Int) (i : Nat) (v : Int), i < l.length → (l.set i v).sum = l.sum - l.getD i 0 + v
  | [], i, v, h => by simp at h
  | x :: l, 0, v, h => by simp; omega
  | x :: l, i + 1, v, h => by
    have := sum_set l i v (by simpa using h)
    simp only [List.set_cons_succ, List.sum_cons, List.getD_cons_succ]
    omega
theorem sum_pos : ∀ (l : List Int), (∀ i, 0 ≤ l.getD i 0) → 0 ≤ l.sum
  | [], _ => by simp
  | x :: l, h => by
    have h1 := sum_pos l (fun i => by simpa using h (i + 1))
    have h2 := h 0
    simp only [List.getD_cons_zero] at h2
    simp only [List.sum_cons]; omega
theorem getD_le : ∀ (l : List Int) (i : Nat), (∀ i, 0 ≤ l.getD i 0) → l.getD i 0 ≤ l.sum
  | [], i, _ => by simp
  | x :: l, 0, h => by
    have := sum_pos l (fun i => by simpa using h (i + 1))
    simp only [List.getD_cons_zero, List.sum_cons]; omega
  | x :: l, i + 1, h => by
    have h1 := getD_le l i (fun i => by simpa using h (i + 1))
    have h2 := h 0
    simp only [List.getD_cons_zero] at h2
    simp only [List.getD_cons_succ, List.sum_cons]; omega
theorem getD_set (l : List Int) (i j : Nat) (v : Int) (h : i < l.length) : (l.set i v).getD j 0 = if i = j then v else l.getD j 0 := by
  simp only [List.getD_eq_getElem?_getD, List.getElem?_set]
  by_cases e : i = j
  · subst e; simp [h]
  · simp [e]
theorem G.add {n : Nat} {l : List Int} {s c : Int} (g : G n l s) (i : Nat) (h : i < n * n) (hc : 0 ≤ c) (hd : c = 0 ∨ i / n ≠ i % n) : G n (add l i c) (s + c) := by
  have hl : i < l.length := by rw [g.len]; exact h
  unfold FnExactMeanMeetingsAid.add
  refine ⟨by simp [g.len], fun j => ?_, fun j e => ?_, ?_⟩
  · rw [getD_set _ _ _ _ hl]
    have := g.pos i; have := g.pos j
    split <;> omega
  · rw [getD_set _ _ _ _ hl]
    have := g.dia j e
    split
    · next h' => subst h'; rcases hd with hd | hd
                 · omega
                 · exact absurd e hd
    · exact this
  · rw [sum_set _ _ _ hl, g.sum]; omega
theorem add0 (l : List Int) (i : Nat) : add l i 0 = l := by
  unfold add
  rw [Int.add_zero]
  by_cases h : i < l.length
  · rw [List.getD_eq_getElem?_getD, List.getElem?_eq_getElem h]; simp
  · exact List.set_eq_of_length_le (by omega)
theorem row0 (n a : Nat) : ∀ d r l, row n a 0 d r l = l
  | 0, _, _ => rfl
  | d + 1, r, l => by rw [row, add0]; exact row0 n a d (r + 1) l
theorem row_G (n a : Nat) (hn : 2 ≤ n) (hn6 : n ≤ 6) (ha : a < n * n) (c : Int) (hc : 0 ≤ c) (hd : c = 0 ∨ a / n ≠ a % n) : ∀ d r (l : List Int) (s : Int), r + d = n - 1 → G n l s → G n (row n a c d r l) (s + (d : Int) * c)
  | 0, _, l, s, _, g => by simpa [row] using g
  | d + 1, r, l, s, hr, g => by
    have f := (facts n (List.mem_range.2 (by omega)) hn a (List.mem_range.2 ha)).2 r (List.mem_range.2 (by omega))
    have := row_G n a hn hn6 ha c hc hd d (r + 1) _ _ (by omega) (g.add (ix n a r) f.2.2.2.2.2.1 hc (hd.imp id f.2.2.2.2.2.2))
    rw [row]
    rw [show ((d + 1 : Nat) : Int) * c = c + (d : Int) * c by rw [Int.natCast_add, Int.add_mul]; simp; omega, ← Int.add_assoc]
    exact this
theorem rnd_G (n : Nat) (hn : 2 ≤ n) (hn6 : n ≤ 6) (C : List Int) (sC : Int) (gC : G n C sC) : ∀ e a (l : List Int) (s : Int), a + e = n * n → G n l s → G n (rnd n C e a l) (s + ((n - 1 : Nat) : Int) * (C.drop a).sum)
  | 0, a, l, s, h, g => by
    rw [List.drop_of_length_le (by rw [gC.len]; omega)]; simpa [rnd] using g
  | e + 1, a, l, s, h, g => by
    have hl : a < C.length := by rw [gC.len]; omega
    have g1 := row_G n a hn hn6 (by omega) (C.getD a 0) (gC.pos a) (by by_cases e : a / n = a % n
                                                                       · exact Or.inl (gC.dia a e)
                                                                       · exact Or.inr e) (n - 1) 0 l s (by omega) g
    have g2 := rnd_G n hn hn6 C sC gC e (a + 1) _ _ (by omega) g1
    rw [rnd, List.drop_eq_getElem_cons hl, List.sum_cons, Int.mul_add, ← Int.add_assoc]
    rw [List.getD_eq_getElem?_getD, List.getElem?_eq_getElem hl] at g2
    simpa [List.getD_eq_getElem?_getD, List.getElem?_eq_getElem hl] using g2
theorem rep_G (n : Nat) : G n (List.replicate (n * n) 0) 0 := by
  refine ⟨by simp, fun i => ?_, fun i _ => ?_, ?_⟩
  · simp [List.getD_eq_getElem?_getD, List.getElem?_replicate]; split <;> simp
  · simp [List.getD_eq_getElem?_getD, List.getElem?_replicate]; split <;> simp
  · generalize n * n = m
    induction m with
    | zero => rfl
    | succ m ih => simp [List.replicate_succ, ih]
theorem nxt_G (n : Nat) (hn : 2 ≤ n) (hn6 : n ≤ 6) (C : List Int) (sC : Int) (gC : G n C sC) : G n (nxt n C) (((n - 1 : Nat) : Int) * sC) := by
  have := rnd_G n hn hn6 C sC gC (n * n) 0 _ _ (by omega) (rep_G n)
  rw [List.drop_zero, gC.sum, Int.zero_add] at this
  exact this
theorem Cs_G (n : Nat) (hn : 2 ≤ n) (hn6 : n ≤ 6) (C : List Int) (gC : G n C 1) : ∀ j, G n (Cs n C j) (((n - 1) ^ j : Nat) : Int)
  | 0 => by simpa [Cs] using gC
  | j + 1 => by
    have := nxt_G n hn hn6 _ _ (Cs_G n hn hn6 C gC j)
    rw [Cs, Nat.pow_succ, Nat.mul_comm]
    exact_mod_cast this
def Bd : Int := 4000000000000000000
theorem s2 (n : Nat) (hn : 2 ≤ n) (hn6 : n ≤ 6) (a : Nat) (ha : a < n * n) (k : Int) (x11 x77 : List Int) (x12 x78 c : Int) (hx : x11.length = n * n) (hc : 0 ≤ c) (hd : c = 0 ∨ a / n ≠ a % n) (K : Nat) : ∀ d r (x13 x14 : List Int) (s : Int), r + d = n - 1 → G n x13 s → s + (d : Int) * c ≤ Bd → x14.length = n * n →
    ∃ x14' z, x14'.length = n * n ∧ x14'.sum = x14.sum + (d : Int) * x11.getD a 0 + ((hits n a d r : Nat) : Int) * c + z * 18446744073709551616 ∧
      spec_MeanMeetings.l2 (K + d + 1) n k x11 x12 x13 x14 a c ((a / n : Nat) : Int) ((a % n : Nat) : Int) r x77 x78 a = spec_MeanMeetings.l1 K n k x11 x12 (row n a c d r x13) x14' x77 x78 ((a : Int) + 1)
  | 0, r, x13, x14, s, hr, g, hB, h14 => by
    refine ⟨x14, 0, h14, by simp [hits], ?_⟩
    have hrc : (r : Int) = (n : Int) - 1 := by omega
    have hN : n * n ≤ 36 := Nat.mul_le_mul hn6 hn6
    rw [show K + 0 + 1 = K + 1 by omega]
    simp only [spec_MeanMeetings.l2, row]
    rw [w_in (x := (n : Int) - 1) (by omega) (by omega), if_neg (by omega), w_in (x := (a : Int) + 1) (by omega) (by omega)]
  | d + 1, r, x13, x14, s, hr, g, hB, h14 => by
    obtain ⟨f1, f2, _, _, f3, f4, f5⟩ := (facts n (List.mem_range.2 (by omega)) hn a (List.mem_range.2 ha)).2 r (List.mem_range.2 (by omega))
    have hN : n * n ≤ 36 := Nat.mul_le_mul hn6 hn6
    have hdc : 0 ≤ (d : Int) * c := Int.mul_nonneg (by omega) hc
    have hsp : ((d + 1 : Nat) : Int) * c = (d : Int) * c + c := by rw [Int.natCast_add, Int.add_mul]; simp
    have hsq : ((d + 1 : Nat) : Int) * x11.getD a 0 = (d : Int) * x11.getD a 0 + x11.getD a 0 := by rw [Int.natCast_add, Int.add_mul]; simp
    rw [hsp] at hB
    have hle := getD_le x13 (ix n a r) g.pos
    have hge := g.pos (ix n a r)
    rw [g.sum] at hle
    unfold Bd at hB
    have g1 := g.add (ix n a r) f4 hc (hd.imp id f5)
    have hi13 : ix n a r < x13.length := by rw [g.len]; exact f4
    have hi14 : ix n a r < x14.length := by omega
    have key : ∀ y : List Int, y.length = n * n → (∃ z, y.sum = x14.sum + x11.getD a 0 + ((hit n a r : Nat) : Int) * c + z * 18446744073709551616) →
        ∃ x14' z, x14'.length = n * n ∧ x14'.sum = x14.sum + ((d + 1 : Nat) : Int) * x11.getD a 0 + ((hits n a (d + 1) r : Nat) : Int) * c + z * 18446744073709551616 ∧
      spec_MeanMeetings.l2 (K + d + 1) n k x11 x12 (add x13 (ix n a r) c) y a c ((a / n : Nat) : Int) ((a % n : Nat) : Int) ((r : Int) + 1) x77 x78 a = spec_MeanMeetings.l1 K n k x11 x12 (row n a c (d + 1) r x13) x14' x77 x78 ((a : Int) + 1) := by
      rintro y hy ⟨z, hz⟩
      obtain ⟨y', z', h1, h2, h3⟩ := s2 n hn hn6 a ha k x11 x77 x12 x78 c hx hc hd K d (r + 1) (add x13 (ix n a r) c) y (s + c) (by omega) g1 (by unfold Bd; omega) hy
      refine ⟨y', z + z', h1, ?_, ?_⟩
      · rw [h2, hz, hsq]
        simp only [hits, Int.natCast_add, Int.add_mul]
        omega
      · rw [row]
        exact_mod_cast h3
    rw [show K + (d + 1) + 1 = (K + d + 1) + 1 by omega]
    generalize K + d + 1 = Q at key ⊢
    simp only [spec_MeanMeetings.l2]
    rw [w_in (x := (n : Int) - 1) (by omega) (by omega), if_pos (by omega), f1, Option.bind_some, f2, Option.bind_some, f3, if_pos (by omega), if_pos (by omega), Option.bind_some, if_pos (by omega), if_pos (by omega), if_pos (by omega), Option.bind_some]
    simp only [rd, Int.toNat_natCast]
    rw [w_in (x := x13.getD (ix n a r) 0 + c) (by omega) (by omega), w_in (x := (r : Int) + 1) (by omega) (by omega)]
    obtain ⟨z1, e1⟩ := w_mod (x14.getD (ix n a r) 0 + x11.getD a 0)
    by_cases q1 : ov (a / n) r = a % n
    · rw [if_pos (by exact_mod_cast q1)]
      by_cases q2 : ov (a % n) r = a / n
      · rw [if_pos (by exact_mod_cast q2)]
        obtain ⟨z2, e2⟩ := w_mod (wrap64 (x14.getD (ix n a r) 0 + x11.getD a 0) + c)
        refine key _ (by simp [h14]) ⟨z1 + z2, ?_⟩
        rw [sum_set _ _ _ (by simpa using hi14), getD_set _ _ _ _ hi14, sum_set _ _ _ hi14, if_pos rfl, e2, e1]
        simp only [hit, q1, q2, and_self, if_true]
        omega
      · rw [if_neg (by exact_mod_cast q2)]
        refine key _ (by simp [h14]) ⟨z1, ?_⟩
        rw [sum_set _ _ _ hi14, e1]
        simp only [hit, q2, and_false, if_false]
        omega
    · rw [if_neg (by exact_mod_cast q1)]
      refine key _ (by simp [h14]) ⟨z1, ?_⟩
      rw [sum_set _ _ _ hi14, e1]
      simp only [hit, q1, false_and, if_false]
      omega
def Ms (n : Nat) (C : List Int) : Nat → Nat → Int
  | 0, _ => 0
  | e + 1, a => ((adj n a : Nat) : Int) * C.getD a 0 + Ms n C e (a + 1)
theorem s1 (n : Nat) (hn : 2 ≤ n) (hn6 : n ≤ 6) (k : Int) (T C : List Int) (j : Int) (sC : Int) (gC : G n C sC) (hT : T.length = n * n) (hsC : ((n - 1 : Nat) : Int) * sC ≤ Bd) (K : Nat) : ∀ e a (x13 x14 : List Int), a + e = n * n → G n x13 (((n - 1 : Nat) : Int) * (C.take a).sum) → x14.length = n * n →
    ∃ x14' z, x14'.length = n * n ∧ x14'.sum = x14.sum + ((n - 1 : Nat) : Int) * (T.drop a).sum + Ms n C e a + z * 18446744073709551616 ∧
      spec_MeanMeetings.l1 (K + e * (n + 1) + 1) n k T j x13 x14 C ((n * n : Nat) : Int) a = spec_MeanMeetings.l0 K n k (rnd n C e a x13) x14' (wrap64 (j + 1))
  | 0, a, x13, x14, h, g, h14 => by
    refine ⟨x14, 0, h14, ?_, ?_⟩
    · rw [List.drop_of_length_le (by omega)]; simp [Ms]
    · rw [show K + 0 * (n + 1) + 1 = K + 1 by omega]
      simp only [spec_MeanMeetings.l1, rnd]
      rw [if_neg (by omega)]
  | e + 1, a, x13, x14, h, g, h14 => by
    have ha : a < n * n := by omega
    have hN : n * n ≤ 36 := Nat.mul_le_mul hn6 hn6
    obtain ⟨⟨f1, f2, f3, f4⟩, _⟩ := facts n (List.mem_range.2 (by omega)) hn a (List.mem_range.2 ha)
    have hlC : a < C.length := by rw [gC.len]; exact ha
    have hlT : a < T.length := by omega
    have hdC : C.getD a 0 = 0 ∨ a / n ≠ a % n := by
      by_cases e : a / n = a % n
      · exact Or.inl (gC.dia a e)
      · exact Or.inr e
    have eC : (C.take (a + 1)).sum = (C.take a).sum + C.getD a 0 := by
      rw [List.take_succ_eq_append_getElem hlC, List.sum_append]
      simp [List.getD_eq_getElem?_getD, List.getElem?_eq_getElem hlC]
    have eT : (T.drop a).sum = T.getD a 0 + (T.drop (a + 1)).sum := by
      rw [List.drop_eq_getElem_cons hlT, List.sum_cons]
      simp [List.getD_eq_getElem?_getD, List.getElem?_eq_getElem hlT]
    have hpre : (C.take (a + 1)).sum ≤ sC := by
      have h1 := congrArg List.sum (List.take_append_drop (a + 1) C)
      rw [List.sum_append, gC.sum] at h1
      have := sum_pos (C.drop (a + 1)) (fun i => by simpa [List.getD_eq_getElem?_getD] using gC.pos (a + 1 + i))
      omega
    have hs : ((n - 1 : Nat) : Int) * (C.take a).sum + ((n - 1 : Nat) : Int) * C.getD a 0 = ((n - 1 : Nat) : Int) * (C.take (a + 1)).sum := by rw [eC, Int.mul_add]
    obtain ⟨y, z, h1, h2, h3⟩ := s2 n hn hn6 a ha k T C j ((n * n : Nat) : Int) (C.getD a 0) hT (gC.pos a) hdC (K + e * (n + 1) + 1) (n - 1) 0 x13 x14 _ (by omega) g (by rw [hs]; exact Int.le_trans (Int.mul_le_mul_of_nonneg_left hpre (by omega)) hsC) h14
    have g1 := row_G n a hn hn6 ha (C.getD a 0) (gC.pos a) hdC (n - 1) 0 x13 _ (by omega) g
    rw [hs] at g1
    obtain ⟨y', z', k1, k2, k3⟩ := s1 n hn hn6 k T C j sC gC hT hsC K e (a + 1) _ y (by omega) g1 h1
    refine ⟨y', z + z', k1, ?_, ?_⟩
    · rw [k2, h2, eT, Int.mul_add]
      have : ((hits n a (n - 1) 0 : Nat) : Int) * C.getD a 0 = ((adj n a : Nat) : Int) * C.getD a 0 := by
        rcases hdC with q | q
        · rw [q]; simp
        · rw [f3 q]
      rw [this]
      simp only [Ms]
      omega
    · rw [show K + (e + 1) * (n + 1) + 1 = (K + e * (n + 1) + 1 + (n - 1) + 1) + 1 by rw [Nat.succ_mul]; omega]
      simp only [spec_MeanMeetings.l1]
      rw [if_pos (by omega), if_pos (by omega), if_pos (by omega), if_neg (by omega), f1, f2]
      simp only [rd, Int.toNat_natCast]
      rw [rnd]
      rw [← k3]
      exact_mod_cast h3
def Hs (n : Nat) (C : List Int) : Nat → Int
  | 0 => 0
  | j + 1 => ((n - 1 : Nat) : Int) * Hs n C j + Ms n (Cs n C j) (n * n) 0
theorem pw : ∀ n ∈ List.range 7, 2 ≤ n → ∀ j ∈ List.range 21, ((((n - 1) ^ j : Nat) : Int) ≤ 100000000000000 ∧ 0 < (n - 1) ^ j ∧ spec_chAll.f 30 (n : Int) (j : Int) = some (((n - 1) ^ j : Nat) : Int) ∧ impl_power.f 30 ((n - 1 : Nat) : Int) (j : Int) = some (((n - 1) ^ j : Nat) : Int)) := by decide +kernel
theorem s0 (n : Nat) (hn : 2 ≤ n) (hn6 : n ≤ 6) (C : List Int) (gC : G n C 1) (k : Nat) (hk : k ≤ 20) (K : Nat) : ∀ d j (T : List Int) (z : Int), j + d = k → T.length = n * n → T.sum = Hs n C j + z * 18446744073709551616 →
    ∃ T' z', T'.length = n * n ∧ T'.sum = Hs n C k + z' * 18446744073709551616 ∧
      spec_MeanMeetings.l0 (K + d * (n * n * (n + 1) + 2) + 1) n k (Cs n C j) T j = spec_MeanMeetings.l3 K n k 0 T' ((n * n : Nat) : Int) 0
  | 0, j, T, z, h, hT, hS => by
    obtain rfl : j = k := by omega
    refine ⟨T, z, hT, hS, ?_⟩
    rw [show K + 0 * (n * n * (n + 1) + 2) + 1 = K + 1 by omega]
    simp only [spec_MeanMeetings.l0]
    rw [if_neg (by omega), hT]
  | d + 1, j, T, z, h, hT, hS => by
    have hN : n * n ≤ 36 := Nat.mul_le_mul hn6 hn6
    have hnn : wrap64 ((n : Int) * (n : Int)) = ((n * n : Nat) : Int) := by
      rw [Int.natCast_mul]
      have : (n : Int) * (n : Int) = ((n * n : Nat) : Int) := by rw [Int.natCast_mul]
      rw [this]; exact w_in (by omega) (by omega)
    obtain ⟨p1, _⟩ := pw n (List.mem_range.2 (by omega)) hn (j + 1) (List.mem_range.2 (by omega))
    have gj := Cs_G n hn hn6 C gC j
    have hb : ((n - 1 : Nat) : Int) * (((n - 1) ^ j : Nat) : Int) ≤ Bd := by
      unfold Bd
      have : ((n - 1 : Nat) : Int) * (((n - 1) ^ j : Nat) : Int) = (((n - 1) ^ (j + 1) : Nat) : Int) := by rw [Nat.pow_succ, Nat.mul_comm]; exact (Int.natCast_mul _ _).symm
      omega
    obtain ⟨y, z1, h1, h2, h3⟩ := s1 n hn hn6 k T (Cs n C j) j _ gj hT hb (K + d * (n * n * (n + 1) + 2) + 1) (n * n) 0 (List.replicate (n * n) 0) (List.replicate (n * n) 0) (by omega) (by simpa using rep_G n) (by simp)
    have hr0 : (List.replicate (n * n) (0 : Int)).sum = 0 := (rep_G n).sum
    obtain ⟨T', z', k1, k2, k3⟩ := s0 n hn hn6 C gC k hk K d (j + 1) y (((n - 1 : Nat) : Int) * z + z1) (by omega) h1 (by rw [h2, hr0, List.drop_zero, hS, Hs, Int.mul_add, Int.add_mul, Int.mul_assoc]; omega)
    refine ⟨T', z', k1, k2, ?_⟩
    rw [← k3, show K + (d + 1) * (n * n * (n + 1) + 2) + 1 = (K + d * (n * n * (n + 1) + 2) + 1 + n * n * (n + 1) + 1) + 1 by rw [Nat.succ_mul]; omega]
    clear k3
    generalize K + d * (n * n * (n + 1) + 2) + 1 = Q at h3 ⊢
    generalize hR : spec_MeanMeetings.l0 Q n k (Cs n C (j + 1)) y ((j + 1 : Nat) : Int) = R
    simp only [spec_MeanMeetings.l0]
    rw [← hR]
    rw [if_pos (by omega), hnn, if_pos (by omega), if_pos (by omega), Int.toNat_natCast, gj.len]
    rw [w_in (x := (j : Int) + 1) (by omega) (by omega)] at h3
    rw [Cs, nxt]
    exact_mod_cast h3
theorem s3 (n k : Int) (T : List Int) (hT : T.length ≤ 100) (K : Nat) : ∀ d i (v : Int) (z : Int), i + d = T.length → -9223372036854775808 ≤ v → v ≤ 9223372036854775807 → v = (T.take i).sum + z * 18446744073709551616 →
    ∃ v' z', -9223372036854775808 ≤ v' ∧ v' ≤ 9223372036854775807 ∧ v' = T.sum + z' * 18446744073709551616 ∧
      spec_MeanMeetings.l3 (K + d + 1) n k v T (T.length : Int) (i : Int) = ((spec_chAll.f K n k).bind fun t301 => ((spec_chRatio.f K v' t301).bind fun bt302 => (some (bt302.1, bt302.2, true))))
  | 0, i, v, z, h, hv1, hv2, hv => by
    refine ⟨v, z, hv1, hv2, ?_, ?_⟩
    · rw [hv, List.take_of_length_le (by omega)]
    · rw [show K + 0 + 1 = K + 1 by omega]
      simp only [spec_MeanMeetings.l3]
      rw [if_neg (by omega)]
  | d + 1, i, v, z, h, hv1, hv2, hv => by
    have hl : i < T.length := by omega
    obtain ⟨z1, e1⟩ := w_mod (v + T.getD i 0)
    have e2 : (T.take (i + 1)).sum = (T.take i).sum + T.getD i 0 := by
      rw [List.take_succ_eq_append_getElem hl, List.sum_append]
      simp [List.getD_eq_getElem?_getD, List.getElem?_eq_getElem hl]
    obtain ⟨v', z', k1, k2, k3, k4⟩ := s3 n k T hT K d (i + 1) (wrap64 (v + T.getD i 0)) (z + z1) (by omega) (by unfold wrap64; omega) (by unfold wrap64; omega) (by rw [e1, hv, e2]; omega)
    refine ⟨v', z', k1, k2, k3, ?_⟩
    rw [show K + (d + 1) + 1 = (K + d + 1) + 1 by omega]
    generalize K + d + 1 = Q at k4 ⊢
    simp only [spec_MeanMeetings.l3]
    rw [if_pos (by omega), if_pos (by omega), if_pos (by omega), w_in (x := (i : Int) + 1) (by omega) (by omega)]
    simp only [rd, Int.toNat_natCast]
    rw [← k4]
    rfl
theorem Ms_le (n : Nat) (hn : 2 ≤ n) (hn6 : n ≤ 6) (C : List Int) (s : Int) (g : G n C s) : ∀ e a, a + e = n * n → 0 ≤ Ms n C e a ∧ Ms n C e a ≤ (C.drop a).sum
  | 0, a, h => by rw [List.drop_of_length_le (by rw [g.len]; omega)]; simp [Ms]
  | e + 1, a, h => by
    obtain ⟨⟨f1, f2, f3, f4⟩, _⟩ := facts n (List.mem_range.2 (by omega)) hn a (List.mem_range.2 (by omega))
    obtain ⟨h1, h2⟩ := Ms_le n hn hn6 C s g e (a + 1) (by omega)
    have hl : a < C.length := by rw [g.len]; omega
    have h3 := g.pos a
    have h4 : (C.drop a).sum = C.getD a 0 + (C.drop (a + 1)).sum := by
      rw [List.drop_eq_getElem_cons hl, List.sum_cons]
      simp [List.getD_eq_getElem?_getD, List.getElem?_eq_getElem hl]
    rw [Ms, h4]
    rcases (by omega : adj n a = 0 ∨ adj n a = 1) with q | q
    · rw [q, show ((0 : Nat) : Int) = 0 from rfl, Int.zero_mul]; omega
    · rw [q, show ((1 : Nat) : Int) = 1 from rfl, Int.one_mul]; omega
theorem Hs_le (n : Nat) (hn : 2 ≤ n) (hn6 : n ≤ 6) (C : List Int) (gC : G n C 1) : ∀ j, j ≤ 20 → 0 ≤ Hs n C j ∧ Hs n C j ≤ (j : Int) * (((n - 1) ^ j : Nat) : Int)
  | 0, _ => by simp [Hs]
  | j + 1, h => by
    obtain ⟨h1, h2⟩ := Hs_le n hn hn6 C gC j (by omega)
    have gj := Cs_G n hn hn6 C gC j
    obtain ⟨m1, m2⟩ := Ms_le n hn hn6 _ _ gj (n * n) 0 (by omega)
    rw [List.drop_zero, gj.sum] at m2
    have hp : (((n - 1) ^ j : Nat) : Int) ≤ (((n - 1) ^ (j + 1) : Nat) : Int) := by
      exact_mod_cast Nat.pow_le_pow_right (by omega) (by omega)
    have e : (((n - 1) ^ (j + 1) : Nat) : Int) = ((n - 1 : Nat) : Int) * (((n - 1) ^ j : Nat) : Int) := by rw [Nat.pow_succ, Nat.mul_comm]; exact Int.natCast_mul _ _
    have h3 := Int.mul_le_mul_of_nonneg_left h2 (show (0 : Int) ≤ ((n - 1 : Nat) : Int) by omega)
    have h4 : ((n - 1 : Nat) : Int) * ((j : Int) * (((n - 1) ^ j : Nat) : Int)) = (j : Int) * (((n - 1) ^ (j + 1) : Nat) : Int) := by rw [e, Int.mul_left_comm]
    have h5 := Int.mul_nonneg (show (0 : Int) ≤ ((n - 1 : Nat) : Int) by omega) h1
    rw [Hs]
    refine ⟨by omega, ?_⟩
    rw [show ((j + 1 : Nat) : Int) * (((n - 1) ^ (j + 1) : Nat) : Int) = (j : Int) * (((n - 1) ^ (j + 1) : Nat) : Int) + (((n - 1) ^ (j + 1) : Nat) : Int) by rw [Int.natCast_add, Int.add_mul]; simp]
    omega
theorem i2 (n : Nat) (hn : 2 ≤ n) (hn6 : n ≤ 6) (a : Nat) (ha : a < n * n) (x10 : List (List Int)) (c x28 x29 x36 x37 : Int) (x35 : List Int) (hc : 0 ≤ c) (hd : c = 0 ∨ a / n ≠ a % n) (K : Nat) : ∀ d r (x11 : List Int) (s : Int), r + d = n - 1 → G n x11 s → s + (d : Int) * c ≤ Bd →
    impl_pairs.l2 (K + d + 1) n x10 x11 a c x28 x29 x35 x36 x37 ((n : Int) - 1) r = impl_pairs.l1 K n x10 (row n a c d r x11) x28 x29 x35 x36 (wrap64 (x37 + 1))
  | 0, r, x11, s, hr, g, hB => by
    rw [show K + 0 + 1 = K + 1 by omega]
    simp only [impl_pairs.l2, row]
    rw [if_neg (by omega)]
  | d + 1, r, x11, s, hr, g, hB => by
    obtain ⟨_, _, f1, f2, f3, f4, f5⟩ := (facts n (List.mem_range.2 (by omega)) hn a (List.mem_range.2 ha)).2 r (List.mem_range.2 (by omega))
    obtain ⟨⟨q1, q2, _, _⟩, _⟩ := facts n (List.mem_range.2 (by omega)) hn a (List.mem_range.2 ha)
    have hN : n * n ≤ 36 := Nat.mul_le_mul hn6 hn6
    have hdc : 0 ≤ (d : Int) * c := Int.mul_nonneg (by omega) hc
    have hsp : ((d + 1 : Nat) : Int) * c = (d : Int) * c + c := by rw [Int.natCast_add, Int.add_mul]; simp
    rw [hsp] at hB
    have hle := getD_le x11 (ix n a r) g.pos
    have hge := g.pos (ix n a r)
    rw [g.sum] at hle
    have hB' := hB
    unfold Bd at hB
    have g1 := g.add (ix n a r) f4 hc (hd.imp id f5)
    have hi : ix n a r < x11.length := by rw [g.len]; exact f4
    have ih := i2 n hn hn6 a ha x10 c x28 x29 x36 x37 x35 hc hd K d (r + 1) (add x11 (ix n a r) c) (s + c) (by omega) g1 (by unfold Bd; omega)
    rw [show K + (d + 1) + 1 = (K + d + 1) + 1 by omega, row, ← ih]
    generalize K + d + 1 = Q
    generalize hR : impl_pairs.l2 Q n x10 (add x11 (ix n a r) c) a c x28 x29 x35 x36 x37 ((n : Int) - 1) ((r + 1 : Nat) : Int) = R
    simp only [impl_pairs.l2]
    rw [← hR]
    rw [if_pos (by omega), if_neg (by omega), q1, q2, f1, Option.bind_some, f2, Option.bind_some, f3, if_pos (by omega), if_pos (by omega)]
    simp only [rd, Int.toNat_natCast]
    rw [w_in (x := x11.getD (ix n a r) 0 + c) (by omega) (by omega), w_in (x := (r : Int) + 1) (by omega) (by omega)]
    rfl
theorem i1 (n : Nat) (hn : 2 ≤ n) (hn6 : n ≤ 6) (C : List Int) (sC : Int) (gC : G n C sC) (x10 : List (List Int)) (hx : x10.length ≤ 1000) (x28 x29 : Int) (hsC : ((n - 1 : Nat) : Int) * sC ≤ Bd) (K : Nat) : ∀ e a (x11 : List Int), a + e = n * n → G n x11 (((n - 1 : Nat) : Int) * (C.take a).sum) →
    ∃ F, ∀ K, impl_pairs.l1 (K + F) n x10 x11 x28 x29 C ((n * n : Nat) : Int) a = impl_pairs.l0 K n (rnd n C e a x11) (x10 ++ [rnd n C e a x11]) x28 (wrap64 (x29 + 1))
  | 0, a, x11, h, g => by
    refine ⟨1, fun K => ?_⟩
    simp only [impl_pairs.l1, rnd]
    rw [if_neg (by omega), if_pos (by omega)]
  | e + 1, a, x11, h, g => by
    have ha : a < n * n := by omega
    have hN : n * n ≤ 36 := Nat.mul_le_mul hn6 hn6
    have hlC : a < C.length := by rw [gC.len]; exact ha
    have hdC : C.getD a 0 = 0 ∨ a / n ≠ a % n := by
      by_cases e : a / n = a % n
      · exact Or.inl (gC.dia a e)
      · exact Or.inr e
    have eC : (C.take (a + 1)).sum = (C.take a).sum + C.getD a 0 := by
      rw [List.take_succ_eq_append_getElem hlC, List.sum_append]
      simp [List.getD_eq_getElem?_getD, List.getElem?_eq_getElem hlC]
    have hpre : (C.take (a + 1)).sum ≤ sC := by
      have h1 := congrArg List.sum (List.take_append_drop (a + 1) C)
      rw [List.sum_append, gC.sum] at h1
      have := sum_pos (C.drop (a + 1)) (fun i => by simpa [List.getD_eq_getElem?_getD] using gC.pos (a + 1 + i))
      omega
    have hs : ((n - 1 : Nat) : Int) * (C.take a).sum + ((n - 1 : Nat) : Int) * C.getD a 0 = ((n - 1 : Nat) : Int) * (C.take (a + 1)).sum := by rw [eC, Int.mul_add]
    have g1 := row_G n a hn hn6 ha (C.getD a 0) (gC.pos a) hdC (n - 1) 0 x11 _ (by omega) g
    rw [hs] at g1
    obtain ⟨F, hF⟩ := i1 n hn hn6 C sC gC x10 hx x28 x29 hsC K e (a + 1) _ (by omega) g1
    have hge := gC.pos a
    rw [rnd]
    by_cases hp : C.getD a 0 > 0
    · refine ⟨F + (n - 1) + 1 + 1, fun K => ?_⟩
      have h3 := i2 n hn hn6 a ha x10 (C.getD a 0) x28 x29 ((n * n : Nat) : Int) (a : Int) C hge hdC (K + F) (n - 1) 0 x11 _ (by omega) g (by rw [hs]; exact Int.le_trans (Int.mul_le_mul_of_nonneg_left hpre (by omega)) hsC)
      rw [← hF K, show K + (F + (n - 1) + 1 + 1) = (K + F + (n - 1) + 1) + 1 by omega]
      generalize hR : impl_pairs.l1 (K + F) n x10 (row n a (C.getD a 0) (n - 1) 0 x11) x28 x29 C ((n * n : Nat) : Int) ((a + 1 : Nat) : Int) = R
      generalize K + F + (n - 1) + 1 = Q at h3 ⊢
      simp only [impl_pairs.l1]
      have hp' : rd C (a : Int) > 0 := by simpa only [rd, Int.toNat_natCast] using hp
      rw [if_pos (by omega), if_pos (by omega), if_pos (by omega), if_pos hp']
      simp only [rd, Int.toNat_natCast]
      rw [w_in (x := (n : Int) - 1) (by omega) (by omega)]
      rw [w_in (x := (a : Int) + 1) (by omega) (by omega)] at h3
      rw [← hR]
      exact_mod_cast h3
    · have h0 : C.getD a 0 = 0 := by omega
      refine ⟨F + 1, fun K => ?_⟩
      rw [← hF K, show K + (F + 1) = (K + F) + 1 by omega, h0, row0]
      generalize hR : impl_pairs.l1 (K + F) n x10 x11 x28 x29 C ((n * n : Nat) : Int) ((a + 1 : Nat) : Int) = R
      simp only [impl_pairs.l1]
      have hp' : ¬ rd C (a : Int) > 0 := by simpa only [rd, Int.toNat_natCast] using hp
      rw [if_pos (by omega), if_pos (by omega), if_pos (by omega), if_neg hp', w_in (x := (a : Int) + 1) (by omega) (by omega), ← hR]
      rfl
theorem hsq (n : Nat) (hn6 : n ≤ 6) : wrap64 ((n : Int) * (n : Int)) = ((n * n : Nat) : Int) := by
  have hN : n * n ≤ 36 := Nat.mul_le_mul hn6 hn6
  have : (n : Int) * (n : Int) = ((n * n : Nat) : Int) := by rw [Int.natCast_mul]
  rw [this]; exact w_in (by omega) (by omega)
theorem i0 (n : Nat) (hn : 2 ≤ n) (hn6 : n ≤ 6) (C : List Int) (gC : G n C 1) (k : Nat) (hk : k ≤ 20) : ∀ d j (x10 : List (List Int)), j + d = k → x10 = (List.range (j + 1)).map (Cs n C) →
    ∃ F, ∀ K, impl_pairs.l0 (K + F) n (Cs n C j) x10 k j = some ((List.range (k + 1)).map (Cs n C))
  | 0, j, x10, h, hx => by
    obtain rfl : j = k := by omega
    refine ⟨1, fun K => ?_⟩
    simp only [impl_pairs.l0]
    rw [if_neg (by omega), hx]
  | d + 1, j, x10, h, hx => by
    have hN : n * n ≤ 36 := Nat.mul_le_mul hn6 hn6
    obtain ⟨p1, _⟩ := pw n (List.mem_range.2 (by omega)) hn (j + 1) (List.mem_range.2 (by omega))
    have gj := Cs_G n hn hn6 C gC j
    have hb : ((n - 1 : Nat) : Int) * (((n - 1) ^ j : Nat) : Int) ≤ Bd := by
      unfold Bd
      have : ((n - 1 : Nat) : Int) * (((n - 1) ^ j : Nat) : Int) = (((n - 1) ^ (j + 1) : Nat) : Int) := by rw [Nat.pow_succ, Nat.mul_comm]; exact (Int.natCast_mul _ _).symm
      omega
    have hxl : x10.length ≤ 1000 := by rw [hx]; simp; omega
    obtain ⟨F1, h1⟩ := i1 n hn hn6 (Cs n C j) _ gj x10 hxl (k : Int) (j : Int) hb 0 (n * n) 0 (List.replicate (n * n) 0) (by omega) (by simpa using rep_G n)
    obtain ⟨F2, h2⟩ := i0 n hn hn6 C gC k hk d (j + 1) (x10 ++ [nxt n (Cs n C j)]) (by omega) (by rw [hx, List.range_succ (n := j + 1), List.map_append]; rfl)
    refine ⟨F2 + F1 + 1, fun K => ?_⟩
    rw [← h2 K, show K + (F2 + F1 + 1) = (K + F2) + F1 + 1 by omega]
    have h1' := h1 (K + F2)
    generalize hR : impl_pairs.l0 (K + F2) n (Cs n C (j + 1)) (x10 ++ [nxt n (Cs n C j)]) k ((j + 1 : Nat) : Int) = R
    generalize K + F2 + F1 = Q at h1' ⊢
    simp only [impl_pairs.l0]
    rw [if_pos (by omega), hsq n hn6, if_pos (by omega), if_pos (by omega), Int.toNat_natCast, gj.len, ← hR]
    rw [w_in (x := (j : Int) + 1) (by omega) (by omega)] at h1'
    exact_mod_cast h1'
theorem lift {α : Type} {f : Nat → Option α} (h : ∀ k, LeO (f k) (f (k + 1))) {k : Nat} {r : α} (e : f k = some r) : ∀ K, k ≤ K → f K = some r := by
  intro K hK
  obtain ⟨d, rfl⟩ : ∃ d, K = k + d := ⟨K - k, by omega⟩
  clear hK
  induction d with
  | zero => exact e
  | succ d ih => exact h _ _ ih
theorem m1 (n : Nat) (hn : 2 ≤ n) (hn6 : n ≤ 6) (C : List Int) (hC : C.length = n * n) (k j : Nat) (hj : j < k) (hk : k ≤ 20) (x47 : List (List Int)) (x48 x49 : Int) : ∀ e a (v z : Int), a + e = n * n → -9223372036854775808 ≤ v → v ≤ 9223372036854775807 →
    ∃ v' z', -9223372036854775808 ≤ v' ∧ v' ≤ 9223372036854775807 ∧ v' = v + Ms n C e a * (((n - 1) ^ (k - 1 - j) : Nat) : Int) + z' * 18446744073709551616 ∧
      ∀ K, 30 ≤ K → impl_MeanMeetings.l1 (K + e + 1) n k v j x47 x48 x49 C ((n * n : Nat) : Int) a = impl_MeanMeetings.l0 K n k v' x47 x48 (wrap64 (x49 + 1))
  | 0, a, v, z, h, hv1, hv2 => by
    refine ⟨v, 0, hv1, hv2, by simp [Ms], fun K _ => ?_⟩
    rw [show K + 0 + 1 = K + 1 by omega]
    simp only [impl_MeanMeetings.l1]
    rw [if_neg (by omega)]
  | e + 1, a, v, z, h, hv1, hv2 => by
    have ha : a < n * n := by omega
    have hN : n * n ≤ 36 := Nat.mul_le_mul hn6 hn6
    obtain ⟨⟨f1, f2, _, _⟩, _⟩ := facts n (List.mem_range.2 (by omega)) hn a (List.mem_range.2 ha)
    have hdv : a / n ≤ a := Nat.div_le_self _ _
    have hmd : a % n < n := Nat.mod_lt _ (by omega)
    obtain ⟨_, _, _, pp⟩ := pw n (List.mem_range.2 (by omega)) hn (k - 1 - j) (List.mem_range.2 (by omega))
    have pp' : ∀ K, 30 ≤ K → impl_power.f (K + e + 1) ((n : Int) - 1) (((k - 1 - j : Nat) : Int)) = some (((n - 1) ^ (k - 1 - j) : Nat) : Int) := by
      intro K hK
      rw [show (n : Int) - 1 = ((n - 1 : Nat) : Int) by omega]
      exact lift (fun q => impl_power.mono _ _ q) pp _ (by omega)
    have ek : wrap64 (wrap64 ((k : Int) - 1) - (j : Int)) = ((k - 1 - j : Nat) : Int) := by
      rw [w_in (x := (k : Int) - 1) (by omega) (by omega), w_in (by omega) (by omega)]; omega
    have key : ∀ u : Int, -9223372036854775808 ≤ u → u ≤ 9223372036854775807 → (∃ z, u = v + ((adj n a : Nat) : Int) * C.getD a 0 * (((n - 1) ^ (k - 1 - j) : Nat) : Int) + z * 18446744073709551616) →
        ∃ v' z', -9223372036854775808 ≤ v' ∧ v' ≤ 9223372036854775807 ∧ v' = v + Ms n C (e + 1) a * (((n - 1) ^ (k - 1 - j) : Nat) : Int) + z' * 18446744073709551616 ∧
          ∀ K, 30 ≤ K → impl_MeanMeetings.l1 (K + e + 1) n k u j x47 x48 x49 C ((n * n : Nat) : Int) ((a : Int) + 1) = impl_MeanMeetings.l0 K n k v' x47 x48 (wrap64 (x49 + 1)) := by
      rintro u hu1 hu2 ⟨z1, hu⟩
      obtain ⟨v', z', k1, k2, k3, k4⟩ := m1 n hn hn6 C hC k j hj hk x47 x48 x49 e (a + 1) u 0 (by omega) hu1 hu2
      refine ⟨v', z1 + z', k1, k2, ?_, by exact_mod_cast k4⟩
      rw [k3, hu, Ms, Int.add_mul]
      omega
    have grow : ∀ q : adj n a = 1, ∃ z, wrap64 (v + wrap64 (C.getD a 0 * (((n - 1) ^ (k - 1 - j) : Nat) : Int))) = v + ((adj n a : Nat) : Int) * C.getD a 0 * (((n - 1) ^ (k - 1 - j) : Nat) : Int) + z * 18446744073709551616 := by
      intro q
      obtain ⟨z1, e1⟩ := w_mod (C.getD a 0 * (((n - 1) ^ (k - 1 - j) : Nat) : Int))
      obtain ⟨z2, e2⟩ := w_mod (v + wrap64 (C.getD a 0 * (((n - 1) ^ (k - 1 - j) : Nat) : Int)))
      refine ⟨z1 + z2, ?_⟩
      rw [e2, e1, q, show ((1 : Nat) : Int) = 1 from rfl, Int.one_mul]
      omega
    have rng : ∀ y : Int, -9223372036854775808 ≤ wrap64 y ∧ wrap64 y ≤ 9223372036854775807 := fun y => by unfold wrap64; omega
    have hd0 : (0 : Int) ≤ ((a / n : Nat) : Int) := Int.natCast_nonneg _
    have hd1 : ((a / n : Nat) : Int) ≤ (a : Int) := by exact_mod_cast hdv
    have hm0 : (0 : Int) ≤ ((a % n : Nat) : Int) := Int.natCast_nonneg _
    have hm1 : ((a % n : Nat) : Int) < (n : Int) := by exact_mod_cast hmd
    have main : ∃ u : Int, -9223372036854775808 ≤ u ∧ u ≤ 9223372036854775807 ∧ (∃ z, u = v + ((adj n a : Nat) : Int) * C.getD a 0 * (((n - 1) ^ (k - 1 - j) : Nat) : Int) + z * 18446744073709551616) ∧
        ∀ K, 30 ≤ K → impl_MeanMeetings.l1 (K + (e + 1) + 1) n k v j x47 x48 x49 C ((n * n : Nat) : Int) a = impl_MeanMeetings.l1 (K + e + 1) n k u j x47 x48 x49 C ((n * n : Nat) : Int) ((a : Int) + 1) := by
      by_cases c1 : ((a / n : Nat) : Int) - ((a % n : Nat) : Int) = 1
      · refine ⟨_, (rng _).1, (rng _).2, grow (by unfold adj; rw [if_pos (by omega)]), fun K hK => ?_⟩
        have pq := pp' K hK
        rw [show K + (e + 1) + 1 = (K + e + 1) + 1 by omega]
        generalize K + e + 1 = Q at pq ⊢
        generalize hR : impl_MeanMeetings.l1 Q _ _ _ _ _ _ _ _ _ ((a : Int) + 1) = R
        simp only [impl_MeanMeetings.l1]
        rw [if_pos (by omega), if_pos (by omega), if_pos (by omega), if_neg (by omega), f1, f2, w_in (x := (n : Int) - 1) (by omega) (by omega), ek, pq, Option.bind_some]
        simp only [rd, Int.toNat_natCast]
        rw [w_in (x := ((a / n : Nat) : Int) - ((a % n : Nat) : Int)) (by omega) (by omega), w_in (x := ((a % n : Nat) : Int) - ((a / n : Nat) : Int)) (by omega) (by omega), w_in (x := (a : Int) + 1) (by omega) (by omega), if_pos c1]
        exact hR
      · by_cases c2 : ((a % n : Nat) : Int) - ((a / n : Nat) : Int) = 1
        · refine ⟨_, (rng _).1, (rng _).2, grow (by unfold adj; rw [if_pos (by omega)]), fun K hK => ?_⟩
          have pq := pp' K hK
          rw [show K + (e + 1) + 1 = (K + e + 1) + 1 by omega]
          generalize K + e + 1 = Q at pq ⊢
          generalize hR : impl_MeanMeetings.l1 Q _ _ _ _ _ _ _ _ _ ((a : Int) + 1) = R
          simp only [impl_MeanMeetings.l1]
          rw [if_pos (by omega), if_pos (by omega), if_pos (by omega), if_neg (by omega), f1, f2, w_in (x := (n : Int) - 1) (by omega) (by omega), ek, pq, Option.bind_some]
          simp only [rd, Int.toNat_natCast]
          rw [w_in (x := ((a / n : Nat) : Int) - ((a % n : Nat) : Int)) (by omega) (by omega), w_in (x := ((a % n : Nat) : Int) - ((a / n : Nat) : Int)) (by omega) (by omega), w_in (x := (a : Int) + 1) (by omega) (by omega), if_neg c1, if_pos c2]
          exact hR
        · refine ⟨v, hv1, hv2, ⟨0, ?_⟩, fun K hK => ?_⟩
          · rw [show adj n a = 0 by unfold adj; rw [if_neg (by omega)]]
            simp
          · rw [show K + (e + 1) + 1 = (K + e + 1) + 1 by omega]
            generalize K + e + 1 = Q
            generalize hR : impl_MeanMeetings.l1 Q _ _ _ _ _ _ _ _ _ ((a : Int) + 1) = R
            simp only [impl_MeanMeetings.l1]
            rw [if_pos (by omega), if_pos (by omega), if_pos (by omega), if_neg (by omega), f1, f2]
            rw [w_in (x := ((a / n : Nat) : Int) - ((a % n : Nat) : Int)) (by omega) (by omega), w_in (x := ((a % n : Nat) : Int) - ((a / n : Nat) : Int)) (by omega) (by omega), w_in (x := (a : Int) + 1) (by omega) (by omega), if_neg c1, if_neg c2]
            exact hR
    obtain ⟨u, hu1, hu2, hu3, hu4⟩ := main
    obtain ⟨v', z', k1, k2, k3, k4⟩ := key u hu1 hu2 hu3
    exact ⟨v', z', k1, k2, k3, fun K hK => (hu4 K hK).trans (k4 K hK)⟩
theorem m0 (n : Nat) (hn : 2 ≤ n) (hn6 : n ≤ 6) (C : List Int) (gC : G n C 1) (k : Nat) (hk : k ≤ 20) : ∀ d j (v z : Int), j + d = k → -9223372036854775808 ≤ v → v ≤ 9223372036854775807 → v = Hs n C j * (((n - 1) ^ (k - j) : Nat) : Int) + z * 18446744073709551616 →
    ∃ F v' z', -9223372036854775808 ≤ v' ∧ v' ≤ 9223372036854775807 ∧ v' = Hs n C k + z' * 18446744073709551616 ∧
      ∀ K, 30 ≤ K → impl_MeanMeetings.l0 (K + F) n k v ((List.range k).map (Cs n C)) (k : Int) j = ((impl_power.f K (wrap64 ((n : Int) - 1)) k).bind fun t334 => ((impl_ratio.f K v' t334).bind fun bt335 => (some (bt335.1, bt335.2, true))))
  | 0, j, v, z, h, hv1, hv2, hv => by
    obtain rfl : j = k := by omega
    refine ⟨1, v, z, hv1, hv2, by rw [hv]; simp, fun K _ => ?_⟩
    simp only [impl_MeanMeetings.l0]
    rw [if_neg (by omega)]
  | d + 1, j, v, z, h, hv1, hv2, hv => by
    have gj := Cs_G n hn hn6 C gC j
    have hjk : j < k := by omega
    have hrd : rd_L2 ((List.range k).map (Cs n C)) (j : Int) = Cs n C j := by
      simp [rd_L2, List.getD_eq_getElem?_getD, List.getElem?_map, List.getElem?_range hjk]
    obtain ⟨u, z1, k1, k2, k3, k4⟩ := m1 n hn hn6 (Cs n C j) gj.len k j hjk hk ((List.range k).map (Cs n C)) (k : Int) (j : Int) (n * n) 0 v 0 (by omega) hv1 hv2
    have ep : (((n - 1) ^ (k - j) : Nat) : Int) = ((n - 1 : Nat) : Int) * (((n - 1) ^ (k - 1 - j) : Nat) : Int) := by
      rw [show k - j = (k - 1 - j) + 1 by omega, Nat.pow_succ, Nat.mul_comm]; exact Int.natCast_mul _ _
    obtain ⟨F, v', z', q1, q2, q3, q4⟩ := m0 n hn hn6 C gC k hk d (j + 1) u (z + z1) (by omega) k1 k2 (by
      rw [k3, hv, Hs, ep, show k - (j + 1) = k - 1 - j by omega, Int.add_mul, Int.add_mul]
      rw [show Hs n C j * (((n - 1 : Nat) : Int) * (((n - 1) ^ (k - 1 - j) : Nat) : Int)) = ((n - 1 : Nat) : Int) * Hs n C j * (((n - 1) ^ (k - 1 - j) : Nat) : Int) by rw [← Int.mul_assoc, Int.mul_comm (Hs n C j)]]
      omega)
    refine ⟨F + n * n + 2, v', z', q1, q2, q3, fun K hK => ?_⟩
    rw [← q4 K hK]
    have k5 := k4 (K + F) (by omega)
    rw [show K + (F + n * n + 2) = (K + F + n * n + 1) + 1 by omega]
    generalize hR : impl_MeanMeetings.l0 (K + F) _ _ _ _ _ ((j + 1 : Nat) : Int) = R
    generalize K + F + n * n + 1 = Q at k5 ⊢
    simp only [impl_MeanMeetings.l0]
    rw [if_pos (by omega), if_pos (by omega), if_pos (by simp; omega), hrd, gj.len, ← hR]
    rw [w_in (x := (j : Int) + 1) (by omega) (by omega)] at k5
    exact_mod_cast k5
theorem gcdL : ∀ K (a b : Int), 0 ≤ a → 0 ≤ b → spec_laCommon.l0 K a b = impl_divisor.l0 K a b
  | 0, _, _, _, _ => by simp [spec_laCommon.l0, impl_divisor.l0]
  | K + 1, a, b, ha, hb => by
    simp only [spec_laCommon.l0, impl_divisor.l0]
    by_cases h : b = 0
    · rw [if_neg (by omega), if_pos h]
    · rw [if_pos (by omega), if_neg h, if_neg h]
      exact gcdL K _ _ hb (Int.tmod_nonneg _ ha)
theorem ini : ∀ n ∈ List.range 7, ∀ p ∈ List.range n, ∀ q ∈ List.range n, (p * n + q) / n = p ∧ (p * n + q) % n = q ∧ p * n + q < n * n ∧ wrap64 (wrap64 ((p : Int) * (n : Int)) + (q : Int)) = ((p * n + q : Nat) : Int) := by decide +kernel
theorem absN (x : Int) (h1 : 0 ≤ x) (h2 : x ≤ 9223372036854775807) : spec_l1Abs.f x = some x := by
  unfold spec_l1Abs.f spec_l1Most.f
  rw [w_in (x := -x) (by omega) (by omega)]
  by_cases h : x > -x
  · rw [if_pos h]; rfl
  · rw [if_neg h, show -x = x by omega]; rfl
def C0 (n p q : Nat) : List Int := (List.replicate (n * n) (0 : Int)).set (p * n + q) 1
theorem C0_G (n p q : Nat) (hn6 : n ≤ 6) (hp : p < n) (hq : q < n) (hpq : p ≠ q) : G n (C0 n p q) 1 := by
  obtain ⟨e1, e2, e3, _⟩ := ini n (List.mem_range.2 (by omega)) p (List.mem_range.2 hp) q (List.mem_range.2 hq)
  have := (rep_G n).add (c := 1) (p * n + q) e3 (by omega) (Or.inr (by rw [e1, e2]; exact hpq))
  unfold FnExactMeanMeetingsAid.add at this
  simpa [C0, List.getD_eq_getElem?_getD, List.getElem?_replicate, e3] using this
theorem Hs_in (n : Nat) (hn : 2 ≤ n) (hn6 : n ≤ 6) (C : List Int) (gC : G n C 1) (k : Nat) (hk : k ≤ 20) : 0 ≤ Hs n C k ∧ Hs n C k ≤ 4000000000000000 := by
  obtain ⟨h1, h2⟩ := Hs_le n hn hn6 C gC k hk
  obtain ⟨p1, _⟩ := pw n (List.mem_range.2 (by omega)) hn k (List.mem_range.2 (by omega))
  have h3 : (k : Int) * (((n - 1) ^ k : Nat) : Int) ≤ 20 * 100000000000000 := Int.mul_le_mul (by omega) p1 (Int.natCast_nonneg _) (by omega)
  omega
theorem specV (n : Nat) (hn : 2 ≤ n) (hn6 : n ≤ 6) (k : Nat) (hk : k ≤ 20) (p q : Nat) (hp : p < n) (hq : q < n) (hpq : p ≠ q) (e1 : spec_chGood.f (n : Int) (k : Int) = some true) (K : Nat) : ∃ F, spec_MeanMeetings.f (K + F) n k p q = ((spec_chAll.f K n k).bind fun t301 => ((spec_chRatio.f K (Hs n (C0 n p q) k) t301).bind fun bt302 => (some (bt302.1, bt302.2, true)))) := by
  have hN : n * n ≤ 36 := Nat.mul_le_mul hn6 hn6
  obtain ⟨i1, i2, i3, i4⟩ := ini n (List.mem_range.2 (by omega)) p (List.mem_range.2 hp) q (List.mem_range.2 hq)
  have gC := C0_G n p q hn6 hp hq hpq
  obtain ⟨T', z', h1, h2, h3⟩ := s0 n hn hn6 (C0 n p q) gC k hk (K + n * n + 1) k 0 (List.replicate (n * n) 0) 0 (by omega) (by simp) (by rw [(rep_G n).sum]; simp [Hs])
  obtain ⟨v', z2, r1, r2, r3, r4⟩ := s3 n k T' (by omega) K (n * n) 0 0 0 (by omega) (by omega) (by omega) (by simp)
  obtain ⟨b1, b2⟩ := Hs_in n hn hn6 _ gC k hk
  have hv : v' = Hs n (C0 n p q) k := by omega
  refine ⟨n * n + 1 + k * (n * n * (n + 1) + 2) + 1 + 1, ?_⟩
  have hw : wrap64 ((n : Int) - 1) = (n : Int) - 1 := w_in (by omega) (by omega)
  have hb : ((p : Int) == (q : Int)) = false := by simp; omega
  unfold spec_MeanMeetings.f
  rw [e1, Option.bind_some, if_pos rfl, hw, l1In_in _ _ _ (by omega) (by omega), Option.bind_some, if_pos rfl, l1In_in _ _ _ (by omega) (by omega), Option.bind_some, if_pos rfl, hb]
  rw [show K + (n * n + 1 + k * (n * n * (n + 1) + 2) + 1 + 1) = (K + n * n + 1 + k * (n * n * (n + 1) + 2) + 1) + 1 by omega]
  rw [← hv, ← r4]
  rw [h1]
  have h3' := h3
  generalize hR : spec_MeanMeetings.l3 (K + n * n + 1) n k 0 T' ((n * n : Nat) : Int) ((0 : Nat) : Int) = R
  generalize K + n * n + 1 + k * (n * n * (n + 1) + 2) + 1 = Q at h3' ⊢
  simp only [spec_MeanMeetings.j0]
  rw [if_neg (by simp), hsq n hn6, if_pos (by omega), if_pos (by omega), Option.bind_some, i4, if_pos (by omega), Int.toNat_natCast, Int.toNat_natCast, if_pos (by simp; omega), ← hR]
  exact h3'
theorem implV (n : Nat) (hn : 2 ≤ n) (hn6 : n ≤ 6) (k : Nat) (hk : k ≤ 20) (p q : Nat) (hp : p < n) (hq : q < n) (hpq : p ≠ q) (e2 : impl_isFall.f (n : Int) (k : Int) = some true) (K : Nat) (hK : 30 ≤ K) : ∃ F F', impl_MeanMeetings.f (K + F' + F) n k p q = ((impl_power.f (K + F') (wrap64 ((n : Int) - 1)) k).bind fun t334 => ((impl_ratio.f (K + F') (Hs n (C0 n p q) k) t334).bind fun bt335 => (some (bt335.1, bt335.2, true)))) := by
  have hN : n * n ≤ 36 := Nat.mul_le_mul hn6 hn6
  obtain ⟨i1, i2, i3, i4⟩ := ini n (List.mem_range.2 (by omega)) p (List.mem_range.2 hp) q (List.mem_range.2 hq)
  have gC := C0_G n p q hn6 hp hq hpq
  obtain ⟨F1, h1⟩ := i0 n hn hn6 (C0 n p q) gC k hk k 0 [C0 n p q] (by omega) rfl
  obtain ⟨F2, v', z', q1, q2, q3, q4⟩ := m0 n hn hn6 (C0 n p q) gC k hk k 0 0 0 (by omega) (by omega) (by omega) (by simp [Hs])
  obtain ⟨b1, b2⟩ := Hs_in n hn hn6 _ gC k hk
  have hv : v' = Hs n (C0 n p q) k := by omega
  subst hv
  have hb : ((p : Int) == (q : Int)) = false := by simp; omega
  refine ⟨F2 + 1, F1, ?_⟩
  have hw : wrap64 ((n : Int) - 1) = (n : Int) - 1 := w_in (by omega) (by omega)
  have h1' := h1 (K + F2)
  have q4' := q4 (K + F1) (by omega)
  rw [← q4']
  unfold impl_MeanMeetings.f
  rw [e2, Option.bind_some, if_pos rfl, hw, between_in _ _ _ (by omega) (by omega), Option.bind_some, if_pos rfl, between_in _ _ _ (by omega) (by omega), Option.bind_some, if_pos rfl, hb]
  rw [show K + F1 + (F2 + 1) = (K + F1 + F2) + 1 by omega]
  generalize hR : impl_MeanMeetings.l0 _ _ _ _ _ _ ((0 : Nat) : Int) = R
  rw [show K + F2 + F1 = K + F1 + F2 by omega] at h1'
  have hpair : impl_pairs.f (K + F1 + F2) n k p q = some ((List.range (k + 1)).map (Cs n (C0 n p q))) := by
    unfold impl_pairs.f
    rw [hsq n hn6, if_pos (by omega), if_pos (by omega), Option.bind_some, i4, if_pos (by omega), Int.toNat_natCast, Int.toNat_natCast, if_pos (by simp; omega), Option.bind_some]
    exact h1'
  simp only [impl_MeanMeetings.j0]
  rw [if_neg (by simp), hpair, Option.bind_some, if_pos (by omega), if_pos (by simp; omega), Option.bind_some, Int.toNat_natCast, ← List.map_take, List.take_range, Nat.min_eq_left (by omega), ← hR]
  simp
theorem natne (p : Nat) (h : 0 < p) : (p : Int) ≠ 0 := by omega
theorem gcdD : ∀ (m a b : Nat), b ≤ m → 0 < a ∨ 0 < b → ∃ K, ∃ g : Nat, impl_divisor.l0 K (a : Int) (b : Int) = some (g : Int) ∧ 0 < g ∧ g ∣ a ∧ g ∣ b
  | m, a, 0, _, h => ⟨1, a, by simp [impl_divisor.l0], by omega, Nat.dvd_refl _, Nat.dvd_zero _⟩
  | 0, a, b + 1, h, _ => by omega
  | m + 1, a, b + 1, h, _ => by
    have hm : a % (b + 1) < b + 1 := Nat.mod_lt _ (by omega)
    obtain ⟨K, g, h1, h2, h3, h4⟩ := gcdD m (b + 1) (a % (b + 1)) (by omega) (Or.inl (by omega))
    refine ⟨K + 1, g, ?_, h2, (Nat.dvd_mod_iff h3).1 h4, h3⟩
    simp only [impl_divisor.l0]
    rw [if_neg (by omega), ← Int.ofNat_tmod]
    exact h1
theorem meet_in (n : Nat) (hn : 2 ≤ n) (hn6 : n ≤ 6) (k : Nat) (hk : k ≤ 20) (p q : Nat) (hp : p < n) (hq : q < n) (hpq : p ≠ q) (e1 : spec_chGood.f (n : Int) (k : Int) = some true) (e2 : impl_isFall.f (n : Int) (k : Int) = some true) :
    ∃ M r s, (∀ K, M ≤ K → spec_MeanMeetings.f K (n : Int) (k : Int) (p : Int) (q : Int) = some (r, s, true)) ∧ (∀ K, M ≤ K → impl_MeanMeetings.f K (n : Int) (k : Int) (p : Int) (q : Int) = some (r, s, true)) ∧ s ≠ 0 ∧ wrap64 (r * wrap64 (Int.tdiv (((n - 1) ^ k : Nat) : Int) s)) = Hs n (C0 n p q) k := by
  have gC := C0_G n p q hn6 hp hq hpq
  obtain ⟨b1, b2⟩ := Hs_in n hn hn6 _ gC k hk
  obtain ⟨w1, w2, w3, w4⟩ := pw n (List.mem_range.2 (by omega)) hn k (List.mem_range.2 (by omega))
  obtain ⟨Kg, g, hg, hg0, d1, d2⟩ := gcdD ((n - 1) ^ k) (Hs n (C0 n p q) k).toNat ((n - 1) ^ k) (Nat.le_refl _) (Or.inr w2)
  rw [Int.toNat_of_nonneg b1] at hg
  have hd : ∀ K, Kg ≤ K → impl_divisor.f K (Hs n (C0 n p q) k) (((n - 1) ^ k : Nat) : Int) = some (g : Int) := fun K h => lift (f := fun K => impl_divisor.f K (Hs n (C0 n p q) k) (((n - 1) ^ k : Nat) : Int)) (fun K => impl_divisor.mono _ _ K) hg K h
  have hc : ∀ K, Kg ≤ K → spec_laCommon.f K (Hs n (C0 n p q) k) (((n - 1) ^ k : Nat) : Int) = some (g : Int) := fun K h => by
    have := hd K h
    unfold impl_divisor.f at this
    unfold spec_laCommon.f
    rw [gcdL K _ _ b1 (Int.natCast_nonneg _)]; exact this
  obtain ⟨F, hS⟩ := specV n hn hn6 k hk p q hp hq hpq e1 (30 + Kg)
  obtain ⟨F1, F2, hI⟩ := implV n hn hn6 k hk p q hp hq hpq e2 (30 + Kg) (by omega)
  have hw : wrap64 ((n : Int) - 1) = ((n - 1 : Nat) : Int) := by rw [w_in (by omega) (by omega)]; omega
  rw [lift (f := fun K => spec_chAll.f K n k) (fun K => spec_chAll.mono _ _ K) w3 _ (by omega), Option.bind_some] at hS
  rw [hw, lift (f := fun K => impl_power.f K _ _) (fun K => impl_power.mono _ _ K) w4 _ (by omega), Option.bind_some] at hI
  unfold spec_chRatio.f at hS
  unfold impl_ratio.f at hI
  rw [absN _ b1 (by omega), Option.bind_some, hc _ (by omega), Option.bind_some, if_neg (by omega), Option.bind_some] at hS
  rw [hd _ (by omega), Option.bind_some, if_neg (by omega), Option.bind_some] at hI
  refine ⟨30 + Kg + F + (30 + Kg + F2 + F1), _, _, fun K hK => lift (f := fun K => spec_MeanMeetings.f K _ _ _ _) (fun K => spec_MeanMeetings.mono _ _ _ _ K) hS _ (by omega), fun K hK => lift (f := fun K => impl_MeanMeetings.f K _ _ _ _) (fun K => impl_MeanMeetings.mono _ _ _ _ K) hI _ (by omega), ?_, ?_⟩
  all_goals
    obtain ⟨h', e3⟩ := d1
    obtain ⟨p', e4⟩ := d2
    have hH : Hs n (C0 n p q) k = ((g * h' : Nat) : Int) := by rw [← e3]; exact (Int.toNat_of_nonneg b1).symm
    rw [e4] at w1 w2 ⊢
    have hp0 : 0 < p' := Nat.pos_of_mul_pos_left w2
    have hgp : p' ≤ g * p' := Nat.le_mul_of_pos_left _ hg0
    have q2 : Int.tdiv ((g * p' : Nat) : Int) (g : Int) = (p' : Int) := by rw [Int.natCast_mul]; exact Int.mul_tdiv_cancel_left _ (natne g hg0)
    have q3 : wrap64 (p' : Int) = (p' : Int) := w_in (by omega) (by omega)
  · rw [q2, q3]; exact natne p' hp0
  · have hgh : h' ≤ g * h' := Nat.le_mul_of_pos_left _ hg0
    have q1 : Int.tdiv (Hs n (C0 n p q) k) (g : Int) = (h' : Int) := by rw [hH, Int.natCast_mul]; exact Int.mul_tdiv_cancel_left _ (natne g hg0)
    have hgg : g ≤ g * p' := Nat.le_mul_of_pos_right _ hp0
    have q4 : Int.tdiv ((g * p' : Nat) : Int) (p' : Int) = (g : Int) := by rw [Int.natCast_mul]; exact Int.mul_tdiv_cancel _ (natne p' hp0)
    rw [hH] at b2
    rw [q1, q2, q3, q4, w_in (x := (h' : Int)) (by omega) (by omega), w_in (x := (g : Int)) (by omega) (by omega), hH]
    rw [show (h' : Int) * (g : Int) = ((g * h' : Nat) : Int) by rw [Int.natCast_mul, Int.mul_comm]]
    exact w_in (by omega) (by omega)
end FnExactMeanMeetingsAid
end Go.Proofs.Ytabobnlpcapohaa.Pure
namespace Go.Proofs.Ytabobnlpcapohaa.L
open Go.RowKit Go.Proofs.Ytabobnlpcapohaa.Q Go.Proofs.YtabobnlpcapohaaW.PrintWords Go.Proofs.YtabobnlpcapohaaW.PrintLast Go.Proofs.Ytabobnlpcapohaa.Pure.FnExactMeanMeetingsAid
set_option linter.unusedSimpArgs false
set_option linter.unusedVariables false
structure Sum3 (N : Nat) (L l m : List Int) : Prop where
  h0 : L.length = N
  h1 : l.length = N
  h2 : m.length = N
  h3 : ∀ i, L.getD i 0 = l.getD i 0 + m.getD i 0
theorem add_len (l : List Int) (i : Nat) (c : Int) : (add l i c).length = l.length := by simp [add]
theorem s3add {N : Nat} {L l m : List Int} (h : Sum3 N L l m) (i : Nat) (hi : i < N) (c d : Int) : Sum3 N (add L i (c + d)) (add l i c) (add m i d) := by
  refine ⟨by rw [add_len, h.h0], by rw [add_len, h.h1], by rw [add_len, h.h2], fun j => ?_⟩
  unfold add
  rw [getD_set _ _ _ _ (by rw [h.h0]; exact hi), getD_set _ _ _ _ (by rw [h.h1]; exact hi), getD_set _ _ _ _ (by rw [h.h2]; exact hi)]
  have e1 := h.h3 i
  have e2 := h.h3 j
  by_cases e : i = j
  · rw [if_pos e, if_pos e, if_pos e]; omega
  · rw [if_neg e, if_neg e, if_neg e]; exact e2
theorem ix_lt {n : Nat} (hn : 2 ≤ n) (hn6 : n ≤ 6) {a r : Nat} (ha : a < n * n) (hr : r < n - 1) : ix n a r < n * n :=
  ((facts n (List.mem_range.2 (by omega)) hn a (List.mem_range.2 ha)).2 r (List.mem_range.2 hr)).2.2.2.2.2.1
theorem s3row {n : Nat} (hn : 2 ≤ n) (hn6 : n ≤ 6) {a : Nat} (ha : a < n * n) (c d : Int) : ∀ (e r : Nat) {L l m : List Int}, r + e = n - 1 → Sum3 (n * n) L l m → Sum3 (n * n) (row n a (c + d) e r L) (row n a c e r l) (row n a d e r m)
  | 0, r, L, l, m, h, s => s
  | e + 1, r, L, l, m, h, s => by
    unfold row
    exact s3row hn hn6 ha c d e (r + 1) (by omega) (s3add s _ (ix_lt hn hn6 ha (by omega)) c d)
theorem s3rnd {n : Nat} (hn : 2 ≤ n) (hn6 : n ≤ 6) {C c d : List Int} (hC : Sum3 (n * n) C c d) : ∀ (e a : Nat) {L l m : List Int}, a + e = n * n → Sum3 (n * n) L l m → Sum3 (n * n) (rnd n C e a L) (rnd n c e a l) (rnd n d e a m)
  | 0, a, L, l, m, h, s => s
  | e + 1, a, L, l, m, h, s => by
    unfold rnd
    rw [hC.h3 a]
    exact s3rnd hn hn6 hC e (a + 1) (by omega) (s3row hn hn6 (by omega) _ _ (n - 1) 0 (by omega) s)
theorem Sum3.zero (N : Nat) : Sum3 N (List.replicate N 0) (List.replicate N 0) (List.replicate N 0) :=
  ⟨by simp, by simp, by simp, fun i => by rw [List.getD_eq_getElem?_getD, List.getElem?_replicate]; split <;> rfl⟩
theorem Sum3.cs {n : Nat} (hn : 2 ≤ n) (hn6 : n ≤ 6) {C c d : List Int} (hC : Sum3 (n * n) C c d) : ∀ j, Sum3 (n * n) (Cs n C j) (Cs n c j) (Cs n d j)
  | 0 => hC
  | j + 1 => by
    unfold Cs nxt
    exact s3rnd hn hn6 (Sum3.cs hn hn6 hC j) (n * n) 0 (by omega) (Sum3.zero _)
theorem Sum3.ms {n : Nat} {C c d : List Int} (hC : Sum3 (n * n) C c d) : ∀ (e a : Nat), Ms n C e a = Ms n c e a + Ms n d e a
  | 0, a => rfl
  | e + 1, a => by
    unfold Ms
    rw [hC.h3 a, Sum3.ms hC e (a + 1), Int.mul_add]
    omega
theorem Sum3.hs {n : Nat} (hn : 2 ≤ n) (hn6 : n ≤ 6) {C c d : List Int} (hC : Sum3 (n * n) C c d) : ∀ k, Hs n C k = Hs n c k + Hs n d k
  | 0 => rfl
  | k + 1 => by
    unfold Hs
    rw [Sum3.hs hn hn6 hC k, Sum3.ms (Sum3.cs hn hn6 hC k), Int.mul_add]
    omega
def ladd (a b : List Int) : List Int := List.zipWith (fun x y => x + y) a b
theorem ladd_sum {N : Nat} {a b : List Int} (ha : a.length = N) (hb : b.length = N) : Sum3 N (ladd a b) a b := by
  refine ⟨by simp [ladd, ha, hb], ha, hb, fun i => ?_⟩
  unfold ladd
  rw [List.getD_eq_getElem?_getD, List.getD_eq_getElem?_getD, List.getD_eq_getElem?_getD, List.getElem?_zipWith]
  by_cases h : i < N
  · rw [List.getElem?_eq_getElem (by omega), List.getElem?_eq_getElem (by omega)]; rfl
  · rw [List.getElem?_eq_none (by omega), List.getElem?_eq_none (by omega)]; rfl
def rowSum (H : Nat → Nat → Int) (x : Nat) : Nat → Nat → Int
  | 0, _ => 0
  | d + 1, y => H x y + rowSum H x d (y + 1)
def allSum (n : Nat) (H : Nat → Nat → Int) : Nat → Nat → Int
  | 0, _ => 0
  | d + 1, x => rowSum H x (n - (x + 1)) (x + 1) + allSum n H d (x + 1)
def rowV (n x : Nat) : Nat → Nat → List Int
  | 0, _ => List.replicate (n * n) 0
  | d + 1, y => ladd (C0 n x y) (rowV n x d (y + 1))
def allV (n : Nat) : Nat → Nat → List Int
  | 0, _ => List.replicate (n * n) 0
  | d + 1, x => ladd (rowV n x (n - (x + 1)) (x + 1)) (allV n d (x + 1))
theorem rowV_len (n x : Nat) : ∀ d y, (rowV n x d y).length = n * n
  | 0, y => by simp [rowV]
  | d + 1, y => (ladd_sum (by simp [C0]) (rowV_len n x d (y + 1))).h0
theorem allV_len (n : Nat) : ∀ d x, (allV n d x).length = n * n
  | 0, x => by simp [allV]
  | d + 1, x => (ladd_sum (rowV_len n x _ _) (allV_len n d (x + 1))).h0
theorem hs_zero {n : Nat} (hn : 2 ≤ n) (hn6 : n ≤ 6) (k : Nat) : Hs n (List.replicate (n * n) 0) k = 0 := by
  have := Sum3.hs hn hn6 (Sum3.zero (n * n)) k
  omega
theorem hs_row {n : Nat} (hn : 2 ≤ n) (hn6 : n ≤ 6) (x k : Nat) : ∀ d y, Hs n (rowV n x d y) k = rowSum (fun x y => Hs n (C0 n x y) k) x d y
  | 0, y => hs_zero hn hn6 k
  | d + 1, y => by
    unfold rowV rowSum
    rw [Sum3.hs hn hn6 (ladd_sum (by simp [C0]) (rowV_len n x d (y + 1))) k, hs_row hn hn6 x k d (y + 1)]
theorem hs_all {n : Nat} (hn : 2 ≤ n) (hn6 : n ≤ 6) (k : Nat) : ∀ d x, Hs n (allV n d x) k = allSum n (fun x y => Hs n (C0 n x y) k) d x
  | 0, x => hs_zero hn hn6 k
  | d + 1, x => by
    unfold allV allSum
    rw [Sum3.hs hn hn6 (ladd_sum (rowV_len n x _ _) (allV_len n d (x + 1))) k, hs_all hn hn6 k d (x + 1), hs_row hn hn6 x k]
def runs (n : Nat) : Nat → Nat → List Int → Bool
  | 0, _, _ => true
  | d + 1, p, V => decide (Ms n V (n * n) 0 = ((p * (n - 1) : Nat) : Int)) && runs n d (p * (n - 1)) (nxt n V)
theorem runs2 : runs 2 20 1 (allV 2 2 0) = true := by decide +kernel
theorem runs3 : runs 3 20 1 (allV 3 3 0) = true := by decide +kernel
theorem runs4 : runs 4 20 1 (allV 4 4 0) = true := by decide +kernel
set_option maxHeartbeats 8000000 in
theorem runs5 : runs 5 20 1 (allV 5 5 0) = true := by decide +kernel
set_option maxHeartbeats 8000000 in
theorem runs6 : runs 6 20 1 (allV 6 6 0) = true := by decide +kernel
theorem runs_at {n : Nat} {V : List Int} : ∀ (d j p : Nat), runs n d p (Cs n V j) = true → p = (n - 1) ^ j → ∀ i, i < d → Ms n (Cs n V (j + i)) (n * n) 0 = (((n - 1) ^ (j + i + 1) : Nat) : Int)
  | 0, j, p, h, hp, i, hi => by omega
  | d + 1, j, p, h, hp, i, hi => by
    unfold runs at h
    rw [Bool.and_eq_true] at h
    cases i with
    | zero => rw [Nat.add_zero, of_decide_eq_true h.1, hp, Nat.pow_succ]
    | succ i =>
      have := runs_at d (j + 1) (p * (n - 1)) h.2 (by rw [hp, Nat.pow_succ]) i (by omega)
      rw [show j + 1 + i = j + (i + 1) by omega] at this
      exact this
theorem runs_all {n : Nat} (hn : 2 ≤ n) (hn6 : n ≤ 6) : runs n 20 1 (allV n n 0) = true := by
  rcases (by omega : n = 2 ∨ n = 3 ∨ n = 4 ∨ n = 5 ∨ n = 6) with rfl | rfl | rfl | rfl | rfl
  · exact runs2
  · exact runs3
  · exact runs4
  · exact runs5
  · exact runs6
theorem pow_step (c p k : Int) : c * (k * p) + p * c = (k + 1) * (p * c) := by
  rw [Int.add_mul, Int.one_mul, Int.mul_left_comm, Int.mul_comm c p]
theorem hs_total {n : Nat} (hn : 2 ≤ n) (hn6 : n ≤ 6) : ∀ k, k ≤ 20 → Hs n (allV n n 0) k = (k : Int) * (((n - 1) ^ k : Nat) : Int)
  | 0, h => by simp [Hs]
  | k + 1, h => by
    have e := runs_at 20 0 1 (V := allV n n 0) (runs_all hn hn6) rfl k (by omega)
    rw [Nat.zero_add] at e
    unfold Hs
    rw [hs_total hn hn6 k (by omega), e, Nat.pow_succ, Int.natCast_mul]
    have := pow_step ((n - 1 : Nat) : Int) (((n - 1) ^ k : Nat) : Int) (k : Int)
    rw [this]
    congr 1
theorem all_total {n : Nat} (hn : 2 ≤ n) (hn6 : n ≤ 6) (k : Nat) (hk : k ≤ 20) : allSum n (fun x y => Hs n (C0 n x y) k) n 0 = (k : Int) * (((n - 1) ^ k : Nat) : Int) := by
  rw [← hs_all hn hn6 k n 0]
  exact hs_total hn hn6 k hk
end Go.Proofs.Ytabobnlpcapohaa.L
namespace Go.Proofs.Ytabobnlpcapohaa.L
open Go.RowKit Go.Proofs.Ytabobnlpcapohaa.Q Go.Proofs.YtabobnlpcapohaaW.PrintWords Go.Proofs.YtabobnlpcapohaaW.PrintLast Go.Proofs.Ytabobnlpcapohaa.Pure.FnExactMeanMeetingsAid
set_option linter.unusedSimpArgs false
set_option linter.unusedVariables false
theorem mm_js (a b c d : Int) (k : Nat) : spec_MeanMeetings.j0 (k + 1) a b c d true = some (0, 0, false) := by
  simp only [spec_MeanMeetings.j0, if_true]
theorem mm_ji (a b c d : Int) (k : Nat) : impl_MeanMeetings.j0 (k + 1) a b c d true = some (0, 0, false) := by
  simp only [impl_MeanMeetings.j0, if_true]
theorem mm_out (a0 a1 a2 a3 : Int) (h1 : spec_MeanMeetings.f 1 a0 a1 a2 a3 = some (0, 0, false)) (h2 : impl_MeanMeetings.f 1 a0 a1 a2 a3 = some (0, 0, false)) :
    ∃ M r s ok, (∀ K, M ≤ K → spec_MeanMeetings.f K a0 a1 a2 a3 = some (r, s, ok)) ∧ (∀ K, M ≤ K → impl_MeanMeetings.f K a0 a1 a2 a3 = some (r, s, ok)) ∧ (ok = true → (2 ≤ a0 ∧ a0 ≤ 6) ∧ 0 ≤ a1 ∧ a1 ≤ 20) :=
  ⟨1, 0, 0, false, fun K hK => at_rounds (fun k => spec_MeanMeetings.mono _ _ _ _ k) hK h1, fun K hK => at_rounds (fun k => impl_MeanMeetings.mono _ _ _ _ k) hK h2, fun h => absurd h (by simp)⟩
theorem meet_case (a0 a1 a2 a3 : Int) : ∃ M r s ok, (∀ K, M ≤ K → spec_MeanMeetings.f K a0 a1 a2 a3 = some (r, s, ok)) ∧ (∀ K, M ≤ K → impl_MeanMeetings.f K a0 a1 a2 a3 = some (r, s, ok)) ∧ (ok = true → (2 ≤ a0 ∧ a0 ≤ 6) ∧ 0 ≤ a1 ∧ a1 ≤ 20) := by
  by_cases h0 : 2 ≤ a0 ∧ a0 ≤ 6
  · have hw : wrap64 (a0 - 1) = a0 - 1 := by unfold wrap64; omega
    by_cases h1 : 0 ≤ a1 ∧ a1 ≤ 20
    · have e1 : spec_chGood.f a0 a1 = some true := by simp [spec_chGood.f, l1In_in a0 2 6 h0.1 h0.2, l1In_in a1 0 20 h1.1 h1.2]
      have e2 : impl_isFall.f a0 a1 = some true := by simp [impl_isFall.f, between_in a0 2 6 h0.1 h0.2, between_in a1 0 20 h1.1 h1.2]
      by_cases h2 : 0 ≤ a2 ∧ a2 ≤ a0 - 1
      · by_cases h3 : 0 ≤ a3 ∧ a3 ≤ a0 - 1
        · by_cases h4 : a2 = a3
          · have hb : (a2 == a3) = true := by simp [h4]
            refine mm_out a0 a1 a2 a3 ?_ ?_
            · simp only [spec_MeanMeetings.f, e1, hw, l1In_in a2 0 (a0 - 1) h2.1 h2.2, l1In_in a3 0 (a0 - 1) h3.1 h3.2, Option.bind_some, if_true, hb, mm_js]
            · simp only [impl_MeanMeetings.f, e2, hw, between_in a2 0 (a0 - 1) h2.1 h2.2, between_in a3 0 (a0 - 1) h3.1 h3.2, Option.bind_some, if_true, hb, mm_ji]
          · obtain ⟨x0, hx0⟩ : ∃ x : Nat, a0 = x := ⟨a0.toNat, by omega⟩
            obtain ⟨x1, hx1⟩ : ∃ x : Nat, a1 = x := ⟨a1.toNat, by omega⟩
            obtain ⟨x2, hx2⟩ : ∃ x : Nat, a2 = x := ⟨a2.toNat, by omega⟩
            obtain ⟨x3, hx3⟩ : ∃ x : Nat, a3 = x := ⟨a3.toNat, by omega⟩
            subst hx0
            subst hx1
            subst hx2
            subst hx3
            obtain ⟨M, r, s, g1, g2, _, _⟩ := meet_in x0 (by omega) (by omega) x1 (by omega) x2 x3 (by omega) (by omega) (by omega) e1 e2
            exact ⟨M, r, s, true, g1, g2, fun _ => ⟨h0, h1⟩⟩
        · refine mm_out a0 a1 a2 a3 ?_ ?_
          · simp [spec_MeanMeetings.f, e1, hw, l1In_in a2 0 (a0 - 1) h2.1 h2.2, l1In_out a3 0 (a0 - 1) (by omega), mm_js]
          · simp [impl_MeanMeetings.f, e2, hw, between_in a2 0 (a0 - 1) h2.1 h2.2, between_out a3 0 (a0 - 1) (by omega), mm_ji]
      · refine mm_out a0 a1 a2 a3 ?_ ?_
        · simp [spec_MeanMeetings.f, e1, hw, l1In_out a2 0 (a0 - 1) (by omega), mm_js]
        · simp [impl_MeanMeetings.f, e2, hw, between_out a2 0 (a0 - 1) (by omega), mm_ji]
    · refine mm_out a0 a1 a2 a3 ?_ ?_
      · simp [spec_MeanMeetings.f, spec_chGood.f, l1In_in a0 2 6 h0.1 h0.2, l1In_out a1 0 20 (by omega), mm_js]
      · simp [impl_MeanMeetings.f, impl_isFall.f, between_in a0 2 6 h0.1 h0.2, between_out a1 0 20 (by omega), mm_ji]
  · refine mm_out a0 a1 a2 a3 ?_ ?_
    · simp [spec_MeanMeetings.f, spec_chGood.f, l1In_out a0 2 6 (by omega), mm_js]
    · simp [impl_MeanMeetings.f, impl_isFall.f, between_out a0 2 6 (by omega), mm_ji]
theorem wI {n : Int} (h1 : -9000000000000000000 ≤ n) (h2 : n ≤ 9000000000000000000) : wrap64 n = n := by unfold wrap64; omega
abbrev mH (n K : Nat) (x y : Nat) : Int := Hs n (C0 n x y) K
theorem mH_in {n K : Nat} (hn : 2 ≤ n) (hn6 : n ≤ 6) (hK : K ≤ 20) {x y : Nat} (hx : x < n) (hy : y < n) (hxy : x ≠ y) : 0 ≤ mH n K x y ∧ mH n K x y ≤ 4000000000000000 := Hs_in n hn hn6 _ (C0_G n x y hn6 hx hy hxy) K hK
theorem rowSum_pos {n K : Nat} (hn : 2 ≤ n) (hn6 : n ≤ 6) (hK : K ≤ 20) {x : Nat} (hx : x < n) : ∀ d y, y + d = n → x < y → 0 ≤ rowSum (mH n K) x d y
  | 0, y, h, g => Int.le_refl _
  | d + 1, y, h, g => by
    unfold rowSum
    have h1 := (mH_in hn hn6 hK hx (show y < n by omega) (by omega)).1
    have h2 := rowSum_pos hn hn6 hK hx d (y + 1) (by omega) (by omega)
    omega
theorem allSum_pos {n K : Nat} (hn : 2 ≤ n) (hn6 : n ≤ 6) (hK : K ≤ 20) : ∀ d x, x + d = n → 0 ≤ allSum n (mH n K) d x
  | 0, x, h => Int.le_refl _
  | d + 1, x, h => by
    unfold allSum
    have h1 := rowSum_pos hn hn6 hK (show x < n by omega) (n - (x + 1)) (x + 1) (by omega) (by omega)
    have h2 := allSum_pos hn hn6 hK d (x + 1) (by omega)
    omega
theorem l2_ok {n K : Nat} (hn : 2 ≤ n) (hn6 : n ≤ 6) (hK : K ≤ 20) {x : Nat} (hx : x < n) (R : Int) (hl1 : ∃ M, ∀ k, M ≤ k → laws_FnOrdersLikely.l1 k (n : Int) (K : Int) (((n - 1) ^ K : Nat) : Int) true R ((x + 1 : Nat) : Int) = some true) (hR : R ≤ 4000000000000000) :
    ∀ (d y : Nat) (sum : Int), y + d = n → x < y → 0 ≤ sum → sum + rowSum (mH n K) x d y = R → ∃ M, ∀ k, M ≤ k → laws_FnOrdersLikely.l2 k (n : Int) (K : Int) (((n - 1) ^ K : Nat) : Int) true sum (x : Int) (y : Int) = some true
  | 0, y, sum, h, g, h0, hs => by
    obtain ⟨M, hM⟩ := hl1
    refine ⟨M + 1, fun k hk => ?_⟩
    obtain ⟨k, rfl⟩ : ∃ m, k = m + 1 := ⟨k - 1, by omega⟩
    simp only [laws_FnOrdersLikely.l2]
    unfold rowSum at hs
    rw [Int.add_zero] at hs
    rw [if_neg (by omega), hs, wI (n := (x : Int) + 1) (by omega) (by omega)]
    exact hM k (by omega)
  | d + 1, y, sum, h, g, h0, hs => by
    unfold rowSum at hs
    obtain ⟨b1, b2⟩ := mH_in hn hn6 hK hx (show y < n by omega) (show x ≠ y by omega)
    have hp := rowSum_pos hn hn6 hK hx d (y + 1) (by omega) (by omega)
    have e1 : spec_chGood.f (n : Int) (K : Int) = some true := by simp [spec_chGood.f, l1In_in (n : Int) 2 6 (by omega) (by omega), l1In_in (K : Int) 0 20 (by omega) (by omega)]
    have e2 : impl_isFall.f (n : Int) (K : Int) = some true := by simp [impl_isFall.f, between_in (n : Int) 2 6 (by omega) (by omega), between_in (K : Int) 0 20 (by omega) (by omega)]
    obtain ⟨M, r, s, _, g2, g3, g4⟩ := meet_in n hn hn6 K hK x y hx (by omega) (by omega) e1 e2
    obtain ⟨M2, hM⟩ := l2_ok hn hn6 hK hx R hl1 hR d (y + 1) (sum + mH n K x y) (by omega) (by omega) (by omega) (by omega)
    have g4 : _ = mH n K x y := g4
    refine ⟨M + M2 + 1, fun k hk => ?_⟩
    obtain ⟨k, rfl⟩ : ∃ m, k = m + 1 := ⟨k - 1, by omega⟩
    simp only [laws_FnOrdersLikely.l2]
    rw [if_pos (by omega), g2 k (by omega), Option.bind_some]
    simp only []
    rw [if_pos trivial, if_neg g3, g4, wI (n := sum + mH n K x y) (by omega) (by omega), wI (n := (y : Int) + 1) (by omega) (by omega)]
    exact hM k (by omega)
theorem l1_ok {n K : Nat} (hn : 2 ≤ n) (hn6 : n ≤ 6) (hK : K ≤ 20) (hT : (K : Int) * (((n - 1) ^ K : Nat) : Int) ≤ 4000000000000000) (hT0 : 0 ≤ (K : Int) * (((n - 1) ^ K : Nat) : Int)) :
    ∀ (d x : Nat) (sum : Int), x + d = n → 0 ≤ sum → sum + allSum n (mH n K) d x = (K : Int) * (((n - 1) ^ K : Nat) : Int) → ∃ M, ∀ k, M ≤ k → laws_FnOrdersLikely.l1 k (n : Int) (K : Int) (((n - 1) ^ K : Nat) : Int) true sum (x : Int) = some true
  | 0, x, sum, h, h0, hs => by
    refine ⟨1, fun k hk => ?_⟩
    obtain ⟨k, rfl⟩ : ∃ m, k = m + 1 := ⟨k - 1, by omega⟩
    simp only [laws_FnOrdersLikely.l1]
    unfold allSum at hs
    rw [if_neg (by omega), if_pos trivial, wI (n := (K : Int) * (((n - 1) ^ K : Nat) : Int)) (by omega) (by omega), show sum = (K : Int) * (((n - 1) ^ K : Nat) : Int) by omega]
    simp
  | d + 1, x, sum, h, h0, hs => by
    unfold allSum at hs
    have hx : x < n := by omega
    have p1 := rowSum_pos hn hn6 hK hx (n - (x + 1)) (x + 1) (by omega) (by omega)
    have p2 := allSum_pos hn hn6 hK d (x + 1) (by omega)
    have ih := l1_ok hn hn6 hK hT hT0 d (x + 1) (sum + rowSum (mH n K) x (n - (x + 1)) (x + 1)) (by omega) (by omega) (by omega)
    obtain ⟨M, hM⟩ := l2_ok hn hn6 hK hx _ ih (by omega) (n - (x + 1)) (x + 1) sum (by omega) (by omega) h0 rfl
    refine ⟨M + 1, fun k hk => ?_⟩
    obtain ⟨k, rfl⟩ : ∃ m, k = m + 1 := ⟨k - 1, by omega⟩
    simp only [laws_FnOrdersLikely.l1]
    rw [if_pos (by omega), wI (n := (x : Int) + 1) (by omega) (by omega)]
    exact hM k (by omega)
theorem pairs_ok (n K : Nat) (hn : 2 ≤ n) (hn6 : n ≤ 6) (hK : K ≤ 20) : ∃ M, ∀ k, M ≤ k → laws_FnOrdersLikely.l1 k (n : Int) (K : Int) (((n - 1) ^ K : Nat) : Int) true 0 0 = some true := by
  have h1 := (pw n (List.mem_range.2 (by omega)) hn K (List.mem_range.2 (by omega))).1
  have h3 : (K : Int) * (((n - 1) ^ K : Nat) : Int) ≤ 20 * 100000000000000 := Int.mul_le_mul (by omega) h1 (Int.natCast_nonneg _) (by omega)
  have h4 : 0 ≤ (K : Int) * (((n - 1) ^ K : Nat) : Int) := Int.mul_nonneg (by omega) (Int.natCast_nonneg _)
  exact l1_ok hn hn6 hK (by omega) h4 n 0 0 (by omega) (by omega) (by rw [Int.zero_add]; exact all_total hn hn6 K hK)
theorem ladders_in (n K : Nat) (hn : 2 ≤ n) (hn6 : n ≤ 6) (hK : K ≤ 20) (k : Nat) (hk : 30 ≤ k) : impl_CountLadders.f k (n : Int) (K : Int) = some ((((n - 1) ^ K : Nat) : Int), true) := by
  obtain ⟨_, _, _, w4⟩ := pw n (List.mem_range.2 (by omega)) hn K (List.mem_range.2 (by omega))
  have e2 : impl_isFall.f (n : Int) (K : Int) = some true := by simp [impl_isFall.f, between_in (n : Int) 2 6 (by omega) (by omega), between_in (K : Int) 0 20 (by omega) (by omega)]
  unfold impl_CountLadders.f
  rw [e2, Option.bind_some, if_pos rfl, wI (n := (n : Int) - 1) (by omega) (by omega), show (n : Int) - 1 = ((n - 1 : Nat) : Int) by omega, at_rounds (fun k => impl_power.mono _ _ k) hk w4]
  rfl
theorem j7_ok (a0 a1 : Int) (ok : Bool) (h : ok = true → (2 ≤ a0 ∧ a0 ≤ 6) ∧ 0 ≤ a1 ∧ a1 ≤ 20) : ∃ M, ∀ k, M ≤ k → laws_FnOrdersLikely.j7 k a0 a1 ok false = some true := by
  cases ok with
  | false =>
    refine ⟨1, fun k hk => ?_⟩
    obtain ⟨k, rfl⟩ : ∃ m, k = m + 1 := ⟨k - 1, by omega⟩
    simp [laws_FnOrdersLikely.j7]
  | true =>
    obtain ⟨h0, h1⟩ := h rfl
    obtain ⟨n, rfl⟩ : ∃ x : Nat, a0 = x := ⟨a0.toNat, by omega⟩
    obtain ⟨K, rfl⟩ : ∃ x : Nat, a1 = x := ⟨a1.toNat, by omega⟩
    obtain ⟨M, hM⟩ := pairs_ok n K (by omega) (by omega) (by omega)
    refine ⟨M + 30 + 1, fun k hk => ?_⟩
    obtain ⟨k, rfl⟩ : ∃ m, k = m + 1 := ⟨k - 1, by omega⟩
    simp only [laws_FnOrdersLikely.j7]
    rw [if_neg (by decide), if_pos trivial, ladders_in n K (by omega) (by omega) (by omega) k (by omega), Option.bind_some]
    exact hM k (by omega)
end Go.Proofs.Ytabobnlpcapohaa.L
namespace Go.Proofs.Ytabobnlpcapohaa.L
open Go.RowKit Go.Proofs.Ytabobnlpcapohaa.Q Go.Proofs.YtabobnlpcapohaaW.PrintWords Go.Proofs.YtabobnlpcapohaaW.PrintLast
set_option linter.unusedVariables false
set_option linter.unusedSimpArgs false
theorem wrap_idD {n : Int} (h1 : -9223372036854775808 ≤ n) (h2 : n ≤ 9223372036854775807) : wrap64 n = n := by unfold wrap64; omega
structure Code (l : List Int) : Prop where
  byte : ∀ x ∈ l, 0 ≤ x ∧ x ≤ 255
  len : l.length ≤ 1000000000000
theorem code_of {l : List Int} (h : ∀ x ∈ l, (Lit.int .u8 x).wf = true) (hl : l.length ≤ 1000000000000) : Code l := by
  refine ⟨fun x hx => ?_, hl⟩
  have := h x hx
  simp [Lit.wf, IntKind.min, IntKind.max, IntKind.signed, IntKind.bits] at this
  omega
theorem and_byte (x : Int) : 0 ≤ Go.bits .and .u64 x 255 ∧ Go.bits .and .u64 x 255 ≤ 255 := by
  have h : (BitVec.ofInt 64 x &&& BitVec.ofInt 64 255).toNat ≤ 255 := by
    rw [BitVec.toNat_and]
    exact Nat.le_trans Nat.and_le_right (by decide)
  have e : Go.bits .and .u64 x 255 = IntKind.u64.wrap (((BitVec.ofInt 64 x &&& BitVec.ofInt 64 255).toNat : Nat) : Int) := rfl
  rw [e, IntWalk.u64_in _ (by omega)]
  omega
theorem next_ok {l : List Int} (hl : Code l) (a s : Int) (h0 : 0 ≤ a) (h1 : a ≤ 1000000000000000) : ∃ b s', spec_l1Cur_next.f l a s = some (b, a + 1, s') ∧ 0 ≤ b ∧ b ≤ 255 := by
  have hn := hl.len
  have hw : wrap64 (a + 1) = a + 1 := wrap_idD (by omega) (by omega)
  unfold spec_l1Cur_next.f
  rw [hw]
  by_cases h : a < (l.length : Int)
  · have hb := hl.byte (rd l a) (by
      unfold rd
      rw [List.getD_eq_getElem?_getD, List.getElem?_eq_getElem (by omega)]
      exact List.getElem_mem _)
    rw [if_pos h, if_pos h0, if_pos (by omega), wrap_idD (n := rd l a) (by omega) (by omega)]
    exact ⟨_, _, rfl, hb.1, hb.2⟩
  · have key : ∀ x, wrap64 (Go.bits .and .u64 x 255) = Go.bits .and .u64 x 255 := fun x => by
      have hb := and_byte x
      exact wrap_idD (by omega) (by omega)
    rw [if_neg h, if_neg (by omega), key]
    exact ⟨_, _, rfl, and_byte _⟩
theorem pick_ok {l : List Int} (hl : Code l) (a s n : Int) (h0 : 0 ≤ a) (h1 : a ≤ 1000000000000000) (hn : n ≤ 200) : ∃ v b s', spec_l1Cur_pick.f l a s n = some (v, b, s') ∧ 0 ≤ v ∧ (n ≤ 1 → v = 0) ∧ (2 ≤ n → v < n) ∧ a ≤ b ∧ b ≤ a + 1 := by
  unfold spec_l1Cur_pick.f
  by_cases h : n ≤ 1
  · rw [if_pos h]
    exact ⟨_, _, _, rfl, by omega, fun _ => rfl, fun h2 => by omega, by omega, by omega⟩
  · obtain ⟨b, s', e, h2, h3⟩ := next_ok hl a s h0 h1
    rw [if_neg h, e, Option.bind_some, if_neg (by omega), if_neg (by omega)]
    refine ⟨_, _, _, rfl, Int.tmod_nonneg _ h2, fun h4 => by omega, fun _ => Int.tmod_lt_of_pos _ (by omega), by simp only []; omega, by simp only []; omega⟩
theorem one_ok {l : List Int} (hl : Code l) (a s n : Int) (h0 : 0 ≤ a) (h1 : a ≤ 1000000000000000) (hn : n ≤ 200) : ∃ v b s', spec_l1Cur_one.f l a s n = some (v, b, s') ∧ a ≤ b ∧ b ≤ a + 1 := by
  obtain ⟨v, b, s', e, _, _, _, h2, h3⟩ := pick_ok hl a s n h0 h1 hn
  unfold spec_l1Cur_one.f
  rw [e]
  exact ⟨_, _, _, rfl, h2, h3⟩
theorem among_ok {l : List Int} (hl : Code l) (a s : Int) (m : List Int) (h0 : 0 ≤ a) (h1 : a ≤ 1000000000000000) (hm : m.length ≤ 200) (hm0 : 0 < m.length) : ∃ v b s', spec_l1Cur_among.f l a s m = some (v, b, s') ∧ v ∈ m ∧ a ≤ b ∧ b ≤ a + 1 := by
  obtain ⟨v, b, s', e, h2, h3, h4, h5, h6⟩ := pick_ok hl a s (m.length : Int) h0 h1 (by omega)
  have hv : v < (m.length : Int) := by
    by_cases c : (m.length : Int) ≤ 1
    · rw [h3 c]; omega
    · exact h4 (by omega)
  unfold spec_l1Cur_among.f
  rw [e, Option.bind_some]
  simp only []
  rw [if_pos h2, if_pos hv]
  refine ⟨_, _, _, rfl, ?_, h5, h6⟩
  unfold rd
  rw [List.getD_eq_getElem?_getD, List.getElem?_eq_getElem (by omega)]
  exact List.getElem_mem _
end Go.Proofs.Ytabobnlpcapohaa.L
namespace Go.Proofs.Ytabobnlpcapohaa.L
open Go.RowKit Go.Proofs.Ytabobnlpcapohaa.Q Go.Proofs.YtabobnlpcapohaaW.PrintWords Go.Proofs.YtabobnlpcapohaaW.PrintLast
set_option linter.unusedVariables false
set_option linter.unusedSimpArgs false
def fallL (most : Nat) : List (Int × Int) := ([1, 2, 6, 7, -1].flatMap fun n => [0, 1, 20, 21, -1].map fun k => ((n : Int), (k : Int))) ++ ((List.range (most - 1)).flatMap fun n => (List.range 9).map fun k => (((n + 2 : Nat) : Int), ((k : Nat) : Int)))
theorem fall_ok {l : List Int} (hl : Code l) (a s : Int) (most : Nat) (hm : 2 ≤ most ∧ most ≤ 100) (h0 : 0 ≤ a) (h1 : a ≤ 100000000000000) : ∃ n k b s', spec_l1Cur_fall.f l a s (most : Int) = some (n, k, b, s') ∧ (n, k) ∈ fallL most ∧ a ≤ b ∧ b ≤ a + 3 := by
  obtain ⟨o, b, s1, e1, h2, h3⟩ := one_ok hl a s 10 h0 (by omega) (by omega)
  unfold spec_l1Cur_fall.f
  rw [e1, Option.bind_some]
  simp only []
  by_cases ho : o = true
  · obtain ⟨n, b2, s2, e2, hn, h4, h5⟩ := among_ok hl b s1 [1, 2, 6, 7, -1] (by omega) (by omega) (by decide) (by decide)
    obtain ⟨k, b3, s3, e3, hk, h6, h7⟩ := among_ok hl b2 s2 [0, 1, 20, 21, -1] (by omega) (by omega) (by decide) (by decide)
    rw [if_pos ho, e2, Option.bind_some]
    simp only []
    rw [e3, Option.bind_some]
    refine ⟨n, k, b3, s3, rfl, ?_, by omega, by omega⟩
    unfold fallL
    refine List.mem_append_left _ (List.mem_flatMap.2 ⟨n, hn, List.mem_map.2 ⟨k, hk, rfl⟩⟩)
  · rw [if_neg ho, wrap_idD (by omega) (by omega)]
    obtain ⟨v, b2, s2, e2, hv0, hv1, hv2, h4, h5⟩ := pick_ok hl b s1 ((most : Int) - 1) (by omega) (by omega) (by omega)
    have hv : v < (most : Int) - 1 := by
      by_cases c : (most : Int) - 1 ≤ 1
      · rw [hv1 c]; omega
      · exact hv2 (by omega)
    rw [e2, Option.bind_some]
    simp only []
    obtain ⟨k, b3, s3, e3, hk0, _, hk2, h6, h7⟩ := pick_ok hl b2 s2 9 (by omega) (by omega) (by omega)
    have hk := hk2 (by omega)
    rw [e3, Option.bind_some, wrap_idD (n := 2 + v) (by omega) (by omega)]
    refine ⟨2 + v, k, b3, s3, rfl, ?_, by omega, by omega⟩
    unfold fallL
    refine List.mem_append_right _ (List.mem_flatMap.2 ⟨v.toNat, List.mem_range.2 (by omega), List.mem_map.2 ⟨k.toNat, List.mem_range.2 (by omega), ?_⟩⟩)
    show (_, _) = (_, _)
    congr 1 <;> omega
theorem countEnds_ok {l : List Int} (hl : Code l) : ∃ n k c d, spec_DrawCountEnds.f l = some (n, k, c, d) ∧ (n, k) ∈ fallL 6 ∧ (-1 ≤ c ∧ c ≤ 5) ∧ (-1 ≤ d ∧ d ≤ 5) := by
  obtain ⟨n, k, b, s, e, hm, h0, h1⟩ := fall_ok hl 0 0 6 (by omega) (by omega) (by omega)
  unfold spec_DrawCountEnds.f
  have e' : spec_l1Cur_fall.f l 0 0 6 = _ := e
  rw [e', Option.bind_some]
  simp only []
  obtain ⟨c, b2, s2, e2, c0, _, c2, h2, h3⟩ := pick_ok hl b s 7 (by omega) (by omega) (by omega)
  have := c2 (by omega)
  rw [e2, Option.bind_some]
  simp only []
  obtain ⟨d, b3, s3, e3, d0, _, d2, h4, h5⟩ := pick_ok hl b2 s2 7 (by omega) (by omega) (by omega)
  have := d2 (by omega)
  rw [e3, Option.bind_some, wrap_idD (n := c - 1) (by omega) (by omega), wrap_idD (n := d - 1) (by omega) (by omega)]
  exact ⟨n, k, c - 1, d - 1, rfl, hm, by omega, by omega⟩
end Go.Proofs.Ytabobnlpcapohaa.L
namespace Go.Proofs.Ytabobnlpcapohaa.L
open Go.RowKit Go.Proofs.Ytabobnlpcapohaa.Q Go.Proofs.YtabobnlpcapohaaW.PrintWords Go.Proofs.YtabobnlpcapohaaW.PrintLast
set_option linter.unusedVariables false
set_option linter.unusedSimpArgs false
theorem ownD (l : List Int) (h : l.length ≤ 8) : spec_l1Own.f l = some l := by
  unfold spec_l1Own.f
  rw [Option.bind_some, if_pos (by simp; omega)]; rfl
theorem sureOrder_l0 {l : List Int} (hl : Code l) (n : Nat) (hn : n ≤ 9) : ∀ (d i k : Nat) (a s : Int) (acc : List Int), i + d = n → acc.length = i → 0 ≤ a → a + d ≤ 1000000000000000 → d < k →
    ∃ r b s', spec_l1Cur_sureOrder.l0 k (n : Int) acc (i : Int) l a s = some (r, b, s') ∧ r.length = n ∧ a ≤ b ∧ b ≤ a + d
  | 0, i, k, a, s, acc, hi, ha, h0, h1, hk => by
    obtain ⟨k, rfl⟩ : ∃ m, k = m + 1 := ⟨k - 1, by omega⟩
    simp only [spec_l1Cur_sureOrder.l0]
    rw [if_neg (by omega)]
    exact ⟨acc, a, s, rfl, by omega, by omega, by omega⟩
  | d + 1, i, k, a, s, acc, hi, ha, h0, h1, hk => by
    obtain ⟨k, rfl⟩ : ∃ m, k = m + 1 := ⟨k - 1, by omega⟩
    obtain ⟨v, b, s', e, hv, hv1, hv2, hb, hb2⟩ := pick_ok hl a s ((acc.length : Int) + 1) h0 (by omega) (by omega)
    have hv3 : v ≤ (acc.length : Int) := by
      by_cases c : (acc.length : Int) + 1 ≤ 1
      · rw [hv1 c]; omega
      · have := hv2 (by omega); omega
    have hlen : (acc.take v.toNat ++ [(i : Int)] ++ acc.drop v.toNat).length = i + 1 := by
      simp [List.length_append, List.length_take, List.length_drop]; omega
    obtain ⟨r, b', s2, e2, hr, h3, h4⟩ := sureOrder_l0 hl n hn d (i + 1) k b s' (acc.take v.toNat ++ [(i : Int)] ++ acc.drop v.toNat) (by omega) hlen (by omega) (by omega) (by omega)
    have o := ownD (acc.take v.toNat) (by rw [List.length_take]; omega)
    simp only [spec_l1Cur_sureOrder.l0]
    rw [if_pos (by omega), wrap_idD (n := (acc.length : Int) + 1) (by omega) (by omega), e, Option.bind_some]
    simp only []
    rw [if_pos hv, if_pos hv3, o, Option.bind_some, if_pos (by rw [List.length_take]; omega), Option.bind_some, Option.bind_some, if_pos (by simp [List.length_append, List.length_take, List.length_drop]; omega), wrap_idD (n := (i : Int) + 1) (by omega) (by omega), show ((i : Int) + 1) = ((i + 1 : Nat) : Int) by omega, e2]
    exact ⟨r, b', s2, rfl, hr, by omega, by omega⟩
theorem sureOrder_ok {l : List Int} (hl : Code l) (a s : Int) (n : Nat) (hn : n ≤ 9) (h0 : 0 ≤ a) (h1 : a ≤ 100000000000000) : ∃ r b s', spec_l1Cur_sureOrder.f 200 l a s (n : Int) = some (r, b, s') ∧ r.length = n ∧ a ≤ b ∧ b ≤ a + n := by
  have := sureOrder_l0 hl n hn n 0 200 a s [] (by omega) rfl h0 (by omega) (by omega)
  exact this
theorem order_ok {l : List Int} (hl : Code l) (a s : Int) (h0 : 0 ≤ a) (h1 : a ≤ 10000000000000) : ∃ p b s', spec_l1Cur_order.f 200 l a s = some (p, b, s') ∧ p.length ≤ 100 := by
  obtain ⟨v, b1, s1, e1, hv0, _, hv2, h2, h3⟩ := pick_ok hl a s 6 h0 (by omega) (by omega)
  have hv3 := hv2 (by omega)
  obtain ⟨r, b2, s2, e2, hr, h4, h5⟩ := sureOrder_ok hl b1 s1 (1 + v).toNat (by omega) (by omega) (by omega)
  rw [show (((1 + v).toNat : Nat) : Int) = 1 + v by omega] at e2
  obtain ⟨c, b3, s3, e3, hc0, _, hc2, h6, h7⟩ := pick_ok hl b2 s2 14 (by omega) (by omega) (by omega)
  unfold spec_l1Cur_order.f
  rw [e1, Option.bind_some]
  simp only []
  rw [wrap_idD (n := 1 + v) (by omega) (by omega), e2, Option.bind_some]
  simp only []
  rw [e3, Option.bind_some]
  simp only []
  by_cases g0 : c = 0
  · rw [if_pos g0]
    obtain ⟨v4, b4, s4, e4, hw0, hw1, hw2, h8, h9⟩ := pick_ok hl b3 s3 (r.length : Int) (by omega) (by omega) (by omega)
    obtain ⟨v5, b5, s5, e5, _, h10, h11⟩ := among_ok hl b4 s4 [(-1), 0, (r.length : Int), 4611686018427387904] (by omega) (by omega) (by simp) (by simp)
    have hw : v4 < (r.length : Int) := by
      by_cases c1 : (r.length : Int) ≤ 1
      · rw [hw1 c1]; omega
      · exact hw2 (by omega)
    rw [e4, Option.bind_some]
    simp only []
    rw [e5, Option.bind_some, if_pos hw0, if_pos hw]
    exact ⟨_, _, _, rfl, by simp; omega⟩
  · rw [if_neg g0]
    by_cases g1 : c = 1
    · rw [if_pos g1]
      exact ⟨_, _, _, rfl, by simp⟩
    · rw [if_neg g1]
      by_cases g2 : c = 2
      · rw [if_pos g2]
        obtain ⟨v4, b4, s4, e4, hw0, _, hw2, h8, h9⟩ := pick_ok hl b3 s3 2 (by omega) (by omega) (by omega)
        have hw := hw2 (by omega)
        obtain ⟨o, b5, s5, e5, ho, h10, h11⟩ := sureOrder_ok hl b4 s4 (8 + v4).toNat (by omega) (by omega) (by omega)
        rw [show (((8 + v4).toNat : Nat) : Int) = 8 + v4 by omega] at e5
        rw [e4, Option.bind_some]
        simp only []
        rw [wrap_idD (n := 8 + v4) (by omega) (by omega), e5, Option.bind_some]
        exact ⟨o, b5, s5, rfl, by omega⟩
      · rw [if_neg g2]
        exact ⟨_, _, _, rfl, by omega⟩
theorem drawOrder_ok {l : List Int} (hl : Code l) : ∃ n k p, spec_DrawCountForOrder.f 201 l = some (n, k, p) ∧ p.length ≤ 100 := by
  obtain ⟨n, k, b, s, e, hm, h0, h1⟩ := fall_ok hl 0 0 5 (by omega) (by omega) (by omega)
  have e' : spec_l1Cur_fall.f l 0 0 5 = _ := e
  unfold spec_DrawCountForOrder.f
  rw [e', Option.bind_some]
  simp only []
  by_cases g : 2 ≤ n ∧ n ≤ 5
  · have hi : spec_l1In.f n 2 5 = some true := by unfold spec_l1In.f; rw [if_pos g.1, decide_eq_true g.2]
    obtain ⟨o, b2, s2, e2, h2, h3⟩ := one_ok hl b s 10 (by omega) (by omega) (by omega)
    rw [hi, Option.bind_some, if_pos rfl, e2, Option.bind_some]
    simp only [spec_DrawCountForOrder.j0]
    cases o with
    | true =>
      obtain ⟨p, b3, s3, e3, hp⟩ := order_ok hl b2 s2 (by omega) (by omega)
      rw [if_pos rfl, e3, Option.bind_some]
      exact ⟨_, _, _, rfl, hp⟩
    | false =>
      obtain ⟨p, b3, s3, e3, hp, _, _⟩ := sureOrder_ok hl b2 s2 n.toNat (by omega) (by omega) (by omega)
      rw [show ((n.toNat : Nat) : Int) = n by omega] at e3
      rw [if_neg (by decide), e3, Option.bind_some]
      exact ⟨n, k, p, rfl, by omega⟩
  · have hi : spec_l1In.f n 2 5 = some false := by
      unfold spec_l1In.f
      by_cases c : 2 ≤ n
      · rw [if_pos c, decide_eq_false (by omega)]
      · rw [if_neg c]
    obtain ⟨p, b3, s3, e3, hp⟩ := order_ok hl b s (by omega) (by omega)
    rw [hi, Option.bind_some, if_neg (by decide)]
    simp only [spec_DrawCountForOrder.j0]
    rw [if_pos trivial, e3, Option.bind_some]
    exact ⟨_, _, _, rfl, hp⟩
theorem fallL_int {most : Nat} (hm : most ≤ 100) {n k : Int} (h : (n, k) ∈ fallL most) : -1 ≤ n ∧ n ≤ 200 ∧ -1 ≤ k ∧ k ≤ 100 := by
  unfold fallL at h
  rcases List.mem_append.1 h with h | h
  · simp at h
    omega
  · obtain ⟨i, hi, h⟩ := List.mem_flatMap.1 h
    obtain ⟨j, hj, h⟩ := List.mem_map.1 h
    have := List.mem_range.1 hi
    have := List.mem_range.1 hj
    obtain ⟨h1, h2⟩ := Prod.mk.inj h
    omega
theorem drawMean_ok {l : List Int} (hl : Code l) : ∃ n k, spec_DrawMeanInversions.f l = some (n, k) ∧ -1 ≤ n ∧ n ≤ 200 ∧ -1 ≤ k ∧ k ≤ 100 := by
  obtain ⟨n, k, b, s, e, hm, h0, h1⟩ := fall_ok hl 0 0 5 (by omega) (by omega) (by omega)
  have e' : spec_l1Cur_fall.f l 0 0 5 = _ := e
  unfold spec_DrawMeanInversions.f spec_DrawCountOrdersMade.f
  rw [e', Option.bind_some]
  exact ⟨n, k, rfl, fallL_int (by omega) hm⟩
theorem drawMeet_ok {l : List Int} (hl : Code l) : ∃ n k c d, spec_DrawMeanMeetings.f l = some (n, k, c, d) := by
  obtain ⟨n, k, c, d, e, _⟩ := countEnds_ok hl
  unfold spec_DrawMeanMeetings.f
  rw [e]
  exact ⟨_, _, _, _, rfl⟩
theorem drawFirst_ok {l : List Int} (hl : Code l) : ∃ t, spec_DrawFirstAll.f l = some t ∧ t ∈ ([2, 3, 4, 5, 1, 6, (-1)] : List Int) := by
  obtain ⟨v, b, s, e, hv, _, _⟩ := among_ok hl 0 0 [2, 3, 4, 5, 1, 6, (-1)] (by omega) (by omega) (by simp) (by simp)
  unfold spec_DrawFirstAll.f
  rw [e]
  exact ⟨v, rfl, hv⟩
end Go.Proofs.Ytabobnlpcapohaa.L
namespace Go.Proofs.Ytabobnlpcapohaa.L
open Go.RowKit Go.Proofs.Ytabobnlpcapohaa.Q Go.Proofs.YtabobnlpcapohaaW.PrintWords Go.Proofs.YtabobnlpcapohaaW.PrintLast
set_option linter.unusedVariables false
set_option linter.unusedSimpArgs false
theorem big_cases (l m : List Int) (hl : l.length ≤ 9223372036854775807) (hm : m.length ≤ 9223372036854775807) : laws_big.f l m = some true ∨ (laws_big.f l m = some false ∧ l.length ≤ 1048576 ∧ m.length ≤ 1048576) := by
  unfold laws_big.f
  by_cases h : (l.length : Int) > 1048576
  · rw [if_pos h]; exact Or.inl rfl
  · rw [if_neg h]
    have e : wrap64 (1048576 - (l.length : Int)) = 1048576 - (l.length : Int) := by unfold wrap64; omega
    rw [e]
    by_cases h2 : (m.length : Int) > 1048576 - (l.length : Int)
    · exact Or.inl (by simp; omega)
    · exact Or.inr ⟨by simp; omega, by omega, by omega⟩
end Go.Proofs.Ytabobnlpcapohaa.L
