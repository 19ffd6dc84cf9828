/- FnExactMeanMeetings: for all whole numbers of int the law answers true. The counts are told as lists; how often two wires have met is told by its sum alone (modulo 2 to the 64); both sides come to one sum. No condition. -/
import Derived.Test.YtghogdffocnjnaaQx38
namespace Go.Proofs.Ytghogdffocnjnaa.Pure
open Go.RowKit Go.Proofs.Ytghogdffocnjnaa.Q Go.Proofs.YtghogdffocnjnaaW.PrintWords Go.Proofs.YtghogdffocnjnaaW.PrintLast
set_option linter.unusedSimpArgs false
set_option linter.unusedVariables false
namespace FnExactMeanMeetingsAid
theorem between_in (a lo hi : Int) (h1 : lo ≤ a) (h2 : a ≤ hi) : impl_between.f a lo hi = some true := by
  unfold impl_between.f; rw [if_pos h1, decide_eq_true h2]
theorem between_out (a lo hi : Int) (h : a < lo ∨ hi < a) : impl_between.f a lo hi = some false := by
  unfold impl_between.f
  split
  · rw [decide_eq_false (by omega)]
  · rfl
theorem l1In_in (a lo hi : Int) (h1 : lo ≤ a) (h2 : a ≤ hi) : spec_l1In.f a lo hi = some true := by
  unfold spec_l1In.f; rw [if_pos h1, decide_eq_true h2]
theorem l1In_out (a lo hi : Int) (h : a < lo ∨ hi < a) : spec_l1In.f a lo hi = some false := by
  unfold spec_l1In.f
  split
  · rw [decide_eq_false (by omega)]
  · rfl
def ov (p r : Nat) : Nat := if p = r then r + 1 else if p = r + 1 then r else p
def ix (n a r : Nat) : Nat := ov (a / n) r * n + ov (a % n) r
def hit (n a r : Nat) : Nat := if ov (a / n) r = a % n ∧ ov (a % n) r = a / n then 1 else 0
def adj (n a : Nat) : Nat := if a / n = a % n + 1 ∨ a % n = a / n + 1 then 1 else 0
def hits (n a : Nat) : Nat → Nat → Nat
  | 0, _ => 0
  | d + 1, r => hit n a r + hits n a d (r + 1)
theorem w_in {x : Int} (h1 : -9223372036854775808 ≤ x) (h2 : x ≤ 9223372036854775807) : wrap64 x = x := by unfold wrap64; omega
theorem w_mod (x : Int) : ∃ z : Int, wrap64 x = x + z * 18446744073709551616 := ⟨(wrap64 x - x) / 18446744073709551616, by unfold wrap64; omega⟩
theorem facts : ∀ n ∈ List.range 7, 2 ≤ n → ∀ a ∈ List.range (n * n), (wrap64 (Int.tdiv (a : Int) (n : Int)) = ((a / n : Nat) : Int) ∧ Int.tmod (a : Int) (n : Int) = ((a % n : Nat) : Int) ∧ (a / n ≠ a % n → hits n a (n - 1) 0 = adj n a) ∧ adj n a ≤ 1) ∧ ∀ r ∈ List.range (n - 1),
    spec_laOver.f ((a / n : Nat) : Int) (r : Int) = some (ov (a / n) r : Int) ∧ spec_laOver.f ((a % n : Nat) : Int) (r : Int) = some (ov (a % n) r : Int) ∧
    impl_over.f ((a / n : Nat) : Int) (r : Int) = some (ov (a / n) r : Int) ∧ impl_over.f ((a % n : Nat) : Int) (r : Int) = some (ov (a % n) r : Int) ∧
    wrap64 ((wrap64 ((ov (a / n) r : Int) * (n : Int))) + (ov (a % n) r : Int)) = (ix n a r : Int) ∧ ix n a r < n * n ∧ (a / n ≠ a % n → ix n a r / n ≠ ix n a r % n) := by decide +kernel
def add (l : List Int) (i : Nat) (v : Int) : List Int := l.set i (l.getD i 0 + v)
def row (n a : Nat) (c : Int) : Nat → Nat → List Int → List Int
  | 0, _, l => l
  | d + 1, r, l => row n a c d (r + 1) (add l (ix n a r) c)
def rnd (n : Nat) (C : List Int) : Nat → Nat → List Int → List Int
  | 0, _, l => l
  | e + 1, a, l => rnd n C e (a + 1) (row n a (C.getD a 0) (n - 1) 0 l)
def nxt (n : Nat) (C : List Int) : List Int := rnd n C (n * n) 0 (List.replicate (n * n) 0)
def Cs (n : Nat) (C : List Int) : Nat → List Int
  | 0 => C
  | j + 1 => nxt n (Cs n C j)
structure G (n : Nat) (l : List Int) (s : Int) : Prop where
  len : l.length = n * n
  pos : ∀ i, 0 ≤ l.getD i 0
  dia : ∀ i, i / n = i % n → l.getD i 0 = 0
  sum : l.sum = s
theorem sum_set : ∀ (l : List Int) (i : Nat) (v : Int), i < l.length → (l.set i v).sum = l.sum - l.getD i 0 + v
  | [], i, v, h => by simp at h
  | x :: l, 0, v, h => by simp; omega
  | x :: l, i + 1, v, h => by
    have := sum_set l i v (by simpa using h)
    simp only [List.set_cons_succ, List.sum_cons, List.getD_cons_succ]
    omega
theorem sum_pos : ∀ (l : List Int), (∀ i, 0 ≤ l.getD i 0) → 0 ≤ l.sum
  | [], _ => by simp
  | x :: l, h => by
    have h1 := sum_pos l (fun i => by simpa using h (i + 1))
    have h2 := h 0
    simp only [List.getD_cons_zero] at h2
    simp only [List.sum_cons]; omega
theorem getD_le : ∀ (l : List Int) (i : Nat), (∀ i, 0 ≤ l.getD i 0) → l.getD i 0 ≤ l.sum
  | [], i, _ => by simp
  | x :: l, 0, h => by
    have := sum_pos l (fun i => by simpa using h (i + 1))
    simp only [List.getD_cons_zero, List.sum_cons]; omega
  | x :: l, i + 1, h => by
    have h1 := getD_le l i (fun i => by simpa using h (i + 1))
    have h2 := h 0
    simp only [List.getD_cons_zero] at h2
    simp only [List.getD_cons_succ, List.sum_cons]; omega
theorem getD_set (l : List Int) (i j : Nat) (v : Int) (h : i < l.length) : (l.set i v).getD j 0 = if i = j then v else l.getD j 0 := by
  simp only [List.getD_eq_getElem?_getD, List.getElem?_set]
  by_cases e : i = j
  · subst e; simp [h]
  · simp [e]
theorem G.add {n : Nat} {l : List Int} {s c : Int} (g : G n l s) (i : Nat) (h : i < n * n) (hc : 0 ≤ c) (hd : c = 0 ∨ i / n ≠ i % n) : G n (add l i c) (s + c) := by
  have hl : i < l.length := by rw [g.len]; exact h
  unfold FnExactMeanMeetingsAid.add
  refine ⟨by simp [g.len], fun j => ?_, fun j e => ?_, ?_⟩
  · rw [getD_set _ _ _ _ hl]
    have := g.pos i; have := g.pos j
    split <;> omega
  · rw [getD_set _ _ _ _ hl]
    have := g.dia j e
    split
    · next h' => subst h'; rcases hd with hd | hd
                 · omega
                 · exact absurd e hd
    · exact this
  · rw [sum_set _ _ _ hl, g.sum]; omega
theorem add0 (l : List Int) (i : Nat) : add l i 0 = l := by
  unfold add
  rw [Int.add_zero]
  by_cases h : i < l.length
  · rw [List.getD_eq_getElem?_getD, List.getElem?_eq_getElem h]; simp
  · exact List.set_eq_of_length_le (by omega)
theorem row0 (n a : Nat) : ∀ d r l, row n a 0 d r l = l
  | 0, _, _ => rfl
  | d + 1, r, l => by rw [row, add0]; exact row0 n a d (r + 1) l
theorem row_G (n a : Nat) (hn : 2 ≤ n) (hn6 : n ≤ 6) (ha : a < n * n) (c : Int) (hc : 0 ≤ c) (hd : c = 0 ∨ a / n ≠ a % n) : ∀ d r (l : List Int) (s : Int), r + d = n - 1 → G n l s → G n (row n a c d r l) (s + (d : Int) * c)
  | 0, _, l, s, _, g => by simpa [row] using g
  | d + 1, r, l, s, hr, g => by
    have f := (facts n (List.mem_range.2 (by omega)) hn a (List.mem_range.2 ha)).2 r (List.mem_range.2 (by omega))
    have := row_G n a hn hn6 ha c hc hd d (r + 1) _ _ (by omega) (g.add (ix n a r) f.2.2.2.2.2.1 hc (hd.imp id f.2.2.2.2.2.2))
    rw [row]
    rw [show ((d + 1 : Nat) : Int) * c = c + (d : Int) * c by rw [Int.natCast_add, Int.add_mul]; simp; omega, ← Int.add_assoc]
    exact this
theorem rnd_G (n : Nat) (hn : 2 ≤ n) (hn6 : n ≤ 6) (C : List Int) (sC : Int) (gC : G n C sC) : ∀ e a (l : List Int) (s : Int), a + e = n * n → G n l s → G n (rnd n C e a l) (s + ((n - 1 : Nat) : Int) * (C.drop a).sum)
  | 0, a, l, s, h, g => by
    rw [List.drop_of_length_le (by rw [gC.len]; omega)]; simpa [rnd] using g
  | e + 1, a, l, s, h, g => by
    have hl : a < C.length := by rw [gC.len]; omega
    have g1 := row_G n a hn hn6 (by omega) (C.getD a 0) (gC.pos a) (by by_cases e : a / n = a % n
                                                                       · exact Or.inl (gC.dia a e)
                                                                       · exact Or.inr e) (n - 1) 0 l s (by omega) g
    have g2 := rnd_G n hn hn6 C sC gC e (a + 1) _ _ (by omega) g1
    rw [rnd, List.drop_eq_getElem_cons hl, List.sum_cons, Int.mul_add, ← Int.add_assoc]
    rw [List.getD_eq_getElem?_getD, List.getElem?_eq_getElem hl] at g2
    simpa [List.getD_eq_getElem?_getD, List.getElem?_eq_getElem hl] using g2
theorem rep_G (n : Nat) : G n (List.replicate (n * n) 0) 0 := by
  refine ⟨by simp, fun i => ?_, fun i _ => ?_, ?_⟩
  · simp [List.getD_eq_getElem?_getD, List.getElem?_replicate]; split <;> simp
  · simp [List.getD_eq_getElem?_getD, List.getElem?_replicate]; split <;> simp
  · generalize n * n = m
    induction m with
    | zero => rfl
    | succ m ih => simp [List.replicate_succ, ih]
theorem nxt_G (n : Nat) (hn : 2 ≤ n) (hn6 : n ≤ 6) (C : List Int) (sC : Int) (gC : G n C sC) : G n (nxt n C) (((n - 1 : Nat) : Int) * sC) := by
  have := rnd_G n hn hn6 C sC gC (n * n) 0 _ _ (by omega) (rep_G n)
  rw [List.drop_zero, gC.sum, Int.zero_add] at this
  exact this
theorem Cs_G (n : Nat) (hn : 2 ≤ n) (hn6 : n ≤ 6) (C : List Int) (gC : G n C 1) : ∀ j, G n (Cs n C j) (((n - 1) ^ j : Nat) : Int)
  | 0 => by simpa [Cs] using gC
  | j + 1 => by
    have := nxt_G n hn hn6 _ _ (Cs_G n hn hn6 C gC j)
    rw [Cs, Nat.pow_succ, Nat.mul_comm]
    exact_mod_cast this
def Bd : Int := 4000000000000000000
theorem s2 (n : Nat) (hn : 2 ≤ n) (hn6 : n ≤ 6) (a : Nat) (ha : a < n * n) (k : Int) (x11 x77 : List Int) (x12 x78 c : Int) (hx : x11.length = n * n) (hc : 0 ≤ c) (hd : c = 0 ∨ a / n ≠ a % n) (K : Nat) : ∀ d r (x13 x14 : List Int) (s : Int), r + d = n - 1 → G n x13 s → s + (d : Int) * c ≤ Bd → x14.length = n * n →
    ∃ x14' z, x14'.length = n * n ∧ x14'.sum = x14.sum + (d : Int) * x11.getD a 0 + ((hits n a d r : Nat) : Int) * c + z * 18446744073709551616 ∧
      spec_MeanMeetings.l2 (K + d + 1) n k x11 x12 x13 x14 a c ((a / n : Nat) : Int) ((a % n : Nat) : Int) r x77 x78 a = spec_MeanMeetings.l1 K n k x11 x12 (row n a c d r x13) x14' x77 x78 ((a : Int) + 1)
  | 0, r, x13, x14, s, hr, g, hB, h14 => by
    refine ⟨x14, 0, h14, by simp [hits], ?_⟩
    have hrc : (r : Int) = (n : Int) - 1 := by omega
    have hN : n * n ≤ 36 := Nat.mul_le_mul hn6 hn6
    rw [show K + 0 + 1 = K + 1 by omega]
    simp only [spec_MeanMeetings.l2, row]
    rw [w_in (x := (n : Int) - 1) (by omega) (by omega), if_neg (by omega), w_in (x := (a : Int) + 1) (by omega) (by omega)]
  | d + 1, r, x13, x14, s, hr, g, hB, h14 => by
    obtain ⟨f1, f2, _, _, f3, f4, f5⟩ := (facts n (List.mem_range.2 (by omega)) hn a (List.mem_range.2 ha)).2 r (List.mem_range.2 (by omega))
    have hN : n * n ≤ 36 := Nat.mul_le_mul hn6 hn6
    have hdc : 0 ≤ (d : Int) * c := Int.mul_nonneg (by omega) hc
    have hsp : ((d + 1 : Nat) : Int) * c = (d : Int) * c + c := by rw [Int.natCast_add, Int.add_mul]; simp
    have hsq : ((d + 1 : Nat) : Int) * x11.getD a 0 = (d : Int) * x11.getD a 0 + x11.getD a 0 := by rw [Int.natCast_add, Int.add_mul]; simp
    rw [hsp] at hB
    have hle := getD_le x13 (ix n a r) g.pos
    have hge := g.pos (ix n a r)
    rw [g.sum] at hle
    unfold Bd at hB
    have g1 := g.add (ix n a r) f4 hc (hd.imp id f5)
    have hi13 : ix n a r < x13.length := by rw [g.len]; exact f4
    have hi14 : ix n a r < x14.length := by omega
    have key : ∀ y : List Int, y.length = n * n → (∃ z, y.sum = x14.sum + x11.getD a 0 + ((hit n a r : Nat) : Int) * c + z * 18446744073709551616) →
        ∃ x14' z, x14'.length = n * n ∧ x14'.sum = x14.sum + ((d + 1 : Nat) : Int) * x11.getD a 0 + ((hits n a (d + 1) r : Nat) : Int) * c + z * 18446744073709551616 ∧
      spec_MeanMeetings.l2 (K + d + 1) n k x11 x12 (add x13 (ix n a r) c) y a c ((a / n : Nat) : Int) ((a % n : Nat) : Int) ((r : Int) + 1) x77 x78 a = spec_MeanMeetings.l1 K n k x11 x12 (row n a c (d + 1) r x13) x14' x77 x78 ((a : Int) + 1) := by
      rintro y hy ⟨z, hz⟩
      obtain ⟨y', z', h1, h2, h3⟩ := s2 n hn hn6 a ha k x11 x77 x12 x78 c hx hc hd K d (r + 1) (add x13 (ix n a r) c) y (s + c) (by omega) g1 (by unfold Bd; omega) hy
      refine ⟨y', z + z', h1, ?_, ?_⟩
      · rw [h2, hz, hsq]
        simp only [hits, Int.natCast_add, Int.add_mul]
        omega
      · rw [row]
        exact_mod_cast h3
    rw [show K + (d + 1) + 1 = (K + d + 1) + 1 by omega]
    generalize K + d + 1 = Q at key ⊢
    simp only [spec_MeanMeetings.l2]
    rw [w_in (x := (n : Int) - 1) (by omega) (by omega), if_pos (by omega), f1, Option.bind_some, f2, Option.bind_some, f3, if_pos (by omega), if_pos (by omega), Option.bind_some, if_pos (by omega), if_pos (by omega), if_pos (by omega), Option.bind_some]
    simp only [rd, Int.toNat_natCast]
    rw [w_in (x := x13.getD (ix n a r) 0 + c) (by omega) (by omega), w_in (x := (r : Int) + 1) (by omega) (by omega)]
    obtain ⟨z1, e1⟩ := w_mod (x14.getD (ix n a r) 0 + x11.getD a 0)
    by_cases q1 : ov (a / n) r = a % n
    · rw [if_pos (by exact_mod_cast q1)]
      by_cases q2 : ov (a % n) r = a / n
      · rw [if_pos (by exact_mod_cast q2)]
        obtain ⟨z2, e2⟩ := w_mod (wrap64 (x14.getD (ix n a r) 0 + x11.getD a 0) + c)
        refine key _ (by simp [h14]) ⟨z1 + z2, ?_⟩
        rw [sum_set _ _ _ (by simpa using hi14), getD_set _ _ _ _ hi14, sum_set _ _ _ hi14, if_pos rfl, e2, e1]
        simp only [hit, q1, q2, and_self, if_true]
        omega
      · rw [if_neg (by exact_mod_cast q2)]
        refine key _ (by simp [h14]) ⟨z1, ?_⟩
        rw [sum_set _ _ _ hi14, e1]
        simp only [hit, q2, and_false, if_false]
        omega
    · rw [if_neg (by exact_mod_cast q1)]
      refine key _ (by simp [h14]) ⟨z1, ?_⟩
      rw [sum_set _ _ _ hi14, e1]
      simp only [hit, q1, false_and, if_false]
      omega
def Ms (n : Nat) (C : List Int) : Nat → Nat → Int
  | 0, _ => 0
  | e + 1, a => ((adj n a : Nat) : Int) * C.getD a 0 + Ms n C e (a + 1)
theorem s1 (n : Nat) (hn : 2 ≤ n) (hn6 : n ≤ 6) (k : Int) (T C : List Int) (j : Int) (sC : Int) (gC : G n C sC) (hT : T.length = n * n) (hsC : ((n - 1 : Nat) : Int) * sC ≤ Bd) (K : Nat) : ∀ e a (x13 x14 : List Int), a + e = n * n → G n x13 (((n - 1 : Nat) : Int) * (C.take a).sum) → x14.length = n * n →
    ∃ x14' z, x14'.length = n * n ∧ x14'.sum = x14.sum + ((n - 1 : Nat) : Int) * (T.drop a).sum + Ms n C e a + z * 18446744073709551616 ∧
      spec_MeanMeetings.l1 (K + e * (n + 1) + 1) n k T j x13 x14 C ((n * n : Nat) : Int) a = spec_MeanMeetings.l0 K n k (rnd n C e a x13) x14' (wrap64 (j + 1))
  | 0, a, x13, x14, h, g, h14 => by
    refine ⟨x14, 0, h14, ?_, ?_⟩
    · rw [List.drop_of_length_le (by omega)]; simp [Ms]
    · rw [show K + 0 * (n + 1) + 1 = K + 1 by omega]
      simp only [spec_MeanMeetings.l1, rnd]
      rw [if_neg (by omega)]
  | e + 1, a, x13, x14, h, g, h14 => by
    have ha : a < n * n := by omega
    have hN : n * n ≤ 36 := Nat.mul_le_mul hn6 hn6
    obtain ⟨⟨f1, f2, f3, f4⟩, _⟩ := facts n (List.mem_range.2 (by omega)) hn a (List.mem_range.2 ha)
    have hlC : a < C.length := by rw [gC.len]; exact ha
    have hlT : a < T.length := by omega
    have hdC : C.getD a 0 = 0 ∨ a / n ≠ a % n := by
      by_cases e : a / n = a % n
      · exact Or.inl (gC.dia a e)
      · exact Or.inr e
    have eC : (C.take (a + 1)).sum = (C.take a).sum + C.getD a 0 := by
      rw [List.take_succ_eq_append_getElem hlC, List.sum_append]
      simp [List.getD_eq_getElem?_getD, List.getElem?_eq_getElem hlC]
    have eT : (T.drop a).sum = T.getD a 0 + (T.drop (a + 1)).sum := by
      rw [List.drop_eq_getElem_cons hlT, List.sum_cons]
      simp [List.getD_eq_getElem?_getD, List.getElem?_eq_getElem hlT]
    have hpre : (C.take (a + 1)).sum ≤ sC := by
      have h1 := congrArg List.sum (List.take_append_drop (a + 1) C)
      rw [List.sum_append, gC.sum] at h1
      have := sum_pos (C.drop (a + 1)) (fun i => by simpa [List.getD_eq_getElem?_getD] using gC.pos (a + 1 + i))
      omega
    have hs : ((n - 1 : Nat) : Int) * (C.take a).sum + ((n - 1 : Nat) : Int) * C.getD a 0 = ((n - 1 : Nat) : Int) * (C.take (a + 1)).sum := by rw [eC, Int.mul_add]
    obtain ⟨y, z, h1, h2, h3⟩ := s2 n hn hn6 a ha k T C j ((n * n : Nat) : Int) (C.getD a 0) hT (gC.pos a) hdC (K + e * (n + 1) + 1) (n - 1) 0 x13 x14 _ (by omega) g (by rw [hs]; exact Int.le_trans (Int.mul_le_mul_of_nonneg_left hpre (by omega)) hsC) h14
    have g1 := row_G n a hn hn6 ha (C.getD a 0) (gC.pos a) hdC (n - 1) 0 x13 _ (by omega) g
    rw [hs] at g1
    obtain ⟨y', z', k1, k2, k3⟩ := s1 n hn hn6 k T C j sC gC hT hsC K e (a + 1) _ y (by omega) g1 h1
    refine ⟨y', z + z', k1, ?_, ?_⟩
    · rw [k2, h2, eT, Int.mul_add]
      have : ((hits n a (n - 1) 0 : Nat) : Int) * C.getD a 0 = ((adj n a : Nat) : Int) * C.getD a 0 := by
        rcases hdC with q | q
        · rw [q]; simp
        · rw [f3 q]
      rw [this]
      simp only [Ms]
      omega
    · rw [show K + (e + 1) * (n + 1) + 1 = (K + e * (n + 1) + 1 + (n - 1) + 1) + 1 by rw [Nat.succ_mul]; omega]
      simp only [spec_MeanMeetings.l1]
      rw [if_pos (by omega), if_pos (by omega), if_pos (by omega), if_neg (by omega), f1, f2]
      simp only [rd, Int.toNat_natCast]
      rw [rnd]
      rw [← k3]
      exact_mod_cast h3
def Hs (n : Nat) (C : List Int) : Nat → Int
  | 0 => 0
  | j + 1 => ((n - 1 : Nat) : Int) * Hs n C j + Ms n (Cs n C j) (n * n) 0
theorem pw : ∀ n ∈ List.range 7, 2 ≤ n → ∀ j ∈ List.range 21, ((((n - 1) ^ j : Nat) : Int) ≤ 100000000000000 ∧ 0 < (n - 1) ^ j ∧ spec_chAll.f 30 (n : Int) (j : Int) = some (((n - 1) ^ j : Nat) : Int) ∧ impl_power.f 30 ((n - 1 : Nat) : Int) (j : Int) = some (((n - 1) ^ j : Nat) : Int)) := by decide +kernel
theorem s0 (n : Nat) (hn : 2 ≤ n) (hn6 : n ≤ 6) (C : List Int) (gC : G n C 1) (k : Nat) (hk : k ≤ 20) (K : Nat) : ∀ d j (T : List Int) (z : Int), j + d = k → T.length = n * n → T.sum = Hs n C j + z * 18446744073709551616 →
    ∃ T' z', T'.length = n * n ∧ T'.sum = Hs n C k + z' * 18446744073709551616 ∧
      spec_MeanMeetings.l0 (K + d * (n * n * (n + 1) + 2) + 1) n k (Cs n C j) T j = spec_MeanMeetings.l3 K n k 0 T' ((n * n : Nat) : Int) 0
  | 0, j, T, z, h, hT, hS => by
    obtain rfl : j = k := by omega
    refine ⟨T, z, hT, hS, ?_⟩
    rw [show K + 0 * (n * n * (n + 1) + 2) + 1 = K + 1 by omega]
    simp only [spec_MeanMeetings.l0]
    rw [if_neg (by omega), hT]
  | d + 1, j, T, z, h, hT, hS => by
    have hN : n * n ≤ 36 := Nat.mul_le_mul hn6 hn6
    have hnn : wrap64 ((n : Int) * (n : Int)) = ((n * n : Nat) : Int) := by
      rw [Int.natCast_mul]
      have : (n : Int) * (n : Int) = ((n * n : Nat) : Int) := by rw [Int.natCast_mul]
      rw [this]; exact w_in (by omega) (by omega)
    obtain ⟨p1, _⟩ := pw n (List.mem_range.2 (by omega)) hn (j + 1) (List.mem_range.2 (by omega))
    have gj := Cs_G n hn hn6 C gC j
    have hb : ((n - 1 : Nat) : Int) * (((n - 1) ^ j : Nat) : Int) ≤ Bd := by
      unfold Bd
      have : ((n - 1 : Nat) : Int) * (((n - 1) ^ j : Nat) : Int) = (((n - 1) ^ (j + 1) : Nat) : Int) := by rw [Nat.pow_succ, Nat.mul_comm]; exact (Int.natCast_mul _ _).symm
      omega
    obtain ⟨y, z1, h1, h2, h3⟩ := s1 n hn hn6 k T (Cs n C j) j _ gj hT hb (K + d * (n * n * (n + 1) + 2) + 1) (n * n) 0 (List.replicate (n * n) 0) (List.replicate (n * n) 0) (by omega) (by simpa using rep_G n) (by simp)
    have hr0 : (List.replicate (n * n) (0 : Int)).sum = 0 := (rep_G n).sum
    obtain ⟨T', z', k1, k2, k3⟩ := s0 n hn hn6 C gC k hk K d (j + 1) y (((n - 1 : Nat) : Int) * z + z1) (by omega) h1 (by rw [h2, hr0, List.drop_zero, hS, Hs, Int.mul_add, Int.add_mul, Int.mul_assoc]; omega)
    refine ⟨T', z', k1, k2, ?_⟩
    rw [← k3, show K + (d + 1) * (n * n * (n + 1) + 2) + 1 = (K + d * (n * n * (n + 1) + 2) + 1 + n * n * (n + 1) + 1) + 1 by rw [Nat.succ_mul]; omega]
    clear k3
    generalize K + d * (n * n * (n + 1) + 2) + 1 = Q at h3 ⊢
    generalize hR : spec_MeanMeetings.l0 Q n k (Cs n C (j + 1)) y ((j + 1 : Nat) : Int) = R
    simp only [spec_MeanMeetings.l0]
    rw [← hR]
    rw [if_pos (by omega), hnn, if_pos (by omega), if_pos (by omega), Int.toNat_natCast, gj.len]
    rw [w_in (x := (j : Int) + 1) (by omega) (by omega)] at h3
    rw [Cs, nxt]
    exact_mod_cast h3
theorem s3 (n k : Int) (T : List Int) (hT : T.length ≤ 100) (K : Nat) : ∀ d i (v : Int) (z : Int), i + d = T.length → -9223372036854775808 ≤ v → v ≤ 9223372036854775807 → v = (T.take i).sum + z * 18446744073709551616 →
    ∃ v' z', -9223372036854775808 ≤ v' ∧ v' ≤ 9223372036854775807 ∧ v' = T.sum + z' * 18446744073709551616 ∧
      spec_MeanMeetings.l3 (K + d + 1) n k v T (T.length : Int) (i : Int) = ((spec_chAll.f K n k).bind fun t301 => ((spec_chRatio.f K v' t301).bind fun bt302 => (some (bt302.1, bt302.2, true))))
  | 0, i, v, z, h, hv1, hv2, hv => by
    refine ⟨v, z, hv1, hv2, ?_, ?_⟩
    · rw [hv, List.take_of_length_le (by omega)]
    · rw [show K + 0 + 1 = K + 1 by omega]
      simp only [spec_MeanMeetings.l3]
      rw [if_neg (by omega)]
  | d + 1, i, v, z, h, hv1, hv2, hv => by
    have hl : i < T.length := by omega
    obtain ⟨z1, e1⟩ := w_mod (v + T.getD i 0)
    have e2 : (T.take (i + 1)).sum = (T.take i).sum + T.getD i 0 := by
      rw [List.take_succ_eq_append_getElem hl, List.sum_append]
      simp [List.getD_eq_getElem?_getD, List.getElem?_eq_getElem hl]
    obtain ⟨v', z', k1, k2, k3, k4⟩ := s3 n k T hT K d (i + 1) (wrap64 (v + T.getD i 0)) (z + z1) (by omega) (by unfold wrap64; omega) (by unfold wrap64; omega) (by rw [e1, hv, e2]; omega)
    refine ⟨v', z', k1, k2, k3, ?_⟩
    rw [show K + (d + 1) + 1 = (K + d + 1) + 1 by omega]
    generalize K + d + 1 = Q at k4 ⊢
    simp only [spec_MeanMeetings.l3]
    rw [if_pos (by omega), if_pos (by omega), if_pos (by omega), w_in (x := (i : Int) + 1) (by omega) (by omega)]
    simp only [rd, Int.toNat_natCast]
    rw [← k4]
    rfl
theorem Ms_le (n : Nat) (hn : 2 ≤ n) (hn6 : n ≤ 6) (C : List Int) (s : Int) (g : G n C s) : ∀ e a, a + e = n * n → 0 ≤ Ms n C e a ∧ Ms n C e a ≤ (C.drop a).sum
  | 0, a, h => by rw [List.drop_of_length_le (by rw [g.len]; omega)]; simp [Ms]
  | e + 1, a, h => by
    obtain ⟨⟨f1, f2, f3, f4⟩, _⟩ := facts n (List.mem_range.2 (by omega)) hn a (List.mem_range.2 (by omega))
    obtain ⟨h1, h2⟩ := Ms_le n hn hn6 C s g e (a + 1) (by omega)
    have hl : a < C.length := by rw [g.len]; omega
    have h3 := g.pos a
    have h4 : (C.drop a).sum = C.getD a 0 + (C.drop (a + 1)).sum := by
      rw [List.drop_eq_getElem_cons hl, List.sum_cons]
      simp [List.getD_eq_getElem?_getD, List.getElem?_eq_getElem hl]
    rw [Ms, h4]
    rcases (by omega : adj n a = 0 ∨ adj n a = 1) with q | q
    · rw [q, show ((0 : Nat) : Int) = 0 from rfl, Int.zero_mul]; omega
    · rw [q, show ((1 : Nat) : Int) = 1 from rfl, Int.one_mul]; omega
theorem Hs_le (n : Nat) (hn : 2 ≤ n) (hn6 : n ≤ 6) (C : List Int) (gC : G n C 1) : ∀ j, j ≤ 20 → 0 ≤ Hs n C j ∧ Hs n C j ≤ (j : Int) * (((n - 1) ^ j : Nat) : Int)
  | 0, _ => by simp [Hs]
  | j + 1, h => by
    obtain ⟨h1, h2⟩ := Hs_le n hn hn6 C gC j (by omega)
    have gj := Cs_G n hn hn6 C gC j
    obtain ⟨m1, m2⟩ := Ms_le n hn hn6 _ _ gj (n * n) 0 (by omega)
    rw [List.drop_zero, gj.sum] at m2
    have hp : (((n - 1) ^ j : Nat) : Int) ≤ (((n - 1) ^ (j + 1) : Nat) : Int) := by
      exact_mod_cast Nat.pow_le_pow_right (by omega) (by omega)
    have e : (((n - 1) ^ (j + 1) : Nat) : Int) = ((n - 1 : Nat) : Int) * (((n - 1) ^ j : Nat) : Int) := by rw [Nat.pow_succ, Nat.mul_comm]; exact Int.natCast_mul _ _
    have h3 := Int.mul_le_mul_of_nonneg_left h2 (show (0 : Int) ≤ ((n - 1 : Nat) : Int) by omega)
    have h4 : ((n - 1 : Nat) : Int) * ((j : Int) * (((n - 1) ^ j : Nat) : Int)) = (j : Int) * (((n - 1) ^ (j + 1) : Nat) : Int) := by rw [e, Int.mul_left_comm]
    have h5 := Int.mul_nonneg (show (0 : Int) ≤ ((n - 1 : Nat) : Int) by omega) h1
    rw [Hs]
    refine ⟨by omega, ?_⟩
    rw [show ((j + 1 : Nat) : Int) * (((n - 1) ^ (j + 1) : Nat) : Int) = (j : Int) * (((n - 1) ^ (j + 1) : Nat) : Int) + (((n - 1) ^ (j + 1) : Nat) : Int) by rw [Int.natCast_add, Int.add_mul]; simp]
    omega
theorem i2 (n : Nat) (hn : 2 ≤ n) (hn6 : n ≤ 6) (a : Nat) (ha : a < n * n) (x10 : List (List Int)) (c x28 x29 x36 x37 : Int) (x35 : List Int) (hc : 0 ≤ c) (hd : c = 0 ∨ a / n ≠ a % n) (K : Nat) : ∀ d r (x11 : List Int) (s : Int), r + d = n - 1 → G n x11 s → s + (d : Int) * c ≤ Bd →
    impl_pairs.l2 (K + d + 1) n x10 x11 a c x28 x29 x35 x36 x37 ((n : Int) - 1) r = impl_pairs.l1 K n x10 (row n a c d r x11) x28 x29 x35 x36 (wrap64 (x37 + 1))
  | 0, r, x11, s, hr, g, hB => by
    rw [show K + 0 + 1 = K + 1 by omega]
    simp only [impl_pairs.l2, row]
    rw [if_neg (by omega)]
  | d + 1, r, x11, s, hr, g, hB => by
    obtain ⟨_, _, f1, f2, f3, f4, f5⟩ := (facts n (List.mem_range.2 (by omega)) hn a (List.mem_range.2 ha)).2 r (List.mem_range.2 (by omega))
    obtain ⟨⟨q1, q2, _, _⟩, _⟩ := facts n (List.mem_range.2 (by omega)) hn a (List.mem_range.2 ha)
    have hN : n * n ≤ 36 := Nat.mul_le_mul hn6 hn6
    have hdc : 0 ≤ (d : Int) * c := Int.mul_nonneg (by omega) hc
    have hsp : ((d + 1 : Nat) : Int) * c = (d : Int) * c + c := by rw [Int.natCast_add, Int.add_mul]; simp
    rw [hsp] at hB
    have hle := getD_le x11 (ix n a r) g.pos
    have hge := g.pos (ix n a r)
    rw [g.sum] at hle
    have hB' := hB
    unfold Bd at hB
    have g1 := g.add (ix n a r) f4 hc (hd.imp id f5)
    have hi : ix n a r < x11.length := by rw [g.len]; exact f4
    have ih := i2 n hn hn6 a ha x10 c x28 x29 x36 x37 x35 hc hd K d (r + 1) (add x11 (ix n a r) c) (s + c) (by omega) g1 (by unfold Bd; omega)
    rw [show K + (d + 1) + 1 = (K + d + 1) + 1 by omega, row, ← ih]
    generalize K + d + 1 = Q
    generalize hR : impl_pairs.l2 Q n x10 (add x11 (ix n a r) c) a c x28 x29 x35 x36 x37 ((n : Int) - 1) ((r + 1 : Nat) : Int) = R
    simp only [impl_pairs.l2]
    rw [← hR]
    rw [if_pos (by omega), if_neg (by omega), q1, q2, f1, Option.bind_some, f2, Option.bind_some, f3, if_pos (by omega), if_pos (by omega)]
    simp only [rd, Int.toNat_natCast]
    rw [w_in (x := x11.getD (ix n a r) 0 + c) (by omega) (by omega), w_in (x := (r : Int) + 1) (by omega) (by omega)]
    rfl
theorem i1 (n : Nat) (hn : 2 ≤ n) (hn6 : n ≤ 6) (C : List Int) (sC : Int) (gC : G n C sC) (x10 : List (List Int)) (hx : x10.length ≤ 1000) (x28 x29 : Int) (hsC : ((n - 1 : Nat) : Int) * sC ≤ Bd) (K : Nat) : ∀ e a (x11 : List Int), a + e = n * n → G n x11 (((n - 1 : Nat) : Int) * (C.take a).sum) →
    ∃ F, ∀ K, impl_pairs.l1 (K + F) n x10 x11 x28 x29 C ((n * n : Nat) : Int) a = impl_pairs.l0 K n (rnd n C e a x11) (x10 ++ [rnd n C e a x11]) x28 (wrap64 (x29 + 1))
  | 0, a, x11, h, g => by
    refine ⟨1, fun K => ?_⟩
    simp only [impl_pairs.l1, rnd]
    rw [if_neg (by omega), if_pos (by omega)]
  | e + 1, a, x11, h, g => by
    have ha : a < n * n := by omega
    have hN : n * n ≤ 36 := Nat.mul_le_mul hn6 hn6
    have hlC : a < C.length := by rw [gC.len]; exact ha
    have hdC : C.getD a 0 = 0 ∨ a / n ≠ a % n := by
      by_cases e : a / n = a % n
      · exact Or.inl (gC.dia a e)
      · exact Or.inr e
    have eC : (C.take (a + 1)).sum = (C.take a).sum + C.getD a 0 := by
      rw [List.take_succ_eq_append_getElem hlC, List.sum_append]
      simp [List.getD_eq_getElem?_getD, List.getElem?_eq_getElem hlC]
    have hpre : (C.take (a + 1)).sum ≤ sC := by
      have h1 := congrArg List.sum (List.take_append_drop (a + 1) C)
      rw [List.sum_append, gC.sum] at h1
      have := sum_pos (C.drop (a + 1)) (fun i => by simpa [List.getD_eq_getElem?_getD] using gC.pos (a + 1 + i))
      omega
    have hs : ((n - 1 : Nat) : Int) * (C.take a).sum + ((n - 1 : Nat) : Int) * C.getD a 0 = ((n - 1 : Nat) : Int) * (C.take (a + 1)).sum := by rw [eC, Int.mul_add]
    have g1 := row_G n a hn hn6 ha (C.getD a 0) (gC.pos a) hdC (n - 1) 0 x11 _ (by omega) g
    rw [hs] at g1
    obtain ⟨F, hF⟩ := i1 n hn hn6 C sC gC x10 hx x28 x29 hsC K e (a + 1) _ (by omega) g1
    have hge := gC.pos a
    rw [rnd]
    by_cases hp : C.getD a 0 > 0
    · refine ⟨F + (n - 1) + 1 + 1, fun K => ?_⟩
      have h3 := i2 n hn hn6 a ha x10 (C.getD a 0) x28 x29 ((n * n : Nat) : Int) (a : Int) C hge hdC (K + F) (n - 1) 0 x11 _ (by omega) g (by rw [hs]; exact Int.le_trans (Int.mul_le_mul_of_nonneg_left hpre (by omega)) hsC)
      rw [← hF K, show K + (F + (n - 1) + 1 + 1) = (K + F + (n - 1) + 1) + 1 by omega]
      generalize hR : impl_pairs.l1 (K + F) n x10 (row n a (C.getD a 0) (n - 1) 0 x11) x28 x29 C ((n * n : Nat) : Int) ((a + 1 : Nat) : Int) = R
      generalize K + F + (n - 1) + 1 = Q at h3 ⊢
      simp only [impl_pairs.l1]
      have hp' : rd C (a : Int) > 0 := by simpa only [rd, Int.toNat_natCast] using hp
      rw [if_pos (by omega), if_pos (by omega), if_pos (by omega), if_pos hp']
      simp only [rd, Int.toNat_natCast]
      rw [w_in (x := (n : Int) - 1) (by omega) (by omega)]
      rw [w_in (x := (a : Int) + 1) (by omega) (by omega)] at h3
      rw [← hR]
      exact_mod_cast h3
    · have h0 : C.getD a 0 = 0 := by omega
      refine ⟨F + 1, fun K => ?_⟩
      rw [← hF K, show K + (F + 1) = (K + F) + 1 by omega, h0, row0]
      generalize hR : impl_pairs.l1 (K + F) n x10 x11 x28 x29 C ((n * n : Nat) : Int) ((a + 1 : Nat) : Int) = R
      simp only [impl_pairs.l1]
      have hp' : ¬ rd C (a : Int) > 0 := by simpa only [rd, Int.toNat_natCast] using hp
      rw [if_pos (by omega), if_pos (by omega), if_pos (by omega), if_neg hp', w_in (x := (a : Int) + 1) (by omega) (by omega), ← hR]
      rfl
theorem hsq (n : Nat) (hn6 : n ≤ 6) : wrap64 ((n : Int) * (n : Int)) = ((n * n : Nat) : Int) := by
  have hN : n * n ≤ 36 := Nat.mul_le_mul hn6 hn6
  have : (n : Int) * (n : Int) = ((n * n : Nat) : Int) := by rw [Int.natCast_mul]
  rw [this]; exact w_in (by omega) (by omega)
theorem i0 (n : Nat) (hn : 2 ≤ n) (hn6 : n ≤ 6) (C : List Int) (gC : G n C 1) (k : Nat) (hk : k ≤ 20) : ∀ d j (x10 : List (List Int)), j + d = k → x10 = (List.range (j + 1)).map (Cs n C) →
    ∃ F, ∀ K, impl_pairs.l0 (K + F) n (Cs n C j) x10 k j = some ((List.range (k + 1)).map (Cs n C))
  | 0, j, x10, h, hx => by
    obtain rfl : j = k := by omega
    refine ⟨1, fun K => ?_⟩
    simp only [impl_pairs.l0]
    rw [if_neg (by omega), hx]
  | d + 1, j, x10, h, hx => by
    have hN : n * n ≤ 36 := Nat.mul_le_mul hn6 hn6
    obtain ⟨p1, _⟩ := pw n (List.mem_range.2 (by omega)) hn (j + 1) (List.mem_range.2 (by omega))
    have gj := Cs_G n hn hn6 C gC j
    have hb : ((n - 1 : Nat) : Int) * (((n - 1) ^ j : Nat) : Int) ≤ Bd := by
      unfold Bd
      have : ((n - 1 : Nat) : Int) * (((n - 1) ^ j : Nat) : Int) = (((n - 1) ^ (j + 1) : Nat) : Int) := by rw [Nat.pow_succ, Nat.mul_comm]; exact (Int.natCast_mul _ _).symm
      omega
    have hxl : x10.length ≤ 1000 := by rw [hx]; simp; omega
    obtain ⟨F1, h1⟩ := i1 n hn hn6 (Cs n C j) _ gj x10 hxl (k : Int) (j : Int) hb 0 (n * n) 0 (List.replicate (n * n) 0) (by omega) (by simpa using rep_G n)
    obtain ⟨F2, h2⟩ := i0 n hn hn6 C gC k hk d (j + 1) (x10 ++ [nxt n (Cs n C j)]) (by omega) (by rw [hx, List.range_succ (n := j + 1), List.map_append]; rfl)
    refine ⟨F2 + F1 + 1, fun K => ?_⟩
    rw [← h2 K, show K + (F2 + F1 + 1) = (K + F2) + F1 + 1 by omega]
    have h1' := h1 (K + F2)
    generalize hR : impl_pairs.l0 (K + F2) n (Cs n C (j + 1)) (x10 ++ [nxt n (Cs n C j)]) k ((j + 1 : Nat) : Int) = R
    generalize K + F2 + F1 = Q at h1' ⊢
    simp only [impl_pairs.l0]
    rw [if_pos (by omega), hsq n hn6, if_pos (by omega), if_pos (by omega), Int.toNat_natCast, gj.len, ← hR]
    rw [w_in (x := (j : Int) + 1) (by omega) (by omega)] at h1'
    exact_mod_cast h1'
theorem lift {α : Type} {f : Nat → Option α} (h : ∀ k, LeO (f k) (f (k + 1))) {k : Nat} {r : α} (e : f k = some r) : ∀ K, k ≤ K → f K = some r := by
  intro K hK
  obtain ⟨d, rfl⟩ : ∃ d, K = k + d := ⟨K - k, by omega⟩
  clear hK
  induction d with
  | zero => exact e
  | succ d ih => exact h _ _ ih
theorem m1 (n : Nat) (hn : 2 ≤ n) (hn6 : n ≤ 6) (C : List Int) (hC : C.length = n * n) (k j : Nat) (hj : j < k) (hk : k ≤ 20) (x47 : List (List Int)) (x48 x49 : Int) : ∀ e a (v z : Int), a + e = n * n → -9223372036854775808 ≤ v → v ≤ 9223372036854775807 →
    ∃ v' z', -9223372036854775808 ≤ v' ∧ v' ≤ 9223372036854775807 ∧ v' = v + Ms n C e a * (((n - 1) ^ (k - 1 - j) : Nat) : Int) + z' * 18446744073709551616 ∧
      ∀ K, 30 ≤ K → impl_MeanMeetings.l1 (K + e + 1) n k v j x47 x48 x49 C ((n * n : Nat) : Int) a = impl_MeanMeetings.l0 K n k v' x47 x48 (wrap64 (x49 + 1))
  | 0, a, v, z, h, hv1, hv2 => by
    refine ⟨v, 0, hv1, hv2, by simp [Ms], fun K _ => ?_⟩
    rw [show K + 0 + 1 = K + 1 by omega]
    simp only [impl_MeanMeetings.l1]
    rw [if_neg (by omega)]
  | e + 1, a, v, z, h, hv1, hv2 => by
    have ha : a < n * n := by omega
    have hN : n * n ≤ 36 := Nat.mul_le_mul hn6 hn6
    obtain ⟨⟨f1, f2, _, _⟩, _⟩ := facts n (List.mem_range.2 (by omega)) hn a (List.mem_range.2 ha)
    have hdv : a / n ≤ a := Nat.div_le_self _ _
    have hmd : a % n < n := Nat.mod_lt _ (by omega)
    obtain ⟨_, _, _, pp⟩ := pw n (List.mem_range.2 (by omega)) hn (k - 1 - j) (List.mem_range.2 (by omega))
    have pp' : ∀ K, 30 ≤ K → impl_power.f (K + e + 1) ((n : Int) - 1) (((k - 1 - j : Nat) : Int)) = some (((n - 1) ^ (k - 1 - j) : Nat) : Int) := by
      intro K hK
      rw [show (n : Int) - 1 = ((n - 1 : Nat) : Int) by omega]
      exact lift (fun q => impl_power.mono _ _ q) pp _ (by omega)
    have ek : wrap64 (wrap64 ((k : Int) - 1) - (j : Int)) = ((k - 1 - j : Nat) : Int) := by
      rw [w_in (x := (k : Int) - 1) (by omega) (by omega), w_in (by omega) (by omega)]; omega
    have key : ∀ u : Int, -9223372036854775808 ≤ u → u ≤ 9223372036854775807 → (∃ z, u = v + ((adj n a : Nat) : Int) * C.getD a 0 * (((n - 1) ^ (k - 1 - j) : Nat) : Int) + z * 18446744073709551616) →
        ∃ v' z', -9223372036854775808 ≤ v' ∧ v' ≤ 9223372036854775807 ∧ v' = v + Ms n C (e + 1) a * (((n - 1) ^ (k - 1 - j) : Nat) : Int) + z' * 18446744073709551616 ∧
          ∀ K, 30 ≤ K → impl_MeanMeetings.l1 (K + e + 1) n k u j x47 x48 x49 C ((n * n : Nat) : Int) ((a : Int) + 1) = impl_MeanMeetings.l0 K n k v' x47 x48 (wrap64 (x49 + 1)) := by
      rintro u hu1 hu2 ⟨z1, hu⟩
      obtain ⟨v', z', k1, k2, k3, k4⟩ := m1 n hn hn6 C hC k j hj hk x47 x48 x49 e (a + 1) u 0 (by omega) hu1 hu2
      refine ⟨v', z1 + z', k1, k2, ?_, by exact_mod_cast k4⟩
      rw [k3, hu, Ms, Int.add_mul]
      omega
    have grow : ∀ q : adj n a = 1, ∃ z, wrap64 (v + wrap64 (C.getD a 0 * (((n - 1) ^ (k - 1 - j) : Nat) : Int))) = v + ((adj n a : Nat) : Int) * C.getD a 0 * (((n - 1) ^ (k - 1 - j) : Nat) : Int) + z * 18446744073709551616 := by
      intro q
      obtain ⟨z1, e1⟩ := w_mod (C.getD a 0 * (((n - 1) ^ (k - 1 - j) : Nat) : Int))
      obtain ⟨z2, e2⟩ := w_mod (v + wrap64 (C.getD a 0 * (((n - 1) ^ (k - 1 - j) : Nat) : Int)))
      refine ⟨z1 + z2, ?_⟩
      rw [e2, e1, q, show ((1 : Nat) : Int) = 1 from rfl, Int.one_mul]
      omega
    have rng : ∀ y : Int, -9223372036854775808 ≤ wrap64 y ∧ wrap64 y ≤ 9223372036854775807 := fun y => by unfold wrap64; omega
    have hd0 : (0 : Int) ≤ ((a / n : Nat) : Int) := Int.natCast_nonneg _
    have hd1 : ((a / n : Nat) : Int) ≤ (a : Int) := by exact_mod_cast hdv
    have hm0 : (0 : Int) ≤ ((a % n : Nat) : Int) := Int.natCast_nonneg _
    have hm1 : ((a % n : Nat) : Int) < (n : Int) := by exact_mod_cast hmd
    have main : ∃ u : Int, -9223372036854775808 ≤ u ∧ u ≤ 9223372036854775807 ∧ (∃ z, u = v + ((adj n a : Nat) : Int) * C.getD a 0 * (((n - 1) ^ (k - 1 - j) : Nat) : Int) + z * 18446744073709551616) ∧
        ∀ K, 30 ≤ K → impl_MeanMeetings.l1 (K + (e + 1) + 1) n k v j x47 x48 x49 C ((n * n : Nat) : Int) a = impl_MeanMeetings.l1 (K + e + 1) n k u j x47 x48 x49 C ((n * n : Nat) : Int) ((a : Int) + 1) := by
      by_cases c1 : ((a / n : Nat) : Int) - ((a % n : Nat) : Int) = 1
      · refine ⟨_, (rng _).1, (rng _).2, grow (by unfold adj; rw [if_pos (by omega)]), fun K hK => ?_⟩
        have pq := pp' K hK
        rw [show K + (e + 1) + 1 = (K + e + 1) + 1 by omega]
        generalize K + e + 1 = Q at pq ⊢
        generalize hR : impl_MeanMeetings.l1 Q _ _ _ _ _ _ _ _ _ ((a : Int) + 1) = R
        simp only [impl_MeanMeetings.l1]
        rw [if_pos (by omega), if_pos (by omega), if_pos (by omega), if_neg (by omega), f1, f2, w_in (x := (n : Int) - 1) (by omega) (by omega), ek, pq, Option.bind_some]
        simp only [rd, Int.toNat_natCast]
        rw [w_in (x := ((a / n : Nat) : Int) - ((a % n : Nat) : Int)) (by omega) (by omega), w_in (x := ((a % n : Nat) : Int) - ((a / n : Nat) : Int)) (by omega) (by omega), w_in (x := (a : Int) + 1) (by omega) (by omega), if_pos c1]
        exact hR
      · by_cases c2 : ((a % n : Nat) : Int) - ((a / n : Nat) : Int) = 1
        · refine ⟨_, (rng _).1, (rng _).2, grow (by unfold adj; rw [if_pos (by omega)]), fun K hK => ?_⟩
          have pq := pp' K hK
          rw [show K + (e + 1) + 1 = (K + e + 1) + 1 by omega]
          generalize K + e + 1 = Q at pq ⊢
          generalize hR : impl_MeanMeetings.l1 Q _ _ _ _ _ _ _ _ _ ((a : Int) + 1) = R
          simp only [impl_MeanMeetings.l1]
          rw [if_pos (by omega), if_pos (by omega), if_pos (by omega), if_neg (by omega), f1, f2, w_in (x := (n : Int) - 1) (by omega) (by omega), ek, pq, Option.bind_some]
          simp only [rd, Int.toNat_natCast]
          rw [w_in (x := ((a / n : Nat) : Int) - ((a % n : Nat) : Int)) (by omega) (by omega), w_in (x := ((a % n : Nat) : Int) - ((a / n : Nat) : Int)) (by omega) (by omega), w_in (x := (a : Int) + 1) (by omega) (by omega), if_neg c1, if_pos c2]
          exact hR
        · refine ⟨v, hv1, hv2, ⟨0, ?_⟩, fun K hK => ?_⟩
          · rw [show adj n a = 0 by unfold adj; rw [if_neg (by omega)]]
            simp
          · rw [show K + (e + 1) + 1 = (K + e + 1) + 1 by omega]
            generalize K + e + 1 = Q
            generalize hR : impl_MeanMeetings.l1 Q _ _ _ _ _ _ _ _ _ ((a : Int) + 1) = R
            simp only [impl_MeanMeetings.l1]
            rw [if_pos (by omega), if_pos (by omega), if_pos (by omega), if_neg (by omega), f1, f2]
            rw [w_in (x := ((a / n : Nat) : Int) - ((a % n : Nat) : Int)) (by omega) (by omega), w_in (x := ((a % n : Nat) : Int) - ((a / n : Nat) : Int)) (by omega) (by omega), w_in (x := (a : Int) + 1) (by omega) (by omega), if_neg c1, if_neg c2]
            exact hR
    obtain ⟨u, hu1, hu2, hu3, hu4⟩ := main
    obtain ⟨v', z', k1, k2, k3, k4⟩ := key u hu1 hu2 hu3
    exact ⟨v', z', k1, k2, k3, fun K hK => (hu4 K hK).trans (k4 K hK)⟩
theorem m0 (n : Nat) (hn : 2 ≤ n) (hn6 : n ≤ 6) (C : List Int) (gC : G n C 1) (k : Nat) (hk : k ≤ 20) : ∀ d j (v z : Int), j + d = k → -9223372036854775808 ≤ v → v ≤ 9223372036854775807 → v = Hs n C j * (((n - 1) ^ (k - j) : Nat) : Int) + z * 18446744073709551616 →
    ∃ F v' z', -9223372036854775808 ≤ v' ∧ v' ≤ 9223372036854775807 ∧ v' = Hs n C k + z' * 18446744073709551616 ∧
      ∀ K, 30 ≤ K → impl_MeanMeetings.l0 (K + F) n k v ((List.range k).map (Cs n C)) (k : Int) j = ((impl_power.f K (wrap64 ((n : Int) - 1)) k).bind fun t334 => ((impl_ratio.f K v' t334).bind fun bt335 => (some (bt335.1, bt335.2, true))))
  | 0, j, v, z, h, hv1, hv2, hv => by
    obtain rfl : j = k := by omega
    refine ⟨1, v, z, hv1, hv2, by rw [hv]; simp, fun K _ => ?_⟩
    simp only [impl_MeanMeetings.l0]
    rw [if_neg (by omega)]
  | d + 1, j, v, z, h, hv1, hv2, hv => by
    have gj := Cs_G n hn hn6 C gC j
    have hjk : j < k := by omega
    have hrd : rd_L1 ((List.range k).map (Cs n C)) (j : Int) = Cs n C j := by
      simp [rd_L1, List.getD_eq_getElem?_getD, List.getElem?_map, List.getElem?_range hjk]
    obtain ⟨u, z1, k1, k2, k3, k4⟩ := m1 n hn hn6 (Cs n C j) gj.len k j hjk hk ((List.range k).map (Cs n C)) (k : Int) (j : Int) (n * n) 0 v 0 (by omega) hv1 hv2
    have ep : (((n - 1) ^ (k - j) : Nat) : Int) = ((n - 1 : Nat) : Int) * (((n - 1) ^ (k - 1 - j) : Nat) : Int) := by
      rw [show k - j = (k - 1 - j) + 1 by omega, Nat.pow_succ, Nat.mul_comm]; exact Int.natCast_mul _ _
    obtain ⟨F, v', z', q1, q2, q3, q4⟩ := m0 n hn hn6 C gC k hk d (j + 1) u (z + z1) (by omega) k1 k2 (by
      rw [k3, hv, Hs, ep, show k - (j + 1) = k - 1 - j by omega, Int.add_mul, Int.add_mul]
      rw [show Hs n C j * (((n - 1 : Nat) : Int) * (((n - 1) ^ (k - 1 - j) : Nat) : Int)) = ((n - 1 : Nat) : Int) * Hs n C j * (((n - 1) ^ (k - 1 - j) : Nat) : Int) by rw [← Int.mul_assoc, Int.mul_comm (Hs n C j)]]
      omega)
    refine ⟨F + n * n + 2, v', z', q1, q2, q3, fun K hK => ?_⟩
    rw [← q4 K hK]
    have k5 := k4 (K + F) (by omega)
    rw [show K + (F + n * n + 2) = (K + F + n * n + 1) + 1 by omega]
    generalize hR : impl_MeanMeetings.l0 (K + F) _ _ _ _ _ ((j + 1 : Nat) : Int) = R
    generalize K + F + n * n + 1 = Q at k5 ⊢
    simp only [impl_MeanMeetings.l0]
    rw [if_pos (by omega), if_pos (by omega), if_pos (by simp; omega), hrd, gj.len, ← hR]
    rw [w_in (x := (j : Int) + 1) (by omega) (by omega)] at k5
    exact_mod_cast k5
theorem gcdL : ∀ K (a b : Int), 0 ≤ a → 0 ≤ b → spec_laCommon.l0 K a b = impl_divisor.l0 K a b
  | 0, _, _, _, _ => by simp [spec_laCommon.l0, impl_divisor.l0]
  | K + 1, a, b, ha, hb => by
    simp only [spec_laCommon.l0, impl_divisor.l0]
    by_cases h : b = 0
    · rw [if_neg (by omega), if_pos h]
    · rw [if_pos (by omega), if_neg h, if_neg h]
      exact gcdL K _ _ hb (Int.tmod_nonneg _ ha)
theorem gcdE : ∀ (m a b : Nat), b ≤ m → 0 < a ∨ 0 < b → ∃ K g, impl_divisor.l0 K (a : Int) (b : Int) = some g ∧ 0 < g
  | m, a, 0, _, h => ⟨1, a, by simp [impl_divisor.l0], by omega⟩
  | 0, a, b + 1, h, _ => by omega
  | m + 1, a, b + 1, h, _ => by
    have hm : a % (b + 1) < b + 1 := Nat.mod_lt _ (by omega)
    obtain ⟨K, g, h1, h2⟩ := gcdE m (b + 1) (a % (b + 1)) (by omega) (Or.inl (by omega))
    refine ⟨K + 1, g, ?_, h2⟩
    simp only [impl_divisor.l0]
    rw [if_neg (by omega), ← Int.ofNat_tmod]
    exact h1
theorem ini : ∀ n ∈ List.range 7, ∀ p ∈ List.range n, ∀ q ∈ List.range n, (p * n + q) / n = p ∧ (p * n + q) % n = q ∧ p * n + q < n * n ∧ wrap64 (wrap64 ((p : Int) * (n : Int)) + (q : Int)) = ((p * n + q : Nat) : Int) := by decide +kernel
theorem absN (x : Int) (h1 : 0 ≤ x) (h2 : x ≤ 9223372036854775807) : spec_l1Abs.f x = some x := by
  unfold spec_l1Abs.f spec_l1Most.f
  rw [w_in (x := -x) (by omega) (by omega)]
  by_cases h : x > -x
  · rw [if_pos h]; rfl
  · rw [if_neg h, show -x = x by omega]; rfl
def C0 (n p q : Nat) : List Int := (List.replicate (n * n) (0 : Int)).set (p * n + q) 1
theorem C0_G (n p q : Nat) (hn6 : n ≤ 6) (hp : p < n) (hq : q < n) (hpq : p ≠ q) : G n (C0 n p q) 1 := by
  obtain ⟨e1, e2, e3, _⟩ := ini n (List.mem_range.2 (by omega)) p (List.mem_range.2 hp) q (List.mem_range.2 hq)
  have := (rep_G n).add (c := 1) (p * n + q) e3 (by omega) (Or.inr (by rw [e1, e2]; exact hpq))
  unfold FnExactMeanMeetingsAid.add at this
  simpa [C0, List.getD_eq_getElem?_getD, List.getElem?_replicate, e3] using this
theorem Hs_in (n : Nat) (hn : 2 ≤ n) (hn6 : n ≤ 6) (C : List Int) (gC : G n C 1) (k : Nat) (hk : k ≤ 20) : 0 ≤ Hs n C k ∧ Hs n C k ≤ 4000000000000000 := by
  obtain ⟨h1, h2⟩ := Hs_le n hn hn6 C gC k hk
  obtain ⟨p1, _⟩ := pw n (List.mem_range.2 (by omega)) hn k (List.mem_range.2 (by omega))
  have h3 : (k : Int) * (((n - 1) ^ k : Nat) : Int) ≤ 20 * 100000000000000 := Int.mul_le_mul (by omega) p1 (Int.natCast_nonneg _) (by omega)
  omega
theorem specV (n : Nat) (hn : 2 ≤ n) (hn6 : n ≤ 6) (k : Nat) (hk : k ≤ 20) (p q : Nat) (hp : p < n) (hq : q < n) (hpq : p ≠ q) (e1 : spec_chGood.f (n : Int) (k : Int) = some true) (K : Nat) : ∃ F, spec_MeanMeetings.f (K + F) n k p q = ((spec_chAll.f K n k).bind fun t301 => ((spec_chRatio.f K (Hs n (C0 n p q) k) t301).bind fun bt302 => (some (bt302.1, bt302.2, true)))) := by
  have hN : n * n ≤ 36 := Nat.mul_le_mul hn6 hn6
  obtain ⟨i1, i2, i3, i4⟩ := ini n (List.mem_range.2 (by omega)) p (List.mem_range.2 hp) q (List.mem_range.2 hq)
  have gC := C0_G n p q hn6 hp hq hpq
  obtain ⟨T', z', h1, h2, h3⟩ := s0 n hn hn6 (C0 n p q) gC k hk (K + n * n + 1) k 0 (List.replicate (n * n) 0) 0 (by omega) (by simp) (by rw [(rep_G n).sum]; simp [Hs])
  obtain ⟨v', z2, r1, r2, r3, r4⟩ := s3 n k T' (by omega) K (n * n) 0 0 0 (by omega) (by omega) (by omega) (by simp)
  obtain ⟨b1, b2⟩ := Hs_in n hn hn6 _ gC k hk
  have hv : v' = Hs n (C0 n p q) k := by omega
  refine ⟨n * n + 1 + k * (n * n * (n + 1) + 2) + 1 + 1, ?_⟩
  have hw : wrap64 ((n : Int) - 1) = (n : Int) - 1 := w_in (by omega) (by omega)
  have hb : ((p : Int) == (q : Int)) = false := by simp; omega
  unfold spec_MeanMeetings.f
  rw [e1, Option.bind_some, if_pos rfl, hw, l1In_in _ _ _ (by omega) (by omega), Option.bind_some, if_pos rfl, l1In_in _ _ _ (by omega) (by omega), Option.bind_some, if_pos rfl, hb]
  rw [show K + (n * n + 1 + k * (n * n * (n + 1) + 2) + 1 + 1) = (K + n * n + 1 + k * (n * n * (n + 1) + 2) + 1) + 1 by omega]
  rw [← hv, ← r4]
  rw [h1]
  have h3' := h3
  generalize hR : spec_MeanMeetings.l3 (K + n * n + 1) n k 0 T' ((n * n : Nat) : Int) ((0 : Nat) : Int) = R
  generalize K + n * n + 1 + k * (n * n * (n + 1) + 2) + 1 = Q at h3' ⊢
  simp only [spec_MeanMeetings.j0]
  rw [if_neg (by simp), hsq n hn6, if_pos (by omega), if_pos (by omega), Option.bind_some, i4, if_pos (by omega), Int.toNat_natCast, Int.toNat_natCast, if_pos (by simp; omega), ← hR]
  exact h3'
theorem implV (n : Nat) (hn : 2 ≤ n) (hn6 : n ≤ 6) (k : Nat) (hk : k ≤ 20) (p q : Nat) (hp : p < n) (hq : q < n) (hpq : p ≠ q) (e2 : impl_isFall.f (n : Int) (k : Int) = some true) (K : Nat) (hK : 30 ≤ K) : ∃ F F', impl_MeanMeetings.f (K + F' + F) n k p q = ((impl_power.f (K + F') (wrap64 ((n : Int) - 1)) k).bind fun t334 => ((impl_ratio.f (K + F') (Hs n (C0 n p q) k) t334).bind fun bt335 => (some (bt335.1, bt335.2, true)))) := by
  have hN : n * n ≤ 36 := Nat.mul_le_mul hn6 hn6
  obtain ⟨i1, i2, i3, i4⟩ := ini n (List.mem_range.2 (by omega)) p (List.mem_range.2 hp) q (List.mem_range.2 hq)
  have gC := C0_G n p q hn6 hp hq hpq
  obtain ⟨F1, h1⟩ := i0 n hn hn6 (C0 n p q) gC k hk k 0 [C0 n p q] (by omega) rfl
  obtain ⟨F2, v', z', q1, q2, q3, q4⟩ := m0 n hn hn6 (C0 n p q) gC k hk k 0 0 0 (by omega) (by omega) (by omega) (by simp [Hs])
  obtain ⟨b1, b2⟩ := Hs_in n hn hn6 _ gC k hk
  have hv : v' = Hs n (C0 n p q) k := by omega
  subst hv
  have hb : ((p : Int) == (q : Int)) = false := by simp; omega
  refine ⟨F2 + 1, F1, ?_⟩
  have hw : wrap64 ((n : Int) - 1) = (n : Int) - 1 := w_in (by omega) (by omega)
  have h1' := h1 (K + F2)
  have q4' := q4 (K + F1) (by omega)
  rw [← q4']
  unfold impl_MeanMeetings.f
  rw [e2, Option.bind_some, if_pos rfl, hw, between_in _ _ _ (by omega) (by omega), Option.bind_some, if_pos rfl, between_in _ _ _ (by omega) (by omega), Option.bind_some, if_pos rfl, hb]
  rw [show K + F1 + (F2 + 1) = (K + F1 + F2) + 1 by omega]
  generalize hR : impl_MeanMeetings.l0 _ _ _ _ _ _ ((0 : Nat) : Int) = R
  rw [show K + F2 + F1 = K + F1 + F2 by omega] at h1'
  have hpair : impl_pairs.f (K + F1 + F2) n k p q = some ((List.range (k + 1)).map (Cs n (C0 n p q))) := by
    unfold impl_pairs.f
    rw [hsq n hn6, if_pos (by omega), if_pos (by omega), Option.bind_some, i4, if_pos (by omega), Int.toNat_natCast, Int.toNat_natCast, if_pos (by simp; omega), Option.bind_some]
    exact h1'
  simp only [impl_MeanMeetings.j0]
  rw [if_neg (by simp), hpair, Option.bind_some, if_pos (by omega), if_pos (by simp; omega), Option.bind_some, Int.toNat_natCast, ← List.map_take, List.take_range, Nat.min_eq_left (by omega), ← hR]
  simp
theorem inn (n : Nat) (hn : 2 ≤ n) (hn6 : n ≤ 6) (k : Nat) (hk : k ≤ 20) (p q : Nat) (hp : p < n) (hq : q < n) (hpq : p ≠ q) (e1 : spec_chGood.f (n : Int) (k : Int) = some true) (e2 : impl_isFall.f (n : Int) (k : Int) = some true) : ∃ K, laws_FnExactMeanMeetings.f K (n : Int) (k : Int) (p : Int) (q : Int) = some true := by
  have gC := C0_G n p q hn6 hp hq hpq
  obtain ⟨b1, b2⟩ := Hs_in n hn hn6 _ gC k hk
  obtain ⟨w1, w2, w3, w4⟩ := pw n (List.mem_range.2 (by omega)) hn k (List.mem_range.2 (by omega))
  obtain ⟨Kg, g, hg, hg0⟩ := gcdE ((n - 1) ^ k) (Hs n (C0 n p q) k).toNat ((n - 1) ^ k) (Nat.le_refl _) (Or.inr w2)
  rw [Int.toNat_of_nonneg b1] at hg
  have hd : ∀ K, Kg ≤ K → impl_divisor.f K (Hs n (C0 n p q) k) (((n - 1) ^ k : Nat) : Int) = some g := fun K h => lift (f := fun K => impl_divisor.f K (Hs n (C0 n p q) k) (((n - 1) ^ k : Nat) : Int)) (fun K => impl_divisor.mono _ _ K) hg K h
  have hc : ∀ K, Kg ≤ K → spec_laCommon.f K (Hs n (C0 n p q) k) (((n - 1) ^ k : Nat) : Int) = some g := fun K h => by
    have := hd K h
    unfold impl_divisor.f at this
    unfold spec_laCommon.f
    rw [gcdL K _ _ b1 (Int.natCast_nonneg _)]; exact this
  obtain ⟨F, hS⟩ := specV n hn hn6 k hk p q hp hq hpq e1 (30 + Kg)
  obtain ⟨F1, F2, hI⟩ := implV n hn hn6 k hk p q hp hq hpq e2 (30 + Kg) (by omega)
  have hw : wrap64 ((n : Int) - 1) = ((n - 1 : Nat) : Int) := by rw [w_in (by omega) (by omega)]; omega
  rw [lift (f := fun K => spec_chAll.f K n k) (fun K => spec_chAll.mono _ _ K) w3 _ (by omega), Option.bind_some] at hS
  rw [hw, lift (f := fun K => impl_power.f K _ _) (fun K => impl_power.mono _ _ K) w4 _ (by omega), Option.bind_some] at hI
  unfold spec_chRatio.f at hS
  unfold impl_ratio.f at hI
  rw [absN _ b1 (by omega), Option.bind_some, hc _ (by omega), Option.bind_some, if_neg (by omega), Option.bind_some] at hS
  rw [hd _ (by omega), Option.bind_some, if_neg (by omega), Option.bind_some] at hI
  refine ⟨30 + Kg + F + (30 + Kg + F2 + F1), ?_⟩
  unfold laws_FnExactMeanMeetings.f
  rw [lift (f := fun K => spec_MeanMeetings.f K _ _ _ _) (fun K => spec_MeanMeetings.mono _ _ _ _ K) hS _ (by omega), Option.bind_some, lift (f := fun K => impl_MeanMeetings.f K _ _ _ _) (fun K => impl_MeanMeetings.mono _ _ _ _ K) hI _ (by omega), Option.bind_some]
  simp [laws_eqRatio.f]
theorem js (a b c d : Int) (k : Nat) : spec_MeanMeetings.j0 (k + 1) a b c d true = some (0, 0, false) := by
  simp only [spec_MeanMeetings.j0, if_true]
theorem ji (a b c d : Int) (k : Nat) : impl_MeanMeetings.j0 (k + 1) a b c d true = some (0, 0, false) := by
  simp only [impl_MeanMeetings.j0, if_true]
theorem out (a0 a1 a2 a3 : Int) (k : Nat) (h1 : spec_MeanMeetings.f (k + 1) a0 a1 a2 a3 = some (0, 0, false)) (h2 : impl_MeanMeetings.f (k + 1) a0 a1 a2 a3 = some (0, 0, false)) : laws_FnExactMeanMeetings.f (k + 1) a0 a1 a2 a3 = some true := by
  unfold laws_FnExactMeanMeetings.f
  rw [h1, h2]
  rfl
end FnExactMeanMeetingsAid
open FnExactMeanMeetingsAid
theorem FnExactMeanMeetings (a0 : Int) (a1 : Int) (a2 : Int) (a3 : Int) (w0 : (Lit.int .i64 a0).wf = true) (w1 : (Lit.int .i64 a1).wf = true) (w2 : (Lit.int .i64 a2).wf = true) (w3 : (Lit.int .i64 a3).wf = true) : ∃ k, laws_FnExactMeanMeetings.f k a0 a1 a2 a3 = some true := by
  by_cases h0 : 2 ≤ a0 ∧ a0 ≤ 6
  · have hw : wrap64 (a0 - 1) = a0 - 1 := by unfold wrap64; omega
    by_cases h1 : 0 ≤ a1 ∧ a1 ≤ 20
    · have e1 : spec_chGood.f a0 a1 = some true := by simp [spec_chGood.f, l1In_in a0 2 6 h0.1 h0.2, l1In_in a1 0 20 h1.1 h1.2]
      have e2 : impl_isFall.f a0 a1 = some true := by simp [impl_isFall.f, between_in a0 2 6 h0.1 h0.2, between_in a1 0 20 h1.1 h1.2]
      by_cases h2 : 0 ≤ a2 ∧ a2 ≤ a0 - 1
      · by_cases h3 : 0 ≤ a3 ∧ a3 ≤ a0 - 1
        · by_cases h4 : a2 = a3
          · have hb : (a2 == a3) = true := by simp [h4]
            refine ⟨1, out a0 a1 a2 a3 0 ?_ ?_⟩
            · simp only [spec_MeanMeetings.f, e1, hw, l1In_in a2 0 (a0 - 1) h2.1 h2.2, l1In_in a3 0 (a0 - 1) h3.1 h3.2, Option.bind_some, if_true, hb, js]
            · simp only [impl_MeanMeetings.f, e2, hw, between_in a2 0 (a0 - 1) h2.1 h2.2, between_in a3 0 (a0 - 1) h3.1 h3.2, Option.bind_some, if_true, hb, ji]
          · obtain ⟨x0, hx0⟩ : ∃ x : Nat, a0 = x := ⟨a0.toNat, by omega⟩
            obtain ⟨x1, hx1⟩ : ∃ x : Nat, a1 = x := ⟨a1.toNat, by omega⟩
            obtain ⟨x2, hx2⟩ : ∃ x : Nat, a2 = x := ⟨a2.toNat, by omega⟩
            obtain ⟨x3, hx3⟩ : ∃ x : Nat, a3 = x := ⟨a3.toNat, by omega⟩
            subst hx0
            subst hx1
            subst hx2
            subst hx3
            exact inn x0 (by omega) (by omega) x1 (by omega) x2 x3 (by omega) (by omega) (by omega) e1 e2
        · refine ⟨1, out a0 a1 a2 a3 0 ?_ ?_⟩
          · simp [spec_MeanMeetings.f, e1, hw, l1In_in a2 0 (a0 - 1) h2.1 h2.2, l1In_out a3 0 (a0 - 1) (by omega), js]
          · simp [impl_MeanMeetings.f, e2, hw, between_in a2 0 (a0 - 1) h2.1 h2.2, between_out a3 0 (a0 - 1) (by omega), ji]
      · refine ⟨1, out a0 a1 a2 a3 0 ?_ ?_⟩
        · simp [spec_MeanMeetings.f, e1, hw, l1In_out a2 0 (a0 - 1) (by omega), js]
        · simp [impl_MeanMeetings.f, e2, hw, between_out a2 0 (a0 - 1) (by omega), ji]
    · refine ⟨1, out a0 a1 a2 a3 0 ?_ ?_⟩
      · simp [spec_MeanMeetings.f, spec_chGood.f, l1In_in a0 2 6 h0.1 h0.2, l1In_out a1 0 20 (by omega), js]
      · simp [impl_MeanMeetings.f, impl_isFall.f, between_in a0 2 6 h0.1 h0.2, between_out a1 0 20 (by omega), ji]
  · refine ⟨1, out a0 a1 a2 a3 0 ?_ ?_⟩
    · simp [spec_MeanMeetings.f, spec_chGood.f, l1In_out a0 2 6 (by omega), js]
    · simp [impl_MeanMeetings.f, impl_isFall.f, between_out a0 2 6 (by omega), ji]
end Go.Proofs.Ytghogdffocnjnaa.Pure
