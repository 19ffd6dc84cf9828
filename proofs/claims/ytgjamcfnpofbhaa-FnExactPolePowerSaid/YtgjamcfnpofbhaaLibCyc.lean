/- The cycles of an order: plain laws over lists and whole numbers. -/
import Derived.Test.YtgjamcfnpofbhaaLibThen
namespace Go.Proofs.Ytgjamcfnpofbhaa.L
open Go.RowKit Go.Proofs.Ytgjamcfnpofbhaa.Q Go.Proofs.YtgjamcfnpofbhaaW.PrintWords Go.Proofs.YtgjamcfnpofbhaaW.PrintLast
set_option linter.unusedVariables false
set_option linter.unusedSimpArgs false
/-- One step. -/
def stp (p : List Int) (i : Nat) : Nat := (p.getD i 0).toNat
def itr (p : List Int) : Nat → Nat → Nat
  | 0, i => i
  | m + 1, i => itr p m (stp p i)
theorem itr_succ (p : List Int) : ∀ (m i : Nat), itr p (m + 1) i = stp p (itr p m i)
  | 0, i => rfl
  | m + 1, i => by
    show itr p (m + 1) (stp p i) = _
    rw [itr_succ p m (stp p i)]; rfl
theorem itr_add (p : List Int) : ∀ (a b i : Nat), itr p (a + b) i = itr p b (itr p a i)
  | 0, b, i => by rw [Nat.zero_add]; rfl
  | a + 1, b, i => by
    rw [show a + 1 + b = (a + b) + 1 by omega]
    show itr p (a + b) (stp p i) = _
    rw [itr_add p a b]; rfl
/-- A permutation of 0..n-1. -/
structure PermL (p : List Int) : Prop where
  lt : ∀ i, i < p.length → stp p i < p.length
  inj : ∀ i j, i < p.length → j < p.length → stp p i = stp p j → i = j
theorem itr_lt {p : List Int} (hp : PermL p) : ∀ (m i : Nat), i < p.length → itr p m i < p.length
  | 0, i, h => h
  | m + 1, i, h => itr_lt hp m _ (hp.lt i h)
theorem itr_inj {p : List Int} (hp : PermL p) : ∀ (m i j : Nat), i < p.length → j < p.length → itr p m i = itr p m j → i = j
  | 0, i, j, _, _, e => e
  | m + 1, i, j, hi, hj, e => hp.inj i j hi hj (itr_inj hp m _ _ (hp.lt i hi) (hp.lt j hj) e)
theorem itr_mul {p : List Int} {L s : Nat} (h : itr p L s = s) : ∀ q, itr p (q * L) s = s
  | 0 => by rw [Nat.zero_mul]; rfl
  | q + 1 => by rw [Nat.succ_mul, itr_add, itr_mul h q, h]
/-- L is the length of the cycle through s. -/
structure CLen (p : List Int) (L s : Nat) : Prop where
  pos : 0 < L
  back : itr p L s = s
  first : ∀ j, 0 < j → j < L → itr p j s ≠ s
theorem CLen.iff {p : List Int} {L s : Nat} (h : CLen p L s) (m : Nat) : itr p m s = s ↔ L ∣ m := by
  constructor
  · intro e
    have e2 : itr p (m / L * L + m % L) s = s := by
      rw [show m / L * L + m % L = m by rw [Nat.mul_comm]; exact Nat.div_add_mod m L]; exact e
    rw [itr_add, itr_mul h.back] at e2
    by_cases h0 : m % L = 0
    · exact Nat.dvd_of_mod_eq_zero h0
    · exact absurd e2 (h.first _ (by omega) (Nat.mod_lt _ h.pos))
  · rintro ⟨q, rfl⟩
    rw [Nat.mul_comm]; exact itr_mul h.back q
theorem CLen.step {p : List Int} (hp : PermL p) {L s : Nat} (hs : s < p.length) (h : CLen p L s) : CLen p L (stp p s) := by
  refine ⟨h.pos, ?_, ?_⟩
  · show itr p (L + 1) s = _
    rw [itr_succ, h.back]
  · intro j h0 hj e
    have e2 : itr p (j + 1) s = stp p s := e
    rw [itr_succ] at e2
    exact h.first j h0 hj (hp.inj _ _ (itr_lt hp j s hs) hs e2)
theorem CLen.steps {p : List Int} (hp : PermL p) {L : Nat} : ∀ (m s : Nat), s < p.length → CLen p L s → CLen p L (itr p m s)
  | 0, s, _, h => h
  | m + 1, s, hs, h => CLen.steps hp m _ (hp.lt s hs) (h.step hp hs)
/-- The winds of m rounds from i on. -/
def wnd (p w : List Int) : Nat → Nat → Int
  | 0, _ => 0
  | m + 1, i => w.getD i 0 + wnd p w m (stp p i)
theorem wnd_add (p w : List Int) : ∀ (a b i : Nat), wnd p w (a + b) i = wnd p w a i + wnd p w b (itr p a i)
  | 0, b, i => by rw [Nat.zero_add]; simp [wnd, itr]
  | a + 1, b, i => by
    rw [show a + 1 + b = (a + b) + 1 by omega]
    simp only [wnd, itr]
    rw [wnd_add p w a b]; omega
theorem wnd_succ (p w : List Int) (m i : Nat) : wnd p w (m + 1) i = wnd p w m i + w.getD (itr p m i) 0 := by
  rw [wnd_add]; simp [wnd]
theorem wnd_mul {p : List Int} (w : List Int) {L s : Nat} (h : itr p L s = s) : ∀ q : Nat, wnd p w (q * L) s = q * wnd p w L s
  | 0 => by simp [wnd]
  | q + 1 => by
    rw [Nat.succ_mul, wnd_add, itr_mul h q, wnd_mul w h q]
    rw [Int.natCast_succ, Int.add_mul, Int.one_mul]
theorem wnd_step {p : List Int} (w : List Int) {L s : Nat} (h : itr p L s = s) : wnd p w L (stp p s) = wnd p w L s := by
  have a : wnd p w (L + 1) s = w.getD s 0 + wnd p w L (stp p s) := rfl
  rw [wnd_succ, h] at a; omega
theorem wnd_steps {p : List Int} (hp : PermL p) (w : List Int) {L : Nat} : ∀ (m s : Nat), s < p.length → CLen p L s → wnd p w L (itr p m s) = wnd p w L s
  | 0, s, _, _ => rfl
  | m + 1, s, hs, h => by
    show wnd p w L (itr p m (stp p s)) = _
    rw [wnd_steps hp w m _ (hp.lt s hs) (h.step hp hs), wnd_step w h.back]
/-- The cycle's list. -/
def cyc (p : List Int) : Nat → Nat → List Int
  | 0, _ => []
  | L + 1, s => (s : Int) :: cyc p L (stp p s)
theorem cyc_length (p : List Int) : ∀ L s, (cyc p L s).length = L
  | 0, _ => rfl
  | L + 1, s => by simp [cyc, cyc_length p L]
theorem cyc_snoc (p : List Int) : ∀ L s, cyc p (L + 1) s = cyc p L s ++ [((itr p L s : Nat) : Int)]
  | 0, _ => rfl
  | L + 1, s => by
    show (s : Int) :: cyc p (L + 1) (stp p s) = _
    rw [cyc_snoc p L]; rfl
theorem cyc_mem (p : List Int) : ∀ (L s : Nat) (x : Int), x ∈ cyc p L s → ∃ j, j < L ∧ x = ((itr p j s : Nat) : Int)
  | 0, _, x, h => by simp [cyc] at h
  | L + 1, s, x, h => by
    rcases List.mem_cons.1 h with e | h
    · exact ⟨0, by omega, e⟩
    · obtain ⟨j, hj, e⟩ := cyc_mem p L _ x h
      exact ⟨j + 1, by omega, e⟩
theorem mem_cyc (p : List Int) : ∀ (L s j : Nat), j < L → ((itr p j s : Nat) : Int) ∈ cyc p L s
  | 0, _, j, h => by omega
  | L + 1, s, 0, h => List.mem_cons_self
  | L + 1, s, j + 1, h => List.mem_cons_of_mem _ (mem_cyc p L _ j (by omega))
/-- What is said of the cycles' list. -/
structure CycL (p : List Int) (C : List (List Int)) : Prop where
  good : ∀ c ∈ C, ∃ L s, s < p.length ∧ CLen p L s ∧ c = cyc p L s
  all : ∀ i, i < p.length → ∃ L s m, cyc p L s ∈ C ∧ s < p.length ∧ CLen p L s ∧ i = itr p m s
def lcms : List (List Int) → Nat → Nat
  | [], t => t
  | c :: C, t => lcms C (Nat.lcm t c.length)
theorem lcms_dvd : ∀ (C : List (List Int)) (t m : Nat), lcms C t ∣ m ↔ t ∣ m ∧ ∀ c ∈ C, c.length ∣ m
  | [], t, m => by simp [lcms]
  | c :: C, t, m => by
    rw [lcms, lcms_dvd C]
    rw [Nat.lcm_dvd_iff]
    simp [and_assoc]
theorem lcms_pos : ∀ (C : List (List Int)) (t : Nat), 0 < t → (∀ c ∈ C, 0 < c.length) → 0 < lcms C t
  | [], t, h, _ => h
  | c :: C, t, h, g => lcms_pos C _ (Nat.lcm_pos h (g c (List.mem_cons_self))) (fun x hx => g x (List.mem_cons_of_mem _ hx))
theorem CycL.fix {p : List Int} (hp : PermL p) {C : List (List Int)} (h : CycL p C) (m : Nat) : (∀ i, i < p.length → itr p m i = i) ↔ lcms C 1 ∣ m := by
  rw [lcms_dvd]
  constructor
  · intro H
    refine ⟨Nat.one_dvd _, fun c hc => ?_⟩
    obtain ⟨L, s, hs, hl, rfl⟩ := h.good c hc
    rw [cyc_length]
    exact (hl.iff m).1 (H s hs)
  · rintro ⟨_, H⟩ i hi
    obtain ⟨L, s, q, hc, hs, hl, rfl⟩ := h.all i hi
    have := H _ hc
    rw [cyc_length] at this
    exact ((hl.steps hp q s hs).iff m).2 this
theorem CycL.winds {p : List Int} (hp : PermL p) {C : List (List Int)} (h : CycL p C) (w : List Int) : (∀ i, i < p.length → wnd p w (lcms C 1) i = 0) ↔ ∀ c ∈ C, (c.map fun i => w.getD i.toNat 0).sum = 0 := by
  have key : ∀ L s, (cyc p L s |>.map fun i => w.getD i.toNat 0).sum = wnd p w L s := by
    intro L
    induction L with
    | zero => intro s; rfl
    | succ L ih =>
      intro s
      simp only [cyc, List.map_cons, List.sum_cons, wnd, Int.toNat_natCast]
      rw [ih]
  have hpos : 0 < lcms C 1 := lcms_pos C 1 (by omega) (fun c hc => by
    obtain ⟨L, s, hs, hl, rfl⟩ := h.good c hc
    rw [cyc_length]; exact hl.pos)
  constructor
  · intro H c hc
    obtain ⟨L, s, hs, hl, rfl⟩ := h.good c hc
    rw [key]
    have hd : L ∣ lcms C 1 := by
      have := ((lcms_dvd C 1 (lcms C 1)).1 (Nat.dvd_refl _)).2 _ hc
      rwa [cyc_length] at this
    obtain ⟨q, hq⟩ := hd
    have := H s hs
    rw [hq, Nat.mul_comm, wnd_mul w hl.back q] at this
    rcases Int.mul_eq_zero.1 this with e | e
    · have : q = 0 := by omega
      subst this; simp at hq; omega
    · exact e
  · intro H i hi
    obtain ⟨L, s, m, hc, hs, hl, rfl⟩ := h.all i hi
    have hd : L ∣ lcms C 1 := by
      have := ((lcms_dvd C 1 (lcms C 1)).1 (Nat.dvd_refl _)).2 _ hc
      rwa [cyc_length] at this
    obtain ⟨q, hq⟩ := hd
    have hl' := hl.steps hp m s hs
    rw [hq, Nat.mul_comm, wnd_mul w hl'.back q, wnd_steps hp w m s hs hl, ← key, H _ hc]
    simp
/-! the loop over an order's cycles, in plain form -/
structure CInv (p : List Int) (seen : List Bool) (out : List (List Int)) (i : Nat) : Prop where
  len : seen.length = p.length
  closed : ∀ x, x < p.length → seen.getD (stp p x) false = seen.getD x false
  good : ∀ c ∈ out, ∃ L s, s < p.length ∧ CLen p L s ∧ c = cyc p L s ∧ L ≤ p.length
  all : ∀ x, x < p.length → seen.getD x false = true → ∃ L s m, cyc p L s ∈ out ∧ s < p.length ∧ CLen p L s ∧ x = itr p m s
  done : ∀ x, x < i → seen.getD x false = true
  few : out.length ≤ i
structure CInn (p : List Int) (seen0 seen : List Bool) (i t : Nat) : Prop where
  len : seen.length = p.length
  iff : ∀ x, x < p.length → (seen.getD x false = true ↔ seen0.getD x false = true ∨ ∃ a, a < t ∧ x = itr p a i)
  fresh : ∀ a, a < t → seen0.getD (itr p a i) false = false
  dist : ∀ a b, a < b → b < t → itr p a i ≠ itr p b i
  cnt : t + seen.count false ≤ p.length
theorem getD_set_b (l : List Bool) (i j : Nat) (v : Bool) (h : i < l.length) : (l.set i v).getD j false = if i = j then v else l.getD j false := by
  simp only [List.getD_eq_getElem?_getD, List.getElem?_set]
  by_cases e : i = j
  · subst e; simp [h]
  · simp [e]
theorem CInn.start {p : List Int} {seen : List Bool} (h : seen.length = p.length) (i : Nat) : CInn p seen seen i 0 :=
  ⟨h, fun x _ => ⟨fun h => Or.inl h, fun h => h.elim id (fun ⟨a, ha, _⟩ => by omega)⟩, fun a ha => by omega, fun a b _ hb => by omega, by rw [← h, Nat.zero_add]; exact List.count_le_length⟩
theorem CInn.next {p : List Int} (hp : PermL p) {seen0 seen : List Bool} {i t : Nat} (hi : i < p.length) (h : CInn p seen0 seen i t) (hf : seen.getD (itr p t i) false = false) : CInn p seen0 (seen.set (itr p t i) true) i (t + 1) := by
  have hlt := itr_lt hp t i hi
  have hs : itr p t i < seen.length := by rw [h.len]; exact hlt
  refine ⟨by rw [List.length_set]; exact h.len, fun x hx => ?_, fun a ha => ?_, fun a b hab hb => ?_, ?_⟩
  · rw [getD_set_b _ _ _ _ hs]
    by_cases e : itr p t i = x
    · rw [if_pos e]; exact ⟨fun _ => Or.inr ⟨t, by omega, e.symm⟩, fun _ => rfl⟩
    · rw [if_neg e, h.iff x hx]
      constructor
      · rintro (h1 | ⟨a, ha, h1⟩)
        · exact Or.inl h1
        · exact Or.inr ⟨a, by omega, h1⟩
      · rintro (h1 | ⟨a, ha, h1⟩)
        · exact Or.inl h1
        · by_cases c : a = t
          · subst c; exact absurd h1.symm e
          · exact Or.inr ⟨a, by omega, h1⟩
  · by_cases c : a = t
    · subst c
      by_cases q : seen0.getD (itr p a i) false = true
      · have := (h.iff _ hlt).2 (Or.inl q)
        rw [hf] at this; exact absurd this (by decide)
      · exact Bool.eq_false_iff.2 q
    · exact h.fresh a (by omega)
  · by_cases c : b = t
    · subst c
      intro e
      have := (h.iff _ hlt).2 (Or.inr ⟨a, hab, e.symm⟩)
      rw [hf] at this; exact absurd this (by decide)
    · exact h.dist a b hab (by omega)
  · have e := List.count_set (a := true) (b := false) hs
    have e1 : seen[itr p t i] = false := by
      have := hf
      rw [List.getD_eq_getElem?_getD, List.getElem?_eq_getElem hs] at this
      simpa using this
    have e2 : 0 < seen.count false := List.count_pos_iff.2 (by rw [← e1]; exact List.getElem_mem hs)
    rw [e1] at e
    simp at e
    have := h.cnt
    omega
theorem CInn.stop {p : List Int} (hp : PermL p) {seen0 seen : List Bool} {i t : Nat} (hi : i < p.length) (h0 : ∀ x, x < p.length → seen0.getD (stp p x) false = seen0.getD x false) (h : CInn p seen0 seen i t) (ht : seen.getD (itr p t i) false = true) : (t = 0 ∧ seen0.getD i false = true) ∨ (0 < t ∧ CLen p t i) := by
  have hlt := itr_lt hp t i hi
  have back : ∀ m, seen0.getD (itr p m i) false = seen0.getD i false := by
    intro m
    induction m with
    | zero => rfl
    | succ m ih => rw [itr_succ, h0 _ (itr_lt hp m i hi), ih]
  rcases (h.iff _ hlt).1 ht with h1 | ⟨a, ha, h1⟩
  · rw [back t] at h1
    by_cases c : t = 0
    · exact Or.inl ⟨c, h1⟩
    · have := h.fresh 0 (by omega)
      rw [back 0, h1] at this; exact absurd this (by decide)
  · right
    refine ⟨by omega, by omega, ?_, fun j hj hjt e => h.dist 0 j hj hjt e.symm⟩
    by_cases c : a = 0
    · subst c; exact h1
    · obtain ⟨a, rfl⟩ : ∃ q, a = q + 1 := ⟨a - 1, by omega⟩
      obtain ⟨t, rfl⟩ : ∃ q, t = q + 1 := ⟨t - 1, by omega⟩
      rw [itr_succ, itr_succ] at h1
      exact absurd (hp.inj _ _ (itr_lt hp _ _ hi) (itr_lt hp _ _ hi) h1).symm (h.dist a t (by omega) (by omega))
theorem CInv.same {p : List Int} {seen : List Bool} {out : List (List Int)} {i : Nat} (h : CInv p seen out i) (hs : seen.getD i false = true) : CInv p seen out (i + 1) :=
  ⟨h.len, h.closed, h.good, h.all, fun x hx => by
    by_cases c : x = i
    · subst c; exact hs
    · exact h.done x (by omega), by have := h.few; omega⟩
theorem CInv.more {p : List Int} (hp : PermL p) {seen0 seen : List Bool} {out : List (List Int)} {i t : Nat} (hi : i < p.length) (h : CInv p seen0 out i) (hn : CInn p seen0 seen i t) (h0 : 0 < t) (hl : CLen p t i) : CInv p seen (out ++ [cyc p t i]) (i + 1) := by
  refine ⟨hn.len, fun x hx => ?_, fun c hc => ?_, fun x hx hs => ?_, fun x hx => ?_, by simp; exact h.few⟩
  · rw [Bool.eq_iff_iff, hn.iff _ (hp.lt x hx), hn.iff _ hx, h.closed x hx]
    constructor
    · rintro (h1 | ⟨a, ha, h1⟩)
      · exact Or.inl h1
      · right
        by_cases c : a = 0
        · subst c
          refine ⟨t - 1, by omega, ?_⟩
          apply hp.inj _ _ hx (itr_lt hp _ _ hi)
          rw [← itr_succ, show t - 1 + 1 = t by omega, hl.back]; exact h1
        · refine ⟨a - 1, by omega, ?_⟩
          apply hp.inj _ _ hx (itr_lt hp _ _ hi)
          rw [← itr_succ, show a - 1 + 1 = a by omega]; exact h1
    · rintro (h1 | ⟨a, ha, h1⟩)
      · exact Or.inl h1
      · right
        by_cases c : a + 1 = t
        · refine ⟨0, h0, ?_⟩
          rw [h1, ← itr_succ, c, hl.back]; rfl
        · exact ⟨a + 1, by omega, by rw [h1, itr_succ]⟩
  · rcases List.mem_append.1 hc with h1 | h1
    · exact h.good c h1
    · exact ⟨t, i, hi, hl, by simpa using h1, by have := hn.cnt; omega⟩
  · rcases (hn.iff x hx).1 hs with h1 | ⟨a, ha, h1⟩
    · obtain ⟨L, s, m, e1, e2, e3, e4⟩ := h.all x hx h1
      exact ⟨L, s, m, List.mem_append_left _ e1, e2, e3, e4⟩
    · exact ⟨t, i, a, List.mem_append_right _ (by simp), hi, hl, h1⟩
  · by_cases c : x = i
    · subst c; exact (hn.iff x hi).2 (Or.inr ⟨0, h0, rfl⟩)
    · exact (hn.iff x (by omega)).2 (Or.inl (h.done x (by omega)))
theorem CInv.cycles {p : List Int} {seen : List Bool} {out : List (List Int)} (h : CInv p seen out p.length) : CycL p out :=
  ⟨fun c hc => by obtain ⟨L, s, a, b, e, _⟩ := h.good c hc; exact ⟨L, s, a, b, e⟩, fun i hi => h.all i hi (h.done i hi)⟩
theorem CInv.zero (p : List Int) : CInv p (List.replicate p.length false) [] 0 := by
  have e : ∀ x, (List.replicate p.length false).getD x false = false := by
    intro x
    simp only [List.getD_eq_getElem?_getD, List.getElem?_replicate]
    split <;> rfl
  refine ⟨by simp, fun x _ => by rw [e, e], fun c hc => by simp at hc, fun x _ h => ?_, fun x hx => by omega, by simp⟩
  rw [e] at h; exact absurd h (by decide)
end Go.Proofs.Ytgjamcfnpofbhaa.L
