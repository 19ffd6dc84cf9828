/- Each function below comes to the Lean function beside it (theorems '.calls'); no condition beyond each theorem's own. Written by our program oprint.py over the kit's print. -/
import Derived.Test.YtghogdffocnjnaaQx0
import Derived.Maps.RangeWalk
import Derived.Maps.OwnSet
namespace Go.Proofs.Ytghogdffocnjnaa.Q
open Go.RowKit Go.Proofs.YtghogdffocnjnaaW.PrintWords Go.Proofs.YtghogdffocnjnaaW.PrintLast Go.Proofs.YtghogdffocnjnaaW.PrintMore
attribute [local go_sem] max2_int min2_int max_two min_two max_three min_three max_four min_four   -- for this text's walks alone
set_option linter.unusedVariables false
set_option linter.unusedSimpArgs false

/-! a map of counts keyed by texts: what it holds, key by key, while one more rung is laid on top of each order -/
/-- A list of bytes with those at r and r + 1 exchanged. -/
def mdSw (bs : List UInt8) (r : Nat) : List UInt8 := (bs.set r (bs.getD (r + 1) 0)).set (r + 1) (bs.getD r 0)
theorem mdSw_length (bs : List UInt8) (r : Nat) : (mdSw bs r).length = bs.length := by simp [mdSw]
theorem mdSw_mdSw (bs : List UInt8) (r : Nat) (h : r + 1 < bs.length) : mdSw (mdSw bs r) r = bs := by
  have h1 : r < bs.length := by omega
  apply List.ext_getElem?
  intro j
  have e1 : (mdSw bs r).getD (r + 1) 0 = bs.getD r 0 := by simp [mdSw, h]
  have e2 : (mdSw bs r).getD r 0 = bs.getD (r + 1) 0 := by simp [mdSw, h1, h]
  show ((((mdSw bs r).set r ((mdSw bs r).getD (r + 1) 0))).set (r + 1) ((mdSw bs r).getD r 0))[j]? = bs[j]?
  rw [e1, e2]
  unfold mdSw
  simp only [List.getElem?_set, List.length_set]
  by_cases h2 : r + 1 = j
  · subst h2
    simp [h]
  · rw [if_neg h2]
    by_cases h3 : r = j
    · subst h3
      simp [h1]
    · rw [if_neg h3, if_neg h2, if_neg h3]
theorem mdSw_iff {n : Nat} {q bs : List UInt8} (hq : q.length = n) (hb : bs.length = n) {r : Nat} (h : r < n - 1) : mdSw q r = bs ↔ mdSw bs r = q := by
  constructor
  · intro e; rw [← e]; exact mdSw_mdSw q r (by omega)
  · intro e; rw [← e]; exact mdSw_mdSw bs r (by omega)
def mdSum : Nat → (Nat → Int) → Int
  | 0, _ => 0
  | r + 1, f => mdSum r f + f r
def mdAny : Nat → (Nat → Bool) → Bool
  | 0, _ => false
  | r + 1, f => mdAny r f || f r
theorem mdSum_congr {f g : Nat → Int} : ∀ m : Nat, (∀ r, r < m → f r = g r) → mdSum m f = mdSum m g
  | 0, _ => rfl
  | m + 1, h => by rw [mdSum, mdSum, mdSum_congr m fun r hr => h r (by omega), h m (by omega)]
theorem mdSum_add {f g : Nat → Int} : ∀ m : Nat, mdSum m f + mdSum m g = mdSum m fun r => f r + g r
  | 0 => rfl
  | m + 1 => by rw [mdSum, mdSum, mdSum, ← mdSum_add m]; omega
theorem mdSum_zero {f : Nat → Int} : ∀ m : Nat, (∀ r, r < m → f r = 0) → mdSum m f = 0
  | 0, _ => rfl
  | m + 1, h => by rw [mdSum, mdSum_zero m fun r hr => h r (by omega), h m (by omega)]; rfl
theorem mdAny_congr {f g : Nat → Bool} : ∀ m : Nat, (∀ r, r < m → f r = g r) → mdAny m f = mdAny m g
  | 0, _ => rfl
  | m + 1, h => by rw [mdAny, mdAny, mdAny_congr m fun r hr => h r (by omega), h m (by omega)]
theorem mdAny_or {f g : Nat → Bool} : ∀ m : Nat, (mdAny m f || mdAny m g) = mdAny m fun r => f r || g r
  | 0 => rfl
  | m + 1 => by
    rw [mdAny, mdAny, mdAny, ← mdAny_or m]
    cases mdAny m f <;> cases mdAny m g <;> cases f m <;> cases g m <;> rfl
theorem mdAny_false {f : Nat → Bool} : ∀ m : Nat, (∀ r, r < m → f r = false) → mdAny m f = false
  | 0, _ => rfl
  | m + 1, h => by rw [mdAny, mdAny_false m fun r hr => h r (by omega), h m (by omega)]; rfl
theorem mdWrap_add (a b : Int) : wrap64 (wrap64 a + b) = wrap64 (a + b) := by unfold wrap64; omega
/-- What a map holds: a count for each key, and whether the key is there. -/
def mdStepC (n : Nat) (c : List UInt8 → Int) (bs : List UInt8) : Int := if bs.length = n then wrap64 (mdSum (n - 1) fun r => c (mdSw bs r)) else 0
def mdStepH (n : Nat) (h : List UInt8 → Bool) (bs : List UInt8) : Bool := decide (bs.length = n) && mdAny (n - 1) fun r => h (mdSw bs r)
/-- The same while the keys of left are still to come, and of the key q the first i rungs are laid. -/
def mdMidC (n : Nat) (c : List UInt8 → Int) (left : List UInt8 → Bool) (q : List UInt8) (m : Int) (i : Nat) (bs : List UInt8) : Int :=
  if bs.length = n then wrap64 ((mdSum (n - 1) fun r => if left (mdSw bs r) then 0 else c (mdSw bs r)) + mdSum i fun r => if mdSw q r = bs then m else 0) else 0
def mdMidH (n : Nat) (h : List UInt8 → Bool) (left : List UInt8 → Bool) (q : List UInt8) (i : Nat) (bs : List UInt8) : Bool :=
  decide (bs.length = n) && ((mdAny (n - 1) fun r => !left (mdSw bs r) && h (mdSw bs r)) || mdAny i fun r => decide (mdSw q r = bs))
theorem mdMid_start {n : Nat} {c : List UInt8 → Int} {h left : List UInt8 → Bool} (hl : ∀ z, left z = h z) (hc : ∀ z, h z = false → c z = 0) (q : List UInt8) (m : Int) :
    (∀ bs, mdMidC n c left q m 0 bs = 0) ∧ ∀ bs, mdMidH n h left q 0 bs = false := by
  constructor
  · intro bs
    unfold mdMidC
    split
    · rw [mdSum_zero (n - 1) (fun r _ => by
        split
        · rfl
        · rename_i e
          exact hc _ (by rw [← hl]; simpa using e))]
      simp only [mdSum]
      unfold wrap64
      omega
    · rfl
  · intro bs
    unfold mdMidH
    rw [mdAny_false (n - 1) (fun r _ => by rw [hl]; cases h (mdSw bs r) <;> rfl)]
    simp [mdAny]
theorem mdMid_zero {n : Nat} {c : List UInt8 → Int} {h left : List UInt8 → Bool} (q q' : List UInt8) (m m' : Int) : (∀ bs, mdMidC n c left q m 0 bs = mdMidC n c left q' m' 0 bs) ∧ ∀ bs, mdMidH n h left q 0 bs = mdMidH n h left q' 0 bs :=
  ⟨fun bs => rfl, fun bs => rfl⟩
theorem mdMidC_step {n : Nat} {c : List UInt8 → Int} {left : List UInt8 → Bool} {q : List UInt8} {m : Int} {i : Nat} (hq : q.length = n) (bs : List UInt8) :
    mdMidC n c left q m (i + 1) bs = if bs = mdSw q i then wrap64 (mdMidC n c left q m i bs + m) else mdMidC n c left q m i bs := by
  by_cases e : bs = mdSw q i
  · rw [if_pos e]
    have hb : bs.length = n := by rw [e, mdSw_length, hq]
    unfold mdMidC
    rw [if_pos hb, if_pos hb, mdWrap_add, mdSum, if_pos e.symm, Int.add_assoc]
  · rw [if_neg e]
    unfold mdMidC
    rw [mdSum, if_neg (c := mdSw q i = bs) (fun h => e h.symm), Int.add_zero]
theorem mdMidH_step {n : Nat} {h left : List UInt8 → Bool} {q : List UInt8} {i : Nat} (hq : q.length = n) (bs : List UInt8) :
    mdMidH n h left q (i + 1) bs = if bs = mdSw q i then true else mdMidH n h left q i bs := by
  by_cases e : bs = mdSw q i
  · rw [if_pos e]
    have hb : bs.length = n := by rw [e, mdSw_length, hq]
    unfold mdMidH
    rw [mdAny, decide_eq_true hb, decide_eq_true e.symm]
    simp
  · rw [if_neg e]
    unfold mdMidH
    rw [mdAny, decide_eq_false (p := mdSw q i = bs) (fun h => e h.symm), Bool.or_false]
theorem mdMidC_done {n : Nat} {c : List UInt8 → Int} {left left' : List UInt8 → Bool} {q : List UInt8} (hq : q.length = n) (hlq : left q = true) (hl : ∀ z, left' z = (left z && !decide (z = q))) (q' : List UInt8) (m' : Int) (bs : List UInt8) :
    mdMidC n c left q (c q) (n - 1) bs = mdMidC n c left' q' m' 0 bs := by
  unfold mdMidC
  split
  · rename_i hb
    rw [mdSum_add, mdSum, Int.add_zero]
    congr 1
    apply mdSum_congr
    intro r hr
    rw [hl]
    by_cases e : mdSw bs r = q
    · rw [if_pos ((mdSw_iff hq hb hr).2 e), e, hlq]
      simp
    · rw [if_neg (fun h => e ((mdSw_iff hq hb hr).1 h)), Int.add_zero, decide_eq_false e]
      simp
  · rfl
theorem mdMidH_done {n : Nat} {h left left' : List UInt8 → Bool} {q : List UInt8} (hq : q.length = n) (hlq : left q = true) (hhq : h q = true) (hl : ∀ z, left' z = (left z && !decide (z = q))) (q' : List UInt8) (bs : List UInt8) :
    mdMidH n h left q (n - 1) bs = mdMidH n h left' q' 0 bs := by
  unfold mdMidH
  by_cases hb : bs.length = n
  · rw [decide_eq_true hb, Bool.true_and, Bool.true_and, mdAny_or, mdAny, Bool.or_false]
    apply mdAny_congr
    intro r hr
    rw [hl]
    by_cases e : mdSw bs r = q
    · rw [decide_eq_true ((mdSw_iff hq hb hr).2 e), e, hhq]
      simp
    · rw [decide_eq_false (fun h => e ((mdSw_iff hq hb hr).1 h)), decide_eq_false e]
      simp
  · rw [decide_eq_false hb]
    rfl
theorem mdMid_end {n : Nat} {c : List UInt8 → Int} {h left : List UInt8 → Bool} (hl : ∀ z, left z = false) (q : List UInt8) (m : Int) : (∀ bs, mdMidC n c left q m 0 bs = mdStepC n c bs) ∧ ∀ bs, mdMidH n h left q 0 bs = mdStepH n h bs := by
  constructor
  · intro bs
    unfold mdMidC mdStepC
    split
    · rw [mdSum, Int.add_zero]
      simp only [hl]
      rfl
    · rfl
  · intro bs
    unfold mdMidH mdStepH
    rw [mdAny_congr (n - 1) fun r _ => by rw [hl, Bool.not_false, Bool.true_and], mdAny, Bool.or_false]
/-- Behind j rungs, begun at the key q0. -/
def mdC (n : Nat) (q0 : List UInt8) : Nat → List UInt8 → Int
  | 0, bs => if bs = q0 then 1 else 0
  | j + 1, bs => mdStepC n (mdC n q0 j) bs
def mdH (n : Nat) (q0 : List UInt8) : Nat → List UInt8 → Bool
  | 0, bs => decide (bs = q0)
  | j + 1, bs => mdStepH n (mdH n q0 j) bs
theorem mdH_length {n : Nat} {q0 : List UInt8} (h0 : q0.length = n) : ∀ {j : Nat} {bs : List UInt8}, mdH n q0 j bs = true → bs.length = n
  | 0, bs, h => by rw [of_decide_eq_true h, h0]
  | j + 1, bs, h => by
    unfold mdH mdStepH at h
    rw [Bool.and_eq_true] at h
    exact of_decide_eq_true h.1
/-- The map reads as: at each text its count, and whether it is there. -/
def MapReads (D : DataW Unit) (c : List UInt8 → Int) (h : List UInt8 → Bool) : Prop :=
  Go.Maps.IsMap D ∧ (∀ bs, D.atKey (.string bs) (.lit (.int .i64 0)) = .lit (.int .i64 (c bs))) ∧ ∀ bs, Go.Maps.has D (.string bs) = h bs
theorem MapReads.empty : MapReads (.map []) (fun _ => 0) fun _ => false :=
  ⟨Go.Maps.isMap_empty, fun bs => rfl, fun bs => rfl⟩
theorem MapReads.congr {D : DataW Unit} {c c' : List UInt8 → Int} {h h' : List UInt8 → Bool} (r : MapReads D c h) (hc : ∀ bs, c bs = c' bs) (hh : ∀ bs, h bs = h' bs) : MapReads D c' h' :=
  ⟨r.1, fun bs => by rw [r.2.1, hc], fun bs => by rw [r.2.2, hh]⟩
theorem MapReads.put {D : DataW Unit} {c : List UInt8 → Int} {h : List UInt8 → Bool} (r : MapReads D c h) (k : List UInt8) (v : Int) :
    MapReads (D.put (.string k) (.lit (.int .i64 v))) (fun bs => if bs = k then v else c bs) (fun bs => if bs = k then true else h bs) := by
  refine ⟨r.1.put _ _, fun bs => ?_, fun bs => ?_⟩
  · by_cases e : bs = k
    · subst e
      simp only [if_pos]
      exact Go.Maps.atKey_put_same r.1 (by simp [Go.WideAt.IsKeyLit]) _ _
    · simp only [if_neg e]
      rw [Go.Maps.atKey_put_other (fun h => e (Lit.string.inj h)), r.2.1]
  · by_cases e : bs = k
    · subst e
      simp only [if_pos]
      exact Go.Maps.has_put_same r.1 (by simp [Go.WideAt.IsKeyLit]) _
    · simp only [if_neg e]
      rw [Go.Maps.has_put_other (fun h => e (Lit.string.inj h)), r.2.2]
theorem MapReads.zero {D : DataW Unit} {c : List UInt8 → Int} {h : List UInt8 → Bool} (r : MapReads D c h) (bs : List UInt8) (e : h bs = false) : c bs = 0 := by
  have h1 := Go.Maps.atKey_of_not_has (by rw [r.2.2, e] : Go.Maps.has D (.string bs) = false) (.lit (.int .i64 0))
  rw [r.2.1] at h1
  simpa using h1
theorem mdSameKey (a b : List UInt8) : (Lit.string a).sameKey (.string b) = decide (a = b) := by
  by_cases e : a = b
  · subst e
    rw [decide_eq_true rfl]
    exact Go.WideAt.sameKey_self trivial
  · rw [decide_eq_false e]
    exact Go.Maps.sameKey_ne fun h => e (Lit.string.inj h)
/-- One round: the next map is told in part, beside the keys that are still to come. -/
theorem MapReads.mid_put {N' : DataW Unit} {n : Nat} {c : List UInt8 → Int} {h left : List UInt8 → Bool} {q : List UInt8} {m : Int} {i : Nat} (hq : q.length = n)
    (r : MapReads N' (mdMidC n c left q m i) (mdMidH n h left q i)) (v : Int) (hv : v = wrap64 (mdMidC n c left q m i (mdSw q i) + m)) :
    MapReads (N'.put (.string (mdSw q i)) (.lit (.int .i64 v))) (mdMidC n c left q m (i + 1)) (mdMidH n h left q (i + 1)) := by
  refine (r.put (mdSw q i) v).congr (fun bs => ?_) fun bs => ?_
  · rw [mdMidC_step hq]
    by_cases e : bs = mdSw q i
    · rw [if_pos e, if_pos e, hv, e]
    · rw [if_neg e, if_neg e]
  · rw [mdMidH_step hq]
/-- How many keys there are. -/
theorem MapReads.size {D : DataW Unit} {c : List UInt8 → Int} {h : List UInt8 → Bool} (r : MapReads D c h) (ht : Go.Maps.Tidy D) (hk : ∀ es, D = .map es → ∀ p ∈ es, ∃ s, p.1 = .string s) (all : List (List UInt8)) (hn : all.Nodup) (ha : ∀ bs, h bs = true → bs ∈ all) :
    Go.Maps.size D = (all.filter h).length := by
  obtain ⟨es, rfl, hp⟩ := ht
  show es.length = _
  have e1 : es.length = (es.map fun p => p.1).length := by simp
  have e2 : (all.filter h).length = ((all.filter h).map Lit.string).length := by simp
  rw [e1, e2]
  apply List.Perm.length_eq
  have n1 : (es.map fun p => p.1).Nodup := by
    unfold List.Nodup
    rw [List.pairwise_map]
    exact hp
  have n2 : ((all.filter h).map Lit.string).Nodup := by
    unfold List.Nodup
    rw [List.pairwise_map]
    exact (List.Pairwise.filter h hn).imp fun {a b} hab e => hab (Lit.string.inj e)
  refine (List.perm_ext_iff_of_nodup n1 n2).2 fun l => ?_
  rw [List.mem_map, List.mem_map]
  constructor
  · rintro ⟨p, hpm, rfl⟩
    obtain ⟨s, hs⟩ := hk es rfl p hpm
    refine ⟨s, List.mem_filter.2 ⟨ha s ?_, ?_⟩, hs.symm⟩
    all_goals
      rw [← r.2.2 s]
      exact List.any_eq_true.2 ⟨p, hpm, by rw [hs]; exact Go.WideAt.sameKey_self trivial⟩
  · rintro ⟨s, hs, rfl⟩
    have h1 := (List.mem_filter.1 hs).2
    rw [← r.2.2 s] at h1
    obtain ⟨p, hpm, hpe⟩ := List.any_eq_true.1 h1
    obtain ⟨s', hs'⟩ := hk es rfl p hpm
    refine ⟨p, hpm, ?_⟩
    rw [hs', mdSameKey] at hpe
    rw [hs', of_decide_eq_true hpe]

end Go.Proofs.Ytghogdffocnjnaa.Q
