/- A part of the proof: texts of the author, joined. -/
import Derived.Test.YtiddpfhpmodfbaaGreatDoorKPIplWhole0
section
set_option linter.unusedVariables false
set_option linter.unusedSimpArgs false
set_option linter.unnecessarySimpa false
open Go Go.Ev
namespace Go.Proofs.YtiddpfhpmodfbaaGreatDoor.K
theorem up_gen {σ ρ : Type} {B : σ → Option (σ ⊕ ρ)} {st : Nat → σ} {en : Nat → ρ} {p : PG → Bool} {d : PA} {j : Nat} (h : ∀ i, B (st i) = if (decide (i ≤ j) && p d[i]!) = true then some (.inl (st (i + 1))) else some (.inr (en i))) : ∀ (k i n : Nat), j + 1 - i = k → k < n → iter B n (st i) = some (en (Go.Sort.scanUp p d j i)) := by
  intro k
  induction k with
  | zero =>
    intro i n hk hn
    obtain ⟨n, rfl⟩ : ∃ q, n = q + 1 := ⟨n - 1, by omega⟩
    have hb := h i
    rw [decide_eq_false (by omega), Bool.false_and, if_neg (by decide)] at hb
    rw [Go.Sort.scanUp, decide_eq_false (by omega), Bool.false_and, if_neg (by decide)]
    exact iter_e hb
  | succ k ih =>
    intro i n hk hn
    obtain ⟨n, rfl⟩ : ∃ q, n = q + 1 := ⟨n - 1, by omega⟩
    have hb := h i
    rw [Go.Sort.scanUp]
    by_cases hc : (decide (i ≤ j) && p d[i]!) = true
    · rw [if_pos hc] at hb ⊢
      rw [iter_s hb]
      exact ih (i + 1) n (by omega) (by omega)
    · rw [if_neg hc] at hb ⊢
      exact iter_e hb
theorem down_gen {σ ρ : Type} {B : σ → Option (σ ⊕ ρ)} {st : Nat → σ} {en : Nat → ρ} {p : PG → Bool} {d : PA} {i : Nat} (hi : 1 ≤ i) : ∀ (j n : Nat), (∀ q, q ≤ j → B (st q) = if (decide (i ≤ q) && p d[q]!) = true then some (.inl (st (q - 1))) else some (.inr (en q))) → j < n → iter B n (st j) = some (en (Go.Sort.scanDown p d i j)) := by
  intro j
  induction j with
  | zero =>
    intro n h hn
    obtain ⟨n, rfl⟩ : ∃ q, n = q + 1 := ⟨n - 1, by omega⟩
    have hb := h 0 (Nat.le_refl _)
    rw [decide_eq_false (by omega), Bool.false_and, if_neg (by decide)] at hb
    exact iter_e hb
  | succ j ih =>
    intro n h hn
    obtain ⟨n, rfl⟩ : ∃ q, n = q + 1 := ⟨n - 1, by omega⟩
    have hb := h (j + 1) (Nat.le_refl _)
    have hd : Go.Sort.scanDown p d i (j + 1) = if (decide (i ≤ j + 1) && p d[j + 1]!) = true then Go.Sort.scanDown p d i j else j + 1 := rfl
    rw [hd]
    by_cases hc : (decide (i ≤ j + 1) && p d[j + 1]!) = true
    · rw [if_pos hc] at hb ⊢
      rw [iter_s hb]
      exact ih n (fun q hq => h q (by omega)) (by omega)
    · rw [if_neg hc] at hb ⊢
      exact iter_e hb
abbrev P4 := (List PG) × (Int × (Int × Int))
abbrev p4 (d : PA) (a i j : Nat) : P4 := (d.toList, ((a : Int), ((i : Int), (j : Int))))
theorem b1730 {a i j : Nat} {d : PA} (ha : a < d.size) (hj : j < d.size) (hd : d.size ≤ 1000) : B173_0 d.toList a i j = if (decide (i ≤ j) && (fun x => ltP x d[a]!) d[i]!) = true then some (.inl (p4 d a (i + 1) j)) else some (.inr (p4 d a i j)) := by
  unfold B173_0
  rw [gcmp]
  · rw [vF_lt, at_d, at_d, leN, and_b]
    by_cases hc : (decide (i ≤ j) && ltP d[i]! d[a]!) = true
    · have hi : i ≤ j := by rw [Bool.and_eq_true, decide_eq_true_eq] at hc; exact hc.1
      rw [if_pos hc, hc, sel_t, add1 (by omega)]
    · rw [if_neg hc, eq_false_of_ne_true hc, sel_f]
  · rw [leN]; exact or_imp fun h => by rw [decide_eq_true_eq] at h; exact oin_d (by omega)
  · exact or_imp fun _ => oin_d ha
theorem b1732 {a i j : Nat} {d : PA} (ha : a < d.size) (hj : j < d.size) (hd : d.size ≤ 1000) (hi : 1 ≤ i) : B173_2 d.toList a i j = if (decide (i ≤ j) && (fun x => !ltP x d[a]!) d[j]!) = true then some (.inl (p4 d a i (j - 1))) else some (.inr (p4 d a i j)) := by
  unfold B173_2
  rw [gcmp]
  · rw [vF_lt, at_d, at_d, leN, not_b, and_b]
    by_cases hc : (decide (i ≤ j) && !ltP d[j]! d[a]!) = true
    · have hi : i ≤ j := by rw [Bool.and_eq_true, decide_eq_true_eq] at hc; exact hc.1
      rw [if_pos hc, hc, sel_t, sub1 (by omega) (by omega)]
    · rw [if_neg hc, eq_false_of_ne_true hc, sel_f]
  · exact or_imp fun _ => oin_d hj
  · exact or_imp fun _ => oin_d ha
theorem b1722 {a i j : Nat} {d : PA} (ha : a < d.size) (hj : j < d.size) (hd : d.size ≤ 1000) : B172_2 d.toList a i j = if (decide (i ≤ j) && (fun x => !ltP d[a]! x) d[i]!) = true then some (.inl (p4 d a (i + 1) j)) else some (.inr (p4 d a i j)) := by
  unfold B172_2
  rw [gcmp]
  · rw [vF_lt, at_d, at_d, leN, not_b, and_b]
    by_cases hc : (decide (i ≤ j) && !ltP d[a]! d[i]!) = true
    · have hi : i ≤ j := by rw [Bool.and_eq_true, decide_eq_true_eq] at hc; exact hc.1
      rw [if_pos hc, hc, sel_t, add1 (by omega)]
    · rw [if_neg hc, eq_false_of_ne_true hc, sel_f]
  · exact or_imp fun _ => oin_d ha
  · rw [leN]; exact or_imp fun h => by rw [decide_eq_true_eq] at h; exact oin_d (by omega)
theorem b1724 {a i j : Nat} {d : PA} (ha : a < d.size) (hj : j < d.size) (hd : d.size ≤ 1000) (hi : 1 ≤ i) : B172_4 d.toList a i j = if (decide (i ≤ j) && (fun x => ltP d[a]! x) d[j]!) = true then some (.inl (p4 d a i (j - 1))) else some (.inr (p4 d a i j)) := by
  unfold B172_4
  rw [gcmp]
  · rw [vF_lt, at_d, at_d, leN, and_b]
    by_cases hc : (decide (i ≤ j) && ltP d[a]! d[j]!) = true
    · have hi : i ≤ j := by rw [Bool.and_eq_true, decide_eq_true_eq] at hc; exact hc.1
      rw [if_pos hc, hc, sel_t, sub1 (by omega) (by omega)]
    · rw [if_neg hc, eq_false_of_ne_true hc, sel_f]
  · exact or_imp fun _ => oin_d ha
  · exact or_imp fun _ => oin_d hj
theorem l1730 {a i j : Nat} {d : PA} (ha : a < d.size) (hj : j < d.size) (hd : d.size ≤ 1000) : L173_0 (p4 d a i j) = some (p4 d a (Go.Sort.scanUp (fun x => ltP x d[a]!) d j i) j) :=
  up_gen (B := fun (x : P4) => B173_0 x.1 x.2.1 x.2.2.1 x.2.2.2) (st := fun i => p4 d a i j) (en := fun i => p4 d a i j) (p := fun x => ltP x d[a]!) (d := d) (j := j) (fun q => b1730 (d := d) (i := q) ha hj hd) _ i fuel rfl (by unfold fuel; omega)
theorem l1736 {a i j : Nat} {d : PA} (ha : a < d.size) (hj : j < d.size) (hd : d.size ≤ 1000) : L173_6 (p4 d a i j) = some (p4 d a (Go.Sort.scanUp (fun x => ltP x d[a]!) d j i) j) :=
  up_gen (B := fun (x : P4) => B173_6 x.1 x.2.1 x.2.2.1 x.2.2.2) (st := fun i => p4 d a i j) (en := fun i => p4 d a i j) (p := fun x => ltP x d[a]!) (d := d) (j := j) (fun q => b1730 (d := d) (i := q) ha hj hd) _ i fuel rfl (by unfold fuel; omega)
theorem l1732 {a i j : Nat} {d : PA} (ha : a < d.size) (hj : j < d.size) (hd : d.size ≤ 1000) (hi : 1 ≤ i) : L173_2 (p4 d a i j) = some (p4 d a i (Go.Sort.scanDown (fun x => !ltP x d[a]!) d i j)) :=
  down_gen (B := fun (x : P4) => B173_2 x.1 x.2.1 x.2.2.1 x.2.2.2) (st := fun j => p4 d a i j) (en := fun j => p4 d a i j) (p := fun x => !ltP x d[a]!) (d := d) hi j fuel (fun q hq => b1732 (d := d) (j := q) ha (by omega) hd hi) (by unfold fuel; omega)
theorem l1738 {a i j : Nat} {d : PA} (ha : a < d.size) (hj : j < d.size) (hd : d.size ≤ 1000) (hi : 1 ≤ i) : L173_8 (p4 d a i j) = some (p4 d a i (Go.Sort.scanDown (fun x => !ltP x d[a]!) d i j)) :=
  down_gen (B := fun (x : P4) => B173_8 x.1 x.2.1 x.2.2.1 x.2.2.2) (st := fun j => p4 d a i j) (en := fun j => p4 d a i j) (p := fun x => !ltP x d[a]!) (d := d) hi j fuel (fun q hq => b1732 (d := d) (j := q) ha (by omega) hd hi) (by unfold fuel; omega)
theorem l1722 {a i j : Nat} {d : PA} (ha : a < d.size) (hj : j < d.size) (hd : d.size ≤ 1000) : L172_2 (p4 d a i j) = some (p4 d a (Go.Sort.scanUp (fun x => !ltP d[a]! x) d j i) j) :=
  up_gen (B := fun (x : P4) => B172_2 x.1 x.2.1 x.2.2.1 x.2.2.2) (st := fun i => p4 d a i j) (en := fun i => p4 d a i j) (p := fun x => !ltP d[a]! x) (d := d) (j := j) (fun q => b1722 (d := d) (i := q) ha hj hd) _ i fuel rfl (by unfold fuel; omega)
theorem l1724 {a i j : Nat} {d : PA} (ha : a < d.size) (hj : j < d.size) (hd : d.size ≤ 1000) (hi : 1 ≤ i) : L172_4 (p4 d a i j) = some (p4 d a i (Go.Sort.scanDown (fun x => ltP d[a]! x) d i j)) :=
  down_gen (B := fun (x : P4) => B172_4 x.1 x.2.1 x.2.2.1 x.2.2.2) (st := fun j => p4 d a i j) (en := fun j => p4 d a i j) (p := fun x => ltP d[a]! x) (d := d) hi j fuel (fun q hq => b1724 (d := d) (j := q) ha (by omega) hd hi) (by unfold fuel; omega)
theorem l1734 {a : Nat} : ∀ (k i j : Nat) (d : PA) (n : Nat), j + 1 - i ≤ k → 1 ≤ i → a < d.size → j < d.size → d.size ≤ 1000 → k < n → iter (fun (x : P4) => B173_4 x.1 x.2.1 x.2.2.1 x.2.2.2) n (p4 d a i j) = some ((Go.Sort.partLoop ltP a i j d).2.toList, ((a : Int), ((Go.Sort.partLoop ltP a i j d).1 : Int))) := by
  intro k
  induction k with
  | zero =>
    intro i j d n hk hi ha hj hd hn
    obtain ⟨n, rfl⟩ : ∃ q, n = q + 1 := ⟨n - 1, by omega⟩
    have e1 : Go.Sort.scanUp (fun x => ltP x d[a]!) d j i = i := by rw [Go.Sort.scanUp, decide_eq_false (by omega), Bool.false_and, if_neg (by decide)]
    have hle := Go.Sort.scanDown_le (fun x => !ltP x d[a]!) d i j
    rw [Go.Sort.partLoop_eq, e1, if_pos (by omega)]
    refine iter_e ?_
    show B173_4 d.toList a i j = _
    unfold B173_4
    show bndS (L173_6 (p4 d a i j)) _ = _
    rw [l1736 ha hj hd, bnd_s, l1738 ha hj hd (by omega), bnd_s, e1]
    dsimp only
    rw [ltN, decide_eq_true (by omega), sel_t]
  | succ k ih =>
    intro i j d n hk hi ha hj hd hn
    obtain ⟨n, rfl⟩ : ∃ q, n = q + 1 := ⟨n - 1, by omega⟩
    have hge := Go.Sort.scanUp_ge (fun x => ltP x d[a]!) d j i
    have hle := Go.Sort.scanDown_le (fun x => !ltP x d[a]!) d (Go.Sort.scanUp (fun x => ltP x d[a]!) d j i) j
    have hB : B173_4 d.toList a i j = bndS (L173_6 (p4 d a i j)) _ := rfl
    rw [l1736 ha hj hd, bnd_s, l1738 ha hj hd (by omega), bnd_s] at hB
    rw [Go.Sort.partLoop_eq]
    generalize Go.Sort.scanDown (fun x => !ltP x d[a]!) d (Go.Sort.scanUp (fun x => ltP x d[a]!) d j i) j = j2 at *
    generalize Go.Sort.scanUp (fun x => ltP x d[a]!) d j i = i2 at *
    dsimp only at hB
    rw [ltN] at hB
    by_cases hc : i2 > j2
    · rw [if_pos hc]
      rw [decide_eq_true (by omega), sel_t] at hB
      exact iter_e hB
    · rw [if_neg hc]
      rw [decide_eq_false (by omega), sel_f, oin_d (by omega), oin_d (by omega), at_d, at_d, oin_s (by omega), sel_t, sel_t, sel_t, sel_t, swp_d, add1 (by omega), sub1 (by omega) (by omega)] at hB
      rw [iter_s (x := p4 d a i j) (B := fun (x : P4) => B173_4 x.1 x.2.1 x.2.2.1 x.2.2.2) hB]
      have hs := Go.Sort.size_swp d i2 j2
      exact ih (i2 + 1) (j2 - 1) _ n (by omega) (by omega) (by omega) (by omega) (by omega) (by omega)
theorem l1720 {a : Nat} : ∀ (k i j : Nat) (d : PA) (n : Nat), j + 1 - i ≤ k → 1 ≤ i → a < d.size → j < d.size → d.size ≤ 1000 → k < n → iter (fun (x : P4) => B172_0 x.1 x.2.1 x.2.2.1 x.2.2.2) n (p4 d a i j) = some ((Go.Sort.partEqLoop ltP a i j d).2.toList, ((Go.Sort.partEqLoop ltP a i j d).1 : Int)) := by
  intro k
  induction k with
  | zero =>
    intro i j d n hk hi ha hj hd hn
    obtain ⟨n, rfl⟩ : ∃ q, n = q + 1 := ⟨n - 1, by omega⟩
    have e1 : Go.Sort.scanUp (fun x => !ltP d[a]! x) d j i = i := by rw [Go.Sort.scanUp, decide_eq_false (by omega), Bool.false_and, if_neg (by decide)]
    have hle := Go.Sort.scanDown_le (fun x => ltP d[a]! x) d i j
    rw [Go.Sort.partEqLoop_eq, e1, if_pos (by omega)]
    refine iter_e ?_
    show B172_0 d.toList a i j = _
    unfold B172_0
    show bndS (L172_2 (p4 d a i j)) _ = _
    rw [l1722 ha hj hd, bnd_s, l1724 ha hj hd (by omega), bnd_s, e1]
    dsimp only
    rw [ltN, decide_eq_true (by omega), sel_t]
  | succ k ih =>
    intro i j d n hk hi ha hj hd hn
    obtain ⟨n, rfl⟩ : ∃ q, n = q + 1 := ⟨n - 1, by omega⟩
    have hge := Go.Sort.scanUp_ge (fun x => !ltP d[a]! x) d j i
    have hle := Go.Sort.scanDown_le (fun x => ltP d[a]! x) d (Go.Sort.scanUp (fun x => !ltP d[a]! x) d j i) j
    have hB : B172_0 d.toList a i j = bndS (L172_2 (p4 d a i j)) _ := rfl
    rw [l1722 ha hj hd, bnd_s, l1724 ha hj hd (by omega), bnd_s] at hB
    rw [Go.Sort.partEqLoop_eq]
    generalize Go.Sort.scanDown (fun x => ltP d[a]! x) d (Go.Sort.scanUp (fun x => !ltP d[a]! x) d j i) j = j2 at *
    generalize Go.Sort.scanUp (fun x => !ltP d[a]! x) d j i = i2 at *
    dsimp only at hB
    rw [ltN] at hB
    by_cases hc : i2 > j2
    · rw [if_pos hc]
      rw [decide_eq_true (by omega), sel_t] at hB
      exact iter_e hB
    · rw [if_neg hc]
      rw [decide_eq_false (by omega), sel_f, oin_d (by omega), oin_d (by omega), at_d, at_d, oin_s (by omega), sel_t, sel_t, sel_t, sel_t, swp_d, add1 (by omega), sub1 (by omega) (by omega)] at hB
      rw [iter_s (x := p4 d a i j) (B := fun (x : P4) => B172_0 x.1 x.2.1 x.2.2.1 x.2.2.2) hB]
      have hs := Go.Sort.size_swp d i2 j2
      exact ih (i2 + 1) (j2 - 1) _ n (by omega) (by omega) (by omega) (by omega) (by omega) (by omega)
theorem part_size {a : Nat} : ∀ (k i j : Nat) (d : PA), j + 1 - i ≤ k → 1 ≤ i → (Go.Sort.partLoop ltP a i j d).2.size = d.size := by
  intro k
  induction k with
  | zero =>
    intro i j d hk hi
    have e1 : Go.Sort.scanUp (fun x => ltP x d[a]!) d j i = i := by rw [Go.Sort.scanUp, decide_eq_false (by omega), Bool.false_and, if_neg (by decide)]
    have hle := Go.Sort.scanDown_le (fun x => !ltP x d[a]!) d i j
    rw [Go.Sort.partLoop_eq, e1, if_pos (by omega)]
  | succ k ih =>
    intro i j d hk hi
    have hge := Go.Sort.scanUp_ge (fun x => ltP x d[a]!) d j i
    have hle := Go.Sort.scanDown_le (fun x => !ltP x d[a]!) d (Go.Sort.scanUp (fun x => ltP x d[a]!) d j i) j
    rw [Go.Sort.partLoop_eq]
    split
    · rfl
    · rw [ih _ _ _ (by omega) (by omega), Go.Sort.size_swp]
theorem F173_eq {a b p : Nat} {d : PA} (h1 : a ≤ p) (h2 : p < b) (hb : b ≤ d.size) (hd : d.size ≤ 1000) : F173 d.toList a b p = some ((Go.Sort.partition ltP d a b p).2.2.toList, (((Go.Sort.partition ltP d a b p).1 : Int), (Go.Sort.partition ltP d a b p).2.1)) := by
  have hlt := (Go.Sort.partition_holds ltP swoP d a b p h1 h2 hb)
  have hpe : Go.Sort.partition ltP d a b p = if Go.Sort.scanUp (fun x => ltP x (Go.Sort.swp d a p)[a]!) (Go.Sort.swp d a p) (b - 1) (a + 1) > Go.Sort.scanDown (fun x => !ltP x (Go.Sort.swp d a p)[a]!) (Go.Sort.swp d a p) (Go.Sort.scanUp (fun x => ltP x (Go.Sort.swp d a p)[a]!) (Go.Sort.swp d a p) (b - 1) (a + 1)) (b - 1) then (Go.Sort.scanDown (fun x => !ltP x (Go.Sort.swp d a p)[a]!) (Go.Sort.swp d a p) (Go.Sort.scanUp (fun x => ltP x (Go.Sort.swp d a p)[a]!) (Go.Sort.swp d a p) (b - 1) (a + 1)) (b - 1), true, Go.Sort.swp (Go.Sort.swp d a p) (Go.Sort.scanDown (fun x => !ltP x (Go.Sort.swp d a p)[a]!) (Go.Sort.swp d a p) (Go.Sort.scanUp (fun x => ltP x (Go.Sort.swp d a p)[a]!) (Go.Sort.swp d a p) (b - 1) (a + 1)) (b - 1)) a) else ((Go.Sort.partLoop ltP a (Go.Sort.scanUp (fun x => ltP x (Go.Sort.swp d a p)[a]!) (Go.Sort.swp d a p) (b - 1) (a + 1) + 1) (Go.Sort.scanDown (fun x => !ltP x (Go.Sort.swp d a p)[a]!) (Go.Sort.swp d a p) (Go.Sort.scanUp (fun x => ltP x (Go.Sort.swp d a p)[a]!) (Go.Sort.swp d a p) (b - 1) (a + 1)) (b - 1) - 1) (Go.Sort.swp (Go.Sort.swp d a p) (Go.Sort.scanUp (fun x => ltP x (Go.Sort.swp d a p)[a]!) (Go.Sort.swp d a p) (b - 1) (a + 1)) (Go.Sort.scanDown (fun x => !ltP x (Go.Sort.swp d a p)[a]!) (Go.Sort.swp d a p) (Go.Sort.scanUp (fun x => ltP x (Go.Sort.swp d a p)[a]!) (Go.Sort.swp d a p) (b - 1) (a + 1)) (b - 1)))).1, false, Go.Sort.swp (Go.Sort.partLoop ltP a (Go.Sort.scanUp (fun x => ltP x (Go.Sort.swp d a p)[a]!) (Go.Sort.swp d a p) (b - 1) (a + 1) + 1) (Go.Sort.scanDown (fun x => !ltP x (Go.Sort.swp d a p)[a]!) (Go.Sort.swp d a p) (Go.Sort.scanUp (fun x => ltP x (Go.Sort.swp d a p)[a]!) (Go.Sort.swp d a p) (b - 1) (a + 1)) (b - 1) - 1) (Go.Sort.swp (Go.Sort.swp d a p) (Go.Sort.scanUp (fun x => ltP x (Go.Sort.swp d a p)[a]!) (Go.Sort.swp d a p) (b - 1) (a + 1)) (Go.Sort.scanDown (fun x => !ltP x (Go.Sort.swp d a p)[a]!) (Go.Sort.swp d a p) (Go.Sort.scanUp (fun x => ltP x (Go.Sort.swp d a p)[a]!) (Go.Sort.swp d a p) (b - 1) (a + 1)) (b - 1)))).2 (Go.Sort.partLoop ltP a (Go.Sort.scanUp (fun x => ltP x (Go.Sort.swp d a p)[a]!) (Go.Sort.swp d a p) (b - 1) (a + 1) + 1) (Go.Sort.scanDown (fun x => !ltP x (Go.Sort.swp d a p)[a]!) (Go.Sort.swp d a p) (Go.Sort.scanUp (fun x => ltP x (Go.Sort.swp d a p)[a]!) (Go.Sort.swp d a p) (b - 1) (a + 1)) (b - 1) - 1) (Go.Sort.swp (Go.Sort.swp d a p) (Go.Sort.scanUp (fun x => ltP x (Go.Sort.swp d a p)[a]!) (Go.Sort.swp d a p) (b - 1) (a + 1)) (Go.Sort.scanDown (fun x => !ltP x (Go.Sort.swp d a p)[a]!) (Go.Sort.swp d a p) (Go.Sort.scanUp (fun x => ltP x (Go.Sort.swp d a p)[a]!) (Go.Sort.swp d a p) (b - 1) (a + 1)) (b - 1)))).1 a) := rfl
  have hs := Go.Sort.size_swp d a p
  unfold F173
  rw [oin_d (by omega), oin_d (by omega), at_d, at_d, oin_s (by omega), sel_t, sel_t, sel_t, sel_t, swp_d, add1 (by omega), sub1 (by omega) (by omega)]
  show bndS (L173_0 (p4 (Go.Sort.swp d a p) a (a + 1) (b - 1))) _ = _
  rw [l1730 (by omega) (by omega) (by omega), bnd_s]
  have hge := Go.Sort.scanUp_ge (fun x => ltP x (Go.Sort.swp d a p)[a]!) (Go.Sort.swp d a p) (b - 1) (a + 1)
  have hle := Go.Sort.scanDown_le (fun x => !ltP x (Go.Sort.swp d a p)[a]!) (Go.Sort.swp d a p) (Go.Sort.scanUp (fun x => ltP x (Go.Sort.swp d a p)[a]!) (Go.Sort.swp d a p) (b - 1) (a + 1)) (b - 1)
  rw [l1732 (by omega) (by omega) (by omega) (by omega), bnd_s]
  generalize Go.Sort.scanDown (fun x => !ltP x (Go.Sort.swp d a p)[a]!) (Go.Sort.swp d a p) (Go.Sort.scanUp (fun x => ltP x (Go.Sort.swp d a p)[a]!) (Go.Sort.swp d a p) (b - 1) (a + 1)) (b - 1) = j2 at *
  generalize Go.Sort.scanUp (fun x => ltP x (Go.Sort.swp d a p)[a]!) (Go.Sort.swp d a p) (b - 1) (a + 1) = i2 at *
  generalize Go.Sort.swp d a p = e at *
  dsimp only
  rw [ltN]
  by_cases hc : i2 > j2
  · rw [if_pos hc] at hpe
    rw [hpe, decide_eq_true (by omega), sel_t, oin_d (by omega), oin_d (by omega), at_d, at_d, oin_s (by omega), sel_t, sel_t, sel_t, sel_t, swp_d]
  · rw [if_neg hc] at hpe
    have hs2 := Go.Sort.size_swp e i2 j2
    rw [hpe] at hlt ⊢
    dsimp only at hlt
    have hps := part_size (a := a) (j2 - 1 + 1 - (i2 + 1)) (i2 + 1) (j2 - 1) (Go.Sort.swp e i2 j2) (Nat.le_refl _) (by omega)
    rw [decide_eq_false (by omega), sel_f, oin_d (by omega), oin_d (by omega), at_d, at_d, oin_s (by omega), sel_t, sel_t, sel_t, sel_t, swp_d, add1 (by omega), sub1 (by omega) (by omega)]
    show bndS (iter (fun (x : P4) => B173_4 x.1 x.2.1 x.2.2.1 x.2.2.2) fuel (p4 (Go.Sort.swp e i2 j2) a (i2 + 1) (j2 - 1))) _ = _
    rw [l1734 _ (i2 + 1) (j2 - 1) _ fuel (Nat.le_refl _) (by omega) (by omega) (by omega) (by omega) (by unfold fuel; omega), bnd_s]
    dsimp only
    rw [oin_d (by omega), oin_d (by omega), at_d, at_d, oin_s (by omega), sel_t, sel_t, sel_t, sel_t, swp_d]
theorem F172_eq {a b p : Nat} {d : PA} (h1 : a ≤ p) (h2 : p < b) (hb : b ≤ d.size) (hd : d.size ≤ 1000) : F172 d.toList a b p = some ((Go.Sort.partitionEqual ltP d a b p).2.toList, ((Go.Sort.partitionEqual ltP d a b p).1 : Int)) := by
  have hs := Go.Sort.size_swp d a p
  unfold F172
  rw [oin_d (by omega), oin_d (by omega), at_d, at_d, oin_s (by omega), sel_t, sel_t, sel_t, sel_t, swp_d, add1 (by omega), sub1 (by omega) (by omega)]
  show bndS (iter (fun (x : P4) => B172_0 x.1 x.2.1 x.2.2.1 x.2.2.2) fuel (p4 (Go.Sort.swp d a p) a (a + 1) (b - 1))) _ = _
  rw [l1720 _ (a + 1) (b - 1) _ fuel (Nat.le_refl _) (by omega) (by omega) (by omega) (by omega) (by unfold fuel; omega), bnd_s]
  rfl
end Go.Proofs.YtiddpfhpmodfbaaGreatDoor.K
end

section
set_option linter.unusedVariables false
set_option linter.unusedSimpArgs false
set_option linter.unnecessarySimpa false
open Go Go.Ev
namespace Go.Proofs.YtiddpfhpmodfbaaGreatDoor.K
abbrev P5 := (List PG) × (Int × (Int × (Int × Int)))
theorem l1712 {a b : Nat} {s : Int} {d : PA} (hb : b ≤ d.size) (hd : d.size ≤ 1000) : ∀ (k i n : Nat), b - i = k → 1 ≤ i → i ≤ 1000 → k < n → iter (fun (x : P5) => (B171_2 x.1 x.2.1 x.2.2.1 x.2.2.2.1 x.2.2.2.2)) n (d.toList, ((a : Int), ((b : Int), ((i : Int), s)))) = some (d.toList, ((a : Int), ((b : Int), ((Go.Sort.scanSorted ltP d b i : Int), s)))) := by
  have hB : ∀ i : Nat, 1 ≤ i → i ≤ 1000 → B171_2 d.toList a b i s = if (decide (i < b) && !ltP d[i]! d[i - 1]!) = true then some (.inl (d.toList, ((a : Int), ((b : Int), (((i + 1 : Nat) : Int), s))))) else some (.inr (d.toList, ((a : Int), ((b : Int), ((i : Int), s))))) := by
    intro i hi hi2
    unfold B171_2
    rw [sub1 hi (by omega), gcmp]
    · rw [vF_lt, at_d, at_d, ltN, not_b, and_b]
      by_cases hc : (decide (i < b) && !ltP d[i]! d[i - 1]!) = true
      · rw [if_pos hc, hc, sel_t, add1 (by omega)]
      · rw [if_neg hc, eq_false_of_ne_true hc, sel_f]
    · rw [ltN]; exact or_imp fun h => by rw [decide_eq_true_eq] at h; exact oin_d (by omega)
    · rw [ltN]; exact or_imp fun h => by rw [decide_eq_true_eq] at h; exact oin_d (by omega)
  intro k
  induction k with
  | zero =>
    intro i n hk h1 hi2 hn
    obtain ⟨n, rfl⟩ : ∃ q, n = q + 1 := ⟨n - 1, by omega⟩
    have h := hB i h1 hi2
    rw [decide_eq_false (by omega), Bool.false_and, if_neg (by decide)] at h
    rw [Go.Sort.scanSorted, decide_eq_false (by omega), Bool.false_and, if_neg (by decide)]
    exact iter_e h
  | succ k ih =>
    intro i n hk h1 hi2 hn
    obtain ⟨n, rfl⟩ : ∃ q, n = q + 1 := ⟨n - 1, by omega⟩
    have h := hB i h1 hi2
    rw [Go.Sort.scanSorted]
    by_cases hc : (decide (i < b) && !ltP d[i]! d[i - 1]!) = true
    · rw [if_pos hc] at h ⊢
      rw [iter_s (x := (d.toList, ((a : Int), ((b : Int), ((i : Int), s))))) (B := fun (x : P5) => (B171_2 x.1 x.2.1 x.2.2.1 x.2.2.2.1 x.2.2.2.2)) h]
      exact ih (i + 1) n (by omega) (by omega) (by omega) (by omega)
    · rw [if_neg hc] at h ⊢
      exact iter_e h
abbrev P6 := (List PG) × (Int × (Int × (Int × (Int × Int))))
theorem l1714 {a b i : Nat} {s : Int} : ∀ (j : Nat) (d : PA) (n : Nat), j < d.size → d.size ≤ 1000 → j < n → iter (fun (x : P6) => (B171_4 x.1 x.2.1 x.2.2.1 x.2.2.2.1 x.2.2.2.2.1 x.2.2.2.2.2)) n (d.toList, ((a : Int), ((b : Int), ((i : Int), (s, (j : Int)))))) = some ((Go.Sort.shiftDown ltP j d).toList, ((a : Int), ((b : Int), ((i : Int), s))))
  | 0, d, n, hj, hd, hn => by
    obtain ⟨n, rfl⟩ : ∃ q, n = q + 1 := ⟨n - 1, by omega⟩
    refine iter_e ?_
    show B171_4 d.toList a b i s ((0 : Nat) : Int) = _
    unfold B171_4
    rw [iLe_f (by omega), sel_f]
    rfl
  | j + 1, d, n, hj, hd, hn => by
    obtain ⟨n, rfl⟩ : ∃ q, n = q + 1 := ⟨n - 1, by omega⟩
    have h : B171_4 d.toList a b i s ((j + 1 : Nat) : Int) = if (!ltP d[j + 1]! d[j]!) = true then some (.inr (d.toList, ((a : Int), ((b : Int), ((i : Int), s))))) else some (.inl ((Go.Sort.swp d (j + 1) j).toList, ((a : Int), ((b : Int), ((i : Int), (s, (j : Int))))))) := by
      unfold B171_4
      rw [iLe_y (by omega), sel_t, sub1 (by omega) (by omega), Nat.add_sub_cancel, oin_d hj, oin_d (by omega), sel_t, sel_t, at_d, at_d, bcmp, vF_lt, oin_s (by omega), sel_t, sel_t, sel_t, sel_t, swp_d]
      cases ltP d[j + 1]! d[j]! with
      | true => rw [nt, sel_f, if_neg (by decide)]
      | false => rw [nf, sel_t, if_pos (by decide)]
    have hs : Go.Sort.shiftDown ltP (j + 1) d = if (!ltP d[j + 1]! d[j]!) = true then d else Go.Sort.shiftDown ltP j (Go.Sort.swp d (j + 1) j) := rfl
    rw [hs]
    by_cases hc : (!ltP d[j + 1]! d[j]!) = true
    · rw [if_pos hc] at h ⊢
      exact iter_e h
    · rw [if_neg hc] at h ⊢
      rw [iter_s (x := (d.toList, ((a : Int), ((b : Int), ((i : Int), (s, ((j + 1 : Nat) : Int))))))) (B := fun (x : P6) => (B171_4 x.1 x.2.1 x.2.2.1 x.2.2.2.1 x.2.2.2.2.1 x.2.2.2.2.2)) h]
      exact l1714 j _ n (by rw [Go.Sort.size_swp]; omega) (by rw [Go.Sort.size_swp]; omega) (by omega)
theorem l1716 {a b i : Nat} {s : Int} : ∀ (k j : Nat) (d : PA) (n : Nat), b - j = k → 1 ≤ j → j ≤ 1000 → b ≤ d.size → d.size ≤ 1000 → k < n → iter (fun (x : P6) => (B171_6 x.1 x.2.1 x.2.2.1 x.2.2.2.1 x.2.2.2.2.1 x.2.2.2.2.2)) n (d.toList, ((a : Int), ((b : Int), ((i : Int), (s, (j : Int)))))) = some ((Go.Sort.shiftUp ltP b j d).toList, ((a : Int), ((b : Int), ((i : Int), s))))
  | 0, j, d, n, hk, h1, hj, hb, hd, hn => by
    obtain ⟨n, rfl⟩ : ∃ q, n = q + 1 := ⟨n - 1, by omega⟩
    refine iter_e ?_
    show B171_6 d.toList a b i s j = _
    unfold B171_6
    rw [ltN, decide_eq_false (by omega), sel_f, Go.Sort.shiftUp, if_neg (by omega)]
  | k + 1, j, d, n, hk, h1, hj, hb, hd, hn => by
    obtain ⟨n, rfl⟩ : ∃ q, n = q + 1 := ⟨n - 1, by omega⟩
    have h : B171_6 d.toList a b i s j = if (!ltP d[j]! d[j - 1]!) = true then some (.inr (d.toList, ((a : Int), ((b : Int), ((i : Int), s))))) else some (.inl ((Go.Sort.swp d j (j - 1)).toList, ((a : Int), ((b : Int), ((i : Int), (s, ((j + 1 : Nat) : Int))))))) := by
      unfold B171_6
      rw [ltN, decide_eq_true (by omega), sel_t, sub1 (by omega) (by omega), oin_d (by omega), oin_d (by omega), sel_t, sel_t, at_d, at_d, bcmp, vF_lt, oin_s (by omega), sel_t, sel_t, sel_t, sel_t, swp_d, add1 (by omega)]
      cases ltP d[j]! d[j - 1]! with
      | true => rw [nt, sel_f, if_neg (by decide)]
      | false => rw [nf, sel_t, if_pos (by decide)]
    have hs : Go.Sort.shiftUp ltP b j d = if (!ltP d[j]! d[j - 1]!) = true then d else Go.Sort.shiftUp ltP b (j + 1) (Go.Sort.swp d j (j - 1)) := by
      rw [Go.Sort.shiftUp, if_pos (by omega)]
    rw [hs]
    by_cases hc : (!ltP d[j]! d[j - 1]!) = true
    · rw [if_pos hc] at h ⊢
      exact iter_e h
    · rw [if_neg hc] at h ⊢
      rw [iter_s (x := (d.toList, ((a : Int), ((b : Int), ((i : Int), (s, (j : Int))))))) (B := fun (x : P6) => (B171_6 x.1 x.2.1 x.2.2.1 x.2.2.2.1 x.2.2.2.2.1 x.2.2.2.2.2)) h]
      exact l1716 k (j + 1) _ n (by omega) (by omega) (by omega) (by rw [Go.Sort.size_swp]; omega) (by rw [Go.Sort.size_swp]; omega) (by omega)
theorem sd_size : ∀ (j : Nat) (d : PA), (Go.Sort.shiftDown ltP j d).size = d.size
  | 0, _ => rfl
  | j + 1, d => by
    show (if (!ltP d[j + 1]! d[j]!) = true then d else Go.Sort.shiftDown ltP j (Go.Sort.swp d (j + 1) j)).size = _
    split
    · rfl
    · rw [sd_size, Go.Sort.size_swp]
theorem su_size {b : Nat} : ∀ (k j : Nat) (d : PA), b - j = k → (Go.Sort.shiftUp ltP b j d).size = d.size
  | 0, j, d, h => by rw [Go.Sort.shiftUp, if_neg (by omega)]
  | k + 1, j, d, h => by
    rw [Go.Sort.shiftUp, if_pos (by omega)]
    split
    · rfl
    · rw [su_size k _ _ (by omega), Go.Sort.size_swp]
theorem scanS {d : PA} {b : Nat} : ∀ (k i : Nat), b - i = k → i ≤ b → i ≤ Go.Sort.scanSorted ltP d b i ∧ Go.Sort.scanSorted ltP d b i ≤ b
  | 0, i, h, hi => by
    rw [Go.Sort.scanSorted, decide_eq_false (by omega), Bool.false_and, if_neg (by decide)]; omega
  | k + 1, i, h, hi => by
    rw [Go.Sort.scanSorted]
    split
    · have := scanS (d := d) (b := b) k (i + 1) (by omega) (by omega); omega
    · omega
theorem l1710 {a b : Nat} : ∀ (s i : Nat) (d : PA) (n : Nat), s ≤ 5 → a < i → i ≤ b → b ≤ d.size → d.size ≤ 1000 → s < n → ∃ r, iter (fun (x : P5) => (B171_0 x.1 x.2.1 x.2.2.1 x.2.2.2.1 x.2.2.2.2)) n (d.toList, ((a : Int), ((b : Int), ((i : Int), (((5 - s : Nat) : Int)))))) = some r ∧ ((r = .inl (Go.Sort.partialIns ltP a b s i d).1.toList ∧ (Go.Sort.partialIns ltP a b s i d).2 = false) ∨ r = .inr ((Go.Sort.partialIns ltP a b s i d).1.toList, (Go.Sort.partialIns ltP a b s i d).2))
  | 0, i, d, n, hs, h1, h2, hb, hd, hn => by
    obtain ⟨n, rfl⟩ : ∃ q, n = q + 1 := ⟨n - 1, by omega⟩
    refine ⟨.inl d.toList, iter_e ?_, .inl ⟨rfl, rfl⟩⟩
    show B171_0 d.toList a b i ((5 - 0 : Nat) : Int) = _
    unfold B171_0
    rw [iLt_f (by omega), sel_f]
  | s + 1, i, d, n, hs, h1, h2, hb, hd, hn => by
    obtain ⟨n, rfl⟩ : ∃ q, n = q + 1 := ⟨n - 1, by omega⟩
    have hsc := scanS (d := d) (b := b) (b - i) i rfl h2
    have hL : L171_2 (d.toList, ((a : Int), ((b : Int), ((i : Int), ((5 - (s + 1) : Nat) : Int))))) = some (d.toList, ((a : Int), ((b : Int), ((Go.Sort.scanSorted ltP d b i : Int), ((5 - (s + 1) : Nat) : Int))))) := l1712 hb hd _ i fuel rfl (by omega) (by omega) (by unfold fuel; omega)
    rw [Go.Sort.partialIns_succ]
    generalize Go.Sort.scanSorted ltP d b i = i2 at *
    by_cases hc : i2 = b
    · rw [if_pos hc]
      refine ⟨.inr (d.toList, true), iter_e ?_, .inr rfl⟩
      show B171_0 d.toList a b i ((5 - (s + 1) : Nat) : Int) = _
      unfold B171_0
      rw [iLt_y (by omega), sel_t, hL, bnd_s]
      dsimp only
      rw [eqN, decide_eq_true hc, sel_t]
    rw [if_neg hc]
    by_cases h50 : b - a < 50
    · rw [if_pos h50]
      refine ⟨.inr (d.toList, false), iter_e ?_, .inr rfl⟩
      show B171_0 d.toList a b i ((5 - (s + 1) : Nat) : Int) = _
      unfold B171_0
      rw [iLt_y (by omega), sel_t, hL, bnd_s]
      dsimp only
      rw [eqN, decide_eq_false hc, sel_f, subN (by omega) (by omega), iLt_y (by omega), sel_t]
    rw [if_neg h50]
    have hsw := Go.Sort.size_swp d i2 (i2 - 1)
    have e5 : iAdd .i64 ((5 - (s + 1) : Nat) : Int) 1 = ((5 - s : Nat) : Int) := by rw [add_n (by omega) (by omega)]; omega
    have key : B171_0 d.toList a b i ((5 - (s + 1) : Nat) : Int) = some (.inl ((Go.Sort.fixUp ltP b i2 (Go.Sort.fixDown ltP a i2 (Go.Sort.swp d i2 (i2 - 1)))).toList, ((a : Int), ((b : Int), ((i2 : Int), ((5 - s : Nat) : Int)))))) := by
      unfold B171_0
      rw [iLt_y (by omega), sel_t, hL, bnd_s]
      dsimp only
      rw [eqN, decide_eq_false hc, sel_f, subN (by omega) (by omega), iLt_f (by omega), sel_f, sub1 (by omega) (by omega), oin_d (by omega), oin_d (by omega), at_d, at_d, oin_s (by omega), sel_t, sel_t, sel_t, sel_t, swp_d, subN (by omega) (by omega), subN (by omega) (by omega), add1 (by omega), e5]
      unfold Go.Sort.fixUp Go.Sort.fixDown
      by_cases g1 : i2 - a ≥ 2
      · rw [if_pos g1, iLe_y (by omega), sel_t]
        have hL4 : L171_4 ((Go.Sort.swp d i2 (i2 - 1)).toList, ((a : Int), ((b : Int), ((i2 : Int), (((5 - (s + 1) : Nat) : Int), ((i2 - 1 : Nat) : Int)))))) = _ := l1714 (i2 - 1) _ fuel (by omega) (by omega) (by unfold fuel; omega)
        have hz := sd_size (i2 - 1) (Go.Sort.swp d i2 (i2 - 1))
        rw [hL4, bnd_s]
        dsimp only
        rw [subN (by omega) (by omega), add1 (by omega), e5]
        by_cases g2 : b - i2 ≥ 2
        · rw [if_pos g2, iLe_y (by omega), sel_t]
          have hL6 : L171_6 ((Go.Sort.shiftDown ltP (i2 - 1) (Go.Sort.swp d i2 (i2 - 1))).toList, ((a : Int), ((b : Int), ((i2 : Int), (((5 - (s + 1) : Nat) : Int), ((i2 + 1 : Nat) : Int)))))) = _ := l1716 _ (i2 + 1) _ fuel rfl (by omega) (by omega) (by omega) (by omega) (by unfold fuel; omega)
          rw [hL6, bnd_s]
          dsimp only
          rw [e5]
        · rw [if_neg g2, iLe_f (by omega), sel_f]
      · rw [if_neg g1, iLe_f (by omega), sel_f]
        by_cases g2 : b - i2 ≥ 2
        · rw [if_pos g2, iLe_y (by omega), sel_t]
          have hL6 : L171_6 ((Go.Sort.swp d i2 (i2 - 1)).toList, ((a : Int), ((b : Int), ((i2 : Int), (((5 - (s + 1) : Nat) : Int), ((i2 + 1 : Nat) : Int)))))) = _ := l1716 _ (i2 + 1) _ fuel rfl (by omega) (by omega) (by omega) (by omega) (by unfold fuel; omega)
          rw [hL6, bnd_s]
          dsimp only
          rw [e5]
        · rw [if_neg g2, iLe_f (by omega), sel_f]
    have hsz : (Go.Sort.fixUp ltP b i2 (Go.Sort.fixDown ltP a i2 (Go.Sort.swp d i2 (i2 - 1)))).size = d.size := by
      unfold Go.Sort.fixUp Go.Sort.fixDown
      split <;> split <;> simp only [su_size _ _ _ rfl, sd_size, hsw]
    rw [iter_s (x := (d.toList, ((a : Int), ((b : Int), ((i : Int), ((5 - (s + 1) : Nat) : Int)))))) (B := fun (x : P5) => (B171_0 x.1 x.2.1 x.2.2.1 x.2.2.2.1 x.2.2.2.2)) key]
    exact l1710 s i2 _ n (by omega) (by omega) (by omega) (by omega) (by omega) (by omega)
theorem F171_eq {a b : Nat} {d : PA} (hab : a < b) (hb : b ≤ d.size) (hd : d.size ≤ 1000) : F171 d.toList a b = some ((Go.Sort.partialInsertionSort ltP d a b).1.toList, (Go.Sort.partialInsertionSort ltP d a b).2) := by
  obtain ⟨r, h1, h2⟩ := l1710 (a := a) (b := b) 5 (a + 1) d fuel (by omega) (by omega) (by omega) hb hd (by unfold fuel; omega)
  unfold F171
  rw [add1 (by omega)]
  show bndS (iter _ fuel _) _ = _
  rw [show ((5 - 5 : Nat) : Int) = 0 from rfl] at h1
  rw [h1, bnd_s]
  unfold Go.Sort.partialInsertionSort
  rcases h2 with ⟨rfl, h3⟩ | rfl
  · rw [h3]; rfl
  · rfl
theorem l1700 : ∀ (k i j : Nat) (d : PA) (n : Nat), j - i ≤ k → j < d.size → d.size ≤ 1000 → k < n → iter (fun (x : ((List PG) × (Int × Int))) => (B170_0 x.1 x.2.1 x.2.2)) n (d.toList, ((i : Int), (j : Int))) = some (Go.Sort.reverseLoop i j d).toList
  | 0, i, j, d, n, hk, hj, hd, hn => by
    obtain ⟨n, rfl⟩ : ∃ q, n = q + 1 := ⟨n - 1, by omega⟩
    refine iter_e ?_
    show B170_0 d.toList i j = _
    unfold B170_0
    rw [ltN, decide_eq_false (by omega), sel_f, Go.Sort.reverseLoop, if_neg (by omega)]
  | k + 1, i, j, d, n, hk, hj, hd, hn => by
    obtain ⟨n, rfl⟩ : ∃ q, n = q + 1 := ⟨n - 1, by omega⟩
    rw [Go.Sort.reverseLoop]
    by_cases hc : i < j
    · rw [if_pos hc]
      have h : B170_0 d.toList i j = some (.inl ((Go.Sort.swp d i j).toList, (((i + 1 : Nat) : Int), ((j - 1 : Nat) : Int)))) := by
        unfold B170_0
        rw [ltN, decide_eq_true hc, sel_t, oin_d (by omega), oin_d (by omega), at_d, at_d, oin_s (by omega), sel_t, sel_t, sel_t, sel_t, swp_d, add1 (by omega), sub1 (by omega) (by omega)]
      rw [iter_s (x := (d.toList, ((i : Int), (j : Int)))) (B := fun (x : ((List PG) × (Int × Int))) => (B170_0 x.1 x.2.1 x.2.2)) h]
      exact l1700 k (i + 1) (j - 1) _ n (by omega) (by rw [Go.Sort.size_swp]; omega) (by rw [Go.Sort.size_swp]; omega) (by omega)
    · rw [if_neg hc]
      refine iter_e ?_
      show B170_0 d.toList i j = _
      unfold B170_0
      rw [ltN, decide_eq_false (by omega), sel_f]
theorem F170_eq {a b : Nat} {d : PA} (hab : a < b) (hb : b ≤ d.size) (hd : d.size ≤ 1000) : F170 d.toList a b = some (Go.Sort.reverseRange d a b).toList := by
  unfold F170
  rw [sub1 (by omega) (by omega)]
  show bndS (iter _ fuel _) _ = _
  rw [l1700 _ a (b - 1) d fuel (Nat.le_refl _) (by omega) hd (by unfold fuel; omega), bnd_s]
  rfl
theorem F209_eq {a b s : Nat} {d : PA} (ha : a < d.size) (hb : b < d.size) (hs : s ≤ 1000) : F209 d.toList a b s = some ((d.toList, ((Go.Sort.order2 ltP d a b s).2.2 : Int)), (((Go.Sort.order2 ltP d a b s).1 : Int), ((Go.Sort.order2 ltP d a b s).2.1 : Int))) := by
  unfold F209 Go.Sort.order2
  rw [oin_d hb, oin_d ha, sel_t, sel_t, at_d, at_d, bcmp, vF_lt, add1 (by omega)]
  cases ltP d[b]! d[a]! with
  | true => rw [sel_t, if_pos rfl]
  | false => rw [sel_f, if_neg (by decide)]
theorem o2_lt {a b s m : Nat} {d : PA} (ha : a < m) (hb : b < m) : (Go.Sort.order2 ltP d a b s).1 < m ∧ (Go.Sort.order2 ltP d a b s).2.1 < m ∧ (Go.Sort.order2 ltP d a b s).2.2 ≤ s + 1 := by
  unfold Go.Sort.order2
  split <;> (dsimp only; omega)
theorem F194_eq {a b c s : Nat} {d : PA} (ha : a < d.size) (hb : b < d.size) (hc : c < d.size) (hs : s ≤ 900) : F194 d.toList a b c s = some ((d.toList, ((Go.Sort.median ltP d a b c s).2 : Int)), ((Go.Sort.median ltP d a b c s).1 : Int)) := by
  have h1 := o2_lt (s := s) (d := d) ha hb
  have h2 := o2_lt (s := (Go.Sort.order2 ltP d a b s).2.2) (d := d) h1.2.1 hc
  unfold F194 Go.Sort.median
  rw [F209_eq ha hb (by omega), bnd_s]
  dsimp only
  rw [F209_eq h1.2.1 hc (by omega), bnd_s]
  dsimp only
  rw [F209_eq h1.1 h2.1 (by omega), bnd_s]
theorem F193_eq {a s : Nat} {d : PA} (h1 : 1 ≤ a) (ha : a + 1 < d.size) (hd : d.size ≤ 1000) (hs : s ≤ 900) : F193 d.toList a s = some ((d.toList, ((Go.Sort.medianAdjacent ltP d a s).2 : Int)), ((Go.Sort.medianAdjacent ltP d a s).1 : Int)) := by
  unfold F193 Go.Sort.medianAdjacent
  rw [sub1 h1 (by omega), add1 (by omega), F194_eq (by omega) (by omega) (by omega) hs, bnd_s]
def hN : Go.Sort.Hint → Int
  | .unknown => 0
  | .increasing => 1
  | .decreasing => 2
theorem F169_eq {a b : Nat} {d : PA} (hab : a < b) (hb : b ≤ d.size) (hd : d.size ≤ 1000) : F169 d.toList a b = some (d.toList, (((Go.Sort.choosePivot ltP d a b).1 : Int), hN (Go.Sort.choosePivot ltP d a b).2)) := by
  have q4 : iQuo .i64 ((b - a : Nat) : Int) 4 = (((b - a) / 4 : Nat) : Int) := by
    unfold iQuo
    rw [Int.tdiv_eq_ediv_of_nonneg (by omega), wrap_fits (by unfold fits; omega)]
    omega
  have m : ∀ k : Nat, k ≤ 3 → iAdd .i64 (a : Int) (iMul .i64 (((b - a) / 4 : Nat) : Int) (k : Int)) = ((a + (b - a) / 4 * k : Nat) : Int) := fun k hk => by
    have h5 : (b - a) / 4 * k ≤ 1000 * 3 := Nat.mul_le_mul (by omega) hk
    have h6 : (((b - a) / 4 : Nat) : Int) * (k : Int) = (((b - a) / 4 * k : Nat) : Int) := (Int.natCast_mul _ _).symm
    rw [mul_n (by rw [h6]; omega) (by rw [h6]; omega), h6]
    exact addN (by omega) (by omega)
  have m1 := m 1 (by omega)
  have m2 := m 2 (by omega)
  have m3 := m 3 (by omega)
  rw [show ((1 : Nat) : Int) = 1 from rfl] at m1
  rw [show ((2 : Nat) : Int) = 2 from rfl] at m2
  rw [show ((3 : Nat) : Int) = 3 from rfl] at m3
  have fin : ∀ (p s : Nat), s ≤ 1000 → sel (iEq (s : Int) 0) (some (d.toList, ((p : Int), (1 : Int)))) (sel (iEq (s : Int) 12) (some (d.toList, ((p : Int), (2 : Int)))) (some (d.toList, ((p : Int), (0 : Int))))) = some (d.toList, ((p : Int), hN (if s = 0 then .increasing else if s = 12 then .decreasing else .unknown))) := fun p s hs => by
    by_cases h0 : s = 0
    · rw [if_pos h0, iEq_y (by omega), sel_t]; rfl
    · rw [if_neg h0, iEq_f (by omega), sel_f]
      by_cases h12 : s = 12
      · rw [if_pos h12, iEq_y (by omega), sel_t]; rfl
      · rw [if_neg h12, iEq_f (by omega), sel_f]; rfl
  unfold F169 Go.Sort.choosePivot
  rw [show oNz 4 = true from rfl, sel_t, sel_t, sel_t, subN (by omega) (by omega), q4, m1, m2, m3]
  dsimp only
  by_cases h8 : b - a ≥ 8
  · rw [iLe_y (by omega), sel_t, if_pos h8]
    by_cases h50 : b - a ≥ 50
    · rw [iLe_y (by omega), sel_t, if_pos h50]
      have w1 := Go.Sort.medianAdjacent_count ltP d (a + (b - a) / 4 * 1) 0
      have v1 := Go.Sort.medianAdjacent_mem ltP d (a + (b - a) / 4 * 1) 0
      have e1 := F193_eq (a := a + (b - a) / 4 * 1) (s := 0) (d := d) (by omega) (by omega) hd (by omega)
      rw [show ((0 : Nat) : Int) = 0 from rfl] at e1
      rw [e1, bnd_s]
      generalize Go.Sort.medianAdjacent ltP d (a + (b - a) / 4 * 1) 0 = r1 at *
      clear e1
      have z1 : r1.1 < d.size := by rcases v1 with h | h | h <;> (rw [h]; omega)
      clear v1
      dsimp only
      have w2 := Go.Sort.medianAdjacent_count ltP d (a + (b - a) / 4 * 2) r1.2
      have v2 := Go.Sort.medianAdjacent_mem ltP d (a + (b - a) / 4 * 2) r1.2
      rw [F193_eq (a := a + (b - a) / 4 * 2) (s := r1.2) (d := d) (by omega) (by omega) hd (by omega), bnd_s]
      generalize Go.Sort.medianAdjacent ltP d (a + (b - a) / 4 * 2) r1.2 = r2 at *
      have z2 : r2.1 < d.size := by rcases v2 with h | h | h <;> (rw [h]; omega)
      clear v2
      dsimp only
      have w3 := Go.Sort.medianAdjacent_count ltP d (a + (b - a) / 4 * 3) r2.2
      have v3 := Go.Sort.medianAdjacent_mem ltP d (a + (b - a) / 4 * 3) r2.2
      rw [F193_eq (a := a + (b - a) / 4 * 3) (s := r2.2) (d := d) (by omega) (by omega) hd (by omega), bnd_s]
      generalize Go.Sort.medianAdjacent ltP d (a + (b - a) / 4 * 3) r2.2 = r3 at *
      have z3 : r3.1 < d.size := by rcases v3 with h | h | h <;> (rw [h]; omega)
      clear v3
      dsimp only
      have w4 := Go.Sort.median_count ltP d r1.1 r2.1 r3.1 r3.2
      have z5 : r3.2 ≤ 900 := by omega
      rw [F194_eq (a := r1.1) (b := r2.1) (c := r3.1) (s := r3.2) (d := d) z1 z2 z3 z5, bnd_s]
      have z6 : (Go.Sort.median ltP d r1.1 r2.1 r3.1 r3.2).2 ≤ 1000 := by omega
      generalize Go.Sort.median ltP d r1.1 r2.1 r3.1 r3.2 = r4 at *
      dsimp only
      exact fin r4.1 r4.2 z6
    · rw [iLe_f (by omega), sel_f, if_neg h50]
      have w4 := Go.Sort.median_count ltP d (a + (b - a) / 4 * 1) (a + (b - a) / 4 * 2) (a + (b - a) / 4 * 3) 0
      have e1 := F194_eq (a := a + (b - a) / 4 * 1) (b := a + (b - a) / 4 * 2) (c := a + (b - a) / 4 * 3) (s := 0) (d := d) (by omega) (by omega) (by omega) (by omega)
      rw [show ((0 : Nat) : Int) = 0 from rfl] at e1
      rw [e1, bnd_s]
      generalize Go.Sort.median ltP d (a + (b - a) / 4 * 1) (a + (b - a) / 4 * 2) (a + (b - a) / 4 * 3) 0 = r4 at *
      dsimp only
      exact fin r4.1 r4.2 (by omega)
  · rw [iLe_f (by omega), sel_f, if_neg h8]
    rfl
end Go.Proofs.YtiddpfhpmodfbaaGreatDoor.K
end

section
set_option linter.unusedVariables false
set_option linter.unusedSimpArgs false
set_option linter.unnecessarySimpa false
open Go Go.Ev
namespace Go.Proofs.YtiddpfhpmodfbaaGreatDoor.K
theorem bitsL {n : Nat} (h : n ≤ 200) : F126 (iCv .u64 (n : Int)) = some ((Go.Sort.bitsLen n : Nat) : Int) ∧ F191 (n : Int) = some (((1 <<< Go.Sort.bitsLen n : Nat)) : Int) := by
  have h1 : (List.range 201).all (fun n => match F126 (iCv .u64 (n : Int)), F191 (n : Int) with
    | some v, some w => iEq v ((Go.Sort.bitsLen n : Nat) : Int) && iEq w (((1 <<< Go.Sort.bitsLen n : Nat)) : Int)
    | _, _ => false) = true := by kernel_rfl
  have h2 := List.all_eq_true.1 h1 n (List.mem_range.2 (by omega))
  revert h2
  cases F126 (iCv .u64 (n : Int)) with
  | none => intro h2; cases h2
  | some v =>
    cases F191 (n : Int) with
    | none => intro h2; cases h2
    | some w =>
      intro h2
      have h3 : (iEq v ((Go.Sort.bitsLen n : Nat) : Int) && iEq w (((1 <<< Go.Sort.bitsLen n : Nat)) : Int)) = true := h2
      rw [Bool.and_eq_true, iEq_t, iEq_t] at h3
      rw [h3.1, h3.2]
      exact ⟨rfl, rfl⟩
abbrev M64 : Nat := 18446744073709551616
theorem wrapU (n : Nat) : IntKind.wrap .u64 (n : Int) = ((n % M64 : Nat) : Int) := by
  unfold IntKind.wrap
  simp [IntKind.bits, IntKind.signed]
theorem xorU {a b : Nat} (ha : a < M64) (hb : b < M64) : iXor .u64 (a : Int) (b : Int) = ((a ^^^ b : Nat) : Int) := by
  unfold iXor
  rw [BitVec.toNat_xor, BitVec.ofInt_natCast, BitVec.ofInt_natCast, BitVec.toNat_ofNat, BitVec.toNat_ofNat]
  show IntKind.wrap .u64 (((a % 2 ^ 64 ^^^ b % 2 ^ 64 : Nat)) : Int) = _
  rw [Nat.mod_eq_of_lt ha, Nat.mod_eq_of_lt hb, wrapU, Nat.mod_eq_of_lt]
  exact Nat.xor_lt_two_pow (n := 64) ha hb
theorem andU {a b : Nat} (ha : a < M64) (hb : b < M64) : iAnd .u64 (a : Int) (b : Int) = ((a &&& b : Nat) : Int) := by
  unfold iAnd
  rw [BitVec.toNat_and, BitVec.ofInt_natCast, BitVec.ofInt_natCast, BitVec.toNat_ofNat, BitVec.toNat_ofNat]
  show IntKind.wrap .u64 (((a % 2 ^ 64 &&& b % 2 ^ 64 : Nat)) : Int) = _
  rw [Nat.mod_eq_of_lt ha, Nat.mod_eq_of_lt hb, wrapU, Nat.mod_eq_of_lt]
  exact Nat.lt_of_le_of_lt Nat.and_le_left ha
theorem shlU (a : Nat) (k : Nat) (hk : k ≤ 64) : iShl .u64 (a : Int) (k : Int) = ((a * 2 ^ k % M64 : Nat) : Int) := by
  unfold iShl
  rw [Int.toNat_natCast, show min k IntKind.u64.bits = k by simp [IntKind.bits]; omega]
  have : (a : Int) * 2 ^ k = ((a * 2 ^ k : Nat) : Int) := by rw [Int.natCast_mul, Int.natCast_pow]; rfl
  rw [this, wrapU]
theorem shrU (a : Nat) : iShr .u64 (a : Int) 7 = ((a / 128 : Nat) : Int) := by
  unfold iShr
  show (a : Int).fdiv (2 ^ 7) = _
  rw [Int.fdiv_eq_ediv_of_nonneg _ (by decide)]
  show (a : Int) / 128 = _
  omega
theorem F192_eq {x : Nat} (h : x < M64) : F192 (x : Int) = ((Go.Sort.xorNextN x : Int), (Go.Sort.xorNextN x : Int)) := by
  have s13 := shlU x 13 (by decide)
  rw [show ((13 : Nat) : Int) = 13 from rfl] at s13
  have hm : x * 2 ^ 13 % M64 < M64 := Nat.mod_lt _ (by decide)
  have ha : x ^^^ (x * 2 ^ 13 % M64) < M64 := Nat.xor_lt_two_pow (n := 64) h hm
  have hb : (x ^^^ (x * 2 ^ 13 % M64)) / 128 < M64 := Nat.lt_of_le_of_lt (Nat.div_le_self _ _) ha
  have hc : (x ^^^ (x * 2 ^ 13 % M64)) ^^^ ((x ^^^ (x * 2 ^ 13 % M64)) / 128) < M64 := Nat.xor_lt_two_pow (n := 64) ha hb
  have s17 := shlU ((x ^^^ (x * 2 ^ 13 % M64)) ^^^ ((x ^^^ (x * 2 ^ 13 % M64)) / 128)) 17 (by decide)
  rw [show ((17 : Nat) : Int) = 17 from rfl] at s17
  unfold F192
  rw [s13, xorU h hm, shrU, xorU ha hb, s17, xorU hc (Nat.mod_lt _ (by decide))]
  rfl
abbrev P6c := (List PG) × (Int × (Int × (Int × (Int × Int))))
theorem b1680 {a L m : Nat} {idx : Nat} {st : UInt64 × PA} (h8 : 8 ≤ L) (hL : a + L ≤ st.2.size) (hd : st.2.size ≤ 200) (hm : 1 ≤ m) (hm2 : m ≤ 2 * L) (h1 : idx < a + L) :
    B168_0 st.2.toList a L ((st.1.toNat : Nat) : Int) m idx = if idx ≤ a + L / 4 * 2 + 1 then some (.inl ((Go.Sort.breakStep a L m st idx).2.toList, ((a : Int), ((L : Int), (((Go.Sort.breakStep a L m st idx).1.toNat : Int), ((m : Int), ((idx + 1 : Nat) : Int))))))) else some (.inr st.2.toList) := by
  have q4 : iQuo .i64 (L : Int) 4 = ((L / 4 : Nat) : Int) := by
    unfold iQuo
    rw [Int.tdiv_eq_ediv_of_nonneg (by omega), wrap_fits (by unfold fits; omega)]
    omega
  have m2 : iMul .i64 ((L / 4 : Nat) : Int) 2 = ((L / 4 * 2 : Nat) : Int) := by rw [mul_n (by omega) (by omega)]; omega
  unfold B168_0
  rw [show oNz 4 = true from rfl, sel_t, q4, m2, addN (by omega) (by omega), add1 (by omega), leN]
  by_cases hc : idx ≤ a + L / 4 * 2 + 1
  · rw [if_pos hc, decide_eq_true hc, sel_t, F192_eq (UInt64.toNat_lt _), let_s]
    dsimp only
    have hx := Go.Sort.xorNextN_lt st.1.toNat (UInt64.toNat_lt _)
    have hsub : iSub .u64 (m : Int) 1 = ((m - 1 : Nat) : Int) := by
      unfold iSub
      rw [show (m : Int) - 1 = ((m - 1 : Nat) : Int) by omega, wrapU, Nat.mod_eq_of_lt]
      show m - 1 < 18446744073709551616
      omega
    have hand : Go.Sort.xorNextN st.1.toNat &&& (m - 1) ≤ m - 1 := Nat.and_le_right
    rw [hsub, andU hx (by show m - 1 < 18446744073709551616; omega), cv_n (by omega) (by omega), leN]
    have hst : Go.Sort.breakStep a L m st idx = (Go.Sort.xorNext st.1, Go.Sort.swp st.2 idx (a + (if (Go.Sort.xorNext st.1).toNat &&& (m - 1) ≥ L then ((Go.Sort.xorNext st.1).toNat &&& (m - 1)) - L else (Go.Sort.xorNext st.1).toNat &&& (m - 1)))) := rfl
    rw [hst, Go.Sort.xorNext_toNat]
    generalize Go.Sort.xorNextN st.1.toNat &&& (m - 1) = o at *
    have fin : ∀ o' : Nat, o' < L → (sel (oIn (iAdd .i64 (a : Int) (o' : Int)) (lLen st.2.toList)) (sel (oIn (idx : Int) (lLen st.2.toList)) (sel (oIn (idx : Int) (lLen st.2.toList)) (sel (oIn (iAdd .i64 (a : Int) (o' : Int)) (lLen (lSet st.2.toList (idx : Int) (lAt st.2.toList (iAdd .i64 (a : Int) (o' : Int)))))) (some (.inl ((lSet (lSet st.2.toList (idx : Int) (lAt st.2.toList (iAdd .i64 (a : Int) (o' : Int)))) (iAdd .i64 (a : Int) (o' : Int)) (lAt st.2.toList (idx : Int))), ((a : Int), ((L : Int), (((Go.Sort.xorNextN st.1.toNat : Nat) : Int), ((m : Int), iAdd .i64 (idx : Int) 1)))))) : Option (P6c ⊕ List PG)) none) none) none) none) = some (.inl ((Go.Sort.swp st.2 idx (a + o')).toList, ((a : Int), ((L : Int), (((Go.Sort.xorNextN st.1.toNat : Nat) : Int), ((m : Int), ((idx + 1 : Nat) : Int))))))) := fun o' ho => by
      rw [addN (by omega) (by omega), oin_d (by omega), oin_d (by omega), at_d, at_d, oin_s (by omega), sel_t, sel_t, sel_t, sel_t, swp_d, add1 (by omega)]
    by_cases ho : o ≥ L
    · rw [if_pos ho, decide_eq_true (by omega), sel_t, subN (by omega) (by omega)]
      exact fin (o - L) (by omega)
    · rw [if_neg ho, decide_eq_false (by omega), sel_f]
      exact fin o (by omega)
  · rw [if_neg hc, decide_eq_false hc, sel_f]
theorem bs_size {a L m idx : Nat} {st : UInt64 × PA} : (Go.Sort.breakStep a L m st idx).2.size = st.2.size := Go.Sort.size_swp _ _ _
theorem F168_eq {a b : Nat} {d : PA} (hab : a ≤ b) (hb : b ≤ d.size) (hd : d.size ≤ 200) : F168 d.toList a b = some (Go.Sort.breakPatterns d a b).toList := by
  unfold F168 Go.Sort.breakPatterns
  rw [subN hab (by omega)]
  dsimp only
  by_cases h8 : b - a ≥ 8
  · rw [if_pos h8, iLe_y (by omega), sel_t, (bitsL (n := b - a) (by omega)).2, bnd_s, show oNz 4 = true from rfl, sel_t]
    have q4 : iQuo .i64 ((b - a : Nat) : Int) 4 = (((b - a) / 4 : Nat) : Int) := by
      unfold iQuo
      rw [Int.tdiv_eq_ediv_of_nonneg (by omega), wrap_fits (by unfold fits; omega)]
      omega
    have m2 : iMul .i64 (((b - a) / 4 : Nat) : Int) 2 = (((b - a) / 4 * 2 : Nat) : Int) := by rw [mul_n (by omega) (by omega)]; omega
    have hcv : iCv .u64 ((b - a : Nat) : Int) = (((UInt64.ofNat (b - a)).toNat : Nat) : Int) := by
      unfold iCv
      rw [wrapU]
      rfl
    rw [q4, m2, addN (by omega) (by omega), sub1 (by omega) (by omega), hcv]
    have hm := Go.Sort.two_pow_bitsLen_le (n := b - a) (by omega)
    have hm2 : 1 <<< Go.Sort.bitsLen (b - a) = 2 ^ Go.Sort.bitsLen (b - a) := by rw [Nat.shiftLeft_eq, Nat.one_mul]
    have hp : 1 ≤ 2 ^ Go.Sort.bitsLen (b - a) := Nat.one_le_two_pow
    rw [← hm2] at hm hp
    generalize 1 <<< Go.Sort.bitsLen (b - a) = m at *
    have run : iter (fun (x : P6c) => (B168_0 x.1 x.2.1 x.2.2.1 x.2.2.2.1 x.2.2.2.2.1 x.2.2.2.2.2)) fuel (d.toList, ((a : Int), (((b - a : Nat) : Int), ((((UInt64.ofNat (b - a)).toNat : Nat) : Int), ((m : Int), ((a + (b - a) / 4 * 2 - 1 : Nat) : Int)))))) = some (Go.Sort.breakStep a (b - a) m (Go.Sort.breakStep a (b - a) m (Go.Sort.breakStep a (b - a) m (UInt64.ofNat (b - a), d) (a + (b - a) / 4 * 2 - 1)) (a + (b - a) / 4 * 2 - 1 + 1)) (a + (b - a) / 4 * 2 - 1 + 2)).2.toList := by
      generalize hi : a + (b - a) / 4 * 2 - 1 = i
      generalize hs1 : Go.Sort.breakStep a (b - a) m (UInt64.ofNat (b - a), d) i = s1
      have z1 : s1.2.size = d.size := by rw [← hs1]; exact bs_size
      generalize hs2 : Go.Sort.breakStep a (b - a) m s1 (i + 1) = s2
      have z2 : s2.2.size = d.size := by rw [← hs2, bs_size, z1]
      generalize hs3 : Go.Sort.breakStep a (b - a) m s2 (i + 2) = s3
      have z3 : s3.2.size = d.size := by rw [← hs3, bs_size, z2]
      have b0 := b1680 (a := a) (L := b - a) (m := m) (idx := i) (st := (UInt64.ofNat (b - a), d)) h8 (by dsimp only; omega) hd hp hm (by omega)
      have b1 := b1680 (a := a) (L := b - a) (m := m) (idx := i + 1) (st := s1) h8 (by omega) (by omega) hp hm (by omega)
      have b2 := b1680 (a := a) (L := b - a) (m := m) (idx := i + 2) (st := s2) h8 (by omega) (by omega) hp hm (by omega)
      have b3 := b1680 (a := a) (L := b - a) (m := m) (idx := i + 3) (st := s3) h8 (by omega) (by omega) hp hm (by omega)
      rw [if_pos (by omega), hs1] at b0
      rw [if_pos (by omega), hs2] at b1
      rw [if_pos (by omega), hs3] at b2
      rw [if_neg (by omega)] at b3
      show iter _ (9999996 + 1 + 1 + 1 + 1) _ = _
      rw [iter_s (x := (d.toList, ((a : Int), (((b - a : Nat) : Int), ((((UInt64.ofNat (b - a)).toNat : Nat) : Int), ((m : Int), (i : Int))))))) (B := fun (x : P6c) => (B168_0 x.1 x.2.1 x.2.2.1 x.2.2.2.1 x.2.2.2.2.1 x.2.2.2.2.2)) b0]
      rw [iter_s (x := (s1.2.toList, ((a : Int), (((b - a : Nat) : Int), ((s1.1.toNat : Int), ((m : Int), ((i + 1 : Nat) : Int))))))) (B := fun (x : P6c) => (B168_0 x.1 x.2.1 x.2.2.1 x.2.2.2.1 x.2.2.2.2.1 x.2.2.2.2.2)) b1]
      rw [iter_s (x := (s2.2.toList, ((a : Int), (((b - a : Nat) : Int), ((s2.1.toNat : Int), ((m : Int), ((i + 2 : Nat) : Int))))))) (B := fun (x : P6c) => (B168_0 x.1 x.2.1 x.2.2.1 x.2.2.2.1 x.2.2.2.2.1 x.2.2.2.2.2)) b2]
      exact iter_e b3
    show bndS (iter _ fuel _) _ = _
    rw [run, bnd_s]
  · rw [if_neg h8, iLe_f (by omega), sel_f]
theorem bp_size {a b : Nat} {d : PA} (hab : a ≤ b) (hb : b ≤ d.size) : (Go.Sort.breakPatterns d a b).size = d.size := (Go.Sort.breakPatterns_holds d a b hab hb).1
theorem fix_size {a b i : Nat} {d : PA} : (Go.Sort.fixUp ltP b i (Go.Sort.fixDown ltP a i d)).size = d.size := by
  unfold Go.Sort.fixUp Go.Sort.fixDown
  split <;> split <;> simp only [su_size _ _ _ rfl, sd_size]
theorem pins_size {a b : Nat} : ∀ (s i : Nat) (d : PA), (Go.Sort.partialIns ltP a b s i d).1.size = d.size
  | 0, _, _ => rfl
  | s + 1, i, d => by
    rw [Go.Sort.partialIns_succ]
    split
    · rfl
    · split
      · rfl
      · rw [pins_size s, fix_size, Go.Sort.size_swp]
end Go.Proofs.YtiddpfhpmodfbaaGreatDoor.K
end

section
set_option linter.unusedVariables false
set_option linter.unusedSimpArgs false
set_option linter.unnecessarySimpa false
open Go Go.Ev
namespace Go.Proofs.YtiddpfhpmodfbaaGreatDoor.K
abbrev P7 := (List PG) × (Int × (Int × (Int × (Bool × Bool))))
abbrev FnT := List PG → Int → Int → Int → Option (List PG)
noncomputable def tailB (Fn : FnT) (l : List PG) (a b pv lim : Int) (wb wp : Bool) : Option (P7 ⊕ List PG) :=
  sel (bOr (oIn (iSub .i64 a 1) (lLen l)) (bNot (iLt 0 a))) (
  sel (bOr (oIn pv (lLen l)) (bNot (iLt 0 a))) (
  sel (bOr (okS (F63 (lAt l (iSub .i64 a 1)) (lAt l pv))) (bNot (iLt 0 a))) (
  letS (valS (F63 (lAt l (iSub .i64 a 1)) (lAt l pv)) 0) fun y44 =>
  sel (bAnd (iLt 0 a) (bNot (iLt y44 0)))
    (bndS (F172 l a b pv) fun y48 =>
    some (.inl (y48.1, (y48.2, (b, (lim, (wb, wp)))))))
    (bndS (F173 l a b pv) fun y45 =>
    sel (oNz 8) (
    sel (iLt (iSub .i64 y45.2.1 a) (iSub .i64 b y45.2.1))
      (bndS (Fn y45.1 a y45.2.1 lim) fun y47 =>
      some (.inl (y47, ((iAdd .i64 y45.2.1 1), (b, (lim, ((iLe (iQuo .i64 (iSub .i64 b a) 8) (iSub .i64 y45.2.1 a)), y45.2.2)))))))
      (bndS (Fn y45.1 (iAdd .i64 y45.2.1 1) b lim) fun y46 =>
      some (.inl (y46, (a, (y45.2.1, (lim, ((iLe (iQuo .i64 (iSub .i64 b a) 8) (iSub .i64 b y45.2.1)), y45.2.2)))))))) none)) none) none) none
noncomputable def midB (Fn : FnT) (l : List PG) (a b lim : Int) (wb wp : Bool) : Option (P7 ⊕ List PG) :=
  bndS (F169 l a b) fun y25 =>
  sel (iEq y25.2.2 2)
    (bndS (F170 y25.1 a b) fun y37 =>
    sel (bAnd (bAnd wb wp) true)
      (bndS (F171 y37 a b) fun y43 =>
      sel y43.2
        (some (.inr y43.1))
        (tailB Fn y43.1 a b (iSub .i64 (iSub .i64 b 1) (iSub .i64 y25.2.1 a)) lim wb wp))
      (tailB Fn y37 a b (iSub .i64 (iSub .i64 b 1) (iSub .i64 y25.2.1 a)) lim wb wp))
    (sel (bAnd (bAnd wb wp) (iEq y25.2.2 1))
      (bndS (F171 y25.1 a b) fun y43 =>
      sel y43.2
        (some (.inr y43.1))
        (tailB Fn y43.1 a b y25.2.1 lim wb wp))
      (tailB Fn y25.1 a b y25.2.1 lim wb wp))
noncomputable def pdqB (Fn : FnT) (l : List PG) (a b lim : Int) (wb wp : Bool) : Option (P7 ⊕ List PG) :=
  sel (iLe (iSub .i64 b a) 12)
    (bndS (F166 l a b) fun y => some (.inr y))
    (sel (iEq lim 0)
      (bndS (F167 l a b) fun y => some (.inr y))
      (sel (bNot wb)
        (bndS (F168 l a b) fun y24 => midB Fn y24 a b (iSub .i64 lim 1) wb wp)
        (midB Fn l a b lim wb wp)))
theorem pl5 : B125_0 = pdqB (fun _ _ _ _ => none) := by kernel_rfl
theorem pl4 : B125_0_1 = pdqB F125r5 := by kernel_rfl
theorem pl3 : B125_0_2 = pdqB F125r4 := by kernel_rfl
theorem pl2 : B125_0_3 = pdqB F125r3 := by kernel_rfl
theorem pl1 : B125_0_4 = pdqB F125r2 := by kernel_rfl
theorem pl0 : B125_0_5 = pdqB F125r1 := by kernel_rfl
theorem tail_eq {Fn : FnT} {D : PA} {a b pv lim : Nat} {wb wp : Bool} (h1 : a ≤ pv) (h2 : pv < b) (hb : b ≤ D.size) (hd : D.size ≤ 200) :
    tailB Fn D.toList a b pv lim wb wp = if (decide (a > 0) && !ltP D[a - 1]! D[pv]!) = true then some (.inl ((Go.Sort.partitionEqual ltP D a b pv).2.toList, (((Go.Sort.partitionEqual ltP D a b pv).1 : Int), ((b : Int), ((lim : Int), (wb, wp)))))) else
      (if (Go.Sort.partition ltP D a b pv).1 - a < b - (Go.Sort.partition ltP D a b pv).1 then
        bndS (Fn (Go.Sort.partition ltP D a b pv).2.2.toList a ((Go.Sort.partition ltP D a b pv).1 : Int) lim) fun y => some (.inl (y, ((((Go.Sort.partition ltP D a b pv).1 + 1 : Nat) : Int), ((b : Int), ((lim : Int), (decide ((Go.Sort.partition ltP D a b pv).1 - a ≥ (b - a) / 8), (Go.Sort.partition ltP D a b pv).2.1))))))
      else bndS (Fn (Go.Sort.partition ltP D a b pv).2.2.toList ((((Go.Sort.partition ltP D a b pv).1 + 1 : Nat) : Int)) b lim) fun y => some (.inl (y, ((a : Int), (((Go.Sort.partition ltP D a b pv).1 : Int), ((lim : Int), (decide (b - (Go.Sort.partition ltP D a b pv).1 ≥ (b - a) / 8), (Go.Sort.partition ltP D a b pv).2.1))))))) := by
  have hp := Go.Sort.partition_holds ltP swoP D a b pv h1 h2 hb
  have q8 : iQuo .i64 ((b - a : Nat) : Int) 8 = (((b - a) / 8 : Nat) : Int) := by
    unfold iQuo
    rw [Int.tdiv_eq_ediv_of_nonneg (by omega), wrap_fits (by unfold fits; omega)]
    omega
  unfold tailB
  rw [gcmp]
  · rw [vF_lt, not_b, and_b, show iLt 0 (a : Int) = decide (a > 0) from ltN 0 a, at_d]
    by_cases hc : (decide (a > 0) && !ltP D[a - 1]! D[pv]!) = true
    · have ha : a > 0 := by rw [Bool.and_eq_true, decide_eq_true_eq] at hc; exact hc.1
      rw [sub1 (by omega) (by omega), at_d, if_pos hc, hc, sel_t, F172_eq h1 h2 hb (by omega), bnd_s]
    · rw [if_neg hc]
      have hc' : (decide (a > 0) && !ltP (lAt D.toList (iSub .i64 (a : Int) 1)) D[pv]!) = false := by
        by_cases ha : a > 0
        · rw [sub1 (by omega) (by omega), at_d]; exact eq_false_of_ne_true hc
        · rw [decide_eq_false ha]; rfl
      rw [hc', sel_f, F173_eq h1 h2 hb (by omega), bnd_s]
      generalize Go.Sort.partition ltP D a b pv = r at *
      obtain ⟨m, ap, e⟩ := r
      dsimp only at hp ⊢
      have hm1 := hp.1
      have hm2 := hp.2.1
      rw [show oNz 8 = true from rfl, sel_t, subN (a := m) (b := a) hm1 (by omega), subN (a := b) (b := m) (by omega) (by omega), subN (a := b) (b := a) (by omega) (by omega), q8, ltN, leN, leN, add1 (by omega)]
      by_cases hl : m - a < b - m
      · rw [if_pos hl, decide_eq_true hl, sel_t]
      · rw [if_neg hl, decide_eq_false hl, sel_f]
  · refine or_imp fun h => ?_
    rw [show iLt 0 (a : Int) = decide (a > 0) from ltN 0 a, decide_eq_true_eq] at h
    rw [sub1 (by omega) (by omega)]
    exact oin_d (by omega)
  · exact or_imp fun _ => oin_d (by omega)
theorem hN_two (h : Go.Sort.Hint) : iEq (hN h) 2 = decide (h = .decreasing) := by cases h <;> rfl
theorem hN_one (h : Go.Sort.Hint) : iEq (hN h) 1 = decide (h = .increasing) := by cases h <;> rfl
theorem mid_eq2 {Fn : FnT} {d1 : PA} {a b lim : Nat} {wb wp : Bool} (h1 : a < b) (hb : b ≤ d1.size) (hd : d1.size ≤ 200) :
    ∀ (c : Nat × Go.Sort.Hint) (d2 : PA) (pv : Nat) (hint : Go.Sort.Hint) (pi : PA × Bool), c = Go.Sort.choosePivot ltP d1 a b → d2 = (if c.2 = .decreasing then Go.Sort.reverseRange d1 a b else d1) → pv = (if c.2 = .decreasing then (b - 1) - (c.1 - a) else c.1) → hint = (if c.2 = .decreasing then Go.Sort.Hint.increasing else c.2) → pi = (if (wb && wp && decide (hint = .increasing)) = true then Go.Sort.partialInsertionSort ltP d2 a b else (d2, false)) →
    midB Fn d1.toList a b lim wb wp = if pi.2 = true then some (.inr pi.1.toList) else tailB Fn pi.1.toList a b pv lim wb wp := by
  intro c d2 pv hint pi hc hd2 hpv hhint hpi
  have hcr := Go.Sort.choosePivot_holds ltP d1 a b h1
  rw [← hc] at hcr
  unfold midB
  rw [F169_eq h1 hb (by omega), bnd_s, ← hc]
  dsimp only
  rw [hN_two, hN_one]
  by_cases hdec : c.2 = .decreasing
  · rw [if_pos hdec] at hd2 hpv hhint
    have hs : d2.size = d1.size := by rw [hd2]; exact (Go.Sort.reverseRange_holds d1 a b (by omega) hb).1
    rw [decide_eq_true hdec, sel_t, F170_eq h1 hb (by omega), bnd_s, ← hd2, sub1 (by omega) (by omega), subN (by omega) (by omega), subN (by omega) (by omega), ← hpv]
    rw [hhint, decide_eq_true rfl] at hpi
    rw [and_b, and_b]
    by_cases hw : (wb && wp && true) = true
    · rw [if_pos hw] at hpi
      rw [hw, sel_t, F171_eq h1 (by omega) (by omega), bnd_s, ← hpi]
      dsimp only
      cases h5 : pi.2 with
      | true => rw [sel_t, if_pos rfl]
      | false => rw [sel_f, if_neg (by decide)]
    · rw [if_neg hw] at hpi
      rw [eq_false_of_ne_true hw, sel_f, hpi, if_neg (fun h5 => Bool.false_ne_true h5)]
  · rw [if_neg hdec] at hd2 hpv hhint
    rw [decide_eq_false hdec, sel_f, ← hd2]
    have hs : d2.size = d1.size := by rw [hd2]
    rw [hhint] at hpi
    rw [and_b, and_b, ← hpv]
    by_cases hw : (wb && wp && decide (c.2 = .increasing)) = true
    · rw [if_pos hw] at hpi
      rw [hw, sel_t, F171_eq h1 (by omega) (by omega), bnd_s, ← hpi]
      dsimp only
      cases h5 : pi.2 with
      | true => rw [sel_t, if_pos rfl]
      | false => rw [sel_f, if_neg (by decide)]
    · rw [if_neg hw] at hpi
      rw [eq_false_of_ne_true hw, sel_f, hpi, if_neg (fun h5 => Bool.false_ne_true h5)]
theorem pi_size {a b : Nat} {d2 : PA} {c : Bool} {pi : PA × Bool} (hpi : pi = (if c = true then Go.Sort.partialInsertionSort ltP d2 a b else (d2, false))) : pi.1.size = d2.size := by
  rw [hpi]
  split
  · exact pins_size _ _ _
  · rfl
theorem pdq_run {Fn : FnT} {dep : Nat} (hF : ∀ (d : PA) (a b lim : Nat), a ≤ b → b ≤ d.size → d.size ≤ 200 → lim ≤ 100 → Go.Sort.pdqDepth ltP d a b lim true true + 1 ≤ dep → Fn d.toList a b lim = some (Go.Sort.pdq ltP d a b lim true true).toList ∧ (Go.Sort.pdq ltP d a b lim true true).size = d.size) :
    ∀ (k : Nat) (d : PA) (a b lim : Nat) (wb wp : Bool) (n : Nat), b - a ≤ k → a ≤ b → b ≤ d.size → d.size ≤ 200 → lim ≤ 100 → Go.Sort.pdqDepth ltP d a b lim wb wp ≤ dep → k < n → iter (fun (x : P7) => pdqB Fn x.1 x.2.1 x.2.2.1 x.2.2.2.1 x.2.2.2.2.1 x.2.2.2.2.2) n (d.toList, ((a : Int), ((b : Int), ((lim : Int), (wb, wp))))) = some (Go.Sort.pdq ltP d a b lim wb wp).toList ∧ (Go.Sort.pdq ltP d a b lim wb wp).size = d.size := by
  intro k
  induction k with
  | zero =>
    intro d a b lim wb wp n hk hab hb hd hl hdp hn
    obtain ⟨n, rfl⟩ : ∃ q, n = q + 1 := ⟨n - 1, by omega⟩
    rw [Go.Sort.pdq_small (by omega)]
    refine ⟨iter_e ?_, (Go.Sort.insertionSort_holds swoP d a b hab hb).1.1⟩
    show pdqB Fn d.toList a b lim wb wp = _
    unfold pdqB
    rw [subN hab (by omega), iLe_y (by omega), sel_t, F166_eq hb (by omega) (by omega), bnd_s]
  | succ k ih =>
    intro d a b lim wb wp n hk hab hb hd hl hdp hn
    obtain ⟨n, rfl⟩ : ∃ q, n = q + 1 := ⟨n - 1, by omega⟩
    by_cases h12 : b - a ≤ 12
    · rw [Go.Sort.pdq_small h12]
      refine ⟨iter_e ?_, (Go.Sort.insertionSort_holds swoP d a b hab hb).1.1⟩
      show pdqB Fn d.toList a b lim wb wp = _
      unfold pdqB
      rw [subN hab (by omega), iLe_y (by omega), sel_t, F166_eq hb (by omega) (by omega), bnd_s]
    by_cases h0 : lim = 0
    · rw [Go.Sort.pdq_heap h12 h0]
      refine ⟨iter_e ?_, (Go.Sort.heapSort_holds swoP d a b hab hb).1.1⟩
      show pdqB Fn d.toList a b lim wb wp = _
      unfold pdqB
      rw [subN hab (by omega), iLe_f (by omega), sel_f, iEq_y (by omega), sel_t, F167_eq (by omega) hb (by omega), bnd_s]
    -- the round's own values
    have hB : pdqB Fn d.toList a b lim wb wp = if (Go.Sort.rd ltP d a b lim wb wp).pi.2 = true then some (.inr (Go.Sort.rd ltP d a b lim wb wp).pi.1.toList) else tailB Fn (Go.Sort.rd ltP d a b lim wb wp).pi.1.toList a b (Go.Sort.rd ltP d a b lim wb wp).pivot (Go.Sort.rd ltP d a b lim wb wp).lim wb wp := by
      unfold pdqB
      rw [subN hab (by omega), iLe_f (by omega), sel_f, iEq_f (by omega), sel_f]
      cases wb with
      | true =>
        rw [nt, sel_f]
        exact mid_eq2 (Fn := Fn) (d1 := d) (a := a) (b := b) (lim := lim) (wb := true) (wp := wp) (by omega) hb hd _ _ _ _ _ rfl rfl rfl rfl rfl
      | false =>
        rw [nf, sel_t, F168_eq hab hb hd, bnd_s, sub1 (by omega) (by omega)]
        exact mid_eq2 (Fn := Fn) (d1 := Go.Sort.breakPatterns d a b) (a := a) (b := b) (lim := lim - 1) (wb := false) (wp := wp) (by omega) (by rw [bp_size hab hb]; exact hb) (by rw [bp_size hab hb]; exact hd) _ _ _ _ _ rfl rfl rfl rfl rfl
    have hsz : (Go.Sort.rd ltP d a b lim wb wp).pi.1.size = d.size := by
      have hd1 : (Go.Sort.rd ltP d a b lim wb wp).d1.size = d.size := by
        cases wb
        · exact bp_size hab hb
        · rfl
      have hd2 : (Go.Sort.rd ltP d a b lim wb wp).d2.size = (Go.Sort.rd ltP d a b lim wb wp).d1.size := by
        by_cases hh : (Go.Sort.rd ltP d a b lim wb wp).c.2 = .decreasing
        · rw [(Go.Sort.rd_dec hh).1]
          exact (Go.Sort.reverseRange_holds _ a b hab (by rw [hd1]; exact hb)).1
        · rw [(Go.Sort.rd_not hh).1]
      have hpi := pi_size (a := a) (b := b) (d2 := (Go.Sort.rd ltP d a b lim wb wp).d2) (c := wb && wp && decide ((Go.Sort.rd ltP d a b lim wb wp).hint = .increasing)) (pi := (Go.Sort.rd ltP d a b lim wb wp).pi) rfl
      rw [hpi, hd2, hd1]
    have hpv : a ≤ (Go.Sort.rd ltP d a b lim wb wp).pivot ∧ (Go.Sort.rd ltP d a b lim wb wp).pivot < b := by
      have hcr := Go.Sort.choosePivot_holds ltP (Go.Sort.rd ltP d a b lim wb wp).d1 a b (by omega)
      rw [← Go.Sort.rd_c] at hcr
      by_cases hh : (Go.Sort.rd ltP d a b lim wb wp).c.2 = .decreasing
      · rw [(Go.Sort.rd_dec hh).2.1]; omega
      · rw [(Go.Sort.rd_not hh).2.1]; exact hcr
    have hlim : (Go.Sort.rd ltP d a b lim wb wp).lim ≤ lim := Go.Sort.rd_lim_le
    by_cases hdone : (Go.Sort.rd ltP d a b lim wb wp).pi.2 = true
    · rw [Go.Sort.pdq_done h12 h0 hdone]
      rw [if_pos hdone] at hB
      exact ⟨iter_e hB, hsz⟩
    have hdone' : (Go.Sort.rd ltP d a b lim wb wp).pi.2 = false := eq_false_of_ne_true hdone
    rw [if_neg hdone, tail_eq hpv.1 hpv.2 (by omega) (by omega)] at hB
    by_cases hc : (decide (a > 0) && !ltP (Go.Sort.rd ltP d a b lim wb wp).pi.1[a - 1]! (Go.Sort.rd ltP d a b lim wb wp).pi.1[(Go.Sort.rd ltP d a b lim wb wp).pivot]!) = true
    · rw [if_pos hc] at hB
      have hsw := Go.Sort.size_swp (Go.Sort.rd ltP d a b lim wb wp).pi.1 a (Go.Sort.rd ltP d a b lim wb wp).pivot
      obtain ⟨g1, g2, g3, _⟩ := Go.Sort.partEqLoop_spec ltP a b (b - 1 + 1 - (a + 1)) (a + 1) (b - 1) (Go.Sort.swp (Go.Sort.rd ltP d a b lim wb wp).pi.1 a (Go.Sort.rd ltP d a b lim wb wp).pivot) (Nat.le_refl _) (by omega) (by omega) (by omega) (by omega) (fun t h1 h2 => by omega) (fun t h1 h2 => by omega)
      have hg : a < (Go.Sort.partitionEqual ltP (Go.Sort.rd ltP d a b lim wb wp).pi.1 a b (Go.Sort.rd ltP d a b lim wb wp).pivot).1 ∧ (Go.Sort.partitionEqual ltP (Go.Sort.rd ltP d a b lim wb wp).pi.1 a b (Go.Sort.rd ltP d a b lim wb wp).pivot).1 ≤ b := ⟨g1, g2⟩
      have hes : (Go.Sort.partitionEqual ltP (Go.Sort.rd ltP d a b lim wb wp).pi.1 a b (Go.Sort.rd ltP d a b lim wb wp).pivot).2.size = d.size := by
        show (Go.Sort.partEqLoop ltP a (a + 1) (b - 1) _).2.size = _
        rw [g3.1, hsw, hsz]
      have hdq := Go.Sort.pdqDepth_eq h12 h0 hdone' hc hg
      rw [Go.Sort.pdq_eq h12 h0 hdone' hc hg]
      rw [hdq] at hdp
      have hr := ih (Go.Sort.partitionEqual ltP (Go.Sort.rd ltP d a b lim wb wp).pi.1 a b (Go.Sort.rd ltP d a b lim wb wp).pivot).2 (Go.Sort.partitionEqual ltP (Go.Sort.rd ltP d a b lim wb wp).pi.1 a b (Go.Sort.rd ltP d a b lim wb wp).pivot).1 b (Go.Sort.rd ltP d a b lim wb wp).lim wb wp n (by omega) (by omega) (by omega) (by omega) (by omega) hdp (by omega)
      rw [iter_s (x := (d.toList, ((a : Int), ((b : Int), ((lim : Int), (wb, wp)))))) (B := fun (x : P7) => pdqB Fn x.1 x.2.1 x.2.2.1 x.2.2.2.1 x.2.2.2.2.1 x.2.2.2.2.2) hB]
      exact ⟨hr.1, by rw [hr.2, hes]⟩
    · rw [if_neg hc] at hB
      have hc' := eq_false_of_ne_true hc
      have hp := Go.Sort.partition_holds ltP swoP (Go.Sort.rd ltP d a b lim wb wp).pi.1 a b (Go.Sort.rd ltP d a b lim wb wp).pivot hpv.1 hpv.2 (by omega)
      have hg : a ≤ (Go.Sort.partition ltP (Go.Sort.rd ltP d a b lim wb wp).pi.1 a b (Go.Sort.rd ltP d a b lim wb wp).pivot).1 ∧ (Go.Sort.partition ltP (Go.Sort.rd ltP d a b lim wb wp).pi.1 a b (Go.Sort.rd ltP d a b lim wb wp).pivot).1 < b := ⟨hp.1, hp.2.1⟩
      have hes : (Go.Sort.partition ltP (Go.Sort.rd ltP d a b lim wb wp).pi.1 a b (Go.Sort.rd ltP d a b lim wb wp).pivot).2.2.size = d.size := by rw [hp.2.2.1.1, hsz]
      by_cases hl4 : (Go.Sort.partition ltP (Go.Sort.rd ltP d a b lim wb wp).pi.1 a b (Go.Sort.rd ltP d a b lim wb wp).pivot).1 - a < b - (Go.Sort.partition ltP (Go.Sort.rd ltP d a b lim wb wp).pi.1 a b (Go.Sort.rd ltP d a b lim wb wp).pivot).1
      · rw [if_pos hl4] at hB
        obtain ⟨q1, q2⟩ := Go.Sort.pdqDepth_left h12 h0 hdone' hc' hg hl4
        rw [Go.Sort.pdq_left h12 h0 hdone' hc' hg hl4]
        generalize Go.Sort.partition ltP (Go.Sort.rd ltP d a b lim wb wp).pi.1 a b (Go.Sort.rd ltP d a b lim wb wp).pivot = r at *
        obtain ⟨m, ap, e⟩ := r
        dsimp only at hg hes hl4 q1 q2 hB ⊢
        obtain ⟨f1, f2⟩ := hF e a m (Go.Sort.rd ltP d a b lim wb wp).lim hg.1 (by omega) (by omega) (by omega) (by omega)
        rw [f1, bnd_s] at hB
        rw [iter_s (x := (d.toList, ((a : Int), ((b : Int), ((lim : Int), (wb, wp)))))) (B := fun (x : P7) => pdqB Fn x.1 x.2.1 x.2.2.1 x.2.2.2.1 x.2.2.2.2.1 x.2.2.2.2.2) hB]
        have hr := ih (Go.Sort.pdq ltP e a m (Go.Sort.rd ltP d a b lim wb wp).lim true true) (m + 1) b (Go.Sort.rd ltP d a b lim wb wp).lim (decide (m - a ≥ (b - a) / 8)) ap n (by omega) (by omega) (by omega) (by omega) (by omega) (by omega) (by omega)
        exact ⟨hr.1, by rw [hr.2, f2, hes]⟩
      · rw [if_neg hl4] at hB
        obtain ⟨q1, q2⟩ := Go.Sort.pdqDepth_right h12 h0 hdone' hc' hg hl4
        rw [Go.Sort.pdq_right h12 h0 hdone' hc' hg hl4]
        generalize Go.Sort.partition ltP (Go.Sort.rd ltP d a b lim wb wp).pi.1 a b (Go.Sort.rd ltP d a b lim wb wp).pivot = r at *
        obtain ⟨m, ap, e⟩ := r
        dsimp only at hg hes hl4 q1 q2 hB ⊢
        obtain ⟨f1, f2⟩ := hF e (m + 1) b (Go.Sort.rd ltP d a b lim wb wp).lim (by omega) (by omega) (by omega) (by omega) (by omega)
        rw [f1, bnd_s] at hB
        rw [iter_s (x := (d.toList, ((a : Int), ((b : Int), ((lim : Int), (wb, wp)))))) (B := fun (x : P7) => pdqB Fn x.1 x.2.1 x.2.2.1 x.2.2.2.1 x.2.2.2.2.1 x.2.2.2.2.2) hB]
        have hr := ih (Go.Sort.pdq ltP e (m + 1) b (Go.Sort.rd ltP d a b lim wb wp).lim true true) a m (Go.Sort.rd ltP d a b lim wb wp).lim (decide (b - m ≥ (b - a) / 8)) ap n (by omega) (by omega) (by omega) (by omega) (by omega) (by omega) (by omega)
        exact ⟨hr.1, by rw [hr.2, f2, hes]⟩
def lvl (Fn : FnT) (dep : Nat) : Prop := ∀ (d : PA) (a b lim : Nat), a ≤ b → b ≤ d.size → d.size ≤ 200 → lim ≤ 100 → Go.Sort.pdqDepth ltP d a b lim true true ≤ dep → Fn d.toList a b lim = some (Go.Sort.pdq ltP d a b lim true true).toList ∧ (Go.Sort.pdq ltP d a b lim true true).size = d.size
theorem lvl0 : lvl F125r5 0 := by
  intro d a b lim h1 h2 h3 h4 h5
  have hr := pdq_run (Fn := (fun _ _ _ _ => none)) (dep := 0) (fun d a b lim _ _ _ _ h => by omega) (b - a) d a b lim true true fuel (Nat.le_refl _) h1 h2 h3 h4 h5 (by unfold fuel; omega)
  refine ⟨?_, hr.2⟩
  unfold F125r5
  have hL : L125_0 (d.toList, ((a : Int), ((b : Int), ((lim : Int), (true, true))))) = some (Go.Sort.pdq ltP d a b lim true true).toList := by
    unfold L125_0
    rw [pl5]
    exact hr.1
  rw [hL]
  rfl
theorem lvl1 : lvl F125r4 1 := by
  intro d a b lim h1 h2 h3 h4 h5
  have hr := pdq_run (Fn := F125r5) (dep := 1) (fun d a b lim h1 h2 h3 h4 h5 => lvl0 d a b lim h1 h2 h3 h4 (by omega)) (b - a) d a b lim true true fuel (Nat.le_refl _) h1 h2 h3 h4 h5 (by unfold fuel; omega)
  refine ⟨?_, hr.2⟩
  unfold F125r4
  have hL : L125_0_1 (d.toList, ((a : Int), ((b : Int), ((lim : Int), (true, true))))) = some (Go.Sort.pdq ltP d a b lim true true).toList := by
    unfold L125_0_1
    rw [pl4]
    exact hr.1
  rw [hL]
  rfl
theorem lvl2 : lvl F125r3 2 := by
  intro d a b lim h1 h2 h3 h4 h5
  have hr := pdq_run (Fn := F125r4) (dep := 2) (fun d a b lim h1 h2 h3 h4 h5 => lvl1 d a b lim h1 h2 h3 h4 (by omega)) (b - a) d a b lim true true fuel (Nat.le_refl _) h1 h2 h3 h4 h5 (by unfold fuel; omega)
  refine ⟨?_, hr.2⟩
  unfold F125r3
  have hL : L125_0_2 (d.toList, ((a : Int), ((b : Int), ((lim : Int), (true, true))))) = some (Go.Sort.pdq ltP d a b lim true true).toList := by
    unfold L125_0_2
    rw [pl3]
    exact hr.1
  rw [hL]
  rfl
theorem lvl3 : lvl F125r2 3 := by
  intro d a b lim h1 h2 h3 h4 h5
  have hr := pdq_run (Fn := F125r3) (dep := 3) (fun d a b lim h1 h2 h3 h4 h5 => lvl2 d a b lim h1 h2 h3 h4 (by omega)) (b - a) d a b lim true true fuel (Nat.le_refl _) h1 h2 h3 h4 h5 (by unfold fuel; omega)
  refine ⟨?_, hr.2⟩
  unfold F125r2
  have hL : L125_0_3 (d.toList, ((a : Int), ((b : Int), ((lim : Int), (true, true))))) = some (Go.Sort.pdq ltP d a b lim true true).toList := by
    unfold L125_0_3
    rw [pl2]
    exact hr.1
  rw [hL]
  rfl
theorem lvl4 : lvl F125r1 4 := by
  intro d a b lim h1 h2 h3 h4 h5
  have hr := pdq_run (Fn := F125r2) (dep := 4) (fun d a b lim h1 h2 h3 h4 h5 => lvl3 d a b lim h1 h2 h3 h4 (by omega)) (b - a) d a b lim true true fuel (Nat.le_refl _) h1 h2 h3 h4 h5 (by unfold fuel; omega)
  refine ⟨?_, hr.2⟩
  unfold F125r1
  have hL : L125_0_4 (d.toList, ((a : Int), ((b : Int), ((lim : Int), (true, true))))) = some (Go.Sort.pdq ltP d a b lim true true).toList := by
    unfold L125_0_4
    rw [pl1]
    exact hr.1
  rw [hL]
  rfl
theorem lvl5 : lvl F125 5 := by
  intro d a b lim h1 h2 h3 h4 h5
  have hr := pdq_run (Fn := F125r1) (dep := 5) (fun d a b lim h1 h2 h3 h4 h5 => lvl4 d a b lim h1 h2 h3 h4 (by omega)) (b - a) d a b lim true true fuel (Nat.le_refl _) h1 h2 h3 h4 h5 (by unfold fuel; omega)
  refine ⟨?_, hr.2⟩
  unfold F125
  have hL : L125_0_5 (d.toList, ((a : Int), ((b : Int), ((lim : Int), (true, true))))) = some (Go.Sort.pdq ltP d a b lim true true).toList := by
    unfold L125_0_5
    rw [pl0]
    exact hr.1
  rw [hL]
  rfl
theorem F71_eq (l : List PG) (hl : l.length ≤ 200) : ∃ q : List PG, F71 l = some q ∧ q.Perm l ∧ q.Pairwise (fun a b => ltP b a = false) := by
  have hsz : l.toArray.size = l.length := by simp
  obtain ⟨e, _⟩ := bitsL (n := l.length) hl
  have hb7 : Go.Sort.bitsLen l.length ≤ 8 := (Go.Sort.bitsLen_le_iff _ _).2 (by omega)
  have hdp : Go.Sort.pdqDepth ltP l.toArray 0 l.length (Go.Sort.bitsLen l.length) true true ≤ 5 := by
    have := Go.Sort.pdqDepth_tight ltP l.toArray 0 l.length (Go.Sort.bitsLen l.length) true true
    rw [Nat.sub_zero] at this
    omega
  obtain ⟨f1, f2⟩ := lvl5 l.toArray 0 l.length (Go.Sort.bitsLen l.length) (by omega) (by omega) (by omega) (by omega) hdp
  obtain ⟨p1, p2⟩ := Go.Sort.pdq_sorts ltP swoP l.toArray 0 l.length (Go.Sort.bitsLen l.length) true true (by omega) (by omega) (Or.inl rfl)
  generalize Go.Sort.pdq ltP l.toArray 0 l.length (Go.Sort.bitsLen l.length) true true = r at *
  refine ⟨r.toList, ?_, ?_, ?_⟩
  · unfold F71
    rw [show lLen l = ((l.length : Nat) : Int) from rfl, e, bnd_s]
    have f1' : F125 l 0 ((l.length : Nat) : Int) ((Go.Sort.bitsLen l.length : Nat) : Int) = some r.toList := f1
    rw [f1', bnd_s]
  · have h3 := p1.2.2
    have e1 : r.extract 0 l.length = r := by rw [← hsz, ← p1.1]; exact Array.extract_size
    have e2 : l.toArray.extract 0 l.length = l.toArray := by rw [← hsz]; exact Array.extract_size
    rw [e1, e2] at h3
    exact h3
  · rw [List.pairwise_iff_getElem]
    intro i j hi hj hij
    have hi' : i < r.size := by simpa using hi
    have hj' : j < r.size := by simpa using hj
    have := p2 i j (by omega) hij (by rw [← hsz, ← p1.1]; exact hj')
    rw [getElem!_pos r j hj', getElem!_pos r i hi'] at this
    simpa using this
end Go.Proofs.YtiddpfhpmodfbaaGreatDoor.K
end

section
set_option linter.unusedVariables false
set_option linter.unusedSimpArgs false
set_option linter.unnecessarySimpa false
open Go Go.Ev
namespace Go.Proofs.YtiddpfhpmodfbaaGreatDoor.K
theorem few_eq (x : SYS) : (fewX x ∧ F18 x = some true) ∨ F18 x = some false := by
  have h1 : lLen x.1.1 = x.1.1.length := rfl
  have h2 : lLen x.2.1 = x.2.1.length := rfl
  have h3 : lLen x.2.2 = x.2.2.length := rfl
  unfold F18
  by_cases hc : x.1.1.length ≤ 12 ∧ x.2.1.length ≤ 14 ∧ x.2.2.length ≤ 100
  rotate_left
  · have w : bOr (bOr (iLt 12 (lLen x.1.1)) (iLt 14 (lLen x.2.1))) (iLt 100 (lLen x.2.2)) = true := by
      rw [or_t, or_t, iLt_t, iLt_t, iLt_t]; omega
    rw [w]
    exact .inr rfl
  rw [iLt_f (by omega), iLt_f (by omega), iLt_f (by omega), or_ff, or_ff, sel_f]
  have hL : (∃ i, i < x.1.1.length ∧ 400 < sLen (lAt x.1.1 (i : Int)).2 ∧ (∀ k, k < i → ¬ 400 < sLen (lAt x.1.1 (k : Int)).2) ∧ L18_0 (osy x, 0) = some (.inr false)) ∨ ((∀ i, i < x.1.1.length → ¬ 400 < sLen (lAt x.1.1 (i : Int)).2) ∧ L18_0 (osy x, 0) = some (Sum.inl ())) := by
    refine iter_first (fun i => (osy x, (i : Int))) (fun i => 400 < sLen (lAt x.1.1 (i : Int)).2) x.1.1.length (fun _ => Sum.inr false) (Sum.inl ()) (by omega) ?_ ?_ ?_
    · intro i hi hp
      show B18_0 x.1.1 x.1.2 x.2.1 x.2.2 i = some (.inl (osy x, ((i + 1 : Nat) : Int)))
      unfold B18_0
      rw [iLt_y (a := (i : Int)) (by omega), sel_t, oIn_y (by omega), sel_t, iLt_f hp, sel_f, add_n (by omega) (by omega)]
      rfl
    · intro i hi hp
      show B18_0 x.1.1 x.1.2 x.2.1 x.2.2 i = _
      unfold B18_0
      rw [iLt_y (a := (i : Int)) (by omega), sel_t, oIn_y (by omega), sel_t, iLt_y hp, sel_t]
    · show B18_0 x.1.1 x.1.2 x.2.1 x.2.2 x.1.1.length = _
      unfold B18_0
      rw [iLt_f (by omega), sel_f]
  show (_ ∧ bndS (L18_0 (osy x, 0)) _ = _) ∨ bndS (L18_0 (osy x, 0)) _ = _
  rcases hL with ⟨i, _, _, _, e⟩ | ⟨h4, e⟩
  · rw [e]; exact .inr rfl
  · rw [e]; exact .inl ⟨⟨⟨hc.1, h4⟩, hc.2⟩, rfl⟩
theorem own_eq {x : SYS} (h : fewX x) : F20 x = some (osy x) := by
  obtain ⟨h1, h2, h3⟩ := h
  unfold F20
  rw [F18_eq x.1 (by have := h1.1; omega), bnd_s, lCap_y (by decide) (by decide) (by omega), sel_t, lCap_y (by decide) (by decide) (by omega), sel_t]
theorem check_two {x : SYS} (h : fewX x) (h2 : fits x.1.2) : ∃ r, F19 x = some r ∧ F21 x = some r ∧ (r.2 = 0 → okX x ∧ r = (0, 0)) := by
  obtain ⟨hf, hd, hl⟩ := h
  unfold F19 F21
  rcases F43_eq x.1 hf h2 with ⟨hok, e1, e2⟩ | ⟨a, c, hc, e1, e2⟩
  rotate_left
  · rw [e1, e2, bnd_s, bnd_s, iEq_f hc, nf, sel_t, sel_t]
    exact ⟨_, rfl, rfl, fun h => absurd h hc⟩
  rw [e1, e2, bnd_s, bnd_s, iEq_y rfl, nt, sel_f, sel_f]
  by_cases h12 : 12 < lLen x.2.1
  · rw [iLt_y h12, sel_t, sel_t]
    exact ⟨_, rfl, rfl, fun h => (by cases h)⟩
  rw [iLt_f h12, sel_f, sel_f]
  have hn : 1 ≤ x.1.2 ∧ x.1.2 ≤ 1001 := ⟨hok.2.1, hok.2.2.1⟩
  show ∃ r, bndS (L19_0 (osy x, (x.2.1, (lLen x.2.1, 0)))) _ = _ ∧ bndS (L21_0 (osy x, 0)) _ = _ ∧ _
  rcases dir_two x (by omega) hn with ⟨i, hi, hp, e3, e4⟩ | ⟨hent, e3, e4⟩
  · rw [e3, e4]
    exact ⟨_, rfl, rfl, fun h => absurd h hp⟩
  rw [e3, e4, bnd_s, bnd_s]
  dsimp only [sumS]
  show ∃ r, bndS (L19_3 (osy x, (x.2.2, (lLen x.2.2, 0)))) _ = _ ∧ _
  rcases lost_two x hf (by omega) with ⟨i, hi, hp, e5, e6⟩ | ⟨hlos, e5, e6⟩
  · rw [e5, e6]
    exact ⟨_, rfl, rfl, fun h => absurd h hp⟩
  · rw [e5, e6]
    refine ⟨_, rfl, rfl, fun _ => ⟨⟨hok, ?_, hent, hlos⟩, rfl⟩⟩
    unfold lLen at h12
    omega
end Go.Proofs.YtiddpfhpmodfbaaGreatDoor.K
end

section
set_option linter.unusedVariables false
set_option linter.unusedSimpArgs false
set_option linter.unnecessarySimpa false
open Go Go.Ev
namespace Go.Proofs.YtiddpfhpmodfbaaGreatDoor.K
theorem F129_eq (l : List (Int × Int)) (a b : ByteArray) (c d e : Int) (f : Bool) (hl : l.length ≤ 1000) : ∃ q, F129 l a b c d e f = some (((a, (b, (c, (d, e)))), f), q) ∧ (q = true ↔ ∃ k, k < l.length ∧ (lAt l (k : Int)).1 = d ∧ (f = true ∨ (lAt l (k : Int)).2 = 0)) := by
  have hll : lLen l = (l.length : Int) := rfl
  have hc : ∀ k : Nat, (bAnd (iEq (lAt l (k : Int)).1 d) (bOr f (iEq (lAt l (k : Int)).2 0)) = true) = ((lAt l (k : Int)).1 = d ∧ (f = true ∨ (lAt l (k : Int)).2 = 0)) := fun k => by rw [and_t, or_t, iEq_t, iEq_t]
  have hL : (∃ i, i < l.length ∧ ((lAt l (i : Int)).1 = d ∧ (f = true ∨ (lAt l (i : Int)).2 = 0)) ∧ (∀ k, k < i → ¬ ((lAt l (k : Int)).1 = d ∧ (f = true ∨ (lAt l (k : Int)).2 = 0))) ∧ L143_0 (((a, (b, (c, (d, e)))), f), (l, (lLen l, 0))) = some (.inr (((a, (b, (c, (d, e)))), f), (i : Int)))) ∨ ((∀ i, i < l.length → ¬ ((lAt l (i : Int)).1 = d ∧ (f = true ∨ (lAt l (i : Int)).2 = 0))) ∧ L143_0 (((a, (b, (c, (d, e)))), f), (l, (lLen l, 0))) = some (Sum.inl ((a, (b, (c, (d, e)))), f))) := by
    refine iter_first (fun i => (((a, (b, (c, (d, e)))), f), (l, (lLen l, (i : Int))))) (fun i => (lAt l (i : Int)).1 = d ∧ (f = true ∨ (lAt l (i : Int)).2 = 0)) l.length (fun i => Sum.inr (((a, (b, (c, (d, e)))), f), (i : Int))) (Sum.inl ((a, (b, (c, (d, e)))), f)) (by omega) ?_ ?_ ?_
    · intro i hi hp
      show B143_0 a b c d e f l (lLen l) i = some (.inl (((a, (b, (c, (d, e)))), f), (l, (lLen l, ((i + 1 : Nat) : Int)))))
      have w : bAnd (iEq (lAt l (i : Int)).1 d) (bOr f (iEq (lAt l (i : Int)).2 0)) = false := by rw [bf_t, hc]; exact hp
      unfold B143_0 F130
      rw [iLt_y (by omega), sel_t, oIn_y (by omega), sel_t, let_s, w, sel_f, add_n (by omega) (by omega)]
      rfl
    · intro i hi hp
      have w : bAnd (iEq (lAt l (i : Int)).1 d) (bOr f (iEq (lAt l (i : Int)).2 0)) = true := by rw [hc]; exact hp
      show B143_0 a b c d e f l (lLen l) i = _
      unfold B143_0 F130
      rw [iLt_y (by omega), sel_t, oIn_y (by omega), sel_t, let_s, w, sel_t]
    · show B143_0 a b c d e f l (lLen l) l.length = _
      unfold B143_0
      rw [iLt_f (by omega), sel_f]
  unfold F129 F143
  rcases hL with ⟨i, h1, h2, _, e⟩ | ⟨h1, e⟩
  · rw [e]
    refine ⟨_, rfl, ?_⟩
    show iLe 0 (i : Int) = true ↔ _
    rw [iLe_t]
    exact ⟨fun _ => ⟨i, h1, h2⟩, fun _ => by omega⟩
  · rw [e]
    refine ⟨_, rfl, ?_⟩
    show iLe 0 (-1) = true ↔ _
    exact ⟨fun h => (by cases h), fun ⟨k, k1, k2⟩ => absurd k2 (h1 k k1)⟩
theorem F131_eq (x : SYS) (n lo hi : Int) (hl : x.2.2.length ≤ 1000) : ∃ q, F131 x n lo hi = some q ∧ (q = true ↔ ∃ k, k < x.2.2.length ∧ (lAt x.2.2 (k : Int)).1 = n ∧ (lo ≤ (lAt x.2.2 (k : Int)).2 ∧ (lAt x.2.2 (k : Int)).2 ≤ hi)) := by
  have hll : lLen x.2.2 = (x.2.2.length : Int) := rfl
  have hc : ∀ k : Nat, (bAnd (iEq (lAt x.2.2 (k : Int)).1 n) (F35 (lAt x.2.2 (k : Int)).2 lo hi) = true) = ((lAt x.2.2 (k : Int)).1 = n ∧ (lo ≤ (lAt x.2.2 (k : Int)).2 ∧ (lAt x.2.2 (k : Int)).2 ≤ hi)) := fun k => by unfold F35; rw [and_t, and_t, iEq_t, iLe_t, iLe_t]
  have hL : (∃ i, i < x.2.2.length ∧ ((lAt x.2.2 (i : Int)).1 = n ∧ (lo ≤ (lAt x.2.2 (i : Int)).2 ∧ (lAt x.2.2 (i : Int)).2 ≤ hi)) ∧ (∀ k, k < i → ¬ ((lAt x.2.2 (k : Int)).1 = n ∧ (lo ≤ (lAt x.2.2 (k : Int)).2 ∧ (lAt x.2.2 (k : Int)).2 ≤ hi))) ∧ L131_0 (n, (lo, (hi, (osy x, 0)))) = some (.inr true)) ∨ ((∀ i, i < x.2.2.length → ¬ ((lAt x.2.2 (i : Int)).1 = n ∧ (lo ≤ (lAt x.2.2 (i : Int)).2 ∧ (lAt x.2.2 (i : Int)).2 ≤ hi))) ∧ L131_0 (n, (lo, (hi, (osy x, 0)))) = some (Sum.inl ())) := by
    refine iter_first (fun i => (n, (lo, (hi, (osy x, (i : Int)))))) (fun i => (lAt x.2.2 (i : Int)).1 = n ∧ (lo ≤ (lAt x.2.2 (i : Int)).2 ∧ (lAt x.2.2 (i : Int)).2 ≤ hi)) x.2.2.length (fun _ => Sum.inr true) (Sum.inl ()) (by omega) ?_ ?_ ?_
    · intro i hi' hp
      show B131_0 n lo hi x.1.1 x.1.2 x.2.1 x.2.2 i = some (.inl (n, (lo, (hi, (osy x, ((i + 1 : Nat) : Int))))))
      have w : bAnd (iEq (lAt x.2.2 (i : Int)).1 n) (F35 (lAt x.2.2 (i : Int)).2 lo hi) = false := by rw [bf_t, hc]; exact hp
      unfold B131_0
      rw [iLt_y (by omega), sel_t, oIn_y (by omega), or_tt, sel_t, sel_t, let_s, w, sel_f, add_n (by omega) (by omega)]
      rfl
    · intro i hi' hp
      have w : bAnd (iEq (lAt x.2.2 (i : Int)).1 n) (F35 (lAt x.2.2 (i : Int)).2 lo hi) = true := by rw [hc]; exact hp
      show B131_0 n lo hi x.1.1 x.1.2 x.2.1 x.2.2 i = _
      unfold B131_0
      rw [iLt_y (by omega), sel_t, oIn_y (by omega), or_tt, sel_t, sel_t, let_s, w, sel_t]
    · show B131_0 n lo hi x.1.1 x.1.2 x.2.1 x.2.2 x.2.2.length = _
      unfold B131_0
      rw [iLt_f (by omega), sel_f]
  unfold F131
  show ∃ q, bndS (L131_0 (n, (lo, (hi, (osy x, 0))))) _ = _ ∧ _
  rcases hL with ⟨i, h1, h2, _, e⟩ | ⟨h1, e⟩
  · rw [e]
    exact ⟨_, rfl, ⟨fun _ => ⟨i, h1, h2⟩, fun _ => rfl⟩⟩
  · rw [e]
    exact ⟨_, rfl, ⟨fun h => (by cases h), fun ⟨k, k1, k2⟩ => absurd k2 (h1 k k1)⟩⟩
theorem lost_in {x : SYS} (h : okX x) {k : Nat} (hk : k < x.2.2.length) : hasP x.1 (lAt x.2.2 (k : Int)).1 (lAt x.2.2 (k : Int)).2 := by
  have := h.los k hk
  unfold lostE at this
  split at this
  · cases this
  · rename_i hn; exact Classical.not_not.1 hn
theorem seg_len {x : SYS} (h : okX x) {i : Nat} (hi : i < x.1.1.length) : 32 ≤ sLen (lAt x.1.1 (i : Int)).2 ∧ sLen (lAt x.1.1 (i : Int)).2 / 32 ≤ 8 := by
  have h1 := h.st.2.2.2 i hi
  unfold sgE at h1
  split at h1
  · cases h1
  · split at h1
    · cases h1
    · split at h1
      · cases h1
      · omega
theorem damage_eq {x : SYS} (hf : fewX x) (h : okX x) {i : Nat} (hi : i < x.2.1.length) : ∃ g, F78 x i = some g ∧ F77 x (lAt x.2.1 (i : Int)) = some (sel (iLt g (lAt x.2.1 (i : Int)).2.2) (lAt x.2.1 (i : Int)).2.2 g) := by
  obtain ⟨hs, hd, hl⟩ := hf
  obtain ⟨q0, a0, b0⟩ := F131_eq x (lAt x.2.1 (i : Int)).2.1 0 0 (by omega)
  obtain ⟨q1, a1, b1⟩ := F131_eq x (lAt x.2.1 (i : Int)).2.1 1 8 (by omega)
  obtain ⟨p0, c0, d0⟩ := F129_eq x.2.2 (lAt x.2.1 (i : Int)).1.1 (lAt x.2.1 (i : Int)).1.2.1 (lAt x.2.1 (i : Int)).1.2.2 (lAt x.2.1 (i : Int)).2.1 (lAt x.2.1 (i : Int)).2.2 false (by omega)
  obtain ⟨p1, c1, d1⟩ := F129_eq x.2.2 (lAt x.2.1 (i : Int)).1.1 (lAt x.2.1 (i : Int)).1.2.1 (lAt x.2.1 (i : Int)).1.2.2 (lAt x.2.1 (i : Int)).2.1 (lAt x.2.1 (i : Int)).2.2 true (by omega)
  have e0 : p0 = q0 := by
    rw [Bool.eq_iff_iff, d0, b0]
    constructor
    · rintro ⟨k, k1, k2, k3⟩
      rcases k3 with k3 | k3
      · cases k3
      · exact ⟨k, k1, k2, by omega⟩
    · rintro ⟨k, k1, k2, k3⟩; exact ⟨k, k1, k2, .inr (by omega)⟩
  have e1 : q0 = false → p1 = q1 := by
    intro hq
    have hq' : ¬ q0 = true := by rw [hq]; decide
    rw [b0] at hq'
    rw [Bool.eq_iff_iff, d1, b1]
    constructor
    · rintro ⟨k, k1, k2, _⟩
      obtain ⟨g1, g2, g3⟩ := lost_in h k1
      obtain ⟨j, hj, _, _, ep⟩ := place_in g1
      rw [ep] at g3
      have := seg_len h hj
      refine ⟨k, k1, k2, ?_⟩
      have : (lAt x.2.2 (k : Int)).2 ≠ 0 := fun hz => hq' ⟨k, k1, k2, by omega⟩
      omega
    · rintro ⟨k, k1, k2, _⟩; exact ⟨k, k1, k2, .inl rfl⟩
  subst e0
  unfold F78 F77 F128
  rw [oIn_y (by unfold lLen; omega), sel_t, F90_eq _ _ (by have := hs.1; omega), bnd_s, F96_eq hs, bnd_s, a0]
  simp only [okS_s, or_tt, sel_t, valS_s, let_s]
  rcases place_cases (lAt x.2.1 (i : Int)).2.1 x.1.1 with ⟨j, hj, _, _, ep⟩ | ⟨_, ep⟩
  rotate_left
  · rw [ep, iEq_y rfl, or_tt, sel_t, if_neg (by decide)]
    exact ⟨3, rfl, rfl⟩
  have hjl := seg_len h hj
  have h400 := hs.2 j hj
  rw [ep, iEq_f (by omega), or_ff, if_pos (by omega)]
  dsimp only
  rw [nt, nf, sel_t, c0, bnd_s, bnd_s]
  dsimp only
  cases p0 with
  | true => exact ⟨3, rfl, rfl⟩
  | false =>
    have e1 := e1 rfl
    subst e1
    obtain ⟨r, f1, f2⟩ := in_eq (sCut (lAt x.1.1 (j : Int)).2 0 32) (by rw [scut_len _ (by omega) (by omega) (by omega)]; omega)
    rw [sel_f, sel_f, oIn_y (by unfold lLen; omega), sel_t, oCut_y (by omega), sel_t, sel_t, f1, f2, bnd_s, bnd_s]
    generalize bOr (bNot (iEq r.2.2 0)) (bNot (bAnd (sEq r.1.1 (lAt x.2.1 (i : Int)).1.1) (bAnd (sEq r.1.2.1 (lAt x.2.1 (i : Int)).1.2.1) (iEq r.1.2.2 (lAt x.2.1 (i : Int)).1.2.2)))) = c
    cases c with
    | true => exact ⟨3, rfl, rfl⟩
    | false =>
      rw [sel_f, sel_f, a1, c1, bnd_s, bnd_s, bnd_s, show oNz 32 = true from rfl, or_tt, sel_t]
      dsimp only
      cases p1 with
      | true => exact ⟨2, rfl, rfl⟩
      | false =>
        rw [sel_f, sel_f, F66_eq (by omega), bnd_s, quo32 _ (by omega)]
        cases iEq r.2.1 (sLen (lAt x.1.1 (j : Int)).2 / 32) with
        | true => exact ⟨0, rfl, rfl⟩
        | false => exact ⟨1, rfl, rfl⟩
end Go.Proofs.YtiddpfhpmodfbaaGreatDoor.K
end

section
set_option linter.unusedVariables false
set_option linter.unusedSimpArgs false
set_option linter.unnecessarySimpa false
open Go Go.Ev
namespace Go.Proofs.YtiddpfhpmodfbaaGreatDoor.K
end Go.Proofs.YtiddpfhpmodfbaaGreatDoor.K
end

section
set_option linter.unusedVariables false
set_option linter.unusedSimpArgs false
set_option linter.unnecessarySimpa false
open Go Go.Ev
namespace Go.Proofs.YtiddpfhpmodfbaaGreatDoor.K
theorem len_pos {α : Type} (a : α) (l : List α) : iLt 0 (lLen (a :: l)) = true := iLt_y (by unfold lLen; rw [List.length_cons]; omega)
theorem F116_eq (l : List SEG) (h : l.length ≤ 1000000) : F116 l = some l := by
  cases l with
  | nil => exact F116_nil
  | cons a l => unfold F116; rw [len_pos, lApp_nil, lCap_y (by decide) (by decide) h]; rfl
theorem F117_eq (l : List DE) (h : l.length ≤ 1000000) : F117 l = some l := by
  cases l with
  | nil => exact F117_nil
  | cons a l => unfold F117; rw [len_pos, lApp_nil, lCap_y (by decide) (by decide) h]; rfl
theorem F118_eq (l : List (Int × Int)) (h : l.length ≤ 1000000) : F118 l = some l := by
  cases l with
  | nil => exact F118_nil
  | cons a l => unfold F118; rw [len_pos, lApp_nil, lCap_y (by decide) (by decide) h]; rfl
theorem F69_eq {x : SYS} (h : fewX x) : F69 x = some (osy x) := by
  obtain ⟨h1, h2, h3⟩ := h
  unfold F69
  rw [F116_eq _ (by have := h1.1; omega), F117_eq _ (by omega), F118_eq _ (by omega)]
  rfl
abbrev FIN := Int × (Int × (Int × NAM))
abbrev R0 := List SEG × (Int × (List DE × (List (Int × Int) × (Int × Int))))
abbrev R1 := List SEG × (Int × (List DE × (List (Int × Int) × (List FIN × (Int × Int)))))
def r0 (x : SYS) (d : List DE) : R0 := (x.1.1, (x.1.2, (d, (x.2.2, (0, 0)))))
def r1 (x : SYS) (d : List DE) (out : List FIN) : R1 := (x.1.1, (x.1.2, (d, (x.2.2, (out, (0, 0))))))
abbrev z3 : Int × (Int × Int) := (0, (0, 0))
def rs (x : SYS) (d : List DE) (out : List FIN) (i : Int) : (OSY × ((Int × (Int × Int)) × (R0 × Int))) ⊕ (OSY × ((Int × (Int × Int)) × (R1 × Int))) :=
  match out with
  | [] => .inl (osy x, (z3, (r0 x d, i)))
  | a :: r => .inr (osy x, (z3, (r1 x d (a :: r), i)))
end Go.Proofs.YtiddpfhpmodfbaaGreatDoor.K
end

section
set_option linter.unusedVariables false
set_option linter.unusedSimpArgs false
set_option linter.unnecessarySimpa false
open Go Go.Ev
namespace Go.Proofs.YtiddpfhpmodfbaaGreatDoor.K
structure okL (s : STO) : Prop where
  len : s.1.length ≤ 10
  nx : 1 ≤ s.2 ∧ s.2 ≤ 1001
  sg : ∀ g, g ∈ s.1 → (1 ≤ g.1 ∧ g.1 ≤ s.2 - 1) ∧ sLen g.2 % 32 = 0 ∧ 1 ≤ sLen g.2 / 32 ∧ sLen g.2 / 32 ≤ 8
  ord : s.1.Pairwise (fun a b => a.1 < b.1)
theorem lAt_mem {α : Type} [Inhabited α] {l : List α} {i : Nat} (h : i < l.length) : lAt l (i : Int) ∈ l := by rw [lAt_lt h]; exact List.getElem_mem h
theorem mem_lAt {α : Type} [Inhabited α] {l : List α} {a : α} (h : a ∈ l) : ∃ i, i < l.length ∧ lAt l (i : Int) = a := by
  obtain ⟨i, hi, e⟩ := List.getElem_of_mem h
  exact ⟨i, hi, by rw [lAt_lt hi]; exact e⟩
theorem okL_of {s : STO} (h : okS0 s) : okL s := by
  obtain ⟨h1, h2, h3, h4⟩ := h
  have key : ∀ i, i < s.1.length → (1 ≤ (lAt s.1 (i : Int)).1 ∧ (lAt s.1 (i : Int)).1 ≤ s.2 - 1) ∧ ¬ (0 < i ∧ (lAt s.1 (i : Int)).1 ≤ (lAt s.1 ((i : Int) - 1)).1) ∧ (sLen (lAt s.1 (i : Int)).2 % 32 = 0 ∧ (1 ≤ sLen (lAt s.1 (i : Int)).2 / 32 ∧ sLen (lAt s.1 (i : Int)).2 / 32 ≤ 8)) := fun i hi => by
    have := h4 i hi
    unfold sgE at this
    split at this
    · cases this
    · split at this
      · cases this
      · split at this
        · cases this
        · rename_i a b c
          exact ⟨Classical.not_not.1 a, b, by rw [not_or] at c; exact ⟨Classical.not_not.1 c.1, Classical.not_not.1 c.2⟩⟩
  refine ⟨h1, ⟨h2, h3⟩, fun g hg => ?_, ?_⟩
  · obtain ⟨i, hi, rfl⟩ := mem_lAt hg
    exact ⟨(key i hi).1, (key i hi).2.2⟩
  · have adj : ∀ d i, i + d + 1 < s.1.length → (lAt s.1 (i : Int)).1 < (lAt s.1 ((i + d + 1 : Nat) : Int)).1 := fun d => by
      induction d with
      | zero =>
        intro i hi
        have := (key (i + 0 + 1) hi).2.1
        rw [show ((i + 0 + 1 : Nat) : Int) - 1 = (i : Int) by omega] at this
        omega
      | succ d ih =>
        intro i hi
        have h5 := ih i (by omega)
        have := (key (i + (d + 1) + 1) hi).2.1
        rw [show ((i + (d + 1) + 1 : Nat) : Int) - 1 = ((i + d + 1 : Nat) : Int) by omega] at this
        omega
    rw [List.pairwise_iff_getElem]
    intro i j hi hj hij
    have := adj (j - i - 1) i (by omega)
    rw [show i + (j - i - 1) + 1 = j by omega, lAt_lt hi, lAt_lt hj] at this
    exact this
theorem okS_of {s : STO} (h : okL s) : okS0 s := by
  refine ⟨h.len, h.nx.1, h.nx.2, fun i hi => ?_⟩
  have h1 := h.sg _ (lAt_mem hi)
  unfold sgE
  rw [if_neg (fun hc => hc h1.1)]
  rw [if_neg (fun hc => ?_)]
  · rw [if_neg (fun hc => ?_)]
    rcases hc with hc | hc
    · exact hc h1.2.1
    · exact hc h1.2.2
  · have := (List.pairwise_iff_getElem.1 h.ord) (i - 1) i (by omega) hi (by omega)
    have e : ((i : Int) - 1) = ((i - 1 : Nat) : Int) := by omega
    rw [e, lAt_lt hi, lAt_lt (by omega : i - 1 < s.1.length)] at hc
    omega
theorem okL.few {s : STO} (h : okL s) : fewS s := by
  refine ⟨by have := h.len; omega, fun i hi => ?_⟩
  have := (h.sg _ (lAt_mem hi)).2
  omega
theorem okL.check {s : STO} (h : okL s) : F58 s = some (0, 0) ∧ F65 s = some 0 := by
  rcases F43_eq s h.few (by have := h.nx; unfold fits; omega) with ⟨_, h1⟩ | ⟨a, c, hc, h1, h2⟩
  · exact h1
  · exfalso
    -- a right store has no error
    have h0 := okS_of h
    unfold F65 F114 at h2
    have hl := h.len
    rw [iLt_f (by unfold lLen; omega), sel_f] at h2
    have e2 : F35 s.2 1 1001 = true := by unfold F35; rw [and_t, iLe_t, iLe_t]; exact h.nx
    rw [e2] at h2
    rcases L56_eq s h.few h.nx with ⟨i, h3, h4, _, _⟩ | ⟨_, h4⟩
    · exact h4 (h0.2.2.2 i h3)
    · simp only [let_s, nt, sel_f, h4, bnd_s, sumS] at h2
      cases h2
      exact hc rfl
theorem mid_eq {i j : Int} (h0 : 0 ≤ i) (h1 : i ≤ j) (h2 : j ≤ 1000) : iCv .i64 (iShr .u64 (iCv .u64 (iAdd .i64 i j)) 1) = (i + j) / 2 := by
  rw [add_n (by omega) (by omega)]
  have e1 : iCv .u64 (i + j) = i + j := by
    unfold iCv IntKind.wrap
    simp only [IntKind.signed, IntKind.bits]
    simp
    omega
  rw [e1]
  unfold iShr
  rw [show (2 : Int) ^ min (Int.toNat 1) IntKind.u64.bits = 2 from rfl, Int.fdiv_eq_ediv_of_nonneg _ (by decide), cv_n (by omega) (by omega)]
theorem L178_eq {l : List SEG} {n : Int} (hl : l.length ≤ 1000) (ho : l.Pairwise (fun a b => a.1 < b.1)) (hs : ∀ g, g ∈ l → 0 ≤ g.1 ∧ g.1 ≤ 2000) (hn : 0 ≤ n ∧ n ≤ 2000) :
    Ok (L178_0 (l, (n, (lLen l, (0, lLen l))))) (fun r => ∃ i : Nat, i ≤ l.length ∧ r = (l, (n, (lLen l, (i : Int)))) ∧ (∀ k, k < i → (lAt l (k : Int)).1 < n) ∧ (∀ k, i ≤ k → k < l.length → n ≤ (lAt l (k : Int)).1)) := by
  have mono : ∀ a b, a < b → b < l.length → (lAt l (a : Int)).1 < (lAt l (b : Int)).1 := fun a b hab hb => by
    have := (List.pairwise_iff_getElem.1 ho) a b (by omega) hb hab
    rw [lAt_lt hb, lAt_lt (by omega : a < l.length)]; exact this
  refine loop_inv (fun m x => ∃ i j : Nat, i ≤ j ∧ j ≤ l.length ∧ m = j - i ∧ x = (l, (n, (lLen l, ((i : Int), (j : Int))))) ∧ (∀ k, k < i → (lAt l (k : Int)).1 < n) ∧ (∀ k, j ≤ k → k < l.length → n ≤ (lAt l (k : Int)).1)) l.length ⟨0, l.length, by omega, by omega, by omega, rfl, fun k hk => by omega, fun k h1 h2 => by omega⟩ (by omega) ?_
  rintro m x ⟨i, j, hij, hj, rfl, rfl, ha, hb⟩
  show Ok (B178_0 l n (lLen l) (i : Int) (j : Int)) _
  unfold B178_0
  by_cases hlt : i < j
  · have hm : iCv .i64 (iShr .u64 (iCv .u64 (iAdd .i64 (i : Int) (j : Int))) 1) = (((i + j) / 2 : Nat) : Int) := by rw [mid_eq (by omega) (by omega) (by omega)]; omega
    rw [hm]
    generalize hh : (i + j) / 2 = h at *
    have h1 : i ≤ h ∧ h < j := by omega
    rw [iLt_y (by omega), sel_t, oIn_y (by unfold lLen; omega), sel_t, let_s]
    have hg := hs _ (lAt_mem (l := l) (i := h) (by omega))
    have hF : F179 (lAt l (h : Int)) n = (lAt l (h : Int)).1 - n := sub_n (by omega) (by omega)
    rw [hF, ok_some]
    by_cases hc : (lAt l (h : Int)).1 < n
    · rw [iLt_y (by omega), sel_t, sel_t, add_n (by omega) (by omega)]
      refine ⟨j - (h + 1), by omega, h + 1, j, by omega, hj, rfl, by rw [show ((h + 1 : Nat) : Int) = (h : Int) + 1 by omega], fun k hk => ?_, hb⟩
      by_cases hk2 : k = h
      · rw [hk2]; exact hc
      · have := mono k h (by omega) (by omega); omega
    · rw [iLt_f (by omega), sel_f, sel_f]
      refine ⟨h - i, by omega, i, h, by omega, by omega, rfl, rfl, ha, fun k h2 h3 => ?_⟩
      by_cases hk2 : k = h
      · rw [hk2]; omega
      · have := mono h k (by omega) h3; omega
  · rw [iLt_f (by omega), sel_f, ok_some]
    have : i = j := by omega
    subst this
    exact ⟨i, hj, rfl, ha, hb⟩
theorem find_eq {s : STO} (h : okL s) {n : Int} (hn : 0 ≤ n ∧ n ≤ 2000) : F149 s n = some (if 0 ≤ place s.1 n then (place s.1 n, 0) else (0, if 1 ≤ n ∧ n ≤ s.2 - 1 then 24 else 11)) := by
  have hl := h.len
  have hx := h.nx
  have hs : ∀ g, g ∈ s.1 → 0 ≤ g.1 ∧ g.1 ≤ 2000 := fun g hg => by have := (h.sg g hg).1; omega
  obtain ⟨r, hr, i, hi, rfl, ha, hb⟩ := L178_eq (n := n) (by omega) h.ord hs hn
  have hF : F178 s.1 n = some ((i : Int), decide (0 ≤ place s.1 n)) ∧ (0 ≤ place s.1 n → place s.1 n = (i : Int)) := by
    unfold F178
    rw [hr, bnd_s]
    dsimp only
    rcases place_cases n s.1 with ⟨p, h1, h2, h3, h4⟩ | ⟨h1, h2⟩
    · have hip : i = p := by
        rcases Nat.lt_trichotomy i p with h5 | h5 | h5
        · have := (List.pairwise_iff_getElem.1 h.ord) i p (by omega) h1 h5
          have h6 := hb i (Nat.le_refl _) (by omega)
          rw [lAt_lt h1] at h2
          rw [lAt_lt (by omega : i < s.1.length)] at h6
          omega
        · exact h5
        · have := ha p h5; omega
      subst hip
      refine ⟨?_, fun _ => h4⟩
      rw [h4, oIn_y (by unfold lLen; omega), or_tt, sel_t, let_s, iLt_y (by unfold lLen; omega), at_ft]
      have hF : F179 (lAt s.1 (i : Int)) n = 0 := by
        have := hs _ (lAt_mem h1)
        have e : F179 (lAt s.1 (i : Int)) n = (lAt s.1 (i : Int)).1 - n := sub_n (by omega) (by omega)
        rw [e]; omega
      rw [hF, iEq_y rfl, decide_eq_true (by omega : (0 : Int) ≤ (i : Int))]
    · refine ⟨?_, fun h5 => by omega⟩
      rw [h2, decide_eq_false (by omega : ¬ (0 : Int) ≤ -1)]
      by_cases h5 : i < s.1.length
      · rw [oIn_y (by unfold lLen; omega), or_tt, sel_t, let_s, iLt_y (by unfold lLen; omega), at_ft]
        have hF : ¬ F179 (lAt s.1 (i : Int)) n = 0 := by
          have := hs _ (lAt_mem h5)
          have e : F179 (lAt s.1 (i : Int)) n = (lAt s.1 (i : Int)).1 - n := sub_n (by omega) (by omega)
          have := h1 i h5
          rw [e]; omega
        rw [iEq_f hF]
      · rw [iLt_f (by unfold lLen; omega), nf, sel_pos (by cases oIn (i : Int) (lLen s.1) <;> rfl), let_s, at_ff]
  unfold F149
  rw [h.check.1, bnd_s, iEq_y rfl, nt, sel_f, hF.1, bnd_s]
  by_cases hp : 0 ≤ place s.1 n
  · rw [decide_eq_true hp, sel_t, if_pos hp, hF.2 hp]
  · rw [decide_eq_false hp, sel_f, if_neg hp, let_s]
    unfold F109
    rw [sub_n (by omega) (by omega)]
    by_cases h5 : 1 ≤ n ∧ n ≤ s.2 - 1
    · rw [if_pos h5, iLe_y h5.1, iLe_y h5.2, at_ft, sel_t]
    · rw [if_neg h5, sel_neg (by rw [bf_t, and_t, iLe_t, iLe_t]; exact h5)]
theorem known_eq {s : STO} (h : okL s) (n : Int) : F147 s n = some (place s.1 n, if 0 ≤ place s.1 n then 0 else if 1 ≤ n ∧ n ≤ s.2 - 1 then 24 else 11) := by
  have hl := h.len
  have hx := h.nx
  unfold F147 F177
  rw [h.check.2, bnd_s, iEq_y rfl, nt, sel_f, F90_eq s n (by omega), bnd_s]
  simp only [bnd_s]
  rcases place_cases n s.1 with ⟨p, _, _, _, h4⟩ | ⟨_, h4⟩
  · rw [h4, iEq_f (by omega), nf, sel_t, if_pos (by omega)]
    rfl
  · rw [h4, iEq_y rfl, nt, sel_f, if_neg (by omega), let_s]
    unfold F35
    rw [sub_n (by omega) (by omega)]
    by_cases h5 : 1 ≤ n ∧ n ≤ s.2 - 1
    · rw [if_pos h5, iLe_y h5.1, iLe_y h5.2, at_ft, sel_t]
      rfl
    · rw [if_neg h5, sel_neg (by rw [bf_t, and_t, iLe_t, iLe_t]; exact h5)]
      rfl
end Go.Proofs.YtiddpfhpmodfbaaGreatDoor.K
end

section
set_option linter.unusedVariables false
set_option linter.unusedSimpArgs false
set_option linter.unnecessarySimpa false
open Go Go.Ev
namespace Go.Proofs.YtiddpfhpmodfbaaGreatDoor.K
theorem cut_drop {α : Type} (l : List α) (k : Nat) : lCut l (k : Int) (lLen l) = l.drop k := by unfold lCut lLen; simp
theorem del_list {α : Type} (l : List α) (k : Nat) : l.take k ++ l.drop (k + 1) = l.eraseIdx k := (List.eraseIdx_eq_take_drop_succ l k).symm
theorem cpy_take {α : Type} (l q : List α) (lo hi : Int) (m : Nat) (h : m ≤ lo.toNat) (hl : m ≤ l.length) : (lCpy l lo hi q).take m = l.take m := by
  unfold lCpy
  rw [List.take_append_of_le_length (by rw [List.length_take]; omega), List.take_take, Nat.min_eq_left h]
theorem cpy_in {α : Type} (l q : List α) (k : Nat) (hk : k ≤ l.length) : (lCpy l (k : Int) ((k + q.length : Nat) : Int) q).take (k + q.length) = l.take k ++ q := by
  unfold lCpy
  have e2 : (((k + q.length : Nat) : Int) - (k : Int)).toNat = q.length := by omega
  rw [e2, Int.toNat_natCast, List.take_length, Nat.min_self, ← List.append_assoc]
  have e3 : (l.take k ++ q).length = k + q.length := by rw [List.length_append, List.length_take, Nat.min_eq_left hk]
  rw [← e3, List.take_left]
theorem cut_take {α : Type} (l : List α) (m : Nat) : lCut l 0 (m : Int) = l.take m := by unfold lCut; simp
theorem cpy_len {α : Type} (l q : List α) (k : Nat) (h : k + q.length ≤ l.length) : (lCpy l (k : Int) ((k + q.length : Nat) : Int) q).length = l.length := by
  unfold lCpy
  have e2 : (((k + q.length : Nat) : Int) - (k : Int)).toNat = q.length := by omega
  rw [e2, Int.toNat_natCast, List.take_length, Nat.min_self]
  simp only [List.length_append, List.length_take, List.length_drop]
  omega
theorem F150_eq (l : List SEG) (k : Nat) (hk : k < l.length) (hl : l.length ≤ 1000) : F150 l (k : Int) (iAdd .i64 (k : Int) 1) = some (l.eraseIdx k) := by
  unfold F150
  rw [add_n (by omega) (by omega), show (k : Int) + 1 = ((k + 1 : Nat) : Int) by omega, cut_drop, ← del_list l k]
  generalize hq : l.drop (k + 1) = q
  have hql : q.length = l.length - (k + 1) := by rw [← hq]; simp
  have e1 : pAdd (k : Int) (lLen q) = ((k + q.length : Nat) : Int) := by unfold pAdd lLen; omega
  have e2 : pAdd 0 (pSub ((k + q.length : Nat) : Int) 0) = ((k + q.length : Nat) : Int) := by unfold pAdd pSub; omega
  have e3 : pSub ((k + q.length : Nat) : Int) 0 = ((k + q.length : Nat) : Int) := by unfold pSub; omega
  rw [e1, e2, e3]
  have hcl := cpy_len l q k (by omega)
  rw [oCut_y (by unfold lLen; omega), sel_t, oCut_y (by unfold lLen; omega), sel_t, iEq_f (by omega), sel_f, oCut_y (by unfold lLen; omega), sel_t, oCut_y (by unfold lLen; omega), sel_t, iLe_y (by unfold lLen; omega), sel_t,
    oCut_y (by unfold lLen pSub; rw [hcl]; omega), sel_t, cut_take, cpy_take _ _ _ _ _ (by omega) (by rw [hcl]; omega), cpy_in _ _ _ (by omega)]
theorem okL.set {s : STO} (h : okL s) {k : Nat} (hk : k < s.1.length) {b : ByteArray} (hb : sLen b = sLen (lAt s.1 (k : Int)).2) : okL (s.1.set k ((lAt s.1 (k : Int)).1, b), s.2) := by
  refine ⟨by rw [List.length_set]; exact h.len, h.nx, fun g hg => ?_, ?_⟩
  · rcases List.mem_or_eq_of_mem_set hg with h1 | h1
    · exact h.sg g h1
    · have := h.sg _ (lAt_mem hk)
      rw [h1]
      dsimp only
      rw [hb]
      exact this
  · rw [List.pairwise_iff_getElem]
    intro i j hi hj hij
    rw [List.length_set] at hi hj
    have h1 := (List.pairwise_iff_getElem.1 h.ord) i j hi hj hij
    have e : ∀ i (hi : i < s.1.length), ((s.1.set k ((lAt s.1 (k : Int)).1, b))[i]'(by rw [List.length_set]; exact hi)).1 = (s.1[i]).1 := fun i hi => by
      rw [List.getElem_set]
      split
      · rename_i he; subst he; rw [lAt_lt hk]
      · rfl
    rw [e i hi, e j hj]
    exact h1
theorem place_nat {l : List SEG} {n : Int} (h : 0 ≤ place l n) : ∃ k : Nat, k < l.length ∧ place l n = (k : Int) ∧ (lAt l (k : Int)).1 = n := by
  obtain ⟨i, h1, h2, _, h4⟩ := place_in h
  exact ⟨i, h1, h4, h2⟩
theorem del_eq {s : STO} (h : okL s) {n : Int} (hn : 0 ≤ n ∧ n ≤ 2000) {k : Nat} (hk : k < s.1.length) (hp : place s.1 n = (k : Int)) :
    F98 s n = some ((s.1.eraseIdx k, s.2), 0) ∧ F95 s n = some (s.1.eraseIdx k, (s.2, (0, (bs [], 0)))) := by
  have hl := h.len
  have h18 : F64 s = some s := F18_eq s (by omega)
  constructor
  · unfold F98
    rw [find_eq h hn, if_pos (by omega), bnd_s, iEq_y rfl, nt, sel_f, F116_eq s.1 (by omega), bnd_s]
    dsimp only
    rw [hp, F150_eq s.1 k hk (by omega), bnd_s]
  · unfold F95
    rw [known_eq h, if_pos (by omega), bnd_s, iEq_y rfl, nt, sel_f, h18, bnd_s]
    dsimp only
    rw [hp, add_n (by omega) (by omega), show (k : Int) + 1 = ((k + 1 : Nat) : Int) by omega, cut_drop, ← del_list s.1 k]
    generalize hq : s.1.drop (k + 1) = q
    have hql : q.length = s.1.length - (k + 1) := by rw [← hq]; simp
    have e1 : pAdd (k : Int) (lLen q) = ((k + q.length : Nat) : Int) := by unfold pAdd lLen; omega
    rw [e1, oCut_y (by unfold lLen; omega), sel_t, oCut_y (by unfold lLen; omega), sel_t, iLe_y (by unfold lLen; omega), sel_t, cut_take, cpy_in _ _ _ (by omega)]
def wrB (o b : ByteArray) : ByteArray := sAdd (sAdd (sCut o 0 0) b) (sCut o 32 (sLen o))
theorem wrB_len {o b : ByteArray} (hb : sLen b = 32) (ho : 32 ≤ sLen o) : sLen (wrB o b) = sLen o := by
  unfold wrB
  rw [sadd_len, sadd_len, scut_len _ (by omega) (by omega) (by omega), scut_len _ (by omega) (by omega) (by omega), hb]
  omega
theorem wr_eq {s : STO} (h : okL s) {n : Int} (hn : 0 ≤ n ∧ n ≤ 2000) {k : Nat} (hk : k < s.1.length) (hp : place s.1 n = (k : Int)) {b : ByteArray} (hb : sLen b = 32) :
    F84 s (n, 0) b = some ((s.1.set k ((lAt s.1 (k : Int)).1, wrB (lAt s.1 (k : Int)).2 b), s.2), 0) ∧ F92 s (n, 0) b = some (s.1.set k ((lAt s.1 (k : Int)).1, wrB (lAt s.1 (k : Int)).2 b), (s.2, (0, (bs [], 0)))) := by
  have hl := h.len
  have h18 : F64 s = some s := F18_eq s (by omega)
  have hg := h.sg _ (lAt_mem hk)
  have ho : 32 ≤ sLen (lAt s.1 (k : Int)).2 ∧ sLen (lAt s.1 (k : Int)).2 ≤ 400 := by omega
  have i1 : oIn (k : Int) (lLen s.1) = true := oIn_y (by unfold lLen; omega)
  have w1 : F109 0 0 (sLen (lAt s.1 (k : Int)).2) = true ∧ F35 0 0 (sLen (lAt s.1 (k : Int)).2) = true := by
    unfold F109 F35; rw [iLe_y (by omega), iLe_y (by omega)]; exact ⟨rfl, rfl⟩
  have w2 : F109 32 0 (iSub .i64 (sLen (lAt s.1 (k : Int)).2) 0) = true ∧ F35 32 0 (iSub .i64 (sLen (lAt s.1 (k : Int)).2) 0) = true := by
    unfold F109 F35; rw [sub_n (by omega) (by omega), iLe_y (by omega), iLe_y (by omega)]; exact ⟨rfl, rfl⟩
  have hset : lSet s.1 (k : Int) ((lAt s.1 (k : Int)).1, wrB (lAt s.1 (k : Int)).2 b) = s.1.set k ((lAt s.1 (k : Int)).1, wrB (lAt s.1 (k : Int)).2 b) := by unfold lSet; rw [Int.toNat_natCast]
  have c0 : sLen (sCut (lAt s.1 (k : Int)).2 0 0) = 0 := scut_len _ (by omega) (by omega) (by omega)
  have c1 : sLen (sCut (lAt s.1 (k : Int)).2 32 (sLen (lAt s.1 (k : Int)).2)) = sLen (lAt s.1 (k : Int)).2 - 32 := scut_len _ (by omega) (by omega) (by omega)
  have ok1 : sOk (sCut (lAt s.1 (k : Int)).2 0 0) b = true := sOk_n (by rw [c0, hb]; omega)
  have ok2 : sOk (sAdd (sCut (lAt s.1 (k : Int)).2 0 0) b) (sCut (lAt s.1 (k : Int)).2 32 (sLen (lAt s.1 (k : Int)).2)) = true := sOk_n (by rw [sadd_len, c0, c1, hb]; omega)
  have e32 : iAdd .i64 0 32 = 32 := rfl
  constructor
  · unfold F84 F138
    rw [find_eq h hn, if_pos (by omega), bnd_s, iEq_y rfl, nt, sel_f]
    dsimp only
    rw [hp, hb, i1, sel_t, let_s, let_s, w1.1, w2.1, nt, or_ff, sel_f, bnd_s, iEq_y rfl, nt, sel_f]
    dsimp only
    rw [i1, sel_t, oCut_y (by omega), sel_t, ok1, sel_t, e32, oCut_y (by omega), sel_t, ok2, sel_t]
    unfold F139
    rw [F116_eq s.1 (by omega), bnd_s, i1, sel_t]
    show bndS (some (lSet s.1 (k : Int) ((lAt s.1 (k : Int)).1, wrB (lAt s.1 (k : Int)).2 b), s.2)) _ = _
    rw [hset, bnd_s]
  · unfold F92 F145
    rw [known_eq h, if_pos (by dsimp only; omega), bnd_s, iEq_y rfl, nt, sel_f]
    dsimp only
    rw [hp, hb, i1, sel_t, let_s, let_s, w1.2, w2.2, nt, or_ff, sel_f, bnd_s, iEq_y rfl, nt, sel_f]
    dsimp only
    rw [i1, sel_t]
    unfold F127
    rw [oCut_y (by omega), sel_t, ok1, sel_t, hb, e32, oCut_y (by omega), sel_t, ok2, sel_t, bnd_s]
    unfold F146
    rw [h18, bnd_s, i1, sel_t]
    show bndS (some (lSet s.1 (k : Int) ((lAt s.1 (k : Int)).1, wrB (lAt s.1 (k : Int)).2 b), s.2)) _ = _
    rw [hset, bnd_s]
theorem F54_0 (k : Nat) (hk : k ≤ 1000) : F54 0 k = some (sOf (List.replicate k 0)) := by
  unfold F54 L54_0
  have h := iter_run (B := fun (x : (Int × (Int × ((List Int) × Int)))) => (B54_0 x.1 x.2.1 x.2.2.1 x.2.2.2)) (fun i => ((0 : Int), ((k : Int), (List.replicate i (0 : Int), (i : Int))))) (r := List.replicate k (0 : Int)) k (by omega) ?_ ?_
  · have h' : iter (fun (x : (Int × (Int × ((List Int) × Int)))) => (B54_0 x.1 x.2.1 x.2.2.1 x.2.2.2)) fuel ((0 : Int), ((k : Int), (([] : List Int), 0))) = some (List.replicate k (0 : Int)) := by
      simpa using h
    rw [h']
    rfl
  · intro i hi
    show B54_0 0 k (List.replicate i (0 : Int)) i = _
    unfold B54_0
    rw [sel_pos (by rw [iLt_t]; omega), sel_pos (by rw [lCap_t, app_len]; unfold lLen; simp; omega), add_w (by unfold fits; omega)]
    have e3 : lApp (List.replicate i (0 : Int)) [0] = List.replicate (i + 1) 0 := by
      rw [List.replicate_succ']
      rfl
    rw [e3]
    rfl
  · show B54_0 0 k (List.replicate k (0 : Int)) k = _
    unfold B54_0
    rw [sel_neg (by rw [bf_t, iLt_t]; omega)]
theorem FRepeat_0 (k : Nat) (hk : k ≤ 1000) : FRepeat (bs [0]) k = some (sOf (List.replicate k 0)) := by
  unfold FRepeat
  rw [sel_pos]
  · congr 1
    apply by_inj
    rw [by_sOf (by intro b hb; rw [List.eq_of_mem_replicate hb]; decide), show ((k : Int)).toNat = k by omega]
    unfold sBy
    clear hk
    induction k with
    | zero => rfl
    | succ k ih =>
      exact congrArg ((0 : Int) :: ·) ih
  · have : (bs [0]).size = 1 := rfl
    simp [this]
    omega
end Go.Proofs.YtiddpfhpmodfbaaGreatDoor.K
end
