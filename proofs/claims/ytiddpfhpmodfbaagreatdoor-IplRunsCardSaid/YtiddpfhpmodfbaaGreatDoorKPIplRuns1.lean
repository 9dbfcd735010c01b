/- A part of the proof: texts of the author, joined. -/
import Derived.Test.YtiddpfhpmodfbaaGreatDoorKPIplRuns0
section
set_option linter.unusedVariables false
set_option linter.unusedSimpArgs false
set_option linter.unnecessarySimpa false
open Go Go.Ev
namespace Go.Proofs.YtiddpfhpmodfbaaGreatDoor.K
/-- Where an entry with a name stands: the program and the specification answer alike. -/
theorem at_eq (x : SYS) (n : NAM) (hl : x.2.1.length ≤ 1000) : ∃ v, F82 x n = some v ∧ F45 x n = some v ∧ (v = -1 ∨ 0 ≤ v) := by
  have hll : lLen x.2.1 = (x.2.1.length : Int) := rfl
  have hc : ∀ k : Nat, (bAnd (sEq (lAt x.2.1 (k : Int)).1.1 n.1) (bAnd (sEq (lAt x.2.1 (k : Int)).1.2.1 n.2.1) (iEq (lAt x.2.1 (k : Int)).1.2.2 n.2.2)) = true) = ((lAt x.2.1 (k : Int)).1.1 = n.1 ∧ (lAt x.2.1 (k : Int)).1.2.1 = n.2.1 ∧ (lAt x.2.1 (k : Int)).1.2.2 = n.2.2) := fun k => by rw [and_t, and_t, sEq_t, sEq_t, iEq_t]
  have hA : (∃ i, i < x.2.1.length ∧ ((lAt x.2.1 (i : Int)).1.1 = n.1 ∧ (lAt x.2.1 (i : Int)).1.2.1 = n.2.1 ∧ (lAt x.2.1 (i : Int)).1.2.2 = n.2.2) ∧ (∀ k, k < i → ¬ ((lAt x.2.1 (k : Int)).1.1 = n.1 ∧ (lAt x.2.1 (k : Int)).1.2.1 = n.2.1 ∧ (lAt x.2.1 (k : Int)).1.2.2 = n.2.2)) ∧ L113_0_1 ((n.1, (n.2.1, n.2.2)), (x.2.1, (lLen x.2.1, 0))) = some (.inr ((n.1, (n.2.1, n.2.2)), (i : Int)))) ∨ ((∀ i, i < x.2.1.length → ¬ ((lAt x.2.1 (i : Int)).1.1 = n.1 ∧ (lAt x.2.1 (i : Int)).1.2.1 = n.2.1 ∧ (lAt x.2.1 (i : Int)).1.2.2 = n.2.2)) ∧ L113_0_1 ((n.1, (n.2.1, n.2.2)), (x.2.1, (lLen x.2.1, 0))) = some (Sum.inl (n.1, (n.2.1, n.2.2)))) := by
    refine iter_first (fun i => ((n.1, (n.2.1, n.2.2)), (x.2.1, (lLen x.2.1, (i : Int))))) (fun i => (lAt x.2.1 (i : Int)).1.1 = n.1 ∧ (lAt x.2.1 (i : Int)).1.2.1 = n.2.1 ∧ (lAt x.2.1 (i : Int)).1.2.2 = n.2.2) x.2.1.length (fun i => Sum.inr ((n.1, (n.2.1, n.2.2)), (i : Int))) (Sum.inl (n.1, (n.2.1, n.2.2))) (by omega) ?_ ?_ ?_
    · intro i hi hp
      show B113_0_1 n.1 n.2.1 n.2.2 x.2.1 (lLen x.2.1) i = some (.inl ((n.1, (n.2.1, n.2.2)), (x.2.1, (lLen x.2.1, ((i + 1 : Nat) : Int)))))
      have w : bAnd (sEq (lAt x.2.1 (i : Int)).1.1 n.1) (bAnd (sEq (lAt x.2.1 (i : Int)).1.2.1 n.2.1) (iEq (lAt x.2.1 (i : Int)).1.2.2 n.2.2)) = false := by rw [bf_t, hc]; exact hp
      unfold B113_0_1 F136
      rw [iLt_y (by omega), sel_t, oIn_y (by omega), sel_t, let_s, w, sel_f, add_n (by omega) (by omega)]
      rfl
    · intro i hi hp
      have w : bAnd (sEq (lAt x.2.1 (i : Int)).1.1 n.1) (bAnd (sEq (lAt x.2.1 (i : Int)).1.2.1 n.2.1) (iEq (lAt x.2.1 (i : Int)).1.2.2 n.2.2)) = true := by rw [hc]; exact hp
      show B113_0_1 n.1 n.2.1 n.2.2 x.2.1 (lLen x.2.1) i = _
      unfold B113_0_1 F136
      rw [iLt_y (by omega), sel_t, oIn_y (by omega), sel_t, let_s, w, sel_t]
    · show B113_0_1 n.1 n.2.1 n.2.2 x.2.1 (lLen x.2.1) x.2.1.length = _
      unfold B113_0_1
      rw [iLt_f (by omega), sel_f]
  have hB : (∃ i, i < x.2.1.length ∧ ((lAt x.2.1 (i : Int)).1.1 = n.1 ∧ (lAt x.2.1 (i : Int)).1.2.1 = n.2.1 ∧ (lAt x.2.1 (i : Int)).1.2.2 = n.2.2) ∧ (∀ k, k < i → ¬ ((lAt x.2.1 (k : Int)).1.1 = n.1 ∧ (lAt x.2.1 (k : Int)).1.2.1 = n.2.1 ∧ (lAt x.2.1 (k : Int)).1.2.2 = n.2.2)) ∧ L45_0 (osy x, ((n.1, (n.2.1, n.2.2)), 0)) = some (.inr (i : Int))) ∨ ((∀ i, i < x.2.1.length → ¬ ((lAt x.2.1 (i : Int)).1.1 = n.1 ∧ (lAt x.2.1 (i : Int)).1.2.1 = n.2.1 ∧ (lAt x.2.1 (i : Int)).1.2.2 = n.2.2)) ∧ L45_0 (osy x, ((n.1, (n.2.1, n.2.2)), 0)) = some (Sum.inl ())) := by
    refine iter_first (fun i => (osy x, ((n.1, (n.2.1, n.2.2)), (i : Int)))) (fun i => (lAt x.2.1 (i : Int)).1.1 = n.1 ∧ (lAt x.2.1 (i : Int)).1.2.1 = n.2.1 ∧ (lAt x.2.1 (i : Int)).1.2.2 = n.2.2) x.2.1.length (fun i => Sum.inr (i : Int)) (Sum.inl ()) (by omega) ?_ ?_ ?_
    · intro i hi hp
      show B45_0 x.1.1 x.1.2 x.2.1 x.2.2 n.1 n.2.1 n.2.2 i = some (.inl (osy x, ((n.1, (n.2.1, n.2.2)), ((i + 1 : Nat) : Int))))
      have w : bAnd (sEq (lAt x.2.1 (i : Int)).1.1 n.1) (bAnd (sEq (lAt x.2.1 (i : Int)).1.2.1 n.2.1) (iEq (lAt x.2.1 (i : Int)).1.2.2 n.2.2)) = false := by rw [bf_t, hc]; exact hp
      unfold B45_0
      rw [iLt_y (by omega), sel_t, oIn_y (by omega), sel_t, w, sel_f, add_n (by omega) (by omega)]
      rfl
    · intro i hi hp
      have w : bAnd (sEq (lAt x.2.1 (i : Int)).1.1 n.1) (bAnd (sEq (lAt x.2.1 (i : Int)).1.2.1 n.2.1) (iEq (lAt x.2.1 (i : Int)).1.2.2 n.2.2)) = true := by rw [hc]; exact hp
      show B45_0 x.1.1 x.1.2 x.2.1 x.2.2 n.1 n.2.1 n.2.2 i = _
      unfold B45_0
      rw [iLt_y (by omega), sel_t, oIn_y (by omega), sel_t, w, sel_t]
    · show B45_0 x.1.1 x.1.2 x.2.1 x.2.2 n.1 n.2.1 n.2.2 x.2.1.length = _
      unfold B45_0
      rw [iLt_f (by omega), sel_f]
  unfold F82 F113_1 F45
  show ∃ v, _ ∧ bndS (L45_0 (osy x, ((n.1, (n.2.1, n.2.2)), 0))) _ = _ ∧ _
  rcases hA with ⟨i, i1, i2, i3, e⟩ | ⟨i1, e⟩ <;> rcases hB with ⟨j, j1, j2, j3, e'⟩ | ⟨j1, e'⟩
  · obtain rfl := first_uniq i2 i3 j2 j3
    rw [e, e']
    exact ⟨(i : Int), rfl, rfl, .inr (by omega)⟩
  · exact absurd i2 (j1 i i1)
  · exact absurd j2 (i1 j j1)
  · rw [e, e']
    exact ⟨-1, rfl, rfl, .inl rfl⟩
/-- IplAsks. -/
theorem asks (x : SYS) (n : NAM) (k : Int) (h2 : fits x.1.2) : F9 x n k = some true := by
  unfold F9
  rw [awake, bnd_s, nt, sel_f]
  rcases few_eq x with ⟨hf, e⟩ | e
  rotate_left
  · rw [e, bnd_s, nf, sel_t]
  have hf' := hf
  obtain ⟨hs, hd, hl⟩ := hf
  obtain ⟨r, e19, e21, hok⟩ := check_two hf' h2
  rw [e, bnd_s, nt, sel_f, own_eq hf', bnd_s]
  show bndS (F31 x n) (fun y3 => bndS (some (osy x)) fun y4 => bndS (F32 ((y4.1, y4.2.1), y4.2.2) k) fun y5 => _) = _
  have e34 : F34 x = some r.2 := by unfold F34; rw [e21]; rfl
  have two : ∃ q, F31 x n = some q ∧ F33 x n = some q := by
    unfold F31 F33 F81
    rw [e19, e34, bnd_s, bnd_s]
    by_cases hr : r.2 = 0
    · obtain ⟨v, v1, v2, v3⟩ := at_eq x n (by omega)
      rw [iEq_y hr, nt, sel_f, sel_f, (nmE_eq n).1, (nmE_eq n).2, bnd_s, bnd_s, bnd_s]
      by_cases hn : nmE n = 0
      · rw [iEq_y hn, nt, sel_f, sel_f, v1, v2, bnd_s, bnd_s]
        rcases v3 with rfl | v3
        · exact ⟨_, rfl, rfl⟩
        · rw [iLe_y v3, iEq_f (by omega)]
          exact ⟨_, rfl, rfl⟩
      · rw [iEq_f hn, nf, sel_t, sel_t]
        exact ⟨_, rfl, rfl⟩
    · rw [iEq_f hr, nf, sel_t, sel_t, bnd_s, iEq_f hr, nf, sel_t]
      exact ⟨_, rfl, rfl⟩
  obtain ⟨q, q1, q2⟩ := two
  rw [q1, bnd_s, bnd_s]
  show bndS (F32 x k) _ = _
  have qq : ∀ a b c : Int, F51 a b c = F35 a b c := fun _ _ _ => rfl
  have hll : lLen x.2.1 = (x.2.1.length : Int) := rfl
  unfold F32
  rw [e19, bnd_s]
  by_cases hr : r.2 = 0
  rotate_left
  · rw [iEq_f hr, nf, sel_t, bnd_s, q2, bnd_s, iEq_y rfl, iEq_y rfl, nt, or_ff, sel_f, e34, bnd_s, iEq_f hr, nf, sel_t, iEq_y rfl]
    rfl
  obtain ⟨hX, _⟩ := hok hr
  rw [iEq_y hr, nt, sel_f, let_s, qq, sub_n (by omega) (by omega)]
  by_cases hk : 0 ≤ k ∧ k ≤ lLen x.2.1 - 1
  · have w : F35 k 0 (lLen x.2.1 - 1) = true := by unfold F35; rw [and_t, iLe_t, iLe_t]; exact hk
    obtain ⟨i, rfl⟩ := Int.eq_ofNat_of_zero_le hk.1
    have hi : i < x.2.1.length := by omega
    obtain ⟨g, g1, g2⟩ := damage_eq hf' hX hi
    have e36 : F36 x (i : Int) = some (sel (iLt g (lAt x.2.1 (i : Int)).2.2) (lAt x.2.1 (i : Int)).2.2 g) := by
      unfold F36
      rw [g1, bnd_s, oIn_y (by omega), sel_t]
    rw [w, nt, sel_f, oIn_y (by omega), sel_t, g2, bnd_s, bnd_s, q2, bnd_s, iEq_y rfl, iEq_y rfl, nt, or_ff, sel_f, e34, bnd_s, iEq_y hr, nt, sel_f, let_s, nt, sel_f, e36, okS_s, or_tt, sel_t, valS_s, let_s]
    dsimp only
    rw [iEq_y rfl, iEq_y rfl]
    rfl
  · have w : F35 k 0 (lLen x.2.1 - 1) = false := by rw [bf_t]; unfold F35; rw [and_t, iLe_t, iLe_t]; exact hk
    rw [w, nf, sel_t, bnd_s, q2, bnd_s, iEq_y rfl, iEq_y rfl, nt, or_ff, sel_f, e34, bnd_s, iEq_y hr, nt, sel_f, let_s, nf, sel_t]
    rfl
end Go.Proofs.YtiddpfhpmodfbaaGreatDoor.K
end

section
set_option linter.unusedVariables false
set_option linter.unusedSimpArgs false
set_option linter.unnecessarySimpa false
open Go Go.Ev
namespace Go.Proofs.YtiddpfhpmodfbaaGreatDoor.K
theorem len_pos {α : Type} (a : α) (l : List α) : iLt 0 (lLen (a :: l)) = true := iLt_y (by unfold lLen; rw [List.length_cons]; omega)
theorem F116_eq (l : List SEG) (h : l.length ≤ 1000000) : F116 l = some l := by
  cases l with
  | nil => exact F116_nil
  | cons a l => unfold F116; rw [len_pos, lApp_nil, lCap_y (by decide) (by decide) h]; rfl
theorem F117_eq (l : List DE) (h : l.length ≤ 1000000) : F117 l = some l := by
  cases l with
  | nil => exact F117_nil
  | cons a l => unfold F117; rw [len_pos, lApp_nil, lCap_y (by decide) (by decide) h]; rfl
theorem F118_eq (l : List (Int × Int)) (h : l.length ≤ 1000000) : F118 l = some l := by
  cases l with
  | nil => exact F118_nil
  | cons a l => unfold F118; rw [len_pos, lApp_nil, lCap_y (by decide) (by decide) h]; rfl
theorem F69_eq {x : SYS} (h : fewX x) : F69 x = some (osy x) := by
  obtain ⟨h1, h2, h3⟩ := h
  unfold F69
  rw [F116_eq _ (by have := h1.1; omega), F117_eq _ (by omega), F118_eq _ (by omega)]
  rfl
theorem store_self (s : STO) (h : s.1.length ≤ 1000000) : F101 s s = some true := by
  have hll : lLen s.1 = (s.1.length : Int) := rfl
  have hL : L101_0 (s, (s, 0)) = some (Sum.inl ()) := by
    refine iter_run (fun i => (s, (s, (i : Int)))) s.1.length (by omega) ?_ ?_
    · intro i hi
      show B101_0 s.1 s.2 s.1 s.2 i = _
      have w : bAnd (iEq (lAt s.1 (i : Int)).1 (lAt s.1 (i : Int)).1) (sEq (lAt s.1 (i : Int)).2 (lAt s.1 (i : Int)).2) = true := by rw [and_t, iEq_t, sEq_t]; exact ⟨rfl, rfl⟩
      unfold B101_0
      rw [iLt_y (by omega), sel_t, oIn_y (by omega), sel_t, sel_t, w, nt, sel_f, add_n (by omega) (by omega)]
      rfl
    · show B101_0 s.1 s.2 s.1 s.2 s.1.length = _
      unfold B101_0
      rw [iLt_f (by omega), sel_f]
  unfold F101
  rw [iEq_y rfl, iEq_y rfl, nt, or_ff, sel_f, hL]
  rfl
theorem sys_self (x : SYS) (h1 : x.1.1.length ≤ 1000000) (h2 : x.2.1.length ≤ 1000000) (h3 : x.2.2.length ≤ 1000000) : F43 x x = some true := by
  have l2 : lLen x.2.1 = (x.2.1.length : Int) := rfl
  have l3 : lLen x.2.2 = (x.2.2.length : Int) := rfl
  have hA : L43_0 (osy x, (osy x, 0)) = some (.inl (osy x, osy x)) := by
    refine iter_run (fun i => (osy x, (osy x, (i : Int)))) x.2.1.length (by omega) ?_ ?_
    · intro i hi
      show B43_0 x.1.1 x.1.2 x.2.1 x.2.2 x.1.1 x.1.2 x.2.1 x.2.2 i = _
      have w : bAnd (sEq (lAt x.2.1 (i : Int)).1.1 (lAt x.2.1 (i : Int)).1.1) (bAnd (sEq (lAt x.2.1 (i : Int)).1.2.1 (lAt x.2.1 (i : Int)).1.2.1) (bAnd (iEq (lAt x.2.1 (i : Int)).1.2.2 (lAt x.2.1 (i : Int)).1.2.2) (bAnd (iEq (lAt x.2.1 (i : Int)).2.1 (lAt x.2.1 (i : Int)).2.1) (iEq (lAt x.2.1 (i : Int)).2.2 (lAt x.2.1 (i : Int)).2.2)))) = true := by
        simp only [and_t, iEq_t, sEq_t]; exact ⟨trivial, trivial, trivial, trivial, trivial⟩
      unfold B43_0
      rw [iLt_y (by omega), sel_t, oIn_y (by omega), sel_t, sel_t, w, nt, sel_f, add_n (by omega) (by omega)]
      rfl
    · show B43_0 x.1.1 x.1.2 x.2.1 x.2.2 x.1.1 x.1.2 x.2.1 x.2.2 x.2.1.length = _
      unfold B43_0
      rw [iLt_f (by omega), sel_f]
  have hB : L43_2 (osy x, (osy x, 0)) = some (Sum.inl ()) := by
    refine iter_run (fun i => (osy x, (osy x, (i : Int)))) x.2.2.length (by omega) ?_ ?_
    · intro i hi
      show B43_2 x.1.1 x.1.2 x.2.1 x.2.2 x.1.1 x.1.2 x.2.1 x.2.2 i = _
      have w : bAnd (iEq (lAt x.2.2 (i : Int)).1 (lAt x.2.2 (i : Int)).1) (iEq (lAt x.2.2 (i : Int)).2 (lAt x.2.2 (i : Int)).2) = true := by rw [and_t, iEq_t, iEq_t]; exact ⟨rfl, rfl⟩
      unfold B43_2
      rw [iLt_y (by omega), sel_t, oIn_y (by omega), sel_t, sel_t, w, nt, sel_f, add_n (by omega) (by omega)]
      rfl
    · show B43_2 x.1.1 x.1.2 x.2.1 x.2.2 x.1.1 x.1.2 x.2.1 x.2.2 x.2.2.length = _
      unfold B43_2
      rw [iLt_f (by omega), sel_f]
  unfold F43
  rw [store_self x.1 h1, bnd_s, iEq_y rfl, iEq_y rfl, nt, or_ff, or_ff, sel_f]
  show bndS (L43_0 (osy x, (osy x, 0))) _ = _
  rw [hA, bnd_s]
  dsimp only [sumS]
  show bndS (L43_2 (osy x, (osy x, 0))) _ = _
  rw [hB]
  rfl
abbrev FIN := Int × (Int × (Int × NAM))
theorem find_self (l : List FIN) (h : l.length ≤ 1000000) : F27 l l = some true := by
  have hll : lLen l = (l.length : Int) := rfl
  have hL : L27_0 (l, (l, 0)) = some (Sum.inl ()) := by
    refine iter_run (fun i => (l, (l, (i : Int)))) l.length (by omega) ?_ ?_
    · intro i hi
      show B27_0 l l i = _
      have w : bAnd (iEq (lAt l (i : Int)).1 (lAt l (i : Int)).1) (bAnd (iEq (lAt l (i : Int)).2.1 (lAt l (i : Int)).2.1) (bAnd (iEq (lAt l (i : Int)).2.2.1 (lAt l (i : Int)).2.2.1) (bAnd (sEq (lAt l (i : Int)).2.2.2.1 (lAt l (i : Int)).2.2.2.1) (bAnd (sEq (lAt l (i : Int)).2.2.2.2.1 (lAt l (i : Int)).2.2.2.2.1) (iEq (lAt l (i : Int)).2.2.2.2.2 (lAt l (i : Int)).2.2.2.2.2))))) = true := by
        simp only [and_t, iEq_t, sEq_t]; exact ⟨trivial, trivial, trivial, trivial, trivial, trivial⟩
      unfold B27_0
      rw [iLt_y (by omega), sel_t, oIn_y (by omega), sel_t, sel_t, w, nt, sel_f, add_n (by omega) (by omega)]
      rfl
    · show B27_0 l l l.length = _
      unfold B27_0
      rw [iLt_f (by omega), sel_f]
  unfold F27
  rw [iEq_y rfl, nt, sel_f, hL]
  rfl
abbrev R0 := List SEG × (Int × (List DE × (List (Int × Int) × (Int × Int))))
abbrev R1 := List SEG × (Int × (List DE × (List (Int × Int) × (List FIN × (Int × Int)))))
def r0 (x : SYS) (d : List DE) : R0 := (x.1.1, (x.1.2, (d, (x.2.2, (0, 0)))))
def r1 (x : SYS) (d : List DE) (out : List FIN) : R1 := (x.1.1, (x.1.2, (d, (x.2.2, (out, (0, 0))))))
abbrev z3 : Int × (Int × Int) := (0, (0, 0))
def rs (x : SYS) (d : List DE) (out : List FIN) (i : Int) : (OSY × ((Int × (Int × Int)) × (R0 × Int))) ⊕ (OSY × ((Int × (Int × Int)) × (R1 × Int))) :=
  match out with
  | [] => .inl (osy x, (z3, (r0 x d, i)))
  | a :: r => .inr (osy x, (z3, (r1 x d (a :: r), i)))
def re (x : SYS) (d : List DE) (out : List FIN) : ((Int × (Int × Int)) × R0) ⊕ ((Int × (Int × Int)) × R1) :=
  match out with
  | [] => .inl (z3, r0 x d)
  | a :: r => .inr (z3, r1 x d (a :: r))
/-- The walks over the directory at an IPL. -/
theorem ipl_two {x : SYS} (hf : fewX x) (h : okX x) : ∃ r s, L25_0 (osy x, (0, (osy x, (([] : List FIN), (x.2.1, (lLen x.2.1, 0)))))) = some r ∧ L26_0 (.inl (osy x, (z3, (r0 x x.2.1, 0)))) = some s ∧ ∃ d out, d.length = x.2.1.length ∧ out.length ≤ 100 ∧ r = (0, ((x.1.1, (x.1.2, (d, x.2.2))), out)) ∧ s = re x d out := by
  have hll : lLen x.2.1 = (x.2.1.length : Int) := rfl
  have hd14 := hf.2.1
  refine loop_two (fun m a c => ∃ (i : Nat) (d : List DE) (out : List FIN), i ≤ x.2.1.length ∧ d.length = x.2.1.length ∧ out.length ≤ i ∧ a = (osy x, (0, ((x.1.1, (x.1.2, (d, x.2.2))), (out, (x.2.1, (lLen x.2.1, (i : Int))))))) ∧ c = rs x d out i ∧ m = x.2.1.length - i) x.2.1.length ⟨0, x.2.1, [], by omega, rfl, by simp, rfl, rfl, rfl⟩ (by omega) ?_
  rintro m a c ⟨i, d, out, hi, hd, hout, rfl, rfl, rfl⟩
  have hdl : lLen d = (d.length : Int) := rfl
  by_cases hlt : i < x.2.1.length
  rotate_left
  · refine .inr ⟨(0, ((x.1.1, (x.1.2, (d, x.2.2))), out)), re x d out, ?_, ?_, d, out, hd, by omega, rfl, rfl⟩
    · show B25_0 x.1.1 x.1.2 x.2.1 x.2.2 0 x.1.1 x.1.2 d x.2.2 out x.2.1 (lLen x.2.1) i = _
      unfold B25_0
      rw [iLt_f (by omega), sel_f]
    · cases out with
      | nil =>
        show B26_0h0 x.1.1 x.1.2 x.2.1 x.2.2 0 0 0 x.1.1 x.1.2 d x.2.2 0 0 i = _
        unfold B26_0h0
        rw [iLt_f (by omega), sel_f]
        rfl
      | cons o r =>
        show B26_0h1 x.1.1 x.1.2 x.2.1 x.2.2 0 0 0 x.1.1 x.1.2 d x.2.2 (o :: r) 0 0 i = _
        unfold B26_0h1
        rw [iLt_f (by omega), sel_f]
        rfl
  obtain ⟨g, g1, g2⟩ := damage_eq hf h hlt
  have g1' : F78 ((x.1.1, x.1.2), (x.2.1, x.2.2)) (i : Int) = some g := g1
  have g2' : F77 ((x.1.1, x.1.2), (x.2.1, x.2.2)) (lAt x.2.1 (i : Int)) = some (sel (iLt g (lAt x.2.1 (i : Int)).2.2) (lAt x.2.1 (i : Int)).2.2 g) := g2
  by_cases hc : (lAt x.2.1 (i : Int)).2.2 < g
  · have e2 : sel (iLt g (lAt x.2.1 (i : Int)).2.2) (lAt x.2.1 (i : Int)).2.2 g = g := by rw [iLt_f (by omega), sel_f]
    rw [e2] at g2'
    refine .inl ⟨x.2.1.length - (i + 1), (osy x, (0, ((x.1.1, (x.1.2, (lSet d (i : Int) ((lAt d (i : Int)).1, ((lAt d (i : Int)).2.1, g)), x.2.2))), (out ++ [(0, ((lAt x.2.1 (i : Int)).2.1, (g, (lAt x.2.1 (i : Int)).1)))], (x.2.1, (lLen x.2.1, ((i + 1 : Nat) : Int))))))), rs x (lSet d (i : Int) ((lAt d (i : Int)).1, ((lAt d (i : Int)).2.1, g))) (out ++ [(0, ((lAt x.2.1 (i : Int)).2.1, (g, (lAt x.2.1 (i : Int)).1)))]) ((i + 1 : Nat) : Int), by omega, ?_, ?_, i + 1, _, _, by omega, by unfold lSet; simp; exact hd, by simp; omega, rfl, rfl, rfl⟩
    · show B25_0 x.1.1 x.1.2 x.2.1 x.2.2 0 x.1.1 x.1.2 d x.2.2 out x.2.1 (lLen x.2.1) i = _
      unfold B25_0
      rw [iLt_y (a := (i : Int)) (b := lLen x.2.1) (by omega), sel_t, oIn_y (by omega), sel_t, g2', bnd_s, iLt_y hc, sel_t, oIn_y (by omega), sel_t, lCap_y (by decide) (by decide) (by simp [lApp]; omega), sel_t, add_n (by omega) (by omega)]
      rfl
    · cases out with
      | nil =>
        show B26_0h0 x.1.1 x.1.2 x.2.1 x.2.2 0 0 0 x.1.1 x.1.2 d x.2.2 0 0 i = _
        unfold B26_0h0
        rw [iLt_y (a := (i : Int)) (b := lLen x.2.1) (by omega), sel_t, g1', bnd_s, oIn_y (a := (i : Int)) (b := lLen x.2.1) (by omega), sel_t, iLt_y hc, sel_t, oIn_y (by omega), sel_t, sel_t, sel_t, lCap_y (by decide) (by decide) (by simp), sel_t, add_n (by omega) (by omega)]
        rfl
      | cons o r =>
        show B26_0h1 x.1.1 x.1.2 x.2.1 x.2.2 0 0 0 x.1.1 x.1.2 d x.2.2 (o :: r) 0 0 i = _
        unfold B26_0h1
        rw [iLt_y (a := (i : Int)) (b := lLen x.2.1) (by omega), sel_t, g1', bnd_s, oIn_y (a := (i : Int)) (b := lLen x.2.1) (by omega), sel_t, iLt_y hc, sel_t, oIn_y (by omega), sel_t, sel_t, sel_t, lCap_y (by decide) (by decide) (by simp [lApp] at hout ⊢; omega), sel_t, add_n (by omega) (by omega)]
        rfl
  · have hn : ¬ (lAt x.2.1 (i : Int)).2.2 < sel (iLt g (lAt x.2.1 (i : Int)).2.2) (lAt x.2.1 (i : Int)).2.2 g := by
      by_cases h3 : g < (lAt x.2.1 (i : Int)).2.2
      · rw [iLt_y h3, sel_t]; omega
      · rw [iLt_f h3, sel_f]; exact hc
    refine .inl ⟨x.2.1.length - (i + 1), (osy x, (0, ((x.1.1, (x.1.2, (d, x.2.2))), (out, (x.2.1, (lLen x.2.1, ((i + 1 : Nat) : Int))))))), rs x d out ((i + 1 : Nat) : Int), by omega, ?_, ?_, i + 1, _, _, by omega, hd, by omega, rfl, rfl, rfl⟩
    · show B25_0 x.1.1 x.1.2 x.2.1 x.2.2 0 x.1.1 x.1.2 d x.2.2 out x.2.1 (lLen x.2.1) i = _
      unfold B25_0
      rw [iLt_y (a := (i : Int)) (b := lLen x.2.1) (by omega), sel_t, oIn_y (by omega), sel_t, g2', bnd_s, iLt_f hn, sel_f, add_n (by omega) (by omega)]
      rfl
    · cases out with
      | nil =>
        show B26_0h0 x.1.1 x.1.2 x.2.1 x.2.2 0 0 0 x.1.1 x.1.2 d x.2.2 0 0 i = _
        unfold B26_0h0
        rw [iLt_y (a := (i : Int)) (b := lLen x.2.1) (by omega), sel_t, g1', bnd_s, oIn_y (a := (i : Int)) (b := lLen x.2.1) (by omega), sel_t, iLt_f hc, sel_f, add_n (by omega) (by omega)]
        rfl
      | cons o r =>
        show B26_0h1 x.1.1 x.1.2 x.2.1 x.2.2 0 0 0 x.1.1 x.1.2 d x.2.2 (o :: r) 0 0 i = _
        unfold B26_0h1
        rw [iLt_y (a := (i : Int)) (b := lLen x.2.1) (by omega), sel_t, g1', bnd_s, oIn_y (a := (i : Int)) (b := lLen x.2.1) (by omega), sel_t, iLt_f hc, sel_f, add_n (by omega) (by omega)]
        rfl
/-- IplRuns. -/
theorem runs (x : SYS) (h2 : fits x.1.2) : F6 x = some true := by
  unfold F6
  rw [awake, bnd_s, nt, sel_f]
  rcases few_eq x with ⟨hf, e⟩ | e
  rotate_left
  · rw [e, bnd_s, nf, sel_t]
  obtain ⟨r, e19, e21, hok⟩ := check_two hf h2
  have e34 : F34 x = some r.2 := by unfold F34; rw [e21]; rfl
  rw [e, bnd_s, nt, sel_f, own_eq hf, bnd_s]
  show bndS (F25 x) _ = _
  have fin : ∀ (d : List DE) (out : List FIN) (er : Int) (segs : List SEG) (nx : Int), d.length ≤ 1000 → segs.length ≤ 1000 → out.length ≤ 1000 → F25 x = some ((segs, (nx, (d, []))), (out, er)) → F26 x = some (segs, (nx, (d, ([], (out, (0, er)))))) → (bndS (F25 x) fun y3 =>
      bndS (F26 x) fun y4 =>
      bndS (F23 ((y3.1.1, y3.1.2.1), y3.1.2.2) y3.2.2 (((y4.1, y4.2.1), (y4.2.2.1, y4.2.2.2.1)), y4.2.2.2.2)) fun y5 =>
      sel (bOr (okS (F27 y3.2.1 y4.2.2.2.2.1)) (bNot y5)) (
      letS (valS (F27 y3.2.1 y4.2.2.2.2.1) false) fun y6 =>
      some (bAnd y5 y6)) none) = some true := by
    intro d out er segs nx h3 h4 h5 a b
    rw [a, b, bnd_s, bnd_s]
    dsimp only
    have e43 : F43 ((segs, nx), (d, [])) ((segs, nx), (d, [])) = some true := sys_self _ (by dsimp only; omega) (by dsimp only; omega) (by simp)
    have e23 : F23 ((segs, nx), (d, [])) er (((segs, nx), (d, [])), (out, (0, er))) = some true := by
      unfold F23
      dsimp only
      rw [e43, okS_s, or_tt, sel_t, valS_s, let_s, iEq_y rfl]
      rfl
    rw [e23, bnd_s, find_self out (by omega), okS_s, or_tt, sel_t, valS_s, let_s]
    rfl
  by_cases hr : r.2 = 0
  · obtain ⟨hX, _⟩ := hok hr
    obtain ⟨p, q, l1, l2, d, out, hd, ho, rfl, rfl⟩ := ipl_two hf hX
    have hd14 := hf.2.1
    have hs12 := hf.1.1
    refine fin d out 0 x.1.1 x.1.2 (by omega) (by omega) (by omega) ?_ ?_
    · unfold F25
      rw [e19, bnd_s, iEq_y hr, nt, sel_f, F69_eq hf, bnd_s]
      show bndS (L25_0 (osy x, (0, (osy x, (([] : List FIN), (x.2.1, (lLen x.2.1, 0))))))) _ = _
      rw [l1]
      rfl
    · unfold F26
      rw [e34, bnd_s, iEq_y hr, nt, sel_f, own_eq hf, bnd_s]
      show bndS (L26_0 (.inl (osy x, (z3, (r0 x x.2.1, 0))))) _ = _
      rw [l2]
      cases out <;> rfl
  · refine fin [] [] r.2 [] 0 (by simp) (by simp) (by simp) ?_ ?_
    · unfold F25
      rw [e19, bnd_s, iEq_f hr, nf, sel_t]
    · unfold F26
      rw [e34, bnd_s, iEq_f hr, nf, sel_t]
end Go.Proofs.YtiddpfhpmodfbaaGreatDoor.K
end

section
set_option linter.unusedVariables false
set_option linter.unusedSimpArgs false
set_option linter.unnecessarySimpa false
open Go.Ev
namespace Go.Proofs.YtiddpfhpmodfbaaGreatDoor.Pure
open Go.Proofs.YtiddpfhpmodfbaaGreatDoor.K
set_option maxRecDepth 100000 in
theorem IplRuns (x0 : ((.pr (.pr (.sl (.pr (.int .i64) .str)) (.int .i64)) (.pr (.sl (.pr (.pr .str (.pr .str (.int .i64))) (.pr (.int .i64) (.int .i64)))) (.sl (.pr (.int .i64) (.int .i64))))) : Ty).T) (h0 : ((.pr (.pr (.sl (.pr (.int .i64) .str)) (.int .i64)) (.pr (.sl (.pr (.pr .str (.pr .str (.int .i64))) (.pr (.int .i64) (.int .i64)))) (.sl (.pr (.int .i64) (.int .i64))))) : Ty).wf x0) : K.gF6.F (x0) = some true :=
  runs x0 (wf_fits h0.1.2)
end Go.Proofs.YtiddpfhpmodfbaaGreatDoor.Pure
end
