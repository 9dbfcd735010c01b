/- A part of the proof: texts of the author, joined. -/
import Derived.Test.YtiddpfhpmodfbaaGreatDoorKPIplAsks0
section
set_option linter.unusedVariables false
set_option linter.unusedSimpArgs false
set_option linter.unnecessarySimpa false
open Go Go.Ev
namespace Go.Proofs.YtiddpfhpmodfbaaGreatDoor.K
/-- Where an entry with a name stands: the program and the specification answer alike. -/
theorem at_eq (x : SYS) (n : NAM) (hl : x.2.1.length ≤ 1000) : ∃ v, F82 x n = some v ∧ F45 x n = some v ∧ (v = -1 ∨ 0 ≤ v) := by
  have hll : lLen x.2.1 = (x.2.1.length : Int) := rfl
  have hc : ∀ k : Nat, (bAnd (sEq (lAt x.2.1 (k : Int)).1.1 n.1) (bAnd (sEq (lAt x.2.1 (k : Int)).1.2.1 n.2.1) (iEq (lAt x.2.1 (k : Int)).1.2.2 n.2.2)) = true) = ((lAt x.2.1 (k : Int)).1.1 = n.1 ∧ (lAt x.2.1 (k : Int)).1.2.1 = n.2.1 ∧ (lAt x.2.1 (k : Int)).1.2.2 = n.2.2) := fun k => by rw [and_t, and_t, sEq_t, sEq_t, iEq_t]
  have hA : (∃ i, i < x.2.1.length ∧ ((lAt x.2.1 (i : Int)).1.1 = n.1 ∧ (lAt x.2.1 (i : Int)).1.2.1 = n.2.1 ∧ (lAt x.2.1 (i : Int)).1.2.2 = n.2.2) ∧ (∀ k, k < i → ¬ ((lAt x.2.1 (k : Int)).1.1 = n.1 ∧ (lAt x.2.1 (k : Int)).1.2.1 = n.2.1 ∧ (lAt x.2.1 (k : Int)).1.2.2 = n.2.2)) ∧ L113_0_1 ((n.1, (n.2.1, n.2.2)), (x.2.1, (lLen x.2.1, 0))) = some (.inr ((n.1, (n.2.1, n.2.2)), (i : Int)))) ∨ ((∀ i, i < x.2.1.length → ¬ ((lAt x.2.1 (i : Int)).1.1 = n.1 ∧ (lAt x.2.1 (i : Int)).1.2.1 = n.2.1 ∧ (lAt x.2.1 (i : Int)).1.2.2 = n.2.2)) ∧ L113_0_1 ((n.1, (n.2.1, n.2.2)), (x.2.1, (lLen x.2.1, 0))) = some (Sum.inl (n.1, (n.2.1, n.2.2)))) := by
    refine iter_first (fun i => ((n.1, (n.2.1, n.2.2)), (x.2.1, (lLen x.2.1, (i : Int))))) (fun i => (lAt x.2.1 (i : Int)).1.1 = n.1 ∧ (lAt x.2.1 (i : Int)).1.2.1 = n.2.1 ∧ (lAt x.2.1 (i : Int)).1.2.2 = n.2.2) x.2.1.length (fun i => Sum.inr ((n.1, (n.2.1, n.2.2)), (i : Int))) (Sum.inl (n.1, (n.2.1, n.2.2))) (by omega) ?_ ?_ ?_
    · intro i hi hp
      show B113_0_1 n.1 n.2.1 n.2.2 x.2.1 (lLen x.2.1) i = some (.inl ((n.1, (n.2.1, n.2.2)), (x.2.1, (lLen x.2.1, ((i + 1 : Nat) : Int)))))
      have w : bAnd (sEq (lAt x.2.1 (i : Int)).1.1 n.1) (bAnd (sEq (lAt x.2.1 (i : Int)).1.2.1 n.2.1) (iEq (lAt x.2.1 (i : Int)).1.2.2 n.2.2)) = false := by rw [bf_t, hc]; exact hp
      unfold B113_0_1 F136
      rw [iLt_y (by omega), sel_t, oIn_y (by omega), sel_t, let_s, w, sel_f, add_n (by omega) (by omega)]
      rfl
    · intro i hi hp
      have w : bAnd (sEq (lAt x.2.1 (i : Int)).1.1 n.1) (bAnd (sEq (lAt x.2.1 (i : Int)).1.2.1 n.2.1) (iEq (lAt x.2.1 (i : Int)).1.2.2 n.2.2)) = true := by rw [hc]; exact hp
      show B113_0_1 n.1 n.2.1 n.2.2 x.2.1 (lLen x.2.1) i = _
      unfold B113_0_1 F136
      rw [iLt_y (by omega), sel_t, oIn_y (by omega), sel_t, let_s, w, sel_t]
    · show B113_0_1 n.1 n.2.1 n.2.2 x.2.1 (lLen x.2.1) x.2.1.length = _
      unfold B113_0_1
      rw [iLt_f (by omega), sel_f]
  have hB : (∃ i, i < x.2.1.length ∧ ((lAt x.2.1 (i : Int)).1.1 = n.1 ∧ (lAt x.2.1 (i : Int)).1.2.1 = n.2.1 ∧ (lAt x.2.1 (i : Int)).1.2.2 = n.2.2) ∧ (∀ k, k < i → ¬ ((lAt x.2.1 (k : Int)).1.1 = n.1 ∧ (lAt x.2.1 (k : Int)).1.2.1 = n.2.1 ∧ (lAt x.2.1 (k : Int)).1.2.2 = n.2.2)) ∧ L45_0 (osy x, ((n.1, (n.2.1, n.2.2)), 0)) = some (.inr (i : Int))) ∨ ((∀ i, i < x.2.1.length → ¬ ((lAt x.2.1 (i : Int)).1.1 = n.1 ∧ (lAt x.2.1 (i : Int)).1.2.1 = n.2.1 ∧ (lAt x.2.1 (i : Int)).1.2.2 = n.2.2)) ∧ L45_0 (osy x, ((n.1, (n.2.1, n.2.2)), 0)) = some (Sum.inl ())) := by
    refine iter_first (fun i => (osy x, ((n.1, (n.2.1, n.2.2)), (i : Int)))) (fun i => (lAt x.2.1 (i : Int)).1.1 = n.1 ∧ (lAt x.2.1 (i : Int)).1.2.1 = n.2.1 ∧ (lAt x.2.1 (i : Int)).1.2.2 = n.2.2) x.2.1.length (fun i => Sum.inr (i : Int)) (Sum.inl ()) (by omega) ?_ ?_ ?_
    · intro i hi hp
      show B45_0 x.1.1 x.1.2 x.2.1 x.2.2 n.1 n.2.1 n.2.2 i = some (.inl (osy x, ((n.1, (n.2.1, n.2.2)), ((i + 1 : Nat) : Int))))
      have w : bAnd (sEq (lAt x.2.1 (i : Int)).1.1 n.1) (bAnd (sEq (lAt x.2.1 (i : Int)).1.2.1 n.2.1) (iEq (lAt x.2.1 (i : Int)).1.2.2 n.2.2)) = false := by rw [bf_t, hc]; exact hp
      unfold B45_0
      rw [iLt_y (by omega), sel_t, oIn_y (by omega), sel_t, w, sel_f, add_n (by omega) (by omega)]
      rfl
    · intro i hi hp
      have w : bAnd (sEq (lAt x.2.1 (i : Int)).1.1 n.1) (bAnd (sEq (lAt x.2.1 (i : Int)).1.2.1 n.2.1) (iEq (lAt x.2.1 (i : Int)).1.2.2 n.2.2)) = true := by rw [hc]; exact hp
      show B45_0 x.1.1 x.1.2 x.2.1 x.2.2 n.1 n.2.1 n.2.2 i = _
      unfold B45_0
      rw [iLt_y (by omega), sel_t, oIn_y (by omega), sel_t, w, sel_t]
    · show B45_0 x.1.1 x.1.2 x.2.1 x.2.2 n.1 n.2.1 n.2.2 x.2.1.length = _
      unfold B45_0
      rw [iLt_f (by omega), sel_f]
  unfold F82 F113_1 F45
  show ∃ v, _ ∧ bndS (L45_0 (osy x, ((n.1, (n.2.1, n.2.2)), 0))) _ = _ ∧ _
  rcases hA with ⟨i, i1, i2, i3, e⟩ | ⟨i1, e⟩ <;> rcases hB with ⟨j, j1, j2, j3, e'⟩ | ⟨j1, e'⟩
  · obtain rfl := first_uniq i2 i3 j2 j3
    rw [e, e']
    exact ⟨(i : Int), rfl, rfl, .inr (by omega)⟩
  · exact absurd i2 (j1 i i1)
  · exact absurd j2 (i1 j j1)
  · rw [e, e']
    exact ⟨-1, rfl, rfl, .inl rfl⟩
/-- IplAsks. -/
theorem asks (x : SYS) (n : NAM) (k : Int) (h2 : fits x.1.2) : F9 x n k = some true := by
  unfold F9
  rw [awake, bnd_s, nt, sel_f]
  rcases few_eq x with ⟨hf, e⟩ | e
  rotate_left
  · rw [e, bnd_s, nf, sel_t]
  have hf' := hf
  obtain ⟨hs, hd, hl⟩ := hf
  obtain ⟨r, e19, e21, hok⟩ := check_two hf' h2
  rw [e, bnd_s, nt, sel_f, own_eq hf', bnd_s]
  show bndS (F31 x n) (fun y3 => bndS (some (osy x)) fun y4 => bndS (F32 ((y4.1, y4.2.1), y4.2.2) k) fun y5 => _) = _
  have e34 : F34 x = some r.2 := by unfold F34; rw [e21]; rfl
  have two : ∃ q, F31 x n = some q ∧ F33 x n = some q := by
    unfold F31 F33 F81
    rw [e19, e34, bnd_s, bnd_s]
    by_cases hr : r.2 = 0
    · obtain ⟨v, v1, v2, v3⟩ := at_eq x n (by omega)
      rw [iEq_y hr, nt, sel_f, sel_f, (nmE_eq n).1, (nmE_eq n).2, bnd_s, bnd_s, bnd_s]
      by_cases hn : nmE n = 0
      · rw [iEq_y hn, nt, sel_f, sel_f, v1, v2, bnd_s, bnd_s]
        rcases v3 with rfl | v3
        · exact ⟨_, rfl, rfl⟩
        · rw [iLe_y v3, iEq_f (by omega)]
          exact ⟨_, rfl, rfl⟩
      · rw [iEq_f hn, nf, sel_t, sel_t]
        exact ⟨_, rfl, rfl⟩
    · rw [iEq_f hr, nf, sel_t, sel_t, bnd_s, iEq_f hr, nf, sel_t]
      exact ⟨_, rfl, rfl⟩
  obtain ⟨q, q1, q2⟩ := two
  rw [q1, bnd_s, bnd_s]
  show bndS (F32 x k) _ = _
  have qq : ∀ a b c : Int, F51 a b c = F35 a b c := fun _ _ _ => rfl
  have hll : lLen x.2.1 = (x.2.1.length : Int) := rfl
  unfold F32
  rw [e19, bnd_s]
  by_cases hr : r.2 = 0
  rotate_left
  · rw [iEq_f hr, nf, sel_t, bnd_s, q2, bnd_s, iEq_y rfl, iEq_y rfl, nt, or_ff, sel_f, e34, bnd_s, iEq_f hr, nf, sel_t, iEq_y rfl]
    rfl
  obtain ⟨hX, _⟩ := hok hr
  rw [iEq_y hr, nt, sel_f, let_s, qq, sub_n (by omega) (by omega)]
  by_cases hk : 0 ≤ k ∧ k ≤ lLen x.2.1 - 1
  · have w : F35 k 0 (lLen x.2.1 - 1) = true := by unfold F35; rw [and_t, iLe_t, iLe_t]; exact hk
    obtain ⟨i, rfl⟩ := Int.eq_ofNat_of_zero_le hk.1
    have hi : i < x.2.1.length := by omega
    obtain ⟨g, g1, g2⟩ := damage_eq hf' hX hi
    have e36 : F36 x (i : Int) = some (sel (iLt g (lAt x.2.1 (i : Int)).2.2) (lAt x.2.1 (i : Int)).2.2 g) := by
      unfold F36
      rw [g1, bnd_s, oIn_y (by omega), sel_t]
    rw [w, nt, sel_f, oIn_y (by omega), sel_t, g2, bnd_s, bnd_s, q2, bnd_s, iEq_y rfl, iEq_y rfl, nt, or_ff, sel_f, e34, bnd_s, iEq_y hr, nt, sel_f, let_s, nt, sel_f, e36, okS_s, or_tt, sel_t, valS_s, let_s]
    dsimp only
    rw [iEq_y rfl, iEq_y rfl]
    rfl
  · have w : F35 k 0 (lLen x.2.1 - 1) = false := by rw [bf_t]; unfold F35; rw [and_t, iLe_t, iLe_t]; exact hk
    rw [w, nf, sel_t, bnd_s, q2, bnd_s, iEq_y rfl, iEq_y rfl, nt, or_ff, sel_f, e34, bnd_s, iEq_y hr, nt, sel_f, let_s, nf, sel_t]
    rfl
end Go.Proofs.YtiddpfhpmodfbaaGreatDoor.K
end

section
set_option linter.unusedVariables false
set_option linter.unusedSimpArgs false
set_option linter.unnecessarySimpa false
open Go.Ev
namespace Go.Proofs.YtiddpfhpmodfbaaGreatDoor.Pure
open Go.Proofs.YtiddpfhpmodfbaaGreatDoor.K
set_option maxRecDepth 100000 in
theorem IplAsks (x0 : ((.pr (.pr (.sl (.pr (.int .i64) .str)) (.int .i64)) (.pr (.sl (.pr (.pr .str (.pr .str (.int .i64))) (.pr (.int .i64) (.int .i64)))) (.sl (.pr (.int .i64) (.int .i64))))) : Ty).T) (x1 : ((.pr .str (.pr .str (.int .i64))) : Ty).T) (x2 : ((.int .i64) : Ty).T) (h0 : ((.pr (.pr (.sl (.pr (.int .i64) .str)) (.int .i64)) (.pr (.sl (.pr (.pr .str (.pr .str (.int .i64))) (.pr (.int .i64) (.int .i64)))) (.sl (.pr (.int .i64) (.int .i64))))) : Ty).wf x0) (h1 : ((.pr .str (.pr .str (.int .i64))) : Ty).wf x1) (h2 : ((.int .i64) : Ty).wf x2) : K.gF9.F (x0, x1, x2) = some true :=
  asks x0 x1 x2 (wf_fits h0.1.2)
end Go.Proofs.YtiddpfhpmodfbaaGreatDoor.Pure
end
