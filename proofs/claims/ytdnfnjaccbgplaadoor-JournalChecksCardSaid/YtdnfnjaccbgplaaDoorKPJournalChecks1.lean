/- A part of the proof: texts of the author, joined. -/
import Derived.Test.YtdnfnjaccbgplaaDoorKPJournalChecks0
section
set_option linter.unusedVariables false
set_option linter.unusedSimpArgs false
set_option linter.unnecessarySimpa false
open Go Go.Ev
namespace Go.Proofs.YtdnfnjaccbgplaaDoor.K
theorem Seq.num {s : ByteArray} {first : Int} : ∀ {l : List EntT} {a b i : Nat}, Seq s first l a b i → ∀ k, k < l.length → (1 ≤ iAdd .i64 first ((i + k : Nat) : Int) ∧ iAdd .i64 first ((i + k : Nat) : Int) ≤ 9999)
  | [], a, b, i, h, k, hk => by simp at hk
  | x :: l, a, b, i, ⟨n, h1, h2, h3, h4⟩, k, hk => by
    cases k with
    | zero =>
      have := good_num h2
      rw [h3] at this
      exact this
    | succ k =>
      have := h4.num k (by simpa using hk)
      rw [show i + 1 + k = i + (k + 1) by omega] at this
      exact this
/-- All receivers up to this one are right; their entries, and the number behind them. -/
def Upto (rs : List RcvT) : Nat → List EntT → Int → Prop
  | 0, l, nx => l = [] ∧ nx = (lAt rs (0 : Nat)).2.1
  | i + 1, l, nx => ∃ l0 nx0 li, Upto rs i l0 nx0 ∧ rErr rs i = 0 ∧ (lAt rs (i : Nat)).2.1 = nx0 ∧ Seq (lAt rs (i : Nat)).2.2 nx0 li 0 (sBy (lAt rs (i : Nat)).2.2).length 0 ∧ l = l0 ++ li ∧ nx = iAdd .i64 nx0 (li.length : Int)
theorem rErr_zero {rs : List RcvT} (h : rErr rs 0 = 0) : 1 ≤ (lAt rs (0 : Nat)).2.1 ∧ (lAt rs (0 : Nat)).2.1 ≤ 10000 := by
  unfold rErr at h
  grind
theorem rErr_ok {rs : List RcvT} {i : Nat} (h : rErr rs i = 0) : nmOK (sBy (lAt rs (i : Int)).1) = true ∧ ¬ dupN rs (lAt rs (i : Int)).1 i ∧ sLen (lAt rs (i : Int)).2.2 ≤ 1200 := by
  unfold rErr at h
  grind
theorem seq_end {s : ByteArray} {first : Int} {l : List EntT} {b : Nat} (h : Seq s first l 0 b 0) (h1 : 1 ≤ first ∧ first ≤ 10000) (hl : (sBy s).length ≤ 1000000) : iAdd .i64 first (l.length : Int) = first + l.length ∧ first + l.length ≤ 10000 := by
  have h2 := h.le (by omega)
  have e : iAdd .i64 first (l.length : Int) = first + l.length := add_w (by unfold fits; omega)
  refine ⟨e, ?_⟩
  cases hn : l.length with
  | zero => omega
  | succ k =>
    have := (h.num k (by omega)).2
    rw [add_w (by unfold fits; omega)] at this
    omega
theorem few_by {rs : List RcvT} (h : fewJ rs) (i : Nat) (hi : i < rs.length) : (sBy (lAt rs (i : Nat)).2.2).length ≤ 1300 := by
  have := h.2 i hi
  rw [by_len] at this
  omega
theorem Upto.nx {rs : List RcvT} (hf : fewJ rs) : ∀ {i : Nat} {l : List EntT} {nx : Int}, Upto rs i l nx → i ≤ rs.length → nx = (lAt rs (0 : Nat)).2.1 + l.length ∧ l.length ≤ 50 * i ∧ (0 < i → 1 ≤ (lAt rs (0 : Nat)).2.1 ∧ (lAt rs (0 : Nat)).2.1 ≤ 10000 ∧ nx ≤ 10000)
  | 0, l, nx, ⟨h1, h2⟩, hi => by subst h1; exact ⟨by rw [h2]; simp, by simp, fun h => by omega⟩
  | i + 1, l, nx, ⟨l0, nx0, li, h0, h1, h2, h3, h4, h5⟩, hi => by
    obtain ⟨g1, g2, g3⟩ := h0.nx hf (by omega)
    have hb := few_by hf i (by omega)
    have hle := h3.le (by omega)
    have hF : 1 ≤ (lAt rs (0 : Nat)).2.1 ∧ (lAt rs (0 : Nat)).2.1 ≤ 10000 := by
      by_cases h : i = 0
      · subst h; exact rErr_zero h1
      · exact ⟨(g3 (by omega)).1, (g3 (by omega)).2.1⟩
    have hnx : 1 ≤ nx0 ∧ nx0 ≤ 10000 := by
      by_cases h : i = 0
      · subst h
        obtain ⟨q1, q2⟩ := h0
        rw [q2]; exact hF
      · have := g3 (by omega); omega
    have he := seq_end h3 hnx (by omega)
    rw [he.1] at h5
    subst h4
    rw [List.length_append]
    exact ⟨by omega, by omega, fun _ => ⟨hF.1, hF.2, by omega⟩⟩
/-- Of each place there is one reading. -/
theorem Upto.one {rs : List RcvT} (hf : fewJ rs) : ∀ {i : Nat} {l l' : List EntT} {nx nx' : Int}, i ≤ rs.length → Upto rs i l nx → Upto rs i l' nx' → l = l' ∧ nx = nx'
  | 0, l, l', nx, nx', _, ⟨h1, h2⟩, ⟨h3, h4⟩ => ⟨h1.trans h3.symm, h2.trans h4.symm⟩
  | i + 1, l, l', nx, nx', hi, ⟨l0, nx0, li, h0, h1, h2, h3, h4, h5⟩, ⟨l0', nx0', li', h0', h1', h2', h3', h4', h5'⟩ => by
    obtain ⟨rfl, rfl⟩ := h0.one hf (by omega) h0'
    have hb := few_by hf i (by omega)
    obtain ⟨rfl, _, _⟩ := Seq.uniq (c := 0) (c' := 0) (by omega) h3 (.inl ⟨rfl, rfl⟩) h3' (.inl ⟨rfl, rfl⟩)
    exact ⟨h4.trans h4'.symm, h5.trans h5'.symm⟩
/-- The number behind the receivers so far, as0 the program holds it. -/
def nxP (i : Nat) (nx : Int) : Int := if i = 0 then 0 else nx
theorem read_check (rs : List RcvT) (next : Int) (hf : fewJ rs) :
    (¬ (1 ≤ rs.length ∧ rs.length ≤ 6) ∧ F66 (rs, next) true = some ([], (0, 6)) ∧ F24 (rs, next) = some ([], (0, (0, 6)))) ∨
    (1 ≤ rs.length ∧ rs.length ≤ 6 ∧ ∃ i c : Int, c ≠ 0 ∧ F66 (rs, next) true = some ([], (i, c)) ∧ F24 (rs, next) = some ([], (0, (i, c)))) ∨
    (1 ≤ rs.length ∧ rs.length ≤ 6 ∧ ∃ l, Upto rs rs.length l next ∧ F66 (rs, next) true = some (l, (0, 0)) ∧ F24 (rs, next) = some ([], (0, ((l.length : Int), 0)))) := by
  have hll : lLen rs = (rs.length : Int) := rfl
  unfold F66 F24
  simp only [let_s, hll]
  by_cases hsh : 1 ≤ rs.length ∧ rs.length ≤ 6
  rotate_left
  · left
    rw [(within_f (a := (rs.length : Int)) (b := 1) (c := 6) (by omega)).1, (within_f (a := (rs.length : Int)) (b := 1) (c := 6) (by omega)).2]
    exact ⟨hsh, rfl, rfl⟩
  right
  rw [(within_t (a := (rs.length : Int)) (b := 1) (c := 6) (by omega)).1, (within_t (a := (rs.length : Int)) (b := 1) (c := 6) (by omega)).2, nt, sel_f, sel_f, oIn_y (by omega), sel_t]
  have hloop : ∃ r t, L66_0 (true, ((rs, next), (([] : List EntT), (0, (rs, ((rs.length : Int), 0)))))) = some r ∧ L24_0 ((rs, next), ((0, (0, 0)), ((lAt rs 0).2.1, 0))) = some t ∧
      ((∃ i c : Int, c ≠ 0 ∧ r = .inr (i, c) ∧ t = .inr (0, (i, c))) ∨ ∃ l nx, Upto rs rs.length l nx ∧ r = .inl (true, ((rs, next), (l, nx))) ∧ t = .inl ((rs, next), ((0, (0, 0)), nx))) := by
    unfold L66_0 L24_0
    refine loop_two (fun m x y => ∃ (i : Nat) (l : List EntT) (nx : Int), x = (true, ((rs, next), (l, (nxP i nx, (rs, ((rs.length : Int), (i : Int))))))) ∧ y = ((rs, next), ((0, (0, 0)), (nx, (i : Int)))) ∧ i ≤ rs.length ∧ m = rs.length - i ∧ Upto rs i l nx) rs.length ⟨0, [], _, rfl, rfl, by omega, by omega, rfl, rfl⟩ (by omega) ?_
    rintro m x y ⟨i, l, nx, rfl, rfl, hi, rfl, hu⟩
    simp only
    unfold B66_0 B24_0
    simp only [hll]
    by_cases hlt : i < rs.length
    rotate_left
    · obtain rfl : i = rs.length := by omega
      rw [iLt_f (by omega), sel_f, sel_f]
      refine .inr ⟨_, _, rfl, rfl, .inr ⟨l, nx, hu, ?_, rfl⟩⟩
      unfold nxP
      rw [if_neg (by omega)]
    rw [iLt_y (by omega), sel_t, sel_t, oIn_y (by omega), sel_t, sel_t, F85_eq rs next i hlt (by omega), F67_eq rs next i nx hlt (by omega), bnd_s, bnd_s]
    by_cases he : rErr rs i = 0
    rotate_left
    · rw [if_pos he, iEq_f he]
      exact .inr ⟨_, _, rfl, rfl, .inl ⟨_, _, he, rfl, rfl⟩⟩
    rw [if_neg (by simpa using he), he]
    by_cases ho : i ≠ 0 ∧ (lAt rs (i : Int)).2.1 ≠ nx
    · rw [if_pos ho]
      refine .inr ⟨_, _, ?_, rfl, .inl ⟨i, 14, by decide, rfl, rfl⟩⟩
      rw [sel_neg (by rfl), sel_pos]
      unfold nxP
      rw [if_neg ho.1, and_t, iLt_t, not_t, bf_t, iEq_t]
      exact ⟨by omega, ho.2⟩
    rw [if_neg ho]
    have hF : (lAt rs (i : Int)).2.1 = nx := by
      by_cases h0 : i = 0
      · subst h0; exact hu.2.symm
      · exact Classical.byContradiction fun hc => ho ⟨h0, hc⟩
    have hP : bAnd (iLt 0 (i : Int)) (bNot (iEq (lAt rs (i : Int)).2.1 (nxP i nx))) = false := by
      rw [bf_t, and_t, iLt_t, not_t, bf_t, iEq_t]
      unfold nxP
      rintro ⟨h1, h2⟩
      rw [if_neg (by omega)] at h2
      exact h2 hF
    rw [hP, show bNot (iEq 0 0) = false from rfl, sel_f, sel_f, sel_f, show bAnd (bNot true) (iEq (i : Int) (iSub .i64 (rs.length : Int) 1)) = false from rfl, sel_f]
    have hb := few_by hf i hlt
    obtain ⟨li, b, c, w1, w2, w3, w4⟩ := whole_eq (lAt rs (i : Int)).1 (lAt rs (i : Int)).2.1 (lAt rs (i : Int)).2.2 (by omega)
    have w1 : F72 (lAt rs (i : Int)) = _ := w1
    rw [hF] at w2 w3 w4
    rw [w1, w2, bnd_s, bnd_s]
    rcases w4 with ⟨rfl, rfl⟩ | ⟨hc, _⟩
    · obtain ⟨n1, n2, n3⟩ := hu.nx hf hi
      have hle := w3.le (by omega)
      refine .inl ⟨rs.length - (i + 1), _, _, by omega, ?_, ?_, i + 1, l ++ li, iAdd .i64 nx (li.length : Int), rfl, rfl, by omega, rfl, l, nx, li, hu, he, hF, w3, rfl, rfl⟩
      · rw [show bNot (iEq 0 0) = false from rfl, sel_f, sel_pos (lCap_y (by omega) (by omega) (by show (l ++ li).length ≤ _; rw [List.length_append]; omega)), hF, add_w (b := 1) (by unfold fits; omega)]
        unfold nxP
        rw [if_neg (by omega)]
        rfl
      · rw [show bNot (iEq 0 0) = false from rfl, sel_f, add_w (b := 1) (by unfold fits; omega)]
        rfl
    · rw [iEq_f hc]
      exact .inr ⟨_, _, rfl, rfl, .inl ⟨_, _, hc, rfl, rfl⟩⟩
  obtain ⟨r, t, e1, e2, ⟨i, c, hc, rfl, rfl⟩ | ⟨l, nx, hu, rfl, rfl⟩⟩ := hloop
  · rw [e1, e2]
    exact .inl ⟨hsh.1, hsh.2, i, c, hc, rfl, rfl⟩
  · rw [e1, e2]
    obtain ⟨n1, n2, n3⟩ := hu.nx hf (by omega)
    have n4 := n3 (by omega)
    by_cases hn : next = nx
    · subst hn
      refine .inr ⟨hsh.1, hsh.2, l, hu, ?_, ?_⟩
      · rw [bnd_s]
        show sel (bAnd true (bOr (bNot (iEq next next)) (iLt 10000 next))) _ _ = _
        rw [iEq_y rfl, iLt_f (by omega)]
        rfl
      · rw [bnd_s]
        show sel (bNot (iEq next next)) _ _ = _
        rw [iEq_y rfl, nt, sel_f]
        show sel (oIn 0 (lLen rs)) _ _ = _
        rw [hll, oIn_y (by omega), sel_t]
        show some (([] : List RcvT), ((0 : Int), (iSub .i64 next (lAt rs ((0 : Nat) : Int)).2.1, (0 : Int)))) = _
        rw [sub_w (by unfold fits; omega), n1]
        rw [show (lAt rs ((0 : Nat) : Int)).2.1 + (l.length : Int) - (lAt rs ((0 : Nat) : Int)).2.1 = l.length by omega]
    · refine .inl ⟨hsh.1, hsh.2, 0, 3, by decide, ?_, ?_⟩
      · rw [bnd_s]
        show sel (bAnd true (bOr (bNot (iEq next nx)) (iLt 10000 nx))) _ _ = _
        rw [iEq_f hn]
        rfl
      · rw [bnd_s]
        show sel (bNot (iEq next nx)) _ _ = _
        rw [iEq_f hn]
        rfl
/-- The two checks of a journal are one. -/
theorem check_two (rs : List RcvT) (next : Int) (hf : fewJ rs) : ∃ n c : Int, F22 (rs, next) = some (n, c) ∧ F24 (rs, next) = some ([], (0, (n, c))) ∧ ((c ≠ 0 ∧ ∃ i, F66 (rs, next) true = some ([], (i, c))) ∨ (c = 0 ∧ 1 ≤ rs.length ∧ rs.length ≤ 6 ∧ ∃ l, n = l.length ∧ Upto rs rs.length l next ∧ F66 (rs, next) true = some (l, (0, 0)))) := by
  unfold F22
  rcases read_check rs next hf with ⟨_, e1, e2⟩ | ⟨_, _, i, c, hc, e1, e2⟩ | ⟨h1, h2, l, hu, e1, e2⟩
  · rw [e1, e2, bnd_s]
    exact ⟨0, 6, rfl, rfl, .inl ⟨by decide, 0, rfl⟩⟩
  · rw [e1, e2, bnd_s, iEq_f hc]
    exact ⟨i, c, rfl, rfl, .inl ⟨hc, i, rfl⟩⟩
  · rw [e1, e2, bnd_s]
    exact ⟨_, 0, rfl, rfl, .inr ⟨rfl, h1, h2, l, rfl, hu, rfl⟩⟩
end Go.Proofs.YtdnfnjaccbgplaaDoor.K
end

section
set_option linter.unusedVariables false
set_option linter.unusedSimpArgs false
set_option linter.unnecessarySimpa false
open Go Go.Ev
namespace Go.Proofs.YtdnfnjaccbgplaaDoor.Pure
open K
theorem JournalChecks (x0 : (.pr (.sl (.pr .str (.pr (.int .i64) .str))) (.int .i64) : Ty).T) (_h0 : (.pr (.sl (.pr .str (.pr (.int .i64) .str))) (.int .i64) : Ty).wf x0) : K.gF5.F x0 = some true := by
  show F5 x0 = some true
  obtain ⟨rs, next⟩ := x0
  unfold F5
  rw [awake, bnd_s, nt, sel_f]
  obtain ⟨b, hb, hf⟩ := F21_eq rs next
  rw [hb, bnd_s]
  cases b with
  | false => rfl
  | true =>
    have hf := hf rfl
    obtain ⟨n, c, e1, e2, _⟩ := check_two rs next hf
    rw [nt, sel_f, F23_eq (by have := hf.1; omega), bnd_s, e1, e2, bnd_s, bnd_s]
    show some (bAnd (iEq c c) (iEq n n)) = _
    rw [iEq_y rfl, iEq_y rfl]
    rfl
end Go.Proofs.YtdnfnjaccbgplaaDoor.Pure
end
