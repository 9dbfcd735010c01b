/- A part of the proof: texts of the author, joined. -/
import Derived.Test.YtdnfnjaccbgplaaDoorKPJournalHonest0
section
set_option linter.unusedVariables false
set_option linter.unusedSimpArgs false
set_option linter.unnecessarySimpa false
open Go Go.Ev
namespace Go.Proofs.YtdnfnjaccbgplaaDoor.K
theorem Seq.num {s : ByteArray} {first : Int} : ∀ {l : List EntT} {a b i : Nat}, Seq s first l a b i → ∀ k, k < l.length → (1 ≤ iAdd .i64 first ((i + k : Nat) : Int) ∧ iAdd .i64 first ((i + k : Nat) : Int) ≤ 9999)
  | [], a, b, i, h, k, hk => by simp at hk
  | x :: l, a, b, i, ⟨n, h1, h2, h3, h4⟩, k, hk => by
    cases k with
    | zero =>
      have := good_num h2
      rw [h3] at this
      exact this
    | succ k =>
      have := h4.num k (by simpa using hk)
      rw [show i + 1 + k = i + (k + 1) by omega] at this
      exact this
/-- All receivers up to this one are right; their entries, and the number behind them. -/
def Upto (rs : List RcvT) : Nat → List EntT → Int → Prop
  | 0, l, nx => l = [] ∧ nx = (lAt rs (0 : Nat)).2.1
  | i + 1, l, nx => ∃ l0 nx0 li, Upto rs i l0 nx0 ∧ rErr rs i = 0 ∧ (lAt rs (i : Nat)).2.1 = nx0 ∧ Seq (lAt rs (i : Nat)).2.2 nx0 li 0 (sBy (lAt rs (i : Nat)).2.2).length 0 ∧ l = l0 ++ li ∧ nx = iAdd .i64 nx0 (li.length : Int)
theorem rErr_zero {rs : List RcvT} (h : rErr rs 0 = 0) : 1 ≤ (lAt rs (0 : Nat)).2.1 ∧ (lAt rs (0 : Nat)).2.1 ≤ 10000 := by
  unfold rErr at h
  grind
theorem rErr_ok {rs : List RcvT} {i : Nat} (h : rErr rs i = 0) : nmOK (sBy (lAt rs (i : Int)).1) = true ∧ ¬ dupN rs (lAt rs (i : Int)).1 i ∧ sLen (lAt rs (i : Int)).2.2 ≤ 1200 := by
  unfold rErr at h
  grind
theorem seq_end {s : ByteArray} {first : Int} {l : List EntT} {b : Nat} (h : Seq s first l 0 b 0) (h1 : 1 ≤ first ∧ first ≤ 10000) (hl : (sBy s).length ≤ 1000000) : iAdd .i64 first (l.length : Int) = first + l.length ∧ first + l.length ≤ 10000 := by
  have h2 := h.le (by omega)
  have e : iAdd .i64 first (l.length : Int) = first + l.length := add_w (by unfold fits; omega)
  refine ⟨e, ?_⟩
  cases hn : l.length with
  | zero => omega
  | succ k =>
    have := (h.num k (by omega)).2
    rw [add_w (by unfold fits; omega)] at this
    omega
theorem few_by {rs : List RcvT} (h : fewJ rs) (i : Nat) (hi : i < rs.length) : (sBy (lAt rs (i : Nat)).2.2).length ≤ 1300 := by
  have := h.2 i hi
  rw [by_len] at this
  omega
theorem Upto.nx {rs : List RcvT} (hf : fewJ rs) : ∀ {i : Nat} {l : List EntT} {nx : Int}, Upto rs i l nx → i ≤ rs.length → nx = (lAt rs (0 : Nat)).2.1 + l.length ∧ l.length ≤ 50 * i ∧ (0 < i → 1 ≤ (lAt rs (0 : Nat)).2.1 ∧ (lAt rs (0 : Nat)).2.1 ≤ 10000 ∧ nx ≤ 10000)
  | 0, l, nx, ⟨h1, h2⟩, hi => by subst h1; exact ⟨by rw [h2]; simp, by simp, fun h => by omega⟩
  | i + 1, l, nx, ⟨l0, nx0, li, h0, h1, h2, h3, h4, h5⟩, hi => by
    obtain ⟨g1, g2, g3⟩ := h0.nx hf (by omega)
    have hb := few_by hf i (by omega)
    have hle := h3.le (by omega)
    have hF : 1 ≤ (lAt rs (0 : Nat)).2.1 ∧ (lAt rs (0 : Nat)).2.1 ≤ 10000 := by
      by_cases h : i = 0
      · subst h; exact rErr_zero h1
      · exact ⟨(g3 (by omega)).1, (g3 (by omega)).2.1⟩
    have hnx : 1 ≤ nx0 ∧ nx0 ≤ 10000 := by
      by_cases h : i = 0
      · subst h
        obtain ⟨q1, q2⟩ := h0
        rw [q2]; exact hF
      · have := g3 (by omega); omega
    have he := seq_end h3 hnx (by omega)
    rw [he.1] at h5
    subst h4
    rw [List.length_append]
    exact ⟨by omega, by omega, fun _ => ⟨hF.1, hF.2, by omega⟩⟩
/-- Of each place there is one reading. -/
theorem Upto.one {rs : List RcvT} (hf : fewJ rs) : ∀ {i : Nat} {l l' : List EntT} {nx nx' : Int}, i ≤ rs.length → Upto rs i l nx → Upto rs i l' nx' → l = l' ∧ nx = nx'
  | 0, l, l', nx, nx', _, ⟨h1, h2⟩, ⟨h3, h4⟩ => ⟨h1.trans h3.symm, h2.trans h4.symm⟩
  | i + 1, l, l', nx, nx', hi, ⟨l0, nx0, li, h0, h1, h2, h3, h4, h5⟩, ⟨l0', nx0', li', h0', h1', h2', h3', h4', h5'⟩ => by
    obtain ⟨rfl, rfl⟩ := h0.one hf (by omega) h0'
    have hb := few_by hf i (by omega)
    obtain ⟨rfl, _, _⟩ := Seq.uniq (c := 0) (c' := 0) (by omega) h3 (.inl ⟨rfl, rfl⟩) h3' (.inl ⟨rfl, rfl⟩)
    exact ⟨h4.trans h4'.symm, h5.trans h5'.symm⟩
theorem Upto.at {rs : List RcvT} : ∀ {j : Nat} {l : List EntT} {nx : Int}, Upto rs j l nx → ∀ i, i < j → ∃ l0 nx0 li, Upto rs i l0 nx0 ∧ rErr rs i = 0 ∧ (lAt rs (i : Nat)).2.1 = nx0 ∧ Seq (lAt rs (i : Nat)).2.2 nx0 li 0 (sBy (lAt rs (i : Nat)).2.2).length 0 ∧ Upto rs (i + 1) (l0 ++ li) (iAdd .i64 nx0 (li.length : Int))
  | 0, l, nx, _, i, hi => by omega
  | j + 1, l, nx, h, i, hi => by
    obtain ⟨l0, nx0, li, h0, h1, h2, h3, h4, h5⟩ := h
    by_cases hij : i = j
    · subst hij
      exact ⟨l0, nx0, li, h0, h1, h2, h3, l0, nx0, li, h0, h1, h2, h3, rfl, rfl⟩
    · exact h0.at i (by omega)
/-- The number behind the receivers so far, as0 the program holds it. -/
def nxP (i : Nat) (nx : Int) : Int := if i = 0 then 0 else nx
theorem read_check (rs : List RcvT) (next : Int) (hf : fewJ rs) :
    (¬ (1 ≤ rs.length ∧ rs.length ≤ 6) ∧ F66 (rs, next) true = some ([], (0, 6)) ∧ F24 (rs, next) = some ([], (0, (0, 6)))) ∨
    (1 ≤ rs.length ∧ rs.length ≤ 6 ∧ ∃ i c : Int, c ≠ 0 ∧ F66 (rs, next) true = some ([], (i, c)) ∧ F24 (rs, next) = some ([], (0, (i, c))) ∧ ∀ l, ¬ Upto rs rs.length l next) ∨
    (1 ≤ rs.length ∧ rs.length ≤ 6 ∧ ∃ l, Upto rs rs.length l next ∧ F66 (rs, next) true = some (l, (0, 0)) ∧ F24 (rs, next) = some ([], (0, ((l.length : Int), 0)))) := by
  have hll : lLen rs = (rs.length : Int) := rfl
  unfold F66 F24
  simp only [let_s, hll]
  by_cases hsh : 1 ≤ rs.length ∧ rs.length ≤ 6
  rotate_left
  · left
    rw [(within_f (a := (rs.length : Int)) (b := 1) (c := 6) (by omega)).1, (within_f (a := (rs.length : Int)) (b := 1) (c := 6) (by omega)).2]
    exact ⟨hsh, rfl, rfl⟩
  right
  rw [(within_t (a := (rs.length : Int)) (b := 1) (c := 6) (by omega)).1, (within_t (a := (rs.length : Int)) (b := 1) (c := 6) (by omega)).2, nt, sel_f, sel_f, oIn_y (by omega), sel_t]
  have hloop : ∃ r t, L66_0 (true, ((rs, next), (([] : List EntT), (0, (rs, ((rs.length : Int), 0)))))) = some r ∧ L24_0 ((rs, next), ((0, (0, 0)), ((lAt rs 0).2.1, 0))) = some t ∧
      ((∃ i c : Int, c ≠ 0 ∧ r = .inr (i, c) ∧ t = .inr (0, (i, c)) ∧ ∀ l nx, ¬ Upto rs rs.length l nx) ∨ ∃ l nx, Upto rs rs.length l nx ∧ r = .inl (true, ((rs, next), (l, nx))) ∧ t = .inl ((rs, next), ((0, (0, 0)), nx))) := by
    unfold L66_0 L24_0
    refine loop_two (fun m x y => ∃ (i : Nat) (l : List EntT) (nx : Int), x = (true, ((rs, next), (l, (nxP i nx, (rs, ((rs.length : Int), (i : Int))))))) ∧ y = ((rs, next), ((0, (0, 0)), (nx, (i : Int)))) ∧ i ≤ rs.length ∧ m = rs.length - i ∧ Upto rs i l nx) rs.length ⟨0, [], _, rfl, rfl, by omega, by omega, rfl, rfl⟩ (by omega) ?_
    rintro m x y ⟨i, l, nx, rfl, rfl, hi, rfl, hu⟩
    simp only
    unfold B66_0 B24_0
    simp only [hll]
    by_cases hlt : i < rs.length
    rotate_left
    · obtain rfl : i = rs.length := by omega
      rw [iLt_f (by omega), sel_f, sel_f]
      refine .inr ⟨_, _, rfl, rfl, .inr ⟨l, nx, hu, ?_, rfl⟩⟩
      unfold nxP
      rw [if_neg (by omega)]
    rw [iLt_y (by omega), sel_t, sel_t, oIn_y (by omega), sel_t, sel_t, F85_eq rs next i hlt (by omega), F67_eq rs next i nx hlt (by omega), bnd_s, bnd_s]
    by_cases he : rErr rs i = 0
    rotate_left
    · rw [if_pos he, iEq_f he]
      refine .inr ⟨_, _, rfl, rfl, .inl ⟨_, _, he, rfl, rfl, fun l' nx' h => ?_⟩⟩
      obtain ⟨_, _, _, _, h', _⟩ := h.at i hlt
      exact he h'
    rw [if_neg (by simpa using he), he]
    by_cases ho : i ≠ 0 ∧ (lAt rs (i : Int)).2.1 ≠ nx
    · rw [if_pos ho]
      refine .inr ⟨_, _, ?_, rfl, .inl ⟨i, 14, by decide, rfl, rfl, fun l' nx' h => ?_⟩⟩
      · rw [sel_neg (by rfl), sel_pos]
        unfold nxP
        rw [if_neg ho.1, and_t, iLt_t, not_t, bf_t, iEq_t]
        exact ⟨by omega, ho.2⟩
      · obtain ⟨_, _, _, h0', _, h', _⟩ := h.at i hlt
        obtain ⟨_, rfl⟩ := hu.one hf hi h0'
        exact ho.2 h'
    rw [if_neg ho]
    have hF : (lAt rs (i : Int)).2.1 = nx := by
      by_cases h0 : i = 0
      · subst h0; exact hu.2.symm
      · exact Classical.byContradiction fun hc => ho ⟨h0, hc⟩
    have hP : bAnd (iLt 0 (i : Int)) (bNot (iEq (lAt rs (i : Int)).2.1 (nxP i nx))) = false := by
      rw [bf_t, and_t, iLt_t, not_t, bf_t, iEq_t]
      unfold nxP
      rintro ⟨h1, h2⟩
      rw [if_neg (by omega)] at h2
      exact h2 hF
    rw [hP, show bNot (iEq 0 0) = false from rfl, sel_f, sel_f, sel_f, show bAnd (bNot true) (iEq (i : Int) (iSub .i64 (rs.length : Int) 1)) = false from rfl, sel_f]
    have hb := few_by hf i hlt
    obtain ⟨li, b, c, w1, w2, w3, w4⟩ := whole_eq (lAt rs (i : Int)).1 (lAt rs (i : Int)).2.1 (lAt rs (i : Int)).2.2 (by omega)
    have w1 : F72 (lAt rs (i : Int)) = _ := w1
    rw [hF] at w2 w3 w4
    rw [w1, w2, bnd_s, bnd_s]
    rcases w4 with ⟨rfl, rfl⟩ | ⟨hc, w4⟩
    · obtain ⟨n1, n2, n3⟩ := hu.nx hf hi
      have hle := w3.le (by omega)
      refine .inl ⟨rs.length - (i + 1), _, _, by omega, ?_, ?_, i + 1, l ++ li, iAdd .i64 nx (li.length : Int), rfl, rfl, by omega, rfl, l, nx, li, hu, he, hF, w3, rfl, rfl⟩
      · rw [show bNot (iEq 0 0) = false from rfl, sel_f, sel_pos (lCap_y (by omega) (by omega) (by show (l ++ li).length ≤ _; rw [List.length_append]; omega)), hF, add_w (b := 1) (by unfold fits; omega)]
        unfold nxP
        rw [if_neg (by omega)]
        rfl
      · rw [show bNot (iEq 0 0) = false from rfl, sel_f, add_w (b := 1) (by unfold fits; omega)]
        rfl
    · rw [iEq_f hc]
      refine .inr ⟨_, _, rfl, rfl, .inl ⟨_, _, hc, rfl, rfl, fun l' nx' h => ?_⟩⟩
      obtain ⟨_, _, _, h0', _, _, h', _⟩ := h.at i hlt
      obtain ⟨_, rfl⟩ := hu.one hf hi h0'
      obtain ⟨_, _, h0⟩ := Seq.uniq (c := c) (c' := 0) (by omega) w3 (.inr ⟨hc, w4⟩) h' (.inl ⟨rfl, rfl⟩)
      exact hc h0
  obtain ⟨r, t, e1, e2, ⟨i, c, hc, rfl, rfl, hno⟩ | ⟨l, nx, hu, rfl, rfl⟩⟩ := hloop
  · rw [e1, e2]
    exact .inl ⟨hsh.1, hsh.2, i, c, hc, rfl, rfl, fun l h => hno l _ h⟩
  · rw [e1, e2]
    obtain ⟨n1, n2, n3⟩ := hu.nx hf (by omega)
    have n4 := n3 (by omega)
    by_cases hn : next = nx
    · subst hn
      refine .inr ⟨hsh.1, hsh.2, l, hu, ?_, ?_⟩
      · rw [bnd_s]
        show sel (bAnd true (bOr (bNot (iEq next next)) (iLt 10000 next))) _ _ = _
        rw [iEq_y rfl, iLt_f (by omega)]
        rfl
      · rw [bnd_s]
        show sel (bNot (iEq next next)) _ _ = _
        rw [iEq_y rfl, nt, sel_f]
        show sel (oIn 0 (lLen rs)) _ _ = _
        rw [hll, oIn_y (by omega), sel_t]
        show some (([] : List RcvT), ((0 : Int), (iSub .i64 next (lAt rs ((0 : Nat) : Int)).2.1, (0 : Int)))) = _
        rw [sub_w (by unfold fits; omega), n1]
        rw [show (lAt rs ((0 : Nat) : Int)).2.1 + (l.length : Int) - (lAt rs ((0 : Nat) : Int)).2.1 = l.length by omega]
    · refine .inl ⟨hsh.1, hsh.2, 0, 3, by decide, ?_, ?_, fun l' h => hn (h.one hf (by omega) hu).2⟩
      · rw [bnd_s]
        show sel (bAnd true (bOr (bNot (iEq next nx)) (iLt 10000 nx))) _ _ = _
        rw [iEq_f hn]
        rfl
      · rw [bnd_s]
        show sel (bNot (iEq next nx)) _ _ = _
        rw [iEq_f hn]
        rfl
/-- The two checks of a journal are one. -/
theorem check_two (rs : List RcvT) (next : Int) (hf : fewJ rs) : ∃ n c : Int, F22 (rs, next) = some (n, c) ∧ F24 (rs, next) = some ([], (0, (n, c))) ∧ ((c ≠ 0 ∧ (∃ i, F66 (rs, next) true = some ([], (i, c))) ∧ ∀ l, ¬ (1 ≤ rs.length ∧ rs.length ≤ 6 ∧ Upto rs rs.length l next)) ∨ (c = 0 ∧ 1 ≤ rs.length ∧ rs.length ≤ 6 ∧ ∃ l, n = l.length ∧ Upto rs rs.length l next ∧ F66 (rs, next) true = some (l, (0, 0)))) := by
  unfold F22
  rcases read_check rs next hf with ⟨hs, e1, e2⟩ | ⟨_, _, i, c, hc, e1, e2, hno⟩ | ⟨h1, h2, l, hu, e1, e2⟩
  · rw [e1, e2, bnd_s]
    exact ⟨0, 6, rfl, rfl, .inl ⟨by decide, ⟨0, rfl⟩, fun l h => hs ⟨h.1, h.2.1⟩⟩⟩
  · rw [e1, e2, bnd_s, iEq_f hc]
    exact ⟨i, c, rfl, rfl, .inl ⟨hc, ⟨i, rfl⟩, fun l h => hno l h.2.2⟩⟩
  · rw [e1, e2, bnd_s]
    exact ⟨_, 0, rfl, rfl, .inr ⟨rfl, h1, h2, l, rfl, hu, rfl⟩⟩
end Go.Proofs.YtdnfnjaccbgplaaDoor.K
end

section
set_option linter.unusedVariables false
set_option linter.unusedSimpArgs false
set_option linter.unnecessarySimpa false
open Go Go.Ev
namespace Go.Proofs.YtdnfnjaccbgplaaDoor.K
/-- Texts no longer than the laws look at. -/
def smallE (e : EntT) : Prop := (sBy e.2.2.2.1).length ≤ 300 ∧ (sBy e.2.2.2.2.2.2.1).length ≤ 300 ∧ (sBy e.2.2.2.2.2.2.2).length ≤ 300
theorem F14_t (e : EntT) : (F14 e = true) = smallE e := by
  unfold F14 smallE
  rw [and_t, and_t, iLe_t, iLe_t, iLe_t, by_len, by_len, by_len]
  exact propext ⟨fun h => by omega, fun h => by omega⟩
theorem F25_eq (l : List EntT) : ∃ b, F25 l = some b ∧ (b = true → l.length ≤ 42 ∧ ∀ k : Nat, k < l.length → smallE (lAt l (k : Int))) := by
  have hll : lLen l = (l.length : Int) := rfl
  unfold F25 L25_0
  have step : ∀ k : Nat, k < l.length → k ≤ 41 → smallE (lAt l (k : Int)) → B25_0 l k = some (.inl (l, ((k + 1 : Nat) : Int))) := by
    intro k hk h1 h2
    unfold B25_0
    rw [iLt_y (by omega), sel_t, iLt_f (by omega), sel_pos (by rw [or_t]; left; rw [oIn_t]; omega), let_s, (F14_t _).mpr h2, show bOr false (bNot true) = false from rfl, sel_f, add_w (by unfold fits; omega)]
    rfl
  have stop : ∀ k : Nat, k < l.length → k ≤ 42 → (k = 42 ∨ ¬ smallE (lAt l (k : Int))) → B25_0 l k = some (.inr (.inr false)) := by
    intro k hk h1 h2
    unfold B25_0
    rw [iLt_y (by omega), sel_t, sel_pos (by rw [or_t]; left; rw [oIn_t]; omega), let_s, sel_pos]
    rw [or_t, iLt_t, not_t, bf_t, F14_t]
    rcases h2 with h2 | h2
    · left; omega
    · right; exact h2
  have done : ∀ k : Nat, k = l.length → B25_0 l k = some (.inr (.inl ())) := by
    intro k hk
    unfold B25_0
    rw [iLt_f (by omega), sel_f]
  have hend : ∃ r, B25_0 l ((min l.length 42 : Nat) : Int) = some (.inr r) ∧ (r = .inl () → l.length ≤ 42) := by
    rcases Nat.lt_or_ge 42 l.length with h | h
    · exact ⟨_, stop (min l.length 42) (by omega) (by omega) (.inl (by omega)), fun h => by cases h⟩
    · exact ⟨_, done (min l.length 42) (by omega), fun _ => h⟩
  obtain ⟨r, hr, hrl⟩ := hend
  have hfirst := iter_first (B := fun (x : ((List EntT) × Int)) => (B25_0 x.1 x.2)) (fun k => (l, (k : Int))) (fun k => ¬ smallE (lAt l (k : Int))) (min l.length 42) (fun _ => .inr false) r (by omega) (fun i hi hp => step i (by omega) (by omega) (Classical.not_not.1 hp)) (fun i hi hp => stop i (by omega) (by omega) (.inr hp)) hr
  rcases hfirst with ⟨k, h1, h2, _, h3⟩ | ⟨h1, h3⟩
  · have h3 : iter (fun (x : ((List EntT) × Int)) => (B25_0 x.1 x.2)) fuel (l, 0) = _ := h3
    rw [h3]
    exact ⟨false, rfl, fun h => by cases h⟩
  · have h3 : iter (fun (x : ((List EntT) × Int)) => (B25_0 x.1 x.2)) fuel (l, 0) = _ := h3
    rw [h3]
    cases r with
    | inl u =>
      refine ⟨true, rfl, fun _ => ⟨hrl rfl, fun k hk => ?_⟩⟩
      have := hrl rfl
      exact Classical.not_not.1 (h1 k (by omega))
    | inr b =>
      cases b with
      | false => exact ⟨false, rfl, fun h => by cases h⟩
      | true =>
        exfalso
        rcases Nat.lt_or_ge 42 l.length with h | h
        · have := stop (min l.length 42) (by omega) (by omega) (.inl (by omega))
          rw [hr] at this
          cases this
        · have := done (min l.length 42) (by omega)
          rw [hr] at this
          cases this
theorem F27_eq {l : List EntT} (h : l.length ≤ 1000000) : F27 l = some l := by
  unfold F27
  rw [sel_pos (lCap_y (by omega) (by omega) h)]
theorem same_self (rs : List RcvT) (n : Int) (h : rs.length ≤ 1000000) : F35 (rs, n) (rs, n) = some true := by
  have hll : lLen rs = (rs.length : Int) := rfl
  unfold F35
  simp only []
  rw [iEq_y rfl, iEq_y rfl, show bOr (bNot true) (bNot true) = false from rfl, sel_f]
  unfold L35_0
  have h1 := iter_run (B := fun (x : (((List RcvT) × Int) × (((List RcvT) × Int) × Int))) => (B35_0 x.1.1 x.1.2 x.2.1.1 x.2.1.2 x.2.2)) (fun i => ((rs, n), ((rs, n), (i : Int)))) (r := .inl ()) rs.length (by omega) ?_ ?_
  · have h1 : iter (fun (x : (((List RcvT) × Int) × (((List RcvT) × Int) × Int))) => (B35_0 x.1.1 x.1.2 x.2.1.1 x.2.1.2 x.2.2)) fuel ((rs, n), ((rs, n), 0)) = _ := h1
    rw [h1]
    rfl
  · intro k hk
    show B35_0 rs n rs n k = _
    unfold B35_0
    rw [iLt_y (by omega), sel_t, oIn_y (by omega), sel_t, sel_t, sEq_y rfl, sEq_y rfl, iEq_y rfl, show bNot (bAnd true (bAnd true true)) = false from rfl, sel_f, add_w (by unfold fits; omega)]
    rfl
  · show B35_0 rs n rs n rs.length = _
    unfold B35_0
    rw [iLt_f (by omega), sel_f]
theorem is_self (rs : List RcvT) (n m c : Int) (h : rs.length ≤ 1000000) : F29 (rs, n) c ((rs, n), (m, c)) = some true := by
  unfold F29
  simp only []
  rw [same_self rs n h, okS_s, or_tt, sel_t, valS_s, let_s, iEq_y rfl]
  rfl
theorem lSet_length {α : Type} (l : List α) (n : Int) (x : α) : (lSet l n x).length = l.length := by unfold lSet; rw [List.length_set]
theorem lAt_set {α : Type} [Inhabited α] {l : List α} {n : Nat} {x : α} (h : n < l.length) : lAt (lSet l (n : Int) x) (n : Int) = x := by
  unfold lAt lSet
  rw [show ((n : Int)).toNat = n by omega, List.getElem?_set_self h]
  rfl
theorem lAt_set_ne {α : Type} [Inhabited α] {l : List α} {n k : Nat} {x : α} (h : n ≠ k) : lAt (lSet l (n : Int) x) (k : Int) = lAt l (k : Int) := by
  unfold lAt lSet
  rw [show ((n : Int)).toNat = n by omega, show ((k : Int)).toNat = k by omega, List.getElem?_set_ne h]
theorem append_two (rs : List RcvT) (next : Int) (l : List EntT) (hf : fewJ rs) (hs : ∀ k : Nat, k < l.length → smallE (lAt l (k : Int))) : ∃ (rs' : List RcvT) (n' n c : Int), F26 (rs, next) l = some ((rs', n'), (n, c)) ∧ F28 (rs, next) l = some (rs', (n', (n, c))) ∧ rs'.length ≤ 8 := by
  have hll : ∀ r : List RcvT, lLen r = (r.length : Int) := fun _ => rfl
  have hle : lLen l = (l.length : Int) := rfl
  obtain ⟨n, c, e1, e2, e3⟩ := check_two rs next hf
  unfold F26 F28 F70
  rw [e1, e2]
  simp only [bnd_s]
  by_cases hc : c = 0
  rotate_left
  · rw [iEq_f hc]
    exact ⟨[], 0, 0, c, rfl, rfl, by simp⟩
  subst hc
  rcases e3 with ⟨h, _⟩ | ⟨_, g1, g2, l0, rfl, hu, _⟩
  · exact absurd rfl h
  rw [show bNot (iEq 0 0) = false from rfl, sel_f, sel_f]
  by_cases h40 : 40 < lLen l
  · rw [iLt_y h40]
    exact ⟨[], 0, 0, 2, rfl, rfl, by simp⟩
  rw [iLt_f h40, sel_f, sel_f, F69_eq (by omega), F23_eq (by omega), bnd_s, bnd_s]
  simp only [hll]
  have hi1 : iSub .i64 (rs.length : Int) 1 = ((rs.length - 1 : Nat) : Int) := by rw [sub_w (by unfold fits; omega)]; omega
  rw [hi1, oIn_y (by omega), sel_t]
  have hloop : ∃ r t, L26_0 (l, (0, ((rs, next), (((rs.length - 1 : Nat) : Int), (l, (lLen l, 0)))))) = some r ∧ L28_0 (l, ((0, (0, 0)), ((rs, next), (((rs.length - 1 : Nat) : Int), 0)))) = some t ∧
      ((∃ i c : Int, r = .inr (0, (i, c)) ∧ t = .inr (0, (i, c))) ∨ ∃ (rs' : List RcvT) (n' : Int), rs'.length ≤ 8 ∧ r = .inl (l, (0, (rs', n'))) ∧ t = .inl (l, ((0, (0, 0)), (rs', n')))) := by
    unfold L26_0 L28_0
    refine loop_two (fun m x y => ∃ (i : Nat) (rs' : List RcvT) (n' : Int), x = (l, (0, ((rs', n'), (((rs.length - 1 : Nat) : Int), (l, (lLen l, (i : Int))))))) ∧ y = (l, ((0, (0, 0)), ((rs', n'), (((rs.length - 1 : Nat) : Int), (i : Int))))) ∧ rs'.length = rs.length ∧ (sBy (lAt rs' ((rs.length - 1 : Nat) : Int)).2.2).length ≤ 1300 ∧ i ≤ l.length ∧ m = l.length - i) l.length ⟨0, rs, next, rfl, rfl, rfl, few_by hf _ (by omega), by omega, by omega⟩ (by omega) ?_
    rintro m x y ⟨i, rs', n', rfl, rfl, h1, h2, h3, rfl⟩
    simp only
    unfold B26_0 B28_0
    simp only [hle, hll]
    by_cases hlt : i < l.length
    rotate_left
    · rw [iLt_f (by omega), sel_f, sel_f]
      exact .inr ⟨_, _, rfl, rfl, .inr ⟨rs', n', by omega, rfl, rfl⟩⟩
    rw [iLt_y (by omega), sel_t, sel_t, oIn_y (by omega), sel_t, sel_t, sel_t]
    have hsm := hs i hlt
    generalize lAt l (i : Int) = e at *
    obtain ⟨k, n, m, nm, f, u, x, y⟩ := e
    obtain ⟨s1, s2, s3⟩ := hsm
    simp only at s1 s2 s3
    unfold F71
    simp only [hll]
    by_cases hk : k = 0
    rotate_left
    · rw [iEq_f hk]
      exact .inr ⟨_, _, rfl, rfl, .inl ⟨i, 5, rfl, rfl⟩⟩
    rw [iEq_y hk, nt, sel_f, sel_f]
    by_cases h9 : 9999 < n'
    · rw [iLt_y h9]
      exact .inr ⟨_, _, rfl, rfl, .inl ⟨i, 19, rfl, rfl⟩⟩
    rw [iLt_f h9, sel_f, sel_f]
    obtain ⟨c, b1, b2, b3⟩ := bytesOf_eq n' n m nm f u x y (by omega)
    rw [b2]
    rcases b3 with ⟨hc, b3⟩ | ⟨rfl, t, ht, b3, b4⟩
    · rw [b3]
      simp only [bnd_s, iEq_f hc, nf, sel_t]
      exact .inr ⟨_, _, rfl, rfl, .inl ⟨i, c, rfl, rfl⟩⟩
    · obtain ⟨_, _, _, _, _, r6, r7, r8⟩ := right_of n' n m nm f u x y (by omega) b2
      have htl : (sBy t).length ≤ 1000 := by rw [ht, entB_len r6]; omega
      have hsub : iSub .i64 (rs'.length : Int) 1 = ((rs.length - 1 : Nat) : Int) := by rw [sub_w (by unfold fits; omega)]; omega
      rw [b3, b4]
      simp only [bnd_s, show bNot (iEq 0 0) = false from rfl, sel_f, hsub]
      rw [oIn_y (a := ((rs.length - 1 : Nat) : Int)) (b := (rs'.length : Int)) (by omega), sel_t, F53_eq, bnd_s, mul_ite (by unfold fits; omega)]
      by_cases h12 : 1200 < iAdd .i64 (sLen (lAt rs' ((rs.length - 1 : Nat) : Int)).2.2) (sLen t)
      · rw [iLt_y h12, if_pos rfl]
        exact .inr ⟨_, _, rfl, rfl, .inl ⟨i, 30, rfl, rfl⟩⟩
      · rw [iLt_f h12]
        rw [add_w (by rw [by_len, by_len]; unfold fits; omega), by_len, by_len] at h12
        have hok : sOk (lAt rs' ((rs.length - 1 : Nat) : Int)).2.2 t = true := sOk_y (by omega)
        rw [hok]
        have hadd : iAdd .i64 (i : Int) 1 = ((i + 1 : Nat) : Int) := by rw [add_w (by unfold fits; omega)]; rfl
        refine .inl ⟨l.length - (i + 1), _, _, by omega, rfl, rfl, i + 1, lSet rs' ((rs.length - 1 : Nat) : Int) ((lAt rs' ((rs.length - 1 : Nat) : Int)).1, ((lAt rs' ((rs.length - 1 : Nat) : Int)).2.1, (sAdd (lAt rs' ((rs.length - 1 : Nat) : Int)).2.2 t))), iAdd .i64 n' 1, by rw [hadd], by rw [hadd], by rw [lSet_length, h1], ?_, by omega, rfl⟩
        rw [lAt_set (by omega), by_add, List.length_append]
        omega
  obtain ⟨r, t, q1, q2, ⟨i, c, rfl, rfl⟩ | ⟨rs', n', h8, rfl, rfl⟩⟩ := hloop
  · rw [q1, q2]
    exact ⟨[], 0, i, c, rfl, rfl, by simp⟩
  · rw [q1, q2]
    exact ⟨rs', n', lLen l, 0, rfl, rfl, h8⟩
end Go.Proofs.YtdnfnjaccbgplaaDoor.K
end

section
set_option linter.unusedVariables false
set_option linter.unusedSimpArgs false
set_option linter.unnecessarySimpa false
open Go Go.Ev
namespace Go.Proofs.YtdnfnjaccbgplaaDoor.K
/-- The last receiver has other bytes. -/
noncomputable def withB (rs : List RcvT) (s : ByteArray) : List RcvT := lSet rs ((rs.length - 1 : Nat) : Int) ((lAt rs ((rs.length - 1 : Nat) : Int)).1, ((lAt rs ((rs.length - 1 : Nat) : Int)).2.1, s))
noncomputable def lastB (rs : List RcvT) : ByteArray := (lAt rs ((rs.length - 1 : Nat) : Int)).2.2
theorem torn_two (rs : List RcvT) (next keep : Int) (hf : fewJ rs) : ∃ (rs' : List RcvT) (n' c : Int), F30 (rs, next) keep = some ((rs', n'), c) ∧ F33 (rs, next) keep = some (rs', (n', (0, c))) ∧ rs'.length ≤ 8 ∧ (c = 0 → 1 ≤ rs.length ∧ rs.length ≤ 6 ∧ 0 ≤ keep ∧ keep ≤ sLen (lastB rs) ∧ n' = next ∧ rs' = withB rs (sCut (lastB rs) 0 keep) ∧ ∃ l, Upto rs rs.length l next) := by
  have hll : ∀ r : List RcvT, lLen r = (r.length : Int) := fun _ => rfl
  obtain ⟨n, c, e1, e2, e3⟩ := check_two rs next hf
  unfold F30 F33 F70
  rw [e1, e2]
  simp only [bnd_s]
  by_cases hc : c = 0
  rotate_left
  · rw [iEq_f hc]
    exact ⟨[], 0, c, rfl, rfl, by simp, fun h => absurd h hc⟩
  subst hc
  rcases e3 with ⟨h, _⟩ | ⟨_, g1, g2, l0, rfl, hu, _⟩
  · exact absurd rfl h
  rw [show bNot (iEq 0 0) = false from rfl, sel_f, sel_f, F69_eq (by omega), F23_eq (by omega), bnd_s]
  simp only [hll]
  have hi1 : iSub .i64 (rs.length : Int) 1 = ((rs.length - 1 : Nat) : Int) := by rw [sub_w (by unfold fits; omega)]; omega
  rw [hi1, oIn_y (by omega), sel_t, sel_t, let_s, let_s]
  simp only [sel_t, bnd_s]
  by_cases hk : 0 ≤ keep ∧ keep ≤ sLen (lAt rs ((rs.length - 1 : Nat) : Int)).2.2
  · rw [(within_t hk).1, (within_t hk).2, nt, sel_f, sel_f, oCut_y (by omega), sel_t, sel_t, oIn_y (by omega), sel_t, sel_t]
    exact ⟨_, _, 0, rfl, rfl, by rw [lSet_length]; omega, fun _ => ⟨g1, g2, hk.1, hk.2, rfl, rfl, l0, hu⟩⟩
  · rw [(within_f hk).1, (within_f hk).2]
    exact ⟨[], 0, 3, rfl, rfl, by simp, fun h => absurd h (by decide)⟩
/-- All receivers but the last one are right, and the last one is in order. -/
def Fore (rs : List RcvT) (l : List EntT) (nx : Int) : Prop := 1 ≤ rs.length ∧ rs.length ≤ 6 ∧ Upto rs (rs.length - 1) l nx ∧ rErr rs (rs.length - 1) = 0 ∧ (lAt rs ((rs.length - 1 : Nat) : Int)).2.1 = nx
theorem recover_two (rs : List RcvT) (next : Int) (hf : fewJ rs) : ∃ (rs' : List RcvT) (n' n c : Int), F31 (rs, next) = some ((rs', n'), (n, c)) ∧ F32 (rs, next) = some (rs', (n', (n, c))) ∧ rs'.length ≤ 8 ∧
    ((c ≠ 0 ∧ ∀ l nx, ¬ Fore rs l nx) ∨ (c = 0 ∧ ∃ l nx li b c', Fore rs l nx ∧ Seq (lastB rs) nx li 0 b 0 ∧ Ends (lastB rs) nx li b c' ∧ rs' = withB rs (sCut (lastB rs) 0 b) ∧ n' = iAdd .i64 nx (li.length : Int) ∧ n = sLen (lastB rs) - b)) := by
  have hll : ∀ r : List RcvT, lLen r = (r.length : Int) := fun _ => rfl
  unfold F31 F32 F66
  simp only [let_s, hll]
  by_cases hsh : 1 ≤ rs.length ∧ rs.length ≤ 6
  rotate_left
  · rw [(within_f (a := (rs.length : Int)) (b := 1) (c := 6) (by omega)).1, (within_f (a := (rs.length : Int)) (b := 1) (c := 6) (by omega)).2]
    exact ⟨[], 0, 0, 6, rfl, rfl, by simp, .inl ⟨by decide, fun l nx h => hsh ⟨h.1, h.2.1⟩⟩⟩
  have hi1 : iSub .i64 (rs.length : Int) 1 = ((rs.length - 1 : Nat) : Int) := by rw [sub_w (by unfold fits; omega)]; omega
  have hb := few_by hf (rs.length - 1) (by omega)
  rw [(within_t (a := (rs.length : Int)) (b := 1) (c := 6) (by omega)).1, (within_t (a := (rs.length : Int)) (b := 1) (c := 6) (by omega)).2, nt, sel_f, sel_f, oIn_y (by omega), sel_t, F23_eq (by omega), bnd_s]
  have hloop : ∃ r t, L66_0 (false, ((rs, next), (([] : List EntT), (0, (rs, ((rs.length : Int), 0)))))) = some r ∧ L32_0 ((rs, next), ((0, (0, 0)), ((lAt rs 0).2.1, ((rs, next), 0)))) = some t ∧
      ((∃ i c : Int, c ≠ 0 ∧ r = .inr (i, c) ∧ t = .inr (.inl (0, (0, c))) ∧ ∀ l nx, ¬ Fore rs l nx) ∨ ∃ l nx nx' li b c', r = .inl (false, ((rs, next), (l, nx'))) ∧ Fore rs l nx ∧ F72 (lAt rs ((rs.length - 1 : Nat) : Int)) = some (li, (((b : Nat) : Int), c')) ∧ Seq (lastB rs) nx li 0 b 0 ∧ Ends (lastB rs) nx li b c' ∧ t = .inr (.inr (withB rs (sCut (lastB rs) 0 b), (iAdd .i64 nx (li.length : Int), (sLen (lastB rs) - b, 0))))) := by
    unfold L66_0 L32_0
    refine loop_two (fun m x y => ∃ (i : Nat) (l : List EntT) (nx : Int), x = (false, ((rs, next), (l, (nxP i nx, (rs, ((rs.length : Int), (i : Int))))))) ∧ y = ((rs, next), ((0, (0, 0)), (nx, ((rs, next), (i : Int))))) ∧ i < rs.length ∧ m = rs.length - i ∧ Upto rs i l nx) rs.length ⟨0, [], _, rfl, rfl, by omega, by omega, rfl, rfl⟩ (by omega) ?_
    rintro m x y ⟨i, l, nx, rfl, rfl, hlt, rfl, hu⟩
    simp only
    unfold B66_0 B32_0
    simp only [hll]
    have hOne : ∀ l' nx', Upto rs (rs.length - 1) l' nx' → ∃ l0 nx0, Upto rs i l0 nx0 ∧ (i < rs.length - 1 → rErr rs i = 0 ∧ (lAt rs (i : Nat)).2.1 = nx0 ∧ ∃ li, Seq (lAt rs (i : Nat)).2.2 nx0 li 0 (sBy (lAt rs (i : Nat)).2.2).length 0) ∧ (i = rs.length - 1 → l0 = l' ∧ nx0 = nx') := by
      have gen : ∀ d j l' nx', j = i + d → Upto rs j l' nx' → ∃ l0 nx0, Upto rs i l0 nx0 ∧ (i < j → rErr rs i = 0 ∧ (lAt rs (i : Nat)).2.1 = nx0 ∧ ∃ li, Seq (lAt rs (i : Nat)).2.2 nx0 li 0 (sBy (lAt rs (i : Nat)).2.2).length 0) ∧ (i = j → l0 = l' ∧ nx0 = nx') := by
        intro d
        induction d with
        | zero => intro j l' nx' hj h; subst hj; exact ⟨l', nx', h, fun h => by omega, fun _ => ⟨rfl, rfl⟩⟩
        | succ d ih =>
          intro j l' nx' hj h
          obtain rfl : j = i + d + 1 := by omega
          obtain ⟨l0, nx0, li, h0, h1, h2, h3, h4, h5⟩ := h
          obtain ⟨l1, nx1, k1, k2, k3⟩ := ih (i + d) l0 nx0 rfl h0
          refine ⟨l1, nx1, k1, fun _ => ?_, fun h => by omega⟩
          by_cases hd : d = 0
          · subst hd
            obtain ⟨rfl, rfl⟩ := k3 (by omega)
            exact ⟨h1, h2, li, h3⟩
          · exact k2 (by omega)
      intro l' nx' h
      exact gen (rs.length - 1 - i) (rs.length - 1) l' nx' (by omega) h
    rw [iLt_y (by omega), sel_t, sel_t, oIn_y (by omega), sel_t, sel_t, F85_eq rs next i hlt (by omega), F67_eq rs next i nx hlt (by omega), bnd_s, bnd_s]
    by_cases he : rErr rs i = 0
    rotate_left
    · rw [if_pos he, iEq_f he]
      refine .inr ⟨_, _, rfl, rfl, .inl ⟨_, _, he, rfl, rfl, ?_⟩⟩
      rintro l' nx' ⟨_, _, f1, f2, f3⟩
      obtain ⟨l0, nx0, _, k2, _⟩ := hOne l' nx' f1
      by_cases hlast : i = rs.length - 1
      · rw [hlast] at he; exact he f2
      · exact he (k2 (by omega)).1
    rw [if_neg (by simpa using he), he]
    by_cases ho : i ≠ 0 ∧ (lAt rs (i : Int)).2.1 ≠ nx
    · rw [if_pos ho]
      refine .inr ⟨_, _, ?_, rfl, .inl ⟨i, 14, by decide, rfl, rfl, ?_⟩⟩
      · rw [sel_neg (by rfl), sel_pos]
        unfold nxP
        rw [if_neg ho.1, and_t, iLt_t, not_t, bf_t, iEq_t]
        exact ⟨by omega, ho.2⟩
      · rintro l' nx' ⟨_, _, f1, f2, f3⟩
        obtain ⟨l0, nx0, k1, k2, k3⟩ := hOne l' nx' f1
        obtain ⟨_, rfl⟩ := hu.one hf (by omega) k1
        by_cases hlast : i = rs.length - 1
        · obtain ⟨_, rfl⟩ := k3 hlast
          rw [← hlast] at f3
          exact ho.2 f3
        · exact ho.2 (k2 (by omega)).2.1
    rw [if_neg ho]
    have hF : (lAt rs (i : Int)).2.1 = nx := by
      by_cases h0 : i = 0
      · subst h0; exact hu.2.symm
      · exact Classical.byContradiction fun hc => ho ⟨h0, hc⟩
    have hP : bAnd (iLt 0 (i : Int)) (bNot (iEq (lAt rs (i : Int)).2.1 (nxP i nx))) = false := by
      rw [bf_t, and_t, iLt_t, not_t, bf_t, iEq_t]
      unfold nxP
      rintro ⟨h1, h2⟩
      rw [if_neg (by omega)] at h2
      exact h2 hF
    rw [hP, show bNot (iEq 0 0) = false from rfl, sel_f, sel_f, sel_f, show bAnd (bNot false) (iEq (i : Int) (iSub .i64 (rs.length : Int) 1)) = (iEq (i : Int) (iSub .i64 (rs.length : Int) 1)) from by cases iEq (i : Int) (iSub .i64 (rs.length : Int) 1) <;> rfl, hi1]
    have hb := few_by hf i hlt
    obtain ⟨li, b, c, w1, w2, w3, w4⟩ := whole_eq (lAt rs (i : Int)).1 (lAt rs (i : Int)).2.1 (lAt rs (i : Int)).2.2 (by omega)
    have w1 : F72 (lAt rs (i : Int)) = _ := w1
    rw [hF] at w2 w3 w4
    have hle := w3.le (by omega)
    rw [w2, bnd_s]
    by_cases hlast : i = rs.length - 1
    · rw [iEq_y (by omega), sel_t, sel_t]
      simp only [sel_t]
      rw [oCut_y (by rw [by_len]; omega), sel_t]
      refine .inr ⟨_, _, rfl, rfl, .inr ⟨l, nx, nxP i nx, li, b, c, rfl, ⟨hsh.1, hsh.2, by rw [← hlast]; exact hu, by rw [← hlast]; exact he, by rw [← hlast]; exact hF⟩, by rw [← hlast]; exact w1, ?_, ?_, ?_⟩⟩
      · unfold lastB; rw [← hlast]; exact w3
      · unfold lastB; rw [← hlast]; exact w4
      · unfold withB lastB
        rw [← hlast, sub_w (by rw [by_len]; unfold fits; omega)]
        rfl
    · rw [iEq_f (by omega), sel_f, sel_f, w1, bnd_s]
      rcases w4 with ⟨rfl, rfl⟩ | ⟨hc, w4⟩
      · obtain ⟨n1, n2, n3⟩ := hu.nx hf (by omega)
        refine .inl ⟨rs.length - (i + 1), _, _, by omega, ?_, ?_, i + 1, l ++ li, iAdd .i64 nx (li.length : Int), rfl, rfl, by omega, rfl, l, nx, li, hu, he, hF, w3, rfl, rfl⟩
        · rw [show bNot (iEq 0 0) = false from rfl, sel_f, sel_pos (lCap_y (by omega) (by omega) (by show (l ++ li).length ≤ _; rw [List.length_append]; omega)), hF, add_w (b := 1) (by unfold fits; omega)]
          unfold nxP
          rw [if_neg (by omega)]
          rfl
        · rw [show bNot (iEq 0 0) = false from rfl, sel_f, add_w (b := 1) (by unfold fits; omega)]
          rfl
      · rw [iEq_f hc]
        refine .inr ⟨_, _, rfl, rfl, .inl ⟨_, _, hc, rfl, rfl, ?_⟩⟩
        rintro l' nx' ⟨_, _, f1, f2, f3⟩
        obtain ⟨l0, nx0, k1, k2, k3⟩ := hOne l' nx' f1
        obtain ⟨_, rfl⟩ := hu.one hf (by omega) k1
        obtain ⟨_, _, li', hs'⟩ := k2 (by omega)
        obtain ⟨_, _, h0⟩ := Seq.uniq (c := c) (c' := 0) (by omega) w3 (.inr ⟨hc, w4⟩) hs' (.inl ⟨rfl, rfl⟩)
        exact hc h0
  obtain ⟨r, t, e1, e2, ⟨i, c, hc, rfl, rfl, hno⟩ | ⟨l, nx, nx', li, b, c', rfl, hfo, hw, hs, he, rfl⟩⟩ := hloop
  · rw [e1, e2]
    refine ⟨[], 0, 0, c, ?_, rfl, by simp, .inl ⟨hc, hno⟩⟩
    rw [bnd_s]
    show bndS (some _) _ = _
    rw [bnd_s]
    show sel (bNot (iEq c 0)) _ _ = _
    rw [iEq_f hc]
    rfl
  · have hle := hs.le (by omega)
    have hlb : (sBy (lastB rs)).length ≤ 1300 := hb
    rw [e1, e2, bnd_s, bnd_s]
    refine ⟨withB rs (sCut (lastB rs) 0 b), iAdd .i64 nx (li.length : Int), sLen (lastB rs) - b, 0, ?_, rfl, by unfold withB; rw [lSet_length]; omega, .inr ⟨rfl, l, nx, li, b, c', hfo, hs, he, rfl, rfl, rfl⟩⟩
    show bndS (some (l, ((0 : Int), (0 : Int)))) _ = _
    rw [bnd_s]
    show sel (bNot (iEq 0 0)) _ _ = _
    rw [show bNot (iEq 0 0) = false from rfl, sel_f, F69_eq (by omega), bnd_s]
    simp only [hll]
    rw [hi1, oIn_y (by omega), sel_t, hw, bnd_s]
    show sel (oCut 0 (b : Int) (sLen (lastB rs))) _ _ = _
    rw [oCut_y (by rw [by_len]; omega), sel_t, lAt_set (by omega)]
    show some ((withB rs (sCut (lastB rs) 0 (b : Int)), iAdd .i64 (lAt rs ((rs.length - 1 : Nat) : Int)).2.1 (li.length : Int)), (iSub .i64 (sLen (lastB rs)) (b : Int), (0 : Int))) = _
    rw [hfo.2.2.2.2, sub_w (by rw [by_len]; unfold fits; omega)]
end Go.Proofs.YtdnfnjaccbgplaaDoor.K
end

section
set_option linter.unusedVariables false
set_option linter.unusedSimpArgs false
set_option linter.unnecessarySimpa false
open Go Go.Ev
namespace Go.Proofs.YtdnfnjaccbgplaaDoor.K
theorem whole_right {rs : List RcvT} (hf : fewJ rs) {i : Nat} (hi : i < rs.length) {nx0 : Int} {li : List EntT} (h1 : (lAt rs (i : Nat)).2.1 = nx0) (h2 : Seq (lAt rs (i : Nat)).2.2 nx0 li 0 (sBy (lAt rs (i : Nat)).2.2).length 0) : ∃ z w, F68 (lAt rs (i : Nat)).2.2 (lAt rs (i : Nat)).2.1 = some (li, (z, (w, 0))) := by
  have hb := few_by hf i hi
  obtain ⟨li', b, c, w1, w2, w3, w4⟩ := whole_eq (lAt rs (i : Int)).1 (lAt rs (i : Int)).2.1 (lAt rs (i : Int)).2.2 (by omega)
  rw [h1] at w2 w3 w4
  obtain ⟨rfl, rfl, rfl⟩ := Seq.uniq (c := 0) (by omega) h2 (.inl ⟨rfl, rfl⟩) w3 w4
  rw [h1]
  exact ⟨_, _, w2⟩
theorem F73_eq {rs : List RcvT} {next : Int} (hf : fewJ rs) {l : List EntT} (hu : Upto rs rs.length l next) : F73 (rs, next) = some l := by
  have hll : lLen rs = (rs.length : Int) := rfl
  have h8 := hf.1
  unfold F73 L73_0
  have hl := loop_inv (B := fun (x : (((List RcvT) × Int) × ((List EntT) × Int))) => (B73_0 x.1.1 x.1.2 x.2.1 x.2.2)) (Q := fun r => r = l) (x := ((rs, next), (([] : List EntT), 0)))
    (fun m x => ∃ (i : Nat) (l0 : List EntT) (nx0 : Int), x = ((rs, next), (l0, (i : Int))) ∧ i ≤ rs.length ∧ m = rs.length - i ∧ Upto rs i l0 nx0) rs.length ⟨0, [], _, rfl, by omega, by omega, rfl, rfl⟩ (by omega) ?_
  · rw [ok_is] at hl
    rw [hl]
    rfl
  · rintro m x ⟨i, l0, nx0, rfl, hi, rfl, h0⟩
    simp only
    unfold B73_0
    by_cases hlt : i < rs.length
    · obtain ⟨l1, nx1, li, g0, g1, g2, g3, g4⟩ := hu.at i hlt
      obtain ⟨rfl, rfl⟩ := h0.one hf hi g0
      obtain ⟨z, w, hw⟩ := whole_right hf hlt g2 g3
      obtain ⟨_, n2, _⟩ := g4.nx hf (by omega)
      rw [iLt_y (by omega), sel_t, oIn_y (by omega), sel_t, sel_t, hw, bnd_s, sel_pos (lCap_y (by omega) (by omega) (by show (l0 ++ li).length ≤ _; omega)), ok_some, add_w (by unfold fits; omega)]
      exact ⟨rs.length - (i + 1), by omega, i + 1, l0 ++ li, _, rfl, by omega, rfl, g4⟩
    · obtain rfl : i = rs.length := by omega
      rw [iLt_f (by omega), sel_f, ok_some]
      exact (h0.one hf hi hu).1
theorem entries_two (rs : List RcvT) (next a b : Int) (hf : fewJ rs) (ha : fits a) (hb : fits b) : ∃ (l : List EntT) (lo hi c : Int), F39 (rs, next) a b = some ((l, lo, hi), c) ∧ F41 (rs, next) a b = some ((l, lo, hi), c) ∧ l.length ≤ 1000 ∧
    (∀ l0 : List EntT, Upto rs rs.length l0 next → 1 ≤ rs.length → rs.length ≤ 6 → (lAt rs (0 : Nat)).2.1 ≤ a → a ≤ b → b ≤ next - 1 → l = l0 ∧ c = 0 ∧ lo = a - (lAt rs (0 : Nat)).2.1 ∧ hi = b - (lAt rs (0 : Nat)).2.1 + 1) := by
  have hll : ∀ r : List RcvT, lLen r = (r.length : Int) := fun _ => rfl
  have h8 := hf.1
  unfold fits at ha hb
  obtain ⟨n, c, e1, e2, e3⟩ := check_two rs next hf
  unfold F39 F41 F70
  rw [e2]
  simp only [bnd_s]
  rcases e3 with ⟨hc, ⟨i, e3⟩, hno⟩ | ⟨rfl, g1, g2, l, rfl, hu, e3⟩
  · rw [e3, bnd_s]
    show ∃ l lo hi c', sel (bNot (iEq c 0)) _ _ = _ ∧ _
    rw [iEq_f hc]
    exact ⟨[], 0, 0, c, rfl, rfl, by simp, fun l0 hu h1 h2 _ _ _ => absurd ⟨h1, h2, hu⟩ (hno l0)⟩
  rw [e3, bnd_s]
  show ∃ l lo hi c', sel (bNot (iEq 0 0)) _ _ = _ ∧ _
  rw [show bNot (iEq 0 0) = false from rfl, sel_f, sel_f]
  obtain ⟨n1, n2, n3⟩ := hu.nx hf (by omega)
  have n4 := n3 (by omega)
  have hFF : ∀ a b c, F37 a b c = F50 a b c := fun _ _ _ => rfl
  simp only [let_s, hFF, F73_eq hf hu, bnd_s, hll]
  have hs1 : iSub .i64 next 1 = next - 1 := sub_w (by unfold fits; omega)
  rw [hs1]
  have hor : ∀ p q : Bool, sel (bNot p) (bNot p) (bNot q) = bOr (bNot p) (bNot q) := by intro p q; cases p <;> cases q <;> rfl
  rw [hor, oIn_y (by omega), sel_t]
  by_cases q1 : 1 ≤ a ∧ a ≤ next
  rotate_left
  · rw [show F50 a 1 next = false by rw [bf_t, F50_t]; exact q1]
    exact ⟨[], 0, 0, 3, rfl, rfl, by simp, fun l0 _ _ _ h1 h2 h3 => absurd ⟨by omega, by omega⟩ q1⟩
  rw [(F50_t a 1 next).mpr q1, sub_w (a := a) (b := 1) (by unfold fits; omega)]
  by_cases q2 : a - 1 ≤ b ∧ b ≤ next - 1
  rotate_left
  · rw [show F50 b (a - 1) (next - 1) = false by rw [bf_t, F50_t]; exact q2]
    exact ⟨[], 0, 0, 3, rfl, rfl, by simp, fun l0 _ _ _ h1 h2 h3 => absurd ⟨by omega, by omega⟩ q2⟩
  rw [(F50_t b (a - 1) (next - 1)).mpr q2, show bOr (bNot true) (bNot true) = false from rfl, sel_f]
  by_cases q3 : b < a
  · rw [iLt_y q3]
    exact ⟨[], 0, 0, 0, rfl, rfl, by simp, fun l0 _ _ _ h1 h2 h3 => absurd h2 (by omega)⟩
  rw [iLt_f q3, sel_f]
  by_cases q4 : a < (lAt rs (0 : Nat)).2.1
  · have q4' : a < (lAt rs 0).2.1 := q4
    rw [iLt_y q4']
    exact ⟨[], 0, 0, 11, rfl, rfl, by simp, fun l0 _ _ _ h1 h2 h3 => absurd q4 (by omega)⟩
  have q4' : ¬ a < (lAt rs 0).2.1 := q4
  have e5 : iSub .i64 a (lAt rs 0).2.1 = a - (lAt rs (0 : Nat)).2.1 := sub_w (by show fits (a - (lAt rs (0 : Nat)).2.1); unfold fits; omega)
  have e6 : iSub .i64 b (lAt rs 0).2.1 = b - (lAt rs (0 : Nat)).2.1 := sub_w (by show fits (b - (lAt rs (0 : Nat)).2.1); unfold fits; omega)
  have hl : lLen l = (l.length : Int) := rfl
  rw [iLt_f q4', e5, e6, add_w (by unfold fits; omega), oCut_y (by omega)]
  simp only [sel_f, sel_t]
  refine ⟨l, _, _, 0, rfl, rfl, by omega, fun l0 hu0 _ _ _ _ _ => ⟨(hu.one hf (by omega) hu0).1, rfl, rfl, rfl⟩⟩
end Go.Proofs.YtdnfnjaccbgplaaDoor.K
end

section
set_option linter.unusedVariables false
set_option linter.unusedSimpArgs false
set_option linter.unnecessarySimpa false
open Go Go.Ev
namespace Go.Proofs.YtdnfnjaccbgplaaDoor.K
theorem F36_eq (a b : List EntT) (h : a.length ≤ 1000000) (hab : a = b) : F36 a b = some true := by
  subst hab
  have hll : lLen a = (a.length : Int) := rfl
  unfold F36
  rw [iEq_y rfl, nt, sel_f]
  unfold L36_0
  have h1 := iter_run (B := fun (x : ((List EntT) × ((List EntT) × Int))) => (B36_0 x.1 x.2.1 x.2.2)) (fun i => (a, (a, (i : Int)))) (r := .inl ()) a.length (by omega) ?_ ?_
  · have h1 : iter (fun (x : ((List EntT) × ((List EntT) × Int))) => (B36_0 x.1 x.2.1 x.2.2)) fuel (a, (a, 0)) = _ := h1
    rw [h1]
    rfl
  · intro k hk
    show B36_0 a a k = _
    unfold B36_0
    simp only [iEq_y rfl, sEq_y rfl]
    rw [iLt_y (by omega), sel_t, oIn_y (by omega), sel_t, sel_t, sel_neg (by rfl), add_w (by unfold fits; omega)]
    rfl
  · show B36_0 a a a.length = _
    unfold B36_0
    rw [iLt_f (by omega), sel_f]
theorem lCut_length {α : Type} (l : List α) (a b : Int) : (lCut l a b).length ≤ l.length := by
  unfold lCut
  rw [List.length_drop, List.length_take]
  omega
theorem recvOf_two (rs : List RcvT) (next a : Int) (hf : fewJ rs) : ∃ (s : ByteArray) (c : Int), F40 (rs, next) a = some (s, c) ∧ F42 (rs, next) a = some (s, c) := by
  have hll : lLen rs = (rs.length : Int) := rfl
  have h8 := hf.1
  obtain ⟨n, c, e1, e2, e3⟩ := check_two rs next hf
  unfold F40 F42 F70
  rw [e1, e2]
  simp only [bnd_s]
  by_cases hc : c = 0
  rotate_left
  · rw [iEq_f hc]
    exact ⟨_, c, rfl, rfl⟩
  subst hc
  rcases e3 with ⟨h, _⟩ | ⟨_, g1, g2, l, rfl, hu, _⟩
  · exact absurd rfl h
  obtain ⟨n1, n2, n3⟩ := hu.nx hf (by omega)
  have n4 := n3 (by omega)
  rw [show bNot (iEq 0 0) = false from rfl, sel_f, sel_f, hll]
  have hloop : ∃ r t, L40_0 (a, ((rs, next), (rs, ((rs.length : Int), 0)))) = some r ∧ L42_0 (a, ((rs, next), 0)) = some t ∧ r = t := by
    unfold L40_0 L42_0
    refine loop_two (fun m x y => ∃ (i : Nat), x = (a, ((rs, next), (rs, ((rs.length : Int), (i : Int))))) ∧ y = (a, ((rs, next), (i : Int))) ∧ i ≤ rs.length ∧ m = rs.length - i) rs.length ⟨0, rfl, rfl, by omega, by omega⟩ (by omega) ?_
    rintro m x y ⟨i, rfl, rfl, hi, rfl⟩
    simp only
    unfold B40_0 B42_0
    simp only [hll]
    by_cases hlt : i < rs.length
    rotate_left
    · rw [iLt_f (by omega), sel_f, sel_f]
      exact .inr ⟨_, _, rfl, rfl, rfl⟩
    obtain ⟨l0, nx0, li, k0, k1, k2, k3, k4⟩ := hu.at i hlt
    obtain ⟨z, w, hw⟩ := whole_right hf hlt k2 k3
    have hb := few_by hf i hlt
    have hle := k3.le (by omega)
    obtain ⟨m1, m2, m3⟩ := k0.nx hf hi
    have hnx : 1 ≤ nx0 ∧ nx0 ≤ 10000 := by
      by_cases h : i = 0
      · subst h
        rw [k0.2]
        exact ⟨n4.1, n4.2.1⟩
      · have := m3 (by omega)
        omega
    obtain ⟨se, _⟩ := seq_end k3 hnx (by omega)
    rw [se] at k4
    have hi1 : iAdd .i64 (i : Int) 1 = ((i + 1 : Nat) : Int) := by rw [add_w (by unfold fits; omega)]; rfl
    have hend : sel (iLt ((i + 1 : Nat) : Int) (rs.length : Int)) (lAt rs ((i + 1 : Nat) : Int)).2.1 next = nx0 + li.length := by
      by_cases hj : i + 1 < rs.length
      · rw [iLt_y (by omega), sel_t]
        obtain ⟨_, nx1, _, j0, _, j2, _⟩ := hu.at (i + 1) hj
        rw [j2]
        exact (k4.one hf (by omega) j0).2.symm
      · rw [iLt_f (by omega), sel_f]
        have : i + 1 = rs.length := by omega
        rw [this] at k4
        exact (k4.one hf (by omega) hu).2.symm
    rw [iLt_y (a := (i : Int)) (by omega), sel_t, sel_t, oIn_y (a := (i : Int)) (by omega), sel_t, sel_t, hi1, hw, bnd_s]
    rw [sel_pos (b := bOr _ _) (by rw [or_t, oIn_t, not_t, bf_t, iLt_t]; omega), hend]
    have hl2 : lLen li = (li.length : Int) := rfl
    rw [k2, sub_w (by unfold fits; omega), let_s, let_s]
    show _ ∨ ∃ r s, _ ∧ sel (bAnd (iLt 0 (lLen li)) (F37 a nx0 (iSub .i64 (iAdd .i64 nx0 (lLen li)) 1))) _ _ = _ ∧ _
    rw [hl2, add_w (a := nx0) (by unfold fits; omega), sub_w (a := nx0 + (li.length : Int)) (by unfold fits; omega)]
    by_cases hw : nx0 ≤ a ∧ a ≤ nx0 + li.length - 1
    · rw [(within_t hw).1, (within_t hw).2, iLt_y (by omega)]
      exact .inr ⟨_, _, rfl, rfl, rfl⟩
    · rw [(within_f hw).1, (within_f hw).2]
      refine .inl ⟨rs.length - (i + 1), _, _, by omega, rfl, ?_, i + 1, rfl, rfl, by omega, rfl⟩
      rw [sel_neg]
      rw [bf_t, and_t]
      intro h
      cases h.2
  obtain ⟨r, t, q1, q2, rfl⟩ := hloop
  rw [q1, q2]
  cases r with
  | inl u => exact ⟨_, 11, rfl, rfl⟩
  | inr p => exact ⟨p.1, p.2, rfl, rfl⟩
end Go.Proofs.YtdnfnjaccbgplaaDoor.K
end

section
set_option linter.unusedVariables false
set_option linter.unusedSimpArgs false
set_option linter.unnecessarySimpa false
open Go Go.Ev
namespace Go.Proofs.YtdnfnjaccbgplaaDoor.K
theorem at_two (rs : List RcvT) (next : Int) (nm : ByteArray) (h : rs.length ≤ 1000) : ∃ i : Int, F74 (rs, next) nm = some i ∧ F75 (rs, next) nm = some i ∧ ((i = -1 ∧ ¬ dupN rs nm rs.length) ∨ (0 ≤ i ∧ dupN rs nm rs.length)) := by
  have hll : lLen rs = (rs.length : Int) := rfl
  unfold F74 F75 F87_1 L87_0_1 L75_0
  simp only [hll]
  have a1 := iter_first (B := fun (x : (ByteArray × ((List RcvT) × (Int × Int)))) => (B87_0_1 x.1 x.2.1 x.2.2.1 x.2.2.2)) (fun k => (nm, (rs, ((rs.length : Int), (k : Int))))) (fun k => (lAt rs (k : Int)).1 = nm) rs.length (fun k => .inr (nm, (k : Int))) (.inl nm) (by omega) ?_ ?_ ?_
  have a2 := iter_first (B := fun (x : (ByteArray × (((List RcvT) × Int) × Int))) => (B75_0 x.1 x.2.1.1 x.2.1.2 x.2.2)) (fun k => (nm, ((rs, next), (k : Int)))) (fun k => (lAt rs (k : Int)).1 = nm) rs.length (fun k => .inr (k : Int)) (.inl ()) (by omega) ?_ ?_ ?_
  · have e1 : ∀ v, iter (fun (x : (ByteArray × ((List RcvT) × (Int × Int)))) => (B87_0_1 x.1 x.2.1 x.2.2.1 x.2.2.2)) fuel (nm, (rs, ((rs.length : Int), ((0 : Nat) : Int)))) = v → iter (fun (x : (ByteArray × ((List RcvT) × (Int × Int)))) => (B87_0_1 x.1 x.2.1 x.2.2.1 x.2.2.2)) fuel (nm, (rs, ((rs.length : Int), 0))) = v := fun _ h => h
    have e2 : ∀ v, iter (fun (x : (ByteArray × (((List RcvT) × Int) × Int))) => (B75_0 x.1 x.2.1.1 x.2.1.2 x.2.2)) fuel (nm, ((rs, next), ((0 : Nat) : Int))) = v → iter (fun (x : (ByteArray × (((List RcvT) × Int) × Int))) => (B75_0 x.1 x.2.1.1 x.2.1.2 x.2.2)) fuel (nm, ((rs, next), 0)) = v := fun _ h => h
    rcases a1 with ⟨k, h1, h2, h3, h4⟩ | ⟨h1, h4⟩
    · rcases a2 with ⟨q, g1, g2, g3, g4⟩ | ⟨g1, g4⟩
      · have : k = q := by
          rcases Nat.lt_trichotomy k q with h | h | h
          · exact absurd h2 (g3 k h)
          · exact h
          · exact absurd g2 (h3 q h)
        subst this
        rw [e1 _ h4, e2 _ g4]
        exact ⟨k, rfl, rfl, .inr ⟨by omega, k, h1, h2⟩⟩
      · exact absurd h2 (g1 k h1)
    · rcases a2 with ⟨q, g1, g2, g3, g4⟩ | ⟨g1, g4⟩
      · exact absurd g2 (h1 q g1)
      · rw [e1 _ h4, e2 _ g4]
        exact ⟨-1, rfl, rfl, .inl ⟨rfl, fun ⟨k, k1, k2⟩ => h1 k k1 k2⟩⟩
  · intro k hk hp
    show B75_0 nm rs next k = _
    unfold B75_0
    rw [iLt_y (by omega), sel_t, oIn_y (by omega), sel_t, sEq_f hp, sel_f, add_w (by unfold fits; omega)] <;> rfl
  · intro k hk hp
    show B75_0 nm rs next k = _
    unfold B75_0
    rw [iLt_y (by omega), sel_t, oIn_y (by omega), sel_t, sEq_y hp, sel_t]
  · show B75_0 nm rs next rs.length = _
    unfold B75_0
    rw [iLt_f (by omega), sel_f]
  · intro k hk hp
    show B87_0_1 nm rs rs.length k = _
    unfold B87_0_1 F88
    rw [iLt_y (by omega), sel_t, oIn_y (by omega), sel_t, let_s, sEq_f hp, sel_f, add_w (by unfold fits; omega)] <;> rfl
  · intro k hk hp
    show B87_0_1 nm rs rs.length k = _
    unfold B87_0_1 F88
    rw [iLt_y (by omega), sel_t, oIn_y (by omega), sel_t, let_s, sEq_y hp, sel_t]
  · show B87_0_1 nm rs rs.length rs.length = _
    unfold B87_0_1
    rw [iLt_f (by omega), sel_f]
theorem new_two (nm : ByteArray) : ∃ (rs : List RcvT) (n c : Int), F43 nm = some ((rs, n), c) ∧ F46 nm = some (rs, (n, (0, c))) ∧ rs.length ≤ 8 := by
  unfold F43 F46
  rw [F51_any, F55_any, bnd_s, bnd_s]
  cases nmOK (sBy nm) with
  | false => exact ⟨[], 0, 7, rfl, rfl, by simp⟩
  | true => exact ⟨_, 1, 0, rfl, rfl, by simp⟩
theorem attach_two (rs : List RcvT) (next : Int) (nm : ByteArray) (hf : fewJ rs) : ∃ (rs' : List RcvT) (n c : Int), F44 (rs, next) nm = some ((rs', n), c) ∧ F47 (rs, next) nm = some (rs', (n, (0, c))) ∧ rs'.length ≤ 9 ∧
    (1 ≤ rs.length → rs.length < 6 → (∃ l, Upto rs rs.length l next) → nmOK (sBy nm) = true → ¬ dupN rs nm rs.length → c = 0 ∧ n = next ∧ rs' = rs ++ [(nm, (next, bs []))]) := by
  have hll : lLen rs = (rs.length : Int) := rfl
  have h8 := hf.1
  obtain ⟨n, c, e1, e2, e3⟩ := check_two rs next hf
  unfold F44 F47 F70
  rw [e1, e2]
  simp only [bnd_s]
  by_cases hc : c = 0
  rotate_left
  · rw [iEq_f hc]
    rcases e3 with ⟨_, _, hno⟩ | ⟨h, _⟩
    · exact ⟨[], 0, c, rfl, rfl, by simp, fun h1 h2 ⟨l, h3⟩ => absurd ⟨h1, by omega, h3⟩ (hno l)⟩
    · exact absurd h hc
  subst hc
  rcases e3 with ⟨h, _⟩ | ⟨_, g1, g2, l, rfl, hu, _⟩
  · exact absurd rfl h
  obtain ⟨i, a1, a2, a3⟩ := at_two rs next nm (by omega)
  rw [show bNot (iEq 0 0) = false from rfl, sel_f, sel_f, F51_any, F55_any, bnd_s, bnd_s]
  cases hn : nmOK (sBy nm) with
  | false => exact ⟨[], 0, 7, rfl, rfl, by simp, fun _ _ _ h => by cases h⟩
  | true =>
    rw [nt, sel_f, sel_f, a1, a2, bnd_s, bnd_s]
    rcases a3 with ⟨rfl, hd⟩ | ⟨hi, hd⟩
    · rw [iLe_f (by omega), iEq_y rfl, nt, sel_f, sel_f, hll]
      by_cases h6 : rs.length = 6
      · rw [iEq_y (by omega)]
        exact ⟨[], 0, 30, rfl, rfl, by simp, fun _ h => by omega⟩
      · rw [iEq_f (by omega), sel_f, sel_f, F69_eq (by omega), F23_eq (by omega), bnd_s, bnd_s]
        rw [sel_pos (lCap_y (by omega) (by omega) (by show (rs ++ _).length ≤ _; rw [List.length_append, List.length_singleton]; omega)), sel_pos (lCap_y (by omega) (by omega) (by show (rs ++ _).length ≤ _; rw [List.length_append, List.length_singleton]; omega))]
        refine ⟨_, next, 0, rfl, rfl, ?_, fun _ _ _ _ _ => ⟨rfl, rfl, rfl⟩⟩
        show (rs ++ _).length ≤ _
        rw [List.length_append, List.length_singleton]
        omega
    · rw [iLe_y hi, iEq_f (a := i) (b := -1) (by omega)]
      exact ⟨[], 0, 12, rfl, rfl, by simp, fun _ _ _ _ h => absurd hd h⟩
theorem delete_two (rs : List RcvT) (next : Int) (nm : ByteArray) (hf : fewJ rs) : ∃ (rs' : List RcvT) (lo hi n c : Int), F45 (rs, next) nm = some (((rs', lo, hi), n), c) ∧ F48 (rs, next) nm = some ((rs', lo, hi), (n, (0, c))) ∧ rs'.length ≤ 9 := by
  have hll : lLen rs = (rs.length : Int) := rfl
  have h8 := hf.1
  obtain ⟨n, c, e1, e2, e3⟩ := check_two rs next hf
  unfold F45 F48 F70
  rw [e1, e2]
  simp only [bnd_s]
  by_cases hc : c = 0
  rotate_left
  · rw [iEq_f hc]
    exact ⟨[], 0, 0, 0, c, rfl, rfl, by simp⟩
  subst hc
  rcases e3 with ⟨h, _⟩ | ⟨_, g1, g2, l, rfl, hu, _⟩
  · exact absurd rfl h
  obtain ⟨i, a1, a2, a3⟩ := at_two rs next nm (by omega)
  rw [show bNot (iEq 0 0) = false from rfl, sel_f, sel_f, a1, a2, bnd_s, bnd_s]
  rcases a3 with ⟨rfl, hd⟩ | ⟨hi, hd⟩
  · rw [iLt_y (by omega), iEq_y rfl]
    exact ⟨[], 0, 0, 0, 11, rfl, rfl, by simp⟩
  · rw [iLt_f (by omega), iEq_f (a := i) (b := -1) (by omega), sel_f, sel_f, hll, sub_w (by unfold fits; omega)]
    by_cases h1 : i = (rs.length : Int) - 1
    · rw [iEq_y h1]
      exact ⟨[], 0, 0, 0, 26, rfl, rfl, by simp⟩
    rw [iEq_f h1, sel_f, sel_f]
    by_cases h2 : 0 < i
    · rw [iLt_y h2]
      exact ⟨[], 0, 0, 0, 14, rfl, rfl, by simp⟩
    rw [iLt_f h2, sel_f, sel_f, F69_eq (by omega), F23_eq (by omega), bnd_s, bnd_s]
    simp only [hll]
    rw [oCut_y (by omega), sel_t, sel_t]
    exact ⟨rs, 1, rs.length, next, 0, rfl, rfl, by omega⟩
end Go.Proofs.YtdnfnjaccbgplaaDoor.K
end

section
set_option linter.unusedVariables false
set_option linter.unusedSimpArgs false
set_option linter.unnecessarySimpa false
open Go Go.Ev
namespace Go.Proofs.YtdnfnjaccbgplaaDoor.K
/-! ### Beginnings of strings -/
theorem part_cut {s : ByteArray} {k m n : Nat} (h : m + n ≤ k) : part (sCut s 0 (k : Int)) m n = part s m n := by
  unfold part
  rw [by_cut, show ((k : Int)).toNat = k by omega, show ((0 : Int)).toNat = 0 from rfl, List.drop_zero, List.drop_take, List.take_take]
  congr 1
  omega
theorem cut_len {s : ByteArray} {k : Nat} (h : k ≤ (sBy s).length) : (sBy (sCut s 0 (k : Int))).length = k := by
  rw [by_cut, show ((k : Int)).toNat = k by omega, show ((0 : Int)).toNat = 0 from rfl, List.drop_zero, List.length_take]
  omega
theorem cut_all {s : ByteArray} {k : Nat} (h : k = (sBy s).length) : sCut s 0 (k : Int) = s := by
  apply by_inj
  rw [by_cut, show ((k : Int)).toNat = k by omega, show ((0 : Int)).toNat = 0 from rfl, List.drop_zero, h, List.take_length]
theorem Seq.cut {s : ByteArray} {first : Int} {k : Nat} (hk : k ≤ (sBy s).length) : ∀ {l : List EntT} {a b i : Nat}, Seq s first l a b i → b ≤ k → Seq (sCut s 0 (k : Int)) first l a b i
  | [], a, b, i, h, _ => h
  | x :: l, a, b, i, ⟨n, h1, h2, h3, h4⟩, hb => by
    have := h4.le h1
    exact ⟨n, by rw [cut_len hk]; omega, by rw [part_cut (by omega)]; exact h2, h3, h4.cut hk hb⟩
theorem Seq.uncut {s : ByteArray} {first : Int} {k : Nat} (hk : k ≤ (sBy s).length) : ∀ {l : List EntT} {a b i : Nat}, Seq (sCut s 0 (k : Int)) first l a b i → Seq s first l a b i
  | [], a, b, i, h => h
  | x :: l, a, b, i, ⟨n, h1, h2, h3, h4⟩ => by
    rw [cut_len hk] at h1
    rw [part_cut h1] at h2
    exact ⟨n, by omega, h2, h3, h4.uncut hk⟩
theorem Seq.pre {s : ByteArray} {first : Int} : ∀ {l l' : List EntT} {a b b' i : Nat}, Seq s first l a b i → Seq s first l' a b' i → l.length ≤ l'.length → ∃ r, l' = l ++ r ∧ Seq s first r b b' (i + l.length)
  | [], l', a, b, b', i, h, h', _ => by
    obtain rfl : a = b := h
    exact ⟨l', rfl, h'⟩
  | x :: l, [], a, b, b', i, h, h', hl => by simp at hl
  | x :: l, y :: l', a, b, b', i, ⟨n, h1, h2, h3, h4⟩, ⟨n', h1', h2', h3', h4'⟩, hl => by
    have g1 := good_n h1 h2
    have g2 := good_n h1' h2'
    obtain rfl : n = n' := by omega
    obtain rfl := good_x h2 h2'
    obtain ⟨r, r1, r2⟩ := h4.pre h4' (by simpa using hl)
    refine ⟨r, by rw [r1]; rfl, ?_⟩
    rw [List.length_cons, show i + (l.length + 1) = i + 1 + l.length by omega]
    exact r2
/-- What is read up to somewhere is a beginning of what is read up to the end. -/
theorem Seq.full {s : ByteArray} {first : Int} {l l' : List EntT} {b : Nat} (h : Seq s first l 0 b 0) (h' : Seq s first l' 0 (sBy s).length 0) : ∃ r, l' = l ++ r ∧ Seq s first r b (sBy s).length l.length := by
  rcases Nat.lt_or_ge l'.length l.length with hl | hl
  · obtain ⟨r, r1, r2⟩ := h'.pre h (by omega)
    have := h.le (by omega)
    have hr := r2.le (by omega)
    have : r.length = 0 := by omega
    rw [r1, List.length_append] at hl
    omega
  · obtain ⟨r, r1, r2⟩ := h.pre h' hl
    rw [Nat.zero_add] at r2
    exact ⟨r, r1, r2⟩
/-! ### Other bytes in the last receiver -/
theorem with_len {rs : List RcvT} {s : ByteArray} : (withB rs s).length = rs.length := by unfold withB; rw [lSet_length]
theorem with_last {rs : List RcvT} {s : ByteArray} (h : 1 ≤ rs.length) : lAt (withB rs s) ((rs.length - 1 : Nat) : Int) = ((lAt rs ((rs.length - 1 : Nat) : Int)).1, ((lAt rs ((rs.length - 1 : Nat) : Int)).2.1, s)) := by
  unfold withB
  rw [lAt_set (by omega)]
theorem with_ne {rs : List RcvT} {s : ByteArray} {k : Nat} (h : k < rs.length - 1) : lAt (withB rs s) (k : Int) = lAt rs (k : Int) := by
  unfold withB
  rw [lAt_set_ne (by omega)]
theorem last_with {rs : List RcvT} {s : ByteArray} (h : 1 ≤ rs.length) : lastB (withB rs s) = s := by
  unfold lastB
  rw [with_len, with_last h]
theorem with_with {rs : List RcvT} {s t : ByteArray} (h : 1 ≤ rs.length) : withB (withB rs s) t = withB rs t := by
  have e := with_last (s := s) h
  have hl : (withB rs s).length = rs.length := with_len
  unfold withB at *
  rw [hl, e]
  unfold lSet
  rw [List.set_set]
theorem with_self {rs : List RcvT} (h : 1 ≤ rs.length) : withB rs (lastB rs) = rs := by
  unfold withB lastB lSet lAt
  rw [show (((rs.length - 1 : Nat) : Int)).toNat = rs.length - 1 by omega, List.getElem?_eq_getElem (by omega)]
  exact List.set_getElem_self (by omega)
theorem few_with {rs : List RcvT} {s : ByteArray} (hf : fewJ rs) (h : 1 ≤ rs.length) (hs : (sBy s).length ≤ 1300) : fewJ (withB rs s) := by
  refine ⟨by rw [with_len]; exact hf.1, fun k hk => ?_⟩
  rw [with_len] at hk
  by_cases hl : k = rs.length - 1
  · subst hl
    rw [with_last h, by_len]
    show ((sBy s).length : Int) ≤ 1300
    omega
  · rw [with_ne (by omega)]
    exact hf.2 k hk
theorem dup_with {rs : List RcvT} {s : ByteArray} {n : ByteArray} {i : Nat} (h : i ≤ rs.length - 1) : dupN (withB rs s) n i = dupN rs n i := by
  unfold dupN
  refine propext ⟨fun ⟨k, h1, h2⟩ => ⟨k, h1, ?_⟩, fun ⟨k, h1, h2⟩ => ⟨k, h1, ?_⟩⟩
  · rw [with_ne (by omega)] at h2; exact h2
  · rw [with_ne (by omega)]; exact h2
theorem rErr_ne {rs : List RcvT} {s : ByteArray} {k : Nat} (h : k < rs.length - 1) : rErr (withB rs s) k = rErr rs k := by
  unfold rErr
  rw [with_ne h]
  have e := dup_with (s := s) (n := (lAt rs (k : Int)).1) (Nat.le_of_lt h)
  by_cases hd : dupN rs (lAt rs (k : Int)).1 k
  · rw [if_pos hd, if_pos (c := dupN (withB rs s) (lAt rs (k : Int)).1 k) (e ▸ hd)]
  · rw [if_neg hd, if_neg (c := dupN (withB rs s) (lAt rs (k : Int)).1 k) (e ▸ hd)]
theorem rErr_last {rs : List RcvT} {s : ByteArray} (h1 : 1 ≤ rs.length) (h : rErr rs (rs.length - 1) = 0) (hs : (sBy s).length ≤ 1200) : rErr (withB rs s) (rs.length - 1) = 0 := by
  have h0 := rErr_ok h
  unfold rErr at *
  rw [with_last h1]
  have e := dup_with (s := s) (n := (lAt rs ((rs.length - 1 : Nat) : Int)).1) (Nat.le_refl (rs.length - 1))
  rw [if_neg (by rw [h0.1]; decide), if_neg h0.2.1, if_neg (by omega)] at h
  rw [if_neg (by rw [h0.1]; decide), if_neg (c := dupN (withB rs s) (lAt rs ((rs.length - 1 : Nat) : Int)).1 (rs.length - 1)) (e ▸ h0.2.1), if_neg (by rw [by_len]; show ¬ (1200 < ((sBy s).length : Int)); omega)]
  exact h
theorem Upto.with {rs : List RcvT} {s : ByteArray} : ∀ {i : Nat} {l : List EntT} {nx : Int}, Upto rs i l nx → i ≤ rs.length - 1 → 1 ≤ rs.length → Upto (withB rs s) i l nx
  | 0, l, nx, ⟨h1, h2⟩, _, h1l => by
    refine ⟨h1, ?_⟩
    by_cases h : rs.length = 1
    · have := with_last (s := s) h1l
      rw [h] at this
      rw [show (lAt (withB rs s) ((0 : Nat) : Int)) = _ from this, h2]
    · rw [with_ne (by omega)]; exact h2
  | i + 1, l, nx, ⟨l0, nx0, li, h0, h1, h2, h3, h4, h5⟩, hi, h1l => by
    refine ⟨l0, nx0, li, h0.with (by omega) h1l, by rw [rErr_ne (by omega)]; exact h1, ?_, ?_, h4, h5⟩
    · rw [with_ne (by omega)]; exact h2
    · rw [with_ne (by omega)]; exact h3
theorem Fore.with {rs : List RcvT} {s : ByteArray} {l : List EntT} {nx : Int} (h : Fore rs l nx) (hs : (sBy s).length ≤ 1200) : Fore (withB rs s) l nx := by
  obtain ⟨h1, h2, h3, h4, h5⟩ := h
  refine ⟨by rw [with_len]; exact h1, by rw [with_len]; exact h2, by rw [with_len]; exact h3.with (by omega) h1, by rw [with_len]; exact rErr_last h1 h4 hs, ?_⟩
  rw [with_len, with_last h1]
  exact h5
/-- A right journal, and its last receiver. -/
theorem Upto.fore {rs : List RcvT} {l : List EntT} {next : Int} (h : Upto rs rs.length l next) (h1 : 1 ≤ rs.length) (h2 : rs.length ≤ 6) : ∃ l0 nx li, Fore rs l0 nx ∧ Seq (lastB rs) nx li 0 (sBy (lastB rs)).length 0 ∧ l = l0 ++ li ∧ next = iAdd .i64 nx (li.length : Int) := by
  obtain ⟨k, hk⟩ : ∃ k, rs.length = k + 1 := ⟨rs.length - 1, by omega⟩
  rw [hk] at h
  obtain ⟨l0, nx0, li, q0, q1, q2, q3, q4, q5⟩ := h
  have e : rs.length - 1 = k := by omega
  refine ⟨l0, nx0, li, ⟨h1, h2, by rw [e]; exact q0, by rw [e]; exact q1, by rw [e]; exact q2⟩, ?_, q4, q5⟩
  unfold lastB
  rw [e]
  exact q3
theorem Fore.upto {rs : List RcvT} {l0 li : List EntT} {nx : Int} (h : Fore rs l0 nx) (hs : Seq (lastB rs) nx li 0 (sBy (lastB rs)).length 0) : Upto rs rs.length (l0 ++ li) (iAdd .i64 nx (li.length : Int)) := by
  obtain ⟨h1, h2, h3, h4, h5⟩ := h
  obtain ⟨k, hk⟩ : ∃ k, rs.length = k + 1 := ⟨rs.length - 1, by omega⟩
  have e : rs.length - 1 = k := by omega
  unfold lastB at hs
  rw [e] at h3 h4 h5 hs
  rw [hk]
  exact ⟨l0, nx, li, h3, h4, h5, hs, rfl, rfl⟩
theorem Fore.nx {rs : List RcvT} {l : List EntT} {nx : Int} (hf : fewJ rs) (h : Fore rs l nx) : 1 ≤ nx ∧ nx ≤ 10000 ∧ (sBy (lastB rs)).length ≤ 1200 := by
  obtain ⟨h1, h2, h3, h4, h5⟩ := h
  have h6 := (rErr_ok h4).2.2
  rw [by_len] at h6
  obtain ⟨n1, n2, n3⟩ := h3.nx hf (by omega)
  refine ⟨?_, ?_, by unfold lastB; omega⟩
  all_goals
    by_cases h0 : rs.length - 1 = 0
    · rw [h0] at h4 h3
      have := rErr_zero h4
      rw [h3.2]
      omega
    · have := n3 (by omega)
      omega
/-- All entries of a right journal, by the program. -/
theorem entries_of {rs : List RcvT} {next : Int} (hf : fewJ rs) : (∃ x, F34 (rs, next) = some (x, false)) ∨ (1 ≤ rs.length ∧ rs.length ≤ 6 ∧ ∃ l, Upto rs rs.length l next) := by
  have h8 := hf.1
  obtain ⟨n, c, e1, e2, e3⟩ := check_two rs next hf
  rcases e3 with ⟨hc, _⟩ | ⟨_, g1, g2, l, _, hu, _⟩
  · left
    unfold F34
    rw [F23_eq (by omega), bnd_s, e1, bnd_s]
    show ∃ x, sel (bNot (iEq c 0)) _ _ = _
    rw [iEq_f hc]
    exact ⟨_, rfl⟩
  · exact .inr ⟨g1, g2, l, hu⟩
theorem entries_right {rs : List RcvT} {next : Int} (hf : fewJ rs) (h1 : 1 ≤ rs.length) (h2 : rs.length ≤ 6) {l : List EntT} (hu : Upto rs rs.length l next) : F34 (rs, next) = some ((l, 0, (l.length : Int)), true) := by
  have h8 := hf.1
  obtain ⟨n1, n2, n3⟩ := hu.nx hf (by omega)
  have n4 := n3 (by omega)
  obtain ⟨n, c, e1, e2, e3⟩ := check_two rs next hf
  rcases e3 with ⟨hc, _, hno⟩ | ⟨rfl, g1, g2, l', rfl, hu', e3⟩
  · exact absurd ⟨h1, h2, hu⟩ (hno l)
  obtain ⟨rfl, _⟩ := hu.one hf (by omega) hu'
  unfold F34
  rw [F23_eq (by omega), bnd_s, e1, bnd_s, bnd_s]
  show sel (bNot (iEq 0 0)) _ (bndS (F39 (rs, next) (iSub .i64 next (l.length : Int)) (iSub .i64 next 1)) _) = _
  rw [show bNot (iEq 0 0) = false from rfl, sel_f, sub_w (by unfold fits; omega), sub_w (by unfold fits; omega)]
  by_cases h0 : l.length = 0
  · have hl : l = [] := List.length_eq_zero_iff.1 h0
    have : F39 (rs, next) (next - (l.length : Int)) (next - 1) = some (([], 0, 0), 0) := by
      unfold F39
      rw [e3, bnd_s]
      show sel (bNot (iEq 0 0)) _ _ = _
      rw [show bNot (iEq 0 0) = false from rfl, sel_f, let_s, let_s]
      simp only
      rw [sub_w (a := next - (l.length : Int)) (by unfold fits; omega), sub_w (a := next) (b := 1) (by unfold fits; omega), (F50_t _ 1 next).mpr (by omega), (F50_t _ _ _).mpr (by omega), iLt_y (by omega)]
      rfl
    rw [this, bnd_s, hl]
    rfl
  · obtain ⟨l1, lo, hi, c, f1, f2, f3, f4⟩ := entries_two rs next (next - (l.length : Int)) (next - 1) hf (by unfold fits; omega) (by unfold fits; omega)
    obtain ⟨rfl, rfl, rfl, rfl⟩ := f4 l hu h1 h2 (by omega) (by omega) (by omega)
    rw [f1, bnd_s]
    show some ((l1, _, _), bAnd (iEq 0 0) (iEq (pSub _ _) (l1.length : Int))) = _
    have e1 : next - (l1.length : Int) - (lAt rs ((0 : Nat) : Int)).2.1 = 0 := by omega
    have e2 : next - 1 - (lAt rs ((0 : Nat) : Int)).2.1 + 1 = l1.length := by omega
    rw [e1, e2, iEq_y (show pSub (l1.length : Int) 0 = (l1.length : Int) by unfold pSub; omega)]
    rfl
end Go.Proofs.YtdnfnjaccbgplaaDoor.K
end

section
set_option linter.unusedVariables false
set_option linter.unusedSimpArgs false
set_option linter.unnecessarySimpa false
open Go Go.Ev
namespace Go.Proofs.YtdnfnjaccbgplaaDoor.K
/-! ### One byte is another one -/
theorem step_inj {a b c : Int} (ha : 0 ≤ a ∧ a < 4294967291) (hb : 0 ≤ b ∧ b < 4294967291) (h : (257 * a + c + 1) % 4294967291 = (257 * b + c + 1) % 4294967291) : a = b := by omega
theorem step_ne {a u v : Int} (hu : 0 ≤ u ∧ u < 256) (hv : 0 ≤ v ∧ v < 256) (h : (257 * a + u + 1) % 4294967291 = (257 * a + v + 1) % 4294967291) : u = v := by omega
theorem fold_inj : ∀ (l : List Int) {a b : Int}, 0 ≤ a ∧ a < 4294967291 → 0 ≤ b ∧ b < 4294967291 → l.foldl (fun a b => (257 * a + b + 1) % 4294967291) a = l.foldl (fun a b => (257 * a + b + 1) % 4294967291) b → a = b
  | [], a, b, _, _, h => h
  | c :: l, a, b, ha, hb, h => by
    have h' := fold_inj l (a := (257 * a + c + 1) % 4294967291) (b := (257 * b + c + 1) % 4294967291) (by omega) (by omega) h
    exact step_inj ha hb h'
theorem sum_set : ∀ (l : List Int) (q : Nat) (v a : Int), 0 ≤ a ∧ a < 4294967291 → (∀ b ∈ l, 0 ≤ b ∧ b < 256) → 0 ≤ v ∧ v < 256 → q < l.length → (l.set q v).foldl (fun a b => (257 * a + b + 1) % 4294967291) a = l.foldl (fun a b => (257 * a + b + 1) % 4294967291) a → l[q]? = some v
  | [], q, v, a, _, _, _, hq, _ => by simp at hq
  | c :: l, 0, v, a, ha, hl, hv, _, h => by
    have hc := hl c (List.mem_cons_self ..)
    have h' := fold_inj l (a := (257 * a + v + 1) % 4294967291) (b := (257 * a + c + 1) % 4294967291) (by omega) (by omega) h
    rw [step_ne hv hc h']
    rfl
  | c :: l, q + 1, v, a, ha, hl, hv, hq, h => by
    have := sum_set l q v ((257 * a + c + 1) % 4294967291) (by omega) (fun b hb => hl b (List.mem_cons_of_mem _ hb)) hv (by simpa using hq) h
    simpa using this
theorem big_step {l : List Int} : ∀ (a : Int), l.foldl (fun x b => x * 256 + b) a = a * 256 ^ l.length + bigE l := by
  induction l with
  | nil => intro a; simp [bigE]
  | cons c l ih =>
    intro a
    unfold bigE
    rw [List.foldl_cons, List.foldl_cons, ih, ih (0 * 256 + c), List.length_cons, Int.pow_succ]
    generalize (256 : Int) ^ l.length = p
    grind
theorem big_bound : ∀ (l : List Int), (∀ b ∈ l, 0 ≤ b ∧ b < 256) → 0 ≤ bigE l ∧ bigE l < 256 ^ l.length := by
  intro l
  induction l with
  | nil => intro _; simp [bigE]
  | cons c l ih =>
    intro h
    have hc := h c (List.mem_cons_self ..)
    have hi := ih (fun b hb => h b (List.mem_cons_of_mem _ hb))
    have e : bigE (c :: l) = c * 256 ^ l.length + bigE l := by
      have := big_step (l := l) c
      unfold bigE at this ⊢
      rw [List.foldl_cons, show (0 : Int) * 256 + c = c by omega]
      exact this
    rw [e, List.length_cons, Int.pow_succ]
    generalize (256 : Int) ^ l.length = p at *
    have h1 : 0 ≤ c * p := Int.mul_nonneg hc.1 (by omega)
    have h2 : c * p ≤ 255 * p := Int.mul_le_mul_of_nonneg_right (by omega) (by omega)
    exact ⟨by omega, by omega⟩
theorem big_set : ∀ (l : List Int) (q : Nat) (v : Int), (∀ b ∈ l, 0 ≤ b ∧ b < 256) → 0 ≤ v ∧ v < 256 → q < l.length → bigE (l.set q v) = bigE l → l[q]? = some v
  | [], q, v, _, _, hq, _ => by simp at hq
  | c :: l, 0, v, hl, hv, _, h => by
    have e : ∀ c : Int, bigE (c :: l) = c * 256 ^ l.length + bigE l := by
      intro c
      have := big_step (l := l) c
      unfold bigE at this ⊢
      rw [List.foldl_cons, show (0 : Int) * 256 + c = c by omega]
      exact this
    rw [List.set_cons_zero, e, e] at h
    have hp : (0 : Int) < 256 ^ l.length := Int.pow_pos (by decide)
    have : c = v := Int.eq_of_mul_eq_mul_right (Int.ne_of_gt hp) (by omega)
    rw [this]
    rfl
  | c :: l, q + 1, v, hl, hv, hq, h => by
    have e : ∀ m : List Int, bigE (c :: m) = c * 256 ^ m.length + bigE m := by
      intro m
      have := big_step (l := m) c
      unfold bigE at this ⊢
      rw [List.foldl_cons, show (0 : Int) * 256 + c = c by omega]
      exact this
    rw [List.set_cons_succ, e, e, List.length_set] at h
    have := big_set l q v (fun b hb => hl b (List.mem_cons_of_mem _ hb)) hv (by simpa using hq) (by omega)
    simpa using this
theorem sub_set_out {l : List Int} {q p n : Nat} {v : Int} (h : q < p ∨ p + n ≤ q) : sub (l.set q v) p n = sub l p n := by
  unfold sub
  rcases h with h | h
  · rw [List.drop_set_of_lt h]
  · apply List.ext_getElem?
    intro i
    simp only [List.getElem?_take, List.getElem?_drop, List.getElem?_set]
    grind
theorem sub_set_in {l : List Int} {q p n : Nat} {v : Int} (h : p ≤ q) : sub (l.set q v) p n = (sub l p n).set (q - p) v := by
  unfold sub
  apply List.ext_getElem?
  intro i
  simp only [List.getElem?_take, List.getElem?_drop, List.getElem?_set, List.length_take, List.length_drop]
  grind
/-- A part of a part. -/
theorem sub_part {s : ByteArray} {a n p k : Nat} (h : p + k ≤ n) : sub (part s a n) p k = part s (a + p) k := by
  unfold sub part
  rw [List.drop_take, List.take_take, List.drop_drop]
  congr 1
  omega
theorem honest_core {s s' : ByteArray} {a n p : Nat} {y : EntT} {v : Int} (h : a + n ≤ (sBy s).length) (hy : good (part s a n) y) (hp : a ≤ p ∧ p < a + n) (hv : 0 ≤ v ∧ v < 256) (hs : sBy s' = (sBy s).set p v) (hne : (sBy s)[p]? ≠ some v) : ∀ (m : Nat) (x : EntT), a + m ≤ (sBy s').length → ¬ good (part s' a m) x := by
  intro m x hm hx
  have hlen : (sBy s').length = (sBy s).length := by rw [hs, List.length_set]
  have hym := good_n h hy
  have hxm := good_n hm hx
  have hlx := part_len hm
  have hly := part_len h
  -- parts of the one string and of the other
  have hP : ∀ k r, part s' k r = sub ((sBy s).set p v) k r := fun k r => by unfold part sub; rw [hs]
  have hQ : ∀ k r, part s k r = sub (sBy s) k r := fun k r => rfl
  obtain ⟨_, _, b, c, p1, p2, p3, p4, _⟩ := hy
  obtain ⟨_, _, b', c', q1, q2, q3, q4, _⟩ := hx
  rw [hly] at p3
  rw [hlx] at q3
  rw [sub_part (by omega)] at p1 p2 p4 q1 q2 q4
  -- the length is as0 it was
  have hmn : m = n := by
    rcases Nat.lt_or_ge p (a + 2) with h2 | h2
    · rw [hP, sub_set_out (.inl (by omega)), ← hQ] at q1
      obtain rfl : b = b' := by omega
      rw [hP, sub_set_out (.inl (by omega)), ← hQ] at q2
      obtain rfl : c = c' := by omega
      omega
    · have := hxm.2
      rw [hP, sub_set_out (.inr (by omega)), ← hQ] at this
      omega
  subst hmn
  have e26 : 26 + b + c = 26 + b' + c' := by omega
  rw [← e26] at q4
  have hsumP : (part s' a m).take (26 + b + c) = sub ((sBy s).set p v) a (26 + b + c) := by
    rw [hP]; unfold sub; rw [List.take_take]; congr 1; omega
  have hsumQ : (part s a m).take (26 + b + c) = sub (sBy s) a (26 + b + c) := by
    rw [hQ]; unfold sub; rw [List.take_take]; congr 1; omega
  rw [hsumP, hP] at q4
  rw [hsumQ, hQ] at p4
  have hby : ∀ k r, ∀ z ∈ sub (sBy s) k r, 0 ≤ z ∧ z < 256 := fun k r z hz => by_byte s z (List.mem_of_mem_drop (List.mem_of_mem_take hz))
  have hget : ∀ k r, k ≤ p → p < k + r → (sub (sBy s) k r)[p - k]? = (sBy s)[p]? := by
    intro k r h1 h2
    unfold sub
    rw [List.getElem?_take, if_pos (by omega), List.getElem?_drop]
    congr 1
    omega
  have hsl : ∀ k r, k + r ≤ (sBy s).length → (sub (sBy s) k r).length = r := by
    intro k r h1
    unfold sub
    rw [List.length_take, List.length_drop]
    omega
  rcases Nat.lt_or_ge p (a + (26 + b + c)) with h3 | h3
  · rw [sub_set_out (p := a + (26 + b + c)) (.inl (by omega)), p4, sub_set_in hp.1] at q4
    have := sum_set (sub (sBy s) a (26 + b + c)) (p - a) v 1 (by decide) (hby _ _) hv (by rw [hsl _ _ (by omega)]; omega) q4.symm
    rw [hget _ _ hp.1 (by omega)] at this
    exact hne this
  · rw [sub_set_out (p := a) (.inr (by omega)), ← p4, sub_set_in h3] at q4
    have := big_set (sub (sBy s) (a + (26 + b + c)) 4) (p - (a + (26 + b + c))) v (hby _ _) hv (by rw [hsl _ _ (by omega)]; omega) q4
    rw [hget _ _ h3 (by omega)] at this
    exact hne this
/-- What is read of a string in which one byte is another one is a beginning of what is read of the string. -/
theorem honest_pre {s s' : ByteArray} {p : Nat} {v : Int} {first : Int} (hv : 0 ≤ v ∧ v < 256) (hs : sBy s' = (sBy s).set p v) (hne : (sBy s)[p]? ≠ some v) (hp : p < (sBy s).length) : ∀ {l' l : List EntT} {a b i : Nat}, a ≤ p → Seq s' first l' a b i → Seq s first l a (sBy s).length i → ∃ r, l = l' ++ r
  | [], l, _, _, _, _, _, _ => ⟨l, rfl⟩
  | x :: l', [], a, b, i, hap, _, h => by
    have h : a = (sBy s).length := h
    omega
  | x :: l', y :: l, a, b, i, hap, ⟨n', h1', h2', h3', h4'⟩, ⟨n, h1, h2, h3, h4⟩ => by
    have g := good_n h1 h2
    rcases Nat.lt_or_ge p (a + n) with h5 | h5
    · exact absurd h2' (honest_core h1 h2 ⟨hap, h5⟩ hv hs hne n' x h1')
    · have e : part s' a n = part s a n := by
        have hP : ∀ k r, part s' k r = sub ((sBy s).set p v) k r := fun k r => by unfold part sub; rw [hs]
        rw [hP, sub_set_out (.inr h5)]
        rfl
      have hlen : (sBy s').length = (sBy s).length := by rw [hs, List.length_set]
      have h2s : good (part s' a n) y := by rw [e]; exact h2
      have g1 := good_n h1' h2'
      have g2 := good_n (s := s') (by omega) h2s
      obtain rfl : n = n' := by omega
      obtain rfl := good_x h2' h2s
      obtain ⟨r, hr⟩ := honest_pre hv hs hne hp (by omega) h4' h4
      exact ⟨r, by rw [hr]; rfl⟩
end Go.Proofs.YtdnfnjaccbgplaaDoor.K
end

section
set_option linter.unusedVariables false
set_option linter.unusedSimpArgs false
set_option linter.unnecessarySimpa false
open Go Go.Ev
namespace Go.Proofs.YtdnfnjaccbgplaaDoor.K
theorem wf_u8 {n : Int} (h : (Ty.int .u8).wf n) : 0 ≤ n ∧ n < 256 := by
  have h : (decide (IntKind.u8.min ≤ n) && decide (n ≤ IntKind.u8.max)) = true := h
  rw [Bool.and_eq_true, decide_eq_true_eq, decide_eq_true_eq] at h
  have h1 : IntKind.u8.min = 0 := by decide
  have h2 : IntKind.u8.max = 255 := by decide
  omega
theorem lCutZ {α : Type} (l : List α) (n : Nat) : lCut l 0 (n : Int) = l.take n := by
  unfold lCut
  rw [show ((n : Int)).toNat = n by omega]
  rfl
theorem patched_eq (s : ByteArray) (p : Nat) (v : Int) (hp : p < (sBy s).length) (hv : 0 ≤ v ∧ v < 256) (hl : (sBy s).length ≤ 1000000) : ∃ t, F38 s p (sOf [v]) = some t ∧ sBy t = (sBy s).set p v := by
  have h1 : sBy (sOf [v]) = [v] := by_sOf (by intro b hb; rw [List.mem_singleton.1 hb]; exact hv)
  have hs := by_len s
  have h1l : sLen (sOf [v]) = 1 := by rw [by_len, h1]; rfl
  have hc : sBy (sCut s 0 (p : Int)) = (sBy s).take p := by
    rw [by_cut, show ((p : Int)).toNat = p by omega]
    rfl
  have hd : sBy (sCut s (iAdd .i64 (p : Int) 1) (sLen s)) = (sBy s).drop (p + 1) := by
    rw [by_cut, add_w (by unfold fits; omega), show ((p : Int) + 1).toNat = p + 1 by omega, hs, show (((sBy s).length : Int)).toNat = (sBy s).length by omega, List.take_length]
  unfold F38
  rw [h1l, sel_pos (oCut_y (by omega)), sel_pos (sOk_y (by rw [hc, h1, List.length_take]; simp; omega)), sel_pos (oCut_y (by rw [add_w (by unfold fits; omega)]; omega)), sel_pos (sOk_y (by rw [by_add, hc, h1, hd, List.length_append, List.length_take, List.length_drop]; simp; omega))]
  refine ⟨_, rfl, ?_⟩
  rw [by_add, by_add, hc, h1, hd, List.set_eq_take_append_cons_drop, if_pos hp, List.append_assoc]
  rfl
end Go.Proofs.YtdnfnjaccbgplaaDoor.K
namespace Go.Proofs.YtdnfnjaccbgplaaDoor.Pure
open K
theorem JournalHonest (x0 : ((.pr (.sl (.pr .str (.pr (.int .i64) .str))) (.int .i64)) : Ty).T) (x1 : ((.int .i64) : Ty).T) (x2 : ((.int .u8) : Ty).T) (_h0 : ((.pr (.sl (.pr .str (.pr (.int .i64) .str))) (.int .i64)) : Ty).wf x0) (_h1 : ((.int .i64) : Ty).wf x1) (h2 : ((.int .u8) : Ty).wf x2) : K.gF9.F (x0, x1, x2) = some true := by
  show F9 x0 x1 x2 = some true
  have hv := wf_u8 h2
  obtain ⟨rs, next⟩ := x0
  unfold F9
  rw [awake, bnd_s, nt, sel_f]
  obtain ⟨b, hb, hf⟩ := F21_eq rs next
  rw [hb, bnd_s]
  cases b with
  | false => rfl
  | true =>
    have hf := hf rfl
    have h8 := hf.1
    have hlr : ∀ r : List RcvT, lLen r = (r.length : Int) := fun _ => rfl
    rw [nt, sel_f]
    rcases entries_of (next := next) hf with ⟨x, hx⟩ | ⟨k1, k2, l, hu⟩
    · rw [hx]
      rfl
    rw [entries_right hf k1 k2 hu, bnd_s]
    simp only [nt, sel_f, F23_eq (rs := rs) (next := next) (by omega), bnd_s, hlr]
    have hi1 : iSub .i64 (rs.length : Int) 1 = ((rs.length - 1 : Nat) : Int) := by rw [sub_w (by unfold fits; omega)]; omega
    rw [hi1, oIn_y (by omega), sel_t, let_s]
    show sel (bNot (F37 x1 0 (iSub .i64 (sLen (lastB rs)) 1))) _ _ = _
    obtain ⟨l0, nx, lj, hfo, hsj, rfl, hn⟩ := hu.fore k1 k2
    obtain ⟨nx1, nx2, nx3⟩ := hfo.nx hf
    rw [sub_w (by rw [by_len]; unfold fits; omega), by_len]
    by_cases hw : 0 ≤ x1 ∧ x1 ≤ ((sBy (lastB rs)).length : Int) - 1
    rotate_left
    · rw [(within_f hw).2]
      rfl
    rw [(within_t hw).2, nt, sel_f, sel_t]
    obtain ⟨p, rfl⟩ := Int.eq_ofNat_of_zero_le hw.1
    have hp : p < (sBy (lastB rs)).length := by have : (p : Int) ≤ ((sBy (lastB rs)).length : Int) - 1 := hw.2; omega
    obtain ⟨B1, hB, hB1⟩ := patched_eq (lastB rs) p x2 hp hv (by omega)
    have hB : F38 (lAt rs ((rs.length - 1 : Nat) : Int)).2.2 (p : Int) (sOf [x2]) = some B1 := hB
    rw [hB, bnd_s, sel_t]
    have hB1l : (sBy B1).length = (sBy (lastB rs)).length := by rw [hB1, List.length_set]
    show bndS (F23 (withB rs B1, next)) _ = _
    have hf1 : fewJ (withB rs B1) := few_with hf k1 (by omega)
    have hfo1 : Fore (withB rs B1) l0 nx := hfo.with (by omega)
    have hw1 : (withB rs B1).length = rs.length := with_len
    rw [F23_eq (by omega), bnd_s]
    obtain ⟨rs2, n2, d, c2, f1, _, f3, f4⟩ := recover_two (withB rs B1) next hf1
    rcases f4 with ⟨_, h⟩ | ⟨rfl, l0', nx', li, b, cc, hfo', hs, he, rfl, rfl, rfl⟩
    · exact absurd hfo1 (h l0 nx)
    obtain ⟨rfl, rfl⟩ := hfo1.2.2.1.one hf1 (by omega) hfo'.2.2.1
    rw [last_with k1] at hs he f1
    have hble := hs.le (by omega)
    rw [with_with k1] at f1
    have hB2 : (sBy (sCut B1 0 (b : Int))).length = b := cut_len (by omega)
    have hs2 : Seq (sCut B1 0 (b : Int)) nx li 0 b 0 := hs.cut (by omega) (Nat.le_refl _)
    generalize hB2e : sCut B1 0 (b : Int) = B2 at *
    rw [f1, bnd_s]
    have hf2 : fewJ (withB rs B2) := few_with hf k1 (by omega)
    have hfo2 : Fore (withB rs B2) l0 nx := hfo.with (by omega)
    have hw2 : (withB rs B2).length = rs.length := with_len
    have hs2' : Seq (lastB (withB rs B2)) nx li 0 (sBy (lastB (withB rs B2))).length 0 := by rw [last_with k1, hB2]; exact hs2
    have hu2 := hfo2.upto hs2'
    rw [entries_right hf2 (by omega) (by omega) hu2, bnd_s]
    -- what was read is a beginning
    have hpre : ∃ r, lj = li ++ r := by
      by_cases hne : (sBy (lastB rs))[p]? = some x2
      · have : B1 = lastB rs := by
          apply by_inj
          rw [hB1]
          apply List.ext_getElem?
          intro i
          rw [List.getElem?_set]
          grind
        rw [this] at hs
        obtain ⟨r, hr, _⟩ := hs.full hsj
        exact ⟨r, hr⟩
      · exact honest_pre hv hB1 hne hp (Nat.zero_le _) hs hsj
    obtain ⟨r, rfl⟩ := hpre
    obtain ⟨m1, m2, m3⟩ := hu.nx hf (by omega)
    have hll : (l0 ++ (li ++ r)).length = (l0 ++ li).length + r.length := by simp only [List.length_append]; omega
    have hpp : ∀ n : Int, pSub n 0 = n := fun n => by unfold pSub; omega
    have ha : ∀ n : Int, pAdd 0 n = n := fun n => by unfold pAdd; omega
    simp only [hpp, ha]
    rw [lCutZ, lCutZ, F36_eq _ _ (by rw [List.length_take]; omega) (by rw [List.take_length, ← List.append_assoc, List.take_left]), okS_s, or_tt, sel_t, valS_s, let_s]
    rw [sel_pos (b := bOr (oCut _ _ _) _) (by rw [or_t, oCut_t]; left; omega), iLe_y (by omega)]
    rfl
end Go.Proofs.YtdnfnjaccbgplaaDoor.Pure
end
