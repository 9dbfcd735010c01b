/- A part of the proof: texts of the author, joined. -/
import Derived.Test.YtdnfnjaccbgplaaDoorKPJournalBack0
section
set_option linter.unusedVariables false
set_option linter.unusedSimpArgs false
set_option linter.unnecessarySimpa false
open Go Go.Ev
namespace Go.Proofs.YtdnfnjaccbgplaaDoor.K
theorem Seq.num {s : ByteArray} {first : Int} : ∀ {l : List EntT} {a b i : Nat}, Seq s first l a b i → ∀ k, k < l.length → (1 ≤ iAdd .i64 first ((i + k : Nat) : Int) ∧ iAdd .i64 first ((i + k : Nat) : Int) ≤ 9999)
  | [], a, b, i, h, k, hk => by simp at hk
  | x :: l, a, b, i, ⟨n, h1, h2, h3, h4⟩, k, hk => by
    cases k with
    | zero =>
      have := good_num h2
      rw [h3] at this
      exact this
    | succ k =>
      have := h4.num k (by simpa using hk)
      rw [show i + 1 + k = i + (k + 1) by omega] at this
      exact this
/-- All receivers up to this one are right; their entries, and the number behind them. -/
def Upto (rs : List RcvT) : Nat → List EntT → Int → Prop
  | 0, l, nx => l = [] ∧ nx = (lAt rs (0 : Nat)).2.1
  | i + 1, l, nx => ∃ l0 nx0 li, Upto rs i l0 nx0 ∧ rErr rs i = 0 ∧ (lAt rs (i : Nat)).2.1 = nx0 ∧ Seq (lAt rs (i : Nat)).2.2 nx0 li 0 (sBy (lAt rs (i : Nat)).2.2).length 0 ∧ l = l0 ++ li ∧ nx = iAdd .i64 nx0 (li.length : Int)
theorem rErr_zero {rs : List RcvT} (h : rErr rs 0 = 0) : 1 ≤ (lAt rs (0 : Nat)).2.1 ∧ (lAt rs (0 : Nat)).2.1 ≤ 10000 := by
  unfold rErr at h
  grind
theorem rErr_ok {rs : List RcvT} {i : Nat} (h : rErr rs i = 0) : nmOK (sBy (lAt rs (i : Int)).1) = true ∧ ¬ dupN rs (lAt rs (i : Int)).1 i ∧ sLen (lAt rs (i : Int)).2.2 ≤ 1200 := by
  unfold rErr at h
  grind
theorem seq_end {s : ByteArray} {first : Int} {l : List EntT} {b : Nat} (h : Seq s first l 0 b 0) (h1 : 1 ≤ first ∧ first ≤ 10000) (hl : (sBy s).length ≤ 1000000) : iAdd .i64 first (l.length : Int) = first + l.length ∧ first + l.length ≤ 10000 := by
  have h2 := h.le (by omega)
  have e : iAdd .i64 first (l.length : Int) = first + l.length := add_w (by unfold fits; omega)
  refine ⟨e, ?_⟩
  cases hn : l.length with
  | zero => omega
  | succ k =>
    have := (h.num k (by omega)).2
    rw [add_w (by unfold fits; omega)] at this
    omega
theorem few_by {rs : List RcvT} (h : fewJ rs) (i : Nat) (hi : i < rs.length) : (sBy (lAt rs (i : Nat)).2.2).length ≤ 1300 := by
  have := h.2 i hi
  rw [by_len] at this
  omega
theorem Upto.nx {rs : List RcvT} (hf : fewJ rs) : ∀ {i : Nat} {l : List EntT} {nx : Int}, Upto rs i l nx → i ≤ rs.length → nx = (lAt rs (0 : Nat)).2.1 + l.length ∧ l.length ≤ 50 * i ∧ (0 < i → 1 ≤ (lAt rs (0 : Nat)).2.1 ∧ (lAt rs (0 : Nat)).2.1 ≤ 10000 ∧ nx ≤ 10000)
  | 0, l, nx, ⟨h1, h2⟩, hi => by subst h1; exact ⟨by rw [h2]; simp, by simp, fun h => by omega⟩
  | i + 1, l, nx, ⟨l0, nx0, li, h0, h1, h2, h3, h4, h5⟩, hi => by
    obtain ⟨g1, g2, g3⟩ := h0.nx hf (by omega)
    have hb := few_by hf i (by omega)
    have hle := h3.le (by omega)
    have hF : 1 ≤ (lAt rs (0 : Nat)).2.1 ∧ (lAt rs (0 : Nat)).2.1 ≤ 10000 := by
      by_cases h : i = 0
      · subst h; exact rErr_zero h1
      · exact ⟨(g3 (by omega)).1, (g3 (by omega)).2.1⟩
    have hnx : 1 ≤ nx0 ∧ nx0 ≤ 10000 := by
      by_cases h : i = 0
      · subst h
        obtain ⟨q1, q2⟩ := h0
        rw [q2]; exact hF
      · have := g3 (by omega); omega
    have he := seq_end h3 hnx (by omega)
    rw [he.1] at h5
    subst h4
    rw [List.length_append]
    exact ⟨by omega, by omega, fun _ => ⟨hF.1, hF.2, by omega⟩⟩
/-- Of each place there is one reading. -/
theorem Upto.one {rs : List RcvT} (hf : fewJ rs) : ∀ {i : Nat} {l l' : List EntT} {nx nx' : Int}, i ≤ rs.length → Upto rs i l nx → Upto rs i l' nx' → l = l' ∧ nx = nx'
  | 0, l, l', nx, nx', _, ⟨h1, h2⟩, ⟨h3, h4⟩ => ⟨h1.trans h3.symm, h2.trans h4.symm⟩
  | i + 1, l, l', nx, nx', hi, ⟨l0, nx0, li, h0, h1, h2, h3, h4, h5⟩, ⟨l0', nx0', li', h0', h1', h2', h3', h4', h5'⟩ => by
    obtain ⟨rfl, rfl⟩ := h0.one hf (by omega) h0'
    have hb := few_by hf i (by omega)
    obtain ⟨rfl, _, _⟩ := Seq.uniq (c := 0) (c' := 0) (by omega) h3 (.inl ⟨rfl, rfl⟩) h3' (.inl ⟨rfl, rfl⟩)
    exact ⟨h4.trans h4'.symm, h5.trans h5'.symm⟩
theorem Upto.at {rs : List RcvT} : ∀ {j : Nat} {l : List EntT} {nx : Int}, Upto rs j l nx → ∀ i, i < j → ∃ l0 nx0 li, Upto rs i l0 nx0 ∧ rErr rs i = 0 ∧ (lAt rs (i : Nat)).2.1 = nx0 ∧ Seq (lAt rs (i : Nat)).2.2 nx0 li 0 (sBy (lAt rs (i : Nat)).2.2).length 0 ∧ Upto rs (i + 1) (l0 ++ li) (iAdd .i64 nx0 (li.length : Int))
  | 0, l, nx, _, i, hi => by omega
  | j + 1, l, nx, h, i, hi => by
    obtain ⟨l0, nx0, li, h0, h1, h2, h3, h4, h5⟩ := h
    by_cases hij : i = j
    · subst hij
      exact ⟨l0, nx0, li, h0, h1, h2, h3, l0, nx0, li, h0, h1, h2, h3, rfl, rfl⟩
    · exact h0.at i (by omega)
/-- The number behind the receivers so far, as0 the program holds it. -/
def nxP (i : Nat) (nx : Int) : Int := if i = 0 then 0 else nx
theorem read_check (rs : List RcvT) (next : Int) (hf : fewJ rs) :
    (¬ (1 ≤ rs.length ∧ rs.length ≤ 6) ∧ F66 (rs, next) true = some ([], (0, 6)) ∧ F24 (rs, next) = some ([], (0, (0, 6)))) ∨
    (1 ≤ rs.length ∧ rs.length ≤ 6 ∧ ∃ i c : Int, c ≠ 0 ∧ F66 (rs, next) true = some ([], (i, c)) ∧ F24 (rs, next) = some ([], (0, (i, c))) ∧ ∀ l, ¬ Upto rs rs.length l next) ∨
    (1 ≤ rs.length ∧ rs.length ≤ 6 ∧ ∃ l, Upto rs rs.length l next ∧ F66 (rs, next) true = some (l, (0, 0)) ∧ F24 (rs, next) = some ([], (0, ((l.length : Int), 0)))) := by
  have hll : lLen rs = (rs.length : Int) := rfl
  unfold F66 F24
  simp only [let_s, hll]
  by_cases hsh : 1 ≤ rs.length ∧ rs.length ≤ 6
  rotate_left
  · left
    rw [(within_f (a := (rs.length : Int)) (b := 1) (c := 6) (by omega)).1, (within_f (a := (rs.length : Int)) (b := 1) (c := 6) (by omega)).2]
    exact ⟨hsh, rfl, rfl⟩
  right
  rw [(within_t (a := (rs.length : Int)) (b := 1) (c := 6) (by omega)).1, (within_t (a := (rs.length : Int)) (b := 1) (c := 6) (by omega)).2, nt, sel_f, sel_f, oIn_y (by omega), sel_t]
  have hloop : ∃ r t, L66_0 (true, ((rs, next), (([] : List EntT), (0, (rs, ((rs.length : Int), 0)))))) = some r ∧ L24_0 ((rs, next), ((0, (0, 0)), ((lAt rs 0).2.1, 0))) = some t ∧
      ((∃ i c : Int, c ≠ 0 ∧ r = .inr (i, c) ∧ t = .inr (0, (i, c)) ∧ ∀ l nx, ¬ Upto rs rs.length l nx) ∨ ∃ l nx, Upto rs rs.length l nx ∧ r = .inl (true, ((rs, next), (l, nx))) ∧ t = .inl ((rs, next), ((0, (0, 0)), nx))) := by
    unfold L66_0 L24_0
    refine loop_two (fun m x y => ∃ (i : Nat) (l : List EntT) (nx : Int), x = (true, ((rs, next), (l, (nxP i nx, (rs, ((rs.length : Int), (i : Int))))))) ∧ y = ((rs, next), ((0, (0, 0)), (nx, (i : Int)))) ∧ i ≤ rs.length ∧ m = rs.length - i ∧ Upto rs i l nx) rs.length ⟨0, [], _, rfl, rfl, by omega, by omega, rfl, rfl⟩ (by omega) ?_
    rintro m x y ⟨i, l, nx, rfl, rfl, hi, rfl, hu⟩
    simp only
    unfold B66_0 B24_0
    simp only [hll]
    by_cases hlt : i < rs.length
    rotate_left
    · obtain rfl : i = rs.length := by omega
      rw [iLt_f (by omega), sel_f, sel_f]
      refine .inr ⟨_, _, rfl, rfl, .inr ⟨l, nx, hu, ?_, rfl⟩⟩
      unfold nxP
      rw [if_neg (by omega)]
    rw [iLt_y (by omega), sel_t, sel_t, oIn_y (by omega), sel_t, sel_t, F85_eq rs next i hlt (by omega), F67_eq rs next i nx hlt (by omega), bnd_s, bnd_s]
    by_cases he : rErr rs i = 0
    rotate_left
    · rw [if_pos he, iEq_f he]
      refine .inr ⟨_, _, rfl, rfl, .inl ⟨_, _, he, rfl, rfl, fun l' nx' h => ?_⟩⟩
      obtain ⟨_, _, _, _, h', _⟩ := h.at i hlt
      exact he h'
    rw [if_neg (by simpa using he), he]
    by_cases ho : i ≠ 0 ∧ (lAt rs (i : Int)).2.1 ≠ nx
    · rw [if_pos ho]
      refine .inr ⟨_, _, ?_, rfl, .inl ⟨i, 14, by decide, rfl, rfl, fun l' nx' h => ?_⟩⟩
      · rw [sel_neg (by rfl), sel_pos]
        unfold nxP
        rw [if_neg ho.1, and_t, iLt_t, not_t, bf_t, iEq_t]
        exact ⟨by omega, ho.2⟩
      · obtain ⟨_, _, _, h0', _, h', _⟩ := h.at i hlt
        obtain ⟨_, rfl⟩ := hu.one hf hi h0'
        exact ho.2 h'
    rw [if_neg ho]
    have hF : (lAt rs (i : Int)).2.1 = nx := by
      by_cases h0 : i = 0
      · subst h0; exact hu.2.symm
      · exact Classical.byContradiction fun hc => ho ⟨h0, hc⟩
    have hP : bAnd (iLt 0 (i : Int)) (bNot (iEq (lAt rs (i : Int)).2.1 (nxP i nx))) = false := by
      rw [bf_t, and_t, iLt_t, not_t, bf_t, iEq_t]
      unfold nxP
      rintro ⟨h1, h2⟩
      rw [if_neg (by omega)] at h2
      exact h2 hF
    rw [hP, show bNot (iEq 0 0) = false from rfl, sel_f, sel_f, sel_f, show bAnd (bNot true) (iEq (i : Int) (iSub .i64 (rs.length : Int) 1)) = false from rfl, sel_f]
    have hb := few_by hf i hlt
    obtain ⟨li, b, c, w1, w2, w3, w4⟩ := whole_eq (lAt rs (i : Int)).1 (lAt rs (i : Int)).2.1 (lAt rs (i : Int)).2.2 (by omega)
    have w1 : F72 (lAt rs (i : Int)) = _ := w1
    rw [hF] at w2 w3 w4
    rw [w1, w2, bnd_s, bnd_s]
    rcases w4 with ⟨rfl, rfl⟩ | ⟨hc, w4⟩
    · obtain ⟨n1, n2, n3⟩ := hu.nx hf hi
      have hle := w3.le (by omega)
      refine .inl ⟨rs.length - (i + 1), _, _, by omega, ?_, ?_, i + 1, l ++ li, iAdd .i64 nx (li.length : Int), rfl, rfl, by omega, rfl, l, nx, li, hu, he, hF, w3, rfl, rfl⟩
      · rw [show bNot (iEq 0 0) = false from rfl, sel_f, sel_pos (lCap_y (by omega) (by omega) (by show (l ++ li).length ≤ _; rw [List.length_append]; omega)), hF, add_w (b := 1) (by unfold fits; omega)]
        unfold nxP
        rw [if_neg (by omega)]
        rfl
      · rw [show bNot (iEq 0 0) = false from rfl, sel_f, add_w (b := 1) (by unfold fits; omega)]
        rfl
    · rw [iEq_f hc]
      refine .inr ⟨_, _, rfl, rfl, .inl ⟨_, _, hc, rfl, rfl, fun l' nx' h => ?_⟩⟩
      obtain ⟨_, _, _, h0', _, _, h', _⟩ := h.at i hlt
      obtain ⟨_, rfl⟩ := hu.one hf hi h0'
      obtain ⟨_, _, h0⟩ := Seq.uniq (c := c) (c' := 0) (by omega) w3 (.inr ⟨hc, w4⟩) h' (.inl ⟨rfl, rfl⟩)
      exact hc h0
  obtain ⟨r, t, e1, e2, ⟨i, c, hc, rfl, rfl, hno⟩ | ⟨l, nx, hu, rfl, rfl⟩⟩ := hloop
  · rw [e1, e2]
    exact .inl ⟨hsh.1, hsh.2, i, c, hc, rfl, rfl, fun l h => hno l _ h⟩
  · rw [e1, e2]
    obtain ⟨n1, n2, n3⟩ := hu.nx hf (by omega)
    have n4 := n3 (by omega)
    by_cases hn : next = nx
    · subst hn
      refine .inr ⟨hsh.1, hsh.2, l, hu, ?_, ?_⟩
      · rw [bnd_s]
        show sel (bAnd true (bOr (bNot (iEq next next)) (iLt 10000 next))) _ _ = _
        rw [iEq_y rfl, iLt_f (by omega)]
        rfl
      · rw [bnd_s]
        show sel (bNot (iEq next next)) _ _ = _
        rw [iEq_y rfl, nt, sel_f]
        show sel (oIn 0 (lLen rs)) _ _ = _
        rw [hll, oIn_y (by omega), sel_t]
        show some (([] : List RcvT), ((0 : Int), (iSub .i64 next (lAt rs ((0 : Nat) : Int)).2.1, (0 : Int)))) = _
        rw [sub_w (by unfold fits; omega), n1]
        rw [show (lAt rs ((0 : Nat) : Int)).2.1 + (l.length : Int) - (lAt rs ((0 : Nat) : Int)).2.1 = l.length by omega]
    · refine .inl ⟨hsh.1, hsh.2, 0, 3, by decide, ?_, ?_, fun l' h => hn (h.one hf (by omega) hu).2⟩
      · rw [bnd_s]
        show sel (bAnd true (bOr (bNot (iEq next nx)) (iLt 10000 nx))) _ _ = _
        rw [iEq_f hn]
        rfl
      · rw [bnd_s]
        show sel (bNot (iEq next nx)) _ _ = _
        rw [iEq_f hn]
        rfl
/-- The two checks of a journal are one. -/
theorem check_two (rs : List RcvT) (next : Int) (hf : fewJ rs) : ∃ n c : Int, F22 (rs, next) = some (n, c) ∧ F24 (rs, next) = some ([], (0, (n, c))) ∧ ((c ≠ 0 ∧ (∃ i, F66 (rs, next) true = some ([], (i, c))) ∧ ∀ l, ¬ (1 ≤ rs.length ∧ rs.length ≤ 6 ∧ Upto rs rs.length l next)) ∨ (c = 0 ∧ 1 ≤ rs.length ∧ rs.length ≤ 6 ∧ ∃ l, n = l.length ∧ Upto rs rs.length l next ∧ F66 (rs, next) true = some (l, (0, 0)))) := by
  unfold F22
  rcases read_check rs next hf with ⟨hs, e1, e2⟩ | ⟨_, _, i, c, hc, e1, e2, hno⟩ | ⟨h1, h2, l, hu, e1, e2⟩
  · rw [e1, e2, bnd_s]
    exact ⟨0, 6, rfl, rfl, .inl ⟨by decide, ⟨0, rfl⟩, fun l h => hs ⟨h.1, h.2.1⟩⟩⟩
  · rw [e1, e2, bnd_s, iEq_f hc]
    exact ⟨i, c, rfl, rfl, .inl ⟨hc, ⟨i, rfl⟩, fun l h => hno l h.2.2⟩⟩
  · rw [e1, e2, bnd_s]
    exact ⟨_, 0, rfl, rfl, .inr ⟨rfl, h1, h2, l, rfl, hu, rfl⟩⟩
end Go.Proofs.YtdnfnjaccbgplaaDoor.K
end

section
set_option linter.unusedVariables false
set_option linter.unusedSimpArgs false
set_option linter.unnecessarySimpa false
open Go Go.Ev
namespace Go.Proofs.YtdnfnjaccbgplaaDoor.K
/-- Texts no longer than the laws look at. -/
def smallE (e : EntT) : Prop := (sBy e.2.2.2.1).length ≤ 300 ∧ (sBy e.2.2.2.2.2.2.1).length ≤ 300 ∧ (sBy e.2.2.2.2.2.2.2).length ≤ 300
theorem F14_t (e : EntT) : (F14 e = true) = smallE e := by
  unfold F14 smallE
  rw [and_t, and_t, iLe_t, iLe_t, iLe_t, by_len, by_len, by_len]
  exact propext ⟨fun h => by omega, fun h => by omega⟩
theorem F25_eq (l : List EntT) : ∃ b, F25 l = some b ∧ (b = true → l.length ≤ 42 ∧ ∀ k : Nat, k < l.length → smallE (lAt l (k : Int))) := by
  have hll : lLen l = (l.length : Int) := rfl
  unfold F25 L25_0
  have step : ∀ k : Nat, k < l.length → k ≤ 41 → smallE (lAt l (k : Int)) → B25_0 l k = some (.inl (l, ((k + 1 : Nat) : Int))) := by
    intro k hk h1 h2
    unfold B25_0
    rw [iLt_y (by omega), sel_t, iLt_f (by omega), sel_pos (by rw [or_t]; left; rw [oIn_t]; omega), let_s, (F14_t _).mpr h2, show bOr false (bNot true) = false from rfl, sel_f, add_w (by unfold fits; omega)]
    rfl
  have stop : ∀ k : Nat, k < l.length → k ≤ 42 → (k = 42 ∨ ¬ smallE (lAt l (k : Int))) → B25_0 l k = some (.inr (.inr false)) := by
    intro k hk h1 h2
    unfold B25_0
    rw [iLt_y (by omega), sel_t, sel_pos (by rw [or_t]; left; rw [oIn_t]; omega), let_s, sel_pos]
    rw [or_t, iLt_t, not_t, bf_t, F14_t]
    rcases h2 with h2 | h2
    · left; omega
    · right; exact h2
  have done : ∀ k : Nat, k = l.length → B25_0 l k = some (.inr (.inl ())) := by
    intro k hk
    unfold B25_0
    rw [iLt_f (by omega), sel_f]
  have hend : ∃ r, B25_0 l ((min l.length 42 : Nat) : Int) = some (.inr r) ∧ (r = .inl () → l.length ≤ 42) := by
    rcases Nat.lt_or_ge 42 l.length with h | h
    · exact ⟨_, stop (min l.length 42) (by omega) (by omega) (.inl (by omega)), fun h => by cases h⟩
    · exact ⟨_, done (min l.length 42) (by omega), fun _ => h⟩
  obtain ⟨r, hr, hrl⟩ := hend
  have hfirst := iter_first (B := fun (x : ((List EntT) × Int)) => (B25_0 x.1 x.2)) (fun k => (l, (k : Int))) (fun k => ¬ smallE (lAt l (k : Int))) (min l.length 42) (fun _ => .inr false) r (by omega) (fun i hi hp => step i (by omega) (by omega) (Classical.not_not.1 hp)) (fun i hi hp => stop i (by omega) (by omega) (.inr hp)) hr
  rcases hfirst with ⟨k, h1, h2, _, h3⟩ | ⟨h1, h3⟩
  · have h3 : iter (fun (x : ((List EntT) × Int)) => (B25_0 x.1 x.2)) fuel (l, 0) = _ := h3
    rw [h3]
    exact ⟨false, rfl, fun h => by cases h⟩
  · have h3 : iter (fun (x : ((List EntT) × Int)) => (B25_0 x.1 x.2)) fuel (l, 0) = _ := h3
    rw [h3]
    cases r with
    | inl u =>
      refine ⟨true, rfl, fun _ => ⟨hrl rfl, fun k hk => ?_⟩⟩
      have := hrl rfl
      exact Classical.not_not.1 (h1 k (by omega))
    | inr b =>
      cases b with
      | false => exact ⟨false, rfl, fun h => by cases h⟩
      | true =>
        exfalso
        rcases Nat.lt_or_ge 42 l.length with h | h
        · have := stop (min l.length 42) (by omega) (by omega) (.inl (by omega))
          rw [hr] at this
          cases this
        · have := done (min l.length 42) (by omega)
          rw [hr] at this
          cases this
theorem F27_eq {l : List EntT} (h : l.length ≤ 1000000) : F27 l = some l := by
  unfold F27
  rw [sel_pos (lCap_y (by omega) (by omega) h)]
theorem same_self (rs : List RcvT) (n : Int) (h : rs.length ≤ 1000000) : F35 (rs, n) (rs, n) = some true := by
  have hll : lLen rs = (rs.length : Int) := rfl
  unfold F35
  simp only []
  rw [iEq_y rfl, iEq_y rfl, show bOr (bNot true) (bNot true) = false from rfl, sel_f]
  unfold L35_0
  have h1 := iter_run (B := fun (x : (((List RcvT) × Int) × (((List RcvT) × Int) × Int))) => (B35_0 x.1.1 x.1.2 x.2.1.1 x.2.1.2 x.2.2)) (fun i => ((rs, n), ((rs, n), (i : Int)))) (r := .inl ()) rs.length (by omega) ?_ ?_
  · have h1 : iter (fun (x : (((List RcvT) × Int) × (((List RcvT) × Int) × Int))) => (B35_0 x.1.1 x.1.2 x.2.1.1 x.2.1.2 x.2.2)) fuel ((rs, n), ((rs, n), 0)) = _ := h1
    rw [h1]
    rfl
  · intro k hk
    show B35_0 rs n rs n k = _
    unfold B35_0
    rw [iLt_y (by omega), sel_t, oIn_y (by omega), sel_t, sel_t, sEq_y rfl, sEq_y rfl, iEq_y rfl, show bNot (bAnd true (bAnd true true)) = false from rfl, sel_f, add_w (by unfold fits; omega)]
    rfl
  · show B35_0 rs n rs n rs.length = _
    unfold B35_0
    rw [iLt_f (by omega), sel_f]
theorem is_self (rs : List RcvT) (n m c : Int) (h : rs.length ≤ 1000000) : F29 (rs, n) c ((rs, n), (m, c)) = some true := by
  unfold F29
  simp only []
  rw [same_self rs n h, okS_s, or_tt, sel_t, valS_s, let_s, iEq_y rfl]
  rfl
theorem lSet_length {α : Type} (l : List α) (n : Int) (x : α) : (lSet l n x).length = l.length := by unfold lSet; rw [List.length_set]
theorem lAt_set {α : Type} [Inhabited α] {l : List α} {n : Nat} {x : α} (h : n < l.length) : lAt (lSet l (n : Int) x) (n : Int) = x := by
  unfold lAt lSet
  rw [show ((n : Int)).toNat = n by omega, List.getElem?_set_self h]
  rfl
theorem lAt_set_ne {α : Type} [Inhabited α] {l : List α} {n k : Nat} {x : α} (h : n ≠ k) : lAt (lSet l (n : Int) x) (k : Int) = lAt l (k : Int) := by
  unfold lAt lSet
  rw [show ((n : Int)).toNat = n by omega, show ((k : Int)).toNat = k by omega, List.getElem?_set_ne h]
theorem append_two (rs : List RcvT) (next : Int) (l : List EntT) (hf : fewJ rs) (hs : ∀ k : Nat, k < l.length → smallE (lAt l (k : Int))) : ∃ (rs' : List RcvT) (n' n c : Int), F26 (rs, next) l = some ((rs', n'), (n, c)) ∧ F28 (rs, next) l = some (rs', (n', (n, c))) ∧ rs'.length ≤ 8 := by
  have hll : ∀ r : List RcvT, lLen r = (r.length : Int) := fun _ => rfl
  have hle : lLen l = (l.length : Int) := rfl
  obtain ⟨n, c, e1, e2, e3⟩ := check_two rs next hf
  unfold F26 F28 F70
  rw [e1, e2]
  simp only [bnd_s]
  by_cases hc : c = 0
  rotate_left
  · rw [iEq_f hc]
    exact ⟨[], 0, 0, c, rfl, rfl, by simp⟩
  subst hc
  rcases e3 with ⟨h, _⟩ | ⟨_, g1, g2, l0, rfl, hu, _⟩
  · exact absurd rfl h
  rw [show bNot (iEq 0 0) = false from rfl, sel_f, sel_f]
  by_cases h40 : 40 < lLen l
  · rw [iLt_y h40]
    exact ⟨[], 0, 0, 2, rfl, rfl, by simp⟩
  rw [iLt_f h40, sel_f, sel_f, F69_eq (by omega), F23_eq (by omega), bnd_s, bnd_s]
  simp only [hll]
  have hi1 : iSub .i64 (rs.length : Int) 1 = ((rs.length - 1 : Nat) : Int) := by rw [sub_w (by unfold fits; omega)]; omega
  rw [hi1, oIn_y (by omega), sel_t]
  have hloop : ∃ r t, L26_0 (l, (0, ((rs, next), (((rs.length - 1 : Nat) : Int), (l, (lLen l, 0)))))) = some r ∧ L28_0 (l, ((0, (0, 0)), ((rs, next), (((rs.length - 1 : Nat) : Int), 0)))) = some t ∧
      ((∃ i c : Int, r = .inr (0, (i, c)) ∧ t = .inr (0, (i, c))) ∨ ∃ (rs' : List RcvT) (n' : Int), rs'.length ≤ 8 ∧ r = .inl (l, (0, (rs', n'))) ∧ t = .inl (l, ((0, (0, 0)), (rs', n')))) := by
    unfold L26_0 L28_0
    refine loop_two (fun m x y => ∃ (i : Nat) (rs' : List RcvT) (n' : Int), x = (l, (0, ((rs', n'), (((rs.length - 1 : Nat) : Int), (l, (lLen l, (i : Int))))))) ∧ y = (l, ((0, (0, 0)), ((rs', n'), (((rs.length - 1 : Nat) : Int), (i : Int))))) ∧ rs'.length = rs.length ∧ (sBy (lAt rs' ((rs.length - 1 : Nat) : Int)).2.2).length ≤ 1300 ∧ i ≤ l.length ∧ m = l.length - i) l.length ⟨0, rs, next, rfl, rfl, rfl, few_by hf _ (by omega), by omega, by omega⟩ (by omega) ?_
    rintro m x y ⟨i, rs', n', rfl, rfl, h1, h2, h3, rfl⟩
    simp only
    unfold B26_0 B28_0
    simp only [hle, hll]
    by_cases hlt : i < l.length
    rotate_left
    · rw [iLt_f (by omega), sel_f, sel_f]
      exact .inr ⟨_, _, rfl, rfl, .inr ⟨rs', n', by omega, rfl, rfl⟩⟩
    rw [iLt_y (by omega), sel_t, sel_t, oIn_y (by omega), sel_t, sel_t, sel_t]
    have hsm := hs i hlt
    generalize lAt l (i : Int) = e at *
    obtain ⟨k, n, m, nm, f, u, x, y⟩ := e
    obtain ⟨s1, s2, s3⟩ := hsm
    simp only at s1 s2 s3
    unfold F71
    simp only [hll]
    by_cases hk : k = 0
    rotate_left
    · rw [iEq_f hk]
      exact .inr ⟨_, _, rfl, rfl, .inl ⟨i, 5, rfl, rfl⟩⟩
    rw [iEq_y hk, nt, sel_f, sel_f]
    by_cases h9 : 9999 < n'
    · rw [iLt_y h9]
      exact .inr ⟨_, _, rfl, rfl, .inl ⟨i, 19, rfl, rfl⟩⟩
    rw [iLt_f h9, sel_f, sel_f]
    obtain ⟨c, b1, b2, b3⟩ := bytesOf_eq n' n m nm f u x y (by omega)
    rw [b2]
    rcases b3 with ⟨hc, b3⟩ | ⟨rfl, t, ht, b3, b4⟩
    · rw [b3]
      simp only [bnd_s, iEq_f hc, nf, sel_t]
      exact .inr ⟨_, _, rfl, rfl, .inl ⟨i, c, rfl, rfl⟩⟩
    · obtain ⟨_, _, _, _, _, r6, r7, r8⟩ := right_of n' n m nm f u x y (by omega) b2
      have htl : (sBy t).length ≤ 1000 := by rw [ht, entB_len r6]; omega
      have hsub : iSub .i64 (rs'.length : Int) 1 = ((rs.length - 1 : Nat) : Int) := by rw [sub_w (by unfold fits; omega)]; omega
      rw [b3, b4]
      simp only [bnd_s, show bNot (iEq 0 0) = false from rfl, sel_f, hsub]
      rw [oIn_y (a := ((rs.length - 1 : Nat) : Int)) (b := (rs'.length : Int)) (by omega), sel_t, F53_eq, bnd_s, mul_ite (by unfold fits; omega)]
      by_cases h12 : 1200 < iAdd .i64 (sLen (lAt rs' ((rs.length - 1 : Nat) : Int)).2.2) (sLen t)
      · rw [iLt_y h12, if_pos rfl]
        exact .inr ⟨_, _, rfl, rfl, .inl ⟨i, 30, rfl, rfl⟩⟩
      · rw [iLt_f h12]
        rw [add_w (by rw [by_len, by_len]; unfold fits; omega), by_len, by_len] at h12
        have hok : sOk (lAt rs' ((rs.length - 1 : Nat) : Int)).2.2 t = true := sOk_y (by omega)
        rw [hok]
        have hadd : iAdd .i64 (i : Int) 1 = ((i + 1 : Nat) : Int) := by rw [add_w (by unfold fits; omega)]; rfl
        refine .inl ⟨l.length - (i + 1), _, _, by omega, rfl, rfl, i + 1, lSet rs' ((rs.length - 1 : Nat) : Int) ((lAt rs' ((rs.length - 1 : Nat) : Int)).1, ((lAt rs' ((rs.length - 1 : Nat) : Int)).2.1, (sAdd (lAt rs' ((rs.length - 1 : Nat) : Int)).2.2 t))), iAdd .i64 n' 1, by rw [hadd], by rw [hadd], by rw [lSet_length, h1], ?_, by omega, rfl⟩
        rw [lAt_set (by omega), by_add, List.length_append]
        omega
  obtain ⟨r, t, q1, q2, ⟨i, c, rfl, rfl⟩ | ⟨rs', n', h8, rfl, rfl⟩⟩ := hloop
  · rw [q1, q2]
    exact ⟨[], 0, i, c, rfl, rfl, by simp⟩
  · rw [q1, q2]
    exact ⟨rs', n', lLen l, 0, rfl, rfl, h8⟩
end Go.Proofs.YtdnfnjaccbgplaaDoor.K
end

section
set_option linter.unusedVariables false
set_option linter.unusedSimpArgs false
set_option linter.unnecessarySimpa false
open Go Go.Ev
namespace Go.Proofs.YtdnfnjaccbgplaaDoor.K
/-- The last receiver has other bytes. -/
noncomputable def withB (rs : List RcvT) (s : ByteArray) : List RcvT := lSet rs ((rs.length - 1 : Nat) : Int) ((lAt rs ((rs.length - 1 : Nat) : Int)).1, ((lAt rs ((rs.length - 1 : Nat) : Int)).2.1, s))
noncomputable def lastB (rs : List RcvT) : ByteArray := (lAt rs ((rs.length - 1 : Nat) : Int)).2.2
theorem torn_two (rs : List RcvT) (next keep : Int) (hf : fewJ rs) : ∃ (rs' : List RcvT) (n' c : Int), F30 (rs, next) keep = some ((rs', n'), c) ∧ F33 (rs, next) keep = some (rs', (n', (0, c))) ∧ rs'.length ≤ 8 ∧ (c = 0 → 1 ≤ rs.length ∧ rs.length ≤ 6 ∧ 0 ≤ keep ∧ keep ≤ sLen (lastB rs) ∧ n' = next ∧ rs' = withB rs (sCut (lastB rs) 0 keep) ∧ ∃ l, Upto rs rs.length l next) := by
  have hll : ∀ r : List RcvT, lLen r = (r.length : Int) := fun _ => rfl
  obtain ⟨n, c, e1, e2, e3⟩ := check_two rs next hf
  unfold F30 F33 F70
  rw [e1, e2]
  simp only [bnd_s]
  by_cases hc : c = 0
  rotate_left
  · rw [iEq_f hc]
    exact ⟨[], 0, c, rfl, rfl, by simp, fun h => absurd h hc⟩
  subst hc
  rcases e3 with ⟨h, _⟩ | ⟨_, g1, g2, l0, rfl, hu, _⟩
  · exact absurd rfl h
  rw [show bNot (iEq 0 0) = false from rfl, sel_f, sel_f, F69_eq (by omega), F23_eq (by omega), bnd_s]
  simp only [hll]
  have hi1 : iSub .i64 (rs.length : Int) 1 = ((rs.length - 1 : Nat) : Int) := by rw [sub_w (by unfold fits; omega)]; omega
  rw [hi1, oIn_y (by omega), sel_t, sel_t, let_s, let_s]
  simp only [sel_t, bnd_s]
  by_cases hk : 0 ≤ keep ∧ keep ≤ sLen (lAt rs ((rs.length - 1 : Nat) : Int)).2.2
  · rw [(within_t hk).1, (within_t hk).2, nt, sel_f, sel_f, oCut_y (by omega), sel_t, sel_t, oIn_y (by omega), sel_t, sel_t]
    exact ⟨_, _, 0, rfl, rfl, by rw [lSet_length]; omega, fun _ => ⟨g1, g2, hk.1, hk.2, rfl, rfl, l0, hu⟩⟩
  · rw [(within_f hk).1, (within_f hk).2]
    exact ⟨[], 0, 3, rfl, rfl, by simp, fun h => absurd h (by decide)⟩
/-- All receivers but the last one are right, and the last one is in order. -/
def Fore (rs : List RcvT) (l : List EntT) (nx : Int) : Prop := 1 ≤ rs.length ∧ rs.length ≤ 6 ∧ Upto rs (rs.length - 1) l nx ∧ rErr rs (rs.length - 1) = 0 ∧ (lAt rs ((rs.length - 1 : Nat) : Int)).2.1 = nx
theorem recover_two (rs : List RcvT) (next : Int) (hf : fewJ rs) : ∃ (rs' : List RcvT) (n' n c : Int), F31 (rs, next) = some ((rs', n'), (n, c)) ∧ F32 (rs, next) = some (rs', (n', (n, c))) ∧ rs'.length ≤ 8 ∧
    ((c ≠ 0 ∧ ∀ l nx, ¬ Fore rs l nx) ∨ (c = 0 ∧ ∃ l nx li b c', Fore rs l nx ∧ Seq (lastB rs) nx li 0 b 0 ∧ Ends (lastB rs) nx li b c' ∧ rs' = withB rs (sCut (lastB rs) 0 b) ∧ n' = iAdd .i64 nx (li.length : Int) ∧ n = sLen (lastB rs) - b)) := by
  have hll : ∀ r : List RcvT, lLen r = (r.length : Int) := fun _ => rfl
  unfold F31 F32 F66
  simp only [let_s, hll]
  by_cases hsh : 1 ≤ rs.length ∧ rs.length ≤ 6
  rotate_left
  · rw [(within_f (a := (rs.length : Int)) (b := 1) (c := 6) (by omega)).1, (within_f (a := (rs.length : Int)) (b := 1) (c := 6) (by omega)).2]
    exact ⟨[], 0, 0, 6, rfl, rfl, by simp, .inl ⟨by decide, fun l nx h => hsh ⟨h.1, h.2.1⟩⟩⟩
  have hi1 : iSub .i64 (rs.length : Int) 1 = ((rs.length - 1 : Nat) : Int) := by rw [sub_w (by unfold fits; omega)]; omega
  have hb := few_by hf (rs.length - 1) (by omega)
  rw [(within_t (a := (rs.length : Int)) (b := 1) (c := 6) (by omega)).1, (within_t (a := (rs.length : Int)) (b := 1) (c := 6) (by omega)).2, nt, sel_f, sel_f, oIn_y (by omega), sel_t, F23_eq (by omega), bnd_s]
  have hloop : ∃ r t, L66_0 (false, ((rs, next), (([] : List EntT), (0, (rs, ((rs.length : Int), 0)))))) = some r ∧ L32_0 ((rs, next), ((0, (0, 0)), ((lAt rs 0).2.1, ((rs, next), 0)))) = some t ∧
      ((∃ i c : Int, c ≠ 0 ∧ r = .inr (i, c) ∧ t = .inr (.inl (0, (0, c))) ∧ ∀ l nx, ¬ Fore rs l nx) ∨ ∃ l nx nx' li b c', r = .inl (false, ((rs, next), (l, nx'))) ∧ Fore rs l nx ∧ F72 (lAt rs ((rs.length - 1 : Nat) : Int)) = some (li, (((b : Nat) : Int), c')) ∧ Seq (lastB rs) nx li 0 b 0 ∧ Ends (lastB rs) nx li b c' ∧ t = .inr (.inr (withB rs (sCut (lastB rs) 0 b), (iAdd .i64 nx (li.length : Int), (sLen (lastB rs) - b, 0))))) := by
    unfold L66_0 L32_0
    refine loop_two (fun m x y => ∃ (i : Nat) (l : List EntT) (nx : Int), x = (false, ((rs, next), (l, (nxP i nx, (rs, ((rs.length : Int), (i : Int))))))) ∧ y = ((rs, next), ((0, (0, 0)), (nx, ((rs, next), (i : Int))))) ∧ i < rs.length ∧ m = rs.length - i ∧ Upto rs i l nx) rs.length ⟨0, [], _, rfl, rfl, by omega, by omega, rfl, rfl⟩ (by omega) ?_
    rintro m x y ⟨i, l, nx, rfl, rfl, hlt, rfl, hu⟩
    simp only
    unfold B66_0 B32_0
    simp only [hll]
    have hOne : ∀ l' nx', Upto rs (rs.length - 1) l' nx' → ∃ l0 nx0, Upto rs i l0 nx0 ∧ (i < rs.length - 1 → rErr rs i = 0 ∧ (lAt rs (i : Nat)).2.1 = nx0 ∧ ∃ li, Seq (lAt rs (i : Nat)).2.2 nx0 li 0 (sBy (lAt rs (i : Nat)).2.2).length 0) ∧ (i = rs.length - 1 → l0 = l' ∧ nx0 = nx') := by
      have gen : ∀ d j l' nx', j = i + d → Upto rs j l' nx' → ∃ l0 nx0, Upto rs i l0 nx0 ∧ (i < j → rErr rs i = 0 ∧ (lAt rs (i : Nat)).2.1 = nx0 ∧ ∃ li, Seq (lAt rs (i : Nat)).2.2 nx0 li 0 (sBy (lAt rs (i : Nat)).2.2).length 0) ∧ (i = j → l0 = l' ∧ nx0 = nx') := by
        intro d
        induction d with
        | zero => intro j l' nx' hj h; subst hj; exact ⟨l', nx', h, fun h => by omega, fun _ => ⟨rfl, rfl⟩⟩
        | succ d ih =>
          intro j l' nx' hj h
          obtain rfl : j = i + d + 1 := by omega
          obtain ⟨l0, nx0, li, h0, h1, h2, h3, h4, h5⟩ := h
          obtain ⟨l1, nx1, k1, k2, k3⟩ := ih (i + d) l0 nx0 rfl h0
          refine ⟨l1, nx1, k1, fun _ => ?_, fun h => by omega⟩
          by_cases hd : d = 0
          · subst hd
            obtain ⟨rfl, rfl⟩ := k3 (by omega)
            exact ⟨h1, h2, li, h3⟩
          · exact k2 (by omega)
      intro l' nx' h
      exact gen (rs.length - 1 - i) (rs.length - 1) l' nx' (by omega) h
    rw [iLt_y (by omega), sel_t, sel_t, oIn_y (by omega), sel_t, sel_t, F85_eq rs next i hlt (by omega), F67_eq rs next i nx hlt (by omega), bnd_s, bnd_s]
    by_cases he : rErr rs i = 0
    rotate_left
    · rw [if_pos he, iEq_f he]
      refine .inr ⟨_, _, rfl, rfl, .inl ⟨_, _, he, rfl, rfl, ?_⟩⟩
      rintro l' nx' ⟨_, _, f1, f2, f3⟩
      obtain ⟨l0, nx0, _, k2, _⟩ := hOne l' nx' f1
      by_cases hlast : i = rs.length - 1
      · rw [hlast] at he; exact he f2
      · exact he (k2 (by omega)).1
    rw [if_neg (by simpa using he), he]
    by_cases ho : i ≠ 0 ∧ (lAt rs (i : Int)).2.1 ≠ nx
    · rw [if_pos ho]
      refine .inr ⟨_, _, ?_, rfl, .inl ⟨i, 14, by decide, rfl, rfl, ?_⟩⟩
      · rw [sel_neg (by rfl), sel_pos]
        unfold nxP
        rw [if_neg ho.1, and_t, iLt_t, not_t, bf_t, iEq_t]
        exact ⟨by omega, ho.2⟩
      · rintro l' nx' ⟨_, _, f1, f2, f3⟩
        obtain ⟨l0, nx0, k1, k2, k3⟩ := hOne l' nx' f1
        obtain ⟨_, rfl⟩ := hu.one hf (by omega) k1
        by_cases hlast : i = rs.length - 1
        · obtain ⟨_, rfl⟩ := k3 hlast
          rw [← hlast] at f3
          exact ho.2 f3
        · exact ho.2 (k2 (by omega)).2.1
    rw [if_neg ho]
    have hF : (lAt rs (i : Int)).2.1 = nx := by
      by_cases h0 : i = 0
      · subst h0; exact hu.2.symm
      · exact Classical.byContradiction fun hc => ho ⟨h0, hc⟩
    have hP : bAnd (iLt 0 (i : Int)) (bNot (iEq (lAt rs (i : Int)).2.1 (nxP i nx))) = false := by
      rw [bf_t, and_t, iLt_t, not_t, bf_t, iEq_t]
      unfold nxP
      rintro ⟨h1, h2⟩
      rw [if_neg (by omega)] at h2
      exact h2 hF
    rw [hP, show bNot (iEq 0 0) = false from rfl, sel_f, sel_f, sel_f, show bAnd (bNot false) (iEq (i : Int) (iSub .i64 (rs.length : Int) 1)) = (iEq (i : Int) (iSub .i64 (rs.length : Int) 1)) from by cases iEq (i : Int) (iSub .i64 (rs.length : Int) 1) <;> rfl, hi1]
    have hb := few_by hf i hlt
    obtain ⟨li, b, c, w1, w2, w3, w4⟩ := whole_eq (lAt rs (i : Int)).1 (lAt rs (i : Int)).2.1 (lAt rs (i : Int)).2.2 (by omega)
    have w1 : F72 (lAt rs (i : Int)) = _ := w1
    rw [hF] at w2 w3 w4
    have hle := w3.le (by omega)
    rw [w2, bnd_s]
    by_cases hlast : i = rs.length - 1
    · rw [iEq_y (by omega), sel_t, sel_t]
      simp only [sel_t]
      rw [oCut_y (by rw [by_len]; omega), sel_t]
      refine .inr ⟨_, _, rfl, rfl, .inr ⟨l, nx, nxP i nx, li, b, c, rfl, ⟨hsh.1, hsh.2, by rw [← hlast]; exact hu, by rw [← hlast]; exact he, by rw [← hlast]; exact hF⟩, by rw [← hlast]; exact w1, ?_, ?_, ?_⟩⟩
      · unfold lastB; rw [← hlast]; exact w3
      · unfold lastB; rw [← hlast]; exact w4
      · unfold withB lastB
        rw [← hlast, sub_w (by rw [by_len]; unfold fits; omega)]
        rfl
    · rw [iEq_f (by omega), sel_f, sel_f, w1, bnd_s]
      rcases w4 with ⟨rfl, rfl⟩ | ⟨hc, w4⟩
      · obtain ⟨n1, n2, n3⟩ := hu.nx hf (by omega)
        refine .inl ⟨rs.length - (i + 1), _, _, by omega, ?_, ?_, i + 1, l ++ li, iAdd .i64 nx (li.length : Int), rfl, rfl, by omega, rfl, l, nx, li, hu, he, hF, w3, rfl, rfl⟩
        · rw [show bNot (iEq 0 0) = false from rfl, sel_f, sel_pos (lCap_y (by omega) (by omega) (by show (l ++ li).length ≤ _; rw [List.length_append]; omega)), hF, add_w (b := 1) (by unfold fits; omega)]
          unfold nxP
          rw [if_neg (by omega)]
          rfl
        · rw [show bNot (iEq 0 0) = false from rfl, sel_f, add_w (b := 1) (by unfold fits; omega)]
          rfl
      · rw [iEq_f hc]
        refine .inr ⟨_, _, rfl, rfl, .inl ⟨_, _, hc, rfl, rfl, ?_⟩⟩
        rintro l' nx' ⟨_, _, f1, f2, f3⟩
        obtain ⟨l0, nx0, k1, k2, k3⟩ := hOne l' nx' f1
        obtain ⟨_, rfl⟩ := hu.one hf (by omega) k1
        obtain ⟨_, _, li', hs'⟩ := k2 (by omega)
        obtain ⟨_, _, h0⟩ := Seq.uniq (c := c) (c' := 0) (by omega) w3 (.inr ⟨hc, w4⟩) hs' (.inl ⟨rfl, rfl⟩)
        exact hc h0
  obtain ⟨r, t, e1, e2, ⟨i, c, hc, rfl, rfl, hno⟩ | ⟨l, nx, nx', li, b, c', rfl, hfo, hw, hs, he, rfl⟩⟩ := hloop
  · rw [e1, e2]
    refine ⟨[], 0, 0, c, ?_, rfl, by simp, .inl ⟨hc, hno⟩⟩
    rw [bnd_s]
    show bndS (some _) _ = _
    rw [bnd_s]
    show sel (bNot (iEq c 0)) _ _ = _
    rw [iEq_f hc]
    rfl
  · have hle := hs.le (by omega)
    have hlb : (sBy (lastB rs)).length ≤ 1300 := hb
    rw [e1, e2, bnd_s, bnd_s]
    refine ⟨withB rs (sCut (lastB rs) 0 b), iAdd .i64 nx (li.length : Int), sLen (lastB rs) - b, 0, ?_, rfl, by unfold withB; rw [lSet_length]; omega, .inr ⟨rfl, l, nx, li, b, c', hfo, hs, he, rfl, rfl, rfl⟩⟩
    show bndS (some (l, ((0 : Int), (0 : Int)))) _ = _
    rw [bnd_s]
    show sel (bNot (iEq 0 0)) _ _ = _
    rw [show bNot (iEq 0 0) = false from rfl, sel_f, F69_eq (by omega), bnd_s]
    simp only [hll]
    rw [hi1, oIn_y (by omega), sel_t, hw, bnd_s]
    show sel (oCut 0 (b : Int) (sLen (lastB rs))) _ _ = _
    rw [oCut_y (by rw [by_len]; omega), sel_t, lAt_set (by omega)]
    show some ((withB rs (sCut (lastB rs) 0 (b : Int)), iAdd .i64 (lAt rs ((rs.length - 1 : Nat) : Int)).2.1 (li.length : Int)), (iSub .i64 (sLen (lastB rs)) (b : Int), (0 : Int))) = _
    rw [hfo.2.2.2.2, sub_w (by rw [by_len]; unfold fits; omega)]
end Go.Proofs.YtdnfnjaccbgplaaDoor.K
end

section
set_option linter.unusedVariables false
set_option linter.unusedSimpArgs false
set_option linter.unnecessarySimpa false
open Go Go.Ev
namespace Go.Proofs.YtdnfnjaccbgplaaDoor.K
theorem whole_right {rs : List RcvT} (hf : fewJ rs) {i : Nat} (hi : i < rs.length) {nx0 : Int} {li : List EntT} (h1 : (lAt rs (i : Nat)).2.1 = nx0) (h2 : Seq (lAt rs (i : Nat)).2.2 nx0 li 0 (sBy (lAt rs (i : Nat)).2.2).length 0) : ∃ z w, F68 (lAt rs (i : Nat)).2.2 (lAt rs (i : Nat)).2.1 = some (li, (z, (w, 0))) := by
  have hb := few_by hf i hi
  obtain ⟨li', b, c, w1, w2, w3, w4⟩ := whole_eq (lAt rs (i : Int)).1 (lAt rs (i : Int)).2.1 (lAt rs (i : Int)).2.2 (by omega)
  rw [h1] at w2 w3 w4
  obtain ⟨rfl, rfl, rfl⟩ := Seq.uniq (c := 0) (by omega) h2 (.inl ⟨rfl, rfl⟩) w3 w4
  rw [h1]
  exact ⟨_, _, w2⟩
theorem F73_eq {rs : List RcvT} {next : Int} (hf : fewJ rs) {l : List EntT} (hu : Upto rs rs.length l next) : F73 (rs, next) = some l := by
  have hll : lLen rs = (rs.length : Int) := rfl
  have h8 := hf.1
  unfold F73 L73_0
  have hl := loop_inv (B := fun (x : (((List RcvT) × Int) × ((List EntT) × Int))) => (B73_0 x.1.1 x.1.2 x.2.1 x.2.2)) (Q := fun r => r = l) (x := ((rs, next), (([] : List EntT), 0)))
    (fun m x => ∃ (i : Nat) (l0 : List EntT) (nx0 : Int), x = ((rs, next), (l0, (i : Int))) ∧ i ≤ rs.length ∧ m = rs.length - i ∧ Upto rs i l0 nx0) rs.length ⟨0, [], _, rfl, by omega, by omega, rfl, rfl⟩ (by omega) ?_
  · rw [ok_is] at hl
    rw [hl]
    rfl
  · rintro m x ⟨i, l0, nx0, rfl, hi, rfl, h0⟩
    simp only
    unfold B73_0
    by_cases hlt : i < rs.length
    · obtain ⟨l1, nx1, li, g0, g1, g2, g3, g4⟩ := hu.at i hlt
      obtain ⟨rfl, rfl⟩ := h0.one hf hi g0
      obtain ⟨z, w, hw⟩ := whole_right hf hlt g2 g3
      obtain ⟨_, n2, _⟩ := g4.nx hf (by omega)
      rw [iLt_y (by omega), sel_t, oIn_y (by omega), sel_t, sel_t, hw, bnd_s, sel_pos (lCap_y (by omega) (by omega) (by show (l0 ++ li).length ≤ _; omega)), ok_some, add_w (by unfold fits; omega)]
      exact ⟨rs.length - (i + 1), by omega, i + 1, l0 ++ li, _, rfl, by omega, rfl, g4⟩
    · obtain rfl : i = rs.length := by omega
      rw [iLt_f (by omega), sel_f, ok_some]
      exact (h0.one hf hi hu).1
theorem entries_two (rs : List RcvT) (next a b : Int) (hf : fewJ rs) (ha : fits a) (hb : fits b) : ∃ (l : List EntT) (lo hi c : Int), F39 (rs, next) a b = some ((l, lo, hi), c) ∧ F41 (rs, next) a b = some ((l, lo, hi), c) ∧ l.length ≤ 1000 ∧
    (∀ l0 : List EntT, Upto rs rs.length l0 next → 1 ≤ rs.length → rs.length ≤ 6 → (lAt rs (0 : Nat)).2.1 ≤ a → a ≤ b → b ≤ next - 1 → l = l0 ∧ c = 0 ∧ lo = a - (lAt rs (0 : Nat)).2.1 ∧ hi = b - (lAt rs (0 : Nat)).2.1 + 1) := by
  have hll : ∀ r : List RcvT, lLen r = (r.length : Int) := fun _ => rfl
  have h8 := hf.1
  unfold fits at ha hb
  obtain ⟨n, c, e1, e2, e3⟩ := check_two rs next hf
  unfold F39 F41 F70
  rw [e2]
  simp only [bnd_s]
  rcases e3 with ⟨hc, ⟨i, e3⟩, hno⟩ | ⟨rfl, g1, g2, l, rfl, hu, e3⟩
  · rw [e3, bnd_s]
    show ∃ l lo hi c', sel (bNot (iEq c 0)) _ _ = _ ∧ _
    rw [iEq_f hc]
    exact ⟨[], 0, 0, c, rfl, rfl, by simp, fun l0 hu h1 h2 _ _ _ => absurd ⟨h1, h2, hu⟩ (hno l0)⟩
  rw [e3, bnd_s]
  show ∃ l lo hi c', sel (bNot (iEq 0 0)) _ _ = _ ∧ _
  rw [show bNot (iEq 0 0) = false from rfl, sel_f, sel_f]
  obtain ⟨n1, n2, n3⟩ := hu.nx hf (by omega)
  have n4 := n3 (by omega)
  have hFF : ∀ a b c, F37 a b c = F50 a b c := fun _ _ _ => rfl
  simp only [let_s, hFF, F73_eq hf hu, bnd_s, hll]
  have hs1 : iSub .i64 next 1 = next - 1 := sub_w (by unfold fits; omega)
  rw [hs1]
  have hor : ∀ p q : Bool, sel (bNot p) (bNot p) (bNot q) = bOr (bNot p) (bNot q) := by intro p q; cases p <;> cases q <;> rfl
  rw [hor, oIn_y (by omega), sel_t]
  by_cases q1 : 1 ≤ a ∧ a ≤ next
  rotate_left
  · rw [show F50 a 1 next = false by rw [bf_t, F50_t]; exact q1]
    exact ⟨[], 0, 0, 3, rfl, rfl, by simp, fun l0 _ _ _ h1 h2 h3 => absurd ⟨by omega, by omega⟩ q1⟩
  rw [(F50_t a 1 next).mpr q1, sub_w (a := a) (b := 1) (by unfold fits; omega)]
  by_cases q2 : a - 1 ≤ b ∧ b ≤ next - 1
  rotate_left
  · rw [show F50 b (a - 1) (next - 1) = false by rw [bf_t, F50_t]; exact q2]
    exact ⟨[], 0, 0, 3, rfl, rfl, by simp, fun l0 _ _ _ h1 h2 h3 => absurd ⟨by omega, by omega⟩ q2⟩
  rw [(F50_t b (a - 1) (next - 1)).mpr q2, show bOr (bNot true) (bNot true) = false from rfl, sel_f]
  by_cases q3 : b < a
  · rw [iLt_y q3]
    exact ⟨[], 0, 0, 0, rfl, rfl, by simp, fun l0 _ _ _ h1 h2 h3 => absurd h2 (by omega)⟩
  rw [iLt_f q3, sel_f]
  by_cases q4 : a < (lAt rs (0 : Nat)).2.1
  · have q4' : a < (lAt rs 0).2.1 := q4
    rw [iLt_y q4']
    exact ⟨[], 0, 0, 11, rfl, rfl, by simp, fun l0 _ _ _ h1 h2 h3 => absurd q4 (by omega)⟩
  have q4' : ¬ a < (lAt rs 0).2.1 := q4
  have e5 : iSub .i64 a (lAt rs 0).2.1 = a - (lAt rs (0 : Nat)).2.1 := sub_w (by show fits (a - (lAt rs (0 : Nat)).2.1); unfold fits; omega)
  have e6 : iSub .i64 b (lAt rs 0).2.1 = b - (lAt rs (0 : Nat)).2.1 := sub_w (by show fits (b - (lAt rs (0 : Nat)).2.1); unfold fits; omega)
  have hl : lLen l = (l.length : Int) := rfl
  rw [iLt_f q4', e5, e6, add_w (by unfold fits; omega), oCut_y (by omega)]
  simp only [sel_f, sel_t]
  refine ⟨l, _, _, 0, rfl, rfl, by omega, fun l0 hu0 _ _ _ _ _ => ⟨(hu.one hf (by omega) hu0).1, rfl, rfl, rfl⟩⟩
end Go.Proofs.YtdnfnjaccbgplaaDoor.K
end

section
set_option linter.unusedVariables false
set_option linter.unusedSimpArgs false
set_option linter.unnecessarySimpa false
open Go Go.Ev
namespace Go.Proofs.YtdnfnjaccbgplaaDoor.K
theorem F36_eq (a b : List EntT) (h : a.length ≤ 1000000) (hab : a = b) : F36 a b = some true := by
  subst hab
  have hll : lLen a = (a.length : Int) := rfl
  unfold F36
  rw [iEq_y rfl, nt, sel_f]
  unfold L36_0
  have h1 := iter_run (B := fun (x : ((List EntT) × ((List EntT) × Int))) => (B36_0 x.1 x.2.1 x.2.2)) (fun i => (a, (a, (i : Int)))) (r := .inl ()) a.length (by omega) ?_ ?_
  · have h1 : iter (fun (x : ((List EntT) × ((List EntT) × Int))) => (B36_0 x.1 x.2.1 x.2.2)) fuel (a, (a, 0)) = _ := h1
    rw [h1]
    rfl
  · intro k hk
    show B36_0 a a k = _
    unfold B36_0
    simp only [iEq_y rfl, sEq_y rfl]
    rw [iLt_y (by omega), sel_t, oIn_y (by omega), sel_t, sel_t, sel_neg (by rfl), add_w (by unfold fits; omega)]
    rfl
  · show B36_0 a a a.length = _
    unfold B36_0
    rw [iLt_f (by omega), sel_f]
theorem lCut_length {α : Type} (l : List α) (a b : Int) : (lCut l a b).length ≤ l.length := by
  unfold lCut
  rw [List.length_drop, List.length_take]
  omega
theorem recvOf_two (rs : List RcvT) (next a : Int) (hf : fewJ rs) : ∃ (s : ByteArray) (c : Int), F40 (rs, next) a = some (s, c) ∧ F42 (rs, next) a = some (s, c) := by
  have hll : lLen rs = (rs.length : Int) := rfl
  have h8 := hf.1
  obtain ⟨n, c, e1, e2, e3⟩ := check_two rs next hf
  unfold F40 F42 F70
  rw [e1, e2]
  simp only [bnd_s]
  by_cases hc : c = 0
  rotate_left
  · rw [iEq_f hc]
    exact ⟨_, c, rfl, rfl⟩
  subst hc
  rcases e3 with ⟨h, _⟩ | ⟨_, g1, g2, l, rfl, hu, _⟩
  · exact absurd rfl h
  obtain ⟨n1, n2, n3⟩ := hu.nx hf (by omega)
  have n4 := n3 (by omega)
  rw [show bNot (iEq 0 0) = false from rfl, sel_f, sel_f, hll]
  have hloop : ∃ r t, L40_0 (a, ((rs, next), (rs, ((rs.length : Int), 0)))) = some r ∧ L42_0 (a, ((rs, next), 0)) = some t ∧ r = t := by
    unfold L40_0 L42_0
    refine loop_two (fun m x y => ∃ (i : Nat), x = (a, ((rs, next), (rs, ((rs.length : Int), (i : Int))))) ∧ y = (a, ((rs, next), (i : Int))) ∧ i ≤ rs.length ∧ m = rs.length - i) rs.length ⟨0, rfl, rfl, by omega, by omega⟩ (by omega) ?_
    rintro m x y ⟨i, rfl, rfl, hi, rfl⟩
    simp only
    unfold B40_0 B42_0
    simp only [hll]
    by_cases hlt : i < rs.length
    rotate_left
    · rw [iLt_f (by omega), sel_f, sel_f]
      exact .inr ⟨_, _, rfl, rfl, rfl⟩
    obtain ⟨l0, nx0, li, k0, k1, k2, k3, k4⟩ := hu.at i hlt
    obtain ⟨z, w, hw⟩ := whole_right hf hlt k2 k3
    have hb := few_by hf i hlt
    have hle := k3.le (by omega)
    obtain ⟨m1, m2, m3⟩ := k0.nx hf hi
    have hnx : 1 ≤ nx0 ∧ nx0 ≤ 10000 := by
      by_cases h : i = 0
      · subst h
        rw [k0.2]
        exact ⟨n4.1, n4.2.1⟩
      · have := m3 (by omega)
        omega
    obtain ⟨se, _⟩ := seq_end k3 hnx (by omega)
    rw [se] at k4
    have hi1 : iAdd .i64 (i : Int) 1 = ((i + 1 : Nat) : Int) := by rw [add_w (by unfold fits; omega)]; rfl
    have hend : sel (iLt ((i + 1 : Nat) : Int) (rs.length : Int)) (lAt rs ((i + 1 : Nat) : Int)).2.1 next = nx0 + li.length := by
      by_cases hj : i + 1 < rs.length
      · rw [iLt_y (by omega), sel_t]
        obtain ⟨_, nx1, _, j0, _, j2, _⟩ := hu.at (i + 1) hj
        rw [j2]
        exact (k4.one hf (by omega) j0).2.symm
      · rw [iLt_f (by omega), sel_f]
        have : i + 1 = rs.length := by omega
        rw [this] at k4
        exact (k4.one hf (by omega) hu).2.symm
    rw [iLt_y (a := (i : Int)) (by omega), sel_t, sel_t, oIn_y (a := (i : Int)) (by omega), sel_t, sel_t, hi1, hw, bnd_s]
    rw [sel_pos (b := bOr _ _) (by rw [or_t, oIn_t, not_t, bf_t, iLt_t]; omega), hend]
    have hl2 : lLen li = (li.length : Int) := rfl
    rw [k2, sub_w (by unfold fits; omega), let_s, let_s]
    show _ ∨ ∃ r s, _ ∧ sel (bAnd (iLt 0 (lLen li)) (F37 a nx0 (iSub .i64 (iAdd .i64 nx0 (lLen li)) 1))) _ _ = _ ∧ _
    rw [hl2, add_w (a := nx0) (by unfold fits; omega), sub_w (a := nx0 + (li.length : Int)) (by unfold fits; omega)]
    by_cases hw : nx0 ≤ a ∧ a ≤ nx0 + li.length - 1
    · rw [(within_t hw).1, (within_t hw).2, iLt_y (by omega)]
      exact .inr ⟨_, _, rfl, rfl, rfl⟩
    · rw [(within_f hw).1, (within_f hw).2]
      refine .inl ⟨rs.length - (i + 1), _, _, by omega, rfl, ?_, i + 1, rfl, rfl, by omega, rfl⟩
      rw [sel_neg]
      rw [bf_t, and_t]
      intro h
      cases h.2
  obtain ⟨r, t, q1, q2, rfl⟩ := hloop
  rw [q1, q2]
  cases r with
  | inl u => exact ⟨_, 11, rfl, rfl⟩
  | inr p => exact ⟨p.1, p.2, rfl, rfl⟩
end Go.Proofs.YtdnfnjaccbgplaaDoor.K
end

section
set_option linter.unusedVariables false
set_option linter.unusedSimpArgs false
set_option linter.unnecessarySimpa false
open Go Go.Ev
namespace Go.Proofs.YtdnfnjaccbgplaaDoor.K
theorem at_two (rs : List RcvT) (next : Int) (nm : ByteArray) (h : rs.length ≤ 1000) : ∃ i : Int, F74 (rs, next) nm = some i ∧ F75 (rs, next) nm = some i ∧ ((i = -1 ∧ ¬ dupN rs nm rs.length) ∨ (0 ≤ i ∧ dupN rs nm rs.length)) := by
  have hll : lLen rs = (rs.length : Int) := rfl
  unfold F74 F75 F87_1 L87_0_1 L75_0
  simp only [hll]
  have a1 := iter_first (B := fun (x : (ByteArray × ((List RcvT) × (Int × Int)))) => (B87_0_1 x.1 x.2.1 x.2.2.1 x.2.2.2)) (fun k => (nm, (rs, ((rs.length : Int), (k : Int))))) (fun k => (lAt rs (k : Int)).1 = nm) rs.length (fun k => .inr (nm, (k : Int))) (.inl nm) (by omega) ?_ ?_ ?_
  have a2 := iter_first (B := fun (x : (ByteArray × (((List RcvT) × Int) × Int))) => (B75_0 x.1 x.2.1.1 x.2.1.2 x.2.2)) (fun k => (nm, ((rs, next), (k : Int)))) (fun k => (lAt rs (k : Int)).1 = nm) rs.length (fun k => .inr (k : Int)) (.inl ()) (by omega) ?_ ?_ ?_
  · have e1 : ∀ v, iter (fun (x : (ByteArray × ((List RcvT) × (Int × Int)))) => (B87_0_1 x.1 x.2.1 x.2.2.1 x.2.2.2)) fuel (nm, (rs, ((rs.length : Int), ((0 : Nat) : Int)))) = v → iter (fun (x : (ByteArray × ((List RcvT) × (Int × Int)))) => (B87_0_1 x.1 x.2.1 x.2.2.1 x.2.2.2)) fuel (nm, (rs, ((rs.length : Int), 0))) = v := fun _ h => h
    have e2 : ∀ v, iter (fun (x : (ByteArray × (((List RcvT) × Int) × Int))) => (B75_0 x.1 x.2.1.1 x.2.1.2 x.2.2)) fuel (nm, ((rs, next), ((0 : Nat) : Int))) = v → iter (fun (x : (ByteArray × (((List RcvT) × Int) × Int))) => (B75_0 x.1 x.2.1.1 x.2.1.2 x.2.2)) fuel (nm, ((rs, next), 0)) = v := fun _ h => h
    rcases a1 with ⟨k, h1, h2, h3, h4⟩ | ⟨h1, h4⟩
    · rcases a2 with ⟨q, g1, g2, g3, g4⟩ | ⟨g1, g4⟩
      · have : k = q := by
          rcases Nat.lt_trichotomy k q with h | h | h
          · exact absurd h2 (g3 k h)
          · exact h
          · exact absurd g2 (h3 q h)
        subst this
        rw [e1 _ h4, e2 _ g4]
        exact ⟨k, rfl, rfl, .inr ⟨by omega, k, h1, h2⟩⟩
      · exact absurd h2 (g1 k h1)
    · rcases a2 with ⟨q, g1, g2, g3, g4⟩ | ⟨g1, g4⟩
      · exact absurd g2 (h1 q g1)
      · rw [e1 _ h4, e2 _ g4]
        exact ⟨-1, rfl, rfl, .inl ⟨rfl, fun ⟨k, k1, k2⟩ => h1 k k1 k2⟩⟩
  · intro k hk hp
    show B75_0 nm rs next k = _
    unfold B75_0
    rw [iLt_y (by omega), sel_t, oIn_y (by omega), sel_t, sEq_f hp, sel_f, add_w (by unfold fits; omega)] <;> rfl
  · intro k hk hp
    show B75_0 nm rs next k = _
    unfold B75_0
    rw [iLt_y (by omega), sel_t, oIn_y (by omega), sel_t, sEq_y hp, sel_t]
  · show B75_0 nm rs next rs.length = _
    unfold B75_0
    rw [iLt_f (by omega), sel_f]
  · intro k hk hp
    show B87_0_1 nm rs rs.length k = _
    unfold B87_0_1 F88
    rw [iLt_y (by omega), sel_t, oIn_y (by omega), sel_t, let_s, sEq_f hp, sel_f, add_w (by unfold fits; omega)] <;> rfl
  · intro k hk hp
    show B87_0_1 nm rs rs.length k = _
    unfold B87_0_1 F88
    rw [iLt_y (by omega), sel_t, oIn_y (by omega), sel_t, let_s, sEq_y hp, sel_t]
  · show B87_0_1 nm rs rs.length rs.length = _
    unfold B87_0_1
    rw [iLt_f (by omega), sel_f]
theorem new_two (nm : ByteArray) : ∃ (rs : List RcvT) (n c : Int), F43 nm = some ((rs, n), c) ∧ F46 nm = some (rs, (n, (0, c))) ∧ rs.length ≤ 8 := by
  unfold F43 F46
  rw [F51_any, F55_any, bnd_s, bnd_s]
  cases nmOK (sBy nm) with
  | false => exact ⟨[], 0, 7, rfl, rfl, by simp⟩
  | true => exact ⟨_, 1, 0, rfl, rfl, by simp⟩
theorem attach_two (rs : List RcvT) (next : Int) (nm : ByteArray) (hf : fewJ rs) : ∃ (rs' : List RcvT) (n c : Int), F44 (rs, next) nm = some ((rs', n), c) ∧ F47 (rs, next) nm = some (rs', (n, (0, c))) ∧ rs'.length ≤ 9 ∧
    (1 ≤ rs.length → rs.length < 6 → (∃ l, Upto rs rs.length l next) → nmOK (sBy nm) = true → ¬ dupN rs nm rs.length → c = 0 ∧ n = next ∧ rs' = rs ++ [(nm, (next, bs []))]) := by
  have hll : lLen rs = (rs.length : Int) := rfl
  have h8 := hf.1
  obtain ⟨n, c, e1, e2, e3⟩ := check_two rs next hf
  unfold F44 F47 F70
  rw [e1, e2]
  simp only [bnd_s]
  by_cases hc : c = 0
  rotate_left
  · rw [iEq_f hc]
    rcases e3 with ⟨_, _, hno⟩ | ⟨h, _⟩
    · exact ⟨[], 0, c, rfl, rfl, by simp, fun h1 h2 ⟨l, h3⟩ => absurd ⟨h1, by omega, h3⟩ (hno l)⟩
    · exact absurd h hc
  subst hc
  rcases e3 with ⟨h, _⟩ | ⟨_, g1, g2, l, rfl, hu, _⟩
  · exact absurd rfl h
  obtain ⟨i, a1, a2, a3⟩ := at_two rs next nm (by omega)
  rw [show bNot (iEq 0 0) = false from rfl, sel_f, sel_f, F51_any, F55_any, bnd_s, bnd_s]
  cases hn : nmOK (sBy nm) with
  | false => exact ⟨[], 0, 7, rfl, rfl, by simp, fun _ _ _ h => by cases h⟩
  | true =>
    rw [nt, sel_f, sel_f, a1, a2, bnd_s, bnd_s]
    rcases a3 with ⟨rfl, hd⟩ | ⟨hi, hd⟩
    · rw [iLe_f (by omega), iEq_y rfl, nt, sel_f, sel_f, hll]
      by_cases h6 : rs.length = 6
      · rw [iEq_y (by omega)]
        exact ⟨[], 0, 30, rfl, rfl, by simp, fun _ h => by omega⟩
      · rw [iEq_f (by omega), sel_f, sel_f, F69_eq (by omega), F23_eq (by omega), bnd_s, bnd_s]
        rw [sel_pos (lCap_y (by omega) (by omega) (by show (rs ++ _).length ≤ _; rw [List.length_append, List.length_singleton]; omega)), sel_pos (lCap_y (by omega) (by omega) (by show (rs ++ _).length ≤ _; rw [List.length_append, List.length_singleton]; omega))]
        refine ⟨_, next, 0, rfl, rfl, ?_, fun _ _ _ _ _ => ⟨rfl, rfl, rfl⟩⟩
        show (rs ++ _).length ≤ _
        rw [List.length_append, List.length_singleton]
        omega
    · rw [iLe_y hi, iEq_f (a := i) (b := -1) (by omega)]
      exact ⟨[], 0, 12, rfl, rfl, by simp, fun _ _ _ _ h => absurd hd h⟩
theorem delete_two (rs : List RcvT) (next : Int) (nm : ByteArray) (hf : fewJ rs) : ∃ (rs' : List RcvT) (lo hi n c : Int), F45 (rs, next) nm = some (((rs', lo, hi), n), c) ∧ F48 (rs, next) nm = some ((rs', lo, hi), (n, (0, c))) ∧ rs'.length ≤ 9 := by
  have hll : lLen rs = (rs.length : Int) := rfl
  have h8 := hf.1
  obtain ⟨n, c, e1, e2, e3⟩ := check_two rs next hf
  unfold F45 F48 F70
  rw [e1, e2]
  simp only [bnd_s]
  by_cases hc : c = 0
  rotate_left
  · rw [iEq_f hc]
    exact ⟨[], 0, 0, 0, c, rfl, rfl, by simp⟩
  subst hc
  rcases e3 with ⟨h, _⟩ | ⟨_, g1, g2, l, rfl, hu, _⟩
  · exact absurd rfl h
  obtain ⟨i, a1, a2, a3⟩ := at_two rs next nm (by omega)
  rw [show bNot (iEq 0 0) = false from rfl, sel_f, sel_f, a1, a2, bnd_s, bnd_s]
  rcases a3 with ⟨rfl, hd⟩ | ⟨hi, hd⟩
  · rw [iLt_y (by omega), iEq_y rfl]
    exact ⟨[], 0, 0, 0, 11, rfl, rfl, by simp⟩
  · rw [iLt_f (by omega), iEq_f (a := i) (b := -1) (by omega), sel_f, sel_f, hll, sub_w (by unfold fits; omega)]
    by_cases h1 : i = (rs.length : Int) - 1
    · rw [iEq_y h1]
      exact ⟨[], 0, 0, 0, 26, rfl, rfl, by simp⟩
    rw [iEq_f h1, sel_f, sel_f]
    by_cases h2 : 0 < i
    · rw [iLt_y h2]
      exact ⟨[], 0, 0, 0, 14, rfl, rfl, by simp⟩
    rw [iLt_f h2, sel_f, sel_f, F69_eq (by omega), F23_eq (by omega), bnd_s, bnd_s]
    simp only [hll]
    rw [oCut_y (by omega), sel_t, sel_t]
    exact ⟨rs, 1, rs.length, next, 0, rfl, rfl, by omega⟩
end Go.Proofs.YtdnfnjaccbgplaaDoor.K
end

section
set_option linter.unusedVariables false
set_option linter.unusedSimpArgs false
set_option linter.unnecessarySimpa false
open Go Go.Ev
namespace Go.Proofs.YtdnfnjaccbgplaaDoor.K
/-! ### Beginnings of strings -/
theorem part_cut {s : ByteArray} {k m n : Nat} (h : m + n ≤ k) : part (sCut s 0 (k : Int)) m n = part s m n := by
  unfold part
  rw [by_cut, show ((k : Int)).toNat = k by omega, show ((0 : Int)).toNat = 0 from rfl, List.drop_zero, List.drop_take, List.take_take]
  congr 1
  omega
theorem cut_len {s : ByteArray} {k : Nat} (h : k ≤ (sBy s).length) : (sBy (sCut s 0 (k : Int))).length = k := by
  rw [by_cut, show ((k : Int)).toNat = k by omega, show ((0 : Int)).toNat = 0 from rfl, List.drop_zero, List.length_take]
  omega
theorem cut_all {s : ByteArray} {k : Nat} (h : k = (sBy s).length) : sCut s 0 (k : Int) = s := by
  apply by_inj
  rw [by_cut, show ((k : Int)).toNat = k by omega, show ((0 : Int)).toNat = 0 from rfl, List.drop_zero, h, List.take_length]
theorem Seq.cut {s : ByteArray} {first : Int} {k : Nat} (hk : k ≤ (sBy s).length) : ∀ {l : List EntT} {a b i : Nat}, Seq s first l a b i → b ≤ k → Seq (sCut s 0 (k : Int)) first l a b i
  | [], a, b, i, h, _ => h
  | x :: l, a, b, i, ⟨n, h1, h2, h3, h4⟩, hb => by
    have := h4.le h1
    exact ⟨n, by rw [cut_len hk]; omega, by rw [part_cut (by omega)]; exact h2, h3, h4.cut hk hb⟩
theorem Seq.uncut {s : ByteArray} {first : Int} {k : Nat} (hk : k ≤ (sBy s).length) : ∀ {l : List EntT} {a b i : Nat}, Seq (sCut s 0 (k : Int)) first l a b i → Seq s first l a b i
  | [], a, b, i, h => h
  | x :: l, a, b, i, ⟨n, h1, h2, h3, h4⟩ => by
    rw [cut_len hk] at h1
    rw [part_cut h1] at h2
    exact ⟨n, by omega, h2, h3, h4.uncut hk⟩
theorem Seq.pre {s : ByteArray} {first : Int} : ∀ {l l' : List EntT} {a b b' i : Nat}, Seq s first l a b i → Seq s first l' a b' i → l.length ≤ l'.length → ∃ r, l' = l ++ r ∧ Seq s first r b b' (i + l.length)
  | [], l', a, b, b', i, h, h', _ => by
    obtain rfl : a = b := h
    exact ⟨l', rfl, h'⟩
  | x :: l, [], a, b, b', i, h, h', hl => by simp at hl
  | x :: l, y :: l', a, b, b', i, ⟨n, h1, h2, h3, h4⟩, ⟨n', h1', h2', h3', h4'⟩, hl => by
    have g1 := good_n h1 h2
    have g2 := good_n h1' h2'
    obtain rfl : n = n' := by omega
    obtain rfl := good_x h2 h2'
    obtain ⟨r, r1, r2⟩ := h4.pre h4' (by simpa using hl)
    refine ⟨r, by rw [r1]; rfl, ?_⟩
    rw [List.length_cons, show i + (l.length + 1) = i + 1 + l.length by omega]
    exact r2
/-- What is read up to somewhere is a beginning of what is read up to the end. -/
theorem Seq.full {s : ByteArray} {first : Int} {l l' : List EntT} {b : Nat} (h : Seq s first l 0 b 0) (h' : Seq s first l' 0 (sBy s).length 0) : ∃ r, l' = l ++ r ∧ Seq s first r b (sBy s).length l.length := by
  rcases Nat.lt_or_ge l'.length l.length with hl | hl
  · obtain ⟨r, r1, r2⟩ := h'.pre h (by omega)
    have := h.le (by omega)
    have hr := r2.le (by omega)
    have : r.length = 0 := by omega
    rw [r1, List.length_append] at hl
    omega
  · obtain ⟨r, r1, r2⟩ := h.pre h' hl
    rw [Nat.zero_add] at r2
    exact ⟨r, r1, r2⟩
/-! ### Other bytes in the last receiver -/
theorem with_len {rs : List RcvT} {s : ByteArray} : (withB rs s).length = rs.length := by unfold withB; rw [lSet_length]
theorem with_last {rs : List RcvT} {s : ByteArray} (h : 1 ≤ rs.length) : lAt (withB rs s) ((rs.length - 1 : Nat) : Int) = ((lAt rs ((rs.length - 1 : Nat) : Int)).1, ((lAt rs ((rs.length - 1 : Nat) : Int)).2.1, s)) := by
  unfold withB
  rw [lAt_set (by omega)]
theorem with_ne {rs : List RcvT} {s : ByteArray} {k : Nat} (h : k < rs.length - 1) : lAt (withB rs s) (k : Int) = lAt rs (k : Int) := by
  unfold withB
  rw [lAt_set_ne (by omega)]
theorem last_with {rs : List RcvT} {s : ByteArray} (h : 1 ≤ rs.length) : lastB (withB rs s) = s := by
  unfold lastB
  rw [with_len, with_last h]
theorem with_with {rs : List RcvT} {s t : ByteArray} (h : 1 ≤ rs.length) : withB (withB rs s) t = withB rs t := by
  have e := with_last (s := s) h
  have hl : (withB rs s).length = rs.length := with_len
  unfold withB at *
  rw [hl, e]
  unfold lSet
  rw [List.set_set]
theorem with_self {rs : List RcvT} (h : 1 ≤ rs.length) : withB rs (lastB rs) = rs := by
  unfold withB lastB lSet lAt
  rw [show (((rs.length - 1 : Nat) : Int)).toNat = rs.length - 1 by omega, List.getElem?_eq_getElem (by omega)]
  exact List.set_getElem_self (by omega)
theorem few_with {rs : List RcvT} {s : ByteArray} (hf : fewJ rs) (h : 1 ≤ rs.length) (hs : (sBy s).length ≤ 1300) : fewJ (withB rs s) := by
  refine ⟨by rw [with_len]; exact hf.1, fun k hk => ?_⟩
  rw [with_len] at hk
  by_cases hl : k = rs.length - 1
  · subst hl
    rw [with_last h, by_len]
    show ((sBy s).length : Int) ≤ 1300
    omega
  · rw [with_ne (by omega)]
    exact hf.2 k hk
theorem dup_with {rs : List RcvT} {s : ByteArray} {n : ByteArray} {i : Nat} (h : i ≤ rs.length - 1) : dupN (withB rs s) n i = dupN rs n i := by
  unfold dupN
  refine propext ⟨fun ⟨k, h1, h2⟩ => ⟨k, h1, ?_⟩, fun ⟨k, h1, h2⟩ => ⟨k, h1, ?_⟩⟩
  · rw [with_ne (by omega)] at h2; exact h2
  · rw [with_ne (by omega)]; exact h2
theorem rErr_ne {rs : List RcvT} {s : ByteArray} {k : Nat} (h : k < rs.length - 1) : rErr (withB rs s) k = rErr rs k := by
  unfold rErr
  rw [with_ne h]
  have e := dup_with (s := s) (n := (lAt rs (k : Int)).1) (Nat.le_of_lt h)
  by_cases hd : dupN rs (lAt rs (k : Int)).1 k
  · rw [if_pos hd, if_pos (c := dupN (withB rs s) (lAt rs (k : Int)).1 k) (e ▸ hd)]
  · rw [if_neg hd, if_neg (c := dupN (withB rs s) (lAt rs (k : Int)).1 k) (e ▸ hd)]
theorem rErr_last {rs : List RcvT} {s : ByteArray} (h1 : 1 ≤ rs.length) (h : rErr rs (rs.length - 1) = 0) (hs : (sBy s).length ≤ 1200) : rErr (withB rs s) (rs.length - 1) = 0 := by
  have h0 := rErr_ok h
  unfold rErr at *
  rw [with_last h1]
  have e := dup_with (s := s) (n := (lAt rs ((rs.length - 1 : Nat) : Int)).1) (Nat.le_refl (rs.length - 1))
  rw [if_neg (by rw [h0.1]; decide), if_neg h0.2.1, if_neg (by omega)] at h
  rw [if_neg (by rw [h0.1]; decide), if_neg (c := dupN (withB rs s) (lAt rs ((rs.length - 1 : Nat) : Int)).1 (rs.length - 1)) (e ▸ h0.2.1), if_neg (by rw [by_len]; show ¬ (1200 < ((sBy s).length : Int)); omega)]
  exact h
theorem Upto.with {rs : List RcvT} {s : ByteArray} : ∀ {i : Nat} {l : List EntT} {nx : Int}, Upto rs i l nx → i ≤ rs.length - 1 → 1 ≤ rs.length → Upto (withB rs s) i l nx
  | 0, l, nx, ⟨h1, h2⟩, _, h1l => by
    refine ⟨h1, ?_⟩
    by_cases h : rs.length = 1
    · have := with_last (s := s) h1l
      rw [h] at this
      rw [show (lAt (withB rs s) ((0 : Nat) : Int)) = _ from this, h2]
    · rw [with_ne (by omega)]; exact h2
  | i + 1, l, nx, ⟨l0, nx0, li, h0, h1, h2, h3, h4, h5⟩, hi, h1l => by
    refine ⟨l0, nx0, li, h0.with (by omega) h1l, by rw [rErr_ne (by omega)]; exact h1, ?_, ?_, h4, h5⟩
    · rw [with_ne (by omega)]; exact h2
    · rw [with_ne (by omega)]; exact h3
theorem Fore.with {rs : List RcvT} {s : ByteArray} {l : List EntT} {nx : Int} (h : Fore rs l nx) (hs : (sBy s).length ≤ 1200) : Fore (withB rs s) l nx := by
  obtain ⟨h1, h2, h3, h4, h5⟩ := h
  refine ⟨by rw [with_len]; exact h1, by rw [with_len]; exact h2, by rw [with_len]; exact h3.with (by omega) h1, by rw [with_len]; exact rErr_last h1 h4 hs, ?_⟩
  rw [with_len, with_last h1]
  exact h5
/-- A right journal, and its last receiver. -/
theorem Upto.fore {rs : List RcvT} {l : List EntT} {next : Int} (h : Upto rs rs.length l next) (h1 : 1 ≤ rs.length) (h2 : rs.length ≤ 6) : ∃ l0 nx li, Fore rs l0 nx ∧ Seq (lastB rs) nx li 0 (sBy (lastB rs)).length 0 ∧ l = l0 ++ li ∧ next = iAdd .i64 nx (li.length : Int) := by
  obtain ⟨k, hk⟩ : ∃ k, rs.length = k + 1 := ⟨rs.length - 1, by omega⟩
  rw [hk] at h
  obtain ⟨l0, nx0, li, q0, q1, q2, q3, q4, q5⟩ := h
  have e : rs.length - 1 = k := by omega
  refine ⟨l0, nx0, li, ⟨h1, h2, by rw [e]; exact q0, by rw [e]; exact q1, by rw [e]; exact q2⟩, ?_, q4, q5⟩
  unfold lastB
  rw [e]
  exact q3
theorem Fore.upto {rs : List RcvT} {l0 li : List EntT} {nx : Int} (h : Fore rs l0 nx) (hs : Seq (lastB rs) nx li 0 (sBy (lastB rs)).length 0) : Upto rs rs.length (l0 ++ li) (iAdd .i64 nx (li.length : Int)) := by
  obtain ⟨h1, h2, h3, h4, h5⟩ := h
  obtain ⟨k, hk⟩ : ∃ k, rs.length = k + 1 := ⟨rs.length - 1, by omega⟩
  have e : rs.length - 1 = k := by omega
  unfold lastB at hs
  rw [e] at h3 h4 h5 hs
  rw [hk]
  exact ⟨l0, nx, li, h3, h4, h5, hs, rfl, rfl⟩
theorem Fore.nx {rs : List RcvT} {l : List EntT} {nx : Int} (hf : fewJ rs) (h : Fore rs l nx) : 1 ≤ nx ∧ nx ≤ 10000 ∧ (sBy (lastB rs)).length ≤ 1200 := by
  obtain ⟨h1, h2, h3, h4, h5⟩ := h
  have h6 := (rErr_ok h4).2.2
  rw [by_len] at h6
  obtain ⟨n1, n2, n3⟩ := h3.nx hf (by omega)
  refine ⟨?_, ?_, by unfold lastB; omega⟩
  all_goals
    by_cases h0 : rs.length - 1 = 0
    · rw [h0] at h4 h3
      have := rErr_zero h4
      rw [h3.2]
      omega
    · have := n3 (by omega)
      omega
/-- All entries of a right journal, by the program. -/
theorem entries_of {rs : List RcvT} {next : Int} (hf : fewJ rs) : (∃ x, F34 (rs, next) = some (x, false)) ∨ (1 ≤ rs.length ∧ rs.length ≤ 6 ∧ ∃ l, Upto rs rs.length l next) := by
  have h8 := hf.1
  obtain ⟨n, c, e1, e2, e3⟩ := check_two rs next hf
  rcases e3 with ⟨hc, _⟩ | ⟨_, g1, g2, l, _, hu, _⟩
  · left
    unfold F34
    rw [F23_eq (by omega), bnd_s, e1, bnd_s]
    show ∃ x, sel (bNot (iEq c 0)) _ _ = _
    rw [iEq_f hc]
    exact ⟨_, rfl⟩
  · exact .inr ⟨g1, g2, l, hu⟩
theorem entries_right {rs : List RcvT} {next : Int} (hf : fewJ rs) (h1 : 1 ≤ rs.length) (h2 : rs.length ≤ 6) {l : List EntT} (hu : Upto rs rs.length l next) : F34 (rs, next) = some ((l, 0, (l.length : Int)), true) := by
  have h8 := hf.1
  obtain ⟨n1, n2, n3⟩ := hu.nx hf (by omega)
  have n4 := n3 (by omega)
  obtain ⟨n, c, e1, e2, e3⟩ := check_two rs next hf
  rcases e3 with ⟨hc, _, hno⟩ | ⟨rfl, g1, g2, l', rfl, hu', e3⟩
  · exact absurd ⟨h1, h2, hu⟩ (hno l)
  obtain ⟨rfl, _⟩ := hu.one hf (by omega) hu'
  unfold F34
  rw [F23_eq (by omega), bnd_s, e1, bnd_s, bnd_s]
  show sel (bNot (iEq 0 0)) _ (bndS (F39 (rs, next) (iSub .i64 next (l.length : Int)) (iSub .i64 next 1)) _) = _
  rw [show bNot (iEq 0 0) = false from rfl, sel_f, sub_w (by unfold fits; omega), sub_w (by unfold fits; omega)]
  by_cases h0 : l.length = 0
  · have hl : l = [] := List.length_eq_zero_iff.1 h0
    have : F39 (rs, next) (next - (l.length : Int)) (next - 1) = some (([], 0, 0), 0) := by
      unfold F39
      rw [e3, bnd_s]
      show sel (bNot (iEq 0 0)) _ _ = _
      rw [show bNot (iEq 0 0) = false from rfl, sel_f, let_s, let_s]
      simp only
      rw [sub_w (a := next - (l.length : Int)) (by unfold fits; omega), sub_w (a := next) (b := 1) (by unfold fits; omega), (F50_t _ 1 next).mpr (by omega), (F50_t _ _ _).mpr (by omega), iLt_y (by omega)]
      rfl
    rw [this, bnd_s, hl]
    rfl
  · obtain ⟨l1, lo, hi, c, f1, f2, f3, f4⟩ := entries_two rs next (next - (l.length : Int)) (next - 1) hf (by unfold fits; omega) (by unfold fits; omega)
    obtain ⟨rfl, rfl, rfl, rfl⟩ := f4 l hu h1 h2 (by omega) (by omega) (by omega)
    rw [f1, bnd_s]
    show some ((l1, _, _), bAnd (iEq 0 0) (iEq (pSub _ _) (l1.length : Int))) = _
    have e1 : next - (l1.length : Int) - (lAt rs ((0 : Nat) : Int)).2.1 = 0 := by omega
    have e2 : next - 1 - (lAt rs ((0 : Nat) : Int)).2.1 + 1 = l1.length := by omega
    rw [e1, e2, iEq_y (show pSub (l1.length : Int) 0 = (l1.length : Int) by unfold pSub; omega)]
    rfl
end Go.Proofs.YtdnfnjaccbgplaaDoor.K
end

section
set_option linter.unusedVariables false
set_option linter.unusedSimpArgs false
set_option linter.unnecessarySimpa false
open Go Go.Ev
namespace Go.Proofs.YtdnfnjaccbgplaaDoor.K
/-! ### One byte is another one -/
theorem step_inj {a b c : Int} (ha : 0 ≤ a ∧ a < 4294967291) (hb : 0 ≤ b ∧ b < 4294967291) (h : (257 * a + c + 1) % 4294967291 = (257 * b + c + 1) % 4294967291) : a = b := by omega
theorem step_ne {a u v : Int} (hu : 0 ≤ u ∧ u < 256) (hv : 0 ≤ v ∧ v < 256) (h : (257 * a + u + 1) % 4294967291 = (257 * a + v + 1) % 4294967291) : u = v := by omega
theorem fold_inj : ∀ (l : List Int) {a b : Int}, 0 ≤ a ∧ a < 4294967291 → 0 ≤ b ∧ b < 4294967291 → l.foldl (fun a b => (257 * a + b + 1) % 4294967291) a = l.foldl (fun a b => (257 * a + b + 1) % 4294967291) b → a = b
  | [], a, b, _, _, h => h
  | c :: l, a, b, ha, hb, h => by
    have h' := fold_inj l (a := (257 * a + c + 1) % 4294967291) (b := (257 * b + c + 1) % 4294967291) (by omega) (by omega) h
    exact step_inj ha hb h'
theorem sum_set : ∀ (l : List Int) (q : Nat) (v a : Int), 0 ≤ a ∧ a < 4294967291 → (∀ b ∈ l, 0 ≤ b ∧ b < 256) → 0 ≤ v ∧ v < 256 → q < l.length → (l.set q v).foldl (fun a b => (257 * a + b + 1) % 4294967291) a = l.foldl (fun a b => (257 * a + b + 1) % 4294967291) a → l[q]? = some v
  | [], q, v, a, _, _, _, hq, _ => by simp at hq
  | c :: l, 0, v, a, ha, hl, hv, _, h => by
    have hc := hl c (List.mem_cons_self ..)
    have h' := fold_inj l (a := (257 * a + v + 1) % 4294967291) (b := (257 * a + c + 1) % 4294967291) (by omega) (by omega) h
    rw [step_ne hv hc h']
    rfl
  | c :: l, q + 1, v, a, ha, hl, hv, hq, h => by
    have := sum_set l q v ((257 * a + c + 1) % 4294967291) (by omega) (fun b hb => hl b (List.mem_cons_of_mem _ hb)) hv (by simpa using hq) h
    simpa using this
theorem big_step {l : List Int} : ∀ (a : Int), l.foldl (fun x b => x * 256 + b) a = a * 256 ^ l.length + bigE l := by
  induction l with
  | nil => intro a; simp [bigE]
  | cons c l ih =>
    intro a
    unfold bigE
    rw [List.foldl_cons, List.foldl_cons, ih, ih (0 * 256 + c), List.length_cons, Int.pow_succ]
    generalize (256 : Int) ^ l.length = p
    grind
theorem big_bound : ∀ (l : List Int), (∀ b ∈ l, 0 ≤ b ∧ b < 256) → 0 ≤ bigE l ∧ bigE l < 256 ^ l.length := by
  intro l
  induction l with
  | nil => intro _; simp [bigE]
  | cons c l ih =>
    intro h
    have hc := h c (List.mem_cons_self ..)
    have hi := ih (fun b hb => h b (List.mem_cons_of_mem _ hb))
    have e : bigE (c :: l) = c * 256 ^ l.length + bigE l := by
      have := big_step (l := l) c
      unfold bigE at this ⊢
      rw [List.foldl_cons, show (0 : Int) * 256 + c = c by omega]
      exact this
    rw [e, List.length_cons, Int.pow_succ]
    generalize (256 : Int) ^ l.length = p at *
    have h1 : 0 ≤ c * p := Int.mul_nonneg hc.1 (by omega)
    have h2 : c * p ≤ 255 * p := Int.mul_le_mul_of_nonneg_right (by omega) (by omega)
    exact ⟨by omega, by omega⟩
theorem big_set : ∀ (l : List Int) (q : Nat) (v : Int), (∀ b ∈ l, 0 ≤ b ∧ b < 256) → 0 ≤ v ∧ v < 256 → q < l.length → bigE (l.set q v) = bigE l → l[q]? = some v
  | [], q, v, _, _, hq, _ => by simp at hq
  | c :: l, 0, v, hl, hv, _, h => by
    have e : ∀ c : Int, bigE (c :: l) = c * 256 ^ l.length + bigE l := by
      intro c
      have := big_step (l := l) c
      unfold bigE at this ⊢
      rw [List.foldl_cons, show (0 : Int) * 256 + c = c by omega]
      exact this
    rw [List.set_cons_zero, e, e] at h
    have hp : (0 : Int) < 256 ^ l.length := Int.pow_pos (by decide)
    have : c = v := Int.eq_of_mul_eq_mul_right (Int.ne_of_gt hp) (by omega)
    rw [this]
    rfl
  | c :: l, q + 1, v, hl, hv, hq, h => by
    have e : ∀ m : List Int, bigE (c :: m) = c * 256 ^ m.length + bigE m := by
      intro m
      have := big_step (l := m) c
      unfold bigE at this ⊢
      rw [List.foldl_cons, show (0 : Int) * 256 + c = c by omega]
      exact this
    rw [List.set_cons_succ, e, e, List.length_set] at h
    have := big_set l q v (fun b hb => hl b (List.mem_cons_of_mem _ hb)) hv (by simpa using hq) (by omega)
    simpa using this
theorem sub_set_out {l : List Int} {q p n : Nat} {v : Int} (h : q < p ∨ p + n ≤ q) : sub (l.set q v) p n = sub l p n := by
  unfold sub
  rcases h with h | h
  · rw [List.drop_set_of_lt h]
  · apply List.ext_getElem?
    intro i
    simp only [List.getElem?_take, List.getElem?_drop, List.getElem?_set]
    grind
theorem sub_set_in {l : List Int} {q p n : Nat} {v : Int} (h : p ≤ q) : sub (l.set q v) p n = (sub l p n).set (q - p) v := by
  unfold sub
  apply List.ext_getElem?
  intro i
  simp only [List.getElem?_take, List.getElem?_drop, List.getElem?_set, List.length_take, List.length_drop]
  grind
/-- A part of a part. -/
theorem sub_part {s : ByteArray} {a n p k : Nat} (h : p + k ≤ n) : sub (part s a n) p k = part s (a + p) k := by
  unfold sub part
  rw [List.drop_take, List.take_take, List.drop_drop]
  congr 1
  omega
theorem honest_core {s s' : ByteArray} {a n p : Nat} {y : EntT} {v : Int} (h : a + n ≤ (sBy s).length) (hy : good (part s a n) y) (hp : a ≤ p ∧ p < a + n) (hv : 0 ≤ v ∧ v < 256) (hs : sBy s' = (sBy s).set p v) (hne : (sBy s)[p]? ≠ some v) : ∀ (m : Nat) (x : EntT), a + m ≤ (sBy s').length → ¬ good (part s' a m) x := by
  intro m x hm hx
  have hlen : (sBy s').length = (sBy s).length := by rw [hs, List.length_set]
  have hym := good_n h hy
  have hxm := good_n hm hx
  have hlx := part_len hm
  have hly := part_len h
  -- parts of the one string and of the other
  have hP : ∀ k r, part s' k r = sub ((sBy s).set p v) k r := fun k r => by unfold part sub; rw [hs]
  have hQ : ∀ k r, part s k r = sub (sBy s) k r := fun k r => rfl
  obtain ⟨_, _, b, c, p1, p2, p3, p4, _⟩ := hy
  obtain ⟨_, _, b', c', q1, q2, q3, q4, _⟩ := hx
  rw [hly] at p3
  rw [hlx] at q3
  rw [sub_part (by omega)] at p1 p2 p4 q1 q2 q4
  -- the length is as0 it was
  have hmn : m = n := by
    rcases Nat.lt_or_ge p (a + 2) with h2 | h2
    · rw [hP, sub_set_out (.inl (by omega)), ← hQ] at q1
      obtain rfl : b = b' := by omega
      rw [hP, sub_set_out (.inl (by omega)), ← hQ] at q2
      obtain rfl : c = c' := by omega
      omega
    · have := hxm.2
      rw [hP, sub_set_out (.inr (by omega)), ← hQ] at this
      omega
  subst hmn
  have e26 : 26 + b + c = 26 + b' + c' := by omega
  rw [← e26] at q4
  have hsumP : (part s' a m).take (26 + b + c) = sub ((sBy s).set p v) a (26 + b + c) := by
    rw [hP]; unfold sub; rw [List.take_take]; congr 1; omega
  have hsumQ : (part s a m).take (26 + b + c) = sub (sBy s) a (26 + b + c) := by
    rw [hQ]; unfold sub; rw [List.take_take]; congr 1; omega
  rw [hsumP, hP] at q4
  rw [hsumQ, hQ] at p4
  have hby : ∀ k r, ∀ z ∈ sub (sBy s) k r, 0 ≤ z ∧ z < 256 := fun k r z hz => by_byte s z (List.mem_of_mem_drop (List.mem_of_mem_take hz))
  have hget : ∀ k r, k ≤ p → p < k + r → (sub (sBy s) k r)[p - k]? = (sBy s)[p]? := by
    intro k r h1 h2
    unfold sub
    rw [List.getElem?_take, if_pos (by omega), List.getElem?_drop]
    congr 1
    omega
  have hsl : ∀ k r, k + r ≤ (sBy s).length → (sub (sBy s) k r).length = r := by
    intro k r h1
    unfold sub
    rw [List.length_take, List.length_drop]
    omega
  rcases Nat.lt_or_ge p (a + (26 + b + c)) with h3 | h3
  · rw [sub_set_out (p := a + (26 + b + c)) (.inl (by omega)), p4, sub_set_in hp.1] at q4
    have := sum_set (sub (sBy s) a (26 + b + c)) (p - a) v 1 (by decide) (hby _ _) hv (by rw [hsl _ _ (by omega)]; omega) q4.symm
    rw [hget _ _ hp.1 (by omega)] at this
    exact hne this
  · rw [sub_set_out (p := a) (.inr (by omega)), ← p4, sub_set_in h3] at q4
    have := big_set (sub (sBy s) (a + (26 + b + c)) 4) (p - (a + (26 + b + c))) v (hby _ _) hv (by rw [hsl _ _ (by omega)]; omega) q4
    rw [hget _ _ h3 (by omega)] at this
    exact hne this
/-- What is read of a string in which one byte is another one is a beginning of what is read of the string. -/
theorem honest_pre {s s' : ByteArray} {p : Nat} {v : Int} {first : Int} (hv : 0 ≤ v ∧ v < 256) (hs : sBy s' = (sBy s).set p v) (hne : (sBy s)[p]? ≠ some v) (hp : p < (sBy s).length) : ∀ {l' l : List EntT} {a b i : Nat}, a ≤ p → Seq s' first l' a b i → Seq s first l a (sBy s).length i → ∃ r, l = l' ++ r
  | [], l, _, _, _, _, _, _ => ⟨l, rfl⟩
  | x :: l', [], a, b, i, hap, _, h => by
    have h : a = (sBy s).length := h
    omega
  | x :: l', y :: l, a, b, i, hap, ⟨n', h1', h2', h3', h4'⟩, ⟨n, h1, h2, h3, h4⟩ => by
    have g := good_n h1 h2
    rcases Nat.lt_or_ge p (a + n) with h5 | h5
    · exact absurd h2' (honest_core h1 h2 ⟨hap, h5⟩ hv hs hne n' x h1')
    · have e : part s' a n = part s a n := by
        have hP : ∀ k r, part s' k r = sub ((sBy s).set p v) k r := fun k r => by unfold part sub; rw [hs]
        rw [hP, sub_set_out (.inr h5)]
        rfl
      have hlen : (sBy s').length = (sBy s).length := by rw [hs, List.length_set]
      have h2s : good (part s' a n) y := by rw [e]; exact h2
      have g1 := good_n h1' h2'
      have g2 := good_n (s := s') (by omega) h2s
      obtain rfl : n = n' := by omega
      obtain rfl := good_x h2' h2s
      obtain ⟨r, hr⟩ := honest_pre hv hs hne hp (by omega) h4' h4
      exact ⟨r, by rw [hr]; rfl⟩
end Go.Proofs.YtdnfnjaccbgplaaDoor.K
end

section
set_option linter.unusedVariables false
set_option linter.unusedSimpArgs false
set_option linter.unnecessarySimpa false
open Go Go.Ev
namespace Go.Proofs.YtdnfnjaccbgplaaDoor.K
/-! ### There and back -/
theorem bigE_bigB : ∀ (k : Nat) (n : Int), 0 ≤ n → n < 256 ^ k → bigE (bigB n k) = n
  | 0, n, h0, h1 => by
    have : n = 0 := by simp at h1; omega
    rw [this]
    rfl
  | k + 1, n, h0, h1 => by
    unfold bigB
    rw [bigE_snoc, bigE_bigB k (n / 256) (by omega) (by rw [Int.pow_succ] at h1; omega)]
    omega
theorem sub_mid {a b c : List Int} {p n : Nat} (h : a.length = p) (h2 : b.length = n) : sub (a ++ b ++ c) p n = b := by
  subst h h2
  unfold sub
  rw [List.append_assoc, List.drop_left, List.take_left]
theorem trimL_keep {l : List Int} (h : ∀ c ∈ l, c ≠ 32) : ∀ k, trimL (l ++ List.replicate k 32) = l := by
  intro k
  unfold trimL
  rw [List.reverse_append, List.reverse_replicate]
  have h1 : ∀ (k : Nat) (m : List Int), (∀ c ∈ m, c ≠ 32) → (List.replicate k (32 : Int) ++ m).dropWhile (fun c => c == 32) = m := by
    intro k m hm
    induction k with
    | zero =>
      cases m with
      | nil => rfl
      | cons c m =>
        rw [List.replicate_zero, List.nil_append, List.dropWhile_cons_of_neg (by simpa using hm c (List.mem_cons_self ..))]
    | succ k ih =>
      rw [List.replicate_succ, List.cons_append, List.dropWhile_cons_of_pos (by rfl)]
      exact ih
  rw [h1 k _ (fun c hc => h c (List.mem_reverse.1 hc)), List.reverse_reverse]
theorem nm_blank {l : List Int} (h : nmOK l = true) : ∀ c ∈ l, c ≠ 32 := by
  intro c hc
  unfold nmOK at h
  rw [Bool.and_eq_true, List.all_eq_true] at h
  obtain ⟨i, hi, rfl⟩ := List.getElem_of_mem hc
  have := h.2 i (by rw [List.mem_range'_1]; omega)
  rw [List.getElem?_eq_getElem hi] at this
  intro he
  unfold nmCh at this
  simp only [Option.getD_some, he] at this
  simp at this
theorem right_nm (k n m : Int) (nm : ByteArray) (f u : Int) (x y : ByteArray) (hnm : (sBy nm).length ≤ 1000000) (h : F17 (k, (n, (m, (nm, (f, (u, (x, y))))))) = some 0) : nm = bs [] ∨ nmOK (sBy nm) = true := by
  rw [← ok_is] at h
  have hf5 : fits 5 := by unfold fits; omega
  unfold F17 F54 F56 at h
  simp only [let_s, F37, F53_eq, F55_eq nm hnm, ok_bnd, ok_some, ok_none, ok_sel, okS_s, valS_s, mul_ite hf5, not_t, and_t, or_t, selB_t, iLe_t, iEq_t, iLt_t, sEq_t, bf_t] at h
  simp only [true_and, and_true, Int.reduceEq, imp_false, Classical.not_not, implies_true, not_true, if_false, if_true, true_or, forall_const, false_and, and_false, not_false_eq_true, ite_false, ite_true] at h
  grind (splits := 40)
/-- The bytes of a right entry are those of an entry: this one. -/
theorem good_entB (k n m : Int) (nm : ByteArray) (f u : Int) (x y : ByteArray) (hnm : (sBy nm).length ≤ 1000000) (h : F17 (k, (n, (m, (nm, (f, (u, (x, y))))))) = some 0) : good (entB k n m (sBy nm) f u (sBy x) (sBy y)) (k, (n, (m, (nm, (f, (u, (x, y))))))) := by
  obtain ⟨r1, r2, r3, r4, r5, r6, r7, r8⟩ := right_of k n m nm f u x y hnm h
  have hn := right_nm k n m nm f u x y hnm h
  have hlen := entB_len (k := k) (n := n) (m := m) (f := f) (u := u) (x := sBy x) (y := sBy y) r6
  have hhd := hdB_len (k := k) (n := n) (m := m) (f := f) (u := u) (x := sBy x) (y := sBy y) r6
  have hH := hdB_byte (k := k) (n := n) (m := m) (f := f) (u := u) (by_byte nm) (by_byte x) (by_byte y)
  have hsum := sumE_lt hH
  have hpl := padN_len r6
  have e2 : ∀ v : Int, 0 ≤ v → v < 65536 → bigE (bigB v 2) = v := fun v h0 h1 => bigE_bigB 2 v h0 (by have : (256 : Int) ^ 2 = 65536 := by { decide }; omega)
  have e1 : ∀ v : Int, 0 ≤ v → v < 256 → bigE (bigB v 1) = v := fun v h0 h1 => bigE_bigB 1 v h0 (by have : (256 : Int) ^ 1 = 256 := by { decide }; omega)
  have e4 : ∀ v : Int, 0 ≤ v → v < 4294967296 → bigE (bigB v 4) = v := fun v h0 h1 => bigE_bigB 4 v h0 (by have : (256 : Int) ^ 4 = 4294967296 := by { decide }; omega)
  -- the places
  have hsub : ∀ (a b c : List Int) (p q : Nat), entB k n m (sBy nm) f u (sBy x) (sBy y) = a ++ b ++ c → a.length = p → b.length = q → sub (entB k n m (sBy nm) f u (sBy x) (sBy y)) p q = b := by
    intro a b c p q h1 h2 h3
    rw [h1]
    exact sub_mid h2 h3
  let P0 := bigB (30 + (sBy x).length + (sBy y).length) 2
  let P1 := bigB k 4
  let P2 := bigB n 1
  let P3 := bigB m 2
  let P4 := bigB f 1
  let P5 := bigB u 2
  let P6 := padN (sBy nm)
  let P7 := bigB (sBy x).length 2
  let P8 := bigB (sBy y).length 2
  let P9 := bigB (sumE (hdB k n m (sBy nm) f u (sBy x) (sBy y))) 4
  have hE : entB k n m (sBy nm) f u (sBy x) (sBy y) = P0 ++ P1 ++ P2 ++ P3 ++ P4 ++ P5 ++ P6 ++ P7 ++ sBy x ++ P8 ++ sBy y ++ P9 := rfl
  have l0 : P0.length = 2 := bigB_len _ _
  have l1 : P1.length = 4 := bigB_len _ _
  have l2 : P2.length = 1 := bigB_len _ _
  have l3 : P3.length = 2 := bigB_len _ _
  have l4 : P4.length = 1 := bigB_len _ _
  have l5 : P5.length = 2 := bigB_len _ _
  have l6 : P6.length = 10 := hpl
  have l7 : P7.length = 2 := bigB_len _ _
  have l8 : P8.length = 2 := bigB_len _ _
  have l9 : P9.length = 4 := bigB_len _ _
  have s0 := hsub [] P0 (P1 ++ P2 ++ P3 ++ P4 ++ P5 ++ P6 ++ P7 ++ sBy x ++ P8 ++ sBy y ++ P9) 0 2 (by rw [hE]; simp only [List.append_assoc, List.nil_append]) rfl l0
  have s1 := hsub P0 P1 (P2 ++ P3 ++ P4 ++ P5 ++ P6 ++ P7 ++ sBy x ++ P8 ++ sBy y ++ P9) 2 4 (by rw [hE]; simp only [List.append_assoc]) l0 l1
  have s2 := hsub (P0 ++ P1) P2 (P3 ++ P4 ++ P5 ++ P6 ++ P7 ++ sBy x ++ P8 ++ sBy y ++ P9) 6 1 (by rw [hE]; simp only [List.append_assoc]) (by simp only [List.length_append]; omega) l2
  have s3 := hsub (P0 ++ P1 ++ P2) P3 (P4 ++ P5 ++ P6 ++ P7 ++ sBy x ++ P8 ++ sBy y ++ P9) 7 2 (by rw [hE]; simp only [List.append_assoc]) (by simp only [List.length_append]; omega) l3
  have s4 := hsub (P0 ++ P1 ++ P2 ++ P3) P4 (P5 ++ P6 ++ P7 ++ sBy x ++ P8 ++ sBy y ++ P9) 9 1 (by rw [hE]; simp only [List.append_assoc]) (by simp only [List.length_append]; omega) l4
  have s5 := hsub (P0 ++ P1 ++ P2 ++ P3 ++ P4) P5 (P6 ++ P7 ++ sBy x ++ P8 ++ sBy y ++ P9) 10 2 (by rw [hE]; simp only [List.append_assoc]) (by simp only [List.length_append]; omega) l5
  have s6 := hsub (P0 ++ P1 ++ P2 ++ P3 ++ P4 ++ P5) P6 (P7 ++ sBy x ++ P8 ++ sBy y ++ P9) 12 10 (by rw [hE]; simp only [List.append_assoc]) (by simp only [List.length_append]; omega) l6
  have s7 := hsub (P0 ++ P1 ++ P2 ++ P3 ++ P4 ++ P5 ++ P6) P7 (sBy x ++ P8 ++ sBy y ++ P9) 22 2 (by rw [hE]; simp only [List.append_assoc]) (by simp only [List.length_append]; omega) l7
  have s8 := hsub (P0 ++ P1 ++ P2 ++ P3 ++ P4 ++ P5 ++ P6 ++ P7) (sBy x) (P8 ++ sBy y ++ P9) 24 (sBy x).length (by rw [hE]; simp only [List.append_assoc]) (by simp only [List.length_append]; omega) rfl
  have s9 := hsub (P0 ++ P1 ++ P2 ++ P3 ++ P4 ++ P5 ++ P6 ++ P7 ++ sBy x) P8 (sBy y ++ P9) (24 + (sBy x).length) 2 (by rw [hE]; simp only [List.append_assoc]) (by simp only [List.length_append]; omega) l8
  have s10 := hsub (P0 ++ P1 ++ P2 ++ P3 ++ P4 ++ P5 ++ P6 ++ P7 ++ sBy x ++ P8) (sBy y) P9 (26 + (sBy x).length) (sBy y).length (by rw [hE]) (by simp only [List.length_append]; omega) rfl
  have s11 := hsub (P0 ++ P1 ++ P2 ++ P3 ++ P4 ++ P5 ++ P6 ++ P7 ++ sBy x ++ P8 ++ sBy y) P9 [] (26 + (sBy x).length + (sBy y).length) 4 (by rw [hE]; simp only [List.append_nil]) (by simp only [List.length_append]; omega) l9
  have htk : (entB k n m (sBy nm) f u (sBy x) (sBy y)).take (26 + (sBy x).length + (sBy y).length) = hdB k n m (sBy nm) f u (sBy x) (sBy y) := by
    rw [← hhd]
    exact List.take_left
  have htr : trimL P6 = sBy nm := by
    rcases hn with rfl | hn
    · exact trimL_keep (l := []) (by simp) 10
    · exact trimL_keep (nm_blank hn) _
  refine ⟨by omega, ?_, (sBy x).length, (sBy y).length, ?_, ?_, by omega, ?_, ?_, h, ?_, ?_, ?_, ?_, ?_, ?_, ?_, ?_⟩
  · rw [s0, hlen, e2 _ (by omega) (by omega)]; omega
  · rw [s7, e2 _ (by omega) (by omega)]
  · rw [s9, e2 _ (by omega) (by omega)]
  · rw [s11, htk, e4 _ (by omega) (by omega)]
  · rw [s6, htr]
    intro hne
    rcases hn with rfl | hn
    · exact absurd rfl hne
    · exact hn
  · rw [s1, e4 _ (by omega) (by omega)]
  · rw [s2, e1 _ (by omega) (by omega)]
  · rw [s3, e2 _ (by omega) (by omega)]
  · rw [s6, htr]
  · rw [s4, e1 _ (by omega) (by omega)]
  · rw [s5, e2 _ (by omega) (by omega)]
  · rw [s8]
  · rw [s10]
end Go.Proofs.YtdnfnjaccbgplaaDoor.K
end

section
set_option linter.unusedVariables false
set_option linter.unusedSimpArgs false
set_option linter.unnecessarySimpa false
open Go Go.Ev
namespace Go.Proofs.YtdnfnjaccbgplaaDoor.K
theorem by_bs1 (n : Nat) (h : n < 256) : sBy (bs [n]) = [(n : Int)] := by
  show [(((UInt8.ofNat n).toNat : Nat) : Int)] = _
  rw [UInt8.toNat_ofNat']
  congr 2
  omega
/-- The entry that is read from its own bytes, behind one other byte. -/
theorem back_read (k n m : Int) (nm : ByteArray) (f u : Int) (x y t : ByteArray) (hnm : (sBy nm).length ≤ 1000000) (h : F17 (k, (n, (m, (nm, (f, (u, (x, y))))))) = some 0) (ht : sBy t = entB k n m (sBy nm) f u (sBy x) (sBy y)) : sOk (bs [97]) t = true ∧ F19 (sAdd (bs [97]) t) 1 = some ((k, (n, (m, (nm, (f, (u, (x, y))))))), (iAdd .i64 1 (sLen t), 0)) := by
  obtain ⟨r1, r2, r3, r4, r5, r6, r7, r8⟩ := right_of k n m nm f u x y hnm h
  have hl : (sBy t).length = 30 + (sBy x).length + (sBy y).length := by rw [ht, entB_len r6]
  have ha : sBy (sAdd (bs [97]) t) = [97] ++ sBy t := by rw [by_add, by_bs1 97 (by omega)]; rfl
  have hal : (sBy (sAdd (bs [97]) t)).length = 1 + (sBy t).length := by rw [ha, List.length_append]; rfl
  have hp : part (sAdd (bs [97]) t) 1 (sBy t).length = entB k n m (sBy nm) f u (sBy x) (sBy y) := by
    unfold part
    rw [ha]
    show (sBy t).take _ = _
    rw [List.take_length, ht]
  have hg := good_entB k n m nm f u x y hnm h
  rw [← hp] at hg
  have e := ent_good (s := sAdd (bs [97]) t) (m := 1) (n := (sBy t).length) (by omega) (by omega) hg
  obtain ⟨e1, _, _⟩ := ent_two (sAdd (bs [97]) t) 1 (by omega)
  refine ⟨sOk_y (by rw [by_bs1 97 (by omega)]; simp; omega), ?_⟩
  rw [e1]
  have e : ent (sAdd (bs [97]) t) 1 = _ := e
  rw [e, by_len, add_w (by unfold fits; omega)]
  congr 4
theorem fuel_two : fuel = 9999998 + 1 + 1 := by unfold fuel; rfl
abbrev R26 := (List EntT × (Int × ((List RcvT × Int) × (Int × (List EntT × (Int × Int)))))) ⊕ ((List EntT × (Int × (List RcvT × Int))) ⊕ (Int × (Int × Int)))
theorem append_one {rs : List RcvT} {next : Int} {l : List EntT} (hf : fewJ rs) (h1 : 1 ≤ rs.length) (h2 : rs.length ≤ 6) (hu : Upto rs rs.length l next) (n m : Int) (nm : ByteArray) (f u : Int) (x y : ByteArray) (hs : smallE (0, (n, (m, (nm, (f, (u, (x, y)))))))) :
    (∃ i c : Int, c ≠ 0 ∧ F26 (rs, next) [(0, (n, (m, (nm, (f, (u, (x, y)))))))] = some (([], 0), (i, c))) ∨
    (F17 (next, (n, (m, (nm, (f, (u, (x, y))))))) = some 0 ∧ ∃ t, sBy t = entB next n m (sBy nm) f u (sBy x) (sBy y) ∧ F16 (next, (n, (m, (nm, (f, (u, (x, y))))))) = some (t, 0) ∧ (sBy (lastB rs)).length + (sBy t).length ≤ 1200 ∧ F26 (rs, next) [(0, (n, (m, (nm, (f, (u, (x, y)))))))] = some ((withB rs (sAdd (lastB rs) t), iAdd .i64 next 1), (1, 0)) ∧ Upto (withB rs (sAdd (lastB rs) t)) rs.length (l ++ [(next, (n, (m, (nm, (f, (u, (x, y)))))))]) (iAdd .i64 next 1)) := by
  have hlr : ∀ r : List RcvT, lLen r = (r.length : Int) := fun _ => rfl
  have h8 := hf.1
  obtain ⟨s1, s2, s3⟩ := hs
  simp only at s1 s2 s3
  obtain ⟨nn, c, e1, e2, e3⟩ := check_two rs next hf
  rcases e3 with ⟨hc, _, hno⟩ | ⟨rfl, _⟩
  · exact absurd ⟨h1, h2, hu⟩ (hno l)
  have hi1 : iSub .i64 (rs.length : Int) 1 = ((rs.length - 1 : Nat) : Int) := by rw [sub_w (by unfold fits; omega)]; omega
  unfold F26
  rw [e1, bnd_s]
  show (∃ i c : Int, c ≠ 0 ∧ sel (bNot (iEq 0 0)) _ _ = _) ∨ (_ ∧ ∃ t, _ ∧ _ ∧ _ ∧ sel (bNot (iEq 0 0)) _ _ = _ ∧ _)
  simp only [show bNot (iEq 0 0) = false from rfl, sel_f, one_len, show iLt 40 1 = false from rfl, F69_eq (rs := rs) (next := next) (by omega), bnd_s, hlr, hi1, oIn_y (a := ((rs.length - 1 : Nat) : Int)) (b := (rs.length : Int)) (by omega), sel_t]
  unfold L26_0
  rw [fuel_two]
  obtain ⟨cc, b1, b2, b3⟩ := bytesOf_eq next n m nm f u x y (by omega)
  generalize hX : ([(0, (n, (m, (nm, (f, (u, (x, y)))))))] : List EntT) = X at *
  -- the first round
  have hB : ∀ v : Option R26, sel (iLt 9999 next) (some (.inr (.inr (0, (0, 19))))) (bndS (F16 (next, (n, (m, (nm, (f, (u, (x, y)))))))) fun y0 =>
      sel (bNot (iEq y0.2 0)) (some (.inr (.inr (0, (0, y0.2))))) (sel (iLt 1200 (iAdd .i64 (sLen (lastB rs)) (sLen y0.1))) (some (.inr (.inr (0, (0, 30)))))
      (sel (sOk (lastB rs) y0.1) (some (.inl (X, (0, ((withB rs (sAdd (lastB rs) y0.1), iAdd .i64 next 1), (((rs.length - 1 : Nat) : Int), (X, (1, iAdd .i64 0 1)))))))) none))) = v →
      B26_0 X 0 rs next ((rs.length - 1 : Nat) : Int) X 1 0 = v := by
    rintro v rfl
    subst hX
    unfold B26_0
    rw [iLt_y (by omega), sel_t, oIn_y (by rw [one_len]; omega), sel_t]
    rfl
  rcases b3 with ⟨hc, b3⟩ | ⟨rfl, t, ht, b3, b4⟩
  · left
    by_cases h9 : 9999 < next
    · rw [iter_e (r := (.inr (0, (0, 19)))) (hB _ (by rw [iLt_y h9]; rfl)), bnd_s]
      exact ⟨0, 19, by decide, rfl⟩
    · rw [iter_e (r := .inr (0, (0, cc))) (hB _ (by rw [iLt_f h9, sel_f, b3, bnd_s]; show sel (bNot (iEq cc 0)) _ _ = _; rw [iEq_f hc]; rfl)), bnd_s]
      exact ⟨0, cc, hc, rfl⟩
  · obtain ⟨r1, r2, r3, r4, r5, r6, r7, r8⟩ := right_of next n m nm f u x y (by omega) b2
    have htl : (sBy t).length = 30 + (sBy x).length + (sBy y).length := by rw [ht, entB_len r6]
    obtain ⟨l0, nx, lj, hfo, hsj, rfl, hn⟩ := hu.fore h1 h2
    obtain ⟨nx1, nx2, nx3⟩ := hfo.nx hf
    have hlast := hsj.le (by omega)
    have hsum : iAdd .i64 (sLen (lastB rs)) (sLen t) = ((sBy (lastB rs)).length : Int) + (sBy t).length := by rw [by_len, by_len, add_w (by unfold fits; omega)]
    by_cases h12 : 1200 < ((sBy (lastB rs)).length : Int) + (sBy t).length
    · left
      rw [iter_e (r := .inr (0, (0, 30))) (hB _ (by rw [iLt_f (by omega), sel_f, b4, bnd_s]; show sel (bNot (iEq 0 0)) _ (sel (iLt 1200 (iAdd .i64 (sLen (lastB rs)) (sLen t))) _ _) = _; rw [hsum, iLt_y h12]; rfl)), bnd_s]
      exact ⟨0, 30, by decide, rfl⟩
    · right
      have hok : sOk (lastB rs) t = true := sOk_y (by omega)
      have h01 : iAdd .i64 0 1 = 1 := by rw [add_w (by unfold fits; omega)]; rfl
      refine ⟨b2, t, ht, b4, by omega, ?_, ?_⟩
      · rw [iter_s (hB _ (by rw [iLt_f (by omega), sel_f, b4, bnd_s]; show sel (bNot (iEq 0 0)) _ (sel (iLt 1200 (iAdd .i64 (sLen (lastB rs)) (sLen t))) _ (sel (sOk (lastB rs) t) _ _)) = _; rw [hsum, iLt_f h12, hok, show bNot (iEq 0 0) = false from rfl, sel_f, sel_f, sel_t])), h01]
        rw [iter_e (r := .inl (X, ((0 : Int), (withB rs (sAdd (lastB rs) t), iAdd .i64 next 1))))]
        · subst hX; rfl
        · show B26_0 X 0 (withB rs (sAdd (lastB rs) t)) (iAdd .i64 next 1) ((rs.length - 1 : Nat) : Int) X 1 1 = _
          unfold B26_0
          rw [iLt_f (by omega), sel_f]
      · have hBt : sBy (sAdd (lastB rs) t) = sBy (lastB rs) ++ sBy t := by_add _ _
        have hBtl : (sBy (sAdd (lastB rs) t)).length = (sBy (lastB rs)).length + (sBy t).length := by rw [hBt, List.length_append]
        have hcut : sCut (sAdd (lastB rs) t) 0 (((sBy (lastB rs)).length : Nat) : Int) = lastB rs := by
          apply by_inj
          rw [by_cut, hBt, show ((((sBy (lastB rs)).length : Nat) : Int)).toNat = (sBy (lastB rs)).length by omega, List.take_left]
          rfl
        have hsj' : Seq (sAdd (lastB rs) t) nx lj 0 (sBy (lastB rs)).length 0 := by
          refine Seq.uncut (k := (sBy (lastB rs)).length) (by omega) ?_
          rw [hcut]
          exact hsj
        have hg := good_entB next n m nm f u x y (by omega) b2
        have hp : part (sAdd (lastB rs) t) (sBy (lastB rs)).length (sBy t).length = entB next n m (sBy nm) f u (sBy x) (sBy y) := by
          unfold part
          rw [hBt, List.drop_left, List.take_length, ht]
        rw [← hp] at hg
        have hsn := hsj'.snoc (by omega) hg (by rw [Nat.zero_add]; exact hn)
        rw [← hBtl] at hsn
        have hfo1 : Fore (withB rs (sAdd (lastB rs) t)) l0 nx := hfo.with (by omega)
        have hs1 : Seq (lastB (withB rs (sAdd (lastB rs) t))) nx (lj ++ [(next, (n, (m, (nm, (f, (u, (x, y)))))))]) 0 (sBy (lastB (withB rs (sAdd (lastB rs) t)))).length 0 := by
          rw [last_with h1]
          exact hsn
        have hu1 := hfo1.upto hs1
        rw [with_len] at hu1
        rw [List.append_assoc]
        have : iAdd .i64 next 1 = iAdd .i64 nx ((lj ++ [(next, (n, (m, (nm, (f, (u, (x, y)))))))] : List EntT).length : Int) := by
          have hse := seq_end hsj ⟨nx1, nx2⟩ (by omega)
          rw [hn, hse.1, List.length_append, List.length_singleton, add_w (by unfold fits; omega), add_w (by unfold fits; omega)]
          omega
        rw [this]
        exact hu1
end Go.Proofs.YtdnfnjaccbgplaaDoor.K
end

section
set_option linter.unusedVariables false
set_option linter.unusedSimpArgs false
set_option linter.unnecessarySimpa false
open Go Go.Ev
namespace Go.Proofs.YtdnfnjaccbgplaaDoor.K
theorem app_at {rs : List RcvT} {z : RcvT} {k : Nat} (h : k < rs.length) : lAt (rs ++ [z]) (k : Int) = lAt rs (k : Int) := by
  unfold lAt
  rw [show ((k : Int)).toNat = k by omega, List.getElem?_append_left h]
theorem app_last {rs : List RcvT} {z : RcvT} : lAt (rs ++ [z]) (rs.length : Int) = z := by
  unfold lAt
  rw [show ((rs.length : Int)).toNat = rs.length by omega, List.getElem?_append_right (Nat.le_refl _), Nat.sub_self]
  rfl
theorem dup_app {rs : List RcvT} {z : RcvT} {n : ByteArray} {i : Nat} (h : i ≤ rs.length) : dupN (rs ++ [z]) n i = dupN rs n i := by
  unfold dupN
  refine propext ⟨fun ⟨k, h1, h2⟩ => ⟨k, h1, ?_⟩, fun ⟨k, h1, h2⟩ => ⟨k, h1, ?_⟩⟩
  · rw [app_at (by omega)] at h2; exact h2
  · rw [app_at (by omega)]; exact h2
theorem rErr_app {rs : List RcvT} {z : RcvT} {k : Nat} (h : k < rs.length) : rErr (rs ++ [z]) k = rErr rs k := by
  unfold rErr
  rw [app_at h]
  have e := dup_app (z := z) (n := (lAt rs (k : Int)).1) (Nat.le_of_lt h)
  by_cases hd : dupN rs (lAt rs (k : Int)).1 k
  · rw [if_pos hd, if_pos (c := dupN (rs ++ [z]) (lAt rs (k : Int)).1 k) (e ▸ hd)]
  · rw [if_neg hd, if_neg (c := dupN (rs ++ [z]) (lAt rs (k : Int)).1 k) (e ▸ hd)]
theorem Upto.app {rs : List RcvT} {z : RcvT} (h1 : 1 ≤ rs.length) : ∀ {i : Nat} {l : List EntT} {nx : Int}, Upto rs i l nx → i ≤ rs.length → Upto (rs ++ [z]) i l nx
  | 0, l, nx, ⟨h2, h3⟩, _ => ⟨h2, by rw [app_at h1]; exact h3⟩
  | i + 1, l, nx, ⟨l0, nx0, li, g0, g1, g2, g3, g4, g5⟩, hi => by
    refine ⟨l0, nx0, li, g0.app h1 (by omega), by rw [rErr_app (by omega)]; exact g1, ?_, ?_, g4, g5⟩
    · rw [app_at (by omega)]; exact g2
    · rw [app_at (by omega)]; exact g3
/-- The names of the receivers that are attached. -/
noncomputable def nmD (d : Int) : ByteArray := sAdd (bs [82]) (sOf [iCv .u8 (iAdd .i64 48 d)])
theorem nmD_by {d : Int} (h : 0 ≤ d ∧ d ≤ 9) : sBy (nmD d) = [82, 48 + d] := by
  unfold nmD
  rw [by_add, by_bs1 82 (by omega), add_w (by unfold fits; omega), cv_u8 (by omega), by_sOf (by intro b hb; rw [List.mem_singleton.1 hb]; omega)]
  rfl
theorem nmD_ok {d : Int} (h : 0 ≤ d ∧ d ≤ 9) : nmOK (sBy (nmD d)) = true := by
  rw [nmD_by h]
  rcases (by omega : d = 0 ∨ d = 1 ∨ d = 2 ∨ d = 3 ∨ d = 4 ∨ d = 5 ∨ d = 6 ∨ d = 7 ∨ d = 8 ∨ d = 9) with rfl | rfl | rfl | rfl | rfl | rfl | rfl | rfl | rfl | rfl <;> decide
/-- The journal of JournalBack on the way. -/
def BackInv (r0 r : Int) (rs : List RcvT) (next : Int) (want : List EntT) : Prop :=
  0 ≤ r ∧ r ≤ r0 ∧ (rs.length : Int) = 1 + (r0 - r) ∧ fewJ rs ∧ Upto rs rs.length want next ∧ (lAt rs (0 : Nat)).2.1 = 1 ∧ ∀ k : Nat, k < rs.length → (lAt rs (k : Int)).1 = bs [82] ∨ ∃ d : Int, r ≤ d ∧ d ≤ 9 ∧ (lAt rs (k : Int)).1 = nmD d
theorem BackInv.put {r0 r : Int} {rs : List RcvT} {next : Int} {want w' : List EntT} {s : ByteArray} {n' : Int} (h : BackInv r0 r rs next want) (hs : (sBy s).length ≤ 1200) (hu : Upto (withB rs s) rs.length w' n') : BackInv r0 r (withB rs s) n' w' := by
  obtain ⟨h1, h2, h3, h4, h5, h6, h7⟩ := h
  have hl : 1 ≤ rs.length := by omega
  refine ⟨h1, h2, by rw [with_len]; exact h3, few_with h4 hl (by omega), by rw [with_len]; exact hu, ?_, ?_⟩
  · by_cases h : rs.length = 1
    · have := with_last (s := s) hl
      rw [h] at this
      rw [show (lAt (withB rs s) ((0 : Nat) : Int)) = _ from this]
      exact h6
    · rw [with_ne (by omega)]; exact h6
  · intro k hk
    rw [with_len] at hk
    by_cases h : k = rs.length - 1
    · subst h
      rw [with_last hl]
      exact h7 _ hk
    · rw [with_ne (by omega)]
      exact h7 k hk
theorem BackInv.attach {r0 r : Int} {rs : List RcvT} {next : Int} {want : List EntT} (h : BackInv r0 r rs next want) (hr0 : r0 ≤ 5) (hr : 0 < r) : F44 (rs, next) (nmD (r - 1)) = some ((rs ++ [(nmD (r - 1), (next, bs []))], next), 0) ∧ BackInv r0 (r - 1) (rs ++ [(nmD (r - 1), (next, bs []))]) next want := by
  obtain ⟨h1, h2, h3, h4, h5, h6, h7⟩ := h
  have hl : 1 ≤ rs.length := by omega
  have hok := nmD_ok (d := r - 1) (by omega)
  have hnd : ¬ dupN rs (nmD (r - 1)) rs.length := by
    rintro ⟨k, k1, k2⟩
    rcases h7 k k1 with h | ⟨d, d1, d2, h⟩
    · rw [h] at k2
      have := congrArg sBy k2
      rw [nmD_by (by omega), by_bs1 82 (by omega)] at this
      simp at this
    · rw [h] at k2
      have := congrArg sBy k2
      rw [nmD_by (by omega), nmD_by (by omega)] at this
      simp at this
      omega
  obtain ⟨rs', n, c, e1, _, _, e4⟩ := attach_two rs next (nmD (r - 1)) h4
  obtain ⟨rfl, rfl, rfl⟩ := e4 hl (by omega) ⟨want, h5⟩ hok hnd
  refine ⟨e1, by omega, by omega, by rw [List.length_append, List.length_singleton]; omega, ?_, ?_, by rw [app_at hl]; exact h6, ?_⟩
  · refine ⟨by rw [List.length_append, List.length_singleton]; omega, fun k hk => ?_⟩
    rw [List.length_append, List.length_singleton] at hk
    by_cases h : k = rs.length
    · subst h
      rw [app_last]
      show sLen (bs []) ≤ 1300
      rw [by_len]
      show ((0 : Nat) : Int) ≤ 1300
      omega
    · rw [app_at (by omega)]
      exact h4.2 k (by omega)
  · rw [List.length_append, List.length_singleton]
    refine ⟨want, n, [], h5.app hl (Nat.le_refl _), ?_, by rw [app_last], ?_, by simp, ?_⟩
    · unfold rErr
      rw [app_last, if_neg (by show ¬ nmOK (sBy (nmD (r - 1))) = false; rw [hok]; decide), if_neg (by rw [dup_app (Nat.le_refl _)]; exact hnd), if_neg (by show ¬ 1200 < sLen (bs []); rw [by_len]; show ¬ 1200 < ((0 : Nat) : Int); omega), if_neg (by omega)]
    · rw [app_last]
      rfl
    · obtain ⟨m1, m2, m3⟩ := h5.nx h4 (Nat.le_refl _)
      have := m3 (by omega)
      show n = iAdd .i64 n 0
      rw [add_w (by unfold fits; omega)]
      omega
  · intro k hk
    rw [List.length_append, List.length_singleton] at hk
    by_cases h : k = rs.length
    · subst h
      rw [app_last]
      exact .inr ⟨r - 1, by omega, by omega, rfl⟩
    · rw [app_at (by omega)]
      rcases h7 k (by omega) with h | ⟨d, d1, d2, h⟩
      · exact .inl h
      · exact .inr ⟨d, by omega, d2, h⟩
theorem F49_eq {r : Int} (h : 0 ≤ r ∧ r ≤ 9) : F49 r = some (sOf [iCv .u8 (iAdd .i64 48 r)]) := by
  unfold F49
  rw [iLt_f (by omega), sel_f, iLt_f (by omega), sel_f, iLt_y (by omega), sel_t]
theorem back_new : ∃ rs, F43 (bs [82]) = some ((rs, 1), 0) ∧ ∀ r0, 0 ≤ r0 → BackInv r0 r0 rs 1 [] := by
  refine ⟨[(bs [82], (1, bs []))], ?_, fun r0 h0 => ⟨h0, by omega, by simp, ⟨by simp, ?_⟩, ?_, rfl, ?_⟩⟩
  · unfold F43
    rw [F51_any, bnd_s]
    rfl
  · intro k hk
    obtain rfl : k = 0 := by simpa using hk
    show sLen (bs []) ≤ 1300
    rw [by_len]
    show ((0 : Nat) : Int) ≤ 1300
    omega
  · refine ⟨[], 1, [], ⟨rfl, rfl⟩, ?_, rfl, rfl, rfl, by decide⟩
    unfold rErr
    rw [if_neg (by decide), if_neg (by rintro ⟨k, hk, _⟩; exact absurd hk (Nat.not_lt_zero k)), if_neg (by show ¬ 1200 < sLen (bs []); rw [by_len]; show ¬ 1200 < ((0 : Nat) : Int); omega), if_neg (by show ¬ (0 = 0 ∧ ¬ ((1 : Int) ≤ 1 ∧ (1 : Int) ≤ 10000)); omega)]
  · intro k hk
    obtain rfl : k = 0 := by simpa using hk
    exact .inl rfl
/-- An entry's reading behind its appending. -/
theorem back_tail {α : Type} (n : Int) (e2 : Int × (Int × (ByteArray × (Int × (Int × (ByteArray × ByteArray)))))) (t : ByteArray) (R N : Option α) (h : F19 (sAdd (bs [97]) t) 1 = some ((n, e2), (iAdd .i64 1 (sLen t), 0))) (hok : sOk (bs [97]) t = true) (m : Int) (hm : m = 1) : (sel (sOk (bs [97]) t) (bndS (F19 (sAdd (bs [97]) t) 1) fun y3 => sel (bOr (bOr (bOr (bOr (bNot (iEq m 1)) (bNot (iEq 0 0))) (bNot (iEq y3.2.2 0))) (bNot (bAnd (iEq y3.1.1 n) (bAnd (iEq y3.1.2.1 e2.1) (bAnd (iEq y3.1.2.2.1 e2.2.1) (bAnd (sEq y3.1.2.2.2.1 e2.2.2.1) (bAnd (iEq y3.1.2.2.2.2.1 e2.2.2.2.1) (bAnd (iEq y3.1.2.2.2.2.2.1 e2.2.2.2.2.1) (bAnd (sEq y3.1.2.2.2.2.2.2.1 e2.2.2.2.2.2.1) (sEq y3.1.2.2.2.2.2.2.2 e2.2.2.2.2.2.2)))))))))) (bNot (iEq y3.2.1 (iAdd .i64 1 (sLen t))))) R N) none) = N := by
  rw [hok, sel_t, h, bnd_s]
  simp only [iEq_y hm, iEq_y rfl, sEq_y rfl]
  rfl
end Go.Proofs.YtdnfnjaccbgplaaDoor.K
end

section
set_option linter.unusedVariables false
set_option linter.unusedSimpArgs false
set_option linter.unnecessarySimpa false
open Go Go.Ev
namespace Go.Proofs.YtdnfnjaccbgplaaDoor.K
theorem lCutA {α : Type} (l : List α) (n : Nat) (h : n = l.length) : lCut l 0 (n : Int) = l := by
  unfold lCut
  rw [show ((n : Int)).toNat = n by omega, h, List.take_length]
  rfl
theorem back_loop (l : List EntT) (r0 : Int) (rs : List RcvT) (hl : l.length ≤ 42) (hs : ∀ k : Nat, k < l.length → smallE (lAt l (k : Int))) (h0 : r0 ≤ 5) (hi : BackInv r0 r0 rs 1 []) : ∃ (r : Int) (rs' : List RcvT) (next : Int) (want : List EntT), L12_0 (l, (r0, ((rs, 1), ([], 0)))) = some (.inl ((rs', next), want)) ∧ BackInv r0 r rs' next want ∧ want.length ≤ 42 := by
  have hll : lLen l = (l.length : Int) := rfl
  unfold L12_0
  have hloop := loop_inv (B := fun (x : ((List EntT) × (Int × (((List RcvT) × Int) × ((List EntT) × Int))))) => (B12_0 x.1 x.2.1 x.2.2.1.1 x.2.2.1.2 x.2.2.2.1 x.2.2.2.2)) (Q := fun y => ∃ (r : Int) (rs' : List RcvT) (next : Int) (want : List EntT), y = .inl ((rs', next), want) ∧ BackInv r0 r rs' next want ∧ want.length ≤ 42) (x := (l, (r0, ((rs, 1), ([], 0)))))
    (fun m x => ∃ (i : Nat) (r : Int) (rs' : List RcvT) (next : Int) (want : List EntT), x = (l, (r, ((rs', next), (want, (i : Int))))) ∧ i ≤ l.length ∧ m = l.length - i ∧ BackInv r0 r rs' next want ∧ want.length ≤ i) l.length ⟨0, r0, rs, 1, [], rfl, by omega, by omega, hi, by simp⟩ (by omega) ?_
  · obtain ⟨y, e, r, rs', next, want, rfl, q⟩ := hloop
    exact ⟨r, rs', next, want, e, q⟩
  rintro m x ⟨i, r, rs', next, want, rfl, hil, rfl, hinv, hwl⟩
  simp only
  unfold B12_0
  by_cases hlt : i < l.length
  rotate_left
  · rw [iLt_f (by omega), sel_f, ok_some]
    exact ⟨r, rs', next, want, rfl, hinv, by omega⟩
  obtain ⟨v1, v2, v3, v4, v5, v6, v7⟩ := hinv
  have hinv : BackInv r0 r rs' next want := ⟨v1, v2, v3, v4, v5, v6, v7⟩
  have h8 := v4.1
  have hi1 : iAdd .i64 (i : Int) 1 = ((i + 1 : Nat) : Int) := by rw [add_w (by unfold fits; omega)]; rfl
  have hsm := hs i hlt
  rw [iLt_y (by omega), sel_t, oIn_y (by omega), sel_t, F23_eq (by omega), bnd_s, hi1]
  generalize lAt l (i : Int) = e at *
  obtain ⟨k, n, mm, nm, f, u, x, y⟩ := e
  have hsm : smallE (0, (n, (mm, (nm, (f, (u, (x, y))))))) := hsm
  have hnm : (sBy nm).length ≤ 1000000 := by have : (sBy nm).length ≤ 300 := hsm.1; omega
  -- one more entry
  have next_ok : ∀ (r' : Int) (rs1 : List RcvT) (t : ByteArray) (next : Int), BackInv r0 r' rs1 next want → F17 (next, (n, (mm, (nm, (f, (u, (x, y))))))) = some 0 → sBy t = entB next n mm (sBy nm) f u (sBy x) (sBy y) → (sBy (lastB rs1)).length + (sBy t).length ≤ 1200 → Upto (withB rs1 (sAdd (lastB rs1) t)) rs1.length (want ++ [(next, (n, (mm, (nm, (f, (u, (x, y)))))))]) (iAdd .i64 next 1) →
      ∃ v, (sel (lCap 88 (lApp want [(next, (n, (mm, (nm, (f, (u, (x, y)))))))])) (some ((.inl (l, (r', ((withB rs1 (sAdd (lastB rs1) t), iAdd .i64 next 1), (lApp want [(next, (n, (mm, (nm, (f, (u, (x, y)))))))], ((i + 1 : Nat) : Int)))))) : ((List EntT) × (Int × (((List RcvT) × Int) × ((List EntT) × Int)))) ⊕ ((((List RcvT) × Int) × (List EntT)) ⊕ Bool))) none) = some (.inl v) ∧ ∃ k, k < l.length - i ∧ ∃ (i : Nat) (r : Int) (rs' : List RcvT) (next : Int) (want : List EntT), v = (l, (r, ((rs', next), (want, (i : Int))))) ∧ i ≤ l.length ∧ k = l.length - i ∧ BackInv r0 r rs' next want ∧ want.length ≤ i := by
    intro r' rs1 t next hb h17 ht h12 hu
    rw [sel_pos (lCap_y (by omega) (by omega) (by show (want ++ [_]).length ≤ _; rw [List.length_append, List.length_singleton]; omega))]
    exact ⟨_, rfl, l.length - (i + 1), by omega, i + 1, r', _, _, _, rfl, by omega, rfl, hb.put (by rw [by_add, List.length_append]; omega) hu, by show (want ++ [_]).length ≤ _; rw [List.length_append, List.length_singleton]; omega⟩
  rcases append_one v4 (by omega) (by omega) v5 n mm nm f u x y hsm with ⟨p, c, hc, e1⟩ | ⟨h17, t, ht, e16, h12, e1, hu1⟩
  · rw [e1, bnd_s]
    by_cases h30 : c = 30 ∧ 0 < r
    · obtain ⟨rfl, hr⟩ := h30
      obtain ⟨a1, a2⟩ := hinv.attach h0 hr
      have hsub : iSub .i64 r 1 = r - 1 := sub_w (by unfold fits; omega)
      have b49 := F49_eq (r := r - 1) (by omega)
      have hdg : sBy (sOf [iCv .u8 (iAdd .i64 48 (r - 1))]) = [48 + (r - 1)] := by
        rw [add_w (by unfold fits; omega), cv_u8 (by omega), by_sOf (by intro b hb; rw [List.mem_singleton.1 hb]; omega)]
      have hok1 : sOk (bs [82]) (sOf [iCv .u8 (iAdd .i64 48 (r - 1))]) = true := sOk_y (by rw [hdg, by_bs1 82 (by omega)]; simp)
      rw [iEq_y rfl, iLt_y hr, show bAnd true true = true from rfl, sel_t, hsub, b49, bnd_s, hok1, sel_t]
      show Ok (bndS (F44 (rs', next) (nmD (r - 1))) _) _
      rw [a1, bnd_s]
      obtain ⟨w1, w2, w3, w4, w5, w6, w7⟩ := a2
      have a2 : BackInv r0 (r - 1) (rs' ++ [(nmD (r - 1), (next, bs []))]) next want := ⟨w1, w2, w3, w4, w5, w6, w7⟩
      have h9 := w4.1
      generalize rs' ++ [(nmD (r - 1), (next, bs []))] = rs1 at *
      show Ok (sel (bNot (iEq 0 0)) _ (bndS (F23 (rs1, next)) _)) _
      rw [show bNot (iEq 0 0) = false from rfl, sel_f, F23_eq (by omega), bnd_s]
      rcases append_one w4 (by omega) (by omega) w5 n mm nm f u x y hsm with ⟨p', c', hc', e1'⟩ | ⟨h17, t, ht, e16, h12, e1', hu1⟩
      · rw [e1', bnd_s, iEq_f hc', nf, sel_t, ok_some]
        exact ⟨l.length - (i + 1), by omega, i + 1, r - 1, rs1, next, want, rfl, by omega, rfl, a2, by omega⟩
      · obtain ⟨q1, q2⟩ := back_read next n mm nm f u x y t hnm h17 ht
        rw [e1', bnd_s]
        simp only [show bNot (iEq 0 0) = false from rfl, sel_f, e16, bnd_s]
        have hbt := back_tail (α := ((List EntT) × (Int × (((List RcvT) × Int) × ((List EntT) × Int)))) ⊕ ((((List RcvT) × Int) × (List EntT)) ⊕ Bool)) next (n, (mm, (nm, (f, (u, (x, y)))))) t (some (.inr (.inr false))) (sel (lCap 88 (lApp want [(next, (n, (mm, (nm, (f, (u, (x, y)))))))])) (some (.inl (l, (r - 1, ((withB rs1 (sAdd (lastB rs1) t), iAdd .i64 next 1), (lApp want [(next, (n, (mm, (nm, (f, (u, (x, y)))))))], ((i + 1 : Nat) : Int))))))) none) q2 q1 1 rfl
        simp only [show bNot (iEq 0 0) = false from rfl] at hbt
        rw [hbt]
        obtain ⟨v, e, q⟩ := next_ok (r - 1) rs1 t next a2 h17 ht h12 hu1
        rw [e, ok_some]
        exact q
    · rw [show bAnd (iEq c 30) (iLt 0 r) = false by rw [bf_t, and_t, iEq_t, iLt_t]; exact h30, sel_f]
      show Ok (sel (bNot (iEq c 0)) _ _) _
      rw [iEq_f hc, nf, sel_t, ok_some]
      exact ⟨l.length - (i + 1), by omega, i + 1, r, rs', next, want, rfl, by omega, rfl, hinv, by omega⟩
  · obtain ⟨q1, q2⟩ := back_read next n mm nm f u x y t hnm h17 ht
    rw [e1, bnd_s]
    show Ok (sel (bAnd (iEq 0 30) (iLt 0 r)) _ _) _
    simp only [show bAnd (iEq 0 30) (iLt 0 r) = false from rfl, show bNot (iEq 0 0) = false from rfl, sel_f, e16, bnd_s]
    have hbt := back_tail (α := ((List EntT) × (Int × (((List RcvT) × Int) × ((List EntT) × Int)))) ⊕ ((((List RcvT) × Int) × (List EntT)) ⊕ Bool)) next (n, (mm, (nm, (f, (u, (x, y)))))) t (some (.inr (.inr false))) (sel (lCap 88 (lApp want [(next, (n, (mm, (nm, (f, (u, (x, y)))))))])) (some (.inl (l, (r, ((withB rs' (sAdd (lastB rs') t), iAdd .i64 next 1), (lApp want [(next, (n, (mm, (nm, (f, (u, (x, y)))))))], ((i + 1 : Nat) : Int))))))) none) q2 q1 1 rfl
    simp only [show bNot (iEq 0 0) = false from rfl] at hbt
    rw [hbt]
    obtain ⟨v, e, q⟩ := next_ok r rs' t next hinv h17 ht h12 hu1
    rw [e, ok_some]
    exact q
theorem back_law (x0 : List EntT) (x1 : Int) : F12 x0 x1 = some true := by
  unfold F12
  rw [awake, bnd_s, nt, sel_f]
  obtain ⟨b', hb', hs⟩ := F25_eq x0
  rw [hb', bnd_s, let_s]
  cases b' with
  | false => rfl
  | true =>
    obtain ⟨h42, hs⟩ := hs rfl
    by_cases hw : 0 ≤ x1 ∧ x1 ≤ 5
    rotate_left
    · rw [(within_f hw).2]
      rfl
    rw [(within_t hw).2, show bOr (bNot true) (bNot true) = false from rfl, sel_f]
    have hw1 : (0 : Int) ≤ (x1 : Int) := hw.1
    have hw2 : (x1 : Int) ≤ (5 : Int) := hw.2
    obtain ⟨rs, e43, hinv⟩ := back_new
    obtain ⟨r, rs', next, want, e12, hi, hwl⟩ := back_loop x0 x1 rs h42 hs hw.2 (hinv x1 hw.1)
    rw [e43, bnd_s]
    show sel (bNot (iEq 0 0)) _ _ = _
    rw [show bNot (iEq 0 0) = false from rfl, sel_f, e12, bnd_s]
    show bndS (F23 (rs', next)) _ = _
    obtain ⟨v1, v2, v3, v4, v5, v6, v7⟩ := hi
    have h8 := v4.1
    obtain ⟨m1, m2, m3⟩ := v5.nx v4 (Nat.le_refl _)
    rw [v6] at m1
    rw [F23_eq (by omega), bnd_s]
    have hsub : iSub .i64 next 1 = next - 1 := sub_w (by unfold fits; omega)
    show bndS (F39 (rs', next) 1 (iSub .i64 next 1)) _ = _
    rw [hsub]
    have hent : ∃ hi : Int, F39 (rs', next) 1 (next - 1) = some ((want, 0, hi), 0) ∧ hi = want.length := by
      by_cases h0 : want.length = 0
      · have hl : want = [] := List.length_eq_zero_iff.1 h0
        subst hl
        obtain ⟨nn, c, _, _, e3⟩ := check_two rs' next v4
        rcases e3 with ⟨hc, _, hno⟩ | ⟨rfl, _, _, l', _, hu', e3⟩
        · exact absurd ⟨by omega, by omega, v5⟩ (hno [])
        have : next = 1 := by simpa using m1
        subst this
        refine ⟨0, ?_, rfl⟩
        unfold F39
        rw [e3, bnd_s]
        rfl
      · obtain ⟨l1, lo, hi, c, f1, f2, f3, f4⟩ := entries_two rs' next 1 (next - 1) v4 (by unfold fits; omega) (by unfold fits; omega)
        obtain ⟨rfl, rfl, rfl, rfl⟩ := f4 want v5 (by omega) (by omega) (by omega) (by omega) (by omega)
        rw [v6] at f1
        exact ⟨_, f1, by omega⟩
    obtain ⟨hi, e39, rfl⟩ := hent
    rw [e39, bnd_s]
    simp only []
    rw [lCutA want want.length rfl, F36_eq want want (by omega) rfl, okS_s, or_tt, sel_t, valS_s, let_s]
    rfl
end Go.Proofs.YtdnfnjaccbgplaaDoor.K
namespace Go.Proofs.YtdnfnjaccbgplaaDoor.Pure
open K
theorem JournalBack (x0 : ((.sl (.pr (.int .i64) (.pr (.int .i64) (.pr (.int .i64) (.pr .str (.pr (.int .i64) (.pr (.int .i64) (.pr .str .str)))))))) : Ty).T) (x1 : ((.int .i64) : Ty).T) (_h0 : ((.sl (.pr (.int .i64) (.pr (.int .i64) (.pr (.int .i64) (.pr .str (.pr (.int .i64) (.pr (.int .i64) (.pr .str .str)))))))) : Ty).wf x0) (_h1 : ((.int .i64) : Ty).wf x1) : K.gF12.F (x0, x1) = some true := back_law x0 x1
end Go.Proofs.YtdnfnjaccbgplaaDoor.Pure
end
