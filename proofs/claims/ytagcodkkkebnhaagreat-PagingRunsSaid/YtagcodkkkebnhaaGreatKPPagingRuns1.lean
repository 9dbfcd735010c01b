/- A part of the proof: texts of the author, joined. -/
import Derived.Test.YtagcodkkkebnhaaGreatKPPagingRuns0
section
set_option linter.unusedVariables false
set_option linter.unusedSimpArgs false
set_option linter.unnecessarySimpa false
open Go Go.Ev
namespace Go.Proofs.YtagcodkkkebnhaaGreat.K
theorem used_or {x : PAG} {i : Nat} (h : rightF x i) : ((fAt x i).2.1 = false ∧ rk (fAt x i) = 0 ∧ (fAt x i).2.2.2.2.2.2.1 = 0) ∨ ((fAt x i).2.1 = true ∧ 1 ≤ rk (fAt x i) ∧ 1 ≤ (fAt x i).2.2.2.2.2.2.1) := by
  obtain ⟨_, _, ⟨h1, h2⟩ | ⟨h1, _, _, _, h2, _⟩⟩ := h
  · refine .inl ⟨h1, ?_, ?_⟩
    · unfold rk; rw [if_pos h1]
    · rw [h2]; rfl
  · refine .inr ⟨h1, ?_, h2⟩
    unfold rk
    rw [if_neg (by rw [h1]; decide)]
    split <;> decide
/-- A frame that is not in use stays. -/
theorem bst_keep {x : PAG} {pool : Int} {i : Nat} (hr : ∀ k, k < x.2.1.length → rightF x k) (hi : i < x.2.1.length) (hu : (fAt x i).2.1 = false) : ∀ d, i + 1 + d ≤ x.2.1.length → bst x pool (i + 1) = (i : Int) → bst x pool (i + 1 + d) = (i : Int)
  | 0, _, h => h
  | d + 1, hd, h => by
    have ih := bst_keep hr hi hu d (by omega) h
    rw [show i + 1 + (d + 1) = (i + 1 + d) + 1 from rfl, bst_s, ih, if_neg]
    rintro ⟨_, h1 | h1⟩
    · omega
    · have e1 := used_or (hr i hi)
      have e2 := used_or (hr (i + 1 + d) (by omega))
      rcases e1 with ⟨_, a2, a3⟩ | ⟨a1, _, _⟩
      · unfold bef at h1
        change rk (fAt x (i + 1 + d)) < rk (fAt x i) ∨ (rk (fAt x (i + 1 + d)) = rk (fAt x i) ∧ (fAt x (i + 1 + d)).2.2.2.2.2.2.1 < (fAt x i).2.2.2.2.2.2.1) at h1
        rcases e2 with ⟨_, b2, b3⟩ | ⟨_, b2, b3⟩ <;> omega
      · rw [hu] at a1; cases a1
end Go.Proofs.YtagcodkkkebnhaaGreat.K
end

section
set_option linter.unusedVariables false
set_option linter.unusedSimpArgs false
set_option linter.unnecessarySimpa false
open Go Go.Ev
namespace Go.Proofs.YtagcodkkkebnhaaGreat.K
def spare (x : PAG) (pool : Int) (i : Nat) : Prop := (fAt x i).1 = pool ∧ (fAt x i).2.1 = false
/-- Before the first unused frame of a pool its best one is in use. -/
theorem bst_used {x : PAG} {pool : Int} : ∀ i, i ≤ x.2.1.length → (∀ k, k < i → ¬ spare x pool k) → bst x pool i = -1 ∨ ∃ j : Nat, j < i ∧ bst x pool i = (j : Int) ∧ (fAt x j).1 = pool ∧ (fAt x j).2.1 = true
  | 0, _, _ => .inl rfl
  | i + 1, hi, h => by
    rw [bst_s]
    split
    · rename_i hc
      refine .inr ⟨i, by omega, rfl, hc.1, ?_⟩
      have := h i (by omega)
      unfold spare at this
      cases hu : (fAt x i).2.1
      · exact absurd ⟨hc.1, hu⟩ this
      · rfl
    · rcases bst_used i (by omega) (fun k hk => h k (by omega)) with e | ⟨j, h1, h2⟩
      · exact .inl e
      · exact .inr ⟨j, by omega, h2⟩
theorem F91_eq (f g : FRM) (hf : f.2.1 = true) (hg : g.2.1 = true) : ∃ b, F108 f g = some b ∧ ((bNot b = true) = bef g f) := by
  unfold F108 bef rk
  rw [hf, hg]
  cases f.2.2.1 <;> cases g.2.2.1
  · refine ⟨iLe f.2.2.2.2.2.2.1 g.2.2.2.2.2.2.1, rfl, ?_⟩
    rw [not_t, bf_t, iLe_t]
    apply propext
    simp
  · exact ⟨true, rfl, by apply propext; simp [bNot, sel]⟩
  · exact ⟨false, rfl, by apply propext; simp [bNot, sel]⟩
  · refine ⟨iLe f.2.2.2.2.2.2.1 g.2.2.2.2.2.2.1, rfl, ?_⟩
    rw [not_t, bf_t, iLe_t]
    apply propext
    simp
end Go.Proofs.YtagcodkkkebnhaaGreat.K
end

section
set_option linter.unusedVariables false
set_option linter.unusedSimpArgs false
set_option linter.unnecessarySimpa false
open Go Go.Ev
namespace Go.Proofs.YtagcodkkkebnhaaGreat.K
theorem B62_step {x : PAG} {pool : Int} {i : Nat} (hn : x.2.1.length ≤ 1000) (hi : i < x.2.1.length) (hb : bst x pool i = -1 ∨ ∃ j : Nat, j < i ∧ bst x pool i = (j : Int) ∧ (fAt x j).1 = pool ∧ (fAt x j).2.1 = true) (hp : ¬ spare x pool i) : B95_0 pool x.1.1 x.1.2 x.2.1 x.2.2.1 x.2.2.2.1 x.2.2.2.2.1 x.2.2.2.2.2 (bst x pool i) i = some (.inl (pool, (opg x, (bst x pool (i + 1), ((i + 1 : Nat) : Int))))) := by
  have hl : lLen x.2.1 = x.2.1.length := rfl
  unfold B95_0
  rw [bst_s, iLt_y (a := (i : Int)) (by omega), oIn_y (a := (i : Int)) (by omega), sel_t, sel_t, add_n (by omega) (by omega)]
  by_cases h1 : (fAt x i).1 = pool
  · have hu : (fAt x i).2.1 = true := by
      cases h : (fAt x i).2.1
      · exact absurd ⟨h1, h⟩ hp
      · rfl
    rw [iEq_y h1, nt, sel_f, show (lAt x.2.1 (i : Int)).2.1 = true from hu, nt, sel_f]
    rcases hb with e | ⟨j, j1, j2, j3, j4⟩
    · rw [e, iEq_y rfl, if_pos ⟨h1, .inl (by decide)⟩]
      cases oIn (-1) (lLen x.2.1) <;> cases okS (F108 (lAt x.2.1 (-1)) (lAt x.2.1 (i : Int))) <;> rfl
    · obtain ⟨b, e, hb⟩ := F91_eq (fAt x j) (fAt x i) j4 hu
      rw [j2, iEq_f (by omega), oIn_y (a := (j : Int)) (by omega), or_tt, sel_t, show F108 (lAt x.2.1 (j : Int)) (lAt x.2.1 (i : Int)) = some b from e, okS_s, or_tt, sel_t, valS_s, let_s, or_ff, sel_if]
      by_cases hc : bef (fAt x i) (fAt x j)
      · rw [if_pos (hb.mpr hc), if_pos ⟨h1, .inr hc⟩]; rfl
      · rw [if_neg (fun h => hc (hb.mp h)), if_neg (fun h => h.2.elim (fun h => by omega) hc)]; rfl
  · rw [iEq_f h1, if_neg (fun h => h1 h.1)]; rfl
end Go.Proofs.YtagcodkkkebnhaaGreat.K
end

section
set_option linter.unusedVariables false
set_option linter.unusedSimpArgs false
set_option linter.unnecessarySimpa false
open Go Go.Ev
namespace Go.Proofs.YtagcodkkkebnhaaGreat.K
/-- The frame that is replaced next: the specification's is the program's. -/
theorem F62_eq (x : PAG) (pool : Int) (hn : x.2.1.length ≤ 1000) (hr : ∀ k, k < x.2.1.length → rightF x k) : F95 x pool = some (bst x pool x.2.1.length) := by
  have hl : lLen x.2.1 = x.2.1.length := rfl
  -- rounds up to the first unused frame
  have gen : ∀ (d i n : Nat), i + d = x.2.1.length → d < n → (∀ k, k < i → ¬ spare x pool k) →
      ∃ r, iter (fun (y : Int × ((List SEG × (Int × REST)) × (Int × Int))) => B95_0 y.1 y.2.1.1 y.2.1.2.1 y.2.1.2.2.1 y.2.1.2.2.2.1 y.2.1.2.2.2.2.1 y.2.1.2.2.2.2.2.1 y.2.1.2.2.2.2.2.2 y.2.2.1 y.2.2.2) n (pool, (opg x, (bst x pool i, (i : Int)))) = some r ∧ (r = .inl (bst x pool x.2.1.length) ∨ r = .inr (bst x pool x.2.1.length)) := by
    intro d
    induction d with
    | zero =>
      intro i n hi hd hk
      obtain ⟨n, rfl⟩ : ∃ q, n = q + 1 := ⟨n - 1, by omega⟩
      obtain rfl : i = x.2.1.length := by omega
      refine ⟨_, iter_e (r := Sum.inl (bst x pool x.2.1.length)) ?_, .inl rfl⟩
      show B95_0 pool x.1.1 x.1.2 x.2.1 x.2.2.1 x.2.2.2.1 x.2.2.2.2.1 x.2.2.2.2.2 (bst x pool x.2.1.length) x.2.1.length = _
      unfold B95_0
      rw [iLt_f (by omega), sel_f]
    | succ d ih =>
      intro i n hi hd hk
      obtain ⟨n, rfl⟩ : ∃ q, n = q + 1 := ⟨n - 1, by omega⟩
      have hb := bst_used (x := x) (pool := pool) i (by omega) hk
      by_cases hp : spare x pool i
      · have hbi : bst x pool (i + 1) = (i : Int) := by
          rw [bst_s, if_pos]
          refine ⟨hp.1, ?_⟩
          rcases hb with e | ⟨j, j1, j2, j3, j4⟩
          · left; omega
          · right
            rw [j2]
            have e1 := used_or (hr i (by omega))
            have e2 := used_or (hr j (by omega))
            left
            show rk (fAt x i) < rk (fAt x j)
            rcases e1 with ⟨_, a2, _⟩ | ⟨a1, _, _⟩
            · rcases e2 with ⟨b1, _, _⟩ | ⟨_, b2, _⟩
              · rw [j4] at b1; cases b1
              · omega
            · rw [hp.2] at a1; cases a1
        have := bst_keep hr (by omega) hp.2 d (by omega) hbi
        rw [show i + 1 + d = x.2.1.length by omega] at this
        refine ⟨_, iter_e (r := Sum.inr (i : Int)) ?_, .inr (by rw [this])⟩
        show B95_0 pool x.1.1 x.1.2 x.2.1 x.2.2.1 x.2.2.2.1 x.2.2.2.2.1 x.2.2.2.2.2 (bst x pool i) i = _
        unfold B95_0
        rw [iLt_y (a := (i : Int)) (by omega), oIn_y (a := (i : Int)) (by omega), sel_t, sel_t, iEq_y hp.1, show (lAt x.2.1 (i : Int)).2.1 = false from hp.2]
        rfl
      · rw [iter_s (B62_step hn (by omega) hb hp)]
        exact ih (i + 1) n (by omega) (by omega) (fun k hk' => by
          by_cases h : k = i
          · rw [h]; exact hp
          · exact hk k (by omega))
  obtain ⟨r, e, h⟩ := gen x.2.1.length 0 fuel (by omega) (by unfold fuel; omega) (fun k h => by omega)
  have e' : L95_0 (pool, (opg x, (-1, 0))) = some r := e
  unfold F95
  show bndS (L95_0 (pool, (opg x, (-1, 0)))) _ = _
  rw [e']
  rcases h with rfl | rfl <;> rfl
end Go.Proofs.YtagcodkkkebnhaaGreat.K
end

section
set_option linter.unusedVariables false
set_option linter.unusedSimpArgs false
set_option linter.unnecessarySimpa false
open Go Go.Ev
namespace Go.Proofs.YtagcodkkkebnhaaGreat.K
def bkk (n p : Int) : Int := iRem (iAdd .i64 (iMul .i64 7 n) p) 5
theorem bkk_in {s : STO} {n p : Int} (hs : okS0 s) (hf : fewS s) (h : hasP s n p) : ∃ c : Nat, c < 5 ∧ bkk n p = (c : Int) := by
  obtain ⟨h1, h2, h3⟩ := h
  obtain ⟨i, hi, hn, _, e⟩ := place_in h1
  have h4 := hf.2 i hi
  have h5 := hs.2.2.2 i hi
  rw [e] at h3
  have h6 : 1 ≤ n ∧ n ≤ s.2 - 1 := by
    unfold sgE at h5
    rw [hn] at h5
    exact Classical.byContradiction fun hc => by rw [if_pos hc] at h5; cases h5
  have h7 := hs.2.2.1
  unfold bkk
  rw [mul_n (by omega) (by omega), add_n (by omega) (by omega)]
  unfold iRem
  rw [Int.tmod_eq_emod_of_nonneg (by omega)]
  exact ⟨((7 * n + p) % 5).toNat, by omega, by omega⟩
end Go.Proofs.YtagcodkkkebnhaaGreat.K
end

section
set_option linter.unusedVariables false
set_option linter.unusedSimpArgs false
set_option linter.unnecessarySimpa false
open Go Go.Ev
namespace Go.Proofs.YtagcodkkkebnhaaGreat.K
theorem CH_in {x : PAG} {c : Int} {l : List Int} (h : CH x c l) : ∀ b ∈ l, oIn b (lLen x.2.1) = true := fun b hb => fr_in (h.2.2 b hb)
/-- The frame that has a page, in the program and in the specification. -/
theorem find_eq {x : PAG} {n p : Int} (hx : RIGHT x) (hf : fewS x.1) (hp : hasP x.1 n p) : ∃ l, CH x (bkk n p) l ∧
    ((∃ i, i < l.length ∧ hasK (lAt x.2.1 (lAt l (i : Int))) n p ∧ F36 x n p = some (lAt l (i : Int), (i : Int) + 1) ∧ F81 x n p = some (lAt l (i : Int), (i : Int) + 1)) ∨
     ((∀ i, i < l.length → ¬ hasK (lAt x.2.1 (lAt l (i : Int))) n p) ∧ F36 x n p = some (-1, 0) ∧ F81 x n p = some (-1, lLen l))) := by
  obtain ⟨hs, hn, hh, _, _, _, _, ht⟩ := hx
  obtain ⟨c, hc, e⟩ := bkk_in hs hf hp
  obtain ⟨l, hl⟩ := ht.1 c hc
  rw [e]
  have hn' : x.2.1.length ≤ 1000 := by omega
  have hin : oIn (c : Int) (lLen x.2.2.1) = true := oIn_y (by unfold lLen; rw [hh]; omega)
  have e73 : F63 n p = some (c : Int) := by rw [← e]; rfl
  have e76 : F78 n p = some (c : Int) := by rw [← e]; rfl
  have hlen := CH_len hl hn'
  refine ⟨l, hl, ?_⟩
  have e1 : F36 x n p = bndS (L36_0 (n, (p, (opg x, (l, (lLen l, 0)))))) fun y2 => sumS y2 (fun _ => some (-1, 0)) fun y2b => some y2b := by
    unfold F36
    rw [e73, bnd_s, F58_eq hl hn' hin, bnd_s]
  have e2 : F81 x n p = bndS (L81_0 (n, (p, (opg x, (l, 0))))) fun y2 => sumS y2 (fun y2a => some (-1, lLen y2a)) fun y2b => some y2b := by
    unfold F81 F94
    rw [e76, bnd_s, F48_eq hl hn' hin]
    rfl
  rw [e1, e2]
  rcases L55_eq x n p l hlen (CH_in hl) with ⟨i, h1, h2, h3, k1⟩ | ⟨h1, k1⟩ <;> rcases L61_eq x n p l hlen (CH_in hl) with ⟨j, g1, g2, g3, k2⟩ | ⟨g1, k2⟩
  · obtain rfl : i = j := by
      rcases Nat.lt_trichotomy i j with h | h | h
      · exact absurd h2 (g3 i h)
      · exact h
      · exact absurd g2 (h3 j h)
    exact .inl ⟨i, h1, h2, by rw [k1]; rfl, by rw [k2]; rfl⟩
  · exact absurd h2 (g1 i h1)
  · exact absurd g2 (h1 j g1)
  · exact .inr ⟨h1, by rw [k1]; rfl, by rw [k2]; rfl⟩
end Go.Proofs.YtagcodkkkebnhaaGreat.K
end

section
set_option linter.unusedVariables false
set_option linter.unusedSimpArgs false
set_option linter.unnecessarySimpa false
open Go Go.Ev
namespace Go.Proofs.YtagcodkkkebnhaaGreat.K
theorem bst_lt (x : PAG) (pool : Int) (i : Nat) : bst x pool i = -1 ∨ 0 ≤ bst x pool i := by
  rcases bst_in x pool i with h | h
  · exact .inl h
  · exact .inr h.1
end Go.Proofs.YtagcodkkkebnhaaGreat.K
end

section
set_option linter.unusedVariables false
set_option linter.unusedSimpArgs false
set_option linter.unnecessarySimpa false
open Go Go.Ev
namespace Go.Proofs.YtagcodkkkebnhaaGreat.K
end Go.Proofs.YtagcodkkkebnhaaGreat.K
end

section
set_option linter.unusedVariables false
set_option linter.unusedSimpArgs false
set_option linter.unnecessarySimpa false
open Go Go.Ev
namespace Go.Proofs.YtagcodkkkebnhaaGreat.K
end Go.Proofs.YtagcodkkkebnhaaGreat.K
end

section
set_option linter.unusedVariables false
set_option linter.unusedSimpArgs false
set_option linter.unnecessarySimpa false
open Go Go.Ev
namespace Go.Proofs.YtagcodkkkebnhaaGreat.K
/-- A frame that has a page. -/
def isK (f : FRM) (n p : Int) : Prop := f.2.1 = true ∧ f.2.2.2.1 = n ∧ f.2.2.2.2.1 = p
instance (f : FRM) (n p : Int) : Decidable (isK f n p) := by unfold isK; infer_instance
/-- The first frame that has a page, or -1. -/
def fidx (n p : Int) : List FRM → Int
  | [] => -1
  | f :: r => if isK f n p then 0 else if fidx n p r = -1 then -1 else fidx n p r + 1
theorem fidx_cases (n p : Int) : ∀ l : List FRM, (∃ i, i < l.length ∧ isK (lAt l (i : Int)) n p ∧ fidx n p l = (i : Int)) ∨ ((∀ i, i < l.length → ¬ isK (lAt l (i : Int)) n p) ∧ fidx n p l = -1)
  | [] => .inr ⟨fun i h => by simp at h, rfl⟩
  | g :: r => by
    by_cases h : isK g n p
    · exact .inl ⟨0, by simp, h, by unfold fidx; rw [if_pos h]; rfl⟩
    · rcases fidx_cases n p r with ⟨i, h1, h2, h4⟩ | ⟨h1, h2⟩
      · exact .inl ⟨i + 1, by simpa using h1, by rw [lAt_succ]; exact h2, by unfold fidx; rw [if_neg h, h4, if_neg (by omega)]; omega⟩
      · refine .inr ⟨fun i hi => ?_, by unfold fidx; rw [if_neg h, if_pos h2]⟩
        cases i with
        | zero => exact h
        | succ k => rw [lAt_succ]; exact h1 k (by simpa using hi)
/-- A right frame, by itself. -/
def rf (s : STO) (t : Int) (f : FRM) : Prop :=
  (0 ≤ f.1 ∧ f.1 ≤ 2) ∧
  ((f.2.1 = false ∧ f = fr f.1) ∨
   (f.2.1 = true ∧ hasP s f.2.2.2.1 f.2.2.2.2.1 ∧ sLen f.2.2.2.2.2.1 = 32 ∧ (1 ≤ f.2.2.2.2.2.2.1 ∧ f.2.2.2.2.2.2.1 ≤ t) ∧
    (f.2.2.1 = false → f.2.2.2.2.2.1 = pageAt s f.2.2.2.1 f.2.2.2.2.1)))
/-- No page is in two frames. -/
def uq (l : List FRM) : Prop := ∀ (n p : Int) (k j : Nat), k < l.length → j < l.length → isK (lAt l (k : Int)) n p → isK (lAt l (j : Int)) n p → k = j
/-- A memory that is right but for the sizes of its numbers. -/
structure RT (x : PAG) : Prop where
  sto : okS0 x.1
  few : fewS x.1
  n1 : 1 ≤ x.2.1.length
  n8 : x.2.1.length ≤ 8
  h5 : x.2.2.1.length = 5
  fs : ∀ i, i < x.2.1.length → rf x.1 x.2.2.2.1 (fAt x i)
  un : uq x.2.1
  tb : TBL x
def SML (x : PAG) : Prop := inN x.2.2.2.1 ∧ inN x.2.2.2.2.1 ∧ inN x.2.2.2.2.2
theorem RT_of {x : PAG} (h : RIGHT x) (hf : fewS x.1) : RT x ∧ SML x := by
  obtain ⟨h1, h2, h3, h4, h5, h6, h7, h8⟩ := h
  refine ⟨⟨h1, hf, h2.1, h2.2, h3, fun i hi => ?_, ?_, h8⟩, h4, h5, h6⟩
  · obtain ⟨a, b, c⟩ := h7 i hi
    refine ⟨⟨a, b⟩, ?_⟩
    rcases c with c | ⟨c1, c2, c3, c4, c5, c6, c7⟩
    · exact .inl c
    · exact .inr ⟨c1, c2, c3, ⟨c5, c6⟩, c7⟩
  · have key : ∀ (n p : Int) (k j : Nat), k < j → j < x.2.1.length → isK (fAt x k) n p → isK (fAt x j) n p → False := by
      intro n p k j hk hj a b
      obtain ⟨_, _, c⟩ := h7 j hj
      rcases c with ⟨c, _⟩ | ⟨c1, c2, c3, c4, _⟩
      · rw [b.1] at c; cases c
      · exact c4 k hk ⟨a.1, by rw [a.2.1, b.2.1], by rw [a.2.2, b.2.2]⟩
    intro n p k j hk hj a b
    rcases Nat.lt_trichotomy k j with h | h | h
    · exact (key n p k j h hj a b).elim
    · exact h
    · exact (key n p j k h hk b a).elim
theorem RT_to {x : PAG} (h : RT x) (hs : SML x) : RIGHT x := by
  obtain ⟨h4, h5, h6⟩ := hs
  refine ⟨h.sto, ⟨h.n1, h.n8⟩, h.h5, h4, h5, h6, fun i hi => ?_, h.tb⟩
  obtain ⟨⟨a, b⟩, c⟩ := h.fs i hi
  refine ⟨a, b, ?_⟩
  rcases c with c | ⟨c1, c2, c3, ⟨c5, c6⟩, c7⟩
  · exact .inl c
  · refine .inr ⟨c1, c2, c3, fun k hk ht => ?_, c5, c6, c7⟩
    have := h.un _ _ k i (by omega) hi ⟨ht.1, ht.2.1, ht.2.2⟩ ⟨c1, rfl, rfl⟩
    omega
/-- A byte of a segment as0 the memory has it. -/
def vb (x : PAG) (n : Int) (j : Nat) : Option Int := if fidx n ((j : Int) / 32) x.2.1 = -1 then sb x.1 n j else byt (lAt x.2.1 (fidx n ((j : Int) / 32) x.2.1)).2.2.2.2.2.1 (j % 32)
theorem fidx_y {x : PAG} (h : uq x.2.1) {n p : Int} {k : Nat} (hk : k < x.2.1.length) (hi : isK (fAt x k) n p) : fidx n p x.2.1 = (k : Int) := by
  rcases fidx_cases n p x.2.1 with ⟨i, h1, h2, e⟩ | ⟨h1, _⟩
  · rw [e, h n p i k h1 hk h2 hi]
  · exact absurd hi (h1 k hk)
theorem fidx_n {l : List FRM} {n p : Int} (h : ∀ k : Nat, k < l.length → ¬ isK (lAt l (k : Int)) n p) : fidx n p l = -1 := by
  rcases fidx_cases n p l with ⟨i, h1, h2, e⟩ | ⟨_, e⟩
  · exact absurd h2 (h i h1)
  · exact e
theorem vb_y {x : PAG} (h : uq x.2.1) {n : Int} {j k : Nat} (hk : k < x.2.1.length) (hi : isK (fAt x k) n ((j : Int) / 32)) : vb x n j = byt (fAt x k).2.2.2.2.2.1 (j % 32) := by
  unfold vb
  rw [fidx_y h hk hi, if_neg (by omega)]
theorem vb_n {x : PAG} {n : Int} {j : Nat} (h : ∀ k : Nat, k < x.2.1.length → ¬ isK (fAt x k) n ((j : Int) / 32)) : vb x n j = sb x.1 n j := by
  unfold vb
  rw [fidx_n h, if_pos rfl]
theorem byt_mod {s : STO} {n p : Int} {j : Nat} (hp : (j : Int) / 32 = p) : byt (pageAt s n p) (j % 32) = sb s n j := by
  obtain ⟨q, rfl⟩ : ∃ q : Nat, p = (q : Int) := ⟨j / 32, by omega⟩
  rw [byt_page, if_pos (by omega)]
  congr 1
  omega
end Go.Proofs.YtagcodkkkebnhaaGreat.K
end

section
set_option linter.unusedVariables false
set_option linter.unusedSimpArgs false
set_option linter.unnecessarySimpa false
open Go Go.Ev
namespace Go.Proofs.YtagcodkkkebnhaaGreat.K
theorem path_app {x : PAG} {l2 : List Int} {a : Int} : ∀ {l1 : List Int} {h : Int}, path x h (l1 ++ l2) a ↔ ∃ m, path x h l1 m ∧ path x m l2 a
  | [], h => ⟨fun p => ⟨h, rfl, p⟩, fun ⟨m, e, p⟩ => by cases e; exact p⟩
  | b :: r, h => by
    show (h = b ∧ b ≠ -1 ∧ path x (nxt x b) (r ++ l2) a) ↔ ∃ m, (h = b ∧ b ≠ -1 ∧ path x (nxt x b) r m) ∧ path x m l2 a
    rw [path_app]
    exact ⟨fun ⟨p, q, m, u, v⟩ => ⟨m, ⟨p, q, u⟩, v⟩, fun ⟨m, ⟨p, q, u⟩, v⟩ => ⟨p, q, m, u, v⟩⟩
theorem path_congr {x y : PAG} {a : Int} : ∀ {l : List Int} {h : Int}, (∀ b ∈ l, nxt y b = nxt x b) → path x h l a → path y h l a
  | [], _, _, p => p
  | b :: r, _, e, p => ⟨p.1, p.2.1, by rw [e b (by simp)]; exact path_congr (fun b hb => e b (by simp [hb])) p.2.2⟩
theorem gd_nat {x : PAG} {c a : Int} (h : gd x c a) : ∃ k : Nat, k < x.2.1.length ∧ a = (k : Int) ∧ (fAt x k).2.1 = true ∧ bk (fAt x k) = c := by
  obtain ⟨h1, h2, h3, h4⟩ := h
  obtain ⟨k, rfl⟩ := Int.eq_ofNat_of_zero_le h1
  exact ⟨k, by unfold lLen at h2; omega, rfl, h3, h4⟩
/-- What a chain sees of a frame. -/
abbrev fk (f : FRM) : Bool × Int × Int := (f.2.1, f.2.2.2.1, f.2.2.2.2.1)
theorem fk_bk {f g : FRM} (h : fk f = fk g) : bk f = bk g := by
  obtain ⟨_, _, _, a, b, _⟩ := f
  obtain ⟨_, _, _, a', b', _⟩ := g
  simp only [fk, Prod.mk.injEq] at h
  obtain ⟨_, rfl, rfl⟩ := h
  rfl
theorem fk_u {f g : FRM} (h : fk f = fk g) : f.2.1 = g.2.1 := congrArg (fun q => q.1) h
theorem fk_isK {f g : FRM} (h : fk f = fk g) (n p : Int) : isK f n p = isK g n p := by
  have h1 := congrArg (fun q => q.1) h
  have h2 := congrArg (fun q => q.2.1) h
  have h3 := congrArg (fun q => q.2.2) h
  simp only [fk] at h1 h2 h3
  unfold isK
  rw [h1, h2, h3]
theorem gd_congr {x y : PAG} {c : Int} {k : Nat} (hn : y.2.1.length = x.2.1.length) (h : fk (fAt y k) = fk (fAt x k)) : gd x c (k : Int) → gd y c (k : Int) := by
  intro ⟨h1, h2, h3, h4⟩
  refine ⟨h1, by unfold lLen at *; omega, ?_, ?_⟩
  · exact (fk_u h).trans h3
  · exact (fk_bk h).trans h4
theorem TBL_same {x y : PAG} (ht : TBL x) (hn : y.2.1.length = x.2.1.length) (hh : y.2.2.1 = x.2.2.1) (hk : ∀ k : Nat, k < x.2.1.length → fk (fAt y k) = fk (fAt x k) ∧ nxt y (k : Int) = nxt x (k : Int)) : TBL y := by
  have h1 : ∀ (c : Int) (l : List Int), CH x c l → CH y c l := by
    intro c l ⟨p, nd, g⟩
    refine ⟨?_, nd, ?_⟩
    · rw [hh]
      refine path_congr (fun b hb => ?_) p
      obtain ⟨k, k1, rfl, _⟩ := gd_nat (g b hb)
      exact (hk k k1).2
    · intro b hb
      obtain ⟨k, k1, rfl, _⟩ := gd_nat (g b hb)
      exact gd_congr hn (hk k k1).1 (g _ hb)
  refine ⟨fun c hc => ?_, fun k hk' => ?_⟩
  · obtain ⟨l, hl⟩ := ht.1 c hc
    exact ⟨l, h1 _ _ hl⟩
  · rw [hn] at hk'
    rw [fk_u (hk k hk').1, ht.2 k hk']
    constructor
    · rintro ⟨c, hc, l, hl, hm⟩
      exact ⟨c, hc, l, h1 _ _ hl, hm⟩
    · rintro ⟨c, hc, l, hl, hm⟩
      obtain ⟨l', hl'⟩ := ht.1 c hc
      rw [CH_uniq hl (h1 _ _ hl')] at hm
      exact ⟨c, hc, l', hl', hm⟩
/-- A frame is taken out of its chain. -/
theorem TBL_evict {x y : PAG} {c : Nat} {l1 l2 : List Int} {i : Nat} (ht : TBL x) (hc : c < 5) (hl : CH x c (l1 ++ (i : Int) :: l2)) (hn : y.2.1.length = x.2.1.length) (hfr : ∀ k, k < x.2.1.length → k ≠ i → fk (fAt y k) = fk (fAt x k)) (hui : (fAt y i).2.1 = false) (hh : ∀ d : Nat, d < 5 → d ≠ c → lAt y.2.2.1 (d : Int) = lAt x.2.2.1 (d : Int)) (hp : path y (lAt y.2.2.1 (c : Int)) (l1 ++ l2) (-1)) (hnx : ∀ k : Nat, k < x.2.1.length → bk (fAt x k) ≠ (c : Int) → nxt y (k : Int) = nxt x (k : Int)) : TBL y := by
  have hnd := hl.2.1
  have hnot : ¬ (i : Int) ∈ l1 ++ l2 := by
    rw [List.nodup_append] at hnd
    rw [List.mem_append]
    rintro (h | h)
    · exact hnd.2.2 _ h _ (by simp) rfl
    · exact (List.nodup_cons.1 hnd.2.1).1 h
  have hcc : CH y c (l1 ++ l2) := by
    refine ⟨hp, ?_, fun b hb => ?_⟩
    · exact hnd.sublist (List.Sublist.append (List.Sublist.refl _) (List.sublist_cons_self _ _))
    · have hg : gd x c b := hl.2.2 b (by rw [List.mem_append] at hb ⊢; rcases hb with hb | hb; exact .inl hb; exact .inr (by simp [hb]))
      obtain ⟨k, k1, rfl, _⟩ := gd_nat hg
      exact gd_congr hn (hfr k k1 (fun e => hnot (by rw [← e]; exact hb))) hg
  have hbi : bk (fAt x i) = (c : Int) := (hl.2.2 (i : Int) (by simp)).2.2.2
  have h1 : ∀ (d : Nat) (l : List Int), d < 5 → d ≠ c → CH x (d : Int) l → CH y (d : Int) l := by
    intro d l hd hdc ⟨p, nd, g⟩
    refine ⟨?_, nd, ?_⟩
    · rw [hh d hd hdc]
      refine path_congr (fun b hb => ?_) p
      obtain ⟨k, k1, rfl, _, k3⟩ := gd_nat (g b hb)
      exact hnx k k1 (by rw [k3]; omega)
    · intro b hb
      obtain ⟨k, k1, rfl, _, k3⟩ := gd_nat (g b hb)
      exact gd_congr hn (hfr k k1 (fun e => by subst e; rw [k3] at hbi; omega)) (g _ hb)
  refine ⟨fun d hd => ?_, fun k hk' => ?_⟩
  · by_cases e : d = c
    · subst e; exact ⟨_, hcc⟩
    · obtain ⟨l, hl⟩ := ht.1 d hd
      exact ⟨l, h1 d l hd e hl⟩
  · rw [hn] at hk'
    constructor
    · intro hu
      have hki : k ≠ i := fun e => by subst e; rw [hui] at hu; cases hu
      rw [fk_u (hfr k hk' hki), ht.2 k hk'] at hu
      obtain ⟨d, hd, l, hl', hm⟩ := hu
      by_cases e : d = c
      · subst e
        rw [CH_uniq hl' hl] at hm
        refine ⟨d, hd, _, hcc, ?_⟩
        rw [List.mem_append] at hm ⊢
        rcases hm with hm | hm
        · exact .inl hm
        · rcases List.mem_cons.1 hm with hm | hm
          · exact absurd hm (by omega)
          · exact .inr hm
      · exact ⟨d, hd, l, h1 d l hd e hl', hm⟩
    · rintro ⟨d, hd, l, hl', hm⟩
      exact (hl'.2.2 _ hm).2.2.1
/-- A frame is set before a chain. -/
theorem TBL_load {x y : PAG} {c : Nat} {i : Nat} (ht : TBL x) (hc : c < 5) (hi : i < x.2.1.length) (hx : (fAt x i).2.1 = false) (hn : y.2.1.length = x.2.1.length) (hfr : ∀ k, k < x.2.1.length → k ≠ i → fk (fAt y k) = fk (fAt x k) ∧ nxt y (k : Int) = nxt x (k : Int)) (hui : (fAt y i).2.1 = true) (hbi : bk (fAt y i) = (c : Int)) (hni : nxt y (i : Int) = lAt x.2.2.1 (c : Int)) (hhc : lAt y.2.2.1 (c : Int) = (i : Int)) (hh : ∀ d : Nat, d < 5 → d ≠ c → lAt y.2.2.1 (d : Int) = lAt x.2.2.1 (d : Int)) : TBL y := by
  have hne : ∀ (d : Int) (l : List Int), CH x d l → ¬ (i : Int) ∈ l := by
    intro d l hl hm
    have := (hl.2.2 _ hm).2.2.1
    rw [hx] at this
    cases this
  have h0 : ∀ (d : Int) (l : List Int), CH x d l → path y (lAt x.2.2.1 d) l (-1) ∧ l.Nodup ∧ ∀ b ∈ l, gd y d b := by
    intro d l hl
    refine ⟨path_congr (fun b hb => ?_) hl.1, hl.2.1, fun b hb => ?_⟩
    · obtain ⟨k, k1, rfl, _, k3⟩ := gd_nat (hl.2.2 b hb)
      exact (hfr k k1 (fun e => hne d l hl (by rw [← e]; exact hb))).2
    · obtain ⟨k, k1, rfl, _, k3⟩ := gd_nat (hl.2.2 b hb)
      exact gd_congr hn (hfr k k1 (fun e => hne d l hl (by rw [← e]; exact hb))).1 (hl.2.2 _ hb)
  have h1 : ∀ (d : Nat) (l : List Int), d < 5 → d ≠ c → CH x (d : Int) l → CH y (d : Int) l := by
    intro d l hd hdc hl
    obtain ⟨a, b, e⟩ := h0 d l hl
    exact ⟨by rw [hh d hd hdc]; exact a, b, e⟩
  have hcc : ∀ l : List Int, CH x (c : Int) l → CH y (c : Int) ((i : Int) :: l) := by
    intro l hl
    obtain ⟨a, b, e⟩ := h0 c l hl
    refine ⟨⟨hhc, by omega, by rw [hni]; exact a⟩, List.nodup_cons.2 ⟨hne _ _ hl, b⟩, fun b hb => ?_⟩
    rcases List.mem_cons.1 hb with rfl | hb
    · exact ⟨by omega, by unfold lLen; omega, hui, hbi⟩
    · exact e b hb
  refine ⟨fun d hd => ?_, fun k hk' => ?_⟩
  · obtain ⟨l, hl⟩ := ht.1 d hd
    by_cases e : d = c
    · subst e; exact ⟨_, hcc l hl⟩
    · exact ⟨l, h1 d l hd e hl⟩
  · rw [hn] at hk'
    constructor
    · intro hu
      by_cases hki : k = i
      · subst hki
        obtain ⟨l, hl⟩ := ht.1 c hc
        exact ⟨c, hc, _, hcc l hl, by simp⟩
      · rw [fk_u (hfr k hk' hki).1, ht.2 k hk'] at hu
        obtain ⟨d, hd, l, hl', hm⟩ := hu
        by_cases e : d = c
        · subst e
          exact ⟨d, hd, _, hcc l hl', by simp [hm]⟩
        · exact ⟨d, hd, l, h1 d l hd e hl', hm⟩
    · rintro ⟨d, hd, l, hl', hm⟩
      exact (hl'.2.2 _ hm).2.2.1
end Go.Proofs.YtagcodkkkebnhaaGreat.K
end

section
set_option linter.unusedVariables false
set_option linter.unusedSimpArgs false
set_option linter.unnecessarySimpa false
open Go Go.Ev
namespace Go.Proofs.YtagcodkkkebnhaaGreat.K
/-- A frame but for the one behind it in its chain. -/
abbrev fN (f : FRM) : Int × Bool × Bool × Int × Int × ByteArray × Int := (f.1, f.2.1, f.2.2.1, f.2.2.2.1, f.2.2.2.2.1, f.2.2.2.2.2.1, f.2.2.2.2.2.2.1)
theorem fN_fk {f g : FRM} (h : fN f = fN g) : fk f = fk g := by
  simp only [fN, Prod.mk.injEq] at h
  simp only [fk, Prod.mk.injEq]
  exact ⟨h.2.1, h.2.2.2.1, h.2.2.2.2.1⟩
/-- A memory in which a frame changes. -/
structure UP (x y : PAG) (i : Nat) : Prop where
  sh : shp y.1 = shp x.1
  ln : y.2.1.length = x.2.1.length
  tm : x.2.2.2.1 ≤ y.2.2.2.1
  fs : ∀ k, k < x.2.1.length → k ≠ i → fN (fAt y k) = fN (fAt x k) ∧ ((fAt x k).2.1 = false → fAt y k = fAt x k)
theorem rf_next {s : STO} {t : Int} {f g : FRM} (h : fN f = fN g) (hu : g.2.1 = false → f = g) (hg : rf s t g) : rf s t f := by
  cases hb : g.2.1 with
  | false => rw [hu hb]; exact hg
  | true =>
    obtain ⟨a, b, c, d, e, w, l, n⟩ := f
    obtain ⟨a', b', c', d', e', w', l', n'⟩ := g
    simp only [fN, Prod.mk.injEq] at h
    obtain ⟨rfl, rfl, rfl, rfl, rfl, rfl, rfl⟩ := h
    obtain ⟨h1, h2⟩ := hg
    refine ⟨h1, ?_⟩
    rcases h2 with ⟨h2, _⟩ | h2
    · rw [hb] at h2; cases h2
    · exact .inr h2
theorem rf_mono {s s' : STO} {t t' : Int} {f : FRM} (ht : t ≤ t') (hs : shp s' = shp s) (hp : f.2.1 = true → f.2.2.1 = false → pageAt s' f.2.2.2.1 f.2.2.2.2.1 = pageAt s f.2.2.2.1 f.2.2.2.2.1) (h : rf s t f) : rf s' t' f := by
  obtain ⟨h1, h2⟩ := h
  refine ⟨h1, ?_⟩
  rcases h2 with h2 | ⟨c1, c2, c3, ⟨c5, c6⟩, c7⟩
  · exact .inl h2
  · refine .inr ⟨c1, by rw [shp_hasP hs]; exact c2, c3, ⟨c5, by omega⟩, fun h => ?_⟩
    rw [hp c1 h]
    exact c7 h
theorem UP.isK {x y : PAG} {i : Nat} (h : UP x y i) {k : Nat} (hk : k < x.2.1.length) (hi : k ≠ i) (n p : Int) : isK (fAt y k) n p = isK (fAt x k) n p := fk_isK (fN_fk (h.fs k hk hi).1) n p
theorem RT_up {x y : PAG} {i : Nat} (hx : RT x) (u : UP x y i) (h5 : y.2.2.1.length = 5) (hpg : ∀ k, k < x.2.1.length → k ≠ i → (fAt x k).2.1 = true → (fAt x k).2.2.1 = false → pageAt y.1 (fAt x k).2.2.2.1 (fAt x k).2.2.2.2.1 = pageAt x.1 (fAt x k).2.2.2.1 (fAt x k).2.2.2.2.1) (hg : rf y.1 y.2.2.2.1 (fAt y i)) (hu : ∀ n p, K.isK (fAt y i) n p → ∀ k, k < x.2.1.length → k ≠ i → ¬ K.isK (fAt x k) n p) (tb : TBL y) : RT y := by
  refine ⟨shp_ok u.sh.symm hx.sto, shp_few u.sh.symm hx.few, by rw [u.ln]; exact hx.n1, by rw [u.ln]; exact hx.n8, h5, fun k hk => ?_, ?_, tb⟩
  · by_cases hki : k = i
    · subst hki; exact hg
    · rw [u.ln] at hk
      exact rf_next (u.fs k hk hki).1 (u.fs k hk hki).2 (rf_mono u.tm u.sh (hpg k hk hki) (hx.fs k hk))
  · intro n p k j hk hj a b
    rw [u.ln] at hk hj
    by_cases hki : k = i
    · by_cases hji : j = i
      · rw [hki, hji]
      · subst hki
        have hb := u.isK hj hji n p
        unfold fAt at hb
        rw [hb] at b
        exact absurd b (hu n p a j hj hji)
    · have ha := u.isK hk hki n p
      unfold fAt at ha
      rw [ha] at a
      by_cases hji : j = i
      · subst hji
        exact absurd a (hu n p b k hk hki)
      · have hb := u.isK hj hji n p
        unfold fAt at hb
        rw [hb] at b
        exact hx.un n p k j hk hj a b
/-- The same bytes. -/
def VW (x y : PAG) : Prop := ∀ (n : Int) (j : Nat), 0 ≤ place x.1.1 n → vb y n j = vb x n j
theorem VW_up {x y : PAG} {i : Nat} (hx : RT x) (hy : RT y) (u : UP x y i) (hi : i < x.2.1.length)
    (h1 : ∀ n (j : Nat), 0 ≤ place x.1.1 n → isK (fAt x i) n ((j : Int) / 32) → isK (fAt y i) n ((j : Int) / 32) → byt (fAt y i).2.2.2.2.2.1 (j % 32) = byt (fAt x i).2.2.2.2.2.1 (j % 32))
    (h2 : ∀ n (j : Nat), 0 ≤ place x.1.1 n → isK (fAt x i) n ((j : Int) / 32) → ¬ isK (fAt y i) n ((j : Int) / 32) → sb y.1 n j = byt (fAt x i).2.2.2.2.2.1 (j % 32))
    (h3 : ∀ n (j : Nat), 0 ≤ place x.1.1 n → ¬ isK (fAt x i) n ((j : Int) / 32) → isK (fAt y i) n ((j : Int) / 32) → byt (fAt y i).2.2.2.2.2.1 (j % 32) = sb x.1 n j)
    (h4 : ∀ n (j : Nat), 0 ≤ place x.1.1 n → ¬ isK (fAt x i) n ((j : Int) / 32) → ¬ isK (fAt y i) n ((j : Int) / 32) → sb y.1 n j = sb x.1 n j) : VW x y := by
  intro n j hp
  by_cases hk : ∃ k, k < x.2.1.length ∧ k ≠ i ∧ isK (fAt x k) n ((j : Int) / 32)
  · obtain ⟨k, k1, k2, k3⟩ := hk
    rw [vb_y hx.un k1 k3, vb_y hy.un (by rw [u.ln]; exact k1) (by rw [u.isK k1 k2]; exact k3)]
    have := (u.fs k k1 k2).1
    simp only [fN, Prod.mk.injEq] at this
    rw [this.2.2.2.2.2.1]
  · have hn : ∀ k, k < x.2.1.length → k ≠ i → ¬ isK (fAt x k) n ((j : Int) / 32) := fun k a b c => hk ⟨k, a, b, c⟩
    have hx' : ¬ isK (fAt x i) n ((j : Int) / 32) → vb x n j = sb x.1 n j := fun h => vb_n fun k a => by
      by_cases e : k = i
      · subst e; exact h
      · exact hn k a e
    have hy' : ¬ isK (fAt y i) n ((j : Int) / 32) → vb y n j = sb y.1 n j := fun h => vb_n fun k a => by
      by_cases e : k = i
      · subst e; exact h
      · rw [u.ln] at a; rw [u.isK a e]; exact hn k a e
    by_cases a : isK (fAt x i) n ((j : Int) / 32) <;> by_cases b : isK (fAt y i) n ((j : Int) / 32)
    · rw [vb_y hx.un hi a, vb_y hy.un (by rw [u.ln]; exact hi) b]; exact h1 n j hp a b
    · rw [vb_y hx.un hi a, hy' b]; exact h2 n j hp a b
    · rw [hx' a, vb_y hy.un (by rw [u.ln]; exact hi) b]; exact h3 n j hp a b
    · rw [hx' a, hy' b]; exact h4 n j hp a b
theorem VW.trans {x y z : PAG} (h : VW x y) (h' : VW y z) (hs : shp y.1 = shp x.1) : VW x z := fun n j hp => by
  rw [h' n j (by rw [shp_place hs]; exact hp), h n j hp]
/-- The page of a frame is written. -/
def sav (x : PAG) (i : Int) : PAG := (putS x.1 (lAt x.2.1 i).2.2.2.1 ((lAt x.2.1 i).2.2.2.2.1 * 32) (lAt x.2.1 i).2.2.2.2.2.1, (lSet x.2.1 i ((lAt x.2.1 i).1, ((lAt x.2.1 i).2.1, (false, (lAt x.2.1 i).2.2.2))), (x.2.2.1, (x.2.2.2.1, (x.2.2.2.2.1, x.2.2.2.2.2 + 1)))))
theorem rf_used {s : STO} {t : Int} {f : FRM} (h : rf s t f) (hu : f.2.1 = true) : hasP s f.2.2.2.1 f.2.2.2.2.1 ∧ sLen f.2.2.2.2.2.1 = 32 ∧ (1 ≤ f.2.2.2.2.2.2.1 ∧ f.2.2.2.2.2.2.1 ≤ t) ∧ (f.2.2.1 = false → f.2.2.2.2.2.1 = pageAt s f.2.2.2.1 f.2.2.2.2.1) := by
  rcases h.2 with ⟨h, _⟩ | h
  · rw [hu] at h; cases h
  · exact h.2
theorem sav_shp {x : PAG} {i : Nat} (hx : RT x) (hi : i < x.2.1.length) (hu : (fAt x i).2.1 = true) : shp (sav x i).1 = shp x.1 := by
  obtain ⟨h1, h2, _⟩ := rf_used (hx.fs i hi) hu
  obtain ⟨q, e⟩ := Int.eq_ofNat_of_zero_le h1.2.1
  have := hasP_end h1
  show shp (putS x.1 (fAt x i).2.2.2.1 ((fAt x i).2.2.2.2.1 * 32) (fAt x i).2.2.2.2.2.1) = _
  rw [e, show (q : Int) * 32 = ((q * 32 : Nat) : Int) by omega]
  exact putS_shp h1.1 (by rw [h2]; omega)
theorem sav_sb {x : PAG} {i : Nat} (hx : RT x) (hi : i < x.2.1.length) (hu : (fAt x i).2.1 = true) {n : Int} (hp : 0 ≤ place x.1.1 n) (j : Nat) : sb (sav x i).1 n j = if isK (fAt x i) n ((j : Int) / 32) then byt (fAt x i).2.2.2.2.2.1 (j % 32) else sb x.1 n j := by
  obtain ⟨h1, h2, _⟩ := rf_used (hx.fs i hi) hu
  obtain ⟨q, e⟩ := Int.eq_ofNat_of_zero_le h1.2.1
  have := hasP_end h1
  show sb (putS x.1 (fAt x i).2.2.2.1 ((fAt x i).2.2.2.2.1 * 32) (fAt x i).2.2.2.2.2.1) n j = _
  rw [e, show (q : Int) * 32 = ((q * 32 : Nat) : Int) by omega, putS_sb h1.1 (by rw [h2]; omega) hp]
  rw [h2]
  by_cases hc : isK (fAt x i) n ((j : Int) / 32)
  · have hc' := hc
    obtain ⟨_, a, b⟩ := hc
    rw [e] at b
    rw [if_pos hc', if_pos ⟨a.symm, by omega, by omega⟩]
    congr 1
    omega
  · rw [if_neg hc, if_neg]
    rintro ⟨a, b, c⟩
    exact hc ⟨hu, a.symm, by rw [e]; omega⟩
theorem sav_up {x : PAG} {i : Nat} (hx : RT x) (hi : i < x.2.1.length) (hu : (fAt x i).2.1 = true) : UP x (sav x i) i := by
  refine ⟨sav_shp hx hi hu, by show (lSet _ _ _).length = _; unfold lSet; simp, Int.le_refl _, fun k hk hki => ?_⟩
  have : fAt (sav x i) k = fAt x k := by
    show lAt (lSet x.2.1 (i : Int) _) (k : Int) = _
    rw [set_at _ _ _ _ hi, if_neg hki]
  rw [this]
  exact ⟨rfl, fun _ => rfl⟩
theorem sav_at {x : PAG} {i : Nat} (hi : i < x.2.1.length) : fAt (sav x i) i = ((fAt x i).1, ((fAt x i).2.1, (false, (fAt x i).2.2.2))) := by
  show lAt (lSet x.2.1 (i : Int) _) (i : Int) = _
  rw [set_at _ _ _ _ hi, if_pos rfl]
theorem sav_RT {x : PAG} {i : Nat} (hx : RT x) (hi : i < x.2.1.length) (hu : (fAt x i).2.1 = true) : RT (sav x i) ∧ VW x (sav x i) := by
  have u := sav_up hx hi hu
  have ea := sav_at (x := x) hi
  have hsb := fun {n} (hp) (j) => sav_sb hx hi hu (n := n) hp j
  obtain ⟨h1, h2, h3, _⟩ := rf_used (hx.fs i hi) hu
  have hk : ∀ n p, isK (fAt (sav x i) i) n p = isK (fAt x i) n p := by intro n p; rw [ea]; rfl
  have hR : RT (sav x i) := by
    refine RT_up hx u hx.h5 ?_ ?_ ?_ ?_
    · intro k k1 k2 k3 k4
      obtain ⟨g1, _⟩ := rf_used (hx.fs k k1) k3
      refine page_sb g1.2.1 fun j hj => ?_
      rw [hsb g1.1, if_neg]
      intro hc
      exact k2 (hx.un _ _ k i k1 hi ⟨k3, rfl, hj.symm⟩ hc)
    · rw [ea]
      refine ⟨(hx.fs i hi).1, .inr ⟨hu, ?_, h2, h3, fun _ => ?_⟩⟩
      · rw [shp_hasP u.sh]; exact h1
      · show (fAt x i).2.2.2.2.2.1 = pageAt (sav x i).1 (fAt x i).2.2.2.1 (fAt x i).2.2.2.2.1
        obtain ⟨q, e⟩ := Int.eq_ofNat_of_zero_le h1.2.1
        refine byt_ext fun j => ?_
        rw [e, byt_page]
        split
        · rw [hsb h1.1, if_pos ⟨hu, rfl, by omega⟩]
          congr 1
          omega
        · exact byt_none (by omega)
    · intro n p h k k1 k2 k3
      rw [hk] at h
      exact k2 (hx.un n p k i k1 hi k3 h)
    · refine TBL_same hx.tb u.ln rfl fun k hk => ?_
      by_cases e : k = i
      · subst e
        refine ⟨by rw [ea], ?_⟩
        show (fAt (sav x k) k).2.2.2.2.2.2.2 = (fAt x k).2.2.2.2.2.2.2
        rw [ea]
      · have : fAt (sav x i) k = fAt x k := by
          show lAt (lSet x.2.1 (i : Int) _) (k : Int) = _
          rw [set_at _ _ _ _ hi, if_neg e]
        refine ⟨by rw [this], ?_⟩
        show (fAt (sav x i) k).2.2.2.2.2.2.2 = (fAt x k).2.2.2.2.2.2.2
        rw [this]
  refine ⟨hR, VW_up hx hR u hi ?_ ?_ ?_ ?_⟩
  · intro n j _ _ _; rw [ea]
  · intro n j hp a b; rw [hk] at b; exact absurd a b
  · intro n j hp a b; rw [hk] at b; exact absurd b a
  · intro n j hp a b; rw [hsb hp, if_neg a]
end Go.Proofs.YtagcodkkkebnhaaGreat.K
end

section
set_option linter.unusedVariables false
set_option linter.unusedSimpArgs false
set_option linter.unnecessarySimpa false
open Go Go.Ev
namespace Go.Proofs.YtagcodkkkebnhaaGreat.K
open Classical in
/-- The frames of a chain. -/
noncomputable def chn (x : PAG) (c : Int) : List Int := if h : ∃ l, CH x c l then Classical.choose h else []
theorem chn_eq {x : PAG} {c : Int} {l : List Int} (h : CH x c l) : chn x c = l := by
  have h' : ∃ l, CH x c l := ⟨l, h⟩
  unfold chn
  rw [dif_pos h']
  exact CH_uniq (Classical.choose_spec h') h
def setN (f : FRM) (n : Int) : FRM := (f.1, (f.2.1, (f.2.2.1, (f.2.2.2.1, (f.2.2.2.2.1, (f.2.2.2.2.2.1, (f.2.2.2.2.2.2.1, n)))))))
/-- A frame is taken out of its chain. -/
noncomputable def cutF (x : PAG) (i : Int) : PAG :=
  match ((chn x (bk (lAt x.2.1 i))).takeWhile fun b => decide (b ≠ i)).getLast? with
  | none => (x.1, (x.2.1, (lSet x.2.2.1 (bk (lAt x.2.1 i)) (nxt x i), x.2.2.2)))
  | some b => (x.1, (lSet x.2.1 b (setN (lAt x.2.1 b) (nxt x i)), x.2.2))
def fre (x : PAG) (i : Int) : PAG := (x.1, (lSet x.2.1 i (fr (lAt x.2.1 i).1), x.2.2))
theorem take_to {i : Int} {l2 : List Int} : ∀ {l1 : List Int}, ¬ i ∈ l1 → (l1 ++ i :: l2).takeWhile (fun b => decide (b ≠ i)) = l1
  | [], _ => by simp
  | a :: r, h => by
    have h1 : a ≠ i := fun e => h (by simp [e])
    have h2 : ¬ i ∈ r := fun e => h (by simp [e])
    rw [List.cons_append, List.takeWhile_cons_of_pos (by simpa using h1), take_to h2]
theorem used_ch {x : PAG} (hx : RT x) {i : Nat} (hi : i < x.2.1.length) (hu : (fAt x i).2.1 = true) : ∃ c : Nat, c < 5 ∧ bk (fAt x i) = (c : Int) ∧ ∃ l1 l2, CH x (c : Int) (l1 ++ (i : Int) :: l2) ∧ ¬ (i : Int) ∈ l1 := by
  obtain ⟨c, hc, l, hl, hm⟩ := (hx.tb.2 i hi).1 hu
  obtain ⟨l1, l2, rfl⟩ := List.append_of_mem hm
  refine ⟨c, hc, (hl.2.2 _ hm).2.2.2, l1, l2, hl, fun h => ?_⟩
  have := hl.2.1
  rw [List.nodup_append] at this
  exact this.2.2 _ h _ (by simp) rfl
theorem cutF_cases {x : PAG} (hx : RT x) {i : Nat} (hi : i < x.2.1.length) (hu : (fAt x i).2.1 = true) : ∃ c : Nat, c < 5 ∧ bk (fAt x i) = (c : Int) ∧ ∃ l1 l2, CH x (c : Int) (l1 ++ (i : Int) :: l2) ∧
    ((l1 = [] ∧ cutF x i = (x.1, (x.2.1, (lSet x.2.2.1 (c : Int) (nxt x i), x.2.2.2)))) ∨
     ∃ (l0 : List Int) (b : Nat), l1 = l0 ++ [(b : Int)] ∧ b < x.2.1.length ∧ b ≠ i ∧ (fAt x b).2.1 = true ∧ bk (fAt x b) = (c : Int) ∧ nxt x b = (i : Int) ∧ cutF x i = (x.1, (lSet x.2.1 (b : Int) (setN (fAt x b) (nxt x i)), x.2.2))) := by
  obtain ⟨c, hc, hb, l1, l2, hl, hn⟩ := used_ch hx hi hu
  refine ⟨c, hc, hb, l1, l2, hl, ?_⟩
  have e : (chn x (bk (lAt x.2.1 (i : Int)))).takeWhile (fun b => decide (b ≠ (i : Int))) = l1 := by
    have : bk (lAt x.2.1 (i : Int)) = (c : Int) := hb
    rw [this, chn_eq hl, take_to hn]
  unfold cutF
  rw [e]
  rcases List.eq_nil_or_concat l1 with rfl | ⟨l0, b, rfl⟩
  · refine .inl ⟨rfl, ?_⟩
    have : bk (lAt x.2.1 (i : Int)) = (c : Int) := hb
    rw [this]
    rfl
  · have hg := hl.2.2 b (by simp)
    obtain ⟨k, k1, rfl, k2, k3⟩ := gd_nat hg
    refine .inr ⟨l0, k, by simp, k1, fun h => hn (by rw [h]; simp), k2, k3, ?_, ?_⟩
    · have hp := hl.1
      rw [List.concat_eq_append, List.append_assoc, path_app] at hp
      obtain ⟨m, _, p⟩ := hp
      exact p.2.2.1
    · rw [List.concat_eq_append, List.getLast?_append]
      rfl
/-- A page that is on disk leaves the memory. -/
theorem ev_RT {x : PAG} {i : Nat} (hx : RT x) (hi : i < x.2.1.length) (hu : (fAt x i).2.1 = true) (hc0 : (fAt x i).2.2.1 = false) : UP x (fre (cutF x i) i) i ∧ fAt (fre (cutF x i) i) i = fr (fAt x i).1 ∧ RT (fre (cutF x i) i) ∧ VW x (fre (cutF x i) i) ∧ (fre (cutF x i) i).1 = x.1 ∧ (fre (cutF x i) i).2.2.2 = x.2.2.2 := by
  obtain ⟨c, hc, hb, l1, l2, hl, hcs⟩ := cutF_cases hx hi hu
  have hnd := hl.2.1
  obtain ⟨f1, f2, f3, f4⟩ := rf_used (hx.fs i hi) hu
  have main : ∀ y : PAG, y.1 = x.1 → y.2.2.2 = x.2.2.2 → y.2.2.1.length = 5 → UP x y i → fAt y i = fr (fAt x i).1 → TBL y → RT y ∧ VW x y := by
    intro y e1 e2 e3 u ei tb
    have hR : RT y := by
      refine RT_up hx u e3 (fun k _ _ _ _ => by rw [e1]) ?_ ?_ tb
      · rw [ei]; exact ⟨(hx.fs i hi).1, .inl ⟨rfl, rfl⟩⟩
      · intro n p h; rw [ei] at h; cases h.1
    refine ⟨hR, VW_up hx hR u hi ?_ ?_ ?_ ?_⟩
    · intro n j _ _ h; rw [ei] at h; cases h.1
    · intro n j _ h _
      rw [e1, f4 hc0, h.2.1, h.2.2]
      exact (byt_mod rfl).symm
    · intro n j _ _ h; rw [ei] at h; cases h.1
    · intro n j _ _ _; rw [e1]
  rcases hcs with ⟨rfl, e⟩ | ⟨l0, b, rfl, b1, b2, b3, b4, b5, e⟩
  · have ek : ∀ k : Nat, fAt (fre (cutF x i) i) k = if k = i then fr (fAt x i).1 else fAt x k := by
      intro k
      rw [e]
      exact set_at _ _ _ _ hi
    have u : UP x (fre (cutF x i) i) i := by
      refine ⟨by rw [e]; rfl, by rw [e]; show (lSet _ _ _).length = _; unfold lSet; simp, by rw [e]; exact Int.le_refl _, fun k k1 k2 => ?_⟩
      rw [ek, if_neg k2]
      exact ⟨rfl, fun _ => rfl⟩
    have eh : ∀ d : Nat, lAt (fre (cutF x i) i).2.2.1 (d : Int) = if d = c then nxt x i else lAt x.2.2.1 (d : Int) := by
      intro d
      rw [e]
      exact set_at _ _ _ _ (by have := hx.h5; omega)
    have en : ∀ k : Nat, k ≠ i → nxt (fre (cutF x i) i) (k : Int) = nxt x (k : Int) := by
      intro k hk
      show (fAt (fre (cutF x i) i) k).2.2.2.2.2.2.2 = _
      rw [ek, if_neg hk]
      rfl
    refine ⟨u, by rw [ek, if_pos rfl], ?_⟩
    suffices h : (fre (cutF x i) i).2.2.1.length = 5 ∧ TBL (fre (cutF x i) i) by
      obtain ⟨r1, r2⟩ := main _ (by rw [e]; rfl) (by rw [e]; rfl) h.1 u (by rw [ek, if_pos rfl]) h.2
      exact ⟨r1, r2, by rw [e]; rfl, by rw [e]; rfl⟩
    constructor
    · rw [e]; show (lSet _ _ _).length = 5; unfold lSet; simp; exact hx.h5
    · refine TBL_evict hx.tb hc hl u.ln (fun k k1 k2 => fN_fk (u.fs k k1 k2).1) (by rw [ek, if_pos rfl]; rfl) (fun d _ hd => by rw [eh, if_neg hd]) ?_ ?_
      · rw [eh, if_pos rfl]
        refine path_congr (fun d hd => ?_) hl.1.2.2
        obtain ⟨k, k1, rfl, _⟩ := gd_nat (hl.2.2 d (by simp at hd; simp [hd]))
        refine en k fun h => ?_
        subst h
        simp at hnd hd
        exact hnd.1 hd
      · intro k k1 k2
        exact en k fun h => by subst h; exact k2 hb
  · have ek : ∀ k : Nat, fAt (fre (cutF x i) i) k = if k = i then fr (fAt x i).1 else if k = b then setN (fAt x b) (nxt x i) else fAt x k := by
      intro k
      have hl : i < (lSet x.2.1 (b : Int) (setN (fAt x b) (nxt x i))).length := by unfold lSet; simp; exact hi
      have e2 : lAt (lSet x.2.1 (b : Int) (setN (fAt x b) (nxt x i))) (i : Int) = fAt x i := by
        rw [set_at _ _ _ _ b1, if_neg (Ne.symm b2)]
      rw [e]
      refine (set_at _ _ _ _ hl).trans ?_
      dsimp only
      rw [e2, set_at _ _ _ _ b1]
    have u : UP x (fre (cutF x i) i) i := by
      refine ⟨by rw [e]; rfl, by rw [e]; show (lSet (lSet _ _ _) _ _).length = _; unfold lSet; simp, by rw [e]; exact Int.le_refl _, fun k k1 k2 => ?_⟩
      rw [ek, if_neg k2]
      split
      · rename_i h
        subst h
        exact ⟨rfl, fun h => by rw [b3] at h; cases h⟩
      · exact ⟨rfl, fun _ => rfl⟩
    have eh : (fre (cutF x i) i).2.2.1 = x.2.2.1 := by rw [e]; rfl
    have en : ∀ k : Nat, k ≠ i → k ≠ b → nxt (fre (cutF x i) i) (k : Int) = nxt x (k : Int) := by
      intro k hk hk'
      show (fAt (fre (cutF x i) i) k).2.2.2.2.2.2.2 = _
      rw [ek, if_neg hk, if_neg hk']
      rfl
    refine ⟨u, by rw [ek, if_pos rfl], ?_⟩
    suffices h : (fre (cutF x i) i).2.2.1.length = 5 ∧ TBL (fre (cutF x i) i) by
      obtain ⟨r1, r2⟩ := main _ (by rw [e]; rfl) (by rw [e]; rfl) h.1 u (by rw [ek, if_pos rfl]) h.2
      exact ⟨r1, r2, by rw [e]; rfl, by rw [e]; rfl⟩
    constructor
    · rw [eh]; exact hx.h5
    · refine TBL_evict hx.tb hc hl u.ln (fun k k1 k2 => fN_fk (u.fs k k1 k2).1) (by rw [ek, if_pos rfl]; rfl) (fun d _ hd => by rw [eh]) ?_ ?_
      · rw [eh, List.append_assoc]
        have hp := hl.1
        rw [List.append_assoc, path_app] at hp
        obtain ⟨m, p1, p2, p3, p4, p5, p6⟩ := hp
        subst p2
        have k1 : ∀ d ∈ l0, d ≠ (b : Int) ∧ d ≠ (i : Int) := by
          rw [List.append_assoc, List.nodup_append] at hnd
          exact fun d hd => ⟨hnd.2.2 d hd _ (by simp), hnd.2.2 d hd _ (by simp)⟩
        have k2 : ∀ d ∈ l2, d ≠ (b : Int) ∧ d ≠ (i : Int) := by
          rw [List.append_assoc, List.nodup_append] at hnd
          have h2 := hnd.2.1
          simp at h2
          intro d hd
          refine ⟨fun h => h2.1.2 (by rw [← h]; exact hd), fun h => h2.2.1 (by rw [← h]; exact hd)⟩
        rw [path_app]
        refine ⟨(b : Int), path_congr (fun d hd => ?_) p1, rfl, by omega, ?_⟩
        · obtain ⟨k, k3, rfl, _⟩ := gd_nat (hl.2.2 d (by simp [hd]))
          have := k1 _ hd
          exact en k (fun h => this.2 (by rw [h])) (fun h => this.1 (by rw [h]))
        · have e3 : nxt (fre (cutF x i) i) (b : Int) = nxt x (i : Int) := by
            show (fAt (fre (cutF x i) i) b).2.2.2.2.2.2.2 = _
            rw [ek, if_neg b2, if_pos rfl]
            rfl
          rw [e3]
          refine path_congr (fun d hd => ?_) p6
          obtain ⟨k, k3, rfl, _⟩ := gd_nat (hl.2.2 d (List.mem_append_right _ (List.mem_cons_of_mem _ hd)))
          have := k2 _ hd
          exact en k (fun h => this.2 (by rw [h])) (fun h => this.1 (by rw [h]))
      · intro k k1 k2
        exact en k (fun h => by subst h; exact k2 hb) (fun h => by subst h; exact k2 b4)
end Go.Proofs.YtagcodkkkebnhaaGreat.K
end

section
set_option linter.unusedVariables false
set_option linter.unusedSimpArgs false
set_option linter.unnecessarySimpa false
open Go Go.Ev
namespace Go.Proofs.YtagcodkkkebnhaaGreat.K
def tick (x : PAG) : PAG := (x.1, (x.2.1, (x.2.2.1, (x.2.2.2.1 + 1, x.2.2.2.2))))
theorem tick_RT {x : PAG} (hx : RT x) : RT (tick x) ∧ VW x (tick x) := by
  refine ⟨⟨hx.sto, hx.few, hx.n1, hx.n8, hx.h5, fun i hi => ?_, hx.un, TBL_same hx.tb rfl rfl fun k _ => ⟨rfl, rfl⟩⟩, fun _ _ _ => rfl⟩
  exact rf_mono (show x.2.2.2.1 ≤ x.2.2.2.1 + 1 by omega) rfl (fun _ _ => rfl) (hx.fs i hi)
/-- A frame of a memory is set. -/
def frS (x : PAG) (i : Int) (g : FRM) : PAG := (x.1, (lSet x.2.1 i g, x.2.2))
theorem frS_at {x : PAG} {i : Nat} (hi : i < x.2.1.length) (g : FRM) (k : Nat) : fAt (frS x i g) k = if k = i then g else fAt x k := set_at _ _ _ _ hi
theorem frS_up {x : PAG} {i : Nat} (hi : i < x.2.1.length) (g : FRM) : UP x (frS x i g) i := by
  refine ⟨rfl, by show (lSet _ _ _).length = _; unfold lSet; simp, Int.le_refl _, fun k hk hki => ?_⟩
  rw [frS_at hi, if_neg hki]
  exact ⟨rfl, fun _ => rfl⟩
/-- A page stays in its frame. -/
theorem frS_RT {x : PAG} {i : Nat} (hx : RT x) (hi : i < x.2.1.length) {g : FRM} (hf : fk g = fk (fAt x i)) (hn : g.2.2.2.2.2.2.2 = (fAt x i).2.2.2.2.2.2.2) (hg : rf x.1 x.2.2.2.1 g) : RT (frS x i g) := by
  have u := frS_up hi g
  have ei : fAt (frS x i g) i = g := by rw [frS_at hi, if_pos rfl]
  refine RT_up hx u hx.h5 (fun _ _ _ _ _ => rfl) (by rw [ei]; exact hg) ?_ ?_
  · intro n p h k k1 k2 k3
    rw [ei, fk_isK hf] at h
    exact k2 (hx.un n p k i k1 hi k3 h)
  · refine TBL_same hx.tb u.ln rfl fun k hk => ?_
    show fk (fAt (frS x i g) k) = _ ∧ (fAt (frS x i g) k).2.2.2.2.2.2.2 = (fAt x k).2.2.2.2.2.2.2
    rw [frS_at hi]
    split
    · rename_i h; subst h; exact ⟨hf, hn⟩
    · exact ⟨rfl, rfl⟩
/-- A frame is used now. -/
def tch (x : PAG) (i : Int) : PAG := frS x i ((lAt x.2.1 i).1, ((lAt x.2.1 i).2.1, ((lAt x.2.1 i).2.2.1, ((lAt x.2.1 i).2.2.2.1, ((lAt x.2.1 i).2.2.2.2.1, ((lAt x.2.1 i).2.2.2.2.2.1, (x.2.2.2.1, (lAt x.2.1 i).2.2.2.2.2.2.2)))))))
theorem tch_RT {x : PAG} {i : Nat} (hx : RT x) (hi : i < x.2.1.length) (hu : (fAt x i).2.1 = true) (ht : 1 ≤ x.2.2.2.1) : RT (tch x i) ∧ VW x (tch x i) := by
  obtain ⟨f1, f2, f3, f4⟩ := rf_used (hx.fs i hi) hu
  have hR : RT (tch x i) := frS_RT hx hi rfl rfl ⟨(hx.fs i hi).1, .inr ⟨hu, f1, f2, ⟨ht, Int.le_refl _⟩, f4⟩⟩
  have u := frS_up hi ((lAt x.2.1 i).1, ((lAt x.2.1 i).2.1, ((lAt x.2.1 i).2.2.1, ((lAt x.2.1 i).2.2.2.1, ((lAt x.2.1 i).2.2.2.2.1, ((lAt x.2.1 i).2.2.2.2.2.1, (x.2.2.2.1, (lAt x.2.1 i).2.2.2.2.2.2.2)))))))
  have ei : fAt (tch x i) i = ((lAt x.2.1 i).1, ((lAt x.2.1 i).2.1, ((lAt x.2.1 i).2.2.1, ((lAt x.2.1 i).2.2.2.1, ((lAt x.2.1 i).2.2.2.2.1, ((lAt x.2.1 i).2.2.2.2.2.1, (x.2.2.2.1, (lAt x.2.1 i).2.2.2.2.2.2.2))))))) := by unfold tch; rw [frS_at hi, if_pos rfl]
  have hk : ∀ n p, isK (fAt (tch x i) i) n p = isK (fAt x i) n p := by intro n p; rw [ei]; rfl
  refine ⟨hR, VW_up hx hR u hi ?_ ?_ ?_ ?_⟩
  · intro n j _ _ _
    show byt (fAt (tch x i) i).2.2.2.2.2.1 _ = _
    rw [ei]
  · intro n j _ a b; exact absurd ((hk _ _).mpr a) b
  · intro n j _ a b; exact absurd ((hk _ _).mp b) a
  · intro n j _ _ _; rfl
/-- A page is loaded into an unused frame. -/
def lod (x : PAG) (i : Int) (n p pool : Int) : PAG := (x.1, (lSet x.2.1 i (pool, (true, (false, (n, (p, (pageAt x.1 n p, (x.2.2.2.1, lAt x.2.2.1 (bkk n p)))))))), (lSet x.2.2.1 (bkk n p) i, (x.2.2.2.1, (x.2.2.2.2.1 + 1, x.2.2.2.2.2)))))
theorem lod_at {x : PAG} {i : Nat} (hi : i < x.2.1.length) (n p pool : Int) (k : Nat) : fAt (lod x i n p pool) k = if k = i then (pool, (true, (false, (n, (p, (pageAt x.1 n p, (x.2.2.2.1, lAt x.2.2.1 (bkk n p)))))))) else fAt x k := set_at _ _ _ _ hi
theorem lod_RT {x : PAG} {i : Nat} (hx : RT x) (hi : i < x.2.1.length) (hu : (fAt x i).2.1 = false) (ht : 1 ≤ x.2.2.2.1) {n p pool : Int} (hp : hasP x.1 n p) (hpo : 0 ≤ pool ∧ pool ≤ 2) (hno : ∀ k, k < x.2.1.length → ¬ isK (fAt x k) n p) : UP x (lod x i n p pool) i ∧ RT (lod x i n p pool) ∧ VW x (lod x i n p pool) := by
  obtain ⟨c, hc, ec⟩ := bkk_in hx.sto hx.few hp
  have ek := lod_at hi n p pool
  have ei : fAt (lod x i n p pool) i = (pool, (true, (false, (n, (p, (pageAt x.1 n p, (x.2.2.2.1, lAt x.2.2.1 (bkk n p)))))))) := by rw [ek, if_pos rfl]
  have u : UP x (lod x i n p pool) i := by
    refine ⟨rfl, by show (lSet _ _ _).length = _; unfold lSet; simp, Int.le_refl _, fun k hk hki => ?_⟩
    rw [ek, if_neg hki]
    exact ⟨rfl, fun _ => rfl⟩
  have eh : ∀ d : Nat, lAt (lod x i n p pool).2.2.1 (d : Int) = if d = c then (i : Int) else lAt x.2.2.1 (d : Int) := by
    intro d
    show lAt (lSet x.2.2.1 (bkk n p) (i : Int)) (d : Int) = _
    rw [ec]
    exact set_at _ _ _ _ (by have := hx.h5; omega)
  have hR : RT (lod x i n p pool) := by
    refine RT_up hx u (by show (lSet _ _ _).length = 5; unfold lSet; simp; exact hx.h5) (fun _ _ _ _ _ => rfl) ?_ ?_ ?_
    · rw [ei]
      exact ⟨hpo, .inr ⟨rfl, hp, page_len hp, ⟨ht, Int.le_refl _⟩, fun _ => rfl⟩⟩
    · intro n' p' h k k1 k2 k3
      rw [ei] at h
      obtain ⟨_, rfl, rfl⟩ := h
      exact hno k k1 k3
    · refine TBL_load hx.tb hc hi hu u.ln (fun k k1 k2 => ⟨fN_fk (u.fs k k1 k2).1, ?_⟩) (by rw [ei]) (by rw [ei]; exact ec) ?_ (by rw [eh, if_pos rfl]) (fun d _ hd => by rw [eh, if_neg hd])
      · show (fAt (lod x i n p pool) k).2.2.2.2.2.2.2 = (fAt x k).2.2.2.2.2.2.2
        rw [ek, if_neg k2]
      · show (fAt (lod x i n p pool) i).2.2.2.2.2.2.2 = _
        rw [ei, ec]
  refine ⟨u, hR, VW_up hx hR u hi ?_ ?_ ?_ ?_⟩
  · intro m j _ h _; rw [h.1] at hu; cases hu
  · intro m j _ h _; rw [h.1] at hu; cases hu
  · intro m j hm _ h
    rw [ei] at h ⊢
    obtain ⟨_, rfl, e⟩ := h
    exact byt_mod e.symm
  · intro m j _ _ _; rfl
theorem bst_congr {x y : PAG} (h : x.2.1 = y.2.1) (pool : Int) : ∀ i, bst x pool i = bst y pool i
  | 0 => rfl
  | i + 1 => by rw [bst_s, bst_s, bst_congr h pool i]; unfold fAt; rw [h]
theorem bst_ex {x : PAG} {pool : Int} : ∀ i, bst x pool i ≠ -1 ↔ ∃ k, k < i ∧ (fAt x k).1 = pool
  | 0 => ⟨fun h => absurd rfl h, fun ⟨k, h, _⟩ => by omega⟩
  | i + 1 => by
    rw [bst_s]
    split
    · rename_i h
      exact ⟨fun _ => ⟨i, by omega, h.1⟩, fun _ => by omega⟩
    · rename_i h
      rw [bst_ex i]
      constructor
      · rintro ⟨k, h1, h2⟩; exact ⟨k, by omega, h2⟩
      · rintro ⟨k, h1, h2⟩
        rcases Nat.lt_or_ge k i with h3 | h3
        · exact ⟨k, h3, h2⟩
        · obtain rfl : k = i := by omega
          have h4 : ¬ bst x pool k < 0 := fun h5 => h ⟨h2, .inl h5⟩
          exact (bst_ex k).1 (by omega)
/-- What the victim's frame is before the page is loaded. -/
noncomputable def rdy (x : PAG) (v : Int) : PAG :=
  if (lAt x.2.1 v).2.1 = true then
    if (lAt x.2.1 v).2.2.1 = true then fre (cutF (sav x v) v) v else fre (cutF x v) v
  else x
theorem rdy_RT {x : PAG} {v : Nat} (hx : RT x) (hv : v < x.2.1.length) : UP x (rdy x v) v ∧ RT (rdy x v) ∧ VW x (rdy x v) ∧ (fAt (rdy x v) v).2.1 = false ∧ (rdy x v).2.2.2.1 = x.2.2.2.1 ∧ (rdy x v).2.2.2.2.1 = x.2.2.2.2.1 ∧ (rdy x v).2.2.2.2.2 = x.2.2.2.2.2 + (if (fAt x v).2.2.1 = true then 1 else 0) := by
  unfold rdy
  by_cases hu : (fAt x v).2.1 = true
  · rw [if_pos hu]
    by_cases hc : (fAt x v).2.2.1 = true
    · rw [if_pos hc]
      obtain ⟨r1, w1⟩ := sav_RT hx hv hu
      have u1 := sav_up hx hv hu
      have e1 := sav_at (x := x) hv
      obtain ⟨u2, a, r2, w2, s2, n2⟩ := ev_RT r1 (i := v) (by rw [u1.ln]; exact hv) (by rw [e1]; exact hu) (by rw [e1])
      refine ⟨⟨u2.sh.trans u1.sh, u2.ln.trans u1.ln, Int.le_trans u1.tm u2.tm, fun k k1 k2 => ?_⟩, r2, w1.trans w2 u1.sh, by rw [a]; rfl, by rw [n2]; rfl, by rw [n2]; rfl, by rw [n2, if_pos hc]; rfl⟩
      obtain ⟨b1, b2⟩ := u1.fs k k1 k2
      obtain ⟨b3, b4⟩ := u2.fs k (by rw [u1.ln]; exact k1) k2
      exact ⟨b3.trans b1, fun h => (b4 (by rw [b2 h]; exact h)).trans (b2 h)⟩
    · rw [if_neg hc]
      obtain ⟨u2, a, r2, w2, s2, n2⟩ := ev_RT hx hv hu (by simpa using hc)
      exact ⟨u2, r2, w2, by rw [a]; rfl, by rw [n2], by rw [n2], by rw [n2, if_neg hc]; simp⟩
  · rw [if_neg hu]
    have hu' : (fAt x v).2.1 = false := by simpa using hu
    refine ⟨⟨rfl, rfl, Int.le_refl _, fun _ _ _ => ⟨rfl, fun _ => rfl⟩⟩, hx, fun _ _ _ => rfl, hu', rfl, rfl, ?_⟩
    rcases (hx.fs v hv).2 with ⟨_, e⟩ | ⟨h, _⟩
    · rw [e, if_neg (by show ¬ false = true; decide)]; simp
    · exact absurd h hu
/-- A page is used. -/
noncomputable def useM (x : PAG) (n p pool : Int) : PAG × Int :=
  if fidx n p x.2.1 = -1 then (lod (rdy (tick x) (bst x pool x.2.1.length)) (bst x pool x.2.1.length) n p pool, bst x pool x.2.1.length)
  else (tch (tick x) (fidx n p x.2.1), fidx n p x.2.1)
structure USE (x y : PAG) (n p pool : Int) (k : Nat) : Prop where
  rt : RT y
  vw : VW x y
  up : UP x y k
  kl : k < x.2.1.length
  isk : isK (fAt y k) n p
  lst : (fAt y k).2.2.2.2.2.2.1 = x.2.2.2.1 + 1
  tm : y.2.2.2.1 = x.2.2.2.1 + 1
  pl : (fAt y k).1 = (fAt x k).1
  hm : (isK (fAt x k) n p ∧ y.2.2.2.2 = x.2.2.2.2 ∧ (fAt y k).2.2.1 = (fAt x k).2.2.1) ∨ ((∀ j, j < x.2.1.length → ¬ isK (fAt x j) n p) ∧ (k : Int) = bst x pool x.2.1.length ∧ y.2.2.2.2.1 = x.2.2.2.2.1 + 1 ∧ y.2.2.2.2.2 = x.2.2.2.2.2 + (if (fAt x k).2.2.1 = true then 1 else 0) ∧ (fAt y k).2.2.1 = false)
theorem useM_ok {x : PAG} {n p pool : Int} (hx : RT x) (ht : 0 ≤ x.2.2.2.1) (hp : hasP x.1 n p) (hpo : 0 ≤ pool ∧ pool ≤ 2) (hb : bst x pool x.2.1.length ≠ -1) : ∃ k : Nat, (useM x n p pool).2 = (k : Int) ∧ USE x (useM x n p pool).1 n p pool k := by
  obtain ⟨rt, wt⟩ := tick_RT hx
  unfold useM
  rcases fidx_cases n p x.2.1 with ⟨k, k1, k2, e⟩ | ⟨k1, e⟩
  · rw [e, if_neg (by omega)]
    obtain ⟨r2, w2⟩ := tch_RT rt (i := k) k1 k2.1 (show 1 ≤ x.2.2.2.1 + 1 by omega)
    have u := frS_up (x := tick x) (i := k) k1 ((fAt x k).1, ((fAt x k).2.1, ((fAt x k).2.2.1, ((fAt x k).2.2.2.1, ((fAt x k).2.2.2.2.1, ((fAt x k).2.2.2.2.2.1, (x.2.2.2.1 + 1, (fAt x k).2.2.2.2.2.2.2)))))))
    have ei : fAt (tch (tick x) k) k = ((fAt x k).1, ((fAt x k).2.1, ((fAt x k).2.2.1, ((fAt x k).2.2.2.1, ((fAt x k).2.2.2.2.1, ((fAt x k).2.2.2.2.2.1, (x.2.2.2.1 + 1, (fAt x k).2.2.2.2.2.2.2))))))) := by
      unfold tch; rw [frS_at (x := tick x) k1, if_pos rfl]; rfl
    refine ⟨k, rfl, ⟨r2, wt.trans w2 rfl, ⟨rfl, u.ln, ?_, u.fs⟩, k1, ?_, ?_, rfl, ?_, .inl ⟨k2, rfl, ?_⟩⟩⟩
    · show x.2.2.2.1 ≤ x.2.2.2.1 + 1; omega
    · show K.isK (fAt (tch (tick x) k) k) n p; rw [ei]; exact k2
    · show (fAt (tch (tick x) k) k).2.2.2.2.2.2.1 = _; rw [ei]
    · show (fAt (tch (tick x) k) k).1 = _; rw [ei]
    · show (fAt (tch (tick x) k) k).2.2.1 = _; rw [ei]
  · rw [e, if_pos rfl]
    rcases bst_in x pool x.2.1.length with h | ⟨h1, h2, h3⟩
    · exact absurd h hb
    · obtain ⟨v, ev⟩ := Int.eq_ofNat_of_zero_le h1
      rw [ev] at h2 h3 ⊢
      have hv : v < x.2.1.length := by omega
      obtain ⟨u1, r1, w1, f1, t1, t2, t3⟩ := rdy_RT rt (v := v) hv
      have hno : ∀ k, k < (rdy (tick x) v).2.1.length → ¬ isK (fAt (rdy (tick x) v) k) n p := by
        intro k hk hc
        rw [u1.ln] at hk
        by_cases hkv : k = v
        · subst hkv; rw [hc.1] at f1; cases f1
        · rw [u1.isK hk hkv] at hc
          exact k1 k hk hc
      have hp' : hasP (rdy (tick x) v).1 n p := by rw [shp_hasP u1.sh]; exact hp
      have hv' : v < (rdy (tick x) v).2.1.length := by rw [u1.ln]; exact hv
      have t1' : (rdy (tick x) v).2.2.2.1 = x.2.2.2.1 + 1 := t1
      obtain ⟨u2, r2, w2⟩ := lod_RT r1 hv' f1 (by omega) hp' hpo hno
      have ei : fAt (lod (rdy (tick x) v) v n p pool) v = (pool, (true, (false, (n, (p, (pageAt (rdy (tick x) v).1 n p, ((rdy (tick x) v).2.2.2.1, lAt (rdy (tick x) v).2.2.1 (bkk n p)))))))) := by rw [lod_at hv', if_pos rfl]
      refine ⟨v, rfl, ⟨r2, (wt.trans w1 rfl).trans w2 u1.sh, ⟨u2.sh.trans u1.sh, u2.ln.trans u1.ln, ?_, fun k k3 k4 => ?_⟩, hv, ?_, ?_, t1', ?_, .inr ⟨k1, ev.symm, ?_, t3, ?_⟩⟩⟩
      · show x.2.2.2.1 ≤ (rdy (tick x) v).2.2.2.1; omega
      · obtain ⟨b1, b2⟩ := u1.fs k k3 k4
        obtain ⟨b3, b4⟩ := u2.fs k (by rw [u1.ln]; exact k3) k4
        exact ⟨b3.trans b1, fun h => (b4 (by rw [b2 h]; exact h)).trans (b2 h)⟩
      · show K.isK (fAt (lod (rdy (tick x) v) v n p pool) v) n p; rw [ei]; exact ⟨rfl, rfl, rfl⟩
      · show (fAt (lod (rdy (tick x) v) v n p pool) v).2.2.2.2.2.2.1 = _; rw [ei]; exact t1'
      · show (fAt (lod (rdy (tick x) v) v n p pool) v).1 = _; rw [ei]; exact h3.symm
      · show (rdy (tick x) v).2.2.2.2.1 + 1 = _; rw [t2]; rfl
      · show (fAt (lod (rdy (tick x) v) v n p pool) v).2.2.1 = _; rw [ei]
end Go.Proofs.YtagcodkkkebnhaaGreat.K
end

section
set_option linter.unusedVariables false
set_option linter.unusedSimpArgs false
set_option linter.unnecessarySimpa false
open Go Go.Ev
namespace Go.Proofs.YtagcodkkkebnhaaGreat.K
theorem F83_1_eq (l : List SEG) (fs : List FRM) (i : Int) (hl : l.length ≤ 1000000) : F60_1 l fs i = some ((l, (fs, i)), place l (lAt fs i).2.2.2.1) := by
  have hL : (∃ k, k < l.length ∧ (lAt l (k : Int)).1 = (lAt fs i).2.2.2.1 ∧ (∀ j, j < k → ¬ (lAt l (j : Int)).1 = (lAt fs i).2.2.2.1) ∧ L60_0_1 ((l, (fs, i)), (lLen l, 0)) = some (.inr ((l, (fs, i)), (k : Int)))) ∨ ((∀ k, k < l.length → ¬ (lAt l (k : Int)).1 = (lAt fs i).2.2.2.1) ∧ L60_0_1 ((l, (fs, i)), (lLen l, 0)) = some (.inl (l, (fs, i)))) := by
    refine iter_first (fun k => ((l, (fs, i)), (lLen l, (k : Int)))) (fun k => (lAt l (k : Int)).1 = (lAt fs i).2.2.2.1) l.length (fun k => Sum.inr ((l, (fs, i)), (k : Int))) (Sum.inl (l, (fs, i))) (by omega) ?_ ?_ ?_
    · intro k hi hp
      show B60_0_1 l fs i (lLen l) k = some (.inl ((l, (fs, i)), (lLen l, ((k + 1 : Nat) : Int))))
      unfold B60_0_1 F72
      rw [iLt_y (by unfold lLen; omega), oIn_y (by unfold lLen; omega), iEq_f hp, add_n (by omega) (by omega)]
      rfl
    · intro k hi hp
      show B60_0_1 l fs i (lLen l) k = _
      unfold B60_0_1 F72
      rw [iLt_y (by unfold lLen; omega), oIn_y (by unfold lLen; omega), iEq_y hp]
      rfl
    · show B60_0_1 l fs i (lLen l) l.length = _
      unfold B60_0_1
      rw [iLt_f (by unfold lLen; omega), sel_f]
  unfold F60_1
  rcases hL with ⟨k, h1, h2, h3, e⟩ | ⟨h1, e⟩ <;> rcases place_cases (lAt fs i).2.2.2.1 l with ⟨j, k1, k2, k3, k4⟩ | ⟨k1, k4⟩ <;> rw [e, k4]
  · obtain rfl : k = j := by
      rcases Nat.lt_trichotomy k j with h | h | h
      · exact absurd h2 (k3 k h)
      · exact h
      · exact absurd k2 (h3 j h)
    rfl
  · exact absurd h2 (k1 k h1)
  · exact absurd k2 (h1 j k1)
  · rfl
theorem sOk_n {a b : ByteArray} (h : sLen a + sLen b ≤ 100000) : sOk a b = true := by rw [sOk_t]; omega
/-- The program's writing of a page. -/
theorem F64_eq {x : PAG} {i : Nat} (hx : RT x) (hi : i < x.2.1.length) (hu : (fAt x i).2.1 = true) (hw : 0 ≤ x.2.2.2.2.2 ∧ x.2.2.2.2.2 ≤ 2000000000000000) : F41 x.1.1 x.1.2 x.2.1 x.2.2.1 x.2.2.2.1 x.2.2.2.2.1 x.2.2.2.2.2 i = some (opg (sav x i)) := by
  have hl := hx.few.1
  obtain ⟨f1, f2, _⟩ := rf_used (hx.fs i hi) hu
  have f3 := hasP_end f1
  obtain ⟨k, hk, _, _, e⟩ := place_in f1.1
  have h4 := hx.few.2 k hk
  have f4 := f1.2.1
  unfold sgB at f3
  rw [e] at f3
  unfold fAt at f2 f3 f4
  unfold F41
  rw [oIn_y (by unfold lLen; omega), sel_t, F83_1_eq _ _ _ (by omega), bnd_s]
  dsimp only
  have e' : place x.1.1 (lAt x.2.1 (i : Int)).2.2.2.1 = (k : Int) := e
  have em : iMul .i64 (lAt x.2.1 (i : Int)).2.2.2.2.1 32 = (lAt x.2.1 (i : Int)).2.2.2.2.1 * 32 := mul_n (by omega) (by omega)
  have c1 : sLen (sCut (lAt x.1.1 (k : Int)).2 0 ((lAt x.2.1 (i : Int)).2.2.2.2.1 * 32)) = (lAt x.2.1 (i : Int)).2.2.2.2.1 * 32 := by rw [scut_len _ (by omega) (by omega) (by omega)]; omega
  have c2 : sLen (sCut (lAt x.1.1 (k : Int)).2 ((lAt x.2.1 (i : Int)).2.2.2.2.1 * 32 + 32) (sLen (lAt x.1.1 (k : Int)).2)) ≤ 400 := by rw [scut_len _ (by omega) (by omega) (by omega)]; omega
  rw [e', em, add_n (by omega) (by omega), add_n (by omega) (by omega), oIn_y (by unfold lLen; omega), oCut_y (by omega), sOk_n (by rw [c1]; omega), oCut_y (by omega), sOk_n (by rw [sadd_len, c1]; omega)]
  simp only [sel_t]
  have ep : put (lAt x.1.1 (k : Int)).2 ((lAt x.2.1 (i : Int)).2.2.2.2.1 * 32) (lAt x.2.1 (i : Int)).2.2.2.2.2.1 = sAdd (sAdd (sCut (lAt x.1.1 (k : Int)).2 0 ((lAt x.2.1 (i : Int)).2.2.2.2.1 * 32)) (lAt x.2.1 (i : Int)).2.2.2.2.2.1) (sCut (lAt x.1.1 (k : Int)).2 ((lAt x.2.1 (i : Int)).2.2.2.2.1 * 32 + 32) (sLen (lAt x.1.1 (k : Int)).2)) := by
    unfold put
    rw [show sLen (lAt x.2.1 (i : Int)).2.2.2.2.2.1 = 32 from f2]
  unfold sav putS opg
  dsimp only
  rw [e', ep]
end Go.Proofs.YtagcodkkkebnhaaGreat.K
end

section
set_option linter.unusedVariables false
set_option linter.unusedSimpArgs false
set_option linter.unnecessarySimpa false
open Go Go.Ev
namespace Go.Proofs.YtagcodkkkebnhaaGreat.K
theorem L100_eq {x : PAG} {i c : Nat} {F : FRM} {l1 l2 : List Int} (hh : x.2.2.1.length = 5) (hc : c < 5) (hn : x.2.1.length ≤ 1000) (hl : CH x (c : Int) (l1 ++ (i : Int) :: l2)) (hi : ¬ (i : Int) ∈ l1) :
    (l1 = [] ∧ L73_0 (.inl (opg x, ((i : Int), (F, (c : Int))))) = some (.inl (opg x, (F, (c : Int))))) ∨
    (∃ l0 b, l1 = l0 ++ [b] ∧ L73_0 (.inl (opg x, ((i : Int), (F, (c : Int))))) = some (.inr (opg x, (F, b)))) := by
  have hlen := CH_len hl hn
  have h : Ok (L73_0 (.inl (opg x, ((i : Int), (F, (c : Int)))))) (fun r => (l1 = [] ∧ r = .inl (opg x, (F, (c : Int)))) ∨ ∃ l0 b, l1 = l0 ++ [b] ∧ r = .inr (opg x, (F, b))) := by
    refine loop_inv (fun m y => (y = .inl (opg x, ((i : Int), (F, (c : Int)))) ∧ m = l1.length + 1) ∨ (∃ l0 a rest, y = .inr (opg x, ((i : Int), (F, a))) ∧ path x (nxt x a) rest (i : Int) ∧ l1 = l0 ++ a :: rest ∧ m = rest.length + 1)) (l1.length + 1) (.inl ⟨rfl, rfl⟩) (by simp at hlen; omega) ?_
    rintro m y (⟨rfl, rfl⟩ | ⟨l0, a, rest, rfl, hp, e, rfl⟩)
    · show Ok (B73_0h0 x.1.1 x.1.2 x.2.1 x.2.2.1 x.2.2.2.1 x.2.2.2.2.1 x.2.2.2.2.2 i F.1 F.2.1 F.2.2.1 F.2.2.2.1 F.2.2.2.2.1 F.2.2.2.2.2.1 F.2.2.2.2.2.2.1 F.2.2.2.2.2.2.2 c) _
      unfold B73_0h0
      have hp := hl.1
      rw [path_app] at hp
      obtain ⟨q, p1, p2, p3, p4⟩ := hp
      subst p2
      cases l1 with
      | nil =>
        have p1 : lAt x.2.2.1 (c : Int) = (i : Int) := p1
        rw [iEq_y p1, nt, sel_f, ok_some]
        exact .inl ⟨rfl, rfl⟩
      | cons b r =>
        obtain ⟨p5, p6, p7⟩ := p1
        have hbi : ¬ lAt x.2.2.1 (c : Int) = (i : Int) := by rw [p5]; intro h; exact hi (by rw [h]; simp)
        rw [iEq_f hbi, nf, sel_t, p5, fr_in (hl.2.2 b (by simp)), sel_t, ok_some]
        exact ⟨r.length + 1, by simp, .inr ⟨[], b, r, rfl, p7, rfl, rfl⟩⟩
    · show Ok (B73_0h1 x.1.1 x.1.2 x.2.1 x.2.2.1 x.2.2.2.1 x.2.2.2.2.1 x.2.2.2.2.2 i F.1 F.2.1 F.2.2.1 F.2.2.2.1 F.2.2.2.2.1 F.2.2.2.2.2.1 F.2.2.2.2.2.2.1 F.2.2.2.2.2.2.2 a) _
      unfold B73_0h1
      cases rest with
      | nil =>
        have hp : nxt x a = (i : Int) := hp
        have hp' : (lAt x.2.1 a).2.2.2.2.2.2.2 = (i : Int) := hp
        rw [iEq_y hp', nt, sel_f, ok_some]
        exact .inr ⟨l0, a, e, rfl⟩
      | cons b r =>
        obtain ⟨p5, p6, p7⟩ := hp
        have p5' : (lAt x.2.1 a).2.2.2.2.2.2.2 = b := p5
        have hbi : ¬ b = (i : Int) := by intro h; exact hi (by rw [e, h]; simp)
        rw [p5', iEq_f hbi, nf, sel_t, fr_in (hl.2.2 b (by rw [e]; simp)), sel_t, ok_some]
        exact ⟨r.length + 1, by simp, .inr ⟨l0 ++ [a], b, r, rfl, p7, by rw [e]; simp, rfl⟩⟩
  obtain ⟨r, e, h | ⟨l0, b, h1, h2⟩⟩ := h
  · exact .inl ⟨h.1, by rw [e, h.2]⟩
  · exact .inr ⟨l0, b, h1, by rw [e, h2]⟩
/-- The program's taking a frame out of its chain. -/
theorem F100_eq {x : PAG} {i : Nat} (hx : RT x) (hi : i < x.2.1.length) (hu : (fAt x i).2.1 = true) : F73 x.1.1 x.1.2 x.2.1 x.2.2.1 x.2.2.2.1 x.2.2.2.2.1 x.2.2.2.2.2 i = some (opg (cutF x i)) := by
  obtain ⟨c, hc, hb, l1, l2, hl, hcs⟩ := cutF_cases hx hi hu
  have hn : ¬ (i : Int) ∈ l1 := by
    intro h
    have := hl.2.1
    rw [List.nodup_append] at this
    exact this.2.2 _ h _ (by simp) rfl
  unfold F73
  have e73 : F63 (lAt x.2.1 (i : Int)).2.2.2.1 (lAt x.2.1 (i : Int)).2.2.2.2.1 = some (c : Int) := (F73_eq (fAt x i)).trans (by rw [hb])
  rw [oIn_y (by unfold lLen; omega), sel_t, e73, bnd_s, oIn_y (by unfold lLen; rw [hx.h5]; omega), sel_t]
  rcases L100_eq (F := lAt x.2.1 (i : Int)) hx.h5 hc (by have := hx.n8; omega) hl hn with ⟨e1, e2⟩ | ⟨l0, b, e1, e2⟩
  · show bndS (L73_0 (.inl (opg x, ((i : Int), (lAt x.2.1 (i : Int), (c : Int)))))) _ = _
    rw [e2]
    rcases hcs with ⟨_, e⟩ | ⟨l0', b', e3, _⟩
    · rw [e]; rfl
    · rw [e1] at e3; simp at e3
  · show bndS (L73_0 (.inl (opg x, ((i : Int), (lAt x.2.1 (i : Int), (c : Int)))))) _ = _
    rw [e2]
    rcases hcs with ⟨e3, e⟩ | ⟨l0', b', e3, _, _, _, _, _, e⟩
    · rw [e1] at e3; simp at e3
    · rw [e1] at e3
      have : b = (b' : Int) := by
        have := congrArg List.getLast? e3
        simpa using this
      rw [e, this]
      rfl
end Go.Proofs.YtagcodkkkebnhaaGreat.K
end

section
set_option linter.unusedVariables false
set_option linter.unusedSimpArgs false
set_option linter.unnecessarySimpa false
open Go Go.Ev
namespace Go.Proofs.YtagcodkkkebnhaaGreat.K
theorem chain_of {x : PAG} {n p : Int} (hx : RT x) (hp : hasP x.1 n p) : ∃ (c : Nat) (l : List Int), c < 5 ∧ bkk n p = (c : Int) ∧ CH x (c : Int) l ∧ l.length ≤ 1000 ∧ (∀ k, k < x.2.1.length → isK (fAt x k) n p → (k : Int) ∈ l) := by
  obtain ⟨c, hc, e⟩ := bkk_in hx.sto hx.few hp
  obtain ⟨l, hl⟩ := hx.tb.1 c hc
  refine ⟨c, l, hc, e, hl, CH_len hl (by have := hx.n8; omega), fun k hk hi => ?_⟩
  obtain ⟨d, hd, l', hl', hm⟩ := (hx.tb.2 k hk).1 hi.1
  have h1 : bk (fAt x k) = (d : Int) := (hl'.2.2 _ hm).2.2.2
  have h2 : bk (fAt x k) = bkk n p := by unfold bk bkk; rw [hi.2.1, hi.2.2]
  have : d = c := by rw [h1, e] at h2; omega
  subst this
  rw [← CH_uniq hl' hl]
  exact hm
theorem F55_eq {x : PAG} {n p : Int} (hx : RT x) (hp : hasP x.1 n p) : ∃ m, F36 x n p = some (fidx n p x.2.1, m) := by
  obtain ⟨c, l, hc, e, hl, hlen, hin⟩ := chain_of hx hp
  have hn' : x.2.1.length ≤ 1000 := by have := hx.n8; omega
  have ho : oIn (c : Int) (lLen x.2.2.1) = true := oIn_y (by unfold lLen; rw [hx.h5]; omega)
  have e73 : F63 n p = some (c : Int) := by rw [← e]; rfl
  have e1 : F36 x n p = bndS (L36_0 (n, (p, (opg x, (l, (lLen l, 0)))))) fun y2 => sumS y2 (fun _ => some (-1, 0)) fun y2b => some y2b := by
    unfold F36
    rw [e73, bnd_s, F58_eq hl hn' ho, bnd_s]
  rw [e1]
  rcases L55_eq x n p l hlen (CH_in hl) with ⟨i, h1, h2, h3, k1⟩ | ⟨h1, k1⟩
  · obtain ⟨k, g1, g2, g3, g4⟩ := gd_nat (hl.2.2 (lAt l (i : Int)) (lAt_mem.1 ⟨i, h1, rfl⟩))
    rw [g2] at h2
    rw [fidx_y hx.un g1 ⟨g3, h2⟩, k1, g2]
    exact ⟨_, rfl⟩
  · rw [k1, fidx_n fun k hk hi => ?_]
    · exact ⟨_, rfl⟩
    · obtain ⟨i, h2, h3⟩ := lAt_mem.2 (hin k hk hi)
      exact h1 i h2 (by rw [h3]; exact hi.2)
theorem lSet_two {α : Type} (l : List α) (i : Int) (a b : α) : lSet (lSet l i a) i b = lSet l i b := by unfold lSet; rw [List.set_set]
theorem lSet_own {α : Type} [Inhabited α] (l : List α) (i : Nat) (a : α) (h : i < l.length) : lAt (lSet l (i : Int) a) (i : Int) = a := by rw [set_at _ _ _ _ h, if_pos rfl]
/-- Loading, as0 the program does it, behind the frame's own page. -/
theorem lod_fre (z : PAG) (v : Int) (n p pool : Int) : lod (fre z v) v n p pool = (z.1, (lSet z.2.1 v (pool, (true, (false, (n, (p, (pageAt z.1 n p, (z.2.2.2.1, lAt z.2.2.1 (bkk n p)))))))), (lSet z.2.2.1 (bkk n p) v, (z.2.2.2.1, (z.2.2.2.2.1 + 1, z.2.2.2.2.2))))) := by
  unfold lod fre
  dsimp only
  rw [lSet_two]
theorem oIn_fr {x : PAG} {i : Nat} (h : i < x.2.1.length) : oIn (i : Int) (lLen x.2.1) = true := oIn_y (by unfold lLen; omega)
/-- The program's use of a page. -/
theorem F82_eq {x : PAG} {n p pool : Int} (hx : RT x) (ht : 0 ≤ x.2.2.2.1 ∧ x.2.2.2.1 ≤ 1500000000000000) (hr : 0 ≤ x.2.2.2.2.1 ∧ x.2.2.2.2.1 ≤ 1500000000000000) (hw : 0 ≤ x.2.2.2.2.2 ∧ x.2.2.2.2.2 ≤ 1500000000000000) (hp : hasP x.1 n p) (hb : bst x pool x.2.1.length ≠ -1) : F42 x.1.1 x.1.2 x.2.1 x.2.2.1 x.2.2.2.1 x.2.2.2.2.1 x.2.2.2.2.2 n p pool = some (opg (useM x n p pool).1, (useM x n p pool).2) := by
  have rt := (tick_RT hx).1
  obtain ⟨c, hc, ec⟩ := bkk_in hx.sto hx.few hp
  have e73 : F63 n p = some (c : Int) := by rw [← ec]; rfl
  have hch : oIn (c : Int) (lLen x.2.2.1) = true := oIn_y (by unfold lLen; rw [hx.h5]; omega)
  unfold F42
  rw [add_n (a := x.2.2.2.1) (by omega) (by omega), add_n (a := x.2.2.2.2.1) (by omega) (by omega)]
  obtain ⟨m, em⟩ := F55_eq rt hp
  show bndS (F36 (tick x) n p) _ = _
  rw [em, bnd_s]
  unfold useM
  dsimp only
  show sel (iLt (fidx n p x.2.1) 0) _ _ = _
  rcases fidx_cases n p x.2.1 with ⟨k, k1, k2, e⟩ | ⟨k1, e⟩
  · have e2 : fidx n p (tick x).2.1 = (k : Int) := e
    rw [e2, e, iLt_f (by omega), sel_f, oIn_fr k1, sel_t, set_len, oIn_fr k1, sel_t, if_neg (by omega)]
    rfl
  · rw [e, iLt_y (by decide), sel_t, if_pos rfl]
    have e59 : F67 (tick x) pool = some (bst x pool x.2.1.length) := by
      rw [F59_eq _ _ (by have := hx.n8; show x.2.1.length ≤ 1000; omega)]
      exact congrArg some (bst_congr (x := tick x) (y := x) rfl pool _)
    show bndS (F67 (tick x) pool) _ = _
    rw [e59, bnd_s]
    rcases bst_in x pool x.2.1.length with h | ⟨h1, h2, h3⟩
    · exact absurd h hb
    · obtain ⟨v, ev⟩ := Int.eq_ofNat_of_zero_le h1
      rw [ev] at h2 h3 ⊢
      have hv : v < x.2.1.length := by omega
      rw [oIn_fr hv, sel_t]
      unfold rdy
      by_cases hu : (lAt x.2.1 (v : Int)).2.1 = true
      · have hu' : (lAt (tick x).2.1 (v : Int)).2.1 = true := hu
        rw [hu, sel_t, if_pos hu']
        by_cases hcg : (lAt x.2.1 (v : Int)).2.2.1 = true
        · have hcg' : (lAt (tick x).2.1 (v : Int)).2.2.1 = true := hcg
          rw [hcg, sel_t, if_pos hcg']
          have e64 := F64_eq rt (i := v) hv hu (by show 0 ≤ x.2.2.2.2.2 ∧ x.2.2.2.2.2 ≤ 2000000000000000; omega)
          show bndS (F41 (tick x).1.1 (tick x).1.2 (tick x).2.1 (tick x).2.2.1 (tick x).2.2.2.1 (tick x).2.2.2.2.1 (tick x).2.2.2.2.2 v) _ = _
          rw [e64, bnd_s]
          have u1 := sav_up rt (i := v) hv hu
          have r1 := (sav_RT rt (i := v) hv hu).1
          have e1 := sav_at (x := tick x) (i := v) hv
          have hv1 : v < (sav (tick x) v).2.1.length := by rw [u1.ln]; exact hv
          have e100 := F100_eq r1 hv1 (by rw [e1]; exact hu)
          show bndS (F73 (sav (tick x) v).1.1 (sav (tick x) v).1.2 (sav (tick x) v).2.1 (sav (tick x) v).2.2.1 (sav (tick x) v).2.2.2.1 (sav (tick x) v).2.2.2.2.1 (sav (tick x) v).2.2.2.2.2 v) _ = _
          rw [e100, bnd_s]
          obtain ⟨u2, _, r2, _, s2, n2⟩ := ev_RT r1 hv1 (by rw [e1]; exact hu) (by rw [e1])
          generalize hz : cutF (sav (tick x) v) v = z at *
          have hf : fewS z.1 := r2.few
          have hp2 : hasP z.1 n p := by
            have : (fre z v).1 = z.1 := rfl
            rw [← this, shp_hasP u2.sh, shp_hasP u1.sh]; exact hp
          have hzn : v < z.2.1.length := by
            have h := u2.ln
            have : (fre z v).2.1.length = z.2.1.length := by show (lSet _ _ _).length = _; unfold lSet; simp
            omega
          have hzh : oIn (c : Int) (lLen z.2.2.1) = true := oIn_y (by have := r2.h5; unfold lLen; show _ ∧ _ < ((fre z v).2.2.1.length : Int); omega)
          have hz2 : z.2.2.2 = (sav (tick x) v).2.2.2 := n2
          have hz3 : z.2.2.2.2.1 = x.2.2.2.2.1 := by rw [hz2]; rfl
          show bndS (F35 z.1 n p) _ = _
          rw [F54_y hf hp2, bnd_s, e73, bnd_s]
          dsimp only [opg]
          rw [hzh, sel_t, oIn_fr hzn, sel_t, set_len, oIn_fr hzn, sel_t, lSet_own _ _ _ hzn, set_len, set_len, oIn_fr hzn, sel_t, lSet_two, hz3, add_n (by omega) (by omega), lod_fre, ec]
          rw [hz3]
        · have hcg' : ¬ (lAt (tick x).2.1 (v : Int)).2.2.1 = true := hcg
          have hcf : (lAt x.2.1 (v : Int)).2.2.1 = false := by simpa using hcg
          rw [hcf, sel_f, if_neg hcg']
          have e100 := F100_eq rt (i := v) hv hu
          show bndS (F73 (tick x).1.1 (tick x).1.2 (tick x).2.1 (tick x).2.2.1 (tick x).2.2.2.1 (tick x).2.2.2.2.1 (tick x).2.2.2.2.2 v) _ = _
          rw [e100, bnd_s]
          obtain ⟨u2, _, r2, _, s2, n2⟩ := ev_RT rt (i := v) hv hu hcf
          generalize hz : cutF (tick x) v = z at *
          have hf : fewS z.1 := r2.few
          have hp2 : hasP z.1 n p := by
            have : (fre z v).1 = z.1 := rfl
            rw [← this, shp_hasP u2.sh]; exact hp
          have hzn : v < z.2.1.length := by
            have h := u2.ln
            have : (fre z v).2.1.length = z.2.1.length := by show (lSet _ _ _).length = _; unfold lSet; simp
            have h3 : (tick x).2.1.length = x.2.1.length := rfl
            omega
          have hzh : oIn (c : Int) (lLen z.2.2.1) = true := oIn_y (by have := r2.h5; unfold lLen; show _ ∧ _ < ((fre z v).2.2.1.length : Int); omega)
          have hz2 : z.2.2.2 = (tick x).2.2.2 := n2
          have hz3 : z.2.2.2.2.1 = x.2.2.2.2.1 := by rw [hz2]; rfl
          show bndS (F35 z.1 n p) _ = _
          rw [F54_y hf hp2, bnd_s, e73, bnd_s]
          dsimp only [opg]
          rw [hzh, sel_t, oIn_fr hzn, sel_t, set_len, oIn_fr hzn, sel_t, lSet_own _ _ _ hzn, set_len, set_len, oIn_fr hzn, sel_t, lSet_two, hz3, add_n (by omega) (by omega), lod_fre, ec]
          rw [hz3]
      · have hu' : ¬ (lAt (tick x).2.1 (v : Int)).2.1 = true := hu
        have huf : (lAt x.2.1 (v : Int)).2.1 = false := by simpa using hu
        rw [huf, sel_f, if_neg hu']
        show bndS (F35 x.1 n p) _ = _
        rw [F54_y hx.few hp, bnd_s, e73, bnd_s, hch, sel_t, sel_t, set_len, oIn_fr hv, sel_t, lSet_own _ _ _ hv, set_len, set_len, oIn_fr hv, sel_t, lSet_two]
        unfold lod opg
        rw [ec]
        rfl
end Go.Proofs.YtagcodkkkebnhaaGreat.K
end

section
set_option linter.unusedVariables false
set_option linter.unusedSimpArgs false
set_option linter.unnecessarySimpa false
open Go Go.Ev
namespace Go.Proofs.YtagcodkkkebnhaaGreat.K
/-- A right store is found right. -/
theorem F43_ok {s : STO} (hf : fewS s) (h : okS0 s) : F31 s = some (0, 0) ∧ F43 s = some 0 := by
  rcases F43_eq s hf (by have := h.2; unfold fits; omega) with ⟨_, e⟩ | ⟨a, c, hc, e1, e2⟩
  · exact e
  · exfalso
    have hn : 1 ≤ s.2 ∧ s.2 ≤ 1001 := ⟨h.2.1, h.2.2.1⟩
    have w1 : F58 s.2 1 1001 = true := by unfold F58; rw [and_t, iLe_t, iLe_t]; exact hn
    have hl := h.1
    unfold F31 at e1
    rw [iLt_f (by unfold lLen; omega), w1] at e1
    simp only [let_s, nt, sel_f] at e1
    rcases L43_eq s hf hn with ⟨i, hi, hp, _, e⟩ | ⟨_, e⟩
    · exact hp (h.2.2.2 i hi)
    · rw [e] at e1
      have e1 : some (0, 0) = some (a, c) := e1
      cases e1
      exact hc rfl
/-- A right frame is found right. -/
theorem frame_ok {x : PAG} {i : Nat} (hf : fewS x.1) (hi : i < x.2.1.length) (hl : x.2.1.length ≤ 1000000) (h : rightF x i) : fe x i = 0 := by
  obtain ⟨e, e1, _⟩ := fe_eq x i hf hi hl
  obtain ⟨p1, p2, h⟩ := h
  suffices F37 x (i : Int) = some 0 by unfold fe; rw [this]; rfl
  unfold F37
  have w1 : F32 (lAt x.2.1 (i : Int)).1 0 2 = true := by unfold F32; rw [and_t, iLe_t, iLe_t]; exact ⟨p1, p2⟩
  rw [oIn_y (by unfold lLen; omega), sel_t, let_s, w1, nt, sel_f]
  rcases h with ⟨h1, h2⟩ | ⟨h1, h2, h3, h4, h5, h6, h7⟩
  · have n : bNot (lAt x.2.1 (i : Int)).2.1 = true := by rw [not_t]; exact h1
    rw [n, sel_t]
    have h2' : lAt x.2.1 (i : Int) = fr (lAt x.2.1 (i : Int)).1 := h2
    have : bAnd (iEq (lAt x.2.1 (i : Int)).1 (lAt x.2.1 (i : Int)).1) (bAnd (bEq (lAt x.2.1 (i : Int)).2.1 false) (bAnd (bEq (lAt x.2.1 (i : Int)).2.2.1 false) (bAnd (iEq (lAt x.2.1 (i : Int)).2.2.2.1 0) (bAnd (iEq (lAt x.2.1 (i : Int)).2.2.2.2.1 0) (bAnd (sEq (lAt x.2.1 (i : Int)).2.2.2.2.2.1 (bs [])) (bAnd (iEq (lAt x.2.1 (i : Int)).2.2.2.2.2.2.1 0) (iEq (lAt x.2.1 (i : Int)).2.2.2.2.2.2.2 (-1)))))))) = true := by
      simp only [and_t, iEq_t, bEq_t, sEq_t]
      rw [h2']
      exact ⟨trivial, rfl, rfl, rfl, rfl, rfl, rfl, rfl⟩
    rw [this]
    rfl
  · have h1' : (lAt x.2.1 (i : Int)).2.1 = true := h1
    rw [h1', nt, sel_f, F54_y hf h2, bnd_s]
    dsimp only
    rw [nt, sel_f, iEq_y h3, nt, sel_f, oCut_y (by unfold lLen; omega), sel_t]
    have hct := cut_len x.2.1 i (by omega)
    rcases F71_eq (lCut x.2.1 0 (i : Int)) (fAt x i) (by omega) with ⟨⟨k, k1, k2⟩, e1⟩ | ⟨k1, e1⟩
    · rw [cut_at _ _ _ (by omega)] at k2
      exact absurd k2 (h4 k (by omega))
    · have w3 : F32 (lAt x.2.1 (i : Int)).2.2.2.2.2.2.1 1 x.2.2.2.1 = true := by unfold F32; rw [and_t, iLe_t, iLe_t]; exact ⟨h5, h6⟩
      have e1' : F64 (lCut x.2.1 0 (i : Int)) (lAt x.2.1 (i : Int)).1 true (lAt x.2.1 (i : Int)).2.2.1 (lAt x.2.1 (i : Int)).2.2.2.1 (lAt x.2.1 (i : Int)).2.2.2.2.1 (lAt x.2.1 (i : Int)).2.2.2.2.2.1 (lAt x.2.1 (i : Int)).2.2.2.2.2.2.1 (lAt x.2.1 (i : Int)).2.2.2.2.2.2.2 = some (fAt x i, false) := by rw [← h1']; exact e1
      rw [e1', bnd_s]
      dsimp only
      rw [sel_f, let_s, w3, nt, sel_f]
      have : bAnd (bNot (lAt x.2.1 (i : Int)).2.2.1) (bNot (sEq (lAt x.2.1 (i : Int)).2.2.2.2.2.1 (pageAt x.1 (lAt x.2.1 (i : Int)).2.2.2.1 (lAt x.2.1 (i : Int)).2.2.2.2.1))) = false := by
        rw [bf_t, and_t, not_t, not_t, bf_t (sEq _ _), sEq_t]
        rintro ⟨a, b⟩
        exact b (h7 a)
      rw [this]
      rfl
theorem walks_ok {x : PAG} (ht : TBL x) (hn : x.2.1.length ≤ 1000) (hh : x.2.2.1.length = 5) : Ok (L24_2 (opg x, (0, (0, 0)))) (fun r => ∃ q, r = Sum.inl q) := by
  refine loop_inv (fun m y => ∃ (i : Nat) (n : Int), i ≤ 5 ∧ m = 5 - i ∧ y = (opg x, (n, (0, (i : Int))))) 5 ⟨0, 0, by omega, rfl, rfl⟩ (by omega) ?_
  rintro m y ⟨i, n, hi, rfl, rfl⟩
  show Ok (B24_2 x.1.1 x.1.2 x.2.1 x.2.2.1 x.2.2.2.1 x.2.2.2.2.1 x.2.2.2.2.2 n 0 i) _
  unfold B24_2
  by_cases h5 : i = 5
  · subst h5
    rw [iLt_f (by omega), sel_f, ok_some]
    exact ⟨_, rfl⟩
  · obtain ⟨l, hl⟩ := ht.1 i (by omega)
    rw [iLt_y (by omega), sel_t]
    show Ok (bndS (F46 x (i : Int)) _) _
    rw [F48_eq hl hn (oIn_y (by unfold lLen; omega)), bnd_s]
    dsimp only
    rw [nt, sel_f, ok_some]
    exact ⟨5 - (i + 1), by omega, i + 1, _, by omega, rfl, by rw [add_n (a := (i : Int)) (by omega) (by omega)]; rfl⟩
theorem tab_ok {x : PAG} (ht : TBL x) (hn : x.2.1.length ≤ 1000) (hh : x.2.2.1.length = 5) : F38 x = some true ∧ tailR x = some 0 := by
  rcases tab_eq x hn hh with ⟨_, h⟩ | ⟨e1, e2⟩
  · exact h
  exfalso
  have hl : lLen x.2.1 = x.2.1.length := rfl
  obtain ⟨r, s, g1, g2, h⟩ := table_two x hn hh
  obtain ⟨q, g3, w, g4⟩ := walks_ok ht hn hh
  rw [g2] at g3
  cases g3
  have er : lRep (lLen x.2.1) (false : Bool) = List.replicate x.2.1.length false := by unfold lRep; rw [hl, Int.toNat_natCast]
  have ec : nCap 1 (lLen x.2.1) = true := by rw [nCap_t]; omega
  unfold F38 at e1
  rw [ec, sel_t, er, g1, bnd_s] at e1
  rcases h with ⟨seen, t1, t2, t3, rfl, rfl⟩ | ⟨rfl, rfl⟩
  · dsimp only [sumS] at e1
    rcases L46d_eq x seen hn t1 with ⟨k, k1, k2, _, e⟩ | ⟨k1, e⟩
    · apply k2
      rw [Bool.eq_iff_iff, t2 k k1]
      exact ht.2 k k1
    · rw [e] at e1
      cases e1
  · cases g4
/-- A right memory is found right. -/
theorem check_ok {x : PAG} (hf : fewS x.1) (h : RIGHT x) : F20 x = some 0 ∧ F24 x = some 0 := by
  obtain ⟨h1, h2, h3, h4, h5, h6, h7, h8⟩ := h
  have hl : lLen x.2.1 = x.2.1.length := rfl
  have hn : x.2.1.length ≤ 1000 := by omega
  rcases check_eq x hf (by have := h1.2; unfold fits; omega) hn with ⟨_, e⟩ | ⟨c, hc, e1, e2⟩
  · exact e
  exfalso
  unfold F20 at e1
  have w1 : F32 (lLen x.2.1) 1 8 = true := by unfold F32; rw [and_t, iLe_t, iLe_t]; omega
  rw [(F43_ok hf h1).1, bnd_s, iEq_y rfl, nt, sel_f, let_s, w1, iEq_y (show lLen x.2.2.1 = 5 by unfold lLen; omega), nt, or_ff, sel_f] at e1
  have hd : L20_0 ((x.1.1, (x.1.2, x.2)), ([x.2.2.2.1, x.2.2.2.2.1, x.2.2.2.2.2], (lLen [x.2.2.2.1, x.2.2.2.2.1, x.2.2.2.2.2], 0))) = L20_0 (opg x, ([x.2.2.2.1, x.2.2.2.2.1, x.2.2.2.2.2], (lLen [x.2.2.2.1, x.2.2.2.2.1, x.2.2.2.2.2], 0))) := rfl
  rcases L13a_eq x [x.2.2.2.1, x.2.2.2.2.1, x.2.2.2.2.2] (by show 3 ≤ _; decide) with ⟨i, g1, g2, _, e⟩ | ⟨g1, e⟩
  · have g1 : i < 3 := g1
    rcases i with _ | _ | _ | i
    · exact g2 h4
    · exact g2 h5
    · exact g2 h6
    · omega
  · rw [hd, e, bnd_s] at e1
    dsimp only [sumS] at e1
    rcases L13c_eq x hf (by omega) with ⟨i, g1, g2, _, e⟩ | ⟨g1, e⟩
    · exact g2 (frame_ok hf g1 (by omega) (h7 i g1))
    · rw [e, bnd_s] at e1
      have e1 : bndS (F38 x) _ = _ := e1
      rw [(tab_ok h8 hn h3).1] at e1
      cases e1
      exact hc rfl
/-- So it is behind what keeps a memory right. -/
theorem RT_check {x : PAG} (h : RT x) (hs : SML x) : F20 x = some 0 ∧ F24 x = some 0 := check_ok h.few (RT_to h hs)
end Go.Proofs.YtagcodkkkebnhaaGreat.K
end

section
set_option linter.unusedVariables false
set_option linter.unusedSimpArgs false
set_option linter.unnecessarySimpa false
open Go Go.Ev
namespace Go.Proofs.YtagcodkkkebnhaaGreat.K
/-- A frame's page stands before another one's. -/
def lss (x : PAG) (a b : Int) : Prop := (lAt x.2.1 a).2.2.2.1 < (lAt x.2.1 b).2.2.2.1 ∨ ((lAt x.2.1 a).2.2.2.1 = (lAt x.2.1 b).2.2.2.1 ∧ (lAt x.2.1 a).2.2.2.2.1 < (lAt x.2.1 b).2.2.2.2.1)
theorem F93_eq (x : PAG) (a b : Int) (ha : oIn a (lLen x.2.1) = true) (hb : oIn b (lLen x.2.1) = true) : ∃ v, F69 a b x.1.1 x.1.2 x.2.1 x.2.2.1 x.2.2.2.1 x.2.2.2.2.1 x.2.2.2.2.2 = some (opg x, v) ∧ (v < 0 ↔ lss x a b) := by
  unfold F69
  rw [ha, hb, sel_t, sel_t, F89_eq, F89_eq, bnd_s, bnd_s, F88_eq, bnd_s]
  refine ⟨_, rfl, ?_⟩
  unfold lss cmp3
  repeat' split
  all_goals omega
theorem lAt_mid {α : Type} [Inhabited α] (p : List α) (e : α) (r : List α) : lAt (p ++ e :: r) (p.length : Int) = e := by
  rw [lAt_n, List.getElem?_append_right (by omega)]; simp
theorem lSet_mid {α : Type} (p : List α) (e v : α) (r : List α) : lSet (p ++ e :: r) (p.length : Int) v = p ++ v :: r := by
  unfold lSet; rw [Int.toNat_natCast, List.set_append_right _ _ (by omega)]; simp
/-- Not after. -/
def leq (x : PAG) (a b : Int) : Prop := ¬ lss x b a
theorem leq_trans {x : PAG} {a b c : Int} (h : leq x a b) (h' : leq x b c) : leq x a c := by unfold leq lss at *; omega
theorem ins_eq (x : PAG) (n i : Int) (rest : List Int) (hr : ∀ a ∈ rest, oIn a (lLen x.2.1) = true) (pre : List Int) (e : Int) (hlen : (pre ++ e :: rest).length ≤ 1000) (hp : ∀ a ∈ pre, oIn a (lLen x.2.1) = true) (he : oIn e (lLen x.2.1) = true) (hs : pre.Pairwise (leq x)) :
    Ok (L98_2 ((pre ++ e :: rest, opg x), (0, (n, (i, (pre.length : Int)))))) (fun r => ∃ D : List Int, D.Pairwise (leq x) ∧ D.Perm (pre ++ [e]) ∧ r = ((D ++ rest, opg x), (0, (n, i)))) := by
  refine loop_inv (fun m y => ∃ (P S : List Int), P ++ S = pre ∧ (∀ s ∈ S, lss x e s) ∧ y = ((P ++ e :: (S ++ rest), opg x), (0, (n, (i, (P.length : Int))))) ∧ m = P.length) pre.length ⟨pre, [], by simp, by simp, by simp, rfl⟩ (by simp at hlen; omega) ?_
  rintro m y ⟨P, S, h1, h2, rfl, rfl⟩
  show Ok (B98_2 (P ++ e :: (S ++ rest)) x.1.1 x.1.2 x.2.1 x.2.2.1 x.2.2.2.1 x.2.2.2.2.1 x.2.2.2.2.2 0 n i (P.length : Int)) _
  unfold B98_2
  have hll : lLen (P ++ e :: (S ++ rest)) = (P.length : Int) + 1 + S.length + rest.length := by unfold lLen; simp; omega
  rw [oIn_y (a := (P.length : Int)) (by omega), or_tt, sel_t]
  rcases List.eq_nil_or_concat P with rfl | ⟨P', q, rfl⟩
  · have : bOr (oIn (iSub .i64 (([] : List Int).length : Int) 1) (lLen (([] : List Int) ++ e :: (S ++ rest)))) (bNot (iLt 0 (([] : List Int).length : Int))) = true := by
      rw [or_t]; exact .inr rfl
    rw [this, sel_t, iLt_f (by simp), sel_f, ok_some]
    have h1 : S = pre := h1
    subst h1
    refine ⟨e :: S, List.pairwise_cons.2 ⟨fun s hs' => ?_, hs⟩, ?_, rfl⟩
    · have := h2 s hs'; unfold leq lss at *; omega
    · exact (List.perm_append_singleton e S).symm
  · rw [List.concat_eq_append] at *
    have hl1 : ((P' ++ [q]).length : Int) = (P'.length : Int) + 1 := by simp
    have hP : P'.length ≤ 1000 := by have := congrArg List.length h1; simp at this hlen; omega
    have hq : oIn q (lLen x.2.1) = true := hp q (by rw [← h1]; simp)
    have eA : P' ++ [q] ++ e :: (S ++ rest) = P' ++ q :: e :: (S ++ rest) := by simp
    have e1 : lAt (P' ++ [q] ++ e :: (S ++ rest)) ((P' ++ [q]).length : Int) = e := lAt_mid _ _ _
    have e2 : lAt (P' ++ [q] ++ e :: (S ++ rest)) (P'.length : Int) = q := by rw [eA]; exact lAt_mid _ _ _
    rw [sub_n (by omega) (by omega), show ((P' ++ [q]).length : Int) - 1 = (P'.length : Int) by omega, oIn_y (a := (P'.length : Int)) (by omega), or_tt, sel_t, iLt_y (by omega), sel_t, e1, e2]
    obtain ⟨v, ev, hv⟩ := F93_eq x e q he hq
    rw [ev, bnd_s]
    dsimp only
    by_cases hc : lss x e q
    · rw [iLt_y (hv.2 hc), sel_t, sel_t, sel_t, sel_t, set_len, oIn_y (by omega), sel_t, ok_some]
      refine ⟨P'.length, by simp, P', q :: S, by rw [← h1]; simp, ?_, ?_, rfl⟩
      · intro s hs'
        rcases List.mem_cons.1 hs' with rfl | hs'
        · exact hc
        · exact h2 s hs'
      · have e3 : lSet (P' ++ [q] ++ e :: (S ++ rest)) ((P' ++ [q]).length : Int) q = P' ++ q :: q :: (S ++ rest) := by rw [lSet_mid]; simp
        rw [e3, lSet_mid]
        rfl
    · rw [iLt_f (fun h => hc (hv.1 h)), sel_f, ok_some]
      refine ⟨P' ++ [q] ++ e :: S, ?_, ?_, by simp⟩
      · rw [← h1] at hs
        rw [List.pairwise_append] at hs ⊢
        refine ⟨hs.1, List.pairwise_cons.2 ⟨fun s hs' => ?_, hs.2.1⟩, fun a ha b hb => ?_⟩
        · have := h2 s hs'; unfold leq lss at *; omega
        · rcases List.mem_cons.1 hb with rfl | hb
          · rw [List.mem_append] at ha
            rcases ha with ha | ha
            · refine leq_trans ?_ (show leq x q b from hc)
              have h3 := hs.1
              rw [List.pairwise_append] at h3
              exact h3.2.2 a ha q (by simp)
            · rw [List.mem_singleton.1 ha]; exact hc
          · exact hs.2.2 a ha b hb
      · rw [← h1]
        simp only [List.append_assoc]
        refine List.Perm.append_left _ (List.Perm.append_left _ ?_)
        exact (List.perm_append_singleton e S).symm
theorem F107_eq (x : PAG) (l : List Int) (hl : l.length ≤ 12) (hin : ∀ a ∈ l, oIn a (lLen x.2.1) = true) : ∃ D : List Int, D.Pairwise (leq x) ∧ D.Perm l ∧ F98 l 0 (lLen l) x.1.1 x.1.2 x.2.1 x.2.2.1 x.2.2.2.1 x.2.2.2.2.1 x.2.2.2.2.2 = some (D, opg x) := by
  have h : Ok (L98_0 ((l, opg x), (0, (lLen l, 1)))) (fun r => ∃ D : List Int, D.Pairwise (leq x) ∧ D.Perm l ∧ r = (D, opg x)) := by
    refine loop_inv (fun m y => ∃ (D rest : List Int), D.Pairwise (leq x) ∧ (D ++ rest).Perm l ∧ (rest = [] ∨ 1 ≤ D.length) ∧ (∃ i : Int, (if rest = [] then lLen l ≤ i else i = (D.length : Int)) ∧ y = ((D ++ rest, opg x), (0, (lLen l, i)))) ∧ m = rest.length) (l.length - 1) ?_ (by omega) ?_
    · cases l with
      | nil => exact ⟨[], [], by simp, by simp, .inl rfl, ⟨1, by rw [if_pos rfl]; show (0 : Int) ≤ 1; decide, rfl⟩, rfl⟩
      | cons a r =>
        refine ⟨[a], r, by simp, by simp, .inr (by simp), ⟨1, ?_, rfl⟩, by simp⟩
        split
        · rename_i h; subst h; show (1 : Int) ≤ 1; decide
        · rfl
    rintro m y ⟨D, rest, h1, h2, h3, ⟨i, h4, rfl⟩, rfl⟩
    show Ok (B98_0 (D ++ rest) x.1.1 x.1.2 x.2.1 x.2.2.1 x.2.2.2.1 x.2.2.2.2.1 x.2.2.2.2.2 0 (lLen l) i) _
    unfold B98_0
    have hlen := h2.length_eq
    cases rest with
    | nil =>
      rw [if_pos rfl] at h4
      rw [iLt_f (by omega), sel_f, ok_some]
      exact ⟨D, h1, by simpa using h2, by simp⟩
    | cons e r =>
      rw [if_neg (by simp)] at h4
      subst h4
      have hmem : ∀ a ∈ D ++ e :: r, oIn a (lLen x.2.1) = true := fun a ha => hin a (h2.mem_iff.1 ha)
      have hD : D.length ≤ 12 := by simp at hlen; omega
      have hn : lLen l = (D.length : Int) + 1 + r.length := by unfold lLen; simp at hlen; omega
      rw [iLt_y (by omega), sel_t]
      obtain ⟨w, e1, D', g1, g2, rfl⟩ := ins_eq x (lLen l) (D.length : Int) r (fun a ha => hmem a (by simp [ha])) D e (by omega) (fun a ha => hmem a (by simp [ha])) (hmem e (by simp)) h1
      have e1' : L98_2 ((D ++ e :: r, (x.1.1, (x.1.2, (x.2.1, (x.2.2.1, (x.2.2.2.1, (x.2.2.2.2.1, x.2.2.2.2.2))))))), (0, (lLen l, ((D.length : Int), (D.length : Int))))) = some ((D' ++ r, opg x), (0, (lLen l, (D.length : Int)))) := e1
      rw [e1', bnd_s, ok_some]
      have hd := g2.length_eq
      simp at hd
      refine ⟨r.length, by simp, D', r, g1, ?_, .inr (by omega), ⟨(D'.length : Int), ?_, ?_⟩, rfl⟩
      · refine List.Perm.trans (List.Perm.append_right r g2) ?_
        simpa using h2
      · split
        · rename_i hr; subst hr; simp at hn; omega
        · rfl
      · dsimp only
        rw [add_n (by omega) (by omega), hd]
        rfl
  unfold F98
  obtain ⟨w, e, D, h1, h2, rfl⟩ := h
  refine ⟨D, h1, h2, ?_⟩
  rw [add_n (a := 0) (by decide) (by decide)]
  have e' : L98_0 ((l, (x.1.1, (x.1.2, (x.2.1, (x.2.2.1, (x.2.2.2.1, (x.2.2.2.2.1, x.2.2.2.2.2))))))), (0, (lLen l, 0 + 1))) = some (D, opg x) := e
  rw [e']
  rfl
theorem F104_ok : ∀ k : Nat, k ≤ 8 → ∃ m, F90 (iCv .u64 (k : Int)) = some m
  | 0, _ => ⟨0, by kernel_rfl⟩
  | 1, _ => ⟨1, by kernel_rfl⟩
  | 2, _ => ⟨2, by kernel_rfl⟩
  | 3, _ => ⟨2, by kernel_rfl⟩
  | 4, _ => ⟨3, by kernel_rfl⟩
  | 5, _ => ⟨3, by kernel_rfl⟩
  | 6, _ => ⟨3, by kernel_rfl⟩
  | 7, _ => ⟨3, by kernel_rfl⟩
  | 8, _ => ⟨4, by kernel_rfl⟩
  | k + 9, h => by omega
theorem F92_eq (x : PAG) (l : List Int) (hl : l.length ≤ 8) (hin : ∀ a ∈ l, oIn a (lLen x.2.1) = true) : ∃ D : List Int, D.Pairwise (leq x) ∧ D.Perm l ∧ F68 l x.1.1 x.1.2 x.2.1 x.2.2.1 x.2.2.2.1 x.2.2.2.2.1 x.2.2.2.2.2 = some (D, opg x) := by
  obtain ⟨D, h1, h2, e⟩ := F107_eq x l (by omega) hin
  obtain ⟨m, em⟩ := F104_ok l.length hl
  refine ⟨D, h1, h2, ?_⟩
  unfold F68 F89
  have : lLen l = (l.length : Int) := rfl
  rw [this, em, bnd_s]
  have hb : L89_0 ((l, opg x), (0, ((l.length : Int), (m, (true, true))))) = some (D, opg x) := by
    rw [← ok_is]
    refine loop_inv (fun _ y => y = ((l, opg x), (0, ((l.length : Int), (m, (true, true)))))) 1 rfl (by decide) ?_
    rintro _ y rfl
    show Ok (B89_0 l x.1.1 x.1.2 x.2.1 x.2.2.1 x.2.2.2.1 x.2.2.2.2.1 x.2.2.2.2.2 0 (l.length : Int) m true true) _
    unfold B89_0
    rw [sub_n (by omega) (by omega), iLe_y (by omega), sel_t]
    have e' : F98 l 0 (l.length : Int) x.1.1 x.1.2 x.2.1 x.2.2.1 x.2.2.2.1 x.2.2.2.2.1 x.2.2.2.2.2 = some (D, opg x) := e
    rw [e', bnd_s, ok_some]
  show bndS (bndS (L89_0 ((l, opg x), (0, ((l.length : Int), (m, (true, true)))))) _) _ = _
  rw [hb]
  rfl
end Go.Proofs.YtagcodkkkebnhaaGreat.K
end

section
set_option linter.unusedVariables false
set_option linter.unusedSimpArgs false
set_option linter.unnecessarySimpa false
open Go Go.Ev
namespace Go.Proofs.YtagcodkkkebnhaaGreat.K
/-- The frames whose pages were changed. -/
def chgT (x : PAG) (i : Nat) : List Int := ((List.range i).filter fun k => (fAt x k).2.2.1).map fun k : Nat => (k : Int)
abbrev chg (x : PAG) : List Int := chgT x x.2.1.length
theorem chgT_mem {x : PAG} {i : Nat} {a : Int} : a ∈ chgT x i ↔ ∃ k, k < i ∧ a = (k : Int) ∧ (fAt x k).2.2.1 = true := by
  unfold chgT
  simp only [List.mem_map, List.mem_filter, List.mem_range]
  constructor
  · rintro ⟨k, ⟨h1, h2⟩, rfl⟩; exact ⟨k, h1, rfl, h2⟩
  · rintro ⟨k, h1, rfl, h2⟩; exact ⟨k, ⟨h1, h2⟩, rfl⟩
theorem chgT_nodup (x : PAG) (i : Nat) : (chgT x i).Nodup := by
  unfold chgT
  have h := (List.nodup_range (n := i)).filter fun k => (fAt x k).2.2.1
  rw [List.nodup_iff_pairwise_ne] at *
  rw [List.pairwise_map]
  exact h.imp fun h => by omega
theorem chgT_s (x : PAG) (i : Nat) : chgT x (i + 1) = chgT x i ++ if (fAt x i).2.2.1 = true then [(i : Int)] else [] := by
  unfold chgT
  rw [List.range_succ, List.filter_append, List.map_append]
  congr 1
  by_cases h : (fAt x i).2.2.1 = true
  · simp [h]
  · simp [h]
theorem chgT_len (x : PAG) (i : Nat) : (chgT x i).length ≤ i := by
  unfold chgT
  rw [List.length_map]
  have := List.length_filter_le (fun k => (fAt x k).2.2.1) (List.range i)
  simpa using this
theorem L63_eq (x : PAG) (hn : x.2.1.length ≤ 8) : L40_0 (opg x, (([] : List Int), (x.2.1, (lLen x.2.1, 0)))) = some (opg x, chg x) := by
  refine iter_run (fun i => (opg x, (chgT x i, (x.2.1, (lLen x.2.1, (i : Int)))))) x.2.1.length (by omega) ?_ ?_
  · intro i hi
    show B40_0 x.1.1 x.1.2 x.2.1 x.2.2.1 x.2.2.2.1 x.2.2.2.2.1 x.2.2.2.2.2 (chgT x i) x.2.1 (lLen x.2.1) i = _
    unfold B40_0
    have hc := chgT_len x i
    rw [iLt_y (by unfold lLen; omega), sel_t, oIn_fr hi, sel_t, add_n (by omega) (by omega), chgT_s]
    by_cases h : (fAt x i).2.2.1 = true
    · have h' : (lAt x.2.1 (i : Int)).2.2.1 = true := h
      rw [h', sel_t, lCap_y (by decide) (by decide) (by simp [lApp]; omega), sel_t, if_pos rfl]
      rfl
    · have h' : (lAt x.2.1 (i : Int)).2.2.1 = false := by simpa using h
      rw [h', sel_f, if_neg (by decide), List.append_nil]
      rfl
  · show B40_0 x.1.1 x.1.2 x.2.1 x.2.2.1 x.2.2.2.1 x.2.2.2.2.1 x.2.2.2.2.2 (chgT x x.2.1.length) x.2.1 (lLen x.2.1) x.2.1.length = _
    unfold B40_0
    rw [iLt_f (by unfold lLen; omega), sel_f]
theorem chg_used {x : PAG} (hx : RT x) {k : Nat} (hk : k < x.2.1.length) (h : (fAt x k).2.2.1 = true) : (fAt x k).2.1 = true := by
  rcases (hx.fs k hk).2 with ⟨_, e⟩ | ⟨h, _⟩
  · rw [e] at h; cases h
  · exact h
/-- The changed frames, sorted by their pages. -/
theorem F63_eq {x : PAG} (hx : RT x) : ∃ L, F40 x = some L ∧ L.Perm (chg x) ∧ L.Pairwise (lss x) := by
  have h8 := hx.n8
  obtain ⟨D, h1, h2, e⟩ := F92_eq x (chg x) (by have := chgT_len x x.2.1.length; show (chgT x x.2.1.length).length ≤ 8; omega) (fun a ha => by obtain ⟨k, hk, rfl, _⟩ := chgT_mem.1 ha; exact oIn_fr hk)
  refine ⟨D, ?_, h2, ?_⟩
  · unfold F40
    show bndS (L40_0 (opg x, (([] : List Int), (x.2.1, (lLen x.2.1, 0))))) _ = _
    rw [L63_eq x h8, bnd_s]
    show bndS (F68 (chg x) x.1.1 x.1.2 x.2.1 x.2.2.1 x.2.2.2.1 x.2.2.2.2.1 x.2.2.2.2.2) _ = _
    rw [e]
    rfl
  · have hnd : D.Nodup := h2.symm.nodup (chgT_nodup x _)
    rw [List.nodup_iff_pairwise_ne] at hnd
    refine (h1.and hnd).imp_of_mem ?_
    rintro a b ha hb ⟨h3, h4⟩
    obtain ⟨k, k1, rfl, k2⟩ := chgT_mem.1 (h2.mem_iff.1 ha)
    obtain ⟨j, j1, rfl, j2⟩ := chgT_mem.1 (h2.mem_iff.1 hb)
    unfold leq lss at *
    have hne : ¬ ((fAt x k).2.2.2.1 = (fAt x j).2.2.2.1 ∧ (fAt x k).2.2.2.2.1 = (fAt x j).2.2.2.2.1) := by
      rintro ⟨e1, e2⟩
      have := hx.un _ _ k j k1 j1 ⟨chg_used hx k1 k2, rfl, rfl⟩ ⟨chg_used hx j1 j2, e1.symm, e2.symm⟩
      omega
    unfold fAt at hne
    omega
def unc (f : FRM) : FRM := (f.1, (f.2.1, (false, f.2.2.2)))
/-- Pages of frames are written, one after the other. -/
structure SV (x z : PAG) (L : List Int) : Prop where
  rt : RT z
  vw : VW x z
  sh : shp z.1 = shp x.1
  ln : z.2.1.length = x.2.1.length
  hd : z.2.2.1 = x.2.2.1
  tm : z.2.2.2.1 = x.2.2.2.1
  rd : z.2.2.2.2.1 = x.2.2.2.2.1
  wr : z.2.2.2.2.2 = x.2.2.2.2.2 + L.length
  fs : ∀ k, k < x.2.1.length → fAt z k = if (k : Int) ∈ L then unc (fAt x k) else fAt x k
def usedIn (x : PAG) (L : List Int) : Prop := ∀ a ∈ L, ∃ k, k < x.2.1.length ∧ a = (k : Int) ∧ (fAt x k).2.1 = true
theorem savs_ok : ∀ {L : List Int} {x : PAG}, RT x → L.Nodup → usedIn x L → SV x (L.foldl sav x) L
  | [], x, hx, _, _ => ⟨hx, fun _ _ _ => rfl, rfl, rfl, rfl, rfl, rfl, by simp, fun k hk => by rw [if_neg (by simp)]; rfl⟩
  | a :: L, x, hx, hd, hu => by
    obtain ⟨h1, h2⟩ := List.nodup_cons.1 hd
    obtain ⟨i, hi, rfl, hui⟩ := hu a (by simp)
    obtain ⟨r1, w1⟩ := sav_RT hx hi hui
    have u1 := sav_up hx hi hui
    have fa : ∀ k, k < x.2.1.length → fAt (sav x i) k = if k = i then unc (fAt x i) else fAt x k := by
      intro k hk
      by_cases e : k = i
      · subst e; rw [if_pos rfl]; exact sav_at hk
      · rw [if_neg e]
        show lAt (lSet x.2.1 (i : Int) _) (k : Int) = _
        rw [set_at _ _ _ _ hi, if_neg e]
    have hu' : usedIn (sav x i) L := by
      intro b hb
      obtain ⟨k, hk, rfl, hk2⟩ := hu b (by simp [hb])
      refine ⟨k, by rw [u1.ln]; exact hk, rfl, ?_⟩
      rw [fa k hk]
      split
      · rename_i e; subst e; exact hk2
      · exact hk2
    have ih := savs_ok r1 h2 hu'
    refine ⟨ih.rt, w1.trans ih.vw u1.sh, ih.sh.trans u1.sh, ih.ln.trans u1.ln, ih.hd, ih.tm, ih.rd, ?_, fun k hk => ?_⟩
    · rw [List.foldl_cons, ih.wr]
      show x.2.2.2.2.2 + 1 + (L.length : Int) = x.2.2.2.2.2 + (((i : Int) :: L).length : Int)
      rw [List.length_cons]
      omega
    · rw [List.foldl_cons, ih.fs k (by rw [u1.ln]; exact hk), fa k hk]
      by_cases e : k = i
      · subst e
        rw [if_neg h1, if_pos rfl, if_pos (by simp)]
      · have : ((k : Int) ∈ (i : Int) :: L) = ((k : Int) ∈ L) := by
          rw [List.mem_cons]
          exact propext ⟨fun h => h.resolve_left (by omega), .inr⟩
        rw [if_neg e]
        simp only [this]
theorem vb_clean {z : PAG} (hz : RT z) (hc : ∀ k, k < z.2.1.length → (fAt z k).2.2.1 = false) (n : Int) (j : Nat) : vb z n j = sb z.1 n j := by
  by_cases h : ∃ k, k < z.2.1.length ∧ isK (fAt z k) n ((j : Int) / 32)
  · obtain ⟨k, k1, k2⟩ := h
    rw [vb_y hz.un k1 k2]
    obtain ⟨_, _, _, f4⟩ := rf_used (hz.fs k k1) k2.1
    rw [f4 (hc k k1), k2.2.1, k2.2.2]
    exact byt_mod rfl
  · exact vb_n fun k a b => h ⟨k, a, b⟩
/-- The memory's store. -/
def isS (x : PAG) (t : STO) : Prop := shp t = shp x.1 ∧ ∀ (n : Int) (j : Nat), 0 ≤ place x.1.1 n → sb t n j = vb x n j
theorem isS_uniq {x : PAG} (hx : RT x) {s t : STO} (h : isS x s) (h' : isS x t) : s = t := by
  refine sto_ext (h.1.trans h'.1.symm) (shp_ok h.1.symm hx.sto) fun n j hp => ?_
  rw [shp_place h.1] at hp
  rw [h.2 n j hp, h'.2 n j hp]
/-- All changed pages written: the store on disk is the memory's one. -/
theorem SV.isS {x z : PAG} {L : List Int} (h : SV x z L) (hc : ∀ k, k < x.2.1.length → (fAt x k).2.2.1 = true → (k : Int) ∈ L) : isS x z.1 := by
  refine ⟨h.sh, fun n j hp => ?_⟩
  rw [← vb_clean h.rt (fun k hk => ?_), h.vw n j hp]
  rw [h.ln] at hk
  rw [h.fs k hk]
  split
  · rfl
  · rename_i hm
    have := mt (hc k hk) hm
    simpa using this
theorem chg_perm_used {x : PAG} (hx : RT x) {L : List Int} (h : L.Perm (chg x)) : L.Nodup ∧ usedIn x L := by
  refine ⟨h.symm.nodup (chgT_nodup x _), fun a ha => ?_⟩
  obtain ⟨k, hk, e, h2⟩ := chgT_mem.1 (h.mem_iff.1 ha)
  exact ⟨k, hk, e, chg_used hx hk h2⟩
theorem chg_perm_all {x : PAG} {L : List Int} (h : L.Perm (chg x)) (k : Nat) (hk : k < x.2.1.length) (hc : (fAt x k).2.2.1 = true) : (k : Int) ∈ L := h.mem_iff.2 (chgT_mem.2 ⟨k, hk, rfl, hc⟩)
/-- One page more is written. -/
theorem F64_fold {x : PAG} {D R : List Int} {a : Int} (hx : RT x) (hd : (D ++ a :: R).Nodup) (hu : usedIn x (D ++ a :: R)) (hw : 0 ≤ x.2.2.2.2.2 ∧ x.2.2.2.2.2 ≤ 1000000000000000) (hl : D.length ≤ 100) (z : PAG) (hz : z = D.foldl sav x) : F41 z.1.1 z.1.2 z.2.1 z.2.2.1 z.2.2.2.1 z.2.2.2.2.1 z.2.2.2.2.2 a = some (opg ((D ++ [a]).foldl sav x)) := by
  have hv := savs_ok (L := D) hx (hd.sublist (List.sublist_append_left _ _)) (fun b hb => hu b (by simp [hb]))
  obtain ⟨k, hk, rfl, hk2⟩ := hu a (by simp)
  have hnm : ¬ (k : Int) ∈ D := by
    intro h
    rw [List.nodup_append] at hd
    exact hd.2.2 _ h _ (by simp) rfl
  rw [List.foldl_append, ← hz]
  rw [← hz] at hv
  refine F64_eq hv.rt (by rw [hv.ln]; exact hk) ?_ ?_
  · rw [hv.fs k hk, if_neg hnm]; exact hk2
  · rw [hv.wr]; omega
end Go.Proofs.YtagcodkkkebnhaaGreat.K
end

section
set_option linter.unusedVariables false
set_option linter.unusedSimpArgs false
set_option linter.unnecessarySimpa false
open Go Go.Ev
namespace Go.Proofs.YtagcodkkkebnhaaGreat.K
theorem F51_RT {x : PAG} (hx : RT x) : F30 x = some (opg x) := F51_eq x (by have := hx.few.1; omega) (by have := hx.n8; omega) (by have := hx.h5; omega)
theorem F14_RT {x : PAG} (hx : RT x) : F8 x = some (opg x) := F14_eq x (by have := hx.few.1; omega) (by have := hx.n8; omega) (by have := hx.h5; omega)
theorem SML_w {x : PAG} (h : SML x) : 0 ≤ x.2.2.2.2.2 ∧ x.2.2.2.2.2 ≤ 1000000000000000 := by have := h.2.2; unfold inN at this; omega
theorem chg_len {x : PAG} (hx : RT x) : (chg x).length ≤ 8 := Nat.le_trans (chgT_len x _) hx.n8
theorem F95_eq {b v : ByteArray} {a : Int} (h0 : 0 ≤ a) (h : a + sLen v ≤ sLen b) (hb : sLen b ≤ 1000) : F54 b a v = some (put b a v) := by
  have h1 := sLen_nn v
  unfold F54
  rw [add_n (by omega) (by omega), oCut_y (by omega), sOk_n (by rw [scut_len _ (by omega) (by omega) (by omega)]; omega), oCut_y (by omega), sOk_n (by rw [sadd_len, scut_len _ (by omega) (by omega) (by omega), scut_len _ (by omega) (by omega) (by omega)]; omega)]
  rfl
theorem F65_eq {s : STO} {f : FRM} (hf : fewS s) (hp : hasP s f.2.2.2.1 f.2.2.2.2.1) (h32 : sLen f.2.2.2.2.2.1 = 32) : F52 s f = some (putS s f.2.2.2.1 (f.2.2.2.2.1 * 32) f.2.2.2.2.2.1) := by
  have hl := hf.1
  have h1 := hasP_end hp
  have h2 := hp.2.1
  obtain ⟨i, hi, _, _, e⟩ := place_in hp.1
  have h3 := hf.2 i hi
  unfold sgB at h1
  rw [e] at h1
  unfold F52 putS
  rw [F18_eq s (by omega), bnd_s, F90_eq s _ (by omega), bnd_s, e]
  rw [oIn_y (by unfold lLen; omega), sel_t, mul_n (by omega) (by omega), F95_eq (by omega) (by omega) (by omega), bnd_s, sel_t]
end Go.Proofs.YtagcodkkkebnhaaGreat.K
end

section
set_option linter.unusedVariables false
set_option linter.unusedSimpArgs false
set_option linter.unnecessarySimpa false
open Go Go.Ev
namespace Go.Proofs.YtagcodkkkebnhaaGreat.K
theorem F61_eq {x : PAG} {n p : Int} (hx : RT x) (hp : hasP x.1 n p) : ∃ m, F81 x n p = some (fidx n p x.2.1, m) := by
  obtain ⟨c, l, hc, e, hl, hlen, hin⟩ := chain_of hx hp
  have hn' : x.2.1.length ≤ 1000 := by have := hx.n8; omega
  have ho : oIn (c : Int) (lLen x.2.2.1) = true := oIn_y (by unfold lLen; rw [hx.h5]; omega)
  have e76 : F78 n p = some (c : Int) := by rw [← e]; rfl
  have e1 : F81 x n p = bndS (L81_0 (n, (p, (opg x, (l, 0))))) fun y2 => sumS y2 (fun y2a => some (-1, lLen y2a)) fun y2b => some y2b := by
    unfold F81 F94
    rw [e76, bnd_s, F48_eq hl hn' ho]
    rfl
  rw [e1]
  rcases L61_eq x n p l hlen (CH_in hl) with ⟨i, h1, h2, h3, k1⟩ | ⟨h1, k1⟩
  · obtain ⟨k, g1, g2, g3, g4⟩ := gd_nat (hl.2.2 (lAt l (i : Int)) (lAt_mem.1 ⟨i, h1, rfl⟩))
    rw [g2] at h2
    rw [fidx_y hx.un g1 ⟨g3, h2⟩, k1, g2]
    exact ⟨_, rfl⟩
  · rw [k1, fidx_n fun k hk hi => ?_]
    · exact ⟨_, rfl⟩
    · obtain ⟨i, h2, h3⟩ := lAt_mem.2 (hin k hk hi)
      exact h1 i h2 (by rw [h3]; exact hi.2)
def lt2 (a b : Int × Int) : Prop := a.1 < b.1 ∨ (a.1 = b.1 ∧ a.2 < b.2)
theorem lt2_uniq : ∀ {l m : List (Int × Int)}, l.Pairwise lt2 → m.Pairwise lt2 → (∀ a, a ∈ l ↔ a ∈ m) → l = m
  | [], [], _, _, _ => rfl
  | [], b :: m, _, _, h => by have := (h b).2 (by simp); simp at this
  | a :: l, [], _, _, h => by have := (h a).1 (by simp); simp at this
  | a :: l, b :: m, h1, h2, h => by
    obtain ⟨p1, p2⟩ := List.pairwise_cons.1 h1
    obtain ⟨q1, q2⟩ := List.pairwise_cons.1 h2
    have e : a = b := by
      rcases List.mem_cons.1 ((h a).1 (by simp)) with e | e
      · exact e
      · rcases List.mem_cons.1 ((h b).2 (by simp)) with e' | e'
        · exact e'.symm
        · have := q1 a e; have := p1 b e'; unfold lt2 at *; omega
    subst e
    rw [lt2_uniq p2 q2 fun c => ?_]
    constructor
    · intro hc
      rcases List.mem_cons.1 ((h c).1 (by simp [hc])) with e | e
      · subst e; have := p1 c hc; unfold lt2 at this; omega
      · exact e
    · intro hc
      rcases List.mem_cons.1 ((h c).2 (by simp [hc])) with e | e
      · subst e; have := q1 c hc; unfold lt2 at this; omega
      · exact e
/-- Where a frame's page begins. -/
def adr (x : PAG) (a : Int) : Int × Int := ((lAt x.2.1 a).2.2.2.1, (lAt x.2.1 a).2.2.2.2.1 * 32)
/-- The addresses of changed pages. -/
def isC (x : PAG) (l : List (Int × Int)) : Prop := l.Pairwise lt2 ∧ ∀ q, q ∈ l ↔ ∃ k, k < x.2.1.length ∧ (fAt x k).2.2.1 = true ∧ q = adr x (k : Int)
/-- Changed pages as0 far as0 the specification has come. -/
def upTo (x : PAG) (l : List (Int × Int)) (i q : Int) : Prop := l.Pairwise lt2 ∧ (l.length : Int) ≤ 10 * i + q ∧ ∀ c, c ∈ l ↔ ∃ k, k < x.2.1.length ∧ (fAt x k).2.2.1 = true ∧ c = adr x (k : Int) ∧ (place x.1.1 (fAt x k).2.2.2.1 < i ∨ (place x.1.1 (fAt x k).2.2.2.1 = i ∧ (fAt x k).2.2.2.2.1 < q))
theorem isC_uniq {x : PAG} {l m : List (Int × Int)} (h : isC x l) (h' : isC x m) : l = m := lt2_uniq h.1 h'.1 fun a => (h.2 a).trans (h'.2 a).symm
end Go.Proofs.YtagcodkkkebnhaaGreat.K
end

section
set_option linter.unusedVariables false
set_option linter.unusedSimpArgs false
set_option linter.unnecessarySimpa false
open Go Go.Ev
namespace Go.Proofs.YtagcodkkkebnhaaGreat.K
/-- Bytes of a frame are changed. -/
def wrt (y : PAG) (k a : Int) (v : ByteArray) : PAG := frS y k ((lAt y.2.1 k).1, ((lAt y.2.1 k).2.1, (true, ((lAt y.2.1 k).2.2.2.1, ((lAt y.2.1 k).2.2.2.2.1, (put (lAt y.2.1 k).2.2.2.2.2.1 a v, (lAt y.2.1 k).2.2.2.2.2.2))))))
theorem wrt_ok {y : PAG} {k a : Nat} {v : ByteArray} {n : Int} {q : Nat} (hy : RT y) (hk : k < y.2.1.length) (hK : isK (fAt y k) n q) (hv : a + sLen v ≤ 32) : RT (wrt y k a v) ∧ UP y (wrt y k a v) k ∧ isK (fAt (wrt y k a v) k) n q ∧ (fAt (wrt y k a v) k).1 = (fAt y k).1 ∧
    ∀ (m : Int) (j : Nat), 0 ≤ place y.1.1 m → vb (wrt y k a v) m j = if m = n ∧ q * 32 + a ≤ j ∧ j < q * 32 + a + sLen v then byt v (j - (q * 32 + a)) else vb y m j := by
  obtain ⟨f1, f2, f3, _⟩ := rf_used (hy.fs k hk) hK.1
  have hvn := sLen_nn v
  have ek := frS_at hk ((lAt y.2.1 (k : Int)).1, ((lAt y.2.1 (k : Int)).2.1, (true, ((lAt y.2.1 (k : Int)).2.2.2.1, ((lAt y.2.1 (k : Int)).2.2.2.2.1, (put (lAt y.2.1 (k : Int)).2.2.2.2.2.1 a v, (lAt y.2.1 (k : Int)).2.2.2.2.2.2))))))
  have ei : fAt (wrt y k a v) k = ((fAt y k).1, ((fAt y k).2.1, (true, ((fAt y k).2.2.2.1, ((fAt y k).2.2.2.2.1, (put (fAt y k).2.2.2.2.2.1 a v, (fAt y k).2.2.2.2.2.2)))))) := by
    unfold wrt; rw [ek, if_pos rfl]
  have hR : RT (wrt y k a v) := by
    refine frS_RT hy hk rfl rfl ⟨(hy.fs k hk).1, .inr ⟨hK.1, f1, ?_, f3, fun h => by cases h⟩⟩
    show sLen (put (fAt y k).2.2.2.2.2.1 a v) = 32
    rw [put_len _ _ _ (by rw [f2]; exact hv), f2]
  have u : UP y (wrt y k a v) k := frS_up hk _
  have hK' : isK (fAt (wrt y k a v) k) n q := by rw [ei]; exact hK
  refine ⟨hR, u, hK', by rw [ei], fun m j hm => ?_⟩
  by_cases hjk : m = n ∧ (j : Int) / 32 = q
  · obtain ⟨rfl, hjq⟩ := hjk
    rw [vb_y hR.un (by rw [u.ln]; exact hk) (by rw [hjq]; exact hK'), ei]
    dsimp only
    rw [byt_put _ _ _ _ (by rw [f2]; exact hv), vb_y hy.un hk (by rw [hjq]; exact hK)]
    by_cases hc : a ≤ j % 32 ∧ ((j % 32 : Nat) : Int) < a + sLen v
    · rw [if_pos hc, if_pos ⟨rfl, by omega, by omega⟩]
      congr 1
      omega
    · rw [if_neg hc, if_neg]
      rintro ⟨_, h1, h2⟩
      exact hc ⟨by omega, by omega⟩
  · rw [if_neg (by rintro ⟨h1, h2, h3⟩; exact hjk ⟨h1, by omega⟩)]
    by_cases hex : ∃ i, i < y.2.1.length ∧ isK (fAt y i) m ((j : Int) / 32)
    · obtain ⟨i, hi, hI⟩ := hex
      have hik : i ≠ k := by
        rintro rfl
        exact hjk ⟨hI.2.1.symm.trans hK.2.1, hI.2.2.symm.trans hK.2.2⟩
      rw [vb_y hy.un hi hI, vb_y hR.un (by rw [u.ln]; exact hi) (by rw [u.isK hi hik]; exact hI)]
      have := (u.fs i hi hik).1
      simp only [fN, Prod.mk.injEq] at this
      rw [this.2.2.2.2.2.1]
    · have hn : ∀ i, i < y.2.1.length → ¬ isK (fAt y i) m ((j : Int) / 32) := fun i a b => hex ⟨i, a, b⟩
      rw [vb_n hn, vb_n (x := wrt y k a v)]
      · rfl
      · intro i hi hI
        rw [u.ln] at hi
        by_cases hik : i = k
        · subst hik
          exact hjk ⟨hI.2.1.symm.trans hK'.2.1, hI.2.2.symm.trans hK'.2.2⟩
        · rw [u.isK hi hik] at hI
          exact hn i hi hI
/-- How many bytes a step moves. -/
def siz (off n a : Int) : Int := if off + n - a < 32 - a % 32 then off + n - a else 32 - a % 32
/-- A step of an access. -/
noncomputable def stp (kind pool seg off n : Int) (b : ByteArray) (y : PAG) (a : Int) : PAG :=
  if kind = 0 then (useM y seg (a / 32) pool).1 else wrt (useM y seg (a / 32) pool).1 (useM y seg (a / 32) pool).2 (a % 32) (sCut b (a - off) (a - off + siz off n a))
noncomputable def outM (kind pool seg off n : Int) (y : PAG) (a : Int) (out : ByteArray) : ByteArray :=
  if kind = 0 then sAdd out (sCut (lAt (useM y seg (a / 32) pool).1.2.1 (useM y seg (a / 32) pool).2).2.2.2.2.2.1 (a % 32) (a % 32 + siz off n a)) else out
noncomputable def movM (kind pool seg off n : Int) (b : ByteArray) : Nat → PAG → Int → ByteArray → PAG × ByteArray
  | 0, y, _, out => (y, out)
  | f + 1, y, a, out => if a < off + n then movM kind pool seg off n b f (stp kind pool seg off n b y a) (a + siz off n a) (outM kind pool seg off n y a out) else (y, out)
/-- Bytes of a segment that can be reached. -/
def rdOK (s : STO) (seg off n : Int) : Prop := 0 ≤ place s.1 seg ∧ 0 ≤ off ∧ 0 ≤ n ∧ off + n ≤ sLen (sgB s seg)
/-- What stays right while an access goes on. -/
structure BI (x y : PAG) (t : Nat) : Prop where
  rt : RT y
  sh : shp y.1 = shp x.1
  ln : y.2.1.length = x.2.1.length
  pl : ∀ k, k < x.2.1.length → (fAt y k).1 = (fAt x k).1
  tm : y.2.2.2.1 = x.2.2.2.1 + t
  rd : x.2.2.2.2.1 ≤ y.2.2.2.2.1 ∧ y.2.2.2.2.1 ≤ x.2.2.2.2.1 + t
  wr : x.2.2.2.2.2 ≤ y.2.2.2.2.2 ∧ y.2.2.2.2.2 ≤ x.2.2.2.2.2 + t
theorem BI.bst {x y : PAG} {t : Nat} (h : BI x y t) {pool : Int} (hb : K.bst x pool x.2.1.length ≠ -1) : K.bst y pool y.2.1.length ≠ -1 := by
  rw [bst_ex] at hb ⊢
  obtain ⟨k, h1, h2⟩ := hb
  exact ⟨k, by rw [h.ln]; exact h1, by rw [h.pl k h1]; exact h2⟩
theorem USE.BI {x y z : PAG} {n p pool : Int} {k t : Nat} (h : BI x y t) (hu : USE y z n p pool k) : BI x z (t + 1) := by
  refine ⟨hu.rt, hu.up.sh.trans h.sh, hu.up.ln.trans h.ln, fun i hi => ?_, ?_, ?_, ?_⟩
  · rw [← h.pl i hi]
    by_cases e : i = k
    · subst e; exact hu.pl
    · have := (hu.up.fs i (by rw [h.ln]; exact hi) e).1
      simp only [fN, Prod.mk.injEq] at this
      exact this.1
  · rw [hu.tm, h.tm]; omega
  · have h1 := h.rd
    rcases hu.hm with ⟨_, e, _⟩ | ⟨_, _, e, _⟩
    · have : z.2.2.2.2.1 = y.2.2.2.2.1 := congrArg (fun q => q.1) e
      omega
    · omega
  · have h1 := h.wr
    rcases hu.hm with ⟨_, e, _⟩ | ⟨_, _, _, e, _⟩
    · have : z.2.2.2.2.2 = y.2.2.2.2.2 := congrArg (fun q => q.2) e
      omega
    · split at e <;> omega
theorem siz_pos {off n a : Int} (h : off ≤ a ∧ a < off + n) (h0 : 0 ≤ off) : 0 < siz off n a ∧ a % 32 + siz off n a ≤ 32 ∧ a + siz off n a ≤ off + n ∧ (a + siz off n a = off + n ∨ (a + siz off n a) % 32 = 0) := by
  unfold siz; split <;> omega
/-- A step of an access keeps a memory right. -/
theorem stp_use {x y : PAG} {t : Nat} {pool seg off n : Int} (h : BI x y t) (ht : 0 ≤ x.2.2.2.1) (hr : rdOK x.1 seg off n) (hpo : 0 ≤ pool ∧ pool ≤ 2) (hb : bst x pool x.2.1.length ≠ -1) {a : Int} (ha : off ≤ a ∧ a < off + n) : hasP y.1 seg (a / 32) ∧ bst y pool y.2.1.length ≠ -1 ∧ ∃ k : Nat, (useM y seg (a / 32) pool).2 = (k : Int) ∧ USE y (useM y seg (a / 32) pool).1 seg (a / 32) pool k := by
  obtain ⟨h1, h2, h3, h4⟩ := hr
  have hp : hasP y.1 seg (a / 32) := by
    obtain ⟨q, rfl⟩ := Int.eq_ofNat_of_zero_le (show 0 ≤ a by omega)
    refine hasP_of h.rt.sto (by rw [shp_place h.sh]; exact h1) ?_
    rw [shp_sg h.sh (by rw [shp_place h.sh]; exact h1)]
    omega
  have hb' := h.bst hb
  exact ⟨hp, hb', useM_ok h.rt (by rw [h.tm]; omega) hp hpo hb'⟩
theorem stp_BI {x y : PAG} {t : Nat} {kind pool seg off n : Int} {b : ByteArray} (h : BI x y t) (ht : 0 ≤ x.2.2.2.1) (hr : rdOK x.1 seg off n) (hpo : 0 ≤ pool ∧ pool ≤ 2) (hb : bst x pool x.2.1.length ≠ -1) (hk : kind = 0 ∨ sLen b = n) {a : Int} (ha : off ≤ a ∧ a < off + n) : BI x (stp kind pool seg off n b y a) (t + 1) := by
  obtain ⟨hp, hb', k, e, hu⟩ := stp_use h ht hr hpo hb ha
  obtain ⟨s1, s2, s3, s4⟩ := siz_pos ha hr.2.1
  unfold stp
  have hB := hu.BI h
  split
  · exact hB
  · rename_i hk0
    have hbn : sLen b = n := hk.resolve_left hk0
    have ha0 : 0 ≤ a := by have := hr.2.1; omega
    obtain ⟨q, hq⟩ := Int.eq_ofNat_of_zero_le (show 0 ≤ a / 32 by omega)
    obtain ⟨r, hr'⟩ := Int.eq_ofNat_of_zero_le (show 0 ≤ a % 32 by omega)
    have hc : sLen (sCut b (a - off) (a - off + siz off n a)) = siz off n a := by rw [scut_len _ (by omega) (by omega) (by omega)]; omega
    have hK : isK (fAt (useM y seg (a / 32) pool).1 k) seg (q : Int) := by rw [← hq]; exact hu.isk
    rw [e, hr']
    obtain ⟨w1, w2, w3, w4, _⟩ := wrt_ok (v := sCut b (a - off) (a - off + siz off n a)) (a := r) hu.rt (by rw [hu.up.ln]; exact hu.kl) hK (by rw [hc]; omega)
    refine ⟨w1, w2.sh.trans hB.sh, w2.ln.trans hB.ln, fun i hi => ?_, hB.tm, hB.rd, hB.wr⟩
    rw [← hB.pl i hi]
    by_cases ei : i = k
    · subst ei; exact w4
    · have := (w2.fs i (by rw [hB.ln]; exact hi) ei).1
      simp only [fN, Prod.mk.injEq] at this
      exact this.1
end Go.Proofs.YtagcodkkkebnhaaGreat.K
end
