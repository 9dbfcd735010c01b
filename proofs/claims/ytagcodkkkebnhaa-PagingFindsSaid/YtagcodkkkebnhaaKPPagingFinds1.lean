/- A part of the proof: texts of the author, joined. -/
import Derived.Test.YtagcodkkkebnhaaKPPagingFinds0
section
set_option linter.unusedVariables false
set_option linter.unusedSimpArgs false
set_option linter.unnecessarySimpa false
open Go Go.Ev
namespace Go.Proofs.Ytagcodkkkebnhaa.K
/-- The frame that is replaced next: the specification's is the program's. -/
theorem F62_eq (x : PAG) (pool : Int) (hn : x.2.1.length ≤ 1000) (hr : ∀ k, k < x.2.1.length → rightF x k) : F62 x pool = some (bst x pool x.2.1.length) := by
  have hl : lLen x.2.1 = x.2.1.length := rfl
  -- rounds up to the first unused frame
  have gen : ∀ (d i n : Nat), i + d = x.2.1.length → d < n → (∀ k, k < i → ¬ spare x pool k) →
      ∃ r, iter (fun (y : Int × ((List SEG × (Int × REST)) × (Int × Int))) => B62_0 y.1 y.2.1.1 y.2.1.2.1 y.2.1.2.2.1 y.2.1.2.2.2.1 y.2.1.2.2.2.2.1 y.2.1.2.2.2.2.2.1 y.2.1.2.2.2.2.2.2 y.2.2.1 y.2.2.2) n (pool, (opg x, (bst x pool i, (i : Int)))) = some r ∧ (r = .inl (bst x pool x.2.1.length) ∨ r = .inr (bst x pool x.2.1.length)) := by
    intro d
    induction d with
    | zero =>
      intro i n hi hd hk
      obtain ⟨n, rfl⟩ : ∃ q, n = q + 1 := ⟨n - 1, by omega⟩
      obtain rfl : i = x.2.1.length := by omega
      refine ⟨_, iter_e (r := Sum.inl (bst x pool x.2.1.length)) ?_, .inl rfl⟩
      show B62_0 pool x.1.1 x.1.2 x.2.1 x.2.2.1 x.2.2.2.1 x.2.2.2.2.1 x.2.2.2.2.2 (bst x pool x.2.1.length) x.2.1.length = _
      unfold B62_0
      rw [iLt_f (by omega), sel_f]
    | succ d ih =>
      intro i n hi hd hk
      obtain ⟨n, rfl⟩ : ∃ q, n = q + 1 := ⟨n - 1, by omega⟩
      have hb := bst_used (x := x) (pool := pool) i (by omega) hk
      by_cases hp : spare x pool i
      · have hbi : bst x pool (i + 1) = (i : Int) := by
          rw [bst_s, if_pos]
          refine ⟨hp.1, ?_⟩
          rcases hb with e | ⟨j, j1, j2, j3, j4⟩
          · left; omega
          · right
            rw [j2]
            have e1 := used_or (hr i (by omega))
            have e2 := used_or (hr j (by omega))
            left
            show rk (fAt x i) < rk (fAt x j)
            rcases e1 with ⟨_, a2, _⟩ | ⟨a1, _, _⟩
            · rcases e2 with ⟨b1, _, _⟩ | ⟨_, b2, _⟩
              · rw [j4] at b1; cases b1
              · omega
            · rw [hp.2] at a1; cases a1
        have := bst_keep hr (by omega) hp.2 d (by omega) hbi
        rw [show i + 1 + d = x.2.1.length by omega] at this
        refine ⟨_, iter_e (r := Sum.inr (i : Int)) ?_, .inr (by rw [this])⟩
        show B62_0 pool x.1.1 x.1.2 x.2.1 x.2.2.1 x.2.2.2.1 x.2.2.2.2.1 x.2.2.2.2.2 (bst x pool i) i = _
        unfold B62_0
        rw [iLt_y (a := (i : Int)) (by omega), oIn_y (a := (i : Int)) (by omega), sel_t, sel_t, iEq_y hp.1, show (lAt x.2.1 (i : Int)).2.1 = false from hp.2]
        rfl
      · rw [iter_s (B62_step hn (by omega) hb hp)]
        exact ih (i + 1) n (by omega) (by omega) (fun k hk' => by
          by_cases h : k = i
          · rw [h]; exact hp
          · exact hk k (by omega))
  obtain ⟨r, e, h⟩ := gen x.2.1.length 0 fuel (by omega) (by unfold fuel; omega) (fun k h => by omega)
  have e' : L62_0 (pool, (opg x, (-1, 0))) = some r := e
  unfold F62
  show bndS (L62_0 (pool, (opg x, (-1, 0)))) _ = _
  rw [e']
  rcases h with rfl | rfl <;> rfl
end Go.Proofs.Ytagcodkkkebnhaa.K
end

section
set_option linter.unusedVariables false
set_option linter.unusedSimpArgs false
set_option linter.unnecessarySimpa false
open Go Go.Ev
namespace Go.Proofs.Ytagcodkkkebnhaa.K
def bkk (n p : Int) : Int := iRem (iAdd .i64 (iMul .i64 7 n) p) 5
theorem bkk_in {s : STO} {n p : Int} (hs : okS0 s) (hf : fewS s) (h : hasP s n p) : ∃ c : Nat, c < 5 ∧ bkk n p = (c : Int) := by
  obtain ⟨h1, h2, h3⟩ := h
  obtain ⟨i, hi, hn, _, e⟩ := place_in h1
  have h4 := hf.2 i hi
  have h5 := hs.2.2.2 i hi
  rw [e] at h3
  have h6 : 1 ≤ n ∧ n ≤ s.2 - 1 := by
    unfold sgE at h5
    rw [hn] at h5
    exact Classical.byContradiction fun hc => by rw [if_pos hc] at h5; cases h5
  have h7 := hs.2.2.1
  unfold bkk
  rw [mul_n (by omega) (by omega), add_n (by omega) (by omega)]
  unfold iRem
  rw [Int.tmod_eq_emod_of_nonneg (by omega)]
  exact ⟨((7 * n + p) % 5).toNat, by omega, by omega⟩
end Go.Proofs.Ytagcodkkkebnhaa.K
end

section
set_option linter.unusedVariables false
set_option linter.unusedSimpArgs false
set_option linter.unnecessarySimpa false
open Go Go.Ev
namespace Go.Proofs.Ytagcodkkkebnhaa.K
theorem CH_in {x : PAG} {c : Int} {l : List Int} (h : CH x c l) : ∀ b ∈ l, oIn b (lLen x.2.1) = true := fun b hb => fr_in (h.2.2 b hb)
/-- The frame that has a page, in the program and in the specification. -/
theorem find_eq {x : PAG} {n p : Int} (hx : RIGHT x) (hf : fewS x.1) (hp : hasP x.1 n p) : ∃ l, CH x (bkk n p) l ∧
    ((∃ i, i < l.length ∧ hasK (lAt x.2.1 (lAt l (i : Int))) n p ∧ F55 x n p = some (lAt l (i : Int), (i : Int) + 1) ∧ F61 x n p = some (lAt l (i : Int), (i : Int) + 1)) ∨
     ((∀ i, i < l.length → ¬ hasK (lAt x.2.1 (lAt l (i : Int))) n p) ∧ F55 x n p = some (-1, 0) ∧ F61 x n p = some (-1, lLen l))) := by
  obtain ⟨hs, hn, hh, _, _, _, _, ht⟩ := hx
  obtain ⟨c, hc, e⟩ := bkk_in hs hf hp
  obtain ⟨l, hl⟩ := ht.1 c hc
  rw [e]
  have hn' : x.2.1.length ≤ 1000 := by omega
  have hin : oIn (c : Int) (lLen x.2.2.1) = true := oIn_y (by unfold lLen; rw [hh]; omega)
  have e73 : F73 n p = some (c : Int) := by rw [← e]; rfl
  have e76 : F76 n p = some (c : Int) := by rw [← e]; rfl
  have hlen := CH_len hl hn'
  refine ⟨l, hl, ?_⟩
  have e1 : F55 x n p = bndS (L55_0 (n, (p, (opg x, (l, (lLen l, 0)))))) fun y2 => sumS y2 (fun _ => some (-1, 0)) fun y2b => some y2b := by
    unfold F55
    rw [e73, bnd_s, F58_eq hl hn' hin, bnd_s]
  have e2 : F61 x n p = bndS (L61_0 (n, (p, (opg x, (l, 0))))) fun y2 => sumS y2 (fun y2a => some (-1, lLen y2a)) fun y2b => some y2b := by
    unfold F61 F30
    rw [e76, bnd_s, F48_eq hl hn' hin]
    rfl
  rw [e1, e2]
  rcases L55_eq x n p l hlen (CH_in hl) with ⟨i, h1, h2, h3, k1⟩ | ⟨h1, k1⟩ <;> rcases L61_eq x n p l hlen (CH_in hl) with ⟨j, g1, g2, g3, k2⟩ | ⟨g1, k2⟩
  · obtain rfl : i = j := by
      rcases Nat.lt_trichotomy i j with h | h | h
      · exact absurd h2 (g3 i h)
      · exact h
      · exact absurd g2 (h3 j h)
    exact .inl ⟨i, h1, h2, by rw [k1]; rfl, by rw [k2]; rfl⟩
  · exact absurd h2 (g1 i h1)
  · exact absurd g2 (h1 j g1)
  · exact .inr ⟨h1, by rw [k1]; rfl, by rw [k2]; rfl⟩
end Go.Proofs.Ytagcodkkkebnhaa.K
end

section
set_option linter.unusedVariables false
set_option linter.unusedSimpArgs false
set_option linter.unnecessarySimpa false
open Go Go.Ev
namespace Go.Proofs.Ytagcodkkkebnhaa.K
theorem bst_lt (x : PAG) (pool : Int) (i : Nat) : bst x pool i = -1 ∨ 0 ≤ bst x pool i := by
  rcases bst_in x pool i with h | h
  · exact .inl h
  · exact .inr h.1
/-- replaces holds of VictimOf's answer. -/
theorem rep_eq {x : PAG} (hx : RIGHT x) (h13 : F13 x = some 0) (pool : Int) : ∃ v g, F28 x pool = some (v, g) ∧ F32 x pool v g = some true := by
  have hn : x.2.1.length ≤ 1000 := by have := hx.2.1; omega
  unfold F28 F32
  rw [h13, bnd_s, iEq_y rfl, nt, sel_f]
  simp only [let_s]
  by_cases hp : F44 pool 0 2 = true
  · have hq : F52 pool = true := hp
    rw [hp, hq, nt]
    simp only [sel_f]
    rw [F59_eq x pool hn, F62_eq x pool hn hx.2.2.2.2.2.2.1]
    simp only [bnd_s]
    rcases bst_lt x pool x.2.1.length with e | e
    · rw [e]
      exact ⟨0, 40, rfl, rfl⟩
    · rw [iLe_y e]
      refine ⟨_, _, rfl, ?_⟩
      rw [iEq_f (by omega), iEq_y rfl, iEq_y rfl]
      rfl
  · have hp : F44 pool 0 2 = false := by rw [bf_t]; exact hp
    have hq : F52 pool = false := hp
    rw [hp, hq]
    exact ⟨0, 3, rfl, rfl⟩
end Go.Proofs.Ytagcodkkkebnhaa.K
end

section
set_option linter.unusedVariables false
set_option linter.unusedSimpArgs false
set_option linter.unnecessarySimpa false
open Go Go.Ev
namespace Go.Proofs.Ytagcodkkkebnhaa.K
/-- finds holds of FrameOf's answer. -/
theorem fnd_eq {x : PAG} (hx : RIGHT x) (hf : fewS x.1) (h13 : F13 x = some 0) (k : Int × (Int × Int)) : ∃ a n f, F23 x k.1 k.2.1 = some (a, (n, f)) ∧ F31 x k a n f = some true := by
  unfold F23 F31
  rw [h13, bnd_s, iEq_y rfl, nt, sel_f]
  by_cases hp : hasP x.1 k.1 k.2.1
  · rw [F54_y hf hp, F60_y hf hp, bnd_s]
    simp only [bnd_s, nt, sel_f]
    obtain ⟨l, hl, ⟨i, h1, h2, e1, e2⟩ | ⟨h1, e1, e2⟩⟩ := find_eq hx hf hp
    · have hg := hl.2.2 _ (lAt_mem.1 ⟨i, h1, rfl⟩)
      have hg1 := hg.1
      rw [e1, e2, bnd_s, iLt_f (by show ¬ lAt l (i : Int) < 0; omega)]
      refine ⟨_, _, _, rfl, ?_⟩
      rw [bnd_s, iEq_f (by show ¬ lAt l (i : Int) = -1; omega), iEq_y rfl, iEq_y rfl, iEq_y rfl]
      rfl
    · rw [e1, e2]
      exact ⟨0, 0, 40, rfl, rfl⟩
  · rw [F54_n hf hp, F60_n hf hp]
    exact ⟨0, 0, 11, rfl, rfl⟩
end Go.Proofs.Ytagcodkkkebnhaa.K
end

section
set_option linter.unusedVariables false
set_option linter.unusedSimpArgs false
set_option linter.unnecessarySimpa false
open Go Go.Ev
namespace Go.Proofs.Ytagcodkkkebnhaa.K
/-- PagingFinds. -/
theorem finds (x : PAG) (c : Int) (k : Int × (Int × Int)) (h2 : fits x.1.2) : F7 x c k = some true := by
  unfold F7
  rw [awake, bnd_s, nt, sel_f]
  rcases F12_eq x with ⟨hf, e⟩ | e
  · rw [e, bnd_s, nt, sel_f, F14_eq x (by have := hf.1.1; omega) (by have := hf.2.1; omega) (by have := hf.2.2.1; omega)]
    simp only [bnd_s]
    have hn : x.2.1.length ≤ 1000 := by have := hf.2.1; omega
    have d1 : F27 ((x.1.1, x.1.2), x.2) c = F27 x c := rfl
    have d2 : F23 ((x.1.1, x.1.2), x.2) k.1 k.2.1 = F23 x k.1 k.2.1 := rfl
    have d3 : F28 ((x.1.1, x.1.2), x.2) k.2.2 = F28 x k.2.2 := rfl
    rw [d1, d2, d3]
    rcases check_eq x hf.1 h2 hn with ⟨hx, e1, e2⟩ | ⟨q, hq, e1, e2⟩
    · obtain ⟨a, n, f, f1, f2⟩ := fnd_eq hx hf.1 e1 k
      obtain ⟨v, g, g1, g2⟩ := rep_eq hx e1 k.2.2
      rw [f1, g1, e2]
      unfold F27
      rw [e1]
      simp only [bnd_s, let_s]
      rw [iEq_y rfl, nt, sel_f]
      by_cases hc : F44 c 0 4 = true
      · have hc' : F24 c 0 4 = true := hc
        rw [hc, hc', nt, sel_f]
        have hc2 : 0 ≤ c ∧ c ≤ 4 := by unfold F44 at hc; rw [and_t, iLe_t, iLe_t] at hc; exact hc
        obtain ⟨j, rfl⟩ : ∃ j : Nat, c = (j : Int) := ⟨c.toNat, by omega⟩
        obtain ⟨l, hl⟩ := hx.2.2.2.2.2.2.2.1 j (by omega)
        have hin : oIn (j : Int) (lLen x.2.2.1) = true := oIn_y (by unfold lLen; rw [hx.2.2.1]; omega)
        have hlen := CH_len hl hn
        have e30 : F30 x (j : Int) = some l := by unfold F30; rw [F48_eq hl hn hin]; rfl
        rw [F58_eq hl hn hin]
        simp only [bnd_s, sel_f]
        rw [e30]
        simp only [bnd_s]
        rw [F29_self l (by omega), f2, g2, iEq_y rfl]
        rfl
      · have hc : F44 c 0 4 = false := by rw [bf_t]; exact hc
        have hc' : F24 c 0 4 = false := hc
        rw [hc, hc', nf]
        simp only [bnd_s, sel_t, sel_f]
        rw [f2, g2]
        rfl
    · unfold F27 F23 F28
      rw [e1, e2]
      simp only [bnd_s]
      rw [iEq_f hq, nf]
      simp only [sel_t, bnd_s]
      rw [iEq_y (rfl : q = q)]
      rfl
  · rw [e]; rfl
end Go.Proofs.Ytagcodkkkebnhaa.K
end

section
set_option linter.unusedVariables false
set_option linter.unusedSimpArgs false
set_option linter.unnecessarySimpa false
open Go.Ev
namespace Go.Proofs.Ytagcodkkkebnhaa.Pure
open Go.Proofs.Ytagcodkkkebnhaa.K
set_option maxRecDepth 100000 in
theorem PagingFinds (x0 : ((.pr (.pr (.sl (.pr (.int .i64) .str)) (.int .i64)) (.pr (.sl (.pr (.int .i64) (.pr .bool (.pr .bool (.pr (.int .i64) (.pr (.int .i64) (.pr .str (.pr (.int .i64) (.int .i64))))))))) (.pr (.sl (.int .i64)) (.pr (.int .i64) (.pr (.int .i64) (.int .i64)))))) : Ty).T) (x1 : ((.int .i64) : Ty).T) (x2 : ((.pr (.int .i64) (.pr (.int .i64) (.int .i64))) : Ty).T) (h0 : ((.pr (.pr (.sl (.pr (.int .i64) .str)) (.int .i64)) (.pr (.sl (.pr (.int .i64) (.pr .bool (.pr .bool (.pr (.int .i64) (.pr (.int .i64) (.pr .str (.pr (.int .i64) (.int .i64))))))))) (.pr (.sl (.int .i64)) (.pr (.int .i64) (.pr (.int .i64) (.int .i64)))))) : Ty).wf x0) (h1 : ((.int .i64) : Ty).wf x1) (h2 : ((.pr (.int .i64) (.pr (.int .i64) (.int .i64))) : Ty).wf x2) : K.gF7.F (x0, x1, x2) = some true :=
  finds x0 x1 x2 (wf_fits h0.1.2)
end Go.Proofs.Ytagcodkkkebnhaa.Pure
end
