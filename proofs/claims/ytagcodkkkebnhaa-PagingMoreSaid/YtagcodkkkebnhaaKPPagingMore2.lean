/- A part of the proof: texts of the author, joined. -/
import Derived.Test.YtagcodkkkebnhaaKPPagingMore1
section
set_option linter.unusedVariables false
set_option linter.unusedSimpArgs false
set_option linter.unnecessarySimpa false
open Go Go.Ev
namespace Go.Proofs.Ytagcodkkkebnhaa.K
theorem F61_eq {x : PAG} {n p : Int} (hx : RT x) (hp : hasP x.1 n p) : ∃ m, F61 x n p = some (fidx n p x.2.1, m) := by
  obtain ⟨c, l, hc, e, hl, hlen, hin⟩ := chain_of hx hp
  have hn' : x.2.1.length ≤ 1000 := by have := hx.n8; omega
  have ho : oIn (c : Int) (lLen x.2.2.1) = true := oIn_y (by unfold lLen; rw [hx.h5]; omega)
  have e76 : F76 n p = some (c : Int) := by rw [← e]; rfl
  have e1 : F61 x n p = bndS (L61_0 (n, (p, (opg x, (l, 0))))) fun y2 => sumS y2 (fun y2a => some (-1, lLen y2a)) fun y2b => some y2b := by
    unfold F61 F30
    rw [e76, bnd_s, F48_eq hl hn' ho]
    rfl
  rw [e1]
  rcases L61_eq x n p l hlen (CH_in hl) with ⟨i, h1, h2, h3, k1⟩ | ⟨h1, k1⟩
  · obtain ⟨k, g1, g2, g3, g4⟩ := gd_nat (hl.2.2 (lAt l (i : Int)) (lAt_mem.1 ⟨i, h1, rfl⟩))
    rw [g2] at h2
    rw [fidx_y hx.un g1 ⟨g3, h2⟩, k1, g2]
    exact ⟨_, rfl⟩
  · rw [k1, fidx_n fun k hk hi => ?_]
    · exact ⟨_, rfl⟩
    · obtain ⟨i, h2, h3⟩ := lAt_mem.2 (hin k hk hi)
      exact h1 i h2 (by rw [h3]; exact hi.2)
def lt2 (a b : Int × Int) : Prop := a.1 < b.1 ∨ (a.1 = b.1 ∧ a.2 < b.2)
theorem lt2_uniq : ∀ {l m : List (Int × Int)}, l.Pairwise lt2 → m.Pairwise lt2 → (∀ a, a ∈ l ↔ a ∈ m) → l = m
  | [], [], _, _, _ => rfl
  | [], b :: m, _, _, h => by have := (h b).2 (by simp); simp at this
  | a :: l, [], _, _, h => by have := (h a).1 (by simp); simp at this
  | a :: l, b :: m, h1, h2, h => by
    obtain ⟨p1, p2⟩ := List.pairwise_cons.1 h1
    obtain ⟨q1, q2⟩ := List.pairwise_cons.1 h2
    have e : a = b := by
      rcases List.mem_cons.1 ((h a).1 (by simp)) with e | e
      · exact e
      · rcases List.mem_cons.1 ((h b).2 (by simp)) with e' | e'
        · exact e'.symm
        · have := q1 a e; have := p1 b e'; unfold lt2 at *; omega
    subst e
    rw [lt2_uniq p2 q2 fun c => ?_]
    constructor
    · intro hc
      rcases List.mem_cons.1 ((h c).1 (by simp [hc])) with e | e
      · subst e; have := p1 c hc; unfold lt2 at this; omega
      · exact e
    · intro hc
      rcases List.mem_cons.1 ((h c).2 (by simp [hc])) with e | e
      · subst e; have := q1 c hc; unfold lt2 at this; omega
      · exact e
/-- Where a frame's page begins. -/
def adr (x : PAG) (a : Int) : Int × Int := ((lAt x.2.1 a).2.2.2.1, (lAt x.2.1 a).2.2.2.2.1 * 32)
/-- The addresses of changed pages. -/
def isC (x : PAG) (l : List (Int × Int)) : Prop := l.Pairwise lt2 ∧ ∀ q, q ∈ l ↔ ∃ k, k < x.2.1.length ∧ (fAt x k).2.2.1 = true ∧ q = adr x (k : Int)
theorem L34_eq {x : PAG} (hx : RT x) {L : List Int} (hL : L.Perm (chg x)) : L34_0 (opg x, (([] : List (Int × Int)), (L, (lLen L, 0)))) = some (L.map (adr x)) := by
  obtain ⟨h1, h2⟩ := chg_perm_used hx hL
  have h3 : L.length ≤ 8 := by have := hL.length_eq; have := chg_len hx; omega
  have h : Ok (L34_0 (opg x, (([] : List (Int × Int)), (L, (lLen L, 0))))) (fun r => r = L.map (adr x)) := by
    refine loop_inv (fun m y => ∃ D R : List Int, D ++ R = L ∧ y = (opg x, (D.map (adr x), (L, (lLen L, (D.length : Int))))) ∧ m = R.length) L.length ⟨[], L, rfl, rfl, rfl⟩ (by omega) ?_
    rintro m y ⟨D, R, e, rfl, rfl⟩
    show Ok (B34_0 x.1.1 x.1.2 x.2.1 x.2.2.1 x.2.2.2.1 x.2.2.2.2.1 x.2.2.2.2.2 (D.map (adr x)) L (lLen L) (D.length : Int)) _
    unfold B34_0
    have hll : lLen L = (D.length : Int) + R.length := by unfold lLen; rw [← e]; simp
    cases R with
    | nil =>
      simp at e hll
      subst e
      rw [iLt_f (by omega), sel_f, ok_some]
    | cons a R =>
      have hD : D.length ≤ 8 := by rw [← e] at h3; simp at h3; omega
      have e1 : lAt L (D.length : Int) = a := by rw [← e]; exact lAt_mid _ _ _
      obtain ⟨k, hk, rfl, hk2⟩ := h2 a (by rw [← e]; simp)
      obtain ⟨f1, _⟩ := rf_used (hx.fs k hk) hk2
      obtain ⟨i, hi, _, _, ei⟩ := place_in f1.1
      have f2 := hx.few.2 i hi
      have f3 := hasP_end f1
      have f4 := f1.2.1
      unfold sgB at f3
      rw [ei] at f3
      unfold fAt at f3 f4
      rw [List.length_cons] at hll
      rw [iLt_y (by omega), sel_t, oIn_y (by omega), sel_t, e1, oIn_fr hk, sel_t, mul_n (by omega) (by omega), lCap_y (by decide) (by decide) (by simp [lApp]; omega), sel_t, ok_some, add_n (by omega) (by omega)]
      exact ⟨R.length, by simp, D ++ [(k : Int)], R, by rw [← e]; simp, by simp; rfl, rfl⟩
  rw [ok_is] at h
  exact h
theorem F34_eq {x : PAG} (hx : RT x) (hs : SML x) : ∃ l, F34 x = some (l, 0) ∧ isC x l ∧ l.length = (chg x).length := by
  obtain ⟨L, e, hL, hso⟩ := F63_eq hx
  refine ⟨L.map (adr x), ?_, ⟨?_, fun q => ?_⟩, by rw [List.length_map]; exact hL.length_eq⟩
  · unfold F34
    rw [(RT_check hx hs).1, bnd_s, iEq_y rfl, nt, sel_f, e, bnd_s]
    show bndS (L34_0 (opg x, (([] : List (Int × Int)), (L, (lLen L, 0))))) _ = _
    rw [L34_eq hx hL]
    rfl
  · rw [List.pairwise_map]
    refine hso.imp ?_
    intro a b h
    unfold lss at h
    unfold lt2 adr
    dsimp only
    omega
  · rw [List.mem_map]
    constructor
    · rintro ⟨a, ha, rfl⟩
      obtain ⟨k, hk, rfl, h2⟩ := chgT_mem.1 (hL.mem_iff.1 ha)
      exact ⟨k, hk, h2, rfl⟩
    · rintro ⟨k, hk, h2, rfl⟩
      exact ⟨(k : Int), chg_perm_all hL k hk h2, rfl⟩
/-- Changed pages as0 far as0 the specification has come. -/
def upTo (x : PAG) (l : List (Int × Int)) (i q : Int) : Prop := l.Pairwise lt2 ∧ (l.length : Int) ≤ 10 * i + q ∧ ∀ c, c ∈ l ↔ ∃ k, k < x.2.1.length ∧ (fAt x k).2.2.1 = true ∧ c = adr x (k : Int) ∧ (place x.1.1 (fAt x k).2.2.2.1 < i ∨ (place x.1.1 (fAt x k).2.2.2.1 = i ∧ (fAt x k).2.2.2.2.1 < q))
theorem L38b_eq {x : PAG} (hx : RT x) (i : Nat) (hi : i < x.1.1.length) (l : List (Int × Int)) (hl : upTo x l i 0) : ∃ l', L38_2 (opg x, (l, ((i : Int), (lAt x.1.1 (i : Int), 0)))) = some (opg x, (l', (i : Int))) ∧ upTo x l' ((i : Int) + 1) 0 := by
  have hpl := ok_place hx.sto i hi
  have hpp : 0 ≤ place x.1.1 (lAt x.1.1 (i : Int)).1 := by rw [hpl]; omega
  have hpg := ok_pages hx.sto hpp
  have hf := hx.few.2 i hi
  have hL := hx.few.1
  have esg : sgB x.1 (lAt x.1.1 (i : Int)).1 = (lAt x.1.1 (i : Int)).2 := by unfold sgB; rw [hpl]
  rw [esg] at hpg
  have h : Ok (L38_2 (opg x, (l, ((i : Int), (lAt x.1.1 (i : Int), 0))))) (fun r => ∃ l', r = (opg x, (l', (i : Int))) ∧ upTo x l' ((i : Int) + 1) 0) := by
    refine loop_inv (fun m y => ∃ (q : Nat) (l' : List (Int × Int)), (q : Int) ≤ sLen (lAt x.1.1 (i : Int)).2 / 32 ∧ upTo x l' i q ∧ y = (opg x, (l', ((i : Int), (lAt x.1.1 (i : Int), (q : Int))))) ∧ m = 8 - q) 8 ⟨0, l, by omega, hl, rfl, rfl⟩ (by omega) ?_
    rintro m y ⟨q, l', hq, ⟨u1, u2, u3⟩, rfl, rfl⟩
    show Ok (B38_2 x.1.1 x.1.2 x.2.1 x.2.2.1 x.2.2.2.1 x.2.2.2.2.1 x.2.2.2.2.2 l' i (lAt x.1.1 (i : Int)).1 (lAt x.1.1 (i : Int)).2 q) _
    unfold B38_2
    rw [F66_eq (by omega), bnd_s]
    by_cases hlt : (q : Int) < sLen (lAt x.1.1 (i : Int)).2 / 32
    · rw [iLt_y hlt, sel_t]
      have hP : hasP x.1 (lAt x.1.1 (i : Int)).1 (q : Int) := ⟨hpp, by omega, by rw [hpl]; exact hlt⟩
      obtain ⟨m', em⟩ := F61_eq hx hP
      show Ok (bndS (F61 x (lAt x.1.1 (i : Int)).1 (q : Int)) _) _
      rw [em, bnd_s]
      dsimp only
      have key : ∀ k, k < x.2.1.length → (fAt x k).2.2.1 = true → (place x.1.1 (fAt x k).2.2.2.1 = (i : Int) ∧ (fAt x k).2.2.2.2.1 = (q : Int)) → isK (fAt x k) (lAt x.1.1 (i : Int)).1 q := by
        rintro k hk hc ⟨e1, e2⟩
        refine ⟨chg_used hx hk hc, ?_, e2⟩
        obtain ⟨j, hj, hj2, _, e3⟩ := place_in (l := x.1.1) (n := (fAt x k).2.2.2.1) (by omega)
        rw [e3] at e1
        have : j = i := by omega
        subst this
        exact hj2.symm
      by_cases hex : ∃ k, k < x.2.1.length ∧ isK (fAt x k) (lAt x.1.1 (i : Int)).1 q ∧ (fAt x k).2.2.1 = true
      · obtain ⟨k, hk, hK, hc⟩ := hex
        have hc' : (lAt x.2.1 (k : Int)).2.2.1 = true := hc
        rw [fidx_y hx.un hk hK, oIn_fr hk, or_tt, sel_t, iEq_f (by omega), nf, hc']
        have : bAnd true true = true := rfl
        rw [this, sel_t, mul_n (by omega) (by omega), lCap_y (by decide) (by decide) (by simp [lApp]; omega), sel_t, ok_some, add_n (by omega) (by omega)]
        refine ⟨8 - (q + 1), by omega, q + 1, _, by omega, ⟨?_, ?_, ?_⟩, rfl, rfl⟩
        · show (l' ++ [_]).Pairwise lt2
          rw [List.pairwise_append]
          refine ⟨u1, by simp, fun a ha b hb => ?_⟩
          rw [List.mem_singleton] at hb
          subst hb
          obtain ⟨j, hj, _, e1, e2⟩ := (u3 a).1 ha
          subst e1
          unfold lt2 adr
          dsimp only
          rcases e2 with e2 | ⟨e2, e3⟩
          · left
            have hju := chg_used hx hj (by assumption)
            obtain ⟨f1, _⟩ := rf_used (hx.fs j hj) hju
            obtain ⟨t, ht, ht2, _, e4⟩ := place_in f1.1
            unfold fAt at ht2 e4 e2
            rw [e4] at e2
            rw [← ht2]
            exact ok_asc hx.sto i t (by omega) hi
          · right
            have hju := chg_used hx hj (by assumption)
            obtain ⟨f1, _⟩ := rf_used (hx.fs j hj) hju
            obtain ⟨t, ht, ht2, _, e4⟩ := place_in f1.1
            unfold fAt at ht2 e4 e2 e3
            rw [e4] at e2
            have : t = i := by omega
            subst this
            exact ⟨ht2.symm, by omega⟩
        · show ((l' ++ [_]).length : Int) ≤ _
          simp
          omega
        · intro c
          show c ∈ l' ++ [_] ↔ _
          rw [List.mem_append, u3, List.mem_singleton]
          constructor
          · rintro (⟨j, a, b, e, h | h⟩ | rfl)
            · exact ⟨j, a, b, e, .inl h⟩
            · exact ⟨j, a, b, e, .inr ⟨h.1, by omega⟩⟩
            · refine ⟨k, hk, hc, ?_, .inr ⟨by rw [hK.2.1, hpl], by rw [hK.2.2]; omega⟩⟩
              unfold adr
              have h1 : (lAt x.2.1 (k : Int)).2.2.2.1 = _ := hK.2.1
              have h2 : (lAt x.2.1 (k : Int)).2.2.2.2.1 = _ := hK.2.2
              rw [h1, h2]
          · rintro ⟨j, a, b, e, h | h⟩
            · exact .inl ⟨j, a, b, e, .inl h⟩
            · by_cases hlt2 : (fAt x j).2.2.2.2.1 < (q : Int)
              · exact .inl ⟨j, a, b, e, .inr ⟨h.1, hlt2⟩⟩
              · right
                have hj := key j a b ⟨h.1, by omega⟩
                rw [e]
                unfold adr
                have h1 : (lAt x.2.1 (j : Int)).2.2.2.1 = _ := hj.2.1
                have h2 : (lAt x.2.1 (j : Int)).2.2.2.2.1 = _ := hj.2.2
                rw [h1, h2]
      · have hcond : bOr (oIn (fidx (lAt x.1.1 (i : Int)).1 q x.2.1) (lLen x.2.1)) (bNot (bNot (iEq (fidx (lAt x.1.1 (i : Int)).1 q x.2.1) (-1)))) = true ∧ bAnd (bNot (iEq (fidx (lAt x.1.1 (i : Int)).1 q x.2.1) (-1))) (lAt x.2.1 (fidx (lAt x.1.1 (i : Int)).1 q x.2.1)).2.2.1 = false := by
          rcases fidx_cases (lAt x.1.1 (i : Int)).1 q x.2.1 with ⟨k, k1, k2, e⟩ | ⟨_, e⟩
          · rw [e, oIn_fr k1, or_tt]
            refine ⟨rfl, ?_⟩
            rw [bf_t, and_t]
            rintro ⟨_, h⟩
            exact hex ⟨k, k1, k2, h⟩
          · rw [e, iEq_y rfl, nt, nf]
            exact ⟨by rw [or_t]; exact .inr rfl, rfl⟩
        rw [hcond.1, hcond.2, sel_t, sel_f, ok_some, add_n (by omega) (by omega)]
        refine ⟨8 - (q + 1), by omega, q + 1, l', by omega, ⟨u1, by omega, fun c => ?_⟩, rfl, rfl⟩
        rw [u3]
        constructor
        · rintro ⟨j, a, b, e, h | h⟩
          · exact ⟨j, a, b, e, .inl h⟩
          · exact ⟨j, a, b, e, .inr ⟨h.1, by omega⟩⟩
        · rintro ⟨j, a, b, e, h | h⟩
          · exact ⟨j, a, b, e, .inl h⟩
          · by_cases hlt2 : (fAt x j).2.2.2.2.1 < (q : Int)
            · exact ⟨j, a, b, e, .inr ⟨h.1, hlt2⟩⟩
            · exact absurd ⟨j, a, key j a b ⟨h.1, by omega⟩, b⟩ hex
    · rw [iLt_f hlt, sel_f, ok_some]
      refine ⟨l', rfl, u1, by omega, fun c => ?_⟩
      rw [u3]
      constructor
      · rintro ⟨j, a, b, e, h | h⟩
        · exact ⟨j, a, b, e, .inl (by omega)⟩
        · exact ⟨j, a, b, e, .inl (by omega)⟩
      · rintro ⟨j, a, b, e, h | h⟩
        · by_cases h2 : place x.1.1 (fAt x j).2.2.2.1 < (i : Int)
          · exact ⟨j, a, b, e, .inl h2⟩
          · refine ⟨j, a, b, e, .inr ⟨by omega, ?_⟩⟩
            obtain ⟨f1, _⟩ := rf_used (hx.fs j a) (chg_used hx a b)
            obtain ⟨_, _, f3⟩ := f1
            have e2 : place x.1.1 (fAt x j).2.2.2.1 = (i : Int) := by omega
            rw [e2] at f3
            omega
        · obtain ⟨f1, _⟩ := rf_used (hx.fs j a) (chg_used hx a b)
          have := f1.2.1
          omega
  obtain ⟨r, e, l', rfl, h⟩ := h
  exact ⟨l', e, h⟩
theorem F38_eq {x : PAG} (hx : RT x) : ∃ l, F38 x = some l ∧ isC x l := by
  have hL := hx.few.1
  have h : Ok (L38_0 (opg x, (([] : List (Int × Int)), 0))) (fun l => isC x l) := by
    refine loop_inv (fun m y => ∃ (i : Nat) (l : List (Int × Int)), i ≤ x.1.1.length ∧ upTo x l i 0 ∧ y = (opg x, (l, (i : Int))) ∧ m = x.1.1.length - i) x.1.1.length ⟨0, [], by omega, ⟨by simp, by simp, fun c => ?_⟩, rfl, rfl⟩ (by omega) ?_
    · constructor
      · intro h; simp at h
      · rintro ⟨j, a, b, e, h | h⟩
        · obtain ⟨f1, _⟩ := rf_used (hx.fs j a) (chg_used hx a b)
          have h3 := f1.1
          have h4 : place x.1.1 (fAt x j).2.2.2.1 < 0 := h
          omega
        · obtain ⟨f1, _⟩ := rf_used (hx.fs j a) (chg_used hx a b)
          have h3 := f1.2.1
          have h4 : (fAt x j).2.2.2.2.1 < 0 := h.2
          omega
    rintro m y ⟨i, l, hi, hu, rfl, rfl⟩
    show Ok (B38_0 x.1.1 x.1.2 x.2.1 x.2.2.1 x.2.2.2.1 x.2.2.2.2.1 x.2.2.2.2.2 l i) _
    unfold B38_0
    by_cases hlt : i < x.1.1.length
    · rw [iLt_y (by unfold lLen; omega), sel_t, oIn_y (by unfold lLen; omega), sel_t]
      obtain ⟨l', e, h'⟩ := L38b_eq hx i hlt l hu
      show Ok (bndS (L38_2 (opg x, (l, ((i : Int), (lAt x.1.1 (i : Int), 0))))) _) _
      rw [e, bnd_s, ok_some]
      refine ⟨x.1.1.length - (i + 1), by omega, i + 1, l', by omega, h', ?_, rfl⟩
      dsimp only
      rw [add_n (by omega) (by omega)]
      rfl
    · rw [iLt_f (by unfold lLen; omega), sel_f, ok_some]
      obtain ⟨u1, u2, u3⟩ := hu
      refine ⟨u1, fun c => ?_⟩
      rw [u3]
      constructor
      · rintro ⟨j, a, b, e, h⟩; exact ⟨j, a, b, e⟩
      · rintro ⟨j, a, b, e⟩
        refine ⟨j, a, b, e, .inl ?_⟩
        obtain ⟨f1, _⟩ := rf_used (hx.fs j a) (chg_used hx a b)
        obtain ⟨t, ht, _, _, e4⟩ := place_in f1.1
        rw [e4]
        omega
  obtain ⟨l, e, h⟩ := h
  refine ⟨l, ?_, h⟩
  unfold F38
  show bndS (L38_0 (opg x, (([] : List (Int × Int)), 0))) _ = _
  rw [e]
  rfl
theorem isC_uniq {x : PAG} {l m : List (Int × Int)} (h : isC x l) (h' : isC x m) : l = m := lt2_uniq h.1 h'.1 fun a => (h.2 a).trans (h'.2 a).symm
theorem F37_self (l : List (Int × Int)) (hl : l.length ≤ 1000000) : F37 l l = some true := by
  have h : L37_0 (l, (l, 0)) = some (Sum.inl ()) := by
    refine iter_run (fun i => (l, (l, (i : Int)))) l.length (by omega) ?_ ?_
    · intro i hi
      show B37_0 l l i = _
      unfold B37_0
      have : bAnd (iEq (lAt l (i : Int)).1 (lAt l (i : Int)).1) (iEq (lAt l (i : Int)).2 (lAt l (i : Int)).2) = true := by rw [and_t, iEq_t, iEq_t]; exact ⟨rfl, rfl⟩
      rw [iLt_y (by unfold lLen; omega), oIn_y (by unfold lLen; omega), sel_t, sel_t, sel_t, this, nt, sel_f, add_n (by omega) (by omega)]
      rfl
    · show B37_0 l l l.length = _
      unfold B37_0
      rw [iLt_f (by unfold lLen; omega), sel_f]
  unfold F37
  rw [iEq_y rfl, nt, sel_f, h]
  rfl
/-- PagingStores. -/
theorem stores (x : PAG) (h2 : fits x.1.2) : F8 x = some true := by
  unfold F8
  rw [awake, bnd_s, nt, sel_f]
  rcases F12_eq x with ⟨hf, e⟩ | e
  · rw [e, bnd_s, nt, sel_f, F14_eq x (by have := hf.1.1; omega) (by have := hf.2.1; omega) (by have := hf.2.2.1; omega), bnd_s]
    show bndS (F33 x) (fun y3 => bndS (some (opg x)) fun y4 => bndS (F34 ((y4.1, y4.2.1), y4.2.2)) fun y5 => _) = _
    rcases check_eq x hf.1 h2 (by have := hf.2.1; omega) with ⟨hr, e1, e2⟩ | ⟨c, hc, e1, e2⟩
    · obtain ⟨hx, hs⟩ := RT_of hr hf.1
      obtain ⟨t, et, it⟩ := F33_eq hx hs
      obtain ⟨l, el, il, hll⟩ := F34_eq hx hs
      obtain ⟨t', et', it'⟩ := F36_eq hx
      obtain ⟨l', el', il'⟩ := F38_eq hx
      have h3 := isS_uniq hx it it'
      have h4 := isC_uniq il il'
      subst h3 h4
      have hl8 := chg_len hx
      have ht := shp_len it.1
      have := hx.few.1
      rw [et, bnd_s, bnd_s]
      show bndS (F34 x) _ = _
      rw [el, bnd_s, e2, bnd_s, iEq_y rfl, nt, sel_f, show bAnd true true = true from rfl, sel_t, et', bnd_s, F35_self t (by omega), bnd_s, sel_t, el', bnd_s, F37_self l (by omega), bnd_s]
    · have e33 : F33 x = some (([], 0), c) := by
        unfold F33; rw [e1, bnd_s, iEq_f hc, nf, sel_t]
      have e34 : F34 x = some ([], c) := by
        unfold F34; rw [e1, bnd_s, iEq_f hc, nf, sel_t]
      rw [e33, bnd_s, bnd_s]
      show bndS (F34 x) _ = _
      have e5 : F35 (([], 0) : STO) ([], 0) = some true := F35_self _ (by simp)
      rw [e34, bnd_s, e2, bnd_s, iEq_f hc, nf, sel_t]
      dsimp only
      rw [e5, iEq_y rfl]
      rfl
  · rw [e]; rfl
end Go.Proofs.Ytagcodkkkebnhaa.K
end

section
set_option linter.unusedVariables false
set_option linter.unusedSimpArgs false
set_option linter.unnecessarySimpa false
open Go Go.Ev
namespace Go.Proofs.Ytagcodkkkebnhaa.K
/-- Bytes of a frame are changed. -/
def wrt (y : PAG) (k a : Int) (v : ByteArray) : PAG := frS y k ((lAt y.2.1 k).1, ((lAt y.2.1 k).2.1, (true, ((lAt y.2.1 k).2.2.2.1, ((lAt y.2.1 k).2.2.2.2.1, (put (lAt y.2.1 k).2.2.2.2.2.1 a v, (lAt y.2.1 k).2.2.2.2.2.2))))))
theorem wrt_ok {y : PAG} {k a : Nat} {v : ByteArray} {n : Int} {q : Nat} (hy : RT y) (hk : k < y.2.1.length) (hK : isK (fAt y k) n q) (hv : a + sLen v ≤ 32) : RT (wrt y k a v) ∧ UP y (wrt y k a v) k ∧ isK (fAt (wrt y k a v) k) n q ∧ (fAt (wrt y k a v) k).1 = (fAt y k).1 ∧
    ∀ (m : Int) (j : Nat), 0 ≤ place y.1.1 m → vb (wrt y k a v) m j = if m = n ∧ q * 32 + a ≤ j ∧ j < q * 32 + a + sLen v then byt v (j - (q * 32 + a)) else vb y m j := by
  obtain ⟨f1, f2, f3, _⟩ := rf_used (hy.fs k hk) hK.1
  have hvn := sLen_nn v
  have ek := frS_at hk ((lAt y.2.1 (k : Int)).1, ((lAt y.2.1 (k : Int)).2.1, (true, ((lAt y.2.1 (k : Int)).2.2.2.1, ((lAt y.2.1 (k : Int)).2.2.2.2.1, (put (lAt y.2.1 (k : Int)).2.2.2.2.2.1 a v, (lAt y.2.1 (k : Int)).2.2.2.2.2.2))))))
  have ei : fAt (wrt y k a v) k = ((fAt y k).1, ((fAt y k).2.1, (true, ((fAt y k).2.2.2.1, ((fAt y k).2.2.2.2.1, (put (fAt y k).2.2.2.2.2.1 a v, (fAt y k).2.2.2.2.2.2)))))) := by
    unfold wrt; rw [ek, if_pos rfl]
  have hR : RT (wrt y k a v) := by
    refine frS_RT hy hk rfl rfl ⟨(hy.fs k hk).1, .inr ⟨hK.1, f1, ?_, f3, fun h => by cases h⟩⟩
    show sLen (put (fAt y k).2.2.2.2.2.1 a v) = 32
    rw [put_len _ _ _ (by rw [f2]; exact hv), f2]
  have u : UP y (wrt y k a v) k := frS_up hk _
  have hK' : isK (fAt (wrt y k a v) k) n q := by rw [ei]; exact hK
  refine ⟨hR, u, hK', by rw [ei], fun m j hm => ?_⟩
  by_cases hjk : m = n ∧ (j : Int) / 32 = q
  · obtain ⟨rfl, hjq⟩ := hjk
    rw [vb_y hR.un (by rw [u.ln]; exact hk) (by rw [hjq]; exact hK'), ei]
    dsimp only
    rw [byt_put _ _ _ _ (by rw [f2]; exact hv), vb_y hy.un hk (by rw [hjq]; exact hK)]
    by_cases hc : a ≤ j % 32 ∧ ((j % 32 : Nat) : Int) < a + sLen v
    · rw [if_pos hc, if_pos ⟨rfl, by omega, by omega⟩]
      congr 1
      omega
    · rw [if_neg hc, if_neg]
      rintro ⟨_, h1, h2⟩
      exact hc ⟨by omega, by omega⟩
  · rw [if_neg (by rintro ⟨h1, h2, h3⟩; exact hjk ⟨h1, by omega⟩)]
    by_cases hex : ∃ i, i < y.2.1.length ∧ isK (fAt y i) m ((j : Int) / 32)
    · obtain ⟨i, hi, hI⟩ := hex
      have hik : i ≠ k := by
        rintro rfl
        exact hjk ⟨hI.2.1.symm.trans hK.2.1, hI.2.2.symm.trans hK.2.2⟩
      rw [vb_y hy.un hi hI, vb_y hR.un (by rw [u.ln]; exact hi) (by rw [u.isK hi hik]; exact hI)]
      have := (u.fs i hi hik).1
      simp only [fN, Prod.mk.injEq] at this
      rw [this.2.2.2.2.2.1]
    · have hn : ∀ i, i < y.2.1.length → ¬ isK (fAt y i) m ((j : Int) / 32) := fun i a b => hex ⟨i, a, b⟩
      rw [vb_n hn, vb_n (x := wrt y k a v)]
      · rfl
      · intro i hi hI
        rw [u.ln] at hi
        by_cases hik : i = k
        · subst hik
          exact hjk ⟨hI.2.1.symm.trans hK'.2.1, hI.2.2.symm.trans hK'.2.2⟩
        · rw [u.isK hi hik] at hI
          exact hn i hi hI
/-- How many bytes a step moves. -/
def siz (off n a : Int) : Int := if off + n - a < 32 - a % 32 then off + n - a else 32 - a % 32
/-- A step of an access. -/
noncomputable def stp (kind pool seg off n : Int) (b : ByteArray) (y : PAG) (a : Int) : PAG :=
  if kind = 0 then (useM y seg (a / 32) pool).1 else wrt (useM y seg (a / 32) pool).1 (useM y seg (a / 32) pool).2 (a % 32) (sCut b (a - off) (a - off + siz off n a))
noncomputable def outM (kind pool seg off n : Int) (y : PAG) (a : Int) (out : ByteArray) : ByteArray :=
  if kind = 0 then sAdd out (sCut (lAt (useM y seg (a / 32) pool).1.2.1 (useM y seg (a / 32) pool).2).2.2.2.2.2.1 (a % 32) (a % 32 + siz off n a)) else out
noncomputable def movM (kind pool seg off n : Int) (b : ByteArray) : Nat → PAG → Int → ByteArray → PAG × ByteArray
  | 0, y, _, out => (y, out)
  | f + 1, y, a, out => if a < off + n then movM kind pool seg off n b f (stp kind pool seg off n b y a) (a + siz off n a) (outM kind pool seg off n y a out) else (y, out)
/-- Bytes of a segment that can be reached. -/
def rdOK (s : STO) (seg off n : Int) : Prop := 0 ≤ place s.1 seg ∧ 0 ≤ off ∧ 0 ≤ n ∧ off + n ≤ sLen (sgB s seg)
/-- What stays right while an access goes on. -/
structure BI (x y : PAG) (t : Nat) : Prop where
  rt : RT y
  sh : shp y.1 = shp x.1
  ln : y.2.1.length = x.2.1.length
  pl : ∀ k, k < x.2.1.length → (fAt y k).1 = (fAt x k).1
  tm : y.2.2.2.1 = x.2.2.2.1 + t
  rd : x.2.2.2.2.1 ≤ y.2.2.2.2.1 ∧ y.2.2.2.2.1 ≤ x.2.2.2.2.1 + t
  wr : x.2.2.2.2.2 ≤ y.2.2.2.2.2 ∧ y.2.2.2.2.2 ≤ x.2.2.2.2.2 + t
theorem BI.bst {x y : PAG} {t : Nat} (h : BI x y t) {pool : Int} (hb : K.bst x pool x.2.1.length ≠ -1) : K.bst y pool y.2.1.length ≠ -1 := by
  rw [bst_ex] at hb ⊢
  obtain ⟨k, h1, h2⟩ := hb
  exact ⟨k, by rw [h.ln]; exact h1, by rw [h.pl k h1]; exact h2⟩
theorem USE.BI {x y z : PAG} {n p pool : Int} {k t : Nat} (h : BI x y t) (hu : USE y z n p pool k) : BI x z (t + 1) := by
  refine ⟨hu.rt, hu.up.sh.trans h.sh, hu.up.ln.trans h.ln, fun i hi => ?_, ?_, ?_, ?_⟩
  · rw [← h.pl i hi]
    by_cases e : i = k
    · subst e; exact hu.pl
    · have := (hu.up.fs i (by rw [h.ln]; exact hi) e).1
      simp only [fN, Prod.mk.injEq] at this
      exact this.1
  · rw [hu.tm, h.tm]; omega
  · have h1 := h.rd
    rcases hu.hm with ⟨_, e, _⟩ | ⟨_, _, e, _⟩
    · have : z.2.2.2.2.1 = y.2.2.2.2.1 := congrArg (fun q => q.1) e
      omega
    · omega
  · have h1 := h.wr
    rcases hu.hm with ⟨_, e, _⟩ | ⟨_, _, _, e, _⟩
    · have : z.2.2.2.2.2 = y.2.2.2.2.2 := congrArg (fun q => q.2) e
      omega
    · split at e <;> omega
theorem siz_pos {off n a : Int} (h : off ≤ a ∧ a < off + n) (h0 : 0 ≤ off) : 0 < siz off n a ∧ a % 32 + siz off n a ≤ 32 ∧ a + siz off n a ≤ off + n ∧ (a + siz off n a = off + n ∨ (a + siz off n a) % 32 = 0) := by
  unfold siz; split <;> omega
/-- A step of an access keeps a memory right. -/
theorem stp_use {x y : PAG} {t : Nat} {pool seg off n : Int} (h : BI x y t) (ht : 0 ≤ x.2.2.2.1) (hr : rdOK x.1 seg off n) (hpo : 0 ≤ pool ∧ pool ≤ 2) (hb : bst x pool x.2.1.length ≠ -1) {a : Int} (ha : off ≤ a ∧ a < off + n) : hasP y.1 seg (a / 32) ∧ bst y pool y.2.1.length ≠ -1 ∧ ∃ k : Nat, (useM y seg (a / 32) pool).2 = (k : Int) ∧ USE y (useM y seg (a / 32) pool).1 seg (a / 32) pool k := by
  obtain ⟨h1, h2, h3, h4⟩ := hr
  have hp : hasP y.1 seg (a / 32) := by
    obtain ⟨q, rfl⟩ := Int.eq_ofNat_of_zero_le (show 0 ≤ a by omega)
    refine hasP_of h.rt.sto (by rw [shp_place h.sh]; exact h1) ?_
    rw [shp_sg h.sh (by rw [shp_place h.sh]; exact h1)]
    omega
  have hb' := h.bst hb
  exact ⟨hp, hb', useM_ok h.rt (by rw [h.tm]; omega) hp hpo hb'⟩
theorem stp_BI {x y : PAG} {t : Nat} {kind pool seg off n : Int} {b : ByteArray} (h : BI x y t) (ht : 0 ≤ x.2.2.2.1) (hr : rdOK x.1 seg off n) (hpo : 0 ≤ pool ∧ pool ≤ 2) (hb : bst x pool x.2.1.length ≠ -1) (hk : kind = 0 ∨ sLen b = n) {a : Int} (ha : off ≤ a ∧ a < off + n) : BI x (stp kind pool seg off n b y a) (t + 1) := by
  obtain ⟨hp, hb', k, e, hu⟩ := stp_use h ht hr hpo hb ha
  obtain ⟨s1, s2, s3, s4⟩ := siz_pos ha hr.2.1
  unfold stp
  have hB := hu.BI h
  split
  · exact hB
  · rename_i hk0
    have hbn : sLen b = n := hk.resolve_left hk0
    have ha0 : 0 ≤ a := by have := hr.2.1; omega
    obtain ⟨q, hq⟩ := Int.eq_ofNat_of_zero_le (show 0 ≤ a / 32 by omega)
    obtain ⟨r, hr'⟩ := Int.eq_ofNat_of_zero_le (show 0 ≤ a % 32 by omega)
    have hc : sLen (sCut b (a - off) (a - off + siz off n a)) = siz off n a := by rw [scut_len _ (by omega) (by omega) (by omega)]; omega
    have hK : isK (fAt (useM y seg (a / 32) pool).1 k) seg (q : Int) := by rw [← hq]; exact hu.isk
    rw [e, hr']
    obtain ⟨w1, w2, w3, w4, _⟩ := wrt_ok (v := sCut b (a - off) (a - off + siz off n a)) (a := r) hu.rt (by rw [hu.up.ln]; exact hu.kl) hK (by rw [hc]; omega)
    refine ⟨w1, w2.sh.trans hB.sh, w2.ln.trans hB.ln, fun i hi => ?_, hB.tm, hB.rd, hB.wr⟩
    rw [← hB.pl i hi]
    by_cases ei : i = k
    · subst ei; exact w4
    · have := (w2.fs i (by rw [hB.ln]; exact hi) ei).1
      simp only [fN, Prod.mk.injEq] at this
      exact this.1
end Go.Proofs.Ytagcodkkkebnhaa.K
end

section
set_option linter.unusedVariables false
set_option linter.unusedSimpArgs false
set_option linter.unnecessarySimpa false
open Go Go.Ev
namespace Go.Proofs.Ytagcodkkkebnhaa.K
theorem half_eq : ∀ m : Nat, m ≤ 24 → iCv .i64 (iShr .u64 (iCv .u64 (m : Int)) 1) = ((m / 2 : Nat) : Int) := by
  have h : ∀ m : Fin 25, iCv .i64 (iShr .u64 (iCv .u64 ((m : Nat) : Int)) 1) = (((m : Nat) / 2 : Nat) : Int) := by decide
  exact fun m hm => h ⟨m, by omega⟩
theorem sub_zero {a b : Int} (ha : fits a) (hb : fits b) (h : iSub .i64 a b = 0) : a = b := by
  obtain ⟨a1, a2⟩ := ha
  obtain ⟨b1, b2⟩ := hb
  unfold iSub IntKind.wrap at h
  simp [IntKind.bits, IntKind.signed] at h
  omega
/-- The program's search for a segment. -/
theorem F105_eq {s : STO} (hs : okS0 s) (n : Int) (hn : fits n) : ∃ a : Int, F105 s.1 n = some (a, decide (0 ≤ place s.1 n)) ∧ (0 ≤ place s.1 n → a = place s.1 n) := by
  have hl := hs.1
  have hll : lLen s.1 = s.1.length := rfl
  have num : ∀ i : Nat, i < s.1.length → 1 ≤ (lAt s.1 (i : Int)).1 ∧ (lAt s.1 (i : Int)).1 ≤ 1000 := by
    intro i hi
    have := ok_pages hs (n := (lAt s.1 (i : Int)).1) (by rw [ok_place hs i hi]; omega)
    omega
  have h : Ok (L105_0 (s.1, (n, (lLen s.1, (0, lLen s.1))))) (fun r => ∃ i : Nat, i ≤ s.1.length ∧ r = (s.1, (n, (lLen s.1, (i : Int)))) ∧ (0 ≤ place s.1 n → (i : Int) = place s.1 n)) := by
    refine loop_inv (fun m y => ∃ i j : Nat, i ≤ j ∧ j ≤ s.1.length ∧ y = (s.1, (n, (lLen s.1, ((i : Int), (j : Int))))) ∧ m = j - i ∧ (0 ≤ place s.1 n → (i : Int) ≤ place s.1 n ∧ place s.1 n ≤ j)) s.1.length ⟨0, s.1.length, by omega, by omega, rfl, by omega, fun h => ?_⟩ (by omega) ?_
    · obtain ⟨p, hp, _, _, e⟩ := place_in h
      rw [e]; omega
    rintro m y ⟨i, j, hij, hj, rfl, rfl, hpl⟩
    show Ok (B105_0 s.1 n (lLen s.1) i j) _
    unfold B105_0
    by_cases hlt : i < j
    · have eh : iCv .i64 (iShr .u64 (iCv .u64 (iAdd .i64 (i : Int) (j : Int))) 1) = (((i + j) / 2 : Nat) : Int) := by
        rw [add_n (by omega) (by omega), ← Int.natCast_add, half_eq _ (by omega)]
      rw [iLt_y (by omega), sel_t, eh, oIn_y (by omega), sel_t, let_s, ok_some]
      have hm : (i + j) / 2 < s.1.length := by omega
      have hb := num _ hm
      have key : 0 ≤ place s.1 n → F106 (lAt s.1 (((i + j) / 2 : Nat) : Int)) n = (lAt s.1 (((i + j) / 2 : Nat) : Int)).1 - n := by
        intro h
        obtain ⟨p, hp, hp2, _, _⟩ := place_in h
        have := num p hp
        unfold F106
        rw [sub_n (by omega) (by omega)]
      by_cases hc : F106 (lAt s.1 (((i + j) / 2 : Nat) : Int)) n < 0
      · rw [iLt_y hc, sel_t, sel_t, add_n (by omega) (by omega)]
        refine ⟨j - ((i + j) / 2 + 1), by omega, (i + j) / 2 + 1, j, by omega, hj, rfl, rfl, fun h => ?_⟩
        obtain ⟨p, hp, hp2, _, e⟩ := place_in h
        rw [key h] at hc
        refine ⟨?_, (hpl h).2⟩
        rw [e]
        by_cases hle : p ≤ (i + j) / 2
        · rcases Nat.lt_or_ge p ((i + j) / 2) with h3 | h3
          · have := ok_asc hs _ _ h3 hm; omega
          · obtain rfl : p = (i + j) / 2 := by omega
            omega
        · omega
      · rw [iLt_f hc, sel_f, sel_f]
        refine ⟨(i + j) / 2 - i, by omega, i, (i + j) / 2, by omega, by omega, rfl, rfl, fun h => ?_⟩
        obtain ⟨p, hp, hp2, _, e⟩ := place_in h
        rw [key h] at hc
        refine ⟨(hpl h).1, ?_⟩
        rw [e]
        rcases Nat.lt_or_ge ((i + j) / 2) p with h3 | h3
        · have := ok_asc hs _ _ h3 hp; omega
        · omega
    · rw [iLt_f (by omega), sel_f, ok_some]
      exact ⟨i, by omega, rfl, fun h => by have := hpl h; omega⟩
  obtain ⟨r, e, i, hi, rfl, hp⟩ := h
  refine ⟨(i : Int), ?_, hp⟩
  unfold F105
  rw [e, bnd_s]
  dsimp only
  have hc : bOr (oIn (i : Int) (lLen s.1)) (bNot (iLt (i : Int) (lLen s.1))) = true := by
    rw [or_t, oIn_t, not_t, bf_t, iLt_t]; omega
  rw [hc, sel_t, let_s]
  congr 2
  rw [Bool.eq_iff_iff, decide_eq_true_eq, and_t, iLt_t, iEq_t]
  constructor
  · rintro ⟨h1, h2⟩
    have hi' : i < s.1.length := by omega
    have h3 := num i hi'
    have := sub_zero (by unfold fits; omega) hn h2
    rw [← this, ok_place hs i hi']
    omega
  · intro h
    obtain ⟨p, hp1, hp2, _, e⟩ := place_in h
    have := hp h
    rw [e] at this
    obtain rfl : i = p := by omega
    refine ⟨by omega, ?_⟩
    unfold F106
    rw [hp2, sub_n (by omega) (by omega)]
    omega
/-- The error of reading. -/
def rdE (s : STO) (seg off n : Int) : Int := if 0 ≤ place s.1 seg then (if 0 ≤ off ∧ 0 ≤ n ∧ off + n ≤ sLen (sgB s seg) then 0 else 3) else if 1 ≤ seg ∧ seg ≤ s.2 - 1 then 24 else 11
theorem rdE_ok {s : STO} {seg off n : Int} : rdE s seg off n = 0 ↔ rdOK s seg off n := by
  unfold rdE rdOK
  split
  · split
    · rename_i h1 h2; exact ⟨fun _ => ⟨h1, h2⟩, fun _ => rfl⟩
    · rename_i h1 h2; exact ⟨fun h => (by cases h), fun h => absurd h.2 h2⟩
  · rename_i h1
    split
    · exact ⟨fun h => (by cases h), fun h => absurd h.1 h1⟩
    · exact ⟨fun h => (by cases h), fun h => absurd h.1 h1⟩
theorem F67_eq {s : STO} (hf : fewS s) (hs : okS0 s) {seg off n : Int} (h1 : fits seg) (h2 : fits off) (h3 : fits n) : (rdOK s seg off n ∧ F67 s (seg, off) n = some (place s.1 seg, 0)) ∨ (rdE s seg off n ≠ 0 ∧ F67 s (seg, off) n = some (0, rdE s seg off n)) := by
  obtain ⟨a, e, ha⟩ := F105_eq hs seg h1
  have hn := hs.2
  unfold F67 F96
  rw [(F43_ok hf hs).1, bnd_s, iEq_y rfl, nt, sel_f, e, bnd_s]
  dsimp only
  unfold rdE rdOK
  by_cases hp : 0 ≤ place s.1 seg
  · have hpg := ok_pages hs hp
    obtain ⟨i, hi, _, _, ep⟩ := place_in hp
    have := ha hp
    subst this
    have esg : sgB s seg = (lAt s.1 (i : Int)).2 := by unfold sgB; rw [ep]
    rw [decide_eq_true hp, sel_t, bnd_s, iEq_y rfl, nt, sel_f]
    dsimp only
    rw [if_pos hp, ep, oIn_y (by unfold lLen; omega), sel_t, let_s, let_s, ← esg]
    by_cases hb : 0 ≤ off ∧ 0 ≤ n ∧ off + n ≤ sLen (sgB s seg)
    · have w1 : F70 off 0 (sLen (sgB s seg)) = true := by unfold F70; rw [and_t, iLe_t, iLe_t]; omega
      have w2 : F70 n 0 (iSub .i64 (sLen (sgB s seg)) off) = true := by unfold F70; rw [sub_n (by omega) (by omega), and_t, iLe_t, iLe_t]; omega
      rw [w1, w2]
      exact .inl ⟨⟨by omega, hb⟩, rfl⟩
    · have w : bOr (bNot (F70 off 0 (sLen (sgB s seg)))) (bNot (F70 n 0 (iSub .i64 (sLen (sgB s seg)) off))) = true := by
        rw [or_t, not_t, not_t, bf_t, bf_t (F70 n _ _)]
        by_cases h4 : 0 ≤ off ∧ off ≤ sLen (sgB s seg)
        · right
          unfold F70
          rw [sub_n (by omega) (by omega), and_t, iLe_t, iLe_t]
          omega
        · left
          unfold F70
          rw [and_t, iLe_t, iLe_t]
          omega
      rw [w, sel_t, if_neg hb]
      exact .inr ⟨by decide, rfl⟩
  · rw [decide_eq_false hp, sel_f, let_s, if_neg hp]
    have w : F70 seg 1 (iSub .i64 s.2 1) = decide (1 ≤ seg ∧ seg ≤ s.2 - 1) := by
      rw [Bool.eq_iff_iff, decide_eq_true_eq]
      unfold F70
      rw [sub_n (by omega) (by omega), and_t, iLe_t, iLe_t]
    rw [w]
    by_cases h4 : 1 ≤ seg ∧ seg ≤ s.2 - 1
    · rw [decide_eq_true h4, if_pos h4]
      exact .inr ⟨by decide, rfl⟩
    · rw [decide_eq_false h4, if_neg h4]
      exact .inr ⟨by decide, rfl⟩
theorem F40_eq {s : STO} (hf : fewS s) (hs : okS0 s) {seg off n : Int} (h1 : fits seg) (h2 : fits off) (h3 : fits n) : (rdOK s seg off n ∧ F40 s (seg, off) n = some (sCut (sgB s seg) off (off + n), 0)) ∨ (rdE s seg off n ≠ 0 ∧ F40 s (seg, off) n = some (bs [], rdE s seg off n)) := by
  unfold F40
  rcases F67_eq hf hs h1 h2 h3 with ⟨hr, e⟩ | ⟨hr, e⟩
  · have hr' := hr
    obtain ⟨p1, p2, p3, p4⟩ := hr
    have hpg := ok_pages hs p1
    obtain ⟨i, hi, _, _, ep⟩ := place_in p1
    have esg : sgB s seg = (lAt s.1 (i : Int)).2 := by unfold sgB; rw [ep]
    rw [e, bnd_s, iEq_y rfl, nt, sel_f]
    dsimp only
    rw [ep, oIn_y (by unfold lLen; omega), sel_t, ← esg, add_n (by omega) (by omega), oCut_y (by omega)]
    exact .inl ⟨hr', rfl⟩
  · rw [e, bnd_s, iEq_f hr, nf, sel_t]
    exact .inr ⟨hr, rfl⟩
/-- The error of moving bytes. -/
noncomputable def movE (x : PAG) (pool seg off n : Int) : Int := if ¬ (0 ≤ pool ∧ pool ≤ 2) then 3 else if rdE x.1 seg off n ≠ 0 then rdE x.1 seg off n else if bst x pool x.2.1.length = -1 then 40 else 0
/-- The error of an access. -/
noncomputable def accE (x : PAG) (kind pool seg off len : Int) (b : ByteArray) : Int :=
  if kind = 0 then (if b = bs [] then movE x pool seg off len else 5)
  else if kind = 1 then (if len = 0 then movE x pool seg off (sLen b) else 5)
  else if kind = 2 then (if pool = 0 ∧ off = 0 ∧ len = 0 ∧ b = bs [] then rdE x.1 seg 0 0 else 5)
  else if kind = 3 then (if pool = 0 ∧ seg = 0 ∧ off = 0 ∧ len = 0 ∧ b = bs [] then 0 else 5)
  else 4
theorem movE_eq {x : PAG} (hx : RT x) {pool seg off n : Int} (h1 : fits seg) (h2 : fits off) (h3 : fits n) :
    (letS (F44 pool 0 2) fun y12 =>
          sel (bNot y12)
            (some 3)
            (bndS (F40 x.1 (seg, off) n) fun y13 =>
            sel (bNot (iEq y13.2 0))
              (some y13.2)
              (bndS (F59 x pool) fun y14 =>
              sel (iLt y14 0)
                (some (40 : Int))
                (some 0)))) = some (movE x pool seg off n) := by
  unfold movE
  rw [let_s]
  by_cases hp : 0 ≤ pool ∧ pool ≤ 2
  · have w : F44 pool 0 2 = true := by unfold F44; rw [and_t, iLe_t, iLe_t]; exact hp
    rw [w, nt, sel_f, if_neg (fun h => h hp)]
    rcases F40_eq hx.few hx.sto h1 h2 h3 with ⟨hr, e⟩ | ⟨hr, e⟩
    · rw [e, bnd_s, iEq_y rfl, nt, sel_f, if_neg (fun h => h (rdE_ok.2 hr)), F59_eq x pool (by have := hx.n8; omega), bnd_s]
      rcases bst_in x pool x.2.1.length with h | ⟨h, _⟩
      · rw [h, iLt_y (by decide), if_pos rfl]; rfl
      · rw [iLt_f (by omega), if_neg (by omega)]; rfl
    · rw [e, bnd_s, iEq_f hr, nf, sel_t, if_pos hr]
  · have w : F44 pool 0 2 = false := by rw [bf_t]; unfold F44; rw [and_t, iLe_t, iLe_t]; exact hp
    rw [w, nf, sel_t, if_pos hp]
theorem sLen_nil : sLen (bs []) = 0 := by kernel_rfl
/-- The program's answer: the error of an access. -/
theorem F81_eq {x : PAG} (hx : RT x) {kind pool seg off len : Int} {b : ByteArray} (h1 : fits seg) (h2 : fits off) (h3 : fits len) (h4 : sLen b ≤ 400) : F81 x (kind, (pool, ((seg, off), (len, b)))) = some (accE x kind pool seg off len b) := by
  have hb := sLen_nn b
  unfold F81 accE
  dsimp only
  by_cases k0 : kind = 0
  · rw [iEq_y k0, sel_t, if_pos k0]
    by_cases hc : b = bs []
    · have : bAnd (iEq kind kind) (bAnd (iEq pool pool) (bAnd (iEq seg seg) (bAnd (iEq off off) (bAnd (iEq len len) (sEq b (bs [])))))) = true := by
        simp only [and_t, iEq_t, sEq_t]; exact ⟨trivial, trivial, trivial, trivial, trivial, hc⟩
      have e : iAdd .i64 len (sLen b) = len := by rw [hc, sLen_nil]; unfold fits at h3; rw [add_n (by omega) (by omega)]; omega
      rw [this, nt, sel_f, iEq_f (by omega), sel_f, iEq_f (by omega), sel_f, if_pos hc, e]
      exact movE_eq hx h1 h2 h3
    · have : bAnd (iEq kind kind) (bAnd (iEq pool pool) (bAnd (iEq seg seg) (bAnd (iEq off off) (bAnd (iEq len len) (sEq b (bs [])))))) = false := by
        rw [bf_t]; simp only [and_t, iEq_t, sEq_t]; rintro ⟨_, _, _, _, _, h⟩; exact hc h
      rw [this, nf, sel_t, if_neg hc]
  rw [iEq_f k0, sel_f, if_neg k0]
  by_cases k1 : kind = 1
  · rw [iEq_y k1, sel_t, if_pos k1]
    by_cases hc : len = 0
    · have : bAnd (iEq kind kind) (bAnd (iEq pool pool) (bAnd (iEq seg seg) (bAnd (iEq off off) (bAnd (iEq len 0) (sEq b b))))) = true := by
        simp only [and_t, iEq_t, sEq_t]; exact ⟨trivial, trivial, trivial, trivial, hc, trivial⟩
      have e : iAdd .i64 len (sLen b) = sLen b := by rw [hc, add_n (by omega) (by omega)]; omega
      rw [this, nt, sel_f, iEq_f (by omega), sel_f, iEq_f (by omega), sel_f, if_pos hc, e]
      exact movE_eq hx h1 h2 (by unfold fits; omega)
    · have : bAnd (iEq kind kind) (bAnd (iEq pool pool) (bAnd (iEq seg seg) (bAnd (iEq off off) (bAnd (iEq len 0) (sEq b b))))) = false := by
        rw [bf_t]; simp only [and_t, iEq_t, sEq_t]; rintro ⟨_, _, _, _, h, _⟩; exact hc h
      rw [this, nf, sel_t, if_neg hc]
  rw [iEq_f k1, sel_f, if_neg k1]
  by_cases k2 : kind = 2
  · rw [iEq_y k2, sel_t, if_pos k2]
    by_cases hc : pool = 0 ∧ off = 0 ∧ len = 0 ∧ b = bs []
    · have : bAnd (iEq kind kind) (bAnd (iEq pool 0) (bAnd (iEq seg seg) (bAnd (iEq off 0) (bAnd (iEq len 0) (sEq b (bs [])))))) = true := by
        simp only [and_t, iEq_t, sEq_t]; exact ⟨trivial, hc.1, trivial, hc.2⟩
      rw [this, nt, sel_f, iEq_f (by omega), sel_f, sel_t, if_pos hc]
      rcases F40_eq hx.few hx.sto (off := 0) (n := 0) h1 (by unfold fits; omega) (by unfold fits; omega) with ⟨hr, e⟩ | ⟨hr, e⟩
      · rw [e, bnd_s, rdE_ok.2 hr]
      · rw [e, bnd_s]
    · have : bAnd (iEq kind kind) (bAnd (iEq pool 0) (bAnd (iEq seg seg) (bAnd (iEq off 0) (bAnd (iEq len 0) (sEq b (bs [])))))) = false := by
        rw [bf_t]; simp only [and_t, iEq_t, sEq_t]; rintro ⟨_, a, _, c⟩; exact hc ⟨a, c⟩
      rw [this, nf, sel_t, if_neg hc]
  rw [iEq_f k2, sel_f, if_neg k2]
  by_cases k3 : kind = 3
  · rw [iEq_y k3, sel_t, if_pos k3]
    by_cases hc : pool = 0 ∧ seg = 0 ∧ off = 0 ∧ len = 0 ∧ b = bs []
    · have : bAnd (iEq kind kind) (bAnd (iEq pool 0) (bAnd (iEq seg 0) (bAnd (iEq off 0) (bAnd (iEq len 0) (sEq b (bs [])))))) = true := by
        simp only [and_t, iEq_t, sEq_t]; exact ⟨trivial, hc⟩
      rw [this, nt, sel_f, sel_t, if_pos hc]
    · have : bAnd (iEq kind kind) (bAnd (iEq pool 0) (bAnd (iEq seg 0) (bAnd (iEq off 0) (bAnd (iEq len 0) (sEq b (bs [])))))) = false := by
        rw [bf_t]; simp only [and_t, iEq_t, sEq_t]; rintro ⟨_, c⟩; exact hc c
      rw [this, nf, sel_t, if_neg hc]
  · rw [iEq_f k3, sel_f, if_neg k3]
end Go.Proofs.Ytagcodkkkebnhaa.K
end

section
set_option linter.unusedVariables false
set_option linter.unusedSimpArgs false
set_option linter.unnecessarySimpa false
open Go Go.Ev
namespace Go.Proofs.Ytagcodkkkebnhaa.K
abbrev z4' : Int × (Int × (Int × Int)) := (0, (0, (0, 0)))
def NB (x : PAG) : Prop := (0 ≤ x.2.2.2.1 ∧ x.2.2.2.1 ≤ 1200000000000000) ∧ (0 ≤ x.2.2.2.2.1 ∧ x.2.2.2.2.1 ≤ 1200000000000000) ∧ (0 ≤ x.2.2.2.2.2 ∧ x.2.2.2.2.2 ≤ 1200000000000000)
theorem SML_NB {x : PAG} (h : SML x) : NB x := by
  obtain ⟨h1, h2, h3⟩ := h
  unfold inN at h1 h2 h3
  unfold NB
  omega
theorem rem_nn {a : Int} (h : 0 ≤ a) : iRem a 32 = a % 32 := by unfold iRem; rw [Int.tmod_eq_emod_of_nonneg h]
theorem quo_nn {a : Int} (h : 0 ≤ a) (h2 : a ≤ 100000) : iQuo .i64 a 32 = a / 32 := by
  unfold iQuo; rw [Int.tdiv_eq_ediv_of_nonneg h]; exact wrap_fits (by unfold fits; omega)
/-- A round of the program's loop. -/
theorem B53_y {x y : PAG} {t : Nat} {kind pool seg off len n : Int} {b out : ByteArray} (h : BI x y t) (hN : NB x) (ht : t ≤ 1000) (hr : rdOK x.1 seg off n) (hx : RT x) (hpo : 0 ≤ pool ∧ pool ≤ 2) (hb : bst x pool x.2.1.length ≠ -1) (hk : kind = 0 ∨ sLen b = n) (ho : sLen out ≤ 1000) {a : Int} (ha : off ≤ a ∧ a < off + n) :
    B53_2 kind pool seg off len b 0 0 0 0 y.1.1 y.1.2 y.2.1 y.2.2.1 y.2.2.2.1 y.2.2.2.2.1 y.2.2.2.2.2 out n a = some (.inl ((kind, (pool, (seg, (off, (len, b))))), (z4', (opg (stp kind pool seg off n b y a), (outM kind pool seg off n y a out, (n, a + siz off n a)))))) := by
  obtain ⟨hN1, hN2, hN3⟩ := hN
  obtain ⟨hp, hb', k, ek, hu⟩ := stp_use h hN1.1 hr hpo hb ha
  obtain ⟨s1, s2, s3, s4⟩ := siz_pos ha hr.2.1
  obtain ⟨r1, r2, r3, r4⟩ := hr
  have hlen : sLen (sgB x.1 seg) ≤ 400 := by
    obtain ⟨i, hi, _, _, ep⟩ := place_in r1
    unfold sgB
    rw [ep]
    have := hx.few.2 i hi
    omega
  have htm := h.tm
  have hrd := h.rd
  have hwr := h.wr
  have e82 := F82_eq h.rt (by omega) (by omega) (by omega) hp hb'
  have hfl : sLen (fAt (useM y seg (a / 32) pool).1 k).2.2.2.2.2.1 = 32 := by
    obtain ⟨_, f, _⟩ := rf_used (hu.rt.fs k (by rw [hu.up.ln]; exact hu.kl)) hu.isk.1
    exact f
  have e6 : sel (iLt (off + n - a) (32 - a % 32)) (off + n - a) (32 - a % 32) = siz off n a := by
    unfold siz
    by_cases hc : off + n - a < 32 - a % 32
    · rw [iLt_y hc, if_pos hc]; rfl
    · rw [iLt_f hc, if_neg hc]; rfl
  unfold B53_2
  rw [add_n (a := off) (b := n) (by omega) (by omega), iLt_y ha.2, sel_t, show oNz 32 = true from rfl, sel_t, sel_t, rem_nn (by omega), quo_nn (by omega) (by omega), sub_n (a := off + n) (b := a) (by omega) (by omega), sub_n (a := 32) (b := a % 32) (by omega) (by omega), e6, add_n (a := a % 32) (b := siz off n a) (by omega) (by omega), add_n (a := a) (b := siz off n a) (by omega) (by omega), sub_n (a := a) (b := off) (by omega) (by omega), add_n (a := a - off) (b := siz off n a) (by omega) (by omega), e82, bnd_s]
  dsimp only [opg]
  unfold stp outM
  rw [ek]
  have hfl' : sLen (lAt (useM y seg (a / 32) pool).1.2.1 (k : Int)).2.2.2.2.2.1 = 32 := hfl
  have hkl : k < (useM y seg (a / 32) pool).1.2.1.length := by rw [hu.up.ln]; exact hu.kl
  by_cases hk0 : kind = 0
  · rw [iEq_y hk0, sel_t, if_pos hk0, if_pos hk0, hfl', oCut_y (by omega), sel_t, sOk_n (by rw [scut_len _ (by omega) (by omega) (by omega)]; omega), sel_t]
  · have hbn : sLen b = n := hk.resolve_left hk0
    have hc : sLen (sCut b (a - off) (a - off + siz off n a)) = siz off n a := by rw [scut_len _ (by omega) (by omega) (by omega)]; omega
    have hc0 : sLen (sCut (lAt (useM y seg (a / 32) pool).1.2.1 (k : Int)).2.2.2.2.2.1 0 (a % 32)) = a % 32 := by rw [scut_len _ (by omega) (by omega) (by omega)]; omega
    have hc1 : sLen (sCut (lAt (useM y seg (a / 32) pool).1.2.1 (k : Int)).2.2.2.2.2.1 (a % 32 + siz off n a) 32) ≤ 32 := by rw [scut_len _ (by omega) (by omega) (by omega)]; omega
    have ep : put (lAt (useM y seg (a / 32) pool).1.2.1 (k : Int)).2.2.2.2.2.1 (a % 32) (sCut b (a - off) (a - off + siz off n a)) = sAdd (sAdd (sCut (lAt (useM y seg (a / 32) pool).1.2.1 (k : Int)).2.2.2.2.2.1 0 (a % 32)) (sCut b (a - off) (a - off + siz off n a))) (sCut (lAt (useM y seg (a / 32) pool).1.2.1 (k : Int)).2.2.2.2.2.1 (a % 32 + siz off n a) 32) := by
      unfold put; rw [hc, hfl']
    rw [iEq_f hk0, sel_f, if_neg hk0, if_neg hk0, hfl', oCut_y (by omega), sel_t, oCut_y (by omega), sel_t, sOk_n (by rw [hc0, hc]; omega), sel_t, oCut_y (by omega), sel_t, sOk_n (by rw [sadd_len, hc0, hc]; omega), sel_t, ← ep, lSet_own _ _ _ hkl, lSet_two]
    rfl
theorem scut_all (b : ByteArray) : sCut b 0 (sLen b) = b := by
  refine by_inj ?_
  rw [by_cut, by_len]
  simp
theorem movM_end {kind pool seg off n : Int} {b : ByteArray} {y : PAG} {a : Int} {out : ByteArray} (h : ¬ a < off + n) : ∀ f, movM kind pool seg off n b f y a out = (y, out)
  | 0 => rfl
  | f + 1 => by unfold movM; rw [if_neg h]
theorem outM_len {x y : PAG} {t : Nat} {kind pool seg off n : Int} {out : ByteArray} (h : BI x y t) (ht : 0 ≤ x.2.2.2.1) (hr : rdOK x.1 seg off n) (hpo : 0 ≤ pool ∧ pool ≤ 2) (hb : bst x pool x.2.1.length ≠ -1) {a : Int} (ha : off ≤ a ∧ a < off + n) : sLen (outM kind pool seg off n y a out) ≤ sLen out + 32 := by
  obtain ⟨hp, hb', k, ek, hu⟩ := stp_use h ht hr hpo hb ha
  obtain ⟨s1, s2, s3, s4⟩ := siz_pos ha hr.2.1
  have hr2 := hr.2.1
  unfold outM
  split
  · have hfl : sLen (lAt (useM y seg (a / 32) pool).1.2.1 (k : Int)).2.2.2.2.2.1 = 32 := by
      obtain ⟨_, f, _⟩ := rf_used (hu.rt.fs k (by rw [hu.up.ln]; exact hu.kl)) hu.isk.1
      exact f
    rw [ek, sadd_len, scut_len _ (by omega) (by omega) (by omega)]
    omega
  · omega
theorem BI_0 {x : PAG} (hx : RT x) : BI x x 0 := ⟨hx, rfl, rfl, fun _ _ => rfl, by simp, by simp, by simp⟩
/-- The program's loop over the pages of an access. -/
theorem L53_eq {x : PAG} {kind pool seg off len n : Int} {b : ByteArray} (hx : RT x) (hN : NB x) (hr : rdOK x.1 seg off n) (hpo : 0 ≤ pool ∧ pool ≤ 2) (hb : bst x pool x.2.1.length ≠ -1) (hk : kind = 0 ∨ sLen b = n) : (∃ t, t ≤ 20 ∧ BI x (movM kind pool seg off n b 20 x off (bs [])).1 t) ∧ L53_2 ((kind, (pool, (seg, (off, (len, b))))), (z4', (opg x, (bs [], (n, off))))) = some (z4', (opg (movM kind pool seg off n b 20 x off (bs [])).1, (movM kind pool seg off n b 20 x off (bs [])).2)) := by
  have hlen : sLen (sgB x.1 seg) ≤ 400 := by
    obtain ⟨i, hi, _, _, ep⟩ := place_in hr.1
    unfold sgB
    rw [ep]
    have := hx.few.2 i hi
    omega
  have hr' := hr
  obtain ⟨r1, r2, r3, r4⟩ := hr
  have h : Ok (L53_2 ((kind, (pool, (seg, (off, (len, b))))), (z4', (opg x, (bs [], (n, off)))))) (fun r => (∃ t, t ≤ 20 ∧ BI x (movM kind pool seg off n b 20 x off (bs [])).1 t) ∧ r = (z4', (opg (movM kind pool seg off n b 20 x off (bs [])).1, (movM kind pool seg off n b 20 x off (bs [])).2))) := by
    refine loop_inv (fun m st => ∃ (f t : Nat) (y : PAG) (a : Int) (out : ByteArray), BI x y t ∧ off ≤ a ∧ a ≤ off + n ∧ sLen out ≤ 32 * t ∧ f + t = 20 ∧ (a < off + n → off + n - a + (if a % 32 = 0 then 0 else a % 32) ≤ 32 * f - 32 ∧ (t ≠ 0 → a % 32 = 0)) ∧ movM kind pool seg off n b f y a out = movM kind pool seg off n b 20 x off (bs []) ∧ st = ((kind, (pool, (seg, (off, (len, b))))), (z4', (opg y, (out, (n, a))))) ∧ m = f) 20 ⟨20, 0, x, off, bs [], BI_0 hx, by omega, by omega, by rw [sLen_nil]; simp, rfl, fun _ => ⟨by split <;> omega, fun h => absurd rfl h⟩, rfl, rfl, rfl⟩ (by omega) ?_
    rintro m st ⟨f, t, y, a, out, hB, ha1, ha2, ho, hft, hf, hm, rfl, rfl⟩
    show Ok (B53_2 kind pool seg off len b 0 0 0 0 y.1.1 y.1.2 y.2.1 y.2.2.1 y.2.2.2.1 y.2.2.2.2.1 y.2.2.2.2.2 out n a) _
    by_cases hlt : a < off + n
    · obtain ⟨hf1, hf2⟩ := hf hlt
      obtain ⟨g, rfl⟩ : ∃ g, m = g + 1 := ⟨m - 1, by split at hf1 <;> omega⟩
      obtain ⟨s1, s2, s3, s4⟩ := siz_pos ⟨ha1, hlt⟩ hr'.2.1
      have hB' := stp_BI hB hN.1.1 hr' hpo hb hk ⟨ha1, hlt⟩
      have hol := outM_len (kind := kind) (out := out) hB hN.1.1 hr' hpo hb ⟨ha1, hlt⟩
      rw [B53_y hB hN (by omega) hr' hx hpo hb hk (by omega) ⟨ha1, hlt⟩, ok_some]
      refine ⟨g, by omega, g, t + 1, stp kind pool seg off n b y a, a + siz off n a, outM kind pool seg off n y a out, hB', by omega, by omega, by omega, by omega, fun h => ?_, ?_, rfl, rfl⟩
      · have h32 : (a + siz off n a) % 32 = 0 := s4.resolve_left (by omega)
        rw [if_pos h32]
        refine ⟨?_, fun _ => h32⟩
        have hsz : a % 32 + siz off n a = 32 ∨ a + siz off n a = off + n := by unfold siz; split <;> omega
        split at hf1 <;> omega
      · rw [← hm]
        conv => rhs; unfold movM
        rw [if_pos hlt]
    · unfold B53_2
      rw [add_n (by omega) (by omega), iLt_f hlt, sel_f, ok_some, ← hm, movM_end hlt]
      exact ⟨⟨t, by omega, hB⟩, rfl⟩
  obtain ⟨r, e, h1, h2⟩ := h
  exact ⟨h1, by rw [e, h2]⟩
end Go.Proofs.Ytagcodkkkebnhaa.K
end

section
set_option linter.unusedVariables false
set_option linter.unusedSimpArgs false
set_option linter.unnecessarySimpa false
open Go Go.Ev
namespace Go.Proofs.Ytagcodkkkebnhaa.K
open Classical in
/-- The changed frames that are forced. -/
noncomputable def frc (x : PAG) (kind seg : Int) (L : List Int) : List Int := L.filter fun a => decide (kind = 3 ∨ (lAt x.2.1 a).2.2.2.1 = seg)
theorem frc_sub (x : PAG) (kind seg : Int) (L : List Int) : (frc x kind seg L).Sublist L := by unfold frc; exact List.filter_sublist
theorem frc_app (x : PAG) (kind seg : Int) (D : List Int) (a : Int) : frc x kind seg (D ++ [a]) = frc x kind seg D ++ (if kind = 3 ∨ (lAt x.2.1 a).2.2.2.1 = seg then [a] else []) := by
  unfold frc
  rw [List.filter_append]
  congr 1
  by_cases h : kind = 3 ∨ (lAt x.2.1 a).2.2.2.1 = seg
  · rw [if_pos h]; simp [h]
  · rw [if_neg h]; simp [h]
theorem usedIn_sub {x : PAG} {L M : List Int} (h : usedIn x L) (hs : M.Sublist L) : usedIn x M := fun a ha => h a (hs.subset ha)
theorem L53a_eq {x : PAG} (hx : RT x) (hN : NB x) {kind pool seg off : Int} {S : SEG} {L : List Int} (hL : L.Perm (chg x)) : L53_0 (opg x, ((kind, (pool, (seg, (off, S)))), (z4', (opg x, (bs [], (L, (lLen L, 0))))))) = some (z4', (opg ((frc x kind seg L).foldl sav x), bs [])) := by
  obtain ⟨h1, h2⟩ := chg_perm_used hx hL
  have h3 : L.length ≤ 8 := by have := hL.length_eq; have := chg_len hx; omega
  have hw : 0 ≤ x.2.2.2.2.2 ∧ x.2.2.2.2.2 ≤ 1200000000000000 := hN.2.2
  have h : Ok (L53_0 (opg x, ((kind, (pool, (seg, (off, S)))), (z4', (opg x, (bs [], (L, (lLen L, 0)))))))) (fun r => r = (z4', (opg ((frc x kind seg L).foldl sav x), bs []))) := by
    refine loop_inv (fun m y => ∃ D R : List Int, D ++ R = L ∧ y = (opg x, ((kind, (pool, (seg, (off, S)))), (z4', (opg ((frc x kind seg D).foldl sav x), (bs [], (L, (lLen L, (D.length : Int)))))))) ∧ m = R.length) L.length ⟨[], L, rfl, rfl, rfl⟩ (by omega) ?_
    rintro m y ⟨D, R, e, rfl, rfl⟩
    generalize hz : (frc x kind seg D).foldl sav x = z
    show Ok (B53_0 x.1.1 x.1.2 x.2.1 x.2.2.1 x.2.2.2.1 x.2.2.2.2.1 x.2.2.2.2.2 kind pool seg off S.1 S.2 0 0 0 0 z.1.1 z.1.2 z.2.1 z.2.2.1 z.2.2.2.1 z.2.2.2.2.1 z.2.2.2.2.2 (bs []) L (lLen L) (D.length : Int)) _
    unfold B53_0
    have hll : lLen L = (D.length : Int) + R.length := by unfold lLen; rw [← e]; simp
    cases R with
    | nil =>
      simp at e hll
      subst e
      rw [iLt_f (by omega), sel_f, ok_some, hz]
    | cons a R =>
      have hD : D.length ≤ 8 := by rw [← e] at h3; simp at h3; omega
      have e1 : lAt L (D.length : Int) = a := by rw [← e]; exact lAt_mid _ _ _
      obtain ⟨k, hk, rfl, hk2⟩ := h2 a (by rw [← e]; simp)
      rw [List.length_cons] at hll
      rw [iLt_y (by omega), sel_t, oIn_y (by omega), sel_t, e1, oIn_fr hk, or_tt, sel_t, add_n (by omega) (by omega)]
      have hfa := frc_app x kind seg D (k : Int)
      by_cases hc : kind = 3 ∨ (lAt x.2.1 (k : Int)).2.2.2.1 = seg
      · have w : bOr (iEq kind 3) (iEq (lAt x.2.1 (k : Int)).2.2.2.1 seg) = true := by rw [or_t, iEq_t, iEq_t]; exact hc
        rw [if_pos hc] at hfa
        have hsub : (frc x kind seg D ++ (k : Int) :: []).Sublist L := by
          rw [← e]
          refine List.Sublist.append (frc_sub _ _ _ _) ?_
          simp
        have hlen : (frc x kind seg D).length ≤ 8 := Nat.le_trans (frc_sub _ _ _ _).length_le hD
        rw [w, sel_t]
        have hv := savs_ok (L := frc x kind seg D) hx ((h1.sublist hsub).sublist (List.sublist_append_left _ _)) (fun b hb => usedIn_sub h2 hsub b (by simp [hb]))
        have hnm : ¬ (k : Int) ∈ frc x kind seg D := by
          intro h
          have := h1.sublist hsub
          rw [List.nodup_append] at this
          exact this.2.2 _ h _ (by simp) rfl
        rw [hz] at hv
        rw [F64_eq hv.rt (by rw [hv.ln]; exact hk) (by rw [hv.fs k hk, if_neg hnm]; exact hk2) (by rw [hv.wr]; omega), bnd_s, ok_some]
        refine ⟨R.length, by simp, D ++ [(k : Int)], R, by rw [← e]; simp, ?_, rfl⟩
        rw [hfa, List.foldl_append, hz]
        simp
      · have w : bOr (iEq kind 3) (iEq (lAt x.2.1 (k : Int)).2.2.2.1 seg) = false := by rw [bf_t, or_t, iEq_t, iEq_t]; exact hc
        rw [if_neg hc, List.append_nil] at hfa
        rw [w, sel_f, ok_some]
        refine ⟨R.length, by simp, D ++ [(k : Int)], R, by rw [← e]; simp, ?_, rfl⟩
        rw [hfa, hz]
        simp
  rw [ok_is] at h
  exact h
/-- The numbers of a memory are too large, as0 the program asks it. -/
theorem full_eq {z : PAG} (h : 0 ≤ z.2.2.2.1 ∧ 0 ≤ z.2.2.2.2.1 ∧ 0 ≤ z.2.2.2.2.2) : (SML z ∧ bOr (bOr (iLt 999999999999999 z.2.2.2.1) (iLt 999999999999999 z.2.2.2.2.1)) (iLt 999999999999999 z.2.2.2.2.2) = false) ∨ (¬ SML z ∧ bOr (bOr (iLt 999999999999999 z.2.2.2.1) (iLt 999999999999999 z.2.2.2.2.1)) (iLt 999999999999999 z.2.2.2.2.2) = true) := by
  by_cases hc : SML z
  · refine .inl ⟨hc, ?_⟩
    obtain ⟨a, b, c⟩ := hc
    unfold inN at *
    rw [bf_t, or_t, or_t, iLt_t, iLt_t, iLt_t]
    omega
  · refine .inr ⟨hc, ?_⟩
    unfold SML inN at hc
    rw [or_t, or_t, iLt_t, iLt_t, iLt_t]
    omega
def mvN (kind len : Int) (b : ByteArray) : Int := if kind = 0 then len else sLen b
theorem acc_bad {x : PAG} (hx : RT x) (hs : SML x) {kind pool seg off len : Int} {b : ByteArray} (h1 : fits seg) (h2 : fits off) (h3 : fits len) (h4 : sLen b ≤ 400) (he : accE x kind pool seg off len b ≠ 0) : F22 x (kind, (pool, ((seg, off), (len, b)))) = some (noP, (bs [], accE x kind pool seg off len b)) := by
  unfold F22 F53
  rw [(RT_check hx hs).1, bnd_s, iEq_y rfl, nt, sel_f, F81_eq hx h1 h2 h3 h4, bnd_s, iEq_f he, nf, sel_t, bnd_s]
  rfl
theorem movE_ok {x : PAG} {pool seg off n : Int} (h : movE x pool seg off n = 0) : (0 ≤ pool ∧ pool ≤ 2) ∧ rdOK x.1 seg off n ∧ bst x pool x.2.1.length ≠ -1 := by
  unfold movE at h
  split at h
  · cases h
  · rename_i h1
    split at h
    · rename_i h2; exact absurd h h2
    · rename_i h2
      split at h
      · cases h
      · rename_i h3
        exact ⟨Classical.not_not.1 h1, rdE_ok.1 (Classical.not_not.1 h2), h3⟩
theorem acc_mv {x : PAG} (hx : RT x) (hs : SML x) {kind pool seg off len : Int} {b : ByteArray} (hk : kind = 0 ∨ kind = 1) (h1 : fits seg) (h2 : fits off) (h3 : fits len) (h4 : sLen b ≤ 400) (he : accE x kind pool seg off len b = 0) :
    (0 ≤ pool ∧ pool ≤ 2) ∧ rdOK x.1 seg off (mvN kind len b) ∧ bst x pool x.2.1.length ≠ -1 ∧ (kind = 0 ∧ b = bs [] ∨ kind = 1 ∧ len = 0) ∧ (∃ t, t ≤ 20 ∧ BI x (movM kind pool seg off (mvN kind len b) b 20 x off (bs [])).1 t) ∧
    (SML (movM kind pool seg off (mvN kind len b) b 20 x off (bs [])).1 → F22 x (kind, (pool, ((seg, off), (len, b)))) = some (opg (movM kind pool seg off (mvN kind len b) b 20 x off (bs [])).1, ((movM kind pool seg off (mvN kind len b) b 20 x off (bs [])).2, 0))) ∧
    (¬ SML (movM kind pool seg off (mvN kind len b) b 20 x off (bs [])).1 → F22 x (kind, (pool, ((seg, off), (len, b)))) = some (noP, (bs [], 30))) := by
  have hbn := sLen_nn b
  have hN := SML_NB hs
  have e81 := F81_eq hx (kind := kind) (pool := pool) (b := b) h1 h2 h3 h4
  rw [he] at e81
  have key : movE x pool seg off (mvN kind len b) = 0 ∧ (kind = 0 ∧ b = bs [] ∨ kind = 1 ∧ len = 0) ∧ iAdd .i64 len (sLen b) = mvN kind len b := by
    unfold accE at he
    unfold mvN
    rcases hk with rfl | rfl
    · rw [if_pos rfl] at he ⊢
      split at he
      · rename_i hb
        refine ⟨he, .inl ⟨rfl, hb⟩, ?_⟩
        rw [hb, sLen_nil]; unfold fits at h3; rw [add_n (by omega) (by omega)]; omega
      · cases he
    · rw [if_neg (by decide), if_pos rfl] at he
      rw [if_neg (by decide)]
      split at he
      · rename_i hl
        refine ⟨he, .inr ⟨rfl, hl⟩, ?_⟩
        rw [hl, add_n (by omega) (by omega)]; omega
      · cases he
  obtain ⟨k1, k2, k3⟩ := key
  obtain ⟨p1, p2, p3⟩ := movE_ok k1
  have hkb : kind = 0 ∨ sLen b = mvN kind len b := by
    rcases hk with h | h
    · exact .inl h
    · right; unfold mvN; rw [if_neg (by omega)]
  obtain ⟨⟨t, ht, hB⟩, hL⟩ := L53_eq (len := len) hx hN p2 p1 p3 hkb
  refine ⟨p1, p2, p3, k2, ⟨t, ht, hB⟩, ?_⟩
  have hko : bOr (iEq kind 2) (iEq kind 3) = false := by rw [bf_t, or_t, iEq_t, iEq_t]; omega
  have e22 : F22 x (kind, (pool, ((seg, off), (len, b)))) = sel (bOr (bOr (iLt 999999999999999 (movM kind pool seg off (mvN kind len b) b 20 x off (bs [])).1.2.2.2.1) (iLt 999999999999999 (movM kind pool seg off (mvN kind len b) b 20 x off (bs [])).1.2.2.2.2.1)) (iLt 999999999999999 (movM kind pool seg off (mvN kind len b) b 20 x off (bs [])).1.2.2.2.2.2)) (some (noP, (bs [], 30))) (some (opg (movM kind pool seg off (mvN kind len b) b 20 x off (bs [])).1, ((movM kind pool seg off (mvN kind len b) b 20 x off (bs [])).2, 0))) := by
    unfold F22 F53
    rw [(RT_check hx hs).1, bnd_s, iEq_y rfl, nt, sel_f, e81, bnd_s, F51_RT hx, bnd_s]
    dsimp only
    rw [iEq_y rfl, nt, sel_f, hko, sel_f, k3, hL, bnd_s]
    generalize bOr (bOr _ _) _ = c
    cases c <;> rfl
  have hn1 : 0 ≤ x.2.2.2.1 := hN.1.1
  have hn2 : 0 ≤ x.2.2.2.2.1 := hN.2.1.1
  have hn3 : 0 ≤ x.2.2.2.2.2 := hN.2.2.1
  have htm := hB.tm
  have hrd := hB.rd
  have hwr := hB.wr
  rcases full_eq (z := (movM kind pool seg off (mvN kind len b) b 20 x off (bs [])).1) ⟨by omega, by omega, by omega⟩ with ⟨g1, g2⟩ | ⟨g1, g2⟩
  · exact ⟨fun _ => by rw [e22, g2, sel_f], fun h => absurd g1 h⟩
  · exact ⟨fun h => absurd h g1, fun _ => by rw [e22, g2, sel_t]⟩
theorem acc_fl {x : PAG} (hx : RT x) (hs : SML x) {kind pool seg off len : Int} {b : ByteArray} (hk : kind = 2 ∨ kind = 3) (h1 : fits seg) (h2 : fits off) (h3 : fits len) (h4 : sLen b ≤ 400) (he : accE x kind pool seg off len b = 0) :
    ∃ L, L.Perm (chg x) ∧ SV x ((frc x kind seg L).foldl sav x) (frc x kind seg L) ∧
    (SML ((frc x kind seg L).foldl sav x) → F22 x (kind, (pool, ((seg, off), (len, b)))) = some (opg ((frc x kind seg L).foldl sav x), (bs [], 0))) ∧
    (¬ SML ((frc x kind seg L).foldl sav x) → F22 x (kind, (pool, ((seg, off), (len, b)))) = some (noP, (bs [], 30))) := by
  have hN := SML_NB hs
  have e81 := F81_eq hx (kind := kind) (pool := pool) (b := b) h1 h2 h3 h4
  rw [he] at e81
  obtain ⟨L, e63, hL, _⟩ := F63_eq hx
  obtain ⟨g1, g2⟩ := chg_perm_used hx hL
  have hv := savs_ok hx (g1.sublist (frc_sub x kind seg L)) (usedIn_sub g2 (frc_sub x kind seg L))
  refine ⟨L, hL, hv, ?_⟩
  have hko : bOr (iEq kind 2) (iEq kind 3) = true := by rw [or_t, iEq_t, iEq_t]; exact hk
  generalize hz : (frc x kind seg L).foldl sav x = z at *
  have e22 : F22 x (kind, (pool, ((seg, off), (len, b)))) = sel (bOr (bOr (iLt 999999999999999 z.2.2.2.1) (iLt 999999999999999 z.2.2.2.2.1)) (iLt 999999999999999 z.2.2.2.2.2)) (some (noP, (bs [], 30))) (some (opg z, (bs [], 0))) := by
    have eL := L53a_eq hx hN (kind := kind) (pool := pool) (seg := seg) (off := off) (S := (len, b)) hL
    rw [hz] at eL
    unfold F22 F53
    rw [(RT_check hx hs).1, bnd_s, iEq_y rfl, nt, sel_f, e81, bnd_s, F51_RT hx, bnd_s]
    dsimp only
    rw [iEq_y rfl, nt, sel_f, hko, sel_t, e63, bnd_s, eL, bnd_s]
    generalize bOr (bOr _ _) _ = c
    cases c <;> rfl
  have hn1 : 0 ≤ x.2.2.2.1 := hN.1.1
  have hn2 : 0 ≤ x.2.2.2.2.1 := hN.2.1.1
  have hn3 : 0 ≤ x.2.2.2.2.2 := hN.2.2.1
  have htm := hv.tm
  have hrd := hv.rd
  have hwr := hv.wr
  rcases full_eq (z := z) ⟨by omega, by omega, by omega⟩ with ⟨g1, g2⟩ | ⟨g1, g2⟩
  · exact ⟨fun _ => by rw [e22, g2, sel_f], fun h => absurd g1 h⟩
  · exact ⟨fun h => absurd h g1, fun _ => by rw [e22, g2, sel_t]⟩
end Go.Proofs.Ytagcodkkkebnhaa.K
end

section
set_option linter.unusedVariables false
set_option linter.unusedSimpArgs false
set_option linter.unnecessarySimpa false
open Go Go.Ev
namespace Go.Proofs.Ytagcodkkkebnhaa.K
theorem isS_VW {x z : PAG} {t : STO} (hs : shp z.1 = shp x.1) (hv : VW x z) (h : isS z t) : isS x t :=
  ⟨h.1.trans hs, fun n j hp => by rw [h.2 n j (by rw [shp_place hs]; exact hp), hv n j hp]⟩
theorem isS_len {x : PAG} (hx : RT x) {t : STO} (h : isS x t) : t.1.length ≤ 1000000 := by
  have := shp_len h.1
  have := hx.few.1
  omega
theorem fits_s {n : Int} (h1 : -1000000 ≤ n) (h2 : n ≤ 1000000) : fits n := by unfold fits; omega
/-- PagingKept. -/
theorem kept (x : PAG) (n : Int) (h2 : fits x.1.2) (hn : fits n) : F9 x n = some true := by
  unfold F9
  rw [awake, bnd_s, nt, sel_f]
  rcases F12_eq x with ⟨hf, e⟩ | e
  · rw [e, bnd_s, nt]
    rcases check_eq x hf.1 h2 (by have := hf.2.1; omega) with ⟨hr, e1, e2⟩ | ⟨c, hc, e1, e2⟩
    · obtain ⟨hx, hs⟩ := RT_of hr hf.1
      obtain ⟨S, eS, iS⟩ := F33_eq hx hs
      obtain ⟨l, el, il, hll⟩ := F34_eq hx hs
      have hSl := isS_len hx iS
      have hN := hs.2.2
      unfold inN at hN
      have hl8 := chg_len hx
      have a3 : accE x 3 0 0 0 0 (bs []) = 0 := by unfold accE; rw [if_neg (by decide), if_neg (by decide), if_neg (by decide), if_pos rfl, if_pos ⟨rfl, rfl, rfl, rfl, rfl⟩]
      obtain ⟨L, hL, hv, g1, g2⟩ := acc_fl hx hs (.inr rfl) (fits_s (by decide) (by decide)) (fits_s (by decide) (by decide)) (fits_s (by decide) (by decide)) (by rw [sLen_nil]; decide) a3
      have hfL : frc x 3 0 L = L := by unfold frc; simp
      rw [hfL] at hv g1 g2
      have hLl : (L.length : Int) = lLen l := by unfold lLen; rw [hll, hL.length_eq]
      rw [e2, okS_s, or_tt, sel_t, valS_s, let_s, or_ff, iEq_y rfl, nt, sel_f, F14_RT hx, bnd_s]
      show bndS (F33 x) (fun y4 => bndS (some (opg x)) fun y5 => bndS (F34 ((y5.1, y5.2.1), y5.2.2)) fun y6 => _) = _
      rw [eS, bnd_s, bnd_s]
      show bndS (F34 x) (fun y6 => bndS (some (opg x)) fun y7 => bndS (F22 ((y7.1, y7.2.1), y7.2.2) (3, (0, ((0, 0), (0, bs []))))) fun y8 => _) = _
      rw [el, bnd_s, bnd_s]
      show bndS (F22 x (3, (0, ((0, 0), (0, bs []))))) _ = _
      have hl9 : lLen l ≤ 8 := by unfold lLen; omega
      have hl0 := lLen_nn l
      by_cases hful : 999999999999999 < x.2.2.2.2.2 + lLen l
      · have : ¬ SML (L.foldl sav x) := by
          rintro ⟨_, _, h⟩
          unfold inN at h
          rw [hv.wr] at h
          omega
        rw [g2 this, bnd_s]
        dsimp only
        rw [iEq_y (a := (0 : Int)) rfl, nt, or_ff, sel_f, add_n (by omega) (by omega), iLt_y hful, sel_t, iEq_y rfl]
      · have hz : SML (L.foldl sav x) := by
          refine ⟨by rw [hv.tm]; exact hs.1, by rw [hv.rd]; exact hs.2.1, ?_⟩
          unfold inN
          rw [hv.wr]
          omega
        have hS : (L.foldl sav x).1 = S := isS_uniq hx (hv.isS (chg_perm_all hL)) iS
        rw [g1 hz, bnd_s]
        dsimp only
        rw [iEq_y (a := (0 : Int)) rfl, nt, or_ff, sel_f, add_n (by omega) (by omega), iLt_f hful, sel_f]
        have e35 : F35 ((opg (L.foldl sav x)).1, (opg (L.foldl sav x)).2.1) S = some true := by
          show F35 (L.foldl sav x).1 S = _
          rw [hS]; exact F35_self S hSl
        have ew : iEq (opg (L.foldl sav x)).2.2.2.2.2.2 (x.2.2.2.2.2 + lLen l) = true := iEq_y (by rw [← hLl]; exact hv.wr)
        rw [e35, okS_s, or_tt, sel_t, valS_s, let_s, ew, nt, or_ff, or_ff, sel_f, bnd_s]
        show bndS (F22 x (2, (0, ((n, 0), (0, bs []))))) _ = _
        by_cases a2 : accE x 2 0 n 0 0 (bs []) = 0
        · obtain ⟨L2, hL2, hv2, k1, k2⟩ := acc_fl hx hs (.inl rfl) hn (fits_s (by decide) (by decide)) (fits_s (by decide) (by decide)) (by rw [sLen_nil]; decide) a2
          by_cases hz2 : SML ((frc x 2 n L2).foldl sav x)
          · rw [k1 hz2, bnd_s]
            dsimp only
            rw [iEq_y (a := (0 : Int)) rfl, nt, sel_f]
            obtain ⟨t, et, it⟩ := F33_eq hv2.rt hz2
            have : t = S := isS_uniq hx (isS_VW hv2.sh hv2.vw it) iS
            subst this
            show bndS (F33 ((frc x 2 n L2).foldl sav x)) _ = _
            rw [et, bnd_s]
            dsimp only
            rw [F35_self t hSl, okS_s, or_tt, sel_t, valS_s, let_s, iEq_y rfl]
            rfl
          · rw [k2 hz2, bnd_s]
            rfl
        · rw [acc_bad hx hs hn (fits_s (by decide) (by decide)) (fits_s (by decide) (by decide)) (by rw [sLen_nil]; decide) a2, bnd_s]
          dsimp only
          rw [iEq_f a2, nf, sel_t]
    · rw [e2, okS_s, or_tt, sel_t, valS_s, let_s, or_ff, iEq_f hc, nf, sel_t]
  · rw [e, bnd_s, nf]
    have : bOr (okS (F15 x)) (bNot (bNot true)) = true := by rw [or_t]; exact .inr rfl
    rw [this, sel_t, let_s, or_tt, sel_t]
end Go.Proofs.Ytagcodkkkebnhaa.K
end

section
set_option linter.unusedVariables false
set_option linter.unusedSimpArgs false
set_option linter.unnecessarySimpa false
open Go Go.Ev
namespace Go.Proofs.Ytagcodkkkebnhaa.K
/-- What the steps of an access keep holds at its end. -/
theorem movM_ind {x : PAG} {kind pool seg off n : Int} {b : ByteArray} (ht : 0 ≤ x.2.2.2.1) (hr : rdOK x.1 seg off n) (hpo : 0 ≤ pool ∧ pool ≤ 2) (hb : bst x pool x.2.1.length ≠ -1) (hk : kind = 0 ∨ sLen b = n) (P : PAG → Int → ByteArray → Prop)
    (hs : ∀ t y a out, BI x y t → off ≤ a → a < off + n → P y a out → P (stp kind pool seg off n b y a) (a + siz off n a) (outM kind pool seg off n y a out)) :
    ∀ (f t : Nat) (y : PAG) (a : Int) (out : ByteArray), BI x y t → off ≤ a → a ≤ off + n → (a < off + n → off + n - a + a % 32 ≤ 32 * f - 32) → P y a out → P (movM kind pool seg off n b f y a out).1 (off + n) (movM kind pool seg off n b f y a out).2
  | 0, t, y, a, out, hB, h1, h2, hf, hP => by
    have : a = off + n := by
      rcases Int.lt_or_le a (off + n) with h | h
      · have := hf h; omega
      · omega
    subst this
    exact hP
  | f + 1, t, y, a, out, hB, h1, h2, hf, hP => by
    unfold movM
    split
    · rename_i hlt
      have hf' := hf hlt
      obtain ⟨s1, s2, s3, s4⟩ := siz_pos ⟨h1, hlt⟩ hr.2.1
      have hsz : a % 32 + siz off n a = 32 ∨ a + siz off n a = off + n := by unfold siz; split <;> omega
      refine movM_ind ht hr hpo hb hk P hs f (t + 1) _ _ _ (stp_BI hB ht hr hpo hb hk ⟨h1, hlt⟩) (by omega) (by omega) (fun h => ?_) (hs t y a out hB h1 hlt hP)
      have := s4.resolve_left (by omega)
      have := hsz.resolve_right (by omega)
      omega
    · rename_i hlt
      have : a = off + n := by omega
      subst this
      exact hP
theorem mov_len {x : PAG} (hx : RT x) {seg off n : Int} (hr : rdOK x.1 seg off n) : off + n ≤ 400 := by
  obtain ⟨i, hi, _, _, ep⟩ := place_in hr.1
  have h4 := hr.2.2.2
  unfold sgB at h4
  rw [ep] at h4
  have := hx.few.2 i hi
  omega
theorem movM_all {x : PAG} {kind pool seg off n : Int} {b : ByteArray} (hx : RT x) (ht : 0 ≤ x.2.2.2.1) (hr : rdOK x.1 seg off n) (hpo : 0 ≤ pool ∧ pool ≤ 2) (hb : bst x pool x.2.1.length ≠ -1) (hk : kind = 0 ∨ sLen b = n) (P : PAG → Int → ByteArray → Prop)
    (h0 : P x off (bs []))
    (hs : ∀ t y a out, BI x y t → off ≤ a → a < off + n → P y a out → P (stp kind pool seg off n b y a) (a + siz off n a) (outM kind pool seg off n y a out)) :
    P (movM kind pool seg off n b 20 x off (bs [])).1 (off + n) (movM kind pool seg off n b 20 x off (bs [])).2 := by
  have := mov_len hx hr
  have h2 := hr.2.1
  have h3 := hr.2.2.1
  exact movM_ind ht hr hpo hb hk P hs 20 0 x off (bs []) (BI_0 hx) (by omega) (by omega) (fun _ => by omega) h0
theorem movM_one {x : PAG} {kind pool seg off n : Int} {b out : ByteArray} (hn : 0 < n) (h : off % 32 + n ≤ 32) : movM kind pool seg off n b 20 x off out = (stp kind pool seg off n b x off, outM kind pool seg off n x off out) := by
  have e : siz off n off = n := by unfold siz; split <;> omega
  unfold movM
  rw [if_pos (by omega), e, movM_end (by omega)]
/-- A step of an access leaves its page in memory. -/
theorem stp_in {x y : PAG} {t : Nat} {kind pool seg off n : Int} {b : ByteArray} (h : BI x y t) (ht : 0 ≤ x.2.2.2.1) (hr : rdOK x.1 seg off n) (hpo : 0 ≤ pool ∧ pool ≤ 2) (hb : bst x pool x.2.1.length ≠ -1) (hk : kind = 0 ∨ sLen b = n) {a : Int} (ha : off ≤ a ∧ a < off + n) : ∃ k, k < (stp kind pool seg off n b y a).2.1.length ∧ isK (fAt (stp kind pool seg off n b y a) k) seg (a / 32) := by
  obtain ⟨hp, hb', k, e, hu⟩ := stp_use h ht hr hpo hb ha
  obtain ⟨s1, s2, s3, s4⟩ := siz_pos ha hr.2.1
  have hkl : k < (useM y seg (a / 32) pool).1.2.1.length := by rw [hu.up.ln]; exact hu.kl
  unfold stp
  split
  · exact ⟨k, hkl, hu.isk⟩
  · rename_i hk0
    have hbn : sLen b = n := hk.resolve_left hk0
    have h0 := hr.2.1
    obtain ⟨q, hq⟩ := Int.eq_ofNat_of_zero_le (show 0 ≤ a / 32 by omega)
    obtain ⟨r, hr'⟩ := Int.eq_ofNat_of_zero_le (show 0 ≤ a % 32 by omega)
    have hc : sLen (sCut b (a - off) (a - off + siz off n a)) = siz off n a := by rw [scut_len _ (by omega) (by omega) (by omega)]; omega
    have hK : isK (fAt (useM y seg (a / 32) pool).1 k) seg (q : Int) := by rw [← hq]; exact hu.isk
    rw [e, hr']
    obtain ⟨w1, w2, w3, w4, _⟩ := wrt_ok (v := sCut b (a - off) (a - off + siz off n a)) (a := r) hu.rt hkl hK (by rw [hc]; omega)
    exact ⟨k, by rw [w2.ln]; exact hkl, by rw [hq]; rw [hq] at w3; exact w3⟩
theorem F23_eq {x : PAG} (hx : RT x) (hs : SML x) {n p : Int} (hp : hasP x.1 n p) : ∃ m, F23 x n p = some (if fidx n p x.2.1 = -1 then (0, (0, 40)) else (fidx n p x.2.1, (m, 0))) := by
  obtain ⟨m, e⟩ := F55_eq hx hp
  refine ⟨m, ?_⟩
  unfold F23
  rw [(RT_check hx hs).1, bnd_s, iEq_y rfl, nt, sel_f, F54_y hx.few hp, bnd_s, nt, sel_f, e, bnd_s]
  dsimp only
  rcases fidx_cases n p x.2.1 with ⟨k, _, _, e⟩ | ⟨_, e⟩
  · rw [e, iLt_f (by omega), if_neg (by omega)]; rfl
  · rw [e, iLt_y (by decide), if_pos rfl]; rfl
/-- PagingFound. -/
theorem found (x : PAG) (kind pool seg off len : Int) (b : ByteArray) (h2 : fits x.1.2) (h1 : fits seg) (h3 : fits off) (h4 : fits len) : F5 x (kind, (pool, ((seg, off), (len, b)))) = some true := by
  unfold F5
  rw [awake, bnd_s, nt, sel_f]
  rcases F12_eq x with ⟨hf, e⟩ | e
  · rw [e, bnd_s, nt, or_ff]
    dsimp only
    have hbn := sLen_nn b
    by_cases hb4 : 400 < sLen b
    · rw [iLt_y hb4, or_tt, sel_t]
    rw [iLt_f hb4, or_ff]
    by_cases hk : kind = 0 ∨ kind = 1
    · have : bAnd (bNot (iEq kind 0)) (bNot (iEq kind 1)) = false := by rw [bf_t, and_t, not_t, not_t, bf_t, bf_t (iEq kind 1), iEq_t, iEq_t]; omega
      rw [this, sel_f, F14_eq x (by have := hf.1.1; omega) (by have := hf.2.1; omega) (by have := hf.2.2.1; omega), bnd_s]
      show bndS (F22 x (kind, (pool, ((seg, off), (len, b))))) _ = _
      rcases check_eq x hf.1 h2 (by have := hf.2.1; omega) with ⟨hr, e1, e2⟩ | ⟨c, hc, e1, e2⟩
      · obtain ⟨hx, hs⟩ := RT_of hr hf.1
        by_cases ha : accE x kind pool seg off len b = 0
        · obtain ⟨p1, p2, p3, p4, ⟨t, ht, hB⟩, g1, g2⟩ := acc_mv hx hs hk h1 h3 h4 (by omega) ha
          have hbnd := mov_len hx p2
          have hN := SML_NB hs
          have hkb : kind = 0 ∨ sLen b = mvN kind len b := by
            rcases hk with h | h
            · exact .inl h
            · right; unfold mvN; rw [if_neg (by omega)]
          have hsum : len + sLen b = mvN kind len b := by
            unfold mvN
            rcases p4 with ⟨k0, kb⟩ | ⟨k0, kb⟩
            · rw [if_pos k0, kb, sLen_nil]; omega
            · rw [if_neg (by omega), kb]; omega
          obtain ⟨q1, q2, q3, q4⟩ := p2
          have hin := movM_all hx hN.1.1 ⟨q1, q2, q3, q4⟩ p1 p3 hkb (fun y a _ => off < a → ∃ k, k < y.2.1.length ∧ isK (fAt y k) seg ((a - 1) / 32)) (fun h => by omega) (fun t y a out hB h5 h6 _ _ => by
            obtain ⟨s1, s2, s3, s4⟩ := siz_pos ⟨h5, h6⟩ q2
            obtain ⟨k, k1, k2⟩ := stp_in hB hN.1.1 ⟨q1, q2, q3, q4⟩ p1 p3 hkb ⟨h5, h6⟩
            exact ⟨k, k1, by rw [show (a + siz off (mvN kind len b) a - 1) / 32 = a / 32 by omega]; exact k2⟩)
          generalize hM : movM kind pool seg off (mvN kind len b) b 20 x off (bs []) = M at *
          by_cases hz : SML M.1
          · rw [g1 hz, bnd_s]
            dsimp only
            rw [iEq_y (a := (0 : Int)) rfl, nt, or_ff, add_n (a := len) (by omega) (by omega), hsum]
            by_cases hn0 : mvN kind len b = 0
            · rw [iEq_y hn0, sel_t]
            · rw [iEq_f hn0, sel_f, show oNz 32 = true from rfl, sel_t]
              have e5 : iQuo .i64 (iSub .i64 (iAdd .i64 (iAdd .i64 off len) (sLen b)) 1) 32 = (off + mvN kind len b - 1) / 32 := by
                rw [add_n (a := off) (b := len) (by omega) (by omega), add_n (by omega) (by omega), sub_n (by omega) (by omega), quo_nn (by omega) (by omega)]
                congr 1
                omega
              rw [e5]
              obtain ⟨k, k1, k2⟩ := hin (by omega)
              have hM' : F14 ((((opg M.1).1, (opg M.1).2.1), (opg M.1).2.2) : PAG) = some (opg M.1) := F14_RT hB.rt
              rw [hM', bnd_s]
              generalize hpg : (off + mvN kind len b - 1) / 32 = pg at *
              have hP : hasP M.1.1 seg pg := by
                obtain ⟨r, hr'⟩ := Int.eq_ofNat_of_zero_le (show 0 ≤ off + mvN kind len b - 1 by omega)
                rw [← hpg, hr']
                refine hasP_of hB.rt.sto (by rw [shp_place hB.sh]; exact q1) ?_
                rw [shp_sg hB.sh (by rw [shp_place hB.sh]; exact q1)]
                omega
              obtain ⟨m, e23⟩ := F23_eq hB.rt hz hP
              rw [fidx_y hB.rt.un k1 k2, if_neg (by omega)] at e23
              show bndS (F23 M.1 seg pg) _ = _
              rw [e23, bnd_s]
              dsimp only
              rw [iEq_y (a := (0 : Int)) rfl, nt, sel_f, bnd_s, mul_n (by omega) (by omega)]
              show bndS (F22 M.1 (0, (pool, ((seg, pg * 32), (1, bs []))))) _ = _
              have hr1 : rdOK M.1.1 seg (pg * 32) 1 := by
                have := hasP_end hP
                exact ⟨hP.1, by omega, by omega, by omega⟩
              have hb1 := hB.bst p3
              have ha1 : accE M.1 0 pool seg (pg * 32) 1 (bs []) = 0 := by
                unfold accE movE
                rw [if_pos rfl, if_pos rfl, if_neg (fun h => h p1), if_neg (fun h => h (rdE_ok.2 hr1)), if_neg hb1]
              have hMt : 0 ≤ M.1.2.2.2.1 := hz.1.1
              obtain ⟨_, _, _, _, _, f1, f2⟩ := acc_mv hB.rt hz (.inl rfl) h1 (fits_s (by omega) (by omega)) (fits_s (by decide) (by decide)) (by rw [sLen_nil]; decide) ha1
              have hone : movM 0 pool seg (pg * 32) (mvN 0 1 (bs [])) (bs []) 20 M.1 (pg * 32) (bs []) = (stp 0 pool seg (pg * 32) (mvN 0 1 (bs [])) (bs []) M.1 (pg * 32), outM 0 pool seg (pg * 32) (mvN 0 1 (bs [])) M.1 (pg * 32) (bs [])) := movM_one (by decide) (by show pg * 32 % 32 + 1 ≤ 32; omega)
              rw [hone] at f1 f2
              have hst : stp 0 pool seg (pg * 32) (mvN 0 1 (bs [])) (bs []) M.1 (pg * 32) = (useM M.1 seg pg pool).1 := by
                unfold stp; rw [if_pos rfl, show pg * 32 / 32 = pg by omega]
              obtain ⟨k', _, hu⟩ := useM_ok hB.rt hMt hP p1 hb1
              rw [hst] at f1 f2
              have hsame : (useM M.1 seg pg pool).1.2.2.2.2 = M.1.2.2.2.2 := by
                rcases hu.hm with ⟨_, h, _⟩ | ⟨h, _⟩
                · exact h
                · exact absurd k2 (h k k1)
              have e8 : (useM M.1 seg pg pool).1.2.2.2.2.1 = M.1.2.2.2.2.1 := congrArg (fun q => q.1) hsame
              have e9 : (useM M.1 seg pg pool).1.2.2.2.2.2 = M.1.2.2.2.2.2 := congrArg (fun q => q.2) hsame
              by_cases hmax : M.1.2.2.2.1 = 999999999999999
              · have : ¬ SML (useM M.1 seg pg pool).1 := by
                  rintro ⟨h, _⟩
                  unfold inN at h
                  rw [hu.tm] at h
                  omega
                rw [f2 this, bnd_s]
                show sel (iEq M.1.2.2.2.1 999999999999999) _ _ = _
                rw [iEq_y hmax, sel_t]
                rfl
              · have : SML (useM M.1 seg pg pool).1 := by
                  have h := hz.1
                  unfold inN at h
                  refine ⟨?_, by rw [e8]; exact hz.2.1, by rw [e9]; exact hz.2.2⟩
                  unfold inN
                  rw [hu.tm]
                  omega
                rw [f1 this, bnd_s]
                show sel (iEq M.1.2.2.2.1 999999999999999) _ _ = _
                rw [iEq_f hmax, sel_f]
                have c1 : iEq (opg (useM M.1 seg pg pool).1).2.2.2.2.2.1 (opg M.1).2.2.2.2.2.1 = true := iEq_y e8
                have c2 : iEq (opg (useM M.1 seg pg pool).1).2.2.2.2.2.2 (opg M.1).2.2.2.2.2.2 = true := iEq_y e9
                rw [c1, c2]
                rfl
          · rw [g2 hz, bnd_s]
            rfl
        · rw [acc_bad hx hs h1 h3 h4 (by omega) ha, bnd_s]
          dsimp only
          rw [iEq_f ha, nf, or_tt, sel_t]
      · have e22 : F22 x (kind, (pool, ((seg, off), (len, b)))) = some (noP, (bs [], c)) := by
          unfold F22; rw [e1, bnd_s, iEq_f hc, nf, sel_t]; rfl
        rw [e22, bnd_s]
        dsimp only
        rw [iEq_f hc, nf, or_tt, sel_t]
    · have : bAnd (bNot (iEq kind 0)) (bNot (iEq kind 1)) = true := by rw [and_t, not_t, not_t, bf_t, bf_t (iEq kind 1), iEq_t, iEq_t]; omega
      rw [this, sel_t]
  · rw [e, bnd_s, nf, or_tt, or_tt, sel_t]
end Go.Proofs.Ytagcodkkkebnhaa.K
end

section
set_option linter.unusedVariables false
set_option linter.unusedSimpArgs false
set_option linter.unnecessarySimpa false
open Go Go.Ev
namespace Go.Proofs.Ytagcodkkkebnhaa.K
theorem byt_add (a b : ByteArray) (j : Nat) : byt (sAdd a b) j = if (j : Int) < sLen a then byt a j else byt b (j - (sLen a).toNat) := by
  unfold byt
  rw [by_add, by_len]
  split
  · rw [List.getElem?_append_left (by omega)]
  · rw [List.getElem?_append_right (by omega)]
    congr 1
/-- What an access that reads gives. -/
theorem mv_read {x : PAG} {pool seg n : Int} {o : Nat} {b : ByteArray} (hx : RT x) (ht : 0 ≤ x.2.2.2.1) (hr : rdOK x.1 seg (o : Int) n) (hpo : 0 ≤ pool ∧ pool ≤ 2) (hb : bst x pool x.2.1.length ≠ -1) : VW x (movM 0 pool seg o n b 20 x o (bs [])).1 ∧ sLen (movM 0 pool seg o n b 20 x o (bs [])).2 = n ∧ ∀ j : Nat, (j : Int) < n → byt (movM 0 pool seg o n b 20 x o (bs [])).2 j = vb x seg (o + j) := by
  have h := movM_all (b := b) hx ht hr hpo hb (.inl rfl) (fun y a out => VW x y ∧ sLen out = a - o ∧ ∀ j : Nat, (j : Int) < a - o → byt out j = vb x seg (o + j)) ⟨fun _ _ _ => rfl, by rw [sLen_nil]; omega, fun j h => by omega⟩ ?_
  · obtain ⟨h1, h2, h3⟩ := h
    exact ⟨h1, by rw [h2]; omega, fun j hj => h3 j (by omega)⟩
  · rintro t y a out hB ha1 ha2 ⟨hv, hl, hj⟩
    obtain ⟨hp, hb', k, ek, hu⟩ := stp_use hB ht hr hpo hb ⟨ha1, ha2⟩
    obtain ⟨s1, s2, s3, s4⟩ := siz_pos ⟨ha1, ha2⟩ hr.2.1
    have hkl : k < (useM y seg (a / 32) pool).1.2.1.length := by rw [hu.up.ln]; exact hu.kl
    obtain ⟨_, hfl, _⟩ := rf_used (hu.rt.fs k hkl) hu.isk.1
    have es : stp 0 pool seg o n b y a = (useM y seg (a / 32) pool).1 := by unfold stp; rw [if_pos rfl]
    have eo : outM 0 pool seg o n y a out = sAdd out (sCut (fAt (useM y seg (a / 32) pool).1 k).2.2.2.2.2.1 (a % 32) (a % 32 + siz o n a)) := by unfold outM; rw [if_pos rfl, ek]
    rw [es, eo]
    have hV : VW x (useM y seg (a / 32) pool).1 := hv.trans hu.vw hB.sh
    obtain ⟨r, er⟩ := Int.eq_ofNat_of_zero_le (show 0 ≤ a % 32 by omega)
    obtain ⟨z, ez⟩ := Int.eq_ofNat_of_zero_le (show 0 ≤ siz o n a by omega)
    refine ⟨hV, ?_, fun j hj2 => ?_⟩
    · rw [sadd_len, scut_len _ (by omega) (by omega) (by omega)]; omega
    · rw [byt_add]
      split
      · exact hj j (by omega)
      · rename_i hnl
        rw [er, ez, show (r : Int) + (z : Int) = ((r + z : Nat) : Int) by omega, byt_cut, if_pos (by omega), ← hV seg (o + j) hr.1]
        have hK : isK (fAt (useM y seg (a / 32) pool).1 k) seg (((o + j : Nat) : Int) / 32) := by
          rw [show ((o + j : Nat) : Int) / 32 = a / 32 by omega]; exact hu.isk
        rw [vb_y hu.rt.un hkl hK]
        congr 1
        omega
/-- What an access that writes leaves. -/
theorem mv_write {x : PAG} {pool seg : Int} {o : Nat} {b : ByteArray} (hx : RT x) (ht : 0 ≤ x.2.2.2.1) (hr : rdOK x.1 seg (o : Int) (sLen b)) (hpo : 0 ≤ pool ∧ pool ≤ 2) (hb : bst x pool x.2.1.length ≠ -1) (m : Int) (j : Nat) (hm : 0 ≤ place x.1.1 m) : vb (movM 1 pool seg o (sLen b) b 20 x o (bs [])).1 m j = if m = seg ∧ o ≤ j ∧ j < o + sLen b then byt b (j - o) else vb x m j := by
  have h := movM_all (b := b) (kind := 1) hx ht hr hpo hb (.inr rfl) (fun y a _ => ∀ (m : Int) (j : Nat), 0 ≤ place x.1.1 m → vb y m j = if m = seg ∧ o ≤ j ∧ j < a then byt b (j - o) else vb x m j) (fun m j _ => by rw [if_neg (by omega)]) ?_
  · exact h m j hm
  · rintro t y a out hB ha1 ha2 hj m j hm
    obtain ⟨hp, hb', k, ek, hu⟩ := stp_use hB ht hr hpo hb ⟨ha1, ha2⟩
    obtain ⟨s1, s2, s3, s4⟩ := siz_pos ⟨ha1, ha2⟩ hr.2.1
    have hkl : k < (useM y seg (a / 32) pool).1.2.1.length := by rw [hu.up.ln]; exact hu.kl
    obtain ⟨r, er⟩ := Int.eq_ofNat_of_zero_le (show 0 ≤ a % 32 by omega)
    obtain ⟨q, eq⟩ := Int.eq_ofNat_of_zero_le (show 0 ≤ a / 32 by omega)
    obtain ⟨w, ew⟩ := Int.eq_ofNat_of_zero_le (show 0 ≤ a - (o : Int) by omega)
    obtain ⟨z, ez⟩ := Int.eq_ofNat_of_zero_le (show 0 ≤ siz o (sLen b) a by omega)
    have es : stp 1 pool seg o (sLen b) b y a = wrt (useM y seg (a / 32) pool).1 k r (sCut b w ((w + z : Nat) : Int)) := by
      unfold stp
      rw [if_neg (by decide), ek, er, ew, ez]
      congr 1
    have hc : sLen (sCut b w ((w + z : Nat) : Int)) = z := by rw [scut_len _ (by omega) (by omega) (by omega)]; omega
    have hK : isK (fAt (useM y seg (a / 32) pool).1 k) seg (q : Int) := by rw [← eq]; exact hu.isk
    obtain ⟨_, _, _, _, hv⟩ := wrt_ok (v := sCut b w ((w + z : Nat) : Int)) (a := r) hu.rt hkl hK (by rw [hc]; omega)
    have hmy : 0 ≤ place y.1.1 m := by rw [shp_place hB.sh]; exact hm
    rw [es, hv m j (by rw [shp_place hu.up.sh]; exact hmy), hc, hu.vw m j hmy, hj m j hm]
    by_cases h1 : m = seg ∧ q * 32 + r ≤ j ∧ (j : Int) < q * 32 + r + z
    · rw [if_pos h1, if_pos ⟨h1.1, by omega, by omega⟩, byt_cut, if_pos (by omega)]
      congr 1
      omega
    · rw [if_neg h1]
      by_cases h2 : m = seg ∧ o ≤ j ∧ (j : Int) < a
      · rw [if_pos h2, if_pos ⟨h2.1, h2.2.1, by omega⟩]
      · rw [if_neg h2, if_neg]
        rintro ⟨h3, h4, h5⟩
        have : ¬ (j : Int) < a := fun h => h2 ⟨h3, h4, h⟩
        exact h1 ⟨h3, by omega, by omega⟩
theorem F41_eq {s : STO} (hf : fewS s) (hs : okS0 s) {seg off : Int} {b : ByteArray} (h1 : fits seg) (h2 : fits off) (h3 : sLen b ≤ 400) (hr : rdOK s seg off (sLen b)) : F41 s (seg, off) b = some (putS s seg off b, 0) := by
  have hbn := sLen_nn b
  obtain ⟨p1, p2, p3, p4⟩ := hr
  have hpg := ok_pages hs p1
  obtain ⟨i, hi, _, _, ep⟩ := place_in p1
  have esg : sgB s seg = (lAt s.1 (i : Int)).2 := by unfold sgB; rw [ep]
  have hl := hf.1
  unfold F41 F68
  rcases F67_eq hf hs h1 h2 (n := sLen b) (by unfold fits; omega) with ⟨_, e⟩ | ⟨h, _⟩
  · rw [e, bnd_s, iEq_y rfl, nt, sel_f]
    dsimp only
    rw [ep, oIn_y (by unfold lLen; omega), sel_t, ← esg, add_n (by omega) (by omega), oCut_y (by omega), sel_t, sOk_n (by rw [scut_len _ (by omega) (by omega) (by omega)]; omega), sel_t, oCut_y (by omega), sel_t, sOk_n (by rw [sadd_len, scut_len _ (by omega) (by omega) (by omega), scut_len _ (by omega) (by omega) (by omega)]; omega), sel_t, F78_eq s.1 (by omega), bnd_s, oIn_y (by unfold lLen; omega), sel_t, bnd_s]
    unfold putS put
    rw [ep, ← esg]
  · exact absurd (rdE_ok.2 ⟨p1, p2, p3, p4⟩) h
end Go.Proofs.Ytagcodkkkebnhaa.K
end

section
set_option linter.unusedVariables false
set_option linter.unusedSimpArgs false
set_option linter.unnecessarySimpa false
open Go Go.Ev
namespace Go.Proofs.Ytagcodkkkebnhaa.K
abbrev ACC := Int × (Int × ((Int × Int) × (Int × ByteArray)))
def lightA (l : List ACC) (i : Nat) : Prop := i ≤ 41 ∧ sLen (lAt l (i : Int)).2.2.2.2 ≤ 400
theorem F39_eq (l : List ACC) : (F39 l = some true ∧ ∀ i, i < l.length → lightA l i) ∨ F39 l = some false := by
  have hll : lLen l = (l.length : Int) := rfl
  have h : Ok (L39_0 (l, 0)) (fun r => (r = .inl () ∧ ∀ i, i < l.length → lightA l i) ∨ r = .inr false) := by
    refine loop_inv (fun m y => ∃ i : Nat, i ≤ 42 ∧ i ≤ l.length ∧ (∀ k, k < i → lightA l k) ∧ y = (l, (i : Int)) ∧ m = 43 - i) 43 ⟨0, by omega, by omega, fun k h => by omega, rfl, rfl⟩ (by omega) ?_
    rintro m y ⟨i, h1, h2, h3, rfl, rfl⟩
    show Ok (B39_0 l i) _
    unfold B39_0
    by_cases hi : i < l.length
    · rw [iLt_y (a := (i : Int)) (b := lLen l) (by omega), sel_t, oIn_y (by omega), or_tt, sel_t]
      by_cases hc : lightA l i
      · obtain ⟨c1, c2⟩ := hc
        rw [iLt_f (by omega), or_ff, iLt_f (by omega), sel_f, add_n (by omega) (by omega), ok_some]
        refine ⟨43 - (i + 1), by omega, i + 1, by omega, by omega, fun k hk => ?_, rfl, rfl⟩
        rcases Nat.lt_or_ge k i with h | h
        · exact h3 k h
        · obtain rfl : k = i := by omega
          exact ⟨c1, c2⟩
      · have w : bOr (iLt 41 (i : Int)) (iLt 400 (sLen (lAt l (i : Int)).2.2.2.2)) = true := by
          rw [or_t, iLt_t, iLt_t]
          unfold lightA at hc
          omega
        rw [w, sel_t, ok_some]
        exact .inr rfl
    · rw [iLt_f (by omega), sel_f, ok_some]
      exact .inl ⟨rfl, fun k hk => h3 k (by omega)⟩
  unfold F39
  obtain ⟨r, e, ⟨rfl, h⟩ | rfl⟩ := h
  · rw [e]; exact .inl ⟨rfl, h⟩
  · rw [e]; exact .inr rfl
theorem isS_rd {x : PAG} {S : STO} (h : isS x S) {seg off n : Int} (hr : rdOK x.1 seg off n) : rdOK S seg off n := by
  have e := shp_place h.1 seg
  refine ⟨by rw [e]; exact hr.1, hr.2.1, hr.2.2.1, ?_⟩
  rw [shp_sg h.1 (by rw [e]; exact hr.1)]
  exact hr.2.2.2
/-- A round of the law's loop. -/
theorem same_step {x : PAG} {S : STO} (hx : RT x) (hs : SML x) (hS : isS x S) {kind pool seg off len : Int} {b : ByteArray} (h1 : fits seg) (h2 : fits off) (h3 : fits len) (h4 : sLen b ≤ 400) :
    (∃ y read e, F22 x (kind, (pool, ((seg, off), (len, b)))) = some (y, (read, e)) ∧ e ≠ 0) ∨
    (∃ y read T, F22 x (kind, (pool, ((seg, off), (len, b)))) = some (opg y, (read, 0)) ∧ RT y ∧ SML y ∧ isS y T ∧
      ((kind = 0 ∧ T = S ∧ F40 S (seg, off) len = some (read, 0)) ∨ (kind = 1 ∧ F41 S (seg, off) b = some (T, 0)) ∨ (kind ≠ 0 ∧ kind ≠ 1 ∧ T = S))) := by
  by_cases ha : accE x kind pool seg off len b = 0
  rotate_left
  · exact .inl ⟨_, _, _, acc_bad hx hs h1 h2 h3 h4 ha, ha⟩
  have hfS : fewS S := shp_few hS.1.symm hx.few
  have hoS : okS0 S := shp_ok hS.1.symm hx.sto
  by_cases hk : kind = 0 ∨ kind = 1
  · obtain ⟨p1, p2, p3, p4, ⟨t, ht, hB⟩, g1, g2⟩ := acc_mv hx hs hk h1 h2 h3 h4 ha
    have hN := SML_NB hs
    by_cases hz : SML (movM kind pool seg off (mvN kind len b) b 20 x off (bs [])).1
    rotate_left
    · exact .inl ⟨_, _, 30, g2 hz, by decide⟩
    right
    have q2 := p2.2.1
    obtain ⟨o, rfl⟩ := Int.eq_ofNat_of_zero_le q2
    rcases p4 with ⟨rfl, rfl⟩ | ⟨rfl, rfl⟩
    · have en : mvN 0 len (bs []) = len := by unfold mvN; rw [if_pos rfl]
      rw [en] at p2 hB g1 g2 hz
      obtain ⟨v1, v2, v3⟩ := mv_read (b := bs []) hx hN.1.1 p2 p1 p3
      generalize movM 0 pool seg (o : Int) len (bs []) 20 x (o : Int) (bs []) = M at *
      refine ⟨M.1, M.2, S, g1 hz, hB.rt, hz, ⟨hS.1.trans hB.sh.symm, fun m j hm => ?_⟩, .inl ⟨rfl, rfl, ?_⟩⟩
      · rw [shp_place hB.sh] at hm
        rw [hS.2 m j hm, v1 m j hm]
      · have hrS := isS_rd hS p2
        rcases F40_eq hfS hoS h1 h2 h3 with ⟨_, e⟩ | ⟨hn, _⟩
        · rw [e]
          have : sCut (sgB S seg) (o : Int) ((o : Int) + len) = M.2 := by
            obtain ⟨l, el⟩ := Int.eq_ofNat_of_zero_le p2.2.2.1
            refine byt_ext fun j => ?_
            rw [el, show (o : Int) + (l : Int) = ((o + l : Nat) : Int) by omega, byt_cut]
            split
            · rw [v3 j (by omega), ← hS.2 seg (o + j) p2.1]
              rfl
            · exact (byt_none (by omega)).symm
          rw [this]
        · exact absurd (rdE_ok.2 hrS) hn
    · have en : mvN 1 0 b = sLen b := by unfold mvN; rw [if_neg (by decide)]
      rw [en] at p2 hB g1 g2 hz
      have v := fun m j hm => mv_write (b := b) hx hN.1.1 p2 p1 p3 m j hm
      generalize movM 1 pool seg (o : Int) (sLen b) b 20 x (o : Int) (bs []) = M at *
      have hrS := isS_rd hS p2
      have hpS : 0 ≤ place S.1 seg := hrS.1
      have hsh : shp (putS S seg (o : Int) b) = shp S := putS_shp hpS hrS.2.2.2
      refine ⟨M.1, M.2, putS S seg (o : Int) b, g1 hz, hB.rt, hz, ⟨hsh.trans (hS.1.trans hB.sh.symm), fun m j hm => ?_⟩, .inr (.inl ⟨rfl, F41_eq hfS hoS h1 h2 h4 hrS⟩)⟩
      rw [shp_place hB.sh] at hm
      rw [putS_sb hpS hrS.2.2.2 (by rw [shp_place hS.1]; exact hm), v m j hm, hS.2 m j hm]
  · have hk' : kind = 2 ∨ kind = 3 := by
      unfold accE at ha
      rw [if_neg (by omega), if_neg (by omega)] at ha
      split at ha
      · exact .inl (by assumption)
      · split at ha
        · exact .inr (by assumption)
        · cases ha
    obtain ⟨L, hL, hv, g1, g2⟩ := acc_fl hx hs hk' h1 h2 h3 h4 ha
    by_cases hz : SML ((frc x kind seg L).foldl sav x)
    rotate_left
    · exact .inl ⟨_, _, 30, g2 hz, by decide⟩
    right
    refine ⟨_, _, S, g1 hz, hv.rt, hz, ⟨hS.1.trans hv.sh.symm, fun m j hm => ?_⟩, .inr (.inr ⟨by omega, by omega, rfl⟩)⟩
    rw [shp_place hv.sh] at hm
    rw [hS.2 m j hm, hv.vw m j hm]
/-- PagingSame. -/
theorem same (x : PAG) (l : List ACC) (h2 : fits x.1.2) (hl : ∀ i : Nat, i < l.length → fits (lAt l (i : Int)).2.2.1.1 ∧ fits (lAt l (i : Int)).2.2.1.2 ∧ fits (lAt l (i : Int)).2.2.2.1) : F10 x l = some true := by
  have hll : lLen l = (l.length : Int) := rfl
  unfold F10
  rw [awake, bnd_s, nt, sel_f]
  rcases F12_eq x with ⟨hf, e⟩ | e
  rotate_left
  · rw [e, bnd_s, nf]
    have : bOr (okS (F39 l)) (bNot (bNot true)) = true := by rw [or_t]; exact .inr rfl
    rw [this, sel_t, let_s, or_tt]
    have : bOr (okS (F15 x)) (bNot (bNot true)) = true := by rw [or_t]; exact .inr rfl
    rw [this, sel_t, let_s, or_tt, sel_t]
  rw [e, bnd_s, nt]
  rcases F39_eq l with ⟨e39, hlt⟩ | e39
  rotate_left
  · rw [e39, okS_s, or_tt, sel_t, valS_s, let_s, nf, or_ff]
    have : bOr (okS (F15 x)) (bNot (bNot true)) = true := by rw [or_t]; exact .inr rfl
    rw [this, sel_t, let_s, or_tt, sel_t]
  rw [e39, okS_s, or_tt, sel_t, valS_s, let_s, nt, or_ff]
  rcases check_eq x hf.1 h2 (by have := hf.2.1; omega) with ⟨hr, e1, e2⟩ | ⟨c, hc, e1, e2⟩
  rotate_left
  · rw [e2, okS_s, or_tt, sel_t, valS_s, let_s, or_ff, iEq_f hc, nf, sel_t]
  obtain ⟨hx, hs⟩ := RT_of hr hf.1
  obtain ⟨S, eS, iS⟩ := F33_eq hx hs
  rw [e2, okS_s, or_tt, sel_t, valS_s, let_s, or_ff, iEq_y rfl, nt, sel_f, F14_RT hx, bnd_s]
  show bndS (F33 x) (fun y5 => sel (bNot (iEq y5.2 0)) _ (bndS (some (opg x)) fun y6 => bndS (L10_0 (l, (y5.1, (y6, 0)))) fun y7 => _)) = _
  rw [eS, bnd_s]
  dsimp only
  rw [iEq_y (a := (0 : Int)) rfl, nt, sel_f, bnd_s]
  have hlen : l.length ≤ 42 := by
    rcases Nat.lt_or_ge 42 l.length with h | h
    · have := (hlt 42 h).1; omega
    · exact h
  have hL : Ok (L10_0 (l, (S, (opg x, 0)))) (fun r => ∃ T y, r = .inl (T, opg y) ∧ RT y ∧ SML y ∧ isS y T) := by
    refine loop_inv (fun m st => ∃ (i : Nat) (T : STO) (y : PAG), i ≤ l.length ∧ RT y ∧ SML y ∧ isS y T ∧ st = (l, (T, (opg y, (i : Int)))) ∧ m = l.length - i) l.length ⟨0, S, x, by omega, hx, hs, iS, rfl, rfl⟩ (by omega) ?_
    rintro m st ⟨i, T, y, hi, hy, hys, hT, rfl, rfl⟩
    show Ok (B10_0 l T.1 T.2 y.1.1 y.1.2 y.2.1 y.2.2.1 y.2.2.2.1 y.2.2.2.2.1 y.2.2.2.2.2 i) _
    unfold B10_0
    by_cases hlt' : i < l.length
    rotate_left
    · rw [iLt_f (by omega), sel_f, ok_some]
      exact ⟨T, y, rfl, hy, hys, hT⟩
    obtain ⟨f1, f2, f3⟩ := hl i hlt'
    have h14 : F14 ((y.1.1, y.1.2), (y.2.1, (y.2.2.1, (y.2.2.2.1, (y.2.2.2.2.1, y.2.2.2.2.2))))) = some (opg y) := F14_RT hy
    rw [iLt_y (by omega), sel_t, h14, bnd_s, oIn_y (by omega), sel_t]
    have h22 : F22 (((opg y).1, (opg y).2.1), (opg y).2.2) (lAt l (i : Int)) = F22 y ((lAt l (i : Int)).1, ((lAt l (i : Int)).2.1, (((lAt l (i : Int)).2.2.1.1, (lAt l (i : Int)).2.2.1.2), ((lAt l (i : Int)).2.2.2.1, (lAt l (i : Int)).2.2.2.2)))) := rfl
    rw [h22]
    have h18 : F18 (T.1, T.2) = some T := F18_eq T (isS_len hy hT)
    rcases same_step (kind := (lAt l (i : Int)).1) (pool := (lAt l (i : Int)).2.1) hy hys hT f1 f2 f3 (hlt i hlt').2 with ⟨y', rd, c, e22, hc⟩ | ⟨y', rd, T', e22, g1, g2, g3, g4⟩
    · rw [e22, bnd_s]
      dsimp only
      rw [iEq_f hc, nf, sel_t, ok_some]
      exact ⟨T, y, rfl, hy, hys, hT⟩
    · rw [e22, bnd_s]
      dsimp only
      rw [iEq_y (a := (0 : Int)) rfl, nt, sel_f, sel_t, add_n (by omega) (by omega)]
      rcases g4 with ⟨k0, rfl, k2⟩ | ⟨k0, k2⟩ | ⟨k0, k1, rfl⟩
      · have k2' : F40 T' (lAt l (i : Int)).2.2.1 (lAt l (i : Int)).2.2.2.1 = some (rd, 0) := k2
        rw [iEq_y k0, sel_t, h18, bnd_s, sel_t, sel_t, k2', bnd_s]
        dsimp only
        rw [iEq_y (a := (0 : Int)) rfl, nt, or_ff, sEq_y rfl, nt, sel_f, ok_some]
        exact ⟨l.length - (i + 1), by omega, i + 1, T', y', by omega, g1, g2, g3, rfl, rfl⟩
      · have k2' : F41 T (lAt l (i : Int)).2.2.1 (lAt l (i : Int)).2.2.2.2 = some (T', 0) := k2
        rw [iEq_f (by omega), sel_f, iEq_y k0, sel_t, h18, bnd_s, sel_t, sel_t, k2', bnd_s]
        dsimp only
        rw [iEq_y (a := (0 : Int)) rfl, nt, sel_f, ok_some]
        exact ⟨l.length - (i + 1), by omega, i + 1, T', y', by omega, g1, g2, g3, rfl, rfl⟩
      · rw [iEq_f k0, sel_f, iEq_f k1, sel_f, ok_some]
        exact ⟨l.length - (i + 1), by omega, i + 1, T', y', by omega, g1, g2, g3, rfl, rfl⟩
  obtain ⟨r, eL, T, y, rfl, hy, hys, hT⟩ := hL
  show bndS (L10_0 (l, (S, (opg x, 0)))) _ = _
  rw [eL, bnd_s]
  dsimp only [sumS]
  have h14 : F14 (((opg y).1, (opg y).2.1), (opg y).2.2) = some (opg y) := F14_RT hy
  rw [h14, bnd_s]
  obtain ⟨t, et, it⟩ := F33_eq hy hys
  have : t = T := isS_uniq hy it hT
  subst this
  show bndS (F33 y) _ = _
  rw [et, bnd_s]
  dsimp only
  rw [F35_self t (isS_len hy hT), okS_s, or_tt, sel_t, valS_s, let_s, iEq_y rfl]
  rfl
theorem lAt_in {α : Type} [Inhabited α] {l : List α} {i : Nat} (h : i < l.length) : lAt l (i : Int) ∈ l := by rw [lAt_lt h]; exact List.getElem_mem h
theorem same' (x : PAG) (l : List ACC) (h2 : fits x.1.2) (hl : ∀ a ∈ l, fits a.2.2.1.1 ∧ fits a.2.2.1.2 ∧ fits a.2.2.2.1) : F10 x l = some true := same x l h2 fun _ hi => hl _ (lAt_in hi)
end Go.Proofs.Ytagcodkkkebnhaa.K
end

section
set_option linter.unusedVariables false
set_option linter.unusedSimpArgs false
set_option linter.unnecessarySimpa false
open Go Go.Ev
namespace Go.Proofs.Ytagcodkkkebnhaa.K
theorem bef_trans {f g h : FRM} (h1 : ¬ bef f g) (h2 : bef h g) : ¬ bef f h := by unfold bef at *; omega
/-- The victim is not behind another frame of its pool. -/
theorem bst_min {x : PAG} {pool : Int} : ∀ i, ∀ k, k < i → (fAt x k).1 = pool → 0 ≤ bst x pool i ∧ ¬ bef (fAt x k) (lAt x.2.1 (bst x pool i))
  | 0, k, h, _ => by omega
  | i + 1, k, hk, hp => by
    rw [bst_s]
    by_cases hc : (fAt x i).1 = pool ∧ (bst x pool i < 0 ∨ bef (fAt x i) (lAt x.2.1 (bst x pool i)))
    · rw [if_pos hc]
      refine ⟨by omega, ?_⟩
      rcases Nat.lt_or_ge k i with h | h
      · obtain ⟨h1, h2⟩ := bst_min i k h hp
        rcases hc.2 with h3 | h3
        · omega
        · exact bef_trans h2 h3
      · obtain rfl : k = i := by omega
        show ¬ bef (fAt x k) (fAt x k)
        unfold bef; omega
    · rw [if_neg hc]
      rcases Nat.lt_or_ge k i with h | h
      · exact bst_min i k h hp
      · obtain rfl : k = i := by omega
        have : ¬ (bst x pool k < 0 ∨ bef (fAt x k) (lAt x.2.1 (bst x pool k))) := fun h => hc ⟨hp, h⟩
        exact ⟨by omega, fun h => this (.inr h)⟩
abbrev lst (f : FRM) : Int := f.2.2.2.2.2.2.1
theorem UP.lst {x y : PAG} {i : Nat} (h : UP x y i) {k : Nat} (hk : k < x.2.1.length) (hi : k ≠ i) : (fAt y k).2.2.2.2.2.2.1 = (fAt x k).2.2.2.2.2.2.1 ∧ (fAt y k).2.1 = (fAt x k).2.1 ∧ (fAt y k).2.2.1 = (fAt x k).2.2.1 ∧ (fAt y k).1 = (fAt x k).1 ∧ (fAt y k).2.2.2.1 = (fAt x k).2.2.2.1 ∧ (fAt y k).2.2.2.2.1 = (fAt x k).2.2.2.2.1 := by
  have := (h.fs k hk hi).1
  simp only [fN, Prod.mk.injEq] at this
  obtain ⟨a, b, c, d, e, _, f⟩ := this
  exact ⟨f, b, c, a, d, e⟩
/-- Two memories of one pool behind the same readings, the second with one frame more. -/
structure INV (x y : PAG) : Prop where
  rx : RT x
  ry : RT y
  ln : y.2.1.length = x.2.1.length + 1
  tm : y.2.2.2.1 = x.2.2.2.1
  px : ∀ k, k < x.2.1.length → (fAt x k).1 = 0
  py : ∀ k, k < y.2.1.length → (fAt y k).1 = 0
  cx : ∀ k, k < x.2.1.length → (fAt x k).2.2.1 = false
  cy : ∀ k, k < y.2.1.length → (fAt y k).2.2.1 = false
  i1 : ∀ (k : Nat) (n p : Int), k < x.2.1.length → isK (fAt x k) n p → ∃ j, j < y.2.1.length ∧ isK (fAt y j) n p ∧ (fAt y j).2.2.2.2.2.2.1 = (fAt x k).2.2.2.2.2.2.1
  i2 : ∀ (j : Nat) (n p : Int), j < y.2.1.length → isK (fAt y j) n p → (∀ k, k < x.2.1.length → ¬ isK (fAt x k) n p) → ∀ k, k < x.2.1.length → (fAt x k).2.1 = true ∧ (fAt y j).2.2.2.2.2.2.1 < (fAt x k).2.2.2.2.2.2.1
  i4 : ∀ k k' : Nat, k < x.2.1.length → k' < x.2.1.length → (fAt x k).2.1 = true → (fAt x k').2.1 = true → (fAt x k).2.2.2.2.2.2.1 = (fAt x k').2.2.2.2.2.2.1 → k = k'
/-- One memory has more frames than the other one has pages. -/
theorem pigeon {x y : PAG} (h : INV x y) (ha : ∀ j, j < y.2.1.length → (fAt y j).2.1 = true ∧ ∃ k, k < x.2.1.length ∧ isK (fAt x k) (fAt y j).2.2.2.1 (fAt y j).2.2.2.2.1) : False := by
  have hf : ∃ f : Nat → Nat, ∀ j, j < y.2.1.length → f j < x.2.1.length ∧ isK (fAt x (f j)) (fAt y j).2.2.2.1 (fAt y j).2.2.2.2.1 := by
    classical
    refine ⟨fun j => if hj : j < y.2.1.length then Classical.choose (ha j hj).2 else 0, fun j hj => ?_⟩
    simp only [dif_pos hj]
    exact Classical.choose_spec (ha j hj).2
  obtain ⟨f, hf⟩ := hf
  have h1 : ((List.range y.2.1.length).map f).Nodup := by
    rw [List.nodup_iff_pairwise_ne, List.pairwise_map]
    have h2 := List.nodup_range (n := y.2.1.length)
    rw [List.nodup_iff_pairwise_ne] at h2
    refine h2.imp_of_mem ?_
    intro a b hma hmb hab hc
    rw [List.mem_range] at hma hmb
    obtain ⟨a1, a2⟩ := hf a hma
    obtain ⟨b1, b2⟩ := hf b hmb
    rw [hc] at a2
    refine hab (h.ry.un _ _ a b hma hmb ⟨(ha a hma).1, rfl, rfl⟩ ⟨(ha b hmb).1, ?_, ?_⟩)
    · rw [← a2.2.1, ← b2.2.1]
    · rw [← a2.2.2, ← b2.2.2]
  have h3 := List.Nodup.length_le_of_subset (l₂ := List.range x.2.1.length) h1 (fun a hm => by
    obtain ⟨b, hb, rfl⟩ := List.mem_map.1 hm
    rw [List.mem_range] at *
    exact (hf b hb).1)
  simp at h3
  have := h.ln
  omega
theorem rk_u {f : FRM} (hc : f.2.2.1 = false) : rk f = if f.2.1 = true then 1 else 0 := by
  unfold rk
  cases h : f.2.1 <;> simp [hc]
/-- The victim of a pool without changed pages. -/
theorem victim {x : PAG} (hp : ∀ k, k < x.2.1.length → (fAt x k).1 = 0) (hc : ∀ k, k < x.2.1.length → (fAt x k).2.2.1 = false) {v : Nat} (hv : v < x.2.1.length) (e : (v : Int) = bst x 0 x.2.1.length) (hu : (fAt x v).2.1 = true) : ∀ k, k < x.2.1.length → (fAt x k).2.1 = true ∧ (fAt x v).2.2.2.2.2.2.1 ≤ (fAt x k).2.2.2.2.2.2.1 := by
  intro k hk
  obtain ⟨_, h2⟩ := bst_min (pool := 0) x.2.1.length k hk (hp k hk)
  rw [← e] at h2
  have h2 : ¬ bef (fAt x k) (fAt x v) := h2
  unfold bef at h2
  rw [rk_u (hc k hk), rk_u (hc v hv), if_pos hu] at h2
  by_cases h : (fAt x k).2.1 = true
  · rw [if_pos h] at h2; exact ⟨h, by omega⟩
  · rw [if_neg h] at h2; omega
/-- A further reading. -/
theorem inv_step {x y x' y' : PAG} {n p : Int} {kx ky : Nat} (h : INV x y) (ux : USE x x' n p 0 kx) (uy : USE y y' n p 0 ky) : INV x' y' := by
  have hkx := ux.kl
  have hky := uy.kl
  have lx := ux.up.ln
  have ly := uy.up.ln
  -- frames that stay
  have sx := fun {k : Nat} (a : k < x.2.1.length) (b : k ≠ kx) => ux.up.lst a b
  have sy := fun {k : Nat} (a : k < y.2.1.length) (b : k ≠ ky) => uy.up.lst a b
  have kxn : ∀ k, k < x.2.1.length → k ≠ kx → ¬ isK (fAt x k) n p := by
    intro k a b c
    rw [← ux.up.isK a b] at c
    exact b (ux.rt.un n p k kx (by rw [lx]; exact a) (by rw [lx]; exact hkx) c ux.isk)
  have kyn : ∀ k, k < y.2.1.length → k ≠ ky → ¬ isK (fAt y k) n p := by
    intro k a b c
    rw [← uy.up.isK a b] at c
    exact b (uy.rt.un n p k ky (by rw [ly]; exact a) (by rw [ly]; exact hky) c uy.isk)
  have ltx : ∀ k, k < x.2.1.length → (fAt x k).2.1 = true → (fAt x k).2.2.2.2.2.2.1 ≤ x.2.2.2.1 := fun k a b => (rf_used (h.rx.fs k a) b).2.2.1.2
  have lty : ∀ k, k < y.2.1.length → (fAt y k).2.1 = true → (fAt y k).2.2.2.2.2.2.1 ≤ x.2.2.2.1 := fun k a b => by have := (rf_used (h.ry.fs k a) b).2.2.1.2; rw [h.tm] at this; exact this
  have tx := ux.lst
  have ty := uy.lst
  have tm := h.tm
  -- the one frame more
  have main :
      (∀ k n' p', k < x.2.1.length → k ≠ kx → isK (fAt x k) n' p' → ¬ isK (fAt y ky) n' p') ∧
      (∀ j n' p', j < y.2.1.length → j ≠ ky → isK (fAt y j) n' p' → (∀ k, k < x.2.1.length → k ≠ kx → ¬ isK (fAt x k) n' p') →
        ¬ (n' = n ∧ p' = p) → ∀ k, k < x.2.1.length → k ≠ kx → (fAt x k).2.1 = true ∧ (fAt y j).2.2.2.2.2.2.1 < (fAt x k).2.2.2.2.2.2.1) := by
    -- a page of the victim of x is older than the others
    have vic : (kx : Int) = bst x 0 x.2.1.length → (fAt x kx).2.1 = true → ∀ k, k < x.2.1.length → (fAt x k).2.1 = true ∧ (k ≠ kx → (fAt x kx).2.2.2.2.2.2.1 < (fAt x k).2.2.2.2.2.2.1) := by
      intro e hu k hk
      obtain ⟨a, b⟩ := victim h.px h.cx hkx e hu k hk
      refine ⟨a, fun hne => ?_⟩
      rcases Int.lt_or_le (fAt x kx).2.2.2.2.2.2.1 (fAt x k).2.2.2.2.2.2.1 with c | c
      · exact c
      · exact absurd (h.i4 k kx hk hkx a hu (by omega)) hne
    have two : ((kx : Int) = bst x 0 x.2.1.length → (fAt x kx).2.1 = true) → ((kx : Int) = bst x 0 x.2.1.length ∨ isK (fAt x kx) n p) → ∀ j n' p', j < y.2.1.length → j ≠ ky → isK (fAt y j) n' p' → (∀ k, k < x.2.1.length → k ≠ kx → ¬ isK (fAt x k) n' p') → ¬ (n' = n ∧ p' = p) → ∀ k, k < x.2.1.length → k ≠ kx → (fAt x k).2.1 = true ∧ (fAt y j).2.2.2.2.2.2.1 < (fAt x k).2.2.2.2.2.2.1 := by
      intro hv hor j n' p' hj hjy hK hno hnp k hk hkx'
      by_cases hin : isK (fAt x kx) n' p'
      · rcases hor with hor | hor
        · obtain ⟨j', b1, b2, b3⟩ := h.i1 kx n' p' hkx hin
          have := h.ry.un n' p' j j' hj b1 hK b2
          subst this
          rw [b3]
          have := vic hor (hv hor) k hk
          exact ⟨this.1, this.2 hkx'⟩
        · exact absurd ⟨hin.2.1.symm.trans hor.2.1, hin.2.2.symm.trans hor.2.2⟩ hnp
      · refine h.i2 j n' p' hj hK (fun k' a b => ?_) k hk
        by_cases e : k' = kx
        · subst e; exact hin b
        · exact hno k' a e b
    rcases ux.hm with ⟨hx1, _⟩ | ⟨hx1, hx2, _⟩
    · -- found in x
      obtain ⟨j0, j1, j2, _⟩ := h.i1 kx n p hkx hx1
      have ejy : j0 = ky := by
        rcases Nat.decEq j0 ky with e | e
        · exact absurd j2 (kyn j0 j1 e)
        · exact e
      subst ejy
      refine ⟨fun k n' p' a b c d => ?_, two (fun e => hx1.1) (.inr hx1)⟩
      exact kxn k a b (by rw [← d.2.1.symm.trans j2.2.1, ← d.2.2.symm.trans j2.2.2]; exact c)
    · by_cases hu : (fAt x kx).2.1 = true
      · refine ⟨fun k n' p' a b c d => ?_, two (fun _ => hu) (.inl hx2)⟩
        rcases uy.hm with ⟨hy1, _⟩ | ⟨hy1, hy2, _⟩
        · exact hx1 k a (by rw [← d.2.1.symm.trans hy1.2.1, ← d.2.2.symm.trans hy1.2.2]; exact c)
        · -- the victim of y is used: all of its frames are, and one has a page that x does not have
          have hyu := d.1
          have hall := victim h.py h.cy hky hy2 hyu
          have : ∃ j, j < y.2.1.length ∧ ∀ k, k < x.2.1.length → ¬ isK (fAt x k) (fAt y j).2.2.2.1 (fAt y j).2.2.2.2.1 := by
            refine Classical.byContradiction fun hc => pigeon h fun j hj => ⟨(hall j hj).1, Classical.byContradiction fun hk => hc ⟨j, hj, fun k a b => hk ⟨k, a, b⟩⟩⟩
          obtain ⟨j, hj, hjn⟩ := this
          have h5 := (h.i2 j _ _ hj ⟨(hall j hj).1, rfl, rfl⟩ hjn k a).2
          obtain ⟨j', b1, b2, b3⟩ := h.i1 k n' p' a c
          have := h.ry.un n' p' j' ky b1 hky b2 d
          subst this
          have := (hall j hj).2
          omega
      · -- x has an unused frame: then y has the same pages, and an unused one too
        have huf : ∀ j n' p', j < y.2.1.length → isK (fAt y j) n' p' → ∃ k, k < x.2.1.length ∧ isK (fAt x k) n' p' := by
          intro j n' p' hj hK
          refine Classical.byContradiction fun hc => hu (h.i2 j n' p' hj hK (fun k a b => hc ⟨k, a, b⟩) kx hkx).1
        have hyu : ¬ (fAt y ky).2.1 = true := by
          intro hyu
          rcases uy.hm with ⟨hy1, _⟩ | ⟨hy1, hy2, _⟩
          · obtain ⟨k, a, b⟩ := huf ky n p hky hy1
            exact hx1 k a b
          · have hall := victim h.py h.cy hky hy2 hyu
            exact pigeon h fun j hj => ⟨(hall j hj).1, huf j _ _ hj ⟨(hall j hj).1, rfl, rfl⟩⟩
        refine ⟨fun k n' p' a b c d => hyu d.1, fun j n' p' hj hjy hK hno _ k hk hkx' => ?_⟩
        obtain ⟨k', a, b⟩ := huf j n' p' hj hK
        by_cases e : k' = kx
        · subst e; exact absurd b.1 hu
        · exact absurd b (hno k' a e)
  refine ⟨ux.rt, uy.rt, by rw [ly, lx]; exact h.ln, by rw [ux.tm, uy.tm, h.tm], fun k hk => ?_, fun k hk => ?_, fun k hk => ?_, fun k hk => ?_, fun k n' p' hk hK => ?_, fun j n' p' hj hK hno k hk => ?_, fun k k' hk hk' hu hu' he => ?_⟩
  · rw [lx] at hk
    by_cases e : k = kx
    · subst e; rw [ux.pl]; exact h.px k hk
    · rw [(sx hk e).2.2.2.1]; exact h.px k hk
  · rw [ly] at hk
    by_cases e : k = ky
    · subst e; rw [uy.pl]; exact h.py k hk
    · rw [(sy hk e).2.2.2.1]; exact h.py k hk
  · rw [lx] at hk
    by_cases e : k = kx
    · subst e
      rcases ux.hm with ⟨_, _, e⟩ | ⟨_, _, _, _, e⟩
      · rw [e]; exact h.cx k hk
      · exact e
    · rw [(sx hk e).2.2.1]; exact h.cx k hk
  · rw [ly] at hk
    by_cases e : k = ky
    · subst e
      rcases uy.hm with ⟨_, _, e⟩ | ⟨_, _, _, _, e⟩
      · rw [e]; exact h.cy k hk
      · exact e
    · rw [(sy hk e).2.2.1]; exact h.cy k hk
  · rw [lx] at hk
    by_cases e : k = kx
    · subst e
      have e1 := hK.2.1.symm.trans ux.isk.2.1
      have e2 := hK.2.2.symm.trans ux.isk.2.2
      subst e1 e2
      exact ⟨ky, by rw [ly]; exact hky, uy.isk, by rw [tx, ty, tm]⟩
    · rw [ux.up.isK hk e] at hK
      obtain ⟨j, b1, b2, b3⟩ := h.i1 k n' p' hk hK
      have hjy : j ≠ ky := fun e' => by subst e'; exact main.1 k n' p' hk e hK b2
      exact ⟨j, by rw [ly]; exact b1, by rw [uy.up.isK b1 hjy]; exact b2, by rw [(sy b1 hjy).1, (sx hk e).1]; exact b3⟩
  · rw [ly] at hj
    rw [lx] at hk
    have hnp : ¬ (n' = n ∧ p' = p) := by
      rintro ⟨rfl, rfl⟩
      exact hno kx (by rw [lx]; exact hkx) ux.isk
    have hjy : j ≠ ky := fun e => by
      subst e
      exact hnp ⟨hK.2.1.symm.trans uy.isk.2.1, hK.2.2.symm.trans uy.isk.2.2⟩
    rw [uy.up.isK hj hjy] at hK
    rw [(sy hj hjy).1]
    have hno' : ∀ k, k < x.2.1.length → k ≠ kx → ¬ isK (fAt x k) n' p' := by
      intro k a b c
      exact hno k (by rw [lx]; exact a) (by rw [ux.up.isK a b]; exact c)
    by_cases e : k = kx
    · subst e
      refine ⟨ux.isk.1, ?_⟩
      rw [tx]
      have := lty j hj hK.1
      omega
    · rw [(sx hk e).1, (sx hk e).2.1]
      exact main.2 j n' p' hj hjy hK hno' hnp k hk e
  · rw [lx] at hk hk'
    by_cases e : k = kx <;> by_cases e' : k' = kx
    · rw [e, e']
    · subst e
      rw [(sx hk' e').2.1] at hu'
      rw [tx, (sx hk' e').1] at he
      have := ltx k' hk' hu'
      omega
    · subst e'
      rw [(sx hk e).2.1] at hu
      rw [tx, (sx hk e).1] at he
      have := ltx k hk hu
      omega
    · rw [(sx hk e).2.1] at hu
      rw [(sx hk' e').2.1] at hu'
      rw [(sx hk e).1, (sx hk' e').1] at he
      exact h.i4 k k' hk hk' hu hu' he
end Go.Proofs.Ytagcodkkkebnhaa.K
end
