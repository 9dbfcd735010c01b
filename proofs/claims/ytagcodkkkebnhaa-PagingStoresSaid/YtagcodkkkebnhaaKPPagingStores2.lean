/- A part of the proof: texts of the author, joined. -/
import Derived.Test.YtagcodkkkebnhaaKPPagingStores1
section
set_option linter.unusedVariables false
set_option linter.unusedSimpArgs false
set_option linter.unnecessarySimpa false
open Go Go.Ev
namespace Go.Proofs.Ytagcodkkkebnhaa.K
theorem F61_eq {x : PAG} {n p : Int} (hx : RT x) (hp : hasP x.1 n p) : ∃ m, F61 x n p = some (fidx n p x.2.1, m) := by
  obtain ⟨c, l, hc, e, hl, hlen, hin⟩ := chain_of hx hp
  have hn' : x.2.1.length ≤ 1000 := by have := hx.n8; omega
  have ho : oIn (c : Int) (lLen x.2.2.1) = true := oIn_y (by unfold lLen; rw [hx.h5]; omega)
  have e76 : F76 n p = some (c : Int) := by rw [← e]; rfl
  have e1 : F61 x n p = bndS (L61_0 (n, (p, (opg x, (l, 0))))) fun y2 => sumS y2 (fun y2a => some (-1, lLen y2a)) fun y2b => some y2b := by
    unfold F61 F30
    rw [e76, bnd_s, F48_eq hl hn' ho]
    rfl
  rw [e1]
  rcases L61_eq x n p l hlen (CH_in hl) with ⟨i, h1, h2, h3, k1⟩ | ⟨h1, k1⟩
  · obtain ⟨k, g1, g2, g3, g4⟩ := gd_nat (hl.2.2 (lAt l (i : Int)) (lAt_mem.1 ⟨i, h1, rfl⟩))
    rw [g2] at h2
    rw [fidx_y hx.un g1 ⟨g3, h2⟩, k1, g2]
    exact ⟨_, rfl⟩
  · rw [k1, fidx_n fun k hk hi => ?_]
    · exact ⟨_, rfl⟩
    · obtain ⟨i, h2, h3⟩ := lAt_mem.2 (hin k hk hi)
      exact h1 i h2 (by rw [h3]; exact hi.2)
def lt2 (a b : Int × Int) : Prop := a.1 < b.1 ∨ (a.1 = b.1 ∧ a.2 < b.2)
theorem lt2_uniq : ∀ {l m : List (Int × Int)}, l.Pairwise lt2 → m.Pairwise lt2 → (∀ a, a ∈ l ↔ a ∈ m) → l = m
  | [], [], _, _, _ => rfl
  | [], b :: m, _, _, h => by have := (h b).2 (by simp); simp at this
  | a :: l, [], _, _, h => by have := (h a).1 (by simp); simp at this
  | a :: l, b :: m, h1, h2, h => by
    obtain ⟨p1, p2⟩ := List.pairwise_cons.1 h1
    obtain ⟨q1, q2⟩ := List.pairwise_cons.1 h2
    have e : a = b := by
      rcases List.mem_cons.1 ((h a).1 (by simp)) with e | e
      · exact e
      · rcases List.mem_cons.1 ((h b).2 (by simp)) with e' | e'
        · exact e'.symm
        · have := q1 a e; have := p1 b e'; unfold lt2 at *; omega
    subst e
    rw [lt2_uniq p2 q2 fun c => ?_]
    constructor
    · intro hc
      rcases List.mem_cons.1 ((h c).1 (by simp [hc])) with e | e
      · subst e; have := p1 c hc; unfold lt2 at this; omega
      · exact e
    · intro hc
      rcases List.mem_cons.1 ((h c).2 (by simp [hc])) with e | e
      · subst e; have := q1 c hc; unfold lt2 at this; omega
      · exact e
/-- Where a frame's page begins. -/
def adr (x : PAG) (a : Int) : Int × Int := ((lAt x.2.1 a).2.2.2.1, (lAt x.2.1 a).2.2.2.2.1 * 32)
/-- The addresses of changed pages. -/
def isC (x : PAG) (l : List (Int × Int)) : Prop := l.Pairwise lt2 ∧ ∀ q, q ∈ l ↔ ∃ k, k < x.2.1.length ∧ (fAt x k).2.2.1 = true ∧ q = adr x (k : Int)
theorem L34_eq {x : PAG} (hx : RT x) {L : List Int} (hL : L.Perm (chg x)) : L34_0 (opg x, (([] : List (Int × Int)), (L, (lLen L, 0)))) = some (L.map (adr x)) := by
  obtain ⟨h1, h2⟩ := chg_perm_used hx hL
  have h3 : L.length ≤ 8 := by have := hL.length_eq; have := chg_len hx; omega
  have h : Ok (L34_0 (opg x, (([] : List (Int × Int)), (L, (lLen L, 0))))) (fun r => r = L.map (adr x)) := by
    refine loop_inv (fun m y => ∃ D R : List Int, D ++ R = L ∧ y = (opg x, (D.map (adr x), (L, (lLen L, (D.length : Int))))) ∧ m = R.length) L.length ⟨[], L, rfl, rfl, rfl⟩ (by omega) ?_
    rintro m y ⟨D, R, e, rfl, rfl⟩
    show Ok (B34_0 x.1.1 x.1.2 x.2.1 x.2.2.1 x.2.2.2.1 x.2.2.2.2.1 x.2.2.2.2.2 (D.map (adr x)) L (lLen L) (D.length : Int)) _
    unfold B34_0
    have hll : lLen L = (D.length : Int) + R.length := by unfold lLen; rw [← e]; simp
    cases R with
    | nil =>
      simp at e hll
      subst e
      rw [iLt_f (by omega), sel_f, ok_some]
    | cons a R =>
      have hD : D.length ≤ 8 := by rw [← e] at h3; simp at h3; omega
      have e1 : lAt L (D.length : Int) = a := by rw [← e]; exact lAt_mid _ _ _
      obtain ⟨k, hk, rfl, hk2⟩ := h2 a (by rw [← e]; simp)
      obtain ⟨f1, _⟩ := rf_used (hx.fs k hk) hk2
      obtain ⟨i, hi, _, _, ei⟩ := place_in f1.1
      have f2 := hx.few.2 i hi
      have f3 := hasP_end f1
      have f4 := f1.2.1
      unfold sgB at f3
      rw [ei] at f3
      unfold fAt at f3 f4
      rw [List.length_cons] at hll
      rw [iLt_y (by omega), sel_t, oIn_y (by omega), sel_t, e1, oIn_fr hk, sel_t, mul_n (by omega) (by omega), lCap_y (by decide) (by decide) (by simp [lApp]; omega), sel_t, ok_some, add_n (by omega) (by omega)]
      exact ⟨R.length, by simp, D ++ [(k : Int)], R, by rw [← e]; simp, by simp; rfl, rfl⟩
  rw [ok_is] at h
  exact h
theorem F34_eq {x : PAG} (hx : RT x) (hs : SML x) : ∃ l, F34 x = some (l, 0) ∧ isC x l ∧ l.length = (chg x).length := by
  obtain ⟨L, e, hL, hso⟩ := F63_eq hx
  refine ⟨L.map (adr x), ?_, ⟨?_, fun q => ?_⟩, by rw [List.length_map]; exact hL.length_eq⟩
  · unfold F34
    rw [(RT_check hx hs).1, bnd_s, iEq_y rfl, nt, sel_f, e, bnd_s]
    show bndS (L34_0 (opg x, (([] : List (Int × Int)), (L, (lLen L, 0))))) _ = _
    rw [L34_eq hx hL]
    rfl
  · rw [List.pairwise_map]
    refine hso.imp ?_
    intro a b h
    unfold lss at h
    unfold lt2 adr
    dsimp only
    omega
  · rw [List.mem_map]
    constructor
    · rintro ⟨a, ha, rfl⟩
      obtain ⟨k, hk, rfl, h2⟩ := chgT_mem.1 (hL.mem_iff.1 ha)
      exact ⟨k, hk, h2, rfl⟩
    · rintro ⟨k, hk, h2, rfl⟩
      exact ⟨(k : Int), chg_perm_all hL k hk h2, rfl⟩
/-- Changed pages as0 far as0 the specification has come. -/
def upTo (x : PAG) (l : List (Int × Int)) (i q : Int) : Prop := l.Pairwise lt2 ∧ (l.length : Int) ≤ 10 * i + q ∧ ∀ c, c ∈ l ↔ ∃ k, k < x.2.1.length ∧ (fAt x k).2.2.1 = true ∧ c = adr x (k : Int) ∧ (place x.1.1 (fAt x k).2.2.2.1 < i ∨ (place x.1.1 (fAt x k).2.2.2.1 = i ∧ (fAt x k).2.2.2.2.1 < q))
theorem L38b_eq {x : PAG} (hx : RT x) (i : Nat) (hi : i < x.1.1.length) (l : List (Int × Int)) (hl : upTo x l i 0) : ∃ l', L38_2 (opg x, (l, ((i : Int), (lAt x.1.1 (i : Int), 0)))) = some (opg x, (l', (i : Int))) ∧ upTo x l' ((i : Int) + 1) 0 := by
  have hpl := ok_place hx.sto i hi
  have hpp : 0 ≤ place x.1.1 (lAt x.1.1 (i : Int)).1 := by rw [hpl]; omega
  have hpg := ok_pages hx.sto hpp
  have hf := hx.few.2 i hi
  have hL := hx.few.1
  have esg : sgB x.1 (lAt x.1.1 (i : Int)).1 = (lAt x.1.1 (i : Int)).2 := by unfold sgB; rw [hpl]
  rw [esg] at hpg
  have h : Ok (L38_2 (opg x, (l, ((i : Int), (lAt x.1.1 (i : Int), 0))))) (fun r => ∃ l', r = (opg x, (l', (i : Int))) ∧ upTo x l' ((i : Int) + 1) 0) := by
    refine loop_inv (fun m y => ∃ (q : Nat) (l' : List (Int × Int)), (q : Int) ≤ sLen (lAt x.1.1 (i : Int)).2 / 32 ∧ upTo x l' i q ∧ y = (opg x, (l', ((i : Int), (lAt x.1.1 (i : Int), (q : Int))))) ∧ m = 8 - q) 8 ⟨0, l, by omega, hl, rfl, rfl⟩ (by omega) ?_
    rintro m y ⟨q, l', hq, ⟨u1, u2, u3⟩, rfl, rfl⟩
    show Ok (B38_2 x.1.1 x.1.2 x.2.1 x.2.2.1 x.2.2.2.1 x.2.2.2.2.1 x.2.2.2.2.2 l' i (lAt x.1.1 (i : Int)).1 (lAt x.1.1 (i : Int)).2 q) _
    unfold B38_2
    rw [F66_eq (by omega), bnd_s]
    by_cases hlt : (q : Int) < sLen (lAt x.1.1 (i : Int)).2 / 32
    · rw [iLt_y hlt, sel_t]
      have hP : hasP x.1 (lAt x.1.1 (i : Int)).1 (q : Int) := ⟨hpp, by omega, by rw [hpl]; exact hlt⟩
      obtain ⟨m', em⟩ := F61_eq hx hP
      show Ok (bndS (F61 x (lAt x.1.1 (i : Int)).1 (q : Int)) _) _
      rw [em, bnd_s]
      dsimp only
      have key : ∀ k, k < x.2.1.length → (fAt x k).2.2.1 = true → (place x.1.1 (fAt x k).2.2.2.1 = (i : Int) ∧ (fAt x k).2.2.2.2.1 = (q : Int)) → isK (fAt x k) (lAt x.1.1 (i : Int)).1 q := by
        rintro k hk hc ⟨e1, e2⟩
        refine ⟨chg_used hx hk hc, ?_, e2⟩
        obtain ⟨j, hj, hj2, _, e3⟩ := place_in (l := x.1.1) (n := (fAt x k).2.2.2.1) (by omega)
        rw [e3] at e1
        have : j = i := by omega
        subst this
        exact hj2.symm
      by_cases hex : ∃ k, k < x.2.1.length ∧ isK (fAt x k) (lAt x.1.1 (i : Int)).1 q ∧ (fAt x k).2.2.1 = true
      · obtain ⟨k, hk, hK, hc⟩ := hex
        have hc' : (lAt x.2.1 (k : Int)).2.2.1 = true := hc
        rw [fidx_y hx.un hk hK, oIn_fr hk, or_tt, sel_t, iEq_f (by omega), nf, hc']
        have : bAnd true true = true := rfl
        rw [this, sel_t, mul_n (by omega) (by omega), lCap_y (by decide) (by decide) (by simp [lApp]; omega), sel_t, ok_some, add_n (by omega) (by omega)]
        refine ⟨8 - (q + 1), by omega, q + 1, _, by omega, ⟨?_, ?_, ?_⟩, rfl, rfl⟩
        · show (l' ++ [_]).Pairwise lt2
          rw [List.pairwise_append]
          refine ⟨u1, by simp, fun a ha b hb => ?_⟩
          rw [List.mem_singleton] at hb
          subst hb
          obtain ⟨j, hj, _, e1, e2⟩ := (u3 a).1 ha
          subst e1
          unfold lt2 adr
          dsimp only
          rcases e2 with e2 | ⟨e2, e3⟩
          · left
            have hju := chg_used hx hj (by assumption)
            obtain ⟨f1, _⟩ := rf_used (hx.fs j hj) hju
            obtain ⟨t, ht, ht2, _, e4⟩ := place_in f1.1
            unfold fAt at ht2 e4 e2
            rw [e4] at e2
            rw [← ht2]
            exact ok_asc hx.sto i t (by omega) hi
          · right
            have hju := chg_used hx hj (by assumption)
            obtain ⟨f1, _⟩ := rf_used (hx.fs j hj) hju
            obtain ⟨t, ht, ht2, _, e4⟩ := place_in f1.1
            unfold fAt at ht2 e4 e2 e3
            rw [e4] at e2
            have : t = i := by omega
            subst this
            exact ⟨ht2.symm, by omega⟩
        · show ((l' ++ [_]).length : Int) ≤ _
          simp
          omega
        · intro c
          show c ∈ l' ++ [_] ↔ _
          rw [List.mem_append, u3, List.mem_singleton]
          constructor
          · rintro (⟨j, a, b, e, h | h⟩ | rfl)
            · exact ⟨j, a, b, e, .inl h⟩
            · exact ⟨j, a, b, e, .inr ⟨h.1, by omega⟩⟩
            · refine ⟨k, hk, hc, ?_, .inr ⟨by rw [hK.2.1, hpl], by rw [hK.2.2]; omega⟩⟩
              unfold adr
              have h1 : (lAt x.2.1 (k : Int)).2.2.2.1 = _ := hK.2.1
              have h2 : (lAt x.2.1 (k : Int)).2.2.2.2.1 = _ := hK.2.2
              rw [h1, h2]
          · rintro ⟨j, a, b, e, h | h⟩
            · exact .inl ⟨j, a, b, e, .inl h⟩
            · by_cases hlt2 : (fAt x j).2.2.2.2.1 < (q : Int)
              · exact .inl ⟨j, a, b, e, .inr ⟨h.1, hlt2⟩⟩
              · right
                have hj := key j a b ⟨h.1, by omega⟩
                rw [e]
                unfold adr
                have h1 : (lAt x.2.1 (j : Int)).2.2.2.1 = _ := hj.2.1
                have h2 : (lAt x.2.1 (j : Int)).2.2.2.2.1 = _ := hj.2.2
                rw [h1, h2]
      · have hcond : bOr (oIn (fidx (lAt x.1.1 (i : Int)).1 q x.2.1) (lLen x.2.1)) (bNot (bNot (iEq (fidx (lAt x.1.1 (i : Int)).1 q x.2.1) (-1)))) = true ∧ bAnd (bNot (iEq (fidx (lAt x.1.1 (i : Int)).1 q x.2.1) (-1))) (lAt x.2.1 (fidx (lAt x.1.1 (i : Int)).1 q x.2.1)).2.2.1 = false := by
          rcases fidx_cases (lAt x.1.1 (i : Int)).1 q x.2.1 with ⟨k, k1, k2, e⟩ | ⟨_, e⟩
          · rw [e, oIn_fr k1, or_tt]
            refine ⟨rfl, ?_⟩
            rw [bf_t, and_t]
            rintro ⟨_, h⟩
            exact hex ⟨k, k1, k2, h⟩
          · rw [e, iEq_y rfl, nt, nf]
            exact ⟨by rw [or_t]; exact .inr rfl, rfl⟩
        rw [hcond.1, hcond.2, sel_t, sel_f, ok_some, add_n (by omega) (by omega)]
        refine ⟨8 - (q + 1), by omega, q + 1, l', by omega, ⟨u1, by omega, fun c => ?_⟩, rfl, rfl⟩
        rw [u3]
        constructor
        · rintro ⟨j, a, b, e, h | h⟩
          · exact ⟨j, a, b, e, .inl h⟩
          · exact ⟨j, a, b, e, .inr ⟨h.1, by omega⟩⟩
        · rintro ⟨j, a, b, e, h | h⟩
          · exact ⟨j, a, b, e, .inl h⟩
          · by_cases hlt2 : (fAt x j).2.2.2.2.1 < (q : Int)
            · exact ⟨j, a, b, e, .inr ⟨h.1, hlt2⟩⟩
            · exact absurd ⟨j, a, key j a b ⟨h.1, by omega⟩, b⟩ hex
    · rw [iLt_f hlt, sel_f, ok_some]
      refine ⟨l', rfl, u1, by omega, fun c => ?_⟩
      rw [u3]
      constructor
      · rintro ⟨j, a, b, e, h | h⟩
        · exact ⟨j, a, b, e, .inl (by omega)⟩
        · exact ⟨j, a, b, e, .inl (by omega)⟩
      · rintro ⟨j, a, b, e, h | h⟩
        · by_cases h2 : place x.1.1 (fAt x j).2.2.2.1 < (i : Int)
          · exact ⟨j, a, b, e, .inl h2⟩
          · refine ⟨j, a, b, e, .inr ⟨by omega, ?_⟩⟩
            obtain ⟨f1, _⟩ := rf_used (hx.fs j a) (chg_used hx a b)
            obtain ⟨_, _, f3⟩ := f1
            have e2 : place x.1.1 (fAt x j).2.2.2.1 = (i : Int) := by omega
            rw [e2] at f3
            omega
        · obtain ⟨f1, _⟩ := rf_used (hx.fs j a) (chg_used hx a b)
          have := f1.2.1
          omega
  obtain ⟨r, e, l', rfl, h⟩ := h
  exact ⟨l', e, h⟩
theorem F38_eq {x : PAG} (hx : RT x) : ∃ l, F38 x = some l ∧ isC x l := by
  have hL := hx.few.1
  have h : Ok (L38_0 (opg x, (([] : List (Int × Int)), 0))) (fun l => isC x l) := by
    refine loop_inv (fun m y => ∃ (i : Nat) (l : List (Int × Int)), i ≤ x.1.1.length ∧ upTo x l i 0 ∧ y = (opg x, (l, (i : Int))) ∧ m = x.1.1.length - i) x.1.1.length ⟨0, [], by omega, ⟨by simp, by simp, fun c => ?_⟩, rfl, rfl⟩ (by omega) ?_
    · constructor
      · intro h; simp at h
      · rintro ⟨j, a, b, e, h | h⟩
        · obtain ⟨f1, _⟩ := rf_used (hx.fs j a) (chg_used hx a b)
          have h3 := f1.1
          have h4 : place x.1.1 (fAt x j).2.2.2.1 < 0 := h
          omega
        · obtain ⟨f1, _⟩ := rf_used (hx.fs j a) (chg_used hx a b)
          have h3 := f1.2.1
          have h4 : (fAt x j).2.2.2.2.1 < 0 := h.2
          omega
    rintro m y ⟨i, l, hi, hu, rfl, rfl⟩
    show Ok (B38_0 x.1.1 x.1.2 x.2.1 x.2.2.1 x.2.2.2.1 x.2.2.2.2.1 x.2.2.2.2.2 l i) _
    unfold B38_0
    by_cases hlt : i < x.1.1.length
    · rw [iLt_y (by unfold lLen; omega), sel_t, oIn_y (by unfold lLen; omega), sel_t]
      obtain ⟨l', e, h'⟩ := L38b_eq hx i hlt l hu
      show Ok (bndS (L38_2 (opg x, (l, ((i : Int), (lAt x.1.1 (i : Int), 0))))) _) _
      rw [e, bnd_s, ok_some]
      refine ⟨x.1.1.length - (i + 1), by omega, i + 1, l', by omega, h', ?_, rfl⟩
      dsimp only
      rw [add_n (by omega) (by omega)]
      rfl
    · rw [iLt_f (by unfold lLen; omega), sel_f, ok_some]
      obtain ⟨u1, u2, u3⟩ := hu
      refine ⟨u1, fun c => ?_⟩
      rw [u3]
      constructor
      · rintro ⟨j, a, b, e, h⟩; exact ⟨j, a, b, e⟩
      · rintro ⟨j, a, b, e⟩
        refine ⟨j, a, b, e, .inl ?_⟩
        obtain ⟨f1, _⟩ := rf_used (hx.fs j a) (chg_used hx a b)
        obtain ⟨t, ht, _, _, e4⟩ := place_in f1.1
        rw [e4]
        omega
  obtain ⟨l, e, h⟩ := h
  refine ⟨l, ?_, h⟩
  unfold F38
  show bndS (L38_0 (opg x, (([] : List (Int × Int)), 0))) _ = _
  rw [e]
  rfl
theorem isC_uniq {x : PAG} {l m : List (Int × Int)} (h : isC x l) (h' : isC x m) : l = m := lt2_uniq h.1 h'.1 fun a => (h.2 a).trans (h'.2 a).symm
theorem F37_self (l : List (Int × Int)) (hl : l.length ≤ 1000000) : F37 l l = some true := by
  have h : L37_0 (l, (l, 0)) = some (Sum.inl ()) := by
    refine iter_run (fun i => (l, (l, (i : Int)))) l.length (by omega) ?_ ?_
    · intro i hi
      show B37_0 l l i = _
      unfold B37_0
      have : bAnd (iEq (lAt l (i : Int)).1 (lAt l (i : Int)).1) (iEq (lAt l (i : Int)).2 (lAt l (i : Int)).2) = true := by rw [and_t, iEq_t, iEq_t]; exact ⟨rfl, rfl⟩
      rw [iLt_y (by unfold lLen; omega), oIn_y (by unfold lLen; omega), sel_t, sel_t, sel_t, this, nt, sel_f, add_n (by omega) (by omega)]
      rfl
    · show B37_0 l l l.length = _
      unfold B37_0
      rw [iLt_f (by unfold lLen; omega), sel_f]
  unfold F37
  rw [iEq_y rfl, nt, sel_f, h]
  rfl
/-- PagingStores. -/
theorem stores (x : PAG) (h2 : fits x.1.2) : F8 x = some true := by
  unfold F8
  rw [awake, bnd_s, nt, sel_f]
  rcases F12_eq x with ⟨hf, e⟩ | e
  · rw [e, bnd_s, nt, sel_f, F14_eq x (by have := hf.1.1; omega) (by have := hf.2.1; omega) (by have := hf.2.2.1; omega), bnd_s]
    show bndS (F33 x) (fun y3 => bndS (some (opg x)) fun y4 => bndS (F34 ((y4.1, y4.2.1), y4.2.2)) fun y5 => _) = _
    rcases check_eq x hf.1 h2 (by have := hf.2.1; omega) with ⟨hr, e1, e2⟩ | ⟨c, hc, e1, e2⟩
    · obtain ⟨hx, hs⟩ := RT_of hr hf.1
      obtain ⟨t, et, it⟩ := F33_eq hx hs
      obtain ⟨l, el, il, hll⟩ := F34_eq hx hs
      obtain ⟨t', et', it'⟩ := F36_eq hx
      obtain ⟨l', el', il'⟩ := F38_eq hx
      have h3 := isS_uniq hx it it'
      have h4 := isC_uniq il il'
      subst h3 h4
      have hl8 := chg_len hx
      have ht := shp_len it.1
      have := hx.few.1
      rw [et, bnd_s, bnd_s]
      show bndS (F34 x) _ = _
      rw [el, bnd_s, e2, bnd_s, iEq_y rfl, nt, sel_f, show bAnd true true = true from rfl, sel_t, et', bnd_s, F35_self t (by omega), bnd_s, sel_t, el', bnd_s, F37_self l (by omega), bnd_s]
    · have e33 : F33 x = some (([], 0), c) := by
        unfold F33; rw [e1, bnd_s, iEq_f hc, nf, sel_t]
      have e34 : F34 x = some ([], c) := by
        unfold F34; rw [e1, bnd_s, iEq_f hc, nf, sel_t]
      rw [e33, bnd_s, bnd_s]
      show bndS (F34 x) _ = _
      have e5 : F35 (([], 0) : STO) ([], 0) = some true := F35_self _ (by simp)
      rw [e34, bnd_s, e2, bnd_s, iEq_f hc, nf, sel_t]
      dsimp only
      rw [e5, iEq_y rfl]
      rfl
  · rw [e]; rfl
end Go.Proofs.Ytagcodkkkebnhaa.K
end

section
set_option linter.unusedVariables false
set_option linter.unusedSimpArgs false
set_option linter.unnecessarySimpa false
open Go.Ev
namespace Go.Proofs.Ytagcodkkkebnhaa.Pure
open Go.Proofs.Ytagcodkkkebnhaa.K
set_option maxRecDepth 100000 in
theorem PagingStores (x0 : ((.pr (.pr (.sl (.pr (.int .i64) .str)) (.int .i64)) (.pr (.sl (.pr (.int .i64) (.pr .bool (.pr .bool (.pr (.int .i64) (.pr (.int .i64) (.pr .str (.pr (.int .i64) (.int .i64))))))))) (.pr (.sl (.int .i64)) (.pr (.int .i64) (.pr (.int .i64) (.int .i64)))))) : Ty).T) (h0 : ((.pr (.pr (.sl (.pr (.int .i64) .str)) (.int .i64)) (.pr (.sl (.pr (.int .i64) (.pr .bool (.pr .bool (.pr (.int .i64) (.pr (.int .i64) (.pr .str (.pr (.int .i64) (.int .i64))))))))) (.pr (.sl (.int .i64)) (.pr (.int .i64) (.pr (.int .i64) (.int .i64)))))) : Ty).wf x0) : K.gF8.F (x0) = some true :=
  stores x0 (wf_fits h0.1.2)
end Go.Proofs.Ytagcodkkkebnhaa.Pure
end
