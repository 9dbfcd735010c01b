/- A part of the proof: texts of the author, joined. -/
import Derived.Test.YtiddpfhpmodfbaaGreatDoorKPIplFinds0
section
set_option linter.unusedVariables false
set_option linter.unusedSimpArgs false
set_option linter.unnecessarySimpa false
open Go Go.Ev
namespace Go.Proofs.YtiddpfhpmodfbaaGreatDoor.K
structure okL (s : STO) : Prop where
  len : s.1.length ≤ 10
  nx : 1 ≤ s.2 ∧ s.2 ≤ 1001
  sg : ∀ g, g ∈ s.1 → (1 ≤ g.1 ∧ g.1 ≤ s.2 - 1) ∧ sLen g.2 % 32 = 0 ∧ 1 ≤ sLen g.2 / 32 ∧ sLen g.2 / 32 ≤ 8
  ord : s.1.Pairwise (fun a b => a.1 < b.1)
theorem lAt_mem {α : Type} [Inhabited α] {l : List α} {i : Nat} (h : i < l.length) : lAt l (i : Int) ∈ l := by rw [lAt_lt h]; exact List.getElem_mem h
theorem mem_lAt {α : Type} [Inhabited α] {l : List α} {a : α} (h : a ∈ l) : ∃ i, i < l.length ∧ lAt l (i : Int) = a := by
  obtain ⟨i, hi, e⟩ := List.getElem_of_mem h
  exact ⟨i, hi, by rw [lAt_lt hi]; exact e⟩
theorem okL_of {s : STO} (h : okS0 s) : okL s := by
  obtain ⟨h1, h2, h3, h4⟩ := h
  have key : ∀ i, i < s.1.length → (1 ≤ (lAt s.1 (i : Int)).1 ∧ (lAt s.1 (i : Int)).1 ≤ s.2 - 1) ∧ ¬ (0 < i ∧ (lAt s.1 (i : Int)).1 ≤ (lAt s.1 ((i : Int) - 1)).1) ∧ (sLen (lAt s.1 (i : Int)).2 % 32 = 0 ∧ (1 ≤ sLen (lAt s.1 (i : Int)).2 / 32 ∧ sLen (lAt s.1 (i : Int)).2 / 32 ≤ 8)) := fun i hi => by
    have := h4 i hi
    unfold sgE at this
    split at this
    · cases this
    · split at this
      · cases this
      · split at this
        · cases this
        · rename_i a b c
          exact ⟨Classical.not_not.1 a, b, by rw [not_or] at c; exact ⟨Classical.not_not.1 c.1, Classical.not_not.1 c.2⟩⟩
  refine ⟨h1, ⟨h2, h3⟩, fun g hg => ?_, ?_⟩
  · obtain ⟨i, hi, rfl⟩ := mem_lAt hg
    exact ⟨(key i hi).1, (key i hi).2.2⟩
  · have adj : ∀ d i, i + d + 1 < s.1.length → (lAt s.1 (i : Int)).1 < (lAt s.1 ((i + d + 1 : Nat) : Int)).1 := fun d => by
      induction d with
      | zero =>
        intro i hi
        have := (key (i + 0 + 1) hi).2.1
        rw [show ((i + 0 + 1 : Nat) : Int) - 1 = (i : Int) by omega] at this
        omega
      | succ d ih =>
        intro i hi
        have h5 := ih i (by omega)
        have := (key (i + (d + 1) + 1) hi).2.1
        rw [show ((i + (d + 1) + 1 : Nat) : Int) - 1 = ((i + d + 1 : Nat) : Int) by omega] at this
        omega
    rw [List.pairwise_iff_getElem]
    intro i j hi hj hij
    have := adj (j - i - 1) i (by omega)
    rw [show i + (j - i - 1) + 1 = j by omega, lAt_lt hi, lAt_lt hj] at this
    exact this
theorem okS_of {s : STO} (h : okL s) : okS0 s := by
  refine ⟨h.len, h.nx.1, h.nx.2, fun i hi => ?_⟩
  have h1 := h.sg _ (lAt_mem hi)
  unfold sgE
  rw [if_neg (fun hc => hc h1.1)]
  rw [if_neg (fun hc => ?_)]
  · rw [if_neg (fun hc => ?_)]
    rcases hc with hc | hc
    · exact hc h1.2.1
    · exact hc h1.2.2
  · have := (List.pairwise_iff_getElem.1 h.ord) (i - 1) i (by omega) hi (by omega)
    have e : ((i : Int) - 1) = ((i - 1 : Nat) : Int) := by omega
    rw [e, lAt_lt hi, lAt_lt (by omega : i - 1 < s.1.length)] at hc
    omega
theorem okL.few {s : STO} (h : okL s) : fewS s := by
  refine ⟨by have := h.len; omega, fun i hi => ?_⟩
  have := (h.sg _ (lAt_mem hi)).2
  omega
theorem okL.check {s : STO} (h : okL s) : F58 s = some (0, 0) ∧ F65 s = some 0 := by
  rcases F43_eq s h.few (by have := h.nx; unfold fits; omega) with ⟨_, h1⟩ | ⟨a, c, hc, h1, h2⟩
  · exact h1
  · exfalso
    -- a right store has no error
    have h0 := okS_of h
    unfold F65 F114 at h2
    have hl := h.len
    rw [iLt_f (by unfold lLen; omega), sel_f] at h2
    have e2 : F35 s.2 1 1001 = true := by unfold F35; rw [and_t, iLe_t, iLe_t]; exact h.nx
    rw [e2] at h2
    rcases L56_eq s h.few h.nx with ⟨i, h3, h4, _, _⟩ | ⟨_, h4⟩
    · exact h4 (h0.2.2.2 i h3)
    · simp only [let_s, nt, sel_f, h4, bnd_s, sumS] at h2
      cases h2
      exact hc rfl
theorem mid_eq {i j : Int} (h0 : 0 ≤ i) (h1 : i ≤ j) (h2 : j ≤ 1000) : iCv .i64 (iShr .u64 (iCv .u64 (iAdd .i64 i j)) 1) = (i + j) / 2 := by
  rw [add_n (by omega) (by omega)]
  have e1 : iCv .u64 (i + j) = i + j := by
    unfold iCv IntKind.wrap
    simp only [IntKind.signed, IntKind.bits]
    simp
    omega
  rw [e1]
  unfold iShr
  rw [show (2 : Int) ^ min (Int.toNat 1) IntKind.u64.bits = 2 from rfl, Int.fdiv_eq_ediv_of_nonneg _ (by decide), cv_n (by omega) (by omega)]
theorem L178_eq {l : List SEG} {n : Int} (hl : l.length ≤ 1000) (ho : l.Pairwise (fun a b => a.1 < b.1)) (hs : ∀ g, g ∈ l → 0 ≤ g.1 ∧ g.1 ≤ 2000) (hn : 0 ≤ n ∧ n ≤ 2000) :
    Ok (L178_0 (l, (n, (lLen l, (0, lLen l))))) (fun r => ∃ i : Nat, i ≤ l.length ∧ r = (l, (n, (lLen l, (i : Int)))) ∧ (∀ k, k < i → (lAt l (k : Int)).1 < n) ∧ (∀ k, i ≤ k → k < l.length → n ≤ (lAt l (k : Int)).1)) := by
  have mono : ∀ a b, a < b → b < l.length → (lAt l (a : Int)).1 < (lAt l (b : Int)).1 := fun a b hab hb => by
    have := (List.pairwise_iff_getElem.1 ho) a b (by omega) hb hab
    rw [lAt_lt hb, lAt_lt (by omega : a < l.length)]; exact this
  refine loop_inv (fun m x => ∃ i j : Nat, i ≤ j ∧ j ≤ l.length ∧ m = j - i ∧ x = (l, (n, (lLen l, ((i : Int), (j : Int))))) ∧ (∀ k, k < i → (lAt l (k : Int)).1 < n) ∧ (∀ k, j ≤ k → k < l.length → n ≤ (lAt l (k : Int)).1)) l.length ⟨0, l.length, by omega, by omega, by omega, rfl, fun k hk => by omega, fun k h1 h2 => by omega⟩ (by omega) ?_
  rintro m x ⟨i, j, hij, hj, rfl, rfl, ha, hb⟩
  show Ok (B178_0 l n (lLen l) (i : Int) (j : Int)) _
  unfold B178_0
  by_cases hlt : i < j
  · have hm : iCv .i64 (iShr .u64 (iCv .u64 (iAdd .i64 (i : Int) (j : Int))) 1) = (((i + j) / 2 : Nat) : Int) := by rw [mid_eq (by omega) (by omega) (by omega)]; omega
    rw [hm]
    generalize hh : (i + j) / 2 = h at *
    have h1 : i ≤ h ∧ h < j := by omega
    rw [iLt_y (by omega), sel_t, oIn_y (by unfold lLen; omega), sel_t, let_s]
    have hg := hs _ (lAt_mem (l := l) (i := h) (by omega))
    have hF : F179 (lAt l (h : Int)) n = (lAt l (h : Int)).1 - n := sub_n (by omega) (by omega)
    rw [hF, ok_some]
    by_cases hc : (lAt l (h : Int)).1 < n
    · rw [iLt_y (by omega), sel_t, sel_t, add_n (by omega) (by omega)]
      refine ⟨j - (h + 1), by omega, h + 1, j, by omega, hj, rfl, by rw [show ((h + 1 : Nat) : Int) = (h : Int) + 1 by omega], fun k hk => ?_, hb⟩
      by_cases hk2 : k = h
      · rw [hk2]; exact hc
      · have := mono k h (by omega) (by omega); omega
    · rw [iLt_f (by omega), sel_f, sel_f]
      refine ⟨h - i, by omega, i, h, by omega, by omega, rfl, rfl, ha, fun k h2 h3 => ?_⟩
      by_cases hk2 : k = h
      · rw [hk2]; omega
      · have := mono h k (by omega) h3; omega
  · rw [iLt_f (by omega), sel_f, ok_some]
    have : i = j := by omega
    subst this
    exact ⟨i, hj, rfl, ha, hb⟩
/-- The index of a segment in a right store. -/
theorem find_eq {s : STO} (h : okL s) {n : Int} (hn : 0 ≤ n ∧ n ≤ 2000) : F149 s n = some (if 0 ≤ place s.1 n then (place s.1 n, 0) else (0, if 1 ≤ n ∧ n ≤ s.2 - 1 then 24 else 11)) := by
  have hl := h.len
  have hx := h.nx
  have hs : ∀ g, g ∈ s.1 → 0 ≤ g.1 ∧ g.1 ≤ 2000 := fun g hg => by have := (h.sg g hg).1; omega
  obtain ⟨r, hr, i, hi, rfl, ha, hb⟩ := L178_eq (n := n) (by omega) h.ord hs hn
  have hF : F178 s.1 n = some ((i : Int), decide (0 ≤ place s.1 n)) ∧ (0 ≤ place s.1 n → place s.1 n = (i : Int)) := by
    unfold F178
    rw [hr, bnd_s]
    dsimp only
    rcases place_cases n s.1 with ⟨p, h1, h2, h3, h4⟩ | ⟨h1, h2⟩
    · have hip : i = p := by
        rcases Nat.lt_trichotomy i p with h5 | h5 | h5
        · have := (List.pairwise_iff_getElem.1 h.ord) i p (by omega) h1 h5
          have h6 := hb i (Nat.le_refl _) (by omega)
          rw [lAt_lt h1] at h2
          rw [lAt_lt (by omega : i < s.1.length)] at h6
          omega
        · exact h5
        · have := ha p h5; omega
      subst hip
      refine ⟨?_, fun _ => h4⟩
      rw [h4, oIn_y (by unfold lLen; omega), or_tt, sel_t, let_s, iLt_y (by unfold lLen; omega), at_ft]
      have hF : F179 (lAt s.1 (i : Int)) n = 0 := by
        have := hs _ (lAt_mem h1)
        have e : F179 (lAt s.1 (i : Int)) n = (lAt s.1 (i : Int)).1 - n := sub_n (by omega) (by omega)
        rw [e]; omega
      rw [hF, iEq_y rfl, decide_eq_true (by omega : (0 : Int) ≤ (i : Int))]
    · refine ⟨?_, fun h5 => by omega⟩
      rw [h2, decide_eq_false (by omega : ¬ (0 : Int) ≤ -1)]
      by_cases h5 : i < s.1.length
      · rw [oIn_y (by unfold lLen; omega), or_tt, sel_t, let_s, iLt_y (by unfold lLen; omega), at_ft]
        have hF : ¬ F179 (lAt s.1 (i : Int)) n = 0 := by
          have := hs _ (lAt_mem h5)
          have e : F179 (lAt s.1 (i : Int)) n = (lAt s.1 (i : Int)).1 - n := sub_n (by omega) (by omega)
          have := h1 i h5
          rw [e]; omega
        rw [iEq_f hF]
      · rw [iLt_f (by unfold lLen; omega), nf, sel_pos (by cases oIn (i : Int) (lLen s.1) <;> rfl), let_s, at_ff]
  unfold F149
  rw [h.check.1, bnd_s, iEq_y rfl, nt, sel_f, hF.1, bnd_s]
  by_cases hp : 0 ≤ place s.1 n
  · rw [decide_eq_true hp, sel_t, if_pos hp, hF.2 hp]
  · rw [decide_eq_false hp, sel_f, if_neg hp, let_s]
    unfold F109
    rw [sub_n (by omega) (by omega)]
    by_cases h5 : 1 ≤ n ∧ n ≤ s.2 - 1
    · rw [if_pos h5, iLe_y h5.1, iLe_y h5.2, at_ft, sel_t]
    · rw [if_neg h5, sel_neg (by rw [bf_t, and_t, iLe_t, iLe_t]; exact h5)]
theorem known_eq {s : STO} (h : okL s) (n : Int) : F147 s n = some (place s.1 n, if 0 ≤ place s.1 n then 0 else if 1 ≤ n ∧ n ≤ s.2 - 1 then 24 else 11) := by
  have hl := h.len
  have hx := h.nx
  unfold F147 F177
  rw [h.check.2, bnd_s, iEq_y rfl, nt, sel_f, F90_eq s n (by omega), bnd_s]
  simp only [bnd_s]
  rcases place_cases n s.1 with ⟨p, _, _, _, h4⟩ | ⟨_, h4⟩
  · rw [h4, iEq_f (by omega), nf, sel_t, if_pos (by omega)]
    rfl
  · rw [h4, iEq_y rfl, nt, sel_f, if_neg (by omega), let_s]
    unfold F35
    rw [sub_n (by omega) (by omega)]
    by_cases h5 : 1 ≤ n ∧ n ≤ s.2 - 1
    · rw [if_pos h5, iLe_y h5.1, iLe_y h5.2, at_ft, sel_t]
      rfl
    · rw [if_neg h5, sel_neg (by rw [bf_t, and_t, iLe_t, iLe_t]; exact h5)]
      rfl
end Go.Proofs.YtiddpfhpmodfbaaGreatDoor.K
end

section
set_option linter.unusedVariables false
set_option linter.unusedSimpArgs false
set_option linter.unnecessarySimpa false
open Go Go.Ev
namespace Go.Proofs.YtiddpfhpmodfbaaGreatDoor.K
theorem cut_drop {α : Type} (l : List α) (k : Nat) : lCut l (k : Int) (lLen l) = l.drop k := by unfold lCut lLen; simp
theorem del_list {α : Type} (l : List α) (k : Nat) : l.take k ++ l.drop (k + 1) = l.eraseIdx k := (List.eraseIdx_eq_take_drop_succ l k).symm
/-- Ahead of what is written over nothing changes. -/
theorem cpy_take {α : Type} (l q : List α) (lo hi : Int) (m : Nat) (h : m ≤ lo.toNat) (hl : m ≤ l.length) : (lCpy l lo hi q).take m = l.take m := by
  unfold lCpy
  rw [List.take_append_of_le_length (by rw [List.length_take]; omega), List.take_take, Nat.min_eq_left h]
theorem cpy_in {α : Type} (l q : List α) (k : Nat) (hk : k ≤ l.length) : (lCpy l (k : Int) ((k + q.length : Nat) : Int) q).take (k + q.length) = l.take k ++ q := by
  unfold lCpy
  have e2 : (((k + q.length : Nat) : Int) - (k : Int)).toNat = q.length := by omega
  rw [e2, Int.toNat_natCast, List.take_length, Nat.min_self, ← List.append_assoc]
  have e3 : (l.take k ++ q).length = k + q.length := by rw [List.length_append, List.length_take, Nat.min_eq_left hk]
  rw [← e3, List.take_left]
theorem cut_take {α : Type} (l : List α) (m : Nat) : lCut l 0 (m : Int) = l.take m := by unfold lCut; simp
theorem cpy_len {α : Type} (l q : List α) (k : Nat) (h : k + q.length ≤ l.length) : (lCpy l (k : Int) ((k + q.length : Nat) : Int) q).length = l.length := by
  unfold lCpy
  have e2 : (((k + q.length : Nat) : Int) - (k : Int)).toNat = q.length := by omega
  rw [e2, Int.toNat_natCast, List.take_length, Nat.min_self]
  simp only [List.length_append, List.length_take, List.length_drop]
  omega
theorem F150_eq (l : List SEG) (k : Nat) (hk : k < l.length) (hl : l.length ≤ 1000) : F150 l (k : Int) (iAdd .i64 (k : Int) 1) = some (l.eraseIdx k) := by
  unfold F150
  rw [add_n (by omega) (by omega), show (k : Int) + 1 = ((k + 1 : Nat) : Int) by omega, cut_drop, ← del_list l k]
  generalize hq : l.drop (k + 1) = q
  have hql : q.length = l.length - (k + 1) := by rw [← hq]; simp
  have e1 : pAdd (k : Int) (lLen q) = ((k + q.length : Nat) : Int) := by unfold pAdd lLen; omega
  have e2 : pAdd 0 (pSub ((k + q.length : Nat) : Int) 0) = ((k + q.length : Nat) : Int) := by unfold pAdd pSub; omega
  have e3 : pSub ((k + q.length : Nat) : Int) 0 = ((k + q.length : Nat) : Int) := by unfold pSub; omega
  rw [e1, e2, e3]
  have hcl := cpy_len l q k (by omega)
  rw [oCut_y (by unfold lLen; omega), sel_t, oCut_y (by unfold lLen; omega), sel_t, iEq_f (by omega), sel_f, oCut_y (by unfold lLen; omega), sel_t, oCut_y (by unfold lLen; omega), sel_t, iLe_y (by unfold lLen; omega), sel_t,
    oCut_y (by unfold lLen pSub; rw [hcl]; omega), sel_t, cut_take, cpy_take _ _ _ _ _ (by omega) (by rw [hcl]; omega), cpy_in _ _ _ (by omega)]
theorem okL.set {s : STO} (h : okL s) {k : Nat} (hk : k < s.1.length) {b : ByteArray} (hb : sLen b = sLen (lAt s.1 (k : Int)).2) : okL (s.1.set k ((lAt s.1 (k : Int)).1, b), s.2) := by
  refine ⟨by rw [List.length_set]; exact h.len, h.nx, fun g hg => ?_, ?_⟩
  · rcases List.mem_or_eq_of_mem_set hg with h1 | h1
    · exact h.sg g h1
    · have := h.sg _ (lAt_mem hk)
      rw [h1]
      dsimp only
      rw [hb]
      exact this
  · rw [List.pairwise_iff_getElem]
    intro i j hi hj hij
    rw [List.length_set] at hi hj
    have h1 := (List.pairwise_iff_getElem.1 h.ord) i j hi hj hij
    have e : ∀ i (hi : i < s.1.length), ((s.1.set k ((lAt s.1 (k : Int)).1, b))[i]'(by rw [List.length_set]; exact hi)).1 = (s.1[i]).1 := fun i hi => by
      rw [List.getElem_set]
      split
      · rename_i he; subst he; rw [lAt_lt hk]
      · rfl
    rw [e i hi, e j hj]
    exact h1
theorem del_eq {s : STO} (h : okL s) {n : Int} (hn : 0 ≤ n ∧ n ≤ 2000) {k : Nat} (hk : k < s.1.length) (hp : place s.1 n = (k : Int)) :
    F98 s n = some ((s.1.eraseIdx k, s.2), 0) ∧ F95 s n = some (s.1.eraseIdx k, (s.2, (0, (bs [], 0)))) := by
  have hl := h.len
  have h18 : F64 s = some s := F18_eq s (by omega)
  constructor
  · unfold F98
    rw [find_eq h hn, if_pos (by omega), bnd_s, iEq_y rfl, nt, sel_f, F116_eq s.1 (by omega), bnd_s]
    dsimp only
    rw [hp, F150_eq s.1 k hk (by omega), bnd_s]
  · unfold F95
    rw [known_eq h, if_pos (by omega), bnd_s, iEq_y rfl, nt, sel_f, h18, bnd_s]
    dsimp only
    rw [hp, add_n (by omega) (by omega), show (k : Int) + 1 = ((k + 1 : Nat) : Int) by omega, cut_drop, ← del_list s.1 k]
    generalize hq : s.1.drop (k + 1) = q
    have hql : q.length = s.1.length - (k + 1) := by rw [← hq]; simp
    have e1 : pAdd (k : Int) (lLen q) = ((k + q.length : Nat) : Int) := by unfold pAdd lLen; omega
    rw [e1, oCut_y (by unfold lLen; omega), sel_t, oCut_y (by unfold lLen; omega), sel_t, iLe_y (by unfold lLen; omega), sel_t, cut_take, cpy_in _ _ _ (by omega)]
/-- Other bytes at a segment's beginning. -/
def wrB (o b : ByteArray) : ByteArray := sAdd (sAdd (sCut o 0 0) b) (sCut o 32 (sLen o))
theorem wrB_len {o b : ByteArray} (hb : sLen b = 32) (ho : 32 ≤ sLen o) : sLen (wrB o b) = sLen o := by
  unfold wrB
  rw [sadd_len, sadd_len, scut_len _ (by omega) (by omega) (by omega), scut_len _ (by omega) (by omega) (by omega), hb]
  omega
theorem wr_eq {s : STO} (h : okL s) {n : Int} (hn : 0 ≤ n ∧ n ≤ 2000) {k : Nat} (hk : k < s.1.length) (hp : place s.1 n = (k : Int)) {b : ByteArray} (hb : sLen b = 32) :
    F84 s (n, 0) b = some ((s.1.set k ((lAt s.1 (k : Int)).1, wrB (lAt s.1 (k : Int)).2 b), s.2), 0) ∧ F92 s (n, 0) b = some (s.1.set k ((lAt s.1 (k : Int)).1, wrB (lAt s.1 (k : Int)).2 b), (s.2, (0, (bs [], 0)))) := by
  have hl := h.len
  have h18 : F64 s = some s := F18_eq s (by omega)
  have hg := h.sg _ (lAt_mem hk)
  have ho : 32 ≤ sLen (lAt s.1 (k : Int)).2 ∧ sLen (lAt s.1 (k : Int)).2 ≤ 400 := by omega
  have i1 : oIn (k : Int) (lLen s.1) = true := oIn_y (by unfold lLen; omega)
  have w1 : F109 0 0 (sLen (lAt s.1 (k : Int)).2) = true ∧ F35 0 0 (sLen (lAt s.1 (k : Int)).2) = true := by
    unfold F109 F35; rw [iLe_y (by omega), iLe_y (by omega)]; exact ⟨rfl, rfl⟩
  have w2 : F109 32 0 (iSub .i64 (sLen (lAt s.1 (k : Int)).2) 0) = true ∧ F35 32 0 (iSub .i64 (sLen (lAt s.1 (k : Int)).2) 0) = true := by
    unfold F109 F35; rw [sub_n (by omega) (by omega), iLe_y (by omega), iLe_y (by omega)]; exact ⟨rfl, rfl⟩
  have hset : lSet s.1 (k : Int) ((lAt s.1 (k : Int)).1, wrB (lAt s.1 (k : Int)).2 b) = s.1.set k ((lAt s.1 (k : Int)).1, wrB (lAt s.1 (k : Int)).2 b) := by unfold lSet; rw [Int.toNat_natCast]
  have c0 : sLen (sCut (lAt s.1 (k : Int)).2 0 0) = 0 := scut_len _ (by omega) (by omega) (by omega)
  have c1 : sLen (sCut (lAt s.1 (k : Int)).2 32 (sLen (lAt s.1 (k : Int)).2)) = sLen (lAt s.1 (k : Int)).2 - 32 := scut_len _ (by omega) (by omega) (by omega)
  have ok1 : sOk (sCut (lAt s.1 (k : Int)).2 0 0) b = true := sOk_n (by rw [c0, hb]; omega)
  have ok2 : sOk (sAdd (sCut (lAt s.1 (k : Int)).2 0 0) b) (sCut (lAt s.1 (k : Int)).2 32 (sLen (lAt s.1 (k : Int)).2)) = true := sOk_n (by rw [sadd_len, c0, c1, hb]; omega)
  have e32 : iAdd .i64 0 32 = 32 := rfl
  constructor
  · unfold F84 F138
    rw [find_eq h hn, if_pos (by omega), bnd_s, iEq_y rfl, nt, sel_f]
    dsimp only
    rw [hp, hb, i1, sel_t, let_s, let_s, w1.1, w2.1, nt, or_ff, sel_f, bnd_s, iEq_y rfl, nt, sel_f]
    dsimp only
    rw [i1, sel_t, oCut_y (by omega), sel_t, ok1, sel_t, e32, oCut_y (by omega), sel_t, ok2, sel_t]
    unfold F139
    rw [F116_eq s.1 (by omega), bnd_s, i1, sel_t]
    show bndS (some (lSet s.1 (k : Int) ((lAt s.1 (k : Int)).1, wrB (lAt s.1 (k : Int)).2 b), s.2)) _ = _
    rw [hset, bnd_s]
  · unfold F92 F145
    rw [known_eq h, if_pos (by dsimp only; omega), bnd_s, iEq_y rfl, nt, sel_f]
    dsimp only
    rw [hp, hb, i1, sel_t, let_s, let_s, w1.2, w2.2, nt, or_ff, sel_f, bnd_s, iEq_y rfl, nt, sel_f]
    dsimp only
    rw [i1, sel_t]
    unfold F127
    rw [oCut_y (by omega), sel_t, ok1, sel_t, hb, e32, oCut_y (by omega), sel_t, ok2, sel_t, bnd_s]
    unfold F146
    rw [h18, bnd_s, i1, sel_t]
    show bndS (some (lSet s.1 (k : Int) ((lAt s.1 (k : Int)).1, wrB (lAt s.1 (k : Int)).2 b), s.2)) _ = _
    rw [hset, bnd_s]
end Go.Proofs.YtiddpfhpmodfbaaGreatDoor.K
end

section
set_option linter.unusedVariables false
set_option linter.unusedSimpArgs false
set_option linter.unnecessarySimpa false
open Go Go.Ev
namespace Go.Proofs.YtiddpfhpmodfbaaGreatDoor.K
theorem less_trans : ∀ a b c : List UInt8, Op.bytesLess a b = true → Op.bytesLess b c = true → Op.bytesLess a c = true
  | _, b, [], _, h => by cases b <;> cases h
  | [], _, _ :: _, _, _ => rfl
  | _ :: _, [], _ :: _, h, _ => by cases h
  | a :: x, b :: y, c :: z, h1, h2 => by
    simp only [Op.bytesLess, Bool.or_eq_true, Bool.and_eq_true, decide_eq_true_eq, beq_iff_eq] at *
    rcases h1 with h1 | ⟨rfl, h1⟩
    · rcases h2 with h2 | ⟨rfl, h2⟩
      · exact .inl (UInt8.lt_trans h1 h2)
      · exact .inl h1
    · rcases h2 with h2 | ⟨rfl, h2⟩
      · exact .inl h2
      · exact .inr ⟨rfl, less_trans x y z h1 h2⟩
theorem less_tri : ∀ a b : List UInt8, Op.bytesLess a b = true ∨ a = b ∨ Op.bytesLess b a = true
  | [], [] => .inr (.inl rfl)
  | [], _ :: _ => .inl rfl
  | _ :: _, [] => .inr (.inr rfl)
  | a :: x, b :: y => by
    simp only [Op.bytesLess, Bool.or_eq_true, Bool.and_eq_true, decide_eq_true_eq, beq_iff_eq, List.cons.injEq]
    rcases less_tri x y with h | h | h
    · by_cases e : a = b
      · exact .inl (.inr ⟨e, h⟩)
      · rcases UInt8.lt_or_lt_of_ne e with h' | h'
        · exact .inl (.inl h')
        · exact .inr (.inr (.inl h'))
    · by_cases e : a = b
      · exact .inr (.inl ⟨e, h⟩)
      · rcases UInt8.lt_or_lt_of_ne e with h' | h'
        · exact .inl (.inl h')
        · exact .inr (.inr (.inl h'))
    · by_cases e : a = b
      · exact .inr (.inr (.inr ⟨e.symm, h⟩))
      · rcases UInt8.lt_or_lt_of_ne e with h' | h'
        · exact .inl (.inl h')
        · exact .inr (.inr (.inl h'))
theorem sLt_trans {a b c : ByteArray} (h1 : sLt a b = true) (h2 : sLt b c = true) : sLt a c = true := less_trans _ _ _ h1 h2
theorem sLt_tri (a b : ByteArray) : sLt a b = true ∨ a = b ∨ sLt b a = true := by
  rcases less_tri a.toList b.toList with h | h | h
  · exact .inl h
  · refine .inr (.inl ?_)
    rw [ba_toList, ba_toList] at h
    cases a; cases b; simp only at h; congr; exact Array.ext' h
  · exact .inr (.inr h)
/-- A name stands before another one. -/
def bf (a b : NAM) : Bool := if a.1 = b.1 then (if a.2.1 = b.2.1 then iLt a.2.2 b.2.2 else sLt a.2.1 b.2.1) else sLt a.1 b.1
theorem F115_bf (a b : NAM) : F115 a b = some (bf a b) := by
  unfold F115 bf
  by_cases h1 : a.1 = b.1
  · rw [sEq_y h1, nt, sel_f, if_pos h1]
    by_cases h2 : a.2.1 = b.2.1
    · rw [sEq_y h2, nt, sel_f, if_pos h2]
    · rw [sEq_f h2, nf, sel_t, if_neg h2]
  · rw [sEq_f h1, nf, sel_t, if_neg h1]
theorem bf_irr (a : NAM) : bf a a = false := by
  unfold bf; rw [if_pos rfl, if_pos rfl, iLt_f (by omega)]
theorem bf_trans {a b c : NAM} (h1 : bf a b = true) (h2 : bf b c = true) : bf a c = true := by
  unfold bf at *
  by_cases e1 : a.1 = b.1
  · rw [if_pos e1] at h1
    by_cases e2 : b.1 = c.1
    · rw [if_pos e2] at h2
      rw [if_pos (e1.trans e2)]
      by_cases f1 : a.2.1 = b.2.1
      · rw [if_pos f1] at h1
        by_cases f2 : b.2.1 = c.2.1
        · rw [if_pos f2] at h2
          rw [if_pos (f1.trans f2)]
          rw [iLt_t] at *
          omega
        · rw [if_neg f2] at h2
          rw [f1, if_neg f2]; exact h2
      · rw [if_neg f1] at h1
        by_cases f2 : b.2.1 = c.2.1
        · rw [← f2, if_neg f1]; exact h1
        · rw [if_neg f2] at h2
          have := sLt_trans h1 h2
          rw [if_neg (fun e => by rw [e, sLt_irr] at this; cases this)]; exact this
    · rw [if_neg e2] at h2
      rw [e1, if_neg e2]; exact h2
  · rw [if_neg e1] at h1
    by_cases e2 : b.1 = c.1
    · rw [← e2, if_neg e1]; exact h1
    · rw [if_neg e2] at h2
      have := sLt_trans h1 h2
      rw [if_neg (fun e => by rw [e, sLt_irr] at this; cases this)]; exact this
theorem bf_tri (a b : NAM) : bf a b = true ∨ a = b ∨ bf b a = true := by
  unfold bf
  by_cases e1 : a.1 = b.1
  · rw [if_pos e1, if_pos e1.symm]
    by_cases f1 : a.2.1 = b.2.1
    · rw [if_pos f1, if_pos f1.symm, iLt_t, iLt_t]
      rcases Int.lt_trichotomy a.2.2 b.2.2 with h | h | h
      · exact .inl h
      · exact .inr (.inl (Prod.ext e1 (Prod.ext f1 h)))
      · exact .inr (.inr h)
    · rw [if_neg f1, if_neg (fun e => f1 e.symm)]
      rcases sLt_tri a.2.1 b.2.1 with h | h | h
      · exact .inl h
      · exact absurd h f1
      · exact .inr (.inr h)
  · rw [if_neg e1, if_neg (fun e => e1 e.symm)]
    rcases sLt_tri a.1 b.1 with h | h | h
    · exact .inl h
    · exact absurd h e1
    · exact .inr (.inr h)
theorem bf_asym {a b : NAM} (h : bf a b = true) : bf b a = false := by
  rw [bf_t]; intro h2
  have := bf_trans h h2
  rw [bf_irr] at this; cases this
theorem F141_eq (a b : DE) : ∃ v, F141 a b = some v ∧ iLt v 0 = bf a.1 b.1 := by
  obtain ⟨v, c, h1, h2, h3⟩ := order_eq a.1 b.1
  rw [F115_bf] at h2
  cases h2
  unfold F141
  rw [h1]
  refine ⟨v, rfl, ?_⟩
  rw [Bool.eq_iff_iff] at h3 ⊢
  rw [iLe_t, not_t, bf_t] at h3
  rw [iLt_t]
  constructor
  · intro h
    by_cases h5 : bf a.1 b.1 = true
    · exact h5
    · have := h3.2 h5; omega
  · intro h
    by_cases h5 : v < 0
    · exact h5
    · exact absurd h (h3.1 (by omega))
/-- A sorted directory. -/
def srt (l : List DE) : Prop := l.Pairwise (fun a b => bf a.1 b.1 = true)
/-- An entry more, at its place. -/
def ins (d : DE) : List DE → List DE
  | [] => [d]
  | a :: l => if bf d.1 a.1 = true then d :: a :: l else a :: ins d l
theorem ins_perm (d : DE) : ∀ l, (ins d l).Perm (d :: l)
  | [] => List.Perm.refl _
  | a :: l => by
    unfold ins
    split
    · exact List.Perm.refl _
    · exact ((ins_perm d l).cons a).trans (List.Perm.swap ..)
theorem ins_mem {d a : DE} {l : List DE} : a ∈ ins d l ↔ a = d ∨ a ∈ l := by
  rw [(ins_perm d l).mem_iff, List.mem_cons]
theorem ins_len (d : DE) (l : List DE) : (ins d l).length = l.length + 1 := by
  rw [(ins_perm d l).length_eq, List.length_cons]
theorem ins_srt {d : DE} : ∀ {l : List DE}, srt l → (∀ a, a ∈ l → a.1 ≠ d.1) → srt (ins d l)
  | [], _, _ => List.pairwise_singleton ..
  | a :: l, h, hn => by
    have h := List.pairwise_cons.1 h
    unfold ins
    split
    · rename_i hb
      refine List.pairwise_cons.2 ⟨fun b hb2 => ?_, List.pairwise_cons.2 h⟩
      rcases List.mem_cons.1 hb2 with rfl | hb2
      · exact hb
      · exact bf_trans hb (h.1 b hb2)
    · rename_i hb
      refine List.pairwise_cons.2 ⟨fun b hb2 => ?_, ins_srt h.2 (fun b hb2 => hn b (List.mem_cons_of_mem _ hb2))⟩
      rcases ins_mem.1 hb2 with rfl | hb2
      · rcases bf_tri a.1 b.1 with h5 | h5 | h5
        · exact h5
        · exact absurd h5 (hn a (List.mem_cons_self ..))
        · exact absurd h5 hb
      · exact h.1 b hb2
theorem ins_split {d : DE} {s : List DE} (hs : ∀ a, a ∈ s → bf d.1 a.1 = true) : ∀ {p : List DE}, (∀ a, a ∈ p → ¬ bf d.1 a.1 = true) → ins d (p ++ s) = p ++ d :: s
  | [], _ => by
    cases s with
    | nil => rfl
    | cons a s => exact if_pos (hs a (List.mem_cons_self ..))
  | a :: p, hp => by
    show (if bf d.1 a.1 = true then d :: a :: (p ++ s) else a :: ins d (p ++ s)) = _
    rw [if_neg (hp a (List.mem_cons_self ..)), ins_split hs (fun b hb => hp b (List.mem_cons_of_mem _ hb))]
    rfl
theorem swap_at (p s : List DE) (a d : DE) : lSet (lSet (p ++ a :: d :: s) ((p.length + 1 : Nat) : Int) (lAt (p ++ a :: d :: s) (p.length : Int))) (p.length : Int) (lAt (p ++ a :: d :: s) ((p.length + 1 : Nat) : Int)) = p ++ d :: a :: s := by
  unfold lSet lAt
  rw [Int.toNat_natCast, Int.toNat_natCast]
  simp
/-- The step of insertion sort goes down to the place. -/
theorem L195_in {l : List DE} {d : DE} {n i : Int} (hl : l.length ≤ 1000) (hs : srt l) :
    L195_2 (l ++ [d], (0, (n, (i, (l.length : Int))))) = some (ins d l, (0, (n, i))) := by
  have key : Ok (L195_2 (l ++ [d], (0, (n, (i, (l.length : Int)))))) (fun r => r = (ins d l, (0, (n, i)))) := by
    refine loop_inv (fun m x => ∃ p s : List DE, l = p ++ s ∧ x = (p ++ d :: s, ((0 : Int), (n, (i, (p.length : Int))))) ∧ (∀ a, a ∈ s → bf d.1 a.1 = true) ∧ m = p.length) l.length ⟨l, [], by simp, rfl, (fun a ha => by cases ha), rfl⟩ (by omega) ?_
    rintro m x ⟨p, s, rfl, rfl, ha, rfl⟩
    show Ok (B195_2 (p ++ d :: s) 0 n i (p.length : Int)) _
    unfold B195_2
    rcases List.eq_nil_or_concat p with rfl | ⟨p, b, rfl⟩
    · have c0 : iLt 0 (([] : List DE).length : Int) = false := rfl
      rw [c0, nf]
      have w : ∀ b : Bool, bOr b true = true := fun b => by cases b <;> rfl
      rw [w, w, w, sel_t, sel_t, sel_t, let_s, at_ff, sel_f, ok_some]
      show (d :: s, _) = _
      rw [show ins d ([] ++ s) = [] ++ d :: s from ins_split ha (fun a ha => by cases ha)]
      rfl
    · rw [List.concat_eq_append] at *
      have hl2 : p.length + 1 + s.length ≤ 1000 := by have h9 := hl; simp at h9; omega
      have hL : lLen (p ++ b :: d :: s) = ((p.length + s.length + 2 : Nat) : Int) := by unfold lLen; rw [List.length_append, List.length_cons, List.length_cons]; omega
      have hp : (p ++ [b]).length = p.length + 1 := by simp
      have e0 : p ++ [b] ++ d :: s = p ++ b :: d :: s := by simp
      rw [hp, e0]
      have g1 : lAt (p ++ b :: d :: s) ((p.length + 1 : Nat) : Int) = d := by
        rw [lAt_n]; simp [List.getElem?_append]
      have g2 : lAt (p ++ b :: d :: s) (p.length : Int) = b := by
        rw [lAt_n]; simp [List.getElem?_append]
      obtain ⟨v, v1, v2⟩ := F141_eq d b
      have c0 : iLt 0 ((p.length + 1 : Nat) : Int) = true := iLt_y (by omega)
      have e1 : iSub .i64 ((p.length + 1 : Nat) : Int) 1 = (p.length : Int) := by rw [sub_n (by omega) (by omega)]; omega
      have hs' := swap_at p s b d
      rw [g1, g2] at hs'
      rw [e1, c0, nt, g1, g2, v1, oIn_y (by rw [hL]; omega), oIn_y (by rw [hL]; omega), okS_s, or_tt, sel_t, sel_t, sel_t, valS_s, let_s, at_ft, v2]
      rw [set_len, oIn_y (a := (p.length : Int)) (by rw [hL]; omega), hs']
      cases hb : bf d.1 b.1 with
      | true =>
        rw [sel_t, sel_t, sel_t, sel_t, sel_t, ok_some]
        refine ⟨p.length, by omega, p, b :: s, by simp, rfl, fun a h5 => ?_, rfl⟩
        rcases List.mem_cons.1 h5 with rfl | h5
        · exact hb
        · exact ha a h5
      | false =>
        rw [sel_f, ok_some]
        have : ins d (p ++ [b] ++ s) = p ++ [b] ++ d :: s := by
          refine ins_split ha (fun a h5 => ?_)
          rcases List.mem_append.1 h5 with h5 | h5
          · have h6 := (List.pairwise_append.1 hs).1
            have h7 := (List.pairwise_append.1 h6).2.2 a h5 b (List.mem_singleton.2 rfl)
            intro h8
            -- before d means before b
            have h9 := bf_trans h8 h7
            rw [hb] at h9; cases h9
          · rw [List.mem_singleton.1 h5, hb]; decide
        rw [this, e0]
  rw [ok_is] at key
  exact key
theorem L195_st {l : List DE} {d : DE} {n : Int} {i : Nat} (hl : l.length ≤ 1000) (hs : srt l) (hi : 0 < i) (hi2 : i < l.length) :
    L195_2 (l ++ [d], (0, (n, ((i : Int), (i : Int))))) = some (l ++ [d], (0, (n, (i : Int)))) := by
  refine iter_e (n := 9999999) ?_
  show B195_2 (l ++ [d]) 0 n i i = _
  have hL : lLen (l ++ [d]) = ((l.length + 1 : Nat) : Int) := by unfold lLen; simp
  have g1 : lAt (l ++ [d]) (i : Int) = l[i] := by rw [lAt_n, List.getElem?_append_left hi2, List.getElem?_eq_getElem hi2]; rfl
  have g2 : lAt (l ++ [d]) ((i - 1 : Nat) : Int) = l[i - 1] := by rw [lAt_n, List.getElem?_append_left (by omega), List.getElem?_eq_getElem (by omega)]; rfl
  have e1 : iSub .i64 (i : Int) 1 = ((i - 1 : Nat) : Int) := by rw [sub_n (by omega) (by omega)]; omega
  obtain ⟨v, v1, v2⟩ := F141_eq l[i] l[i - 1]
  have hb : bf (l[i - 1]).1 (l[i]).1 = true := (List.pairwise_iff_getElem.1 hs) (i - 1) i (by omega) hi2 (by omega)
  unfold B195_2
  rw [e1, g1, g2, v1, oIn_y (by rw [hL]; omega), oIn_y (by rw [hL]; omega), okS_s, or_tt, sel_t, sel_t, sel_t, valS_s, let_s, v2, bf_asym hb, iLt_y (by omega), at_ft, sel_f]
theorem F195_eq {l : List DE} {d : DE} (hl : l.length ≤ 1000) (hs : srt l) : F195 (l ++ [d]) 0 ((l.length + 1 : Nat) : Int) = some (ins d l) := by
  have key : Ok (L195_0 (l ++ [d], (0, (((l.length + 1 : Nat) : Int), 1)))) (fun r => r = ins d l) := by
    refine loop_inv (fun m x => (∃ i : Nat, 1 ≤ i ∧ i ≤ l.length ∧ x = (l ++ [d], ((0 : Int), (((l.length + 1 : Nat) : Int), (i : Int)))) ∧ m = l.length + 1 - i) ∨ (x = (ins d l, ((0 : Int), (((l.length + 1 : Nat) : Int), ((l.length + 1 : Nat) : Int)))) ∧ m = 0)) l.length ?_ (by omega) ?_
    · cases l with
      | nil => exact .inr ⟨rfl, rfl⟩
      | cons a l => exact .inl ⟨1, by omega, by simp, rfl, by simp⟩
    · rintro m x (⟨i, h1, h2, rfl, rfl⟩ | ⟨rfl, rfl⟩)
      · show Ok (B195_0 (l ++ [d]) 0 ((l.length + 1 : Nat) : Int) i) _
        unfold B195_0
        rw [iLt_y (by omega), sel_t]
        by_cases h3 : i < l.length
        · rw [L195_st hl hs (by omega) h3, bnd_s, ok_some]
          refine ⟨l.length + 1 - (i + 1), by omega, .inl ⟨i + 1, by omega, by omega, ?_, rfl⟩⟩
          dsimp only
          rw [add_n (by omega) (by omega)]
          rfl
        · obtain rfl : i = l.length := by omega
          rw [L195_in hl hs, bnd_s, ok_some]
          refine ⟨0, by omega, .inr ⟨?_, rfl⟩⟩
          dsimp only
          rw [add_n (by omega) (by omega)]
          rfl
      · show Ok (B195_0 (ins d l) 0 ((l.length + 1 : Nat) : Int) ((l.length + 1 : Nat) : Int)) _
        unfold B195_0
        rw [iLt_f (by omega), sel_f, ok_some]
  rw [ok_is] at key
  unfold F195
  have e1 : iAdd .i64 0 1 = 1 := rfl
  rw [e1, key]
  rfl
theorem bits_len : ∀ n : Nat, n ≤ 12 → ∃ y, F126 (iCv .u64 (n : Int)) = some y := by
  have h : (List.range 13).all (fun n => (F126 (iCv .u64 (n : Int))).isSome) = true := by kernel_rfl
  intro n hn
  have := List.all_eq_true.1 h n (List.mem_range.2 (by omega))
  exact Option.isSome_iff_exists.1 this
theorem F140_eq {l : List DE} {d : DE} (hl : l.length ≤ 11) (hs : srt l) : F140 (l ++ [d]) = some (ins d l) := by
  have hL : lLen (l ++ [d]) = ((l.length + 1 : Nat) : Int) := by unfold lLen; simp
  obtain ⟨y, hy⟩ := bits_len (l.length + 1) (by omega)
  unfold F140
  rw [hL, hy, bnd_s]
  unfold F176
  have : L176_0 (l ++ [d], (0, (((l.length + 1 : Nat) : Int), (y, (true, true))))) = some (ins d l) := by
    refine iter_e (n := 9999999) ?_
    show B176_0 (l ++ [d]) 0 ((l.length + 1 : Nat) : Int) y true true = _
    unfold B176_0
    rw [sub_n (by omega) (by omega), iLe_y (by omega), sel_t, F195_eq (by omega) hs]
    rfl
  rw [this]
  rfl
theorem F85_eq {l : List DE} {d : DE} (s : List SEG) (n : Int) (q : List (Int × Int)) (hl : l.length ≤ 11) (hs : srt l) : F85 s n l q d = some (s, (n, (ins d l, q))) := by
  unfold F85
  rw [lCap_y (by decide) (by decide) (by simp [lApp]; omega), sel_t]
  show bndS (F140 (l ++ [d])) _ = _
  rw [F140_eq hl hs]
  rfl
theorem F85_1_eq (d : DE) (s : List SEG) (n : Int) (q : List (Int × Int)) : F85_1 s n q d = some (s, (n, ([d], q))) := by
  unfold F85_1
  rw [lCap_y (by decide) (by decide) (by simp), sel_t]
  have h : F140 [d] = some [d] := F140_eq (l := []) (d := d) (by simp) List.Pairwise.nil
  rw [h]
  rfl
end Go.Proofs.YtiddpfhpmodfbaaGreatDoor.K
end

section
set_option linter.unusedVariables false
set_option linter.unusedSimpArgs false
set_option linter.unnecessarySimpa false
open Go Go.Ev
namespace Go.Proofs.YtiddpfhpmodfbaaGreatDoor.K
end Go.Proofs.YtiddpfhpmodfbaaGreatDoor.K
end

section
set_option linter.unusedVariables false
set_option linter.unusedSimpArgs false
set_option linter.unnecessarySimpa false
open Go Go.Ev
namespace Go.Proofs.YtiddpfhpmodfbaaGreatDoor.K
theorem at_full (x : SYS) (n : NAM) (hl : x.2.1.length ≤ 1000) : (∃ i : Nat, i < x.2.1.length ∧ (lAt x.2.1 (i : Int)).1 = n ∧ F82 x n = some (i : Int) ∧ F45 x n = some (i : Int)) ∨ ((∀ d, d ∈ x.2.1 → d.1 ≠ n) ∧ F82 x n = some (-1) ∧ F45 x n = some (-1)) := by
  have hll : lLen x.2.1 = (x.2.1.length : Int) := rfl
  have hc : ∀ k : Nat, (bAnd (sEq (lAt x.2.1 (k : Int)).1.1 n.1) (bAnd (sEq (lAt x.2.1 (k : Int)).1.2.1 n.2.1) (iEq (lAt x.2.1 (k : Int)).1.2.2 n.2.2)) = true) = ((lAt x.2.1 (k : Int)).1.1 = n.1 ∧ (lAt x.2.1 (k : Int)).1.2.1 = n.2.1 ∧ (lAt x.2.1 (k : Int)).1.2.2 = n.2.2) := fun k => by rw [and_t, and_t, sEq_t, sEq_t, iEq_t]
  have hA : (∃ i, i < x.2.1.length ∧ ((lAt x.2.1 (i : Int)).1.1 = n.1 ∧ (lAt x.2.1 (i : Int)).1.2.1 = n.2.1 ∧ (lAt x.2.1 (i : Int)).1.2.2 = n.2.2) ∧ (∀ k, k < i → ¬ ((lAt x.2.1 (k : Int)).1.1 = n.1 ∧ (lAt x.2.1 (k : Int)).1.2.1 = n.2.1 ∧ (lAt x.2.1 (k : Int)).1.2.2 = n.2.2)) ∧ L113_0_1 ((n.1, (n.2.1, n.2.2)), (x.2.1, (lLen x.2.1, 0))) = some (.inr ((n.1, (n.2.1, n.2.2)), (i : Int)))) ∨ ((∀ i, i < x.2.1.length → ¬ ((lAt x.2.1 (i : Int)).1.1 = n.1 ∧ (lAt x.2.1 (i : Int)).1.2.1 = n.2.1 ∧ (lAt x.2.1 (i : Int)).1.2.2 = n.2.2)) ∧ L113_0_1 ((n.1, (n.2.1, n.2.2)), (x.2.1, (lLen x.2.1, 0))) = some (Sum.inl (n.1, (n.2.1, n.2.2)))) := by
    refine iter_first (fun i => ((n.1, (n.2.1, n.2.2)), (x.2.1, (lLen x.2.1, (i : Int))))) (fun i => (lAt x.2.1 (i : Int)).1.1 = n.1 ∧ (lAt x.2.1 (i : Int)).1.2.1 = n.2.1 ∧ (lAt x.2.1 (i : Int)).1.2.2 = n.2.2) x.2.1.length (fun i => Sum.inr ((n.1, (n.2.1, n.2.2)), (i : Int))) (Sum.inl (n.1, (n.2.1, n.2.2))) (by omega) ?_ ?_ ?_
    · intro i hi hp
      show B113_0_1 n.1 n.2.1 n.2.2 x.2.1 (lLen x.2.1) i = some (.inl ((n.1, (n.2.1, n.2.2)), (x.2.1, (lLen x.2.1, ((i + 1 : Nat) : Int)))))
      have w : bAnd (sEq (lAt x.2.1 (i : Int)).1.1 n.1) (bAnd (sEq (lAt x.2.1 (i : Int)).1.2.1 n.2.1) (iEq (lAt x.2.1 (i : Int)).1.2.2 n.2.2)) = false := by rw [bf_t, hc]; exact hp
      unfold B113_0_1 F136
      rw [iLt_y (by omega), sel_t, oIn_y (by omega), sel_t, let_s, w, sel_f, add_n (by omega) (by omega)]
      rfl
    · intro i hi hp
      have w : bAnd (sEq (lAt x.2.1 (i : Int)).1.1 n.1) (bAnd (sEq (lAt x.2.1 (i : Int)).1.2.1 n.2.1) (iEq (lAt x.2.1 (i : Int)).1.2.2 n.2.2)) = true := by rw [hc]; exact hp
      show B113_0_1 n.1 n.2.1 n.2.2 x.2.1 (lLen x.2.1) i = _
      unfold B113_0_1 F136
      rw [iLt_y (by omega), sel_t, oIn_y (by omega), sel_t, let_s, w, sel_t]
    · show B113_0_1 n.1 n.2.1 n.2.2 x.2.1 (lLen x.2.1) x.2.1.length = _
      unfold B113_0_1
      rw [iLt_f (by omega), sel_f]
  have hB : (∃ i, i < x.2.1.length ∧ ((lAt x.2.1 (i : Int)).1.1 = n.1 ∧ (lAt x.2.1 (i : Int)).1.2.1 = n.2.1 ∧ (lAt x.2.1 (i : Int)).1.2.2 = n.2.2) ∧ (∀ k, k < i → ¬ ((lAt x.2.1 (k : Int)).1.1 = n.1 ∧ (lAt x.2.1 (k : Int)).1.2.1 = n.2.1 ∧ (lAt x.2.1 (k : Int)).1.2.2 = n.2.2)) ∧ L45_0 (osy x, ((n.1, (n.2.1, n.2.2)), 0)) = some (.inr (i : Int))) ∨ ((∀ i, i < x.2.1.length → ¬ ((lAt x.2.1 (i : Int)).1.1 = n.1 ∧ (lAt x.2.1 (i : Int)).1.2.1 = n.2.1 ∧ (lAt x.2.1 (i : Int)).1.2.2 = n.2.2)) ∧ L45_0 (osy x, ((n.1, (n.2.1, n.2.2)), 0)) = some (Sum.inl ())) := by
    refine iter_first (fun i => (osy x, ((n.1, (n.2.1, n.2.2)), (i : Int)))) (fun i => (lAt x.2.1 (i : Int)).1.1 = n.1 ∧ (lAt x.2.1 (i : Int)).1.2.1 = n.2.1 ∧ (lAt x.2.1 (i : Int)).1.2.2 = n.2.2) x.2.1.length (fun i => Sum.inr (i : Int)) (Sum.inl ()) (by omega) ?_ ?_ ?_
    · intro i hi hp
      show B45_0 x.1.1 x.1.2 x.2.1 x.2.2 n.1 n.2.1 n.2.2 i = some (.inl (osy x, ((n.1, (n.2.1, n.2.2)), ((i + 1 : Nat) : Int))))
      have w : bAnd (sEq (lAt x.2.1 (i : Int)).1.1 n.1) (bAnd (sEq (lAt x.2.1 (i : Int)).1.2.1 n.2.1) (iEq (lAt x.2.1 (i : Int)).1.2.2 n.2.2)) = false := by rw [bf_t, hc]; exact hp
      unfold B45_0
      rw [iLt_y (by omega), sel_t, oIn_y (by omega), sel_t, w, sel_f, add_n (by omega) (by omega)]
      rfl
    · intro i hi hp
      have w : bAnd (sEq (lAt x.2.1 (i : Int)).1.1 n.1) (bAnd (sEq (lAt x.2.1 (i : Int)).1.2.1 n.2.1) (iEq (lAt x.2.1 (i : Int)).1.2.2 n.2.2)) = true := by rw [hc]; exact hp
      show B45_0 x.1.1 x.1.2 x.2.1 x.2.2 n.1 n.2.1 n.2.2 i = _
      unfold B45_0
      rw [iLt_y (by omega), sel_t, oIn_y (by omega), sel_t, w, sel_t]
    · show B45_0 x.1.1 x.1.2 x.2.1 x.2.2 n.1 n.2.1 n.2.2 x.2.1.length = _
      unfold B45_0
      rw [iLt_f (by omega), sel_f]
  unfold F82 F113_1 F45
  show (∃ i : Nat, _ ∧ _ ∧ _ ∧ bndS (L45_0 (osy x, ((n.1, (n.2.1, n.2.2)), 0))) _ = _) ∨ (_ ∧ _ ∧ bndS (L45_0 (osy x, ((n.1, (n.2.1, n.2.2)), 0))) _ = _)
  rcases hA with ⟨i, i1, i2, i3, e⟩ | ⟨i1, e⟩ <;> rcases hB with ⟨j, j1, j2, j3, e'⟩ | ⟨j1, e'⟩
  · obtain rfl := first_uniq i2 i3 j2 j3
    rw [e, e']
    exact .inl ⟨i, i1, Prod.ext i2.1 (Prod.ext i2.2.1 i2.2.2), rfl, rfl⟩
  · exact absurd i2 (j1 i i1)
  · exact absurd j2 (i1 j j1)
  · rw [e, e']
    refine .inr ⟨fun d hd he => ?_, rfl, rfl⟩
    obtain ⟨k, hk, rfl⟩ := mem_lAt hd
    exact i1 k hk ⟨by rw [he], by rw [he], by rw [he]⟩
/-- A right directory. -/
structure okD (s : STO) (l : List DE) : Prop where
  nm : ∀ d, d ∈ l → nmE d.1 = 0
  sg : ∀ d, d ∈ l → 1 ≤ d.2.1 ∧ d.2.1 ≤ s.2 - 1
  dm : ∀ d, d ∈ l → 0 ≤ d.2.2 ∧ d.2.2 ≤ 3
  ord : srt l
  dbl : l.Pairwise (fun a b => a.2.1 ≠ b.2.1)
theorem before_bf (x : SYS) (i : Nat) : before x (i : Int) = bf (lAt x.2.1 ((i : Int) - 1)).1 (lAt x.2.1 (i : Int)).1 := by
  unfold before; rw [F115_bf]; rfl
theorem okD_of {x : SYS} (h : okX x) : okD x.1 x.2.1 := by
  have key : ∀ i, i < x.2.1.length → nmE (lAt x.2.1 (i : Int)).1 = 0 ∧ ¬ (0 < i ∧ before x (i : Int) = false) ∧ ((1 ≤ (lAt x.2.1 (i : Int)).2.1 ∧ (lAt x.2.1 (i : Int)).2.1 ≤ x.1.2 - 1) ∧ (0 ≤ (lAt x.2.1 (i : Int)).2.2 ∧ (lAt x.2.1 (i : Int)).2.2 ≤ 3)) ∧ ¬ ∃ k, k < i ∧ (lAt x.2.1 (k : Int)).2.1 = (lAt x.2.1 (i : Int)).2.1 := fun i hi => by
    have := h.ent i hi
    unfold entE at this
    split at this
    · rename_i hn; exact absurd this hn
    · rename_i h1
      split at this
      · cases this
      · rename_i h2
        split at this
        · cases this
        · rename_i h3
          split at this
          · cases this
          · rename_i h4
            exact ⟨Classical.not_not.1 h1, h2, Classical.not_not.1 h3, h4⟩
  refine ⟨fun d hd => ?_, fun d hd => ?_, fun d hd => ?_, ?_, ?_⟩
  · obtain ⟨i, hi, rfl⟩ := mem_lAt hd; exact (key i hi).1
  · obtain ⟨i, hi, rfl⟩ := mem_lAt hd; exact (key i hi).2.2.1.1
  · obtain ⟨i, hi, rfl⟩ := mem_lAt hd; exact (key i hi).2.2.1.2
  · have st : ∀ i, 0 < i → i < x.2.1.length → bf (lAt x.2.1 ((i - 1 : Nat) : Int)).1 (lAt x.2.1 (i : Int)).1 = true := fun i h0 hi => by
      have := (key i hi).2.1
      rw [before_bf, show ((i : Int) - 1) = ((i - 1 : Nat) : Int) by omega] at this
      cases hb : bf (lAt x.2.1 ((i - 1 : Nat) : Int)).1 (lAt x.2.1 (i : Int)).1 with
      | true => rfl
      | false => exact absurd ⟨h0, hb⟩ this
    have adj : ∀ d i, i + d + 1 < x.2.1.length → bf (lAt x.2.1 (i : Int)).1 (lAt x.2.1 ((i + d + 1 : Nat) : Int)).1 = true := fun d => by
      induction d with
      | zero => intro i hi; exact st (i + 1) (by omega) hi
      | succ d ih =>
        intro i hi
        exact bf_trans (ih i (by omega)) (st (i + (d + 1) + 1) (by omega) hi)
    unfold srt
    rw [List.pairwise_iff_getElem]
    intro i j hi hj hij
    have := adj (j - i - 1) i (by omega)
    rw [show i + (j - i - 1) + 1 = j by omega, lAt_lt hi, lAt_lt hj] at this
    exact this
  · rw [List.pairwise_iff_getElem]
    intro i j hi hj hij he
    refine (key j hj).2.2.2 ⟨i, hij, ?_⟩
    rw [lAt_lt hi, lAt_lt hj]; exact he
theorem okX_of {x : SYS} (h1 : okL x.1) (h2 : okD x.1 x.2.1) (h3 : x.2.1.length ≤ 12) (h4 : ∀ i, i < x.2.2.length → lostE x i = 0) : okX x := by
  refine ⟨okS_of h1, h3, fun i hi => ?_, h4⟩
  have hm := lAt_mem hi
  unfold entE
  rw [if_neg (fun hc => hc (h2.nm _ hm)), if_neg (fun hc => ?_), if_neg (fun hc => hc ⟨h2.sg _ hm, h2.dm _ hm⟩), if_neg]
  · rintro ⟨k, hk, he⟩
    have := (List.pairwise_iff_getElem.1 h2.dbl) k i (by omega) hi hk
    rw [lAt_lt hi, lAt_lt (by omega : k < x.2.1.length)] at he
    exact this he
  · have hb := (List.pairwise_iff_getElem.1 h2.ord) (i - 1) i (by omega) hi (by omega)
    rw [before_bf, show ((i : Int) - 1) = ((i - 1 : Nat) : Int) by omega, lAt_lt hi, lAt_lt (by omega : i - 1 < x.2.1.length), hb] at hc
    cases hc.2
/-- A right system is found right. -/
theorem sys_check {x : SYS} (h : okX x) (hl : x.2.2.length ≤ 1000) : F19 x = some (0, 0) ∧ F21 x = some (0, 0) := by
  have hL := okL_of h.st
  have hd := h.dir
  unfold F19 F21
  rw [hL.check.1, hL.check.2, bnd_s, bnd_s, iEq_y rfl, nt, sel_f, sel_f, iLt_f (by unfold lLen; omega), sel_f, sel_f]
  show bndS (L19_0 (osy x, (x.2.1, (lLen x.2.1, 0)))) _ = _ ∧ bndS (L21_0 (osy x, 0)) _ = _
  rcases dir_two x (by omega) hL.nx with ⟨i, hi, hp, e3, e4⟩ | ⟨hent, e3, e4⟩
  · exact absurd (h.ent i hi) hp
  rw [e3, e4, bnd_s, bnd_s]
  dsimp only [sumS]
  show bndS (L19_3 (osy x, (x.2.2, (lLen x.2.2, 0)))) _ = _ ∧ _
  rcases lost_two x hL.few (by omega) with ⟨i, hi, hp, e5, e6⟩ | ⟨hlos, e5, e6⟩
  · exact absurd (h.los i hi) hp
  · rw [e5, e6]; exact ⟨rfl, rfl⟩
theorem okL.new {s : STO} (h : okL s) (hl : s.1.length ≤ 9) (hn : s.2 ≤ 1000) {z : ByteArray} {p : Int} (hp : 1 ≤ p ∧ p ≤ 8) (hz : sLen z = 32 * p) : okL (s.1 ++ [(s.2, z)], s.2 + 1) := by
  have hx := h.nx
  refine ⟨by simp; omega, by dsimp only; omega, fun g hg => ?_, ?_⟩
  · rcases List.mem_append.1 hg with h1 | h1
    · have := h.sg g h1
      dsimp only
      omega
    · rw [List.mem_singleton.1 h1]
      dsimp only
      omega
  · refine List.pairwise_append.2 ⟨h.ord, List.pairwise_singleton .., fun a ha b hb => ?_⟩
    rw [List.mem_singleton.1 hb]
    have := (h.sg a ha).1
    dsimp only
    omega
abbrev flt (l : List (Int × Int)) (n : Int) : List (Int × Int) := l.filter (fun g => decide (¬ g.1 = n))
end Go.Proofs.YtiddpfhpmodfbaaGreatDoor.K
end

section
set_option linter.unusedVariables false
set_option linter.unusedSimpArgs false
set_option linter.unnecessarySimpa false
open Go Go.Ev
namespace Go.Proofs.YtiddpfhpmodfbaaGreatDoor.K
/-- Three digits. -/
def d3 (k : Nat) : ByteArray := sOf [48 + ((k / 100 % 10 : Nat) : Int), 48 + ((k / 10 % 10 : Nat) : Int), 48 + ((k % 10 : Nat) : Int)]
def digOK (k : Nat) : Bool := match F151 k, F152 (1000 + k) with
  | some s, some t => match FRepeat (bs [48]) (sel (iLt 0 (iSub .i64 3 (sLen s))) (iSub .i64 3 (sLen s)) 0) with
    | some r => sEq (sAdd r s) (d3 k) && (sEq (sCut t 1 (sLen t)) (d3 k) && (oCut 1 (sLen t) (sLen t) && (iLe (sLen r) 3 && iLe (sLen s) 3)))
    | none => false
  | _, _ => false
theorem dig {k : Nat} (h : k ≤ 40) : ∃ s r t, F151 (k : Int) = some s ∧ FRepeat (bs [48]) (sel (iLt 0 (iSub .i64 3 (sLen s))) (iSub .i64 3 (sLen s)) 0) = some r ∧ F152 (1000 + (k : Int)) = some t ∧ sAdd r s = d3 k ∧ sCut t 1 (sLen t) = d3 k ∧ oCut 1 (sLen t) (sLen t) = true ∧ sLen r ≤ 3 ∧ sLen s ≤ 3 := by
  have h1 : (List.range 41).all digOK = true := by kernel_rfl
  have h2 := List.all_eq_true.1 h1 k (List.mem_range.2 (by omega))
  unfold digOK at h2
  split at h2
  · rename_i s t hs ht
    split at h2
    · rename_i r hr
      simp only [Bool.and_eq_true, sEq_t, iLe_t] at h2
      exact ⟨s, r, t, hs, hr, ht, h2.1, h2.2.1, h2.2.2.1, h2.2.2.2⟩
    · cases h2
  · cases h2
def m7 (n : NAM) : Int := sel (iLt 7 (sLen n.2.1)) 7 (sLen n.2.1)
theorem m7_le (n : NAM) : 0 ≤ m7 n ∧ m7 n ≤ sLen n.2.1 ∧ m7 n ≤ 7 := by
  have := sLen_nn n.2.1
  unfold m7
  by_cases h : 7 < sLen n.2.1
  · rw [iLt_y h, sel_t]; omega
  · rw [iLt_f h, sel_f]; omega
/-- The names in their order. -/
def nmk (n : NAM) (k : Nat) : NAM := (bs [81, 82, 67, 76], ((if k = 0 then n.2.1 else sAdd (sCut n.2.1 0 (m7 n)) (d3 k)), n.2.2))
def isin (l : List DE) (n : NAM) : Prop := ∃ d, d ∈ l ∧ d.1 = n
open Classical in
noncomputable def frec (l : List DE) (n : NAM) : Nat → Nat → NAM
  | k, 0 => nmk n k
  | k, f + 1 => if isin l (nmk n k) then frec l n (k + 1) f else nmk n k
noncomputable def fre (l : List DE) (n : NAM) : NAM := frec l n 0 40
theorem frec_at {l : List DE} {n : NAM} {j : Nat} (hj : ¬ isin l (nmk n j)) : ∀ (f k : Nat), k ≤ j → j - k ≤ f → (∀ i, k ≤ i → i < j → isin l (nmk n i)) → frec l n k f = nmk n j
  | 0, k, h1, h2, _ => by rw [show j = k by omega]; rfl
  | f + 1, k, h1, h2, h3 => by
    unfold frec
    by_cases h : k = j
    · rw [h, if_neg hj]
    · rw [if_pos (h3 k (Nat.le_refl _) (by omega))]
      exact frec_at hj f (k + 1) (by omega) (by omega) (fun i h4 h5 => h3 i (by omega) h5)
theorem d3_by (k : Nat) : sBy (d3 k) = [48 + ((k / 100 % 10 : Nat) : Int), 48 + ((k / 10 % 10 : Nat) : Int), 48 + ((k % 10 : Nat) : Int)] := by
  unfold d3
  rw [by_sOf]
  intro b hb
  simp only [List.mem_cons, List.not_mem_nil, or_false] at hb
  omega
theorem nmk_inj {n : NAM} {i j : Nat} (hi : 0 < i) (hj : 0 < j) (hi2 : i < 1000) (hj2 : j < 1000) (h : nmk n i = nmk n j) : i = j := by
  unfold nmk at h
  rw [if_neg (by omega), if_neg (by omega)] at h
  have h1 := congrArg (fun x : NAM => sBy x.2.1) h
  dsimp only at h1
  rw [by_add, by_add, d3_by, d3_by] at h1
  have h2 := List.append_cancel_left h1
  simp only [List.cons.injEq, and_true] at h2
  omega
/-- More names than entries: one is free. -/
theorem pigeon {α : Type} : ∀ (l : List α) (f : Nat → α) (m : Nat), l.length ≤ m → (∀ i j, i ≤ m → j ≤ m → f i = f j → i = j) → ∃ i, i ≤ m ∧ ¬ f i ∈ l
  | [], f, m, _, _ => ⟨0, by omega, fun h => by cases h⟩
  | a :: l, f, 0, h, _ => by simp at h
  | a :: l, f, m + 1, h, hi => by
    have h : l.length ≤ m := by simpa using h
    by_cases ha : ∃ i, i ≤ m + 1 ∧ f i = a
    · obtain ⟨i0, h1, h2⟩ := ha
      obtain ⟨i, hi1, hi2⟩ := pigeon l (fun i => if i < i0 then f i else f (i + 1)) m h (fun i j h3 h4 h5 => by
        split at h5 <;> split at h5
        · exact hi i j (by omega) (by omega) h5
        · have := hi i (j + 1) (by omega) (by omega) h5; omega
        · have := hi (i + 1) j (by omega) (by omega) h5; omega
        · have := hi (i + 1) (j + 1) (by omega) (by omega) h5; omega)
      split at hi2
      · refine ⟨i, by omega, fun h5 => ?_⟩
        rcases List.mem_cons.1 h5 with h5 | h5
        · have := hi i i0 (by omega) h1 (h5.trans h2.symm); omega
        · exact hi2 h5
      · refine ⟨i + 1, by omega, fun h5 => ?_⟩
        rcases List.mem_cons.1 h5 with h5 | h5
        · have := hi (i + 1) i0 (by omega) h1 (h5.trans h2.symm); omega
        · exact hi2 h5
    · obtain ⟨i, hi1, hi2⟩ := pigeon l f m h (fun i j h3 h4 h5 => hi i j (by omega) (by omega) h5)
      refine ⟨i, by omega, fun h5 => ?_⟩
      rcases List.mem_cons.1 h5 with h5 | h5
      · exact ha ⟨i, by omega, h5⟩
      · exact hi2 h5
theorem fre_at (l : List DE) (n : NAM) (hl : l.length ≤ 30) : ∃ j, j ≤ 31 ∧ ¬ isin l (nmk n j) ∧ (∀ i, i < j → isin l (nmk n i)) ∧ fre l n = nmk n j := by
  have h1 : ∃ j, j ≤ 31 ∧ ¬ isin l (nmk n j) := by
    obtain ⟨i, hi, h2⟩ := pigeon (l.map (fun d => d.1)) (fun i => nmk n (i + 1)) 30 (by rw [List.length_map]; exact hl) (fun i j h3 h4 h5 => by
      have := nmk_inj (n := n) (i := i + 1) (j := j + 1) (by omega) (by omega) (by omega) (by omega) h5
      omega)
    refine ⟨i + 1, by omega, fun ⟨d, hd, he⟩ => h2 ?_⟩
    exact List.mem_map.2 ⟨d, hd, he⟩
  obtain ⟨J, hJ, hJ2⟩ := h1
  have h2 : ∀ m k, J - k = m → k ≤ J → (∀ i, i < k → isin l (nmk n i)) → ∃ j, j ≤ 31 ∧ ¬ isin l (nmk n j) ∧ (∀ i, i < j → isin l (nmk n i)) := by
    intro m
    induction m with
    | zero => intro k h3 h4 h5; obtain rfl : k = J := by omega
              exact ⟨k, hJ, hJ2, h5⟩
    | succ m ih =>
      intro k h3 h4 h5
      by_cases h6 : isin l (nmk n k)
      · exact ih (k + 1) (by omega) (by omega) (fun i h7 => by
          by_cases h8 : i = k
          · rw [h8]; exact h6
          · exact h5 i (by omega))
      · exact ⟨k, by omega, h6, h5⟩
  obtain ⟨j, h3, h4, h5⟩ := h2 J 0 (by omega) (by omega) (fun i h => by omega)
  exact ⟨j, h3, h4, h5, frec_at h4 40 0 (by omega) (by omega) (fun i _ h => h5 i h)⟩
theorem sAdd_assoc (a b c : ByteArray) : sAdd (sAdd a b) c = sAdd a (sAdd b c) := by
  apply by_inj; rw [by_add, by_add, by_add, by_add, List.append_assoc]
theorem free_two (s : STO) (l : List DE) (q : List (Int × Int)) (n : NAM) (hl : l.length ≤ 30) (hn : sLen n.2.1 ≤ 100) : F99 (s, (l, q)) n = some (fre l n) ∧ F100 (s, (l, q)) n = some (fre l n) := by
  obtain ⟨j, h1, h2, h3, h4⟩ := fre_at l n hl
  have hm := m7_le n
  have hnn := sLen_nn n.2.1
  have key : ∃ r t, L99_0 ((s.1, (s.2, (l, q))), (nmk n 0, ((bs [], (bs [], 0)), (sCut n.2.1 0 (m7 n), 1)))) = some r ∧ L100_0 ((s.1, (s.2, (l, q))), (nmk n 0, ((bs [], (bs [], 0)), (n.2.1, 1)))) = some t ∧ (r.1 = nmk n j ∧ t.1 = nmk n j) := by
    refine loop_two (fun m x y => ∃ k : Nat, k ≤ j ∧ x = ((s.1, (s.2, (l, q))), (nmk n k, ((bs [], (bs [], (0 : Int))), (sCut n.2.1 0 (m7 n), ((k + 1 : Nat) : Int))))) ∧ y = ((s.1, (s.2, (l, q))), (nmk n k, ((bs [], (bs [], (0 : Int))), (n.2.1, ((k + 1 : Nat) : Int))))) ∧ m = j - k) j ⟨0, by omega, rfl, rfl, rfl⟩ (by omega) ?_
    rintro m x y ⟨k, hk, rfl, rfl, rfl⟩
    by_cases hkj : k = j
    · subst hkj
      refine .inr ⟨(nmk n k, (bs [], (bs [], 0))), (nmk n k, (bs [], (bs [], 0))), ?_, ?_, rfl, rfl⟩
      · show B99_0 s.1 s.2 l q (nmk n k).1 (nmk n k).2.1 (nmk n k).2.2 (bs []) (bs []) 0 (sCut n.2.1 0 (m7 n)) ((k + 1 : Nat) : Int) = _
        unfold B99_0
        rcases at_full (s, (l, q)) (nmk n k) (by dsimp only; omega) with ⟨i, i1, i2, _, _⟩ | ⟨_, e1, e2⟩
        · exact absurd ⟨_, lAt_mem i1, i2⟩ h2
        · show bndS (F82 (s, (l, q)) (nmk n k)) _ = _
          rw [e1, bnd_s, iLe_f (by omega), sel_f]
      · show B100_0 s.1 s.2 l q (nmk n k).1 (nmk n k).2.1 (nmk n k).2.2 (bs []) (bs []) 0 n.2.1 ((k + 1 : Nat) : Int) = _
        unfold B100_0
        rcases at_full (s, (l, q)) (nmk n k) (by dsimp only; omega) with ⟨i, i1, i2, _, _⟩ | ⟨_, e1, e2⟩
        · exact absurd ⟨_, lAt_mem i1, i2⟩ h2
        · show bndS (F45 (s, (l, q)) (nmk n k)) _ = _
          rw [e2, bnd_s, iEq_y rfl, nt, sel_f]
    · have hin := h3 k (by omega)
      obtain ⟨sd, rd, td, g1, g2, g3, g4, g5, g6, g7, g8⟩ := dig (k := k + 1) (by omega)
      have ez : nmk n (k + 1) = (bs [81, 82, 67, 76], (sAdd (sCut n.2.1 0 (m7 n)) (d3 (k + 1)), n.2.2)) := by unfold nmk; rw [if_neg (by omega)]
      have hc := scut_len n.2.1 (a := 0) (b := m7 n) (by omega) hm.1 hm.2.1
      have hk1 : iAdd .i64 ((k + 1 : Nat) : Int) 1 = ((k + 1 + 1 : Nat) : Int) := by rw [add_n (by omega) (by omega)]; omega
      refine .inl ⟨j - (k + 1), _, _, by omega, ?_, ?_, k + 1, by omega, rfl, rfl, rfl⟩
      · show B99_0 s.1 s.2 l q (nmk n k).1 (nmk n k).2.1 (nmk n k).2.2 (bs []) (bs []) 0 (sCut n.2.1 0 (m7 n)) ((k + 1 : Nat) : Int) = _
        unfold B99_0
        rcases at_full (s, (l, q)) (nmk n k) (by dsimp only; omega) with ⟨i, i1, i2, e1, e2⟩ | ⟨i1, _, _⟩
        · show bndS (F82 (s, (l, q)) (nmk n k)) _ = _
          rw [e1, bnd_s, iLe_y (by omega), sel_t, g1, bnd_s, g2, bnd_s, sOk_n (by omega), sel_t, sOk_n (by rw [sadd_len]; omega), sel_t, sAdd_assoc, g4, hk1, ez]
          rfl
        · obtain ⟨d, hd, he⟩ := hin
          exact absurd he (i1 d hd)
      · show B100_0 s.1 s.2 l q (nmk n k).1 (nmk n k).2.1 (nmk n k).2.2 (bs []) (bs []) 0 n.2.1 ((k + 1 : Nat) : Int) = _
        unfold B100_0
        rcases at_full (s, (l, q)) (nmk n k) (by dsimp only; omega) with ⟨i, i1, i2, e1, e2⟩ | ⟨i1, _, _⟩
        · show bndS (F45 (s, (l, q)) (nmk n k)) _ = _
          have ok : sOk (sCut n.2.1 0 (m7 n)) (d3 (k + 1)) = true := sOk_n (by rw [by_len (d3 (k + 1)), d3_by]; simp only [List.length_cons, List.length_nil]; omega)
          have o1 : oCut 0 (m7 n) (sLen n.2.1) = true := oCut_y (by omega)
          rw [e2, bnd_s, iEq_f (by omega), nf, sel_t, add_n (by omega) (by omega), g3, bnd_s]
          have em : sel (iLt 7 (sLen n.2.1)) 7 (sLen n.2.1) = m7 n := rfl
          rw [em, o1, sel_t, g6, sel_t, g5, ok, sel_t, hk1, ez]
          rfl
        · obtain ⟨d, hd, he⟩ := hin
          exact absurd he (i1 d hd)
  obtain ⟨r, t, l1, l2, r1, t1⟩ := key
  unfold F99 F100
  rw [h4]
  constructor
  · show sel (oCut 0 (m7 n) (sLen n.2.1)) (bndS (L99_0 ((s.1, (s.2, (l, q))), (nmk n 0, ((bs [], (bs [], 0)), (sCut n.2.1 0 (m7 n), 1))))) fun y0 => some y0.1) none = _
    rw [oCut_y (by omega), sel_t, l1, bnd_s, r1]
  · show bndS (L100_0 ((s.1, (s.2, (l, q))), (nmk n 0, ((bs [], (bs [], 0)), (n.2.1, 1))))) (fun y0 => some y0.1) = _
    rw [l2, bnd_s, t1]
theorem nmE_parts {n : NAM} (h : nmE n = 0) : (nmOK (sBy n.1) = true ∧ nmOK (sBy n.2.1) = true) ∧ (0 ≤ n.2.2 ∧ n.2.2 ≤ 29) := by
  unfold nmE at h
  split at h
  · rename_i h1
    split at h
    · rename_i h2; exact ⟨h1, h2⟩
    · cases h
  · cases h
theorem nmOK_len {s : ByteArray} (hs : nmOK (sBy s) = true) : 1 ≤ sLen s ∧ sLen s ≤ 10 := by
  unfold nmOK at hs
  rw [Bool.and_eq_true, decide_eq_true_eq] at hs
  rw [by_len]
  omega
theorem nmOK_iff {l : List Int} : nmOK l = true ↔ (1 ≤ l.length ∧ l.length ≤ 10) ∧ ∀ i, i < l.length → nmCh i ((l[i]?).getD 0) = true := by
  unfold nmOK
  rw [Bool.and_eq_true, decide_eq_true_eq, List.all_eq_true]
  refine and_congr Iff.rfl ⟨fun h i hi => h i (by rw [List.mem_range'_1]; omega), fun h i hi => h i (by rw [List.mem_range'_1] at hi; omega)⟩
theorem digit_ch {i : Nat} {c : Int} (hi : i ≠ 0) (hc : 48 ≤ c ∧ c ≤ 57) : nmCh i c = true := by
  unfold nmCh
  have h1 : decide (i ≠ 0) = true := decide_eq_true hi
  have h2 : decide (c = 95 ∨ c = 46 ∨ (48 ≤ c ∧ c ≤ 57)) = true := decide_eq_true (Or.inr (Or.inr hc))
  rw [h1, h2]
  exact Bool.or_true _
theorem d3_digit (k j : Nat) (hj : j < 3) : 48 ≤ ((sBy (d3 k))[j]?).getD 0 ∧ ((sBy (d3 k))[j]?).getD 0 ≤ 57 := by
  rw [d3_by]
  match j, hj with
  | 0, _ => show 48 ≤ 48 + ((k / 100 % 10 : Nat) : Int) ∧ 48 + ((k / 100 % 10 : Nat) : Int) ≤ 57; omega
  | 1, _ => show 48 ≤ 48 + ((k / 10 % 10 : Nat) : Int) ∧ 48 + ((k / 10 % 10 : Nat) : Int) ≤ 57; omega
  | 2, _ => show 48 ≤ 48 + ((k % 10 : Nat) : Int) ∧ 48 + ((k % 10 : Nat) : Int) ≤ 57; omega
theorem nmk_ok {n : NAM} (h : nmE n = 0) (k : Nat) : nmE (nmk n k) = 0 := by
  obtain ⟨⟨h1, h2⟩, h3⟩ := nmE_parts h
  have hq : nmOK (sBy (bs [81, 82, 67, 76])) = true := by kernel_rfl
  have hk : nmOK (sBy (nmk n k).2.1) = true := by
    by_cases hk : k = 0
    · rw [hk]; exact h2
    have e : sBy (nmk n k).2.1 = (sBy n.2.1).take (m7 n).toNat ++ sBy (d3 k) := by
      unfold nmk
      dsimp only
      rw [if_neg hk, by_add, by_cut, show (0 : Int).toNat = 0 from rfl, List.drop_zero]
    rw [e, nmOK_iff]
    rw [nmOK_iff] at h2
    have hm := m7_le n
    have hl := by_len n.2.1
    have hm1 : 1 ≤ m7 n := by
      unfold m7
      by_cases h : 7 < sLen n.2.1
      · rw [iLt_y h, sel_t]; omega
      · rw [iLt_f h, sel_f]; omega
    have hL : ((sBy n.2.1).take (m7 n).toNat).length = (m7 n).toNat := by rw [List.length_take]; omega
    have hD : (sBy (d3 k)).length = 3 := by rw [d3_by]; rfl
    rw [List.length_append, hL, hD]
    refine ⟨by omega, fun i hi => ?_⟩
    by_cases hi2 : i < (m7 n).toNat
    · rw [List.getElem?_append_left (by omega), List.getElem?_take, if_pos hi2]
      exact h2.2 i (by omega)
    · rw [List.getElem?_append_right (by omega), hL]
      exact digit_ch (by omega) (d3_digit k _ (by omega))
  unfold nmE
  rw [if_pos ⟨hq, hk⟩]
  exact if_pos h3
theorem fre_ok {l : List DE} {n : NAM} (hl : l.length ≤ 30) (h : nmE n = 0) : nmE (fre l n) = 0 ∧ (fre l n).1 = bs [81, 82, 67, 76] ∧ (fre l n).2.2 = n.2.2 ∧ ∀ d, d ∈ l → d.1 ≠ fre l n := by
  obtain ⟨j, _, h2, _, h4⟩ := fre_at l n hl
  rw [h4]
  exact ⟨nmk_ok h j, rfl, rfl, fun d hd he => h2 ⟨d, hd, he⟩⟩
end Go.Proofs.YtiddpfhpmodfbaaGreatDoor.K
end

section
set_option linter.unusedVariables false
set_option linter.unusedSimpArgs false
set_option linter.unnecessarySimpa false
open Go Go.Ev
namespace Go.Proofs.YtiddpfhpmodfbaaGreatDoor.K
theorem bnd_some {α β : Type} {x : Option α} {k : α → Option β} {y : β} (h : bndS x k = some y) : ∃ a, x = some a ∧ k a = some y := by
  cases x with
  | none => cases h
  | some a => exact ⟨a, rfl, h⟩
theorem grd_some {α : Type} {b : Bool} {x : Option α} {y : α} (h : sel b x none = some y) : b = true ∧ x = some y := by
  cases b
  · cases h
  · exact ⟨rfl, h⟩
theorem hdr_right {a : ByteArray} {r : DE} (h : F16 a = some r) (h0 : r.2.2 = 0) : nmE r.1 = 0 ∧ 1 ≤ r.2.1 ∧ r.2.1 ≤ 8 := by
  unfold F16 at h
  by_cases c1 : sLen a = 32
  rotate_left
  · rw [iEq_f c1, nf, sel_t] at h; cases h; cases h0
  rw [iEq_y c1, nt, sel_f] at h
  obtain ⟨_, h⟩ := grd_some h
  obtain ⟨y0, _, h⟩ := bnd_some h
  obtain ⟨_, h⟩ := grd_some h
  obtain ⟨y1, _, h⟩ := bnd_some h
  obtain ⟨_, h⟩ := grd_some h
  obtain ⟨_, h⟩ := grd_some h
  obtain ⟨_, h⟩ := grd_some h
  obtain ⟨_, h⟩ := grd_some h
  rw [let_s] at h
  obtain ⟨_, h⟩ := grd_some h
  rw [let_s] at h
  obtain ⟨_, h⟩ := grd_some h
  revert h
  generalize bOr (bOr (bOr (bNot (sEq (sCut a 0 4) (bs [42, 79, 66, 74]))) (valS (FContains y0 (bs [32])) false)) (valS (FContains y1 (bs [32])) false)) (bNot (sEq (sCut a 30 (sLen a)) (bs [0, 0]))) = c
  intro h
  cases c with
  | true => rw [sel_t] at h; cases h; cases h0
  | false =>
    rw [sel_f, (nmE_eq _).1, bnd_s] at h
    by_cases hn : nmE (y0, (y1, iCv .i64 (sAt a 4))) = 0
    rotate_left
    · rw [iEq_f hn, nf, sel_t] at h; cases h; exact absurd h0 hn
    rw [iEq_y hn, nt, sel_f, let_s] at h
    cases hw : F51 (iCv .i64 (sAt a 25)) 1 8 with
    | false => rw [hw, nf, sel_t] at h; cases h; cases h0
    | true =>
      rw [hw, nt, sel_f] at h
      have hw' : bAnd (iLe 1 (iCv .i64 (sAt a 25))) (iLe (iCv .i64 (sAt a 25)) 8) = true := hw
      rw [and_t, iLe_t, iLe_t] at hw'
      obtain ⟨_, h⟩ := grd_some h
      obtain ⟨_, h⟩ := grd_some h
      obtain ⟨y6, _, h⟩ := bnd_some h
      cases hs : sEq (sCut a 26 30) y6 with
      | false => rw [hs, nf, sel_t] at h; cases h; cases h0
      | true => rw [hs, nt, sel_f] at h; cases h; exact ⟨hn, hw'⟩
theorem F60_1_eq (n : Int) (b : ByteArray) : F60_1 n b = some ((n, b), false) := by
  have : L113_0_2 ((n, b), (0, 0)) = some (n, b) := iter_e (n := 9999999) rfl
  unfold F60_1 F113_2
  rw [this]
  rfl
theorem F60_2_eq (l : List DE) (n : Int) (b : ByteArray) (hl : l.length ≤ 1000) : ∃ q, F60_2 l n b = some ((l, (n, b)), q) ∧ (q = true ↔ ∃ d, d ∈ l ∧ d.2.1 = n) := by
  have hll : lLen l = (l.length : Int) := rfl
  have hL : (∃ i, i < l.length ∧ (lAt l (i : Int)).2.1 = n ∧ (∀ k, k < i → ¬ (lAt l (k : Int)).2.1 = n) ∧ L113_0_3 ((l, (n, b)), (lLen l, 0)) = some (.inr ((l, (n, b)), (i : Int)))) ∨ ((∀ i, i < l.length → ¬ (lAt l (i : Int)).2.1 = n) ∧ L113_0_3 ((l, (n, b)), (lLen l, 0)) = some (.inl (l, (n, b)))) := by
    refine iter_first (fun i => ((l, (n, b)), (lLen l, (i : Int)))) (fun i => (lAt l (i : Int)).2.1 = n) l.length (fun i => Sum.inr ((l, (n, b)), (i : Int))) (Sum.inl (l, (n, b))) (by omega) ?_ ?_ ?_
    · intro i hi hp
      show B113_0_3 l n b (lLen l) i = some (.inl ((l, (n, b)), (lLen l, ((i + 1 : Nat) : Int))))
      unfold B113_0_3 F97
      rw [iLt_y (by omega), sel_t, oIn_y (by omega), sel_t, iEq_f hp, add_n (by omega) (by omega)]
      rfl
    · intro i hi hp
      show B113_0_3 l n b (lLen l) i = _
      unfold B113_0_3 F97
      rw [iLt_y (by omega), sel_t, oIn_y (by omega), sel_t, iEq_y hp]
      rfl
    · show B113_0_3 l n b (lLen l) l.length = _
      unfold B113_0_3
      rw [iLt_f (by omega), sel_f]
  unfold F60_2 F113_3
  rcases hL with ⟨i, h1, h2, _, e⟩ | ⟨h1, e⟩
  · rw [e]
    refine ⟨true, ?_, fun _ => ⟨_, lAt_mem h1, h2⟩, fun _ => rfl⟩
    show some ((l, (n, b)), iLe 0 (i : Int)) = _
    rw [iLe_y (by omega)]
  · rw [e]
    refine ⟨false, rfl, fun h => (by cases h), fun ⟨d, hd, he⟩ => ?_⟩
    obtain ⟨k, hk, rfl⟩ := mem_lAt hd
    exact absurd he (h1 k hk)
theorem F44_eq (x : SYS) (n : Int) (hl : x.2.1.length ≤ 1000) : (∃ i : Nat, i < x.2.1.length ∧ (lAt x.2.1 (i : Int)).2.1 = n ∧ F44 x n = some (i : Int)) ∨ ((∀ d, d ∈ x.2.1 → ¬ d.2.1 = n) ∧ F44 x n = some (-1)) := by
  have hll : lLen x.2.1 = (x.2.1.length : Int) := rfl
  have hL : (∃ i, i < x.2.1.length ∧ (lAt x.2.1 (i : Int)).2.1 = n ∧ (∀ k, k < i → ¬ (lAt x.2.1 (k : Int)).2.1 = n) ∧ L44_0 (n, (osy x, 0)) = some (.inr (i : Int))) ∨ ((∀ i, i < x.2.1.length → ¬ (lAt x.2.1 (i : Int)).2.1 = n) ∧ L44_0 (n, (osy x, 0)) = some (Sum.inl ())) := by
    refine iter_first (fun i => (n, (osy x, (i : Int)))) (fun i => (lAt x.2.1 (i : Int)).2.1 = n) x.2.1.length (fun i => Sum.inr (i : Int)) (Sum.inl ()) (by omega) ?_ ?_ ?_
    · intro i hi hp
      show B44_0 n x.1.1 x.1.2 x.2.1 x.2.2 i = some (.inl (n, (osy x, ((i + 1 : Nat) : Int))))
      unfold B44_0
      rw [iLt_y (by omega), sel_t, oIn_y (by omega), sel_t, iEq_f hp, sel_f, add_n (by omega) (by omega)]
      rfl
    · intro i hi hp
      show B44_0 n x.1.1 x.1.2 x.2.1 x.2.2 i = _
      unfold B44_0
      rw [iLt_y (by omega), sel_t, oIn_y (by omega), sel_t, iEq_y hp, sel_t]
    · show B44_0 n x.1.1 x.1.2 x.2.1 x.2.2 x.2.1.length = _
      unfold B44_0
      rw [iLt_f (by omega), sel_f]
  unfold F44
  show (∃ i : Nat, _ ∧ _ ∧ bndS (L44_0 (n, (osy x, 0))) _ = _) ∨ (_ ∧ bndS (L44_0 (n, (osy x, 0))) _ = _)
  rcases hL with ⟨i, h1, h2, _, e⟩ | ⟨h1, e⟩
  · rw [e]; exact .inl ⟨i, h1, h2, rfl⟩
  · rw [e]
    refine .inr ⟨fun d hd he => ?_, rfl⟩
    obtain ⟨k, hk, rfl⟩ := mem_lAt hd
    exact h1 k hk he
structure RS where
  done : List SEG
  dir : List DE
  out : List FIN
noncomputable def hdr (g : SEG) : DE := (F16 (sCut g.2 0 32)).getD default
noncomputable def hed (n : NAM) (p : Int) : ByteArray := (F79 n p).getD default
def hasE (xd : List DE) (n : Int) : Prop := ∃ d, d ∈ xd ∧ d.2.1 = n
open Classical in
noncomputable def rstep (xd : List DE) (r : RS) (g : SEG) : RS :=
  if hasE xd g.1 then ⟨r.done ++ [g], r.dir, r.out⟩
  else if ¬ (hdr g).2.2 = 0 then ⟨r.done, r.dir, r.out ++ [(2, (g.1, (0, (bs [], (bs [], 0)))))]⟩
  else ⟨r.done ++ [(g.1, wrB g.2 (hed (fre r.dir (hdr g).1) (sLen g.2 / 32)))], ins (fre r.dir (hdr g).1, (g.1, 0)) r.dir, r.out ++ [(1, (g.1, (0, fre r.dir (hdr g).1)))]⟩
/-- What is known on the way: the store's number, the segments at the beginning, the directory at the beginning, what is done, what is left. -/
structure Inv (nx : Int) (sg : List SEG) (xd : List DE) (r : RS) (l : List SEG) : Prop where
  st : okL (r.done ++ l, nx)
  di : okD (sg, nx) r.dir
  len : r.dir.length ≤ 12 + r.done.length
  ol : r.out.length + l.length ≤ 12 + sg.length
  sgl : sg.length ≤ 10
  iff : ∀ g, g ∈ l → (hasE r.dir g.1 ↔ hasE xd g.1)
  has : ∀ d, d ∈ r.dir → ∃ g, g ∈ r.done ++ l ∧ g.1 = d.2.1
  own : ∀ g, g ∈ r.done → hasE r.dir g.1
  kept : ∀ d, d ∈ xd → (∃ g, g ∈ sg ∧ g.1 = d.2.1) → d ∈ r.dir
  same : ∀ g, g ∈ sg → hasE xd g.1 → g ∈ r.done ++ l
theorem place_mid {n : Int} {b : ByteArray} {l : List SEG} : ∀ {p : List SEG}, (∀ g, g ∈ p → g.1 ≠ n) → place (p ++ (n, b) :: l) n = (p.length : Int)
  | [], _ => by show (if n = n then _ else _) = _; rw [if_pos rfl]; rfl
  | g :: p, h => by
    have := place_mid (b := b) (l := l) (p := p) (fun a ha => h a (List.mem_cons_of_mem _ ha))
    show (if g.1 = n then (0 : Int) else if place (p ++ (n, b) :: l) n = -1 then -1 else place (p ++ (n, b) :: l) n + 1) = _
    rw [if_neg (h g (List.mem_cons_self ..)), this, if_neg (by omega), List.length_cons]
    omega
theorem mid_at (p l : List SEG) (g : SEG) : lAt (p ++ g :: l) (p.length : Int) = g := by rw [lAt_n]; simp
theorem mid_set (p l : List SEG) (g a : SEG) : (p ++ g :: l).set p.length a = p ++ a :: l := by simp [List.set_append]
theorem mid_del (p l : List SEG) (g : SEG) : (p ++ g :: l).eraseIdx p.length = p ++ l := by
  rw [List.eraseIdx_append_of_length_le (Nat.le_refl _)]; simp
/-- What the calls of a round answer. -/
structure Calls (nx : Int) (sg : List SEG) (xd : List DE) (r : RS) (g : SEG) (l : List SEG) : Prop where
  sz : 32 ≤ sLen g.2 ∧ sLen g.2 ≤ 256 ∧ sLen g.2 % 32 = 0
  num : 0 ≤ g.1 ∧ g.1 ≤ 2000
  h16 : F16 (sCut g.2 0 32) = some (hdr g)
  h17 : F17 (sCut g.2 0 32) = some (hdr g)
  del : F98 (r.done ++ g :: l, nx) g.1 = some ((r.done ++ l, nx), 0) ∧ F95 (r.done ++ g :: l, nx) g.1 = some (r.done ++ l, (nx, (0, (bs [], 0))))
  nam : (hdr g).2.2 = 0 → ∀ q : List (Int × Int), F99 ((r.done ++ g :: l, nx), (r.dir, q)) (hdr g).1 = some (fre r.dir (hdr g).1) ∧ F100 ((r.done ++ g :: l, nx), (r.dir, q)) (hdr g).1 = some (fre r.dir (hdr g).1)
  hdn : (hdr g).2.2 = 0 → F79 (fre r.dir (hdr g).1) (sLen g.2 / 32) = some (hed (fre r.dir (hdr g).1) (sLen g.2 / 32)) ∧ F80 (fre r.dir (hdr g).1) (sLen g.2 / 32) = some (hed (fre r.dir (hdr g).1) (sLen g.2 / 32)) ∧ sLen (hed (fre r.dir (hdr g).1) (sLen g.2 / 32)) = 32
  wri : (hdr g).2.2 = 0 → F84 (r.done ++ g :: l, nx) (g.1, 0) (hed (fre r.dir (hdr g).1) (sLen g.2 / 32)) = some ((r.done ++ (g.1, wrB g.2 (hed (fre r.dir (hdr g).1) (sLen g.2 / 32))) :: l, nx), 0) ∧ F92 (r.done ++ g :: l, nx) (g.1, 0) (hed (fre r.dir (hdr g).1) (sLen g.2 / 32)) = some (r.done ++ (g.1, wrB g.2 (hed (fre r.dir (hdr g).1) (sLen g.2 / 32))) :: l, (nx, (0, (bs [], 0))))
theorem Inv.dl {nx : Int} {sg : List SEG} {xd : List DE} {r : RS} {l : List SEG} (h : Inv nx sg xd r l) : r.dir.length ≤ 22 ∧ r.out.length ≤ 22 := by
  have h1 := h.st.len
  have h2 := h.len
  have h3 := h.ol
  have h4 := h.sgl
  rw [List.length_append] at h1
  omega
theorem calls_of {nx : Int} {sg : List SEG} {xd : List DE} {r : RS} {g : SEG} {l : List SEG} (h : Inv nx sg xd r (g :: l)) : Calls nx sg xd r g l := by
  have hg : g ∈ r.done ++ g :: l := by simp
  have h1 := h.st.sg g hg
  have hx := h.st.nx
  dsimp only at h1 hx
  have hnum : 0 ≤ g.1 ∧ g.1 ≤ 2000 := by omega
  have hp : place (r.done ++ g :: l) g.1 = (r.done.length : Int) := by
    refine place_mid (n := g.1) (b := g.2) (fun a ha => ?_)
    have := (List.pairwise_append.1 h.st.ord).2.2 a ha g (List.mem_cons_self ..)
    omega
  have hk : r.done.length < (r.done ++ g :: l).length := by simp
  obtain ⟨q, i1, i2⟩ := in_eq (sCut g.2 0 32) (by rw [scut_len _ (by omega) (by omega) (by omega)]; omega)
  have hq : hdr g = q := by unfold hdr; rw [i1]; rfl
  have dl := h.dl
  have right : (hdr g).2.2 = 0 → nmE (hdr g).1 = 0 := fun h0 => (hdr_right i1 (by rw [← hq]; exact h0)) |> fun h => by rw [hq]; exact h.1
  have hdn : (hdr g).2.2 = 0 → F79 (fre r.dir (hdr g).1) (sLen g.2 / 32) = some (hed (fre r.dir (hdr g).1) (sLen g.2 / 32)) ∧ F80 (fre r.dir (hdr g).1) (sLen g.2 / 32) = some (hed (fre r.dir (hdr g).1) (sLen g.2 / 32)) ∧ sLen (hed (fre r.dir (hdr g).1) (sLen g.2 / 32)) = 32 := fun h0 => by
    obtain ⟨b, b1, b2, b3⟩ := head_eq (fre r.dir (hdr g).1) (sLen g.2 / 32) (fre_ok (by omega) (right h0)).1 (by omega)
    have : hed (fre r.dir (hdr g).1) (sLen g.2 / 32) = b := by unfold hed; rw [b1]; rfl
    rw [this]
    exact ⟨b1, b2, b3⟩
  refine ⟨by omega, hnum, by rw [hq]; exact i1, by rw [hq]; exact i2, ?_, fun h0 => ?_, hdn, fun h0 => ?_⟩
  · have := del_eq h.st hnum hk hp
    rw [mid_del] at this
    exact this
  · intro q'
    refine free_two _ _ q' _ (by omega) ?_
    have := nmOK_len (nmE_parts (right h0)).1.2
    omega
  · have := wr_eq h.st hnum hk hp (hdn h0).2.2
    rw [mid_at, mid_set] at this
    exact this
theorem hasE_ins {d : DE} {l : List DE} {n : Int} : hasE (ins d l) n ↔ d.2.1 = n ∨ hasE l n := by
  unfold hasE
  constructor
  · rintro ⟨a, ha, he⟩
    rcases ins_mem.1 ha with rfl | ha
    · exact .inl he
    · exact .inr ⟨a, ha, he⟩
  · rintro (h | ⟨a, ha, he⟩)
    · exact ⟨d, ins_mem.2 (.inl rfl), h⟩
    · exact ⟨a, ins_mem.2 (.inr ha), he⟩
theorem Inv.next {nx : Int} {sg : List SEG} {xd : List DE} {r : RS} {g : SEG} {l : List SEG} (h : Inv nx sg xd r (g :: l)) : Inv nx sg xd (rstep xd r g) l := by
  have hc := calls_of h
  have hlt : ∀ a, a ∈ l → g.1 < a.1 := fun a ha => by
    have := (List.pairwise_append.1 h.st.ord).2.1
    exact (List.pairwise_cons.1 this).1 a ha
  have ho := h.ol
  have hln := h.len
  rw [List.length_cons] at ho
  unfold rstep
  split
  · rename_i he
    refine ⟨?_, h.di, ?_, by dsimp only; omega, h.sgl, fun a ha => h.iff a (List.mem_cons_of_mem _ ha), ?_, ?_, h.kept, ?_⟩
    · have := h.st; rw [List.append_assoc]; exact this
    · rw [List.length_append]; dsimp only; omega
    · rw [List.append_assoc]; exact h.has
    · intro a ha
      rcases List.mem_append.1 ha with ha | ha
      · exact h.own a ha
      · rw [List.mem_singleton.1 ha]; exact (h.iff g (List.mem_cons_self ..)).2 he
    · rw [List.append_assoc]; exact h.same
  · rename_i he
    have hne : ¬ hasE r.dir g.1 := fun h5 => he ((h.iff g (List.mem_cons_self ..)).1 h5)
    split
    · rename_i h0
      have hsub : (r.done ++ l).Sublist (r.done ++ g :: l) := List.Sublist.append (List.Sublist.refl _) (List.sublist_cons_self ..)
      refine ⟨⟨?_, h.st.nx, fun a ha => h.st.sg a (hsub.subset ha), h.st.ord.sublist hsub⟩, h.di, h.len, ?_, h.sgl, fun a ha => h.iff a (List.mem_cons_of_mem _ ha), ?_, h.own, h.kept, ?_⟩
      · have := h.st.len; have := hsub.length_le; dsimp only at *; omega
      · rw [List.length_append]; simp only [List.length_cons, List.length_nil]; omega
      · intro d hd
        obtain ⟨a, ha, e⟩ := h.has d hd
        rcases List.mem_append.1 ha with ha | ha
        · exact ⟨a, List.mem_append_left _ ha, e⟩
        · rcases List.mem_cons.1 ha with rfl | ha
          · exact absurd ⟨d, hd, e.symm⟩ hne
          · exact ⟨a, List.mem_append_right _ ha, e⟩
      · intro a ha hh
        rcases List.mem_append.1 (h.same a ha hh) with h5 | h5
        · exact List.mem_append_left _ h5
        · rcases List.mem_cons.1 h5 with rfl | h5
          · exact absurd hh he
          · exact List.mem_append_right _ h5
    · rename_i h0
      have h0 : (hdr g).2.2 = 0 := Classical.not_not.1 h0
      have hr := hdr_right hc.h16 h0
      have dl := h.dl
      obtain ⟨f1, f2, f3, f4⟩ := fre_ok (l := r.dir) (by omega) hr.1
      have hb := (hc.hdn h0).2.2
      generalize hed (fre r.dir (hdr g).1) (sLen g.2 / 32) = b at *
      generalize hn : fre r.dir (hdr g).1 = n at *
      have hgs := h.st.sg g (by simp)
      dsimp only at hgs
      have hst := h.st.set (k := r.done.length) (by simp) (b := wrB g.2 b) (by dsimp only; rw [mid_at]; exact wrB_len hb hc.sz.1)
      dsimp only at hst
      rw [mid_at, mid_set] at hst
      refine ⟨?_, ⟨?_, ?_, ?_, ins_srt h.di.ord f4, ?_⟩, ?_, ?_, h.sgl, ?_, ?_, ?_, ?_, ?_⟩
      · rw [List.append_assoc]; exact hst
      · intro d hd
        rcases ins_mem.1 hd with rfl | hd
        · exact f1
        · exact h.di.nm d hd
      · intro d hd
        rcases ins_mem.1 hd with rfl | hd
        · exact hgs.1
        · exact h.di.sg d hd
      · intro d hd
        rcases ins_mem.1 hd with rfl | hd
        · exact ⟨by dsimp only; omega, by dsimp only; omega⟩
        · exact h.di.dm d hd
      · refine ((ins_perm _ _).pairwise_iff (fun h5 => Ne.symm h5)).2 (List.pairwise_cons.2 ⟨fun d hd h5 => hne ⟨d, hd, h5.symm⟩, h.di.dbl⟩)
      · rw [ins_len, List.length_append]; simp only [List.length_cons, List.length_nil]; omega
      · rw [List.length_append]; simp only [List.length_cons, List.length_nil]; omega
      · intro a ha
        rw [hasE_ins]
        have := hlt a ha
        rw [h.iff a (List.mem_cons_of_mem _ ha)]
        exact ⟨fun h5 => h5.elim (fun h6 => by dsimp only at h6; omega) id, .inr⟩
      · intro d hd
        rw [List.append_assoc]
        rcases ins_mem.1 hd with rfl | hd2
        · exact ⟨(g.1, wrB g.2 b), by simp, rfl⟩
        · obtain ⟨a, ha, e⟩ := h.has d hd2
          rcases List.mem_append.1 ha with ha | ha
          · exact ⟨a, List.mem_append_left _ ha, e⟩
          · rcases List.mem_cons.1 ha with rfl | ha
            · exact absurd ⟨d, hd2, e.symm⟩ hne
            · exact ⟨a, by simp [ha], e⟩
      · intro a ha
        rw [hasE_ins]
        rcases List.mem_append.1 ha with ha | ha
        · exact .inr (h.own a ha)
        · rw [List.mem_singleton.1 ha]; exact .inl rfl
      · intro d hd hh
        exact ins_mem.2 (.inr (h.kept d hd hh))
      · intro a ha hh
        rw [List.append_assoc]
        rcases List.mem_append.1 (h.same a ha hh) with h5 | h5
        · exact List.mem_append_left _ h5
        · rcases List.mem_cons.1 h5 with rfl | h5
          · exact absurd hh he
          · simp [h5]
/-- What is kept and what is told of entries. -/
def keep (x : SYS) (l : List DE) : List DE := l.filter (fun d => decide (0 ≤ place x.1.1 d.2.1))
def remo (x : SYS) (l : List DE) : List FIN := (l.filter (fun d => decide (¬ 0 ≤ place x.1.1 d.2.1))).map (fun d => (3, (d.2.1, (0, d.1))))
def r00 (x : SYS) : RS := ⟨[], keep x x.2.1, remo x x.2.1⟩
theorem place_mem {l : List SEG} {n : Int} : 0 ≤ place l n ↔ ∃ g, g ∈ l ∧ g.1 = n := by
  rcases place_cases n l with ⟨i, h1, h2, _, h4⟩ | ⟨h1, h2⟩
  · exact ⟨fun _ => ⟨_, lAt_mem h1, h2⟩, fun _ => by omega⟩
  · refine ⟨fun h => by omega, fun ⟨g, hg, he⟩ => ?_⟩
    obtain ⟨i, hi, rfl⟩ := mem_lAt hg
    exact absurd he (h1 i hi)
theorem inv_0 {x : SYS} (h : okX x) : Inv x.1.2 x.1.1 x.2.1 (r00 x) x.1.1 := by
  have hL := okL_of h.st
  have hD := okD_of h
  have hk : ∀ d, d ∈ keep x x.2.1 ↔ d ∈ x.2.1 ∧ ∃ g, g ∈ x.1.1 ∧ g.1 = d.2.1 := fun d => by
    unfold keep
    rw [List.mem_filter, decide_eq_true_eq, place_mem]
  have hd := h.dir
  have l1 : (keep x x.2.1).length ≤ x.2.1.length := List.length_filter_le _ _
  have l2 : (remo x x.2.1).length ≤ x.2.1.length := by unfold remo; rw [List.length_map]; exact List.length_filter_le _ _
  refine ⟨hL, ⟨fun d h5 => hD.nm d ((hk d).1 h5).1, fun d h5 => hD.sg d ((hk d).1 h5).1, fun d h5 => hD.dm d ((hk d).1 h5).1, hD.ord.filter _, hD.dbl.filter _⟩, ?_, ?_, hL.len, ?_, ?_, ?_, ?_, ?_⟩
  · show (keep x x.2.1).length ≤ _; omega
  · show (remo x x.2.1).length + _ ≤ _; omega
  · intro g hg
    exact ⟨fun ⟨d, h5, e⟩ => ⟨d, ((hk d).1 h5).1, e⟩, fun ⟨d, h5, e⟩ => ⟨d, (hk d).2 ⟨h5, g, hg, e.symm⟩, e⟩⟩
  · intro d h5
    exact ((hk d).1 h5).2
  · intro g hg; cases hg
  · intro d h5 h6; exact (hk d).2 ⟨h5, h6⟩
  · intro g hg _; exact hg
noncomputable def rrun (x : SYS) (i : Nat) : RS := (x.1.1.take i).foldl (rstep x.2.1) (r00 x)
theorem rrun_succ (x : SYS) {i : Nat} (h : i < x.1.1.length) : rrun x (i + 1) = rstep x.2.1 (rrun x i) (x.1.1[i]) := by
  unfold rrun
  rw [List.take_succ_eq_append_getElem h, List.foldl_append]
  rfl
theorem inv_at {x : SYS} (h : okX x) : ∀ i, i ≤ x.1.1.length → Inv x.1.2 x.1.1 x.2.1 (rrun x i) (x.1.1.drop i)
  | 0, _ => inv_0 h
  | i + 1, hi => by
    have := inv_at h i (by omega)
    rw [List.drop_eq_getElem_cons (by omega : i < x.1.1.length)] at this
    rw [rrun_succ x (by omega)]
    exact this.next
end Go.Proofs.YtiddpfhpmodfbaaGreatDoor.K
end

section
set_option linter.unusedVariables false
set_option linter.unusedSimpArgs false
set_option linter.unnecessarySimpa false
open Go Go.Ev
namespace Go.Proofs.YtiddpfhpmodfbaaGreatDoor.K
abbrev LP := List (Int × Int)
theorem take_one {α : Type} [Inhabited α] {l : List α} {i : Nat} (h : i < l.length) : l.take (i + 1) = l.take i ++ [lAt l (i : Int)] := by
  rw [List.take_succ_eq_append_getElem h, lAt_lt h]
theorem keep_one {x : SYS} {i : Nat} (h : i < x.2.1.length) : keep x (x.2.1.take (i + 1)) = keep x (x.2.1.take i) ++ (if 0 ≤ place x.1.1 (lAt x.2.1 (i : Int)).2.1 then [lAt x.2.1 (i : Int)] else []) := by
  unfold keep
  rw [take_one h, List.filter_append]
  by_cases hc : 0 ≤ place x.1.1 (lAt x.2.1 (i : Int)).2.1 <;> simp [hc]
theorem remo_one {x : SYS} {i : Nat} (h : i < x.2.1.length) : remo x (x.2.1.take (i + 1)) = remo x (x.2.1.take i) ++ (if 0 ≤ place x.1.1 (lAt x.2.1 (i : Int)).2.1 then [] else [(3, ((lAt x.2.1 (i : Int)).2.1, (0, (lAt x.2.1 (i : Int)).1)))]) := by
  unfold remo
  rw [take_one h, List.filter_append, List.map_append]
  by_cases hc : 0 ≤ place x.1.1 (lAt x.2.1 (i : Int)).2.1
  · rw [if_pos hc, List.filter_cons_of_neg (by rw [decide_eq_true_eq]; exact fun h5 => h5 hc)]; rfl
  · rw [if_neg hc, List.filter_cons_of_pos (by rw [decide_eq_true_eq]; exact hc)]; rfl
theorem keep_len (x : SYS) (i : Nat) : (keep x (x.2.1.take i)).length ≤ x.2.1.length := by
  have := List.length_filter_le (fun d => decide (0 ≤ place x.1.1 d.2.1)) (x.2.1.take i)
  rw [List.length_take] at this
  unfold keep; omega
theorem remo_len (x : SYS) (i : Nat) : (remo x (x.2.1.take i)).length ≤ x.2.1.length := by
  have := List.length_filter_le (fun d => decide (¬ 0 ≤ place x.1.1 d.2.1)) (x.2.1.take i)
  rw [List.length_take] at this
  unfold remo; rw [List.length_map]; omega
def st41 (x : SYS) (dir : List DE) (out : List FIN) (i : Int) : ((OSY × (Int × (((List SEG) × (Int × LP)) × ((List FIN) × ((List DE) × (Int × Int)))))) ⊕ (OSY × (Int × (OSY × ((List FIN) × ((List DE) × (Int × Int))))))) := match dir with
  | [] => .inl (osy x, (0, ((x.1.1, (x.1.2, x.2.2)), (out, (x.2.1, (lLen x.2.1, i))))))
  | a :: r => .inr (osy x, (0, ((x.1.1, (x.1.2, (a :: r, x.2.2))), (out, (x.2.1, (lLen x.2.1, i))))))
def en41 (x : SYS) (dir : List DE) (out : List FIN) : ((OSY × (Int × (((List SEG) × (Int × LP)) × (List FIN)))) ⊕ (OSY × (Int × (OSY × (List FIN))))) := match dir with
  | [] => .inl (osy x, (0, ((x.1.1, (x.1.2, x.2.2)), out)))
  | a :: r => .inr (osy x, (0, ((x.1.1, (x.1.2, (a :: r, x.2.2))), out)))
theorem L41_eq {x : SYS} (hf : fewX x) : L41_0 (st41 x [] [] 0) = some (en41 x (keep x x.2.1) (remo x x.2.1)) := by
  have hll : lLen x.2.1 = (x.2.1.length : Int) := rfl
  have h14 := hf.2.1
  have h : L41_0 (st41 x (keep x (x.2.1.take 0)) (remo x (x.2.1.take 0)) ((0 : Nat) : Int)) = some (en41 x (keep x x.2.1) (remo x x.2.1)) := by
    refine iter_run (fun i => st41 x (keep x (x.2.1.take i)) (remo x (x.2.1.take i)) (i : Int)) x.2.1.length (by omega) ?_ ?_
    · intro i hi
      rw [keep_one hi, remo_one hi]
      have k1 := keep_len x i
      have k2 := remo_len x i
      have e96 := F96_eq hf.1 (lAt x.2.1 (i : Int)).2.1
      generalize keep x (x.2.1.take i) = dir at *
      generalize remo x (x.2.1.take i) = out at *
      cases dir with
      | nil =>
        show B41_0h0 x.1.1 x.1.2 x.2.1 x.2.2 0 x.1.1 x.1.2 x.2.2 out x.2.1 (lLen x.2.1) i = _
        unfold B41_0h0
        rw [iLt_y (by omega), sel_t, oIn_y (by omega), sel_t]
        show bndS (F96 x.1 (lAt x.2.1 (i : Int)).2.1) _ = _
        rw [e96, bnd_s, add_n (by omega) (by omega)]
        by_cases hc : 0 ≤ place x.1.1 (lAt x.2.1 (i : Int)).2.1
        · rw [if_pos hc, if_pos hc, if_pos hc, sel_t, lCap_y (by decide) (by decide) (by simp), sel_t, List.append_nil]; rfl
        · rw [if_neg hc, if_neg hc, if_neg hc, sel_f, lCap_y (by decide) (by decide) (by simp [lApp]; omega), sel_t]; rfl
      | cons a r =>
        show B41_0h1 x.1.1 x.1.2 x.2.1 x.2.2 0 x.1.1 x.1.2 (a :: r) x.2.2 out x.2.1 (lLen x.2.1) i = _
        unfold B41_0h1
        rw [iLt_y (by omega), sel_t, oIn_y (by omega), sel_t]
        show bndS (F96 x.1 (lAt x.2.1 (i : Int)).2.1) _ = _
        rw [e96, bnd_s, add_n (by omega) (by omega)]
        by_cases hc : 0 ≤ place x.1.1 (lAt x.2.1 (i : Int)).2.1
        · rw [if_pos hc, if_pos hc, if_pos hc, sel_t, lCap_y (by decide) (by decide) (by simp [lApp] at k1 ⊢; omega), sel_t, List.append_nil]; rfl
        · rw [if_neg hc, if_neg hc, if_neg hc, sel_f, lCap_y (by decide) (by decide) (by simp [lApp]; omega), sel_t, List.append_nil]; rfl
    · rw [List.take_length]
      generalize keep x x.2.1 = dir
      generalize remo x x.2.1 = out
      cases dir with
      | nil =>
        show B41_0h0 x.1.1 x.1.2 x.2.1 x.2.2 0 x.1.1 x.1.2 x.2.2 out x.2.1 (lLen x.2.1) x.2.1.length = _
        unfold B41_0h0
        rw [iLt_f (by omega), sel_f]; rfl
      | cons a r =>
        show B41_0h1 x.1.1 x.1.2 x.2.1 x.2.2 0 x.1.1 x.1.2 (a :: r) x.2.2 out x.2.1 (lLen x.2.1) x.2.1.length = _
        unfold B41_0h1
        rw [iLt_f (by omega), sel_f]; rfl
  exact h
def st412 (x : SYS) (r : RS) (l : List SEG) (i : Int) : ((Int × (((List SEG) × (Int × LP)) × ((List FIN) × ((List SEG) × (Int × Int))))) ⊕ (Int × (OSY × ((List FIN) × ((List SEG) × (Int × Int)))))) := match r.dir with
  | [] => .inl (0, ((r.done ++ l, (x.1.2, x.2.2)), (r.out, (x.1.1, (lLen x.1.1, i)))))
  | a :: t => .inr (0, ((r.done ++ l, (x.1.2, (a :: t, x.2.2))), (r.out, (x.1.1, (lLen x.1.1, i)))))
def en412 (x : SYS) (r : RS) (l : List SEG) : ((Int × (((List SEG) × (Int × LP)) × (List FIN))) ⊕ ((Int × (OSY × (List FIN))) ⊕ (Int × Int))) := match r.dir with
  | [] => .inl (0, ((r.done ++ l, (x.1.2, x.2.2)), r.out))
  | a :: t => .inr (.inl (0, ((r.done ++ l, (x.1.2, (a :: t, x.2.2))), r.out)))
/-- Too many entries. -/
def over (x : SYS) (i : Nat) : Prop := ¬ hasE x.2.1 (lAt x.1.1 (i : Int)).1 ∧ (hdr (lAt x.1.1 (i : Int))).2.2 = 0 ∧ (rrun x i).dir.length = 12
theorem ins_cons (d : DE) (l : List DE) : ∃ b t, ins d l = b :: t := by
  cases h : ins d l with
  | nil => have := ins_len d l; rw [h] at this; simp at this
  | cons b t => exact ⟨b, t, rfl⟩
theorem rstep_e {xd : List DE} {r : RS} {g : SEG} (h : hasE xd g.1) : rstep xd r g = ⟨r.done ++ [g], r.dir, r.out⟩ := by unfold rstep; rw [if_pos h]
theorem rstep_d {xd : List DE} {r : RS} {g : SEG} (h : ¬ hasE xd g.1) (h2 : ¬ (hdr g).2.2 = 0) : rstep xd r g = ⟨r.done, r.dir, r.out ++ [(2, (g.1, (0, (bs [], (bs [], 0)))))]⟩ := by unfold rstep; rw [if_neg h, if_pos h2]
theorem rstep_f {xd : List DE} {r : RS} {g : SEG} (h : ¬ hasE xd g.1) (h2 : (hdr g).2.2 = 0) : rstep xd r g = ⟨r.done ++ [(g.1, wrB g.2 (hed (fre r.dir (hdr g).1) (sLen g.2 / 32)))], ins (fre r.dir (hdr g).1, (g.1, 0)) r.dir, r.out ++ [(1, (g.1, (0, fre r.dir (hdr g).1)))]⟩ := by unfold rstep; rw [if_neg h, if_neg (fun hc => hc h2)]
open Classical in
theorem step412 {x : SYS} {r : RS} {g : SEG} {l : List SEG} {i : Nat} (h : Inv x.1.2 x.1.1 x.2.1 r (g :: l)) (hi : i < x.1.1.length) (hle : r.dir.length ≤ 12) (hg : lAt x.1.1 (i : Int) = g) :
    (sumS (st412 x r (g :: l) i) (fun x => (B41_2h0 x.1 x.2.1.1 x.2.1.2.1 x.2.1.2.2 x.2.2.1 x.2.2.2.1 x.2.2.2.2.1 x.2.2.2.2.2)) fun x => (B41_2h1 x.1 x.2.1.1 x.2.1.2.1 x.2.1.2.2.1 x.2.1.2.2.2 x.2.2.1 x.2.2.2.1 x.2.2.2.2.1 x.2.2.2.2.2)) = if ¬ hasE x.2.1 g.1 ∧ (hdr g).2.2 = 0 ∧ r.dir.length = 12 then some (.inr (.inr (.inr (0, 2)))) else some (.inl (st412 x (rstep x.2.1 r g) l ((i + 1 : Nat) : Int))) := by
  have hc := calls_of h
  have hll : lLen x.1.1 = (x.1.1.length : Int) := rfl
  have hsg := h.sgl
  have hdl := h.dl
  have hiff := h.iff g (List.mem_cons_self ..)
  have h32 := hc.sz
  have q32 : iQuo .i64 (sLen g.2) 32 = sLen g.2 / 32 := quo32 _ (by omega)
  obtain ⟨done, dir, out⟩ := r
  dsimp only at hdl hiff
  cases dir with
  | nil =>
    rw [if_neg (fun h5 => by have := h5.2.2; simp at this)]
    show B41_2h0 0 (done ++ g :: l) x.1.2 x.2.2 out x.1.1 (lLen x.1.1) i = _
    unfold B41_2h0
    have hne : ¬ hasE x.2.1 g.1 := fun h5 => by obtain ⟨d, hd, _⟩ := hiff.2 h5; cases hd
    rw [iLt_y (by omega), sel_t, oIn_y (by omega), sel_t, hg, F60_1_eq, bnd_s]
    dsimp only
    rw [sel_f, oCut_y (by omega), sel_t, hc.h16, bnd_s, add_n (by omega) (by omega)]
    by_cases h0 : (hdr g).2.2 = 0
    · obtain ⟨n1, _⟩ := hc.nam h0 x.2.2
      obtain ⟨d1, _, _⟩ := hc.hdn h0
      obtain ⟨w1, _⟩ := hc.wri h0
      rw [rstep_f hne h0]
      dsimp only at n1 d1 w1 ⊢
      rw [iEq_y h0, nt, sel_f, n1, bnd_s, show oNz 32 = true from rfl, sel_t, q32, d1, bnd_s, w1, bnd_s]
      dsimp only
      rw [F85_1_eq, bnd_s, lCap_y (by decide) (by decide) (by simp [lApp]; omega), sel_t]
      show some (Sum.inl (Sum.inr (0, ((done ++ _ :: l, _), _)))) = some (Sum.inl (Sum.inr (0, ((done ++ [_] ++ l, _), _))))
      rw [List.append_assoc]
      rfl
    · obtain ⟨del, _⟩ := hc.del
      rw [rstep_d hne h0]
      dsimp only at del ⊢
      rw [iEq_f h0, nf, sel_t, del, bnd_s, lCap_y (by decide) (by decide) (by simp [lApp]; omega), sel_t]
      rfl
  | cons a t =>
    show B41_2h1 0 (done ++ g :: l) x.1.2 (a :: t) x.2.2 out x.1.1 (lLen x.1.1) i = _
    unfold B41_2h1
    obtain ⟨q, q1, q2⟩ := F60_2_eq (a :: t) g.1 g.2 (by omega)
    rw [iLt_y (by omega), sel_t, oIn_y (by omega), sel_t, hg, q1, bnd_s]
    dsimp only
    by_cases he : hasE x.2.1 g.1
    · rw [q2.2 (hiff.2 he), sel_t, if_neg (fun h5 => h5.1 he), rstep_e he, add_n (by omega) (by omega)]
      show _ = some (Sum.inl (Sum.inr (0, ((done ++ [g] ++ l, _), _))))
      rw [List.append_assoc]
      rfl
    have qf : q = false := by rw [bf_t]; exact fun h5 => he (hiff.1 (q2.1 h5))
    rw [qf, sel_f, oCut_y (by omega), sel_t, hc.h16, bnd_s, add_n (by omega) (by omega)]
    by_cases h0 : (hdr g).2.2 = 0
    · rw [iEq_y h0, nt, sel_f]
      by_cases h12 : (a :: t).length = 12
      · rw [if_pos ⟨he, h0, h12⟩, iEq_y (by unfold lLen; omega), sel_t]
      · rw [if_neg (fun h5 => h12 h5.2.2), iEq_f (by unfold lLen; omega), sel_f]
        obtain ⟨n1, _⟩ := hc.nam h0 x.2.2
        obtain ⟨d1, _, _⟩ := hc.hdn h0
        obtain ⟨w1, _⟩ := hc.wri h0
        rw [rstep_f he h0]
        dsimp only at n1 d1 w1 ⊢
        rw [n1, bnd_s, show oNz 32 = true from rfl, sel_t, q32, d1, bnd_s, w1, bnd_s]
        dsimp only
        have := h.len
        have l12 : (a :: t).length ≤ 12 := hle
        rw [F85_eq (l := a :: t) _ _ _ (by omega) h.di.ord, bnd_s, lCap_y (by decide) (by decide) (by simp [lApp]; omega), sel_t]
        obtain ⟨b, t', e⟩ := ins_cons (fre (a :: t) (hdr g).1, (g.1, 0)) (a :: t)
        rw [e]
        show some (Sum.inl (Sum.inr (0, ((done ++ _ :: l, _), _)))) = some (Sum.inl (Sum.inr (0, ((done ++ [_] ++ l, _), _))))
        rw [List.append_assoc]
        rfl
    · obtain ⟨del, _⟩ := hc.del
      rw [if_neg (fun h5 => h0 h5.2.1), rstep_d he h0]
      dsimp only at del ⊢
      rw [iEq_f h0, nf, sel_t, del, bnd_s, lCap_y (by decide) (by decide) (by simp [lApp]; omega), sel_t]
      rfl
theorem dir_up {x : SYS} {i : Nat} (hi : i < x.1.1.length) : (rrun x i).dir.length ≤ (rrun x (i + 1)).dir.length := by
  rw [rrun_succ x hi]
  unfold rstep
  split
  · exact Nat.le_refl _
  · split
    · exact Nat.le_refl _
    · dsimp only; rw [ins_len]; omega
theorem dir_le {x : SYS} (i : Nat) : ∀ j, i + j ≤ x.1.1.length → (rrun x i).dir.length ≤ (rrun x (i + j)).dir.length
  | 0, _ => Nat.le_refl _
  | j + 1, h => Nat.le_trans (dir_le i j (by omega)) (dir_up (by omega))
open Classical in
theorem L41_2_eq {x : SYS} (h : okX x) : (12 < (rrun x x.1.1.length).dir.length ∧ L41_2 (st412 x (r00 x) x.1.1 0) = some (.inr (.inr (0, 2)))) ∨ ((rrun x x.1.1.length).dir.length ≤ 12 ∧ L41_2 (st412 x (r00 x) x.1.1 0) = some (en412 x (rrun x x.1.1.length) [])) := by
  have hll : lLen x.1.1 = (x.1.1.length : Int) := rfl
  have h10 := (okL_of h.st).len
  have hd12 : (r00 x).dir.length ≤ 12 := by have := h.dir; have := keep_len x x.2.1.length; rw [List.take_length] at this; show (keep x x.2.1).length ≤ 12; omega
  -- as0 long as0 there is no round that is one too many, the directory is small
  have small : ∀ i, i ≤ x.1.1.length → (∀ k, k < i → ¬ over x k) → (rrun x i).dir.length ≤ 12 := fun i => by
    induction i with
    | zero => intro _ _; exact hd12
    | succ i ih =>
      intro hi hk
      have h1 := ih (by omega) (fun k hk2 => hk k (by omega))
      have h2 := hk i (by omega)
      have hg : lAt x.1.1 (i : Int) = x.1.1[i] := lAt_lt (by omega)
      unfold over at h2
      rw [hg] at h2
      rw [rrun_succ x (by omega)]
      by_cases he : hasE x.2.1 (x.1.1[i]).1
      · rw [rstep_e he]; exact h1
      · by_cases h0 : (hdr x.1.1[i]).2.2 = 0
        · rw [rstep_f he h0]; dsimp only; rw [ins_len]
          have : ¬ (rrun x i).dir.length = 12 := fun h5 => h2 ⟨he, h0, h5⟩
          omega
        · rw [rstep_d he h0]; exact h1
  have step : ∀ i, i < x.1.1.length → (rrun x i).dir.length ≤ 12 → (fun x => (sumS x (fun x => (B41_2h0 x.1 x.2.1.1 x.2.1.2.1 x.2.1.2.2 x.2.2.1 x.2.2.2.1 x.2.2.2.2.1 x.2.2.2.2.2)) fun x => (B41_2h1 x.1 x.2.1.1 x.2.1.2.1 x.2.1.2.2.1 x.2.1.2.2.2 x.2.2.1 x.2.2.2.1 x.2.2.2.2.1 x.2.2.2.2.2))) (st412 x (rrun x i) (x.1.1.drop i) i) = if ¬ hasE x.2.1 (lAt x.1.1 (i : Int)).1 ∧ (hdr (lAt x.1.1 (i : Int))).2.2 = 0 ∧ (rrun x i).dir.length = 12 then some (.inr (.inr (.inr (0, 2)))) else some (.inl (st412 x (rrun x (i + 1)) (x.1.1.drop (i + 1)) ((i + 1 : Nat) : Int))) := fun i hi hle => by
    have hI := inv_at h i (by omega)
    rw [List.drop_eq_getElem_cons hi] at hI
    rw [rrun_succ x hi, List.drop_eq_getElem_cons hi, lAt_lt hi]
    exact step412 hI hi hle (lAt_lt hi)
  -- the walk itself, up to the first round too many
  have run : ∀ (d i n : Nat), i + d = x.1.1.length → d < n → (∀ k, k < i → ¬ over x k) → (∃ k, k < x.1.1.length ∧ over x k ∧ iter (fun x => (sumS x (fun x => (B41_2h0 x.1 x.2.1.1 x.2.1.2.1 x.2.1.2.2 x.2.2.1 x.2.2.2.1 x.2.2.2.2.1 x.2.2.2.2.2)) fun x => (B41_2h1 x.1 x.2.1.1 x.2.1.2.1 x.2.1.2.2.1 x.2.1.2.2.2 x.2.2.1 x.2.2.2.1 x.2.2.2.2.1 x.2.2.2.2.2))) n (st412 x (rrun x i) (x.1.1.drop i) i) = some (.inr (.inr (0, 2)))) ∨ ((∀ k, k < x.1.1.length → ¬ over x k) ∧ iter (fun x => (sumS x (fun x => (B41_2h0 x.1 x.2.1.1 x.2.1.2.1 x.2.1.2.2 x.2.2.1 x.2.2.2.1 x.2.2.2.2.1 x.2.2.2.2.2)) fun x => (B41_2h1 x.1 x.2.1.1 x.2.1.2.1 x.2.1.2.2.1 x.2.1.2.2.2 x.2.2.1 x.2.2.2.1 x.2.2.2.2.1 x.2.2.2.2.2))) n (st412 x (rrun x i) (x.1.1.drop i) i) = some (en412 x (rrun x x.1.1.length) [])) := fun d => by
    induction d with
    | zero =>
      intro i n hi hn hk
      obtain ⟨n, rfl⟩ : ∃ q, n = q + 1 := ⟨n - 1, by omega⟩
      obtain rfl : i = x.1.1.length := by omega
      refine .inr ⟨hk, iter_e ?_⟩
      rw [List.drop_length]
      generalize rrun x x.1.1.length = r
      obtain ⟨done, dir, out⟩ := r
      cases dir with
      | nil =>
        show B41_2h0 0 (done ++ []) x.1.2 x.2.2 out x.1.1 (lLen x.1.1) x.1.1.length = _
        unfold B41_2h0
        rw [iLt_f (by omega), sel_f]; rfl
      | cons a t =>
        show B41_2h1 0 (done ++ []) x.1.2 (a :: t) x.2.2 out x.1.1 (lLen x.1.1) x.1.1.length = _
        unfold B41_2h1
        rw [iLt_f (by omega), sel_f]; rfl
    | succ d ih =>
      intro i n hi hn hk
      obtain ⟨n, rfl⟩ : ∃ q, n = q + 1 := ⟨n - 1, by omega⟩
      have hs := step i (by omega) (small i (by omega) hk)
      by_cases ho : over x i
      · unfold over at ho
        rw [if_pos ho] at hs
        exact .inl ⟨i, by omega, ho, iter_e hs⟩
      · have ho' := ho
        unfold over at ho'
        rw [if_neg ho'] at hs
        rw [iter_s hs]
        exact ih (i + 1) n (by omega) (by omega) (fun k hk2 => by
          by_cases h5 : k = i
          · rw [h5]; exact ho
          · exact hk k (by omega))
  rcases run x.1.1.length 0 fuel (by omega) (by unfold fuel; omega) (fun k hk => by omega) with ⟨k, k1, k2, k3⟩ | ⟨k1, k2⟩
  · refine .inl ⟨?_, k3⟩
    have h1 : (rrun x (k + 1)).dir.length = 13 := by
      unfold over at k2
      rw [lAt_lt k1] at k2
      rw [rrun_succ x k1, rstep_f k2.1 k2.2.1]; dsimp only; rw [ins_len, k2.2.2]
    have h2 := dir_le (x := x) (k + 1) (x.1.1.length - (k + 1)) (by omega)
    rw [show k + 1 + (x.1.1.length - (k + 1)) = x.1.1.length by omega] at h2
    omega
  · exact .inr ⟨small _ (Nat.le_refl _) (fun k hk => k1 k hk), k2⟩
end Go.Proofs.YtiddpfhpmodfbaaGreatDoor.K
end

section
set_option linter.unusedVariables false
set_option linter.unusedSimpArgs false
set_option linter.unnecessarySimpa false
open Go Go.Ev
namespace Go.Proofs.YtiddpfhpmodfbaaGreatDoor.K
/-- What reclaim storage leaves. -/
noncomputable def rres (x : SYS) : OSY := ((rrun x x.1.1.length).done, (x.1.2, ((rrun x x.1.1.length).dir, x.2.2)))
noncomputable def rout (x : SYS) : List FIN := (rrun x x.1.1.length).out
open Classical in
theorem F41_eq {x : SYS} (hf : fewX x) (h : okX x) (h0 : x.2.2 = []) : F41 x = some (if 12 < (rrun x x.1.1.length).dir.length then (([], (0, ([], []))), ([], 2)) else (rres x, (rout x, 0))) := by
  unfold F41
  rw [(sys_check h (by rw [h0]; decide)).1, bnd_s, iEq_y rfl, nt, sel_f, iLt_f (by unfold lLen; rw [h0]; decide), sel_f, F69_eq hf, bnd_s]
  show bndS (L41_0 (st41 x [] [] 0)) _ = _
  rw [L41_eq hf, bnd_s]
  have hr := L41_2_eq h
  unfold rres rout
  generalize hk : keep x x.2.1 = dir at *
  have hd : (r00 x).dir = dir := hk
  have ho : (r00 x).out = remo x x.2.1 := rfl
  have hn : (r00 x).done = [] := rfl
  have fin : ∀ v, L41_2 (st412 x (r00 x) x.1.1 0) = some v → (v = .inr (.inr (0, 2)) ∨ v = en412 x (rrun x x.1.1.length) []) → (sumS v (fun y3a => some (((y3a.2.1.1, (y3a.2.1.2.1, (([] : List DE), y3a.2.1.2.2))), (y3a.2.2, (0 : Int))) : OSY × (List FIN × Int))) fun y3ar => sumS y3ar (fun y3aa => some (y3aa.2.1, (y3aa.2.2, (0 : Int)))) fun y3ab => some ((([] : List SEG), (y3ab.1, (([] : List DE), ([] : LP)))), (([] : List FIN), y3ab.2))) = some (if v = .inr (.inr (0, 2)) then (([], (0, ([], []))), ([], 2)) else (((rrun x x.1.1.length).done, (x.1.2, ((rrun x x.1.1.length).dir, x.2.2))), ((rrun x x.1.1.length).out, 0))) := by
    intro v _ hv
    rcases hv with rfl | rfl
    · rw [if_pos rfl]; rfl
    · generalize rrun x x.1.1.length = r
      obtain ⟨dn, di, ou⟩ := r
      cases di with
      | nil => rw [if_neg (fun h5 => by cases h5)]; unfold en412; dsimp only; rw [List.append_nil]; rfl
      | cons a t => rw [if_neg (fun h5 => by cases h5)]; unfold en412; dsimp only; rw [List.append_nil]; rfl
  have fin2 : ∀ v, L41_2 (st412 x (r00 x) x.1.1 0) = some v → (bndS (some v) fun y3 => sumS y3 (fun y3a => some (((y3a.2.1.1, (y3a.2.1.2.1, (([] : List DE), y3a.2.1.2.2))), (y3a.2.2, (0 : Int))) : OSY × (List FIN × Int))) fun y3ar => sumS y3ar (fun y3aa => some (y3aa.2.1, (y3aa.2.2, (0 : Int)))) fun y3ab => some ((([] : List SEG), (y3ab.1, (([] : List DE), ([] : LP)))), (([] : List FIN), y3ab.2))) = some (if 12 < (rrun x x.1.1.length).dir.length then (([], (0, ([], []))), ([], 2)) else (((rrun x x.1.1.length).done, (x.1.2, ((rrun x x.1.1.length).dir, x.2.2))), ((rrun x x.1.1.length).out, 0))) := by
    intro v hv
    rw [bnd_s]
    rcases hr with ⟨h1, h2⟩ | ⟨h1, h2⟩
    · rw [h2] at hv; cases hv
      rw [fin _ h2 (.inl rfl), if_pos rfl, if_pos h1]
    · rw [h2] at hv; cases hv
      rw [fin _ h2 (.inr rfl), if_neg (by omega : ¬ 12 < (rrun x x.1.1.length).dir.length), if_neg]
      generalize rrun x x.1.1.length = r
      obtain ⟨dn, di, ou⟩ := r
      cases di <;> exact fun h5 => by cases h5
  obtain ⟨v, hv⟩ : ∃ v, L41_2 (st412 x (r00 x) x.1.1 0) = some v := by rcases hr with ⟨_, h2⟩ | ⟨_, h2⟩ <;> exact ⟨_, h2⟩
  have hz := fin2 v hv
  rw [← hv] at hz
  cases dir with
  | nil =>
    have e : st412 x (r00 x) x.1.1 0 = .inl (0, ((x.1.1, (x.1.2, x.2.2)), (remo x x.2.1, (x.1.1, (lLen x.1.1, 0))))) := by unfold st412; rw [hd, ho, hn]; rfl
    rw [e] at hz
    exact hz
  | cons a t =>
    have e : st412 x (r00 x) x.1.1 0 = .inr (0, ((x.1.1, (x.1.2, (a :: t, x.2.2))), (remo x x.2.1, (x.1.1, (lLen x.1.1, 0))))) := by unfold st412; rw [hd, ho, hn]; rfl
    rw [e] at hz
    exact hz
end Go.Proofs.YtiddpfhpmodfbaaGreatDoor.K
end

section
set_option linter.unusedVariables false
set_option linter.unusedSimpArgs false
set_option linter.unnecessarySimpa false
open Go Go.Ev
namespace Go.Proofs.YtiddpfhpmodfbaaGreatDoor.K
def sgAt (s : List SEG) (n : Int) : SEG := lAt s (place s n)
def badE (s : List SEG) (d : DE) : Prop := place s d.2.1 = -1 ∨ ¬ (hdr (sgAt s d.2.1)).2.2 = 0 ∨ ¬ (hdr (sgAt s d.2.1)).1 = d.1
def pgsE (s : List SEG) (d : DE) : Prop := ¬ (hdr (sgAt s d.2.1)).2.1 = sLen (sgAt s d.2.1).2 / 32
open Classical in
theorem dmg {x : SYS} (hf : fewX x) (h : okX x) {i : Nat} (hi : i < x.2.1.length) : ∃ g, F77 x (lAt x.2.1 (i : Int)) = some (sel (iLt g (lAt x.2.1 (i : Int)).2.2) (lAt x.2.1 (i : Int)).2.2 g) ∧ (0 ≤ g ∧ g ≤ 3) ∧ (badE x.1.1 (lAt x.2.1 (i : Int)) → g = 3) ∧ (¬ badE x.1.1 (lAt x.2.1 (i : Int)) → pgsE x.1.1 (lAt x.2.1 (i : Int)) → 1 ≤ g) ∧ (x.2.2 = [] → ¬ badE x.1.1 (lAt x.2.1 (i : Int)) → g = if pgsE x.1.1 (lAt x.2.1 (i : Int)) then 1 else 0) := by
  obtain ⟨g, g1, g2⟩ := damage_eq hf h hi
  refine ⟨g, g2, ?_⟩
  obtain ⟨hs, hd, hl⟩ := hf
  obtain ⟨q0, a0, b0⟩ := F131_eq x (lAt x.2.1 (i : Int)).2.1 0 0 (by omega)
  obtain ⟨q1, a1, b1⟩ := F131_eq x (lAt x.2.1 (i : Int)).2.1 1 8 (by omega)
  have n0 : x.2.2 = [] → q0 = false := fun h0 => by
    rw [bf_t, b0]; rintro ⟨k, hk, _⟩; rw [h0] at hk; simp at hk
  have n1 : x.2.2 = [] → q1 = false := fun h0 => by
    rw [bf_t, b1]; rintro ⟨k, hk, _⟩; rw [h0] at hk; simp at hk
  unfold F78 at g1
  rw [oIn_y (by unfold lLen; omega), sel_t, F90_eq _ _ (by have := hs.1; omega), bnd_s, a0] at g1
  simp only [okS_s, or_tt, sel_t, valS_s, let_s] at g1
  unfold badE pgsE sgAt
  rcases place_cases (lAt x.2.1 (i : Int)).2.1 x.1.1 with ⟨j, hj, _, _, ep⟩ | ⟨_, ep⟩
  rotate_left
  · rw [ep, iEq_y rfl, or_tt, sel_t] at g1
    cases g1
    exact ⟨by omega, fun _ => rfl, fun hb => absurd (.inl ep) hb, fun _ hb => absurd (.inl ep) hb⟩
  have hjl := seg_len h hj
  have h400 := hs.2 j hj
  rw [ep, iEq_f (by omega), or_ff] at g1
  rw [ep]
  obtain ⟨r, f1, f2⟩ := in_eq (sCut (lAt x.1.1 (j : Int)).2 0 32) (by rw [scut_len _ (by omega) (by omega) (by omega)]; omega)
  have hr : hdr (lAt x.1.1 (j : Int)) = r := by unfold hdr; rw [f1]; rfl
  rw [hr]
  cases q0 with
  | true =>
    rw [sel_t] at g1
    cases g1
    exact ⟨by omega, fun _ => rfl, fun _ _ => by decide, fun h0 => absurd (n0 h0) (by decide)⟩
  | false =>
    rw [sel_f, oIn_y (by unfold lLen; omega), sel_t, oCut_y (by omega), sel_t, f2, bnd_s] at g1
    have hc : (bOr (bNot (iEq r.2.2 0)) (bNot (bAnd (sEq r.1.1 (lAt x.2.1 (i : Int)).1.1) (bAnd (sEq r.1.2.1 (lAt x.2.1 (i : Int)).1.2.1) (iEq r.1.2.2 (lAt x.2.1 (i : Int)).1.2.2)))) = true) ↔ (¬ r.2.2 = 0 ∨ ¬ r.1 = (lAt x.2.1 (i : Int)).1) := by
      rw [or_t, not_t, not_t, bf_t, bf_t, iEq_t, and_t, and_t, sEq_t, sEq_t, iEq_t]
      refine or_congr Iff.rfl (not_congr ?_)
      exact ⟨fun h => Prod.ext h.1 (Prod.ext h.2.1 h.2.2), fun h => by rw [h]; exact ⟨rfl, rfl, rfl⟩⟩
    generalize bOr (bNot (iEq r.2.2 0)) (bNot (bAnd (sEq r.1.1 (lAt x.2.1 (i : Int)).1.1) (bAnd (sEq r.1.2.1 (lAt x.2.1 (i : Int)).1.2.1) (iEq r.1.2.2 (lAt x.2.1 (i : Int)).1.2.2)))) = c at *
    cases c with
    | true =>
      rw [sel_t] at g1
      cases g1
      have hb := hc.1 rfl
      exact ⟨by omega, fun _ => rfl, fun hn => absurd (.inr hb) hn, fun _ hn => absurd (.inr hb) hn⟩
    | false =>
      have hb : ¬ ((j : Int) = -1 ∨ ¬ r.2.2 = 0 ∨ ¬ r.1 = (lAt x.2.1 (i : Int)).1) := fun h5 => h5.elim (fun h6 => by omega) (fun h6 => by have := hc.2 h6; cases this)
      rw [sel_f, a1, bnd_s] at g1
      cases q1 with
      | true =>
        rw [sel_t] at g1
        cases g1
        exact ⟨by omega, fun hn => absurd hn hb, fun _ _ => by decide, fun h0 => absurd (n1 h0) (by decide)⟩
      | false =>
        rw [sel_f, F66_eq (by omega), bnd_s] at g1
        by_cases hp : r.2.1 = sLen (lAt x.1.1 (j : Int)).2 / 32
        · rw [iEq_y hp, nt] at g1
          have : g = 0 := by cases g1; rfl
          subst this
          exact ⟨by omega, fun hn => absurd hn hb, fun _ h6 => absurd hp h6, fun _ _ => by rw [if_neg (fun h6 => h6 hp)]⟩
        · rw [iEq_f hp, nf] at g1
          have : g = 1 := by cases g1; rfl
          subst this
          exact ⟨by omega, fun hn => absurd hn hb, fun _ _ => by decide, fun _ _ => by rw [if_pos hp]⟩
/-- The damage of an entry behind an IPL. -/
def mxv (x : SYS) (i : Nat) : Int := (F77 x (lAt x.2.1 (i : Int))).getD 0
theorem mxv_eq {x : SYS} (hf : fewX x) (h : okX x) {i : Nat} (hi : i < x.2.1.length) : F77 x (lAt x.2.1 (i : Int)) = some (mxv x i) ∧ (lAt x.2.1 (i : Int)).2.2 ≤ mxv x i ∧ 0 ≤ mxv x i ∧ mxv x i ≤ 3 ∧ ∃ g, mxv x i = sel (iLt g (lAt x.2.1 (i : Int)).2.2) (lAt x.2.1 (i : Int)).2.2 g ∧ g ≤ mxv x i := by
  obtain ⟨g, g1, g2, _⟩ := dmg hf h hi
  have hd := (okD_of h).dm _ (lAt_mem hi)
  have e : mxv x i = sel (iLt g (lAt x.2.1 (i : Int)).2.2) (lAt x.2.1 (i : Int)).2.2 g := by unfold mxv; rw [g1]; rfl
  refine ⟨by rw [g1, e], ?_⟩
  by_cases hc : g < (lAt x.2.1 (i : Int)).2.2
  · rw [iLt_y hc, sel_t] at e
    exact ⟨by omega, by omega, by omega, g, by rw [e, iLt_y hc, sel_t], by omega⟩
  · rw [iLt_f hc, sel_f] at e
    exact ⟨by omega, by omega, by omega, g, by rw [e, iLt_f hc, sel_f], by omega⟩
theorem few_nil {x : SYS} (h : okX x) (h0 : x.2.2 = []) : fewX x := ⟨(okL_of h.st).few, by have := h.dir; omega, by rw [h0]; simp⟩
noncomputable def rsys (x : SYS) : SYS := (((rrun x x.1.1.length).done, x.1.2), ((rrun x x.1.1.length).dir, []))
theorem inv_end {x : SYS} (h : okX x) : Inv x.1.2 x.1.1 x.2.1 (rrun x x.1.1.length) [] := by
  have := inv_at h x.1.1.length (Nat.le_refl _)
  rw [List.drop_length] at this
  exact this
theorem okX_R {x : SYS} (h : okX x) (h12 : (rrun x x.1.1.length).dir.length ≤ 12) : okX (rsys x) := by
  have hI := inv_end h
  have h1 := hI.st
  rw [List.append_nil] at h1
  exact okX_of h1 ⟨hI.di.nm, hI.di.sg, hI.di.dm, hI.di.ord, hI.di.dbl⟩ h12 (fun i hi => by
    have : i < ([] : LP).length := hi
    simp at this)
theorem F41_cases {x : SYS} (hf : fewX x) (h : okX x) (h0 : x.2.2 = []) : (F41 x = some (([], (0, ([], []))), ([], 2))) ∨ ((rrun x x.1.1.length).dir.length ≤ 12 ∧ F41 x = some (osy (rsys x), (rout x, 0))) := by
  rw [F41_eq hf h h0]
  by_cases h12 : 12 < (rrun x x.1.1.length).dir.length
  · exact .inl (by rw [if_pos h12])
  · refine .inr ⟨by omega, ?_⟩
    rw [if_neg h12]
    unfold rres
    rw [h0]
    rfl
end Go.Proofs.YtiddpfhpmodfbaaGreatDoor.K
end

section
set_option linter.unusedVariables false
set_option linter.unusedSimpArgs false
set_option linter.unnecessarySimpa false
open Go Go.Ev
namespace Go.Proofs.YtiddpfhpmodfbaaGreatDoor.K
theorem pw_uniq {α : Type} {R : α → α → Prop} {a b : α} : ∀ {l : List α}, l.Pairwise R → a ∈ l → b ∈ l → ¬ R a b → ¬ R b a → a = b
  | [], _, h, _, _, _ => by cases h
  | c :: l, hp, ha, hb, h1, h2 => by
    have hp := List.pairwise_cons.1 hp
    rcases List.mem_cons.1 ha with e1 | ha2 <;> rcases List.mem_cons.1 hb with e2 | hb2
    · rw [e1, e2]
    · rw [e1] at h1; exact absurd (hp.1 b hb2) h1
    · rw [e2] at h2; exact absurd (hp.1 a ha2) h2
    · exact pw_uniq hp.2 ha2 hb2 h1 h2
theorem sg_uniq {s : STO} (h : okL s) {a b : SEG} (ha : a ∈ s.1) (hb : b ∈ s.1) (e : a.1 = b.1) : a = b :=
  pw_uniq h.ord ha hb (by omega) (by omega)
theorem no_uniq {s : STO} {l : List DE} (h : okD s l) {a b : DE} (ha : a ∈ l) (hb : b ∈ l) (e : a.2.1 = b.2.1) : a = b :=
  pw_uniq h.dbl ha hb (fun h5 => h5 e) (fun h5 => h5 e.symm)
end Go.Proofs.YtiddpfhpmodfbaaGreatDoor.K
end

section
set_option linter.unusedVariables false
set_option linter.unusedSimpArgs false
set_option linter.unnecessarySimpa false
open Go Go.Ev
namespace Go.Proofs.YtiddpfhpmodfbaaGreatDoor.K
theorem cutL {a b : ByteArray} {n : Int} (h : sLen a = n) : sCut (sAdd a b) 0 n = a := by
  apply by_inj
  have := by_len a
  rw [by_cut, by_add, show n.toNat = (sBy a).length by omega, List.take_left, show (0 : Int).toNat = 0 from rfl, List.drop_zero]
theorem cutR {a b : ByteArray} {n m : Int} (h : sLen a = n) (h2 : n + sLen b = m) : sCut (sAdd a b) n m = b := by
  apply by_inj
  have h3 := by_len a
  have h4 := by_len b
  rw [by_cut, by_add, List.take_of_length_le (by rw [List.length_append]; omega), show n.toNat = (sBy a).length by omega, List.drop_left]
theorem cutLL {a b : ByteArray} {n m : Int} (h : m ≤ sLen a) (h0 : 0 ≤ n) (hm : 0 ≤ m) : sCut (sAdd a b) n m = sCut a n m := by
  apply by_inj
  have h3 := by_len a
  rw [by_cut, by_cut, by_add, List.take_append_of_le_length (by omega)]
/-- A name with blanks behind it. -/
def pad (s : ByteArray) : ByteArray := sAdd s (sOf (List.replicate (10 - sLen s).toNat 32))
theorem pad_by (s : ByteArray) : sBy (pad s) = sBy s ++ List.replicate (10 - sLen s).toNat 32 := by
  unfold pad
  rw [by_add, by_sOf (by intro b hb; rw [List.eq_of_mem_replicate hb]; decide)]
theorem pad_len {s : ByteArray} (h : sLen s ≤ 10) : sLen (pad s) = 10 := by
  have := by_len s
  rw [by_len, pad_by, List.length_append, List.length_replicate]
  omega
theorem F132_pad {s : ByteArray} (h : sLen s ≤ 10) : F132 s = some (pad s) := by
  have h0 := sLen_nn s
  have hk : (10 - sLen s) = (((10 - sLen s).toNat : Nat) : Int) := by omega
  unfold F132 pad
  rw [sub_n (by omega) (by omega), hk, FRepeat_eq _ (by omega), bnd_s]
  rw [sOk_n (by rw [by_len (sOf _), by_sOf (by intro b hb; rw [List.eq_of_mem_replicate hb]; decide), List.length_replicate]; omega), sel_t]
  rw [← hk]
theorem trim_rep (l : List Int) : ∀ k, trimL (l ++ List.replicate k 32) = trimL l
  | 0 => by simp
  | k + 1 => by rw [List.replicate_succ', ← List.append_assoc, trimL_blank, trim_rep l k]
theorem nm_noblank {s : ByteArray} (h : nmOK (sBy s) = true) : ¬ (32 : Int) ∈ sBy s := by
  intro h5
  obtain ⟨i, hi, e⟩ := List.getElem_of_mem h5
  have := (nmOK_iff.1 h).2 i hi
  rw [List.getElem?_eq_getElem hi, e] at this
  unfold nmCh at this
  revert this
  show ((decide _ || (decide (i ≠ 0) && decide _)) = true) → False
  intro this
  rw [Bool.or_eq_true, Bool.and_eq_true, decide_eq_true_eq, decide_eq_true_eq, decide_eq_true_eq] at this
  have h6 : ((some (32 : Int)).getD 0) = 32 := rfl
  rw [h6] at this
  omega
theorem trim_pad {s : ByteArray} (h : nmOK (sBy s) = true) : F48 (pad s) = some s := by
  have hl := nmOK_len h
  have hb := by_len s
  have hp : (sBy (pad s)).length ≤ 1000000 := by have := by_len (pad s); have := pad_len (s := s) (by omega); omega
  obtain ⟨t, t1, _, t3⟩ := trim_eq (pad s) hp
  rw [t3]
  congr 1
  apply by_inj
  rw [t1, pad_by, trim_rep]
  rcases List.eq_nil_or_concat (sBy s) with e | ⟨l, c, e⟩
  · rw [e] at hb; simp at hb; omega
  · rw [List.concat_eq_append] at e
    have hc : c ≠ 32 := fun h5 => nm_noblank h (by rw [e, h5]; simp)
    rw [e, trimL_end _ hc]
theorem no_blank {s : ByteArray} (h : nmOK (sBy s) = true) : FContains s (bs [32]) = some false := by
  rw [cont_eq]
  unfold hasB
  rw [decide_eq_false (nm_noblank h)]
/-- The parts of a header. -/
theorem hed_form {n : NAM} {p : Int} (h : nmE n = 0) (hp : 1 ≤ p ∧ p ≤ 8) : ∃ y, hed n p = sAdd (sAdd (sAdd (sAdd (sAdd (sAdd (bs [42, 79, 66, 74]) (sOf [n.2.2])) (pad n.1)) (pad n.2.1)) (sOf [p])) y) (bs [0, 0]) ∧ F52 (sAdd (sAdd (sAdd (sAdd (bs [42, 79, 66, 74]) (sOf [n.2.2])) (pad n.1)) (pad n.2.1)) (sOf [p])) = some y ∧ sLen y = 4 := by
  obtain ⟨⟨h1, h2⟩, h3⟩ := nmE_parts h
  have l1 := nmOK_len h1
  have l2 := nmOK_len h2
  obtain ⟨t1, t2⟩ := byte1 (t := n.2.2) (by omega)
  obtain ⟨p1, p2⟩ := byte1 (t := p) (by omega)
  have lt : sLen (sOf [n.2.2]) = 1 := by rw [sOf_len (by intro b hb; rw [List.mem_singleton] at hb; omega)]; rfl
  have lp : sLen (sOf [p]) = 1 := by rw [sOf_len (by intro b hb; rw [List.mem_singleton] at hb; omega)]; rfl
  have lm : sLen (bs [42, 79, 66, 74]) = 4 := by kernel_rfl
  have lz : sLen (bs [0, 0]) = 2 := by kernel_rfl
  have q1 := pad_len (s := n.1) (by omega)
  have q2 := pad_len (s := n.2.1) (by omega)
  have g1 : sLen (sAdd (bs [42, 79, 66, 74]) (sOf [n.2.2])) = 5 := by rw [sadd_len, lm, lt]; decide
  have g2 : sLen (sAdd (sAdd (bs [42, 79, 66, 74]) (sOf [n.2.2])) (pad n.1)) = 15 := by rw [sadd_len, g1, q1]; decide
  have g3 : sLen (sAdd (sAdd (sAdd (bs [42, 79, 66, 74]) (sOf [n.2.2])) (pad n.1)) (pad n.2.1)) = 25 := by rw [sadd_len, g2, q2]; decide
  have g4 : sLen (sAdd (sAdd (sAdd (sAdd (bs [42, 79, 66, 74]) (sOf [n.2.2])) (pad n.1)) (pad n.2.1)) (sOf [p])) = 26 := by rw [sadd_len, g3, lp]; decide
  have f79 : F79 n p = bndS (F52 (sAdd (sAdd (sAdd (sAdd (bs [42, 79, 66, 74]) (sOf [n.2.2])) (pad n.1)) (pad n.2.1)) (sOf [p]))) fun y2 => sel (sOk (sAdd (sAdd (sAdd (sAdd (bs [42, 79, 66, 74]) (sOf [n.2.2])) (pad n.1)) (pad n.2.1)) (sOf [p])) y2) (sel (sOk (sAdd (sAdd (sAdd (sAdd (sAdd (bs [42, 79, 66, 74]) (sOf [n.2.2])) (pad n.1)) (pad n.2.1)) (sOf [p])) y2) (bs [0, 0])) (some (sAdd (sAdd (sAdd (sAdd (sAdd (sAdd (bs [42, 79, 66, 74]) (sOf [n.2.2])) (pad n.1)) (pad n.2.1)) (sOf [p])) y2) (bs [0, 0]))) none) none := by
    unfold F79
    rw [t2, p2, F132_pad (by omega), F132_pad (by omega), sOk_n (by omega), sel_t, bnd_s, sOk_n (by omega), sel_t, bnd_s, sOk_n (by omega), sel_t, sOk_n (by omega), sel_t]
  unfold hed
  rw [f79]
  generalize sAdd (sAdd (sAdd (sAdd (bs [42, 79, 66, 74]) (sOf [n.2.2])) (pad n.1)) (pad n.2.1)) (sOf [p]) = x at *
  have hxl := by_len x
  obtain ⟨_, s2⟩ := sum_eq x (by omega)
  have l4 : ∀ S : Int, sLen (sOf [(S / 16777216) % 256, (S / 65536) % 256, (S / 256) % 256, S % 256]) = 4 := fun S => by
    rw [sOf_len (by intro b hb; simp only [List.mem_cons, List.not_mem_nil, or_false] at hb; omega)]; rfl
  have l4 := l4 (sumE (sBy x))
  rw [s2, bnd_s]
  generalize sOf [(sumE (sBy x) / 16777216) % 256, (sumE (sBy x) / 65536) % 256, (sumE (sBy x) / 256) % 256, sumE (sBy x) % 256] = y at *
  refine ⟨y, ?_, rfl, l4⟩
  rw [sOk_n (by omega), sel_t, sOk_n (by rw [sadd_len]; omega), sel_t]
  rfl
theorem hed_back {n : NAM} {p : Int} (h : nmE n = 0) (hp : 1 ≤ p ∧ p ≤ 8) : F16 (hed n p) = some (n, (p, 0)) := by
  obtain ⟨y, e, f52, ly⟩ := hed_form h hp
  obtain ⟨⟨h1, h2⟩, h3⟩ := nmE_parts h
  have l1 := nmOK_len h1
  have l2 := nmOK_len h2
  have lt : sLen (sOf [n.2.2]) = 1 := by rw [sOf_len (by intro b hb; rw [List.mem_singleton] at hb; omega)]; rfl
  have lp : sLen (sOf [p]) = 1 := by rw [sOf_len (by intro b hb; rw [List.mem_singleton] at hb; omega)]; rfl
  have lm : sLen (bs [42, 79, 66, 74]) = 4 := by kernel_rfl
  have lz : sLen (bs [0, 0]) = 2 := by kernel_rfl
  have q1 := pad_len (s := n.1) (by omega)
  have q2 := pad_len (s := n.2.1) (by omega)
  have g1 : sLen (sAdd (bs [42, 79, 66, 74]) (sOf [n.2.2])) = 5 := by rw [sadd_len, lm, lt]; decide
  have g2 : sLen (sAdd (sAdd (bs [42, 79, 66, 74]) (sOf [n.2.2])) (pad n.1)) = 15 := by rw [sadd_len, g1, q1]; decide
  have g3 : sLen (sAdd (sAdd (sAdd (bs [42, 79, 66, 74]) (sOf [n.2.2])) (pad n.1)) (pad n.2.1)) = 25 := by rw [sadd_len, g2, q2]; decide
  have g4 : sLen (sAdd (sAdd (sAdd (sAdd (bs [42, 79, 66, 74]) (sOf [n.2.2])) (pad n.1)) (pad n.2.1)) (sOf [p])) = 26 := by rw [sadd_len, g3, lp]; decide
  have g5 : sLen (sAdd (sAdd (sAdd (sAdd (sAdd (bs [42, 79, 66, 74]) (sOf [n.2.2])) (pad n.1)) (pad n.2.1)) (sOf [p])) y) = 30 := by rw [sadd_len, g4, ly]; decide
  have g6 : sLen (hed n p) = 32 := by rw [e, sadd_len, g5, lz]; decide
  -- the bytes of the name's type and of the pages
  have at4 : sAt (hed n p) 4 = n.2.2 := by
    rw [e, by_at, by_add, by_add, by_add, by_add, by_add, by_add]
    have b1 : sBy (bs [42, 79, 66, 74]) = [42, 79, 66, 74] := by kernel_rfl
    have b2 : sBy (sOf [n.2.2]) = [n.2.2] := by_sOf (by intro b hb; rw [List.mem_singleton] at hb; omega)
    rw [b1, b2]
    rfl
  have c25 : sCut (hed n p) 25 26 = sOf [p] := by
    rw [e, cutLL (by omega) (by decide) (by decide), cutLL (by omega) (by decide) (by decide), cutR g3 (by omega)]
  have at25 : sAt (hed n p) 25 = p := by
    have hb := congrArg sBy c25
    rw [by_cut, by_sOf (by intro b hb; rw [List.mem_singleton] at hb; omega)] at hb
    have hl := by_len (hed n p)
    rw [by_at]
    have : ((List.take (Int.toNat 26) (sBy (hed n p))).drop (Int.toNat 25))[0]? = some p := by rw [hb]; rfl
    rw [List.getElem?_drop, List.getElem?_take, if_pos (by decide)] at this
    show ((sBy (hed n p))[25]?).getD 0 = p
    have h25 : (sBy (hed n p))[25]? = some p := this
    rw [h25]; rfl
  have c5 : sCut (hed n p) 5 15 = pad n.1 := by
    rw [e, cutLL (by omega) (by decide) (by decide), cutLL (by omega) (by decide) (by decide), cutLL (by omega) (by decide) (by decide), cutLL (by omega) (by decide) (by decide), cutR g1 (by omega)]
  have c15 : sCut (hed n p) 15 25 = pad n.2.1 := by
    rw [e, cutLL (by omega) (by decide) (by decide), cutLL (by omega) (by decide) (by decide), cutLL (by omega) (by decide) (by decide), cutR g2 (by omega)]
  have c0 : sCut (hed n p) 0 4 = bs [42, 79, 66, 74] := by
    rw [e, cutLL (by omega) (by decide) (by decide), cutLL (by omega) (by decide) (by decide), cutLL (by omega) (by decide) (by decide), cutLL (by omega) (by decide) (by decide), cutLL (by omega) (by decide) (by decide), cutL lm]
  have c30 : sCut (hed n p) 30 32 = bs [0, 0] := by rw [e, cutR g5 (by omega)]
  have c26 : sCut (hed n p) 26 30 = y := by rw [e, cutLL (by omega) (by decide) (by decide), cutR g4 (by omega)]
  have c026 : sCut (hed n p) 0 26 = sAdd (sAdd (sAdd (sAdd (bs [42, 79, 66, 74]) (sOf [n.2.2])) (pad n.1)) (pad n.2.1)) (sOf [p]) := by
    rw [e, cutLL (by omega) (by decide) (by decide), cutL g4]
  have w8 : F51 p 1 8 = true := by unfold F51; rw [iLe_y hp.1, iLe_y hp.2]; rfl
  unfold F16
  rw [g6, iEq_y rfl, nt, sel_f, c5, trim_pad h1, c15, trim_pad h2, c0, c30, c26, c026, f52, at4, at25, cv_n (by omega) (by omega), cv_n (by omega) (by omega)]
  simp only [bnd_s, no_blank h1, no_blank h2, sEq_y rfl, show oCut 5 15 32 = true from rfl, show oCut 15 25 32 = true from rfl, show oIn 4 32 = true from rfl, show oIn 25 32 = true from rfl, show oCut 0 4 32 = true from rfl, show oCut 30 32 32 = true from rfl, show oCut 26 30 32 = true from rfl, show oCut 0 26 32 = true from rfl, sel_t, okS_s, or_tt, or_ff, valS_s, let_s, nt, nf, sel_f]
  rw [(nmE_eq n).1, bnd_s, iEq_y h, nt, sel_f, w8, nt, sel_f]
end Go.Proofs.YtiddpfhpmodfbaaGreatDoor.K
end
