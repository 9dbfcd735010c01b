/- A part of the proof: texts of the author, joined. -/
import Derived.Test.YtiddpfhpmodfbaaGreatDoorKPIplObjects0
section
set_option linter.unusedVariables false
set_option linter.unusedSimpArgs false
set_option linter.unnecessarySimpa false
open Go Go.Ev
namespace Go.Proofs.YtiddpfhpmodfbaaGreatDoor.K
theorem cut_drop {α : Type} (l : List α) (k : Nat) : lCut l (k : Int) (lLen l) = l.drop k := by unfold lCut lLen; simp
theorem del_list {α : Type} (l : List α) (k : Nat) : l.take k ++ l.drop (k + 1) = l.eraseIdx k := (List.eraseIdx_eq_take_drop_succ l k).symm
/-- Ahead of what is written over nothing changes. -/
theorem cpy_take {α : Type} (l q : List α) (lo hi : Int) (m : Nat) (h : m ≤ lo.toNat) (hl : m ≤ l.length) : (lCpy l lo hi q).take m = l.take m := by
  unfold lCpy
  rw [List.take_append_of_le_length (by rw [List.length_take]; omega), List.take_take, Nat.min_eq_left h]
theorem cpy_in {α : Type} (l q : List α) (k : Nat) (hk : k ≤ l.length) : (lCpy l (k : Int) ((k + q.length : Nat) : Int) q).take (k + q.length) = l.take k ++ q := by
  unfold lCpy
  have e2 : (((k + q.length : Nat) : Int) - (k : Int)).toNat = q.length := by omega
  rw [e2, Int.toNat_natCast, List.take_length, Nat.min_self, ← List.append_assoc]
  have e3 : (l.take k ++ q).length = k + q.length := by rw [List.length_append, List.length_take, Nat.min_eq_left hk]
  rw [← e3, List.take_left]
theorem cut_take {α : Type} (l : List α) (m : Nat) : lCut l 0 (m : Int) = l.take m := by unfold lCut; simp
theorem cpy_len {α : Type} (l q : List α) (k : Nat) (h : k + q.length ≤ l.length) : (lCpy l (k : Int) ((k + q.length : Nat) : Int) q).length = l.length := by
  unfold lCpy
  have e2 : (((k + q.length : Nat) : Int) - (k : Int)).toNat = q.length := by omega
  rw [e2, Int.toNat_natCast, List.take_length, Nat.min_self]
  simp only [List.length_append, List.length_take, List.length_drop]
  omega
theorem F150_eq (l : List SEG) (k : Nat) (hk : k < l.length) (hl : l.length ≤ 1000) : F150 l (k : Int) (iAdd .i64 (k : Int) 1) = some (l.eraseIdx k) := by
  unfold F150
  rw [add_n (by omega) (by omega), show (k : Int) + 1 = ((k + 1 : Nat) : Int) by omega, cut_drop, ← del_list l k]
  generalize hq : l.drop (k + 1) = q
  have hql : q.length = l.length - (k + 1) := by rw [← hq]; simp
  have e1 : pAdd (k : Int) (lLen q) = ((k + q.length : Nat) : Int) := by unfold pAdd lLen; omega
  have e2 : pAdd 0 (pSub ((k + q.length : Nat) : Int) 0) = ((k + q.length : Nat) : Int) := by unfold pAdd pSub; omega
  have e3 : pSub ((k + q.length : Nat) : Int) 0 = ((k + q.length : Nat) : Int) := by unfold pSub; omega
  rw [e1, e2, e3]
  have hcl := cpy_len l q k (by omega)
  rw [oCut_y (by unfold lLen; omega), sel_t, oCut_y (by unfold lLen; omega), sel_t, iEq_f (by omega), sel_f, oCut_y (by unfold lLen; omega), sel_t, oCut_y (by unfold lLen; omega), sel_t, iLe_y (by unfold lLen; omega), sel_t,
    oCut_y (by unfold lLen pSub; rw [hcl]; omega), sel_t, cut_take, cpy_take _ _ _ _ _ (by omega) (by rw [hcl]; omega), cpy_in _ _ _ (by omega)]
theorem F86_eq (l : List DE) (k : Nat) (hk : k < l.length) (hl : l.length ≤ 1000) : F86 l (k : Int) (iAdd .i64 (k : Int) 1) = some (l.eraseIdx k) := by
  unfold F86
  rw [add_n (by omega) (by omega), show (k : Int) + 1 = ((k + 1 : Nat) : Int) by omega, cut_drop, ← del_list l k]
  generalize hq : l.drop (k + 1) = q
  have hql : q.length = l.length - (k + 1) := by rw [← hq]; simp
  have e1 : pAdd (k : Int) (lLen q) = ((k + q.length : Nat) : Int) := by unfold pAdd lLen; omega
  have e2 : pAdd 0 (pSub ((k + q.length : Nat) : Int) 0) = ((k + q.length : Nat) : Int) := by unfold pAdd pSub; omega
  have e3 : pSub ((k + q.length : Nat) : Int) 0 = ((k + q.length : Nat) : Int) := by unfold pSub; omega
  rw [e1, e2, e3]
  have hcl := cpy_len l q k (by omega)
  rw [oCut_y (by unfold lLen; omega), sel_t, oCut_y (by unfold lLen; omega), sel_t, iEq_f (by omega), sel_f, oCut_y (by unfold lLen; omega), sel_t, oCut_y (by unfold lLen; omega), sel_t, iLe_y (by unfold lLen; omega), sel_t,
    oCut_y (by unfold lLen pSub; rw [hcl]; omega), sel_t, cut_take, cpy_take _ _ _ _ _ (by omega) (by rw [hcl]; omega), cpy_in _ _ _ (by omega)]
theorem okL.set {s : STO} (h : okL s) {k : Nat} (hk : k < s.1.length) {b : ByteArray} (hb : sLen b = sLen (lAt s.1 (k : Int)).2) : okL (s.1.set k ((lAt s.1 (k : Int)).1, b), s.2) := by
  refine ⟨by rw [List.length_set]; exact h.len, h.nx, fun g hg => ?_, ?_⟩
  · rcases List.mem_or_eq_of_mem_set hg with h1 | h1
    · exact h.sg g h1
    · have := h.sg _ (lAt_mem hk)
      rw [h1]
      dsimp only
      rw [hb]
      exact this
  · rw [List.pairwise_iff_getElem]
    intro i j hi hj hij
    rw [List.length_set] at hi hj
    have h1 := (List.pairwise_iff_getElem.1 h.ord) i j hi hj hij
    have e : ∀ i (hi : i < s.1.length), ((s.1.set k ((lAt s.1 (k : Int)).1, b))[i]'(by rw [List.length_set]; exact hi)).1 = (s.1[i]).1 := fun i hi => by
      rw [List.getElem_set]
      split
      · rename_i he; subst he; rw [lAt_lt hk]
      · rfl
    rw [e i hi, e j hj]
    exact h1
theorem del_eq {s : STO} (h : okL s) {n : Int} (hn : 0 ≤ n ∧ n ≤ 2000) {k : Nat} (hk : k < s.1.length) (hp : place s.1 n = (k : Int)) :
    F98 s n = some ((s.1.eraseIdx k, s.2), 0) ∧ F95 s n = some (s.1.eraseIdx k, (s.2, (0, (bs [], 0)))) := by
  have hl := h.len
  have h18 : F64 s = some s := F18_eq s (by omega)
  constructor
  · unfold F98
    rw [find_eq h hn, if_pos (by omega), bnd_s, iEq_y rfl, nt, sel_f, F116_eq s.1 (by omega), bnd_s]
    dsimp only
    rw [hp, F150_eq s.1 k hk (by omega), bnd_s]
  · unfold F95
    rw [known_eq h, if_pos (by omega), bnd_s, iEq_y rfl, nt, sel_f, h18, bnd_s]
    dsimp only
    rw [hp, add_n (by omega) (by omega), show (k : Int) + 1 = ((k + 1 : Nat) : Int) by omega, cut_drop, ← del_list s.1 k]
    generalize hq : s.1.drop (k + 1) = q
    have hql : q.length = s.1.length - (k + 1) := by rw [← hq]; simp
    have e1 : pAdd (k : Int) (lLen q) = ((k + q.length : Nat) : Int) := by unfold pAdd lLen; omega
    rw [e1, oCut_y (by unfold lLen; omega), sel_t, oCut_y (by unfold lLen; omega), sel_t, iLe_y (by unfold lLen; omega), sel_t, cut_take, cpy_in _ _ _ (by omega)]
/-- Other bytes at a segment's beginning. -/
def wrB (o b : ByteArray) : ByteArray := sAdd (sAdd (sCut o 0 0) b) (sCut o 32 (sLen o))
theorem wr_eq {s : STO} (h : okL s) {n : Int} (hn : 0 ≤ n ∧ n ≤ 2000) {k : Nat} (hk : k < s.1.length) (hp : place s.1 n = (k : Int)) {b : ByteArray} (hb : sLen b = 32) :
    F84 s (n, 0) b = some ((s.1.set k ((lAt s.1 (k : Int)).1, wrB (lAt s.1 (k : Int)).2 b), s.2), 0) ∧ F92 s (n, 0) b = some (s.1.set k ((lAt s.1 (k : Int)).1, wrB (lAt s.1 (k : Int)).2 b), (s.2, (0, (bs [], 0)))) := by
  have hl := h.len
  have h18 : F64 s = some s := F18_eq s (by omega)
  have hg := h.sg _ (lAt_mem hk)
  have ho : 32 ≤ sLen (lAt s.1 (k : Int)).2 ∧ sLen (lAt s.1 (k : Int)).2 ≤ 400 := by omega
  have i1 : oIn (k : Int) (lLen s.1) = true := oIn_y (by unfold lLen; omega)
  have w1 : F109 0 0 (sLen (lAt s.1 (k : Int)).2) = true ∧ F35 0 0 (sLen (lAt s.1 (k : Int)).2) = true := by
    unfold F109 F35; rw [iLe_y (by omega), iLe_y (by omega)]; exact ⟨rfl, rfl⟩
  have w2 : F109 32 0 (iSub .i64 (sLen (lAt s.1 (k : Int)).2) 0) = true ∧ F35 32 0 (iSub .i64 (sLen (lAt s.1 (k : Int)).2) 0) = true := by
    unfold F109 F35; rw [sub_n (by omega) (by omega), iLe_y (by omega), iLe_y (by omega)]; exact ⟨rfl, rfl⟩
  have hset : lSet s.1 (k : Int) ((lAt s.1 (k : Int)).1, wrB (lAt s.1 (k : Int)).2 b) = s.1.set k ((lAt s.1 (k : Int)).1, wrB (lAt s.1 (k : Int)).2 b) := by unfold lSet; rw [Int.toNat_natCast]
  have c0 : sLen (sCut (lAt s.1 (k : Int)).2 0 0) = 0 := scut_len _ (by omega) (by omega) (by omega)
  have c1 : sLen (sCut (lAt s.1 (k : Int)).2 32 (sLen (lAt s.1 (k : Int)).2)) = sLen (lAt s.1 (k : Int)).2 - 32 := scut_len _ (by omega) (by omega) (by omega)
  have ok1 : sOk (sCut (lAt s.1 (k : Int)).2 0 0) b = true := sOk_n (by rw [c0, hb]; omega)
  have ok2 : sOk (sAdd (sCut (lAt s.1 (k : Int)).2 0 0) b) (sCut (lAt s.1 (k : Int)).2 32 (sLen (lAt s.1 (k : Int)).2)) = true := sOk_n (by rw [sadd_len, c0, c1, hb]; omega)
  have e32 : iAdd .i64 0 32 = 32 := rfl
  constructor
  · unfold F84 F138
    rw [find_eq h hn, if_pos (by omega), bnd_s, iEq_y rfl, nt, sel_f]
    dsimp only
    rw [hp, hb, i1, sel_t, let_s, let_s, w1.1, w2.1, nt, or_ff, sel_f, bnd_s, iEq_y rfl, nt, sel_f]
    dsimp only
    rw [i1, sel_t, oCut_y (by omega), sel_t, ok1, sel_t, e32, oCut_y (by omega), sel_t, ok2, sel_t]
    unfold F139
    rw [F116_eq s.1 (by omega), bnd_s, i1, sel_t]
    show bndS (some (lSet s.1 (k : Int) ((lAt s.1 (k : Int)).1, wrB (lAt s.1 (k : Int)).2 b), s.2)) _ = _
    rw [hset, bnd_s]
  · unfold F92 F145
    rw [known_eq h, if_pos (by dsimp only; omega), bnd_s, iEq_y rfl, nt, sel_f]
    dsimp only
    rw [hp, hb, i1, sel_t, let_s, let_s, w1.2, w2.2, nt, or_ff, sel_f, bnd_s, iEq_y rfl, nt, sel_f]
    dsimp only
    rw [i1, sel_t]
    unfold F127
    rw [oCut_y (by omega), sel_t, ok1, sel_t, hb, e32, oCut_y (by omega), sel_t, ok2, sel_t, bnd_s]
    unfold F146
    rw [h18, bnd_s, i1, sel_t]
    show bndS (some (lSet s.1 (k : Int) ((lAt s.1 (k : Int)).1, wrB (lAt s.1 (k : Int)).2 b), s.2)) _ = _
    rw [hset, bnd_s]
theorem F54_0 (k : Nat) (hk : k ≤ 1000) : F54 0 k = some (sOf (List.replicate k 0)) := by
  unfold F54 L54_0
  have h := iter_run (B := fun (x : (Int × (Int × ((List Int) × Int)))) => (B54_0 x.1 x.2.1 x.2.2.1 x.2.2.2)) (fun i => ((0 : Int), ((k : Int), (List.replicate i (0 : Int), (i : Int))))) (r := List.replicate k (0 : Int)) k (by omega) ?_ ?_
  · have h' : iter (fun (x : (Int × (Int × ((List Int) × Int)))) => (B54_0 x.1 x.2.1 x.2.2.1 x.2.2.2)) fuel ((0 : Int), ((k : Int), (([] : List Int), 0))) = some (List.replicate k (0 : Int)) := by
      simpa using h
    rw [h']
    rfl
  · intro i hi
    show B54_0 0 k (List.replicate i (0 : Int)) i = _
    unfold B54_0
    rw [sel_pos (by rw [iLt_t]; omega), sel_pos (by rw [lCap_t, app_len]; unfold lLen; simp; omega), add_w (by unfold fits; omega)]
    have e3 : lApp (List.replicate i (0 : Int)) [0] = List.replicate (i + 1) 0 := by
      rw [List.replicate_succ']
      rfl
    rw [e3]
    rfl
  · show B54_0 0 k (List.replicate k (0 : Int)) k = _
    unfold B54_0
    rw [sel_neg (by rw [bf_t, iLt_t]; omega)]
theorem FRepeat_0 (k : Nat) (hk : k ≤ 1000) : FRepeat (bs [0]) k = some (sOf (List.replicate k 0)) := by
  unfold FRepeat
  rw [sel_pos]
  · congr 1
    apply by_inj
    rw [by_sOf (by intro b hb; rw [List.eq_of_mem_replicate hb]; decide), show ((k : Int)).toNat = k by omega]
    unfold sBy
    clear hk
    induction k with
    | zero => rfl
    | succ k ih =>
      exact congrArg ((0 : Int) :: ·) ih
  · have : (bs [0]).size = 1 := rfl
    simp [this]
    omega
/-- A new segment: alike, or the same error. -/
theorem new_eq {s : STO} (h : okL s) (p : Int) : (∃ c, c ≠ 0 ∧ F83 s p = some (([], 0), (0, c)) ∧ F91 s p = some ([], (0, (0, (bs [], c))))) ∨
    ((1 ≤ p ∧ p ≤ 8) ∧ s.1.length ≤ 9 ∧ s.2 ≤ 1000 ∧ ∃ z, sLen z = 32 * p ∧ F83 s p = some ((s.1 ++ [(s.2, z)], s.2 + 1), (s.2, 0)) ∧ F91 s p = some (s.1 ++ [(s.2, z)], (s.2 + 1, (s.2, (bs [], 0))))) := by
  have hl := h.len
  have hx := h.nx
  unfold F83 F91
  rw [h.check.1, h.check.2, bnd_s, bnd_s, iEq_y rfl, nt, sel_f, sel_f, let_s, let_s]
  have e1 : F109 p 1 8 = F35 p 1 8 := rfl
  rw [e1]
  by_cases hp : 1 ≤ p ∧ p ≤ 8
  · have e2 : F35 p 1 8 = true := by unfold F35; rw [iLe_y hp.1, iLe_y hp.2]; rfl
    rw [e2, nt, sel_f, sel_f]
    by_cases hf : s.1.length = 10 ∨ 1000 < s.2
    · have c1 : sel (iEq (lLen s.1) 10) (iEq (lLen s.1) 10) (iLt 1000 s.2) = true := by
        rw [selB_t, iEq_t, iLt_t, bf_t, iEq_t]; unfold lLen; omega
      have c2 : bOr (iEq (lLen s.1) 10) (iLt 1000 s.2) = true := by
        rw [or_t, iEq_t, iLt_t]; unfold lLen; omega
      rw [c1, c2, sel_t, sel_t]
      exact .inl ⟨30, by decide, rfl, rfl⟩
    · have c1 : sel (iEq (lLen s.1) 10) (iEq (lLen s.1) 10) (iLt 1000 s.2) = false := by
        rw [bf_t, selB_t, iEq_t, iLt_t, bf_t, iEq_t]; unfold lLen; omega
      have c2 : bOr (iEq (lLen s.1) 10) (iLt 1000 s.2) = false := by
        rw [bf_t, or_t, iEq_t, iLt_t]; unfold lLen; omega
      rw [c1, c2, sel_f, sel_f, F116_eq s.1 (by omega), bnd_s, F18_eq s (by omega), bnd_s]
      obtain ⟨q, rfl⟩ := Int.eq_ofNat_of_zero_le (by omega : 0 ≤ p)
      have e3 : iMul .i64 ((q : Nat) : Int) 32 = ((q * 32 : Nat) : Int) := by rw [mul_n (by omega) (by omega)]; omega
      unfold F137 F74
      rw [e3, FRepeat_0 _ (by omega), F54_0 _ (by omega)]
      simp only [bnd_s]
      have hlc : lApp s.1 [(s.2, sOf (List.replicate (q * 32) 0))] = s.1 ++ [(s.2, sOf (List.replicate (q * 32) 0))] := rfl
      rw [hlc, lCap_y (by decide) (by decide) (by rw [List.length_append]; simp; omega), sel_t, sel_t, add_n (by omega) (by omega)]
      refine .inr ⟨hp, by omega, by omega, _, ?_, rfl, rfl⟩
      rw [sOf_len (by intro b hb; rw [List.eq_of_mem_replicate hb]; decide), List.length_replicate]
      omega
  · have e2 : F35 p 1 8 = false := by unfold F35; rw [bf_t, and_t, iLe_t, iLe_t]; exact hp
    rw [e2, nf, sel_t, sel_t]
    exact .inl ⟨3, by decide, rfl, rfl⟩
end Go.Proofs.YtiddpfhpmodfbaaGreatDoor.K
end

section
set_option linter.unusedVariables false
set_option linter.unusedSimpArgs false
set_option linter.unnecessarySimpa false
open Go Go.Ev
namespace Go.Proofs.YtiddpfhpmodfbaaGreatDoor.K
theorem less_trans : ∀ a b c : List UInt8, Op.bytesLess a b = true → Op.bytesLess b c = true → Op.bytesLess a c = true
  | _, b, [], _, h => by cases b <;> cases h
  | [], _, _ :: _, _, _ => rfl
  | _ :: _, [], _ :: _, h, _ => by cases h
  | a :: x, b :: y, c :: z, h1, h2 => by
    simp only [Op.bytesLess, Bool.or_eq_true, Bool.and_eq_true, decide_eq_true_eq, beq_iff_eq] at *
    rcases h1 with h1 | ⟨rfl, h1⟩
    · rcases h2 with h2 | ⟨rfl, h2⟩
      · exact .inl (UInt8.lt_trans h1 h2)
      · exact .inl h1
    · rcases h2 with h2 | ⟨rfl, h2⟩
      · exact .inl h2
      · exact .inr ⟨rfl, less_trans x y z h1 h2⟩
theorem sLt_trans {a b c : ByteArray} (h1 : sLt a b = true) (h2 : sLt b c = true) : sLt a c = true := less_trans _ _ _ h1 h2
/-- A name stands before another one. -/
def bf (a b : NAM) : Bool := if a.1 = b.1 then (if a.2.1 = b.2.1 then iLt a.2.2 b.2.2 else sLt a.2.1 b.2.1) else sLt a.1 b.1
theorem F115_bf (a b : NAM) : F115 a b = some (bf a b) := by
  unfold F115 bf
  by_cases h1 : a.1 = b.1
  · rw [sEq_y h1, nt, sel_f, if_pos h1]
    by_cases h2 : a.2.1 = b.2.1
    · rw [sEq_y h2, nt, sel_f, if_pos h2]
    · rw [sEq_f h2, nf, sel_t, if_neg h2]
  · rw [sEq_f h1, nf, sel_t, if_neg h1]
theorem bf_irr (a : NAM) : bf a a = false := by
  unfold bf; rw [if_pos rfl, if_pos rfl, iLt_f (by omega)]
theorem bf_trans {a b c : NAM} (h1 : bf a b = true) (h2 : bf b c = true) : bf a c = true := by
  unfold bf at *
  by_cases e1 : a.1 = b.1
  · rw [if_pos e1] at h1
    by_cases e2 : b.1 = c.1
    · rw [if_pos e2] at h2
      rw [if_pos (e1.trans e2)]
      by_cases f1 : a.2.1 = b.2.1
      · rw [if_pos f1] at h1
        by_cases f2 : b.2.1 = c.2.1
        · rw [if_pos f2] at h2
          rw [if_pos (f1.trans f2)]
          rw [iLt_t] at *
          omega
        · rw [if_neg f2] at h2
          rw [f1, if_neg f2]; exact h2
      · rw [if_neg f1] at h1
        by_cases f2 : b.2.1 = c.2.1
        · rw [← f2, if_neg f1]; exact h1
        · rw [if_neg f2] at h2
          have := sLt_trans h1 h2
          rw [if_neg (fun e => by rw [e, sLt_irr] at this; cases this)]; exact this
    · rw [if_neg e2] at h2
      rw [e1, if_neg e2]; exact h2
  · rw [if_neg e1] at h1
    by_cases e2 : b.1 = c.1
    · rw [← e2, if_neg e1]; exact h1
    · rw [if_neg e2] at h2
      have := sLt_trans h1 h2
      rw [if_neg (fun e => by rw [e, sLt_irr] at this; cases this)]; exact this
theorem bf_asym {a b : NAM} (h : bf a b = true) : bf b a = false := by
  rw [bf_t]; intro h2
  have := bf_trans h h2
  rw [bf_irr] at this; cases this
theorem F141_eq (a b : DE) : ∃ v, F141 a b = some v ∧ iLt v 0 = bf a.1 b.1 := by
  obtain ⟨v, c, h1, h2, h3⟩ := order_eq a.1 b.1
  rw [F115_bf] at h2
  cases h2
  unfold F141
  rw [h1]
  refine ⟨v, rfl, ?_⟩
  rw [Bool.eq_iff_iff] at h3 ⊢
  rw [iLe_t, not_t, bf_t] at h3
  rw [iLt_t]
  constructor
  · intro h
    by_cases h5 : bf a.1 b.1 = true
    · exact h5
    · have := h3.2 h5; omega
  · intro h
    by_cases h5 : v < 0
    · exact h5
    · exact absurd h (h3.1 (by omega))
/-- A sorted directory. -/
def srt (l : List DE) : Prop := l.Pairwise (fun a b => bf a.1 b.1 = true)
/-- An entry more, at its place. -/
def ins (d : DE) : List DE → List DE
  | [] => [d]
  | a :: l => if bf d.1 a.1 = true then d :: a :: l else a :: ins d l
theorem ins_perm (d : DE) : ∀ l, (ins d l).Perm (d :: l)
  | [] => List.Perm.refl _
  | a :: l => by
    unfold ins
    split
    · exact List.Perm.refl _
    · exact ((ins_perm d l).cons a).trans (List.Perm.swap ..)
theorem ins_len (d : DE) (l : List DE) : (ins d l).length = l.length + 1 := by
  rw [(ins_perm d l).length_eq, List.length_cons]
theorem ins_split {d : DE} {s : List DE} (hs : ∀ a, a ∈ s → bf d.1 a.1 = true) : ∀ {p : List DE}, (∀ a, a ∈ p → ¬ bf d.1 a.1 = true) → ins d (p ++ s) = p ++ d :: s
  | [], _ => by
    cases s with
    | nil => rfl
    | cons a s => exact if_pos (hs a (List.mem_cons_self ..))
  | a :: p, hp => by
    show (if bf d.1 a.1 = true then d :: a :: (p ++ s) else a :: ins d (p ++ s)) = _
    rw [if_neg (hp a (List.mem_cons_self ..)), ins_split hs (fun b hb => hp b (List.mem_cons_of_mem _ hb))]
    rfl
theorem swap_at (p s : List DE) (a d : DE) : lSet (lSet (p ++ a :: d :: s) ((p.length + 1 : Nat) : Int) (lAt (p ++ a :: d :: s) (p.length : Int))) (p.length : Int) (lAt (p ++ a :: d :: s) ((p.length + 1 : Nat) : Int)) = p ++ d :: a :: s := by
  unfold lSet lAt
  rw [Int.toNat_natCast, Int.toNat_natCast]
  simp
/-- The step of insertion sort goes down to the place. -/
theorem L195_in {l : List DE} {d : DE} {n i : Int} (hl : l.length ≤ 1000) (hs : srt l) :
    L195_2 (l ++ [d], (0, (n, (i, (l.length : Int))))) = some (ins d l, (0, (n, i))) := by
  have key : Ok (L195_2 (l ++ [d], (0, (n, (i, (l.length : Int)))))) (fun r => r = (ins d l, (0, (n, i)))) := by
    refine loop_inv (fun m x => ∃ p s : List DE, l = p ++ s ∧ x = (p ++ d :: s, ((0 : Int), (n, (i, (p.length : Int))))) ∧ (∀ a, a ∈ s → bf d.1 a.1 = true) ∧ m = p.length) l.length ⟨l, [], by simp, rfl, (fun a ha => by cases ha), rfl⟩ (by omega) ?_
    rintro m x ⟨p, s, rfl, rfl, ha, rfl⟩
    show Ok (B195_2 (p ++ d :: s) 0 n i (p.length : Int)) _
    unfold B195_2
    rcases List.eq_nil_or_concat p with rfl | ⟨p, b, rfl⟩
    · have c0 : iLt 0 (([] : List DE).length : Int) = false := rfl
      rw [c0, nf]
      have w : ∀ b : Bool, bOr b true = true := fun b => by cases b <;> rfl
      rw [w, w, w, sel_t, sel_t, sel_t, let_s, at_ff, sel_f, ok_some]
      show (d :: s, _) = _
      rw [show ins d ([] ++ s) = [] ++ d :: s from ins_split ha (fun a ha => by cases ha)]
      rfl
    · rw [List.concat_eq_append] at *
      have hl2 : p.length + 1 + s.length ≤ 1000 := by have h9 := hl; simp at h9; omega
      have hL : lLen (p ++ b :: d :: s) = ((p.length + s.length + 2 : Nat) : Int) := by unfold lLen; rw [List.length_append, List.length_cons, List.length_cons]; omega
      have hp : (p ++ [b]).length = p.length + 1 := by simp
      have e0 : p ++ [b] ++ d :: s = p ++ b :: d :: s := by simp
      rw [hp, e0]
      have g1 : lAt (p ++ b :: d :: s) ((p.length + 1 : Nat) : Int) = d := by
        rw [lAt_n]; simp [List.getElem?_append]
      have g2 : lAt (p ++ b :: d :: s) (p.length : Int) = b := by
        rw [lAt_n]; simp [List.getElem?_append]
      obtain ⟨v, v1, v2⟩ := F141_eq d b
      have c0 : iLt 0 ((p.length + 1 : Nat) : Int) = true := iLt_y (by omega)
      have e1 : iSub .i64 ((p.length + 1 : Nat) : Int) 1 = (p.length : Int) := by rw [sub_n (by omega) (by omega)]; omega
      have hs' := swap_at p s b d
      rw [g1, g2] at hs'
      rw [e1, c0, nt, g1, g2, v1, oIn_y (by rw [hL]; omega), oIn_y (by rw [hL]; omega), okS_s, or_tt, sel_t, sel_t, sel_t, valS_s, let_s, at_ft, v2]
      rw [set_len, oIn_y (a := (p.length : Int)) (by rw [hL]; omega), hs']
      cases hb : bf d.1 b.1 with
      | true =>
        rw [sel_t, sel_t, sel_t, sel_t, sel_t, ok_some]
        refine ⟨p.length, by omega, p, b :: s, by simp, rfl, fun a h5 => ?_, rfl⟩
        rcases List.mem_cons.1 h5 with rfl | h5
        · exact hb
        · exact ha a h5
      | false =>
        rw [sel_f, ok_some]
        have : ins d (p ++ [b] ++ s) = p ++ [b] ++ d :: s := by
          refine ins_split ha (fun a h5 => ?_)
          rcases List.mem_append.1 h5 with h5 | h5
          · have h6 := (List.pairwise_append.1 hs).1
            have h7 := (List.pairwise_append.1 h6).2.2 a h5 b (List.mem_singleton.2 rfl)
            intro h8
            -- before d means before b
            have h9 := bf_trans h8 h7
            rw [hb] at h9; cases h9
          · rw [List.mem_singleton.1 h5, hb]; decide
        rw [this, e0]
  rw [ok_is] at key
  exact key
theorem L195_st {l : List DE} {d : DE} {n : Int} {i : Nat} (hl : l.length ≤ 1000) (hs : srt l) (hi : 0 < i) (hi2 : i < l.length) :
    L195_2 (l ++ [d], (0, (n, ((i : Int), (i : Int))))) = some (l ++ [d], (0, (n, (i : Int)))) := by
  refine iter_e (n := 9999999) ?_
  show B195_2 (l ++ [d]) 0 n i i = _
  have hL : lLen (l ++ [d]) = ((l.length + 1 : Nat) : Int) := by unfold lLen; simp
  have g1 : lAt (l ++ [d]) (i : Int) = l[i] := by rw [lAt_n, List.getElem?_append_left hi2, List.getElem?_eq_getElem hi2]; rfl
  have g2 : lAt (l ++ [d]) ((i - 1 : Nat) : Int) = l[i - 1] := by rw [lAt_n, List.getElem?_append_left (by omega), List.getElem?_eq_getElem (by omega)]; rfl
  have e1 : iSub .i64 (i : Int) 1 = ((i - 1 : Nat) : Int) := by rw [sub_n (by omega) (by omega)]; omega
  obtain ⟨v, v1, v2⟩ := F141_eq l[i] l[i - 1]
  have hb : bf (l[i - 1]).1 (l[i]).1 = true := (List.pairwise_iff_getElem.1 hs) (i - 1) i (by omega) hi2 (by omega)
  unfold B195_2
  rw [e1, g1, g2, v1, oIn_y (by rw [hL]; omega), oIn_y (by rw [hL]; omega), okS_s, or_tt, sel_t, sel_t, sel_t, valS_s, let_s, v2, bf_asym hb, iLt_y (by omega), at_ft, sel_f]
theorem F195_eq {l : List DE} {d : DE} (hl : l.length ≤ 1000) (hs : srt l) : F195 (l ++ [d]) 0 ((l.length + 1 : Nat) : Int) = some (ins d l) := by
  have key : Ok (L195_0 (l ++ [d], (0, (((l.length + 1 : Nat) : Int), 1)))) (fun r => r = ins d l) := by
    refine loop_inv (fun m x => (∃ i : Nat, 1 ≤ i ∧ i ≤ l.length ∧ x = (l ++ [d], ((0 : Int), (((l.length + 1 : Nat) : Int), (i : Int)))) ∧ m = l.length + 1 - i) ∨ (x = (ins d l, ((0 : Int), (((l.length + 1 : Nat) : Int), ((l.length + 1 : Nat) : Int)))) ∧ m = 0)) l.length ?_ (by omega) ?_
    · cases l with
      | nil => exact .inr ⟨rfl, rfl⟩
      | cons a l => exact .inl ⟨1, by omega, by simp, rfl, by simp⟩
    · rintro m x (⟨i, h1, h2, rfl, rfl⟩ | ⟨rfl, rfl⟩)
      · show Ok (B195_0 (l ++ [d]) 0 ((l.length + 1 : Nat) : Int) i) _
        unfold B195_0
        rw [iLt_y (by omega), sel_t]
        by_cases h3 : i < l.length
        · rw [L195_st hl hs (by omega) h3, bnd_s, ok_some]
          refine ⟨l.length + 1 - (i + 1), by omega, .inl ⟨i + 1, by omega, by omega, ?_, rfl⟩⟩
          dsimp only
          rw [add_n (by omega) (by omega)]
          rfl
        · obtain rfl : i = l.length := by omega
          rw [L195_in hl hs, bnd_s, ok_some]
          refine ⟨0, by omega, .inr ⟨?_, rfl⟩⟩
          dsimp only
          rw [add_n (by omega) (by omega)]
          rfl
      · show Ok (B195_0 (ins d l) 0 ((l.length + 1 : Nat) : Int) ((l.length + 1 : Nat) : Int)) _
        unfold B195_0
        rw [iLt_f (by omega), sel_f, ok_some]
  rw [ok_is] at key
  unfold F195
  have e1 : iAdd .i64 0 1 = 1 := rfl
  rw [e1, key]
  rfl
theorem bits_len : ∀ n : Nat, n ≤ 12 → ∃ y, F126 (iCv .u64 (n : Int)) = some y := by
  have h : (List.range 13).all (fun n => (F126 (iCv .u64 (n : Int))).isSome) = true := by kernel_rfl
  intro n hn
  have := List.all_eq_true.1 h n (List.mem_range.2 (by omega))
  exact Option.isSome_iff_exists.1 this
theorem F140_eq {l : List DE} {d : DE} (hl : l.length ≤ 11) (hs : srt l) : F140 (l ++ [d]) = some (ins d l) := by
  have hL : lLen (l ++ [d]) = ((l.length + 1 : Nat) : Int) := by unfold lLen; simp
  obtain ⟨y, hy⟩ := bits_len (l.length + 1) (by omega)
  unfold F140
  rw [hL, hy, bnd_s]
  unfold F176
  have : L176_0 (l ++ [d], (0, (((l.length + 1 : Nat) : Int), (y, (true, true))))) = some (ins d l) := by
    refine iter_e (n := 9999999) ?_
    show B176_0 (l ++ [d]) 0 ((l.length + 1 : Nat) : Int) y true true = _
    unfold B176_0
    rw [sub_n (by omega) (by omega), iLe_y (by omega), sel_t, F195_eq (by omega) hs]
    rfl
  rw [this]
  rfl
theorem F85_eq {l : List DE} {d : DE} (s : List SEG) (n : Int) (q : List (Int × Int)) (hl : l.length ≤ 11) (hs : srt l) : F85 s n l q d = some (s, (n, (ins d l, q))) := by
  unfold F85
  rw [lCap_y (by decide) (by decide) (by simp [lApp]; omega), sel_t]
  show bndS (F140 (l ++ [d])) _ = _
  rw [F140_eq hl hs]
  rfl
end Go.Proofs.YtiddpfhpmodfbaaGreatDoor.K
end

section
set_option linter.unusedVariables false
set_option linter.unusedSimpArgs false
set_option linter.unnecessarySimpa false
open Go Go.Ev
namespace Go.Proofs.YtiddpfhpmodfbaaGreatDoor.K
theorem L93_eq (segs : List SEG) (nx : Int) (l : List DE) (q : List (Int × Int)) (d : DE) (hl : l.length ≤ 1000) :
    Ok (L93_0 ((segs, (l, q)), (nx, ((d.1.1, (d.1.2.1, (d.1.2.2, d.2))), ((0 : Int), (([] : List DE), (false, (0 : Int)))))))) (fun r => ∃ (acc : List DE) (b : Bool), r = ((segs, (l, q)), (nx, ((d.1.1, (d.1.2.1, (d.1.2.2, d.2))), ((0 : Int), (acc, b))))) ∧ acc.length ≤ 2000 ∧ (if b = true then acc else acc ++ [d]) = ins d l) := by
  have hL : lLen l = (l.length : Int) := rfl
  refine loop_inv (fun m x => ∃ (i : Nat) (acc : List DE) (b : Bool), i ≤ l.length ∧ acc.length ≤ 2 * i ∧ x = ((segs, (l, q)), (nx, ((d.1.1, (d.1.2.1, (d.1.2.2, d.2))), ((0 : Int), (acc, (b, (i : Int))))))) ∧ (if b = true then acc ++ l.drop i else acc ++ ins d (l.drop i)) = ins d l ∧ m = l.length - i) l.length ⟨0, [], false, by omega, by simp, rfl, rfl, rfl⟩ (by omega) ?_
  rintro m x ⟨i, acc, b, hi, ha, rfl, he, rfl⟩
  show Ok (B93_0 segs l q nx d.1.1 d.1.2.1 d.1.2.2 d.2.1 d.2.2 0 acc b i) _
  unfold B93_0
  by_cases hlt : i < l.length
  · have hd : l.drop i = l[i] :: l.drop (i + 1) := List.drop_eq_getElem_cons hlt
    have hat : lAt l (i : Int) = l[i] := lAt_lt hlt
    rw [hd] at he
    rw [iLt_y (by omega), sel_t, oIn_y (by omega), hat]
    rw [show F115 (d.1.1, (d.1.2.1, d.1.2.2)) (l[i]).1 = some (bf d.1 (l[i]).1) from F115_bf d.1 (l[i]).1, okS_s, or_tt, sel_t, sel_t, valS_s, let_s]
    cases b with
    | true =>
      rw [nt, at_ff, sel_f, sel_t, lCap_y (by decide) (by decide) (by simp [lApp]; omega), sel_t, add_n (by omega) (by omega), ok_some]
      refine ⟨l.length - (i + 1), by omega, i + 1, acc ++ [l[i]], true, by omega, by simp; omega, rfl, ?_, rfl⟩
      rw [if_pos rfl] at he ⊢
      rw [← he]; simp
    | false =>
      rw [nf, at_ft]
      rw [if_neg (by decide)] at he
      cases hb : bf d.1 (l[i]).1 with
      | true =>
        rw [sel_t, sel_t, lCap_y (by decide) (by decide) (by simp [lApp]; omega), sel_t, lCap_y (by decide) (by decide) (by simp [lApp]; omega), sel_t, add_n (by omega) (by omega), ok_some]
        refine ⟨l.length - (i + 1), by omega, i + 1, acc ++ [d] ++ [l[i]], true, by omega, by simp; omega, rfl, ?_, rfl⟩
        rw [if_pos rfl, ← he]
        show _ = acc ++ (if bf d.1 (l[i]).1 = true then _ else _)
        rw [if_pos hb]; simp
      | false =>
        rw [sel_f, sel_t, lCap_y (by decide) (by decide) (by simp [lApp]; omega), sel_t, add_n (by omega) (by omega), ok_some]
        refine ⟨l.length - (i + 1), by omega, i + 1, acc ++ [l[i]], false, by omega, by simp; omega, rfl, ?_, rfl⟩
        rw [if_neg (by decide), ← he]
        show _ = acc ++ (if bf d.1 (l[i]).1 = true then _ else _)
        rw [if_neg (by rw [hb]; decide)]; simp
  · rw [iLt_f (by omega), sel_f, ok_some]
    have hd : l.drop i = [] := List.drop_eq_nil_of_le (by omega)
    rw [hd] at he
    refine ⟨acc, b, rfl, by omega, ?_⟩
    rw [← he]
    cases b
    · rfl
    · simp
theorem F93_eq (segs : List SEG) (nx : Int) (l : List DE) (q : List (Int × Int)) (d : DE) (hl : l.length ≤ 1000) : F93 segs nx l q d = some (l, (segs, (nx, (ins d l, q)))) := by
  obtain ⟨r, hr, acc, b, rfl, ha, he⟩ := L93_eq segs nx l q d hl
  unfold F93
  show bndS (L93_0 ((segs, (l, q)), (nx, ((d.1.1, (d.1.2.1, (d.1.2.2, d.2))), ((0 : Int), (([] : List DE), (false, (0 : Int)))))))) _ = _
  rw [hr, bnd_s]
  dsimp only
  cases b with
  | true =>
    rw [nt, sel_f]
    rw [if_pos rfl] at he
    rw [he]
  | false =>
    rw [nf, sel_t]
    rw [if_neg (by decide)] at he
    have : lApp acc [((d.1.1, (d.1.2.1, d.1.2.2)), d.2)] = ins d l := he
    rw [this, lCap_y (by decide) (by decide) (by rw [ins_len]; omega), sel_t]

/-- The elements with another number. -/
theorem F87_ix (l : List SEG) (n : Int) (hl : l.length ≤ 1000) : (∃ i, i < l.length ∧ (lAt l (i : Int)).1 = n ∧ (∀ k, k < i → ¬ (lAt l (k : Int)).1 = n) ∧ F142_1 l n = some ((l, n), (i : Int))) ∨ ((∀ i, i < l.length → ¬ (lAt l (i : Int)).1 = n) ∧ F142_1 l n = some ((l, n), -1)) := by
  have hL : (∃ i, i < l.length ∧ (lAt l (i : Int)).1 = n ∧ (∀ k, k < i → ¬ (lAt l (k : Int)).1 = n) ∧ L142_0_1 ((l, n), (lLen l, 0)) = some (.inr ((l, n), (i : Int)))) ∨ ((∀ i, i < l.length → ¬ (lAt l (i : Int)).1 = n) ∧ L142_0_1 ((l, n), (lLen l, 0)) = some (.inl (l, n))) := by
    refine iter_first (fun i => ((l, n), (lLen l, (i : Int)))) (fun i => (lAt l (i : Int)).1 = n) l.length (fun i => Sum.inr ((l, n), (i : Int))) (Sum.inl (l, n)) (by omega) ?_ ?_ ?_
    · intro i hi hp
      show B142_0_1 l n (lLen l) i = some (.inl ((l, n), (lLen l, ((i + 1 : Nat) : Int))))
      unfold B142_0_1 F88
      rw [iLt_y (by unfold lLen; omega), oIn_y (by unfold lLen; omega), iEq_f hp, add_n (by omega) (by omega)]
      rfl
    · intro i hi hp
      show B142_0_1 l n (lLen l) i = _
      unfold B142_0_1 F88
      rw [iLt_y (by unfold lLen; omega), oIn_y (by unfold lLen; omega), iEq_y hp]
      rfl
    · show B142_0_1 l n (lLen l) l.length = _
      unfold B142_0_1
      rw [iLt_f (by unfold lLen; omega), sel_f]
  unfold F142_1
  rcases hL with ⟨i, h1, h2, h3, e⟩ | ⟨h1, e⟩
  · exact .inl ⟨i, h1, h2, h3, by rw [e]; rfl⟩
  · exact .inr ⟨h1, by rw [e]; rfl⟩
theorem F87_eq (l : List SEG) (n : Int) (hl : l.length ≤ 1000) : F87 l n = some (n, l.filter (fun g => decide (¬ g.1 = n))) := by
  unfold F87
  rcases F87_ix l n hl with ⟨i, h1, h2, h3, e⟩ | ⟨h1, e⟩
  rotate_left
  · rw [e, bnd_s, iEq_y rfl, sel_t, List.filter_eq_self.2]
    intro a ha
    obtain ⟨i, hi, rfl⟩ := mem_lAt ha
    exact decide_eq_true (h1 i hi)
  rw [e, bnd_s, iEq_f (by dsimp only; omega), sel_f]
  have hat : lAt l (i : Int) = l[i] := lAt_lt h1
  have hft : (l.take i).filter (fun g => decide (¬ g.1 = n)) = l.take i := by
    rw [List.filter_eq_self]
    intro a ha
    obtain ⟨k, hk, rfl⟩ := List.getElem_of_mem ha
    rw [List.length_take] at hk
    rw [List.getElem_take]
    have := h3 k (by omega)
    rw [lAt_lt (by omega : k < l.length)] at this
    exact decide_eq_true this
  have key : Ok (L87_0 ((l, n), ((i : Int), iAdd .i64 (i : Int) 1))) (fun r => ∃ q : List SEG, q.length = l.length ∧ r = ((q, n), ((l.filter (fun g => decide (¬ g.1 = n))).length : Int)) ∧ q.take (l.filter (fun g => decide (¬ g.1 = n))).length = l.filter (fun g => decide (¬ g.1 = n))) := by
    rw [add_n (by omega) (by omega)]
    refine loop_inv (fun m x => ∃ (q : List SEG) (a j : Nat), a < j ∧ j ≤ l.length ∧ q.length = l.length ∧ x = ((q, n), ((a : Int), (j : Int))) ∧ q.take a = (l.take j).filter (fun g => decide (¬ g.1 = n)) ∧ a = ((l.take j).filter (fun g => decide (¬ g.1 = n))).length ∧ q.drop j = l.drop j ∧ m = l.length - j) (l.length - (i + 1)) ?_ (by omega) ?_
    · refine ⟨l, i, i + 1, by omega, by omega, rfl, rfl, ?_, ?_, rfl, rfl⟩
      · rw [List.take_succ_eq_append_getElem h1, List.filter_append, hft]
        rw [hat] at h2
        simp [h2]
      · rw [List.take_succ_eq_append_getElem h1, List.filter_append, hft]
        rw [hat] at h2
        simp [h2]; omega
    · rintro m x ⟨q, a, j, ha, hj, hq, rfl, e1, e2, e3, rfl⟩
      show Ok (B87_0 q n a j) _
      have hqL : lLen q = (l.length : Int) := by unfold lLen; rw [hq]
      unfold B87_0 F88
      rw [hqL]
      by_cases hlt : j < l.length
      · have hqj : lAt q (j : Int) = l[j] := by
          rw [lAt_lt (by omega)]
          have h5 : (q.drop j)[0]? = (l.drop j)[0]? := by rw [e3]
          rw [List.getElem?_drop, List.getElem?_drop, Nat.add_zero, List.getElem?_eq_getElem (by omega), List.getElem?_eq_getElem hlt] at h5
          exact Option.some.inj h5
        rw [iLt_y (by omega), sel_t, oIn_y (by omega), sel_t, let_s, hqj]
        dsimp only
        by_cases hc : (l[j]).1 = n
        · rw [iEq_y hc, nt, sel_f, add_n (by omega) (by omega), ok_some]
          refine ⟨l.length - (j + 1), by omega, q, a, j + 1, by omega, by omega, hq, rfl, ?_, ?_, ?_, rfl⟩
          · rw [List.take_succ_eq_append_getElem hlt, List.filter_append, e1]; simp [hc]
          · rw [List.take_succ_eq_append_getElem hlt, List.filter_append, List.length_append, ← e2]; simp [hc]
          · rw [← List.drop_drop (i := 1) (j := j), e3, List.drop_drop]
        · rw [iEq_f hc, nf, sel_t, oIn_y (by omega), sel_t, add_n (by omega) (by omega), add_n (by omega) (by omega), ok_some]
          refine ⟨l.length - (j + 1), by omega, q.set a l[j], a + 1, j + 1, by omega, by omega, by rw [List.length_set]; exact hq, ?_, ?_, ?_, ?_, rfl⟩
          · show (((lSet q (a : Int) l[j], n), _) : _ × _) = _
            unfold lSet
            rw [Int.toNat_natCast]
            rfl
          · rw [List.take_succ_eq_append_getElem hlt, List.filter_append, ← e1, List.take_succ_eq_append_getElem (by rw [List.length_set]; omega), List.getElem_set_self, List.take_set_of_le (Nat.le_refl _)]; simp [hc]
          · rw [List.take_succ_eq_append_getElem hlt, List.filter_append, List.length_append, ← e2]; simp [hc]
          · rw [List.drop_set_of_lt (by omega), ← List.drop_drop (i := 1) (j := j), e3, List.drop_drop]
      · rw [iLt_f (by omega), sel_f, ok_some]
        obtain rfl : j = l.length := by omega
        rw [List.take_length] at e1 e2
        exact ⟨q, hq, by rw [← e2], by rw [← e2]; exact e1⟩
  obtain ⟨r, hr, q, hq, rfl, e3⟩ := key
  rw [hr, bnd_s]
  dsimp only
  have hfl : (l.filter (fun g => decide (¬ g.1 = n))).length ≤ l.length := List.length_filter_le _ _
  generalize hm : (l.filter (fun g => decide (¬ g.1 = n))).length = m at *
  have hqL : lLen q = (l.length : Int) := by unfold lLen; rw [hq]
  have hrp : ∀ z : SEG, (lCpy q (m : Int) (lLen q) (lRep (pSub (lLen q) (m : Int)) z)).take m = q.take m := fun z => cpy_take _ _ _ _ _ (by omega) (by omega)
  have hcl : ∀ z : SEG, lLen (lCpy q (m : Int) (lLen q) (lRep (pSub (lLen q) (m : Int)) z)) = (l.length : Int) := fun z => by
    unfold lCpy lRep pSub lLen
    rw [hq]
    simp only [List.length_append, List.length_take, List.length_drop, List.length_replicate]
    omega
  rw [hcl, hqL, oCut_y (by omega), sel_t, oCut_y (by omega), sel_t]
  rw [hqL] at hrp
  rw [cut_take, hrp, e3]

/-- The elements with another number. -/
theorem F89_ix (l : List (Int × Int)) (n : Int) (hl : l.length ≤ 1000) : (∃ i, i < l.length ∧ (lAt l (i : Int)).1 = n ∧ (∀ k, k < i → ¬ (lAt l (k : Int)).1 = n) ∧ F143_1 l n = some ((l, n), (i : Int))) ∨ ((∀ i, i < l.length → ¬ (lAt l (i : Int)).1 = n) ∧ F143_1 l n = some ((l, n), -1)) := by
  have hL : (∃ i, i < l.length ∧ (lAt l (i : Int)).1 = n ∧ (∀ k, k < i → ¬ (lAt l (k : Int)).1 = n) ∧ L143_0_1 ((l, n), (lLen l, 0)) = some (.inr ((l, n), (i : Int)))) ∨ ((∀ i, i < l.length → ¬ (lAt l (i : Int)).1 = n) ∧ L143_0_1 ((l, n), (lLen l, 0)) = some (.inl (l, n))) := by
    refine iter_first (fun i => ((l, n), (lLen l, (i : Int)))) (fun i => (lAt l (i : Int)).1 = n) l.length (fun i => Sum.inr ((l, n), (i : Int))) (Sum.inl (l, n)) (by omega) ?_ ?_ ?_
    · intro i hi hp
      show B143_0_1 l n (lLen l) i = some (.inl ((l, n), (lLen l, ((i + 1 : Nat) : Int))))
      unfold B143_0_1 F90
      rw [iLt_y (by unfold lLen; omega), oIn_y (by unfold lLen; omega), iEq_f hp, add_n (by omega) (by omega)]
      rfl
    · intro i hi hp
      show B143_0_1 l n (lLen l) i = _
      unfold B143_0_1 F90
      rw [iLt_y (by unfold lLen; omega), oIn_y (by unfold lLen; omega), iEq_y hp]
      rfl
    · show B143_0_1 l n (lLen l) l.length = _
      unfold B143_0_1
      rw [iLt_f (by unfold lLen; omega), sel_f]
  unfold F143_1
  rcases hL with ⟨i, h1, h2, h3, e⟩ | ⟨h1, e⟩
  · exact .inl ⟨i, h1, h2, h3, by rw [e]; rfl⟩
  · exact .inr ⟨h1, by rw [e]; rfl⟩
theorem F89_eq (l : List (Int × Int)) (n : Int) (hl : l.length ≤ 1000) : F89 l n = some (n, l.filter (fun g => decide (¬ g.1 = n))) := by
  unfold F89
  rcases F89_ix l n hl with ⟨i, h1, h2, h3, e⟩ | ⟨h1, e⟩
  rotate_left
  · rw [e, bnd_s, iEq_y rfl, sel_t, List.filter_eq_self.2]
    intro a ha
    obtain ⟨i, hi, rfl⟩ := mem_lAt ha
    exact decide_eq_true (h1 i hi)
  rw [e, bnd_s, iEq_f (by dsimp only; omega), sel_f]
  have hat : lAt l (i : Int) = l[i] := lAt_lt h1
  have hft : (l.take i).filter (fun g => decide (¬ g.1 = n)) = l.take i := by
    rw [List.filter_eq_self]
    intro a ha
    obtain ⟨k, hk, rfl⟩ := List.getElem_of_mem ha
    rw [List.length_take] at hk
    rw [List.getElem_take]
    have := h3 k (by omega)
    rw [lAt_lt (by omega : k < l.length)] at this
    exact decide_eq_true this
  have key : Ok (L89_0 ((l, n), ((i : Int), iAdd .i64 (i : Int) 1))) (fun r => ∃ q : List (Int × Int), q.length = l.length ∧ r = ((q, n), ((l.filter (fun g => decide (¬ g.1 = n))).length : Int)) ∧ q.take (l.filter (fun g => decide (¬ g.1 = n))).length = l.filter (fun g => decide (¬ g.1 = n))) := by
    rw [add_n (by omega) (by omega)]
    refine loop_inv (fun m x => ∃ (q : List (Int × Int)) (a j : Nat), a < j ∧ j ≤ l.length ∧ q.length = l.length ∧ x = ((q, n), ((a : Int), (j : Int))) ∧ q.take a = (l.take j).filter (fun g => decide (¬ g.1 = n)) ∧ a = ((l.take j).filter (fun g => decide (¬ g.1 = n))).length ∧ q.drop j = l.drop j ∧ m = l.length - j) (l.length - (i + 1)) ?_ (by omega) ?_
    · refine ⟨l, i, i + 1, by omega, by omega, rfl, rfl, ?_, ?_, rfl, rfl⟩
      · rw [List.take_succ_eq_append_getElem h1, List.filter_append, hft]
        rw [hat] at h2
        simp [h2]
      · rw [List.take_succ_eq_append_getElem h1, List.filter_append, hft]
        rw [hat] at h2
        simp [h2]; omega
    · rintro m x ⟨q, a, j, ha, hj, hq, rfl, e1, e2, e3, rfl⟩
      show Ok (B89_0 q n a j) _
      have hqL : lLen q = (l.length : Int) := by unfold lLen; rw [hq]
      unfold B89_0 F90
      rw [hqL]
      by_cases hlt : j < l.length
      · have hqj : lAt q (j : Int) = l[j] := by
          rw [lAt_lt (by omega)]
          have h5 : (q.drop j)[0]? = (l.drop j)[0]? := by rw [e3]
          rw [List.getElem?_drop, List.getElem?_drop, Nat.add_zero, List.getElem?_eq_getElem (by omega), List.getElem?_eq_getElem hlt] at h5
          exact Option.some.inj h5
        rw [iLt_y (by omega), sel_t, oIn_y (by omega), sel_t, let_s, hqj]
        dsimp only
        by_cases hc : (l[j]).1 = n
        · rw [iEq_y hc, nt, sel_f, add_n (by omega) (by omega), ok_some]
          refine ⟨l.length - (j + 1), by omega, q, a, j + 1, by omega, by omega, hq, rfl, ?_, ?_, ?_, rfl⟩
          · rw [List.take_succ_eq_append_getElem hlt, List.filter_append, e1]; simp [hc]
          · rw [List.take_succ_eq_append_getElem hlt, List.filter_append, List.length_append, ← e2]; simp [hc]
          · rw [← List.drop_drop (i := 1) (j := j), e3, List.drop_drop]
        · rw [iEq_f hc, nf, sel_t, oIn_y (by omega), sel_t, add_n (by omega) (by omega), add_n (by omega) (by omega), ok_some]
          refine ⟨l.length - (j + 1), by omega, q.set a l[j], a + 1, j + 1, by omega, by omega, by rw [List.length_set]; exact hq, ?_, ?_, ?_, ?_, rfl⟩
          · show (((lSet q (a : Int) l[j], n), _) : _ × _) = _
            unfold lSet
            rw [Int.toNat_natCast]
            rfl
          · rw [List.take_succ_eq_append_getElem hlt, List.filter_append, ← e1, List.take_succ_eq_append_getElem (by rw [List.length_set]; omega), List.getElem_set_self, List.take_set_of_le (Nat.le_refl _)]; simp [hc]
          · rw [List.take_succ_eq_append_getElem hlt, List.filter_append, List.length_append, ← e2]; simp [hc]
          · rw [List.drop_set_of_lt (by omega), ← List.drop_drop (i := 1) (j := j), e3, List.drop_drop]
      · rw [iLt_f (by omega), sel_f, ok_some]
        obtain rfl : j = l.length := by omega
        rw [List.take_length] at e1 e2
        exact ⟨q, hq, by rw [← e2], by rw [← e2]; exact e1⟩
  obtain ⟨r, hr, q, hq, rfl, e3⟩ := key
  rw [hr, bnd_s]
  dsimp only
  have hfl : (l.filter (fun g => decide (¬ g.1 = n))).length ≤ l.length := List.length_filter_le _ _
  generalize hm : (l.filter (fun g => decide (¬ g.1 = n))).length = m at *
  have hqL : lLen q = (l.length : Int) := by unfold lLen; rw [hq]
  have hrp : ∀ z : (Int × Int), (lCpy q (m : Int) (lLen q) (lRep (pSub (lLen q) (m : Int)) z)).take m = q.take m := fun z => cpy_take _ _ _ _ _ (by omega) (by omega)
  have hcl : ∀ z : (Int × Int), lLen (lCpy q (m : Int) (lLen q) (lRep (pSub (lLen q) (m : Int)) z)) = (l.length : Int) := fun z => by
    unfold lCpy lRep pSub lLen
    rw [hq]
    simp only [List.length_append, List.length_take, List.length_drop, List.length_replicate]
    omega
  rw [hcl, hqL, oCut_y (by omega), sel_t, oCut_y (by omega), sel_t]
  rw [hqL] at hrp
  rw [cut_take, hrp, e3]
end Go.Proofs.YtiddpfhpmodfbaaGreatDoor.K
end

section
set_option linter.unusedVariables false
set_option linter.unusedSimpArgs false
set_option linter.unnecessarySimpa false
open Go Go.Ev
namespace Go.Proofs.YtiddpfhpmodfbaaGreatDoor.K
theorem at_full (x : SYS) (n : NAM) (hl : x.2.1.length ≤ 1000) : (∃ i : Nat, i < x.2.1.length ∧ (lAt x.2.1 (i : Int)).1 = n ∧ F82 x n = some (i : Int) ∧ F45 x n = some (i : Int)) ∨ ((∀ d, d ∈ x.2.1 → d.1 ≠ n) ∧ F82 x n = some (-1) ∧ F45 x n = some (-1)) := by
  have hll : lLen x.2.1 = (x.2.1.length : Int) := rfl
  have hc : ∀ k : Nat, (bAnd (sEq (lAt x.2.1 (k : Int)).1.1 n.1) (bAnd (sEq (lAt x.2.1 (k : Int)).1.2.1 n.2.1) (iEq (lAt x.2.1 (k : Int)).1.2.2 n.2.2)) = true) = ((lAt x.2.1 (k : Int)).1.1 = n.1 ∧ (lAt x.2.1 (k : Int)).1.2.1 = n.2.1 ∧ (lAt x.2.1 (k : Int)).1.2.2 = n.2.2) := fun k => by rw [and_t, and_t, sEq_t, sEq_t, iEq_t]
  have hA : (∃ i, i < x.2.1.length ∧ ((lAt x.2.1 (i : Int)).1.1 = n.1 ∧ (lAt x.2.1 (i : Int)).1.2.1 = n.2.1 ∧ (lAt x.2.1 (i : Int)).1.2.2 = n.2.2) ∧ (∀ k, k < i → ¬ ((lAt x.2.1 (k : Int)).1.1 = n.1 ∧ (lAt x.2.1 (k : Int)).1.2.1 = n.2.1 ∧ (lAt x.2.1 (k : Int)).1.2.2 = n.2.2)) ∧ L113_0_1 ((n.1, (n.2.1, n.2.2)), (x.2.1, (lLen x.2.1, 0))) = some (.inr ((n.1, (n.2.1, n.2.2)), (i : Int)))) ∨ ((∀ i, i < x.2.1.length → ¬ ((lAt x.2.1 (i : Int)).1.1 = n.1 ∧ (lAt x.2.1 (i : Int)).1.2.1 = n.2.1 ∧ (lAt x.2.1 (i : Int)).1.2.2 = n.2.2)) ∧ L113_0_1 ((n.1, (n.2.1, n.2.2)), (x.2.1, (lLen x.2.1, 0))) = some (Sum.inl (n.1, (n.2.1, n.2.2)))) := by
    refine iter_first (fun i => ((n.1, (n.2.1, n.2.2)), (x.2.1, (lLen x.2.1, (i : Int))))) (fun i => (lAt x.2.1 (i : Int)).1.1 = n.1 ∧ (lAt x.2.1 (i : Int)).1.2.1 = n.2.1 ∧ (lAt x.2.1 (i : Int)).1.2.2 = n.2.2) x.2.1.length (fun i => Sum.inr ((n.1, (n.2.1, n.2.2)), (i : Int))) (Sum.inl (n.1, (n.2.1, n.2.2))) (by omega) ?_ ?_ ?_
    · intro i hi hp
      show B113_0_1 n.1 n.2.1 n.2.2 x.2.1 (lLen x.2.1) i = some (.inl ((n.1, (n.2.1, n.2.2)), (x.2.1, (lLen x.2.1, ((i + 1 : Nat) : Int)))))
      have w : bAnd (sEq (lAt x.2.1 (i : Int)).1.1 n.1) (bAnd (sEq (lAt x.2.1 (i : Int)).1.2.1 n.2.1) (iEq (lAt x.2.1 (i : Int)).1.2.2 n.2.2)) = false := by rw [bf_t, hc]; exact hp
      unfold B113_0_1 F136
      rw [iLt_y (by omega), sel_t, oIn_y (by omega), sel_t, let_s, w, sel_f, add_n (by omega) (by omega)]
      rfl
    · intro i hi hp
      have w : bAnd (sEq (lAt x.2.1 (i : Int)).1.1 n.1) (bAnd (sEq (lAt x.2.1 (i : Int)).1.2.1 n.2.1) (iEq (lAt x.2.1 (i : Int)).1.2.2 n.2.2)) = true := by rw [hc]; exact hp
      show B113_0_1 n.1 n.2.1 n.2.2 x.2.1 (lLen x.2.1) i = _
      unfold B113_0_1 F136
      rw [iLt_y (by omega), sel_t, oIn_y (by omega), sel_t, let_s, w, sel_t]
    · show B113_0_1 n.1 n.2.1 n.2.2 x.2.1 (lLen x.2.1) x.2.1.length = _
      unfold B113_0_1
      rw [iLt_f (by omega), sel_f]
  have hB : (∃ i, i < x.2.1.length ∧ ((lAt x.2.1 (i : Int)).1.1 = n.1 ∧ (lAt x.2.1 (i : Int)).1.2.1 = n.2.1 ∧ (lAt x.2.1 (i : Int)).1.2.2 = n.2.2) ∧ (∀ k, k < i → ¬ ((lAt x.2.1 (k : Int)).1.1 = n.1 ∧ (lAt x.2.1 (k : Int)).1.2.1 = n.2.1 ∧ (lAt x.2.1 (k : Int)).1.2.2 = n.2.2)) ∧ L45_0 (osy x, ((n.1, (n.2.1, n.2.2)), 0)) = some (.inr (i : Int))) ∨ ((∀ i, i < x.2.1.length → ¬ ((lAt x.2.1 (i : Int)).1.1 = n.1 ∧ (lAt x.2.1 (i : Int)).1.2.1 = n.2.1 ∧ (lAt x.2.1 (i : Int)).1.2.2 = n.2.2)) ∧ L45_0 (osy x, ((n.1, (n.2.1, n.2.2)), 0)) = some (Sum.inl ())) := by
    refine iter_first (fun i => (osy x, ((n.1, (n.2.1, n.2.2)), (i : Int)))) (fun i => (lAt x.2.1 (i : Int)).1.1 = n.1 ∧ (lAt x.2.1 (i : Int)).1.2.1 = n.2.1 ∧ (lAt x.2.1 (i : Int)).1.2.2 = n.2.2) x.2.1.length (fun i => Sum.inr (i : Int)) (Sum.inl ()) (by omega) ?_ ?_ ?_
    · intro i hi hp
      show B45_0 x.1.1 x.1.2 x.2.1 x.2.2 n.1 n.2.1 n.2.2 i = some (.inl (osy x, ((n.1, (n.2.1, n.2.2)), ((i + 1 : Nat) : Int))))
      have w : bAnd (sEq (lAt x.2.1 (i : Int)).1.1 n.1) (bAnd (sEq (lAt x.2.1 (i : Int)).1.2.1 n.2.1) (iEq (lAt x.2.1 (i : Int)).1.2.2 n.2.2)) = false := by rw [bf_t, hc]; exact hp
      unfold B45_0
      rw [iLt_y (by omega), sel_t, oIn_y (by omega), sel_t, w, sel_f, add_n (by omega) (by omega)]
      rfl
    · intro i hi hp
      have w : bAnd (sEq (lAt x.2.1 (i : Int)).1.1 n.1) (bAnd (sEq (lAt x.2.1 (i : Int)).1.2.1 n.2.1) (iEq (lAt x.2.1 (i : Int)).1.2.2 n.2.2)) = true := by rw [hc]; exact hp
      show B45_0 x.1.1 x.1.2 x.2.1 x.2.2 n.1 n.2.1 n.2.2 i = _
      unfold B45_0
      rw [iLt_y (by omega), sel_t, oIn_y (by omega), sel_t, w, sel_t]
    · show B45_0 x.1.1 x.1.2 x.2.1 x.2.2 n.1 n.2.1 n.2.2 x.2.1.length = _
      unfold B45_0
      rw [iLt_f (by omega), sel_f]
  unfold F82 F113_1 F45
  show (∃ i : Nat, _ ∧ _ ∧ _ ∧ bndS (L45_0 (osy x, ((n.1, (n.2.1, n.2.2)), 0))) _ = _) ∨ (_ ∧ _ ∧ bndS (L45_0 (osy x, ((n.1, (n.2.1, n.2.2)), 0))) _ = _)
  rcases hA with ⟨i, i1, i2, i3, e⟩ | ⟨i1, e⟩ <;> rcases hB with ⟨j, j1, j2, j3, e'⟩ | ⟨j1, e'⟩
  · obtain rfl := first_uniq i2 i3 j2 j3
    rw [e, e']
    exact .inl ⟨i, i1, Prod.ext i2.1 (Prod.ext i2.2.1 i2.2.2), rfl, rfl⟩
  · exact absurd i2 (j1 i i1)
  · exact absurd j2 (i1 j j1)
  · rw [e, e']
    refine .inr ⟨fun d hd he => ?_, rfl, rfl⟩
    obtain ⟨k, hk, rfl⟩ := mem_lAt hd
    exact i1 k hk ⟨by rw [he], by rw [he], by rw [he]⟩
/-- A right directory. -/
structure okD (s : STO) (l : List DE) : Prop where
  nm : ∀ d, d ∈ l → nmE d.1 = 0
  sg : ∀ d, d ∈ l → 1 ≤ d.2.1 ∧ d.2.1 ≤ s.2 - 1
  dm : ∀ d, d ∈ l → 0 ≤ d.2.2 ∧ d.2.2 ≤ 3
  ord : srt l
  dbl : l.Pairwise (fun a b => a.2.1 ≠ b.2.1)
theorem before_bf (x : SYS) (i : Nat) : before x (i : Int) = bf (lAt x.2.1 ((i : Int) - 1)).1 (lAt x.2.1 (i : Int)).1 := by
  unfold before; rw [F115_bf]; rfl
theorem okD_of {x : SYS} (h : okX x) : okD x.1 x.2.1 := by
  have key : ∀ i, i < x.2.1.length → nmE (lAt x.2.1 (i : Int)).1 = 0 ∧ ¬ (0 < i ∧ before x (i : Int) = false) ∧ ((1 ≤ (lAt x.2.1 (i : Int)).2.1 ∧ (lAt x.2.1 (i : Int)).2.1 ≤ x.1.2 - 1) ∧ (0 ≤ (lAt x.2.1 (i : Int)).2.2 ∧ (lAt x.2.1 (i : Int)).2.2 ≤ 3)) ∧ ¬ ∃ k, k < i ∧ (lAt x.2.1 (k : Int)).2.1 = (lAt x.2.1 (i : Int)).2.1 := fun i hi => by
    have := h.ent i hi
    unfold entE at this
    split at this
    · rename_i hn; exact absurd this hn
    · rename_i h1
      split at this
      · cases this
      · rename_i h2
        split at this
        · cases this
        · rename_i h3
          split at this
          · cases this
          · rename_i h4
            exact ⟨Classical.not_not.1 h1, h2, Classical.not_not.1 h3, h4⟩
  refine ⟨fun d hd => ?_, fun d hd => ?_, fun d hd => ?_, ?_, ?_⟩
  · obtain ⟨i, hi, rfl⟩ := mem_lAt hd; exact (key i hi).1
  · obtain ⟨i, hi, rfl⟩ := mem_lAt hd; exact (key i hi).2.2.1.1
  · obtain ⟨i, hi, rfl⟩ := mem_lAt hd; exact (key i hi).2.2.1.2
  · have st : ∀ i, 0 < i → i < x.2.1.length → bf (lAt x.2.1 ((i - 1 : Nat) : Int)).1 (lAt x.2.1 (i : Int)).1 = true := fun i h0 hi => by
      have := (key i hi).2.1
      rw [before_bf, show ((i : Int) - 1) = ((i - 1 : Nat) : Int) by omega] at this
      cases hb : bf (lAt x.2.1 ((i - 1 : Nat) : Int)).1 (lAt x.2.1 (i : Int)).1 with
      | true => rfl
      | false => exact absurd ⟨h0, hb⟩ this
    have adj : ∀ d i, i + d + 1 < x.2.1.length → bf (lAt x.2.1 (i : Int)).1 (lAt x.2.1 ((i + d + 1 : Nat) : Int)).1 = true := fun d => by
      induction d with
      | zero => intro i hi; exact st (i + 1) (by omega) hi
      | succ d ih =>
        intro i hi
        exact bf_trans (ih i (by omega)) (st (i + (d + 1) + 1) (by omega) hi)
    unfold srt
    rw [List.pairwise_iff_getElem]
    intro i j hi hj hij
    have := adj (j - i - 1) i (by omega)
    rw [show i + (j - i - 1) + 1 = j by omega, lAt_lt hi, lAt_lt hj] at this
    exact this
  · rw [List.pairwise_iff_getElem]
    intro i j hi hj hij he
    refine (key j hj).2.2.2 ⟨i, hij, ?_⟩
    rw [lAt_lt hi, lAt_lt hj]; exact he
theorem place_new {l : List SEG} {n : Int} (h : ∀ g, g ∈ l → g.1 ≠ n) (z : ByteArray) : place (l ++ [(n, z)]) n = (l.length : Int) := by
  induction l with
  | nil => show (if n = n then _ else _) = _; rw [if_pos rfl]; rfl
  | cons g l ih =>
    have := ih (fun a ha => h a (List.mem_cons_of_mem _ ha))
    show (if g.1 = n then (0 : Int) else if place (l ++ [(n, z)]) n = -1 then -1 else place (l ++ [(n, z)]) n + 1) = _
    rw [if_neg (h g (List.mem_cons_self ..)), this, if_neg (by omega), List.length_cons]
    omega
theorem okL.new {s : STO} (h : okL s) (hl : s.1.length ≤ 9) (hn : s.2 ≤ 1000) {z : ByteArray} {p : Int} (hp : 1 ≤ p ∧ p ≤ 8) (hz : sLen z = 32 * p) : okL (s.1 ++ [(s.2, z)], s.2 + 1) := by
  have hx := h.nx
  refine ⟨by simp; omega, by dsimp only; omega, fun g hg => ?_, ?_⟩
  · rcases List.mem_append.1 hg with h1 | h1
    · have := h.sg g h1
      dsimp only
      omega
    · rw [List.mem_singleton.1 h1]
      dsimp only
      omega
  · refine List.pairwise_append.2 ⟨h.ord, List.pairwise_singleton .., fun a ha b hb => ?_⟩
    rw [List.mem_singleton.1 hb]
    have := (h.sg a ha).1
    dsimp only
    omega
theorem created_two {x : SYS} (hf : fewX x) (h2 : fits x.1.2) (a : NAM) (p : Int) : ∃ (z : OSY) (n e : Int), F37 x a p = some (z, (n, e)) ∧ F39 x a p = some (z.1, (z.2.1, (z.2.2.1, (z.2.2.2, ([], (n, e)))))) ∧ z.1.length ≤ 1000 ∧ z.2.2.1.length ≤ 1000 ∧ z.2.2.2.length ≤ 1000 := by
  obtain ⟨r, e19, e21, hok⟩ := check_two hf h2
  have e34 : F34 x = some r.2 := by unfold F34; rw [e21]; rfl
  unfold F37 F39 F81
  rw [e19, e34, bnd_s, bnd_s]
  by_cases hr : r.2 = 0
  rotate_left
  · rw [iEq_f hr, nf, sel_t, sel_t, bnd_s, iEq_f hr, nf, sel_t]
    exact ⟨([], (0, ([], []))), 0, r.2, rfl, rfl, by simp, by simp, by simp⟩
  obtain ⟨hX, _⟩ := hok hr
  rw [iEq_y hr, nt, sel_f, sel_f, (nmE_eq a).1, (nmE_eq a).2, bnd_s, bnd_s, bnd_s]
  by_cases hn : nmE a = 0
  rotate_left
  · rw [iEq_f hn, nf, sel_t, sel_t]
    exact ⟨([], (0, ([], []))), 0, nmE a, rfl, rfl, by simp, by simp, by simp⟩
  rw [iEq_y hn, nt, sel_f, sel_f]
  have hd := hX.dir
  rcases at_full x a (by omega) with ⟨i, h1, h3, e1, e2⟩ | ⟨h1, e1, e2⟩
  · rw [e1, e2, bnd_s, bnd_s, iLe_y (by omega), sel_t, iEq_f (by omega), nf, sel_t]
    exact ⟨([], (0, ([], []))), 0, 12, rfl, rfl, by simp, by simp, by simp⟩
  rw [e1, e2, bnd_s, bnd_s, iLe_f (by omega), sel_f, iEq_y rfl, nt, sel_f]
  by_cases h12 : x.2.1.length = 12
  · rw [iEq_y (by unfold lLen; omega), sel_t, sel_t]
    exact ⟨([], (0, ([], []))), 0, 2, rfl, rfl, by simp, by simp, by simp⟩
  rw [iEq_f (by unfold lLen; omega), sel_f, sel_f]
  have hL := okL_of hX.st
  have hD := okD_of hX
  rcases new_eq hL p with ⟨c, hc, c1, c2⟩ | ⟨hp, hl9, hn1, z, hz, c1, c2⟩
  · rw [c1, c2, bnd_s, bnd_s]
    dsimp only
    rw [iEq_f hc, nf, sel_t, sel_t]
    exact ⟨([], (0, ([], []))), 0, c, rfl, rfl, by simp, by simp, by simp⟩
  obtain ⟨hd1, r1, r2, r3⟩ := head_eq a p hn hp
  have hN := hL.new hl9 hn1 hp hz
  have hpl := place_new (l := x.1.1) (n := x.1.2) (fun g hg => by have := (hL.sg g hg).1; omega) z
  have hx := hL.nx
  obtain ⟨w1, w2⟩ := wr_eq hN (n := x.1.2) (by omega) (k := x.1.1.length) (by simp) hpl r3
  rw [c1, c2, bnd_s, bnd_s]
  dsimp only
  rw [iEq_y rfl, nt, sel_f, sel_f, F69_eq hf, own_eq hf, bnd_s, bnd_s, r1, r2, bnd_s, bnd_s, w1, w2, bnd_s, bnd_s]
  dsimp only
  rw [F85_eq _ _ _ (by omega) hD.ord, F93_eq _ _ _ _ _ (by omega), bnd_s, bnd_s]
  have hl3 := hf.2.2
  exact ⟨_, _, 0, rfl, rfl, by rw [List.length_set, List.length_append]; simp; omega, by rw [ins_len]; omega, by dsimp only; omega⟩
theorem filter_none {l : List SEG} {n : Int} (h : place l n = -1) : l.filter (fun g => decide (¬ g.1 = n)) = l := by
  rw [List.filter_eq_self]
  intro a ha
  obtain ⟨i, hi, rfl⟩ := mem_lAt ha
  rcases place_cases n l with ⟨k, _, _, _, e⟩ | ⟨h1, _⟩
  · omega
  · exact decide_eq_true (h1 i hi)
theorem filter_erase {n : Int} : ∀ {l : List SEG} {k : Nat}, l.Pairwise (fun a b => a.1 < b.1) → k < l.length → (lAt l (k : Int)).1 = n → l.filter (fun g => decide (¬ g.1 = n)) = l.eraseIdx k
  | [], _, _, h, _ => by simp at h
  | g :: l, 0, ho, _, he => by
    have he : g.1 = n := he
    have := (List.pairwise_cons.1 ho).1
    rw [List.eraseIdx_cons_zero, List.filter_cons_of_neg (by simp [he]), List.filter_eq_self]
    intro a ha
    have := this a ha
    exact decide_eq_true (by omega)
  | g :: l, k + 1, ho, hk, he => by
    rw [lAt_succ] at he
    have hk : k < l.length := by simpa using hk
    have ho := List.pairwise_cons.1 ho
    have := ho.1 _ (lAt_mem hk)
    rw [List.eraseIdx_cons_succ, List.filter_cons_of_pos (by rw [he] at this; exact decide_eq_true (by omega)), filter_erase ho.2 hk he]
abbrev flt (l : List (Int × Int)) (n : Int) : List (Int × Int) := l.filter (fun g => decide (¬ g.1 = n))
def hs40 (x : SYS) (segs : List SEG) (nx : Int) (dir : List DE) (n : Int) (out : List (Int × Int)) (i : Int) : ((OSY × ((Int × (Int × Int)) × (((List SEG) × (Int × (List DE))) × (Int × Int)))) ⊕ (OSY × ((Int × (Int × Int)) × (OSY × (Int × Int))))) :=
  match out with
  | [] => .inl (osy x, (z3, ((segs, (nx, dir)), (n, i))))
  | a :: r => .inr (osy x, (z3, ((segs, (nx, (dir, a :: r))), (n, i))))
def he40 (segs : List SEG) (nx : Int) (dir : List DE) (out : List (Int × Int)) : (((Int × (Int × Int)) × ((List SEG) × (Int × (List DE)))) ⊕ ((Int × (Int × Int)) × OSY)) :=
  match out with
  | [] => .inl (z3, (segs, (nx, dir)))
  | a :: r => .inr (z3, (segs, (nx, (dir, a :: r))))
theorem L40_eq (x : SYS) (segs : List SEG) (nx : Int) (dir : List DE) (n : Int) (hl : x.2.2.length ≤ 1000) : L40_0 (.inl (osy x, (z3, ((segs, (nx, dir)), (n, 0))))) = some (he40 segs nx dir (flt x.2.2 n)) := by
  have hll : lLen x.2.2 = (x.2.2.length : Int) := rfl
  have hs : ∀ i, i < x.2.2.length → flt (x.2.2.take (i + 1)) n = flt (x.2.2.take i) n ++ (if (lAt x.2.2 (i : Int)).1 = n then [] else [lAt x.2.2 (i : Int)]) := fun i hi => by
    unfold flt
    rw [List.take_succ_eq_append_getElem hi, List.filter_append, lAt_lt hi]
    by_cases hc : (x.2.2[i]).1 = n
    · simp [hc]
    · simp [hc]
  have hfl : ∀ i, (flt (x.2.2.take i) n).length ≤ x.2.2.length := fun i => by
    have := List.length_filter_le (fun g => decide (¬ g.1 = n)) (x.2.2.take i)
    rw [List.length_take] at this
    unfold flt
    omega
  have := iter_run (B := fun x => (sumS x (fun x => (B40_0h0 x.1.1 x.1.2.1 x.1.2.2.1 x.1.2.2.2 x.2.1.1 x.2.1.2.1 x.2.1.2.2 x.2.2.1.1 x.2.2.1.2.1 x.2.2.1.2.2 x.2.2.2.1 x.2.2.2.2)) fun x => (B40_0h1 x.1.1 x.1.2.1 x.1.2.2.1 x.1.2.2.2 x.2.1.1 x.2.1.2.1 x.2.1.2.2 x.2.2.1.1 x.2.2.1.2.1 x.2.2.1.2.2.1 x.2.2.1.2.2.2 x.2.2.2.1 x.2.2.2.2))) (fun i => hs40 x segs nx dir n (flt (x.2.2.take i) n) (i : Int)) (r := he40 segs nx dir (flt x.2.2 n)) x.2.2.length (by omega) ?_ ?_
  · exact this
  · intro i hi
    rw [hs i hi]
    have h5 := hfl i
    generalize flt (x.2.2.take i) n = out at *
    cases out with
    | nil =>
      show B40_0h0 x.1.1 x.1.2 x.2.1 x.2.2 0 0 0 segs nx dir n i = _
      unfold B40_0h0
      rw [iLt_y (by omega), sel_t, oIn_y (by omega), sel_t, sel_t, add_n (by omega) (by omega)]
      by_cases hc : (lAt x.2.2 (i : Int)).1 = n
      · rw [iEq_y hc, nt, sel_f, if_pos hc]; rfl
      · rw [iEq_f hc, nf, sel_t, if_neg hc, lCap_y (by decide) (by decide) (by simp), sel_t]; rfl
    | cons a r =>
      show B40_0h1 x.1.1 x.1.2 x.2.1 x.2.2 0 0 0 segs nx dir (a :: r) n i = _
      unfold B40_0h1
      rw [iLt_y (by omega), sel_t, oIn_y (by omega), sel_t, sel_t, add_n (by omega) (by omega)]
      by_cases hc : (lAt x.2.2 (i : Int)).1 = n
      · rw [iEq_y hc, nt, sel_f, if_pos hc, List.append_nil]; rfl
      · rw [iEq_f hc, nf, sel_t, if_neg hc, lCap_y (by decide) (by decide) (by simp [lApp] at h5 ⊢; omega), sel_t]; rfl
  · rw [List.take_length]
    generalize flt x.2.2 n = out
    cases out with
    | nil =>
      show B40_0h0 x.1.1 x.1.2 x.2.1 x.2.2 0 0 0 segs nx dir n x.2.2.length = _
      unfold B40_0h0
      rw [iLt_f (by omega), sel_f]; rfl
    | cons a r =>
      show B40_0h1 x.1.1 x.1.2 x.2.1 x.2.2 0 0 0 segs nx dir (a :: r) n x.2.2.length = _
      unfold B40_0h1
      rw [iLt_f (by omega), sel_f]; rfl
theorem destroyed_two {x : SYS} (hf : fewX x) (h2 : fits x.1.2) (a : NAM) : ∃ (z : OSY) (e : Int), F38 x a = some (z, e) ∧ F40 x a = some (z.1, (z.2.1, (z.2.2.1, (z.2.2.2, ([], (0, e)))))) ∧ z.1.length ≤ 1000 ∧ z.2.2.1.length ≤ 1000 ∧ z.2.2.2.length ≤ 1000 := by
  obtain ⟨r, e19, e21, hok⟩ := check_two hf h2
  have e34 : F34 x = some r.2 := by unfold F34; rw [e21]; rfl
  have two : (∃ c, c ≠ 0 ∧ F31 x a = some (0, c) ∧ F33 x a = some (0, c)) ∨ (okX x ∧ ∃ i : Nat, i < x.2.1.length ∧ F31 x a = some ((i : Int), 0) ∧ F33 x a = some ((i : Int), 0)) := by
    unfold F31 F33 F81
    rw [e19, e34, bnd_s, bnd_s]
    by_cases hr : r.2 = 0
    · have hX := (hok hr).1
      rw [iEq_y hr, nt, sel_f, sel_f, (nmE_eq a).1, (nmE_eq a).2, bnd_s, bnd_s, bnd_s]
      by_cases hn : nmE a = 0
      · rw [iEq_y hn, nt, sel_f, sel_f]
        rcases at_full x a (by have := hX.dir; omega) with ⟨i, h1, h3, e1, e2⟩ | ⟨h1, e1, e2⟩
        · rw [e1, e2, bnd_s, bnd_s, iLe_y (by omega), iEq_f (by omega)]
          exact .inr ⟨hX, i, h1, rfl, rfl⟩
        · rw [e1, e2]
          exact .inl ⟨11, by decide, rfl, rfl⟩
      · rw [iEq_f hn, nf, sel_t, sel_t]
        exact .inl ⟨_, hn, rfl, rfl⟩
    · rw [iEq_f hr, nf, sel_t, sel_t, bnd_s, iEq_f hr, nf, sel_t]
      exact .inl ⟨_, hr, rfl, rfl⟩
  unfold F38 F40
  rcases two with ⟨c, hc, e1, e2⟩ | ⟨hX, i, hi, e1, e2⟩
  · rw [e1, e2, bnd_s, bnd_s]
    dsimp only
    rw [iEq_f hc, nf, sel_t, sel_t]
    exact ⟨([], (0, ([], []))), c, rfl, rfl, by simp, by simp, by simp⟩
  have hL := okL_of hX.st
  have hD := okD_of hX
  have hd := hX.dir
  have hl10 := hL.len
  have hl3 := hf.2.2
  have hx := hL.nx
  have hsg := hD.sg _ (lAt_mem hi)
  rw [e1, e2, bnd_s, bnd_s]
  dsimp only
  rw [iEq_y rfl, nt, sel_f, sel_f, F69_eq hf, own_eq hf, bnd_s, bnd_s, oIn_y (by unfold lLen; omega), sel_t, sel_t, F86_eq _ i hi (by omega), bnd_s]
  dsimp only
  rw [F87_eq _ _ (by omega), bnd_s]
  dsimp only
  rw [F89_eq _ _ (by omega), bnd_s]
  have e94 : F94 x.1.1 x.1.2 x.2.1 x.2.2 (i : Int) = some (x.2.1, (x.1.1, (x.1.2, (x.2.1.eraseIdx i, x.2.2)))) := by
    unfold F94
    have ap : lApp (lCut x.2.1 0 (i : Int)) (lCut x.2.1 (iAdd .i64 (i : Int) 1) (lLen x.2.1)) = x.2.1.eraseIdx i := by
      rw [add_n (by omega) (by omega), show (i : Int) + 1 = ((i + 1 : Nat) : Int) by omega, cut_drop, cut_take]
      exact del_list _ _
    have l1 : (lCut x.2.1 0 (i : Int)).length = i := cut_len _ _ (by omega)
    rw [ap, oCut_y (by unfold lLen; omega), sel_t, lCap_y (by decide) (by decide) (by omega), sel_t, add_n (by omega) (by omega), oCut_y (by unfold lLen; omega), sel_t, lCap_y (by decide) (by decide) (by have := List.length_eraseIdx_le x.2.1 i; omega), sel_t]
  rw [e94, bnd_s, F90_eq _ _ (by omega), bnd_s]
  dsimp only
  have hel := List.length_eraseIdx_le x.2.1 i
  have hfl : ∀ n, (flt x.2.2 n).length ≤ x.2.2.length := fun n => List.length_filter_le _ _
  have hfs : ∀ n, (x.1.1.filter (fun g => decide (¬ g.1 = n))).length ≤ x.1.1.length := fun n => List.length_filter_le _ _
  have e40 : ∀ (segs : List SEG) (nx : Int) (dir : List DE) (n : Int), L40_0 (.inl ((x.1.1, (x.1.2, x.2)), ((0, (0, 0)), ((segs, (nx, dir)), (n, 0))))) = some (he40 segs nx dir (flt x.2.2 n)) := fun segs nx dir n => L40_eq x segs nx dir n (by omega)
  generalize hn : (lAt x.2.1 (i : Int)).2.1 = n at *
  have h5 := hfl n
  have h6 := hfs n
  rcases place_cases n x.1.1 with ⟨k, k1, k2, _, k4⟩ | ⟨_, k4⟩
  · have e95 := (del_eq hL (n := n) (by omega) k1 k4).2
    rw [k4, iEq_f (by omega), nf, sel_t, e95, bnd_s]
    dsimp only
    rw [e40, bnd_s]
    have e5 := filter_erase hL.ord k1 k2
    rw [e5] at h6 ⊢
    change (flt x.2.2 n).length ≤ _ at h5
    refine ⟨(x.1.1.eraseIdx k, (x.1.2, (x.2.1.eraseIdx i, flt x.2.2 n))), 0, rfl, ?_, by dsimp only; omega, by dsimp only; omega, by dsimp only; omega⟩
    generalize flt x.2.2 n = out
    cases out <;> rfl
  · rw [k4, iEq_y rfl, nt, sel_f, e40, bnd_s]
    have e5 := filter_none k4
    rw [e5] at h6 ⊢
    refine ⟨(x.1.1, (x.1.2, (x.2.1.eraseIdx i, flt x.2.2 n))), 0, rfl, ?_, by dsimp only; omega, by dsimp only; omega, by dsimp only; omega⟩
    generalize flt x.2.2 n = out
    cases out <;> rfl
theorem is_self (z : OSY) (e : Int) (out : List FIN) (n : Int) (h1 : z.1.length ≤ 1000) (h2 : z.2.2.1.length ≤ 1000) (h3 : z.2.2.2.length ≤ 1000) : F23 ((z.1, z.2.1), z.2.2) e (((z.1, z.2.1), z.2.2), (out, (n, e))) = some true := by
  have e43 : F43 ((z.1, z.2.1), z.2.2) ((z.1, z.2.1), z.2.2) = some true := sys_self _ (by dsimp only; omega) (by dsimp only; omega) (by dsimp only; omega)
  unfold F23
  dsimp only
  rw [e43, okS_s, or_tt, sel_t, valS_s, let_s, iEq_y rfl]
  rfl
/-- IplObjects. -/
theorem objects (x : SYS) (a : NAM) (p : Int) (h2 : fits x.1.2) : F10 x a p = some true := by
  unfold F10
  rw [awake, bnd_s, nt, sel_f]
  rcases few_eq x with ⟨hf, e⟩ | e
  rotate_left
  · rw [e, bnd_s, nf, sel_t]
  obtain ⟨z, n, c, c1, c2, c3, c4, c5⟩ := created_two hf h2 a p
  obtain ⟨w, d, d1, d2, d3, d4, d5⟩ := destroyed_two hf h2 a
  rw [e, bnd_s, nt, sel_f, own_eq hf, bnd_s]
  show bndS (F37 x a p) (fun y3 => bndS (some (osy x)) fun y4 => bndS (F38 ((y4.1, y4.2.1), y4.2.2) a) fun y5 => _) = _
  rw [c1, bnd_s, bnd_s]
  show bndS (F38 x a) _ = _
  rw [d1, c2, bnd_s, bnd_s]
  dsimp only
  have e1 : F23 ((z.1, z.2.1), z.2.2) c (((z.1, z.2.1), (z.2.2.1, z.2.2.2)), ([], (n, c))) = some true := is_self z c [] n c3 c4 c5
  rw [e1, bnd_s, iEq_y rfl, at_ft, sel_t, d2, bnd_s]
  dsimp only
  have e2 : F23 ((w.1, w.2.1), w.2.2) d (((w.1, w.2.1), (w.2.2.1, w.2.2.2)), ([], (0, d))) = some true := is_self w d [] 0 d3 d4 d5
  rw [e2]
  rfl
end Go.Proofs.YtiddpfhpmodfbaaGreatDoor.K
end

section
set_option linter.unusedVariables false
set_option linter.unusedSimpArgs false
set_option linter.unnecessarySimpa false
open Go.Ev
namespace Go.Proofs.YtiddpfhpmodfbaaGreatDoor.Pure
open Go.Proofs.YtiddpfhpmodfbaaGreatDoor.K
set_option maxRecDepth 100000 in
theorem IplObjects (x0 : ((.pr (.pr (.sl (.pr (.int .i64) .str)) (.int .i64)) (.pr (.sl (.pr (.pr .str (.pr .str (.int .i64))) (.pr (.int .i64) (.int .i64)))) (.sl (.pr (.int .i64) (.int .i64))))) : Ty).T) (x1 : ((.pr .str (.pr .str (.int .i64))) : Ty).T) (x2 : ((.int .i64) : Ty).T) (h0 : ((.pr (.pr (.sl (.pr (.int .i64) .str)) (.int .i64)) (.pr (.sl (.pr (.pr .str (.pr .str (.int .i64))) (.pr (.int .i64) (.int .i64)))) (.sl (.pr (.int .i64) (.int .i64))))) : Ty).wf x0) (h1 : ((.pr .str (.pr .str (.int .i64))) : Ty).wf x1) (h2 : ((.int .i64) : Ty).wf x2) : K.gF10.F (x0, x1, x2) = some true :=
  objects x0 x1 x2 (wf_fits h0.1.2)
end Go.Proofs.YtiddpfhpmodfbaaGreatDoor.Pure
end
