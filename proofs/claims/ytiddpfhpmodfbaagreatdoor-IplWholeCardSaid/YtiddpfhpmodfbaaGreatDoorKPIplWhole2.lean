/- A part of the proof: texts of the author, joined. -/
import Derived.Test.YtiddpfhpmodfbaaGreatDoorKPIplWhole1
section
set_option linter.unusedVariables false
set_option linter.unusedSimpArgs false
set_option linter.unnecessarySimpa false
open Go Go.Ev
namespace Go.Proofs.YtiddpfhpmodfbaaGreatDoor.K
def ddk (l : List PG) : Nat → List PG
  | 0 => []
  | i + 1 => ddk l i ++ (if i = 0 ∨ ¬ lAt l (i : Int) = lAt l ((i - 1 : Nat) : Int) then [lAt l (i : Int)] else [])
theorem ddk_succ (l : List PG) (i : Nat) : ddk l (i + 1) = ddk l i ++ (if i = 0 ∨ ¬ lAt l (i : Int) = lAt l ((i - 1 : Nat) : Int) then [lAt l (i : Int)] else []) := rfl
theorem ddk_len (l : List PG) : ∀ i, (ddk l i).length ≤ i
  | 0 => Nat.le_refl _
  | i + 1 => by
    have := ddk_len l i
    unfold ddk
    rw [List.length_append]
    split <;> simp only [List.length_cons, List.length_nil] <;> omega
theorem ddk_take {l : List PG} : ∀ i, i ≤ l.length → (∀ k, 0 < k → k < i → ¬ lAt l (k : Int) = lAt l ((k - 1 : Nat) : Int)) → ddk l i = l.take i
  | 0, _, _ => by simp [ddk]
  | i + 1, hi, h => by
    have ih := ddk_take i (by omega) (fun k h1 h2 => h k h1 (by omega))
    unfold ddk
    rw [ih, List.take_succ_eq_append_getElem (by omega), ← lAt_lt (by omega : i < l.length), if_pos]
    by_cases h0 : i = 0
    · exact .inl h0
    · exact .inr (h i (by omega) (by omega))
theorem pg_eq (p q : PG) : (bAnd (iEq p.1 q.1) (iEq p.2 q.2) = true) = (p = q) := by
  rw [and_t, iEq_t, iEq_t]
  exact propext ⟨fun h => Prod.ext h.1 h.2, fun h => by rw [h]; exact ⟨rfl, rfl⟩⟩
theorem L72_2_eq {l : List PG} {k0 : Nat} (h0 : 1 ≤ k0) (hk : k0 < l.length) (hl : l.length ≤ 1000) (h1 : l.take k0 = ddk l (k0 + 1)) :
    Ok (L72_2 (l, ((k0 : Int), (((k0 : Int), (l.length : Int)), 1)))) (fun r => ∃ s : List PG, s.length = l.length ∧ r = (s, ((ddk l l.length).length : Int)) ∧ s.take (ddk l l.length).length = ddk l l.length) := by
  refine loop_inv (fun m x => ∃ (s : List PG) (k k2 : Nat), 1 ≤ k2 ∧ k0 + k2 ≤ l.length ∧ k + 1 ≤ k0 + k2 ∧ s.length = l.length ∧ x = (s, ((k : Int), (((k0 : Int), (l.length : Int)), (k2 : Int)))) ∧ s.take k = ddk l (k0 + k2) ∧ k = (ddk l (k0 + k2)).length ∧ (∀ q, k0 + k2 - 1 ≤ q → q < l.length → lAt s (q : Int) = lAt l (q : Int)) ∧ m = l.length - (k0 + k2)) (l.length - (k0 + 1)) ?_ (by omega) ?_
  · refine ⟨l, k0, 1, by omega, by omega, by omega, rfl, rfl, h1, ?_, fun _ _ _ => rfl, rfl⟩
    rw [← h1, List.length_take]; omega
  · rintro m x ⟨s, k, k2, a1, a2, a3, a4, rfl, a5, a6, a7, rfl⟩
    show Ok (B72_2 s k k0 (l.length : Int) k2) _
    have hps : pSub (l.length : Int) (k0 : Int) = ((l.length - k0 : Nat) : Int) := by unfold pSub; omega
    have hs : lLen s = (l.length : Int) := by unfold lLen; rw [a4]
    unfold B72_2
    rw [hps, hs]
    by_cases hlt : k2 < l.length - k0
    · have e1 : pAdd (k0 : Int) (k2 : Int) = ((k0 + k2 : Nat) : Int) := by unfold pAdd; omega
      have e2 : pAdd (k0 : Int) ((k2 - 1 : Nat) : Int) = ((k0 + k2 - 1 : Nat) : Int) := by unfold pAdd; omega
      rw [iLt_y (by omega), sel_t, oIn_y (by omega), sel_t, sub1 (by omega) (by omega), oIn_y (by omega), sel_t, e1, e2, a7 (k0 + k2) (by omega) (by omega), a7 (k0 + k2 - 1) (by omega) (by omega), add1 (by omega), add1 (by omega)]
      have hd : ddk l (k0 + (k2 + 1)) = ddk l (k0 + k2) ++ (if ¬ lAt l ((k0 + k2 : Nat) : Int) = lAt l ((k0 + k2 - 1 : Nat) : Int) then [lAt l ((k0 + k2 : Nat) : Int)] else []) := by
        show ddk l (k0 + k2 + 1) = _
        rw [ddk_succ]
        by_cases hq : lAt l ((k0 + k2 : Nat) : Int) = lAt l ((k0 + k2 - 1 : Nat) : Int)
        · rw [if_neg (fun h => h.elim (by omega) (fun h => h hq)), if_neg (fun h => h hq)]
        · rw [if_pos (.inr hq), if_pos hq]
      by_cases hq : lAt l ((k0 + k2 : Nat) : Int) = lAt l ((k0 + k2 - 1 : Nat) : Int)
      · have w : bAnd (iEq (lAt l ((k0 + k2 : Nat) : Int)).1 (lAt l ((k0 + k2 - 1 : Nat) : Int)).1) (iEq (lAt l ((k0 + k2 : Nat) : Int)).2 (lAt l ((k0 + k2 - 1 : Nat) : Int)).2) = true := by rw [pg_eq]; exact hq
        rw [if_neg (fun h => h hq), List.append_nil] at hd
        rw [w, nt, sel_f, ok_some]
        exact ⟨l.length - (k0 + (k2 + 1)), by omega, s, k, k2 + 1, by omega, by omega, by omega, a4, rfl, by rw [hd]; exact a5, by rw [hd]; exact a6, fun q h2 h3 => a7 q (by omega) h3, rfl⟩
      · have w : bAnd (iEq (lAt l ((k0 + k2 : Nat) : Int)).1 (lAt l ((k0 + k2 - 1 : Nat) : Int)).1) (iEq (lAt l ((k0 + k2 : Nat) : Int)).2 (lAt l ((k0 + k2 - 1 : Nat) : Int)).2) = false := by rw [bf_t, pg_eq]; exact hq
        rw [if_pos hq] at hd
        have hsl : lSet s (k : Int) (lAt l ((k0 + k2 : Nat) : Int)) = s.set k (lAt l ((k0 + k2 : Nat) : Int)) := by unfold lSet; rw [Int.toNat_natCast]
        rw [w, nf, sel_t, sel_t, oIn_y (by omega), sel_t, hsl, ok_some]
        refine ⟨l.length - (k0 + (k2 + 1)), by omega, s.set k (lAt l ((k0 + k2 : Nat) : Int)), k + 1, k2 + 1, by omega, by omega, by omega, by rw [List.length_set]; exact a4, rfl, ?_, ?_, fun q h2 h3 => ?_, rfl⟩
        · rw [hd, List.take_succ_eq_append_getElem (by rw [List.length_set]; omega), List.getElem_set_self, List.take_set_of_le (Nat.le_refl _), a5]
        · rw [hd, List.length_append, ← a6]; rfl
        · rw [lAt_n, List.getElem?_set_ne (by omega), ← lAt_n]
          exact a7 q (by omega) h3
    · rw [iLt_f (by omega), sel_f, ok_some]
      have e : k0 + k2 = l.length := by omega
      rw [e] at a5 a6
      exact ⟨s, a4, by rw [← a6], by rw [← a6]; exact a5⟩
theorem F72_eq {l : List PG} (hl : l.length ≤ 1000) : ∃ (v : List PG) (lo hi : Int), F72 l = some (v, lo, hi) ∧ lCut v lo hi = ddk l l.length := by
  have hll : lLen l = (l.length : Int) := rfl
  have cutA : ∀ s : List PG, lCut s 0 (lLen s) = s := fun s => by unfold lCut lLen; simp
  unfold F72
  by_cases h2 : l.length < 2
  · rw [iLt_y (by omega), sel_t]
    refine ⟨_, _, _, rfl, ?_⟩
    rw [cutA]
    match l, h2 with
    | [], _ => rfl
    | [a], _ => rfl
  rw [iLt_f (by omega), sel_f]
  have key : Ok (L72_0 (l, 1)) (fun r => (r = .inl l ∧ ddk l l.length = l) ∨ ∃ (v : List PG) (k : Nat), r = .inr (v, (0, (k : Int))) ∧ v.take k = ddk l l.length) := by
    refine loop_inv (fun m x => ∃ k : Nat, 1 ≤ k ∧ k ≤ l.length ∧ x = (l, (k : Int)) ∧ (∀ q, 0 < q → q < k → ¬ lAt l (q : Int) = lAt l ((q - 1 : Nat) : Int)) ∧ m = l.length - k) (l.length - 1) ⟨1, by omega, by omega, rfl, fun q h1 h2 => by omega, rfl⟩ (by omega) ?_
    rintro m x ⟨k, k1, k2, rfl, hne, rfl⟩
    show Ok (B72_0 l k) _
    unfold B72_0
    by_cases hlt : k < l.length
    rotate_left
    · rw [iLt_f (by omega), sel_f, ok_some]
      obtain rfl : k = l.length := by omega
      refine .inl ⟨rfl, ?_⟩
      rw [ddk_take _ (Nat.le_refl _) hne, List.take_length]
    rw [iLt_y (by omega), sel_t, oIn_y (by omega), sel_t, sub1 k1 (by omega), oIn_y (by omega), sel_t]
    by_cases hq : lAt l (k : Int) = lAt l ((k - 1 : Nat) : Int)
    rotate_left
    · have w : bAnd (iEq (lAt l (k : Int)).1 (lAt l ((k - 1 : Nat) : Int)).1) (iEq (lAt l (k : Int)).2 (lAt l ((k - 1 : Nat) : Int)).2) = false := by rw [bf_t, pg_eq]; exact hq
      rw [w, sel_f, add1 (by omega), ok_some]
      refine ⟨l.length - (k + 1), by omega, k + 1, by omega, by omega, rfl, fun q h3 h4 => ?_, rfl⟩
      by_cases h5 : q = k
      · rw [h5]; exact hq
      · exact hne q h3 (by omega)
    have w : bAnd (iEq (lAt l (k : Int)).1 (lAt l ((k - 1 : Nat) : Int)).1) (iEq (lAt l (k : Int)).2 (lAt l ((k - 1 : Nat) : Int)).2) = true := by rw [pg_eq]; exact hq
    have h1 : l.take k = ddk l (k + 1) := by
      rw [ddk_succ, if_neg (fun h => h.elim (fun h => by omega) (fun h => h hq)), List.append_nil, ddk_take k (by omega) hne]
    obtain ⟨r, hr, s, s1, rfl, s3⟩ := L72_2_eq k1 hlt hl h1
    have hdl := ddk_len l l.length
    have hs : lLen s = (l.length : Int) := by unfold lLen; rw [s1]
    rw [w, sel_t, oCut_y (by omega), sel_t, hll, hr, bnd_s]
    dsimp only
    rw [hs]
    generalize (ddk l l.length).length = q at *
    have hps : pSub (l.length : Int) (q : Int) = ((l.length - q : Nat) : Int) := by unfold pSub; omega
    have hcl : ∀ z : PG, lLen (lCpy s (q : Int) (l.length : Int) (lRep (pSub (l.length : Int) (q : Int)) z)) = (l.length : Int) := fun z => by
      rw [hps]
      unfold lCpy lRep lLen
      simp only [List.length_append, List.length_take, List.length_drop, List.length_replicate]
      omega
    rw [oCut_y (by omega), sel_t, hcl, oCut_y (by omega), sel_t, ok_some]
    refine .inr ⟨_, q, rfl, ?_⟩
    rw [cpy_take _ _ _ _ _ (by omega) (by omega)]
    exact s3
  obtain ⟨r, hr, hc⟩ := key
  rw [hr, bnd_s]
  rcases hc with ⟨rfl, h3⟩ | ⟨v, k, rfl, h3⟩
  · exact ⟨l, 0, lLen l, rfl, by rw [cutA, h3]⟩
  · exact ⟨v, 0, (k : Int), rfl, by rw [cut_take, h3]⟩
theorem ltP_trans {a b c : PG} (h1 : ltP a b = true) (h2 : ltP b c = true) : ltP a c = true := swoP.trans a b c h1 h2
theorem ltP_tri (a b : PG) (h : ltP b a = false) (hn : ¬ a = b) : ltP a b = true := by
  cases h2 : ltP a b with
  | true => rfl
  | false => exact absurd (totP a b h2 h) hn
theorem ddk_ok {l : List PG} (hs : l.Pairwise (fun a b => ltP b a = false)) : ∀ i, i ≤ l.length → (ddk l i).Pairwise (fun a b => ltP a b = true) ∧ (∀ a, a ∈ ddk l i ↔ a ∈ l.take i)
  | 0, _ => ⟨List.Pairwise.nil, fun a => by simp [ddk]⟩
  | i + 1, hi => by
    obtain ⟨h1, h2⟩ := ddk_ok hs i (by omega)
    have hat : lAt l (i : Int) = l[i] := lAt_lt (by omega)
    have hle : ∀ k (hk : k < i), ltP l[i] l[k] = false := fun k hk => (List.pairwise_iff_getElem.1 hs) k i (by omega) (by omega) hk
    rw [ddk_succ, List.take_succ_eq_append_getElem (by omega : i < l.length)]
    by_cases hc : i = 0 ∨ ¬ lAt l (i : Int) = lAt l ((i - 1 : Nat) : Int)
    · rw [if_pos hc]
      refine ⟨List.pairwise_append.2 ⟨h1, List.pairwise_singleton .., fun a ha b hb => ?_⟩, fun a => ?_⟩
      · rw [List.mem_singleton.1 hb, hat]
        obtain ⟨k, hk, e⟩ := List.getElem_of_mem ((h2 a).1 ha)
        rw [List.length_take] at hk
        rw [List.getElem_take] at e
        have hk2 : k < i := by omega
        have h3 : ltP l[i] a = false := by rw [← e]; exact hle k hk2
        refine ltP_tri a l[i] h3 (fun he => ?_)
        rcases hc with hc | hc
        · omega
        · rw [hat, lAt_lt (by omega : i - 1 < l.length)] at hc
          -- all from k on are alike
          have h4 : ltP l[i - 1] l[k] = false := by
            by_cases hk3 : k = i - 1
            · subst hk3; exact swoP.irrefl _
            · exact (List.pairwise_iff_getElem.1 hs) k (i - 1) (by omega) (by omega) (by omega)
          have h5 : ltP l[i] l[i - 1] = false := hle (i - 1) (by omega)
          rw [e, he] at h4
          exact hc (totP _ _ h5 h4)
      · rw [List.mem_append, List.mem_append, h2, hat]
    · rw [if_neg hc, List.append_nil]
      rw [not_or] at hc
      refine ⟨h1, fun a => ?_⟩
      rw [h2, List.mem_append, List.mem_singleton]
      refine ⟨.inl, fun h => h.elim id (fun h => ?_)⟩
      have he := Classical.not_not.1 hc.2
      rw [hat, lAt_lt (by omega : i - 1 < l.length)] at he
      rw [h, he]
      exact List.mem_iff_getElem.2 ⟨i - 1, by rw [List.length_take]; omega, by rw [List.getElem_take]⟩
theorem strict_ext : ∀ {l m : List PG}, l.Pairwise (fun a b => ltP a b = true) → m.Pairwise (fun a b => ltP a b = true) → (∀ a, a ∈ l ↔ a ∈ m) → l = m
  | [], [], _, _, _ => rfl
  | [], b :: m, _, _, h => by have := (h b).2 (List.mem_cons_self ..); cases this
  | a :: l, [], _, _, h => by have := (h a).1 (List.mem_cons_self ..); cases this
  | a :: l, b :: m, h1, h2, h => by
    have h1' := List.pairwise_cons.1 h1
    have h2' := List.pairwise_cons.1 h2
    have irr : ∀ x, ltP x x = true → False := fun x hx => by rw [swoP.irrefl] at hx; cases hx
    have e : a = b := by
      rcases List.mem_cons.1 ((h a).1 (List.mem_cons_self ..)) with e | ha
      · exact e
      · rcases List.mem_cons.1 ((h b).2 (List.mem_cons_self ..)) with e | hb
        · exact e.symm
        · exact absurd (ltP_trans (h1'.1 b hb) (h2'.1 a ha)) (fun hx => irr _ hx)
    subst e
    rw [strict_ext h1'.2 h2'.2 (fun x => ?_)]
    constructor
    · intro hx
      rcases List.mem_cons.1 ((h x).1 (List.mem_cons_of_mem _ hx)) with e | hm
      · rw [e] at hx; exact (irr _ (h1'.1 _ hx)).elim
      · exact hm
    · intro hx
      rcases List.mem_cons.1 ((h x).2 (List.mem_cons_of_mem _ hx)) with e | hm
      · rw [e] at hx; exact (irr _ (h2'.1 _ hx)).elim
      · exact hm
theorem sorted_pages {l m : List PG} (hl : l.length ≤ 200) (hm : m.Pairwise (fun a b => ltP a b = true)) (h : ∀ a, a ∈ m ↔ a ∈ l) : ∃ (q v : List PG) (lo hi : Int), F71 l = some q ∧ F72 q = some (v, lo, hi) ∧ lCut v lo hi = m := by
  obtain ⟨q, q1, q2, q3⟩ := F71_eq l hl
  obtain ⟨v, lo, hi, v1, v2⟩ := F72_eq (l := q) (by rw [q2.length_eq]; omega)
  refine ⟨q, v, lo, hi, q1, v1, ?_⟩
  rw [v2]
  obtain ⟨d1, d2⟩ := ddk_ok q3 q.length (Nat.le_refl _)
  refine strict_ext d1 hm (fun a => ?_)
  rw [d2, List.take_length, q2.mem_iff, h]
end Go.Proofs.YtiddpfhpmodfbaaGreatDoor.K
end

section
set_option linter.unusedVariables false
set_option linter.unusedSimpArgs false
set_option linter.unnecessarySimpa false
open Go Go.Ev
namespace Go.Proofs.YtiddpfhpmodfbaaGreatDoor.K
theorem less_trans : ∀ a b c : List UInt8, Op.bytesLess a b = true → Op.bytesLess b c = true → Op.bytesLess a c = true
  | _, b, [], _, h => by cases b <;> cases h
  | [], _, _ :: _, _, _ => rfl
  | _ :: _, [], _ :: _, h, _ => by cases h
  | a :: x, b :: y, c :: z, h1, h2 => by
    simp only [Op.bytesLess, Bool.or_eq_true, Bool.and_eq_true, decide_eq_true_eq, beq_iff_eq] at *
    rcases h1 with h1 | ⟨rfl, h1⟩
    · rcases h2 with h2 | ⟨rfl, h2⟩
      · exact .inl (UInt8.lt_trans h1 h2)
      · exact .inl h1
    · rcases h2 with h2 | ⟨rfl, h2⟩
      · exact .inl h2
      · exact .inr ⟨rfl, less_trans x y z h1 h2⟩
theorem less_tri : ∀ a b : List UInt8, Op.bytesLess a b = true ∨ a = b ∨ Op.bytesLess b a = true
  | [], [] => .inr (.inl rfl)
  | [], _ :: _ => .inl rfl
  | _ :: _, [] => .inr (.inr rfl)
  | a :: x, b :: y => by
    simp only [Op.bytesLess, Bool.or_eq_true, Bool.and_eq_true, decide_eq_true_eq, beq_iff_eq, List.cons.injEq]
    rcases less_tri x y with h | h | h
    · by_cases e : a = b
      · exact .inl (.inr ⟨e, h⟩)
      · rcases UInt8.lt_or_lt_of_ne e with h' | h'
        · exact .inl (.inl h')
        · exact .inr (.inr (.inl h'))
    · by_cases e : a = b
      · exact .inr (.inl ⟨e, h⟩)
      · rcases UInt8.lt_or_lt_of_ne e with h' | h'
        · exact .inl (.inl h')
        · exact .inr (.inr (.inl h'))
    · by_cases e : a = b
      · exact .inr (.inr (.inr ⟨e.symm, h⟩))
      · rcases UInt8.lt_or_lt_of_ne e with h' | h'
        · exact .inl (.inl h')
        · exact .inr (.inr (.inl h'))
theorem sLt_trans {a b c : ByteArray} (h1 : sLt a b = true) (h2 : sLt b c = true) : sLt a c = true := less_trans _ _ _ h1 h2
theorem sLt_tri (a b : ByteArray) : sLt a b = true ∨ a = b ∨ sLt b a = true := by
  rcases less_tri a.toList b.toList with h | h | h
  · exact .inl h
  · refine .inr (.inl ?_)
    rw [ba_toList, ba_toList] at h
    cases a; cases b; simp only at h; congr; exact Array.ext' h
  · exact .inr (.inr h)
def bf (a b : NAM) : Bool := if a.1 = b.1 then (if a.2.1 = b.2.1 then iLt a.2.2 b.2.2 else sLt a.2.1 b.2.1) else sLt a.1 b.1
theorem F115_bf (a b : NAM) : F115 a b = some (bf a b) := by
  unfold F115 bf
  by_cases h1 : a.1 = b.1
  · rw [sEq_y h1, nt, sel_f, if_pos h1]
    by_cases h2 : a.2.1 = b.2.1
    · rw [sEq_y h2, nt, sel_f, if_pos h2]
    · rw [sEq_f h2, nf, sel_t, if_neg h2]
  · rw [sEq_f h1, nf, sel_t, if_neg h1]
theorem bf_trans {a b c : NAM} (h1 : bf a b = true) (h2 : bf b c = true) : bf a c = true := by
  unfold bf at *
  by_cases e1 : a.1 = b.1
  · rw [if_pos e1] at h1
    by_cases e2 : b.1 = c.1
    · rw [if_pos e2] at h2
      rw [if_pos (e1.trans e2)]
      by_cases f1 : a.2.1 = b.2.1
      · rw [if_pos f1] at h1
        by_cases f2 : b.2.1 = c.2.1
        · rw [if_pos f2] at h2
          rw [if_pos (f1.trans f2)]
          rw [iLt_t] at *
          omega
        · rw [if_neg f2] at h2
          rw [f1, if_neg f2]; exact h2
      · rw [if_neg f1] at h1
        by_cases f2 : b.2.1 = c.2.1
        · rw [← f2, if_neg f1]; exact h1
        · rw [if_neg f2] at h2
          have := sLt_trans h1 h2
          rw [if_neg (fun e => by rw [e, sLt_irr] at this; cases this)]; exact this
    · rw [if_neg e2] at h2
      rw [e1, if_neg e2]; exact h2
  · rw [if_neg e1] at h1
    by_cases e2 : b.1 = c.1
    · rw [← e2, if_neg e1]; exact h1
    · rw [if_neg e2] at h2
      have := sLt_trans h1 h2
      rw [if_neg (fun e => by rw [e, sLt_irr] at this; cases this)]; exact this
theorem bf_tri (a b : NAM) : bf a b = true ∨ a = b ∨ bf b a = true := by
  unfold bf
  by_cases e1 : a.1 = b.1
  · rw [if_pos e1, if_pos e1.symm]
    by_cases f1 : a.2.1 = b.2.1
    · rw [if_pos f1, if_pos f1.symm, iLt_t, iLt_t]
      rcases Int.lt_trichotomy a.2.2 b.2.2 with h | h | h
      · exact .inl h
      · exact .inr (.inl (Prod.ext e1 (Prod.ext f1 h)))
      · exact .inr (.inr h)
    · rw [if_neg f1, if_neg (fun e => f1 e.symm)]
      rcases sLt_tri a.2.1 b.2.1 with h | h | h
      · exact .inl h
      · exact absurd h f1
      · exact .inr (.inr h)
  · rw [if_neg e1, if_neg (fun e => e1 e.symm)]
    rcases sLt_tri a.1 b.1 with h | h | h
    · exact .inl h
    · exact absurd h e1
    · exact .inr (.inr h)
def srt (l : List DE) : Prop := l.Pairwise (fun a b => bf a.1 b.1 = true)
def ins (d : DE) : List DE → List DE
  | [] => [d]
  | a :: l => if bf d.1 a.1 = true then d :: a :: l else a :: ins d l
theorem ins_perm (d : DE) : ∀ l, (ins d l).Perm (d :: l)
  | [] => List.Perm.refl _
  | a :: l => by
    unfold ins
    split
    · exact List.Perm.refl _
    · exact ((ins_perm d l).cons a).trans (List.Perm.swap ..)
theorem ins_mem {d a : DE} {l : List DE} : a ∈ ins d l ↔ a = d ∨ a ∈ l := by
  rw [(ins_perm d l).mem_iff, List.mem_cons]
theorem ins_len (d : DE) (l : List DE) : (ins d l).length = l.length + 1 := by
  rw [(ins_perm d l).length_eq, List.length_cons]
theorem ins_srt {d : DE} : ∀ {l : List DE}, srt l → (∀ a, a ∈ l → a.1 ≠ d.1) → srt (ins d l)
  | [], _, _ => List.pairwise_singleton ..
  | a :: l, h, hn => by
    have h := List.pairwise_cons.1 h
    unfold ins
    split
    · rename_i hb
      refine List.pairwise_cons.2 ⟨fun b hb2 => ?_, List.pairwise_cons.2 h⟩
      rcases List.mem_cons.1 hb2 with rfl | hb2
      · exact hb
      · exact bf_trans hb (h.1 b hb2)
    · rename_i hb
      refine List.pairwise_cons.2 ⟨fun b hb2 => ?_, ins_srt h.2 (fun b hb2 => hn b (List.mem_cons_of_mem _ hb2))⟩
      rcases ins_mem.1 hb2 with rfl | hb2
      · rcases bf_tri a.1 b.1 with h5 | h5 | h5
        · exact h5
        · exact absurd h5 (hn a (List.mem_cons_self ..))
        · exact absurd h5 hb
      · exact h.1 b hb2
end Go.Proofs.YtiddpfhpmodfbaaGreatDoor.K
end

section
set_option linter.unusedVariables false
set_option linter.unusedSimpArgs false
set_option linter.unnecessarySimpa false
open Go Go.Ev
namespace Go.Proofs.YtiddpfhpmodfbaaGreatDoor.K
end Go.Proofs.YtiddpfhpmodfbaaGreatDoor.K
end

section
set_option linter.unusedVariables false
set_option linter.unusedSimpArgs false
set_option linter.unnecessarySimpa false
open Go Go.Ev
namespace Go.Proofs.YtiddpfhpmodfbaaGreatDoor.K
theorem at_full (x : SYS) (n : NAM) (hl : x.2.1.length ≤ 1000) : (∃ i : Nat, i < x.2.1.length ∧ (lAt x.2.1 (i : Int)).1 = n ∧ F82 x n = some (i : Int) ∧ F45 x n = some (i : Int)) ∨ ((∀ d, d ∈ x.2.1 → d.1 ≠ n) ∧ F82 x n = some (-1) ∧ F45 x n = some (-1)) := by
  have hll : lLen x.2.1 = (x.2.1.length : Int) := rfl
  have hc : ∀ k : Nat, (bAnd (sEq (lAt x.2.1 (k : Int)).1.1 n.1) (bAnd (sEq (lAt x.2.1 (k : Int)).1.2.1 n.2.1) (iEq (lAt x.2.1 (k : Int)).1.2.2 n.2.2)) = true) = ((lAt x.2.1 (k : Int)).1.1 = n.1 ∧ (lAt x.2.1 (k : Int)).1.2.1 = n.2.1 ∧ (lAt x.2.1 (k : Int)).1.2.2 = n.2.2) := fun k => by rw [and_t, and_t, sEq_t, sEq_t, iEq_t]
  have hA : (∃ i, i < x.2.1.length ∧ ((lAt x.2.1 (i : Int)).1.1 = n.1 ∧ (lAt x.2.1 (i : Int)).1.2.1 = n.2.1 ∧ (lAt x.2.1 (i : Int)).1.2.2 = n.2.2) ∧ (∀ k, k < i → ¬ ((lAt x.2.1 (k : Int)).1.1 = n.1 ∧ (lAt x.2.1 (k : Int)).1.2.1 = n.2.1 ∧ (lAt x.2.1 (k : Int)).1.2.2 = n.2.2)) ∧ L113_0_1 ((n.1, (n.2.1, n.2.2)), (x.2.1, (lLen x.2.1, 0))) = some (.inr ((n.1, (n.2.1, n.2.2)), (i : Int)))) ∨ ((∀ i, i < x.2.1.length → ¬ ((lAt x.2.1 (i : Int)).1.1 = n.1 ∧ (lAt x.2.1 (i : Int)).1.2.1 = n.2.1 ∧ (lAt x.2.1 (i : Int)).1.2.2 = n.2.2)) ∧ L113_0_1 ((n.1, (n.2.1, n.2.2)), (x.2.1, (lLen x.2.1, 0))) = some (Sum.inl (n.1, (n.2.1, n.2.2)))) := by
    refine iter_first (fun i => ((n.1, (n.2.1, n.2.2)), (x.2.1, (lLen x.2.1, (i : Int))))) (fun i => (lAt x.2.1 (i : Int)).1.1 = n.1 ∧ (lAt x.2.1 (i : Int)).1.2.1 = n.2.1 ∧ (lAt x.2.1 (i : Int)).1.2.2 = n.2.2) x.2.1.length (fun i => Sum.inr ((n.1, (n.2.1, n.2.2)), (i : Int))) (Sum.inl (n.1, (n.2.1, n.2.2))) (by omega) ?_ ?_ ?_
    · intro i hi hp
      show B113_0_1 n.1 n.2.1 n.2.2 x.2.1 (lLen x.2.1) i = some (.inl ((n.1, (n.2.1, n.2.2)), (x.2.1, (lLen x.2.1, ((i + 1 : Nat) : Int)))))
      have w : bAnd (sEq (lAt x.2.1 (i : Int)).1.1 n.1) (bAnd (sEq (lAt x.2.1 (i : Int)).1.2.1 n.2.1) (iEq (lAt x.2.1 (i : Int)).1.2.2 n.2.2)) = false := by rw [bf_t, hc]; exact hp
      unfold B113_0_1 F136
      rw [iLt_y (by omega), sel_t, oIn_y (by omega), sel_t, let_s, w, sel_f, add_n (by omega) (by omega)]
      rfl
    · intro i hi hp
      have w : bAnd (sEq (lAt x.2.1 (i : Int)).1.1 n.1) (bAnd (sEq (lAt x.2.1 (i : Int)).1.2.1 n.2.1) (iEq (lAt x.2.1 (i : Int)).1.2.2 n.2.2)) = true := by rw [hc]; exact hp
      show B113_0_1 n.1 n.2.1 n.2.2 x.2.1 (lLen x.2.1) i = _
      unfold B113_0_1 F136
      rw [iLt_y (by omega), sel_t, oIn_y (by omega), sel_t, let_s, w, sel_t]
    · show B113_0_1 n.1 n.2.1 n.2.2 x.2.1 (lLen x.2.1) x.2.1.length = _
      unfold B113_0_1
      rw [iLt_f (by omega), sel_f]
  have hB : (∃ i, i < x.2.1.length ∧ ((lAt x.2.1 (i : Int)).1.1 = n.1 ∧ (lAt x.2.1 (i : Int)).1.2.1 = n.2.1 ∧ (lAt x.2.1 (i : Int)).1.2.2 = n.2.2) ∧ (∀ k, k < i → ¬ ((lAt x.2.1 (k : Int)).1.1 = n.1 ∧ (lAt x.2.1 (k : Int)).1.2.1 = n.2.1 ∧ (lAt x.2.1 (k : Int)).1.2.2 = n.2.2)) ∧ L45_0 (osy x, ((n.1, (n.2.1, n.2.2)), 0)) = some (.inr (i : Int))) ∨ ((∀ i, i < x.2.1.length → ¬ ((lAt x.2.1 (i : Int)).1.1 = n.1 ∧ (lAt x.2.1 (i : Int)).1.2.1 = n.2.1 ∧ (lAt x.2.1 (i : Int)).1.2.2 = n.2.2)) ∧ L45_0 (osy x, ((n.1, (n.2.1, n.2.2)), 0)) = some (Sum.inl ())) := by
    refine iter_first (fun i => (osy x, ((n.1, (n.2.1, n.2.2)), (i : Int)))) (fun i => (lAt x.2.1 (i : Int)).1.1 = n.1 ∧ (lAt x.2.1 (i : Int)).1.2.1 = n.2.1 ∧ (lAt x.2.1 (i : Int)).1.2.2 = n.2.2) x.2.1.length (fun i => Sum.inr (i : Int)) (Sum.inl ()) (by omega) ?_ ?_ ?_
    · intro i hi hp
      show B45_0 x.1.1 x.1.2 x.2.1 x.2.2 n.1 n.2.1 n.2.2 i = some (.inl (osy x, ((n.1, (n.2.1, n.2.2)), ((i + 1 : Nat) : Int))))
      have w : bAnd (sEq (lAt x.2.1 (i : Int)).1.1 n.1) (bAnd (sEq (lAt x.2.1 (i : Int)).1.2.1 n.2.1) (iEq (lAt x.2.1 (i : Int)).1.2.2 n.2.2)) = false := by rw [bf_t, hc]; exact hp
      unfold B45_0
      rw [iLt_y (by omega), sel_t, oIn_y (by omega), sel_t, w, sel_f, add_n (by omega) (by omega)]
      rfl
    · intro i hi hp
      have w : bAnd (sEq (lAt x.2.1 (i : Int)).1.1 n.1) (bAnd (sEq (lAt x.2.1 (i : Int)).1.2.1 n.2.1) (iEq (lAt x.2.1 (i : Int)).1.2.2 n.2.2)) = true := by rw [hc]; exact hp
      show B45_0 x.1.1 x.1.2 x.2.1 x.2.2 n.1 n.2.1 n.2.2 i = _
      unfold B45_0
      rw [iLt_y (by omega), sel_t, oIn_y (by omega), sel_t, w, sel_t]
    · show B45_0 x.1.1 x.1.2 x.2.1 x.2.2 n.1 n.2.1 n.2.2 x.2.1.length = _
      unfold B45_0
      rw [iLt_f (by omega), sel_f]
  unfold F82 F113_1 F45
  show (∃ i : Nat, _ ∧ _ ∧ _ ∧ bndS (L45_0 (osy x, ((n.1, (n.2.1, n.2.2)), 0))) _ = _) ∨ (_ ∧ _ ∧ bndS (L45_0 (osy x, ((n.1, (n.2.1, n.2.2)), 0))) _ = _)
  rcases hA with ⟨i, i1, i2, i3, e⟩ | ⟨i1, e⟩ <;> rcases hB with ⟨j, j1, j2, j3, e'⟩ | ⟨j1, e'⟩
  · obtain rfl := first_uniq i2 i3 j2 j3
    rw [e, e']
    exact .inl ⟨i, i1, Prod.ext i2.1 (Prod.ext i2.2.1 i2.2.2), rfl, rfl⟩
  · exact absurd i2 (j1 i i1)
  · exact absurd j2 (i1 j j1)
  · rw [e, e']
    refine .inr ⟨fun d hd he => ?_, rfl, rfl⟩
    obtain ⟨k, hk, rfl⟩ := mem_lAt hd
    exact i1 k hk ⟨by rw [he], by rw [he], by rw [he]⟩
structure okD (s : STO) (l : List DE) : Prop where
  nm : ∀ d, d ∈ l → nmE d.1 = 0
  sg : ∀ d, d ∈ l → 1 ≤ d.2.1 ∧ d.2.1 ≤ s.2 - 1
  dm : ∀ d, d ∈ l → 0 ≤ d.2.2 ∧ d.2.2 ≤ 3
  ord : srt l
  dbl : l.Pairwise (fun a b => a.2.1 ≠ b.2.1)
theorem before_bf (x : SYS) (i : Nat) : before x (i : Int) = bf (lAt x.2.1 ((i : Int) - 1)).1 (lAt x.2.1 (i : Int)).1 := by
  unfold before; rw [F115_bf]; rfl
theorem okD_of {x : SYS} (h : okX x) : okD x.1 x.2.1 := by
  have key : ∀ i, i < x.2.1.length → nmE (lAt x.2.1 (i : Int)).1 = 0 ∧ ¬ (0 < i ∧ before x (i : Int) = false) ∧ ((1 ≤ (lAt x.2.1 (i : Int)).2.1 ∧ (lAt x.2.1 (i : Int)).2.1 ≤ x.1.2 - 1) ∧ (0 ≤ (lAt x.2.1 (i : Int)).2.2 ∧ (lAt x.2.1 (i : Int)).2.2 ≤ 3)) ∧ ¬ ∃ k, k < i ∧ (lAt x.2.1 (k : Int)).2.1 = (lAt x.2.1 (i : Int)).2.1 := fun i hi => by
    have := h.ent i hi
    unfold entE at this
    split at this
    · rename_i hn; exact absurd this hn
    · rename_i h1
      split at this
      · cases this
      · rename_i h2
        split at this
        · cases this
        · rename_i h3
          split at this
          · cases this
          · rename_i h4
            exact ⟨Classical.not_not.1 h1, h2, Classical.not_not.1 h3, h4⟩
  refine ⟨fun d hd => ?_, fun d hd => ?_, fun d hd => ?_, ?_, ?_⟩
  · obtain ⟨i, hi, rfl⟩ := mem_lAt hd; exact (key i hi).1
  · obtain ⟨i, hi, rfl⟩ := mem_lAt hd; exact (key i hi).2.2.1.1
  · obtain ⟨i, hi, rfl⟩ := mem_lAt hd; exact (key i hi).2.2.1.2
  · have st : ∀ i, 0 < i → i < x.2.1.length → bf (lAt x.2.1 ((i - 1 : Nat) : Int)).1 (lAt x.2.1 (i : Int)).1 = true := fun i h0 hi => by
      have := (key i hi).2.1
      rw [before_bf, show ((i : Int) - 1) = ((i - 1 : Nat) : Int) by omega] at this
      cases hb : bf (lAt x.2.1 ((i - 1 : Nat) : Int)).1 (lAt x.2.1 (i : Int)).1 with
      | true => rfl
      | false => exact absurd ⟨h0, hb⟩ this
    have adj : ∀ d i, i + d + 1 < x.2.1.length → bf (lAt x.2.1 (i : Int)).1 (lAt x.2.1 ((i + d + 1 : Nat) : Int)).1 = true := fun d => by
      induction d with
      | zero => intro i hi; exact st (i + 1) (by omega) hi
      | succ d ih =>
        intro i hi
        exact bf_trans (ih i (by omega)) (st (i + (d + 1) + 1) (by omega) hi)
    unfold srt
    rw [List.pairwise_iff_getElem]
    intro i j hi hj hij
    have := adj (j - i - 1) i (by omega)
    rw [show i + (j - i - 1) + 1 = j by omega, lAt_lt hi, lAt_lt hj] at this
    exact this
  · rw [List.pairwise_iff_getElem]
    intro i j hi hj hij he
    refine (key j hj).2.2.2 ⟨i, hij, ?_⟩
    rw [lAt_lt hi, lAt_lt hj]; exact he
theorem okX_of {x : SYS} (h1 : okL x.1) (h2 : okD x.1 x.2.1) (h3 : x.2.1.length ≤ 12) (h4 : ∀ i, i < x.2.2.length → lostE x i = 0) : okX x := by
  refine ⟨okS_of h1, h3, fun i hi => ?_, h4⟩
  have hm := lAt_mem hi
  unfold entE
  rw [if_neg (fun hc => hc (h2.nm _ hm)), if_neg (fun hc => ?_), if_neg (fun hc => hc ⟨h2.sg _ hm, h2.dm _ hm⟩), if_neg]
  · rintro ⟨k, hk, he⟩
    have := (List.pairwise_iff_getElem.1 h2.dbl) k i (by omega) hi hk
    rw [lAt_lt hi, lAt_lt (by omega : k < x.2.1.length)] at he
    exact this he
  · have hb := (List.pairwise_iff_getElem.1 h2.ord) (i - 1) i (by omega) hi (by omega)
    rw [before_bf, show ((i : Int) - 1) = ((i - 1 : Nat) : Int) by omega, lAt_lt hi, lAt_lt (by omega : i - 1 < x.2.1.length), hb] at hc
    cases hc.2
theorem sys_check {x : SYS} (h : okX x) (hl : x.2.2.length ≤ 1000) : F19 x = some (0, 0) ∧ F21 x = some (0, 0) := by
  have hL := okL_of h.st
  have hd := h.dir
  unfold F19 F21
  rw [hL.check.1, hL.check.2, bnd_s, bnd_s, iEq_y rfl, nt, sel_f, sel_f, iLt_f (by unfold lLen; omega), sel_f, sel_f]
  show bndS (L19_0 (osy x, (x.2.1, (lLen x.2.1, 0)))) _ = _ ∧ bndS (L21_0 (osy x, 0)) _ = _
  rcases dir_two x (by omega) hL.nx with ⟨i, hi, hp, e3, e4⟩ | ⟨hent, e3, e4⟩
  · exact absurd (h.ent i hi) hp
  rw [e3, e4, bnd_s, bnd_s]
  dsimp only [sumS]
  show bndS (L19_3 (osy x, (x.2.2, (lLen x.2.2, 0)))) _ = _ ∧ _
  rcases lost_two x hL.few (by omega) with ⟨i, hi, hp, e5, e6⟩ | ⟨hlos, e5, e6⟩
  · exact absurd (h.los i hi) hp
  · rw [e5, e6]; exact ⟨rfl, rfl⟩
theorem okL.new {s : STO} (h : okL s) (hl : s.1.length ≤ 9) (hn : s.2 ≤ 1000) {z : ByteArray} {p : Int} (hp : 1 ≤ p ∧ p ≤ 8) (hz : sLen z = 32 * p) : okL (s.1 ++ [(s.2, z)], s.2 + 1) := by
  have hx := h.nx
  refine ⟨by simp; omega, by dsimp only; omega, fun g hg => ?_, ?_⟩
  · rcases List.mem_append.1 hg with h1 | h1
    · have := h.sg g h1
      dsimp only
      omega
    · rw [List.mem_singleton.1 h1]
      dsimp only
      omega
  · refine List.pairwise_append.2 ⟨h.ord, List.pairwise_singleton .., fun a ha b hb => ?_⟩
    rw [List.mem_singleton.1 hb]
    have := (h.sg a ha).1
    dsimp only
    omega
abbrev flt (l : List (Int × Int)) (n : Int) : List (Int × Int) := l.filter (fun g => decide (¬ g.1 = n))
end Go.Proofs.YtiddpfhpmodfbaaGreatDoor.K
end

section
set_option linter.unusedVariables false
set_option linter.unusedSimpArgs false
set_option linter.unnecessarySimpa false
open Go Go.Ev
namespace Go.Proofs.YtiddpfhpmodfbaaGreatDoor.K
def d3 (k : Nat) : ByteArray := sOf [48 + ((k / 100 % 10 : Nat) : Int), 48 + ((k / 10 % 10 : Nat) : Int), 48 + ((k % 10 : Nat) : Int)]
def digOK (k : Nat) : Bool := match F151 k, F152 (1000 + k) with
  | some s, some t => match FRepeat (bs [48]) (sel (iLt 0 (iSub .i64 3 (sLen s))) (iSub .i64 3 (sLen s)) 0) with
    | some r => sEq (sAdd r s) (d3 k) && (sEq (sCut t 1 (sLen t)) (d3 k) && (oCut 1 (sLen t) (sLen t) && (iLe (sLen r) 3 && iLe (sLen s) 3)))
    | none => false
  | _, _ => false
theorem dig {k : Nat} (h : k ≤ 40) : ∃ s r t, F151 (k : Int) = some s ∧ FRepeat (bs [48]) (sel (iLt 0 (iSub .i64 3 (sLen s))) (iSub .i64 3 (sLen s)) 0) = some r ∧ F152 (1000 + (k : Int)) = some t ∧ sAdd r s = d3 k ∧ sCut t 1 (sLen t) = d3 k ∧ oCut 1 (sLen t) (sLen t) = true ∧ sLen r ≤ 3 ∧ sLen s ≤ 3 := by
  have h1 : (List.range 41).all digOK = true := by kernel_rfl
  have h2 := List.all_eq_true.1 h1 k (List.mem_range.2 (by omega))
  unfold digOK at h2
  split at h2
  · rename_i s t hs ht
    split at h2
    · rename_i r hr
      simp only [Bool.and_eq_true, sEq_t, iLe_t] at h2
      exact ⟨s, r, t, hs, hr, ht, h2.1, h2.2.1, h2.2.2.1, h2.2.2.2⟩
    · cases h2
  · cases h2
def m7 (n : NAM) : Int := sel (iLt 7 (sLen n.2.1)) 7 (sLen n.2.1)
theorem m7_le (n : NAM) : 0 ≤ m7 n ∧ m7 n ≤ sLen n.2.1 ∧ m7 n ≤ 7 := by
  have := sLen_nn n.2.1
  unfold m7
  by_cases h : 7 < sLen n.2.1
  · rw [iLt_y h, sel_t]; omega
  · rw [iLt_f h, sel_f]; omega
def nmk (n : NAM) (k : Nat) : NAM := (bs [81, 82, 67, 76], ((if k = 0 then n.2.1 else sAdd (sCut n.2.1 0 (m7 n)) (d3 k)), n.2.2))
def isin (l : List DE) (n : NAM) : Prop := ∃ d, d ∈ l ∧ d.1 = n
open Classical in
noncomputable def frec (l : List DE) (n : NAM) : Nat → Nat → NAM
  | k, 0 => nmk n k
  | k, f + 1 => if isin l (nmk n k) then frec l n (k + 1) f else nmk n k
noncomputable def fre (l : List DE) (n : NAM) : NAM := frec l n 0 40
theorem frec_at {l : List DE} {n : NAM} {j : Nat} (hj : ¬ isin l (nmk n j)) : ∀ (f k : Nat), k ≤ j → j - k ≤ f → (∀ i, k ≤ i → i < j → isin l (nmk n i)) → frec l n k f = nmk n j
  | 0, k, h1, h2, _ => by rw [show j = k by omega]; rfl
  | f + 1, k, h1, h2, h3 => by
    unfold frec
    by_cases h : k = j
    · rw [h, if_neg hj]
    · rw [if_pos (h3 k (Nat.le_refl _) (by omega))]
      exact frec_at hj f (k + 1) (by omega) (by omega) (fun i h4 h5 => h3 i (by omega) h5)
theorem d3_by (k : Nat) : sBy (d3 k) = [48 + ((k / 100 % 10 : Nat) : Int), 48 + ((k / 10 % 10 : Nat) : Int), 48 + ((k % 10 : Nat) : Int)] := by
  unfold d3
  rw [by_sOf]
  intro b hb
  simp only [List.mem_cons, List.not_mem_nil, or_false] at hb
  omega
theorem nmk_inj {n : NAM} {i j : Nat} (hi : 0 < i) (hj : 0 < j) (hi2 : i < 1000) (hj2 : j < 1000) (h : nmk n i = nmk n j) : i = j := by
  unfold nmk at h
  rw [if_neg (by omega), if_neg (by omega)] at h
  have h1 := congrArg (fun x : NAM => sBy x.2.1) h
  dsimp only at h1
  rw [by_add, by_add, d3_by, d3_by] at h1
  have h2 := List.append_cancel_left h1
  simp only [List.cons.injEq, and_true] at h2
  omega
theorem pigeon {α : Type} : ∀ (l : List α) (f : Nat → α) (m : Nat), l.length ≤ m → (∀ i j, i ≤ m → j ≤ m → f i = f j → i = j) → ∃ i, i ≤ m ∧ ¬ f i ∈ l
  | [], f, m, _, _ => ⟨0, by omega, fun h => by cases h⟩
  | a :: l, f, 0, h, _ => by simp at h
  | a :: l, f, m + 1, h, hi => by
    have h : l.length ≤ m := by simpa using h
    by_cases ha : ∃ i, i ≤ m + 1 ∧ f i = a
    · obtain ⟨i0, h1, h2⟩ := ha
      obtain ⟨i, hi1, hi2⟩ := pigeon l (fun i => if i < i0 then f i else f (i + 1)) m h (fun i j h3 h4 h5 => by
        split at h5 <;> split at h5
        · exact hi i j (by omega) (by omega) h5
        · have := hi i (j + 1) (by omega) (by omega) h5; omega
        · have := hi (i + 1) j (by omega) (by omega) h5; omega
        · have := hi (i + 1) (j + 1) (by omega) (by omega) h5; omega)
      split at hi2
      · refine ⟨i, by omega, fun h5 => ?_⟩
        rcases List.mem_cons.1 h5 with h5 | h5
        · have := hi i i0 (by omega) h1 (h5.trans h2.symm); omega
        · exact hi2 h5
      · refine ⟨i + 1, by omega, fun h5 => ?_⟩
        rcases List.mem_cons.1 h5 with h5 | h5
        · have := hi (i + 1) i0 (by omega) h1 (h5.trans h2.symm); omega
        · exact hi2 h5
    · obtain ⟨i, hi1, hi2⟩ := pigeon l f m h (fun i j h3 h4 h5 => hi i j (by omega) (by omega) h5)
      refine ⟨i, by omega, fun h5 => ?_⟩
      rcases List.mem_cons.1 h5 with h5 | h5
      · exact ha ⟨i, by omega, h5⟩
      · exact hi2 h5
theorem fre_at (l : List DE) (n : NAM) (hl : l.length ≤ 30) : ∃ j, j ≤ 31 ∧ ¬ isin l (nmk n j) ∧ (∀ i, i < j → isin l (nmk n i)) ∧ fre l n = nmk n j := by
  have h1 : ∃ j, j ≤ 31 ∧ ¬ isin l (nmk n j) := by
    obtain ⟨i, hi, h2⟩ := pigeon (l.map (fun d => d.1)) (fun i => nmk n (i + 1)) 30 (by rw [List.length_map]; exact hl) (fun i j h3 h4 h5 => by
      have := nmk_inj (n := n) (i := i + 1) (j := j + 1) (by omega) (by omega) (by omega) (by omega) h5
      omega)
    refine ⟨i + 1, by omega, fun ⟨d, hd, he⟩ => h2 ?_⟩
    exact List.mem_map.2 ⟨d, hd, he⟩
  obtain ⟨J, hJ, hJ2⟩ := h1
  have h2 : ∀ m k, J - k = m → k ≤ J → (∀ i, i < k → isin l (nmk n i)) → ∃ j, j ≤ 31 ∧ ¬ isin l (nmk n j) ∧ (∀ i, i < j → isin l (nmk n i)) := by
    intro m
    induction m with
    | zero => intro k h3 h4 h5; obtain rfl : k = J := by omega
              exact ⟨k, hJ, hJ2, h5⟩
    | succ m ih =>
      intro k h3 h4 h5
      by_cases h6 : isin l (nmk n k)
      · exact ih (k + 1) (by omega) (by omega) (fun i h7 => by
          by_cases h8 : i = k
          · rw [h8]; exact h6
          · exact h5 i (by omega))
      · exact ⟨k, by omega, h6, h5⟩
  obtain ⟨j, h3, h4, h5⟩ := h2 J 0 (by omega) (by omega) (fun i h => by omega)
  exact ⟨j, h3, h4, h5, frec_at h4 40 0 (by omega) (by omega) (fun i _ h => h5 i h)⟩
theorem sAdd_assoc (a b c : ByteArray) : sAdd (sAdd a b) c = sAdd a (sAdd b c) := by
  apply by_inj; rw [by_add, by_add, by_add, by_add, List.append_assoc]
theorem free_two (s : STO) (l : List DE) (q : List (Int × Int)) (n : NAM) (hl : l.length ≤ 30) (hn : sLen n.2.1 ≤ 100) : F99 (s, (l, q)) n = some (fre l n) ∧ F100 (s, (l, q)) n = some (fre l n) := by
  obtain ⟨j, h1, h2, h3, h4⟩ := fre_at l n hl
  have hm := m7_le n
  have hnn := sLen_nn n.2.1
  have key : ∃ r t, L99_0 ((s.1, (s.2, (l, q))), (nmk n 0, ((bs [], (bs [], 0)), (sCut n.2.1 0 (m7 n), 1)))) = some r ∧ L100_0 ((s.1, (s.2, (l, q))), (nmk n 0, ((bs [], (bs [], 0)), (n.2.1, 1)))) = some t ∧ (r.1 = nmk n j ∧ t.1 = nmk n j) := by
    refine loop_two (fun m x y => ∃ k : Nat, k ≤ j ∧ x = ((s.1, (s.2, (l, q))), (nmk n k, ((bs [], (bs [], (0 : Int))), (sCut n.2.1 0 (m7 n), ((k + 1 : Nat) : Int))))) ∧ y = ((s.1, (s.2, (l, q))), (nmk n k, ((bs [], (bs [], (0 : Int))), (n.2.1, ((k + 1 : Nat) : Int))))) ∧ m = j - k) j ⟨0, by omega, rfl, rfl, rfl⟩ (by omega) ?_
    rintro m x y ⟨k, hk, rfl, rfl, rfl⟩
    by_cases hkj : k = j
    · subst hkj
      refine .inr ⟨(nmk n k, (bs [], (bs [], 0))), (nmk n k, (bs [], (bs [], 0))), ?_, ?_, rfl, rfl⟩
      · show B99_0 s.1 s.2 l q (nmk n k).1 (nmk n k).2.1 (nmk n k).2.2 (bs []) (bs []) 0 (sCut n.2.1 0 (m7 n)) ((k + 1 : Nat) : Int) = _
        unfold B99_0
        rcases at_full (s, (l, q)) (nmk n k) (by dsimp only; omega) with ⟨i, i1, i2, _, _⟩ | ⟨_, e1, e2⟩
        · exact absurd ⟨_, lAt_mem i1, i2⟩ h2
        · show bndS (F82 (s, (l, q)) (nmk n k)) _ = _
          rw [e1, bnd_s, iLe_f (by omega), sel_f]
      · show B100_0 s.1 s.2 l q (nmk n k).1 (nmk n k).2.1 (nmk n k).2.2 (bs []) (bs []) 0 n.2.1 ((k + 1 : Nat) : Int) = _
        unfold B100_0
        rcases at_full (s, (l, q)) (nmk n k) (by dsimp only; omega) with ⟨i, i1, i2, _, _⟩ | ⟨_, e1, e2⟩
        · exact absurd ⟨_, lAt_mem i1, i2⟩ h2
        · show bndS (F45 (s, (l, q)) (nmk n k)) _ = _
          rw [e2, bnd_s, iEq_y rfl, nt, sel_f]
    · have hin := h3 k (by omega)
      obtain ⟨sd, rd, td, g1, g2, g3, g4, g5, g6, g7, g8⟩ := dig (k := k + 1) (by omega)
      have ez : nmk n (k + 1) = (bs [81, 82, 67, 76], (sAdd (sCut n.2.1 0 (m7 n)) (d3 (k + 1)), n.2.2)) := by unfold nmk; rw [if_neg (by omega)]
      have hc := scut_len n.2.1 (a := 0) (b := m7 n) (by omega) hm.1 hm.2.1
      have hk1 : iAdd .i64 ((k + 1 : Nat) : Int) 1 = ((k + 1 + 1 : Nat) : Int) := by rw [add_n (by omega) (by omega)]; omega
      refine .inl ⟨j - (k + 1), _, _, by omega, ?_, ?_, k + 1, by omega, rfl, rfl, rfl⟩
      · show B99_0 s.1 s.2 l q (nmk n k).1 (nmk n k).2.1 (nmk n k).2.2 (bs []) (bs []) 0 (sCut n.2.1 0 (m7 n)) ((k + 1 : Nat) : Int) = _
        unfold B99_0
        rcases at_full (s, (l, q)) (nmk n k) (by dsimp only; omega) with ⟨i, i1, i2, e1, e2⟩ | ⟨i1, _, _⟩
        · show bndS (F82 (s, (l, q)) (nmk n k)) _ = _
          rw [e1, bnd_s, iLe_y (by omega), sel_t, g1, bnd_s, g2, bnd_s, sOk_n (by omega), sel_t, sOk_n (by rw [sadd_len]; omega), sel_t, sAdd_assoc, g4, hk1, ez]
          rfl
        · obtain ⟨d, hd, he⟩ := hin
          exact absurd he (i1 d hd)
      · show B100_0 s.1 s.2 l q (nmk n k).1 (nmk n k).2.1 (nmk n k).2.2 (bs []) (bs []) 0 n.2.1 ((k + 1 : Nat) : Int) = _
        unfold B100_0
        rcases at_full (s, (l, q)) (nmk n k) (by dsimp only; omega) with ⟨i, i1, i2, e1, e2⟩ | ⟨i1, _, _⟩
        · show bndS (F45 (s, (l, q)) (nmk n k)) _ = _
          have ok : sOk (sCut n.2.1 0 (m7 n)) (d3 (k + 1)) = true := sOk_n (by rw [by_len (d3 (k + 1)), d3_by]; simp only [List.length_cons, List.length_nil]; omega)
          have o1 : oCut 0 (m7 n) (sLen n.2.1) = true := oCut_y (by omega)
          rw [e2, bnd_s, iEq_f (by omega), nf, sel_t, add_n (by omega) (by omega), g3, bnd_s]
          have em : sel (iLt 7 (sLen n.2.1)) 7 (sLen n.2.1) = m7 n := rfl
          rw [em, o1, sel_t, g6, sel_t, g5, ok, sel_t, hk1, ez]
          rfl
        · obtain ⟨d, hd, he⟩ := hin
          exact absurd he (i1 d hd)
  obtain ⟨r, t, l1, l2, r1, t1⟩ := key
  unfold F99 F100
  rw [h4]
  constructor
  · show sel (oCut 0 (m7 n) (sLen n.2.1)) (bndS (L99_0 ((s.1, (s.2, (l, q))), (nmk n 0, ((bs [], (bs [], 0)), (sCut n.2.1 0 (m7 n), 1))))) fun y0 => some y0.1) none = _
    rw [oCut_y (by omega), sel_t, l1, bnd_s, r1]
  · show bndS (L100_0 ((s.1, (s.2, (l, q))), (nmk n 0, ((bs [], (bs [], 0)), (n.2.1, 1))))) (fun y0 => some y0.1) = _
    rw [l2, bnd_s, t1]
theorem nmE_parts {n : NAM} (h : nmE n = 0) : (nmOK (sBy n.1) = true ∧ nmOK (sBy n.2.1) = true) ∧ (0 ≤ n.2.2 ∧ n.2.2 ≤ 29) := by
  unfold nmE at h
  split at h
  · rename_i h1
    split at h
    · rename_i h2; exact ⟨h1, h2⟩
    · cases h
  · cases h
theorem nmOK_len {s : ByteArray} (hs : nmOK (sBy s) = true) : 1 ≤ sLen s ∧ sLen s ≤ 10 := by
  unfold nmOK at hs
  rw [Bool.and_eq_true, decide_eq_true_eq] at hs
  rw [by_len]
  omega
theorem nmOK_iff {l : List Int} : nmOK l = true ↔ (1 ≤ l.length ∧ l.length ≤ 10) ∧ ∀ i, i < l.length → nmCh i ((l[i]?).getD 0) = true := by
  unfold nmOK
  rw [Bool.and_eq_true, decide_eq_true_eq, List.all_eq_true]
  refine and_congr Iff.rfl ⟨fun h i hi => h i (by rw [List.mem_range'_1]; omega), fun h i hi => h i (by rw [List.mem_range'_1] at hi; omega)⟩
theorem digit_ch {i : Nat} {c : Int} (hi : i ≠ 0) (hc : 48 ≤ c ∧ c ≤ 57) : nmCh i c = true := by
  unfold nmCh
  have h1 : decide (i ≠ 0) = true := decide_eq_true hi
  have h2 : decide (c = 95 ∨ c = 46 ∨ (48 ≤ c ∧ c ≤ 57)) = true := decide_eq_true (Or.inr (Or.inr hc))
  rw [h1, h2]
  exact Bool.or_true _
theorem d3_digit (k j : Nat) (hj : j < 3) : 48 ≤ ((sBy (d3 k))[j]?).getD 0 ∧ ((sBy (d3 k))[j]?).getD 0 ≤ 57 := by
  rw [d3_by]
  match j, hj with
  | 0, _ => show 48 ≤ 48 + ((k / 100 % 10 : Nat) : Int) ∧ 48 + ((k / 100 % 10 : Nat) : Int) ≤ 57; omega
  | 1, _ => show 48 ≤ 48 + ((k / 10 % 10 : Nat) : Int) ∧ 48 + ((k / 10 % 10 : Nat) : Int) ≤ 57; omega
  | 2, _ => show 48 ≤ 48 + ((k % 10 : Nat) : Int) ∧ 48 + ((k % 10 : Nat) : Int) ≤ 57; omega
theorem nmk_ok {n : NAM} (h : nmE n = 0) (k : Nat) : nmE (nmk n k) = 0 := by
  obtain ⟨⟨h1, h2⟩, h3⟩ := nmE_parts h
  have hq : nmOK (sBy (bs [81, 82, 67, 76])) = true := by kernel_rfl
  have hk : nmOK (sBy (nmk n k).2.1) = true := by
    by_cases hk : k = 0
    · rw [hk]; exact h2
    have e : sBy (nmk n k).2.1 = (sBy n.2.1).take (m7 n).toNat ++ sBy (d3 k) := by
      unfold nmk
      dsimp only
      rw [if_neg hk, by_add, by_cut, show (0 : Int).toNat = 0 from rfl, List.drop_zero]
    rw [e, nmOK_iff]
    rw [nmOK_iff] at h2
    have hm := m7_le n
    have hl := by_len n.2.1
    have hm1 : 1 ≤ m7 n := by
      unfold m7
      by_cases h : 7 < sLen n.2.1
      · rw [iLt_y h, sel_t]; omega
      · rw [iLt_f h, sel_f]; omega
    have hL : ((sBy n.2.1).take (m7 n).toNat).length = (m7 n).toNat := by rw [List.length_take]; omega
    have hD : (sBy (d3 k)).length = 3 := by rw [d3_by]; rfl
    rw [List.length_append, hL, hD]
    refine ⟨by omega, fun i hi => ?_⟩
    by_cases hi2 : i < (m7 n).toNat
    · rw [List.getElem?_append_left (by omega), List.getElem?_take, if_pos hi2]
      exact h2.2 i (by omega)
    · rw [List.getElem?_append_right (by omega), hL]
      exact digit_ch (by omega) (d3_digit k _ (by omega))
  unfold nmE
  rw [if_pos ⟨hq, hk⟩]
  exact if_pos h3
theorem fre_ok {l : List DE} {n : NAM} (hl : l.length ≤ 30) (h : nmE n = 0) : nmE (fre l n) = 0 ∧ (fre l n).1 = bs [81, 82, 67, 76] ∧ (fre l n).2.2 = n.2.2 ∧ ∀ d, d ∈ l → d.1 ≠ fre l n := by
  obtain ⟨j, _, h2, _, h4⟩ := fre_at l n hl
  rw [h4]
  exact ⟨nmk_ok h j, rfl, rfl, fun d hd he => h2 ⟨d, hd, he⟩⟩
end Go.Proofs.YtiddpfhpmodfbaaGreatDoor.K
end

section
set_option linter.unusedVariables false
set_option linter.unusedSimpArgs false
set_option linter.unnecessarySimpa false
open Go Go.Ev
namespace Go.Proofs.YtiddpfhpmodfbaaGreatDoor.K
theorem bnd_some {α β : Type} {x : Option α} {k : α → Option β} {y : β} (h : bndS x k = some y) : ∃ a, x = some a ∧ k a = some y := by
  cases x with
  | none => cases h
  | some a => exact ⟨a, rfl, h⟩
theorem grd_some {α : Type} {b : Bool} {x : Option α} {y : α} (h : sel b x none = some y) : b = true ∧ x = some y := by
  cases b
  · cases h
  · exact ⟨rfl, h⟩
theorem hdr_right {a : ByteArray} {r : DE} (h : F16 a = some r) (h0 : r.2.2 = 0) : nmE r.1 = 0 ∧ 1 ≤ r.2.1 ∧ r.2.1 ≤ 8 := by
  unfold F16 at h
  by_cases c1 : sLen a = 32
  rotate_left
  · rw [iEq_f c1, nf, sel_t] at h; cases h; cases h0
  rw [iEq_y c1, nt, sel_f] at h
  obtain ⟨_, h⟩ := grd_some h
  obtain ⟨y0, _, h⟩ := bnd_some h
  obtain ⟨_, h⟩ := grd_some h
  obtain ⟨y1, _, h⟩ := bnd_some h
  obtain ⟨_, h⟩ := grd_some h
  obtain ⟨_, h⟩ := grd_some h
  obtain ⟨_, h⟩ := grd_some h
  obtain ⟨_, h⟩ := grd_some h
  rw [let_s] at h
  obtain ⟨_, h⟩ := grd_some h
  rw [let_s] at h
  obtain ⟨_, h⟩ := grd_some h
  revert h
  generalize bOr (bOr (bOr (bNot (sEq (sCut a 0 4) (bs [42, 79, 66, 74]))) (valS (FContains y0 (bs [32])) false)) (valS (FContains y1 (bs [32])) false)) (bNot (sEq (sCut a 30 (sLen a)) (bs [0, 0]))) = c
  intro h
  cases c with
  | true => rw [sel_t] at h; cases h; cases h0
  | false =>
    rw [sel_f, (nmE_eq _).1, bnd_s] at h
    by_cases hn : nmE (y0, (y1, iCv .i64 (sAt a 4))) = 0
    rotate_left
    · rw [iEq_f hn, nf, sel_t] at h; cases h; exact absurd h0 hn
    rw [iEq_y hn, nt, sel_f, let_s] at h
    cases hw : F51 (iCv .i64 (sAt a 25)) 1 8 with
    | false => rw [hw, nf, sel_t] at h; cases h; cases h0
    | true =>
      rw [hw, nt, sel_f] at h
      have hw' : bAnd (iLe 1 (iCv .i64 (sAt a 25))) (iLe (iCv .i64 (sAt a 25)) 8) = true := hw
      rw [and_t, iLe_t, iLe_t] at hw'
      obtain ⟨_, h⟩ := grd_some h
      obtain ⟨_, h⟩ := grd_some h
      obtain ⟨y6, _, h⟩ := bnd_some h
      cases hs : sEq (sCut a 26 30) y6 with
      | false => rw [hs, nf, sel_t] at h; cases h; cases h0
      | true => rw [hs, nt, sel_f] at h; cases h; exact ⟨hn, hw'⟩
structure RS where
  done : List SEG
  dir : List DE
  out : List FIN
noncomputable def hdr (g : SEG) : DE := (F16 (sCut g.2 0 32)).getD default
noncomputable def hed (n : NAM) (p : Int) : ByteArray := (F79 n p).getD default
def hasE (xd : List DE) (n : Int) : Prop := ∃ d, d ∈ xd ∧ d.2.1 = n
open Classical in
noncomputable def rstep (xd : List DE) (r : RS) (g : SEG) : RS :=
  if hasE xd g.1 then ⟨r.done ++ [g], r.dir, r.out⟩
  else if ¬ (hdr g).2.2 = 0 then ⟨r.done, r.dir, r.out ++ [(2, (g.1, (0, (bs [], (bs [], 0)))))]⟩
  else ⟨r.done ++ [(g.1, wrB g.2 (hed (fre r.dir (hdr g).1) (sLen g.2 / 32)))], ins (fre r.dir (hdr g).1, (g.1, 0)) r.dir, r.out ++ [(1, (g.1, (0, fre r.dir (hdr g).1)))]⟩
structure Inv (nx : Int) (sg : List SEG) (xd : List DE) (r : RS) (l : List SEG) : Prop where
  st : okL (r.done ++ l, nx)
  di : okD (sg, nx) r.dir
  len : r.dir.length ≤ 12 + r.done.length
  ol : r.out.length + l.length ≤ 12 + sg.length
  sgl : sg.length ≤ 10
  iff : ∀ g, g ∈ l → (hasE r.dir g.1 ↔ hasE xd g.1)
  has : ∀ d, d ∈ r.dir → ∃ g, g ∈ r.done ++ l ∧ g.1 = d.2.1
  own : ∀ g, g ∈ r.done → hasE r.dir g.1
  kept : ∀ d, d ∈ xd → (∃ g, g ∈ sg ∧ g.1 = d.2.1) → d ∈ r.dir
  same : ∀ g, g ∈ sg → hasE xd g.1 → g ∈ r.done ++ l
theorem place_mid {n : Int} {b : ByteArray} {l : List SEG} : ∀ {p : List SEG}, (∀ g, g ∈ p → g.1 ≠ n) → place (p ++ (n, b) :: l) n = (p.length : Int)
  | [], _ => by show (if n = n then _ else _) = _; rw [if_pos rfl]; rfl
  | g :: p, h => by
    have := place_mid (b := b) (l := l) (p := p) (fun a ha => h a (List.mem_cons_of_mem _ ha))
    show (if g.1 = n then (0 : Int) else if place (p ++ (n, b) :: l) n = -1 then -1 else place (p ++ (n, b) :: l) n + 1) = _
    rw [if_neg (h g (List.mem_cons_self ..)), this, if_neg (by omega), List.length_cons]
    omega
theorem mid_at (p l : List SEG) (g : SEG) : lAt (p ++ g :: l) (p.length : Int) = g := by rw [lAt_n]; simp
theorem mid_set (p l : List SEG) (g a : SEG) : (p ++ g :: l).set p.length a = p ++ a :: l := by simp [List.set_append]
theorem mid_del (p l : List SEG) (g : SEG) : (p ++ g :: l).eraseIdx p.length = p ++ l := by
  rw [List.eraseIdx_append_of_length_le (Nat.le_refl _)]; simp
structure Calls (nx : Int) (sg : List SEG) (xd : List DE) (r : RS) (g : SEG) (l : List SEG) : Prop where
  sz : 32 ≤ sLen g.2 ∧ sLen g.2 ≤ 256 ∧ sLen g.2 % 32 = 0
  num : 0 ≤ g.1 ∧ g.1 ≤ 2000
  h16 : F16 (sCut g.2 0 32) = some (hdr g)
  h17 : F17 (sCut g.2 0 32) = some (hdr g)
  del : F98 (r.done ++ g :: l, nx) g.1 = some ((r.done ++ l, nx), 0) ∧ F95 (r.done ++ g :: l, nx) g.1 = some (r.done ++ l, (nx, (0, (bs [], 0))))
  nam : (hdr g).2.2 = 0 → ∀ q : List (Int × Int), F99 ((r.done ++ g :: l, nx), (r.dir, q)) (hdr g).1 = some (fre r.dir (hdr g).1) ∧ F100 ((r.done ++ g :: l, nx), (r.dir, q)) (hdr g).1 = some (fre r.dir (hdr g).1)
  hdn : (hdr g).2.2 = 0 → F79 (fre r.dir (hdr g).1) (sLen g.2 / 32) = some (hed (fre r.dir (hdr g).1) (sLen g.2 / 32)) ∧ F80 (fre r.dir (hdr g).1) (sLen g.2 / 32) = some (hed (fre r.dir (hdr g).1) (sLen g.2 / 32)) ∧ sLen (hed (fre r.dir (hdr g).1) (sLen g.2 / 32)) = 32
  wri : (hdr g).2.2 = 0 → F84 (r.done ++ g :: l, nx) (g.1, 0) (hed (fre r.dir (hdr g).1) (sLen g.2 / 32)) = some ((r.done ++ (g.1, wrB g.2 (hed (fre r.dir (hdr g).1) (sLen g.2 / 32))) :: l, nx), 0) ∧ F92 (r.done ++ g :: l, nx) (g.1, 0) (hed (fre r.dir (hdr g).1) (sLen g.2 / 32)) = some (r.done ++ (g.1, wrB g.2 (hed (fre r.dir (hdr g).1) (sLen g.2 / 32))) :: l, (nx, (0, (bs [], 0))))
theorem Inv.dl {nx : Int} {sg : List SEG} {xd : List DE} {r : RS} {l : List SEG} (h : Inv nx sg xd r l) : r.dir.length ≤ 22 ∧ r.out.length ≤ 22 := by
  have h1 := h.st.len
  have h2 := h.len
  have h3 := h.ol
  have h4 := h.sgl
  rw [List.length_append] at h1
  omega
theorem calls_of {nx : Int} {sg : List SEG} {xd : List DE} {r : RS} {g : SEG} {l : List SEG} (h : Inv nx sg xd r (g :: l)) : Calls nx sg xd r g l := by
  have hg : g ∈ r.done ++ g :: l := by simp
  have h1 := h.st.sg g hg
  have hx := h.st.nx
  dsimp only at h1 hx
  have hnum : 0 ≤ g.1 ∧ g.1 ≤ 2000 := by omega
  have hp : place (r.done ++ g :: l) g.1 = (r.done.length : Int) := by
    refine place_mid (n := g.1) (b := g.2) (fun a ha => ?_)
    have := (List.pairwise_append.1 h.st.ord).2.2 a ha g (List.mem_cons_self ..)
    omega
  have hk : r.done.length < (r.done ++ g :: l).length := by simp
  obtain ⟨q, i1, i2⟩ := in_eq (sCut g.2 0 32) (by rw [scut_len _ (by omega) (by omega) (by omega)]; omega)
  have hq : hdr g = q := by unfold hdr; rw [i1]; rfl
  have dl := h.dl
  have right : (hdr g).2.2 = 0 → nmE (hdr g).1 = 0 := fun h0 => (hdr_right i1 (by rw [← hq]; exact h0)) |> fun h => by rw [hq]; exact h.1
  have hdn : (hdr g).2.2 = 0 → F79 (fre r.dir (hdr g).1) (sLen g.2 / 32) = some (hed (fre r.dir (hdr g).1) (sLen g.2 / 32)) ∧ F80 (fre r.dir (hdr g).1) (sLen g.2 / 32) = some (hed (fre r.dir (hdr g).1) (sLen g.2 / 32)) ∧ sLen (hed (fre r.dir (hdr g).1) (sLen g.2 / 32)) = 32 := fun h0 => by
    obtain ⟨b, b1, b2, b3⟩ := head_eq (fre r.dir (hdr g).1) (sLen g.2 / 32) (fre_ok (by omega) (right h0)).1 (by omega)
    have : hed (fre r.dir (hdr g).1) (sLen g.2 / 32) = b := by unfold hed; rw [b1]; rfl
    rw [this]
    exact ⟨b1, b2, b3⟩
  refine ⟨by omega, hnum, by rw [hq]; exact i1, by rw [hq]; exact i2, ?_, fun h0 => ?_, hdn, fun h0 => ?_⟩
  · have := del_eq h.st hnum hk hp
    rw [mid_del] at this
    exact this
  · intro q'
    refine free_two _ _ q' _ (by omega) ?_
    have := nmOK_len (nmE_parts (right h0)).1.2
    omega
  · have := wr_eq h.st hnum hk hp (hdn h0).2.2
    rw [mid_at, mid_set] at this
    exact this
theorem hasE_ins {d : DE} {l : List DE} {n : Int} : hasE (ins d l) n ↔ d.2.1 = n ∨ hasE l n := by
  unfold hasE
  constructor
  · rintro ⟨a, ha, he⟩
    rcases ins_mem.1 ha with rfl | ha
    · exact .inl he
    · exact .inr ⟨a, ha, he⟩
  · rintro (h | ⟨a, ha, he⟩)
    · exact ⟨d, ins_mem.2 (.inl rfl), h⟩
    · exact ⟨a, ins_mem.2 (.inr ha), he⟩
theorem Inv.next {nx : Int} {sg : List SEG} {xd : List DE} {r : RS} {g : SEG} {l : List SEG} (h : Inv nx sg xd r (g :: l)) : Inv nx sg xd (rstep xd r g) l := by
  have hc := calls_of h
  have hlt : ∀ a, a ∈ l → g.1 < a.1 := fun a ha => by
    have := (List.pairwise_append.1 h.st.ord).2.1
    exact (List.pairwise_cons.1 this).1 a ha
  have ho := h.ol
  have hln := h.len
  rw [List.length_cons] at ho
  unfold rstep
  split
  · rename_i he
    refine ⟨?_, h.di, ?_, by dsimp only; omega, h.sgl, fun a ha => h.iff a (List.mem_cons_of_mem _ ha), ?_, ?_, h.kept, ?_⟩
    · have := h.st; rw [List.append_assoc]; exact this
    · rw [List.length_append]; dsimp only; omega
    · rw [List.append_assoc]; exact h.has
    · intro a ha
      rcases List.mem_append.1 ha with ha | ha
      · exact h.own a ha
      · rw [List.mem_singleton.1 ha]; exact (h.iff g (List.mem_cons_self ..)).2 he
    · rw [List.append_assoc]; exact h.same
  · rename_i he
    have hne : ¬ hasE r.dir g.1 := fun h5 => he ((h.iff g (List.mem_cons_self ..)).1 h5)
    split
    · rename_i h0
      have hsub : (r.done ++ l).Sublist (r.done ++ g :: l) := List.Sublist.append (List.Sublist.refl _) (List.sublist_cons_self ..)
      refine ⟨⟨?_, h.st.nx, fun a ha => h.st.sg a (hsub.subset ha), h.st.ord.sublist hsub⟩, h.di, h.len, ?_, h.sgl, fun a ha => h.iff a (List.mem_cons_of_mem _ ha), ?_, h.own, h.kept, ?_⟩
      · have := h.st.len; have := hsub.length_le; dsimp only at *; omega
      · rw [List.length_append]; simp only [List.length_cons, List.length_nil]; omega
      · intro d hd
        obtain ⟨a, ha, e⟩ := h.has d hd
        rcases List.mem_append.1 ha with ha | ha
        · exact ⟨a, List.mem_append_left _ ha, e⟩
        · rcases List.mem_cons.1 ha with rfl | ha
          · exact absurd ⟨d, hd, e.symm⟩ hne
          · exact ⟨a, List.mem_append_right _ ha, e⟩
      · intro a ha hh
        rcases List.mem_append.1 (h.same a ha hh) with h5 | h5
        · exact List.mem_append_left _ h5
        · rcases List.mem_cons.1 h5 with rfl | h5
          · exact absurd hh he
          · exact List.mem_append_right _ h5
    · rename_i h0
      have h0 : (hdr g).2.2 = 0 := Classical.not_not.1 h0
      have hr := hdr_right hc.h16 h0
      have dl := h.dl
      obtain ⟨f1, f2, f3, f4⟩ := fre_ok (l := r.dir) (by omega) hr.1
      have hb := (hc.hdn h0).2.2
      generalize hed (fre r.dir (hdr g).1) (sLen g.2 / 32) = b at *
      generalize hn : fre r.dir (hdr g).1 = n at *
      have hgs := h.st.sg g (by simp)
      dsimp only at hgs
      have hst := h.st.set (k := r.done.length) (by simp) (b := wrB g.2 b) (by dsimp only; rw [mid_at]; exact wrB_len hb hc.sz.1)
      dsimp only at hst
      rw [mid_at, mid_set] at hst
      refine ⟨?_, ⟨?_, ?_, ?_, ins_srt h.di.ord f4, ?_⟩, ?_, ?_, h.sgl, ?_, ?_, ?_, ?_, ?_⟩
      · rw [List.append_assoc]; exact hst
      · intro d hd
        rcases ins_mem.1 hd with rfl | hd
        · exact f1
        · exact h.di.nm d hd
      · intro d hd
        rcases ins_mem.1 hd with rfl | hd
        · exact hgs.1
        · exact h.di.sg d hd
      · intro d hd
        rcases ins_mem.1 hd with rfl | hd
        · exact ⟨by dsimp only; omega, by dsimp only; omega⟩
        · exact h.di.dm d hd
      · refine ((ins_perm _ _).pairwise_iff (fun h5 => Ne.symm h5)).2 (List.pairwise_cons.2 ⟨fun d hd h5 => hne ⟨d, hd, h5.symm⟩, h.di.dbl⟩)
      · rw [ins_len, List.length_append]; simp only [List.length_cons, List.length_nil]; omega
      · rw [List.length_append]; simp only [List.length_cons, List.length_nil]; omega
      · intro a ha
        rw [hasE_ins]
        have := hlt a ha
        rw [h.iff a (List.mem_cons_of_mem _ ha)]
        exact ⟨fun h5 => h5.elim (fun h6 => by dsimp only at h6; omega) id, .inr⟩
      · intro d hd
        rw [List.append_assoc]
        rcases ins_mem.1 hd with rfl | hd2
        · exact ⟨(g.1, wrB g.2 b), by simp, rfl⟩
        · obtain ⟨a, ha, e⟩ := h.has d hd2
          rcases List.mem_append.1 ha with ha | ha
          · exact ⟨a, List.mem_append_left _ ha, e⟩
          · rcases List.mem_cons.1 ha with rfl | ha
            · exact absurd ⟨d, hd2, e.symm⟩ hne
            · exact ⟨a, by simp [ha], e⟩
      · intro a ha
        rw [hasE_ins]
        rcases List.mem_append.1 ha with ha | ha
        · exact .inr (h.own a ha)
        · rw [List.mem_singleton.1 ha]; exact .inl rfl
      · intro d hd hh
        exact ins_mem.2 (.inr (h.kept d hd hh))
      · intro a ha hh
        rw [List.append_assoc]
        rcases List.mem_append.1 (h.same a ha hh) with h5 | h5
        · exact List.mem_append_left _ h5
        · rcases List.mem_cons.1 h5 with rfl | h5
          · exact absurd hh he
          · simp [h5]
def keep (x : SYS) (l : List DE) : List DE := l.filter (fun d => decide (0 ≤ place x.1.1 d.2.1))
def remo (x : SYS) (l : List DE) : List FIN := (l.filter (fun d => decide (¬ 0 ≤ place x.1.1 d.2.1))).map (fun d => (3, (d.2.1, (0, d.1))))
def r00 (x : SYS) : RS := ⟨[], keep x x.2.1, remo x x.2.1⟩
noncomputable def rrun (x : SYS) (i : Nat) : RS := (x.1.1.take i).foldl (rstep x.2.1) (r00 x)
end Go.Proofs.YtiddpfhpmodfbaaGreatDoor.K
end

section
set_option linter.unusedVariables false
set_option linter.unusedSimpArgs false
set_option linter.unnecessarySimpa false
open Go Go.Ev
namespace Go.Proofs.YtiddpfhpmodfbaaGreatDoor.K
abbrev LP := List (Int × Int)
theorem take_one {α : Type} [Inhabited α] {l : List α} {i : Nat} (h : i < l.length) : l.take (i + 1) = l.take i ++ [lAt l (i : Int)] := by
  rw [List.take_succ_eq_append_getElem h, lAt_lt h]
def over (x : SYS) (i : Nat) : Prop := ¬ hasE x.2.1 (lAt x.1.1 (i : Int)).1 ∧ (hdr (lAt x.1.1 (i : Int))).2.2 = 0 ∧ (rrun x i).dir.length = 12
end Go.Proofs.YtiddpfhpmodfbaaGreatDoor.K
end

section
set_option linter.unusedVariables false
set_option linter.unusedSimpArgs false
set_option linter.unnecessarySimpa false
open Go Go.Ev
namespace Go.Proofs.YtiddpfhpmodfbaaGreatDoor.K
end Go.Proofs.YtiddpfhpmodfbaaGreatDoor.K
end

section
set_option linter.unusedVariables false
set_option linter.unusedSimpArgs false
set_option linter.unnecessarySimpa false
open Go Go.Ev
namespace Go.Proofs.YtiddpfhpmodfbaaGreatDoor.K
def sgAt (s : List SEG) (n : Int) : SEG := lAt s (place s n)
def badE (s : List SEG) (d : DE) : Prop := place s d.2.1 = -1 ∨ ¬ (hdr (sgAt s d.2.1)).2.2 = 0 ∨ ¬ (hdr (sgAt s d.2.1)).1 = d.1
def pgsE (s : List SEG) (d : DE) : Prop := ¬ (hdr (sgAt s d.2.1)).2.1 = sLen (sgAt s d.2.1).2 / 32
open Classical in
theorem dmg {x : SYS} (hf : fewX x) (h : okX x) {i : Nat} (hi : i < x.2.1.length) : ∃ g, F77 x (lAt x.2.1 (i : Int)) = some (sel (iLt g (lAt x.2.1 (i : Int)).2.2) (lAt x.2.1 (i : Int)).2.2 g) ∧ (0 ≤ g ∧ g ≤ 3) ∧ (badE x.1.1 (lAt x.2.1 (i : Int)) → g = 3) ∧ (¬ badE x.1.1 (lAt x.2.1 (i : Int)) → pgsE x.1.1 (lAt x.2.1 (i : Int)) → 1 ≤ g) ∧ (x.2.2 = [] → ¬ badE x.1.1 (lAt x.2.1 (i : Int)) → g = if pgsE x.1.1 (lAt x.2.1 (i : Int)) then 1 else 0) := by
  obtain ⟨g, g1, g2⟩ := damage_eq hf h hi
  refine ⟨g, g2, ?_⟩
  obtain ⟨hs, hd, hl⟩ := hf
  obtain ⟨q0, a0, b0⟩ := F131_eq x (lAt x.2.1 (i : Int)).2.1 0 0 (by omega)
  obtain ⟨q1, a1, b1⟩ := F131_eq x (lAt x.2.1 (i : Int)).2.1 1 8 (by omega)
  have n0 : x.2.2 = [] → q0 = false := fun h0 => by
    rw [bf_t, b0]; rintro ⟨k, hk, _⟩; rw [h0] at hk; simp at hk
  have n1 : x.2.2 = [] → q1 = false := fun h0 => by
    rw [bf_t, b1]; rintro ⟨k, hk, _⟩; rw [h0] at hk; simp at hk
  unfold F78 at g1
  rw [oIn_y (by unfold lLen; omega), sel_t, F90_eq _ _ (by have := hs.1; omega), bnd_s, a0] at g1
  simp only [okS_s, or_tt, sel_t, valS_s, let_s] at g1
  unfold badE pgsE sgAt
  rcases place_cases (lAt x.2.1 (i : Int)).2.1 x.1.1 with ⟨j, hj, _, _, ep⟩ | ⟨_, ep⟩
  rotate_left
  · rw [ep, iEq_y rfl, or_tt, sel_t] at g1
    cases g1
    exact ⟨by omega, fun _ => rfl, fun hb => absurd (.inl ep) hb, fun _ hb => absurd (.inl ep) hb⟩
  have hjl := seg_len h hj
  have h400 := hs.2 j hj
  rw [ep, iEq_f (by omega), or_ff] at g1
  rw [ep]
  obtain ⟨r, f1, f2⟩ := in_eq (sCut (lAt x.1.1 (j : Int)).2 0 32) (by rw [scut_len _ (by omega) (by omega) (by omega)]; omega)
  have hr : hdr (lAt x.1.1 (j : Int)) = r := by unfold hdr; rw [f1]; rfl
  rw [hr]
  cases q0 with
  | true =>
    rw [sel_t] at g1
    cases g1
    exact ⟨by omega, fun _ => rfl, fun _ _ => by decide, fun h0 => absurd (n0 h0) (by decide)⟩
  | false =>
    rw [sel_f, oIn_y (by unfold lLen; omega), sel_t, oCut_y (by omega), sel_t, f2, bnd_s] at g1
    have hc : (bOr (bNot (iEq r.2.2 0)) (bNot (bAnd (sEq r.1.1 (lAt x.2.1 (i : Int)).1.1) (bAnd (sEq r.1.2.1 (lAt x.2.1 (i : Int)).1.2.1) (iEq r.1.2.2 (lAt x.2.1 (i : Int)).1.2.2)))) = true) ↔ (¬ r.2.2 = 0 ∨ ¬ r.1 = (lAt x.2.1 (i : Int)).1) := by
      rw [or_t, not_t, not_t, bf_t, bf_t, iEq_t, and_t, and_t, sEq_t, sEq_t, iEq_t]
      refine or_congr Iff.rfl (not_congr ?_)
      exact ⟨fun h => Prod.ext h.1 (Prod.ext h.2.1 h.2.2), fun h => by rw [h]; exact ⟨rfl, rfl, rfl⟩⟩
    generalize bOr (bNot (iEq r.2.2 0)) (bNot (bAnd (sEq r.1.1 (lAt x.2.1 (i : Int)).1.1) (bAnd (sEq r.1.2.1 (lAt x.2.1 (i : Int)).1.2.1) (iEq r.1.2.2 (lAt x.2.1 (i : Int)).1.2.2)))) = c at *
    cases c with
    | true =>
      rw [sel_t] at g1
      cases g1
      have hb := hc.1 rfl
      exact ⟨by omega, fun _ => rfl, fun hn => absurd (.inr hb) hn, fun _ hn => absurd (.inr hb) hn⟩
    | false =>
      have hb : ¬ ((j : Int) = -1 ∨ ¬ r.2.2 = 0 ∨ ¬ r.1 = (lAt x.2.1 (i : Int)).1) := fun h5 => h5.elim (fun h6 => by omega) (fun h6 => by have := hc.2 h6; cases this)
      rw [sel_f, a1, bnd_s] at g1
      cases q1 with
      | true =>
        rw [sel_t] at g1
        cases g1
        exact ⟨by omega, fun hn => absurd hn hb, fun _ _ => by decide, fun h0 => absurd (n1 h0) (by decide)⟩
      | false =>
        rw [sel_f, F66_eq (by omega), bnd_s] at g1
        by_cases hp : r.2.1 = sLen (lAt x.1.1 (j : Int)).2 / 32
        · rw [iEq_y hp, nt] at g1
          have : g = 0 := by cases g1; rfl
          subst this
          exact ⟨by omega, fun hn => absurd hn hb, fun _ h6 => absurd hp h6, fun _ _ => by rw [if_neg (fun h6 => h6 hp)]⟩
        · rw [iEq_f hp, nf] at g1
          have : g = 1 := by cases g1; rfl
          subst this
          exact ⟨by omega, fun hn => absurd hn hb, fun _ _ => by decide, fun _ _ => by rw [if_pos hp]⟩
def mxv (x : SYS) (i : Nat) : Int := (F77 x (lAt x.2.1 (i : Int))).getD 0
def nd (x : SYS) (i : Nat) : DE := ((lAt x.2.1 (i : Int)).1, ((lAt x.2.1 (i : Int)).2.1, mxv x i))
def dirI (x : SYS) : List DE := (List.range x.2.1.length).map (nd x)
theorem mxv_eq {x : SYS} (hf : fewX x) (h : okX x) {i : Nat} (hi : i < x.2.1.length) : F77 x (lAt x.2.1 (i : Int)) = some (mxv x i) ∧ (lAt x.2.1 (i : Int)).2.2 ≤ mxv x i ∧ 0 ≤ mxv x i ∧ mxv x i ≤ 3 ∧ ∃ g, mxv x i = sel (iLt g (lAt x.2.1 (i : Int)).2.2) (lAt x.2.1 (i : Int)).2.2 g ∧ g ≤ mxv x i := by
  obtain ⟨g, g1, g2, _⟩ := dmg hf h hi
  have hd := (okD_of h).dm _ (lAt_mem hi)
  have e : mxv x i = sel (iLt g (lAt x.2.1 (i : Int)).2.2) (lAt x.2.1 (i : Int)).2.2 g := by unfold mxv; rw [g1]; rfl
  refine ⟨by rw [g1, e], ?_⟩
  by_cases hc : g < (lAt x.2.1 (i : Int)).2.2
  · rw [iLt_y hc, sel_t] at e
    exact ⟨by omega, by omega, by omega, g, by rw [e, iLt_y hc, sel_t], by omega⟩
  · rw [iLt_f hc, sel_f] at e
    exact ⟨by omega, by omega, by omega, g, by rw [e, iLt_f hc, sel_f], by omega⟩
theorem F25_eq {x : SYS} (hf : fewX x) (h : okX x) : ∃ out : List FIN, out.length ≤ 100 ∧ F25 x = some ((x.1.1, (x.1.2, (dirI x, []))), (out, 0)) ∧ ((∀ i, i < x.2.1.length → mxv x i = (lAt x.2.1 (i : Int)).2.2) → out = []) := by
  have hll : lLen x.2.1 = (x.2.1.length : Int) := rfl
  have hd14 := hf.2.1
  have key : Ok (L25_0 (osy x, (0, (osy x, (([] : List FIN), (x.2.1, (lLen x.2.1, 0))))))) (fun r => ∃ out : List FIN, out.length ≤ 100 ∧ r = (0, ((x.1.1, (x.1.2, (dirI x, x.2.2))), out)) ∧ ((∀ i, i < x.2.1.length → mxv x i = (lAt x.2.1 (i : Int)).2.2) → out = [])) := by
    refine loop_inv (fun m a => ∃ (i : Nat) (out : List FIN), i ≤ x.2.1.length ∧ out.length ≤ i ∧ a = (osy x, (0, ((x.1.1, (x.1.2, ((List.range i).map (nd x) ++ x.2.1.drop i, x.2.2))), (out, (x.2.1, (lLen x.2.1, (i : Int))))))) ∧ ((∀ i, i < x.2.1.length → mxv x i = (lAt x.2.1 (i : Int)).2.2) → out = []) ∧ m = x.2.1.length - i) x.2.1.length ⟨0, [], by omega, by simp, rfl, fun _ => rfl, rfl⟩ (by omega) ?_
    rintro m a ⟨i, out, hi, ho, rfl, hz, rfl⟩
    show Ok (B25_0 x.1.1 x.1.2 x.2.1 x.2.2 0 x.1.1 x.1.2 ((List.range i).map (nd x) ++ x.2.1.drop i) x.2.2 out x.2.1 (lLen x.2.1) i) _
    unfold B25_0
    by_cases hlt : i < x.2.1.length
    rotate_left
    · rw [iLt_f (by omega), sel_f, ok_some]
      obtain rfl : i = x.2.1.length := by omega
      refine ⟨out, by omega, ?_, hz⟩
      rw [List.drop_length, List.append_nil]
      rfl
    obtain ⟨m1, m2, _⟩ := mxv_eq hf h hlt
    have m1' : F77 ((x.1.1, x.1.2), (x.2.1, x.2.2)) (lAt x.2.1 (i : Int)) = some (mxv x i) := m1
    have hdl : ((List.range i).map (nd x)).length = i := by simp
    have hat : lAt ((List.range i).map (nd x) ++ x.2.1.drop i) (i : Int) = lAt x.2.1 (i : Int) := by
      rw [lAt_n, List.getElem?_append_right (by omega), hdl, Nat.sub_self, List.getElem?_drop, Nat.add_zero, lAt_n]
    have hsplit : (List.range (i + 1)).map (nd x) ++ x.2.1.drop (i + 1) = (List.range i).map (nd x) ++ nd x i :: x.2.1.drop (i + 1) := by
      rw [List.range_succ, List.map_append, List.append_assoc]; rfl
    have hdd : x.2.1.drop i = lAt x.2.1 (i : Int) :: x.2.1.drop (i + 1) := by rw [lAt_lt hlt]; exact List.drop_eq_getElem_cons hlt
    rw [iLt_y (a := (i : Int)) (b := lLen x.2.1) (by omega), sel_t, oIn_y (by omega), sel_t, m1', bnd_s, add_n (by omega) (by omega)]
    by_cases hc : (lAt x.2.1 (i : Int)).2.2 < mxv x i
    · rw [iLt_y hc, sel_t, oIn_y (by unfold lLen; rw [List.length_append, hdl, List.length_drop]; omega), sel_t, lCap_y (by decide) (by decide) (by simp [lApp]; omega), sel_t, ok_some]
      refine ⟨x.2.1.length - (i + 1), by omega, i + 1, out ++ [(0, ((lAt x.2.1 (i : Int)).2.1, (mxv x i, (lAt x.2.1 (i : Int)).1)))], by omega, by simp; omega, ?_, fun hall => ?_, rfl⟩
      · rw [hat, hsplit]
        have : lSet ((List.range i).map (nd x) ++ x.2.1.drop i) (i : Int) ((lAt x.2.1 (i : Int)).1, ((lAt x.2.1 (i : Int)).2.1, mxv x i)) = (List.range i).map (nd x) ++ nd x i :: x.2.1.drop (i + 1) := by
          unfold lSet
          rw [Int.toNat_natCast, List.set_append_right _ _ (by omega), hdl, Nat.sub_self, hdd]
          rfl
        rw [this]
        rfl
      · have := hall i hlt; omega
    · rw [iLt_f hc, sel_f, ok_some]
      refine ⟨x.2.1.length - (i + 1), by omega, i + 1, out, by omega, by omega, ?_, hz, rfl⟩
      have hnd : nd x i = lAt x.2.1 (i : Int) := by
        unfold nd
        rw [show mxv x i = (lAt x.2.1 (i : Int)).2.2 by omega]
      rw [hsplit, hnd, ← hdd]
      rfl
  obtain ⟨r, hr, out, h1, rfl, h2⟩ := key
  refine ⟨out, h1, ?_, h2⟩
  unfold F25
  rw [(sys_check h (by have := hf.2.2; omega)).1, bnd_s, iEq_y rfl, nt, sel_f, F69_eq hf, bnd_s]
  show bndS (L25_0 (osy x, (0, (osy x, (([] : List FIN), (x.2.1, (lLen x.2.1, 0))))))) _ = _
  rw [hr]
  rfl
theorem dirI_at {x : SYS} {i : Nat} (hi : i < x.2.1.length) : lAt (dirI x) (i : Int) = nd x i := by
  unfold dirI
  rw [lAt_lt (by simpa using hi)]
  simp
theorem dirI_len (x : SYS) : (dirI x).length = x.2.1.length := by unfold dirI; simp
end Go.Proofs.YtiddpfhpmodfbaaGreatDoor.K
end

section
set_option linter.unusedVariables false
set_option linter.unusedSimpArgs false
set_option linter.unnecessarySimpa false
open Go Go.Ev
namespace Go.Proofs.YtiddpfhpmodfbaaGreatDoor.K
end Go.Proofs.YtiddpfhpmodfbaaGreatDoor.K
end

section
set_option linter.unusedVariables false
set_option linter.unusedSimpArgs false
set_option linter.unnecessarySimpa false
open Go Go.Ev
namespace Go.Proofs.YtiddpfhpmodfbaaGreatDoor.K
def zp : ByteArray := sOf (List.replicate 32 0)
theorem zp_len : sLen zp = 32 := by
  unfold zp
  rw [sOf_len (by intro b hb; rw [List.eq_of_mem_replicate hb]; decide), List.length_replicate]; rfl
def zpg (o : ByteArray) (p : Int) : ByteArray := sAdd (sAdd (sCut o 0 (p * 32)) zp) (sCut o (p * 32 + 32) (sLen o))
theorem zpg_len {o : ByteArray} {p : Int} (h0 : 0 ≤ p) (h1 : p ≤ sLen o / 32 - 1) : sLen (zpg o p) = sLen o := by
  unfold zpg
  rw [sadd_len, sadd_len, scut_len _ (by omega) (by omega) (by omega), scut_len _ (by omega) (by omega) (by omega), zp_len]
  omega
structure LK (s t : List SEG) : Prop where
  len : t.length = s.length
  nm : ∀ i : Nat, i < s.length → (lAt t (i : Int)).1 = (lAt s (i : Int)).1 ∧ sLen (lAt t (i : Int)).2 = sLen (lAt s (i : Int)).2
theorem LK.refl (s : List SEG) : LK s s := ⟨rfl, fun _ _ => ⟨rfl, rfl⟩⟩
theorem LK.place {s t : List SEG} (h : LK s t) (n : Int) : place t n = place s n := by
  rcases place_cases n s with ⟨i, i1, i2, i3, i4⟩ | ⟨i1, i4⟩
  · rcases place_cases n t with ⟨j, j1, j2, j3, j4⟩ | ⟨j1, j4⟩
    · rw [i4, j4]
      rw [h.len] at j1
      rcases Nat.lt_trichotomy i j with hc | hc | hc
      · exact absurd ((h.nm i i1).1.trans i2) (j3 i hc)
      · rw [hc]
      · exact absurd ((h.nm j j1).1.symm.trans j2) (i3 j hc)
    · exact absurd ((h.nm i i1).1.trans i2) (j1 i (by rw [h.len]; exact i1))
  · rcases place_cases n t with ⟨j, j1, j2, j3, j4⟩ | ⟨j1, j4⟩
    · rw [h.len] at j1
      exact absurd ((h.nm j j1).1.symm.trans j2) (i1 j j1)
    · rw [i4, j4]
theorem lAt_set {α : Type} [Inhabited α] {l : List α} {k i : Nat} {a : α} (hi : i < l.length) : lAt (l.set k a) (i : Int) = if k = i then a else lAt l (i : Int) := by
  rw [lAt_lt (by rw [List.length_set]; exact hi), List.getElem_set, lAt_lt hi]
theorem LK.set {s t : List SEG} (h : LK s t) {k : Nat} {b : ByteArray} (hb : sLen b = sLen (lAt t (k : Int)).2) : LK s (t.set k ((lAt t (k : Int)).1, b)) := by
  refine ⟨by rw [List.length_set]; exact h.len, fun i hi => ?_⟩
  have := h.nm i hi
  rw [lAt_set (by rw [h.len]; exact hi)]
  by_cases hk : k = i
  · subst hk; rw [if_pos rfl]; exact ⟨this.1, hb.trans this.2⟩
  · rw [if_neg hk]; exact this
theorem LK.has {s t : List SEG} (h : LK s t) (a b n p : Int) : hasP (s, a) n p ↔ hasP (t, b) n p := by
  unfold hasP
  dsimp only
  rw [h.place]
  refine and_congr_right (fun h1 => ?_)
  obtain ⟨k, k1, k2, _⟩ := place_nat h1
  rw [k2, (h.nm k k1).2]
theorem LK.okL {s t : List SEG} (h : LK s t) {nx : Int} (ho : okL (s, nx)) : K.okL (t, nx) := by
  refine ⟨by rw [h.len]; exact ho.len, ho.nx, fun g hg => ?_, ?_⟩
  · obtain ⟨i, hi, rfl⟩ := mem_lAt hg
    have hi' : i < s.length := by rw [← h.len]; exact hi
    have h1 := ho.sg _ (lAt_mem hi')
    have h2 := h.nm i hi'
    dsimp only
    rw [h2.1, h2.2]
    exact h1
  · rw [List.pairwise_iff_getElem]
    intro i j hi hj hij
    have hi : i < t.length := hi
    have hj : j < t.length := hj
    have hi' : i < s.length := by rw [← h.len]; exact hi
    have hj' : j < s.length := by rw [← h.len]; exact hj
    have h1 := (List.pairwise_iff_getElem.1 ho.ord) i j hi' hj' hij
    have h2 := (h.nm i hi').1
    have h3 := (h.nm j hj').1
    rw [lAt_lt hi, lAt_lt hi'] at h2
    rw [lAt_lt hj, lAt_lt hj'] at h3
    show t[i].1 < t[j].1
    rw [h2, h3]
    exact h1
open Classical in
noncomputable def lz1 (t : List SEG) (a : Int × Int) : List SEG :=
  if hasP (t, 0) a.1 a.2 then t.set (place t a.1).toNat ((lAt t (place t a.1)).1, zpg (lAt t (place t a.1)).2 a.2) else t
theorem lz1_eq {t : List SEG} {a : Int × Int} {nx : Int} (h : hasP (t, nx) a.1 a.2) {k : Nat} (hk : place t a.1 = (k : Int)) : lz1 t a = t.set k ((lAt t (k : Int)).1, zpg (lAt t (k : Int)).2 a.2) := by
  unfold lz1
  rw [if_pos (show hasP (t, 0) a.1 a.2 from h), hk, Int.toNat_natCast]
theorem LK.lz1 {s t : List SEG} (h : LK s t) (a : Int × Int) : LK s (lz1 t a) := by
  by_cases hp : hasP (t, 0) a.1 a.2
  · obtain ⟨k, k1, k2, _⟩ := place_nat hp.1
    rw [lz1_eq hp k2]
    refine h.set (zpg_len hp.2.1 ?_)
    have := hp.2.2
    dsimp only at this
    rw [k2] at this
    exact this
  · unfold K.lz1; rw [if_neg hp]; exact h
noncomputable def lzs (t : List SEG) (l : LP) : List SEG := l.foldl lz1 t
theorem LK.lzs {s : List SEG} : ∀ (l : LP) {t : List SEG}, LK s t → LK s (lzs t l)
  | [], _, h => h
  | a :: l, _, h => LK.lzs l (h.lz1 a)
theorem lzs_take {t : List SEG} {l : LP} {i : Nat} (hi : i < l.length) : lzs t (l.take (i + 1)) = lz1 (lzs t (l.take i)) (lAt l (i : Int)) := by
  unfold lzs
  rw [take_one hi, List.foldl_append]
  rfl
theorem mul32 {p : Int} (h : 0 ≤ p ∧ p ≤ 1000) : iMul .i64 p 32 = p * 32 := mul_n (by omega) (by omega)
theorem pg_at {t : List SEG} {nx : Int} (ho : okL (t, nx)) {a : Int × Int} (hp : hasP (t, nx) a.1 a.2) : ∃ k : Nat, k < t.length ∧ place t a.1 = (k : Int) ∧ (lAt t (k : Int)).1 = a.1 ∧ (0 ≤ a.2 ∧ a.2 ≤ sLen (lAt t (k : Int)).2 / 32 - 1) ∧ (32 ≤ sLen (lAt t (k : Int)).2 ∧ sLen (lAt t (k : Int)).2 ≤ 256) ∧ ∀ j, j < t.length → j ≠ k → ¬ (lAt t (j : Int)).1 = a.1 := by
  obtain ⟨k, k1, k2, k3⟩ := place_nat hp.1
  have h1 := ho.sg _ (lAt_mem k1)
  have h2 := hp.2
  dsimp only at h1 h2 k1 k2 k3
  rw [k2] at h2
  refine ⟨k, k1, k2, k3, h2, by omega, fun j hj hne he => ?_⟩
  have hord := List.pairwise_iff_getElem.1 ho.ord
  rw [← k3] at he
  rw [lAt_lt hj, lAt_lt k1] at he
  rcases Nat.lt_or_gt_of_ne hne with hc | hc
  · have := hord j k hj k1 hc; dsimp only at this; omega
  · have := hord k j k1 hj hc; dsimp only at this; omega
theorem L22_2_eq (x : SYS) {t : List SEG} {nx : Int} (ho : okL (t, nx)) {a : Int × Int} (hp : hasP (t, nx) a.1 a.2) (d : List DE) (w l : LP) (m i : Int) :
    L22_2 (osy x, (0, ((t, (nx, (d, w))), (a, (l, (m, (i, (lLen t, 0)))))))) = some (osy x, (0, ((lz1 t a, (nx, (d, w))), (a, (l, (m, i)))))) := by
  obtain ⟨k, k1, k2, k3, k4, k5, k6⟩ := pg_at ho hp
  have hl := ho.len
  dsimp only at hl
  rw [lz1_eq hp k2]
  generalize hn : ((lAt t (k : Int)).1, zpg (lAt t (k : Int)).2 a.2) = e
  have hll : ∀ q : List SEG, lLen q = (q.length : Int) := fun _ => rfl
  have hst : ∀ j : Nat, (if j ≤ k then t else t.set k e).length = t.length := fun j => by split <;> simp
  have hE : e.1 = a.1 := by rw [← hn]; exact k3
  refine iter_run (B := fun (x : (OSY × (Int × (OSY × ((Int × Int) × (LP × (Int × (Int × (Int × Int))))))))) => (B22_2 x.1.1 x.1.2.1 x.1.2.2.1 x.1.2.2.2 x.2.1 x.2.2.1.1 x.2.2.1.2.1 x.2.2.1.2.2.1 x.2.2.1.2.2.2 x.2.2.2.1.1 x.2.2.2.1.2 x.2.2.2.2.1 x.2.2.2.2.2.1 x.2.2.2.2.2.2.1 x.2.2.2.2.2.2.2.1 x.2.2.2.2.2.2.2.2)) (fun j => (osy x, (0, (((if j ≤ k then t else t.set k e), (nx, (d, w))), (a, (l, (m, (i, (lLen t, (j : Int)))))))))) t.length (by omega) ?_ ?_
  · intro j hj
    show B22_2 x.1.1 x.1.2 x.2.1 x.2.2 0 (if j ≤ k then t else t.set k e) nx d w a.1 a.2 l m i (lLen t) j = _
    unfold B22_2
    rw [hll, hll, hst, iLt_y (by omega), sel_t, oIn_y (by omega), sel_t, add1 (by omega)]
    by_cases hjk : j = k
    · subst hjk
      rw [if_pos (Nat.le_refl _), if_neg (by omega), iEq_y k3, sel_t, mul32 (by omega), oCut_y (by omega), sel_t, show FRepeat (bs [0]) 32 = some zp from FRepeat_0 32 (by omega), bnd_s, add_n (by omega) (by omega), sOk_n (by rw [scut_len _ (by omega) (by omega) (by omega), zp_len]; omega), sel_t, oCut_y (by omega), sel_t,
        sOk_n (by rw [sadd_len, scut_len _ (by omega) (by omega) (by omega), scut_len _ (by omega) (by omega) (by omega), zp_len]; omega), sel_t]
      have hs : lSet t (j : Int) ((lAt t (j : Int)).1, zpg (lAt t (j : Int)).2 a.2) = t.set j e := by unfold lSet; rw [Int.toNat_natCast, hn]
      show some (Sum.inl ((x.1.1, (x.1.2, (x.2.1, x.2.2))), (0, ((lSet t (j : Int) ((lAt t (j : Int)).1, zpg (lAt t (j : Int)).2 a.2), (nx, (d, w))), _)))) = _
      rw [hs]
    · have hne : ¬ (lAt (if j ≤ k then t else t.set k e) (j : Int)).1 = a.1 := by
        split
        · exact k6 j hj hjk
        · rw [lAt_set hj, if_neg (by omega)]; exact k6 j hj hjk
      rw [iEq_f hne, sel_f]
      have hc : (if j ≤ k then t else t.set k e) = (if j + 1 ≤ k then t else t.set k e) := by
        by_cases h1 : j ≤ k
        · rw [if_pos h1, if_pos (by omega)]
        · rw [if_neg h1, if_neg (by omega)]
      rw [hc]
  · show B22_2 x.1.1 x.1.2 x.2.1 x.2.2 0 (if t.length ≤ k then t else t.set k e) nx d w a.1 a.2 l m i (lLen t) t.length = _
    unfold B22_2
    rw [hll, iLt_f (by omega), sel_f, if_neg (by omega)]
theorem F73_eq {t : List SEG} {nx : Int} (ho : okL (t, nx)) {a : Int × Int} (hp : hasP (t, nx) a.1 a.2) : F73 (t, nx) (0, (false, (false, (a.1, (a.2, (zp, (0, 0))))))) = some (lz1 t a, nx) := by
  obtain ⟨k, k1, k2, k3, k4, k5, k6⟩ := pg_at ho hp
  have hl := ho.len
  dsimp only at hl
  rw [lz1_eq hp k2]
  unfold F73 F127
  rw [F18_eq _ (by dsimp only; omega), bnd_s]
  dsimp only
  rw [F90_eq _ _ (by dsimp only; omega), bnd_s]
  dsimp only
  have hs : lSet t (k : Int) ((lAt t (k : Int)).1, zpg (lAt t (k : Int)).2 a.2) = t.set k ((lAt t (k : Int)).1, zpg (lAt t (k : Int)).2 a.2) := by unfold lSet; rw [Int.toNat_natCast]
  rw [k2, oIn_y (by unfold lLen; omega), sel_t, mul32 (by omega), zp_len, oCut_y (by omega), sel_t, add_n (by omega) (by omega), sOk_n (by rw [scut_len _ (by omega) (by omega) (by omega), zp_len]; omega), sel_t, oCut_y (by omega), sel_t,
    sOk_n (by rw [sadd_len, scut_len _ (by omega) (by omega) (by omega), scut_len _ (by omega) (by omega) (by omega), zp_len]; omega), sel_t, bnd_s, sel_t]
  show some (lSet t (k : Int) ((lAt t (k : Int)).1, zpg (lAt t (k : Int)).2 a.2), nx) = _
  rw [hs]
theorem L22_0_eq {x : SYS} (hf : fewX x) (h : okX x) (l : LP) (hl : l.length ≤ 42) :
    (L22_0 (osy x, (0, (osy x, (l, (lLen l, 0))))) = some (.inr (0, 11)) ∧ L24_0 (l, (osy x, (z3, (osy x, 0)))) = some (.inr (0, (0, 11)))) ∨
    ((∀ a, a ∈ l → hasP x.1 a.1 a.2) ∧ L22_0 (osy x, (0, (osy x, (l, (lLen l, 0))))) = some (.inl (0, (lzs x.1.1 l, (x.1.2, (x.2.1, x.2.2 ++ l))))) ∧ L24_0 (l, (osy x, (z3, (osy x, 0)))) = some (.inl (l, (osy x, (z3, (lzs x.1.1 l, (x.1.2, x.2))))))) := by
  have hll : lLen l = (l.length : Int) := rfl
  have hL := okL_of h.st
  have hq := hf.2.2
  have hlk : ∀ i : Nat, LK x.1.1 (lzs x.1.1 (l.take i)) := fun i => LK.lzs _ (LK.refl _)
  have hok : ∀ i : Nat, okL (lzs x.1.1 (l.take i), x.1.2) := fun i => (hlk i).okL hL
  have hhas : ∀ i : Nat, ¬ ¬ hasP x.1 (lAt l (i : Int)).1 (lAt l (i : Int)).2 → hasP (lzs x.1.1 (l.take i), x.1.2) (lAt l (i : Int)).1 (lAt l (i : Int)).2 := fun i hp => ((hlk i).has x.1.2 x.1.2 _ _).1 (Classical.not_not.1 hp)
  have A := iter_first (B := fun (x : (OSY × (Int × (OSY × (LP × (Int × Int)))))) => (B22_0 x.1.1 x.1.2.1 x.1.2.2.1 x.1.2.2.2 x.2.1 x.2.2.1.1 x.2.2.1.2.1 x.2.2.1.2.2.1 x.2.2.1.2.2.2 x.2.2.2.1 x.2.2.2.2.1 x.2.2.2.2.2)) (fun i => (osy x, (0, ((lzs x.1.1 (l.take i), (x.1.2, (x.2.1, x.2.2 ++ l.take i))), (l, (lLen l, (i : Int))))))) (fun i => ¬ hasP x.1 (lAt l (i : Int)).1 (lAt l (i : Int)).2) l.length (fun _ => .inr (0, 11)) (.inl (0, (lzs x.1.1 l, (x.1.2, (x.2.1, x.2.2 ++ l))))) (by omega) ?_ ?_ ?_
  have B := iter_first (B := fun (x : (LP × (OSY × ((Int × (Int × Int)) × (OSY × Int))))) => (B24_0 x.1 x.2.1.1 x.2.1.2.1 x.2.1.2.2.1 x.2.1.2.2.2 x.2.2.1.1 x.2.2.1.2.1 x.2.2.1.2.2 x.2.2.2.1.1 x.2.2.2.1.2.1 x.2.2.2.1.2.2.1 x.2.2.2.1.2.2.2 x.2.2.2.2)) (fun i => (l, (osy x, (z3, ((lzs x.1.1 (l.take i), (x.1.2, x.2)), (i : Int)))))) (fun i => ¬ hasP x.1 (lAt l (i : Int)).1 (lAt l (i : Int)).2) l.length (fun _ => .inr (0, (0, 11))) (.inl (l, (osy x, (z3, (lzs x.1.1 l, (x.1.2, x.2)))))) (by omega) ?_ ?_ ?_
  · have eA : (osy x, (0, ((lzs x.1.1 (l.take 0), (x.1.2, (x.2.1, x.2.2 ++ l.take 0))), (l, (lLen l, ((0 : Nat) : Int)))))) = ((osy x, (0, (osy x, (l, (lLen l, 0))))) : (OSY × (Int × (OSY × (LP × (Int × Int)))))) := by
      rw [List.take_zero, List.append_nil]; rfl
    have eB : (l, (osy x, (z3, ((lzs x.1.1 (l.take 0), (x.1.2, x.2)), ((0 : Nat) : Int))))) = ((l, (osy x, (z3, (osy x, 0)))) : (LP × (OSY × ((Int × (Int × Int)) × (OSY × Int))))) := by
      rw [List.take_zero]; rfl
    rw [eA] at A
    rw [eB] at B
    rcases A with ⟨i, a1, a2, a3, a4⟩ | ⟨a1, a4⟩
    · rcases B with ⟨j, b1, b2, b3, b4⟩ | ⟨b1, b4⟩
      · exact .inl ⟨a4, b4⟩
      · exact absurd a2 (b1 i a1)
    · rcases B with ⟨j, b1, b2, b3, b4⟩ | ⟨b1, b4⟩
      · exact absurd b2 (a1 j b1)
      · refine .inr ⟨fun a ha => ?_, a4, b4⟩
        obtain ⟨i, hi, rfl⟩ := mem_lAt ha
        exact Classical.not_not.1 (a1 i hi)
  · intro i hi hp
    show B24_0 l x.1.1 x.1.2 x.2.1 x.2.2 0 0 0 (lzs x.1.1 (l.take i)) x.1.2 x.2.1 x.2.2 i = _
    obtain ⟨q, q1, q2, q3⟩ := has_eq hf.1 (lAt l (i : Int))
    have q4 : q = true := q3.2 (Classical.not_not.1 hp)
    subst q4
    have q5 : F67 (x.1.1, x.1.2) (lAt l (i : Int)).1 (lAt l (i : Int)).2 = some true := q2
    unfold B24_0 F74
    rw [iLt_y (by omega), sel_t, oIn_y (by omega), sel_t, sel_t, q5, bnd_s, nt, sel_f, sel_t, sel_t, show F54 0 32 = some zp from F54_0 32 (by omega), bnd_s, bnd_s, F73_eq (hok i) (hhas i hp), bnd_s, add1 (by omega), lzs_take hi]
  · intro i hi hp
    show B24_0 l x.1.1 x.1.2 x.2.1 x.2.2 0 0 0 (lzs x.1.1 (l.take i)) x.1.2 x.2.1 x.2.2 i = _
    obtain ⟨q, q1, q2, q3⟩ := has_eq hf.1 (lAt l (i : Int))
    have q4 : q = false := by rw [bf_t]; exact fun hc => hp (q3.1 hc)
    subst q4
    have q5 : F67 (x.1.1, x.1.2) (lAt l (i : Int)).1 (lAt l (i : Int)).2 = some false := q2
    unfold B24_0
    rw [iLt_y (by omega), sel_t, oIn_y (by omega), sel_t, sel_t, q5, bnd_s, nf, sel_t]
  · show B24_0 l x.1.1 x.1.2 x.2.1 x.2.2 0 0 0 (lzs x.1.1 (l.take l.length)) x.1.2 x.2.1 x.2.2 l.length = _
    unfold B24_0
    rw [iLt_f (by omega), sel_f, List.take_length]
  · intro i hi hp
    show B22_0 x.1.1 x.1.2 x.2.1 x.2.2 0 (lzs x.1.1 (l.take i)) x.1.2 x.2.1 (x.2.2 ++ l.take i) l (lLen l) i = _
    obtain ⟨q, q1, q2, q3⟩ := has_eq hf.1 (lAt l (i : Int))
    have q4 : q = true := q3.2 (Classical.not_not.1 hp)
    subst q4
    have q5 : F62 (x.1.1, x.1.2) (lAt l (i : Int)) = some true := q1
    have hL2 := L22_2_eq x (hok i) (hhas i hp) x.2.1 (x.2.2 ++ l.take i) l (lLen l) i
    unfold B22_0
    rw [iLt_y (by omega), sel_t, oIn_y (by omega), sel_t, q5, bnd_s, nt, sel_f]
    rw [show L22_2 ((x.1.1, (x.1.2, (x.2.1, x.2.2))), (0, ((lzs x.1.1 (l.take i), (x.1.2, (x.2.1, x.2.2 ++ l.take i))), ((lAt l (i : Int)), (l, (lLen l, ((i : Int), ((lLen (lzs x.1.1 (l.take i))), 0)))))))) = _ from hL2, bnd_s]
    dsimp only
    rw [lCap_y (by decide) (by decide) (by simp [lApp]; omega), sel_t, add1 (by omega), lzs_take hi, take_one hi, ← List.append_assoc]
    rfl
  · intro i hi hp
    show B22_0 x.1.1 x.1.2 x.2.1 x.2.2 0 (lzs x.1.1 (l.take i)) x.1.2 x.2.1 (x.2.2 ++ l.take i) l (lLen l) i = _
    obtain ⟨q, q1, q2, q3⟩ := has_eq hf.1 (lAt l (i : Int))
    have q4 : q = false := by rw [bf_t]; exact fun hc => hp (q3.1 hc)
    subst q4
    have q5 : F62 (x.1.1, x.1.2) (lAt l (i : Int)) = some false := q1
    unfold B22_0
    rw [iLt_y (by omega), sel_t, oIn_y (by omega), sel_t, q5, bnd_s, nf, sel_t]
  · show B22_0 x.1.1 x.1.2 x.2.1 x.2.2 0 (lzs x.1.1 (l.take l.length)) x.1.2 x.2.1 (x.2.2 ++ l.take l.length) l (lLen l) l.length = _
    unfold B22_0
    rw [iLt_f (by omega), sel_f, List.take_length]
end Go.Proofs.YtiddpfhpmodfbaaGreatDoor.K
end

section
set_option linter.unusedVariables false
set_option linter.unusedSimpArgs false
set_option linter.unnecessarySimpa false
open Go Go.Ev
namespace Go.Proofs.YtiddpfhpmodfbaaGreatDoor.K
theorem has_dec (l : LP) (a : Int × Int) (hl : l.length ≤ 1000) : F76 l a = some (decide (a ∈ l)) := by
  have hll : lLen l = (l.length : Int) := rfl
  have hc : ∀ k : Nat, (bAnd (iEq (lAt l (k : Int)).1 a.1) (iEq (lAt l (k : Int)).2 a.2) = true) = (lAt l (k : Int) = a) := fun k => pg_eq _ _
  have hL : (∃ i, i < l.length ∧ lAt l (i : Int) = a ∧ (∀ k, k < i → ¬ lAt l (k : Int) = a) ∧ L76_0 (l, (a, 0)) = some (.inr true)) ∨ ((∀ i, i < l.length → ¬ lAt l (i : Int) = a) ∧ L76_0 (l, (a, 0)) = some (.inl ())) := by
    refine iter_first (fun i => (l, (a, (i : Int)))) (fun i => lAt l (i : Int) = a) l.length (fun _ => Sum.inr true) (Sum.inl ()) (by omega) ?_ ?_ ?_
    · intro i hi hp
      have w : bAnd (iEq (lAt l (i : Int)).1 a.1) (iEq (lAt l (i : Int)).2 a.2) = false := by rw [bf_t, hc]; exact hp
      show B76_0 l a.1 a.2 i = _
      unfold B76_0
      rw [iLt_y (by omega), sel_t, oIn_y (by omega), sel_t, w, sel_f, add1 (by omega)]
    · intro i hi hp
      have w : bAnd (iEq (lAt l (i : Int)).1 a.1) (iEq (lAt l (i : Int)).2 a.2) = true := by rw [hc]; exact hp
      show B76_0 l a.1 a.2 i = _
      unfold B76_0
      rw [iLt_y (by omega), sel_t, oIn_y (by omega), sel_t, w, sel_t]
    · show B76_0 l a.1 a.2 l.length = _
      unfold B76_0
      rw [iLt_f (by omega), sel_f]
  unfold F76
  rcases hL with ⟨i, h1, h2, _, e⟩ | ⟨h1, e⟩
  · rw [e, decide_eq_true (by rw [← h2]; exact lAt_mem h1)]; rfl
  · rw [e, decide_eq_false (fun hm => by obtain ⟨i, hi, hq⟩ := mem_lAt hm; exact h1 i hi hq)]; rfl
def lpk (w l : LP) (n : Int) : Nat → LP
  | 0 => []
  | j + 1 => lpk w l n j ++ (if (n, (j : Int)) ∈ w ∨ (n, (j : Int)) ∈ l then [(n, (j : Int))] else [])
theorem lpk_succ (w l : LP) (n : Int) (j : Nat) : lpk w l n (j + 1) = lpk w l n j ++ (if (n, (j : Int)) ∈ w ∨ (n, (j : Int)) ∈ l then [(n, (j : Int))] else []) := rfl
theorem lpk_mem {w l : LP} {n : Int} {a : Int × Int} : ∀ j : Nat, a ∈ lpk w l n j ↔ a.1 = n ∧ (0 ≤ a.2 ∧ a.2 < (j : Int)) ∧ (a ∈ w ∨ a ∈ l)
  | 0 => ⟨fun h => (by cases h), fun h => by omega⟩
  | j + 1 => by
    rw [lpk_succ, List.mem_append, lpk_mem j]
    have e : ∀ q : Int, a.1 = n → a.2 = q → a = (n, q) := fun q h1 h2 => Prod.ext h1 h2
    constructor
    · rintro (h | h)
      · exact ⟨h.1, by omega, h.2.2⟩
      · split at h
        · rename_i hc
          rw [List.mem_singleton] at h
          subst h
          exact ⟨rfl, by dsimp only; omega, hc⟩
        · cases h
    · rintro ⟨h1, h2, h3⟩
      by_cases hj : a.2 < (j : Int)
      · exact .inl ⟨h1, ⟨h2.1, hj⟩, h3⟩
      · have := e (j : Int) h1 (by omega)
        subst this
        rw [if_pos h3]
        exact .inr (List.mem_singleton.2 rfl)
theorem lpk_len (w l : LP) (n : Int) : ∀ j, (lpk w l n j).length ≤ j
  | 0 => Nat.le_refl _
  | j + 1 => by
    have := lpk_len w l n j
    rw [lpk_succ, List.length_append]
    split <;> simp only [List.length_cons, List.length_nil] <;> omega
theorem lpk_ord (w l : LP) (n : Int) : ∀ j, (lpk w l n j).Pairwise (fun a b => ltP a b = true)
  | 0 => List.Pairwise.nil
  | j + 1 => by
    rw [lpk_succ, List.pairwise_append]
    refine ⟨lpk_ord w l n j, by split <;> simp, fun a ha b hb => ?_⟩
    rw [lpk_mem] at ha
    split at hb
    · rw [List.mem_singleton] at hb
      subst hb
      unfold ltP
      rw [decide_eq_true_eq]
      exact .inr ⟨ha.1, ha.2.1.2⟩
    · cases hb
def lal (s : List SEG) (w l : LP) : Nat → LP
  | 0 => []
  | i + 1 => lal s w l i ++ lpk w l (lAt s (i : Int)).1 (sLen (lAt s (i : Int)).2 / 32).toNat
theorem lal_succ (s : List SEG) (w l : LP) (i : Nat) : lal s w l (i + 1) = lal s w l i ++ lpk w l (lAt s (i : Int)).1 (sLen (lAt s (i : Int)).2 / 32).toNat := rfl
theorem lal_mem {s : List SEG} {w l : LP} {a : Int × Int} : ∀ i : Nat, a ∈ lal s w l i ↔ ∃ k, k < i ∧ a.1 = (lAt s (k : Int)).1 ∧ (0 ≤ a.2 ∧ a.2 < ((sLen (lAt s (k : Int)).2 / 32).toNat : Int)) ∧ (a ∈ w ∨ a ∈ l)
  | 0 => ⟨fun h => (by cases h), fun ⟨k, h, _⟩ => by omega⟩
  | i + 1 => by
    rw [lal_succ, List.mem_append, lal_mem i, lpk_mem]
    constructor
    · rintro (⟨k, h1, h2⟩ | h)
      · exact ⟨k, by omega, h2⟩
      · exact ⟨i, by omega, h⟩
    · rintro ⟨k, h1, h2⟩
      by_cases hk : k = i
      · subst hk; exact .inr h2
      · exact .inl ⟨k, by omega, h2⟩
theorem lal_len {s : STO} (h : okL s) (w l : LP) : ∀ i, i ≤ s.1.length → (lal s.1 w l i).length ≤ 8 * i
  | 0, _ => Nat.le_refl _
  | i + 1, hi => by
    have h1 := lal_len h w l i (by omega)
    have h2 := lpk_len w l (lAt s.1 (i : Int)).1 (sLen (lAt s.1 (i : Int)).2 / 32).toNat
    have h3 := h.sg _ (lAt_mem (by omega : i < s.1.length))
    rw [lal_succ, List.length_append]
    omega
theorem lal_ord {s : STO} (h : okL s) (w l : LP) : ∀ i, i ≤ s.1.length → (lal s.1 w l i).Pairwise (fun a b => ltP a b = true)
  | 0, _ => List.Pairwise.nil
  | i + 1, hi => by
    rw [lal_succ, List.pairwise_append]
    refine ⟨lal_ord h w l i (by omega), lpk_ord .., fun a ha b hb => ?_⟩
    rw [lpk_mem] at hb
    rw [lal_mem] at ha
    obtain ⟨k, k1, k2, _⟩ := ha
    have := (List.pairwise_iff_getElem.1 h.ord) k i (by omega) (by omega) k1
    rw [lAt_lt (by omega : k < s.1.length)] at k2
    rw [lAt_lt (by omega : i < s.1.length)] at hb
    unfold ltP
    rw [decide_eq_true_eq]
    left
    rw [k2, hb.1]
    exact this
theorem lal_all {x : SYS} (h : okX x) {l : LP} (hl : ∀ a, a ∈ l → hasP x.1 a.1 a.2) (a : Int × Int) : a ∈ lal x.1.1 x.2.2 l x.1.1.length ↔ a ∈ x.2.2 ++ l := by
  rw [lal_mem, List.mem_append]
  constructor
  · rintro ⟨_, _, _, _, hc⟩
    exact hc
  · intro hc
    have hp : hasP x.1 a.1 a.2 := by
      rcases hc with hc | hc
      · obtain ⟨k, hk, rfl⟩ := mem_lAt hc
        exact lost_in h hk
      · exact hl a hc
    obtain ⟨k, k1, k2, k3, k4, k5, _⟩ := pg_at (t := x.1.1) (nx := x.1.2) (okL_of h.st) hp
    exact ⟨k, k1, k3.symm, by omega, hc⟩
abbrev H24i := (LP × (OSY × ((Int × (Int × Int)) × (((List SEG) × (Int × (List DE))) × (Int × (SEG × Int)))))) ⊕ (LP × (OSY × ((Int × (Int × Int)) × (OSY × (Int × (SEG × Int))))))
abbrev H24o := (LP × (OSY × ((Int × (Int × Int)) × (((List SEG) × (Int × (List DE))) × Int)))) ⊕ (LP × (OSY × ((Int × (Int × Int)) × (OSY × Int))))
abbrev H24e := ((Int × (Int × Int)) × ((List SEG) × (Int × (List DE)))) ⊕ ((Int × (Int × Int)) × OSY)
def hi24 (x : SYS) (l : LP) (t : List SEG) (nx : Int) (d : List DE) (i : Int) (g : SEG) (out : LP) (j : Int) : H24i :=
  match out with
  | [] => .inl (l, (osy x, (z3, ((t, (nx, d)), (i, (g, j))))))
  | a :: r => .inr (l, (osy x, (z3, ((t, (nx, (d, a :: r))), (i, (g, j))))))
def ho24 (x : SYS) (l : LP) (t : List SEG) (nx : Int) (d : List DE) (out : LP) (i : Int) : H24o :=
  match out with
  | [] => .inl (l, (osy x, (z3, ((t, (nx, d)), i))))
  | a :: r => .inr (l, (osy x, (z3, ((t, (nx, (d, a :: r))), i))))
def he24 (t : List SEG) (nx : Int) (d : List DE) (out : LP) : H24e :=
  match out with
  | [] => .inl (z3, (t, (nx, d)))
  | a :: r => .inr (z3, (t, (nx, (d, a :: r))))
theorem L24_4_eq (x : SYS) (l : LP) (t : List SEG) (nx : Int) (d : List DE) (i : Int) (g : SEG) (out : LP) (hx : x.2.2.length ≤ 1000) (hl : l.length ≤ 1000) (hg : 0 ≤ sLen g.2 / 32 ∧ sLen g.2 ≤ 400) (ho : out.length ≤ 1000) :
    L24_4 (hi24 x l t nx d i g out 0) = some (ho24 x l t nx d (out ++ lpk x.2.2 l g.1 (sLen g.2 / 32).toNat) i) := by
  generalize hm : (sLen g.2 / 32).toNat = m
  have hm' : sLen g.2 / 32 = (m : Int) := by omega
  have hlen : ∀ j, (lpk x.2.2 l g.1 j).length ≤ j := lpk_len _ _ _
  have := iter_run (B := fun (x : H24i) => (sumS x (fun x => (B24_4h0 x.1 x.2.1.1 x.2.1.2.1 x.2.1.2.2.1 x.2.1.2.2.2 x.2.2.1.1 x.2.2.1.2.1 x.2.2.1.2.2 x.2.2.2.1.1 x.2.2.2.1.2.1 x.2.2.2.1.2.2 x.2.2.2.2.1 x.2.2.2.2.2.1.1 x.2.2.2.2.2.1.2 x.2.2.2.2.2.2)) fun x => (B24_4h1 x.1 x.2.1.1 x.2.1.2.1 x.2.1.2.2.1 x.2.1.2.2.2 x.2.2.1.1 x.2.2.1.2.1 x.2.2.1.2.2 x.2.2.2.1.1 x.2.2.2.1.2.1 x.2.2.2.1.2.2.1 x.2.2.2.1.2.2.2 x.2.2.2.2.1 x.2.2.2.2.2.1.1 x.2.2.2.2.2.1.2 x.2.2.2.2.2.2))) (fun j => hi24 x l t nx d i g (out ++ lpk x.2.2 l g.1 j) (j : Int)) (r := ho24 x l t nx d (out ++ lpk x.2.2 l g.1 m) i) m (by omega) ?_ ?_
  · rw [show lpk x.2.2 l g.1 0 = [] from rfl, List.append_nil] at this
    exact this
  · intro j hj
    rw [lpk_succ, ← List.append_assoc]
    have h5 := hlen j
    have h6 : (out ++ lpk x.2.2 l g.1 j).length ≤ 1100 := by rw [List.length_append]; omega
    generalize out ++ lpk x.2.2 l g.1 j = q at *
    cases q with
    | nil =>
      show B24_4h0 l x.1.1 x.1.2 x.2.1 x.2.2 0 0 0 t nx d i g.1 g.2 j = _
      unfold B24_4h0
      rw [F66_eq hg.2, bnd_s, hm', iLt_y (by omega), sel_t, has_dec _ _ hx, bnd_s, has_dec _ _ hl, okS_s, or_tt, sel_t, valS_s, let_s, add1 (by omega)]
      by_cases hc : (g.1, (j : Int)) ∈ x.2.2 ∨ (g.1, (j : Int)) ∈ l
      · have w : bOr (decide ((g.1, (j : Int)) ∈ x.2.2)) (decide ((g.1, (j : Int)) ∈ l)) = true := by rw [or_t, decide_eq_true_eq, decide_eq_true_eq]; exact hc
        rw [w, sel_t, if_pos hc, lCap_y (by decide) (by decide) (by simp), sel_t]; rfl
      · have w : bOr (decide ((g.1, (j : Int)) ∈ x.2.2)) (decide ((g.1, (j : Int)) ∈ l)) = false := by rw [bf_t, or_t, decide_eq_true_eq, decide_eq_true_eq]; exact hc
        rw [w, sel_f, if_neg hc]; rfl
    | cons a r =>
      show B24_4h1 l x.1.1 x.1.2 x.2.1 x.2.2 0 0 0 t nx d (a :: r) i g.1 g.2 j = _
      unfold B24_4h1
      rw [F66_eq hg.2, bnd_s, hm', iLt_y (by omega), sel_t, has_dec _ _ hx, bnd_s, has_dec _ _ hl, okS_s, or_tt, sel_t, valS_s, let_s, add1 (by omega)]
      by_cases hc : (g.1, (j : Int)) ∈ x.2.2 ∨ (g.1, (j : Int)) ∈ l
      · have w : bOr (decide ((g.1, (j : Int)) ∈ x.2.2)) (decide ((g.1, (j : Int)) ∈ l)) = true := by rw [or_t, decide_eq_true_eq, decide_eq_true_eq]; exact hc
        rw [w, sel_t, if_pos hc, lCap_y (by decide) (by decide) (by simp [lApp] at h6 ⊢; omega), sel_t]; rfl
      · have w : bOr (decide ((g.1, (j : Int)) ∈ x.2.2)) (decide ((g.1, (j : Int)) ∈ l)) = false := by rw [bf_t, or_t, decide_eq_true_eq, decide_eq_true_eq]; exact hc
        rw [w, sel_f, if_neg hc, List.append_nil]; rfl
  · generalize out ++ lpk x.2.2 l g.1 m = q
    cases q with
    | nil =>
      show B24_4h0 l x.1.1 x.1.2 x.2.1 x.2.2 0 0 0 t nx d i g.1 g.2 m = _
      unfold B24_4h0
      rw [F66_eq hg.2, bnd_s, hm', iLt_f (by omega), sel_f]; rfl
    | cons a r =>
      show B24_4h1 l x.1.1 x.1.2 x.2.1 x.2.2 0 0 0 t nx d (a :: r) i g.1 g.2 m = _
      unfold B24_4h1
      rw [F66_eq hg.2, bnd_s, hm', iLt_f (by omega), sel_f]; rfl
theorem L24_2_eq {x : SYS} (hL : okL x.1) (l : LP) (t : List SEG) (nx : Int) (d : List DE) (hx : x.2.2.length ≤ 1000) (hl : l.length ≤ 1000) :
    L24_2 (.inl (l, (osy x, (z3, ((t, (nx, d)), 0))))) = some (he24 t nx d (lal x.1.1 x.2.2 l x.1.1.length)) := by
  have h10 := hL.len
  have hll : lLen x.1.1 = (x.1.1.length : Int) := rfl
  have hlen : ∀ i, i ≤ x.1.1.length → (lal x.1.1 x.2.2 l i).length ≤ 8 * i := lal_len hL _ _
  have := iter_run (B := fun (x : H24o) => (sumS x (fun x => (B24_2h0 x.1 x.2.1.1 x.2.1.2.1 x.2.1.2.2.1 x.2.1.2.2.2 x.2.2.1.1 x.2.2.1.2.1 x.2.2.1.2.2 x.2.2.2.1.1 x.2.2.2.1.2.1 x.2.2.2.1.2.2 x.2.2.2.2)) fun x => (B24_2h1 x.1 x.2.1.1 x.2.1.2.1 x.2.1.2.2.1 x.2.1.2.2.2 x.2.2.1.1 x.2.2.1.2.1 x.2.2.1.2.2 x.2.2.2.1.1 x.2.2.2.1.2.1 x.2.2.2.1.2.2.1 x.2.2.2.1.2.2.2 x.2.2.2.2))) (fun i => ho24 x l t nx d (lal x.1.1 x.2.2 l i) (i : Int)) (r := he24 t nx d (lal x.1.1 x.2.2 l x.1.1.length)) x.1.1.length (by omega) ?_ ?_
  · exact this
  · intro i hi
    have hsg := hL.sg _ (lAt_mem hi)
    have h5 := hlen i (by omega)
    have h6 := L24_4_eq x l t nx d (i : Int) (lAt x.1.1 (i : Int)) (lal x.1.1 x.2.2 l i) hx hl (by omega) (by omega)
    rw [lal_succ]
    have hend : ∀ q : LP, (sumS (ho24 x l t nx d q (i : Int)) (fun y0a => some ((.inl (.inl (y0a.1, (y0a.2.1, (y0a.2.2.1, (y0a.2.2.2.1, (iAdd .i64 y0a.2.2.2.2 1))))))) : H24o ⊕ H24e)) fun y0b => some (.inl (.inr (y0b.1, (y0b.2.1, (y0b.2.2.1, (y0b.2.2.2.1, (iAdd .i64 y0b.2.2.2.2 1)))))))) = some (.inl (ho24 x l t nx d q ((i + 1 : Nat) : Int))) := fun q => by
      have e := add1 (a := i) (by omega)
      cases q with
      | nil =>
        show some (Sum.inl (Sum.inl (l, (osy x, (z3, ((t, (nx, d)), (iAdd .i64 (i : Int) 1))))))) = _
        rw [e]; rfl
      | cons a r =>
        show some (Sum.inl (Sum.inr (l, (osy x, (z3, ((t, (nx, (d, a :: r))), (iAdd .i64 (i : Int) 1))))))) = _
        rw [e]; rfl
    generalize lal x.1.1 x.2.2 l i = q at *
    cases q with
    | nil =>
      show B24_2h0 l x.1.1 x.1.2 x.2.1 x.2.2 0 0 0 t nx d i = _
      unfold B24_2h0
      rw [iLt_y (by omega), sel_t, oIn_y (by omega), sel_t]
      show bndS (L24_4 (hi24 x l t nx d (i : Int) (lAt x.1.1 (i : Int)) [] 0)) _ = _
      rw [h6, bnd_s]
      exact hend _
    | cons a r =>
      show B24_2h1 l x.1.1 x.1.2 x.2.1 x.2.2 0 0 0 t nx d (a :: r) i = _
      unfold B24_2h1
      rw [iLt_y (by omega), sel_t, oIn_y (by omega), sel_t]
      show bndS (L24_4 (hi24 x l t nx d (i : Int) (lAt x.1.1 (i : Int)) (a :: r) 0)) _ = _
      rw [h6, bnd_s]
      exact hend _
  · generalize lal x.1.1 x.2.2 l x.1.1.length = q
    cases q with
    | nil =>
      show B24_2h0 l x.1.1 x.1.2 x.2.1 x.2.2 0 0 0 t nx d x.1.1.length = _
      unfold B24_2h0
      rw [iLt_f (by omega), sel_f]; rfl
    | cons a r =>
      show B24_2h1 l x.1.1 x.1.2 x.2.1 x.2.2 0 0 0 t nx d (a :: r) x.1.1.length = _
      unfold B24_2h1
      rw [iLt_f (by omega), sel_f]; rfl
noncomputable def lsys (x : SYS) (l : LP) : SYS := ((lzs x.1.1 l, x.1.2), (x.2.1, lal x.1.1 x.2.2 l x.1.1.length))
theorem lose_two {x : SYS} (hf : fewX x) (h2 : fits x.1.2) (l : LP) (hl : l.length ≤ 42) :
    (∃ (c : Int), c ≠ 0 ∧ F22 x l = some (([], (0, ([], ([], 0, 0)))), c) ∧ F24 x l = some ([], (0, ([], ([], ([], (0, c))))))) ∨
    (okX x ∧ l.length ≤ 40 ∧ (∀ a, a ∈ l → hasP x.1 a.1 a.2) ∧ ∃ v lo hi, F22 x l = some (((lsys x l).1.1, ((lsys x l).1.2, ((lsys x l).2.1, (v, lo, hi)))), 0) ∧ lCut v lo hi = (lsys x l).2.2 ∧ F24 x l = some ((lsys x l).1.1, ((lsys x l).1.2, ((lsys x l).2.1, ((lsys x l).2.2, ([], (0, 0))))))) := by
  obtain ⟨r, e19, e21, hok⟩ := check_two hf h2
  have e34 : F34 x = some r.2 := by unfold F34; rw [e21]; rfl
  unfold F22 F24
  rw [e19, e34, bnd_s, bnd_s]
  by_cases hr : r.2 = 0
  rotate_left
  · rw [iEq_f hr, nf, sel_t, sel_t]
    exact .inl ⟨_, hr, rfl, rfl⟩
  rw [iEq_y hr, nt, sel_f, sel_f]
  have hX := (hok hr).1
  have hq := hf.2.2
  by_cases h40 : 40 < l.length
  · rw [iLt_y (by unfold lLen; omega), sel_t, sel_t]
    exact .inl ⟨2, by decide, rfl, rfl⟩
  rw [iLt_f (by unfold lLen; omega), sel_f, sel_f, F69_eq hf, own_eq hf, bnd_s, bnd_s]
  have key := L22_0_eq hf hX l hl
  rw [show (((x.1.1, (x.1.2, x.2)), (0, (osy x, (l, ((lLen l), 0))))) : (OSY × (Int × (OSY × (LP × (Int × Int)))))) = (osy x, (0, (osy x, (l, (lLen l, 0))))) from rfl,
    show ((l, ((x.1.1, (x.1.2, x.2)), ((0, (0, 0)), (osy x, 0)))) : (LP × (OSY × ((Int × (Int × Int)) × (OSY × Int))))) = (l, (osy x, (z3, (osy x, 0)))) from rfl]
  rcases key with ⟨k1, k2⟩ | ⟨k0, k1, k2⟩
  · rw [k1, k2, bnd_s, bnd_s]
    exact .inl ⟨11, by decide, rfl, rfl⟩
  right
  have hL := okL_of hX.st
  obtain ⟨q, v, lo, hi, s1, s2, s3⟩ := sorted_pages (l := x.2.2 ++ l) (m := lal x.1.1 x.2.2 l x.1.1.length) (by rw [List.length_append]; omega) (lal_ord hL _ _ _ (Nat.le_refl _)) (lal_all hX k0)
  refine ⟨hX, by omega, k0, v, lo, hi, ?_, s3, ?_⟩
  · rw [k1, bnd_s]
    show bndS (F71 (x.2.2 ++ l)) _ = _
    rw [s1, bnd_s, s2, bnd_s]
    rfl
  · rw [k2, bnd_s]
    show bndS (L24_2 (.inl (l, (osy x, (z3, ((lzs x.1.1 l, (x.1.2, x.2.1)), 0)))))) _ = _
    rw [L24_2_eq hL l _ _ _ (by omega) (by omega), bnd_s]
    unfold lsys
    dsimp only
    generalize lal x.1.1 x.2.2 l x.1.1.length = q
    cases q <;> rfl
end Go.Proofs.YtiddpfhpmodfbaaGreatDoor.K
end

section
set_option linter.unusedVariables false
set_option linter.unusedSimpArgs false
set_option linter.unnecessarySimpa false
open Go Go.Ev
namespace Go.Proofs.YtiddpfhpmodfbaaGreatDoor.K
theorem whole_at {x : SYS} (hf : fewX x) (h : okX x) {i : Nat} (hi : i < x.2.1.length) (h0 : mxv x i = 0) : 0 ≤ place x.1.1 (lAt x.2.1 (i : Int)).2.1 ∧ ∀ a, a ∈ x.2.2 → a.1 = (lAt x.2.1 (i : Int)).2.1 → ¬ (0 ≤ a.2 ∧ a.2 ≤ 8) := by
  obtain ⟨g, g1, g2⟩ := damage_eq hf h hi
  have hg : g ≤ 0 := by
    have e : mxv x i = sel (iLt g (lAt x.2.1 (i : Int)).2.2) (lAt x.2.1 (i : Int)).2.2 g := by unfold mxv; rw [g2]; rfl
    have hd := (okD_of h).dm _ (lAt_mem hi)
    by_cases hc : g < (lAt x.2.1 (i : Int)).2.2
    · rw [iLt_y hc, sel_t] at e; omega
    · rw [iLt_f hc, sel_f] at e; omega
  obtain ⟨hs, hd, hl⟩ := hf
  obtain ⟨q0, a0, b0⟩ := F131_eq x (lAt x.2.1 (i : Int)).2.1 0 0 (by omega)
  obtain ⟨q1, a1, b1⟩ := F131_eq x (lAt x.2.1 (i : Int)).2.1 1 8 (by omega)
  unfold F78 at g1
  rw [oIn_y (by unfold lLen; omega), sel_t, F90_eq _ _ (by have := hs.1; omega), bnd_s, a0] at g1
  simp only [okS_s, or_tt, sel_t, valS_s, let_s] at g1
  rcases place_cases (lAt x.2.1 (i : Int)).2.1 x.1.1 with ⟨j, hj, _, _, ep⟩ | ⟨_, ep⟩
  rotate_left
  · rw [ep, iEq_y rfl, or_tt, sel_t] at g1
    cases g1
    omega
  have hjl := seg_len h hj
  have h400 := hs.2 j hj
  rw [ep, iEq_f (by omega), or_ff] at g1
  rw [ep]
  refine ⟨by omega, fun a ha he hp => ?_⟩
  obtain ⟨k, hk, rfl⟩ := mem_lAt ha
  obtain ⟨r, f1, f2⟩ := in_eq (sCut (lAt x.1.1 (j : Int)).2 0 32) (by rw [scut_len _ (by omega) (by omega) (by omega)]; omega)
  cases q0 with
  | true =>
    rw [sel_t] at g1
    cases g1
    omega
  | false =>
    rw [sel_f, oIn_y (by unfold lLen; omega), sel_t, oCut_y (by omega), sel_t, f2, bnd_s, a1] at g1
    generalize bOr (bNot (iEq r.2.2 0)) (bNot (bAnd (sEq r.1.1 (lAt x.2.1 (i : Int)).1.1) (bAnd (sEq r.1.2.1 (lAt x.2.1 (i : Int)).1.2.1) (iEq r.1.2.2 (lAt x.2.1 (i : Int)).1.2.2)))) = c at *
    cases c with
    | true => rw [sel_t] at g1; cases g1; omega
    | false =>
      rw [sel_f, bnd_s] at g1
      cases q1 with
      | true => rw [sel_t] at g1; cases g1; omega
      | false =>
        have n0 : ¬ ((lAt x.2.2 (k : Int)).2 = 0) := fun hz => by
          have := b0.2 ⟨k, hk, he, by omega⟩; cases this
        have := b1.2 ⟨k, hk, he, by omega⟩
        cases this
theorem lzs_at {s : List SEG} {nx : Int} (ho : okL (s, nx)) {k : Nat} (hk : k < s.length) : ∀ (l : LP) {t : List SEG}, LK s t → (∀ a, a ∈ l → ¬ a.1 = (lAt s (k : Int)).1) → lAt (lzs t l) (k : Int) = lAt t (k : Int)
  | [], _, _, _ => rfl
  | a :: l, t, h, hn => by
    have ih := lzs_at ho hk l (h.lz1 a) (fun b hb => hn b (List.mem_cons_of_mem _ hb))
    show lAt (lzs (lz1 t a) l) (k : Int) = _
    rw [ih]
    by_cases hp : hasP (t, 0) a.1 a.2
    · obtain ⟨q, q1, q2, q3⟩ := place_nat hp.1
      rw [lz1_eq hp q2, lAt_set (by rw [h.len]; exact hk)]
      by_cases hq : q = k
      · subst hq
        exact absurd (q3.symm.trans (h.nm q hk).1) (hn a (List.mem_cons_self ..))
      · rw [if_neg hq]
    · unfold lz1; rw [if_neg hp]
theorem F68_lt (a b : Int × Int) : F68 a b = ltP b a := by
  unfold F68 ltP
  rw [Bool.eq_iff_iff, or_t, and_t, iLt_t, iEq_t, iLt_t, decide_eq_true_eq]
  omega
theorem okX_L {x : SYS} (h : okX x) {l : LP} (hl : ∀ a, a ∈ l → hasP x.1 a.1 a.2) : okX (lsys x l) := by
  have hL := okL_of h.st
  have hD := okD_of h
  have hk := LK.lzs l (LK.refl x.1.1)
  refine okX_of (hk.okL hL) ⟨hD.nm, hD.sg, hD.dm, hD.ord, hD.dbl⟩ h.dir (fun i hi => ?_)
  have hi : i < (lal x.1.1 x.2.2 l x.1.1.length).length := hi
  have hm : lAt (lal x.1.1 x.2.2 l x.1.1.length) (i : Int) ∈ x.2.2 ++ l := (lal_all h hl _).1 (lAt_mem hi)
  have hhas : hasP (lsys x l).1 (lAt (lsys x l).2.2 (i : Int)).1 (lAt (lsys x l).2.2 (i : Int)).2 := by
    refine (hk.has x.1.2 x.1.2 _ _).1 ?_
    rcases List.mem_append.1 hm with h1 | h1
    · obtain ⟨q, hq, e⟩ := mem_lAt h1
      have h5 := lost_in h hq
      rw [e] at h5
      exact h5
    · exact hl _ h1
  have hord : ¬ (0 < i ∧ F68 (lAt (lsys x l).2.2 (i : Int)) (lAt (lsys x l).2.2 ((i : Int) - 1)) = false) := by
    rintro ⟨h1, h2⟩
    have e : ((i : Int) - 1) = ((i - 1 : Nat) : Int) := by omega
    have h3 := (List.pairwise_iff_getElem.1 (lal_ord hL x.2.2 l x.1.1.length (Nat.le_refl _))) (i - 1) i (by omega) hi (by omega)
    have h2 : F68 (lAt (lal x.1.1 x.2.2 l x.1.1.length) (i : Int)) (lAt (lal x.1.1 x.2.2 l x.1.1.length) ((i : Int) - 1)) = false := h2
    rw [e, F68_lt, lAt_lt hi, lAt_lt (by omega), h3] at h2
    cases h2
  unfold lostE
  rw [if_neg (fun hc => hc hhas), if_neg hord]
theorem L7_2_eq (x : SYS) (y : OSY) (i : Int) (d : DE) (l : LP) (hl : l.length ≤ 1000) (hn : ∀ a, a ∈ l → ¬ a.1 = d.2.1) :
    L7_2 (l, (osy x, (y, (i, ((d.1.1, (d.1.2.1, (d.1.2.2, d.2))), 0))))) = some (.inl (l, (osy x, (y, i)))) := by
  have hll : lLen l = (l.length : Int) := rfl
  refine iter_run (B := fun (x : (LP × (OSY × (OSY × (Int × ((ByteArray × (ByteArray × (Int × (Int × Int)))) × Int)))))) => (B7_2 x.1 x.2.1.1 x.2.1.2.1 x.2.1.2.2.1 x.2.1.2.2.2 x.2.2.1.1 x.2.2.1.2.1 x.2.2.1.2.2.1 x.2.2.1.2.2.2 x.2.2.2.1 x.2.2.2.2.1.1 x.2.2.2.2.1.2.1 x.2.2.2.2.1.2.2.1 x.2.2.2.2.1.2.2.2.1 x.2.2.2.2.1.2.2.2.2 x.2.2.2.2.2)) (fun j => (l, (osy x, (y, (i, ((d.1.1, (d.1.2.1, (d.1.2.2, d.2))), (j : Int))))))) l.length (by omega) ?_ ?_
  · intro j hj
    show B7_2 l x.1.1 x.1.2 x.2.1 x.2.2 y.1 y.2.1 y.2.2.1 y.2.2.2 i d.1.1 d.1.2.1 d.1.2.2 d.2.1 d.2.2 j = _
    unfold B7_2
    rw [iLt_y (by omega), sel_t, oIn_y (by omega), sel_t, iEq_f (hn _ (lAt_mem hj)), sel_f, add1 (by omega)]
  · show B7_2 l x.1.1 x.1.2 x.2.1 x.2.2 y.1 y.2.1 y.2.2.1 y.2.2.2 i d.1.1 d.1.2.1 d.1.2.2 d.2.1 d.2.2 l.length = _
    unfold B7_2
    rw [iLt_f (by omega), sel_f]
theorem L7_0_eq {x : SYS} (h : okX x) {l : LP} (hl : ∀ a, a ∈ l → hasP x.1 a.1 a.2) (hl4 : l.length ≤ 40) (hq : x.2.2.length ≤ 100) :
    L7_0 (l, (osy x, ((((lsys x l).1.1, ((lsys x l).1.2, (dirI (lsys x l), []))) : OSY), 0))) = some (.inl ()) := by
  have hL := okL_of h.st
  have hX := okX_L h hl
  have hk := LK.lzs l (LK.refl x.1.1)
  have hL2 := hk.okL hL
  have hd := h.dir
  have hlen : (lal x.1.1 x.2.2 l x.1.1.length).length ≤ 8 * x.1.1.length := lal_len hL _ _ _ (Nat.le_refl _)
  have h10 := hL.len
  have hf : fewX (lsys x l) := ⟨hL2.few, by show x.2.1.length ≤ 14; omega, by show (lal x.1.1 x.2.2 l x.1.1.length).length ≤ 100; omega⟩
  have hdl : (dirI (lsys x l)).length = x.2.1.length := dirI_len _
  have hll : lLen (dirI (lsys x l)) = (x.2.1.length : Int) := by unfold lLen; rw [hdl]
  refine iter_run (B := fun (x : (LP × (OSY × (OSY × Int)))) => (B7_0 x.1 x.2.1.1 x.2.1.2.1 x.2.1.2.2.1 x.2.1.2.2.2 x.2.2.1.1 x.2.2.1.2.1 x.2.2.1.2.2.1 x.2.2.1.2.2.2 x.2.2.2)) (fun i => (l, (osy x, ((((lsys x l).1.1, ((lsys x l).1.2, (dirI (lsys x l), []))) : OSY), (i : Int))))) x.2.1.length (by omega) ?_ ?_
  rotate_left
  · show B7_0 l x.1.1 x.1.2 x.2.1 x.2.2 (lsys x l).1.1 (lsys x l).1.2 (dirI (lsys x l)) [] x.2.1.length = _
    unfold B7_0
    rw [hll, iLt_f (by omega), sel_f]
  intro i hi
  show B7_0 l x.1.1 x.1.2 x.2.1 x.2.2 (lsys x l).1.1 (lsys x l).1.2 (dirI (lsys x l)) [] i = _
  have hat : lAt (dirI (lsys x l)) (i : Int) = ((lAt x.2.1 (i : Int)).1, ((lAt x.2.1 (i : Int)).2.1, mxv (lsys x l) i)) := dirI_at (x := lsys x l) hi
  unfold B7_0
  rw [hll, iLt_y (by omega), sel_t, oIn_y (by omega), sel_t, hat, add1 (by omega)]
  dsimp only
  by_cases h0 : mxv (lsys x l) i = 0
  rotate_left
  · rw [iEq_f h0, nf, sel_t]
  obtain ⟨w1, w2⟩ := whole_at hf hX (i := i) hi h0
  have w1 : 0 ≤ place (lzs x.1.1 l) (lAt x.2.1 (i : Int)).2.1 := w1
  rw [hk.place] at w1
  obtain ⟨k, k1, k2, k3⟩ := place_nat w1
  have hno : ∀ a, a ∈ l → ¬ a.1 = (lAt x.2.1 (i : Int)).2.1 := fun a ha he => by
    obtain ⟨_, _, _, _, p4, p5, _⟩ := pg_at (t := x.1.1) (nx := x.1.2) hL (hl a ha)
    exact w2 a ((lal_all h hl a).2 (List.mem_append_right _ ha)) he (by omega)
  have hb : lAt (lzs x.1.1 l) (k : Int) = lAt x.1.1 (k : Int) := lzs_at (nx := x.1.2) hL k1 l (LK.refl _) (fun a ha => by rw [k3]; exact hno a ha)
  have p2 : place (lsys x l).1.1 (lAt x.2.1 (i : Int)).2.1 = (k : Int) := by show place (lzs x.1.1 l) _ = _; rw [hk.place]; exact k2
  have l1 : (lzs x.1.1 l).length = x.1.1.length := hk.len
  rw [iEq_y h0, nt, sel_f, F90_eq _ _ (by dsimp only; omega), bnd_s, F90_eq _ _ (by show (lzs x.1.1 l).length ≤ _; omega), bnd_s]
  dsimp only
  rw [k2, p2, oIn_y (by unfold lLen; omega), sel_t, sEq_y rfl, sEq_y rfl, iEq_y rfl, oIn_y (by unfold lLen; omega), or_tt, sel_t, oIn_y (by show 0 ≤ (k : Int) ∧ (k : Int) < lLen (lzs x.1.1 l); unfold lLen; omega), or_tt, sel_t, iEq_f (by omega),
    show lAt (lsys x l).1.1 (k : Int) = lAt x.1.1 (k : Int) from hb, sEq_y rfl]
  rw [show bOr (bOr (bOr (bNot (bAnd true (bAnd true true))) false) false) (bNot true) = false from rfl, sel_f]
  have h7 := L7_2_eq x (((lsys x l).1.1, ((lsys x l).1.2, (dirI (lsys x l), []))) : OSY) (i : Int) ((lAt x.2.1 (i : Int)).1, ((lAt x.2.1 (i : Int)).2.1, mxv (lsys x l) i)) l (by omega) hno
  show bndS (L7_2 (l, (osy x, ((((lsys x l).1.1, ((lsys x l).1.2, (dirI (lsys x l), []))) : OSY), ((i : Int), (((lAt x.2.1 (i : Int)).1.1, ((lAt x.2.1 (i : Int)).1.2.1, ((lAt x.2.1 (i : Int)).1.2.2, ((lAt x.2.1 (i : Int)).2.1, mxv (lsys x l) i)))), 0)))))) _ = _
  dsimp only at h7
  rw [h7, bnd_s]
  show some (Sum.inl (l, (osy x, ((((lsys x l).1.1, ((lsys x l).1.2, (dirI (lsys x l), []))) : OSY), iAdd .i64 (i : Int) 1)))) = _
  rw [add1 (by omega)]
theorem whole (x : SYS) (l : LP) (h2 : fits x.1.2) : F7 x l = some true := by
  unfold F7
  rw [awake, bnd_s, nt, sel_f]
  rcases few_eq x with ⟨hf, e⟩ | e
  rotate_left
  · rw [e, bnd_s, nf]
    rfl
  rw [e, bnd_s, nt]
  by_cases h40 : 40 < l.length
  · rw [iLt_y (by unfold lLen; omega)]
    rfl
  rw [iLt_f (by unfold lLen; omega), or_ff]
  by_cases h0 : 0 < x.2.2.length
  · rw [iLt_y (by unfold lLen; omega)]
    rfl
  have hq := hf.2.2
  rw [iLt_f (by unfold lLen; omega), or_ff, sel_f, own_eq hf, bnd_s, lCap_y (by decide) (by decide) (by omega), sel_t]
  show bndS (F22 x l) _ = _
  rcases lose_two hf h2 l (by omega) with ⟨c, c1, c2, c3⟩ | ⟨hX, _, hp, v, lo, hi, e1, e2, e3⟩
  · rw [c2, bnd_s]
    dsimp only
    rw [iEq_f c1, nf, sel_t]
  rw [e1, bnd_s]
  dsimp only
  rw [iEq_y rfl, nt, sel_f, e2]
  have hL := okL_of hX.st
  have hX2 := okX_L hX hp
  have hk := LK.lzs l (LK.refl x.1.1)
  have hL2 := hk.okL hL
  have hd := hX.dir
  have h10 := hL.len
  have hlen : (lal x.1.1 x.2.2 l x.1.1.length).length ≤ 8 * x.1.1.length := lal_len hL _ _ _ (Nat.le_refl _)
  have hf2 : fewX (lsys x l) := ⟨hL2.few, by show x.2.1.length ≤ 14; omega, by show (lal x.1.1 x.2.2 l x.1.1.length).length ≤ 100; omega⟩
  obtain ⟨out, _, f1, _⟩ := F25_eq hf2 hX2
  show bndS (F25 (lsys x l)) _ = _
  rw [f1, bnd_s]
  dsimp only
  have hdl : lLen (dirI (lsys x l)) = lLen x.2.1 := by unfold lLen; rw [show (dirI (lsys x l)).length = x.2.1.length from dirI_len _]
  rw [iEq_y rfl, nt, hdl, iEq_y rfl, nt, or_ff, nil_len, show iLt 0 0 = false from rfl, or_ff, sel_f]
  show bndS (L7_0 (l, (osy x, ((((lsys x l).1.1, ((lsys x l).1.2, (dirI (lsys x l), []))) : OSY), 0)))) _ = _
  rw [L7_0_eq hX hp (by omega) (by omega), bnd_s]
  rfl
end Go.Proofs.YtiddpfhpmodfbaaGreatDoor.K
end

section
set_option linter.unusedVariables false
set_option linter.unusedSimpArgs false
set_option linter.unnecessarySimpa false
open Go.Ev
namespace Go.Proofs.YtiddpfhpmodfbaaGreatDoor.Pure
open Go.Proofs.YtiddpfhpmodfbaaGreatDoor.K
set_option maxRecDepth 100000 in
theorem IplWhole (x0 : ((.pr (.pr (.sl (.pr (.int .i64) .str)) (.int .i64)) (.pr (.sl (.pr (.pr .str (.pr .str (.int .i64))) (.pr (.int .i64) (.int .i64)))) (.sl (.pr (.int .i64) (.int .i64))))) : Ty).T) (x1 : ((.sl (.pr (.int .i64) (.int .i64))) : Ty).T) (h0 : ((.pr (.pr (.sl (.pr (.int .i64) .str)) (.int .i64)) (.pr (.sl (.pr (.pr .str (.pr .str (.int .i64))) (.pr (.int .i64) (.int .i64)))) (.sl (.pr (.int .i64) (.int .i64))))) : Ty).wf x0) (h1 : ((.sl (.pr (.int .i64) (.int .i64))) : Ty).wf x1) : K.gF7.F (x0, x1) = some true :=
  whole x0 x1 (wf_fits h0.1.2)
end Go.Proofs.YtiddpfhpmodfbaaGreatDoor.Pure
end
