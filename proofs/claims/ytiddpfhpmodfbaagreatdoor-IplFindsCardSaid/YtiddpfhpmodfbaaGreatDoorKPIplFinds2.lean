/- A part of the proof: texts of the author, joined. -/
import Derived.Test.YtiddpfhpmodfbaaGreatDoorKPIplFinds1
section
set_option linter.unusedVariables false
set_option linter.unusedSimpArgs false
set_option linter.unnecessarySimpa false
open Go Go.Ev
namespace Go.Proofs.YtiddpfhpmodfbaaGreatDoor.K
def cnt (l : List FIN) (n : Int) : Nat := l.countP (fun f => decide (f.1 = 1 ∧ f.2.1 = n))
/-- What is known of a found segment. -/
def fnd (g : SEG) (r : RS) : Prop := ∃ n, nmE n = 0 ∧ n.1 = bs [81, 82, 67, 76] ∧ n.2.2 = (hdr g).1.2.2 ∧ (n, (g.1, 0)) ∈ r.dir ∧ (g.1, wrB g.2 (hed n (sLen g.2 / 32))) ∈ r.done
theorem fnd_next {g : SEG} {r : RS} {xd : List DE} {s : SEG} (h : fnd g r) : fnd g (rstep xd r s) := by
  obtain ⟨n, h1, h2, h3, h4, h5⟩ := h
  refine ⟨n, h1, h2, h3, ?_, ?_⟩
  · unfold rstep
    split
    · exact h4
    · split
      · exact h4
      · exact ins_mem.2 (.inr h4)
  · unfold rstep
    split
    · exact List.mem_append_left _ h5
    · split
      · exact h5
      · exact List.mem_append_left _ h5
theorem cnt_app (l : List FIN) (f : FIN) (n : Int) : cnt (l ++ [f]) n = cnt l n + (if f.1 = 1 ∧ f.2.1 = n then 1 else 0) := by
  unfold cnt
  rw [List.countP_append]
  by_cases h : f.1 = 1 ∧ f.2.1 = n
  · rw [if_pos h, List.countP_cons_of_pos (by rw [decide_eq_true h])]; rfl
  · rw [if_neg h, List.countP_cons_of_neg (by rw [decide_eq_false h]; decide)]; rfl
theorem cnt_hit {l : List FIN} {f : FIN} {n : Int} (h : f.1 = 1) (h2 : f.2.1 = n) : cnt (l ++ [f]) n = cnt l n + 1 := by rw [cnt_app, if_pos ⟨h, h2⟩]
theorem cnt_miss {l : List FIN} {f : FIN} {n : Int} (h : ¬ (f.1 = 1 ∧ f.2.1 = n)) : cnt (l ++ [f]) n = cnt l n := by rw [cnt_app, if_neg h, Nat.add_zero]
theorem found_at {x : SYS} (h : okX x) {k : Nat} (hk : k < x.1.1.length) (he : ¬ hasE x.2.1 (x.1.1[k]).1) (h0 : (hdr x.1.1[k]).2.2 = 0) : fnd x.1.1[k] (rrun x x.1.1.length) ∧ cnt (rout x) (x.1.1[k]).1 = 1 := by
  have step : ∀ d, k + 1 + d ≤ x.1.1.length → fnd x.1.1[k] (rrun x (k + 1 + d)) := fun d => by
    induction d with
    | zero =>
      intro _
      have hI := inv_at h k (by omega)
      rw [List.drop_eq_getElem_cons hk] at hI
      have hc := calls_of hI
      have hdl := hI.dl
      obtain ⟨f1, f2, f3, _⟩ := fre_ok (l := (rrun x k).dir) (by omega) (hdr_right hc.h16 h0).1
      show fnd _ (rrun x (k + 1))
      rw [rrun_succ x hk, rstep_f he h0]
      exact ⟨_, f1, f2, f3, ins_mem.2 (.inl rfl), by simp⟩
    | succ d ih =>
      intro hd
      show fnd _ (rrun x (k + 1 + d + 1))
      rw [rrun_succ x (by omega)]
      exact fnd_next (ih (by omega))
  have count : ∀ i, i ≤ x.1.1.length → cnt (rrun x i).out (x.1.1[k]).1 = if k < i then 1 else 0 := fun i => by
    induction i with
    | zero =>
      intro _
      show cnt (remo x x.2.1) _ = 0
      unfold cnt
      rw [List.countP_eq_zero]
      intro f hf
      unfold remo at hf
      obtain ⟨d, _, rfl⟩ := List.mem_map.1 hf
      rw [decide_eq_true_eq]
      intro h5
      have h6 : (3 : Int) = 1 := h5.1
      omega
    | succ i ih =>
      intro hi
      have ih := ih (by omega)
      rw [rrun_succ x (by omega)]
      by_cases hik : i = k
      · subst hik
        rw [rstep_f he h0]
        dsimp only
        rw [cnt_hit rfl rfl, ih, if_neg (by omega), if_pos (by omega)]
      · have hne : ¬ (x.1.1[i]).1 = (x.1.1[k]).1 := fun h5 => by
          have ho := (okL_of h.st).ord
          rcases Nat.lt_or_gt_of_ne hik with h6 | h6
          · have := (List.pairwise_iff_getElem.1 ho) i k (by omega) hk h6; omega
          · have := (List.pairwise_iff_getElem.1 ho) k i hk (by omega) h6; omega
        have hr : (if k < i + 1 then 1 else 0) = if k < i then 1 else 0 := by
          by_cases h7 : k < i
          · rw [if_pos h7, if_pos (by omega)]
          · rw [if_neg h7, if_neg (by omega)]
        rw [hr]
        by_cases he2 : hasE x.2.1 (x.1.1[i]).1
        · rw [rstep_e he2]; exact ih
        · by_cases h02 : (hdr x.1.1[i]).2.2 = 0
          · rw [rstep_f he2 h02]
            dsimp only
            rw [cnt_miss (fun h5 => hne h5.2), ih]
          · rw [rstep_d he2 h02]
            dsimp only
            rw [cnt_miss (fun h5 => by have h6 : (2 : Int) = 1 := h5.1; omega), ih]
  have h1 := step (x.1.1.length - (k + 1)) (by omega)
  rw [show k + 1 + (x.1.1.length - (k + 1)) = x.1.1.length by omega] at h1
  have h2 := count x.1.1.length (Nat.le_refl _)
  rw [if_pos hk] at h2
  exact ⟨h1, h2⟩
theorem wrB_head {o b : ByteArray} (hb : sLen b = 32) (ho : 32 ≤ sLen o) : sCut (wrB o b) 0 32 = b := by
  have c0 : sLen (sCut o 0 0) = 0 := scut_len _ (by omega) (by omega) (by omega)
  unfold wrB
  rw [cutLL (by rw [sadd_len]; omega) (by decide) (by decide), cutR c0 (by omega)]
theorem wrB_tail {o b : ByteArray} (hb : sLen b = 32) (ho : 32 ≤ sLen o) : sCut (wrB o b) 32 (sLen o) = sCut o 32 (sLen o) := by
  have c0 : sLen (sCut o 0 0) = 0 := scut_len _ (by omega) (by omega) (by omega)
  unfold wrB
  rw [cutR (by rw [sadd_len]; omega) (by rw [scut_len _ (by omega) (by omega) (by omega)]; omega)]
theorem F32_eq {x : SYS} (hf : fewX x) (h : okX x) {i : Nat} (hi : i < x.2.1.length) : F32 x (i : Int) = some (mxv x i, 0) := by
  have hll : lLen x.2.1 = (x.2.1.length : Int) := rfl
  have hd := h.dir
  unfold F32
  rw [(sys_check h (by have := hf.2.2; omega)).1, bnd_s, iEq_y rfl, nt, sel_f, let_s, sub_n (by omega) (by omega)]
  have w : F51 (i : Int) 0 (lLen x.2.1 - 1) = true := by unfold F51; rw [iLe_y (by omega), iLe_y (by omega)]; rfl
  rw [w, nt, sel_f, oIn_y (by omega), sel_t, (mxv_eq hf h hi).1, bnd_s]
theorem F46_eq (l : List Int) (n : Int) (hl : l.length ≤ 1000) : (∃ i : Nat, F46 l n = some (i : Int) ∧ n ∈ l) ∨ (F46 l n = some (-1) ∧ ¬ n ∈ l) := by
  have hll : lLen l = (l.length : Int) := rfl
  have hL : (∃ i, i < l.length ∧ lAt l (i : Int) = n ∧ (∀ k, k < i → ¬ lAt l (k : Int) = n) ∧ L46_0 (l, (n, 0)) = some (.inr (i : Int))) ∨ ((∀ i, i < l.length → ¬ lAt l (i : Int) = n) ∧ L46_0 (l, (n, 0)) = some (Sum.inl ())) := by
    refine iter_first (fun i => (l, (n, (i : Int)))) (fun i => lAt l (i : Int) = n) l.length (fun i => Sum.inr (i : Int)) (Sum.inl ()) (by omega) ?_ ?_ ?_
    · intro i hi hp
      show B46_0 l n i = some (.inl (l, (n, ((i + 1 : Nat) : Int))))
      unfold B46_0
      rw [iLt_y (by omega), sel_t, oIn_y (by omega), sel_t, iEq_f hp, sel_f, add_n (by omega) (by omega)]
      rfl
    · intro i hi hp
      show B46_0 l n i = _
      unfold B46_0
      rw [iLt_y (by omega), sel_t, oIn_y (by omega), sel_t, iEq_y hp, sel_t]
    · show B46_0 l n l.length = _
      unfold B46_0
      rw [iLt_f (by omega), sel_f]
  unfold F46
  rcases hL with ⟨i, h1, h2, _, e⟩ | ⟨h1, e⟩
  · exact .inl ⟨i, by rw [e]; rfl, by rw [← h2]; exact lAt_mem h1⟩
  · refine .inr ⟨by rw [e]; rfl, fun h5 => ?_⟩
    obtain ⟨k, hk, e5⟩ := mem_lAt h5
    exact h1 k hk e5
def ky (out : List Int) (l : List DE) (i : Nat) : List DE := ((List.range i).filter (fun k : Nat => decide (¬ (k : Int) ∈ out))).map (fun k : Nat => lAt l (k : Int))
theorem ky_one (out : List Int) (l : List DE) (i : Nat) : ky out l (i + 1) = ky out l i ++ (if (i : Int) ∈ out then [] else [lAt l (i : Int)]) := by
  unfold ky
  rw [List.range_succ, List.filter_append, List.map_append]
  by_cases h : (i : Int) ∈ out
  · rw [if_pos h, List.filter_cons_of_neg (by rw [decide_eq_true_eq]; exact fun h5 => h5 h)]; rfl
  · rw [if_neg h, List.filter_cons_of_pos (by rw [decide_eq_true_eq]; exact h)]; rfl
theorem ky_len (out : List Int) (l : List DE) (i : Nat) : (ky out l i).length ≤ i := by
  unfold ky
  rw [List.length_map]
  have := List.length_filter_le (fun k : Nat => decide (¬ (k : Int) ∈ out)) (List.range i)
  rw [List.length_range] at this
  exact this
theorem ky_sub (out : List Int) (l : List DE) : (ky out l l.length).Sublist l := by
  have e : (List.range l.length).map (fun k : Nat => lAt l (k : Int)) = l := by
    apply List.ext_getElem
    · simp
    · intro i h1 h2
      rw [List.getElem_map, List.getElem_range, lAt_lt h2]
  have h1 : (ky out l l.length).Sublist ((List.range l.length).map (fun k : Nat => lAt l (k : Int))) := (List.filter_sublist (p := fun k : Nat => decide (¬ (k : Int) ∈ out))).map _
  rw [e] at h1
  exact h1
theorem ky_mem {out : List Int} {l : List DE} {d : DE} (h : d ∈ ky out l l.length) : ∃ k, k < l.length ∧ ¬ (k : Int) ∈ out ∧ d = lAt l (k : Int) := by
  unfold ky at h
  obtain ⟨k, hk, rfl⟩ := List.mem_map.1 h
  have hk := List.mem_filter.1 hk
  exact ⟨k, List.mem_range.1 hk.1, of_decide_eq_true hk.2, rfl⟩
def st14 (x : SYS) (out : List Int) (dir : List DE) (i : Int) : (((List Int) × (OSY × (((List SEG) × (Int × LP)) × Int))) ⊕ ((List Int) × (OSY × (OSY × Int)))) := match dir with
  | [] => .inl (out, (osy x, ((x.1.1, (x.1.2, x.2.2)), i)))
  | a :: t => .inr (out, (osy x, ((x.1.1, (x.1.2, (a :: t, x.2.2))), i)))
def en14 (x : SYS) (out : List Int) (dir : List DE) : (((List Int) × (OSY × ((List SEG) × (Int × LP)))) ⊕ (Bool ⊕ ((List Int) × (OSY × OSY)))) := match dir with
  | [] => .inl (out, (osy x, (x.1.1, (x.1.2, x.2.2))))
  | a :: t => .inr (.inr (out, (osy x, (x.1.1, (x.1.2, (a :: t, x.2.2))))))
theorem L14_0_eq {x : SYS} (hf : fewX x) (h : okX x) (out : List Int) (hl : out.length ≤ 30) : (L14_0 (st14 x out [] 0) = some (.inr (.inl true))) ∨ ((∀ i, i < x.2.1.length → mxv x i = 0) ∧ L14_0 (st14 x out [] 0) = some (en14 x out (ky out x.2.1 x.2.1.length))) := by
  have hll : lLen x.2.1 = (x.2.1.length : Int) := rfl
  have hd := h.dir
  have hL : (∃ i, i < x.2.1.length ∧ ¬ mxv x i = 0 ∧ (∀ k, k < i → ¬ ¬ mxv x k = 0) ∧ L14_0 (st14 x out (ky out x.2.1 0) ((0 : Nat) : Int)) = some (.inr (.inl true))) ∨ ((∀ i, i < x.2.1.length → ¬ ¬ mxv x i = 0) ∧ L14_0 (st14 x out (ky out x.2.1 0) ((0 : Nat) : Int)) = some (en14 x out (ky out x.2.1 x.2.1.length))) := by
    refine iter_first (fun i => st14 x out (ky out x.2.1 i) (i : Int)) (fun i => ¬ mxv x i = 0) x.2.1.length (fun _ => .inr (.inl true)) (en14 x out (ky out x.2.1 x.2.1.length)) (by omega) ?_ ?_ ?_
    · intro i hi hp
      have hp := Classical.not_not.1 hp
      have e32 : F32 ((x.1.1, x.1.2), x.2) (i : Int) = some (mxv x i, 0) := F32_eq hf h hi
      have e20 : F20 ((x.1.1, x.1.2), (x.2.1, x.2.2)) = some (osy x) := own_eq hf
      have hk := ky_len out x.2.1 i
      rw [ky_one]
      generalize ky out x.2.1 i = dir at *
      have e46 := F46_eq out (i : Int) (by omega)
      cases dir with
      | nil =>
        show B14_0h0 out x.1.1 x.1.2 x.2.1 x.2.2 x.1.1 x.1.2 x.2.2 i = _
        unfold B14_0h0
        rw [iLt_y (by omega), sel_t, e20, bnd_s]
        dsimp only
        rw [e32, bnd_s]
        dsimp only
        rw [iEq_y rfl, nt, sel_f, iEq_y hp, nt, sel_f, add_n (by omega) (by omega)]
        rcases e46 with ⟨k, e46, hm⟩ | ⟨e46, hm⟩
        · rw [e46, bnd_s, iEq_f (by omega), sel_f, if_pos hm]; rfl
        · rw [e46, bnd_s, iEq_y rfl, sel_t, if_neg hm, oIn_y (by omega), sel_t, lCap_y (by decide) (by decide) (by simp), sel_t]; rfl
      | cons a t =>
        show B14_0h1 out x.1.1 x.1.2 x.2.1 x.2.2 x.1.1 x.1.2 (a :: t) x.2.2 i = _
        unfold B14_0h1
        rw [iLt_y (by omega), sel_t, e20, bnd_s]
        dsimp only
        rw [e32, bnd_s]
        dsimp only
        rw [iEq_y rfl, nt, sel_f, iEq_y hp, nt, sel_f, add_n (by omega) (by omega)]
        rcases e46 with ⟨k, e46, hm⟩ | ⟨e46, hm⟩
        · rw [e46, bnd_s, iEq_f (by omega), sel_f, if_pos hm, List.append_nil]; rfl
        · rw [e46, bnd_s, iEq_y rfl, sel_t, if_neg hm, oIn_y (by omega), sel_t, lCap_y (by decide) (by decide) (by simp [lApp] at hk ⊢; omega), sel_t]; rfl
    · intro i hi hp
      have e32 : F32 ((x.1.1, x.1.2), x.2) (i : Int) = some (mxv x i, 0) := F32_eq hf h hi
      have e20 : F20 ((x.1.1, x.1.2), (x.2.1, x.2.2)) = some (osy x) := own_eq hf
      generalize ky out x.2.1 i = dir at *
      cases dir with
      | nil =>
        show B14_0h0 out x.1.1 x.1.2 x.2.1 x.2.2 x.1.1 x.1.2 x.2.2 i = _
        unfold B14_0h0
        rw [iLt_y (by omega), sel_t, e20, bnd_s]
        dsimp only
        rw [e32, bnd_s]
        dsimp only
        rw [iEq_y rfl, nt, sel_f, iEq_f hp, nf, sel_t]
      | cons a t =>
        show B14_0h1 out x.1.1 x.1.2 x.2.1 x.2.2 x.1.1 x.1.2 (a :: t) x.2.2 i = _
        unfold B14_0h1
        rw [iLt_y (by omega), sel_t, e20, bnd_s]
        dsimp only
        rw [e32, bnd_s]
        dsimp only
        rw [iEq_y rfl, nt, sel_f, iEq_f hp, nf, sel_t]
    · generalize ky out x.2.1 x.2.1.length = dir
      cases dir with
      | nil =>
        show B14_0h0 out x.1.1 x.1.2 x.2.1 x.2.2 x.1.1 x.1.2 x.2.2 x.2.1.length = _
        unfold B14_0h0
        rw [iLt_f (by omega), sel_f]; rfl
      | cons a t =>
        show B14_0h1 out x.1.1 x.1.2 x.2.1 x.2.2 x.1.1 x.1.2 (a :: t) x.2.2 x.2.1.length = _
        unfold B14_0h1
        rw [iLt_f (by omega), sel_f]; rfl
  rcases hL with ⟨i, _, _, _, e⟩ | ⟨h1, e⟩
  · exact .inl e
  · exact .inr ⟨fun i hi => Classical.not_not.1 (h1 i hi), e⟩
theorem L14_4_eq (out : List Int) (x a : SYS) (l : List FIN) (i n y1 y2 : Int) (hl : l.length ≤ 1000) : L14_4 (out, (osy x, (osy a, (l, (i, (n, (y1, (y2, (0, 0))))))))) = some (out, (osy x, (osy a, (l, (i, (n, (y1, (y2, (cnt l n : Int))))))))) := by
  have hll : lLen l = (l.length : Int) := rfl
  have h : L14_4 (out, (osy x, (osy a, (l, (i, (n, (y1, (y2, ((cnt (l.take 0) n : Nat) : Int), ((0 : Nat) : Int))))))))) = some (out, (osy x, (osy a, (l, (i, (n, (y1, (y2, (cnt l n : Int))))))))) := by
    refine iter_run (fun k => (out, (osy x, (osy a, (l, (i, (n, (y1, (y2, (((cnt (l.take k) n : Nat) : Int), (k : Int)))))))))))  l.length (by omega) ?_ ?_
    · intro k hk
      show B14_4 out x.1.1 x.1.2 x.2.1 x.2.2 a.1.1 a.1.2 a.2.1 a.2.2 l i n y1 y2 ((cnt (l.take k) n : Nat) : Int) k = _
      have hc : cnt (l.take k) n ≤ k := by
        have := List.countP_le_length (p := fun f : FIN => decide (f.1 = 1 ∧ f.2.1 = n)) (l := l.take k)
        rw [List.length_take] at this
        unfold cnt; omega
      have h1 : cnt (l.take (k + 1)) n = cnt (l.take k) n + (if (lAt l (k : Int)).1 = 1 ∧ (lAt l (k : Int)).2.1 = n then 1 else 0) := by
        rw [take_one hk, cnt_app]
      have w : bAnd (iEq (lAt l (k : Int)).1 1) (iEq (lAt l (k : Int)).2.1 n) = decide ((lAt l (k : Int)).1 = 1 ∧ (lAt l (k : Int)).2.1 = n) := by
        rw [Bool.eq_iff_iff, and_t, iEq_t, iEq_t, decide_eq_true_eq]
      unfold B14_4 F47
      rw [iLt_y (by omega), sel_t, oIn_y (by omega), or_tt, sel_t, sel_t, w, h1, add_n (a := (k : Int)) (by omega) (by omega)]
      by_cases hq : (lAt l (k : Int)).1 = 1 ∧ (lAt l (k : Int)).2.1 = n
      · rw [decide_eq_true hq, sel_t, if_pos hq, bnd_s, add_n (by omega) (by omega)]
        rfl
      · rw [decide_eq_false hq, sel_f, if_neg hq, bnd_s, add_n (by omega) (by omega)]
        rfl
    · show B14_4 out x.1.1 x.1.2 x.2.1 x.2.2 a.1.1 a.1.2 a.2.1 a.2.2 l i n y1 y2 ((cnt (l.take l.length) n : Nat) : Int) l.length = _
      unfold B14_4
      rw [iLt_f (by omega), sel_f, List.take_length]
  exact h
end Go.Proofs.YtiddpfhpmodfbaaGreatDoor.K
end

section
set_option linter.unusedVariables false
set_option linter.unusedSimpArgs false
set_option linter.unnecessarySimpa false
open Go Go.Ev
namespace Go.Proofs.YtiddpfhpmodfbaaGreatDoor.K
open Classical in
/-- A right entry of an undamaged system. -/
theorem undam {x : SYS} (hf : fewX x) (h : okX x) (h0 : x.2.2 = []) {i : Nat} (hi : i < x.2.1.length) (hz : mxv x i = 0) : ¬ badE x.1.1 (lAt x.2.1 (i : Int)) ∧ ¬ pgsE x.1.1 (lAt x.2.1 (i : Int)) := by
  obtain ⟨g, g1, g2, g3, g4, g5⟩ := dmg hf h hi
  have e1 : mxv x i = sel (iLt g (lAt x.2.1 (i : Int)).2.2) (lAt x.2.1 (i : Int)).2.2 g := by unfold mxv; rw [g1]; rfl
  have hg : g = 0 := by
    rw [e1] at hz
    by_cases hc : g < (lAt x.2.1 (i : Int)).2.2
    · rw [iLt_y hc, sel_t] at hz; omega
    · rw [iLt_f hc, sel_f] at hz; exact hz
  have hb : ¬ badE x.1.1 (lAt x.2.1 (i : Int)) := fun hb => by have := g3 hb; omega
  exact ⟨hb, fun hp => by have := g4 hb hp; omega⟩
theorem place_sg {s : STO} (h : okL s) {g : SEG} (hg : g ∈ s.1) : ∃ q : Nat, q < s.1.length ∧ place s.1 g.1 = (q : Int) ∧ lAt s.1 (q : Int) = g := by
  rcases place_cases g.1 s.1 with ⟨q, q1, q2, _, q4⟩ | ⟨q1, _⟩
  · exact ⟨q, q1, q4, sg_uniq h (lAt_mem q1) hg q2⟩
  · obtain ⟨k, hk, e⟩ := mem_lAt hg
    exact absurd (by rw [e]) (q1 k hk)
/-- An entry that is found has no damage. -/
theorem found_sound {a : SYS} (hf : fewX a) (h : okX a) (h0 : a.2.2 = []) {n : NAM} {g : SEG} {b : ByteArray} {p : Int} {j : Nat} (hj : j < a.2.1.length) (he : lAt a.2.1 (j : Int) = (n, (g.1, 0))) (hs : (g.1, wrB g.2 b) ∈ a.1.1) (hb : F16 b = some (n, (p, 0))) (hl : sLen b = 32) (ho : 32 ≤ sLen g.2) (hp : p = sLen g.2 / 32) : mxv a j = 0 := by
  classical
  obtain ⟨g', g1, g2, g3, g4, g5⟩ := dmg hf h hj
  obtain ⟨q, q1, q2, q3⟩ := place_sg (okL_of h.st) hs
  have q2 : place a.1.1 g.1 = (q : Int) := q2
  rw [he] at g5
  have hsg : sgAt a.1.1 g.1 = (g.1, wrB g.2 b) := by unfold sgAt; rw [q2]; exact q3
  have hh : hdr (g.1, wrB g.2 b) = (n, (p, 0)) := by
    unfold hdr
    show (F16 (sCut (wrB g.2 b) 0 32)).getD default = _
    rw [wrB_head hl ho, hb]; rfl
  have nb : ¬ badE a.1.1 (n, (g.1, 0)) := by
    unfold badE
    dsimp only
    rw [hsg, hh, q2]
    rintro (h5 | h5 | h5)
    · omega
    · exact h5 rfl
    · exact h5 rfl
  have np : ¬ pgsE a.1.1 (n, (g.1, 0)) := by
    unfold pgsE
    dsimp only
    rw [hsg, hh]
    dsimp only
    rw [wrB_len hl ho]
    exact fun h5 => h5 hp
  have hz := g5 h0 nb
  rw [if_neg np] at hz
  have e1 : mxv a j = sel (iLt g' (lAt a.2.1 (j : Int)).2.2) (lAt a.2.1 (j : Int)).2.2 g' := by unfold mxv; rw [g1]; rfl
  rw [e1, he, hz]
  rfl
/-- What a removed entry finds behind reclaim storage. -/
structure Fnd (x a : SYS) (l : List FIN) (d : DE) : Prop where
  ex : ∃ (g : SEG) (n : NAM) (b : ByteArray) (j p q : Nat), g.1 = d.2.1 ∧ j < a.2.1.length ∧ F44 a d.2.1 = some (j : Int) ∧ lAt a.2.1 (j : Int) = (n, (g.1, 0)) ∧ n.1 = bs [81, 82, 67, 76] ∧ n.2.2 = d.1.2.2 ∧ p < x.1.1.length ∧ place x.1.1 d.2.1 = (p : Int) ∧ lAt x.1.1 (p : Int) = g ∧ q < a.1.1.length ∧ place a.1.1 d.2.1 = (q : Int) ∧ lAt a.1.1 (q : Int) = (g.1, wrB g.2 b) ∧ sLen b = 32 ∧ 32 ≤ sLen g.2 ∧ cnt l d.2.1 = 1 ∧ mxv a j = 0
theorem L14_2_eq (x a : SYS) (out : List Int) (l : List FIN) (hf : fewX a) (h : okX a) (h0 : a.2.2 = []) (hx : x.2.1.length ≤ 1000) (hx2 : x.1.1.length ≤ 1000) (ho : out.length ≤ 30) (hl : l.length ≤ 1000) (hF : ∀ i : Nat, i < x.2.1.length → (i : Int) ∈ out → Fnd x a l (lAt x.2.1 (i : Int))) : L14_2 (out, (osy x, (osy a, (l, 0)))) = some (Sum.inl ()) := by
  have hll : lLen x.2.1 = (x.2.1.length : Int) := rfl
  have hl1 : lLen x.1.1 = (x.1.1.length : Int) := rfl
  have hl2 : lLen a.1.1 = (a.1.1.length : Int) := rfl
  have hl3 : lLen a.2.1 = (a.2.1.length : Int) := rfl
  have ha10 := (okL_of h.st).len
  refine iter_run (fun i => (out, (osy x, (osy a, (l, (i : Int)))))) x.2.1.length (by omega) ?_ ?_
  · intro i hi
    show B14_2 out x.1.1 x.1.2 x.2.1 x.2.2 a.1.1 a.1.2 a.2.1 a.2.2 l i = some (.inl (out, (osy x, (osy a, (l, ((i + 1 : Nat) : Int))))))
    unfold B14_2
    rw [iLt_y (by omega), sel_t]
    rcases F46_eq out (i : Int) (by omega) with ⟨k, e46, hm⟩ | ⟨e46, hm⟩
    rotate_left
    · rw [e46, bnd_s, iEq_y rfl, sel_t, add_n (by omega) (by omega)]; rfl
    rw [e46, bnd_s, iEq_f (by omega), sel_f, oIn_y (by omega), sel_t]
    obtain ⟨g, n, b, j, p, q, e1, j1, j2, j3, n1, n2, p1, p2, p3, q1, q2, q3, b1, o1, c1, m1⟩ := (hF i hi hm).ex
    have e44 : F44 ((a.1.1, a.1.2), (a.2.1, a.2.2)) (lAt x.2.1 (i : Int)).2.1 = some (j : Int) := j2
    have e28 : F28 (a.1.1, a.1.2) (lAt x.2.1 (i : Int)).2.1 = some (q : Int) := by rw [← q2]; exact F90_eq a.1 _ (by omega)
    have e28x : F28 (x.1.1, x.1.2) (lAt x.2.1 (i : Int)).2.1 = some (p : Int) := by rw [← p2]; exact F90_eq x.1 _ (by omega)
    have e14 := L14_4_eq out x a l (i : Int) (lAt x.2.1 (i : Int)).2.1 (j : Int) (q : Int) hl
    have e14' : L14_4 (out, ((x.1.1, (x.1.2, (x.2.1, x.2.2))), ((a.1.1, (a.1.2, (a.2.1, a.2.2))), (l, ((i : Int), ((lAt x.2.1 (i : Int)).2.1, ((j : Int), ((q : Int), (0, 0))))))))) = some (out, (osy x, (osy a, (l, ((i : Int), ((lAt x.2.1 (i : Int)).2.1, ((j : Int), ((q : Int), (cnt l (lAt x.2.1 (i : Int)).2.1 : Int))))))))) := e14
    have e20 : F20 ((a.1.1, a.1.2), (a.2.1, a.2.2)) = some (osy a) := own_eq hf
    have e32 : F32 ((a.1.1, a.1.2), a.2) (j : Int) = some (mxv a j, 0) := F32_eq hf h j1
    rw [e44, bnd_s, e28, bnd_s, e14', bnd_s, c1]
    dsimp only
    rw [j3, e28x, bnd_s, p3, q3, e20, bnd_s]
    dsimp only
    rw [e32, bnd_s, m1]
    dsimp only
    have z1 : iEq (((1 : Nat) : Int)) 1 = true := rfl
    have wl := wrB_len b1 o1
    rw [z1, oIn_y (a := (j : Int)) (by omega), oIn_y (a := (i : Int)) (by omega), oIn_y (a := (p : Int)) (by omega), oIn_y (a := (q : Int)) (by omega), iEq_f (a := (j : Int)) (by omega), iEq_f (a := (q : Int)) (by omega), n1, n2, sEq_y rfl, iEq_y (a := (lAt x.2.1 (i : Int)).1.2.2) rfl, wl, oCut_y (by omega), wrB_tail b1 o1, iEq_y (a := sLen g.2) rfl, sEq_y rfl, iEq_y rfl, add_n (by omega) (by omega)]
    rfl
  · show B14_2 out x.1.1 x.1.2 x.2.1 x.2.2 a.1.1 a.1.2 a.2.1 a.2.2 l x.2.1.length = _
    unfold B14_2
    rw [iLt_f (by omega), sel_f]
/-- IplFinds. -/
theorem finds (x : SYS) (out : List Int) (h2 : fits x.1.2) : F14 x out = some true := by
  unfold F14
  rw [awake, bnd_s, nt, sel_f]
  have wz : ∀ a b : Bool, bOr a (bNot (bNot (bOr (bOr true a) b))) = true := fun a b => by cases a <;> cases b <;> rfl
  rcases few_eq x with ⟨hf, e⟩ | e
  rotate_left
  · rw [e, bnd_s, nf]
    have w1 : ∀ a b c : Bool, bOr a (bNot (bNot (bOr (bOr true b) c))) = true := fun a b c => by cases a <;> cases b <;> cases c <;> rfl
    have w2 : ∀ a b c : Bool, bOr (bOr (bOr true a) b) c = true := fun a b c => by cases a <;> cases b <;> cases c <;> rfl
    rw [w1, sel_t, let_s, w2, sel_t]
  obtain ⟨r, e19, e21, hok⟩ := check_two hf h2
  have e34 : F34 x = some r.2 := by unfold F34; rw [e21]; rfl
  rw [e, bnd_s, e34, okS_s, or_tt, sel_t, valS_s, let_s, nt, or_ff]
  by_cases h30 : 30 < lLen out
  · rw [iLt_y h30, or_tt, or_tt, sel_t]
  by_cases hl0 : 0 < lLen x.2.2
  · rw [iLt_y hl0, iLt_f h30, or_ff, or_tt, sel_t]
  by_cases hr : r.2 = 0
  rotate_left
  · rw [iEq_f hr, iLt_f h30, iLt_f hl0, or_ff, or_ff, nf, sel_t]
  rw [iEq_y hr, iLt_f h30, iLt_f hl0, or_ff, or_ff, nt, sel_f, own_eq hf, bnd_s]
  have h0 : x.2.2 = [] := by
    cases hx : x.2.2 with
    | nil => rfl
    | cons a l => rw [hx] at hl0; unfold lLen at hl0; rw [List.length_cons] at hl0; omega
  obtain ⟨hX, _⟩ := hok hr
  have hl30 : out.length ≤ 30 := by unfold lLen at h30; omega
  have hL := okL_of hX.st
  have hD := okD_of hX
  show bndS (L14_0 (st14 x out [] 0)) _ = _
  rcases L14_0_eq hf hX out hl30 with e14 | ⟨hz, e14⟩
  · rw [e14]; rfl
  rw [e14, bnd_s]
  have hsub := ky_sub out x.2.1
  have hkm : ∀ d, d ∈ ky out x.2.1 x.2.1.length → ∃ k, k < x.2.1.length ∧ ¬ (k : Int) ∈ out ∧ d = lAt x.2.1 (k : Int) := fun d hd => ky_mem hd
  generalize ky out x.2.1 x.2.1.length = dir at *
  -- the system without these entries
  have hY : okX (x.1, (dir, x.2.2)) := by
    refine okX_of hL ⟨fun d hd => hD.nm d (hsub.subset hd), fun d hd => hD.sg d (hsub.subset hd), fun d hd => hD.dm d (hsub.subset hd), hD.ord.sublist hsub, hD.dbl.sublist hsub⟩ (by have := hX.dir; have := hsub.length_le; dsimp only; omega) (fun i hi => ?_)
    have hi : i < x.2.2.length := hi
    rw [h0] at hi
    simp at hi
  have hY0 : (x.1, (dir, x.2.2)).2.2 = [] := h0
  have hfY := few_nil hY hY0
  have fin : (bndS (F20 (x.1, (dir, x.2.2))) fun y8 => bndS (F41 ((y8.1, y8.2.1), y8.2.2)) fun y9 => sel (bNot (iEq y9.2.2 0)) (some (iEq y9.2.2 2)) (bndS (L14_2 (out, (osy x, (y9.1, (y9.2.1, 0))))) fun y10 => sumS y10 (fun y10a => some true) fun y10b => some y10b)) = some true := by
    rw [own_eq hfY, bnd_s]
    show bndS (F41 (x.1, (dir, x.2.2))) _ = _
    rcases F41_cases hfY hY hY0 with e5 | ⟨h12, e5⟩
    · rw [e5, bnd_s]; rfl
    rw [e5, bnd_s]
    dsimp only
    have hR := okX_R hY h12
    have hI := inv_end hY
    rw [iEq_y rfl, nt, sel_f]
    have hdl := hI.dl
    rw [L14_2_eq x (rsys (x.1, (dir, x.2.2))) out (rout (x.1, (dir, x.2.2))) (few_nil hR rfl) hR rfl (by have := hX.dir; omega) (by have := hL.len; omega) hl30 (by unfold rout; dsimp only at hdl ⊢; omega) ?_]
    · rfl
    intro i hi hm
    obtain ⟨u1, u2⟩ := undam hf hX h0 hi (hz i hi)
    have hdm := lAt_mem (l := x.2.1) hi
    have hidx : ∀ k, k < x.2.1.length → (lAt x.2.1 (k : Int)).2.1 = (lAt x.2.1 (i : Int)).2.1 → k = i := fun k hk hh => by
      rw [lAt_lt hk, lAt_lt hi] at hh
      rcases Nat.lt_trichotomy k i with h6 | h6 | h6
      · exact absurd hh ((List.pairwise_iff_getElem.1 hD.dbl) k i hk hi h6)
      · exact h6
      · exact absurd hh.symm ((List.pairwise_iff_getElem.1 hD.dbl) i k hi hk h6)
    generalize hdd : lAt x.2.1 (i : Int) = d at *
    -- its segment
    rcases place_cases d.2.1 x.1.1 with ⟨p, p1, p2, _, p4⟩ | ⟨_, p4⟩
    rotate_left
    · exact absurd (.inl p4) u1
    have hsg : sgAt x.1.1 d.2.1 = lAt x.1.1 (p : Int) := by unfold sgAt; rw [p4]
    have u3 : (hdr (lAt x.1.1 (p : Int))).2.2 = 0 := Classical.byContradiction fun h6 => u1 (.inr (.inl (by rw [hsg]; exact h6)))
    have u4 : (hdr (lAt x.1.1 (p : Int))).1 = d.1 := Classical.byContradiction fun h6 => u1 (.inr (.inr (by rw [hsg]; exact h6)))
    have u5 : (hdr (lAt x.1.1 (p : Int))).2.1 = sLen (lAt x.1.1 (p : Int)).2 / 32 := Classical.byContradiction fun h6 => u2 (by unfold pgsE; rw [hsg]; exact h6)
    have hne : ¬ hasE dir (lAt x.1.1 (p : Int)).1 := by
      rintro ⟨c, hc, hc2⟩
      obtain ⟨k, hk, hk2, rfl⟩ := hkm c hc
      have := hidx k hk (by rw [hc2, p2])
      rw [this] at hk2
      exact hk2 hm
    have hgl : lAt x.1.1 (p : Int) = x.1.1[p] := lAt_lt p1
    have hfd := found_at hY (k := p) p1 (by rw [← hgl]; exact hne) (by rw [← hgl]; exact u3)
    rw [← hgl] at hfd
    obtain ⟨⟨n, n1, n2, n3, n4, n5⟩, hc⟩ := hfd
    have hsz := hL.sg _ (lAt_mem p1)
    obtain ⟨b, hb⟩ : ∃ b, b = hed n (sLen (lAt x.1.1 (p : Int)).2 / 32) := ⟨_, rfl⟩
    obtain ⟨y, y1, y2, y3⟩ := hed_form n1 (p := sLen (lAt x.1.1 (p : Int)).2 / 32) (by omega)
    have hbk := hed_back n1 (p := sLen (lAt x.1.1 (p : Int)).2 / 32) (by omega)
    obtain ⟨b', b1, _, b3⟩ := head_eq n (sLen (lAt x.1.1 (p : Int)).2 / 32) n1 (by omega)
    have hb32 : sLen (hed n (sLen (lAt x.1.1 (p : Int)).2 / 32)) = 32 := by
      have : hed n (sLen (lAt x.1.1 (p : Int)).2 / 32) = b' := by unfold hed; rw [b1]; rfl
      rw [this]; exact b3
    rw [← hb] at hbk hb32 n5
    have n4 : (n, ((lAt x.1.1 (p : Int)).1, 0)) ∈ (rsys (x.1, (dir, x.2.2))).2.1 := n4
    have n5 : ((lAt x.1.1 (p : Int)).1, wrB (lAt x.1.1 (p : Int)).2 b) ∈ (rsys (x.1, (dir, x.2.2))).1.1 := n5
    have hDR := okD_of hR
    have hLR := okL_of hR.st
    have hd12 := hR.dir
    rcases F44_eq (rsys (x.1, (dir, x.2.2))) d.2.1 (by omega) with ⟨j, j1, j2, j3⟩ | ⟨j1, _⟩
    rotate_left
    · exact absurd p2 (j1 _ n4)
    have hj : lAt (rsys (x.1, (dir, x.2.2))).2.1 (j : Int) = (n, ((lAt x.1.1 (p : Int)).1, 0)) := no_uniq hDR (lAt_mem j1) n4 (by rw [j2, p2])
    obtain ⟨q, q1, q2, q3⟩ := place_sg hLR n5
    have q2 : place (rsys (x.1, (dir, x.2.2))).1.1 (lAt x.1.1 (p : Int)).1 = (q : Int) := q2
    rw [p2] at q2
    exact ⟨lAt x.1.1 (p : Int), n, b, j, p, q, p2, j1, j3, hj, n2, by rw [n3, u4], p1, p4, rfl, q1, q2, q3, hb32, by omega, by rw [← p2]; exact hc, found_sound (few_nil hR rfl) hR rfl j1 hj n5 hbk hb32 (by omega) rfl⟩
  unfold en14
  cases dir with
  | nil =>
    dsimp only [sumS]
    exact fin
  | cons a t =>
    dsimp only [sumS]
    exact fin
end Go.Proofs.YtiddpfhpmodfbaaGreatDoor.K
end

section
set_option linter.unusedVariables false
set_option linter.unusedSimpArgs false
set_option linter.unnecessarySimpa false
open Go.Ev
namespace Go.Proofs.YtiddpfhpmodfbaaGreatDoor.Pure
open Go.Proofs.YtiddpfhpmodfbaaGreatDoor.K
set_option maxRecDepth 100000 in
theorem IplFinds (x0 : ((.pr (.pr (.sl (.pr (.int .i64) .str)) (.int .i64)) (.pr (.sl (.pr (.pr .str (.pr .str (.int .i64))) (.pr (.int .i64) (.int .i64)))) (.sl (.pr (.int .i64) (.int .i64))))) : Ty).T) (x1 : ((.sl (.int .i64)) : Ty).T) (h0 : ((.pr (.pr (.sl (.pr (.int .i64) .str)) (.int .i64)) (.pr (.sl (.pr (.pr .str (.pr .str (.int .i64))) (.pr (.int .i64) (.int .i64)))) (.sl (.pr (.int .i64) (.int .i64))))) : Ty).wf x0) (h1 : ((.sl (.int .i64)) : Ty).wf x1) : K.gF14.F (x0, x1) = some true :=
  finds x0 x1 (wf_fits h0.1.2)
end Go.Proofs.YtiddpfhpmodfbaaGreatDoor.Pure
end
