/- A part of the proof: texts of the author, joined. -/
import Derived.Test.YtiddpfhpmodfbaaGreatDoorKPIplReclaims1
section
set_option linter.unusedVariables false
set_option linter.unusedSimpArgs false
set_option linter.unnecessarySimpa false
open Go Go.Ev
namespace Go.Proofs.YtiddpfhpmodfbaaGreatDoor.K
def st2A (x : SYS) (r : RS) (l : List SEG) (i : Int) : ((OSY × ((Int × (Int × Int)) × (((List SEG) × (Int × (LP × (Int × Int)))) × Int))) ⊕ ((OSY × ((Int × (Int × Int)) × (((List SEG) × (Int × ((List DE) × (LP × ((List FIN) × (Int × Int)))))) × Int))) ⊕ (OSY × ((Int × (Int × Int)) × (((List SEG) × (Int × (LP × ((List FIN) × (Int × Int))))) × Int))))) := match r.dir, r.out with
  | [], [] => .inl (osy x, (z3, ((r.done ++ l, (x.1.2, (x.2.2, (0, 0)))), i)))
  | a :: t, out => .inr (.inl (osy x, (z3, ((r.done ++ l, (x.1.2, (a :: t, (x.2.2, (out, (0, 0)))))), i))))
  | [], b :: s => .inr (.inr (osy x, (z3, ((r.done ++ l, (x.1.2, (x.2.2, (b :: s, (0, 0))))), i))))
def en2A (x : SYS) (r : RS) (l : List SEG) : (((Int × (Int × Int)) × ((List SEG) × (Int × (LP × (Int × Int))))) ⊕ (((Int × (Int × Int)) × ((List SEG) × (Int × ((List DE) × (LP × ((List FIN) × (Int × Int))))))) ⊕ ((Int × (Int × Int)) × ((List SEG) × (Int × (LP × ((List FIN) × (Int × Int)))))))) := match r.dir, r.out with
  | [], [] => .inl (z3, (r.done ++ l, (x.1.2, (x.2.2, (0, 0)))))
  | a :: t, out => .inr (.inl (z3, (r.done ++ l, (x.1.2, (a :: t, (x.2.2, (out, (0, 0))))))))
  | [], b :: s => .inr (.inr (z3, (r.done ++ l, (x.1.2, (x.2.2, (b :: s, (0, 0)))))))
theorem step2A {x : SYS} {r : RS} {g : SEG} {l : List SEG} {i : Nat} (h : Inv x.1.2 x.1.1 x.2.1 r (g :: l)) (hi : i < x.1.1.length) (hx : x.2.1.length ≤ 1000) (hg : lAt x.1.1 (i : Int) = g) :
    (fun x => (sumS x (fun x => (B42_2h0 x.1.1 x.1.2.1 x.1.2.2.1 x.1.2.2.2 x.2.1.1 x.2.1.2.1 x.2.1.2.2 x.2.2.1.1 x.2.2.1.2.1 x.2.2.1.2.2.1 x.2.2.1.2.2.2.1 x.2.2.1.2.2.2.2 x.2.2.2)) fun x => (sumS x (fun x => (B42_2h1 x.1.1 x.1.2.1 x.1.2.2.1 x.1.2.2.2 x.2.1.1 x.2.1.2.1 x.2.1.2.2 x.2.2.1.1 x.2.2.1.2.1 x.2.2.1.2.2.1 x.2.2.1.2.2.2.1 x.2.2.1.2.2.2.2.1 x.2.2.1.2.2.2.2.2.1 x.2.2.1.2.2.2.2.2.2 x.2.2.2)) fun x => (B42_2h2 x.1.1 x.1.2.1 x.1.2.2.1 x.1.2.2.2 x.2.1.1 x.2.1.2.1 x.2.1.2.2 x.2.2.1.1 x.2.2.1.2.1 x.2.2.1.2.2.1 x.2.2.1.2.2.2.1 x.2.2.1.2.2.2.2.1 x.2.2.1.2.2.2.2.2 x.2.2.2)))) (st2A x r (g :: l) i) = some (.inl (st2A x (rstep x.2.1 r g) l ((i + 1 : Nat) : Int))) := by
  have hc := calls_of h
  have hll : lLen x.1.1 = (x.1.1.length : Int) := rfl
  have hsg := h.sgl
  have hdl := h.dl
  have h32 := hc.sz
  have e75 : F75 g.2 = some (sLen g.2 / 32) := F66_eq (by omega)
  obtain ⟨done, dir, out⟩ := r
  dsimp only at hdl
  rcases dir with _ | ⟨a, t⟩
  · rcases out with _ | ⟨b, s⟩
    · show B42_2h0 x.1.1 x.1.2 x.2.1 x.2.2 0 0 0 (done ++ g :: l) x.1.2 x.2.2 0 0 i = _
      unfold B42_2h0
      rw [iLt_y (by omega), sel_t, oIn_y (by omega), sel_t, hg]
      show bndS (F44 x g.1) _ = _
      rcases F44_eq x g.1 hx with ⟨j, j1, j2, e⟩ | ⟨j1, e⟩
      · rw [e, bnd_s, iEq_f (by omega), nf, sel_t, rstep_e ⟨_, lAt_mem j1, j2⟩, add_n (by omega) (by omega)]
        have ea : (done ++ [g]) ++ l = done ++ g :: l := by rw [List.append_assoc]; rfl
        unfold st2A
        dsimp only
        rw [ea]
        rfl
      have he : ¬ hasE x.2.1 g.1 := fun ⟨d, hd, h5⟩ => j1 d hd h5
      rw [e, bnd_s, iEq_y rfl, nt, sel_f, oCut_y (by omega), sel_t, hc.h17, bnd_s, add_n (by omega) (by omega)]
      by_cases h0 : (hdr g).2.2 = 0
      · obtain ⟨_, n1⟩ := hc.nam h0 x.2.2
        obtain ⟨_, d1, _⟩ := hc.hdn h0
        obtain ⟨_, w1⟩ := hc.wri h0
        rw [rstep_f he h0]
        dsimp only at n1 d1 w1 ⊢
        rw [iEq_y h0, nt, sel_f, n1, bnd_s, e75, bnd_s, d1, bnd_s, w1, bnd_s]
        dsimp only
        rw [F93_1_eq _ _ _ _ _ (by simp at hdl ⊢ <;> omega), bnd_s, lCap_y (by decide) (by decide) (by simp [lApp] at hdl ⊢ <;> omega), sel_t]
        obtain ⟨c, t', e5⟩ := ins_cons (fre [] (hdr g).1, (g.1, 0)) []
        rw [e5]
        have ea : ∀ z : SEG, (done ++ [z]) ++ l = done ++ z :: l := fun z => by rw [List.append_assoc]; rfl
        unfold st2A
        dsimp only
        rw [ea]
        rfl
      · obtain ⟨_, del⟩ := hc.del
        rw [rstep_d he h0]
        dsimp only at del ⊢
        rw [iEq_f h0, nf, sel_t, del, bnd_s, lCap_y (by decide) (by decide) (by simp [lApp] at hdl ⊢ <;> omega), sel_t]
        rfl
    · show B42_2h2 x.1.1 x.1.2 x.2.1 x.2.2 0 0 0 (done ++ g :: l) x.1.2 x.2.2 (b :: s) 0 0 i = _
      unfold B42_2h2
      rw [iLt_y (by omega), sel_t, oIn_y (by omega), sel_t, hg]
      show bndS (F44 x g.1) _ = _
      rcases F44_eq x g.1 hx with ⟨j, j1, j2, e⟩ | ⟨j1, e⟩
      · rw [e, bnd_s, iEq_f (by omega), nf, sel_t, rstep_e ⟨_, lAt_mem j1, j2⟩, add_n (by omega) (by omega)]
        have ea : (done ++ [g]) ++ l = done ++ g :: l := by rw [List.append_assoc]; rfl
        unfold st2A
        dsimp only
        rw [ea]
        rfl
      have he : ¬ hasE x.2.1 g.1 := fun ⟨d, hd, h5⟩ => j1 d hd h5
      rw [e, bnd_s, iEq_y rfl, nt, sel_f, oCut_y (by omega), sel_t, hc.h17, bnd_s, add_n (by omega) (by omega)]
      by_cases h0 : (hdr g).2.2 = 0
      · obtain ⟨_, n1⟩ := hc.nam h0 x.2.2
        obtain ⟨_, d1, _⟩ := hc.hdn h0
        obtain ⟨_, w1⟩ := hc.wri h0
        rw [rstep_f he h0]
        dsimp only at n1 d1 w1 ⊢
        rw [iEq_y h0, nt, sel_f, n1, bnd_s, e75, bnd_s, d1, bnd_s, w1, bnd_s]
        dsimp only
        rw [F93_1_eq _ _ _ _ _ (by simp at hdl ⊢ <;> omega), bnd_s, lCap_y (by decide) (by decide) (by simp [lApp] at hdl ⊢ <;> omega), sel_t]
        obtain ⟨c, t', e5⟩ := ins_cons (fre [] (hdr g).1, (g.1, 0)) []
        rw [e5]
        have ea : ∀ z : SEG, (done ++ [z]) ++ l = done ++ z :: l := fun z => by rw [List.append_assoc]; rfl
        unfold st2A
        dsimp only
        rw [ea]
        rfl
      · obtain ⟨_, del⟩ := hc.del
        rw [rstep_d he h0]
        dsimp only at del ⊢
        rw [iEq_f h0, nf, sel_t, del, bnd_s, lCap_y (by decide) (by decide) (by simp [lApp] at hdl ⊢ <;> omega), sel_t]
        rfl
  · show B42_2h1 x.1.1 x.1.2 x.2.1 x.2.2 0 0 0 (done ++ g :: l) x.1.2 (a :: t) x.2.2 out 0 0 i = _
    unfold B42_2h1
    rw [iLt_y (by omega), sel_t, oIn_y (by omega), sel_t, hg]
    show bndS (F44 x g.1) _ = _
    rcases F44_eq x g.1 hx with ⟨j, j1, j2, e⟩ | ⟨j1, e⟩
    · rw [e, bnd_s, iEq_f (by omega), nf, sel_t, rstep_e ⟨_, lAt_mem j1, j2⟩, add_n (by omega) (by omega)]
      have ea : (done ++ [g]) ++ l = done ++ g :: l := by rw [List.append_assoc]; rfl
      unfold st2A
      dsimp only
      rw [ea]
      rfl
    have he : ¬ hasE x.2.1 g.1 := fun ⟨d, hd, h5⟩ => j1 d hd h5
    rw [e, bnd_s, iEq_y rfl, nt, sel_f, oCut_y (by omega), sel_t, hc.h17, bnd_s, add_n (by omega) (by omega)]
    by_cases h0 : (hdr g).2.2 = 0
    · obtain ⟨_, n1⟩ := hc.nam h0 x.2.2
      obtain ⟨_, d1, _⟩ := hc.hdn h0
      obtain ⟨_, w1⟩ := hc.wri h0
      rw [rstep_f he h0]
      dsimp only at n1 d1 w1 ⊢
      rw [iEq_y h0, nt, sel_f, n1, bnd_s, e75, bnd_s, d1, bnd_s, w1, bnd_s]
      dsimp only
      rw [F93_eq _ _ _ _ _ (by simp at hdl ⊢ <;> omega), bnd_s, lCap_y (by decide) (by decide) (by simp [lApp] at hdl ⊢ <;> omega), sel_t]
      obtain ⟨c, t', e5⟩ := ins_cons (fre (a :: t) (hdr g).1, (g.1, 0)) (a :: t)
      rw [e5]
      have ea : ∀ z : SEG, (done ++ [z]) ++ l = done ++ z :: l := fun z => by rw [List.append_assoc]; rfl
      unfold st2A
      dsimp only
      rw [ea]
      rfl
    · obtain ⟨_, del⟩ := hc.del
      rw [rstep_d he h0]
      dsimp only at del ⊢
      rw [iEq_f h0, nf, sel_t, del, bnd_s, lCap_y (by decide) (by decide) (by simp [lApp] at hdl ⊢ <;> omega), sel_t]
      rfl
theorem L2A_eq {x : SYS} (h : okX x) : L42_2 (st2A x (r00 x) x.1.1 0) = some (en2A x (rrun x x.1.1.length) []) := by
  have hll : lLen x.1.1 = (x.1.1.length : Int) := rfl
  have h10 := (okL_of h.st).len
  have hd := h.dir
  refine iter_run (fun i => st2A x (rrun x i) (x.1.1.drop i) (i : Int)) x.1.1.length (by omega) ?_ ?_
  · intro i hi
    have hI := inv_at h i (by omega)
    rw [List.drop_eq_getElem_cons hi] at hI
    rw [rrun_succ x hi, List.drop_eq_getElem_cons hi]
    exact step2A hI hi (by omega) (lAt_lt hi)
  · rw [List.drop_length]
    generalize rrun x x.1.1.length = r
    obtain ⟨done, dir, out⟩ := r
    rcases dir with _ | ⟨a, t⟩
    · rcases out with _ | ⟨b, s⟩
      · show B42_2h0 x.1.1 x.1.2 x.2.1 x.2.2 0 0 0 (done ++ []) x.1.2 x.2.2 0 0 x.1.1.length = _
        unfold B42_2h0
        rw [iLt_f (by omega), sel_f]; rfl
      · show B42_2h2 x.1.1 x.1.2 x.2.1 x.2.2 0 0 0 (done ++ []) x.1.2 x.2.2 (b :: s) 0 0 x.1.1.length = _
        unfold B42_2h2
        rw [iLt_f (by omega), sel_f]; rfl
    · show B42_2h1 x.1.1 x.1.2 x.2.1 x.2.2 0 0 0 (done ++ []) x.1.2 (a :: t) x.2.2 out 0 0 x.1.1.length = _
      unfold B42_2h1
      rw [iLt_f (by omega), sel_f]; rfl
def st2B (x : SYS) (r : RS) (l : List SEG) (i : Int) : ((OSY × ((Int × (Int × Int)) × (((List SEG) × (Int × ((List DE) × (LP × (Int × Int))))) × Int))) ⊕ (OSY × ((Int × (Int × Int)) × (((List SEG) × (Int × ((List DE) × (LP × ((List FIN) × (Int × Int)))))) × Int)))) := match r.dir, r.out with
  | dir, [] => .inl (osy x, (z3, ((r.done ++ l, (x.1.2, (dir, (x.2.2, (0, 0))))), i)))
  | dir, b :: s => .inr (osy x, (z3, ((r.done ++ l, (x.1.2, (dir, (x.2.2, (b :: s, (0, 0)))))), i)))
def en2B (x : SYS) (r : RS) (l : List SEG) : (((Int × (Int × Int)) × ((List SEG) × (Int × ((List DE) × (LP × (Int × Int)))))) ⊕ ((Int × (Int × Int)) × ((List SEG) × (Int × ((List DE) × (LP × ((List FIN) × (Int × Int)))))))) := match r.dir, r.out with
  | dir, [] => .inl (z3, (r.done ++ l, (x.1.2, (dir, (x.2.2, (0, 0))))))
  | dir, b :: s => .inr (z3, (r.done ++ l, (x.1.2, (dir, (x.2.2, (b :: s, (0, 0)))))))
theorem step2B {x : SYS} {r : RS} {g : SEG} {l : List SEG} {i : Nat} (h : Inv x.1.2 x.1.1 x.2.1 r (g :: l)) (hi : i < x.1.1.length) (hx : x.2.1.length ≤ 1000) (hg : lAt x.1.1 (i : Int) = g) :
    (fun x => (sumS x (fun x => (B42_2_1h0 x.1.1 x.1.2.1 x.1.2.2.1 x.1.2.2.2 x.2.1.1 x.2.1.2.1 x.2.1.2.2 x.2.2.1.1 x.2.2.1.2.1 x.2.2.1.2.2.1 x.2.2.1.2.2.2.1 x.2.2.1.2.2.2.2.1 x.2.2.1.2.2.2.2.2 x.2.2.2)) fun x => (B42_2_1h1 x.1.1 x.1.2.1 x.1.2.2.1 x.1.2.2.2 x.2.1.1 x.2.1.2.1 x.2.1.2.2 x.2.2.1.1 x.2.2.1.2.1 x.2.2.1.2.2.1 x.2.2.1.2.2.2.1 x.2.2.1.2.2.2.2.1 x.2.2.1.2.2.2.2.2.1 x.2.2.1.2.2.2.2.2.2 x.2.2.2))) (st2B x r (g :: l) i) = some (.inl (st2B x (rstep x.2.1 r g) l ((i + 1 : Nat) : Int))) := by
  have hc := calls_of h
  have hll : lLen x.1.1 = (x.1.1.length : Int) := rfl
  have hsg := h.sgl
  have hdl := h.dl
  have h32 := hc.sz
  have e75 : F75 g.2 = some (sLen g.2 / 32) := F66_eq (by omega)
  obtain ⟨done, dir, out⟩ := r
  dsimp only at hdl
  rcases out with _ | ⟨b, s⟩
  · show B42_2_1h0 x.1.1 x.1.2 x.2.1 x.2.2 0 0 0 (done ++ g :: l) x.1.2 dir x.2.2 0 0 i = _
    unfold B42_2_1h0
    rw [iLt_y (by omega), sel_t, oIn_y (by omega), sel_t, hg]
    show bndS (F44 x g.1) _ = _
    rcases F44_eq x g.1 hx with ⟨j, j1, j2, e⟩ | ⟨j1, e⟩
    · rw [e, bnd_s, iEq_f (by omega), nf, sel_t, rstep_e ⟨_, lAt_mem j1, j2⟩, add_n (by omega) (by omega)]
      have ea : (done ++ [g]) ++ l = done ++ g :: l := by rw [List.append_assoc]; rfl
      unfold st2B
      dsimp only
      rw [ea]
      rfl
    have he : ¬ hasE x.2.1 g.1 := fun ⟨d, hd, h5⟩ => j1 d hd h5
    rw [e, bnd_s, iEq_y rfl, nt, sel_f, oCut_y (by omega), sel_t, hc.h17, bnd_s, add_n (by omega) (by omega)]
    by_cases h0 : (hdr g).2.2 = 0
    · obtain ⟨_, n1⟩ := hc.nam h0 x.2.2
      obtain ⟨_, d1, _⟩ := hc.hdn h0
      obtain ⟨_, w1⟩ := hc.wri h0
      rw [rstep_f he h0]
      dsimp only at n1 d1 w1 ⊢
      rw [iEq_y h0, nt, sel_f, n1, bnd_s, e75, bnd_s, d1, bnd_s, w1, bnd_s]
      dsimp only
      rw [F93_eq _ _ _ _ _ (by simp at hdl ⊢ <;> omega), bnd_s, lCap_y (by decide) (by decide) (by simp [lApp] at hdl ⊢ <;> omega), sel_t]
      have ea : ∀ z : SEG, (done ++ [z]) ++ l = done ++ z :: l := fun z => by rw [List.append_assoc]; rfl
      unfold st2B
      dsimp only
      rw [ea]
      rfl
    · obtain ⟨_, del⟩ := hc.del
      rw [rstep_d he h0]
      dsimp only at del ⊢
      rw [iEq_f h0, nf, sel_t, del, bnd_s, lCap_y (by decide) (by decide) (by simp [lApp] at hdl ⊢ <;> omega), sel_t]
      rfl
  · show B42_2_1h1 x.1.1 x.1.2 x.2.1 x.2.2 0 0 0 (done ++ g :: l) x.1.2 dir x.2.2 (b :: s) 0 0 i = _
    unfold B42_2_1h1
    rw [iLt_y (by omega), sel_t, oIn_y (by omega), sel_t, hg]
    show bndS (F44 x g.1) _ = _
    rcases F44_eq x g.1 hx with ⟨j, j1, j2, e⟩ | ⟨j1, e⟩
    · rw [e, bnd_s, iEq_f (by omega), nf, sel_t, rstep_e ⟨_, lAt_mem j1, j2⟩, add_n (by omega) (by omega)]
      have ea : (done ++ [g]) ++ l = done ++ g :: l := by rw [List.append_assoc]; rfl
      unfold st2B
      dsimp only
      rw [ea]
      rfl
    have he : ¬ hasE x.2.1 g.1 := fun ⟨d, hd, h5⟩ => j1 d hd h5
    rw [e, bnd_s, iEq_y rfl, nt, sel_f, oCut_y (by omega), sel_t, hc.h17, bnd_s, add_n (by omega) (by omega)]
    by_cases h0 : (hdr g).2.2 = 0
    · obtain ⟨_, n1⟩ := hc.nam h0 x.2.2
      obtain ⟨_, d1, _⟩ := hc.hdn h0
      obtain ⟨_, w1⟩ := hc.wri h0
      rw [rstep_f he h0]
      dsimp only at n1 d1 w1 ⊢
      rw [iEq_y h0, nt, sel_f, n1, bnd_s, e75, bnd_s, d1, bnd_s, w1, bnd_s]
      dsimp only
      rw [F93_eq _ _ _ _ _ (by simp at hdl ⊢ <;> omega), bnd_s, lCap_y (by decide) (by decide) (by simp [lApp] at hdl ⊢ <;> omega), sel_t]
      have ea : ∀ z : SEG, (done ++ [z]) ++ l = done ++ z :: l := fun z => by rw [List.append_assoc]; rfl
      unfold st2B
      dsimp only
      rw [ea]
      rfl
    · obtain ⟨_, del⟩ := hc.del
      rw [rstep_d he h0]
      dsimp only at del ⊢
      rw [iEq_f h0, nf, sel_t, del, bnd_s, lCap_y (by decide) (by decide) (by simp [lApp] at hdl ⊢ <;> omega), sel_t]
      rfl
theorem L2B_eq {x : SYS} (h : okX x) : L42_2_1 (st2B x (r00 x) x.1.1 0) = some (en2B x (rrun x x.1.1.length) []) := by
  have hll : lLen x.1.1 = (x.1.1.length : Int) := rfl
  have h10 := (okL_of h.st).len
  have hd := h.dir
  refine iter_run (fun i => st2B x (rrun x i) (x.1.1.drop i) (i : Int)) x.1.1.length (by omega) ?_ ?_
  · intro i hi
    have hI := inv_at h i (by omega)
    rw [List.drop_eq_getElem_cons hi] at hI
    rw [rrun_succ x hi, List.drop_eq_getElem_cons hi]
    exact step2B hI hi (by omega) (lAt_lt hi)
  · rw [List.drop_length]
    generalize rrun x x.1.1.length = r
    obtain ⟨done, dir, out⟩ := r
    rcases out with _ | ⟨b, s⟩
    · show B42_2_1h0 x.1.1 x.1.2 x.2.1 x.2.2 0 0 0 (done ++ []) x.1.2 dir x.2.2 0 0 x.1.1.length = _
      unfold B42_2_1h0
      rw [iLt_f (by omega), sel_f]; rfl
    · show B42_2_1h1 x.1.1 x.1.2 x.2.1 x.2.2 0 0 0 (done ++ []) x.1.2 dir x.2.2 (b :: s) 0 0 x.1.1.length = _
      unfold B42_2_1h1
      rw [iLt_f (by omega), sel_f]; rfl

/-- What reclaim storage leaves. -/
noncomputable def rres (x : SYS) : OSY := ((rrun x x.1.1.length).done, (x.1.2, ((rrun x x.1.1.length).dir, x.2.2)))
noncomputable def rout (x : SYS) : List FIN := (rrun x x.1.1.length).out
open Classical in
theorem F41_eq {x : SYS} (hf : fewX x) (h : okX x) (h0 : x.2.2 = []) : F41 x = some (if 12 < (rrun x x.1.1.length).dir.length then (([], (0, ([], []))), ([], 2)) else (rres x, (rout x, 0))) := by
  unfold F41
  rw [(sys_check h (by rw [h0]; decide)).1, bnd_s, iEq_y rfl, nt, sel_f, iLt_f (by unfold lLen; rw [h0]; decide), sel_f, F69_eq hf, bnd_s]
  show bndS (L41_0 (st41 x [] [] 0)) _ = _
  rw [L41_eq hf, bnd_s]
  have hr := L41_2_eq h
  unfold rres rout
  generalize hk : keep x x.2.1 = dir at *
  have hd : (r00 x).dir = dir := hk
  have ho : (r00 x).out = remo x x.2.1 := rfl
  have hn : (r00 x).done = [] := rfl
  have fin : ∀ v, L41_2 (st412 x (r00 x) x.1.1 0) = some v → (v = .inr (.inr (0, 2)) ∨ v = en412 x (rrun x x.1.1.length) []) → (sumS v (fun y3a => some (((y3a.2.1.1, (y3a.2.1.2.1, (([] : List DE), y3a.2.1.2.2))), (y3a.2.2, (0 : Int))) : OSY × (List FIN × Int))) fun y3ar => sumS y3ar (fun y3aa => some (y3aa.2.1, (y3aa.2.2, (0 : Int)))) fun y3ab => some ((([] : List SEG), (y3ab.1, (([] : List DE), ([] : LP)))), (([] : List FIN), y3ab.2))) = some (if v = .inr (.inr (0, 2)) then (([], (0, ([], []))), ([], 2)) else (((rrun x x.1.1.length).done, (x.1.2, ((rrun x x.1.1.length).dir, x.2.2))), ((rrun x x.1.1.length).out, 0))) := by
    intro v _ hv
    rcases hv with rfl | rfl
    · rw [if_pos rfl]; rfl
    · generalize rrun x x.1.1.length = r
      obtain ⟨dn, di, ou⟩ := r
      cases di with
      | nil => rw [if_neg (fun h5 => by cases h5)]; unfold en412; dsimp only; rw [List.append_nil]; rfl
      | cons a t => rw [if_neg (fun h5 => by cases h5)]; unfold en412; dsimp only; rw [List.append_nil]; rfl
  have fin2 : ∀ v, L41_2 (st412 x (r00 x) x.1.1 0) = some v → (bndS (some v) fun y3 => sumS y3 (fun y3a => some (((y3a.2.1.1, (y3a.2.1.2.1, (([] : List DE), y3a.2.1.2.2))), (y3a.2.2, (0 : Int))) : OSY × (List FIN × Int))) fun y3ar => sumS y3ar (fun y3aa => some (y3aa.2.1, (y3aa.2.2, (0 : Int)))) fun y3ab => some ((([] : List SEG), (y3ab.1, (([] : List DE), ([] : LP)))), (([] : List FIN), y3ab.2))) = some (if 12 < (rrun x x.1.1.length).dir.length then (([], (0, ([], []))), ([], 2)) else (((rrun x x.1.1.length).done, (x.1.2, ((rrun x x.1.1.length).dir, x.2.2))), ((rrun x x.1.1.length).out, 0))) := by
    intro v hv
    rw [bnd_s]
    rcases hr with ⟨h1, h2⟩ | ⟨h1, h2⟩
    · rw [h2] at hv; cases hv
      rw [fin _ h2 (.inl rfl), if_pos rfl, if_pos h1]
    · rw [h2] at hv; cases hv
      rw [fin _ h2 (.inr rfl), if_neg (by omega : ¬ 12 < (rrun x x.1.1.length).dir.length), if_neg]
      generalize rrun x x.1.1.length = r
      obtain ⟨dn, di, ou⟩ := r
      cases di <;> exact fun h5 => by cases h5
  obtain ⟨v, hv⟩ : ∃ v, L41_2 (st412 x (r00 x) x.1.1 0) = some v := by rcases hr with ⟨_, h2⟩ | ⟨_, h2⟩ <;> exact ⟨_, h2⟩
  have hz := fin2 v hv
  rw [← hv] at hz
  cases dir with
  | nil =>
    have e : st412 x (r00 x) x.1.1 0 = .inl (0, ((x.1.1, (x.1.2, x.2.2)), (remo x x.2.1, (x.1.1, (lLen x.1.1, 0))))) := by unfold st412; rw [hd, ho, hn]; rfl
    rw [e] at hz
    exact hz
  | cons a t =>
    have e : st412 x (r00 x) x.1.1 0 = .inr (0, ((x.1.1, (x.1.2, (a :: t, x.2.2))), (remo x x.2.1, (x.1.1, (lLen x.1.1, 0))))) := by unfold st412; rw [hd, ho, hn]; rfl
    rw [e] at hz
    exact hz
theorem F42_eq {x : SYS} (hf : fewX x) (h : okX x) (h0 : x.2.2 = []) : F42 x = some (if 12 < (rrun x x.1.1.length).dir.length then ([], (0, ([], ([], ([], (0, 2)))))) else ((rres x).1, ((rres x).2.1, ((rres x).2.2.1, ((rres x).2.2.2, (rout x, (0, 0))))))) := by
  have e34 : F34 x = some 0 := by unfold F34; rw [(sys_check h (by rw [h0]; decide)).2]; rfl
  unfold F42
  rw [e34, bnd_s, iEq_y rfl, nt, sel_f, iLt_f (by unfold lLen; rw [h0]; decide), sel_f, own_eq hf, bnd_s]
  show bndS (L42_0 (st42 x [] [] 0)) _ = _
  rw [L42_eq hf, bnd_s]
  have hA := L2A_eq h
  have hB := L2B_eq h
  unfold rres rout
  generalize hk : keep x x.2.1 = dir at *
  have hd : (r00 x).dir = dir := hk
  generalize hk2 : remo x x.2.1 = out at *
  have ho : (r00 x).out = out := hk2
  have hn : (r00 x).done = [] := rfl
  have hup : dir.length ≤ (rrun x x.1.1.length).dir.length := by
    have := dir_le (x := x) 0 x.1.1.length (by omega)
    rw [Nat.zero_add] at this
    rw [← hd]; exact this
  generalize rrun x x.1.1.length = r at *
  obtain ⟨dn, di, ou⟩ := r
  dsimp only at hup
  have l12 : ∀ l : List DE, iLt 12 (lLen l) = decide (12 < l.length) := fun l => by
    rw [Bool.eq_iff_iff, iLt_t, decide_eq_true_eq]; unfold lLen; omega
  rcases dir with _ | ⟨a, t⟩
  · have hA' : L42_2 (st2A x (r00 x) x.1.1 0) = some (en2A x ⟨dn, di, ou⟩ []) := hA
    rcases out with _ | ⟨b, s⟩
    · have e : st2A x (r00 x) x.1.1 0 = .inl (osy x, (z3, ((x.1.1, (x.1.2, (x.2.2, (0, 0)))), 0))) := by unfold st2A; rw [hd, ho, hn]; rfl
      rw [e] at hA'
      show bndS (L42_2 (.inl (osy x, (z3, ((x.1.1, (x.1.2, (x.2.2, (0, 0)))), 0))))) _ = _
      rw [hA', bnd_s]
      rcases di with _ | ⟨c, u⟩
      · rw [if_neg (by simp)]
        rcases ou with _ | ⟨v, w⟩ <;> (unfold en2A; dsimp only; rw [List.append_nil]; rfl)
      · unfold en2A
        dsimp only [sumS]
        rw [l12, List.append_nil]
        by_cases h5 : 12 < (c :: u).length
        · rw [if_pos h5, decide_eq_true h5]; rfl
        · rw [if_neg h5, decide_eq_false h5]; rfl
    · have e : st2A x (r00 x) x.1.1 0 = .inr (.inr (osy x, (z3, ((x.1.1, (x.1.2, (x.2.2, (b :: s, (0, 0))))), 0)))) := by unfold st2A; rw [hd, ho, hn]; rfl
      rw [e] at hA'
      show bndS (L42_2 (.inr (.inr (osy x, (z3, ((x.1.1, (x.1.2, (x.2.2, (b :: s, (0, 0))))), 0)))))) _ = _
      rw [hA', bnd_s]
      rcases di with _ | ⟨c, u⟩
      · rw [if_neg (by simp)]
        rcases ou with _ | ⟨v, w⟩ <;> (unfold en2A; dsimp only; rw [List.append_nil]; rfl)
      · unfold en2A
        dsimp only [sumS]
        rw [l12, List.append_nil]
        by_cases h5 : 12 < (c :: u).length
        · rw [if_pos h5, decide_eq_true h5]; rfl
        · rw [if_neg h5, decide_eq_false h5]; rfl
  · have hB' : L42_2_1 (st2B x (r00 x) x.1.1 0) = some (en2B x ⟨dn, di, ou⟩ []) := hB
    rcases out with _ | ⟨b, s⟩
    · have e : st2B x (r00 x) x.1.1 0 = .inl (osy x, (z3, ((x.1.1, (x.1.2, (a :: t, (x.2.2, (0, 0))))), 0))) := by unfold st2B; rw [hd, ho, hn]; rfl
      rw [e] at hB'
      show bndS (L42_2_1 (.inl (osy x, (z3, ((x.1.1, (x.1.2, (a :: t, (x.2.2, (0, 0))))), 0))))) _ = _
      rw [hB', bnd_s]
      rcases ou with _ | ⟨v, w⟩
      all_goals
        unfold en2B
        dsimp only [sumS]
        rw [l12, List.append_nil]
        by_cases h5 : 12 < di.length
        · rw [if_pos h5, decide_eq_true h5]; rfl
        · rw [if_neg h5, decide_eq_false h5]; rfl
    · have e : st2B x (r00 x) x.1.1 0 = .inr (osy x, (z3, ((x.1.1, (x.1.2, (a :: t, (x.2.2, (b :: s, (0, 0)))))), 0))) := by unfold st2B; rw [hd, ho, hn]; rfl
      rw [e] at hB'
      show bndS (L42_2_1 (.inr (osy x, (z3, ((x.1.1, (x.1.2, (a :: t, (x.2.2, (b :: s, (0, 0)))))), 0))))) _ = _
      rw [hB', bnd_s]
      rcases ou with _ | ⟨v, w⟩
      all_goals
        unfold en2B
        dsimp only [sumS]
        rw [l12, List.append_nil]
        by_cases h5 : 12 < di.length
        · rw [if_pos h5, decide_eq_true h5]; rfl
        · rw [if_neg h5, decide_eq_false h5]; rfl
/-- IplReclaims. -/
theorem reclaims (x : SYS) (h2 : fits x.1.2) : F11 x = some true := by
  unfold F11
  rw [awake, bnd_s, nt, sel_f]
  rcases few_eq x with ⟨hf, e⟩ | e
  rotate_left
  · rw [e, bnd_s, nf, sel_t]
  obtain ⟨r, e19, e21, hok⟩ := check_two hf h2
  have e34 : F34 x = some r.2 := by unfold F34; rw [e21]; rfl
  rw [e, bnd_s, nt, sel_f, own_eq hf, bnd_s]
  show bndS (F41 x) _ = _
  have two : ∃ (z : OSY) (out : List FIN) (c : Int), F41 x = some (z, (out, c)) ∧ F42 x = some (z.1, (z.2.1, (z.2.2.1, (z.2.2.2, (out, (0, c)))))) ∧ z.1.length ≤ 1000 ∧ z.2.2.1.length ≤ 1000 ∧ z.2.2.2.length ≤ 1000 ∧ out.length ≤ 1000 := by
    by_cases hr : r.2 = 0
    rotate_left
    · refine ⟨([], (0, ([], []))), [], r.2, ?_, ?_, by simp, by simp, by simp, by simp⟩
      · unfold F41; rw [e19, bnd_s, iEq_f hr, nf, sel_t]
      · unfold F42; rw [e34, bnd_s, iEq_f hr, nf, sel_t]
    obtain ⟨hX, _⟩ := hok hr
    by_cases h0 : x.2.2 = []
    rotate_left
    · have hlt : iLt 0 (lLen x.2.2) = true := by
        cases hx : x.2.2 with
        | nil => exact absurd hx h0
        | cons a l => exact len_pos a l
      refine ⟨([], (0, ([], []))), [], 26, ?_, ?_, by simp, by simp, by simp, by simp⟩
      · unfold F41; rw [e19, bnd_s, iEq_y hr, nt, sel_f, hlt, sel_t]
      · unfold F42; rw [e34, bnd_s, iEq_y hr, nt, sel_f, hlt, sel_t]
    rw [F41_eq hf hX h0, F42_eq hf hX h0]
    by_cases h12 : 12 < (rrun x x.1.1.length).dir.length
    · rw [if_pos h12, if_pos h12]
      exact ⟨_, _, _, rfl, rfl, by simp, by simp, by simp, by simp⟩
    · rw [if_neg h12, if_neg h12]
      have hI := inv_at hX x.1.1.length (Nat.le_refl _)
      have h5 := hI.dl
      have h6 := hI.st.len
      rw [List.length_append] at h6
      exact ⟨_, _, _, rfl, rfl, by show (rrun x x.1.1.length).done.length ≤ _; omega, by show (rrun x x.1.1.length).dir.length ≤ _; omega, by show x.2.2.length ≤ _; rw [h0]; simp, by show (rrun x x.1.1.length).out.length ≤ _; omega⟩
  obtain ⟨z, out, c, c1, c2, c3, c4, c5, c6⟩ := two
  rw [c1, c2, bnd_s, bnd_s]
  dsimp only
  have e1 : F23 ((z.1, z.2.1), z.2.2) c (((z.1, z.2.1), (z.2.2.1, z.2.2.2)), (out, (0, c))) = some true := is_self z c out 0 c3 c4 c5
  rw [e1, bnd_s, find_self out (by omega), okS_s, or_tt, sel_t, valS_s, let_s]
  rfl
end Go.Proofs.YtiddpfhpmodfbaaGreatDoor.K
end

section
set_option linter.unusedVariables false
set_option linter.unusedSimpArgs false
set_option linter.unnecessarySimpa false
open Go.Ev
namespace Go.Proofs.YtiddpfhpmodfbaaGreatDoor.Pure
open Go.Proofs.YtiddpfhpmodfbaaGreatDoor.K
set_option maxRecDepth 100000 in
theorem IplReclaims (x0 : ((.pr (.pr (.sl (.pr (.int .i64) .str)) (.int .i64)) (.pr (.sl (.pr (.pr .str (.pr .str (.int .i64))) (.pr (.int .i64) (.int .i64)))) (.sl (.pr (.int .i64) (.int .i64))))) : Ty).T) (h0 : ((.pr (.pr (.sl (.pr (.int .i64) .str)) (.int .i64)) (.pr (.sl (.pr (.pr .str (.pr .str (.int .i64))) (.pr (.int .i64) (.int .i64)))) (.sl (.pr (.int .i64) (.int .i64))))) : Ty).wf x0) : K.gF11.F (x0) = some true :=
  reclaims x0 (wf_fits h0.1.2)
end Go.Proofs.YtiddpfhpmodfbaaGreatDoor.Pure
end
