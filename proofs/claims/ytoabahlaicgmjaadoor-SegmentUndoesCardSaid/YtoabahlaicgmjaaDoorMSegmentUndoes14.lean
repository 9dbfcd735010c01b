-- Texts of this claim joined by merge.py, a program of its author; what this claim does not reach is left out.
import Derived.Test.YtoabahlaicgmjaaDoorMSegmentUndoes13
section
namespace Go.Proofs.YtoabahlaicgmjaaDoor.Q
open Go.RowKit Go.Proofs.YtoabahlaicgmjaaDoor.X Go.Proofs.YtoabahlaicgmjaaDoorW.PrintWords Go.Proofs.YtoabahlaicgmjaaDoorW.PrintLast
set_option linter.unusedVariables false

/-- The operations that lead back behind an operation on the segment at j. -/
def backOps (x : S26) (s : ByteArray) : List S26 :=
  if x.f0 = 1 then [⟨2, x.f1, 0, (s.size : Int) / 32, ⟨#[]⟩⟩]
  else if x.f0 = 2 then
    (if s.size ≤ (x.f3 * 32).toNat then [] else
      ⟨1, x.f1, 0, (s.size : Int) / 32 - x.f3, ⟨#[]⟩⟩ :: (if s.extract (x.f3 * 32).toNat s.size = zer (s.extract (x.f3 * 32).toNat s.size).size then [] else [⟨4, x.f1, x.f3 * 32, 0, s.extract (x.f3 * 32).toNat s.size⟩]))
  else if s.extract x.f2.toNat (x.f2 + (x.f4.size : Int)).toNat = x.f4 then [] else [⟨4, x.f1, x.f2, 0, s.extract x.f2.toNat (x.f2 + (x.f4.size : Int)).toNat⟩]
/-- What an operation that has no error, and that can be undone, found. -/
structure HitOp (l : List S46) (nx : Int) (x : S26) (j : Nat) (l' : List S46) : Prop where
  good : RightL l nx
  jlt : j < l.length
  num : (rd_T46 l (j : Int)).f0 = x.f1
  kind : (x.f0 = 1 ∧ 1 ≤ x.f3 ∧ x.f3 ≤ 8 ∧ (rd_T46 l (j : Int)).f1.size + x.f3.toNat * 32 ≤ 256 ∧ l' = l.set j ⟨(rd_T46 l (j : Int)).f0, (rd_T46 l (j : Int)).f1 ++ zer (x.f3.toNat * 32)⟩) ∨
    (x.f0 = 2 ∧ 1 ≤ x.f3 ∧ x.f3 * 32 ≤ ((rd_T46 l (j : Int)).f1.size : Int) ∧ l' = l.set j ⟨(rd_T46 l (j : Int)).f0, (rd_T46 l (j : Int)).f1.extract 0 (x.f3 * 32).toNat⟩) ∨
    (x.f0 = 4 ∧ 0 ≤ x.f2 ∧ x.f2 + (x.f4.size : Int) ≤ ((rd_T46 l (j : Int)).f1.size : Int) ∧ l' = l.set j ⟨(rd_T46 l (j : Int)).f0, patched (rd_T46 l (j : Int)).f1 x.f2 x.f4⟩)
theorem apply_hit (l : List S46) (nx : Int) (x : S26) (k : Nat) (hk : 400 ≤ k) (hx : ∀ y ∈ l, ok46 y) (h12 : l.length ≤ 12) (hw : ok26 x) (h0 : x.f0 ≠ 0) (h3 : x.f0 ≠ 3) :
    (∃ (e : Int) (l' : List S46) (nx' : Int), e ≠ 0 ∧ segment_apply.f k l nx x.f0 x.f1 x.f2 x.f3 x.f4 = some (l', nx', e)) ∨ (∃ (j : Nat) (l' : List S46), HitOp l nx x j l' ∧ segment_apply.f k l nx x.f0 x.f1 x.f2 x.f3 x.f4 = some (l', nx, 0)) := by
  obtain ⟨w0, w1, w2, w3, w4⟩ := hw
  unfold segment_apply.f
  obtain ⟨e, h1, h2, h4⟩ := form_eq x.f0 x.f1 x.f2 x.f3 x.f4
  rw [h1, Option.bind_some]
  by_cases he : e = 0
  · have h5 := h4 he
    rw [if_pos he, if_neg h0]
    by_cases c1 : x.f0 = 1
    · obtain ⟨l', nx', f, _, g1, _, g3⟩ := extended_both l nx x.f1 x.f3 k hk hx h12 (wf64 w1) (wf64 w3)
      rw [if_pos c1, g1, Option.bind_some]
      by_cases hf : f = 0
      · obtain ⟨j, hj, hjn, R, a1, a8, hs, rfl, rfl⟩ := g3 hf
        rw [hf]
        exact .inr ⟨j, _, ⟨R.good hx, hj, hjn, .inl ⟨c1, a1, a8, hs, rfl⟩⟩, rfl⟩
      · exact .inl ⟨f, _, _, hf, rfl⟩
    rw [if_neg c1]
    by_cases c2 : x.f0 = 2
    · obtain ⟨l', nx', f, _, g1, _, g3⟩ := truncated_both l nx x.f1 x.f3 k hk hx h12 (wf64 w1) (wf64 w3)
      rw [if_pos c2, g1, Option.bind_some]
      by_cases hf : f = 0
      · obtain ⟨j, hj, hjn, R, a1, hs, rfl, rfl⟩ := g3 hf
        rw [hf]
        exact .inr ⟨j, _, ⟨R.good hx, hj, hjn, .inr (.inl ⟨c2, a1, hs, rfl⟩)⟩, rfl⟩
      · exact .inl ⟨f, _, _, hf, rfl⟩
    rw [if_neg c2, if_neg h3]
    rcases written_both l nx x.f1 x.f2 x.f4 k hk hx h12 (wf64 w1) w4 with ⟨f, hf, g1, _⟩ | ⟨j, hj, hjn, R, ho, hot, h8, g1, _⟩
    · rw [g1, Option.bind_some]
      exact .inl ⟨f, _, _, hf, rfl⟩
    · rw [g1, Option.bind_some]
      exact .inr ⟨j, _, ⟨R.good hx, hj, hjn, .inr (.inr ⟨by omega, ho, hot, rfl⟩)⟩, rfl⟩
  · rw [if_neg he]
    exact .inl ⟨e, _, _, he, rfl⟩
theorem place_hit {l : List S46} {nx : Int} (R : Right l nx) (j : Nat) (hj : j < l.length) (k : Nat) (hk : 40 ≤ k) : midrangeref04_Place.f k l nx (rd_T46 l (j : Int)).f0 = some (j : Int) := by
  have hpl : midrangeref04_Place.f k l nx (rd_T46 l j).f0 = midrangeref04_Place.l0 k (rd_T46 l j).f0 ((0 : Nat) : Int) l nx := rfl
  rcases place_loop l nx (rd_T46 l j).f0 R.len l.length 0 k (by omega) (by have := R.len; omega) with ⟨i, _, h4, h5, h6⟩ | ⟨h3, _⟩
  · rw [hpl, h6]
    rcases Nat.lt_trichotomy i j with h7 | h7 | h7
    · have := R.mono i j h7 hj; omega
    · rw [h7]
    · have := R.mono j i h7 h4; omega
  · exact absurd rfl (h3 j (by omega) hj)
/-- Both answers of Undo, before the operation is looked at. -/
theorem undo_j0 {l l' : List S46} {nx : Int} (x : S26) (j : Nat) (H : HitOp l nx x j l') (k : Nat) (hk : 1100 ≤ k) :
    segment_Undo.j0 (k + 1) false l nx x.f0 x.f1 x.f2 x.f3 x.f4 = some (backOps x (rd_T46 l (j : Int)).f1, 0) ∧ midrangeref04_Undo.j0 (k + 1) false l nx x.f0 x.f1 x.f2 x.f3 x.f4 = some (backOps x (rd_T46 l (j : Int)).f1, 0) := by
  obtain ⟨G, hj, hjn, hkind⟩ := H
  have hl := G.len
  have R := G.right
  obtain ⟨q, hq, hq1, hq8⟩ := size_of R G.ok j hj
  have hj0 : (0 : Int) ≤ (j : Int) := Int.natCast_nonneg j
  have hj1 : (j : Int) < (l.length : Int) := Int.ofNat_lt.mpr hj
  have hlim : ([] : List S26).length < 2932031007402 := by show 0 < _; omega
  rw [segment_Undo.j0, midrangeref04_Undo.j0, if_neg (by simp), if_neg (by simp), ← hjn, find_hit l nx k (by omega) R j hj, place_hit R j hj k (by omega)]
  simp only [Option.bind_some]
  rw [if_pos hj0, if_pos hj0, if_pos hj1, if_pos hj1]
  unfold backOps
  rw [hjn]
  rcases hkind with ⟨c1, a1, a8, hs, _⟩ | ⟨c2, a1, hs, _⟩ | ⟨c4, ho, hot, _⟩
  · have hw : wrap64 (((q * 32 : Nat) : Int) / 32) = (q : Int) := by rw [w64 (by omega) (by omega)]; omega
    have hd : ((q * 32 : Nat) : Int) / 32 = (q : Int) := by clear hw; omega
    rw [if_pos c1, if_pos c1, if_pos c1, Pages_eq _ q hq hq8]
    simp only [Option.bind_some]
    rw [if_pos hlim, hq, hw, hd]
    exact ⟨rfl, rfl⟩
  · have n1 : ¬ x.f0 = 1 := by omega
    have ha : wrap64 (x.f3 * 32) = x.f3 * 32 := w64 (by omega) (by omega)
    have e0 : 0 ≤ x.f3 * 32 := by clear ha; omega
    have hn : ((x.f3 * 32) : Int).toNat = x.f3.toNat * 32 := by clear ha; omega
    have hls : ((rd_T46 l (j : Int)).f1.extract (x.f3 * 32).toNat (rd_T46 l (j : Int)).f1.size).size = (q - x.f3.toNat) * 32 := by rw [ByteArray.size_extract, hn]; clear ha; omega
    rw [if_neg n1, if_neg n1, if_neg n1, if_pos c2, if_pos c2, if_pos c2, ha, if_pos e0, if_pos e0, if_pos hs, if_pos hs]
    clear ha
    have hz : midrangeref04_Zeros.f k ((((rd_T46 l (j : Int)).f1.size - (x.f3 * 32).toNat : Nat)) : Int) = some (zer ((q - x.f3.toNat) * 32)) := by
      have e1 : ((((rd_T46 l (j : Int)).f1.size - (x.f3 * 32).toNat : Nat)) : Int) = ((q - x.f3.toNat : Nat) : Int) * 32 := by omega
      rw [e1, Zeros_eq _ k (by omega) (by omega) (by omega)]
      congr 2
    generalize hg : (rd_T46 l (j : Int)).f1.extract (x.f3 * 32).toNat (rd_T46 l (j : Int)).f1.size = g at hls ⊢
    by_cases h0 : (rd_T46 l (j : Int)).f1.size ≤ (x.f3 * 32).toNat
    · have hgn : g.toList = [] := tl_nil.mpr (by omega)
      have hgz : g.toList = (zer ((q - x.f3.toNat) * 32)).toList := by rw [hgn]; exact (tl_nil.mpr (by rw [zer_size]; omega)).symm
      rw [if_pos hgn, if_pos hgn, hz]
      simp only [Option.bind_some]
      rw [if_pos hgz, if_pos h0]
      exact ⟨rfl, rfl⟩
    · have hgn : ¬ g.toList = [] := fun h => by have := tl_nil.mp h; omega
      obtain ⟨t, ht, hti⟩ := trim_eq g k (by omega) (by omega) (by omega)
      have hP : midrangeref04_Pages.f g = some ((q - x.f3.toNat : Nat) : Int) := Pages_eq g _ hls (by omega)
      have hw : wrap64 (Int.tdiv ((((rd_T46 l (j : Int)).f1.size - (x.f3 * 32).toNat : Nat)) : Int) 32) = (q : Int) - x.f3 := by
        have e1 : ((((rd_T46 l (j : Int)).f1.size - (x.f3 * 32).toNat : Nat)) : Int) = ((q - x.f3.toNat : Nat) : Int) * 32 := by omega
        rw [e1, Int.mul_tdiv_cancel _ (by omega), w64 (by omega) (by omega)]
        omega
      have hd : ((rd_T46 l (j : Int)).f1.size : Int) / 32 - x.f3 = (q : Int) - x.f3 := by rw [hq]; clear hw; omega
      have hq2 : ((q - x.f3.toNat : Nat) : Int) = (q : Int) - x.f3 := by clear hw; omega
      have hiff : g = zer g.size ↔ g.toList = (zer ((q - x.f3.toNat) * 32)).toList := by
        rw [hls]
        exact ⟨fun h => congrArg ByteArray.toList h, tl_inj⟩
      rw [if_neg hgn, if_neg hgn, if_neg h0, hw, ht, hP, hz]
      simp only [Option.bind_some]
      rw [if_pos hlim, hd, hq2]
      clear hw
      by_cases h1 : g = zer g.size
      · rw [if_pos (hti.mpr h1), if_pos (hiff.mp h1), if_pos h1]
        exact ⟨rfl, rfl⟩
      · rw [if_neg (fun h => h1 (hti.mp h)), if_neg (fun h => h1 (hiff.mpr h)), if_neg h1, if_pos (by show 1 < _; omega), if_pos (by show 1 < _; omega)]
        exact ⟨rfl, rfl⟩
  · have n1 : ¬ x.f0 = 1 := by omega
    have n2 : ¬ x.f0 = 2 := by omega
    have ha : wrap64 (x.f2 + (x.f4.size : Int)) = x.f2 + (x.f4.size : Int) := w64 (by omega) (by omega)
    rw [if_neg n1, if_neg n1, if_neg n1, if_neg n2, if_neg n2, if_neg n2, if_pos c4, ha]
    clear ha
    have e2 : x.f2 ≤ x.f2 + (x.f4.size : Int) := by omega
    rw [if_pos ho, if_pos ho, if_pos e2, if_pos e2, if_pos hot, if_pos hot]
    by_cases h1 : (rd_T46 l (j : Int)).f1.extract x.f2.toNat (x.f2 + (x.f4.size : Int)).toNat = x.f4
    · have h2 : ((rd_T46 l (j : Int)).f1.extract x.f2.toNat (x.f2 + (x.f4.size : Int)).toNat).toList = x.f4.toList := congrArg ByteArray.toList h1
      rw [if_pos h2, if_pos h2, if_pos h1]
      exact ⟨rfl, rfl⟩
    · have h2 : ¬ ((rd_T46 l (j : Int)).f1.extract x.f2.toNat (x.f2 + (x.f4.size : Int)).toNat).toList = x.f4.toList := fun h => h1 (tl_inj h)
      rw [if_neg h2, if_neg h2, if_neg h1, if_pos hlim]
      exact ⟨rfl, rfl⟩
theorem applied_step {l : List S46} {nx : Int} (G : RightL l nx) (x : S26) (k : Nat) (hk : 450 ≤ k) :
    segment_Applied.f (k + 2) l nx [x] = (segment_apply.f (k + 1) l nx x.f0 x.f1 x.f2 x.f3 x.f4).bind (fun r => if r.2.2 = 0 then some (r.1, r.2.1, 1, 0) else some ([], 0, 0, r.2.2)) := by
  have hl := G.len
  have hrd : rd_T26 [x] 0 = x := rfl
  have e1 : wrap64 (0 + 1) = 1 := w64 (by omega) (by omega)
  have hlen : (([x] : List S26).length : Int) = 1 := rfl
  unfold segment_Applied.f
  rw [check_eq l nx (k + 2) (by omega), Option.bind_some, G.right.chk, if_pos rfl, hlen, if_neg (by omega), clone_eq l (by omega), Option.bind_some, segment_Applied.l0, if_pos (by omega), if_pos (by omega), hlen, if_pos (by omega), hrd]
  congr 1
  funext r
  by_cases he : r.2.2 = 0
  · rw [if_pos he, if_pos he, e1, segment_Applied.l0, if_neg (by omega), hlen]
  · rw [if_neg he, if_neg he]
theorem applied_chk {l : List S46} {nx : Int} {m : List S26} {k : Nat} (hk : 40 ≤ k) {l' : List S46} {nx' n : Int} (h : segment_Applied.f k l nx m = some (l', nx', n, 0)) : (chk l nx).2 = 0 := by
  unfold segment_Applied.f at h
  rw [check_eq l nx k (by omega), Option.bind_some] at h
  by_cases hc : (chk l nx).2 = 0
  · exact hc
  · rw [if_neg hc] at h
    injection h with h
    injection h with _ h
    injection h with _ h
    injection h with _ h
    try exact h
theorem backOps_len (x : S26) (s : ByteArray) : (backOps x s).length ≤ 2 := by
  unfold backOps
  split
  · simp
  · split
    · split
      · simp
      · split <;> simp
    · split <;> simp
theorem undo_both (l : List S46) (nx : Int) (x : S26) (k : Nat) (hk : 1200 ≤ k) (hx : ∀ y ∈ l, ok46 y) (h12 : l.length ≤ 12) (hw : ok26 x) :
    ∃ (r : List S26) (e : Int), r.length ≤ 2 ∧ segment_Undo.f k l nx x.f0 x.f1 x.f2 x.f3 x.f4 = some (r, e) ∧ midrangeref04_Undo.f k l nx x.f0 x.f1 x.f2 x.f3 x.f4 = some (r, e) ∧
      (e = 0 → ∃ (j : Nat) (l' : List S46), HitOp l nx x j l' ∧ r = backOps x (rd_T46 l (j : Int)).f1 ∧ segment_Applied.f k l nx [x] = some (l', nx, 1, 0)) := by
  obtain ⟨l', nx', n, e, _, h1, b, h2⟩ := applied_both l nx [x] k (by omega) hx (fun y hy => by simp at hy; rw [hy]; exact hw)
  have heta : (⟨x.f0, x.f1, x.f2, x.f3, x.f4⟩ : S26) = x := rfl
  unfold segment_Undo.f midrangeref04_Undo.f
  rw [heta, h1, h2, Option.bind_some, Option.bind_some]
  obtain ⟨k, rfl⟩ : ∃ q, k = q + 2 := ⟨k - 2, by omega⟩
  by_cases he : e = 0
  · rw [if_pos he, if_pos he]
    rw [he] at h1
    have hc := applied_chk (by omega) h1
    have G := (right_of l nx hc).1.good hx
    have jt : segment_Undo.j0 (k + 2) true l nx x.f0 x.f1 x.f2 x.f3 x.f4 = some ([], 39) := by rw [segment_Undo.j0, if_pos rfl]
    have jr : midrangeref04_Undo.j0 (k + 2) true l nx x.f0 x.f1 x.f2 x.f3 x.f4 = some ([], 39) := by rw [midrangeref04_Undo.j0, if_pos rfl]
    by_cases c0 : x.f0 = 0
    · rw [if_pos c0, if_pos c0, jt, jr]
      exact ⟨[], 39, by simp, rfl, rfl, fun h => absurd h (by decide)⟩
    rw [if_neg c0, if_neg c0]
    by_cases c3 : x.f0 = 3
    · rw [show (x.f0 == 3) = true from beq_iff_eq.mpr c3, jt, jr]
      exact ⟨[], 39, by simp, rfl, rfl, fun h => absurd h (by decide)⟩
    rw [show (x.f0 == 3) = false from beq_eq_false_iff_ne.mpr c3]
    rw [applied_step G x k (by omega)] at h1
    rcases apply_hit l nx x (k + 1) (by omega) hx h12 hw c0 c3 with ⟨f, a, a', hf, h3⟩ | ⟨j, a, H, h3⟩
    · rw [h3, Option.bind_some, if_neg hf] at h1
      injection h1 with h1
      injection h1 with _ h1
      injection h1 with _ h1
      injection h1 with _ h1
      exact absurd h1 hf
    · obtain ⟨u1, u2⟩ := undo_j0 x j H (k + 1) (by omega)
      rw [u1, u2]
      refine ⟨_, 0, backOps_len _ _, rfl, rfl, fun _ => ⟨j, a, H, rfl, ?_⟩⟩
      rw [h3, Option.bind_some, if_pos rfl] at h1
      rw [he]
      exact h1.symm
  · rw [if_neg he, if_neg he]
    exact ⟨[], e, by simp, rfl, rfl, fun h => absurd h he⟩
theorem sameops_loop (m : List S26) (hm : m.length ≤ 10) (d : Nat) : ∀ (i k : Nat), i + d = m.length → d + 1 ≤ k → midrangeref04_SameOps.l0 k m m (i : Int) = some true := by
  induction d with
  | zero =>
    intro i k hi hk
    obtain ⟨k, rfl⟩ : ∃ q, k = q + 1 := ⟨k - 1, by omega⟩
    rw [midrangeref04_SameOps.l0, if_neg (by omega)]
  | succ d ih =>
    intro i k hi hk
    obtain ⟨k, rfl⟩ : ∃ q, k = q + 1 := ⟨k - 1, by omega⟩
    have hi9 : i < 10000 := by omega
    rw [midrangeref04_SameOps.l0, if_pos (by omega), if_pos (by omega), if_pos (by omega), if_neg (by simp), wsucc i hi9]
    exact ih (i + 1) k (by omega) (by omega)
theorem sameops_eq (m : List S26) (hm : m.length ≤ 10) (k : Nat) (hk : 12 ≤ k) : midrangeref04_SameOps.f k m m = some true := by
  unfold midrangeref04_SameOps.f
  rw [if_pos rfl]
  exact sameops_loop m hm m.length 0 k (by omega) (by omega)
end Go.Proofs.YtoabahlaicgmjaaDoor.Q
namespace Go.Proofs.YtoabahlaicgmjaaDoor.Pure
open Go.RowKit Go.Proofs.YtoabahlaicgmjaaDoor.X Go.Proofs.YtoabahlaicgmjaaDoor.Q Go.Proofs.YtoabahlaicgmjaaDoorW.PrintWords Go.Proofs.YtoabahlaicgmjaaDoorW.PrintLast
set_option linter.unusedVariables false

theorem SegmentUndoes : midrangelaw04_SegmentUndoes.Pure := by
  intro l nx x0 x1 x2 x3 x4 hl hn h0 h1 h2 h3 h4
  refine ⟨1310, ?_⟩
  unfold midrangelaw04_SegmentUndoes.f
  rw [awake_eq 1310 (by omega), Option.bind_some, if_pos rfl]
  obtain ⟨b, hb, hs⟩ := few_eq l nx 1310 (by omega)
  rw [hb, Option.bind_some]
  have jt : ∀ k, midrangelaw04_SegmentUndoes.j0 (k + 1) true l nx x0 x1 x2 x3 x4 = some true := fun k => by rw [midrangelaw04_SegmentUndoes.j0, if_pos rfl]
  cases b with
  | false => exact jt 1309
  | true =>
    obtain ⟨h12, _⟩ := hs rfl
    rw [if_pos rfl]
    by_cases h5 : (x4.size : Int) > 400
    · rw [decide_eq_true h5]; exact jt 1309
    obtain ⟨r, e, hr, u1, u2, _⟩ := undo_both l nx ⟨x0, x1, x2, x3, x4⟩ 1309 (by omega) hl.2 h12 ⟨h0, h1, h2, h3, h4⟩
    dsimp only at u1 u2
    rw [decide_eq_false h5, show (1310 : Nat) = 1309 + 1 from rfl, midrangelaw04_SegmentUndoes.j0, if_neg (by simp), own_eq l nx (by omega), Option.bind_some, u1, Option.bind_some, u2, Option.bind_some, if_pos rfl, sameops_eq r (by omega) 1309 (by omega)]
    rfl
end Go.Proofs.YtoabahlaicgmjaaDoor.Pure
end
