-- Texts of this claim joined by merge.py, a program of its author; what this claim does not reach is left out.
import Derived.Test.YtoabahlaicgmjaaDoorMSegmentUndone9
section
namespace Go.Proofs.YtoabahlaicgmjaaDoor.Q
open Go.RowKit Go.Proofs.YtoabahlaicgmjaaDoor.X Go.Proofs.YtoabahlaicgmjaaDoorW.PrintWords Go.Proofs.YtoabahlaicgmjaaDoorW.PrintLast
set_option linter.unusedVariables false

/-- The operations that lead back behind an operation on the segment at j. -/
def backOps (x : S26) (s : ByteArray) : List S26 :=
  if x.f0 = 1 then [⟨2, x.f1, 0, (s.size : Int) / 32, ⟨#[]⟩⟩]
  else if x.f0 = 2 then
    (if s.size ≤ (x.f3 * 32).toNat then [] else
      ⟨1, x.f1, 0, (s.size : Int) / 32 - x.f3, ⟨#[]⟩⟩ :: (if s.extract (x.f3 * 32).toNat s.size = zer (s.extract (x.f3 * 32).toNat s.size).size then [] else [⟨4, x.f1, x.f3 * 32, 0, s.extract (x.f3 * 32).toNat s.size⟩]))
  else if s.extract x.f2.toNat (x.f2 + (x.f4.size : Int)).toNat = x.f4 then [] else [⟨4, x.f1, x.f2, 0, s.extract x.f2.toNat (x.f2 + (x.f4.size : Int)).toNat⟩]
/-- What an operation that has no error, and that can be undone, found. -/
structure HitOp (l : List S46) (nx : Int) (x : S26) (j : Nat) (l' : List S46) : Prop where
  good : RightL l nx
  jlt : j < l.length
  num : (rd_T46 l (j : Int)).f0 = x.f1
  kind : (x.f0 = 1 ∧ 1 ≤ x.f3 ∧ x.f3 ≤ 8 ∧ (rd_T46 l (j : Int)).f1.size + x.f3.toNat * 32 ≤ 256 ∧ l' = l.set j ⟨(rd_T46 l (j : Int)).f0, (rd_T46 l (j : Int)).f1 ++ zer (x.f3.toNat * 32)⟩) ∨
    (x.f0 = 2 ∧ 1 ≤ x.f3 ∧ x.f3 * 32 ≤ ((rd_T46 l (j : Int)).f1.size : Int) ∧ l' = l.set j ⟨(rd_T46 l (j : Int)).f0, (rd_T46 l (j : Int)).f1.extract 0 (x.f3 * 32).toNat⟩) ∨
    (x.f0 = 4 ∧ 0 ≤ x.f2 ∧ x.f2 + (x.f4.size : Int) ≤ ((rd_T46 l (j : Int)).f1.size : Int) ∧ l' = l.set j ⟨(rd_T46 l (j : Int)).f0, patched (rd_T46 l (j : Int)).f1 x.f2 x.f4⟩)
theorem apply_hit (l : List S46) (nx : Int) (x : S26) (k : Nat) (hk : 400 ≤ k) (hx : ∀ y ∈ l, ok46 y) (h12 : l.length ≤ 12) (hw : ok26 x) (h0 : x.f0 ≠ 0) (h3 : x.f0 ≠ 3) :
    (∃ (e : Int) (l' : List S46) (nx' : Int), e ≠ 0 ∧ segment_apply.f k l nx x.f0 x.f1 x.f2 x.f3 x.f4 = some (l', nx', e)) ∨ (∃ (j : Nat) (l' : List S46), HitOp l nx x j l' ∧ segment_apply.f k l nx x.f0 x.f1 x.f2 x.f3 x.f4 = some (l', nx, 0)) := by
  obtain ⟨w0, w1, w2, w3, w4⟩ := hw
  unfold segment_apply.f
  obtain ⟨e, h1, h2, h4⟩ := form_eq x.f0 x.f1 x.f2 x.f3 x.f4
  rw [h1, Option.bind_some]
  by_cases he : e = 0
  · have h5 := h4 he
    rw [if_pos he, if_neg h0]
    by_cases c1 : x.f0 = 1
    · obtain ⟨l', nx', f, _, g1, _, g3⟩ := extended_both l nx x.f1 x.f3 k hk hx h12 (wf64 w1) (wf64 w3)
      rw [if_pos c1, g1, Option.bind_some]
      by_cases hf : f = 0
      · obtain ⟨j, hj, hjn, R, a1, a8, hs, rfl, rfl⟩ := g3 hf
        rw [hf]
        exact .inr ⟨j, _, ⟨R.good hx, hj, hjn, .inl ⟨c1, a1, a8, hs, rfl⟩⟩, rfl⟩
      · exact .inl ⟨f, _, _, hf, rfl⟩
    rw [if_neg c1]
    by_cases c2 : x.f0 = 2
    · obtain ⟨l', nx', f, _, g1, _, g3⟩ := truncated_both l nx x.f1 x.f3 k hk hx h12 (wf64 w1) (wf64 w3)
      rw [if_pos c2, g1, Option.bind_some]
      by_cases hf : f = 0
      · obtain ⟨j, hj, hjn, R, a1, hs, rfl, rfl⟩ := g3 hf
        rw [hf]
        exact .inr ⟨j, _, ⟨R.good hx, hj, hjn, .inr (.inl ⟨c2, a1, hs, rfl⟩)⟩, rfl⟩
      · exact .inl ⟨f, _, _, hf, rfl⟩
    rw [if_neg c2, if_neg h3]
    rcases written_both l nx x.f1 x.f2 x.f4 k hk hx h12 (wf64 w1) w4 with ⟨f, hf, g1, _⟩ | ⟨j, hj, hjn, R, ho, hot, h8, g1, _⟩
    · rw [g1, Option.bind_some]
      exact .inl ⟨f, _, _, hf, rfl⟩
    · rw [g1, Option.bind_some]
      exact .inr ⟨j, _, ⟨R.good hx, hj, hjn, .inr (.inr ⟨by omega, ho, hot, rfl⟩)⟩, rfl⟩
  · rw [if_neg he]
    exact .inl ⟨e, _, _, he, rfl⟩
theorem place_hit {l : List S46} {nx : Int} (R : Right l nx) (j : Nat) (hj : j < l.length) (k : Nat) (hk : 40 ≤ k) : midrangeref04_Place.f k l nx (rd_T46 l (j : Int)).f0 = some (j : Int) := by
  have hpl : midrangeref04_Place.f k l nx (rd_T46 l j).f0 = midrangeref04_Place.l0 k (rd_T46 l j).f0 ((0 : Nat) : Int) l nx := rfl
  rcases place_loop l nx (rd_T46 l j).f0 R.len l.length 0 k (by omega) (by have := R.len; omega) with ⟨i, _, h4, h5, h6⟩ | ⟨h3, _⟩
  · rw [hpl, h6]
    rcases Nat.lt_trichotomy i j with h7 | h7 | h7
    · have := R.mono i j h7 hj; omega
    · rw [h7]
    · have := R.mono j i h7 h4; omega
  · exact absurd rfl (h3 j (by omega) hj)
/-- Both answers of Undo, before the operation is looked at. -/
theorem undo_j0 {l l' : List S46} {nx : Int} (x : S26) (j : Nat) (H : HitOp l nx x j l') (k : Nat) (hk : 1100 ≤ k) :
    segment_Undo.j0 (k + 1) false l nx x.f0 x.f1 x.f2 x.f3 x.f4 = some (backOps x (rd_T46 l (j : Int)).f1, 0) ∧ midrangeref04_Undo.j0 (k + 1) false l nx x.f0 x.f1 x.f2 x.f3 x.f4 = some (backOps x (rd_T46 l (j : Int)).f1, 0) := by
  obtain ⟨G, hj, hjn, hkind⟩ := H
  have hl := G.len
  have R := G.right
  obtain ⟨q, hq, hq1, hq8⟩ := size_of R G.ok j hj
  have hj0 : (0 : Int) ≤ (j : Int) := Int.natCast_nonneg j
  have hj1 : (j : Int) < (l.length : Int) := Int.ofNat_lt.mpr hj
  have hlim : ([] : List S26).length < 2932031007402 := by show 0 < _; omega
  rw [segment_Undo.j0, midrangeref04_Undo.j0, if_neg (by simp), if_neg (by simp), ← hjn, find_hit l nx k (by omega) R j hj, place_hit R j hj k (by omega)]
  simp only [Option.bind_some]
  rw [if_pos hj0, if_pos hj0, if_pos hj1, if_pos hj1]
  unfold backOps
  rw [hjn]
  rcases hkind with ⟨c1, a1, a8, hs, _⟩ | ⟨c2, a1, hs, _⟩ | ⟨c4, ho, hot, _⟩
  · have hw : wrap64 (((q * 32 : Nat) : Int) / 32) = (q : Int) := by rw [w64 (by omega) (by omega)]; omega
    have hd : ((q * 32 : Nat) : Int) / 32 = (q : Int) := by clear hw; omega
    rw [if_pos c1, if_pos c1, if_pos c1, Pages_eq _ q hq hq8]
    simp only [Option.bind_some]
    rw [if_pos hlim, hq, hw, hd]
    exact ⟨rfl, rfl⟩
  · have n1 : ¬ x.f0 = 1 := by omega
    have ha : wrap64 (x.f3 * 32) = x.f3 * 32 := w64 (by omega) (by omega)
    have e0 : 0 ≤ x.f3 * 32 := by clear ha; omega
    have hn : ((x.f3 * 32) : Int).toNat = x.f3.toNat * 32 := by clear ha; omega
    have hls : ((rd_T46 l (j : Int)).f1.extract (x.f3 * 32).toNat (rd_T46 l (j : Int)).f1.size).size = (q - x.f3.toNat) * 32 := by rw [ByteArray.size_extract, hn]; clear ha; omega
    rw [if_neg n1, if_neg n1, if_neg n1, if_pos c2, if_pos c2, if_pos c2, ha, if_pos e0, if_pos e0, if_pos hs, if_pos hs]
    clear ha
    have hz : midrangeref04_Zeros.f k ((((rd_T46 l (j : Int)).f1.size - (x.f3 * 32).toNat : Nat)) : Int) = some (zer ((q - x.f3.toNat) * 32)) := by
      have e1 : ((((rd_T46 l (j : Int)).f1.size - (x.f3 * 32).toNat : Nat)) : Int) = ((q - x.f3.toNat : Nat) : Int) * 32 := by omega
      rw [e1, Zeros_eq _ k (by omega) (by omega) (by omega)]
      congr 2
    generalize hg : (rd_T46 l (j : Int)).f1.extract (x.f3 * 32).toNat (rd_T46 l (j : Int)).f1.size = g at hls ⊢
    by_cases h0 : (rd_T46 l (j : Int)).f1.size ≤ (x.f3 * 32).toNat
    · have hgn : g.toList = [] := tl_nil.mpr (by omega)
      have hgz : g.toList = (zer ((q - x.f3.toNat) * 32)).toList := by rw [hgn]; exact (tl_nil.mpr (by rw [zer_size]; omega)).symm
      rw [if_pos hgn, if_pos hgn, hz]
      simp only [Option.bind_some]
      rw [if_pos hgz, if_pos h0]
      exact ⟨rfl, rfl⟩
    · have hgn : ¬ g.toList = [] := fun h => by have := tl_nil.mp h; omega
      obtain ⟨t, ht, hti⟩ := trim_eq g k (by omega) (by omega) (by omega)
      have hP : midrangeref04_Pages.f g = some ((q - x.f3.toNat : Nat) : Int) := Pages_eq g _ hls (by omega)
      have hw : wrap64 (Int.tdiv ((((rd_T46 l (j : Int)).f1.size - (x.f3 * 32).toNat : Nat)) : Int) 32) = (q : Int) - x.f3 := by
        have e1 : ((((rd_T46 l (j : Int)).f1.size - (x.f3 * 32).toNat : Nat)) : Int) = ((q - x.f3.toNat : Nat) : Int) * 32 := by omega
        rw [e1, Int.mul_tdiv_cancel _ (by omega), w64 (by omega) (by omega)]
        omega
      have hd : ((rd_T46 l (j : Int)).f1.size : Int) / 32 - x.f3 = (q : Int) - x.f3 := by rw [hq]; clear hw; omega
      have hq2 : ((q - x.f3.toNat : Nat) : Int) = (q : Int) - x.f3 := by clear hw; omega
      have hiff : g = zer g.size ↔ g.toList = (zer ((q - x.f3.toNat) * 32)).toList := by
        rw [hls]
        exact ⟨fun h => congrArg ByteArray.toList h, tl_inj⟩
      rw [if_neg hgn, if_neg hgn, if_neg h0, hw, ht, hP, hz]
      simp only [Option.bind_some]
      rw [if_pos hlim, hd, hq2]
      clear hw
      by_cases h1 : g = zer g.size
      · rw [if_pos (hti.mpr h1), if_pos (hiff.mp h1), if_pos h1]
        exact ⟨rfl, rfl⟩
      · rw [if_neg (fun h => h1 (hti.mp h)), if_neg (fun h => h1 (hiff.mpr h)), if_neg h1, if_pos (by show 1 < _; omega), if_pos (by show 1 < _; omega)]
        exact ⟨rfl, rfl⟩
  · have n1 : ¬ x.f0 = 1 := by omega
    have n2 : ¬ x.f0 = 2 := by omega
    have ha : wrap64 (x.f2 + (x.f4.size : Int)) = x.f2 + (x.f4.size : Int) := w64 (by omega) (by omega)
    rw [if_neg n1, if_neg n1, if_neg n1, if_neg n2, if_neg n2, if_neg n2, if_pos c4, ha]
    clear ha
    have e2 : x.f2 ≤ x.f2 + (x.f4.size : Int) := by omega
    rw [if_pos ho, if_pos ho, if_pos e2, if_pos e2, if_pos hot, if_pos hot]
    by_cases h1 : (rd_T46 l (j : Int)).f1.extract x.f2.toNat (x.f2 + (x.f4.size : Int)).toNat = x.f4
    · have h2 : ((rd_T46 l (j : Int)).f1.extract x.f2.toNat (x.f2 + (x.f4.size : Int)).toNat).toList = x.f4.toList := congrArg ByteArray.toList h1
      rw [if_pos h2, if_pos h2, if_pos h1]
      exact ⟨rfl, rfl⟩
    · have h2 : ¬ ((rd_T46 l (j : Int)).f1.extract x.f2.toNat (x.f2 + (x.f4.size : Int)).toNat).toList = x.f4.toList := fun h => h1 (tl_inj h)
      rw [if_neg h2, if_neg h2, if_neg h1, if_pos hlim]
      exact ⟨rfl, rfl⟩
theorem applied_step {l : List S46} {nx : Int} (G : RightL l nx) (x : S26) (k : Nat) (hk : 450 ≤ k) :
    segment_Applied.f (k + 2) l nx [x] = (segment_apply.f (k + 1) l nx x.f0 x.f1 x.f2 x.f3 x.f4).bind (fun r => if r.2.2 = 0 then some (r.1, r.2.1, 1, 0) else some ([], 0, 0, r.2.2)) := by
  have hl := G.len
  have hrd : rd_T26 [x] 0 = x := rfl
  have e1 : wrap64 (0 + 1) = 1 := w64 (by omega) (by omega)
  have hlen : (([x] : List S26).length : Int) = 1 := rfl
  unfold segment_Applied.f
  rw [check_eq l nx (k + 2) (by omega), Option.bind_some, G.right.chk, if_pos rfl, hlen, if_neg (by omega), clone_eq l (by omega), Option.bind_some, segment_Applied.l0, if_pos (by omega), if_pos (by omega), hlen, if_pos (by omega), hrd]
  congr 1
  funext r
  by_cases he : r.2.2 = 0
  · rw [if_pos he, if_pos he, e1, segment_Applied.l0, if_neg (by omega), hlen]
  · rw [if_neg he, if_neg he]
theorem applied_chk {l : List S46} {nx : Int} {m : List S26} {k : Nat} (hk : 40 ≤ k) {l' : List S46} {nx' n : Int} (h : segment_Applied.f k l nx m = some (l', nx', n, 0)) : (chk l nx).2 = 0 := by
  unfold segment_Applied.f at h
  rw [check_eq l nx k (by omega), Option.bind_some] at h
  by_cases hc : (chk l nx).2 = 0
  · exact hc
  · rw [if_neg hc] at h
    injection h with h
    injection h with _ h
    injection h with _ h
    injection h with _ h
    try exact h
theorem backOps_len (x : S26) (s : ByteArray) : (backOps x s).length ≤ 2 := by
  unfold backOps
  split
  · simp
  · split
    · split
      · simp
      · split <;> simp
    · split <;> simp
theorem undo_both (l : List S46) (nx : Int) (x : S26) (k : Nat) (hk : 1200 ≤ k) (hx : ∀ y ∈ l, ok46 y) (h12 : l.length ≤ 12) (hw : ok26 x) :
    ∃ (r : List S26) (e : Int), r.length ≤ 2 ∧ segment_Undo.f k l nx x.f0 x.f1 x.f2 x.f3 x.f4 = some (r, e) ∧ midrangeref04_Undo.f k l nx x.f0 x.f1 x.f2 x.f3 x.f4 = some (r, e) ∧
      (e = 0 → ∃ (j : Nat) (l' : List S46), HitOp l nx x j l' ∧ r = backOps x (rd_T46 l (j : Int)).f1 ∧ segment_Applied.f k l nx [x] = some (l', nx, 1, 0)) := by
  obtain ⟨l', nx', n, e, _, h1, b, h2⟩ := applied_both l nx [x] k (by omega) hx (fun y hy => by simp at hy; rw [hy]; exact hw)
  have heta : (⟨x.f0, x.f1, x.f2, x.f3, x.f4⟩ : S26) = x := rfl
  unfold segment_Undo.f midrangeref04_Undo.f
  rw [heta, h1, h2, Option.bind_some, Option.bind_some]
  obtain ⟨k, rfl⟩ : ∃ q, k = q + 2 := ⟨k - 2, by omega⟩
  by_cases he : e = 0
  · rw [if_pos he, if_pos he]
    rw [he] at h1
    have hc := applied_chk (by omega) h1
    have G := (right_of l nx hc).1.good hx
    have jt : segment_Undo.j0 (k + 2) true l nx x.f0 x.f1 x.f2 x.f3 x.f4 = some ([], 39) := by rw [segment_Undo.j0, if_pos rfl]
    have jr : midrangeref04_Undo.j0 (k + 2) true l nx x.f0 x.f1 x.f2 x.f3 x.f4 = some ([], 39) := by rw [midrangeref04_Undo.j0, if_pos rfl]
    by_cases c0 : x.f0 = 0
    · rw [if_pos c0, if_pos c0, jt, jr]
      exact ⟨[], 39, by simp, rfl, rfl, fun h => absurd h (by decide)⟩
    rw [if_neg c0, if_neg c0]
    by_cases c3 : x.f0 = 3
    · rw [show (x.f0 == 3) = true from beq_iff_eq.mpr c3, jt, jr]
      exact ⟨[], 39, by simp, rfl, rfl, fun h => absurd h (by decide)⟩
    rw [show (x.f0 == 3) = false from beq_eq_false_iff_ne.mpr c3]
    rw [applied_step G x k (by omega)] at h1
    rcases apply_hit l nx x (k + 1) (by omega) hx h12 hw c0 c3 with ⟨f, a, a', hf, h3⟩ | ⟨j, a, H, h3⟩
    · rw [h3, Option.bind_some, if_neg hf] at h1
      injection h1 with h1
      injection h1 with _ h1
      injection h1 with _ h1
      injection h1 with _ h1
      exact absurd h1 hf
    · obtain ⟨u1, u2⟩ := undo_j0 x j H (k + 1) (by omega)
      rw [u1, u2]
      refine ⟨_, 0, backOps_len _ _, rfl, rfl, fun _ => ⟨j, a, H, rfl, ?_⟩⟩
      rw [h3, Option.bind_some, if_pos rfl] at h1
      rw [he]
      exact h1.symm
  · rw [if_neg he, if_neg he]
    exact ⟨[], e, by simp, rfl, rfl, fun h => absurd h he⟩
end Go.Proofs.YtoabahlaicgmjaaDoor.Q
namespace Go.Proofs.YtoabahlaicgmjaaDoor.Pure
open Go.RowKit Go.Proofs.YtoabahlaicgmjaaDoor.X Go.Proofs.YtoabahlaicgmjaaDoor.Q Go.Proofs.YtoabahlaicgmjaaDoorW.PrintWords Go.Proofs.YtoabahlaicgmjaaDoorW.PrintLast
set_option linter.unusedVariables false

end Go.Proofs.YtoabahlaicgmjaaDoor.Pure
end
section
namespace Go.Proofs.YtoabahlaicgmjaaDoor.Q
open Go.RowKit Go.Proofs.YtoabahlaicgmjaaDoor.X Go.Proofs.YtoabahlaicgmjaaDoorW.PrintWords Go.Proofs.YtoabahlaicgmjaaDoorW.PrintLast
set_option linter.unusedVariables false

theorem extended_hit {l : List S46} {nx : Int} (G : RightL l nx) (j : Nat) (hj : j < l.length) (a : Int) (k : Nat) (hk : 400 ≤ k) (h1 : 1 ≤ a) (h2 : (rd_T46 l (j : Int)).f1.size + a.toNat * 32 ≤ 256) :
    segment_Extended.f k l nx (rd_T46 l (j : Int)).f0 a = some (l.set j ⟨(rd_T46 l (j : Int)).f0, (rd_T46 l (j : Int)).f1 ++ zer (a.toNat * 32)⟩, nx, 0) := by
  have hl := G.len
  have hb := G.right.num j hj
  obtain ⟨l', nx', e, _, g1, _, g3⟩ := extended_both l nx (rd_T46 l (j : Int)).f0 a k hk G.ok (by omega) (by omega) (by omega)
  obtain ⟨q, hq, hq1, hq8⟩ := size_of G.right G.ok j hj
  have h0 : (0 : Int) ≤ (j : Int) := Int.natCast_nonneg j
  have hjl : (j : Int) < (l.length : Int) := Int.ofNat_lt.mpr hj
  have h3 : 1 ≤ a ∧ a ≤ 8 := ⟨h1, by omega⟩
  have hz : (zer (a.toNat * 32)).size ≤ 1000 := by rw [zer_size]; omega
  have hw : wrap64 (((q * 32 : Nat) : Int) / 32) = (q : Int) := by rw [w64 (by omega) (by omega)]; omega
  have h4 : wrap64 ((q : Int) + a) = (q : Int) + a := w64 (by clear hw; omega) (by clear hw; omega)
  have h5 : ¬ (q : Int) + a > 8 := by clear hw h4; omega
  have hs : q * 32 + (zer (a.toNat * 32)).size ≤ 9223372036854775807 := by clear hw h4; omega
  obtain ⟨w1, _⟩ := with_eq l nx j ((rd_T46 l (j : Int)).f1 ++ zer (a.toNat * 32)) (by clear hw h4; omega) hj
  unfold segment_Extended.f
  rw [find_hit l nx k (by clear hw h4; omega) G.right j hj, Option.bind_some]
  dsimp only
  rw [if_pos rfl, within_eq, Option.bind_some, decide_eq_true h3, if_pos rfl, if_pos h0, if_pos hjl, hq, hw, h4, if_neg h5, pages_eq a (by clear hw h4; omega) h3.2, Option.bind_some, if_pos hs, w1]
  rfl
theorem truncated_hit {l : List S46} {nx : Int} (G : RightL l nx) (j : Nat) (hj : j < l.length) (a : Int) (k : Nat) (hk : 400 ≤ k) (h1 : 1 ≤ a) (h2 : a * 32 ≤ ((rd_T46 l (j : Int)).f1.size : Int)) :
    segment_Truncated.f k l nx (rd_T46 l (j : Int)).f0 a = some (l.set j ⟨(rd_T46 l (j : Int)).f0, (rd_T46 l (j : Int)).f1.extract 0 (a * 32).toNat⟩, nx, 0) := by
  have hl := G.len
  obtain ⟨q, hq, hq1, hq8⟩ := size_of G.right G.ok j hj
  have h0 : (0 : Int) ≤ (j : Int) := Int.natCast_nonneg j
  have hjl : (j : Int) < (l.length : Int) := Int.ofNat_lt.mpr hj
  have h3 : 1 ≤ a ∧ a ≤ (q : Int) := ⟨h1, by omega⟩
  have e1 : 0 ≤ a * 32 := by omega
  have e2 : a * 32 ≤ ((q * 32 : Nat) : Int) := by omega
  have hw : wrap64 (((q * 32 : Nat) : Int) / 32) = (q : Int) := by rw [w64 (by omega) (by omega)]; omega
  have ha32 : wrap64 (a * 32) = a * 32 := w64 (by clear hw; omega) (by clear hw; omega)
  obtain ⟨w1, _⟩ := with_eq l nx j ((rd_T46 l (j : Int)).f1.extract 0 (a * 32).toNat) (by clear hw ha32; omega) hj
  unfold segment_Truncated.f
  rw [find_hit l nx k (by clear hw ha32; omega) G.right j hj, Option.bind_some]
  dsimp only
  rw [if_pos rfl, if_pos h0, if_pos hjl, hq, hw, within_eq, Option.bind_some, decide_eq_true h3, if_pos rfl, ha32, if_pos e1, if_pos e2, w1]
  rfl
theorem written_hit {l : List S46} {nx : Int} (G : RightL l nx) (j : Nat) (hj : j < l.length) (o : Int) (t : ByteArray) (k : Nat) (hk : 400 ≤ k) (h0 : 0 ≤ o) (h1 : o + (t.size : Int) ≤ ((rd_T46 l (j : Int)).f1.size : Int)) :
    segment_Written.f k l nx (rd_T46 l (j : Int)).f0 o t = some (l.set j ⟨(rd_T46 l (j : Int)).f0, patched (rd_T46 l (j : Int)).f1 o t⟩, nx, 0) := by
  have hl := G.len
  have hb := G.right.num j hj
  obtain ⟨q, hq, hq1, hq8⟩ := size_of G.right G.ok j hj
  rcases written_both l nx (rd_T46 l (j : Int)).f0 o t k hk G.ok (by omega) (by omega) (by omega) with ⟨e, he, g1, _⟩ | ⟨i, hi, hin, _, _, _, _, g1, _⟩
  · exfalso
    have hj0 : (0 : Int) ≤ (j : Int) := Int.natCast_nonneg j
    have hj1 : (j : Int) < (l.length : Int) := Int.ofNat_lt.mpr hj
    have ha : (0 : Int) ≤ o ∧ o ≤ ((rd_T46 l (j : Int)).f1.size : Int) := ⟨h0, by omega⟩
    have hc : (0 : Int) ≤ (t.size : Int) ∧ (t.size : Int) ≤ ((rd_T46 l (j : Int)).f1.size : Int) - o := ⟨by omega, by omega⟩
    have e1 : wrap64 (((rd_T46 l (j : Int)).f1.size : Int) - o) = ((rd_T46 l (j : Int)).f1.size : Int) - o := w64 (by omega) (by omega)
    have hba : segment_bytesAt.f k l nx (rd_T46 l (j : Int)).f0 o (t.size : Int) = some ((j : Int), 0) := by
      unfold segment_bytesAt.f
      rw [find_hit l nx k (by clear e1; omega) G.right j hj, Option.bind_some]
      dsimp only
      rw [if_pos rfl, if_pos hj0, if_pos hj1, within_eq, Option.bind_some, decide_eq_true ha, if_pos rfl, within_eq, Option.bind_some, e1, decide_eq_true hc, if_pos rfl]
    rcases reach_both l nx (rd_T46 l (j : Int)).f0 o (t.size : Int) k hk G.ok (by clear e1; omega) (by clear e1; omega) with ⟨f, p, p', hf, f1, _⟩ | ⟨i, q', hi, hin, _, hq', hq8', _, _, _, f1, _⟩
    · rw [hba] at f1
      injection f1 with f1
      injection f1 with _ f1
      exact hf f1.symm
    · rcases written_both l nx (rd_T46 l (j : Int)).f0 o t k hk G.ok (by clear e1; omega) (by clear e1; omega) (by clear e1; omega) with ⟨e', he', g1', g2'⟩ | ⟨i', _, _, _, _, _, _, g1', _⟩
      · unfold segment_Written.f at g1
        rw [hba, Option.bind_some, if_pos rfl, if_pos hj0, if_pos hj1] at g1
        have hoc : wrap64 (o + (t.size : Int)) = o + (t.size : Int) := w64 (by clear e1; omega) (by clear e1; omega)
        obtain ⟨w1, _⟩ := with_eq l nx j (patched (rd_T46 l (j : Int)).f1 o t) (by clear e1 hoc; omega) hj
        unfold patched at w1
        have h5 : o.toNat + t.size ≤ 9223372036854775807 := by clear e1 hoc; omega
        have h6 : o.toNat + t.size + ((rd_T46 l (j : Int)).f1.size - (o + (t.size : Int)).toNat) ≤ 9223372036854775807 := by clear e1 hoc; omega
        have h7 : 0 ≤ o + (t.size : Int) := by clear e1 hoc; omega
        rw [if_pos h0, if_pos ha.2, if_pos h5, hoc, if_pos h7, if_pos h1, if_pos h6, w1, Option.bind_some] at g1
        injection g1 with g1
        injection g1 with _ g1
        injection g1 with _ g1
        exact he g1.symm
      · rw [g1] at g1'
        injection g1' with g1'
        injection g1' with _ g1'
        injection g1' with _ g1'
        exact he g1'
  · have hij : i = j := by
      rcases Nat.lt_trichotomy i j with h5 | h5 | h5
      · have := G.right.mono i j h5 hj; omega
      · exact h5
      · have := G.right.mono j i h5 hi; omega
    subst hij
    exact g1
theorem set_back (l : List S46) (j : Nat) (hj : j < l.length) (b : ByteArray) : (l.set j ⟨(rd_T46 l (j : Int)).f0, b⟩).set j ⟨(rd_T46 l (j : Int)).f0, (rd_T46 l (j : Int)).f1⟩ = l := by
  have h : (⟨(rd_T46 l (j : Int)).f0, (rd_T46 l (j : Int)).f1⟩ : S46) = l[j] := rd_get l j hj
  rw [List.set_set, h, List.set_getElem_self]
theorem set_same (l : List S46) (j : Nat) (hj : j < l.length) : l.set j ⟨(rd_T46 l (j : Int)).f0, (rd_T46 l (j : Int)).f1⟩ = l := by
  have h : (⟨(rd_T46 l (j : Int)).f0, (rd_T46 l (j : Int)).f1⟩ : S46) = l[j] := rd_get l j hj
  rw [h, List.set_getElem_self]
theorem extract_all (s : ByteArray) (n : Nat) (h : s.size ≤ n) : s.extract 0 n = s := by
  have : s.extract 0 n = s.extract 0 s.size := by
    have h2 := @ByteArray.extract_extract s 0 s.size 0 n
    rw [ByteArray.extract_zero_size] at h2
    rw [h2, Nat.zero_add, Nat.zero_add, Nat.min_eq_right h]
  rw [this, ByteArray.extract_zero_size]
theorem append_back (s z : ByteArray) : (s ++ z).extract 0 s.size = s := ByteArray.extract_append_eq_left rfl
theorem cut_join (s : ByteArray) (n : Nat) (h : n ≤ s.size) : s.extract 0 n ++ s.extract n s.size = s := by
  have h1 : s.extract 0 n ++ s.extract n s.size = s.extract 0 s.size := by
    rw [ByteArray.extract_append_extract]
    rw [Nat.min_eq_left (Nat.zero_le _), Nat.max_eq_right h]
  rw [h1, ByteArray.extract_zero_size]
theorem patched_same (s : ByteArray) (o : Int) (t : ByteArray) (h0 : 0 ≤ o) (h : o + (t.size : Int) ≤ (s.size : Int)) (ht : s.extract o.toNat (o + (t.size : Int)).toNat = t) : patched s o t = s := by
  unfold patched
  have e1 : s.extract 0 o.toNat ++ t = s.extract 0 (o + (t.size : Int)).toNat := by
    have h1 : s.extract 0 o.toNat ++ s.extract o.toNat (o + (t.size : Int)).toNat = s.extract 0 (o + (t.size : Int)).toNat := by
      rw [ByteArray.extract_append_extract, Nat.min_eq_left (Nat.zero_le _), Nat.max_eq_right (by omega)]
    rwa [ht] at h1
  rw [e1, cut_join s _ (by omega)]
theorem patched_back (s : ByteArray) (o : Int) (t u : ByteArray) (h0 : 0 ≤ o) (h : o + (t.size : Int) ≤ (s.size : Int)) (hu : u = s.extract o.toNat (o + (t.size : Int)).toNat) : patched (patched s o t) o u = s := by
  have hus : u.size = t.size := by rw [hu, ByteArray.size_extract]; omega
  have hps := patched_size s o t h0 h
  have e1 : (patched s o t).extract 0 o.toNat = s.extract 0 o.toNat := by
    unfold patched
    rw [ByteArray.append_assoc]
    exact ByteArray.extract_append_eq_left (by rw [ByteArray.size_extract]; omega)
  have e2 : (patched s o t).extract (o + (t.size : Int)).toNat s.size = s.extract (o + (t.size : Int)).toNat s.size := by
    unfold patched
    refine ByteArray.extract_append_eq_right ?_ ?_
    · rw [ByteArray.size_append, ByteArray.size_extract]; omega
    · rw [ByteArray.size_append, ByteArray.size_extract, ByteArray.size_extract]; omega
  have h2 : patched (patched s o t) o u = (patched s o t).extract 0 o.toNat ++ u ++ (patched s o t).extract (o + (u.size : Int)).toNat (patched s o t).size := rfl
  rw [h2, hps, hus, e1, e2]
  have h3 : s.extract 0 o.toNat ++ u ++ s.extract (o + (t.size : Int)).toNat s.size = patched s o u := by unfold patched; rw [hus]
  rw [h3]
  refine patched_same s o u h0 (by rw [hus]; exact h) ?_
  rw [hus, hu]
theorem form_ok (a n o p : Int) (t : ByteArray) (h : (a = 1 ∧ o = 0 ∧ t.size = 0) ∨ (a = 2 ∧ o = 0 ∧ t.size = 0) ∨ (a = 4 ∧ p = 0)) : segment_form.f a n o p t = some 0 := by
  unfold segment_form.f
  rcases h with ⟨rfl, rfl, ht⟩ | ⟨rfl, rfl, ht⟩ | ⟨rfl, rfl⟩
  · have h0 : t.toList = [] := tl_nil.mpr ht
    rw [if_neg (by decide), if_pos rfl, h0, if_neg (by decide)]
  · have h0 : t.toList = [] := tl_nil.mpr ht
    rw [if_neg (by decide), if_neg (by decide), if_pos rfl, h0, if_neg (by decide)]
  · rw [if_neg (by decide), if_neg (by decide), if_neg (by decide), if_neg (by decide), if_pos rfl, if_neg (by decide)]
/-- What leads back, applied. -/
theorem back_applied {l l' : List S46} {nx : Int} (x : S26) (j : Nat) (H : HitOp l nx x j l') (G' : RightL l' nx) (k : Nat) (hk : 500 ≤ k) :
    segment_Applied.f k l' nx (backOps x (rd_T46 l (j : Int)).f1) = some (l, nx, ((backOps x (rd_T46 l (j : Int)).f1).length : Int), 0) := by
  obtain ⟨G, hj, hjn, hkind⟩ := H
  have hl := G.len
  have hl' := G'.len
  obtain ⟨q, hq, hq1, hq8⟩ := size_of G.right G.ok j hj
  obtain ⟨k, rfl⟩ : ∃ y, k = y + 3 := ⟨k - 3, by omega⟩
  have one : ∀ (y : S26) (l2 : List S46), segment_apply.f (k + 2) l' nx y.f0 y.f1 y.f2 y.f3 y.f4 = some (l2, nx, 0) → segment_Applied.f (k + 3) l' nx [y] = some (l2, nx, 1, 0) := fun y l2 h => by
    rw [applied_step G' y (k + 1) (by omega), h, Option.bind_some, if_pos rfl]
  have none_ : segment_Applied.f (k + 3) l' nx [] = some (l', nx, 0, 0) := by
    have hlen : (([] : List S26).length : Int) = 0 := rfl
    unfold segment_Applied.f
    rw [check_eq l' nx (k + 3) (by omega), Option.bind_some, G'.right.chk, if_pos rfl, hlen, if_neg (by omega), clone_eq l' (by omega), Option.bind_some, segment_Applied.l0, if_neg (by omega), hlen]
  rcases hkind with ⟨c1, a1, a8, hs, rfl⟩ | ⟨c2, a1, hs, rfl⟩ | ⟨c4, ho, hot, rfl⟩
  · have hj' : j < (l.set j ⟨(rd_T46 l (j : Int)).f0, (rd_T46 l (j : Int)).f1 ++ zer (x.f3.toNat * 32)⟩).length := by rw [List.length_set]; exact hj
    have hr := rd_set l j ⟨(rd_T46 l (j : Int)).f0, (rd_T46 l (j : Int)).f1 ++ zer (x.f3.toNat * 32)⟩ j hj
    rw [if_pos rfl] at hr
    have hd : ((rd_T46 l (j : Int)).f1.size : Int) / 32 = (q : Int) := by omega
    have hbo : backOps x (rd_T46 l (j : Int)).f1 = [⟨2, x.f1, 0, (q : Int), ⟨#[]⟩⟩] := by unfold backOps; rw [if_pos c1, hd]
    have ht := truncated_hit G' j hj' (q : Int) (k + 2) (by omega) (by omega) (by rw [hr]; simp only [ByteArray.size_append]; omega)
    rw [hr] at ht
    dsimp only at ht
    have hq32 : ((q : Int) * 32).toNat = (rd_T46 l (j : Int)).f1.size := by omega
    rw [hq32, append_back, set_back l j hj] at ht
    rw [hbo]
    refine one ⟨2, x.f1, 0, (q : Int), ⟨#[]⟩⟩ l ?_
    dsimp only
    unfold segment_apply.f
    rw [form_ok _ _ _ _ _ (.inr (.inl ⟨rfl, rfl, rfl⟩)), Option.bind_some, if_pos rfl, if_neg (by decide), if_neg (by decide), if_pos rfl, ← hjn, ht, Option.bind_some]
  · have hn : (x.f3 * 32).toNat ≤ (rd_T46 l (j : Int)).f1.size := by omega
    have hj' : j < (l.set j ⟨(rd_T46 l (j : Int)).f0, (rd_T46 l (j : Int)).f1.extract 0 (x.f3 * 32).toNat⟩).length := by rw [List.length_set]; exact hj
    have hr := rd_set l j ⟨(rd_T46 l (j : Int)).f0, (rd_T46 l (j : Int)).f1.extract 0 (x.f3 * 32).toNat⟩ j hj
    rw [if_pos rfl] at hr
    have hn1 : ¬ x.f0 = 1 := by omega
    by_cases h0 : (rd_T46 l (j : Int)).f1.size ≤ (x.f3 * 32).toNat
    · have hbo : backOps x (rd_T46 l (j : Int)).f1 = [] := by unfold backOps; rw [if_neg hn1, if_pos c2, if_pos h0]
      rw [hbo, none_, extract_all _ _ h0, set_same l j hj]
      rfl
    · have hd : ((rd_T46 l (j : Int)).f1.size : Int) / 32 - x.f3 = (q : Int) - x.f3 := by omega
      have hsz : ((rd_T46 l (j : Int)).f1.extract 0 (x.f3 * 32).toNat).size = (x.f3 * 32).toNat := by rw [ByteArray.size_extract]; omega
      have he := extended_hit G' j hj' ((q : Int) - x.f3) (k + 2) (by omega) (by omega) (by rw [hr]; dsimp only; rw [hsz]; omega)
      rw [hr] at he
      dsimp only at he
      have hz32 : ((q : Int) - x.f3).toNat * 32 = ((rd_T46 l (j : Int)).f1.extract (x.f3 * 32).toNat (rd_T46 l (j : Int)).f1.size).size := by rw [ByteArray.size_extract]; omega
      rw [hz32] at he
      have hf1 : segment_apply.f (k + 2) (l.set j ⟨(rd_T46 l (j : Int)).f0, (rd_T46 l (j : Int)).f1.extract 0 (x.f3 * 32).toNat⟩) nx 1 x.f1 0 ((q : Int) - x.f3) ⟨#[]⟩ = some (l.set j ⟨(rd_T46 l (j : Int)).f0, (rd_T46 l (j : Int)).f1.extract 0 (x.f3 * 32).toNat ++ zer ((rd_T46 l (j : Int)).f1.extract (x.f3 * 32).toNat (rd_T46 l (j : Int)).f1.size).size⟩, nx, 0) := by
        unfold segment_apply.f
        rw [form_ok _ _ _ _ _ (.inl ⟨rfl, rfl, rfl⟩), Option.bind_some, if_pos rfl, if_neg (by decide), if_pos rfl, ← hjn, he, Option.bind_some, List.set_set]
      by_cases h1 : (rd_T46 l (j : Int)).f1.extract (x.f3 * 32).toNat (rd_T46 l (j : Int)).f1.size = zer ((rd_T46 l (j : Int)).f1.extract (x.f3 * 32).toNat (rd_T46 l (j : Int)).f1.size).size
      · have hbo : backOps x (rd_T46 l (j : Int)).f1 = [⟨1, x.f1, 0, (q : Int) - x.f3, ⟨#[]⟩⟩] := by unfold backOps; rw [if_neg hn1, if_pos c2, if_neg h0, if_pos h1, hd]
        rw [← h1, cut_join _ _ hn, set_same l j hj] at hf1
        rw [hbo]
        exact one ⟨1, x.f1, 0, (q : Int) - x.f3, ⟨#[]⟩⟩ l hf1
      · have hbo : backOps x (rd_T46 l (j : Int)).f1 = [⟨1, x.f1, 0, (q : Int) - x.f3, ⟨#[]⟩⟩, ⟨4, x.f1, x.f3 * 32, 0, (rd_T46 l (j : Int)).f1.extract (x.f3 * 32).toNat (rd_T46 l (j : Int)).f1.size⟩] := by unfold backOps; rw [if_neg hn1, if_pos c2, if_neg h0, if_neg h1, hd]
        have hsz2 : ((rd_T46 l (j : Int)).f1.extract 0 (x.f3 * 32).toNat ++ zer ((rd_T46 l (j : Int)).f1.extract (x.f3 * 32).toNat (rd_T46 l (j : Int)).f1.size).size).size = q * 32 := by
          rw [ByteArray.size_append, hsz, zer_size, ByteArray.size_extract]; omega
        have G2 : RightL (l.set j ⟨(rd_T46 l (j : Int)).f0, (rd_T46 l (j : Int)).f1.extract 0 (x.f3 * 32).toNat ++ zer ((rd_T46 l (j : Int)).f1.extract (x.f3 * 32).toNat (rd_T46 l (j : Int)).f1.size).size⟩) nx := G.set j hj _ ⟨q, hsz2, hq1, hq8⟩
        have hj2 : j < (l.set j ⟨(rd_T46 l (j : Int)).f0, (rd_T46 l (j : Int)).f1.extract 0 (x.f3 * 32).toNat ++ zer ((rd_T46 l (j : Int)).f1.extract (x.f3 * 32).toNat (rd_T46 l (j : Int)).f1.size).size⟩).length := by rw [List.length_set]; exact hj
        have hr2 := rd_set l j ⟨(rd_T46 l (j : Int)).f0, (rd_T46 l (j : Int)).f1.extract 0 (x.f3 * 32).toNat ++ zer ((rd_T46 l (j : Int)).f1.extract (x.f3 * 32).toNat (rd_T46 l (j : Int)).f1.size).size⟩ j hj
        rw [if_pos rfl] at hr2
        have hos : x.f3 * 32 + (((rd_T46 l (j : Int)).f1.extract (x.f3 * 32).toNat (rd_T46 l (j : Int)).f1.size).size : Int) = ((q * 32 : Nat) : Int) := by rw [ByteArray.size_extract]; omega
        have hwr := written_hit G2 j hj2 (x.f3 * 32) ((rd_T46 l (j : Int)).f1.extract (x.f3 * 32).toNat (rd_T46 l (j : Int)).f1.size) (k + 1) (by omega) (by omega) (by rw [hr2]; dsimp only; rw [hsz2, hos]; exact Int.le_refl _)
        rw [hr2] at hwr
        dsimp only at hwr
        have hp : patched ((rd_T46 l (j : Int)).f1.extract 0 (x.f3 * 32).toNat ++ zer ((rd_T46 l (j : Int)).f1.extract (x.f3 * 32).toNat (rd_T46 l (j : Int)).f1.size).size) (x.f3 * 32) ((rd_T46 l (j : Int)).f1.extract (x.f3 * 32).toNat (rd_T46 l (j : Int)).f1.size) = (rd_T46 l (j : Int)).f1 := by
          unfold patched
          rw [hos, hsz2, ByteArray.extract_append_eq_left hsz.symm, cut_join _ _ hn]
          have : ((rd_T46 l (j : Int)).f1.extract 0 (x.f3 * 32).toNat ++ zer ((rd_T46 l (j : Int)).f1.extract (x.f3 * 32).toNat (rd_T46 l (j : Int)).f1.size).size).extract (((q * 32 : Nat) : Int)).toNat (q * 32) = ByteArray.empty := by
            rw [ByteArray.extract_eq_empty_iff]; omega
          rw [this, ByteArray.append_empty]
        rw [hp, set_back l j hj] at hwr
        have hf2 : segment_apply.f (k + 1) (l.set j ⟨(rd_T46 l (j : Int)).f0, (rd_T46 l (j : Int)).f1.extract 0 (x.f3 * 32).toNat ++ zer ((rd_T46 l (j : Int)).f1.extract (x.f3 * 32).toNat (rd_T46 l (j : Int)).f1.size).size⟩) nx 4 x.f1 (x.f3 * 32) 0 ((rd_T46 l (j : Int)).f1.extract (x.f3 * 32).toNat (rd_T46 l (j : Int)).f1.size) = some (l, nx, 0) := by
          unfold segment_apply.f
          rw [form_ok _ _ _ _ _ (.inr (.inr ⟨rfl, rfl⟩)), Option.bind_some, if_pos rfl, if_neg (by decide), if_neg (by decide), if_neg (by decide), if_neg (by decide), ← hjn, hwr, Option.bind_some]
        rw [hbo]
        generalize hA : (rd_T46 l (j : Int)).f1.extract (x.f3 * 32).toNat (rd_T46 l (j : Int)).f1.size = A at *
        have hlen : (([⟨1, x.f1, 0, (q : Int) - x.f3, ⟨#[]⟩⟩, ⟨4, x.f1, x.f3 * 32, 0, A⟩] : List S26).length : Int) = 2 := rfl
        have r0 : rd_T26 [⟨1, x.f1, 0, (q : Int) - x.f3, ⟨#[]⟩⟩, ⟨4, x.f1, x.f3 * 32, 0, A⟩] 0 = ⟨1, x.f1, 0, (q : Int) - x.f3, ⟨#[]⟩⟩ := rfl
        have r1 : rd_T26 [⟨1, x.f1, 0, (q : Int) - x.f3, ⟨#[]⟩⟩, ⟨4, x.f1, x.f3 * 32, 0, A⟩] 1 = ⟨4, x.f1, x.f3 * 32, 0, A⟩ := rfl
        have w1 : wrap64 (0 + 1) = 1 := w64 (by omega) (by omega)
        have w2 : wrap64 (1 + 1) = 2 := w64 (by omega) (by omega)
        unfold segment_Applied.f
        rw [check_eq _ nx (k + 3) (by omega), Option.bind_some, G'.right.chk, if_pos rfl, hlen, if_neg (by omega), clone_eq _ (by omega), Option.bind_some, segment_Applied.l0, if_pos (by omega), if_pos (by omega), hlen, if_pos (by omega), r0]
        dsimp only
        rw [hf1, Option.bind_some, if_pos rfl, w1, segment_Applied.l0, if_pos (by omega), if_pos (by omega), hlen, if_pos (by omega), r1]
        dsimp only
        rw [hf2, Option.bind_some, if_pos rfl, w2, segment_Applied.l0, if_neg (by omega), hlen]
  · have hj' : j < (l.set j ⟨(rd_T46 l (j : Int)).f0, patched (rd_T46 l (j : Int)).f1 x.f2 x.f4⟩).length := by rw [List.length_set]; exact hj
    have hr := rd_set l j ⟨(rd_T46 l (j : Int)).f0, patched (rd_T46 l (j : Int)).f1 x.f2 x.f4⟩ j hj
    rw [if_pos rfl] at hr
    have hn1 : ¬ x.f0 = 1 := by omega
    have hn2 : ¬ x.f0 = 2 := by omega
    by_cases h1 : (rd_T46 l (j : Int)).f1.extract x.f2.toNat (x.f2 + (x.f4.size : Int)).toNat = x.f4
    · have hbo : backOps x (rd_T46 l (j : Int)).f1 = [] := by unfold backOps; rw [if_neg hn1, if_neg hn2, if_pos h1]
      rw [hbo, none_, patched_same _ _ _ ho hot h1, set_same l j hj]
      rfl
    · have hbo : backOps x (rd_T46 l (j : Int)).f1 = [⟨4, x.f1, x.f2, 0, (rd_T46 l (j : Int)).f1.extract x.f2.toNat (x.f2 + (x.f4.size : Int)).toNat⟩] := by unfold backOps; rw [if_neg hn1, if_neg hn2, if_neg h1]
      have hus : (((rd_T46 l (j : Int)).f1.extract x.f2.toNat (x.f2 + (x.f4.size : Int)).toNat).size : Int) = (x.f4.size : Int) := by rw [ByteArray.size_extract]; omega
      have hwr := written_hit G' j hj' x.f2 ((rd_T46 l (j : Int)).f1.extract x.f2.toNat (x.f2 + (x.f4.size : Int)).toNat) (k + 2) (by omega) ho (by rw [hr]; dsimp only; rw [patched_size _ _ _ ho hot, hus]; exact hot)
      rw [hr] at hwr
      dsimp only at hwr
      rw [patched_back _ _ _ _ ho hot rfl, set_back l j hj] at hwr
      rw [hbo]
      refine one ⟨4, x.f1, x.f2, 0, (rd_T46 l (j : Int)).f1.extract x.f2.toNat (x.f2 + (x.f4.size : Int)).toNat⟩ l ?_
      dsimp only
      unfold segment_apply.f
      rw [form_ok _ _ _ _ _ (.inr (.inr ⟨rfl, rfl⟩)), Option.bind_some, if_pos rfl, if_neg (by decide), if_neg (by decide), if_neg (by decide), if_neg (by decide), ← hjn, hwr, Option.bind_some]
end Go.Proofs.YtoabahlaicgmjaaDoor.Q
namespace Go.Proofs.YtoabahlaicgmjaaDoor.Pure
open Go.RowKit Go.Proofs.YtoabahlaicgmjaaDoor.X Go.Proofs.YtoabahlaicgmjaaDoor.Q Go.Proofs.YtoabahlaicgmjaaDoorW.PrintWords Go.Proofs.YtoabahlaicgmjaaDoorW.PrintLast
set_option linter.unusedVariables false

theorem SegmentUndone : midrangelaw04_SegmentUndone.Pure := by
  intro l nx x0 x1 x2 x3 x4 hl hn h0 h1 h2 h3 h4
  refine ⟨1310, ?_⟩
  unfold midrangelaw04_SegmentUndone.f
  rw [awake_eq 1310 (by omega), Option.bind_some, if_pos rfl]
  obtain ⟨b, hb, hs⟩ := few_eq l nx 1310 (by omega)
  rw [hb, Option.bind_some]
  have jt : ∀ k, midrangelaw04_SegmentUndone.j0 (k + 1) true l nx x0 x1 x2 x3 x4 = some true := fun k => by rw [midrangelaw04_SegmentUndone.j0, if_pos rfl]
  cases b with
  | false => exact jt 1309
  | true =>
    obtain ⟨h12, _⟩ := hs rfl
    rw [if_pos rfl]
    by_cases h5 : (x4.size : Int) > 400
    · rw [decide_eq_true h5]; exact jt 1309
    obtain ⟨r, e, hr, u1, _, u3⟩ := undo_both l nx ⟨x0, x1, x2, x3, x4⟩ 1309 (by omega) hl.2 h12 ⟨h0, h1, h2, h3, h4⟩
    dsimp only at u1
    rw [decide_eq_false h5, show (1310 : Nat) = 1309 + 1 from rfl, midrangelaw04_SegmentUndone.j0, if_neg (by simp), own_eq l nx (by omega), Option.bind_some, u1, Option.bind_some]
    by_cases he : e = 0
    · obtain ⟨j, l', H, hrr, ha⟩ := u3 he
      rcases applied_one H.good ⟨x0, x1, x2, x3, x4⟩ ⟨h0, h1, h2, h3, h4⟩ 1309 (by omega) with ⟨f, hf, h6⟩ | ⟨l2, nx2, S, h6⟩
      · rw [ha] at h6
        injection h6 with h6
        injection h6 with _ h6
        injection h6 with _ h6
        injection h6 with _ h6
        exact absurd h6.symm hf
      · rw [ha] at h6
        injection h6 with h6
        injection h6 with e1 h6
        injection h6 with e2 _
        subst e1 e2
        have G' := S.now
        have hl' := G'.len
        rw [if_pos he, Option.bind_some, ha, Option.bind_some, if_pos rfl, few_good G' 1309 (by omega), Option.bind_some, Bool.not_true, show (1309 : Nat) = 1308 + 1 from rfl, midrangelaw04_SegmentUndone.j1, if_neg (by simp), own_eq l' _ (by omega), Option.bind_some, ownops_eq r (by omega), Option.bind_some, hrr, back_applied _ j H G' 1308 (by omega), Option.bind_some, if_pos rfl, if_pos rfl, same_eq l _ (by omega) 1308 (by omega)]
        rfl
    · rw [if_neg he]
end Go.Proofs.YtoabahlaicgmjaaDoor.Pure
end
