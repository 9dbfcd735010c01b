-- Texts of this claim joined by merge.py, a program of its author; what this claim does not reach is left out.
import Derived.Test.YtoabahlaicgmjaaMSegmentApplies14
section
namespace Go.Proofs.Ytoabahlaicgmjaa.Q
open Go.RowKit Go.Proofs.Ytoabahlaicgmjaa.X Go.Proofs.YtoabahlaicgmjaaW.PrintWords Go.Proofs.YtoabahlaicgmjaaW.PrintLast Go.Proofs.YtoabahlaicgmjaaW.PrintMore
set_option linter.unusedVariables false
set_option linter.unusedSimpArgs false

/-! ### Right stores, as_ lists -/
theorem wf_of {a : Int} (h0 : -9223372036854775808 ≤ a) (h1 : a ≤ 9223372036854775807) : (Lit.int .i64 a).wf = true := by
  simp [Lit.wf, IntKind.min, IntKind.max, IntKind.bits, IntKind.signed]
  constructor <;> omega
def nums (l : List S56) : List Int := l.map S56.f0
def szok (y : S56) : Prop := ∃ q : Nat, y.f1.size = q * 32 ∧ 1 ≤ q ∧ q ≤ 8
structure Good (l : List S56) (nx : Int) : Prop where
  len : l.length ≤ 10
  nx1 : 1 ≤ nx
  nx2 : nx ≤ 1001
  inc : (nums l).Pairwise (· < ·)
  num : ∀ y ∈ l, 1 ≤ y.f0 ∧ y.f0 < nx
  sz : ∀ y ∈ l, szok y
theorem rd_get (l : List S56) (i : Nat) (h : i < l.length) : rd_T56 l (i : Int) = l[i] := by
  show l.getD i z56 = l[i]
  rw [List.getD_eq_getElem?_getD, List.getElem?_eq_getElem h]; rfl
theorem Good.right {l : List S56} {nx : Int} (G : Good l nx) : Right l nx := by
  refine ⟨G.len, G.nx1, G.nx2, fun i hi => ?_⟩
  have hr := rd_get l i hi
  have hm : l[i] ∈ l := List.getElem_mem hi
  obtain ⟨q, hq, hq1, hq8⟩ := G.sz _ hm
  have hn := G.num _ hm
  have h1 := G.nx1
  have h2 := G.nx2
  have hw : wrap64 (nx - 1) = nx - 1 := w64 (by omega) (by omega)
  unfold bad
  rw [hr, hq, hw]
  clear hw hr
  have hp : 0 < i → ¬ l[i].f0 ≤ (rd_T56 l ((i : Int) - 1)).f0 := by
    intro h0
    have e : ((i : Int) - 1) = ((i - 1 : Nat) : Int) := by omega
    have hi' : i - 1 < l.length := by omega
    rw [e, rd_get l (i - 1) hi']
    have h3 := (List.pairwise_iff_getElem.mp G.inc) (i - 1) i (by unfold nums; rw [List.length_map]; omega) (by unfold nums; rw [List.length_map]; omega) (by omega)
    unfold nums at h3
    rw [List.getElem_map, List.getElem_map] at h3
    omega
  have hw : wrap64 (((q * 32 : Nat) : Int) / 32) = (q : Int) := by rw [w64 (by omega) (by omega)]; omega
  have hz : ((q * 32 : Nat) : Int) % 32 = 0 := by clear hw; omega
  have hq' : (1 : Int) ≤ (q : Int) ∧ (q : Int) ≤ 8 := by clear hw; omega
  have hn' : 1 ≤ l[i].f0 ∧ l[i].f0 ≤ nx - 1 := by clear hw; omega
  rw [if_neg (not_not_intro hn'), if_neg (fun h => hp h.1 h.2), if_neg (by rw [hw]; exact not_not_intro ⟨hz, hq'⟩)]
theorem Right.good {l : List S56} {nx : Int} (R : Right l nx) (hx : ∀ y ∈ l, ok56 y) : Good l nx := by
  refine ⟨R.len, R.nx1, R.nx2, ?_, ?_, ?_⟩
  · unfold nums
    rw [List.pairwise_iff_getElem]
    intro i j hi hj hij
    rw [List.length_map] at hi hj
    rw [List.getElem_map, List.getElem_map]
    have := R.mono i j hij hj
    rwa [rd_get l i hi, rd_get l j hj] at this
  · intro y hy
    obtain ⟨i, hi, rfl⟩ := List.getElem_of_mem hy
    have h1 := (bad_none (R.each i hi)).1
    have h2 := R.nx1
    have h3 := R.nx2
    rw [rd_get l i hi, w64 (by omega) (by omega)] at h1
    omega
  · intro y hy
    obtain ⟨i, hi, rfl⟩ := List.getElem_of_mem hy
    have := size_of R hx i hi
    rw [rd_get l i hi] at this
    exact this
theorem Good.ok {l : List S56} {nx : Int} (G : Good l nx) : ∀ y ∈ l, ok56 y := fun y hy => by
  obtain ⟨q, hq, hq1, hq8⟩ := G.sz y hy
  have h1 := G.num y hy
  have h2 := G.nx2
  exact ⟨wf_of (by omega) (by omega), by omega⟩
theorem nums_set (l : List S56) (j : Nat) (hj : j < l.length) (b : ByteArray) : nums (l.set j ⟨(rd_T56 l (j : Int)).f0, b⟩) = nums l := by
  unfold nums
  rw [rd_get l j hj, List.map_set]
  apply List.ext_getElem
  · rw [List.length_set]
  · intro i h1 h2
    rw [List.getElem_set]
    split
    · rename_i h; subst h; rw [List.getElem_map]
    · rfl
theorem Good.set {l : List S56} {nx : Int} (G : Good l nx) (j : Nat) (hj : j < l.length) (b : ByteArray) (hb : ∃ q : Nat, b.size = q * 32 ∧ 1 ≤ q ∧ q ≤ 8) : Good (l.set j ⟨(rd_T56 l (j : Int)).f0, b⟩) nx := by
  refine ⟨by rw [List.length_set]; exact G.len, G.nx1, G.nx2, by rw [nums_set l j hj]; exact G.inc, fun y hy => ?_, fun y hy => ?_⟩
  · rcases List.mem_or_eq_of_mem_set hy with h | rfl
    · exact G.num y h
    · exact G.num (rd_T56 l (j : Int)) (rd_mem l j hj)
  · rcases List.mem_or_eq_of_mem_set hy with h | rfl
    · exact G.sz y h
    · exact hb
theorem Good.app {l : List S56} {nx : Int} (G : Good l nx) (h1 : l.length < 10) (h2 : nx ≤ 1000) (p : Int) (hp : 1 ≤ p ∧ p ≤ 8) : Good (l ++ [⟨nx, zer (p.toNat * 32)⟩]) (nx + 1) := by
  have hn := G.nx1
  refine ⟨by rw [List.length_append]; simp; omega, by omega, by omega, ?_, fun y hy => ?_, fun y hy => ?_⟩
  · unfold nums
    rw [List.map_append, List.pairwise_append]
    refine ⟨G.inc, by simp, fun a ha b hb => ?_⟩
    simp at hb
    subst hb
    obtain ⟨y, hy, rfl⟩ := List.mem_map.mp ha
    exact (G.num y hy).2
  · rcases List.mem_append.mp hy with h | h
    · have := G.num y h; omega
    · simp at h; subst h; exact ⟨hn, by show nx < nx + 1; omega⟩
  · rcases List.mem_append.mp hy with h | h
    · exact G.sz y h
    · simp at h; subst h; exact ⟨p.toNat, zer_size _, by omega, by omega⟩
theorem Good.erase {l : List S56} {nx : Int} (G : Good l nx) (j : Nat) : Good (l.eraseIdx j) nx := by
  have hs := List.eraseIdx_sublist l j
  refine ⟨by have := hs.length_le; have := G.len; omega, G.nx1, G.nx2, List.Pairwise.sublist (hs.map S56.f0) G.inc, fun y hy => G.num y (hs.subset hy), fun y hy => G.sz y (hs.subset hy)⟩

/-! ### One operation -/
theorem count_eq (b : Bool) : midrangebase_Count.f b = some (if b = true then 1 else 0) := by
  unfold midrangebase_Count.f
  cases b <;> rfl
theorem form_eq (a b c d : Int) (s : ByteArray) : ∃ e : Int, segment_form.f a b c d s = some e ∧ midrangeref04_OpErr.f a b c d s = some e ∧ (e = 0 → 0 ≤ a ∧ a ≤ 4) := by
  unfold segment_form.f midrangeref04_OpErr.f
  rw [Within_eq, Option.bind_some]
  have c0 : ∀ z : Int, (0 == z) = (z == 0) := fun z => BEq.comm
  have fin : ∀ t : Bool, ∃ e : Int, (if t = true then some 5 else some 0) = some e ∧ (midrangebase_Count.f t).bind (fun t => some (wrap64 (5 * t))) = some e := by
    intro t
    rw [count_eq, Option.bind_some]
    cases t
    · exact ⟨0, rfl, by rw [if_neg (by simp), w64 (by omega) (by omega)]; rfl⟩
    · exact ⟨5, rfl, by rw [if_pos rfl, w64 (by omega) (by omega)]; rfl⟩
  by_cases hw : 0 ≤ a ∧ a ≤ 4
  · rw [decide_eq_true hw, if_pos rfl]
    by_cases h0 : a = 0
    · rw [if_pos h0, if_pos h0, c0, c0]
      obtain ⟨e, h1, h2⟩ := fin (!(b == 0) || (!(c == 0) || (!s.toList.isEmpty)))
      exact ⟨e, h1, h2, fun _ => hw⟩
    rw [if_neg h0, if_neg h0]
    by_cases h1 : a = 1
    · rw [if_pos h1, if_pos h1, c0]
      obtain ⟨e, h1, h2⟩ := fin (!(c == 0) || (!s.toList.isEmpty))
      exact ⟨e, h1, h2, fun _ => hw⟩
    rw [if_neg h1, if_neg h1]
    by_cases h2 : a = 2
    · rw [if_pos h2, if_pos h2, c0]
      obtain ⟨e, h1, h2⟩ := fin (!(c == 0) || (!s.toList.isEmpty))
      exact ⟨e, h1, h2, fun _ => hw⟩
    rw [if_neg h2, if_neg h2]
    by_cases h3 : a = 3
    · rw [if_pos h3, if_pos h3, c0, c0]
      obtain ⟨e, h1, h2⟩ := fin (!(c == 0) || (!(d == 0) || (!s.toList.isEmpty)))
      exact ⟨e, h1, h2, fun _ => hw⟩
    have h4 : a = 4 := by omega
    rw [if_neg h3, if_neg h3, if_pos h4, if_pos h4, c0]
    obtain ⟨e, h1, h2⟩ := fin (!(d == 0))
    exact ⟨e, h1, h2, fun _ => hw⟩
  · rw [if_neg (by omega), if_neg (by omega), if_neg (by omega), if_neg (by omega), if_neg (by omega), decide_eq_false hw, if_neg (by simp)]
    exact ⟨4, rfl, rfl, fun h => absurd h (by decide)⟩
end Go.Proofs.Ytoabahlaicgmjaa.Q
end
section
namespace Go.Proofs.Ytoabahlaicgmjaa.Q
open Go.RowKit Go.Proofs.Ytoabahlaicgmjaa.X Go.Proofs.YtoabahlaicgmjaaW.PrintWords Go.Proofs.YtoabahlaicgmjaaW.PrintLast
set_option linter.unusedVariables false

/-! ### What was written is read -/
theorem bad_congr (l l' : List S56) (nx : Int) (h : ∀ i : Nat, (rd_T56 l' i).f0 = (rd_T56 l i).f0 ∧ (rd_T56 l' i).f1.size = (rd_T56 l i).f1.size) (i : Nat) : bad l' nx i = bad l nx i := by
  unfold bad
  obtain ⟨h1, h2⟩ := h i
  have h3 : (rd_T56 l' ((i : Int) - 1)).f0 = (rd_T56 l ((i : Int) - 1)).f0 := by
    have : rd_T56 l' ((i : Int) - 1) = rd_T56 l' ((((i : Int) - 1).toNat : Nat) : Int) := rfl
    rw [this, (h _).1]; rfl
  rw [h1, h2, h3]
theorem chkFrom_right (l : List S56) (nx : Int) : ∀ d i, (∀ j, i ≤ j → j < i + d → bad l nx j = none) → chkFrom l nx d i = (0, 0)
  | 0, _, _ => rfl
  | d + 1, i, h => by
    unfold chkFrom
    rw [h i (by omega) (by omega)]
    exact chkFrom_right l nx d (i + 1) (fun j h1 h2 => h j (by omega) (by omega))
theorem Right.chk {l : List S56} {nx : Int} (R : Right l nx) : Q.chk l nx = (0, 0) := by
  have h1 := R.len
  have h2 := R.nx1
  have h3 := R.nx2
  unfold Q.chk
  rw [if_neg (by omega), if_neg (not_not_intro ⟨h2, h3⟩)]
  exact chkFrom_right l nx _ _ (fun j _ hj => R.each j (by omega))
theorem Right.congr {l l' : List S56} {nx : Int} (R : Right l nx) (hl : l'.length = l.length) (h : ∀ i : Nat, (rd_T56 l' i).f0 = (rd_T56 l i).f0 ∧ (rd_T56 l' i).f1.size = (rd_T56 l i).f1.size) : Right l' nx :=
  ⟨by rw [hl]; exact R.len, R.nx1, R.nx2, fun i hi => by rw [bad_congr l l' nx h]; exact R.each i (by omega)⟩
theorem patched_size (s : ByteArray) (o : Int) (t : ByteArray) (h0 : 0 ≤ o) (h : o + (t.size : Int) ≤ (s.size : Int)) : (patched s o t).size = s.size := by
  unfold patched
  simp only [ByteArray.size_append, ByteArray.size_extract]
  omega
section
variable (l l' : List S56) (nx n o d2 : Int) (t : ByteArray)
variable (R : Right l nx) (R' : Right l' nx) (hlen : l'.length = l.length) (ho : 0 ≤ o ∧ o + (t.size : Int) ≤ 256)
variable (hsz : ∀ i : Nat, i < l.length → (rd_T56 l i).f1.size ≤ 256)
variable (hf : ∀ i : Nat, (rd_T56 l' i).f0 = (rd_T56 l i).f0 ∧ (rd_T56 l' i).f1.size = (rd_T56 l i).f1.size)
variable (hout : ∀ i x : Nat, i < l.length → x < (rd_T56 l i).f1.size → ¬ ((rd_T56 l i).f0 = n ∧ o ≤ (x : Int) ∧ (x : Int) ≤ o + (t.size : Int) - 1) → (rd_T56 l' i).f1.extract x (x + 1) = (rd_T56 l i).f1.extract x (x + 1))
include R R' hlen ho hsz hf hout
end
end Go.Proofs.Ytoabahlaicgmjaa.Q
namespace Go.Proofs.Ytoabahlaicgmjaa.Pure
open Go.RowKit Go.Proofs.Ytoabahlaicgmjaa.X Go.Proofs.Ytoabahlaicgmjaa.Q Go.Proofs.YtoabahlaicgmjaaW.PrintWords Go.Proofs.YtoabahlaicgmjaaW.PrintLast
set_option linter.unusedVariables false

end Go.Proofs.Ytoabahlaicgmjaa.Pure
end
section
namespace Go.Proofs.Ytoabahlaicgmjaa.Q
open Go.RowKit Go.Proofs.Ytoabahlaicgmjaa.X Go.Proofs.YtoabahlaicgmjaaW.PrintWords Go.Proofs.YtoabahlaicgmjaaW.PrintLast
set_option linter.unusedVariables false

/-- What an operation that has no error leaves. -/
structure Step (l : List S56) (nx : Int) (x : S66) (l' : List S56) (nx' : Int) : Prop where
  was : Good l nx
  now : Good l' nx'
  how : (x.f0 = 0 ∧ nx' = nx + 1 ∧ nums l' = nums l ++ [nx] ∧ (created l nx x.f3).2.2.2 = 0) ∨
    (x.f0 = 3 ∧ nx' = nx ∧ ∃ j : Nat, j < l.length ∧ (rd_T56 l (j : Int)).f0 = x.f1 ∧ l' = l.eraseIdx j) ∨
    (x.f0 ≠ 0 ∧ x.f0 ≠ 3 ∧ nx' = nx ∧ nums l' = nums l)
theorem apply_both (l : List S56) (nx : Int) (x : S66) (k : Nat) (hk : 400 ≤ k) (hx : ∀ y ∈ l, ok56 y) (h12 : l.length ≤ 12) (hw : ok66 x) :
    ∃ (l' : List S56) (nx' e n : Int) (b : ByteArray), segment_apply.f k l nx x.f0 x.f1 x.f2 x.f3 x.f4 = some (l', nx', e) ∧ midrangeref04_Done.f k l nx x.f0 x.f1 x.f2 x.f3 x.f4 = some (l', nx', n, b, e) ∧ (e = 0 → Step l nx x l' nx') := by
  obtain ⟨w0, w1, w2, w3, w4⟩ := hw
  unfold segment_apply.f midrangeref04_Done.f
  obtain ⟨e, h1, h2, h3⟩ := form_eq x.f0 x.f1 x.f2 x.f3 x.f4
  rw [h1, h2, Option.bind_some, Option.bind_some]
  by_cases he : e = 0
  · have h4 := h3 he
    rw [if_pos he, if_pos he]
    by_cases c0 : x.f0 = 0
    · rw [if_pos c0, if_pos c0, created_eq l nx _ k hk, Created_eq l nx _ k hk, Option.bind_some, Option.bind_some]
      refine ⟨_, _, _, _, _, rfl, rfl, fun h => ?_⟩
      obtain ⟨R, p1, p2, q1, q2, hc⟩ := created_post l nx x.f3 h
      have G := R.good hx
      rw [hc]
      exact ⟨G, G.app q1 q2 _ ⟨p1, p2⟩, .inl ⟨c0, rfl, by unfold nums; rw [List.map_append]; rfl, h⟩⟩
    rw [if_neg c0, if_neg c0]
    by_cases c1 : x.f0 = 1
    · obtain ⟨l', nx', f, _, g1, g2, g3⟩ := extended_both l nx x.f1 x.f3 k hk hx h12 (wf64 w1) (wf64 w3)
      rw [if_pos c1, if_pos c1, g1, g2, Option.bind_some, Option.bind_some]
      refine ⟨_, _, _, _, _, rfl, rfl, fun h => ?_⟩
      obtain ⟨j, hj, hjn, R, a1, a8, hs, rfl, rfl⟩ := g3 h
      have G := R.good hx
      obtain ⟨q, hq, hq1, hq8⟩ := size_of R hx j hj
      exact ⟨G, G.set j hj _ ⟨q + x.f3.toNat, by rw [ByteArray.size_append, zer_size, hq]; omega, by omega, by omega⟩, .inr (.inr ⟨c0, by omega, rfl, nums_set l j hj _⟩)⟩
    rw [if_neg c1, if_neg c1]
    by_cases c2 : x.f0 = 2
    · obtain ⟨l', nx', f, _, g1, g2, g3⟩ := truncated_both l nx x.f1 x.f3 k hk hx h12 (wf64 w1) (wf64 w3)
      rw [if_pos c2, if_pos c2, g1, g2, Option.bind_some, Option.bind_some]
      refine ⟨_, _, _, _, _, rfl, rfl, fun h => ?_⟩
      obtain ⟨j, hj, hjn, R, a1, hs, rfl, rfl⟩ := g3 h
      have G := R.good hx
      obtain ⟨q, hq, hq1, hq8⟩ := size_of R hx j hj
      exact ⟨G, G.set j hj _ ⟨x.f3.toNat, by rw [ByteArray.size_extract, hq]; omega, by omega, by omega⟩, .inr (.inr ⟨c0, by omega, rfl, nums_set l j hj _⟩)⟩
    rw [if_neg c2, if_neg c2]
    by_cases c3 : x.f0 = 3
    · obtain ⟨l', nx', f, _, g1, g2, g3⟩ := destroyed_both l nx x.f1 k (by omega) (wf64 w1)
      rw [if_pos c3, if_pos c3, g1, g2, Option.bind_some, Option.bind_some]
      refine ⟨_, _, _, _, _, rfl, rfl, fun h => ?_⟩
      obtain ⟨j, hj, hjn, R, rfl, rfl⟩ := g3 h
      have G := R.good hx
      exact ⟨G, G.erase j, .inr (.inl ⟨c3, rfl, j, hj, hjn, rfl⟩)⟩
    rw [if_neg c3, if_neg c3]
    rcases written_both l nx x.f1 x.f2 x.f4 k hk hx h12 (wf64 w1) w4 with ⟨f, hf, g1, g2⟩ | ⟨j, hj, hjn, R, ho, hot, h8, g1, g2⟩
    · rw [g1, g2, Option.bind_some, Option.bind_some]
      exact ⟨_, _, _, _, _, rfl, rfl, fun h => absurd h hf⟩
    · rw [g1, g2, Option.bind_some, Option.bind_some]
      refine ⟨_, _, _, _, _, rfl, rfl, fun h => ?_⟩
      have G := R.good hx
      obtain ⟨q, hq, hq1, hq8⟩ := size_of R hx j hj
      exact ⟨G, G.set j hj _ ⟨q, by rw [patched_size _ _ _ ho hot]; exact hq, hq1, hq8⟩, .inr (.inr ⟨c0, c3, rfl, nums_set l j hj _⟩)⟩
  · rw [if_neg he, if_neg he]
    exact ⟨_, _, _, _, _, rfl, rfl, fun h => absurd h he⟩
theorem rd66_mem (m : List S66) (j : Nat) (hj : j < m.length) : rd_T66 m (j : Int) ∈ m := by
  have : rd_T66 m (j : Int) = m.getD j z66 := rfl
  rw [this, List.getD_eq_getElem?_getD, List.getElem?_eq_getElem hj]
  exact List.getElem_mem hj
theorem applied_loop (m : List S66) (hm : ∀ x ∈ m, ok66 x) (hm40 : m.length ≤ 40) (d : Nat) : ∀ (i k : Nat) (l : List S56) (nx : Int), i + d = m.length → d + 401 ≤ k → Good l nx →
    ∃ (l' : List S56) (nx' n e : Int), l'.length ≤ 12 ∧ segment_Applied.l0 k m m (m.length : Int) (i : Int) l nx = some (l', nx', n, e) ∧ ∃ b, midrangeref04_Applied.l0 k m (i : Int) l nx = some (l', nx', n, b, e) := by
  induction d with
  | zero =>
    intro i k l nx hi hk G
    obtain ⟨k, rfl⟩ : ∃ q, k = q + 1 := ⟨k - 1, by omega⟩
    have hl := G.len
    rw [segment_Applied.l0, midrangeref04_Applied.l0, if_neg (by omega), if_neg (by omega), own_eq l nx (by omega), Option.bind_some]
    exact ⟨_, _, _, _, by omega, rfl, _, rfl⟩
  | succ d ih =>
    intro i k l nx hi hk G
    obtain ⟨k, rfl⟩ : ∃ q, k = q + 1 := ⟨k - 1, by omega⟩
    have hl := G.len
    have hi9 : i < 10000 := by omega
    have hi1 : (i : Int) < (m.length : Int) := by omega
    have hi0 : (0 : Int) ≤ (i : Int) := by omega
    obtain ⟨l', nx', e, n, b, h1, h2, h3⟩ := apply_both l nx (rd_T66 m (i : Int)) k (by omega) G.ok (by omega) (hm _ (rd66_mem m i (by omega)))
    rw [segment_Applied.l0, midrangeref04_Applied.l0, if_pos hi1, if_pos hi1, if_pos hi0, if_pos hi0, if_pos hi1, h1, h2, Option.bind_some, Option.bind_some]
    by_cases he : e = 0
    · rw [if_pos he, if_pos he, wsucc i hi9]
      exact ih (i + 1) k l' nx' (by omega) (by omega) (h3 he).now
    · rw [if_neg he, if_neg he]
      exact ⟨_, _, _, _, by simp, rfl, _, rfl⟩
theorem light_loop (m : List S66) (hm : m.length ≤ 9223372036854775807) (d : Nat) : ∀ (i k : Nat), i + d = 42 → d + 1 ≤ k → ∃ b : Bool, midrangelaw04_light.l0 k m (i : Int) = some b ∧ (b = true → m.length ≤ 42) := by
  induction d with
  | zero =>
    intro i k hi hk
    obtain ⟨k, rfl⟩ : ∃ q, k = q + 1 := ⟨k - 1, by omega⟩
    rw [midrangelaw04_light.l0]
    by_cases h : (i : Int) < (m.length : Int)
    · rw [if_pos h, if_pos (by omega)]; exact ⟨false, rfl, fun h => by cases h⟩
    · rw [if_neg h]; exact ⟨true, rfl, fun _ => by omega⟩
  | succ d ih =>
    intro i k hi hk
    obtain ⟨k, rfl⟩ : ∃ q, k = q + 1 := ⟨k - 1, by omega⟩
    have hi9 : i < 10000 := by omega
    rw [midrangelaw04_light.l0]
    by_cases h : (i : Int) < (m.length : Int)
    · rw [if_pos h]
      by_cases h2 : (i : Int) > 41
      · rw [if_pos h2]; exact ⟨false, rfl, fun h => by cases h⟩
      · rw [if_neg h2, if_pos (by omega)]
        by_cases h3 : ((rd_T66 m (i : Int)).f4.size : Int) > 400
        · rw [if_pos h3]; exact ⟨false, rfl, fun h => by cases h⟩
        · rw [if_neg h3, wsucc i hi9]
          exact ih (i + 1) k (by omega) (by omega)
    · rw [if_neg h]; exact ⟨true, rfl, fun _ => by omega⟩
theorem light_eq (m : List S66) (hm : m.length ≤ 9223372036854775807) (k : Nat) (hk : 44 ≤ k) : ∃ b : Bool, midrangelaw04_light.f k m = some b ∧ (b = true → m.length ≤ 42) := light_loop m hm 42 0 k rfl (by omega)
theorem ownops_eq (m : List S66) (hm : m.length ≤ 1000) : midrangeref04_OwnOps.f m = some m := by
  unfold midrangeref04_OwnOps.f
  rw [if_pos (by show 0 + m.length < _; omega)]; rfl
theorem applied_both (l : List S56) (nx : Int) (m : List S66) (k : Nat) (hk : 450 ≤ k) (hx : ∀ y ∈ l, ok56 y) (hm : ∀ x ∈ m, ok66 x) :
    ∃ (l' : List S56) (nx' n e : Int), l'.length ≤ 12 ∧ segment_Applied.f k l nx m = some (l', nx', n, e) ∧ ∃ b, midrangeref04_Applied.f k l nx m = some (l', nx', n, b, e) := by
  unfold segment_Applied.f midrangeref04_Applied.f
  rw [check_eq l nx k (by omega), Err_eq l nx k (by omega), Option.bind_some, Option.bind_some]
  by_cases h : (chk l nx).2 = 0
  · obtain ⟨R, _⟩ := right_of l nx h
    have hl := R.len
    rw [if_pos h, if_pos h]
    by_cases h4 : (m.length : Int) > 40
    · rw [if_pos h4, if_pos h4]
      exact ⟨_, _, _, _, by simp, rfl, _, rfl⟩
    · rw [if_neg h4, if_neg h4, clone_eq l (by omega), Option.bind_some]
      exact applied_loop m hm (by omega) m.length 0 k l nx (by omega) (by omega) (R.good hx)
  · rw [if_neg h, if_neg h]
    exact ⟨_, _, _, _, by simp, rfl, _, rfl⟩
end Go.Proofs.Ytoabahlaicgmjaa.Q
namespace Go.Proofs.Ytoabahlaicgmjaa.Pure
open Go.RowKit Go.Proofs.Ytoabahlaicgmjaa.X Go.Proofs.Ytoabahlaicgmjaa.Q Go.Proofs.YtoabahlaicgmjaaW.PrintWords Go.Proofs.YtoabahlaicgmjaaW.PrintLast
set_option linter.unusedVariables false

theorem SegmentApplies : midrangelaw04_SegmentApplies.Pure := by
  intro l nx m hl hx hm
  refine ⟨510, ?_⟩
  unfold midrangelaw04_SegmentApplies.f
  rw [awake_eq 510 (by omega), Option.bind_some, if_pos rfl]
  obtain ⟨b, hb, hs⟩ := few_eq l nx 510 (by omega)
  rw [hb, Option.bind_some]
  have jt : ∀ k, midrangelaw04_SegmentApplies.j0 (k + 1) m true l nx = some true := fun k => by rw [midrangelaw04_SegmentApplies.j0, if_pos rfl]
  cases b with
  | false => exact jt 509
  | true =>
    obtain ⟨h12, _⟩ := hs rfl
    obtain ⟨c, hc, hm42⟩ := light_eq m hm.1 510 (by omega)
    rw [if_pos rfl, hc, Option.bind_some]
    cases c with
    | false => exact jt 509
    | true =>
      have h42 := hm42 rfl
      obtain ⟨l', nx', n, e, hl', h1, b', h2⟩ := applied_both l nx m 509 (by omega) hl.2 hm.2
      rw [show (510 : Nat) = 509 + 1 from rfl, midrangelaw04_SegmentApplies.j0, if_neg (by simp), own_eq l nx (by omega), Option.bind_some, ownops_eq m (by omega), Option.bind_some, h1, Option.bind_some, h2, Option.bind_some, is_eq _ _ _ _ _ (by show l'.length ≤ 100; omega) 509 (by omega), Option.bind_some, if_pos rfl]
      exact congrArg some (beq_self_eq_true n)
end Go.Proofs.Ytoabahlaicgmjaa.Pure
end
