-- Written by xprint.py, a program of this claim's author (wip/xprint.py).
import Derived.Test.YtoabahlaicgmjaaWWords
import Derived.Test.YtoabahlaicgmjaaWLast
import Derived.Test.YtoabahlaicgmjaaWTab
import Derived.Test.YtoabahlaicgmjaaWFour
import Derived.Test.YtoabahlaicgmjaaWQPut
import Derived.Test.YtoabahlaicgmjaaWApart
import Derived.Test.YtoabahlaicgmjaaWArr
import Derived.Test.YtoabahlaicgmjaaWZeros
import Derived.Test.YtoabahlaicgmjaaWFoot
import Derived.Test.YtoabahlaicgmjaaWKept
import Derived.Test.YtoabahlaicgmjaaWShare
import Derived.Test.YtoabahlaicgmjaaWN
import Derived.Test.YtoabahlaicgmjaaWFootNe
import Derived.Test.YtoabahlaicgmjaaWAt
import Derived.Test.YtoabahlaicgmjaaWEqStruct
import Derived.Test.YtoabahlaicgmjaaWRepsOne
import Derived.Test.YtoabahlaicgmjaaWInv
import Derived.Test.YtoabahlaicgmjaaWInvWords
import Derived.Test.YtoabahlaicgmjaaWGuard
import Derived.Test.YtoabahlaicgmjaaWNEv
import Derived.Test.YtoabahlaicgmjaaWMore
import Derived.Lib.SliceRun
import Derived.Lib.LazyBuf
import Derived.Deep.RegionLaw
import Derived.ChangeSame
import Derived.Deep.Slices
namespace Go.Proofs.Ytoabahlaicgmjaa.XW
open Go.RowKit Go.Proofs.YtoabahlaicgmjaaW.PrintWords Go.Proofs.YtoabahlaicgmjaaW.PrintLast Go.Proofs.YtoabahlaicgmjaaW.PrintMore
set_option linter.unusedVariables false
set_option linter.unusedSimpArgs false

theorem zeroCells_one (z : Array Value) : (Builtin.zeroCells z 1).toList = z.toList := by
  simp only [Builtin.zeroCells, Nat.one_mul]
  apply List.ext_getElem
  · simp
  · intro i h1 h2
    simp at h1 h2 ⊢
    rw [Nat.mod_eq_of_lt h2]
    simp [h2]

/-- clear of the one place behind a row of one's own. -/
theorem R_clear_run {P : Program} {α : Type} (d : Kd α) {W : World} (base : Nat) (t ty e : TypeId) (z : Value) (ht : P.underlying t = some (.slice e)) (hv : ∀ w, (zeroValue e).run P w = .ok z w) (hz : z.cells.size = d.sz) (h1 : ∀ u ∈ z.cells.toList, u.oneCell' = true)
    {g n c : Nat} {xs : List α} {ok : Nat → Prop} (HO : d.R e W base ok (.slice (some ⟨g, 0, none⟩) n c) xs) (hnc : n < c) (c2 : Nat) :
    ∃ w1, (Builtin.clear_ #[t] ty #[.slice (some ⟨g, n * d.sz, none⟩) 1 c2]).run P W = .ok (.tuple #[]) w1 ∧ d.R e w1 base ok (.slice (some ⟨g, 0, none⟩) n c) xs ∧ W.grownBy w1 (some g) := by
  obtain ⟨hn, _, _⟩ := Kd.R_reads' HO
  obtain ⟨hok, inner, hown, hr⟩ := HO
  have hin : inner.length = n * d.sz := by rw [hr.1, hn]
  rcases hown.2 with ⟨hv', _⟩ | ⟨g', cap', cur, hv', hb, hh, hle, hcm, hcs, htake⟩
  · cases hv'
  injection hv' with ha _ hc
  injection ha with ha
  injection ha with hg
  subst hg; subst hc
  rw [← hn] at htake
  have hfit : n * d.sz + z.cells.toList.length ≤ cur.size := by
    rw [Array.length_toList, hz, hcs, ← Nat.succ_mul]
    exact Nat.mul_le_mul_right _ hnc
  have hst := run_storeCells_cells (P := P) g (n * d.sz) z.cells.toList 0 W (fun j hj => by rw [cell_of_row W g _ cur e (0, 0) hh]; simp; omega) (fun j _ => blk_frozen hh _) h1
  simp only [Nat.add_zero] at hst
  obtain ⟨cur', h3, h4, h5⟩ := setCells_row z.cells.toList (n * d.sz) W cur hh hfit
  obtain ⟨s1, s2, s3, s4⟩ := setCells_same g z.cells.toList (n * d.sz) W
  have hfar : ∀ k', k' ≠ g → (W.setCells g (n * d.sz) z.cells.toList).heap[k']? = W.heap[k']? := fun k' hk' => setCells_far z.cells.toList _ k' hk'
  refine ⟨W.setCells g (n * d.sz) z.cells.toList, ?_, ⟨hok, inner, ⟨hown.1, .inr ⟨g, c, cur', by rw [hn], hb, h3, hle, hcm, by rw [h4, hcs], ?_⟩⟩, ?_⟩, ⟨s1, s2, s3, by rw [s4]; exact Nat.le_refl _, fun k' _ hk' => hfar k' (fun he => hk' (by rw [he]))⟩⟩
  · simp [Builtin.clear_, run_underlying ht, hv, zeroCells_one, hst]
  · rw [h5, ← hn, List.append_assoc, List.take_append_of_le_length (by rw [List.length_take, Array.length_toList]; omega), List.take_take, Nat.min_self, htake]
  · refine hr.imp_ (fun p q hp => d.M_move (fun k' hk' => hfar k' (fun he => hk'.2 (by simp [Value.ownBlock, he]))) hp)

theorem step_append_run {P : Program} {ops : Array Oper} {o : Oper} {a : Act} {W w1 : World} {K : Act → World → Prop} {Q : Exit → Act → World → Prop} {E : Prop}
    (hgd : o.guard = none) (s x : Operand) (t : TypeId) (ho : o.op = .call { callee := .builtin .append, args := #[s, x], argTypes := #[t, t] }) {vs vx v : Value} (hs : a.eval s = vs) (hx : a.eval x = vx)
    (hr : (Builtin.append_ #[t, t] o.type #[vs, vx]).run P W = .ok v w1) (hK : K (a.put o.dst v) w1) : if Region.wanted o (yielded ops a.tmps) = true then Oper.wp P o a W K Q else E := by
  have hw : Region.wanted o (yielded ops a.tmps) = true := by simp [Region.wanted, hgd]
  rw [if_pos hw]
  unfold Oper.wp execOp
  simp only [ho, resolve, invoke, builtin, Sem.run_bind, Sem.run_pure, Result.andThen_ok, List.map_toArray, List.map_cons, List.map_nil, hs, hx, hr]
  exact hK
theorem list_clear_run {P : Program} {ops : Array Oper} {rest : List Oper} {o : Oper} {a : Act} {W w1 : World} {Q : Exit → Act → World → Prop}
    (hgd : o.guard = none) (s : Operand) (t : TypeId) (ho : o.op = .call { callee := .builtin .clear, args := #[s], argTypes := #[t] }) {vs v : Value} (hs : a.eval s = vs)
    (hr : (Builtin.clear_ #[t] o.type #[vs]).run P W = .ok v w1) (h : wpList P ops Q rest (a.put o.dst v) w1) : wpList P ops Q (o :: rest) a W := by
  refine wpList_plain hgd fun K hK => ?_
  unfold Oper.wp execOp
  simp only [ho, resolve, invoke, builtin, Sem.run_bind, Sem.run_pure, Result.andThen_ok, List.map_toArray, List.map_cons, List.map_nil, hs, hr]
  exact hK _ _ h

open Go.ChangeShapes Go.WideShapes Go.Deep
section reading
variable {H : Type} {enc : TypeId × Value → H} {P : Program} {w : World} {base : Nat} {spare : Nat → Bool} {held : Bool}
/-- What is read of a type is of a kind, and well formed. -/
def RdX (enc : TypeId × Value → H) (P : Program) (w : World) (base : Nat) (spare : Nat → Bool) (held : Bool) {α : Type} (t : TypeId) (d : Kd α) (ok : α → Prop) : Prop :=
  ∀ (fuel : Nat) (cs : List Value) (x : DataW H × List MemPlace), DataW.trod enc P w base spare held fuel t cs = some x → ∃ a, d.K w a cs ∧ ok a
theorem rdx_int {t : TypeId} {k : IntKind} (ht : P.underlying t = some (.int k)) : RdX enc P w base spare held t (Kd.int k) (fun n => (Lit.int k n).wf = true) := fun _ _ _ h => by
  obtain ⟨n, rfl, _, hw⟩ := DataW.trod_int ht h
  exact ⟨n, rfl, hw⟩
theorem rdx_bool {t : TypeId} (ht : P.underlying t = some .bool) : RdX enc P w base spare held t Kd.bool (fun _ => True) := fun _ _ _ h => by
  obtain ⟨n, rfl, _⟩ := DataW.trod_bool ht h
  exact ⟨n, rfl, trivial⟩
theorem rdx_string {t : TypeId} (ht : P.underlying t = some .string) : RdX enc P w base spare held t Kd.string (fun s => s.size ≤ 9223372036854775807) := fun _ _ _ h => by
  obtain ⟨n, rfl, _, hm⟩ := DataW.trod_string ht h
  exact ⟨n, rfl, hm⟩
theorem exists_list {α : Type} {Q : Nat → α → Prop} : ∀ n : Nat, (∀ i, i < n → ∃ a, Q i a) → ∃ l : List α, l.length = n ∧ ∀ i a, l[i]? = some a → Q i a
  | 0, _ => ⟨[], rfl, fun i a h => by simp at h⟩
  | n + 1, h => by
    obtain ⟨l, hl, hq⟩ := exists_list n (fun i hi => h i (by omega))
    obtain ⟨a, ha⟩ := h n (by omega)
    refine ⟨l ++ [a], by simp [hl], fun i b hb => ?_⟩
    rcases Nat.lt_or_ge i l.length with h1 | h1
    · rw [List.getElem?_append_left h1] at hb
      exact hq i b hb
    · rw [List.getElem?_append_right h1] at hb
      have : i - l.length = 0 := by
        rcases Nat.eq_zero_or_pos (i - l.length) with h2 | h2
        · exact h2
        · rw [List.getElem?_eq_none (by simp; omega)] at hb; cases hb
      rw [this] at hb
      obtain rfl : a = b := by simpa using hb
      obtain rfl : i = n := by omega
      exact ha
theorem rdx_slice {α : Type} {t e : TypeId} {d : Kd α} {ok : α → Prop} (ht : P.underlying t = some (.slice e)) (hC : P.cellsOf e = d.sz) (hd : RdX enc P w base spare held e d ok) :
    RdX enc P w base spare held t (Kd.slice e d) (fun l => l.length ≤ 9223372036854775807 ∧ ∀ x ∈ l, ok x) := fun _ _ _ h => by
  rcases open_slice ht h with ⟨rfl, _⟩ | ⟨a, len, cap, m, n, D, Pl, rfl, hb, hl, hm, hmm, hx, hi⟩
  · exact ⟨[], ⟨none, 0, rfl, Nat.le_refl _, rfl, by simp, fun hp => absurd hp (by simp)⟩, by simp, by simp⟩
  · have hlm : len ≤ m := by rw [hmm]; split <;> omega
    obtain ⟨l, hll, hq⟩ := exists_list (Q := fun i x => (∃ c, c.length = d.sz ∧ d.K w x c ∧ ∀ j u, c[j]? = some u → w.cell? (a.add (i * d.sz + j)) = some u) ∧ ok x) len (fun i hilt => by
      obtain ⟨cs', hc, ht'⟩ := hi i (by omega)
      rw [hC] at hc
      obtain ⟨x, hk, hok⟩ := hd _ _ _ ht'
      obtain ⟨_, hcl, hat⟩ := World.cells?_some hc
      refine ⟨x, ⟨cs', hcl, hk, fun j u hu => ?_⟩, hok⟩
      have hj : j < d.sz := by rw [← hcl]; exact (List.getElem?_eq_some_iff.1 hu).1
      rw [← Go.Deep.add_add, hat j hj, hu])
    subst hll
    have hm' : l.length ≤ 9223372036854775807 := Nat.le_trans hl hm
    refine ⟨l, ⟨some a, cap, rfl, hl, rfl, hm', fun _ => ⟨a, rfl, fun j p hj => (hq j p hj).1⟩⟩, hm', fun x hx => ?_⟩
    obtain ⟨j, hj⟩ := List.mem_iff_getElem?.1 hx
    exact (hq j x hj).2
theorem K_step {α β : Type} {a : Kd α} {b : Kd β} {x : α} {y : β} {cs : List Value} {o s : Nat} (h1 : a.K w x ((cs.drop o).take s)) (h2 : b.K w y (cs.drop (o + s))) : (Kd.pair a b).K w (x, y) (cs.drop o) :=
  ⟨_, _, by rw [← List.drop_drop]; exact (List.take_append_drop s (cs.drop o)).symm, h1, h2⟩
theorem K_last {α : Type} {a : Kd α} {x : α} {cs : List Value} {o s : Nat} (h : a.K w x ((cs.drop o).take s)) (hl : cs.length = o + s) : a.K w x (cs.drop o) := by
  rwa [List.take_of_length_le (by rw [List.length_drop]; omega)] at h
theorem field_at {t : TypeId} {n : Nat} {c : List Value} {xs : List (DataW H × List MemPlace)} {m i : Nat} (hlen : xs.length = m) (hi : i < m) (h : DataW.trod enc P w base spare held n t c = xs[i]?) : ∃ x, DataW.trod enc P w base spare held n t c = some x :=
  ⟨_, h.trans (List.getElem?_eq_getElem (by omega))⟩
end reading
end Go.Proofs.Ytoabahlaicgmjaa.XW
