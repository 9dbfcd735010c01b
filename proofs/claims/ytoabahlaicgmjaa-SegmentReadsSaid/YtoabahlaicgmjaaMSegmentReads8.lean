-- Texts of this claim joined by merge.py, a program of its author; what this claim does not reach is left out.
import Derived.Test.YtoabahlaicgmjaaMSegmentReads7
section
namespace Go.Proofs.Ytoabahlaicgmjaa.X
open Go.Proofs.Ytoabahlaicgmjaa.XW
open Go.RowKit Go.Proofs.YtoabahlaicgmjaaW.PrintWords Go.Proofs.YtoabahlaicgmjaaW.PrintLast Go.Proofs.YtoabahlaicgmjaaW.PrintMore
attribute [local go_sem] max2_int min2_int max_two min_two max_three min_three max_four min_four   -- for this text's walks alone
set_option linter.unusedVariables false
set_option linter.unusedSimpArgs false

/-! ### midrangeref04_Check: function 20 -/
mutual
def midrangeref04_Check.l0 : Nat → Int → List (S56) → Int → Option (Int × Int)
  | 0, _, _, _ => none
  | k + 1, x4, x171000, x171001 => if x4 < (x171000.length : Int) then (if 0 ≤ x4 then ((midrangebase_Within.f ((rd_T56 x171000 x4).f0) 1 (wrap64 (x171001 - 1))).bind fun t174 => (if t174 = true then (if x4 > 0 then (if 0 ≤ (wrap64 (x4 - 1)) then (if (wrap64 (x4 - 1)) < (x171000.length : Int) then (midrangeref04_Check.j1 k x4 (decide (((rd_T56 x171000 x4).f0) ≤ ((rd_T56 x171000 (wrap64 (x4 - 1))).f0))) x171000 x171001 ((rd_T56 x171000 x4).f0) ((rd_T56 x171000 x4).f1)) else (none)) else (none)) else (midrangeref04_Check.j1 k x4 false x171000 x171001 ((rd_T56 x171000 x4).f0) ((rd_T56 x171000 x4).f1))) else (some (x4, 3)))) else (none)) else (some (0, 0))
def midrangeref04_Check.j1 : Nat → Int → Bool → List (S56) → Int → Int → ByteArray → Option (Int × Int)
  | 0, _, _, _, _, _, _ => none
  | k + 1, x4, x47, x171000, x171001, x174000, x174001 => if x47 = true then (some (x4, 14)) else (if ((x174001.size : Int) % 32) = 0 then ((midrangeref04_Pages.f x174001).bind fun t176 => ((midrangebase_Within.f t176 1 8).bind fun t177 => (if t177 = true then (midrangeref04_Check.l0 k (wrap64 (x4 + 1)) x171000 x171001) else (some (x4, 18))))) else (some (x4, 18)))
end
def midrangeref04_Check.f (k : Nat) (l0_0 : List (S56)) (a0_1 : Int) : Option (Int × Int) := if (l0_0.length : Int) > 10 then (some (0, 2)) else ((midrangebase_Within.f a0_1 1 1001).bind fun t171 => (if t171 = true then (midrangeref04_Check.l0 k 0 l0_0 a0_1) else (some (0, 3))))
end Go.Proofs.Ytoabahlaicgmjaa.X
end
section
namespace Go.Proofs.Ytoabahlaicgmjaa.X
open Go.Proofs.Ytoabahlaicgmjaa.XW
open Go.RowKit Go.Proofs.YtoabahlaicgmjaaW.PrintWords Go.Proofs.YtoabahlaicgmjaaW.PrintLast Go.Proofs.YtoabahlaicgmjaaW.PrintMore
attribute [local go_sem] max2_int min2_int max_two min_two max_three min_three max_four min_four   -- for this text's walks alone
set_option linter.unusedVariables false
set_option linter.unusedSimpArgs false

/-! ### midrangeref04_Err: function 35 -/
def midrangeref04_Err.f (k : Nat) (l0_0 : List (S56)) (a0_1 : Int) : Option (Int) := (midrangeref04_Check.f k l0_0 a0_1).bind fun bt179 => (some bt179.2)
/-! ### midrangeref04_failed: function 42 -/
/-! ### midrangebase_Repeat: function 57 -/
end Go.Proofs.Ytoabahlaicgmjaa.X
end
section
namespace Go.Proofs.Ytoabahlaicgmjaa.Q
open Go.RowKit Go.Proofs.Ytoabahlaicgmjaa.X Go.Proofs.YtoabahlaicgmjaaW.PrintWords Go.Proofs.YtoabahlaicgmjaaW.PrintLast Go.Proofs.YtoabahlaicgmjaaW.PrintMore
set_option linter.unusedVariables false
set_option linter.unusedSimpArgs false

/-! ### Small things -/
theorem wf64 {a : Int} (h : (Lit.int .i64 a).wf = true) : -9223372036854775808 ≤ a ∧ a ≤ 9223372036854775807 := by
  simp [Lit.wf, IntKind.min, IntKind.max, IntKind.bits, IntKind.signed] at h
  constructor <;> omega
theorem w64 {x : Int} (h0 : -9223372036854775808 ≤ x) (h1 : x ≤ 9223372036854775807) : wrap64 x = x := by
  unfold wrap64
  omega
theorem within_eq (a b c : Int) : segment_within.f a b c = some (decide (b ≤ a ∧ a ≤ c)) := by
  unfold segment_within.f
  by_cases h : b ≤ a <;> simp [h]
theorem Within_eq (a b c : Int) : midrangebase_Within.f a b c = some (decide (b ≤ a ∧ a ≤ c)) := by
  unfold midrangebase_Within.f
  by_cases h : b ≤ a <;> simp [h]

/-! ### Stores: the program's check and the specification's are one function -/
def bad (l : List S56) (nx : Int) (i : Nat) : Option Int :=
  if ¬ (1 ≤ (rd_T56 l i).f0 ∧ (rd_T56 l i).f0 ≤ wrap64 (nx - 1)) then some 3
  else if 0 < i ∧ (rd_T56 l i).f0 ≤ (rd_T56 l ((i : Int) - 1)).f0 then some 14
  else if ¬ (((rd_T56 l i).f1.size : Int) % 32 = 0 ∧ 1 ≤ wrap64 (((rd_T56 l i).f1.size : Int) / 32) ∧ wrap64 (((rd_T56 l i).f1.size : Int) / 32) ≤ 8) then some 18
  else none
def chkFrom (l : List S56) (nx : Int) : Nat → Nat → Int × Int
  | 0, _ => (0, 0)
  | d + 1, i => (bad l nx i).elim (chkFrom l nx d (i + 1)) (fun e => ((i : Int), e))
def chk (l : List S56) (nx : Int) : Int × Int :=
  if 10 < l.length then (0, 2) else if ¬ (1 ≤ nx ∧ nx ≤ 1001) then (0, 3) else chkFrom l nx l.length 0

theorem cs_j1 (k : Nat) (x4 x6 x17 x18 nx : Int) (l : List S56) (b : Bool) : segment_CheckStore.j1 (k + 1) x4 x6 l x17 x18 b l nx =
    if b = true then some (x4, 14) else if x6 % 32 = 0 ∧ 1 ≤ wrap64 (x6 / 32) ∧ wrap64 (x6 / 32) ≤ 8 then segment_CheckStore.l0 k l x17 (wrap64 (x18 + 1)) l nx else some (x4, 18) := by
  rw [segment_CheckStore.j1, within_eq, Option.bind_some]
  cases b with
  | true => simp
  | false =>
    by_cases h1 : x6 % 32 = 0
    · by_cases h2 : 1 ≤ wrap64 (x6 / 32) ∧ wrap64 (x6 / 32) ≤ 8
      · simp [h1, h2]
      · simp [h1, h2]
    · simp [h1]
theorem rc_j1 (k : Nat) (x4 x0 nx : Int) (s : ByteArray) (l : List S56) (b : Bool) : midrangeref04_Check.j1 (k + 1) x4 b l nx x0 s =
    if b = true then some (x4, 14) else if (s.size : Int) % 32 = 0 ∧ 1 ≤ wrap64 ((s.size : Int) / 32) ∧ wrap64 ((s.size : Int) / 32) ≤ 8 then midrangeref04_Check.l0 k (wrap64 (x4 + 1)) l nx else some (x4, 18) := by
  rw [midrangeref04_Check.j1, midrangeref04_Pages.f, Option.bind_some, Within_eq, Option.bind_some]
  generalize (s.size : Int) = x6
  cases b with
  | true => simp
  | false =>
    by_cases h1 : x6 % 32 = 0
    · by_cases h2 : 1 ≤ wrap64 (x6 / 32) ∧ wrap64 (x6 / 32) ≤ 8
      · simp [h1, h2]
      · simp [h1, h2]
    · simp [h1]
theorem cs_loop (l : List S56) (nx : Int) (hl : l.length ≤ 10) (d : Nat) : ∀ (i k : Nat), i + d = l.length → 2 * d + 1 ≤ k →
    segment_CheckStore.l0 k l (l.length : Int) (i : Int) l nx = some (chkFrom l nx d i) := by
  induction d with
  | zero =>
    intro i k hi hk
    obtain ⟨k, rfl⟩ : ∃ m, k = m + 1 := ⟨k - 1, by omega⟩
    simp only [segment_CheckStore.l0, chkFrom]
    rw [if_neg (by omega)]
  | succ d ih =>
    intro i k hi hk
    obtain ⟨k, rfl⟩ : ∃ m, k = m + 1 := ⟨k - 1, by omega⟩
    obtain ⟨k, rfl⟩ : ∃ m, k = m + 1 := ⟨k - 1, by omega⟩
    have ih' := ih (i + 1) k (by omega) (by omega)
    have e1 : wrap64 ((i : Int) + 1) = ((i + 1 : Nat) : Int) := by rw [w64 (by omega) (by omega)]; omega
    simp only [segment_CheckStore.l0, within_eq, Option.bind_some, chkFrom, bad, decide_eq_true_eq]
    rw [if_pos (by omega), if_pos (by omega), if_pos (by omega)]
    by_cases h1 : 1 ≤ (rd_T56 l i).f0 ∧ (rd_T56 l i).f0 ≤ wrap64 (nx - 1)
    · rw [if_pos h1, if_neg (not_not_intro h1)]
      have fin : ∀ b : Bool, (b = true ↔ (0 < i ∧ (rd_T56 l i).f0 ≤ (rd_T56 l ((i : Int) - 1)).f0)) →
          segment_CheckStore.j1 (k + 1) (i : Int) ((rd_T56 l i).f1.size : Int) l (l.length : Int) (i : Int) b l nx =
          some (Option.elim (if 0 < i ∧ (rd_T56 l i).f0 ≤ (rd_T56 l ((i : Int) - 1)).f0 then some 14 else if ¬ (((rd_T56 l i).f1.size : Int) % 32 = 0 ∧ 1 ≤ wrap64 (((rd_T56 l i).f1.size : Int) / 32) ∧ wrap64 (((rd_T56 l i).f1.size : Int) / 32) ≤ 8) then some 18 else none : Option Int) (chkFrom l nx d (i + 1)) (fun e => ((i : Int), e))) := by
        intro b hb
        rw [cs_j1, e1, ih']
        generalize ((rd_T56 l i).f1.size : Int) = x6
        by_cases h2 : 0 < i ∧ (rd_T56 l i).f0 ≤ (rd_T56 l ((i : Int) - 1)).f0
        · rw [if_pos (hb.2 h2), if_pos h2]; rfl
        · rw [if_neg (fun h => h2 (hb.1 h)), if_neg h2]
          by_cases h3 : x6 % 32 = 0 ∧ 1 ≤ wrap64 (x6 / 32) ∧ wrap64 (x6 / 32) ≤ 8
          · rw [if_pos h3, if_neg (not_not_intro h3)]; rfl
          · rw [if_neg h3, if_pos h3]; rfl
      by_cases h0 : (i : Int) > 0
      · have e2 : wrap64 ((i : Int) - 1) = (i : Int) - 1 := w64 (by omega) (by omega)
        rw [if_pos h0, e2, if_pos (by omega), if_pos (by omega)]
        refine fin _ ?_
        rw [decide_eq_true_eq]
        exact ⟨fun h => ⟨by omega, h⟩, fun h => h.2⟩
      · rw [if_neg h0]
        refine fin _ ?_
        exact ⟨(fun h => by cases h), (fun h => by omega)⟩
    · rw [if_neg h1, if_pos h1]; rfl
theorem rc_loop (l : List S56) (nx : Int) (hl : l.length ≤ 10) (d : Nat) : ∀ (i k : Nat), i + d = l.length → 2 * d + 1 ≤ k →
    midrangeref04_Check.l0 k (i : Int) l nx = some (chkFrom l nx d i) := by
  induction d with
  | zero =>
    intro i k hi hk
    obtain ⟨k, rfl⟩ : ∃ m, k = m + 1 := ⟨k - 1, by omega⟩
    simp only [midrangeref04_Check.l0, chkFrom]
    rw [if_neg (by omega)]
  | succ d ih =>
    intro i k hi hk
    obtain ⟨k, rfl⟩ : ∃ m, k = m + 1 := ⟨k - 1, by omega⟩
    obtain ⟨k, rfl⟩ : ∃ m, k = m + 1 := ⟨k - 1, by omega⟩
    have ih' := ih (i + 1) k (by omega) (by omega)
    have e1 : wrap64 ((i : Int) + 1) = ((i + 1 : Nat) : Int) := by rw [w64 (by omega) (by omega)]; omega
    simp only [midrangeref04_Check.l0, Within_eq, Option.bind_some, chkFrom, bad, decide_eq_true_eq]
    rw [if_pos (by omega), if_pos (by omega)]
    by_cases h1 : 1 ≤ (rd_T56 l i).f0 ∧ (rd_T56 l i).f0 ≤ wrap64 (nx - 1)
    · rw [if_pos h1, if_neg (not_not_intro h1)]
      have fin : ∀ b : Bool, (b = true ↔ (0 < i ∧ (rd_T56 l i).f0 ≤ (rd_T56 l ((i : Int) - 1)).f0)) →
          midrangeref04_Check.j1 (k + 1) (i : Int) b l nx (rd_T56 l i).f0 (rd_T56 l i).f1 =
          some (Option.elim (if 0 < i ∧ (rd_T56 l i).f0 ≤ (rd_T56 l ((i : Int) - 1)).f0 then some 14 else if ¬ (((rd_T56 l i).f1.size : Int) % 32 = 0 ∧ 1 ≤ wrap64 (((rd_T56 l i).f1.size : Int) / 32) ∧ wrap64 (((rd_T56 l i).f1.size : Int) / 32) ≤ 8) then some 18 else none : Option Int) (chkFrom l nx d (i + 1)) (fun e => ((i : Int), e))) := by
        intro b hb
        rw [rc_j1, e1, ih']
        generalize ((rd_T56 l i).f1.size : Int) = x6
        by_cases h2 : 0 < i ∧ (rd_T56 l i).f0 ≤ (rd_T56 l ((i : Int) - 1)).f0
        · rw [if_pos (hb.2 h2), if_pos h2]; rfl
        · rw [if_neg (fun h => h2 (hb.1 h)), if_neg h2]
          by_cases h3 : x6 % 32 = 0 ∧ 1 ≤ wrap64 (x6 / 32) ∧ wrap64 (x6 / 32) ≤ 8
          · rw [if_pos h3, if_neg (not_not_intro h3)]; rfl
          · rw [if_neg h3, if_pos h3]; rfl
      by_cases h0 : (i : Int) > 0
      · have e2 : wrap64 ((i : Int) - 1) = (i : Int) - 1 := w64 (by omega) (by omega)
        rw [if_pos h0, e2, if_pos (by omega), if_pos (by omega)]
        refine fin _ ?_
        rw [decide_eq_true_eq]
        exact ⟨fun h => ⟨by omega, h⟩, fun h => h.2⟩
      · rw [if_neg h0]
        refine fin _ ?_
        exact ⟨(fun h => by cases h), (fun h => by omega)⟩
    · rw [if_neg h1, if_pos h1]; rfl
theorem check_eq (l : List S56) (nx : Int) (k : Nat) (hk : 21 ≤ k) : segment_CheckStore.f k l nx = some (chk l nx) := by
  unfold segment_CheckStore.f chk
  by_cases h : (l.length : Int) > 10
  · rw [if_pos h, if_pos (by omega)]
  · rw [if_neg h, if_neg (by omega), within_eq]
    simp only [Option.bind_some, decide_eq_true_eq]
    by_cases h2 : 1 ≤ nx ∧ nx ≤ 1001
    · rw [if_pos h2, if_neg (not_not_intro h2)]
      exact cs_loop l nx (by omega) l.length 0 k (by omega) (by omega)
    · rw [if_neg h2, if_pos h2]
theorem Check_eq (l : List S56) (nx : Int) (k : Nat) (hk : 21 ≤ k) : midrangeref04_Check.f k l nx = some (chk l nx) := by
  unfold midrangeref04_Check.f chk
  by_cases h : (l.length : Int) > 10
  · rw [if_pos h, if_pos (by omega)]
  · rw [if_neg h, if_neg (by omega), Within_eq]
    simp only [Option.bind_some, decide_eq_true_eq]
    by_cases h2 : 1 ≤ nx ∧ nx ≤ 1001
    · rw [if_pos h2, if_neg (not_not_intro h2)]
      exact rc_loop l nx (by omega) l.length 0 k (by omega) (by omega)
    · rw [if_neg h2, if_pos h2]
theorem Err_eq (l : List S56) (nx : Int) (k : Nat) (hk : 21 ≤ k) : midrangeref04_Err.f k l nx = some (chk l nx).2 := by
  unfold midrangeref04_Err.f
  rw [Check_eq l nx k hk]
  rfl

/-! ### The guard; copies -/
def small (l : List S56) : Prop := l.length ≤ 12 ∧ ∀ x ∈ l, x.f1.size ≤ 400
theorem few_loop (l : List S56) (nx : Int) (hl : l.length ≤ 12) (d : Nat) : ∀ (i k : Nat), i + d = l.length → d + 1 ≤ k →
    ∃ b, midrangelaw04_few.l0 k (i : Int) l nx = some b ∧ (b = true → ∀ x ∈ l.drop i, x.f1.size ≤ 400) := by
  induction d with
  | zero =>
    intro i k hi hk
    obtain ⟨k, rfl⟩ : ∃ m, k = m + 1 := ⟨k - 1, by omega⟩
    simp only [midrangelaw04_few.l0]
    rw [if_neg (by omega)]
    refine ⟨true, rfl, fun _ x hx => ?_⟩
    rw [List.drop_eq_nil_of_le (by omega)] at hx
    cases hx
  | succ d ih =>
    intro i k hi hk
    obtain ⟨k, rfl⟩ : ∃ m, k = m + 1 := ⟨k - 1, by omega⟩
    have e1 : wrap64 ((i : Int) + 1) = ((i + 1 : Nat) : Int) := by rw [w64 (by omega) (by omega)]; omega
    obtain ⟨b, hb, hx⟩ := ih (i + 1) k (by omega) (by omega)
    simp only [midrangelaw04_few.l0]
    rw [if_pos (by omega), if_pos (by omega), e1, hb]
    have hil : i < l.length := by omega
    have er : rd_T56 l (i : Int) = l[i] := by simp [rd_T56, hil]
    by_cases h : ((rd_T56 l (i : Int)).f1.size : Int) > 400
    · exact ⟨false, by rw [if_pos h], fun h => by cases h⟩
    · refine ⟨b, by rw [if_neg h], fun hb x hx' => ?_⟩
      rw [List.drop_eq_getElem_cons hil] at hx'
      rcases List.mem_cons.1 hx' with rfl | hx'
      · rw [er] at h; omega
      · exact hx hb x hx'
theorem few_eq (l : List S56) (nx : Int) (k : Nat) (hk : 14 ≤ k) : ∃ b, midrangelaw04_few.f k l nx = some b ∧ (b = true → small l) := by
  unfold midrangelaw04_few.f
  by_cases h : (l.length : Int) > 12
  · exact ⟨false, by rw [if_pos h], fun h => by cases h⟩
  · rw [if_neg h]
    obtain ⟨b, hb, hx⟩ := few_loop l nx (by omega) l.length 0 k (by omega) (by omega)
    exact ⟨b, hb, fun h' => ⟨by omega, by simpa using hx h'⟩⟩
theorem own_eq (l : List S56) (nx : Int) (hl : l.length ≤ 5864062014804) : midrangeref04_Own.f l nx = some (l, nx) := by
  unfold midrangeref04_Own.f
  rw [if_pos (by simp; omega)]
  rfl
theorem awake_eq (k : Nat) (hk : 60 ≤ k) : midrangelaw04_awake.f k = some true :=
  at_rounds (g := fun k => midrangelaw04_awake.f k) (fun k => midrangelaw04_awake.mono k) hk (by decide +kernel)
end Go.Proofs.Ytoabahlaicgmjaa.Q
end
section
namespace Go.Proofs.Ytoabahlaicgmjaa.X
open Go.Proofs.Ytoabahlaicgmjaa.XW
open Go.RowKit Go.Proofs.YtoabahlaicgmjaaW.PrintWords Go.Proofs.YtoabahlaicgmjaaW.PrintLast Go.Proofs.YtoabahlaicgmjaaW.PrintMore
attribute [local go_sem] max2_int min2_int max_two min_two max_three min_three max_four min_four   -- for this text's walks alone
set_option linter.unusedVariables false
set_option linter.unusedSimpArgs false

theorem eqA56 (d : Nat) (w : World) (x0 y0 : Int) (x1 y1 : ByteArray) :
    (Op.equalIn (d + 2) 56 (.agg #[.int .i64 x0, .string x1]) (.agg #[.int .i64 y0, .string y1])).run Try.prog w = .ok (x0 == y0 && (x1.toList == y1.toList)) w := by
  refine eqA_of Try.underlying56 (by kernel_rfl) ?_
  refine eqf_cons (by rfl) (by go_simp; rfl) (by go_simp; rfl) (by go_simp) ?_
  exact eqf_last (by rfl) (by go_simp; rfl) (by go_simp; rfl) (by go_simp)
end Go.Proofs.Ytoabahlaicgmjaa.X
end
section
namespace Go.Proofs.Ytoabahlaicgmjaa.X
open Go.Proofs.Ytoabahlaicgmjaa.XW
open Go.RowKit Go.Proofs.YtoabahlaicgmjaaW.PrintWords Go.Proofs.YtoabahlaicgmjaaW.PrintLast Go.Proofs.YtoabahlaicgmjaaW.PrintMore
attribute [local go_sem] max2_int min2_int max_two min_two max_three min_three max_four min_four   -- for this text's walks alone
set_option linter.unusedVariables false
set_option linter.unusedSimpArgs false

/-! ### midrangeref04_Place: function 58 -/
def midrangeref04_Place.l0 : Nat → Int → Int → List (S56) → Int → Option (Int)
  | 0, _, _, _, _ => none
  | k + 1, x1, x5, x221000, x221001 => if x5 < (x221000.length : Int) then (if 0 ≤ x5 then (if ((rd_T56 x221000 x5).f0) = x1 then (some x5) else (midrangeref04_Place.l0 k x1 (wrap64 (x5 + 1)) x221000 x221001)) else (none)) else (some (-1))
def midrangeref04_Place.f (k : Nat) (l0_0 : List (S56)) (a0_1 : Int) (a1 : Int) : Option (Int) := midrangeref04_Place.l0 k a1 0 l0_0 a0_1
end Go.Proofs.Ytoabahlaicgmjaa.X
end
section
namespace Go.Proofs.Ytoabahlaicgmjaa.X
open Go.Proofs.Ytoabahlaicgmjaa.XW
open Go.RowKit Go.Proofs.YtoabahlaicgmjaaW.PrintWords Go.Proofs.YtoabahlaicgmjaaW.PrintLast Go.Proofs.YtoabahlaicgmjaaW.PrintMore
attribute [local go_sem] max2_int min2_int max_two min_two max_three min_three max_four min_four   -- for this text's walks alone
set_option linter.unusedVariables false
set_option linter.unusedSimpArgs false

/-! ### midrangeref04_NumberErr: function 59 -/
def midrangeref04_NumberErr.f (k : Nat) (l0_0 : List (S56)) (a0_1 : Int) (a1 : Int) : Option (Int) := (midrangeref04_Place.f k l0_0 a0_1 a1).bind fun t223 => (if t223 = (-1) then ((midrangebase_Within.f a1 1 (wrap64 (a0_1 - 1))).bind fun t224 => (if t224 = true then (some 24) else (some 11))) else (some 0))
end Go.Proofs.Ytoabahlaicgmjaa.X
end
section
namespace Go.Proofs.Ytoabahlaicgmjaa.X
open Go.Proofs.Ytoabahlaicgmjaa.XW
open Go.RowKit Go.Proofs.YtoabahlaicgmjaaW.PrintWords Go.Proofs.YtoabahlaicgmjaaW.PrintLast Go.Proofs.YtoabahlaicgmjaaW.PrintMore
attribute [local go_sem] max2_int min2_int max_two min_two max_three min_three max_four min_four   -- for this text's walks alone
set_option linter.unusedVariables false
set_option linter.unusedSimpArgs false

/-! ### midrangeref04_known: function 45 -/
def midrangeref04_known.f (k : Nat) (l0_0 : List (S56)) (a0_1 : Int) (a1 : Int) : Option (Int × Int) := (midrangeref04_Err.f k l0_0 a0_1).bind fun t226 => (if t226 = 0 then ((midrangeref04_Place.f k l0_0 a0_1 a1).bind fun t227 => ((midrangeref04_NumberErr.f k l0_0 a0_1 a1).bind fun t228 => (some (t227, t228)))) else (some ((-1), t226)))
end Go.Proofs.Ytoabahlaicgmjaa.X
end
section
namespace Go.Proofs.Ytoabahlaicgmjaa.Q
open Go.RowKit Go.Proofs.Ytoabahlaicgmjaa.X Go.Proofs.YtoabahlaicgmjaaW.PrintWords Go.Proofs.YtoabahlaicgmjaaW.PrintLast Go.Proofs.YtoabahlaicgmjaaW.PrintMore
set_option linter.unusedVariables false
set_option linter.unusedSimpArgs false

/-! ### What a right store is -/
structure Right (l : List S56) (nx : Int) : Prop where
  len : l.length ≤ 10
  nx1 : 1 ≤ nx
  nx2 : nx ≤ 1001
  each : ∀ i, i < l.length → bad l nx i = none
theorem chkFrom_ok (l : List S56) (nx : Int) : ∀ (d i : Nat), (chkFrom l nx d i).2 = 0 → (chkFrom l nx d i).1 = 0 ∧ ∀ j, i ≤ j → j < i + d → bad l nx j = none
  | 0, i, _ => ⟨rfl, fun j h1 h2 => by omega⟩
  | d + 1, i, h => by
    unfold chkFrom at h ⊢
    cases hb : bad l nx i with
    | some e =>
      rw [hb] at h
      have he : e ≠ 0 := by
        unfold bad at hb
        split at hb
        · injection hb with hb; omega
        · split at hb
          · injection hb with hb; omega
          · split at hb
            · injection hb with hb; omega
            · cases hb
      exact absurd h he
    | none =>
      rw [hb] at h
      obtain ⟨h1, h2⟩ := chkFrom_ok l nx d (i + 1) h
      refine ⟨h1, fun j hj1 hj2 => ?_⟩
      rcases Nat.eq_or_lt_of_le hj1 with rfl | hj
      · exact hb
      · exact h2 j hj (by omega)
theorem right_of (l : List S56) (nx : Int) (h : (chk l nx).2 = 0) : Right l nx ∧ (chk l nx).1 = 0 := by
  unfold chk at h ⊢
  by_cases h1 : 10 < l.length
  · rw [if_pos h1] at h; exact absurd h (by decide)
  · rw [if_neg h1] at h ⊢
    by_cases h2 : ¬ (1 ≤ nx ∧ nx ≤ 1001)
    · rw [if_pos h2] at h; exact absurd h (by decide)
    · rw [if_neg h2] at h ⊢
      have h3 := Decidable.not_not.mp h2
      obtain ⟨h4, h5⟩ := chkFrom_ok l nx l.length 0 h
      exact ⟨⟨by omega, h3.1, h3.2, fun i hi => h5 i (by omega) (by omega)⟩, h4⟩
theorem bad_none {l : List S56} {nx : Int} {i : Nat} (h : bad l nx i = none) :
    (1 ≤ (rd_T56 l i).f0 ∧ (rd_T56 l i).f0 ≤ wrap64 (nx - 1)) ∧ (0 < i → (rd_T56 l ((i : Int) - 1)).f0 < (rd_T56 l i).f0) ∧
    (((rd_T56 l i).f1.size : Int) % 32 = 0 ∧ 1 ≤ wrap64 (((rd_T56 l i).f1.size : Int) / 32) ∧ wrap64 (((rd_T56 l i).f1.size : Int) / 32) ≤ 8) := by
  unfold bad at h
  split at h
  · cases h
  · rename_i h1
    split at h
    · cases h
    · rename_i h2
      split at h
      · cases h
      · rename_i h3
        refine ⟨Decidable.not_not.mp h1, fun hi => ?_, Decidable.not_not.mp h3⟩
        have : ¬ (rd_T56 l i).f0 ≤ (rd_T56 l ((i : Int) - 1)).f0 := fun h => h2 ⟨hi, h⟩
        omega
theorem Right.num {l : List S56} {nx : Int} (h : Right l nx) (i : Nat) (hi : i < l.length) : 1 ≤ (rd_T56 l i).f0 ∧ (rd_T56 l i).f0 ≤ 1000 := by
  have h1 := (bad_none (h.each i hi)).1
  have h2 := h.nx1
  have h3 := h.nx2
  rw [w64 (by omega) (by omega)] at h1
  omega
theorem Right.mono {l : List S56} {nx : Int} (h : Right l nx) (i : Nat) : ∀ j, i < j → j < l.length → (rd_T56 l i).f0 < (rd_T56 l j).f0
  | 0, h1, _ => by omega
  | j + 1, h1, h2 => by
    have h3 := (bad_none (h.each (j + 1) h2)).2.1 (by omega)
    rw [show (((j + 1 : Nat) : Int) - 1) = (j : Int) by omega] at h3
    rcases Nat.eq_or_lt_of_le (Nat.le_of_lt_succ h1) with rfl | h4
    · exact h3
    · have := Right.mono h i j h4 (by omega)
      omega

/-! ### The binary search -/
theorem bs_step (k : Nat) (l : List S56) (n len lo hi m : Int) (em : wrap64 ((IntKind.u64.wrap (wrap64 (lo + hi))) / 2) = m) (h : lo < hi) (h0 : 0 ≤ m) (h1 : m < (l.length : Int)) :
    slices_BinarySearchFunc_at_segment_find_1.l0 (k + 1) l n len lo hi = if wrap64 ((rd_T56 l m).f0 - n) < 0 then slices_BinarySearchFunc_at_segment_find_1.l0 k l n len (wrap64 (m + 1)) hi else slices_BinarySearchFunc_at_segment_find_1.l0 k l n len lo m := by
  rw [slices_BinarySearchFunc_at_segment_find_1.l0, em, if_pos h, if_pos h0, if_pos h1, segment_find_1.f, Option.bind_some]
theorem bs_end (k : Nat) (l : List S56) (n lo hi : Int) (h : ¬ lo < hi) (h0 : 0 ≤ lo) :
    slices_BinarySearchFunc_at_segment_find_1.l0 (k + 1) l n (l.length : Int) lo hi = if lo < (l.length : Int) then some (lo, wrap64 ((rd_T56 l lo).f0 - n) == 0) else some (lo, false) := by
  rw [slices_BinarySearchFunc_at_segment_find_1.l0, if_neg h]
  by_cases h1 : lo < (l.length : Int)
  · rw [if_pos h1, if_pos h1, if_pos h0, if_pos h1, segment_find_1.f, Option.bind_some]
  · rw [if_neg h1, if_neg h1]
theorem mid_eq (lo hi : Nat) (h : hi ≤ 10) (h2 : lo ≤ hi) : wrap64 ((IntKind.u64.wrap (wrap64 ((lo : Int) + (hi : Int)))) / 2) = (((lo + hi) / 2 : Nat) : Int) := by
  have h3 : wrap64 ((lo : Int) + (hi : Int)) = ((lo + hi : Nat) : Int) := by rw [w64 (by omega) (by omega)]; omega
  rw [h3]
  have h4 : lo + hi ≤ 20 := by omega
  generalize lo + hi = q at *
  have h5 : IntKind.u64.wrap (q : Int) = (q : Int) := by
    have h6 : IntKind.u64.wrap (q : Int) = (q : Int) % 18446744073709551616 := by simp [IntKind.wrap, IntKind.signed, IntKind.bits]
    rw [h6]
    omega
  rw [h5, w64 (by omega) (by omega)]
  omega
theorem bs_sub_neg {x n : Int} (hn : -9223372036854775808 ≤ n ∧ n ≤ 9223372036854775807) (hx : 1 ≤ x ∧ x ≤ 1000) (h : wrap64 (x - n) < 0) : ¬ (1 ≤ n ∧ n ≤ x) := by
  intro h1
  rw [w64 (by omega) (by omega)] at h
  omega
theorem bs_sub_pos {x n : Int} (hn : -9223372036854775808 ≤ n ∧ n ≤ 9223372036854775807) (hx : 1 ≤ x ∧ x ≤ 1000) (h : ¬ wrap64 (x - n) < 0) : ¬ (x < n ∧ n ≤ 1000) := by
  intro h1
  rw [w64 (by omega) (by omega)] at h
  omega
theorem bs_sub_zero {x n : Int} (hn : -9223372036854775808 ≤ n ∧ n ≤ 9223372036854775807) (hx : 1 ≤ x ∧ x ≤ 1000) (h : (wrap64 (x - n) == 0) = true) : x = n := by
  have h' := eq_of_beq h
  unfold wrap64 at h'
  omega
theorem wsucc (m : Nat) (h : m < 10000) : wrap64 ((m : Int) + 1) = ((m + 1 : Nat) : Int) := by
  rw [w64 (by omega) (by omega)]
  omega
theorem bs_sub_self (n : Int) : (wrap64 (n - n) == 0) = true := by
  rw [Int.sub_self, w64 (by omega) (by omega)]; rfl
theorem bs_fin (l : List S56) (n : Int) (hn : -9223372036854775808 ≤ n ∧ n ≤ 9223372036854775807) (hnum : ∀ i : Nat, i < l.length → 1 ≤ (rd_T56 l (i : Int)).f0 ∧ (rd_T56 l (i : Int)).f0 ≤ 1000)
    (lo k : Nat) (hlo : lo ≤ l.length) : ∃ (i : Nat) (b : Bool), slices_BinarySearchFunc_at_segment_find_1.l0 (k + 1) l n (l.length : Int) (lo : Int) (lo : Int) = some ((i : Int), b) ∧ i ≤ l.length ∧
      (b = true → i < l.length ∧ (rd_T56 l (i : Int)).f0 = n) ∧ (∀ j : Nat, lo ≤ j → j < lo → (rd_T56 l (j : Int)).f0 = n → b = true) ∧ (lo < l.length → (rd_T56 l (lo : Int)).f0 = n → b = true) := by
  rw [bs_end k l n lo lo (by omega) (by omega)]
  by_cases h : lo < l.length
  · rw [if_pos (by omega)]
    have h1 := hnum lo h
    refine ⟨lo, _, rfl, hlo, fun hb => ⟨h, bs_sub_zero hn h1 hb⟩, fun j h2 h3 => by omega, fun _ he => ?_⟩
    rw [he]
    exact bs_sub_self n
  · rw [if_neg (by omega)]
    exact ⟨lo, false, rfl, hlo, (fun hb => by cases hb), (fun j h2 h3 => by omega), (fun h2 => by omega)⟩
theorem bs_loop (l : List S56) (n : Int) (hl : l.length ≤ 10) (hn : -9223372036854775808 ≤ n ∧ n ≤ 9223372036854775807) (hnum : ∀ i : Nat, i < l.length → 1 ≤ (rd_T56 l (i : Int)).f0 ∧ (rd_T56 l (i : Int)).f0 ≤ 1000)
    (hmono : ∀ i j : Nat, i < j → j < l.length → (rd_T56 l (i : Int)).f0 < (rd_T56 l (j : Int)).f0) (d : Nat) : ∀ (lo hi k : Nat), lo ≤ hi → hi ≤ l.length → hi - lo ≤ d → d + 1 ≤ k →
    ∃ (i : Nat) (b : Bool), slices_BinarySearchFunc_at_segment_find_1.l0 k l n (l.length : Int) (lo : Int) (hi : Int) = some ((i : Int), b) ∧ i ≤ l.length ∧
      (b = true → i < l.length ∧ (rd_T56 l (i : Int)).f0 = n) ∧ (∀ j : Nat, lo ≤ j → j < hi → (rd_T56 l (j : Int)).f0 = n → b = true) ∧ (hi < l.length → (rd_T56 l (hi : Int)).f0 = n → b = true) := by
  induction d with
  | zero =>
    intro lo hi k h1 h2 h3 hk
    obtain rfl : hi = lo := by omega
    obtain ⟨k, rfl⟩ : ∃ m, k = m + 1 := ⟨k - 1, by omega⟩
    exact bs_fin l n hn hnum hi k h2
  | succ d ih =>
    intro lo hi k h1 h2 h3 hk
    obtain ⟨k, rfl⟩ : ∃ m, k = m + 1 := ⟨k - 1, by omega⟩
    rcases Nat.eq_or_lt_of_le h1 with rfl | h4
    · exact bs_fin l n hn hnum lo k h2
    · obtain ⟨m, em, hm1, hm2⟩ : ∃ m : Nat, wrap64 ((IntKind.u64.wrap (wrap64 ((lo : Int) + (hi : Int)))) / 2) = (m : Int) ∧ m < hi ∧ lo ≤ m := ⟨(lo + hi) / 2, mid_eq lo hi (by omega) h1, by omega, by omega⟩
      have hy := hnum m (by omega)
      have hmz : (0 : Int) ≤ (m : Int) := Int.natCast_nonneg m
      have hml : (m : Int) < (l.length : Int) := Int.ofNat_lt.mpr (Nat.lt_of_lt_of_le hm1 h2)
      have hlh : (lo : Int) < (hi : Int) := Int.ofNat_lt.mpr h4
      rw [bs_step k l n _ _ _ _ em hlh hmz hml]
      clear em
      by_cases hlt : wrap64 ((rd_T56 l (m : Int)).f0 - n) < 0
      · rw [if_pos hlt, wsucc m (by clear hlt; omega)]
        have hneg := bs_sub_neg hn hy hlt
        clear hlt
        obtain ⟨i, b, hr, hi1, hi2, hi3, hi4⟩ := ih (m + 1) hi k (by omega) h2 (by omega) (by omega)
        refine ⟨i, b, hr, hi1, hi2, fun j hj1 hj2 hj3 => ?_, hi4⟩
        rcases Nat.lt_or_ge m j with hj | hj
        · exact hi3 j (by omega) hj2 hj3
        · exfalso
          have h5 := hnum j (by omega)
          have h6 : (rd_T56 l (j : Int)).f0 ≤ (rd_T56 l (m : Int)).f0 := by
            rcases Nat.eq_or_lt_of_le hj with rfl | hj
            · exact Int.le_refl _
            · exact Int.le_of_lt (hmono j m hj (by omega))
          exact hneg ⟨by omega, by omega⟩
      · rw [if_neg hlt]
        have hneg := bs_sub_pos hn hy hlt
        clear hlt
        obtain ⟨i, b, hr, hi1, hi2, hi3, hi4⟩ := ih lo m k (by omega) (by omega) (by omega) (by omega)
        have hge : ∀ j : Nat, m ≤ j → j < l.length → (rd_T56 l (j : Int)).f0 = n → b = true := by
          intro j hj1 hj2 hj3
          rcases Nat.eq_or_lt_of_le hj1 with rfl | hj
          · exact hi4 (by omega) hj3
          · exfalso
            have h5 := hnum j hj2
            have h6 := hmono m j hj hj2
            exact hneg ⟨by omega, by omega⟩
        refine ⟨i, b, hr, hi1, hi2, fun j hj1 hj2 hj3 => ?_, fun hh he => hge hi (by omega) hh he⟩
        rcases Nat.lt_or_ge j m with hj | hj
        · exact hi3 j hj1 hj hj3
        · exact hge j hj (by omega) hj3

/-! ### The linear search -/
theorem place_loop (l : List S56) (nx n : Int) (hl : l.length ≤ 10) (d : Nat) : ∀ (i k : Nat), i + d = l.length → d + 1 ≤ k →
    (∃ j, i ≤ j ∧ j < l.length ∧ (rd_T56 l j).f0 = n ∧ midrangeref04_Place.l0 k n (i : Int) l nx = some (j : Int)) ∨ ((∀ j, i ≤ j → j < l.length → (rd_T56 l j).f0 ≠ n) ∧ midrangeref04_Place.l0 k n (i : Int) l nx = some (-1)) := by
  induction d with
  | zero =>
    intro i k hi hk
    obtain ⟨k, rfl⟩ : ∃ m, k = m + 1 := ⟨k - 1, by omega⟩
    right
    refine ⟨fun j h1 h2 => by omega, ?_⟩
    rw [midrangeref04_Place.l0, if_neg (by omega)]
  | succ d ih =>
    intro i k hi hk
    obtain ⟨k, rfl⟩ : ∃ m, k = m + 1 := ⟨k - 1, by omega⟩
    have e1 : wrap64 ((i : Int) + 1) = ((i + 1 : Nat) : Int) := by rw [w64 (by omega) (by omega)]; omega
    rw [midrangeref04_Place.l0, if_pos (by omega), if_pos (by omega), e1]
    by_cases h : (rd_T56 l i).f0 = n
    · rw [if_pos h]
      exact .inl ⟨i, Nat.le_refl _, by omega, h, rfl⟩
    · rw [if_neg h]
      rcases ih (i + 1) k (by omega) (by omega) with ⟨j, h1, h2, h3, h4⟩ | ⟨h1, h2⟩
      · exact .inl ⟨j, by omega, h2, h3, h4⟩
      · refine .inr ⟨fun j h3 h4 => ?_, h2⟩
        rcases Nat.eq_or_lt_of_le h3 with rfl | h5
        · exact h
        · exact h1 j h5 h4

/-- What both know of a segment: its place, or one error. -/
theorem find_known (l : List S56) (nx n : Int) (k : Nat) (hk : 40 ≤ k) (hn : -9223372036854775808 ≤ n ∧ n ≤ 9223372036854775807) :
    (∃ (e p : Int), e ≠ 0 ∧ segment_find.f k l nx n = some (0, e) ∧ midrangeref04_known.f k l nx n = some (p, e)) ∨
    (∃ j : Nat, j < l.length ∧ (rd_T56 l j).f0 = n ∧ Right l nx ∧ segment_find.f k l nx n = some ((j : Int), 0) ∧ midrangeref04_known.f k l nx n = some ((j : Int), 0)) := by
  unfold segment_find.f midrangeref04_known.f
  rw [check_eq l nx k (by omega), Err_eq l nx k (by omega), Option.bind_some, Option.bind_some]
  by_cases h : (chk l nx).2 = 0
  · rw [if_pos h, if_pos h]
    obtain ⟨R, _⟩ := right_of l nx h
    have hpl : midrangeref04_Place.f k l nx n = midrangeref04_Place.l0 k n ((0 : Nat) : Int) l nx := rfl
    obtain ⟨i, b, hb, hb1, hb2, hb3, _⟩ := bs_loop l n R.len hn R.num (fun i j => R.mono i j) l.length 0 l.length k (by omega) (Nat.le_refl _) (by omega) (by have := R.len; omega)
    have hb0 : slices_BinarySearchFunc_at_segment_find_1.f k l n = some ((i : Int), b) := hb
    rw [hb0, Option.bind_some, within_eq, Option.bind_some]
    rcases place_loop l nx n R.len l.length 0 k (by omega) (by have := R.len; omega) with ⟨j, h1, h2, h3, h4⟩ | ⟨h1, h2⟩
    · right
      have hbt := hb3 j h1 h2 h3
      obtain ⟨hi1, hi2⟩ := hb2 hbt
      have hij : i = j := by
        rcases Nat.lt_trichotomy i j with h5 | h5 | h5
        · have := R.mono i j h5 h2; omega
        · exact h5
        · have := R.mono j i h5 hi1; omega
      subst hij
      refine ⟨i, h2, h3, R, by rw [if_pos hbt], ?_⟩
      rw [hpl, h4, Option.bind_some, midrangeref04_NumberErr.f, hpl, h4, Option.bind_some, if_neg (by omega)]
      rfl
    · left
      have hbf : b = false := by
        cases b with
        | false => rfl
        | true => exact absurd (hb2 rfl).2 (h1 i (Nat.zero_le _) (hb2 rfl).1)
      subst hbf
      rw [if_neg (by simp), hpl, h2, Option.bind_some, midrangeref04_NumberErr.f, hpl, h2, Option.bind_some, if_pos rfl, Within_eq, Option.bind_some]
      simp only [decide_eq_true_eq]
      by_cases h5 : 1 ≤ n ∧ n ≤ wrap64 (nx - 1)
      · rw [if_pos h5, if_pos h5]
        exact ⟨24, -1, by decide, rfl, rfl⟩
      · rw [if_neg h5, if_neg h5]
        exact ⟨11, -1, by decide, rfl, rfl⟩
  · rw [if_neg h, if_neg h]
    exact .inl ⟨_, -1, h, rfl, rfl⟩

/-! ### Pages of zeros; whether two answers are one -/
end Go.Proofs.Ytoabahlaicgmjaa.Q
end
section
namespace Go.Proofs.Ytoabahlaicgmjaa.Q
open Go.RowKit Go.Proofs.Ytoabahlaicgmjaa.X Go.Proofs.YtoabahlaicgmjaaW.PrintWords Go.Proofs.YtoabahlaicgmjaaW.PrintLast Go.Proofs.YtoabahlaicgmjaaW.PrintMore
set_option linter.unusedVariables false
set_option linter.unusedSimpArgs false

/-! ### A segment created, destroyed -/
theorem clone_eq (l : List S56) (hl : l.length ≤ 1000) : api_Segment_38.f l = some l := by
  unfold api_Segment_38.f
  rw [if_pos (by omega)]
end Go.Proofs.Ytoabahlaicgmjaa.Q
end
section
namespace Go.Proofs.Ytoabahlaicgmjaa.X
open Go.Proofs.Ytoabahlaicgmjaa.XW
open Go.RowKit Go.Proofs.YtoabahlaicgmjaaW.PrintWords Go.Proofs.YtoabahlaicgmjaaW.PrintLast Go.Proofs.YtoabahlaicgmjaaW.PrintMore
attribute [local go_sem] max2_int min2_int max_two min_two max_three min_three max_four min_four   -- for this text's walks alone
set_option linter.unusedVariables false
set_option linter.unusedSimpArgs false

/-! ### midrangeref04_with: function 48 -/
def midrangeref04_with.f (l0_0 : List (S56)) (a0_1 : Int) (a1 : Int) (a2 : ByteArray) : Option ((List (S56)) × Int) := (midrangeref04_Own.f l0_0 a0_1).bind fun bt348 => (if 0 ≤ a1 then (if a1 < (bt348.1.length : Int) then (some ((bt348.1.set (a1 : Int).toNat (⟨(rd_T56 bt348.1 a1).f0, a2⟩ : S56)), bt348.2)) else (none)) else (none))
end Go.Proofs.Ytoabahlaicgmjaa.X
end
section
namespace Go.Proofs.Ytoabahlaicgmjaa.X
open Go.Proofs.Ytoabahlaicgmjaa.XW
open Go.RowKit Go.Proofs.YtoabahlaicgmjaaW.PrintWords Go.Proofs.YtoabahlaicgmjaaW.PrintLast Go.Proofs.YtoabahlaicgmjaaW.PrintMore
attribute [local go_sem] max2_int min2_int max_two min_two max_three min_three max_four min_four   -- for this text's walks alone
set_option linter.unusedVariables false
set_option linter.unusedSimpArgs false

/-! ### midrangeref04_reach: function 50 -/
def midrangeref04_reach.f (k : Nat) (l0_0 : List (S56)) (a0_1 : Int) (a1_0 : Int) (a1_1 : Int) (a2 : Int) : Option (Int × Int) := (midrangeref04_known.f k l0_0 a0_1 a1_0).bind fun bt461 => (if bt461.2 = 0 then (if 0 ≤ bt461.1 then (if bt461.1 < (l0_0.length : Int) then ((midrangebase_Within.f a1_1 0 (((rd_T56 l0_0 bt461.1).f1).size : Int)).bind fun t464 => (if t464 = true then ((midrangebase_Within.f a2 0 (wrap64 ((((rd_T56 l0_0 bt461.1).f1).size : Int) - a1_1))).bind fun t465 => (if t465 = true then (some (bt461.1, 0)) else (some (bt461.1, 3)))) else (some (bt461.1, 3)))) else (none)) else (none)) else (some (bt461.1, bt461.2)))
end Go.Proofs.Ytoabahlaicgmjaa.X
end
section
namespace Go.Proofs.Ytoabahlaicgmjaa.X
open Go.Proofs.Ytoabahlaicgmjaa.XW
open Go.RowKit Go.Proofs.YtoabahlaicgmjaaW.PrintWords Go.Proofs.YtoabahlaicgmjaaW.PrintLast Go.Proofs.YtoabahlaicgmjaaW.PrintMore
attribute [local go_sem] max2_int min2_int max_two min_two max_three min_three max_four min_four   -- for this text's walks alone
set_option linter.unusedVariables false
set_option linter.unusedSimpArgs false

/-! ### midrangebase_Patched: function 51 -/
def midrangebase_Patched.f (a0 : ByteArray) (a1 : Int) (a2 : ByteArray) : Option (ByteArray) := if 0 ≤ a1 then (if a1 ≤ (a0.size : Int) then (if (a1 : Int).toNat + a2.size ≤ 9223372036854775807 then (if 0 ≤ (wrap64 (a1 + (a2.size : Int))) then (if (wrap64 (a1 + (a2.size : Int))) ≤ (a0.size : Int) then (if (a1 : Int).toNat + a2.size + (a0.size - ((wrap64 (a1 + (a2.size : Int))) : Int).toNat) ≤ 9223372036854775807 then (some (((a0.extract 0 (a1 : Int).toNat) ++ a2) ++ (a0.extract ((wrap64 (a1 + (a2.size : Int))) : Int).toNat a0.size))) else (none)) else (none)) else (none)) else (none)) else (none)) else (none)
end Go.Proofs.Ytoabahlaicgmjaa.X
end
section
namespace Go.Proofs.Ytoabahlaicgmjaa.X
open Go.Proofs.Ytoabahlaicgmjaa.XW
open Go.RowKit Go.Proofs.YtoabahlaicgmjaaW.PrintWords Go.Proofs.YtoabahlaicgmjaaW.PrintLast Go.Proofs.YtoabahlaicgmjaaW.PrintMore
attribute [local go_sem] max2_int min2_int max_two min_two max_three min_three max_four min_four   -- for this text's walks alone
set_option linter.unusedVariables false
set_option linter.unusedSimpArgs false

/-! ### midrangeref04_Written: function 29 -/
def midrangeref04_Written.f (k : Nat) (l0_0 : List (S56)) (a0_1 : Int) (a1_0 : Int) (a1_1 : Int) (a2 : ByteArray) : Option ((List (S56)) × Int × Int × ByteArray × Int) := (midrangeref04_reach.f k l0_0 a0_1 a1_0 a1_1 (a2.size : Int)).bind fun bt475 => (if bt475.2 = 0 then (if 0 ≤ bt475.1 then (if bt475.1 < (l0_0.length : Int) then ((midrangebase_Patched.f ((rd_T56 l0_0 bt475.1).f1) a1_1 a2).bind fun t478 => ((midrangeref04_with.f l0_0 a0_1 bt475.1 t478).bind fun bt479 => (some (bt479.1, bt479.2, 0, (⟨#[]⟩ : ByteArray), 0)))) else (none)) else (none)) else (some (([] : List (S56)), 0, 0, (⟨#[]⟩ : ByteArray), bt475.2)))
end Go.Proofs.Ytoabahlaicgmjaa.X
end
section
namespace Go.Proofs.Ytoabahlaicgmjaa.Q
open Go.RowKit Go.Proofs.Ytoabahlaicgmjaa.X Go.Proofs.YtoabahlaicgmjaaW.PrintWords Go.Proofs.YtoabahlaicgmjaaW.PrintLast Go.Proofs.YtoabahlaicgmjaaW.PrintMore
set_option linter.unusedVariables false
set_option linter.unusedSimpArgs false

/-! ### Extended, truncated; bytes read and written: both sides alike -/
theorem with_eq (l : List S56) (nx : Int) (j : Nat) (b : ByteArray) (hl : l.length ≤ 12) (hj : j < l.length) :
    segment_with.f l nx (j : Int) b = some (l.set j ⟨(rd_T56 l (j : Int)).f0, b⟩, nx) ∧ midrangeref04_with.f l nx (j : Int) b = some (l.set j ⟨(rd_T56 l (j : Int)).f0, b⟩, nx) := by
  have h0 : (0 : Int) ≤ (j : Int) := Int.natCast_nonneg j
  have h1 : (j : Int) < (l.length : Int) := Int.ofNat_lt.mpr hj
  constructor
  · unfold segment_with.f
    rw [clone_eq l (by omega), Option.bind_some, if_pos h0, if_pos h1]
    rfl
  · unfold midrangeref04_with.f
    rw [own_eq l nx (by omega), Option.bind_some, if_pos h0, if_pos h1]
    rfl
theorem rd_mem (l : List S56) (j : Nat) (hj : j < l.length) : rd_T56 l (j : Int) ∈ l := by
  have : rd_T56 l (j : Int) = l.getD j z56 := rfl
  rw [this, List.getD_eq_getElem?_getD, List.getElem?_eq_getElem hj]
  exact List.getElem_mem hj
theorem size_of {l : List S56} {nx : Int} (R : Right l nx) (hx : ∀ y ∈ l, ok56 y) (j : Nat) (hj : j < l.length) :
    ∃ q : Nat, (rd_T56 l (j : Int)).f1.size = q * 32 ∧ 1 ≤ q ∧ q ≤ 8 := by
  have h1 := (bad_none (R.each j hj)).2.2
  have h2 := (hx _ (rd_mem l j hj)).2
  generalize (rd_T56 l (j : Int)).f1.size = s at h1 h2
  obtain ⟨ha, hb, hc⟩ := h1
  rw [w64 (by omega) (by omega)] at hb hc
  exact ⟨s / 32, by omega, by omega, by omega⟩
/-- The place that both reach, or one error. -/
theorem reach_both (l : List S56) (nx n o c : Int) (k : Nat) (hk : 400 ≤ k) (hx : ∀ y ∈ l, ok56 y) (hn : -9223372036854775808 ≤ n ∧ n ≤ 9223372036854775807) (hc : c ≤ 9223372036854775807) :
    (∃ (e p p' : Int), e ≠ 0 ∧ segment_bytesAt.f k l nx n o c = some (p, e) ∧ midrangeref04_reach.f k l nx n o c = some (p', e)) ∨
    (∃ (j q : Nat), j < l.length ∧ (rd_T56 l (j : Int)).f0 = n ∧ Right l nx ∧ (rd_T56 l (j : Int)).f1.size = q ∧ q ≤ 256 ∧ 0 ≤ o ∧ 0 ≤ c ∧ o + c ≤ (q : Int) ∧ segment_bytesAt.f k l nx n o c = some ((j : Int), 0) ∧ midrangeref04_reach.f k l nx n o c = some ((j : Int), 0)) := by
  unfold segment_bytesAt.f midrangeref04_reach.f
  rcases find_known l nx n k (by omega) hn with ⟨e, p, he, h1, h2⟩ | ⟨j, hj, hjn, R, h1, h2⟩
  · left
    rw [h1, h2, Option.bind_some, Option.bind_some, if_neg he, if_neg he]
    exact ⟨e, 0, p, he, rfl, rfl⟩
  · obtain ⟨q, hq, hq1, hq8⟩ := size_of R hx j hj
    have h0 : (0 : Int) ≤ (j : Int) := Int.natCast_nonneg j
    have hjl : (j : Int) < (l.length : Int) := Int.ofNat_lt.mpr hj
    rw [h1, h2, Option.bind_some, Option.bind_some, if_pos rfl, if_pos rfl, if_pos h0, if_pos h0, if_pos hjl, if_pos hjl, hq, within_eq, Within_eq, Option.bind_some, Option.bind_some, within_eq, Within_eq, Option.bind_some, Option.bind_some]
    simp only [decide_eq_true_eq]
    by_cases h3 : 0 ≤ o ∧ o ≤ ((q * 32 : Nat) : Int)
    · rw [w64 (x := ((q * 32 : Nat) : Int) - o) (by omega) (by omega), if_pos h3, if_pos h3]
      by_cases h4 : 0 ≤ c ∧ c ≤ ((q * 32 : Nat) : Int) - o
      · rw [if_pos h4, if_pos h4]
        exact .inr ⟨j, q * 32, hj, hjn, R, hq, by omega, h3.1, h4.1, by omega, rfl, rfl⟩
      · rw [if_neg h4, if_neg h4]
        exact .inl ⟨3, 0, _, by decide, rfl, rfl⟩
    · rw [if_neg h3, if_neg h3]
      exact .inl ⟨3, 0, _, by decide, rfl, rfl⟩
def patched (s : ByteArray) (o : Int) (t : ByteArray) : ByteArray := s.extract 0 o.toNat ++ t ++ s.extract (o + (t.size : Int)).toNat s.size
theorem written_both (l : List S56) (nx n o : Int) (t : ByteArray) (k : Nat) (hk : 400 ≤ k) (hx : ∀ y ∈ l, ok56 y) (h12 : l.length ≤ 12) (hn : -9223372036854775808 ≤ n ∧ n ≤ 9223372036854775807) (ht : t.size ≤ 9223372036854775807) :
    (∃ e : Int, e ≠ 0 ∧ segment_Written.f k l nx n o t = some ([], 0, e) ∧ midrangeref04_Written.f k l nx n o t = some ([], 0, 0, ⟨#[]⟩, e)) ∨
    (∃ j : Nat, j < l.length ∧ (rd_T56 l (j : Int)).f0 = n ∧ Right l nx ∧ 0 ≤ o ∧ o + (t.size : Int) ≤ ((rd_T56 l (j : Int)).f1.size : Int) ∧ (rd_T56 l (j : Int)).f1.size ≤ 256 ∧
      segment_Written.f k l nx n o t = some (l.set j ⟨(rd_T56 l (j : Int)).f0, patched (rd_T56 l (j : Int)).f1 o t⟩, nx, 0) ∧ midrangeref04_Written.f k l nx n o t = some (l.set j ⟨(rd_T56 l (j : Int)).f0, patched (rd_T56 l (j : Int)).f1 o t⟩, nx, 0, ⟨#[]⟩, 0)) := by
  unfold segment_Written.f midrangeref04_Written.f
  rcases reach_both l nx n o t.size k hk hx hn (by omega) with ⟨e, p, p', he, h1, h2⟩ | ⟨j, q, hj, hjn, R, hq, hq8, ho, hc0, hoc, h1, h2⟩
  · rw [h1, h2, Option.bind_some, Option.bind_some, if_neg he, if_neg he]
    exact .inl ⟨e, he, rfl, rfl⟩
  · right
    have h0 : (0 : Int) ≤ (j : Int) := Int.natCast_nonneg j
    have hjl : (j : Int) < (l.length : Int) := Int.ofNat_lt.mpr hj
    have hoc1 : o ≤ (q : Int) := by omega
    have hoc0 : 0 ≤ o + (t.size : Int) := by omega
    have h5 : o.toNat + t.size ≤ 9223372036854775807 := by omega
    have h6 : o.toNat + t.size + (q - (o + (t.size : Int)).toNat) ≤ 9223372036854775807 := by omega
    obtain ⟨w1, w2⟩ := with_eq l nx j (patched (rd_T56 l (j : Int)).f1 o t) h12 hj
    unfold patched at w1 w2
    unfold patched midrangebase_Patched.f
    rw [hq] at w1 w2
    refine ⟨j, hj, hjn, R, ho, by rw [hq]; exact hoc, by rw [hq]; exact hq8, ?_⟩
    rw [h1, h2, Option.bind_some, Option.bind_some, w64 (x := o + (t.size : Int)) (by omega) (by omega), if_pos rfl, if_pos rfl, if_pos h0, if_pos h0, if_pos hjl, if_pos hjl, hq, if_pos ho, if_pos ho, if_pos hoc1, if_pos hoc1, if_pos h5, if_pos h5, if_pos hoc0, if_pos hoc0, if_pos hoc, if_pos hoc, if_pos h6, if_pos h6, w1, Option.bind_some, Option.bind_some, w2]
    exact ⟨rfl, rfl⟩
end Go.Proofs.Ytoabahlaicgmjaa.Q
end
section
namespace Go.Proofs.Ytoabahlaicgmjaa.Q
open Go.RowKit Go.Proofs.Ytoabahlaicgmjaa.X Go.Proofs.YtoabahlaicgmjaaW.PrintWords Go.Proofs.YtoabahlaicgmjaaW.PrintLast
set_option linter.unusedVariables false

/-! ### What was written is read -/
theorem rd_set (l : List S56) (j : Nat) (y : S56) (i : Nat) (hj : j < l.length) : rd_T56 (l.set j y) (i : Int) = if j = i then y else rd_T56 l (i : Int) := by
  show (l.set j y).getD i z56 = if j = i then y else l.getD i z56
  rw [List.getD_eq_getElem?_getD, List.getD_eq_getElem?_getD, List.getElem?_set]
  by_cases h : j = i
  · rw [if_pos h, if_pos h, if_pos hj]; rfl
  · rw [if_neg h, if_neg h]
theorem bad_congr (l l' : List S56) (nx : Int) (h : ∀ i : Nat, (rd_T56 l' i).f0 = (rd_T56 l i).f0 ∧ (rd_T56 l' i).f1.size = (rd_T56 l i).f1.size) (i : Nat) : bad l' nx i = bad l nx i := by
  unfold bad
  obtain ⟨h1, h2⟩ := h i
  have h3 : (rd_T56 l' ((i : Int) - 1)).f0 = (rd_T56 l ((i : Int) - 1)).f0 := by
    have : rd_T56 l' ((i : Int) - 1) = rd_T56 l' ((((i : Int) - 1).toNat : Nat) : Int) := rfl
    rw [this, (h _).1]; rfl
  rw [h1, h2, h3]
theorem chkFrom_right (l : List S56) (nx : Int) : ∀ d i, (∀ j, i ≤ j → j < i + d → bad l nx j = none) → chkFrom l nx d i = (0, 0)
  | 0, _, _ => rfl
  | d + 1, i, h => by
    unfold chkFrom
    rw [h i (by omega) (by omega)]
    exact chkFrom_right l nx d (i + 1) (fun j h1 h2 => h j (by omega) (by omega))
theorem Right.chk {l : List S56} {nx : Int} (R : Right l nx) : Q.chk l nx = (0, 0) := by
  have h1 := R.len
  have h2 := R.nx1
  have h3 := R.nx2
  unfold Q.chk
  rw [if_neg (by omega), if_neg (not_not_intro ⟨h2, h3⟩)]
  exact chkFrom_right l nx _ _ (fun j _ hj => R.each j (by omega))
theorem Right.congr {l l' : List S56} {nx : Int} (R : Right l nx) (hl : l'.length = l.length) (h : ∀ i : Nat, (rd_T56 l' i).f0 = (rd_T56 l i).f0 ∧ (rd_T56 l' i).f1.size = (rd_T56 l i).f1.size) : Right l' nx :=
  ⟨by rw [hl]; exact R.len, R.nx1, R.nx2, fun i hi => by rw [bad_congr l l' nx h]; exact R.each i (by omega)⟩
theorem find_hit (l : List S56) (nx : Int) (k : Nat) (hk : 40 ≤ k) (R : Right l nx) (j : Nat) (hj : j < l.length) : segment_find.f k l nx (rd_T56 l j).f0 = some ((j : Int), 0) := by
  have hb := R.num j hj
  rcases find_known l nx (rd_T56 l j).f0 k hk (by omega) with ⟨e, p, he, h1, h2⟩ | ⟨i, hi, hin, _, h1, h2⟩
  · exfalso
    unfold midrangeref04_known.f at h2
    rw [Err_eq l nx k (by omega), Option.bind_some, R.chk, if_pos rfl] at h2
    have hpl : midrangeref04_Place.f k l nx (rd_T56 l j).f0 = midrangeref04_Place.l0 k (rd_T56 l j).f0 ((0 : Nat) : Int) l nx := rfl
    rcases place_loop l nx (rd_T56 l j).f0 R.len l.length 0 k (by omega) (by have := R.len; omega) with ⟨i, h3, h4, h5, h6⟩ | ⟨h3, _⟩
    · rw [hpl, h6, Option.bind_some, midrangeref04_NumberErr.f, hpl, h6, Option.bind_some, if_neg (by omega)] at h2
      injection h2 with h2
      injection h2 with _ h2
      exact he h2.symm
    · exact h3 j (by omega) hj rfl
  · rw [h1]
    rcases Nat.lt_trichotomy i j with h5 | h5 | h5
    · have := R.mono i j h5 hj; omega
    · rw [h5]
    · have := R.mono j i h5 hi; omega
theorem read_hit (l : List S56) (nx o c : Int) (k : Nat) (hk : 40 ≤ k) (R : Right l nx) (j : Nat) (hj : j < l.length) (h0 : 0 ≤ o) (h1 : 0 ≤ c) (h2 : o + c ≤ ((rd_T56 l j).f1.size : Int)) (h3 : (rd_T56 l j).f1.size ≤ 256) :
    segment_ReadAt.f k l nx (rd_T56 l j).f0 o c = some ((rd_T56 l j).f1.extract o.toNat (o + c).toNat, 0) := by
  have hj0 : (0 : Int) ≤ (j : Int) := Int.natCast_nonneg j
  have hj1 : (j : Int) < (l.length : Int) := Int.ofNat_lt.mpr hj
  unfold segment_ReadAt.f segment_bytesAt.f
  have ha : (0 : Int) ≤ o ∧ o ≤ ((rd_T56 l (j : Int)).f1.size : Int) := ⟨h0, by omega⟩
  have hb : (0 : Int) ≤ c ∧ c ≤ ((rd_T56 l (j : Int)).f1.size : Int) - o := ⟨h1, by omega⟩
  have e1 : wrap64 (((rd_T56 l (j : Int)).f1.size : Int) - o) = ((rd_T56 l (j : Int)).f1.size : Int) - o := w64 (by omega) (by omega)
  have e2 : wrap64 (o + c) = o + c := w64 (by omega) (by omega)
  rw [find_hit l nx k hk R j hj, Option.bind_some]
  dsimp only
  rw [if_pos rfl, if_pos hj0, if_pos hj1, within_eq, Option.bind_some, decide_eq_true ha, if_pos rfl, within_eq, Option.bind_some, e1, decide_eq_true hb, if_pos rfl, Option.bind_some]
  dsimp only
  rw [if_pos rfl, if_pos hj0, if_pos hj1, if_pos h0, e2, if_pos (by omega), if_pos h2]
theorem patched_size (s : ByteArray) (o : Int) (t : ByteArray) (h0 : 0 ≤ o) (h : o + (t.size : Int) ≤ (s.size : Int)) : (patched s o t).size = s.size := by
  unfold patched
  simp only [ByteArray.size_append, ByteArray.size_extract]
  omega
theorem patched_in (s : ByteArray) (o : Int) (t : ByteArray) (h0 : 0 ≤ o) (h : o + (t.size : Int) ≤ (s.size : Int)) : (patched s o t).extract o.toNat (o + (t.size : Int)).toNat = t := by
  unfold patched
  rw [ByteArray.append_assoc, ByteArray.extract_append]
  have e1 : (s.extract 0 o.toNat).size = o.toNat := by rw [ByteArray.size_extract]; omega
  have e2 : (s.extract 0 o.toNat).extract o.toNat (o + (t.size : Int)).toNat = ByteArray.empty := by rw [ByteArray.extract_eq_empty_iff, e1]; omega
  rw [e2, ByteArray.empty_append, e1, ByteArray.extract_append]
  have e3 : (o + (t.size : Int)).toNat - o.toNat = t.size := by omega
  have e4 : (s.extract (o + (t.size : Int)).toNat s.size).extract (o.toNat - o.toNat - t.size) (t.size - t.size) = ByteArray.empty := by rw [ByteArray.extract_eq_empty_iff]; omega
  rw [e3, e4, ByteArray.append_empty, Nat.sub_self, ByteArray.extract_zero_size]
theorem patched_out (s : ByteArray) (o : Int) (t : ByteArray) (h0 : 0 ≤ o) (h : o + (t.size : Int) ≤ (s.size : Int)) (x : Nat) (hx : x < s.size) (hn : ¬ (o ≤ (x : Int) ∧ (x : Int) ≤ o + (t.size : Int) - 1)) :
    (patched s o t).extract x (x + 1) = s.extract x (x + 1) := by
  unfold patched
  rw [ByteArray.append_assoc, ByteArray.extract_append, ByteArray.extract_append]
  have e1 : (s.extract 0 o.toNat).size = o.toNat := by rw [ByteArray.size_extract]; omega
  rw [e1]
  by_cases hxo : (x : Int) < o
  · have e2 : t.extract (x - o.toNat) (x + 1 - o.toNat) = ByteArray.empty := by rw [ByteArray.extract_eq_empty_iff]; omega
    have e3 : (s.extract (o + (t.size : Int)).toNat s.size).extract (x - o.toNat - t.size) (x + 1 - o.toNat - t.size) = ByteArray.empty := by rw [ByteArray.extract_eq_empty_iff]; omega
    rw [e2, e3, ByteArray.append_empty, ByteArray.append_empty, ByteArray.extract_extract]
    have e4 : min (0 + (x + 1)) o.toNat = x + 1 := by omega
    rw [e4, Nat.zero_add]
  · have e2 : (s.extract 0 o.toNat).extract x (x + 1) = ByteArray.empty := by rw [ByteArray.extract_eq_empty_iff, e1]; omega
    have e3 : t.extract (x - o.toNat) (x + 1 - o.toNat) = ByteArray.empty := by rw [ByteArray.extract_eq_empty_iff]; omega
    rw [e2, e3, ByteArray.empty_append, ByteArray.empty_append, ByteArray.extract_extract]
    have e4 : (o + (t.size : Int)).toNat + (x - o.toNat - t.size) = x := by omega
    have e5 : min ((o + (t.size : Int)).toNat + (x + 1 - o.toNat - t.size)) s.size = x + 1 := by omega
    rw [e4, e5]

section
variable (l l' : List S56) (nx n o d2 : Int) (t : ByteArray)
variable (R : Right l nx) (R' : Right l' nx) (hlen : l'.length = l.length) (ho : 0 ≤ o ∧ o + (t.size : Int) ≤ 256)
variable (hsz : ∀ i : Nat, i < l.length → (rd_T56 l i).f1.size ≤ 256)
variable (hf : ∀ i : Nat, (rd_T56 l' i).f0 = (rd_T56 l i).f0 ∧ (rd_T56 l' i).f1.size = (rd_T56 l i).f1.size)
variable (hout : ∀ i x : Nat, i < l.length → x < (rd_T56 l i).f1.size → ¬ ((rd_T56 l i).f0 = n ∧ o ≤ (x : Int) ∧ (x : Int) ≤ o + (t.size : Int) - 1) → (rd_T56 l' i).f1.extract x (x + 1) = (rd_T56 l i).f1.extract x (x + 1))
include R R' hlen ho hsz hf hout
theorem sr_l1 (i m : Nat) (hi : i < l.length) (hm : 300 ≤ m) (H : ∀ k, m ≤ k → midrangelaw04_SegmentReads.l0 k ((i + 1 : Nat) : Int) l nx n o d2 t l' nx = some true) (d : Nat) : ∀ (x k : Nat), x + d = (rd_T56 l i).f1.size → 3 * d + 1 + m ≤ k →
    midrangelaw04_SegmentReads.l1 k (i : Int) (x : Int) l nx n o d2 t l' nx (rd_T56 l i).f0 (rd_T56 l i).f1 = some true := by
  have hs := hsz i hi
  have hl := R.len
  induction d with
  | zero =>
    intro x k hx hk
    obtain ⟨k, rfl⟩ : ∃ q, k = q + 1 := ⟨k - 1, by omega⟩
    rw [midrangelaw04_SegmentReads.l1, if_neg (by omega), wsucc i (by omega)]
    exact H k (by omega)
  | succ d ih =>
    intro x k hx hk
    obtain ⟨k, rfl⟩ : ∃ q, k = q + 3 := ⟨k - 3, by omega⟩
    have ih1 := ih (x + 1) k (by omega) (by omega)
    have ih2 := ih (x + 1) (k + 1) (by omega) (by omega)
    have hx9 : x < 10000 := by omega
    have hxa : (x : Int) ≤ ((x + 1 : Nat) : Int) := by omega
    have hxb : ((x + 1 : Nat) : Int) ≤ ((rd_T56 l i).f1.size : Int) := by omega
    have hx0 : (0 : Int) ≤ (x : Int) := Int.natCast_nonneg x
    have htrue : midrangelaw04_SegmentReads.j4 (k + 2) (i : Int) (x : Int) true l nx n o d2 t l' nx (rd_T56 l i).f0 (rd_T56 l i).f1 = some true := by
      rw [midrangelaw04_SegmentReads.j4, if_pos rfl, wsucc x hx9]
      exact ih2
    have hfalse : ¬ ((rd_T56 l i).f0 = n ∧ o ≤ (x : Int) ∧ (x : Int) ≤ o + (t.size : Int) - 1) → midrangelaw04_SegmentReads.j4 (k + 2) (i : Int) (x : Int) false l nx n o d2 t l' nx (rd_T56 l i).f0 (rd_T56 l i).f1 = some true := by
      intro hn
      have hr := read_hit l' nx (x : Int) 1 (k + 1) (by omega) R' i (by omega) hx0 (by omega) (by rw [(hf i).2]; omega) (by rw [(hf i).2]; exact hs)
      rw [(hf i).1] at hr
      have e2 : ((x : Int) + 1).toNat = x + 1 := by omega
      rw [e2] at hr
      rw [midrangelaw04_SegmentReads.j4, if_neg (by simp), own_eq l' nx (by omega), Option.bind_some, hr, Option.bind_some, if_pos rfl, wsucc x hx9, if_pos hx0, if_pos hxa, if_pos hxb]
      have e3 : ((x : Int)).toNat = x := by omega
      have e4 : (((x + 1 : Nat) : Int)).toNat = x + 1 := by omega
      rw [e3, e4, hout i x hi (by omega) hn, midrangelaw04_SegmentReads.j5, if_neg (by simp), wsucc x hx9]
      exact ih1
    rw [midrangelaw04_SegmentReads.l1, if_pos (by omega)]
    by_cases hn : (rd_T56 l i).f0 = n
    · rw [if_pos hn, w64 (x := o + (t.size : Int)) (by omega) (by omega), w64 (by omega) (by omega), Within_eq, Option.bind_some]
      by_cases hw : o ≤ (x : Int) ∧ (x : Int) ≤ o + (t.size : Int) - 1
      · rw [decide_eq_true hw]; exact htrue
      · rw [decide_eq_false hw]; exact hfalse (fun h => hw h.2)
    · rw [if_neg hn]
      exact hfalse (fun h => hn h.1)
theorem sr_l0 (c : Nat) (hc : 300 < c) (d : Nat) : ∀ (i k : Nat), i + d = l.length → 800 * d + c ≤ k → midrangelaw04_SegmentReads.l0 k (i : Int) l nx n o d2 t l' nx = some true := by
  have hl := R.len
  induction d with
  | zero =>
    intro i k hi hk
    obtain ⟨k, rfl⟩ : ∃ q, k = q + 1 := ⟨k - 1, by omega⟩
    rw [midrangelaw04_SegmentReads.l0, if_neg (by omega)]
  | succ d ih =>
    intro i k hi hk
    obtain ⟨k, rfl⟩ : ∃ q, k = q + 1 := ⟨k - 1, by omega⟩
    have hs := hsz i (by omega)
    rw [midrangelaw04_SegmentReads.l0, if_pos (by omega), if_pos (by omega)]
    have hk2 : 3 * (rd_T56 l (i : Int)).f1.size + 1 + (800 * d + c) ≤ k := by omega
    have hk3 : 300 ≤ 800 * d + c := by omega
    exact sr_l1 l l' nx n o d2 t R R' hlen ho hsz hf hout i (800 * d + c) (by omega) hk3 (fun k' hk' => ih (i + 1) k' (by omega) hk') (rd_T56 l (i : Int)).f1.size 0 k (Nat.zero_add _) hk2
end
end Go.Proofs.Ytoabahlaicgmjaa.Q
namespace Go.Proofs.Ytoabahlaicgmjaa.Pure
open Go.RowKit Go.Proofs.Ytoabahlaicgmjaa.X Go.Proofs.Ytoabahlaicgmjaa.Q Go.Proofs.YtoabahlaicgmjaaW.PrintWords Go.Proofs.YtoabahlaicgmjaaW.PrintLast
set_option linter.unusedVariables false

theorem SegmentReads : midrangelaw04_SegmentReads.Pure := by
  intro l nx n o d2 t hl hx hn ho hc ht
  refine ⟨20010, ?_⟩
  unfold midrangelaw04_SegmentReads.f
  rw [awake_eq 20010 (by omega), Option.bind_some, if_pos rfl]
  obtain ⟨b, hb, hs⟩ := few_eq l nx 20010 (by omega)
  rw [hb, Option.bind_some]
  have jt : ∀ k, midrangelaw04_SegmentReads.j0 (k + 1) true l nx n o d2 t = some true := fun k => by rw [midrangelaw04_SegmentReads.j0, if_pos rfl]
  cases b with
  | false => exact jt 20009
  | true =>
    obtain ⟨h12, _⟩ := hs rfl
    rw [if_pos rfl]
    by_cases h4 : (t.size : Int) > 400
    · rw [decide_eq_true h4]; exact jt 20009
    rw [decide_eq_false h4, show (20010 : Nat) = 20009 + 1 from rfl, midrangelaw04_SegmentReads.j0, if_neg (by simp), own_eq l nx (by omega), Option.bind_some]
    rcases written_both l nx n o t 20009 (by omega) hl.2 h12 (wf64 hn) ht with ⟨e, he, h5, _⟩ | ⟨j, hj, hjn, R, h0, h6, h7, h5, _⟩
    · rw [h5, Option.bind_some, if_neg he]
    · rw [h5, Option.bind_some, if_pos rfl]
      generalize hl' : l.set j ⟨(rd_T56 l (j : Int)).f0, patched (rd_T56 l (j : Int)).f1 o t⟩ = l'
      have hrd : ∀ i : Nat, rd_T56 l' (i : Int) = if j = i then ⟨(rd_T56 l (j : Int)).f0, patched (rd_T56 l (j : Int)).f1 o t⟩ else rd_T56 l (i : Int) := fun i => by rw [← hl', rd_set l j _ i hj]
      have hlen : l'.length = l.length := by rw [← hl', List.length_set]
      have hf : ∀ i : Nat, (rd_T56 l' i).f0 = (rd_T56 l i).f0 ∧ (rd_T56 l' i).f1.size = (rd_T56 l i).f1.size := by
        intro i
        rw [hrd i]
        by_cases h : j = i
        · subst h; rw [if_pos rfl]; exact ⟨rfl, patched_size _ o t h0 h6⟩
        · rw [if_neg h]; exact ⟨rfl, rfl⟩
      have R' := R.congr hlen hf
      have hj' : rd_T56 l' (j : Int) = ⟨(rd_T56 l (j : Int)).f0, patched (rd_T56 l (j : Int)).f1 o t⟩ := by rw [hrd j, if_pos rfl]
      have hsz : ∀ i : Nat, i < l.length → (rd_T56 l i).f1.size ≤ 256 := fun i hi => by
        obtain ⟨q, hq, _, hq8⟩ := size_of R hl.2 i hi
        omega
      have hr := read_hit l' nx o (t.size : Int) 20009 (by omega) R' j (by omega) h0 (by omega) (by rw [(hf j).2]; exact h6) (by rw [(hf j).2]; exact h7)
      rw [(hf j).1, hjn, hj', patched_in _ o t h0 h6] at hr
      rw [own_eq l' nx (by omega), Option.bind_some, hr, Option.bind_some, if_pos rfl, show (20009 : Nat) = 20008 + 1 from rfl, midrangelaw04_SegmentReads.j1, if_neg (by simp)]
      refine sr_l0 l l' nx n o d2 t R R' hlen ⟨h0, by omega⟩ hsz hf ?_ 400 (by omega) l.length 0 20008 (by omega) (by omega)
      intro i x hi hx' hnot
      rw [hrd i]
      by_cases h : j = i
      · subst h
        rw [if_pos rfl]
        exact patched_out _ o t h0 h6 x hx' (fun hh => hnot ⟨hjn, hh⟩)
      · rw [if_neg h]
end Go.Proofs.Ytoabahlaicgmjaa.Pure
end
