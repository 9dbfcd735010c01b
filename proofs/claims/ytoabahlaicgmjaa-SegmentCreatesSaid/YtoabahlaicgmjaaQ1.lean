import Derived.Test.YtoabahlaicgmjaaXx0
import Derived.Test.YtoabahlaicgmjaaXx3
import Derived.Test.YtoabahlaicgmjaaXx4
import Derived.Test.YtoabahlaicgmjaaXx13
import Derived.Test.YtoabahlaicgmjaaXx14
import Derived.Test.YtoabahlaicgmjaaXx15
import Derived.Test.YtoabahlaicgmjaaXx16
import Derived.Test.YtoabahlaicgmjaaXx17
import Derived.Test.YtoabahlaicgmjaaXx18
namespace Go.Proofs.Ytoabahlaicgmjaa.Q
open Go.RowKit Go.Proofs.Ytoabahlaicgmjaa.X Go.Proofs.YtoabahlaicgmjaaW.PrintWords Go.Proofs.YtoabahlaicgmjaaW.PrintLast Go.Proofs.YtoabahlaicgmjaaW.PrintMore
set_option linter.unusedVariables false
set_option linter.unusedSimpArgs false

/-! ### Small things -/
theorem wf64 {a : Int} (h : (Lit.int .i64 a).wf = true) : -9223372036854775808 ≤ a ∧ a ≤ 9223372036854775807 := by
  simp [Lit.wf, IntKind.min, IntKind.max, IntKind.bits, IntKind.signed] at h
  constructor <;> omega
theorem w64 {x : Int} (h0 : -9223372036854775808 ≤ x) (h1 : x ≤ 9223372036854775807) : wrap64 x = x := by
  unfold wrap64
  omega
theorem within_eq (a b c : Int) : segment_within.f a b c = some (decide (b ≤ a ∧ a ≤ c)) := by
  unfold segment_within.f
  by_cases h : b ≤ a <;> simp [h]
theorem Within_eq (a b c : Int) : midrangebase_Within.f a b c = some (decide (b ≤ a ∧ a ≤ c)) := by
  unfold midrangebase_Within.f
  by_cases h : b ≤ a <;> simp [h]

/-! ### Stores: the program's check and the specification's are one function -/
def bad (l : List S56) (nx : Int) (i : Nat) : Option Int :=
  if ¬ (1 ≤ (rd_T56 l i).f0 ∧ (rd_T56 l i).f0 ≤ wrap64 (nx - 1)) then some 3
  else if 0 < i ∧ (rd_T56 l i).f0 ≤ (rd_T56 l ((i : Int) - 1)).f0 then some 14
  else if ¬ (((rd_T56 l i).f1.size : Int) % 32 = 0 ∧ 1 ≤ wrap64 (((rd_T56 l i).f1.size : Int) / 32) ∧ wrap64 (((rd_T56 l i).f1.size : Int) / 32) ≤ 8) then some 18
  else none
def chkFrom (l : List S56) (nx : Int) : Nat → Nat → Int × Int
  | 0, _ => (0, 0)
  | d + 1, i => (bad l nx i).elim (chkFrom l nx d (i + 1)) (fun e => ((i : Int), e))
def chk (l : List S56) (nx : Int) : Int × Int :=
  if 10 < l.length then (0, 2) else if ¬ (1 ≤ nx ∧ nx ≤ 1001) then (0, 3) else chkFrom l nx l.length 0

theorem cs_j1 (k : Nat) (x4 x6 x17 x18 nx : Int) (l : List S56) (b : Bool) : segment_CheckStore.j1 (k + 1) x4 x6 l x17 x18 b l nx =
    if b = true then some (x4, 14) else if x6 % 32 = 0 ∧ 1 ≤ wrap64 (x6 / 32) ∧ wrap64 (x6 / 32) ≤ 8 then segment_CheckStore.l0 k l x17 (wrap64 (x18 + 1)) l nx else some (x4, 18) := by
  rw [segment_CheckStore.j1, within_eq, Option.bind_some]
  cases b with
  | true => simp
  | false =>
    by_cases h1 : x6 % 32 = 0
    · by_cases h2 : 1 ≤ wrap64 (x6 / 32) ∧ wrap64 (x6 / 32) ≤ 8
      · simp [h1, h2]
      · simp [h1, h2]
    · simp [h1]
theorem rc_j1 (k : Nat) (x4 x0 nx : Int) (s : ByteArray) (l : List S56) (b : Bool) : midrangeref04_Check.j1 (k + 1) x4 b l nx x0 s =
    if b = true then some (x4, 14) else if (s.size : Int) % 32 = 0 ∧ 1 ≤ wrap64 ((s.size : Int) / 32) ∧ wrap64 ((s.size : Int) / 32) ≤ 8 then midrangeref04_Check.l0 k (wrap64 (x4 + 1)) l nx else some (x4, 18) := by
  rw [midrangeref04_Check.j1, midrangeref04_Pages.f, Option.bind_some, Within_eq, Option.bind_some]
  generalize (s.size : Int) = x6
  cases b with
  | true => simp
  | false =>
    by_cases h1 : x6 % 32 = 0
    · by_cases h2 : 1 ≤ wrap64 (x6 / 32) ∧ wrap64 (x6 / 32) ≤ 8
      · simp [h1, h2]
      · simp [h1, h2]
    · simp [h1]
theorem cs_loop (l : List S56) (nx : Int) (hl : l.length ≤ 10) (d : Nat) : ∀ (i k : Nat), i + d = l.length → 2 * d + 1 ≤ k →
    segment_CheckStore.l0 k l (l.length : Int) (i : Int) l nx = some (chkFrom l nx d i) := by
  induction d with
  | zero =>
    intro i k hi hk
    obtain ⟨k, rfl⟩ : ∃ m, k = m + 1 := ⟨k - 1, by omega⟩
    simp only [segment_CheckStore.l0, chkFrom]
    rw [if_neg (by omega)]
  | succ d ih =>
    intro i k hi hk
    obtain ⟨k, rfl⟩ : ∃ m, k = m + 1 := ⟨k - 1, by omega⟩
    obtain ⟨k, rfl⟩ : ∃ m, k = m + 1 := ⟨k - 1, by omega⟩
    have ih' := ih (i + 1) k (by omega) (by omega)
    have e1 : wrap64 ((i : Int) + 1) = ((i + 1 : Nat) : Int) := by rw [w64 (by omega) (by omega)]; omega
    simp only [segment_CheckStore.l0, within_eq, Option.bind_some, chkFrom, bad, decide_eq_true_eq]
    rw [if_pos (by omega), if_pos (by omega), if_pos (by omega)]
    by_cases h1 : 1 ≤ (rd_T56 l i).f0 ∧ (rd_T56 l i).f0 ≤ wrap64 (nx - 1)
    · rw [if_pos h1, if_neg (not_not_intro h1)]
      have fin : ∀ b : Bool, (b = true ↔ (0 < i ∧ (rd_T56 l i).f0 ≤ (rd_T56 l ((i : Int) - 1)).f0)) →
          segment_CheckStore.j1 (k + 1) (i : Int) ((rd_T56 l i).f1.size : Int) l (l.length : Int) (i : Int) b l nx =
          some (Option.elim (if 0 < i ∧ (rd_T56 l i).f0 ≤ (rd_T56 l ((i : Int) - 1)).f0 then some 14 else if ¬ (((rd_T56 l i).f1.size : Int) % 32 = 0 ∧ 1 ≤ wrap64 (((rd_T56 l i).f1.size : Int) / 32) ∧ wrap64 (((rd_T56 l i).f1.size : Int) / 32) ≤ 8) then some 18 else none : Option Int) (chkFrom l nx d (i + 1)) (fun e => ((i : Int), e))) := by
        intro b hb
        rw [cs_j1, e1, ih']
        generalize ((rd_T56 l i).f1.size : Int) = x6
        by_cases h2 : 0 < i ∧ (rd_T56 l i).f0 ≤ (rd_T56 l ((i : Int) - 1)).f0
        · rw [if_pos (hb.2 h2), if_pos h2]; rfl
        · rw [if_neg (fun h => h2 (hb.1 h)), if_neg h2]
          by_cases h3 : x6 % 32 = 0 ∧ 1 ≤ wrap64 (x6 / 32) ∧ wrap64 (x6 / 32) ≤ 8
          · rw [if_pos h3, if_neg (not_not_intro h3)]; rfl
          · rw [if_neg h3, if_pos h3]; rfl
      by_cases h0 : (i : Int) > 0
      · have e2 : wrap64 ((i : Int) - 1) = (i : Int) - 1 := w64 (by omega) (by omega)
        rw [if_pos h0, e2, if_pos (by omega), if_pos (by omega)]
        refine fin _ ?_
        rw [decide_eq_true_eq]
        exact ⟨fun h => ⟨by omega, h⟩, fun h => h.2⟩
      · rw [if_neg h0]
        refine fin _ ?_
        exact ⟨(fun h => by cases h), (fun h => by omega)⟩
    · rw [if_neg h1, if_pos h1]; rfl
theorem rc_loop (l : List S56) (nx : Int) (hl : l.length ≤ 10) (d : Nat) : ∀ (i k : Nat), i + d = l.length → 2 * d + 1 ≤ k →
    midrangeref04_Check.l0 k (i : Int) l nx = some (chkFrom l nx d i) := by
  induction d with
  | zero =>
    intro i k hi hk
    obtain ⟨k, rfl⟩ : ∃ m, k = m + 1 := ⟨k - 1, by omega⟩
    simp only [midrangeref04_Check.l0, chkFrom]
    rw [if_neg (by omega)]
  | succ d ih =>
    intro i k hi hk
    obtain ⟨k, rfl⟩ : ∃ m, k = m + 1 := ⟨k - 1, by omega⟩
    obtain ⟨k, rfl⟩ : ∃ m, k = m + 1 := ⟨k - 1, by omega⟩
    have ih' := ih (i + 1) k (by omega) (by omega)
    have e1 : wrap64 ((i : Int) + 1) = ((i + 1 : Nat) : Int) := by rw [w64 (by omega) (by omega)]; omega
    simp only [midrangeref04_Check.l0, Within_eq, Option.bind_some, chkFrom, bad, decide_eq_true_eq]
    rw [if_pos (by omega), if_pos (by omega)]
    by_cases h1 : 1 ≤ (rd_T56 l i).f0 ∧ (rd_T56 l i).f0 ≤ wrap64 (nx - 1)
    · rw [if_pos h1, if_neg (not_not_intro h1)]
      have fin : ∀ b : Bool, (b = true ↔ (0 < i ∧ (rd_T56 l i).f0 ≤ (rd_T56 l ((i : Int) - 1)).f0)) →
          midrangeref04_Check.j1 (k + 1) (i : Int) b l nx (rd_T56 l i).f0 (rd_T56 l i).f1 =
          some (Option.elim (if 0 < i ∧ (rd_T56 l i).f0 ≤ (rd_T56 l ((i : Int) - 1)).f0 then some 14 else if ¬ (((rd_T56 l i).f1.size : Int) % 32 = 0 ∧ 1 ≤ wrap64 (((rd_T56 l i).f1.size : Int) / 32) ∧ wrap64 (((rd_T56 l i).f1.size : Int) / 32) ≤ 8) then some 18 else none : Option Int) (chkFrom l nx d (i + 1)) (fun e => ((i : Int), e))) := by
        intro b hb
        rw [rc_j1, e1, ih']
        generalize ((rd_T56 l i).f1.size : Int) = x6
        by_cases h2 : 0 < i ∧ (rd_T56 l i).f0 ≤ (rd_T56 l ((i : Int) - 1)).f0
        · rw [if_pos (hb.2 h2), if_pos h2]; rfl
        · rw [if_neg (fun h => h2 (hb.1 h)), if_neg h2]
          by_cases h3 : x6 % 32 = 0 ∧ 1 ≤ wrap64 (x6 / 32) ∧ wrap64 (x6 / 32) ≤ 8
          · rw [if_pos h3, if_neg (not_not_intro h3)]; rfl
          · rw [if_neg h3, if_pos h3]; rfl
      by_cases h0 : (i : Int) > 0
      · have e2 : wrap64 ((i : Int) - 1) = (i : Int) - 1 := w64 (by omega) (by omega)
        rw [if_pos h0, e2, if_pos (by omega), if_pos (by omega)]
        refine fin _ ?_
        rw [decide_eq_true_eq]
        exact ⟨fun h => ⟨by omega, h⟩, fun h => h.2⟩
      · rw [if_neg h0]
        refine fin _ ?_
        exact ⟨(fun h => by cases h), (fun h => by omega)⟩
    · rw [if_neg h1, if_pos h1]; rfl
theorem check_eq (l : List S56) (nx : Int) (k : Nat) (hk : 21 ≤ k) : segment_CheckStore.f k l nx = some (chk l nx) := by
  unfold segment_CheckStore.f chk
  by_cases h : (l.length : Int) > 10
  · rw [if_pos h, if_pos (by omega)]
  · rw [if_neg h, if_neg (by omega), within_eq]
    simp only [Option.bind_some, decide_eq_true_eq]
    by_cases h2 : 1 ≤ nx ∧ nx ≤ 1001
    · rw [if_pos h2, if_neg (not_not_intro h2)]
      exact cs_loop l nx (by omega) l.length 0 k (by omega) (by omega)
    · rw [if_neg h2, if_pos h2]
theorem Check_eq (l : List S56) (nx : Int) (k : Nat) (hk : 21 ≤ k) : midrangeref04_Check.f k l nx = some (chk l nx) := by
  unfold midrangeref04_Check.f chk
  by_cases h : (l.length : Int) > 10
  · rw [if_pos h, if_pos (by omega)]
  · rw [if_neg h, if_neg (by omega), Within_eq]
    simp only [Option.bind_some, decide_eq_true_eq]
    by_cases h2 : 1 ≤ nx ∧ nx ≤ 1001
    · rw [if_pos h2, if_neg (not_not_intro h2)]
      exact rc_loop l nx (by omega) l.length 0 k (by omega) (by omega)
    · rw [if_neg h2, if_pos h2]
theorem Err_eq (l : List S56) (nx : Int) (k : Nat) (hk : 21 ≤ k) : midrangeref04_Err.f k l nx = some (chk l nx).2 := by
  unfold midrangeref04_Err.f
  rw [Check_eq l nx k hk]
  rfl

/-! ### The guard; copies -/
def small (l : List S56) : Prop := l.length ≤ 12 ∧ ∀ x ∈ l, x.f1.size ≤ 400
theorem few_loop (l : List S56) (nx : Int) (hl : l.length ≤ 12) (d : Nat) : ∀ (i k : Nat), i + d = l.length → d + 1 ≤ k →
    ∃ b, midrangelaw04_few.l0 k (i : Int) l nx = some b ∧ (b = true → ∀ x ∈ l.drop i, x.f1.size ≤ 400) := by
  induction d with
  | zero =>
    intro i k hi hk
    obtain ⟨k, rfl⟩ : ∃ m, k = m + 1 := ⟨k - 1, by omega⟩
    simp only [midrangelaw04_few.l0]
    rw [if_neg (by omega)]
    refine ⟨true, rfl, fun _ x hx => ?_⟩
    rw [List.drop_eq_nil_of_le (by omega)] at hx
    cases hx
  | succ d ih =>
    intro i k hi hk
    obtain ⟨k, rfl⟩ : ∃ m, k = m + 1 := ⟨k - 1, by omega⟩
    have e1 : wrap64 ((i : Int) + 1) = ((i + 1 : Nat) : Int) := by rw [w64 (by omega) (by omega)]; omega
    obtain ⟨b, hb, hx⟩ := ih (i + 1) k (by omega) (by omega)
    simp only [midrangelaw04_few.l0]
    rw [if_pos (by omega), if_pos (by omega), e1, hb]
    have hil : i < l.length := by omega
    have er : rd_T56 l (i : Int) = l[i] := by simp [rd_T56, hil]
    by_cases h : ((rd_T56 l (i : Int)).f1.size : Int) > 400
    · exact ⟨false, by rw [if_pos h], fun h => by cases h⟩
    · refine ⟨b, by rw [if_neg h], fun hb x hx' => ?_⟩
      rw [List.drop_eq_getElem_cons hil] at hx'
      rcases List.mem_cons.1 hx' with rfl | hx'
      · rw [er] at h; omega
      · exact hx hb x hx'
theorem few_eq (l : List S56) (nx : Int) (k : Nat) (hk : 14 ≤ k) : ∃ b, midrangelaw04_few.f k l nx = some b ∧ (b = true → small l) := by
  unfold midrangelaw04_few.f
  by_cases h : (l.length : Int) > 12
  · exact ⟨false, by rw [if_pos h], fun h => by cases h⟩
  · rw [if_neg h]
    obtain ⟨b, hb, hx⟩ := few_loop l nx (by omega) l.length 0 k (by omega) (by omega)
    exact ⟨b, hb, fun h' => ⟨by omega, by simpa using hx h'⟩⟩
theorem own_eq (l : List S56) (nx : Int) (hl : l.length ≤ 5864062014804) : midrangeref04_Own.f l nx = some (l, nx) := by
  unfold midrangeref04_Own.f
  rw [if_pos (by simp; omega)]
  rfl
theorem awake_eq (k : Nat) (hk : 60 ≤ k) : midrangelaw04_awake.f k = some true :=
  at_rounds (g := fun k => midrangelaw04_awake.f k) (fun k => midrangelaw04_awake.mono k) hk (by decide +kernel)
end Go.Proofs.Ytoabahlaicgmjaa.Q
