-- Texts of this claim joined by merge.py, a program of its author; what this claim does not reach is left out.
import Derived.Test.YtoabahlaicgmjaaDoorMSegmentUndone8
section
namespace Go.Proofs.YtoabahlaicgmjaaDoor.X
open Go.Proofs.YtoabahlaicgmjaaDoor.XW Go.Proofs.YtoabahlaicgmjaaDoor.XS
open Go.RowKit Go.Proofs.YtoabahlaicgmjaaDoorW.PrintWords Go.Proofs.YtoabahlaicgmjaaDoorW.PrintLast Go.Proofs.YtoabahlaicgmjaaDoorW.PrintMore
attribute [local go_sem] max2_int min2_int max_two min_two max_three min_three max_four min_four   -- for this text's walks alone
set_option linter.unusedVariables false
set_option linter.unusedSimpArgs false
def midrangebase_Within.f (a0 : Int) (a1 : Int) (a2 : Int) : Option (Bool) := if a1 ≤ a0 then (some (decide (a0 ≤ a2))) else (some false)
mutual
def midrangeref04_Check.l0 : Nat → Int → List (S46) → Int → Option (Int × Int)
  | 0, _, _, _ => none
  | k + 1, x4, x298000, x298001 => if x4 < (x298000.length : Int) then (if 0 ≤ x4 then ((midrangebase_Within.f ((rd_T46 x298000 x4).f0) 1 (wrap64 (x298001 - 1))).bind fun t301 => (if t301 = true then (if x4 > 0 then (if 0 ≤ (wrap64 (x4 - 1)) then (if (wrap64 (x4 - 1)) < (x298000.length : Int) then (midrangeref04_Check.j1 k x4 (decide (((rd_T46 x298000 x4).f0) ≤ ((rd_T46 x298000 (wrap64 (x4 - 1))).f0))) x298000 x298001 ((rd_T46 x298000 x4).f0) ((rd_T46 x298000 x4).f1)) else (none)) else (none)) else (midrangeref04_Check.j1 k x4 false x298000 x298001 ((rd_T46 x298000 x4).f0) ((rd_T46 x298000 x4).f1))) else (some (x4, 3)))) else (none)) else (some (0, 0))
def midrangeref04_Check.j1 : Nat → Int → Bool → List (S46) → Int → Int → ByteArray → Option (Int × Int)
  | 0, _, _, _, _, _, _ => none
  | k + 1, x4, x47, x298000, x298001, x301000, x301001 => if x47 = true then (some (x4, 14)) else (if ((x301001.size : Int) % 32) = 0 then ((midrangeref04_Pages.f x301001).bind fun t303 => ((midrangebase_Within.f t303 1 8).bind fun t304 => (if t304 = true then (midrangeref04_Check.l0 k (wrap64 (x4 + 1)) x298000 x298001) else (some (x4, 18))))) else (some (x4, 18)))
end
def midrangeref04_Check.f (k : Nat) (l0_0 : List (S46)) (a0_1 : Int) : Option (Int × Int) := if (l0_0.length : Int) > 10 then (some (0, 2)) else ((midrangebase_Within.f a0_1 1 1001).bind fun t298 => (if t298 = true then (midrangeref04_Check.l0 k 0 l0_0 a0_1) else (some (0, 3))))
def midrangeref04_Err.f (k : Nat) (l0_0 : List (S46)) (a0_1 : Int) : Option (Int) := (midrangeref04_Check.f k l0_0 a0_1).bind fun bt306 => (some bt306.2)
def midrangeref04_failed.f (a0 : Int) : Option ((List (S46)) × Int × Int × ByteArray × Int) := some (([] : List (S46)), 0, 0, (⟨#[]⟩ : ByteArray), a0)
def midrangebase_Count.f (a0 : Bool) : Option (Int) := if a0 = true then (some 1) else (some 0)
end Go.Proofs.YtoabahlaicgmjaaDoor.X
end
section
namespace Go.Proofs.YtoabahlaicgmjaaDoor.Q
open Go.RowKit Go.Proofs.YtoabahlaicgmjaaDoor.X Go.Proofs.YtoabahlaicgmjaaDoorW.PrintWords Go.Proofs.YtoabahlaicgmjaaDoorW.PrintLast Go.Proofs.YtoabahlaicgmjaaDoorW.PrintMore
set_option linter.unusedVariables false
set_option linter.unusedSimpArgs false
theorem wf64 {a : Int} (h : (Lit.int .i64 a).wf = true) : -9223372036854775808 ≤ a ∧ a ≤ 9223372036854775807 := by
  simp [Lit.wf, IntKind.min, IntKind.max, IntKind.bits, IntKind.signed] at h
  constructor <;> omega
theorem w64 {x : Int} (h0 : -9223372036854775808 ≤ x) (h1 : x ≤ 9223372036854775807) : wrap64 x = x := by
  unfold wrap64
  omega
theorem within_eq (a b c : Int) : segment_within.f a b c = some (decide (b ≤ a ∧ a ≤ c)) := by
  unfold segment_within.f
  by_cases h : b ≤ a <;> simp [h]
theorem Within_eq (a b c : Int) : midrangebase_Within.f a b c = some (decide (b ≤ a ∧ a ≤ c)) := by
  unfold midrangebase_Within.f
  by_cases h : b ≤ a <;> simp [h]

def bad (l : List S46) (nx : Int) (i : Nat) : Option Int :=
  if ¬ (1 ≤ (rd_T46 l i).f0 ∧ (rd_T46 l i).f0 ≤ wrap64 (nx - 1)) then some 3
  else if 0 < i ∧ (rd_T46 l i).f0 ≤ (rd_T46 l ((i : Int) - 1)).f0 then some 14
  else if ¬ (((rd_T46 l i).f1.size : Int) % 32 = 0 ∧ 1 ≤ wrap64 (((rd_T46 l i).f1.size : Int) / 32) ∧ wrap64 (((rd_T46 l i).f1.size : Int) / 32) ≤ 8) then some 18
  else none
def chkFrom (l : List S46) (nx : Int) : Nat → Nat → Int × Int
  | 0, _ => (0, 0)
  | d + 1, i => (bad l nx i).elim (chkFrom l nx d (i + 1)) (fun e => ((i : Int), e))
def chk (l : List S46) (nx : Int) : Int × Int :=
  if 10 < l.length then (0, 2) else if ¬ (1 ≤ nx ∧ nx ≤ 1001) then (0, 3) else chkFrom l nx l.length 0

theorem cs_j1 (k : Nat) (x4 x6 x17 x18 nx : Int) (l : List S46) (b : Bool) : segment_CheckStore.j1 (k + 1) x4 x6 l x17 x18 b l nx =
    if b = true then some (x4, 14) else if x6 % 32 = 0 ∧ 1 ≤ wrap64 (x6 / 32) ∧ wrap64 (x6 / 32) ≤ 8 then segment_CheckStore.l0 k l x17 (wrap64 (x18 + 1)) l nx else some (x4, 18) := by
  rw [segment_CheckStore.j1, within_eq, Option.bind_some]
  cases b with
  | true => simp
  | false =>
    by_cases h1 : x6 % 32 = 0
    · by_cases h2 : 1 ≤ wrap64 (x6 / 32) ∧ wrap64 (x6 / 32) ≤ 8
      · simp [h1, h2]
      · simp [h1, h2]
    · simp [h1]
theorem rc_j1 (k : Nat) (x4 x0 nx : Int) (s : ByteArray) (l : List S46) (b : Bool) : midrangeref04_Check.j1 (k + 1) x4 b l nx x0 s =
    if b = true then some (x4, 14) else if (s.size : Int) % 32 = 0 ∧ 1 ≤ wrap64 ((s.size : Int) / 32) ∧ wrap64 ((s.size : Int) / 32) ≤ 8 then midrangeref04_Check.l0 k (wrap64 (x4 + 1)) l nx else some (x4, 18) := by
  rw [midrangeref04_Check.j1, midrangeref04_Pages.f, Option.bind_some, Within_eq, Option.bind_some]
  generalize (s.size : Int) = x6
  cases b with
  | true => simp
  | false =>
    by_cases h1 : x6 % 32 = 0
    · by_cases h2 : 1 ≤ wrap64 (x6 / 32) ∧ wrap64 (x6 / 32) ≤ 8
      · simp [h1, h2]
      · simp [h1, h2]
    · simp [h1]
theorem cs_loop (l : List S46) (nx : Int) (hl : l.length ≤ 10) (d : Nat) : ∀ (i k : Nat), i + d = l.length → 2 * d + 1 ≤ k →
    segment_CheckStore.l0 k l (l.length : Int) (i : Int) l nx = some (chkFrom l nx d i) := by
  induction d with
  | zero =>
    intro i k hi hk
    obtain ⟨k, rfl⟩ : ∃ m, k = m + 1 := ⟨k - 1, by omega⟩
    simp only [segment_CheckStore.l0, chkFrom]
    rw [if_neg (by omega)]
  | succ d ih =>
    intro i k hi hk
    obtain ⟨k, rfl⟩ : ∃ m, k = m + 1 := ⟨k - 1, by omega⟩
    obtain ⟨k, rfl⟩ : ∃ m, k = m + 1 := ⟨k - 1, by omega⟩
    have ih' := ih (i + 1) k (by omega) (by omega)
    have e1 : wrap64 ((i : Int) + 1) = ((i + 1 : Nat) : Int) := by rw [w64 (by omega) (by omega)]; omega
    simp only [segment_CheckStore.l0, within_eq, Option.bind_some, chkFrom, bad, decide_eq_true_eq]
    rw [if_pos (by omega), if_pos (by omega), if_pos (by omega)]
    by_cases h1 : 1 ≤ (rd_T46 l i).f0 ∧ (rd_T46 l i).f0 ≤ wrap64 (nx - 1)
    · rw [if_pos h1, if_neg (not_not_intro h1)]
      have fin : ∀ b : Bool, (b = true ↔ (0 < i ∧ (rd_T46 l i).f0 ≤ (rd_T46 l ((i : Int) - 1)).f0)) →
          segment_CheckStore.j1 (k + 1) (i : Int) ((rd_T46 l i).f1.size : Int) l (l.length : Int) (i : Int) b l nx =
          some (Option.elim (if 0 < i ∧ (rd_T46 l i).f0 ≤ (rd_T46 l ((i : Int) - 1)).f0 then some 14 else if ¬ (((rd_T46 l i).f1.size : Int) % 32 = 0 ∧ 1 ≤ wrap64 (((rd_T46 l i).f1.size : Int) / 32) ∧ wrap64 (((rd_T46 l i).f1.size : Int) / 32) ≤ 8) then some 18 else none : Option Int) (chkFrom l nx d (i + 1)) (fun e => ((i : Int), e))) := by
        intro b hb
        rw [cs_j1, e1, ih']
        generalize ((rd_T46 l i).f1.size : Int) = x6
        by_cases h2 : 0 < i ∧ (rd_T46 l i).f0 ≤ (rd_T46 l ((i : Int) - 1)).f0
        · rw [if_pos (hb.2 h2), if_pos h2]; rfl
        · rw [if_neg (fun h => h2 (hb.1 h)), if_neg h2]
          by_cases h3 : x6 % 32 = 0 ∧ 1 ≤ wrap64 (x6 / 32) ∧ wrap64 (x6 / 32) ≤ 8
          · rw [if_pos h3, if_neg (not_not_intro h3)]; rfl
          · rw [if_neg h3, if_pos h3]; rfl
      by_cases h0 : (i : Int) > 0
      · have e2 : wrap64 ((i : Int) - 1) = (i : Int) - 1 := w64 (by omega) (by omega)
        rw [if_pos h0, e2, if_pos (by omega), if_pos (by omega)]
        refine fin _ ?_
        rw [decide_eq_true_eq]
        exact ⟨fun h => ⟨by omega, h⟩, fun h => h.2⟩
      · rw [if_neg h0]
        refine fin _ ?_
        exact ⟨(fun h => by cases h), (fun h => by omega)⟩
    · rw [if_neg h1, if_pos h1]; rfl
theorem rc_loop (l : List S46) (nx : Int) (hl : l.length ≤ 10) (d : Nat) : ∀ (i k : Nat), i + d = l.length → 2 * d + 1 ≤ k →
    midrangeref04_Check.l0 k (i : Int) l nx = some (chkFrom l nx d i) := by
  induction d with
  | zero =>
    intro i k hi hk
    obtain ⟨k, rfl⟩ : ∃ m, k = m + 1 := ⟨k - 1, by omega⟩
    simp only [midrangeref04_Check.l0, chkFrom]
    rw [if_neg (by omega)]
  | succ d ih =>
    intro i k hi hk
    obtain ⟨k, rfl⟩ : ∃ m, k = m + 1 := ⟨k - 1, by omega⟩
    obtain ⟨k, rfl⟩ : ∃ m, k = m + 1 := ⟨k - 1, by omega⟩
    have ih' := ih (i + 1) k (by omega) (by omega)
    have e1 : wrap64 ((i : Int) + 1) = ((i + 1 : Nat) : Int) := by rw [w64 (by omega) (by omega)]; omega
    simp only [midrangeref04_Check.l0, Within_eq, Option.bind_some, chkFrom, bad, decide_eq_true_eq]
    rw [if_pos (by omega), if_pos (by omega)]
    by_cases h1 : 1 ≤ (rd_T46 l i).f0 ∧ (rd_T46 l i).f0 ≤ wrap64 (nx - 1)
    · rw [if_pos h1, if_neg (not_not_intro h1)]
      have fin : ∀ b : Bool, (b = true ↔ (0 < i ∧ (rd_T46 l i).f0 ≤ (rd_T46 l ((i : Int) - 1)).f0)) →
          midrangeref04_Check.j1 (k + 1) (i : Int) b l nx (rd_T46 l i).f0 (rd_T46 l i).f1 =
          some (Option.elim (if 0 < i ∧ (rd_T46 l i).f0 ≤ (rd_T46 l ((i : Int) - 1)).f0 then some 14 else if ¬ (((rd_T46 l i).f1.size : Int) % 32 = 0 ∧ 1 ≤ wrap64 (((rd_T46 l i).f1.size : Int) / 32) ∧ wrap64 (((rd_T46 l i).f1.size : Int) / 32) ≤ 8) then some 18 else none : Option Int) (chkFrom l nx d (i + 1)) (fun e => ((i : Int), e))) := by
        intro b hb
        rw [rc_j1, e1, ih']
        generalize ((rd_T46 l i).f1.size : Int) = x6
        by_cases h2 : 0 < i ∧ (rd_T46 l i).f0 ≤ (rd_T46 l ((i : Int) - 1)).f0
        · rw [if_pos (hb.2 h2), if_pos h2]; rfl
        · rw [if_neg (fun h => h2 (hb.1 h)), if_neg h2]
          by_cases h3 : x6 % 32 = 0 ∧ 1 ≤ wrap64 (x6 / 32) ∧ wrap64 (x6 / 32) ≤ 8
          · rw [if_pos h3, if_neg (not_not_intro h3)]; rfl
          · rw [if_neg h3, if_pos h3]; rfl
      by_cases h0 : (i : Int) > 0
      · have e2 : wrap64 ((i : Int) - 1) = (i : Int) - 1 := w64 (by omega) (by omega)
        rw [if_pos h0, e2, if_pos (by omega), if_pos (by omega)]
        refine fin _ ?_
        rw [decide_eq_true_eq]
        exact ⟨fun h => ⟨by omega, h⟩, fun h => h.2⟩
      · rw [if_neg h0]
        refine fin _ ?_
        exact ⟨(fun h => by cases h), (fun h => by omega)⟩
    · rw [if_neg h1, if_pos h1]; rfl
theorem check_eq (l : List S46) (nx : Int) (k : Nat) (hk : 21 ≤ k) : segment_CheckStore.f k l nx = some (chk l nx) := by
  unfold segment_CheckStore.f chk
  by_cases h : (l.length : Int) > 10
  · rw [if_pos h, if_pos (by omega)]
  · rw [if_neg h, if_neg (by omega), within_eq]
    simp only [Option.bind_some, decide_eq_true_eq]
    by_cases h2 : 1 ≤ nx ∧ nx ≤ 1001
    · rw [if_pos h2, if_neg (not_not_intro h2)]
      exact cs_loop l nx (by omega) l.length 0 k (by omega) (by omega)
    · rw [if_neg h2, if_pos h2]
theorem Check_eq (l : List S46) (nx : Int) (k : Nat) (hk : 21 ≤ k) : midrangeref04_Check.f k l nx = some (chk l nx) := by
  unfold midrangeref04_Check.f chk
  by_cases h : (l.length : Int) > 10
  · rw [if_pos h, if_pos (by omega)]
  · rw [if_neg h, if_neg (by omega), Within_eq]
    simp only [Option.bind_some, decide_eq_true_eq]
    by_cases h2 : 1 ≤ nx ∧ nx ≤ 1001
    · rw [if_pos h2, if_neg (not_not_intro h2)]
      exact rc_loop l nx (by omega) l.length 0 k (by omega) (by omega)
    · rw [if_neg h2, if_pos h2]
theorem Err_eq (l : List S46) (nx : Int) (k : Nat) (hk : 21 ≤ k) : midrangeref04_Err.f k l nx = some (chk l nx).2 := by
  unfold midrangeref04_Err.f
  rw [Check_eq l nx k hk]
  rfl

def small (l : List S46) : Prop := l.length ≤ 12 ∧ ∀ x ∈ l, x.f1.size ≤ 400
theorem few_loop (l : List S46) (nx : Int) (hl : l.length ≤ 12) (d : Nat) : ∀ (i k : Nat), i + d = l.length → d + 1 ≤ k →
    ∃ b, midrangelaw04_few.l0 k (i : Int) l nx = some b ∧ (b = true → ∀ x ∈ l.drop i, x.f1.size ≤ 400) := by
  induction d with
  | zero =>
    intro i k hi hk
    obtain ⟨k, rfl⟩ : ∃ m, k = m + 1 := ⟨k - 1, by omega⟩
    simp only [midrangelaw04_few.l0]
    rw [if_neg (by omega)]
    refine ⟨true, rfl, fun _ x hx => ?_⟩
    rw [List.drop_eq_nil_of_le (by omega)] at hx
    cases hx
  | succ d ih =>
    intro i k hi hk
    obtain ⟨k, rfl⟩ : ∃ m, k = m + 1 := ⟨k - 1, by omega⟩
    have e1 : wrap64 ((i : Int) + 1) = ((i + 1 : Nat) : Int) := by rw [w64 (by omega) (by omega)]; omega
    obtain ⟨b, hb, hx⟩ := ih (i + 1) k (by omega) (by omega)
    simp only [midrangelaw04_few.l0]
    rw [if_pos (by omega), if_pos (by omega), e1, hb]
    have hil : i < l.length := by omega
    have er : rd_T46 l (i : Int) = l[i] := by simp [rd_T46, hil]
    by_cases h : ((rd_T46 l (i : Int)).f1.size : Int) > 400
    · exact ⟨false, by rw [if_pos h], fun h => by cases h⟩
    · refine ⟨b, by rw [if_neg h], fun hb x hx' => ?_⟩
      rw [List.drop_eq_getElem_cons hil] at hx'
      rcases List.mem_cons.1 hx' with rfl | hx'
      · rw [er] at h; omega
      · exact hx hb x hx'
theorem few_eq (l : List S46) (nx : Int) (k : Nat) (hk : 14 ≤ k) : ∃ b, midrangelaw04_few.f k l nx = some b ∧ (b = true → small l) := by
  unfold midrangelaw04_few.f
  by_cases h : (l.length : Int) > 12
  · exact ⟨false, by rw [if_pos h], fun h => by cases h⟩
  · rw [if_neg h]
    obtain ⟨b, hb, hx⟩ := few_loop l nx (by omega) l.length 0 k (by omega) (by omega)
    exact ⟨b, hb, fun h' => ⟨by omega, by simpa using hx h'⟩⟩
theorem own_eq (l : List S46) (nx : Int) (hl : l.length ≤ 5864062014804) : midrangeref04_Own.f l nx = some (l, nx) := by
  unfold midrangeref04_Own.f
  rw [if_pos (by simp; omega)]
  rfl
theorem awake_eq (k : Nat) (hk : 60 ≤ k) : midrangelaw04_awake.f k = some true :=
  at_rounds (g := fun k => midrangelaw04_awake.f k) (fun k => midrangelaw04_awake.mono k) hk (by decide +kernel)
end Go.Proofs.YtoabahlaicgmjaaDoor.Q
end
section
namespace Go.Proofs.YtoabahlaicgmjaaDoor.X
open Go.Proofs.YtoabahlaicgmjaaDoor.XW Go.Proofs.YtoabahlaicgmjaaDoor.XS
open Go.RowKit Go.Proofs.YtoabahlaicgmjaaDoorW.PrintWords Go.Proofs.YtoabahlaicgmjaaDoorW.PrintLast Go.Proofs.YtoabahlaicgmjaaDoorW.PrintMore
attribute [local go_sem] max2_int min2_int max_two min_two max_three min_three max_four min_four   -- for this text's walks alone
set_option linter.unusedVariables false
set_option linter.unusedSimpArgs false
def midrangebase_Repeat.l0 : Nat → Int → Int → List Int → Int → Option (ByteArray)
  | 0, _, _, _, _ => none
  | k + 1, x0, x1, x5, x6 => if x6 < x1 then (if x5.length < 140737488355328 then (midrangebase_Repeat.l0 k x0 x1 (x5 ++ [x0]) (wrap64 (x6 + 1))) else (none)) else (some (strOfNums x5))
def midrangebase_Repeat.f (k : Nat) (a0 : Int) (a1 : Int) : Option (ByteArray) := midrangebase_Repeat.l0 k a0 a1 ([] : List Int) 0
def midrangeref04_Zeros.f (k : Nat) (a0 : Int) : Option (ByteArray) := (midrangebase_Repeat.f k 0 a0).bind fun t321 => (some t321)
def midrangeref04_Place.l0 : Nat → Int → Int → List (S46) → Int → Option (Int)
  | 0, _, _, _, _ => none
  | k + 1, x1, x5, x350000, x350001 => if x5 < (x350000.length : Int) then (if 0 ≤ x5 then (if ((rd_T46 x350000 x5).f0) = x1 then (some x5) else (midrangeref04_Place.l0 k x1 (wrap64 (x5 + 1)) x350000 x350001)) else (none)) else (some (-1))
def midrangeref04_Place.f (k : Nat) (l0_0 : List (S46)) (a0_1 : Int) (a1 : Int) : Option (Int) := midrangeref04_Place.l0 k a1 0 l0_0 a0_1
def midrangeref04_NumberErr.f (k : Nat) (l0_0 : List (S46)) (a0_1 : Int) (a1 : Int) : Option (Int) := (midrangeref04_Place.f k l0_0 a0_1 a1).bind fun t352 => (if t352 = (-1) then ((midrangebase_Within.f a1 1 (wrap64 (a0_1 - 1))).bind fun t353 => (if t353 = true then (some 24) else (some 11))) else (some 0))
def midrangeref04_known.f (k : Nat) (l0_0 : List (S46)) (a0_1 : Int) (a1 : Int) : Option (Int × Int) := (midrangeref04_Err.f k l0_0 a0_1).bind fun t355 => (if t355 = 0 then ((midrangeref04_Place.f k l0_0 a0_1 a1).bind fun t356 => ((midrangeref04_NumberErr.f k l0_0 a0_1 a1).bind fun t357 => (some (t356, t357)))) else (some ((-1), t355)))
end Go.Proofs.YtoabahlaicgmjaaDoor.X
end
section
namespace Go.Proofs.YtoabahlaicgmjaaDoor.Q
open Go.RowKit Go.Proofs.YtoabahlaicgmjaaDoor.X Go.Proofs.YtoabahlaicgmjaaDoorW.PrintWords Go.Proofs.YtoabahlaicgmjaaDoorW.PrintLast Go.Proofs.YtoabahlaicgmjaaDoorW.PrintMore
set_option linter.unusedVariables false
set_option linter.unusedSimpArgs false
structure Right (l : List S46) (nx : Int) : Prop where
  len : l.length ≤ 10
  nx1 : 1 ≤ nx
  nx2 : nx ≤ 1001
  each : ∀ i, i < l.length → bad l nx i = none
theorem chkFrom_ok (l : List S46) (nx : Int) : ∀ (d i : Nat), (chkFrom l nx d i).2 = 0 → (chkFrom l nx d i).1 = 0 ∧ ∀ j, i ≤ j → j < i + d → bad l nx j = none
  | 0, i, _ => ⟨rfl, fun j h1 h2 => by omega⟩
  | d + 1, i, h => by
    unfold chkFrom at h ⊢
    cases hb : bad l nx i with
    | some e =>
      rw [hb] at h
      have he : e ≠ 0 := by
        unfold bad at hb
        split at hb
        · injection hb with hb; omega
        · split at hb
          · injection hb with hb; omega
          · split at hb
            · injection hb with hb; omega
            · cases hb
      exact absurd h he
    | none =>
      rw [hb] at h
      obtain ⟨h1, h2⟩ := chkFrom_ok l nx d (i + 1) h
      refine ⟨h1, fun j hj1 hj2 => ?_⟩
      rcases Nat.eq_or_lt_of_le hj1 with rfl | hj
      · exact hb
      · exact h2 j hj (by omega)
theorem right_of (l : List S46) (nx : Int) (h : (chk l nx).2 = 0) : Right l nx ∧ (chk l nx).1 = 0 := by
  unfold chk at h ⊢
  by_cases h1 : 10 < l.length
  · rw [if_pos h1] at h; exact absurd h (by decide)
  · rw [if_neg h1] at h ⊢
    by_cases h2 : ¬ (1 ≤ nx ∧ nx ≤ 1001)
    · rw [if_pos h2] at h; exact absurd h (by decide)
    · rw [if_neg h2] at h ⊢
      have h3 := Decidable.not_not.mp h2
      obtain ⟨h4, h5⟩ := chkFrom_ok l nx l.length 0 h
      exact ⟨⟨by omega, h3.1, h3.2, fun i hi => h5 i (by omega) (by omega)⟩, h4⟩
theorem bad_none {l : List S46} {nx : Int} {i : Nat} (h : bad l nx i = none) :
    (1 ≤ (rd_T46 l i).f0 ∧ (rd_T46 l i).f0 ≤ wrap64 (nx - 1)) ∧ (0 < i → (rd_T46 l ((i : Int) - 1)).f0 < (rd_T46 l i).f0) ∧
    (((rd_T46 l i).f1.size : Int) % 32 = 0 ∧ 1 ≤ wrap64 (((rd_T46 l i).f1.size : Int) / 32) ∧ wrap64 (((rd_T46 l i).f1.size : Int) / 32) ≤ 8) := by
  unfold bad at h
  split at h
  · cases h
  · rename_i h1
    split at h
    · cases h
    · rename_i h2
      split at h
      · cases h
      · rename_i h3
        refine ⟨Decidable.not_not.mp h1, fun hi => ?_, Decidable.not_not.mp h3⟩
        have : ¬ (rd_T46 l i).f0 ≤ (rd_T46 l ((i : Int) - 1)).f0 := fun h => h2 ⟨hi, h⟩
        omega
theorem Right.num {l : List S46} {nx : Int} (h : Right l nx) (i : Nat) (hi : i < l.length) : 1 ≤ (rd_T46 l i).f0 ∧ (rd_T46 l i).f0 ≤ 1000 := by
  have h1 := (bad_none (h.each i hi)).1
  have h2 := h.nx1
  have h3 := h.nx2
  rw [w64 (by omega) (by omega)] at h1
  omega
theorem Right.mono {l : List S46} {nx : Int} (h : Right l nx) (i : Nat) : ∀ j, i < j → j < l.length → (rd_T46 l i).f0 < (rd_T46 l j).f0
  | 0, h1, _ => by omega
  | j + 1, h1, h2 => by
    have h3 := (bad_none (h.each (j + 1) h2)).2.1 (by omega)
    rw [show (((j + 1 : Nat) : Int) - 1) = (j : Int) by omega] at h3
    rcases Nat.eq_or_lt_of_le (Nat.le_of_lt_succ h1) with rfl | h4
    · exact h3
    · have := Right.mono h i j h4 (by omega)
      omega

theorem bs_step (k : Nat) (l : List S46) (n len lo hi m : Int) (em : wrap64 ((IntKind.u64.wrap (wrap64 (lo + hi))) / 2) = m) (h : lo < hi) (h0 : 0 ≤ m) (h1 : m < (l.length : Int)) :
    slices_BinarySearchFunc_at_segment_find_1.l0 (k + 1) l n len lo hi = if wrap64 ((rd_T46 l m).f0 - n) < 0 then slices_BinarySearchFunc_at_segment_find_1.l0 k l n len (wrap64 (m + 1)) hi else slices_BinarySearchFunc_at_segment_find_1.l0 k l n len lo m := by
  rw [slices_BinarySearchFunc_at_segment_find_1.l0, em, if_pos h, if_pos h0, if_pos h1, segment_find_1.f, Option.bind_some]
theorem bs_end (k : Nat) (l : List S46) (n lo hi : Int) (h : ¬ lo < hi) (h0 : 0 ≤ lo) :
    slices_BinarySearchFunc_at_segment_find_1.l0 (k + 1) l n (l.length : Int) lo hi = if lo < (l.length : Int) then some (lo, wrap64 ((rd_T46 l lo).f0 - n) == 0) else some (lo, false) := by
  rw [slices_BinarySearchFunc_at_segment_find_1.l0, if_neg h]
  by_cases h1 : lo < (l.length : Int)
  · rw [if_pos h1, if_pos h1, if_pos h0, if_pos h1, segment_find_1.f, Option.bind_some]
  · rw [if_neg h1, if_neg h1]
theorem mid_eq (lo hi : Nat) (h : hi ≤ 10) (h2 : lo ≤ hi) : wrap64 ((IntKind.u64.wrap (wrap64 ((lo : Int) + (hi : Int)))) / 2) = (((lo + hi) / 2 : Nat) : Int) := by
  have h3 : wrap64 ((lo : Int) + (hi : Int)) = ((lo + hi : Nat) : Int) := by rw [w64 (by omega) (by omega)]; omega
  rw [h3]
  have h4 : lo + hi ≤ 20 := by omega
  generalize lo + hi = q at *
  have h5 : IntKind.u64.wrap (q : Int) = (q : Int) := by
    have h6 : IntKind.u64.wrap (q : Int) = (q : Int) % 18446744073709551616 := by simp [IntKind.wrap, IntKind.signed, IntKind.bits]
    rw [h6]
    omega
  rw [h5, w64 (by omega) (by omega)]
  omega
theorem bs_sub_neg {x n : Int} (hn : -9223372036854775808 ≤ n ∧ n ≤ 9223372036854775807) (hx : 1 ≤ x ∧ x ≤ 1000) (h : wrap64 (x - n) < 0) : ¬ (1 ≤ n ∧ n ≤ x) := by
  intro h1
  rw [w64 (by omega) (by omega)] at h
  omega
theorem bs_sub_pos {x n : Int} (hn : -9223372036854775808 ≤ n ∧ n ≤ 9223372036854775807) (hx : 1 ≤ x ∧ x ≤ 1000) (h : ¬ wrap64 (x - n) < 0) : ¬ (x < n ∧ n ≤ 1000) := by
  intro h1
  rw [w64 (by omega) (by omega)] at h
  omega
theorem bs_sub_zero {x n : Int} (hn : -9223372036854775808 ≤ n ∧ n ≤ 9223372036854775807) (hx : 1 ≤ x ∧ x ≤ 1000) (h : (wrap64 (x - n) == 0) = true) : x = n := by
  have h' := eq_of_beq h
  unfold wrap64 at h'
  omega
theorem wsucc (m : Nat) (h : m < 10000) : wrap64 ((m : Int) + 1) = ((m + 1 : Nat) : Int) := by
  rw [w64 (by omega) (by omega)]
  omega
theorem bs_sub_self (n : Int) : (wrap64 (n - n) == 0) = true := by
  rw [Int.sub_self, w64 (by omega) (by omega)]; rfl
theorem bs_fin (l : List S46) (n : Int) (hn : -9223372036854775808 ≤ n ∧ n ≤ 9223372036854775807) (hnum : ∀ i : Nat, i < l.length → 1 ≤ (rd_T46 l (i : Int)).f0 ∧ (rd_T46 l (i : Int)).f0 ≤ 1000)
    (lo k : Nat) (hlo : lo ≤ l.length) : ∃ (i : Nat) (b : Bool), slices_BinarySearchFunc_at_segment_find_1.l0 (k + 1) l n (l.length : Int) (lo : Int) (lo : Int) = some ((i : Int), b) ∧ i ≤ l.length ∧
      (b = true → i < l.length ∧ (rd_T46 l (i : Int)).f0 = n) ∧ (∀ j : Nat, lo ≤ j → j < lo → (rd_T46 l (j : Int)).f0 = n → b = true) ∧ (lo < l.length → (rd_T46 l (lo : Int)).f0 = n → b = true) := by
  rw [bs_end k l n lo lo (by omega) (by omega)]
  by_cases h : lo < l.length
  · rw [if_pos (by omega)]
    have h1 := hnum lo h
    refine ⟨lo, _, rfl, hlo, fun hb => ⟨h, bs_sub_zero hn h1 hb⟩, fun j h2 h3 => by omega, fun _ he => ?_⟩
    rw [he]
    exact bs_sub_self n
  · rw [if_neg (by omega)]
    exact ⟨lo, false, rfl, hlo, (fun hb => by cases hb), (fun j h2 h3 => by omega), (fun h2 => by omega)⟩
theorem bs_loop (l : List S46) (n : Int) (hl : l.length ≤ 10) (hn : -9223372036854775808 ≤ n ∧ n ≤ 9223372036854775807) (hnum : ∀ i : Nat, i < l.length → 1 ≤ (rd_T46 l (i : Int)).f0 ∧ (rd_T46 l (i : Int)).f0 ≤ 1000)
    (hmono : ∀ i j : Nat, i < j → j < l.length → (rd_T46 l (i : Int)).f0 < (rd_T46 l (j : Int)).f0) (d : Nat) : ∀ (lo hi k : Nat), lo ≤ hi → hi ≤ l.length → hi - lo ≤ d → d + 1 ≤ k →
    ∃ (i : Nat) (b : Bool), slices_BinarySearchFunc_at_segment_find_1.l0 k l n (l.length : Int) (lo : Int) (hi : Int) = some ((i : Int), b) ∧ i ≤ l.length ∧
      (b = true → i < l.length ∧ (rd_T46 l (i : Int)).f0 = n) ∧ (∀ j : Nat, lo ≤ j → j < hi → (rd_T46 l (j : Int)).f0 = n → b = true) ∧ (hi < l.length → (rd_T46 l (hi : Int)).f0 = n → b = true) := by
  induction d with
  | zero =>
    intro lo hi k h1 h2 h3 hk
    obtain rfl : hi = lo := by omega
    obtain ⟨k, rfl⟩ : ∃ m, k = m + 1 := ⟨k - 1, by omega⟩
    exact bs_fin l n hn hnum hi k h2
  | succ d ih =>
    intro lo hi k h1 h2 h3 hk
    obtain ⟨k, rfl⟩ : ∃ m, k = m + 1 := ⟨k - 1, by omega⟩
    rcases Nat.eq_or_lt_of_le h1 with rfl | h4
    · exact bs_fin l n hn hnum lo k h2
    · obtain ⟨m, em, hm1, hm2⟩ : ∃ m : Nat, wrap64 ((IntKind.u64.wrap (wrap64 ((lo : Int) + (hi : Int)))) / 2) = (m : Int) ∧ m < hi ∧ lo ≤ m := ⟨(lo + hi) / 2, mid_eq lo hi (by omega) h1, by omega, by omega⟩
      have hy := hnum m (by omega)
      have hmz : (0 : Int) ≤ (m : Int) := Int.natCast_nonneg m
      have hml : (m : Int) < (l.length : Int) := Int.ofNat_lt.mpr (Nat.lt_of_lt_of_le hm1 h2)
      have hlh : (lo : Int) < (hi : Int) := Int.ofNat_lt.mpr h4
      rw [bs_step k l n _ _ _ _ em hlh hmz hml]
      clear em
      by_cases hlt : wrap64 ((rd_T46 l (m : Int)).f0 - n) < 0
      · rw [if_pos hlt, wsucc m (by clear hlt; omega)]
        have hneg := bs_sub_neg hn hy hlt
        clear hlt
        obtain ⟨i, b, hr, hi1, hi2, hi3, hi4⟩ := ih (m + 1) hi k (by omega) h2 (by omega) (by omega)
        refine ⟨i, b, hr, hi1, hi2, fun j hj1 hj2 hj3 => ?_, hi4⟩
        rcases Nat.lt_or_ge m j with hj | hj
        · exact hi3 j (by omega) hj2 hj3
        · exfalso
          have h5 := hnum j (by omega)
          have h6 : (rd_T46 l (j : Int)).f0 ≤ (rd_T46 l (m : Int)).f0 := by
            rcases Nat.eq_or_lt_of_le hj with rfl | hj
            · exact Int.le_refl _
            · exact Int.le_of_lt (hmono j m hj (by omega))
          exact hneg ⟨by omega, by omega⟩
      · rw [if_neg hlt]
        have hneg := bs_sub_pos hn hy hlt
        clear hlt
        obtain ⟨i, b, hr, hi1, hi2, hi3, hi4⟩ := ih lo m k (by omega) (by omega) (by omega) (by omega)
        have hge : ∀ j : Nat, m ≤ j → j < l.length → (rd_T46 l (j : Int)).f0 = n → b = true := by
          intro j hj1 hj2 hj3
          rcases Nat.eq_or_lt_of_le hj1 with rfl | hj
          · exact hi4 (by omega) hj3
          · exfalso
            have h5 := hnum j hj2
            have h6 := hmono m j hj hj2
            exact hneg ⟨by omega, by omega⟩
        refine ⟨i, b, hr, hi1, hi2, fun j hj1 hj2 hj3 => ?_, fun hh he => hge hi (by omega) hh he⟩
        rcases Nat.lt_or_ge j m with hj | hj
        · exact hi3 j hj1 hj hj3
        · exact hge j hj (by omega) hj3

theorem place_loop (l : List S46) (nx n : Int) (hl : l.length ≤ 10) (d : Nat) : ∀ (i k : Nat), i + d = l.length → d + 1 ≤ k →
    (∃ j, i ≤ j ∧ j < l.length ∧ (rd_T46 l j).f0 = n ∧ midrangeref04_Place.l0 k n (i : Int) l nx = some (j : Int)) ∨ ((∀ j, i ≤ j → j < l.length → (rd_T46 l j).f0 ≠ n) ∧ midrangeref04_Place.l0 k n (i : Int) l nx = some (-1)) := by
  induction d with
  | zero =>
    intro i k hi hk
    obtain ⟨k, rfl⟩ : ∃ m, k = m + 1 := ⟨k - 1, by omega⟩
    right
    refine ⟨fun j h1 h2 => by omega, ?_⟩
    rw [midrangeref04_Place.l0, if_neg (by omega)]
  | succ d ih =>
    intro i k hi hk
    obtain ⟨k, rfl⟩ : ∃ m, k = m + 1 := ⟨k - 1, by omega⟩
    have e1 : wrap64 ((i : Int) + 1) = ((i + 1 : Nat) : Int) := by rw [w64 (by omega) (by omega)]; omega
    rw [midrangeref04_Place.l0, if_pos (by omega), if_pos (by omega), e1]
    by_cases h : (rd_T46 l i).f0 = n
    · rw [if_pos h]
      exact .inl ⟨i, Nat.le_refl _, by omega, h, rfl⟩
    · rw [if_neg h]
      rcases ih (i + 1) k (by omega) (by omega) with ⟨j, h1, h2, h3, h4⟩ | ⟨h1, h2⟩
      · exact .inl ⟨j, by omega, h2, h3, h4⟩
      · refine .inr ⟨fun j h3 h4 => ?_, h2⟩
        rcases Nat.eq_or_lt_of_le h3 with rfl | h5
        · exact h
        · exact h1 j h5 h4

/-- What both know of a segment: its place, or one error. -/
theorem find_known (l : List S46) (nx n : Int) (k : Nat) (hk : 40 ≤ k) (hn : -9223372036854775808 ≤ n ∧ n ≤ 9223372036854775807) :
    (∃ (e p : Int), e ≠ 0 ∧ segment_find.f k l nx n = some (0, e) ∧ midrangeref04_known.f k l nx n = some (p, e)) ∨
    (∃ j : Nat, j < l.length ∧ (rd_T46 l j).f0 = n ∧ Right l nx ∧ segment_find.f k l nx n = some ((j : Int), 0) ∧ midrangeref04_known.f k l nx n = some ((j : Int), 0)) := by
  unfold segment_find.f midrangeref04_known.f
  rw [check_eq l nx k (by omega), Err_eq l nx k (by omega), Option.bind_some, Option.bind_some]
  by_cases h : (chk l nx).2 = 0
  · rw [if_pos h, if_pos h]
    obtain ⟨R, _⟩ := right_of l nx h
    have hpl : midrangeref04_Place.f k l nx n = midrangeref04_Place.l0 k n ((0 : Nat) : Int) l nx := rfl
    obtain ⟨i, b, hb, hb1, hb2, hb3, _⟩ := bs_loop l n R.len hn R.num (fun i j => R.mono i j) l.length 0 l.length k (by omega) (Nat.le_refl _) (by omega) (by have := R.len; omega)
    have hb0 : slices_BinarySearchFunc_at_segment_find_1.f k l n = some ((i : Int), b) := hb
    rw [hb0, Option.bind_some, within_eq, Option.bind_some]
    rcases place_loop l nx n R.len l.length 0 k (by omega) (by have := R.len; omega) with ⟨j, h1, h2, h3, h4⟩ | ⟨h1, h2⟩
    · right
      have hbt := hb3 j h1 h2 h3
      obtain ⟨hi1, hi2⟩ := hb2 hbt
      have hij : i = j := by
        rcases Nat.lt_trichotomy i j with h5 | h5 | h5
        · have := R.mono i j h5 h2; omega
        · exact h5
        · have := R.mono j i h5 hi1; omega
      subst hij
      refine ⟨i, h2, h3, R, by rw [if_pos hbt], ?_⟩
      rw [hpl, h4, Option.bind_some, midrangeref04_NumberErr.f, hpl, h4, Option.bind_some, if_neg (by omega)]
      rfl
    · left
      have hbf : b = false := by
        cases b with
        | false => rfl
        | true => exact absurd (hb2 rfl).2 (h1 i (Nat.zero_le _) (hb2 rfl).1)
      subst hbf
      rw [if_neg (by simp), hpl, h2, Option.bind_some, midrangeref04_NumberErr.f, hpl, h2, Option.bind_some, if_pos rfl, Within_eq, Option.bind_some]
      simp only [decide_eq_true_eq]
      by_cases h5 : 1 ≤ n ∧ n ≤ wrap64 (nx - 1)
      · rw [if_pos h5, if_pos h5]
        exact ⟨24, -1, by decide, rfl, rfl⟩
      · rw [if_neg h5, if_neg h5]
        exact ⟨11, -1, by decide, rfl, rfl⟩
  · rw [if_neg h, if_neg h]
    exact .inl ⟨_, -1, h, rfl, rfl⟩

def zer (n : Nat) : ByteArray := ⟨(List.replicate n (0 : UInt8)).toArray⟩
theorem pages_eq (n : Int) (h0 : 0 ≤ n) (h1 : n ≤ 8) : segment_pages.f n = some (zer (n.toNat * 32)) := by
  unfold segment_pages.f strings_Repeat.f
  have e : wrap64 (n * 32) = n * 32 := w64 (by omega) (by omega)
  have hs : (⟨#[0]⟩ : ByteArray).size = 1 := rfl
  rw [e, if_pos (by omega), if_pos (by omega), hs, if_pos (by omega), Option.bind_some]
  have : (n * 32).toNat = n.toNat * 32 := by omega
  rw [this]
  have h2 : Lib.repeatL (⟨#[0]⟩ : ByteArray).data.toList (n.toNat * 32) = List.replicate (n.toNat * 32 * 1) (0 : UInt8) := Lib.repeatL_replicate 0 1 _
  rw [h2, Nat.mul_one]
  rfl
theorem zeros_loop (m : Nat) (hm : m ≤ 256) (d : Nat) : ∀ (i k : Nat), i + d = m → d + 1 ≤ k → midrangebase_Repeat.l0 k 0 (m : Int) (List.replicate i 0) (i : Int) = some (strOfNums (List.replicate m 0)) := by
  induction d with
  | zero =>
    intro i k hi hk
    obtain ⟨k, rfl⟩ : ∃ q, k = q + 1 := ⟨k - 1, by omega⟩
    obtain rfl : i = m := by omega
    rw [midrangebase_Repeat.l0, if_neg (by omega)]
  | succ d ih =>
    intro i k hi hk
    obtain ⟨k, rfl⟩ : ∃ q, k = q + 1 := ⟨k - 1, by omega⟩
    have e1 : wrap64 ((i : Int) + 1) = ((i + 1 : Nat) : Int) := by rw [w64 (by omega) (by omega)]; omega
    rw [midrangebase_Repeat.l0, if_pos (by omega), if_pos (by simp; omega), e1, ← ih (i + 1) k (by omega) (by omega), List.replicate_succ']
theorem Zeros_eq (n : Int) (k : Nat) (hk : 300 ≤ k) (h0 : 0 ≤ n) (h1 : n ≤ 8) : midrangeref04_Zeros.f k (n * 32) = some (zer (n.toNat * 32)) := by
  unfold midrangeref04_Zeros.f midrangebase_Repeat.f
  have h := zeros_loop (n.toNat * 32) (by omega) (n.toNat * 32) 0 k (by omega) (by omega)
  rw [show ((n.toNat * 32 : Nat) : Int) = n * 32 by omega] at h
  have h' : midrangebase_Repeat.l0 k 0 (n * 32) ([] : List Int) 0 = some (strOfNums (List.replicate (n.toNat * 32) 0)) := h
  rw [h', Option.bind_some]
  congr 1
  apply ByteArray.ext
  apply Array.ext'
  simp [strOfNums, zer]
theorem same_loop (l : List S46) (nx : Int) (hl : l.length ≤ 100) (d : Nat) : ∀ (i k : Nat), i + d = l.length → d + 1 ≤ k → midrangeref04_Same.l0 k (i : Int) l nx l nx = some true := by
  induction d with
  | zero =>
    intro i k hi hk
    obtain ⟨k, rfl⟩ : ∃ q, k = q + 1 := ⟨k - 1, by omega⟩
    rw [midrangeref04_Same.l0, if_neg (by omega)]
  | succ d ih =>
    intro i k hi hk
    obtain ⟨k, rfl⟩ : ∃ q, k = q + 1 := ⟨k - 1, by omega⟩
    have e1 : wrap64 ((i : Int) + 1) = ((i + 1 : Nat) : Int) := by rw [w64 (by omega) (by omega)]; omega
    rw [midrangeref04_Same.l0, if_pos (by omega), if_pos (by omega), if_pos (by omega), if_neg (by simp), e1]
    exact ih (i + 1) k (by omega) (by omega)
theorem same_eq (l : List S46) (nx : Int) (hl : l.length ≤ 100) (k : Nat) (hk : 103 ≤ k) : midrangeref04_Same.f k l nx l nx = some true := by
  unfold midrangeref04_Same.f
  obtain ⟨k, rfl⟩ : ∃ q, k = q + 1 := ⟨k - 1, by omega⟩
  rw [if_pos rfl, midrangeref04_Same.j0, if_neg (by simp)]
  exact same_loop l nx hl l.length 0 k (by omega) (by omega)
end Go.Proofs.YtoabahlaicgmjaaDoor.Q
end
section
namespace Go.Proofs.YtoabahlaicgmjaaDoor.X
open Go.Proofs.YtoabahlaicgmjaaDoor.XW Go.Proofs.YtoabahlaicgmjaaDoor.XS
open Go.RowKit Go.Proofs.YtoabahlaicgmjaaDoorW.PrintWords Go.Proofs.YtoabahlaicgmjaaDoorW.PrintLast Go.Proofs.YtoabahlaicgmjaaDoorW.PrintMore
attribute [local go_sem] max2_int min2_int max_two min_two max_three min_three max_four min_four   -- for this text's walks alone
set_option linter.unusedVariables false
set_option linter.unusedSimpArgs false
def midrangeref04_Created.j0 : Nat → Int → Bool → List (S46) → Int → Option ((List (S46)) × Int × Int × ByteArray × Int)
  | 0, _, _, _, _ => none
  | k + 1, x1, x25, x323000, x323001 => if x25 = true then ((midrangeref04_failed.f 30).bind fun bt333 => (some (bt333.1, bt333.2.1, bt333.2.2.1, bt333.2.2.2.1, bt333.2.2.2.2))) else ((midrangeref04_Own.f x323000 x323001).bind fun bt340 => ((midrangeref04_Zeros.f k (wrap64 (x1 * 32))).bind fun t345 => (if bt340.1.length < 5864062014805 then (some ((bt340.1 ++ [(⟨x323001, t345⟩ : S46)]), wrap64 (x323001 + 1), x323001, (⟨#[]⟩ : ByteArray), 0)) else (none))))
def midrangeref04_Created.f (k : Nat) (l0_0 : List (S46)) (a0_1 : Int) (a1 : Int) : Option ((List (S46)) × Int × Int × ByteArray × Int) := (midrangeref04_Err.f k l0_0 a0_1).bind fun t324 => (if t324 = 0 then ((midrangebase_Within.f a1 1 8).bind fun t325 => (if t325 = true then (if (l0_0.length : Int) = 10 then (midrangeref04_Created.j0 k a1 true l0_0 a0_1) else (midrangeref04_Created.j0 k a1 (decide (a0_1 > 1000)) l0_0 a0_1)) else ((midrangeref04_failed.f 3).bind fun bt326 => (some (bt326.1, bt326.2.1, bt326.2.2.1, bt326.2.2.2.1, bt326.2.2.2.2))))) else (some (([] : List (S46)), 0, 0, (⟨#[]⟩ : ByteArray), t324)))
def midrangeref04_Destroyed.f (k : Nat) (l0_0 : List (S46)) (a0_1 : Int) (a1 : Int) : Option ((List (S46)) × Int × Int × ByteArray × Int) := (midrangeref04_known.f k l0_0 a0_1 a1).bind fun bt412 => (if bt412.2 = 0 then ((midrangeref04_Own.f l0_0 a0_1).bind fun bt414 => (if 0 ≤ bt412.1 then (if bt412.1 ≤ (bt414.1.length : Int) then (if 0 ≤ (wrap64 (bt412.1 + 1)) then (if (wrap64 (bt412.1 + 1)) ≤ (bt414.1.length : Int) then (some ((bt414.1.eraseIdx (bt412.1 : Int).toNat), bt414.2, 0, (⟨#[]⟩ : ByteArray), 0)) else (none)) else (none)) else (none)) else (none))) else (some (([] : List (S46)), 0, 0, (⟨#[]⟩ : ByteArray), bt412.2)))
end Go.Proofs.YtoabahlaicgmjaaDoor.X
end
section
namespace Go.Proofs.YtoabahlaicgmjaaDoor.Q
open Go.RowKit Go.Proofs.YtoabahlaicgmjaaDoor.X Go.Proofs.YtoabahlaicgmjaaDoorW.PrintWords Go.Proofs.YtoabahlaicgmjaaDoorW.PrintLast Go.Proofs.YtoabahlaicgmjaaDoorW.PrintMore
set_option linter.unusedVariables false
set_option linter.unusedSimpArgs false
theorem clone_eq (l : List S46) (hl : l.length ≤ 1000) : api_Segment_23.f l = some l := by
  unfold api_Segment_23.f
  rw [if_pos (by omega)]
/-- What the store behind a creation is, or the error. -/
def created (l : List S46) (nx p : Int) : List S46 × Int × Int × Int :=
  if (chk l nx).2 ≠ 0 then ([], 0, 0, (chk l nx).2) else if ¬ (1 ≤ p ∧ p ≤ 8) then ([], 0, 0, 3)
  else if l.length = 10 ∨ 1000 < nx then ([], 0, 0, 30) else (l ++ [⟨nx, zer (p.toNat * 32)⟩], wrap64 (nx + 1), nx, 0)
theorem created_eq (l : List S46) (nx p : Int) (k : Nat) (hk : 400 ≤ k) : segment_Created.f k l nx p = some (created l nx p) := by
  unfold segment_Created.f created
  rw [check_eq l nx k (by omega), Option.bind_some]
  by_cases h : (chk l nx).2 = 0
  · obtain ⟨R, _⟩ := right_of l nx h
    have hl := R.len
    rw [if_pos h, if_neg (not_not_intro h), within_eq, Option.bind_some]
    simp only [decide_eq_true_eq]
    by_cases hp : 1 ≤ p ∧ p ≤ 8
    · rw [if_pos hp, if_neg (not_not_intro hp)]
      obtain ⟨k, rfl⟩ : ∃ q, k = q + 1 := ⟨k - 1, by omega⟩
      have fin : ∀ b : Bool, (b = true ↔ (l.length = 10 ∨ 1000 < nx)) → segment_Created.j0 (k + 1) p b l nx = some (if l.length = 10 ∨ 1000 < nx then ([], 0, 0, 30) else (l ++ [⟨nx, zer (p.toNat * 32)⟩], wrap64 (nx + 1), nx, 0)) := by
        intro b hb
        rw [segment_Created.j0]
        by_cases h2 : l.length = 10 ∨ 1000 < nx
        · rw [if_pos (hb.2 h2), if_pos h2]
        · rw [if_neg (fun h => h2 (hb.1 h)), if_neg h2, clone_eq l (by omega), Option.bind_some, pages_eq p (by omega) (by omega), Option.bind_some, if_pos (by omega)]
      by_cases h3 : (l.length : Int) = 10
      · rw [if_pos h3]
        exact fin _ ⟨fun _ => .inl (by omega), fun _ => by rw [h3]; rfl⟩
      · rw [if_neg h3]
        refine fin _ ?_
        rw [decide_eq_true_eq]
        exact ⟨fun h => .inr h, fun h => by rcases h with h | h <;> omega⟩
    · rw [if_neg hp, if_pos hp]
  · rw [if_neg h, if_pos h]
theorem Created_eq (l : List S46) (nx p : Int) (k : Nat) (hk : 400 ≤ k) : midrangeref04_Created.f k l nx p = some ((created l nx p).1, (created l nx p).2.1, (created l nx p).2.2.1, (⟨#[]⟩ : ByteArray), (created l nx p).2.2.2) := by
  unfold midrangeref04_Created.f created
  rw [Err_eq l nx k (by omega), Option.bind_some]
  by_cases h : (chk l nx).2 = 0
  · obtain ⟨R, _⟩ := right_of l nx h
    have hl := R.len
    rw [if_pos h, if_neg (not_not_intro h), Within_eq, Option.bind_some]
    simp only [decide_eq_true_eq]
    by_cases hp : 1 ≤ p ∧ p ≤ 8
    · rw [if_pos hp, if_neg (not_not_intro hp)]
      obtain ⟨k, rfl⟩ : ∃ q, k = q + 1 := ⟨k - 1, by omega⟩
      have fin : ∀ b : Bool, (b = true ↔ (l.length = 10 ∨ 1000 < nx)) → midrangeref04_Created.j0 (k + 1) p b l nx = some ((if l.length = 10 ∨ 1000 < nx then ([], 0, 0, 30) else (l ++ [⟨nx, zer (p.toNat * 32)⟩], wrap64 (nx + 1), nx, 0) : List S46 × Int × Int × Int).1, (if l.length = 10 ∨ 1000 < nx then ([], 0, 0, 30) else (l ++ [⟨nx, zer (p.toNat * 32)⟩], wrap64 (nx + 1), nx, 0) : List S46 × Int × Int × Int).2.1, (if l.length = 10 ∨ 1000 < nx then ([], 0, 0, 30) else (l ++ [⟨nx, zer (p.toNat * 32)⟩], wrap64 (nx + 1), nx, 0) : List S46 × Int × Int × Int).2.2.1, (⟨#[]⟩ : ByteArray), (if l.length = 10 ∨ 1000 < nx then ([], 0, 0, 30) else (l ++ [⟨nx, zer (p.toNat * 32)⟩], wrap64 (nx + 1), nx, 0) : List S46 × Int × Int × Int).2.2.2) := by
        intro b hb
        rw [midrangeref04_Created.j0]
        by_cases h2 : l.length = 10 ∨ 1000 < nx
        · rw [if_pos (hb.2 h2)]
          simp only [if_pos h2]
          rfl
        · rw [if_neg (fun h => h2 (hb.1 h)), own_eq l nx (by omega), Option.bind_some, w64 (x := p * 32) (by omega) (by omega), Zeros_eq p k (by omega) (by omega) (by omega), Option.bind_some, if_pos (by show l.length < _; omega)]
          simp only [if_neg h2]
      by_cases h3 : (l.length : Int) = 10
      · rw [if_pos h3]
        exact fin _ ⟨fun _ => .inl (by omega), fun _ => rfl⟩
      · rw [if_neg h3]
        refine fin _ ?_
        rw [decide_eq_true_eq]
        exact ⟨fun h => .inr h, fun h => by rcases h with h | h <;> omega⟩
    · rw [if_neg hp]
      simp only [if_pos hp]
      rfl
  · rw [if_neg h]
    simp only [if_pos h]
theorem created_post (l : List S46) (nx p : Int) (h : (created l nx p).2.2.2 = 0) : Right l nx ∧ 1 ≤ p ∧ p ≤ 8 ∧ l.length < 10 ∧ nx ≤ 1000 ∧ created l nx p = (l ++ [⟨nx, zer (p.toNat * 32)⟩], nx + 1, nx, 0) := by
  unfold created at h ⊢
  by_cases h1 : (chk l nx).2 = 0
  · obtain ⟨R, _⟩ := right_of l nx h1
    have hl := R.len
    have hn := R.nx1
    rw [if_neg (not_not_intro h1)] at h ⊢
    by_cases hp : 1 ≤ p ∧ p ≤ 8
    · rw [if_neg (not_not_intro hp)] at h ⊢
      by_cases h2 : l.length = 10 ∨ 1000 < nx
      · rw [if_pos h2] at h; exact absurd h (by decide)
      · rw [if_neg h2, w64 (x := nx + 1) (by omega) (by omega)]
        exact ⟨R, hp.1, hp.2, by omega, by omega, rfl⟩
    · rw [if_pos hp] at h; exact absurd h (by decide)
  · rw [if_pos h1] at h; exact absurd h h1
theorem destroyed_both (l : List S46) (nx n : Int) (k : Nat) (hk : 40 ≤ k) (hn : -9223372036854775808 ≤ n ∧ n ≤ 9223372036854775807) :
    ∃ (l' : List S46) (nx' e : Int), l'.length ≤ 10 ∧ segment_Destroyed.f k l nx n = some (l', nx', e) ∧ midrangeref04_Destroyed.f k l nx n = some (l', nx', 0, (⟨#[]⟩ : ByteArray), e) ∧
    (e = 0 → ∃ j : Nat, j < l.length ∧ (rd_T46 l (j : Int)).f0 = n ∧ Right l nx ∧ nx' = nx ∧ l' = l.eraseIdx j) := by
  unfold segment_Destroyed.f midrangeref04_Destroyed.f
  rcases find_known l nx n k hk hn with ⟨e, p, h1, h2, h3⟩ | ⟨j, h1, hjn, R, h2, h3⟩
  · rw [h2, h3, Option.bind_some, Option.bind_some, if_neg h1, if_neg h1]
    exact ⟨[], 0, e, by simp, rfl, rfl, fun h => absurd h h1⟩
  · have hl := R.len
    have e1 : wrap64 ((j : Int) + 1) = (j : Int) + 1 := w64 (by omega) (by omega)
    rw [h2, h3, Option.bind_some, Option.bind_some, if_pos rfl, if_pos rfl, clone_eq l (by omega), Option.bind_some, own_eq l nx (by omega), Option.bind_some, e1, if_pos (by omega), if_pos (by show (j : Int) ≤ (l.length : Int); omega), if_pos (by omega), if_pos (by show (j : Int) + 1 ≤ (l.length : Int); omega)]
    unfold api_Segment_27.f
    rw [if_pos rfl, if_pos (by omega), if_pos (by omega), Option.bind_some]
    exact ⟨l.eraseIdx j, nx, 0, by have := List.length_eraseIdx_le l j; omega, by simp, by simp, fun _ => ⟨j, h1, hjn, R, rfl, rfl⟩⟩
end Go.Proofs.YtoabahlaicgmjaaDoor.Q
end
section
namespace Go.Proofs.YtoabahlaicgmjaaDoor.X
open Go.Proofs.YtoabahlaicgmjaaDoor.XW Go.Proofs.YtoabahlaicgmjaaDoor.XS
open Go.RowKit Go.Proofs.YtoabahlaicgmjaaDoorW.PrintWords Go.Proofs.YtoabahlaicgmjaaDoorW.PrintLast Go.Proofs.YtoabahlaicgmjaaDoorW.PrintMore
attribute [local go_sem] max2_int min2_int max_two min_two max_three min_three max_four min_four   -- for this text's walks alone
set_option linter.unusedVariables false
set_option linter.unusedSimpArgs false
def midrangeref04_with.f (l0_0 : List (S46)) (a0_1 : Int) (a1 : Int) (a2 : ByteArray) : Option ((List (S46)) × Int) := (midrangeref04_Own.f l0_0 a0_1).bind fun bt360 => (if 0 ≤ a1 then (if a1 < (bt360.1.length : Int) then (some ((bt360.1.set (a1 : Int).toNat (⟨(rd_T46 bt360.1 a1).f0, a2⟩ : S46)), bt360.2)) else (none)) else (none))
def midrangeref04_Extended.f (k : Nat) (l0_0 : List (S46)) (a0_1 : Int) (a1 : Int) (a2 : Int) : Option ((List (S46)) × Int × Int × ByteArray × Int) := (midrangeref04_known.f k l0_0 a0_1 a1).bind fun bt368 => (if bt368.2 = 0 then ((midrangebase_Within.f a2 1 8).bind fun t370 => (if t370 = true then (if 0 ≤ bt368.1 then (if bt368.1 < (l0_0.length : Int) then ((midrangeref04_Pages.f ((rd_T46 l0_0 bt368.1).f1)).bind fun t379 => (if (wrap64 (t379 + a2)) > 8 then ((midrangeref04_failed.f 30).bind fun bt380 => (some (bt380.1, bt380.2.1, bt380.2.2.1, bt380.2.2.2.1, bt380.2.2.2.2))) else ((midrangeref04_Zeros.f k (wrap64 (a2 * 32))).bind fun t387 => (if ((rd_T46 l0_0 bt368.1).f1).size + t387.size ≤ 9223372036854775807 then ((midrangeref04_with.f l0_0 a0_1 bt368.1 (((rd_T46 l0_0 bt368.1).f1) ++ t387)).bind fun bt388 => (some (bt388.1, bt388.2, 0, (⟨#[]⟩ : ByteArray), 0))) else (none))))) else (none)) else (none)) else ((midrangeref04_failed.f 3).bind fun bt371 => (some (bt371.1, bt371.2.1, bt371.2.2.1, bt371.2.2.2.1, bt371.2.2.2.2))))) else (some (([] : List (S46)), 0, 0, (⟨#[]⟩ : ByteArray), bt368.2)))
def midrangeref04_Truncated.f (k : Nat) (l0_0 : List (S46)) (a0_1 : Int) (a1 : Int) (a2 : Int) : Option ((List (S46)) × Int × Int × ByteArray × Int) := (midrangeref04_known.f k l0_0 a0_1 a1).bind fun bt394 => (if bt394.2 = 0 then (if 0 ≤ bt394.1 then (if bt394.1 < (l0_0.length : Int) then ((midrangeref04_Pages.f ((rd_T46 l0_0 bt394.1).f1)).bind fun t397 => ((midrangebase_Within.f a2 1 t397).bind fun t398 => (if t398 = true then (if 0 ≤ (wrap64 (a2 * 32)) then (if (wrap64 (a2 * 32)) ≤ (((rd_T46 l0_0 bt394.1).f1).size : Int) then ((midrangeref04_with.f l0_0 a0_1 bt394.1 (((rd_T46 l0_0 bt394.1).f1).extract 0 ((wrap64 (a2 * 32)) : Int).toNat)).bind fun bt399 => (some (bt399.1, bt399.2, 0, (⟨#[]⟩ : ByteArray), 0))) else (none)) else (none)) else ((midrangeref04_failed.f 3).bind fun bt403 => (some (bt403.1, bt403.2.1, bt403.2.2.1, bt403.2.2.2.1, bt403.2.2.2.2)))))) else (none)) else (none)) else (some (([] : List (S46)), 0, 0, (⟨#[]⟩ : ByteArray), bt394.2)))
def midrangeref04_reach.f (k : Nat) (l0_0 : List (S46)) (a0_1 : Int) (a1_0 : Int) (a1_1 : Int) (a2 : Int) : Option (Int × Int) := (midrangeref04_known.f k l0_0 a0_1 a1_0).bind fun bt432 => (if bt432.2 = 0 then (if 0 ≤ bt432.1 then (if bt432.1 < (l0_0.length : Int) then ((midrangebase_Within.f a1_1 0 (((rd_T46 l0_0 bt432.1).f1).size : Int)).bind fun t435 => (if t435 = true then ((midrangebase_Within.f a2 0 (wrap64 ((((rd_T46 l0_0 bt432.1).f1).size : Int) - a1_1))).bind fun t436 => (if t436 = true then (some (bt432.1, 0)) else (some (bt432.1, 3)))) else (some (bt432.1, 3)))) else (none)) else (none)) else (some (bt432.1, bt432.2)))
def midrangebase_Patched.f (a0 : ByteArray) (a1 : Int) (a2 : ByteArray) : Option (ByteArray) := if 0 ≤ a1 then (if a1 ≤ (a0.size : Int) then (if (a1 : Int).toNat + a2.size ≤ 9223372036854775807 then (if 0 ≤ (wrap64 (a1 + (a2.size : Int))) then (if (wrap64 (a1 + (a2.size : Int))) ≤ (a0.size : Int) then (if (a1 : Int).toNat + a2.size + (a0.size - ((wrap64 (a1 + (a2.size : Int))) : Int).toNat) ≤ 9223372036854775807 then (some (((a0.extract 0 (a1 : Int).toNat) ++ a2) ++ (a0.extract ((wrap64 (a1 + (a2.size : Int))) : Int).toNat a0.size))) else (none)) else (none)) else (none)) else (none)) else (none)) else (none)
def midrangeref04_Written.f (k : Nat) (l0_0 : List (S46)) (a0_1 : Int) (a1_0 : Int) (a1_1 : Int) (a2 : ByteArray) : Option ((List (S46)) × Int × Int × ByteArray × Int) := (midrangeref04_reach.f k l0_0 a0_1 a1_0 a1_1 (a2.size : Int)).bind fun bt440 => (if bt440.2 = 0 then (if 0 ≤ bt440.1 then (if bt440.1 < (l0_0.length : Int) then ((midrangebase_Patched.f ((rd_T46 l0_0 bt440.1).f1) a1_1 a2).bind fun t443 => ((midrangeref04_with.f l0_0 a0_1 bt440.1 t443).bind fun bt444 => (some (bt444.1, bt444.2, 0, (⟨#[]⟩ : ByteArray), 0)))) else (none)) else (none)) else (some (([] : List (S46)), 0, 0, (⟨#[]⟩ : ByteArray), bt440.2)))
end Go.Proofs.YtoabahlaicgmjaaDoor.X
end
section
namespace Go.Proofs.YtoabahlaicgmjaaDoor.Q
open Go.RowKit Go.Proofs.YtoabahlaicgmjaaDoor.X Go.Proofs.YtoabahlaicgmjaaDoorW.PrintWords Go.Proofs.YtoabahlaicgmjaaDoorW.PrintLast Go.Proofs.YtoabahlaicgmjaaDoorW.PrintMore
set_option linter.unusedVariables false
set_option linter.unusedSimpArgs false
theorem with_eq (l : List S46) (nx : Int) (j : Nat) (b : ByteArray) (hl : l.length ≤ 12) (hj : j < l.length) :
    segment_with.f l nx (j : Int) b = some (l.set j ⟨(rd_T46 l (j : Int)).f0, b⟩, nx) ∧ midrangeref04_with.f l nx (j : Int) b = some (l.set j ⟨(rd_T46 l (j : Int)).f0, b⟩, nx) := by
  have h0 : (0 : Int) ≤ (j : Int) := Int.natCast_nonneg j
  have h1 : (j : Int) < (l.length : Int) := Int.ofNat_lt.mpr hj
  constructor
  · unfold segment_with.f
    rw [clone_eq l (by omega), Option.bind_some, if_pos h0, if_pos h1]
    rfl
  · unfold midrangeref04_with.f
    rw [own_eq l nx (by omega), Option.bind_some, if_pos h0, if_pos h1]
    rfl
theorem rd_mem (l : List S46) (j : Nat) (hj : j < l.length) : rd_T46 l (j : Int) ∈ l := by
  have : rd_T46 l (j : Int) = l.getD j z46 := rfl
  rw [this, List.getD_eq_getElem?_getD, List.getElem?_eq_getElem hj]
  exact List.getElem_mem hj
theorem size_of {l : List S46} {nx : Int} (R : Right l nx) (hx : ∀ y ∈ l, ok46 y) (j : Nat) (hj : j < l.length) :
    ∃ q : Nat, (rd_T46 l (j : Int)).f1.size = q * 32 ∧ 1 ≤ q ∧ q ≤ 8 := by
  have h1 := (bad_none (R.each j hj)).2.2
  have h2 := (hx _ (rd_mem l j hj)).2
  generalize (rd_T46 l (j : Int)).f1.size = s at h1 h2
  obtain ⟨ha, hb, hc⟩ := h1
  rw [w64 (by omega) (by omega)] at hb hc
  exact ⟨s / 32, by omega, by omega, by omega⟩
theorem zer_size (n : Nat) : (zer n).size = n := by
  show (List.replicate n (0 : UInt8)).toArray.size = n
  simp
theorem Pages_eq (s : ByteArray) (q : Nat) (h : s.size = q * 32) (h8 : q ≤ 8) : midrangeref04_Pages.f s = some (q : Int) := by
  unfold midrangeref04_Pages.f
  rw [w64 (by omega) (by omega), h]
  congr 1
  omega
theorem extended_both (l : List S46) (nx n a : Int) (k : Nat) (hk : 400 ≤ k) (hx : ∀ y ∈ l, ok46 y) (h12 : l.length ≤ 12) (hn : -9223372036854775808 ≤ n ∧ n ≤ 9223372036854775807) (ha : -9223372036854775808 ≤ a ∧ a ≤ 9223372036854775807) :
    ∃ (l' : List S46) (nx' e : Int), l'.length ≤ 12 ∧ segment_Extended.f k l nx n a = some (l', nx', e) ∧ midrangeref04_Extended.f k l nx n a = some (l', nx', 0, ⟨#[]⟩, e) ∧
    (e = 0 → ∃ j : Nat, j < l.length ∧ (rd_T46 l (j : Int)).f0 = n ∧ Right l nx ∧ 1 ≤ a ∧ a ≤ 8 ∧ (rd_T46 l (j : Int)).f1.size + a.toNat * 32 ≤ 256 ∧ nx' = nx ∧ l' = l.set j ⟨(rd_T46 l (j : Int)).f0, (rd_T46 l (j : Int)).f1 ++ zer (a.toNat * 32)⟩) := by
  unfold segment_Extended.f midrangeref04_Extended.f
  rcases find_known l nx n k (by omega) hn with ⟨e, p, he, h1, h2⟩ | ⟨j, hj, hjn, R, h1, h2⟩
  · rw [h1, h2, Option.bind_some, Option.bind_some, if_neg he, if_neg he]
    exact ⟨[], 0, e, by simp, rfl, rfl, fun h => absurd h he⟩
  · obtain ⟨q, hq, hq1, hq8⟩ := size_of R hx j hj
    have h0 : (0 : Int) ≤ (j : Int) := Int.natCast_nonneg j
    have hjl : (j : Int) < (l.length : Int) := Int.ofNat_lt.mpr hj
    rw [h1, h2, Option.bind_some, Option.bind_some, if_pos rfl, if_pos rfl, within_eq, Within_eq, Option.bind_some, Option.bind_some]
    simp only [decide_eq_true_eq]
    by_cases h3 : 1 ≤ a ∧ a ≤ 8
    · have hz : (zer (a.toNat * 32)).size ≤ 1000 := by rw [zer_size]; omega
      have hw : wrap64 (((q * 32 : Nat) : Int) / 32) = (q : Int) := by rw [w64 (by omega) (by omega)]; omega
      have ha32 : wrap64 (a * 32) = a * 32 := w64 (by omega) (by omega)
      rw [if_pos h3, if_pos h3, if_pos h0, if_pos h0, if_pos hjl, if_pos hjl, Pages_eq _ q hq hq8, Option.bind_some, hq, hw, pages_eq a (by omega) (by omega), Option.bind_some, ha32, Zeros_eq a k (by omega) (by omega) (by omega), Option.bind_some]
      clear hw ha32
      by_cases h4 : wrap64 ((q : Int) + a) > 8
      · rw [if_pos h4, if_pos h4]
        exact ⟨[], 0, 30, by simp, rfl, rfl, fun h => absurd h (by decide)⟩
      · have hs : q * 32 + (zer (a.toNat * 32)).size ≤ 9223372036854775807 := by clear h4; omega
        obtain ⟨w1, w2⟩ := with_eq l nx j ((rd_T46 l (j : Int)).f1 ++ zer (a.toNat * 32)) h12 hj
        rw [if_neg h4, if_neg h4, if_pos hs, if_pos hs, w1, w2]
        rw [w64 (x := (q : Int) + a) (by clear h4; omega) (by clear h4; omega)] at h4
        exact ⟨_, _, 0, by rw [List.length_set]; exact h12, rfl, rfl, fun _ => ⟨j, hj, hjn, R, h3.1, h3.2, by omega, rfl, rfl⟩⟩
    · rw [if_neg h3, if_neg h3]
      exact ⟨[], 0, 3, by simp, rfl, rfl, fun h => absurd h (by decide)⟩
theorem truncated_both (l : List S46) (nx n a : Int) (k : Nat) (hk : 400 ≤ k) (hx : ∀ y ∈ l, ok46 y) (h12 : l.length ≤ 12) (hn : -9223372036854775808 ≤ n ∧ n ≤ 9223372036854775807) (ha : -9223372036854775808 ≤ a ∧ a ≤ 9223372036854775807) :
    ∃ (l' : List S46) (nx' e : Int), l'.length ≤ 12 ∧ segment_Truncated.f k l nx n a = some (l', nx', e) ∧ midrangeref04_Truncated.f k l nx n a = some (l', nx', 0, ⟨#[]⟩, e) ∧
    (e = 0 → ∃ j : Nat, j < l.length ∧ (rd_T46 l (j : Int)).f0 = n ∧ Right l nx ∧ 1 ≤ a ∧ a * 32 ≤ ((rd_T46 l (j : Int)).f1.size : Int) ∧ nx' = nx ∧ l' = l.set j ⟨(rd_T46 l (j : Int)).f0, (rd_T46 l (j : Int)).f1.extract 0 (a * 32).toNat⟩) := by
  unfold segment_Truncated.f midrangeref04_Truncated.f
  rcases find_known l nx n k (by omega) hn with ⟨e, p, he, h1, h2⟩ | ⟨j, hj, hjn, R, h1, h2⟩
  · rw [h1, h2, Option.bind_some, Option.bind_some, if_neg he, if_neg he]
    exact ⟨[], 0, e, by simp, rfl, rfl, fun h => absurd h he⟩
  · obtain ⟨q, hq, hq1, hq8⟩ := size_of R hx j hj
    have h0 : (0 : Int) ≤ (j : Int) := Int.natCast_nonneg j
    have hjl : (j : Int) < (l.length : Int) := Int.ofNat_lt.mpr hj
    have hw : wrap64 (((q * 32 : Nat) : Int) / 32) = (q : Int) := by rw [w64 (by omega) (by omega)]; omega
    rw [h1, h2, Option.bind_some, Option.bind_some, if_pos rfl, if_pos rfl, if_pos h0, if_pos h0, if_pos hjl, if_pos hjl, Pages_eq _ q hq hq8, Option.bind_some, hq, hw, within_eq, Within_eq, Option.bind_some, Option.bind_some]
    clear hw
    simp only [decide_eq_true_eq]
    by_cases h3 : 1 ≤ a ∧ a ≤ q
    · have ha32 : wrap64 (a * 32) = a * 32 := w64 (by omega) (by omega)
      rw [ha32]
      clear ha32
      have e1 : 0 ≤ a * 32 := by omega
      have e2 : a * 32 ≤ ((q * 32 : Nat) : Int) := by omega
      obtain ⟨w1, w2⟩ := with_eq l nx j ((rd_T46 l (j : Int)).f1.extract 0 (a * 32).toNat) h12 hj
      rw [if_pos h3, if_pos h3, if_pos e1, if_pos e1, if_pos e2, if_pos e2, w1, w2]
      exact ⟨_, _, 0, by rw [List.length_set]; exact h12, rfl, rfl, fun _ => ⟨j, hj, hjn, R, h3.1, by rw [hq]; exact e2, rfl, rfl⟩⟩
    · rw [if_neg h3, if_neg h3]
      exact ⟨[], 0, 3, by simp, rfl, rfl, fun h => absurd h (by decide)⟩
/-- The place that both reach, or one error. -/
theorem reach_both (l : List S46) (nx n o c : Int) (k : Nat) (hk : 400 ≤ k) (hx : ∀ y ∈ l, ok46 y) (hn : -9223372036854775808 ≤ n ∧ n ≤ 9223372036854775807) (hc : c ≤ 9223372036854775807) :
    (∃ (e p p' : Int), e ≠ 0 ∧ segment_bytesAt.f k l nx n o c = some (p, e) ∧ midrangeref04_reach.f k l nx n o c = some (p', e)) ∨
    (∃ (j q : Nat), j < l.length ∧ (rd_T46 l (j : Int)).f0 = n ∧ Right l nx ∧ (rd_T46 l (j : Int)).f1.size = q ∧ q ≤ 256 ∧ 0 ≤ o ∧ 0 ≤ c ∧ o + c ≤ (q : Int) ∧ segment_bytesAt.f k l nx n o c = some ((j : Int), 0) ∧ midrangeref04_reach.f k l nx n o c = some ((j : Int), 0)) := by
  unfold segment_bytesAt.f midrangeref04_reach.f
  rcases find_known l nx n k (by omega) hn with ⟨e, p, he, h1, h2⟩ | ⟨j, hj, hjn, R, h1, h2⟩
  · left
    rw [h1, h2, Option.bind_some, Option.bind_some, if_neg he, if_neg he]
    exact ⟨e, 0, p, he, rfl, rfl⟩
  · obtain ⟨q, hq, hq1, hq8⟩ := size_of R hx j hj
    have h0 : (0 : Int) ≤ (j : Int) := Int.natCast_nonneg j
    have hjl : (j : Int) < (l.length : Int) := Int.ofNat_lt.mpr hj
    rw [h1, h2, Option.bind_some, Option.bind_some, if_pos rfl, if_pos rfl, if_pos h0, if_pos h0, if_pos hjl, if_pos hjl, hq, within_eq, Within_eq, Option.bind_some, Option.bind_some, within_eq, Within_eq, Option.bind_some, Option.bind_some]
    simp only [decide_eq_true_eq]
    by_cases h3 : 0 ≤ o ∧ o ≤ ((q * 32 : Nat) : Int)
    · rw [w64 (x := ((q * 32 : Nat) : Int) - o) (by omega) (by omega), if_pos h3, if_pos h3]
      by_cases h4 : 0 ≤ c ∧ c ≤ ((q * 32 : Nat) : Int) - o
      · rw [if_pos h4, if_pos h4]
        exact .inr ⟨j, q * 32, hj, hjn, R, hq, by omega, h3.1, h4.1, by omega, rfl, rfl⟩
      · rw [if_neg h4, if_neg h4]
        exact .inl ⟨3, 0, _, by decide, rfl, rfl⟩
    · rw [if_neg h3, if_neg h3]
      exact .inl ⟨3, 0, _, by decide, rfl, rfl⟩
def patched (s : ByteArray) (o : Int) (t : ByteArray) : ByteArray := s.extract 0 o.toNat ++ t ++ s.extract (o + (t.size : Int)).toNat s.size
theorem written_both (l : List S46) (nx n o : Int) (t : ByteArray) (k : Nat) (hk : 400 ≤ k) (hx : ∀ y ∈ l, ok46 y) (h12 : l.length ≤ 12) (hn : -9223372036854775808 ≤ n ∧ n ≤ 9223372036854775807) (ht : t.size ≤ 9223372036854775807) :
    (∃ e : Int, e ≠ 0 ∧ segment_Written.f k l nx n o t = some ([], 0, e) ∧ midrangeref04_Written.f k l nx n o t = some ([], 0, 0, ⟨#[]⟩, e)) ∨
    (∃ j : Nat, j < l.length ∧ (rd_T46 l (j : Int)).f0 = n ∧ Right l nx ∧ 0 ≤ o ∧ o + (t.size : Int) ≤ ((rd_T46 l (j : Int)).f1.size : Int) ∧ (rd_T46 l (j : Int)).f1.size ≤ 256 ∧
      segment_Written.f k l nx n o t = some (l.set j ⟨(rd_T46 l (j : Int)).f0, patched (rd_T46 l (j : Int)).f1 o t⟩, nx, 0) ∧ midrangeref04_Written.f k l nx n o t = some (l.set j ⟨(rd_T46 l (j : Int)).f0, patched (rd_T46 l (j : Int)).f1 o t⟩, nx, 0, ⟨#[]⟩, 0)) := by
  unfold segment_Written.f midrangeref04_Written.f
  rcases reach_both l nx n o t.size k hk hx hn (by omega) with ⟨e, p, p', he, h1, h2⟩ | ⟨j, q, hj, hjn, R, hq, hq8, ho, hc0, hoc, h1, h2⟩
  · rw [h1, h2, Option.bind_some, Option.bind_some, if_neg he, if_neg he]
    exact .inl ⟨e, he, rfl, rfl⟩
  · right
    have h0 : (0 : Int) ≤ (j : Int) := Int.natCast_nonneg j
    have hjl : (j : Int) < (l.length : Int) := Int.ofNat_lt.mpr hj
    have hoc1 : o ≤ (q : Int) := by omega
    have hoc0 : 0 ≤ o + (t.size : Int) := by omega
    have h5 : o.toNat + t.size ≤ 9223372036854775807 := by omega
    have h6 : o.toNat + t.size + (q - (o + (t.size : Int)).toNat) ≤ 9223372036854775807 := by omega
    obtain ⟨w1, w2⟩ := with_eq l nx j (patched (rd_T46 l (j : Int)).f1 o t) h12 hj
    unfold patched at w1 w2
    unfold patched midrangebase_Patched.f
    rw [hq] at w1 w2
    refine ⟨j, hj, hjn, R, ho, by rw [hq]; exact hoc, by rw [hq]; exact hq8, ?_⟩
    rw [h1, h2, Option.bind_some, Option.bind_some, w64 (x := o + (t.size : Int)) (by omega) (by omega), if_pos rfl, if_pos rfl, if_pos h0, if_pos h0, if_pos hjl, if_pos hjl, hq, if_pos ho, if_pos ho, if_pos hoc1, if_pos hoc1, if_pos h5, if_pos h5, if_pos hoc0, if_pos hoc0, if_pos hoc, if_pos hoc, if_pos h6, if_pos h6, w1, Option.bind_some, Option.bind_some, w2]
    exact ⟨rfl, rfl⟩
end Go.Proofs.YtoabahlaicgmjaaDoor.Q
end
section
namespace Go.Proofs.YtoabahlaicgmjaaDoor.X
open Go.Proofs.YtoabahlaicgmjaaDoor.XW Go.Proofs.YtoabahlaicgmjaaDoor.XS
open Go.RowKit Go.Proofs.YtoabahlaicgmjaaDoorW.PrintWords Go.Proofs.YtoabahlaicgmjaaDoorW.PrintLast Go.Proofs.YtoabahlaicgmjaaDoorW.PrintMore
attribute [local go_sem] max2_int min2_int max_two min_two max_three min_three max_four min_four   -- for this text's walks alone
set_option linter.unusedVariables false
set_option linter.unusedSimpArgs false
attribute [local go_sem high] eqA26
def midrangeref04_OpErr.f (a0_0 : Int) (a0_1 : Int) (a0_2 : Int) (a0_3 : Int) (a0_4 : ByteArray) : Option (Int) := (midrangebase_Within.f a0_0 0 4).bind fun t310 => (if t310 = true then (if a0_0 = 0 then ((midrangebase_Count.f (!(0 == a0_1) || (!(0 == a0_2) || (!a0_4.toList.isEmpty)))).bind fun t312 => (some (wrap64 (5 * t312)))) else (if a0_0 = 1 then ((midrangebase_Count.f (!(0 == a0_2) || (!a0_4.toList.isEmpty))).bind fun t313 => (some (wrap64 (5 * t313)))) else (if a0_0 = 2 then ((midrangebase_Count.f (!(0 == a0_2) || (!a0_4.toList.isEmpty))).bind fun t314 => (some (wrap64 (5 * t314)))) else (if a0_0 = 3 then ((midrangebase_Count.f (!(0 == a0_2) || (!(0 == a0_3) || (!a0_4.toList.isEmpty)))).bind fun t315 => (some (wrap64 (5 * t315)))) else (if a0_0 = 4 then ((midrangebase_Count.f (!(0 == a0_3))).bind fun t316 => (some (wrap64 (5 * t316)))) else ((midrangebase_Count.f (!(0 == a0_1) || (!(0 == a0_2) || (!(0 == a0_3) || (!a0_4.toList.isEmpty))))).bind fun t317 => (some (wrap64 (5 * t317))))))))) else (some 4))
end Go.Proofs.YtoabahlaicgmjaaDoor.X
end
section
namespace Go.Proofs.YtoabahlaicgmjaaDoor.Q
open Go.RowKit Go.Proofs.YtoabahlaicgmjaaDoor.X Go.Proofs.YtoabahlaicgmjaaDoorW.PrintWords Go.Proofs.YtoabahlaicgmjaaDoorW.PrintLast Go.Proofs.YtoabahlaicgmjaaDoorW.PrintMore
set_option linter.unusedVariables false
set_option linter.unusedSimpArgs false
theorem wf_of {a : Int} (h0 : -9223372036854775808 ≤ a) (h1 : a ≤ 9223372036854775807) : (Lit.int .i64 a).wf = true := by
  simp [Lit.wf, IntKind.min, IntKind.max, IntKind.bits, IntKind.signed]
  constructor <;> omega
def segnums (l : List S46) : List Int := l.map S46.f0
def szok (y : S46) : Prop := ∃ q : Nat, y.f1.size = q * 32 ∧ 1 ≤ q ∧ q ≤ 8
structure RightL (l : List S46) (nx : Int) : Prop where
  len : l.length ≤ 10
  nx1 : 1 ≤ nx
  nx2 : nx ≤ 1001
  inc : (segnums l).Pairwise (· < ·)
  num : ∀ y ∈ l, 1 ≤ y.f0 ∧ y.f0 < nx
  sz : ∀ y ∈ l, szok y
theorem rd_get (l : List S46) (i : Nat) (h : i < l.length) : rd_T46 l (i : Int) = l[i] := by
  show l.getD i z46 = l[i]
  rw [List.getD_eq_getElem?_getD, List.getElem?_eq_getElem h]; rfl
theorem RightL.right {l : List S46} {nx : Int} (G : RightL l nx) : Right l nx := by
  refine ⟨G.len, G.nx1, G.nx2, fun i hi => ?_⟩
  have hr := rd_get l i hi
  have hm : l[i] ∈ l := List.getElem_mem hi
  obtain ⟨q, hq, hq1, hq8⟩ := G.sz _ hm
  have hn := G.num _ hm
  have h1 := G.nx1
  have h2 := G.nx2
  have hw : wrap64 (nx - 1) = nx - 1 := w64 (by omega) (by omega)
  unfold bad
  rw [hr, hq, hw]
  clear hw hr
  have hp : 0 < i → ¬ l[i].f0 ≤ (rd_T46 l ((i : Int) - 1)).f0 := by
    intro h0
    have e : ((i : Int) - 1) = ((i - 1 : Nat) : Int) := by omega
    have hi' : i - 1 < l.length := by omega
    rw [e, rd_get l (i - 1) hi']
    have h3 := (List.pairwise_iff_getElem.mp G.inc) (i - 1) i (by unfold segnums; rw [List.length_map]; omega) (by unfold segnums; rw [List.length_map]; omega) (by omega)
    unfold segnums at h3
    rw [List.getElem_map, List.getElem_map] at h3
    omega
  have hw : wrap64 (((q * 32 : Nat) : Int) / 32) = (q : Int) := by rw [w64 (by omega) (by omega)]; omega
  have hz : ((q * 32 : Nat) : Int) % 32 = 0 := by clear hw; omega
  have hq' : (1 : Int) ≤ (q : Int) ∧ (q : Int) ≤ 8 := by clear hw; omega
  have hn' : 1 ≤ l[i].f0 ∧ l[i].f0 ≤ nx - 1 := by clear hw; omega
  rw [if_neg (not_not_intro hn'), if_neg (fun h => hp h.1 h.2), if_neg (by rw [hw]; exact not_not_intro ⟨hz, hq'⟩)]
theorem Right.good {l : List S46} {nx : Int} (R : Right l nx) (hx : ∀ y ∈ l, ok46 y) : RightL l nx := by
  refine ⟨R.len, R.nx1, R.nx2, ?_, ?_, ?_⟩
  · unfold segnums
    rw [List.pairwise_iff_getElem]
    intro i j hi hj hij
    rw [List.length_map] at hi hj
    rw [List.getElem_map, List.getElem_map]
    have := R.mono i j hij hj
    rwa [rd_get l i hi, rd_get l j hj] at this
  · intro y hy
    obtain ⟨i, hi, rfl⟩ := List.getElem_of_mem hy
    have h1 := (bad_none (R.each i hi)).1
    have h2 := R.nx1
    have h3 := R.nx2
    rw [rd_get l i hi, w64 (by omega) (by omega)] at h1
    omega
  · intro y hy
    obtain ⟨i, hi, rfl⟩ := List.getElem_of_mem hy
    have := size_of R hx i hi
    rw [rd_get l i hi] at this
    exact this
theorem RightL.ok {l : List S46} {nx : Int} (G : RightL l nx) : ∀ y ∈ l, ok46 y := fun y hy => by
  obtain ⟨q, hq, hq1, hq8⟩ := G.sz y hy
  have h1 := G.num y hy
  have h2 := G.nx2
  exact ⟨wf_of (by omega) (by omega), by omega⟩
theorem nums_set (l : List S46) (j : Nat) (hj : j < l.length) (b : ByteArray) : segnums (l.set j ⟨(rd_T46 l (j : Int)).f0, b⟩) = segnums l := by
  unfold segnums
  rw [rd_get l j hj, List.map_set]
  apply List.ext_getElem
  · rw [List.length_set]
  · intro i h1 h2
    rw [List.getElem_set]
    split
    · rename_i h; subst h; rw [List.getElem_map]
    · rfl
theorem RightL.set {l : List S46} {nx : Int} (G : RightL l nx) (j : Nat) (hj : j < l.length) (b : ByteArray) (hb : ∃ q : Nat, b.size = q * 32 ∧ 1 ≤ q ∧ q ≤ 8) : RightL (l.set j ⟨(rd_T46 l (j : Int)).f0, b⟩) nx := by
  refine ⟨by rw [List.length_set]; exact G.len, G.nx1, G.nx2, by rw [nums_set l j hj]; exact G.inc, fun y hy => ?_, fun y hy => ?_⟩
  · rcases List.mem_or_eq_of_mem_set hy with h | rfl
    · exact G.num y h
    · exact G.num (rd_T46 l (j : Int)) (rd_mem l j hj)
  · rcases List.mem_or_eq_of_mem_set hy with h | rfl
    · exact G.sz y h
    · exact hb
theorem RightL.app {l : List S46} {nx : Int} (G : RightL l nx) (h1 : l.length < 10) (h2 : nx ≤ 1000) (p : Int) (hp : 1 ≤ p ∧ p ≤ 8) : RightL (l ++ [⟨nx, zer (p.toNat * 32)⟩]) (nx + 1) := by
  have hn := G.nx1
  refine ⟨by rw [List.length_append]; simp; omega, by omega, by omega, ?_, fun y hy => ?_, fun y hy => ?_⟩
  · unfold segnums
    rw [List.map_append, List.pairwise_append]
    refine ⟨G.inc, by simp, fun a ha b hb => ?_⟩
    simp at hb
    subst hb
    obtain ⟨y, hy, rfl⟩ := List.mem_map.mp ha
    exact (G.num y hy).2
  · rcases List.mem_append.mp hy with h | h
    · have := G.num y h; omega
    · simp at h; subst h; exact ⟨hn, by show nx < nx + 1; omega⟩
  · rcases List.mem_append.mp hy with h | h
    · exact G.sz y h
    · simp at h; subst h; exact ⟨p.toNat, zer_size _, by omega, by omega⟩
theorem RightL.erase {l : List S46} {nx : Int} (G : RightL l nx) (j : Nat) : RightL (l.eraseIdx j) nx := by
  have hs := List.eraseIdx_sublist l j
  refine ⟨by have := hs.length_le; have := G.len; omega, G.nx1, G.nx2, List.Pairwise.sublist (hs.map S46.f0) G.inc, fun y hy => G.num y (hs.subset hy), fun y hy => G.sz y (hs.subset hy)⟩

theorem count_eq (b : Bool) : midrangebase_Count.f b = some (if b = true then 1 else 0) := by
  unfold midrangebase_Count.f
  cases b <;> rfl
theorem form_eq (a b c d : Int) (s : ByteArray) : ∃ e : Int, segment_form.f a b c d s = some e ∧ midrangeref04_OpErr.f a b c d s = some e ∧ (e = 0 → 0 ≤ a ∧ a ≤ 4) := by
  unfold segment_form.f midrangeref04_OpErr.f
  rw [Within_eq, Option.bind_some]
  have c0 : ∀ z : Int, (0 == z) = (z == 0) := fun z => BEq.comm
  have fin : ∀ t : Bool, ∃ e : Int, (if t = true then some 5 else some 0) = some e ∧ (midrangebase_Count.f t).bind (fun t => some (wrap64 (5 * t))) = some e := by
    intro t
    rw [count_eq, Option.bind_some]
    cases t
    · exact ⟨0, rfl, by rw [if_neg (by simp), w64 (by omega) (by omega)]; rfl⟩
    · exact ⟨5, rfl, by rw [if_pos rfl, w64 (by omega) (by omega)]; rfl⟩
  by_cases hw : 0 ≤ a ∧ a ≤ 4
  · rw [decide_eq_true hw, if_pos rfl]
    by_cases h0 : a = 0
    · rw [if_pos h0, if_pos h0, c0, c0]
      obtain ⟨e, h1, h2⟩ := fin (!(b == 0) || (!(c == 0) || (!s.toList.isEmpty)))
      exact ⟨e, h1, h2, fun _ => hw⟩
    rw [if_neg h0, if_neg h0]
    by_cases h1 : a = 1
    · rw [if_pos h1, if_pos h1, c0]
      obtain ⟨e, h1, h2⟩ := fin (!(c == 0) || (!s.toList.isEmpty))
      exact ⟨e, h1, h2, fun _ => hw⟩
    rw [if_neg h1, if_neg h1]
    by_cases h2 : a = 2
    · rw [if_pos h2, if_pos h2, c0]
      obtain ⟨e, h1, h2⟩ := fin (!(c == 0) || (!s.toList.isEmpty))
      exact ⟨e, h1, h2, fun _ => hw⟩
    rw [if_neg h2, if_neg h2]
    by_cases h3 : a = 3
    · rw [if_pos h3, if_pos h3, c0, c0]
      obtain ⟨e, h1, h2⟩ := fin (!(c == 0) || (!(d == 0) || (!s.toList.isEmpty)))
      exact ⟨e, h1, h2, fun _ => hw⟩
    have h4 : a = 4 := by omega
    rw [if_neg h3, if_neg h3, if_pos h4, if_pos h4, c0]
    obtain ⟨e, h1, h2⟩ := fin (!(d == 0))
    exact ⟨e, h1, h2, fun _ => hw⟩
  · rw [if_neg (by omega), if_neg (by omega), if_neg (by omega), if_neg (by omega), if_neg (by omega), decide_eq_false hw, if_neg (by simp)]
    exact ⟨4, rfl, rfl, fun h => absurd h (by decide)⟩
end Go.Proofs.YtoabahlaicgmjaaDoor.Q
end
section
namespace Go.Proofs.YtoabahlaicgmjaaDoor.Q
open Go.RowKit Go.Proofs.YtoabahlaicgmjaaDoor.X Go.Proofs.YtoabahlaicgmjaaDoorW.PrintWords Go.Proofs.YtoabahlaicgmjaaDoorW.PrintLast
set_option linter.unusedVariables false
theorem rd_set (l : List S46) (j : Nat) (y : S46) (i : Nat) (hj : j < l.length) : rd_T46 (l.set j y) (i : Int) = if j = i then y else rd_T46 l (i : Int) := by
  show (l.set j y).getD i z46 = if j = i then y else l.getD i z46
  rw [List.getD_eq_getElem?_getD, List.getD_eq_getElem?_getD, List.getElem?_set]
  by_cases h : j = i
  · rw [if_pos h, if_pos h, if_pos hj]; rfl
  · rw [if_neg h, if_neg h]
theorem bad_congr (l l' : List S46) (nx : Int) (h : ∀ i : Nat, (rd_T46 l' i).f0 = (rd_T46 l i).f0 ∧ (rd_T46 l' i).f1.size = (rd_T46 l i).f1.size) (i : Nat) : bad l' nx i = bad l nx i := by
  unfold bad
  obtain ⟨h1, h2⟩ := h i
  have h3 : (rd_T46 l' ((i : Int) - 1)).f0 = (rd_T46 l ((i : Int) - 1)).f0 := by
    have : rd_T46 l' ((i : Int) - 1) = rd_T46 l' ((((i : Int) - 1).toNat : Nat) : Int) := rfl
    rw [this, (h _).1]; rfl
  rw [h1, h2, h3]
theorem chkFrom_right (l : List S46) (nx : Int) : ∀ d i, (∀ j, i ≤ j → j < i + d → bad l nx j = none) → chkFrom l nx d i = (0, 0)
  | 0, _, _ => rfl
  | d + 1, i, h => by
    unfold chkFrom
    rw [h i (by omega) (by omega)]
    exact chkFrom_right l nx d (i + 1) (fun j h1 h2 => h j (by omega) (by omega))
theorem Right.chk {l : List S46} {nx : Int} (R : Right l nx) : Q.chk l nx = (0, 0) := by
  have h1 := R.len
  have h2 := R.nx1
  have h3 := R.nx2
  unfold Q.chk
  rw [if_neg (by omega), if_neg (not_not_intro ⟨h2, h3⟩)]
  exact chkFrom_right l nx _ _ (fun j _ hj => R.each j (by omega))
theorem Right.congr {l l' : List S46} {nx : Int} (R : Right l nx) (hl : l'.length = l.length) (h : ∀ i : Nat, (rd_T46 l' i).f0 = (rd_T46 l i).f0 ∧ (rd_T46 l' i).f1.size = (rd_T46 l i).f1.size) : Right l' nx :=
  ⟨by rw [hl]; exact R.len, R.nx1, R.nx2, fun i hi => by rw [bad_congr l l' nx h]; exact R.each i (by omega)⟩
theorem find_hit (l : List S46) (nx : Int) (k : Nat) (hk : 40 ≤ k) (R : Right l nx) (j : Nat) (hj : j < l.length) : segment_find.f k l nx (rd_T46 l j).f0 = some ((j : Int), 0) := by
  have hb := R.num j hj
  rcases find_known l nx (rd_T46 l j).f0 k hk (by omega) with ⟨e, p, he, h1, h2⟩ | ⟨i, hi, hin, _, h1, h2⟩
  · exfalso
    unfold midrangeref04_known.f at h2
    rw [Err_eq l nx k (by omega), Option.bind_some, R.chk, if_pos rfl] at h2
    have hpl : midrangeref04_Place.f k l nx (rd_T46 l j).f0 = midrangeref04_Place.l0 k (rd_T46 l j).f0 ((0 : Nat) : Int) l nx := rfl
    rcases place_loop l nx (rd_T46 l j).f0 R.len l.length 0 k (by omega) (by have := R.len; omega) with ⟨i, h3, h4, h5, h6⟩ | ⟨h3, _⟩
    · rw [hpl, h6, Option.bind_some, midrangeref04_NumberErr.f, hpl, h6, Option.bind_some, if_neg (by omega)] at h2
      injection h2 with h2
      injection h2 with _ h2
      exact he h2.symm
    · exact h3 j (by omega) hj rfl
  · rw [h1]
    rcases Nat.lt_trichotomy i j with h5 | h5 | h5
    · have := R.mono i j h5 hj; omega
    · rw [h5]
    · have := R.mono j i h5 hi; omega
theorem patched_size (s : ByteArray) (o : Int) (t : ByteArray) (h0 : 0 ≤ o) (h : o + (t.size : Int) ≤ (s.size : Int)) : (patched s o t).size = s.size := by
  unfold patched
  simp only [ByteArray.size_append, ByteArray.size_extract]
  omega
end Go.Proofs.YtoabahlaicgmjaaDoor.Q
end
section
namespace Go.Proofs.YtoabahlaicgmjaaDoor.X
open Go.Proofs.YtoabahlaicgmjaaDoor.XW Go.Proofs.YtoabahlaicgmjaaDoor.XS
open Go.RowKit Go.Proofs.YtoabahlaicgmjaaDoorW.PrintWords Go.Proofs.YtoabahlaicgmjaaDoorW.PrintLast Go.Proofs.YtoabahlaicgmjaaDoorW.PrintMore
attribute [local go_sem] max2_int min2_int max_two min_two max_three min_three max_four min_four   -- for this text's walks alone
set_option linter.unusedVariables false
set_option linter.unusedSimpArgs false
def midrangeref04_Done.f (k : Nat) (l0_0 : List (S46)) (a0_1 : Int) (a1_0 : Int) (a1_1 : Int) (a1_2 : Int) (a1_3 : Int) (a1_4 : ByteArray) : Option ((List (S46)) × Int × Int × ByteArray × Int) := (midrangeref04_OpErr.f a1_0 a1_1 a1_2 a1_3 a1_4).bind fun t451 => (if t451 = 0 then (if a1_0 = 0 then ((midrangeref04_Created.f k l0_0 a0_1 a1_3).bind fun bt452 => (some (bt452.1, bt452.2.1, bt452.2.2.1, bt452.2.2.2.1, bt452.2.2.2.2))) else (if a1_0 = 1 then ((midrangeref04_Extended.f k l0_0 a0_1 a1_1 a1_3).bind fun bt459 => (some (bt459.1, bt459.2.1, bt459.2.2.1, bt459.2.2.2.1, bt459.2.2.2.2))) else (if a1_0 = 2 then ((midrangeref04_Truncated.f k l0_0 a0_1 a1_1 a1_3).bind fun bt466 => (some (bt466.1, bt466.2.1, bt466.2.2.1, bt466.2.2.2.1, bt466.2.2.2.2))) else (if a1_0 = 3 then ((midrangeref04_Destroyed.f k l0_0 a0_1 a1_1).bind fun bt473 => (some (bt473.1, bt473.2.1, bt473.2.2.1, bt473.2.2.2.1, bt473.2.2.2.2))) else ((midrangeref04_Written.f k l0_0 a0_1 a1_1 a1_2 a1_4).bind fun bt480 => (some (bt480.1, bt480.2.1, bt480.2.2.1, bt480.2.2.2.1, bt480.2.2.2.2))))))) else (some (([] : List (S46)), 0, 0, (⟨#[]⟩ : ByteArray), t451)))
def midrangeref04_Applied.l0 : Nat → List (S26) → Int → List (S46) → Int → Option ((List (S46)) × Int × Int × ByteArray × Int)
  | 0, _, _, _, _ => none
  | k + 1, x1, x6, x488000, x488001 => if x6 < (x1.length : Int) then (if 0 ≤ x6 then ((midrangeref04_Done.f k x488000 x488001 ((rd_T26 x1 x6).f0) ((rd_T26 x1 x6).f1) ((rd_T26 x1 x6).f2) ((rd_T26 x1 x6).f3) ((rd_T26 x1 x6).f4)).bind fun bt498 => (if bt498.2.2.2.2 = 0 then (midrangeref04_Applied.l0 k x1 (wrap64 (x6 + 1)) bt498.1 bt498.2.1) else (some (([] : List (S46)), 0, x6, (⟨#[]⟩ : ByteArray), bt498.2.2.2.2)))) else (none)) else ((midrangeref04_Own.f x488000 x488001).bind fun bt506 => (some (bt506.1, bt506.2, (x1.length : Int), (⟨#[]⟩ : ByteArray), 0)))
def midrangeref04_Applied.f (k : Nat) (l0_0 : List (S46)) (a0_1 : Int) (l1 : List (S26)) : Option ((List (S46)) × Int × Int × ByteArray × Int) := (midrangeref04_Err.f k l0_0 a0_1).bind fun t489 => (if t489 = 0 then (if (l1.length : Int) > 40 then ((midrangeref04_failed.f 2).bind fun bt490 => (some (bt490.1, bt490.2.1, bt490.2.2.1, bt490.2.2.2.1, bt490.2.2.2.2))) else (midrangeref04_Applied.l0 k l1 0 l0_0 a0_1)) else (some (([] : List (S46)), 0, 0, (⟨#[]⟩ : ByteArray), t489)))
end Go.Proofs.YtoabahlaicgmjaaDoor.X
end
section
namespace Go.Proofs.YtoabahlaicgmjaaDoor.Q
open Go.RowKit Go.Proofs.YtoabahlaicgmjaaDoor.X Go.Proofs.YtoabahlaicgmjaaDoorW.PrintWords Go.Proofs.YtoabahlaicgmjaaDoorW.PrintLast
set_option linter.unusedVariables false
/-- What an operation that has no error leaves. -/
structure StepOp (l : List S46) (nx : Int) (x : S26) (l' : List S46) (nx' : Int) : Prop where
  was : RightL l nx
  now : RightL l' nx'
  how : (x.f0 = 0 ∧ nx' = nx + 1 ∧ segnums l' = segnums l ++ [nx] ∧ (created l nx x.f3).2.2.2 = 0) ∨
    (x.f0 = 3 ∧ nx' = nx ∧ ∃ j : Nat, j < l.length ∧ (rd_T46 l (j : Int)).f0 = x.f1 ∧ l' = l.eraseIdx j) ∨
    (x.f0 ≠ 0 ∧ x.f0 ≠ 3 ∧ nx' = nx ∧ segnums l' = segnums l)
theorem apply_both (l : List S46) (nx : Int) (x : S26) (k : Nat) (hk : 400 ≤ k) (hx : ∀ y ∈ l, ok46 y) (h12 : l.length ≤ 12) (hw : ok26 x) :
    ∃ (l' : List S46) (nx' e n : Int) (b : ByteArray), segment_apply.f k l nx x.f0 x.f1 x.f2 x.f3 x.f4 = some (l', nx', e) ∧ midrangeref04_Done.f k l nx x.f0 x.f1 x.f2 x.f3 x.f4 = some (l', nx', n, b, e) ∧ (e = 0 → StepOp l nx x l' nx') := by
  obtain ⟨w0, w1, w2, w3, w4⟩ := hw
  unfold segment_apply.f midrangeref04_Done.f
  obtain ⟨e, h1, h2, h3⟩ := form_eq x.f0 x.f1 x.f2 x.f3 x.f4
  rw [h1, h2, Option.bind_some, Option.bind_some]
  by_cases he : e = 0
  · have h4 := h3 he
    rw [if_pos he, if_pos he]
    by_cases c0 : x.f0 = 0
    · rw [if_pos c0, if_pos c0, created_eq l nx _ k hk, Created_eq l nx _ k hk, Option.bind_some, Option.bind_some]
      refine ⟨_, _, _, _, _, rfl, rfl, fun h => ?_⟩
      obtain ⟨R, p1, p2, q1, q2, hc⟩ := created_post l nx x.f3 h
      have G := R.good hx
      rw [hc]
      exact ⟨G, G.app q1 q2 _ ⟨p1, p2⟩, .inl ⟨c0, rfl, by unfold segnums; rw [List.map_append]; rfl, h⟩⟩
    rw [if_neg c0, if_neg c0]
    by_cases c1 : x.f0 = 1
    · obtain ⟨l', nx', f, _, g1, g2, g3⟩ := extended_both l nx x.f1 x.f3 k hk hx h12 (wf64 w1) (wf64 w3)
      rw [if_pos c1, if_pos c1, g1, g2, Option.bind_some, Option.bind_some]
      refine ⟨_, _, _, _, _, rfl, rfl, fun h => ?_⟩
      obtain ⟨j, hj, hjn, R, a1, a8, hs, rfl, rfl⟩ := g3 h
      have G := R.good hx
      obtain ⟨q, hq, hq1, hq8⟩ := size_of R hx j hj
      exact ⟨G, G.set j hj _ ⟨q + x.f3.toNat, by rw [ByteArray.size_append, zer_size, hq]; omega, by omega, by omega⟩, .inr (.inr ⟨c0, by omega, rfl, nums_set l j hj _⟩)⟩
    rw [if_neg c1, if_neg c1]
    by_cases c2 : x.f0 = 2
    · obtain ⟨l', nx', f, _, g1, g2, g3⟩ := truncated_both l nx x.f1 x.f3 k hk hx h12 (wf64 w1) (wf64 w3)
      rw [if_pos c2, if_pos c2, g1, g2, Option.bind_some, Option.bind_some]
      refine ⟨_, _, _, _, _, rfl, rfl, fun h => ?_⟩
      obtain ⟨j, hj, hjn, R, a1, hs, rfl, rfl⟩ := g3 h
      have G := R.good hx
      obtain ⟨q, hq, hq1, hq8⟩ := size_of R hx j hj
      exact ⟨G, G.set j hj _ ⟨x.f3.toNat, by rw [ByteArray.size_extract, hq]; omega, by omega, by omega⟩, .inr (.inr ⟨c0, by omega, rfl, nums_set l j hj _⟩)⟩
    rw [if_neg c2, if_neg c2]
    by_cases c3 : x.f0 = 3
    · obtain ⟨l', nx', f, _, g1, g2, g3⟩ := destroyed_both l nx x.f1 k (by omega) (wf64 w1)
      rw [if_pos c3, if_pos c3, g1, g2, Option.bind_some, Option.bind_some]
      refine ⟨_, _, _, _, _, rfl, rfl, fun h => ?_⟩
      obtain ⟨j, hj, hjn, R, rfl, rfl⟩ := g3 h
      have G := R.good hx
      exact ⟨G, G.erase j, .inr (.inl ⟨c3, rfl, j, hj, hjn, rfl⟩)⟩
    rw [if_neg c3, if_neg c3]
    rcases written_both l nx x.f1 x.f2 x.f4 k hk hx h12 (wf64 w1) w4 with ⟨f, hf, g1, g2⟩ | ⟨j, hj, hjn, R, ho, hot, h8, g1, g2⟩
    · rw [g1, g2, Option.bind_some, Option.bind_some]
      exact ⟨_, _, _, _, _, rfl, rfl, fun h => absurd h hf⟩
    · rw [g1, g2, Option.bind_some, Option.bind_some]
      refine ⟨_, _, _, _, _, rfl, rfl, fun h => ?_⟩
      have G := R.good hx
      obtain ⟨q, hq, hq1, hq8⟩ := size_of R hx j hj
      exact ⟨G, G.set j hj _ ⟨q, by rw [patched_size _ _ _ ho hot]; exact hq, hq1, hq8⟩, .inr (.inr ⟨c0, c3, rfl, nums_set l j hj _⟩)⟩
  · rw [if_neg he, if_neg he]
    exact ⟨_, _, _, _, _, rfl, rfl, fun h => absurd h he⟩
theorem rd66_mem (m : List S26) (j : Nat) (hj : j < m.length) : rd_T26 m (j : Int) ∈ m := by
  have : rd_T26 m (j : Int) = m.getD j z26 := rfl
  rw [this, List.getD_eq_getElem?_getD, List.getElem?_eq_getElem hj]
  exact List.getElem_mem hj
theorem applied_loop (m : List S26) (hm : ∀ x ∈ m, ok26 x) (hm40 : m.length ≤ 40) (d : Nat) : ∀ (i k : Nat) (l : List S46) (nx : Int), i + d = m.length → d + 401 ≤ k → RightL l nx →
    ∃ (l' : List S46) (nx' n e : Int), l'.length ≤ 12 ∧ segment_Applied.l0 k m m (m.length : Int) (i : Int) l nx = some (l', nx', n, e) ∧ ∃ b, midrangeref04_Applied.l0 k m (i : Int) l nx = some (l', nx', n, b, e) := by
  induction d with
  | zero =>
    intro i k l nx hi hk G
    obtain ⟨k, rfl⟩ : ∃ q, k = q + 1 := ⟨k - 1, by omega⟩
    have hl := G.len
    rw [segment_Applied.l0, midrangeref04_Applied.l0, if_neg (by omega), if_neg (by omega), own_eq l nx (by omega), Option.bind_some]
    exact ⟨_, _, _, _, by omega, rfl, _, rfl⟩
  | succ d ih =>
    intro i k l nx hi hk G
    obtain ⟨k, rfl⟩ : ∃ q, k = q + 1 := ⟨k - 1, by omega⟩
    have hl := G.len
    have hi9 : i < 10000 := by omega
    have hi1 : (i : Int) < (m.length : Int) := by omega
    have hi0 : (0 : Int) ≤ (i : Int) := by omega
    obtain ⟨l', nx', e, n, b, h1, h2, h3⟩ := apply_both l nx (rd_T26 m (i : Int)) k (by omega) G.ok (by omega) (hm _ (rd66_mem m i (by omega)))
    rw [segment_Applied.l0, midrangeref04_Applied.l0, if_pos hi1, if_pos hi1, if_pos hi0, if_pos hi0, if_pos hi1, h1, h2, Option.bind_some, Option.bind_some]
    by_cases he : e = 0
    · rw [if_pos he, if_pos he, wsucc i hi9]
      exact ih (i + 1) k l' nx' (by omega) (by omega) (h3 he).now
    · rw [if_neg he, if_neg he]
      exact ⟨_, _, _, _, by simp, rfl, _, rfl⟩
theorem ownops_eq (m : List S26) (hm : m.length ≤ 1000) : midrangeref04_OwnOps.f m = some m := by
  unfold midrangeref04_OwnOps.f
  rw [if_pos (by show 0 + m.length < _; omega)]; rfl
theorem applied_both (l : List S46) (nx : Int) (m : List S26) (k : Nat) (hk : 450 ≤ k) (hx : ∀ y ∈ l, ok46 y) (hm : ∀ x ∈ m, ok26 x) :
    ∃ (l' : List S46) (nx' n e : Int), l'.length ≤ 12 ∧ segment_Applied.f k l nx m = some (l', nx', n, e) ∧ ∃ b, midrangeref04_Applied.f k l nx m = some (l', nx', n, b, e) := by
  unfold segment_Applied.f midrangeref04_Applied.f
  rw [check_eq l nx k (by omega), Err_eq l nx k (by omega), Option.bind_some, Option.bind_some]
  by_cases h : (chk l nx).2 = 0
  · obtain ⟨R, _⟩ := right_of l nx h
    have hl := R.len
    rw [if_pos h, if_pos h]
    by_cases h4 : (m.length : Int) > 40
    · rw [if_pos h4, if_pos h4]
      exact ⟨_, _, _, _, by simp, rfl, _, rfl⟩
    · rw [if_neg h4, if_neg h4, clone_eq l (by omega), Option.bind_some]
      exact applied_loop m hm (by omega) m.length 0 k l nx (by omega) (by omega) (R.good hx)
  · rw [if_neg h, if_neg h]
    exact ⟨_, _, _, _, by simp, rfl, _, rfl⟩
theorem fewg_loop (l : List S46) (nx : Int) (hl : l.length ≤ 12) (hs : ∀ y ∈ l, y.f1.size ≤ 400) (d : Nat) : ∀ (i k : Nat), i + d = l.length → d + 1 ≤ k → midrangelaw04_few.l0 k (i : Int) l nx = some true := by
  induction d with
  | zero =>
    intro i k hi hk
    obtain ⟨k, rfl⟩ : ∃ q, k = q + 1 := ⟨k - 1, by omega⟩
    rw [midrangelaw04_few.l0, if_neg (by omega)]
  | succ d ih =>
    intro i k hi hk
    obtain ⟨k, rfl⟩ : ∃ q, k = q + 1 := ⟨k - 1, by omega⟩
    have hi9 : i < 10000 := by omega
    have hz := hs _ (rd_mem l i (by omega))
    rw [midrangelaw04_few.l0, if_pos (by omega), if_pos (by omega), if_neg (by omega), wsucc i hi9]
    exact ih (i + 1) k (by omega) (by omega)
theorem few_good {l : List S46} {nx : Int} (G : RightL l nx) (k : Nat) (hk : 20 ≤ k) : midrangelaw04_few.f k l nx = some true := by
  have hl := G.len
  unfold midrangelaw04_few.f
  rw [if_neg (by omega)]
  refine fewg_loop l nx (by omega) (fun y hy => ?_) l.length 0 k (by omega) (by omega)
  obtain ⟨q, hq, _, hq8⟩ := G.sz y hy
  omega
theorem applied_one {l : List S46} {nx : Int} (G : RightL l nx) (x : S26) (hx : ok26 x) (k : Nat) (hk : 450 ≤ k) :
    (∃ e : Int, e ≠ 0 ∧ segment_Applied.f k l nx [x] = some ([], 0, 0, e)) ∨ (∃ (l' : List S46) (nx' : Int), StepOp l nx x l' nx' ∧ segment_Applied.f k l nx [x] = some (l', nx', 1, 0)) := by
  have hl := G.len
  obtain ⟨k, rfl⟩ : ∃ q, k = q + 2 := ⟨k - 2, by omega⟩
  have hrd : rd_T26 [x] 0 = x := rfl
  have e1 : wrap64 (0 + 1) = 1 := w64 (by omega) (by omega)
  have hlen : (([x] : List S26).length : Int) = 1 := rfl
  unfold segment_Applied.f
  rw [check_eq l nx (k + 2) (by omega), Option.bind_some, G.right.chk, if_pos rfl, hlen, if_neg (by omega), clone_eq l (by omega), Option.bind_some, segment_Applied.l0, if_pos (by omega), if_pos (by omega), hlen, if_pos (by omega), hrd]
  obtain ⟨l', nx', e, n, b, h1, _, h3⟩ := apply_both l nx x (k + 1) (by omega) G.ok (by omega) hx
  rw [h1, Option.bind_some]
  by_cases he : e = 0
  · rw [if_pos he, e1, segment_Applied.l0, if_neg (by omega), hlen]
    exact .inr ⟨l', nx', h3 he, rfl⟩
  · rw [if_neg he]
    exact .inl ⟨e, he, rfl⟩
theorem tl_loop (s : ByteArray) (d : Nat) : ∀ (i : Nat) (r : List UInt8), i + d = s.size → ByteArray.toList.loop s i r = r.reverse ++ s.data.toList.drop i := by
  induction d with
  | zero =>
    intro i r h
    rw [ByteArray.toList.loop, if_neg (by omega), List.drop_eq_nil_of_le (by rw [data_length]; omega), List.append_nil]
  | succ d ih =>
    intro i r h
    have hi : i < s.data.toList.length := by rw [data_length]; omega
    have hi' : i < s.data.size := by rw [← Array.length_toList]; exact hi
    have hg : s.get! i = s.data.toList[i] := by
      show s.data[i]! = _
      rw [getElem!_pos s.data i hi', Array.getElem_toList]
    rw [ByteArray.toList.loop, if_pos (by omega), ih (i + 1) _ (by omega), List.reverse_cons, List.append_assoc, List.drop_eq_getElem_cons hi, hg]
    rfl
theorem tl_data (s : ByteArray) : s.toList = s.data.toList := by
  have := tl_loop s s.size 0 [] (by omega)
  rw [List.drop_zero] at this
  exact this
theorem tl_inj {s t : ByteArray} (h : s.toList = t.toList) : s = t := by
  rw [tl_data, tl_data] at h
  exact ByteArray.ext (Array.ext' h)
theorem tl_size (s : ByteArray) : s.toList.length = s.size := by rw [tl_data, data_length]
theorem tl_nil {s : ByteArray} : s.toList = [] ↔ s.size = 0 := by
  rw [← tl_size]
  exact ⟨fun h => by rw [h]; rfl, fun h => List.eq_nil_of_length_eq_zero h⟩
def allz (s : ByteArray) : Prop := ∀ i : Nat, i < s.size → bt s (i : Int) = 0
theorem bt_extract (s : ByteArray) (a b i : Nat) (hb : b ≤ s.size) (hi : i < b - a) : bt (s.extract a b) (i : Int) = bt s ((a + i : Nat) : Int) := by
  have e1 : ((i : Int)).toNat = i := by omega
  have e2 : (((a + i : Nat) : Int)).toNat = a + i := by omega
  have h1 : i < (s.extract a b).size := by rw [ByteArray.size_extract]; omega
  have h2 : a + i < s.size := by omega
  unfold bt
  simp only [e1, e2]
  rw [dif_pos h1, dif_pos h2]
  congr 2
  exact ByteArray.getElem_extract h1
theorem zer_of {s : ByteArray} (h : allz s) : s = zer s.size := by
  apply ByteArray.ext
  apply Array.ext
  · show s.size = (List.replicate s.size (0 : UInt8)).toArray.size
    simp
  · intro i h1 h2
    have h3 := h i h1
    have e1 : ((i : Int)).toNat = i := by omega
    have hs : i < s.size := h1
    unfold bt at h3
    simp only [e1] at h3
    rw [dif_pos hs] at h3
    have h4 : s.data[i] = 0 := by
      have h5 : (s[i]'hs).toNat = 0 := by omega
      exact UInt8.toNat_inj.mp h5
    rw [h4]
    show (0 : UInt8) = (List.replicate s.size (0 : UInt8)).toArray[i]
    simp
theorem allz_zer (n : Nat) : allz (zer n) := by
  intro i hi
  have e1 : ((i : Int)).toNat = i := by omega
  unfold bt
  simp only [e1]
  rw [dif_pos hi]
  have : (zer n)[i]'hi = 0 := by
    show (List.replicate n (0 : UInt8)).toArray[i]'hi = 0
    simp
  rw [this]
  rfl
/-- What is cut off at the right: everything, or a byte that is not zero stands last. -/
theorem trimR (n : Nat) : ∀ (s : ByteArray) (k : Nat), s.size = n → n ≤ 1000 → n + 1 ≤ k → ∃ s' : ByteArray, strings_trimRightByte.l0 k s 0 = some s' ∧ s'.size ≤ n ∧ (allz s → s'.size = 0) ∧ (¬ allz s → 0 < s'.size ∧ bt s' ((s'.size : Int) - 1) ≠ 0) := by
  induction n with
  | zero =>
    intro s k hs hn hk
    obtain ⟨k, rfl⟩ : ∃ q, k = q + 1 := ⟨k - 1, by omega⟩
    rw [strings_trimRightByte.l0, if_neg (by omega)]
    exact ⟨s, rfl, by omega, fun _ => hs, fun h => absurd (fun i hi => by omega) h⟩
  | succ n ih =>
    intro s k hs hn hk
    obtain ⟨k, rfl⟩ : ∃ q, k = q + 1 := ⟨k - 1, by omega⟩
    have e1 : wrap64 ((s.size : Int) - 1) = (n : Int) := by rw [w64 (by omega) (by omega)]; omega
    rw [strings_trimRightByte.l0, e1]
    clear e1
    have e2 : ((n : Int)).toNat = n := by omega
    rw [if_pos (by omega), if_pos (by omega), if_pos (by omega), e2]
    by_cases hb : bt s (n : Int) = 0
    · have hz : (s.extract 0 n).size = n := by rw [ByteArray.size_extract]; omega
      obtain ⟨s', h1, h2, h3, h4⟩ := ih (s.extract 0 n) k hz (by omega) (by omega)
      have hiff : allz s ↔ allz (s.extract 0 n) := by
        constructor
        · intro h i hi
          rw [bt_extract s 0 n i (by omega) (by omega), Nat.zero_add]
          exact h i (by omega)
        · intro h i hi
          rcases Nat.lt_or_ge i n with h5 | h5
          · have := h i (by omega)
            rwa [bt_extract s 0 n i (by omega) (by omega), Nat.zero_add] at this
          · obtain rfl : i = n := by omega
            exact hb
      rw [if_pos hb, if_pos (by omega)]
      exact ⟨s', h1, by omega, fun h => h3 (hiff.mp h), fun h => h4 (fun h5 => h (hiff.mpr h5))⟩
    · rw [if_neg hb]
      have e3 : ((s.size : Int) - 1) = (n : Int) := by omega
      exact ⟨s, rfl, by omega, fun h => absurd (h n (by omega)) hb, fun _ => ⟨by omega, by rw [e3]; exact hb⟩⟩
theorem trimL (n : Nat) : ∀ (s : ByteArray) (k : Nat), s.size = n → n ≤ 1000 → n + 1 ≤ k → ∃ s' : ByteArray, strings_trimLeftByte.l0 k s 0 = some s' ∧ (s.size = 0 → s'.size = 0) ∧ (0 < s.size → bt s ((s.size : Int) - 1) ≠ 0 → 0 < s'.size) := by
  induction n with
  | zero =>
    intro s k hs hn hk
    obtain ⟨k, rfl⟩ : ∃ q, k = q + 1 := ⟨k - 1, by omega⟩
    rw [strings_trimLeftByte.l0, if_neg (by omega)]
    exact ⟨s, rfl, fun h => h, fun h => by omega⟩
  | succ n ih =>
    intro s k hs hn hk
    obtain ⟨k, rfl⟩ : ∃ q, k = q + 1 := ⟨k - 1, by omega⟩
    rw [strings_trimLeftByte.l0, if_pos (by omega), if_pos (by omega)]
    by_cases hb : bt s 0 = 0
    · have hz : (s.extract 1 s.size).size = n := by rw [ByteArray.size_extract]; omega
      obtain ⟨s', h1, h2, h3⟩ := ih (s.extract 1 s.size) k hz (by omega) (by omega)
      rw [if_pos hb, if_pos (by omega)]
      refine ⟨s', h1, fun h => by omega, fun h hl => h3 ?_ ?_⟩
      · rw [hz]
        rcases Nat.eq_zero_or_pos n with h0 | h0
        · exfalso
          apply hl
          have : ((s.size : Int) - 1) = 0 := by omega
          rw [this]
          exact hb
        · exact h0
      · rw [hz]
        intro h4
        apply hl
        rcases Nat.eq_zero_or_pos n with h0 | h0
        · have : ((s.size : Int) - 1) = 0 := by omega
          rw [this]
          exact hb
        · have e1 : ((n : Int) - 1) = ((n - 1 : Nat) : Int) := by omega
          have e2 : ((s.size : Int) - 1) = ((1 + (n - 1) : Nat) : Int) := by omega
          rw [e1, bt_extract s 1 s.size (n - 1) (by omega) (by omega)] at h4
          rw [e2]
          exact h4
    · rw [if_neg hb]
      exact ⟨s, rfl, fun h => by omega, fun h _ => h⟩
theorem trim_eq (s : ByteArray) (k : Nat) (hs : 0 < s.size) (hs2 : s.size ≤ 1000) (hk : 1010 ≤ k) : ∃ s' : ByteArray, strings_Trim.f k s (⟨#[0]⟩ : ByteArray) = some s' ∧ (s'.toList = [] ↔ s = zer s.size) := by
  obtain ⟨k, rfl⟩ : ∃ q, k = q + 2 := ⟨k - 2, by omega⟩
  have hc : ((⟨#[0]⟩ : ByteArray).toList == ([] : List UInt8)) = false := by
    rw [beq_eq_false_iff_ne]
    intro h
    have := tl_nil.mp h
    exact absurd this (by decide)
  have hsz : ((⟨#[0]⟩ : ByteArray).size : Int) = 1 := rfl
  have hbt : bt (⟨#[0]⟩ : ByteArray) 0 = 0 := by unfold bt; rfl
  have hne : ¬ s.toList = ([] : List UInt8) := fun h => by have := tl_nil.mp h; omega
  unfold strings_Trim.f
  rw [if_neg hne, hc, strings_Trim.j0, if_neg (by simp), hsz, if_pos rfl, if_pos (by omega), hbt, decide_eq_true (by omega), strings_Trim.j1, if_pos rfl, hsz, if_pos (by omega), hbt]
  obtain ⟨r, h1, h2, h3, h4⟩ := trimR s.size s k rfl hs2 (by omega)
  obtain ⟨q, g1, g2, g3⟩ := trimL r.size r k rfl (by omega) (by omega)
  unfold strings_trimRightByte.f strings_trimLeftByte.f
  rw [h1, Option.bind_some, g1, Option.bind_some]
  refine ⟨q, rfl, ?_⟩
  rw [tl_nil]
  by_cases hz : allz s
  · exact ⟨fun _ => zer_of hz, fun _ => g2 (h3 hz)⟩
  · obtain ⟨h5, h6⟩ := h4 hz
    have h7 := g3 h5 h6
    exact ⟨fun h => by omega, fun h => absurd (by rw [h]; exact allz_zer _) hz⟩
end Go.Proofs.YtoabahlaicgmjaaDoor.Q
end
section
namespace Go.Proofs.YtoabahlaicgmjaaDoor.X
open Go.Proofs.YtoabahlaicgmjaaDoor.XW Go.Proofs.YtoabahlaicgmjaaDoor.XS
open Go.RowKit Go.Proofs.YtoabahlaicgmjaaDoorW.PrintWords Go.Proofs.YtoabahlaicgmjaaDoorW.PrintLast Go.Proofs.YtoabahlaicgmjaaDoorW.PrintMore
attribute [local go_sem] max2_int min2_int max_two min_two max_three min_three max_four min_four   -- for this text's walks alone
set_option linter.unusedVariables false
set_option linter.unusedSimpArgs false
def midrangeref04_Undo.j0 : Nat → Bool → List (S46) → Int → Int → Int → Int → Int → ByteArray → Option ((List (S26)) × Int)
  | 0, _, _, _, _, _, _, _, _ => none
  | k + 1, x27, x511000, x511001, x512000, x512001, x512002, x512003, x512004 => if x27 = true then (some (([] : List (S26)), 39)) else ((midrangeref04_Place.f k x511000 x511001 x512001).bind fun t523 => (if 0 ≤ t523 then (if t523 < (x511000.length : Int) then (if x512000 = 1 then ((midrangeref04_Pages.f ((rd_T46 x511000 t523).f1)).bind fun t525 => (if ([] : List (S26)).length < 2932031007402 then (some ((([] : List (S26)) ++ [(⟨2, x512001, 0, t525, (⟨#[]⟩ : ByteArray)⟩ : S26)]), 0)) else (none))) else (if x512000 = 2 then (if 0 ≤ (wrap64 (x512003 * 32)) then (if (wrap64 (x512003 * 32)) ≤ (((rd_T46 x511000 t523).f1).size : Int) then (if (((rd_T46 x511000 t523).f1).extract ((wrap64 (x512003 * 32)) : Int).toNat ((rd_T46 x511000 t523).f1).size).toList = ([] : List UInt8) then ((midrangeref04_Zeros.f k ((((rd_T46 x511000 t523).f1).size - ((wrap64 (x512003 * 32)) : Int).toNat : Nat) : Int)).bind fun t529 => (if (((rd_T46 x511000 t523).f1).extract ((wrap64 (x512003 * 32)) : Int).toNat ((rd_T46 x511000 t523).f1).size).toList = t529.toList then (some (([] : List (S26)), 0)) else (if ([] : List (S26)).length < 2932031007402 then (some ((([] : List (S26)) ++ [(⟨4, x512001, wrap64 (x512003 * 32), 0, ((rd_T46 x511000 t523).f1).extract ((wrap64 (x512003 * 32)) : Int).toNat ((rd_T46 x511000 t523).f1).size⟩ : S26)]), 0)) else (none)))) else ((midrangeref04_Pages.f (((rd_T46 x511000 t523).f1).extract ((wrap64 (x512003 * 32)) : Int).toNat ((rd_T46 x511000 t523).f1).size)).bind fun t533 => (if ([] : List (S26)).length < 2932031007402 then ((some (([] : List (S26)) ++ [(⟨1, x512001, 0, t533, (⟨#[]⟩ : ByteArray)⟩ : S26)] : List (S26))).bind fun y534 => ((midrangeref04_Zeros.f k ((((rd_T46 x511000 t523).f1).size - ((wrap64 (x512003 * 32)) : Int).toNat : Nat) : Int)).bind fun t537 => (if (((rd_T46 x511000 t523).f1).extract ((wrap64 (x512003 * 32)) : Int).toNat ((rd_T46 x511000 t523).f1).size).toList = t537.toList then (some (y534, 0)) else (if y534.length < 2932031007402 then (some ((y534 ++ [(⟨4, x512001, wrap64 (x512003 * 32), 0, ((rd_T46 x511000 t523).f1).extract ((wrap64 (x512003 * 32)) : Int).toNat ((rd_T46 x511000 t523).f1).size⟩ : S26)]), 0)) else (none))))) else (none)))) else (none)) else (none)) else (if x512000 = 4 then (if 0 ≤ x512002 then (if x512002 ≤ (wrap64 (x512002 + (x512004.size : Int))) then (if (wrap64 (x512002 + (x512004.size : Int))) ≤ (((rd_T46 x511000 t523).f1).size : Int) then (if (((rd_T46 x511000 t523).f1).extract (x512002 : Int).toNat ((wrap64 (x512002 + (x512004.size : Int))) : Int).toNat).toList = x512004.toList then (some (([] : List (S26)), 0)) else (if ([] : List (S26)).length < 2932031007402 then (some ((([] : List (S26)) ++ [(⟨4, x512001, x512002, 0, ((rd_T46 x511000 t523).f1).extract (x512002 : Int).toNat ((wrap64 (x512002 + (x512004.size : Int))) : Int).toNat⟩ : S26)]), 0)) else (none))) else (none)) else (none)) else (none)) else (some (([] : List (S26)), 0))))) else (none)) else (none)))
def midrangeref04_Undo.f (k : Nat) (l0_0 : List (S46)) (a0_1 : Int) (a1_0 : Int) (a1_1 : Int) (a1_2 : Int) (a1_3 : Int) (a1_4 : ByteArray) : Option ((List (S26)) × Int) := (midrangeref04_Applied.f k l0_0 a0_1 (([(⟨a1_0, a1_1, a1_2, a1_3, a1_4⟩ : S26)] : List (S26)))).bind fun bt515 => (if bt515.2.2.2.2 = 0 then (if a1_0 = 0 then (midrangeref04_Undo.j0 k true l0_0 a0_1 a1_0 a1_1 a1_2 a1_3 a1_4) else (midrangeref04_Undo.j0 k (a1_0 == 3) l0_0 a0_1 a1_0 a1_1 a1_2 a1_3 a1_4)) else (some (([] : List (S26)), bt515.2.2.2.2)))
end Go.Proofs.YtoabahlaicgmjaaDoor.X
end
