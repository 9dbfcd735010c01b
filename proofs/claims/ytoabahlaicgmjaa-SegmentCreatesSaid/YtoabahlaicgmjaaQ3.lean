import Derived.Test.YtoabahlaicgmjaaQ1
import Derived.Test.YtoabahlaicgmjaaQ2
import Derived.Test.YtoabahlaicgmjaaXx0
import Derived.Test.YtoabahlaicgmjaaXx5
import Derived.Test.YtoabahlaicgmjaaXx7
import Derived.Test.YtoabahlaicgmjaaXx11
import Derived.Test.YtoabahlaicgmjaaXx12
import Derived.Test.YtoabahlaicgmjaaXx20
import Derived.Test.YtoabahlaicgmjaaXx26
namespace Go.Proofs.Ytoabahlaicgmjaa.Q
open Go.RowKit Go.Proofs.Ytoabahlaicgmjaa.X Go.Proofs.YtoabahlaicgmjaaW.PrintWords Go.Proofs.YtoabahlaicgmjaaW.PrintLast Go.Proofs.YtoabahlaicgmjaaW.PrintMore
set_option linter.unusedVariables false
set_option linter.unusedSimpArgs false

/-! ### A segment created, destroyed -/
theorem clone_eq (l : List S56) (hl : l.length ≤ 1000) : api_Segment_38.f l = some l := by
  unfold api_Segment_38.f
  rw [if_pos (by omega)]
/-- What the store behind a creation is, or the error. -/
def created (l : List S56) (nx p : Int) : List S56 × Int × Int × Int :=
  if (chk l nx).2 ≠ 0 then ([], 0, 0, (chk l nx).2) else if ¬ (1 ≤ p ∧ p ≤ 8) then ([], 0, 0, 3)
  else if l.length = 10 ∨ 1000 < nx then ([], 0, 0, 30) else (l ++ [⟨nx, zer (p.toNat * 32)⟩], wrap64 (nx + 1), nx, 0)
theorem created_eq (l : List S56) (nx p : Int) (k : Nat) (hk : 400 ≤ k) : segment_Created.f k l nx p = some (created l nx p) := by
  unfold segment_Created.f created
  rw [check_eq l nx k (by omega), Option.bind_some]
  by_cases h : (chk l nx).2 = 0
  · obtain ⟨R, _⟩ := right_of l nx h
    have hl := R.len
    rw [if_pos h, if_neg (not_not_intro h), within_eq, Option.bind_some]
    simp only [decide_eq_true_eq]
    by_cases hp : 1 ≤ p ∧ p ≤ 8
    · rw [if_pos hp, if_neg (not_not_intro hp)]
      obtain ⟨k, rfl⟩ : ∃ q, k = q + 1 := ⟨k - 1, by omega⟩
      have fin : ∀ b : Bool, (b = true ↔ (l.length = 10 ∨ 1000 < nx)) → segment_Created.j0 (k + 1) p b l nx = some (if l.length = 10 ∨ 1000 < nx then ([], 0, 0, 30) else (l ++ [⟨nx, zer (p.toNat * 32)⟩], wrap64 (nx + 1), nx, 0)) := by
        intro b hb
        rw [segment_Created.j0]
        by_cases h2 : l.length = 10 ∨ 1000 < nx
        · rw [if_pos (hb.2 h2), if_pos h2]
        · rw [if_neg (fun h => h2 (hb.1 h)), if_neg h2, clone_eq l (by omega), Option.bind_some, pages_eq p (by omega) (by omega), Option.bind_some, if_pos (by omega)]
      by_cases h3 : (l.length : Int) = 10
      · rw [if_pos h3]
        exact fin _ ⟨fun _ => .inl (by omega), fun _ => by rw [h3]; rfl⟩
      · rw [if_neg h3]
        refine fin _ ?_
        rw [decide_eq_true_eq]
        exact ⟨fun h => .inr h, fun h => by rcases h with h | h <;> omega⟩
    · rw [if_neg hp, if_pos hp]
  · rw [if_neg h, if_pos h]
theorem Created_eq (l : List S56) (nx p : Int) (k : Nat) (hk : 400 ≤ k) : midrangeref04_Created.f k l nx p = some ((created l nx p).1, (created l nx p).2.1, (created l nx p).2.2.1, (⟨#[]⟩ : ByteArray), (created l nx p).2.2.2) := by
  unfold midrangeref04_Created.f created
  rw [Err_eq l nx k (by omega), Option.bind_some]
  by_cases h : (chk l nx).2 = 0
  · obtain ⟨R, _⟩ := right_of l nx h
    have hl := R.len
    rw [if_pos h, if_neg (not_not_intro h), Within_eq, Option.bind_some]
    simp only [decide_eq_true_eq]
    by_cases hp : 1 ≤ p ∧ p ≤ 8
    · rw [if_pos hp, if_neg (not_not_intro hp)]
      obtain ⟨k, rfl⟩ : ∃ q, k = q + 1 := ⟨k - 1, by omega⟩
      have fin : ∀ b : Bool, (b = true ↔ (l.length = 10 ∨ 1000 < nx)) → midrangeref04_Created.j0 (k + 1) p b l nx = some ((if l.length = 10 ∨ 1000 < nx then ([], 0, 0, 30) else (l ++ [⟨nx, zer (p.toNat * 32)⟩], wrap64 (nx + 1), nx, 0) : List S56 × Int × Int × Int).1, (if l.length = 10 ∨ 1000 < nx then ([], 0, 0, 30) else (l ++ [⟨nx, zer (p.toNat * 32)⟩], wrap64 (nx + 1), nx, 0) : List S56 × Int × Int × Int).2.1, (if l.length = 10 ∨ 1000 < nx then ([], 0, 0, 30) else (l ++ [⟨nx, zer (p.toNat * 32)⟩], wrap64 (nx + 1), nx, 0) : List S56 × Int × Int × Int).2.2.1, (⟨#[]⟩ : ByteArray), (if l.length = 10 ∨ 1000 < nx then ([], 0, 0, 30) else (l ++ [⟨nx, zer (p.toNat * 32)⟩], wrap64 (nx + 1), nx, 0) : List S56 × Int × Int × Int).2.2.2) := by
        intro b hb
        rw [midrangeref04_Created.j0]
        by_cases h2 : l.length = 10 ∨ 1000 < nx
        · rw [if_pos (hb.2 h2)]
          simp only [if_pos h2]
          rfl
        · rw [if_neg (fun h => h2 (hb.1 h)), own_eq l nx (by omega), Option.bind_some, w64 (x := p * 32) (by omega) (by omega), Zeros_eq p k (by omega) (by omega) (by omega), Option.bind_some, if_pos (by show l.length < _; omega)]
          simp only [if_neg h2]
      by_cases h3 : (l.length : Int) = 10
      · rw [if_pos h3]
        exact fin _ ⟨fun _ => .inl (by omega), fun _ => rfl⟩
      · rw [if_neg h3]
        refine fin _ ?_
        rw [decide_eq_true_eq]
        exact ⟨fun h => .inr h, fun h => by rcases h with h | h <;> omega⟩
    · rw [if_neg hp]
      simp only [if_pos hp]
      rfl
  · rw [if_neg h]
    simp only [if_pos h]
theorem created_len (l : List S56) (nx p : Int) : (created l nx p).1.length ≤ 11 := by
  unfold created
  by_cases h : (chk l nx).2 = 0
  · have := (right_of l nx h).1.len
    rw [if_neg (not_not_intro h)]
    split
    · simp
    · split
      · simp
      · simp; omega
  · rw [if_pos h]; simp
theorem destroyed_both (l : List S56) (nx n : Int) (k : Nat) (hk : 40 ≤ k) (hn : -9223372036854775808 ≤ n ∧ n ≤ 9223372036854775807) :
    ∃ (l' : List S56) (nx' e : Int), l'.length ≤ 10 ∧ segment_Destroyed.f k l nx n = some (l', nx', e) ∧ midrangeref04_Destroyed.f k l nx n = some (l', nx', 0, (⟨#[]⟩ : ByteArray), e) := by
  unfold segment_Destroyed.f midrangeref04_Destroyed.f
  rcases find_known l nx n k hk hn with ⟨e, p, h1, h2, h3⟩ | ⟨j, h1, _, R, h2, h3⟩
  · rw [h2, h3, Option.bind_some, Option.bind_some, if_neg h1, if_neg h1]
    exact ⟨[], 0, e, by simp, rfl, rfl⟩
  · have hl := R.len
    have e1 : wrap64 ((j : Int) + 1) = (j : Int) + 1 := w64 (by omega) (by omega)
    rw [h2, h3, Option.bind_some, Option.bind_some, if_pos rfl, if_pos rfl, clone_eq l (by omega), Option.bind_some, own_eq l nx (by omega), Option.bind_some, e1, if_pos (by omega), if_pos (by show (j : Int) ≤ (l.length : Int); omega), if_pos (by omega), if_pos (by show (j : Int) + 1 ≤ (l.length : Int); omega)]
    unfold api_Segment_41.f
    rw [if_pos rfl, if_pos (by omega), if_pos (by omega), Option.bind_some]
    exact ⟨l.eraseIdx j, nx, 0, by have := List.length_eraseIdx_le l j; omega, by simp, by simp⟩
end Go.Proofs.Ytoabahlaicgmjaa.Q
