/- A part of the proof: texts of the author, joined. -/
import Derived.Test.YtdnfnjaccbgplaaDoorKS2
import Derived.Laws.Strings
section
set_option linter.unusedVariables false
set_option linter.unusedSimpArgs false
set_option linter.unnecessarySimpa false
namespace Go.Ev
open Go
/-! ## Words, read as0 plain Lean -/
theorem sel_if {α : Type} (b : Bool) (x y : α) : sel b x y = if b = true then x else y := by cases b <;> rfl
theorem sel_t {α : Type} (x y : α) : sel true x y = x := rfl
theorem sel_f {α : Type} (x y : α) : sel false x y = y := rfl
theorem bnd_s {α β : Type} (a : α) (k : α → Option β) : bndS (some a) k = k a := rfl
theorem bnd_n {α β : Type} (k : α → Option β) : bndS none k = none := rfl
theorem let_s {α β : Type} (x : α) (k : α → β) : letS x k = k x := rfl
theorem not_b (b : Bool) : bNot b = !b := by cases b <;> rfl
theorem and_b (a b : Bool) : bAnd a b = (a && b) := by cases a <;> rfl
theorem or_b (a b : Bool) : bOr a b = (a || b) := by cases a <;> rfl
/-- A word that fits. -/
def fits (n : Int) : Prop := -9223372036854775808 ≤ n ∧ n ≤ 9223372036854775807
theorem wrap_fits {n : Int} (h : fits n) : IntKind.i64.wrap n = n := by
  obtain ⟨h1, h2⟩ := h
  unfold IntKind.wrap
  simp [IntKind.bits, IntKind.signed]
  omega
theorem add_w {a b : Int} (h : fits (a + b)) : iAdd .i64 a b = a + b := wrap_fits h
theorem sub_w {a b : Int} (h : fits (a - b)) : iSub .i64 a b = a - b := wrap_fits h
theorem mul_w {a b : Int} (h : fits (a * b)) : iMul .i64 a b = a * b := wrap_fits h
theorem cv_w {a : Int} (h : fits a) : iCv .i64 a = a := wrap_fits h
/-! ### Strings as0 lists of bytes -/
theorem by_len (s : ByteArray) : sLen s = (sBy s).length := by
  unfold sLen sBy
  rw [List.length_map, Array.length_toList]
  rfl
theorem by_at (s : ByteArray) (n : Int) : sAt s n = ((sBy s)[n.toNat]?).getD 0 := by
  unfold sAt sBy
  rw [List.getElem?_map]
  have : s[n.toNat]? = s.data.toList[n.toNat]? := by
    rw [Array.getElem?_toList]
    by_cases h : n.toNat < s.size
    · rw [getElem?_pos s _ h, getElem?_pos s.data _ h]; rfl
    · rw [getElem?_neg s _ h, getElem?_neg s.data _ h]
  rw [this]
  cases s.data.toList[n.toNat]? <;> rfl
theorem by_cut (s : ByteArray) (lo hi : Int) : sBy (sCut s lo hi) = ((sBy s).take hi.toNat).drop lo.toNat := by
  unfold sCut sBy
  rw [ByteArray.data_extract, Array.toList_extract, List.extract_eq_take_drop, ← List.map_take, ← List.map_drop, List.drop_take]
theorem by_add (a b : ByteArray) : sBy (sAdd a b) = sBy a ++ sBy b := by
  simp [sBy, sAdd, ByteArray.data_append]
theorem by_inj {a b : ByteArray} (h : sBy a = sBy b) : a = b := by
  have h2 : a.data.toList = b.data.toList := by
    have := congrArg (List.map fun n : Int => UInt8.ofNat n.toNat) h
    simpa [sBy, Function.comp_def] using this
  cases a; cases b
  simp only at h2
  congr
  exact Array.ext' h2
theorem ba_toList (s : ByteArray) : s.toList = s.data.toList := by
  exact ByteArray.toList_eq s
theorem eq_b (a b : ByteArray) : sEq a b = decide (a = b) := by
  unfold sEq
  rw [ba_toList, ba_toList, Bool.eq_iff_iff]
  simp only [beq_iff_eq, decide_eq_true_eq]
  constructor
  · intro h; cases a; cases b; simp only at h; congr; exact Array.ext' h
  · intro h; rw [h]
theorem by_byte (s : ByteArray) : ∀ n ∈ sBy s, 0 ≤ n ∧ n < 256 := by
  intro n hn
  unfold sBy at hn
  obtain ⟨b, _, rfl⟩ := List.mem_map.1 hn
  have := b.toNat_lt
  omega
/-! ### Loops -/
theorem iter_s {σ ρ : Type} {B : σ → Option (σ ⊕ ρ)} {n : Nat} {x y : σ} (h : B x = some (.inl y)) : iter B (n + 1) x = iter B n y := by
  show (match B x with | some (.inl y) => iter B n y | some (.inr r) => some r | none => none) = _
  rw [h]
theorem iter_e {σ ρ : Type} {B : σ → Option (σ ⊕ ρ)} {n : Nat} {x : σ} {r : ρ} (h : B x = some (.inr r)) : iter B (n + 1) x = some r := by
  show (match B x with | some (.inl y) => iter B n y | some (.inr r) => some r | none => none) = _
  rw [h]
/-- A loop that counts up to its end. -/
theorem iter_up {σ ρ : Type} {B : σ → Option (σ ⊕ ρ)} {st : Nat → σ} {r : ρ} {m : Nat} (hs : ∀ i, i < m → B (st i) = some (.inl (st (i + 1)))) (he : B (st m) = some (.inr r)) : ∀ (d i n : Nat), i + d = m → d < n → iter B n (st i) = some r := by
  intro d
  induction d with
  | zero =>
    intro i n hi hn
    obtain ⟨n, rfl⟩ : ∃ q, n = q + 1 := ⟨n - 1, by omega⟩
    obtain rfl : i = m := by omega
    exact iter_e he
  | succ d ih =>
    intro i n hi hn
    obtain ⟨n, rfl⟩ : ∃ q, n = q + 1 := ⟨n - 1, by omega⟩
    rw [iter_s (hs i (by omega))]
    exact ih (i + 1) n (by omega) (by omega)
theorem iter_run {σ ρ : Type} {B : σ → Option (σ ⊕ ρ)} (st : Nat → σ) {r : ρ} (m : Nat) (hm : m < 10000000) (hs : ∀ i, i < m → B (st i) = some (.inl (st (i + 1)))) (he : B (st m) = some (.inr r)) : iter B fuel (st 0) = some r :=
  iter_up hs he m 0 _ (by omega) hm
theorem or_w {a b : Int} (ha : 0 ≤ a) (ha' : a < 36028797018963968) (hb : 0 ≤ b) (hb' : b < 256) : iOr .i64 (iShl .i64 a 8) b = a * 256 + b := by
  obtain ⟨x, rfl⟩ := Int.eq_ofNat_of_zero_le ha
  obtain ⟨y, rfl⟩ := Int.eq_ofNat_of_zero_le hb
  have h1 : iShl .i64 (x : Int) 8 = ((x * 256 : Nat) : Int) := by
    unfold iShl
    rw [wrap_fits (by unfold fits; simp [IntKind.bits]; omega)]
    simp [IntKind.bits]
  rw [h1]
  unfold iOr
  have h2 : (BitVec.ofInt IntKind.i64.bits ((x * 256 : Nat) : Int) ||| BitVec.ofInt IntKind.i64.bits (y : Int)).toNat = x * 256 + y := by
    rw [BitVec.toNat_or, BitVec.ofInt_natCast, BitVec.ofInt_natCast, BitVec.toNat_ofNat, BitVec.toNat_ofNat]
    rw [Nat.mod_eq_of_lt (by simp [IntKind.bits]; omega), Nat.mod_eq_of_lt (by simp [IntKind.bits]; omega)]
    have := Nat.shiftLeft_add_eq_or_of_lt (b := y) (i := 8) (by omega) x
    rw [Nat.shiftLeft_eq] at this
    simpa using this.symm
  rw [h2, wrap_fits (by unfold fits; omega)]
  simp
end Go.Ev
end

section
set_option linter.unusedVariables false
set_option linter.unusedSimpArgs false
set_option linter.unnecessarySimpa false
open Go Go.Ev
namespace Go.Proofs.YtdnfnjaccbgplaaDoor.K
theorem awake : F13 = some true := by kernel_rfl
/-- A number, its highest byte first. -/
def bigE (l : List Int) : Int := l.foldl (fun x b => x * 256 + b) 0
theorem bigE_snoc (l : List Int) (b : Int) : bigE (l ++ [b]) = bigE l * 256 + b := by simp [bigE]
theorem bigE_take {l : List Int} {i : Nat} (h : i < l.length) : bigE (l.take (i + 1)) = bigE (l.take i) * 256 + (l[i]?).getD 0 := by
  rw [List.take_add_one, List.getElem?_eq_getElem h]
  exact bigE_snoc _ _
theorem bigE_4 {l : List Int} (hb : ∀ b ∈ l, 0 ≤ b ∧ b < 256) (h : l.length ≤ 4) : 0 ≤ bigE l ∧ bigE l < 4294967296 := by
  rcases l with _ | ⟨a, _ | ⟨b, _ | ⟨c, _ | ⟨d, _ | ⟨e, l⟩⟩⟩⟩⟩ <;> simp [bigE] at hb h ⊢ <;> omega
theorem by_mem {s : ByteArray} {l : List Int} (h : ∀ b ∈ l, b ∈ sBy s) : ∀ b ∈ l, 0 ≤ b ∧ b < 256 := fun b hb => by_byte s b (h b hb)
theorem get_byte (s : ByteArray) (i : Nat) : 0 ≤ ((sBy s)[i]?).getD 0 ∧ ((sBy s)[i]?).getD 0 < 256 := by
  cases h : (sBy s)[i]? with
  | none => simp
  | some b => exact by_byte s b (List.mem_of_getElem? h)
theorem mem_dt {s : ByteArray} {a n : Nat} : ∀ b ∈ ((sBy s).drop a).take n, 0 ≤ b ∧ b < 256 := fun b hb => by_byte s b (List.mem_of_mem_drop (List.mem_of_mem_take hb))
theorem F64_eq (s : ByteArray) (a n : Nat) (h : a + n ≤ (sBy s).length) (hn : n ≤ 4) (hs : (sBy s).length ≤ 1000000) : F64 s a n = some (bigE (((sBy s).drop a).take n)) := by
  have hL : L64_0 (s, ((a : Int), ((n : Int), (0, 0)))) = some (bigE (((sBy s).drop a).take n)) := by
    refine iter_run (fun i => (s, ((a : Int), ((n : Int), (bigE (((sBy s).drop a).take i), (i : Int)))))) n (by omega) ?_ ?_
    · intro i hi
      have hb := bigE_4 (mem_dt (s := s) (a := a) (n := i)) (by simp; omega)
      have hg := get_byte s (a + i)
      have hl := by_len s
      have h1 : i < ((sBy s).drop a).length := by rw [List.length_drop]; omega
      show B64_0 s a n _ i = some (.inl (s, ((a : Int), ((n : Int), (bigE (((sBy s).drop a).take (i + 1)), ((i + 1 : Nat) : Int))))))
      rw [bigE_take h1, List.getElem?_drop]
      unfold B64_0
      simp only [iLt, oIn, sel_if]
      rw [add_w (a := (a : Int)) (by unfold fits; omega), add_w (b := 1) (by unfold fits; omega), by_at, show ((a : Int) + i).toNat = a + i by omega, cv_w (by unfold fits; omega), mul_w (by unfold fits; omega), add_w (by unfold fits; omega)]
      rw [if_pos (by simp; omega), if_pos (by simp; omega)]
      rfl
    · show B64_0 s a n _ n = _
      unfold B64_0
      simp only [iLt, sel_if]
      rw [if_neg (by simp)]
  unfold F64
  rw [hL]
  rfl
/-- The sum of an entry. -/
def sumE (l : List Int) : Int := l.foldl (fun a b => (257 * a + b + 1) % 4294967291) 1
theorem sumE_take {l : List Int} {i : Nat} (h : i < l.length) : sumE (l.take (i + 1)) = (257 * sumE (l.take i) + (l[i]?).getD 0 + 1) % 4294967291 := by
  rw [List.take_add_one, List.getElem?_eq_getElem h]
  unfold sumE
  rw [List.foldl_append]
  rfl
theorem sumE_from (l : List Int) : ∀ a : Int, 0 ≤ a → a < 4294967291 → 0 ≤ l.foldl (fun a b => (257 * a + b + 1) % 4294967291) a ∧ l.foldl (fun a b => (257 * a + b + 1) % 4294967291) a < 4294967291 := by
  induction l with
  | nil => intro a h1 h2; exact ⟨h1, h2⟩
  | cons b l ih => intro a h1 h2; exact ih _ (Int.emod_nonneg _ (by decide)) (Int.emod_lt_of_pos _ (by decide))
theorem sumE_lt {l : List Int} (_h : ∀ b ∈ l, 0 ≤ b ∧ b < 256) : 0 ≤ sumE l ∧ sumE l < 4294967291 := sumE_from l 1 (by decide) (by decide)
theorem F59_eq (s : ByteArray) (hs : (sBy s).length ≤ 1000000) : F59 s = some (sumE (sBy s)) := by
  have hl := by_len s
  have hL : L59_0 (s, ((1 : Int), 0)) = some (sumE ((sBy s).take (sBy s).length)) := by
    refine iter_run (fun i => (s, (sumE ((sBy s).take i), (i : Int)))) (sBy s).length (by omega) ?_ ?_
    · intro i hi
      have hb := sumE_lt (l := (sBy s).take i) (fun b hb => by_byte s b (List.mem_of_mem_take hb))
      have hg := get_byte s i
      show B59_0 s (sumE ((sBy s).take i)) i = some (.inl ((s, (sumE ((sBy s).take (i + 1)), ((i + 1 : Nat) : Int)))))
      rw [sumE_take hi]
      unfold B59_0
      simp only [iLt, oIn, sel_if, oNz]
      rw [add_w (b := 1) (a := (i : Int)) (by unfold fits; omega), by_at, show (i : Int).toNat = i by omega, cv_w (by unfold fits; omega), mul_w (by unfold fits; omega), add_w (a := 257 * sumE ((sBy s).take i)) (by unfold fits; omega), add_w (b := 1) (by unfold fits; omega)]
      rw [if_pos (by simp; omega), if_pos (by simp; omega), if_pos (by decide)]
      unfold iRem
      rw [Int.tmod_eq_emod_of_nonneg (by omega)]
      rfl
    · show B59_0 s (sumE ((sBy s).take (sBy s).length)) (sBy s).length = _
      unfold B59_0
      simp only [iLt, sel_if]
      rw [if_neg (by simp; omega)]
  unfold F59
  rw [hL, List.take_length]
  rfl
theorem F62_eq (s : ByteArray) (hs : (sBy s).length ≤ 1000000) : F62 s = some (sumE (sBy s)) := by
  have hl := by_len s
  have hL : L62_0 (s, ((1 : Int), (((sBy s).length : Int), 0))) = some (sumE ((sBy s).take (sBy s).length)) := by
    refine iter_run (fun i => (s, (sumE ((sBy s).take i), (((sBy s).length : Int), (i : Int))))) (sBy s).length (by omega) ?_ ?_
    · intro i hi
      have hb := sumE_lt (l := (sBy s).take i) (fun b hb => by_byte s b (List.mem_of_mem_take hb))
      have hg := get_byte s i
      show B62_0 s (sumE ((sBy s).take i)) (sBy s).length i = some (.inl ((s, (sumE ((sBy s).take (i + 1)), (((sBy s).length : Int), ((i + 1 : Nat) : Int))))))
      rw [sumE_take hi]
      unfold B62_0
      simp only [iLt, oIn, sel_if, oNz]
      rw [add_w (b := 1) (a := (i : Int)) (by unfold fits; omega), by_at, show (i : Int).toNat = i by omega, cv_w (by unfold fits; omega), mul_w (by unfold fits; omega), add_w (a := 257 * sumE ((sBy s).take i)) (by unfold fits; omega), add_w (b := 1) (by unfold fits; omega)]
      rw [if_pos (by simp; omega), if_pos (by simp; omega), if_pos (by decide)]
      unfold iRem
      rw [Int.tmod_eq_emod_of_nonneg (by omega)]
      rfl
    · show B62_0 s (sumE ((sBy s).take (sBy s).length)) (sBy s).length (sBy s).length = _
      unfold B62_0
      simp only [iLt, sel_if]
      rw [if_neg (by simp)]
  unfold F62
  rw [hl]
  rw [hL, List.take_length]
  rfl
end Go.Proofs.YtdnfnjaccbgplaaDoor.K
end

section
set_option linter.unusedVariables false
set_option linter.unusedSimpArgs false
set_option linter.unnecessarySimpa false
open Go Go.Ev
namespace Go.Proofs.YtdnfnjaccbgplaaDoor.K
theorem sel_pos {α : Type} {b : Bool} {x y : α} (h : b = true) : sel b x y = x := by rw [h]; rfl
theorem sel_neg {α : Type} {b : Bool} {x y : α} (h : b = false) : sel b x y = y := by rw [h]; rfl
/-- The part of a string. -/
def part (s : ByteArray) (a n : Nat) : List Int := ((sBy s).drop a).take n
theorem F61_ok (s : ByteArray) (p n : Nat) (ok : Bool) (h : p + n ≤ (sBy s).length) (hs : (sBy s).length ≤ 1000000) : ∃ t, sBy t = part s p n ∧ F61 s p ok n = some ((s, (((p + n : Nat) : Int), ok)), t) := by
  have hl := by_len s
  refine ⟨sCut s p ((p + n : Nat) : Int), ?_, ?_⟩
  · rw [by_cut]
    unfold part
    rw [show ((p : Int)).toNat = p by omega, show (((p + n : Nat) : Int)).toNat = p + n by omega, List.drop_take]
    congr 1
    omega
  · unfold F61
    rw [sub_w (b := (p : Int)) (by unfold fits; omega), add_w (a := (p : Int)) (b := (n : Int)) (by unfold fits; omega), sub_w (b := (n : Int)) (by unfold fits; omega)]
    rw [sel_neg (by unfold iLt; simp; omega), sel_pos (by unfold oCut; simp; omega)]
    rw [show (p : Int) + n - n = p by omega]
    rfl
theorem F61_no (s : ByteArray) (p : Nat) (n : Int) (ok : Bool) (h : ((sBy s).length : Int) < p + n) (hp : p ≤ (sBy s).length) (hs : (sBy s).length ≤ 1000000) : F61 s p ok n = some ((s, ((p : Int), false)), bs []) := by
  have hl := by_len s
  unfold F61
  rw [sub_w (b := (p : Int)) (by unfold fits; omega)]
  rw [sel_pos (by unfold iLt; simp; omega)]
theorem lAt_get {l : List Int} (i : Nat) : lAt l (i : Int) = (l[i]?).getD 0 := rfl
theorem L60_eq (x : ByteArray × (Int × Bool)) (l : List Int) (hb : ∀ b ∈ l, 0 ≤ b ∧ b < 256) (hn : l.length ≤ 4) : L60_0 (x, ((0 : Int), (l, ((l.length : Int), 0)))) = some (x, bigE (l.take l.length)) := by
  refine iter_run (fun i => (x, (bigE (l.take i), (l, ((l.length : Int), (i : Int)))))) l.length (by omega) ?_ ?_
  · intro i hi
    have h1 := bigE_4 (l := l.take i) (fun b h => hb b (List.mem_of_mem_take h)) (by rw [List.length_take]; omega)
    have hg : 0 ≤ (l[i]?).getD 0 ∧ (l[i]?).getD 0 < 256 := by
      rw [List.getElem?_eq_getElem hi]
      exact hb _ (List.getElem_mem hi)
    show B60_0 x.1 x.2.1 x.2.2 (bigE (l.take i)) l l.length i = some (.inl (x, (bigE (l.take (i + 1)), (l, ((l.length : Int), ((i + 1 : Nat) : Int))))))
    unfold B60_0
    rw [bigE_take hi, lAt_get, cv_w (by unfold fits; omega), or_w h1.1 (by omega) hg.1 hg.2, add_w (b := 1) (by unfold fits; omega)]
    rw [sel_pos (by unfold iLt; simp; omega), sel_pos (by unfold oIn lLen; simp; omega)]
    rfl
  · show B60_0 x.1 x.2.1 x.2.2 (bigE (l.take l.length)) l l.length l.length = _
    unfold B60_0
    rw [sel_neg (by unfold iLt; simp)]
theorem F60_ok (s : ByteArray) (p n : Nat) (ok : Bool) (h : p + n ≤ (sBy s).length) (hn : n ≤ 4) (hs : (sBy s).length ≤ 1000000) : F60 s p ok n = some ((s, (((p + n : Nat) : Int), ok)), bigE (part s p n)) := by
  obtain ⟨t, ht, he⟩ := F61_ok s p n ok h hs
  unfold F60
  rw [he, bnd_s]
  have hlen : (sBy t).length ≤ 4 := by rw [ht]; unfold part; rw [List.length_take]; omega
  have := L60_eq (s, (((p + n : Nat) : Int), ok)) (sBy t) (by_byte t) hlen
  rw [List.take_length] at this
  show bndS (L60_0 ((s, (((p + n : Nat) : Int), ok)), ((0 : Int), (sBy t, (((sBy t).length : Int), 0))))) _ = _
  rw [this, ht]
  rfl
theorem F60_no (s : ByteArray) (p : Nat) (n : Int) (ok : Bool) (h : ((sBy s).length : Int) < p + n) (hp : p ≤ (sBy s).length) (hs : (sBy s).length ≤ 1000000) : F60 s p ok n = some ((s, ((p : Int), false)), 0) := by
  unfold F60
  rw [F61_no s p n ok h hp hs, bnd_s]
  have := L60_eq (s, ((p : Int), false)) [] (by simp) (by simp)
  show bndS (L60_0 ((s, ((p : Int), false)), ((0 : Int), ([], (0, 0))))) _ = _
  exact (congrArg (fun z => bndS z fun y => some y) this).trans rfl
end Go.Proofs.YtdnfnjaccbgplaaDoor.K
end

section
set_option linter.unusedVariables false
set_option linter.unusedSimpArgs false
set_option linter.unnecessarySimpa false
open Go Go.Ev
namespace Go.Proofs.YtdnfnjaccbgplaaDoor.K
/-- Without the blanks at its end. -/
def trimL (l : List Int) : List Int := (l.reverse.dropWhile (fun c => c == 32)).reverse
theorem trimL_blank (l : List Int) : trimL (l ++ [32]) = trimL l := by unfold trimL; rw [List.reverse_append]; rfl
theorem trimL_end (l : List Int) {c : Int} (h : c ≠ 32) : trimL (l ++ [c]) = l ++ [c] := by
  unfold trimL
  rw [List.reverse_append]
  show (List.dropWhile _ (c :: l.reverse)).reverse = _
  rw [List.dropWhile_cons_of_neg (by simpa using h)]
  simp
theorem last_split {l : List Int} (h : 0 < l.length) : ∃ m c, l = m ++ [c] ∧ l[l.length - 1]? = some c := by
  refine ⟨l.dropLast, l.getLast (by intro e; rw [e] at h; cases h), (List.dropLast_concat_getLast _).symm, ?_⟩
  rw [List.getLast_eq_getElem]
  exact List.getElem?_eq_getElem (by omega)
theorem trim_loops : ∀ (k n : Nat) (s : ByteArray), (sBy s).length = k → k < n → k ≤ 1000000 → ∃ t, sBy t = trimL (sBy s) ∧ iter (fun (x : ByteArray) => B65_0 x) n s = some t ∧ iter (fun (x : (ByteArray × Int)) => B81_0 x.1 x.2) n (s, 32) = some t := by
  intro k
  induction k with
  | zero =>
    intro n s hk hn _
    obtain ⟨n, rfl⟩ : ∃ q, n = q + 1 := ⟨n - 1, by omega⟩
    have hl := by_len s
    have h0 : sBy s = [] := List.length_eq_zero_iff.1 hk
    have hs : iLt 0 (sLen s) = false := by unfold iLt; simp; omega
    refine ⟨s, by rw [h0]; rfl, iter_e ?_, iter_e ?_⟩
    · show B65_0 s = _
      unfold B65_0
      rw [hs, or_b, and_b, sel_pos (by simp [bNot, sel]), Bool.false_and, sel_f]
    · show B81_0 s 32 = _
      unfold B81_0
      rw [hs, or_b, and_b, sel_pos (by simp [bNot, sel]), Bool.false_and, sel_f]
  | succ k ih =>
    intro n s hk hn hm
    obtain ⟨n, rfl⟩ : ∃ q, n = q + 1 := ⟨n - 1, by omega⟩
    have hl := by_len s
    obtain ⟨m, c, he, hc⟩ := last_split (l := sBy s) (by omega)
    have hs : iLt 0 (sLen s) = true := by unfold iLt; simp; omega
    have hsub : iSub .i64 (sLen s) 1 = (k : Int) := by rw [sub_w (by unfold fits; omega)]; omega
    have hin : oIn (k : Int) (sLen s) = true := by unfold oIn; simp; omega
    have hat : sAt s (k : Int) = c := by
      rw [by_at, show ((k : Int)).toNat = (sBy s).length - 1 by omega, hc]
      rfl
    have hml : m.length = k := by rw [he] at hk; simpa using hk
    have hcut : sBy (sCut s 0 (k : Int)) = m := by
      rw [by_cut, he, show ((k : Int)).toNat = m.length by omega]
      simp
    by_cases h32 : c = 32
    · obtain ⟨t, h1, h2, h3⟩ := ih n (sCut s 0 (k : Int)) (by rw [hcut, hml]) (by omega) (by omega)
      have hoc : oCut 0 (k : Int) (sLen s) = true := by unfold oCut; simp; omega
      refine ⟨t, by rw [h1, hcut, he, h32, trimL_blank], ?_, ?_⟩
      · rw [iter_s (y := sCut s 0 (k : Int))]
        · exact h2
        · show B65_0 s = _
          unfold B65_0
          rw [hsub, hat, hs, or_b, and_b, sel_pos (by rw [hin]; rfl), sel_pos (by rw [h32]; rfl), sel_pos hoc]
      · rw [iter_s (y := (sCut s 0 (k : Int), 32))]
        · exact h3
        · show B81_0 s 32 = _
          unfold B81_0
          rw [hsub, hat, hs, or_b, and_b, sel_pos (by rw [hin]; rfl), sel_pos (by rw [h32]; rfl), sel_pos hoc]
    · refine ⟨s, by rw [he, trimL_end m h32], iter_e ?_, iter_e ?_⟩
      · show B65_0 s = _
        unfold B65_0
        rw [hsub, hat, hs, or_b, and_b, sel_pos (by rw [hin]; rfl), sel_neg (by unfold iEq; simpa using h32)]
      · show B81_0 s 32 = _
        unfold B81_0
        rw [hsub, hat, hs, or_b, and_b, sel_pos (by rw [hin]; rfl), sel_neg (by unfold iEq; simpa using h32)]
theorem trim_eq (s : ByteArray) (hs : (sBy s).length ≤ 1000000) : ∃ t, sBy t = trimL (sBy s) ∧ F65 s = some t ∧ F63 s = some t := by
  obtain ⟨t, h1, h2, h3⟩ := trim_loops (sBy s).length fuel s rfl (by unfold fuel; omega) hs
  refine ⟨t, h1, ?_, ?_⟩
  · unfold F65 L65_0
    rw [h2]
    rfl
  · unfold F63
    by_cases he : sEq s (bs []) = true
    · rw [he, show bAnd true true = true from rfl, sel_t]
      rw [eq_b, decide_eq_true_eq] at he
      rw [show s = t from by_inj (by rw [h1, he]; rfl)]
    · have he' : sEq s (bs []) = false := by simpa using he
      rw [he', show bAnd false true = false from rfl, sel_f]
      unfold F81 L81_0
      rw [h3]
      rfl
theorem trimL_length (l : List Int) : (trimL l).length ≤ l.length := by
  unfold trimL
  rw [List.length_reverse]
  have := (List.dropWhile_suffix (fun c : Int => c == 32) (l := l.reverse)).length_le
  rwa [List.length_reverse] at this
end Go.Proofs.YtdnfnjaccbgplaaDoor.K
end

section
set_option linter.unusedVariables false
set_option linter.unusedSimpArgs false
set_option linter.unnecessarySimpa false
open Go Go.Ev
namespace Go.Proofs.YtdnfnjaccbgplaaDoor.K
/-- A loop that counts up and may stop on the way. -/
theorem iter_scan {σ ρ : Type} {B : σ → Option (σ ⊕ ρ)} {st : Nat → σ} {r1 r2 : ρ} {p : Nat → Bool} {m : Nat} (hs : ∀ i, i < m → p i = true → B (st i) = some (.inl (st (i + 1)))) (hf : ∀ i, i < m → p i = false → B (st i) = some (.inr r1)) (he : B (st m) = some (.inr r2)) :
    ∀ (d i n : Nat), i + d = m → d < n → iter B n (st i) = some (if (List.range' i d).all p = true then r2 else r1) := by
  intro d
  induction d with
  | zero =>
    intro i n hi hn
    obtain ⟨n, rfl⟩ : ∃ q, n = q + 1 := ⟨n - 1, by omega⟩
    obtain rfl : i = m := by omega
    rw [iter_e he]
    rfl
  | succ d ih =>
    intro i n hi hn
    obtain ⟨n, rfl⟩ : ∃ q, n = q + 1 := ⟨n - 1, by omega⟩
    rw [List.range'_succ, List.all_cons]
    cases hp : p i with
    | true =>
      rw [iter_s (hs i (by omega) hp), ih (i + 1) n (by omega) (by omega)]
      rfl
    | false =>
      rw [iter_e (hf i (by omega) hp)]
      rfl
/-- A letter that may stand in a name at this place. -/
def nmCh (i : Nat) (c : Int) : Bool := decide ((65 ≤ c ∧ c ≤ 90) ∨ c = 35 ∨ c = 36 ∨ c = 64) || (decide (i ≠ 0) && decide (c = 95 ∨ c = 46 ∨ (48 ≤ c ∧ c ≤ 57)))
/-- A name. -/
def nmOK (l : List Int) : Bool := decide (1 ≤ l.length ∧ l.length ≤ 10) && (List.range' 0 l.length).all fun i => nmCh i ((l[i]?).getD 0)
theorem empty_iff (s : ByteArray) : sEq s (bs []) = decide ((sBy s).length = 0) := by
  rw [eq_b]
  apply decide_eq_decide.2
  constructor
  · intro h; rw [h]; rfl
  · intro h; exact by_inj (by rw [List.length_eq_zero_iff.1 h]; rfl)
theorem L51_eq (s : ByteArray) (hs : (sBy s).length ≤ 1000000) : L51_0 (s, (((sBy s).length : Int), 0)) = some (if ((List.range' 0 (sBy s).length).all fun i => nmCh i (((sBy s)[i]?).getD 0)) = true then .inl () else .inr false) := by
  have hl := by_len s
  refine iter_scan (st := fun i => (s, (((sBy s).length : Int), (i : Int)))) (p := fun i => nmCh i (((sBy s)[i]?).getD 0)) (m := (sBy s).length) ?_ ?_ ?_ (sBy s).length 0 _ (by omega) (by unfold fuel; omega)
  · intro i hi hp
    show B51_0 s (sBy s).length i = some (.inl (s, (((sBy s).length : Int), ((i + 1 : Nat) : Int))))
    unfold B51_0
    rw [by_at, show ((i : Int)).toNat = i by omega, add_w (b := 1) (by unfold fits; omega), sel_pos (by unfold iLt; simp; omega), sel_pos (by unfold oIn; simp; omega), sel_neg]
    · rfl
    · unfold nmCh at hp
      simp only [not_b, and_b, or_b, iLe, iEq, iLt] at hp ⊢
      generalize ((sBy s)[i]?).getD 0 = c at hp ⊢
      simp at hp ⊢
      omega
  · intro i hi hp
    show B51_0 s (sBy s).length i = _
    unfold B51_0
    rw [by_at, show ((i : Int)).toNat = i by omega, sel_pos (by unfold iLt; simp; omega), sel_pos (by unfold oIn; simp; omega), sel_pos]
    unfold nmCh at hp
    simp only [not_b, and_b, or_b, iLe, iEq, iLt] at hp ⊢
    generalize ((sBy s)[i]?).getD 0 = c at hp ⊢
    simp at hp ⊢
    omega
  · show B51_0 s (sBy s).length (sBy s).length = _
    unfold B51_0
    rw [sel_neg (by unfold iLt; simp)]
theorem F51_eq (s : ByteArray) (hs : (sBy s).length ≤ 1000000) : F51 s = some (nmOK (sBy s)) := by
  have hl := by_len s
  unfold F51 nmOK
  rw [hl, L51_eq s hs, empty_iff]
  by_cases h : 1 ≤ (sBy s).length ∧ (sBy s).length ≤ 10
  · rw [sel_neg (by rw [or_b, Bool.or_eq_false_iff]; unfold iLt; constructor <;> rw [decide_eq_false_iff_not] <;> omega), decide_eq_true h]
    split <;> rename_i h2
    · rw [h2]; rfl
    · rw [show ((List.range' 0 (sBy s).length).all fun i => nmCh i (((sBy s)[i]?).getD 0)) = false by simpa using h2]; rfl
  · rw [sel_pos (by rw [or_b, Bool.or_eq_true]; unfold iLt; rw [decide_eq_true_eq, decide_eq_true_eq]; omega), decide_eq_false h]
    rfl
theorem L55_eq (s : ByteArray) (hs : (sBy s).length ≤ 1000000) : L55_0 (s, 0) = some (if ((List.range' 0 (sBy s).length).all fun i => nmCh i (((sBy s)[i]?).getD 0)) = true then .inl () else .inr false) := by
  have hl := by_len s
  refine iter_scan (st := fun i => (s, (i : Int))) (p := fun i => nmCh i (((sBy s)[i]?).getD 0)) (m := (sBy s).length) ?_ ?_ ?_ (sBy s).length 0 _ (by omega) (by unfold fuel; omega)
  · intro i hi hp
    show B55_0 s i = some (.inl (s, ((i + 1 : Nat) : Int)))
    unfold B55_0 letS F78 F79
    dsimp only
    rw [by_at, show ((i : Int)).toNat = i by omega, add_w (b := 1) (by unfold fits; omega), sel_pos (by unfold iLt; simp; omega), sel_pos (by unfold oIn; simp; omega), sel_neg]
    · rfl
    · unfold nmCh at hp
      simp only [not_b, and_b, or_b, iLe, iEq, iLt] at hp ⊢
      generalize ((sBy s)[i]?).getD 0 = c at hp ⊢
      simp at hp ⊢
      omega
  · intro i hi hp
    show B55_0 s i = _
    unfold B55_0 letS F78 F79
    dsimp only
    rw [by_at, show ((i : Int)).toNat = i by omega, sel_pos (by unfold iLt; simp; omega), sel_pos (by unfold oIn; simp; omega), sel_pos]
    unfold nmCh at hp
    simp only [not_b, and_b, or_b, iLe, iEq, iLt] at hp ⊢
    generalize ((sBy s)[i]?).getD 0 = c at hp ⊢
    simp at hp ⊢
    omega
  · show B55_0 s (sBy s).length = _
    unfold B55_0
    rw [sel_neg (by unfold iLt; simp; omega)]
theorem F55_eq (s : ByteArray) (hs : (sBy s).length ≤ 1000000) : F55 s = some (nmOK (sBy s)) := by
  have hl := by_len s
  unfold F55 nmOK letS F37
  dsimp only
  rw [hl, L55_eq s hs]
  by_cases h : 1 ≤ (sBy s).length ∧ (sBy s).length ≤ 10
  · rw [sel_neg (by simp only [not_b, and_b, iLe]; simp; omega), decide_eq_true h]
    split <;> rename_i h2
    · rw [h2]; rfl
    · rw [show ((List.range' 0 (sBy s).length).all fun i => nmCh i (((sBy s)[i]?).getD 0)) = false by simpa using h2]; rfl
  · rw [sel_pos (by simp only [not_b, and_b, iLe]; simp; omega), decide_eq_false h]
    rfl
end Go.Proofs.YtdnfnjaccbgplaaDoor.K
end

section
set_option linter.unusedVariables false
set_option linter.unusedSimpArgs false
set_option linter.unnecessarySimpa false
open Go Go.Ev
namespace Go.Proofs.YtdnfnjaccbgplaaDoor.K
theorem F53_eq (b : Bool) : F53 b = some (if b = true then 1 else 0) := by cases b <;> rfl
theorem mul5 (b : Bool) : iMul .i64 5 (if b = true then 1 else 0) = if b = true then 5 else 0 := by
  cases b
  · exact mul_w (a := 5) (b := 0) (by unfold fits; omega)
  · exact mul_w (a := 5) (b := 1) (by unfold fits; omega)
theorem bs0 (a : ByteArray) : decide (a = bs []) = decide (bs [] = a) := decide_eq_decide.2 eq_comm
theorem i0 (a : Int) : (a == 0) = (0 == a) := by rw [Bool.eq_iff_iff]; simp only [beq_iff_eq]; exact eq_comm
set_option maxHeartbeats 4000000 in
/-- CheckEntry and EntryErr say the same. -/
theorem check_eq (k n m : Int) (nm : ByteArray) (f u : Int) (x y : ByteArray) (h : (sBy nm).length ≤ 1000000) : F15 (k, (n, (m, (nm, (f, (u, (x, y))))))) = F17 (k, (n, (m, (nm, (f, (u, (x, y))))))) ∧ ∃ c, F17 (k, (n, (m, (nm, (f, (u, (x, y))))))) = some c := by
  unfold F15 F17 F54 F56 F50 F37
  simp only [let_s, F51_eq nm h, F55_eq nm h, F53_eq, bnd_s, mul5, not_b, and_b, or_b, iEq, iLe, iLt, eq_b, bEq, okS, valS, Option.isSome_some, Option.getD_some, bs0]
  generalize nmOK (sBy nm) = b
  generalize decide (bs [] = nm) = en
  generalize decide (bs [] = x) = ex
  generalize decide (bs [] = y) = ey
  generalize sLen x = lx
  generalize sLen y = ly
  rw [i0 f, i0 u, i0 m]
  generalize (0 == f) = f0
  generalize (f == 2) = f2
  generalize (0 == u) = u0
  generalize (0 == m) = m0
  generalize decide (200 < lx) = tx
  generalize decide (200 < ly) = ty
  generalize (decide (1 ≤ k) && decide (k ≤ 9999)) = ck
  generalize (decide (0 ≤ f) && decide (f ≤ 2)) = cf
  generalize (decide (1 ≤ u) && decide (u ≤ 60)) = cu
  rcases (by omega : n = 0 ∨ n = 1 ∨ n = 2 ∨ n = 3 ∨ n = 4 ∨ n = 5 ∨ (n < 0 ∨ 5 < n)) with rfl | rfl | rfl | rfl | rfl | rfl | hn
  case inr.inr.inr.inr.inr.inr =>
    rw [show (decide (0 ≤ n) && decide (n ≤ 5)) = false by rw [Bool.and_eq_false_iff, decide_eq_false_iff_not, decide_eq_false_iff_not]; omega]
    exact ⟨rfl, _, rfl⟩
  all_goals simp only [Int.reduceBEq, Int.reduceLE, Int.reduceLT, decide_true, decide_false, Bool.and_true, Bool.true_and, Bool.and_false, Bool.false_and, Bool.or_true, Bool.true_or, Bool.or_false, Bool.false_or, Bool.not_true, Bool.not_false, sel_t, sel_f, beq_self_eq_true, reduceIte, Bool.false_eq_true]
  all_goals generalize (decide (0 ≤ m) && decide (m ≤ 999)) = c0
  all_goals generalize (decide (1 ≤ m) && decide (m ≤ 999)) = c1
  case inl =>
    all_goals cases ck <;> try exact ⟨rfl, _, rfl⟩
    all_goals cases c0 <;> try exact ⟨rfl, _, rfl⟩
    all_goals cases b <;> try exact ⟨rfl, _, rfl⟩
    all_goals cases cf <;> try exact ⟨rfl, _, rfl⟩
    all_goals cases cu <;> try exact ⟨rfl, _, rfl⟩
    all_goals cases tx <;> try exact ⟨rfl, _, rfl⟩
    all_goals cases ty <;> try exact ⟨rfl, _, rfl⟩
    all_goals cases f0 <;> try exact ⟨rfl, _, rfl⟩
    all_goals cases ex <;> try exact ⟨rfl, _, rfl⟩
    all_goals cases f2 <;> try exact ⟨rfl, _, rfl⟩
    all_goals cases ey <;> try exact ⟨rfl, _, rfl⟩
  case inr.inl =>
    all_goals cases ck <;> try exact ⟨rfl, _, rfl⟩
    all_goals cases c1 <;> try exact ⟨rfl, _, rfl⟩
    all_goals cases en <;> try exact ⟨rfl, _, rfl⟩
    all_goals cases f0 <;> try exact ⟨rfl, _, rfl⟩
    all_goals cases u0 <;> try exact ⟨rfl, _, rfl⟩
    all_goals cases ex <;> try exact ⟨rfl, _, rfl⟩
    all_goals cases ey <;> try exact ⟨rfl, _, rfl⟩
  case inr.inr.inl =>
    all_goals cases ck <;> try exact ⟨rfl, _, rfl⟩
    all_goals cases c1 <;> try exact ⟨rfl, _, rfl⟩
    all_goals cases en <;> try exact ⟨rfl, _, rfl⟩
    all_goals cases f0 <;> try exact ⟨rfl, _, rfl⟩
    all_goals cases u0 <;> try exact ⟨rfl, _, rfl⟩
    all_goals cases ex <;> try exact ⟨rfl, _, rfl⟩
    all_goals cases ey <;> try exact ⟨rfl, _, rfl⟩
  case inr.inr.inr.inl =>
    all_goals cases ck <;> try exact ⟨rfl, _, rfl⟩
    all_goals cases c1 <;> try exact ⟨rfl, _, rfl⟩
    all_goals cases en <;> try exact ⟨rfl, _, rfl⟩
    all_goals cases f0 <;> try exact ⟨rfl, _, rfl⟩
    all_goals cases u0 <;> try exact ⟨rfl, _, rfl⟩
    all_goals cases ex <;> try exact ⟨rfl, _, rfl⟩
    all_goals cases ey <;> try exact ⟨rfl, _, rfl⟩
  case inr.inr.inr.inr.inl =>
    all_goals cases ck <;> try exact ⟨rfl, _, rfl⟩
    all_goals cases m0 <;> try exact ⟨rfl, _, rfl⟩
    all_goals cases f0 <;> try exact ⟨rfl, _, rfl⟩
    all_goals cases u0 <;> try exact ⟨rfl, _, rfl⟩
    all_goals cases ex <;> try exact ⟨rfl, _, rfl⟩
    all_goals cases ey <;> try exact ⟨rfl, _, rfl⟩
    all_goals cases b <;> try exact ⟨rfl, _, rfl⟩
  case inr.inr.inr.inr.inr.inl =>
    all_goals cases ck <;> try exact ⟨rfl, _, rfl⟩
    all_goals cases m0 <;> try exact ⟨rfl, _, rfl⟩
    all_goals cases en <;> try exact ⟨rfl, _, rfl⟩
    all_goals cases f0 <;> try exact ⟨rfl, _, rfl⟩
    all_goals cases u0 <;> try exact ⟨rfl, _, rfl⟩
    all_goals cases ex <;> try exact ⟨rfl, _, rfl⟩
    all_goals cases ey <;> try exact ⟨rfl, _, rfl⟩
end Go.Proofs.YtdnfnjaccbgplaaDoor.K
end

section
set_option linter.unusedVariables false
set_option linter.unusedSimpArgs false
set_option linter.unnecessarySimpa false
open Go Go.Ev
namespace Go.Proofs.YtdnfnjaccbgplaaDoor.K
/-- A number off a source, whatever is left of it. -/
theorem F60_any (s : ByteArray) (p n : Nat) (ok : Bool) (hp : p ≤ (sBy s).length) (hn : n ≤ 4) (hs : (sBy s).length ≤ 1000000) : (p + n ≤ (sBy s).length ∧ F60 s p ok n = some ((s, (((p + n : Nat) : Int), ok)), bigE (part s p n))) ∨ ((sBy s).length < p + n ∧ F60 s p ok n = some ((s, ((p : Int), false)), 0)) := by
  rcases Nat.lt_or_ge (sBy s).length (p + n) with h | h
  · exact .inr ⟨h, F60_no s p n ok (by omega) hp hs⟩
  · exact .inl ⟨h, F60_ok s p n ok h hn hs⟩
theorem F61_any (s : ByteArray) (p n : Nat) (ok : Bool) (hp : p ≤ (sBy s).length) (hs : (sBy s).length ≤ 1000000) : (p + n ≤ (sBy s).length ∧ ∃ t, sBy t = part s p n ∧ F61 s p ok n = some ((s, (((p + n : Nat) : Int), ok)), t)) ∨ ((sBy s).length < p + n ∧ F61 s p ok n = some ((s, ((p : Int), false)), bs [])) := by
  rcases Nat.lt_or_ge (sBy s).length (p + n) with h | h
  · exact .inr ⟨h, F61_no s p n ok (by omega) hp hs⟩
  · exact .inl ⟨h, F61_ok s p n ok h hs⟩
theorem part_lt {s : ByteArray} {p n : Nat} (hn : n ≤ 2) : 0 ≤ bigE (part s p n) ∧ bigE (part s p n) < 65536 := by
  have hb : ∀ b ∈ part s p n, 0 ≤ b ∧ b < 256 := mem_dt
  have hl : (part s p n).length ≤ 2 := by unfold part; rw [List.length_take]; omega
  revert hb hl
  generalize part s p n = l
  intro hb hl
  rcases l with _ | ⟨a, _ | ⟨b, _ | ⟨c, l⟩⟩⟩ <;> simp [bigE] at hb hl ⊢ <;> omega
end Go.Proofs.YtdnfnjaccbgplaaDoor.K
end

section
set_option linter.unusedVariables false
set_option linter.unusedSimpArgs false
set_option linter.unnecessarySimpa false
open Go Go.Ev
namespace Go.Proofs.YtdnfnjaccbgplaaDoor.K
theorem wf_fits {n : Int} (h : (Ty.int .i64).wf n) : fits n := by
  have h : (decide (IntKind.i64.min ≤ n) && decide (n ≤ IntKind.i64.max)) = true := h
  rw [Bool.and_eq_true, decide_eq_true_eq, decide_eq_true_eq] at h
  have h1 : IntKind.i64.min = -9223372036854775808 := by decide
  have h2 : IntKind.i64.max = 9223372036854775807 := by decide
  unfold fits
  omega
end Go.Proofs.YtdnfnjaccbgplaaDoor.K
end

section
set_option linter.unusedVariables false
set_option linter.unusedSimpArgs false
set_option linter.unnecessarySimpa false
open Go Go.Ev
namespace Go.Proofs.YtdnfnjaccbgplaaDoor.K
theorem two_w (r : ByteArray) (h : 2 ≤ (sBy r).length) : iOr .i64 (iShl .i64 (iCv .i64 (sAt r 0)) 8) (iCv .i64 (sAt r 1)) = bigE (part r 0 2) := by
  have h0 := get_byte r 0
  have h1 := get_byte r 1
  rw [by_at, by_at, show ((0 : Int)).toNat = 0 from rfl, show ((1 : Int)).toNat = 1 from rfl, cv_w (by unfold fits; omega), cv_w (by unfold fits; omega), or_w h0.1 (by omega) h1.1 h1.2]
  unfold part
  rw [List.drop_zero, bigE_take (i := 1) (by omega), bigE_take (i := 0) (by omega)]
  simp [bigE]
end Go.Proofs.YtdnfnjaccbgplaaDoor.K
end

section
set_option linter.unusedVariables false
set_option linter.unusedSimpArgs false
set_option linter.unnecessarySimpa false
open Go Go.Ev
namespace Go.Proofs.YtdnfnjaccbgplaaDoor.K
theorem within_t {a b c : Int} (h : b ≤ a ∧ a ≤ c) : F50 a b c = true ∧ F37 a b c = true := by
  unfold F50 F37
  simp only [and_b, iLe]
  simp
  omega
theorem within_f {a b c : Int} (h : ¬ (b ≤ a ∧ a ≤ c)) : F50 a b c = false ∧ F37 a b c = false := by
  unfold F50 F37
  simp only [and_b, iLe]
  simp
  omega
theorem entry_out (s : ByteArray) (a : Int) (h : ¬ (0 ≤ a ∧ a ≤ sLen s)) : ∃ r, F19 s a = some r ∧ F20 s a = some r ∧ r.2.2 ≠ 0 := by
  unfold F19 F20
  rw [(within_f h).1, (within_f h).2]
  exact ⟨_, rfl, rfl, (by decide)⟩
theorem entry_short (s : ByteArray) (a : Nat) (h : (sBy s).length < a + 30) (ha : a ≤ (sBy s).length) (hs : (sBy s).length ≤ 1000000) : ∃ r, F19 s a = some r ∧ F20 s a = some r ∧ r.2.2 ≠ 0 := by
  have hl := by_len s
  have hr : sBy (sCut s a (sLen s)) = (sBy s).drop a := by
    rw [by_cut, hl, show ((a : Int)).toNat = a by omega, show (((sBy s).length : Int)).toNat = (sBy s).length by omega, List.take_length]
  have hrl : sLen (sCut s a (sLen s)) = ((sBy s).length - a : Nat) := by rw [by_len, hr, List.length_drop]
  unfold F19 F20
  rw [(within_t (a := (a : Int)) (b := 0) (c := sLen s) (by omega)).1, (within_t (a := (a : Int)) (b := 0) (c := sLen s) (by omega)).2, let_s, let_s, show bNot true = false from rfl, sel_f, sel_f, sel_pos (b := oCut _ _ _) (by unfold oCut; simp; omega), hrl, sub_w (b := (a : Int)) (by unfold fits; omega), show iLt (((sBy s).length - a : Nat) : Int) 30 = true by unfold iLt; rw [decide_eq_true_eq]; omega, show iLt (sLen s - (a : Int)) 30 = true by unfold iLt; rw [decide_eq_true_eq]; omega]
  refine ⟨_, rfl, ?_, (by decide)⟩
  rw [sel_pos (by rw [or_b]; simp [bNot, sel]), let_s, sel_pos (by rfl)]
end Go.Proofs.YtdnfnjaccbgplaaDoor.K
end

section
set_option linter.unusedVariables false
set_option linter.unusedSimpArgs false
set_option linter.unnecessarySimpa false
open Go Go.Ev
namespace Go.Proofs.YtdnfnjaccbgplaaDoor.K
theorem entry_cut (s : ByteArray) (a : Nat) (h : a + 30 ≤ (sBy s).length) (hn : ((sBy s).length - a : Nat) < bigE (part s a 2)) (hs : (sBy s).length ≤ 1000000) : ∃ r, F19 s a = some r ∧ F20 s a = some r ∧ r.2.2 ≠ 0 := by
  have hl := by_len s
  have hr : sBy (sCut s a (sLen s)) = (sBy s).drop a := by
    rw [by_cut, hl, show ((a : Int)).toNat = a by omega, show (((sBy s).length : Int)).toNat = (sBy s).length by omega, List.take_length]
  have hrn : (sBy (sCut s a (sLen s))).length = (sBy s).length - a := by rw [hr, List.length_drop]
  have hrl : sLen (sCut s a (sLen s)) = ((sBy s).length - a : Nat) := by rw [by_len, hrn]
  have hw : iOr .i64 (iShl .i64 (iCv .i64 (sAt (sCut s a (sLen s)) 0)) 8) (iCv .i64 (sAt (sCut s a (sLen s)) 1)) = bigE (part s a 2) := by
    rw [two_w _ (by omega)]
    unfold part
    rw [hr, List.drop_zero]
  have h64 : F64 s a 2 = some (bigE (part s a 2)) := F64_eq s a 2 (by omega) (by omega) hs
  unfold F19 F20
  rw [(within_t (a := (a : Int)) (b := 0) (c := sLen s) (by omega)).1, (within_t (a := (a : Int)) (b := 0) (c := sLen s) (by omega)).2, let_s, let_s, show bNot true = false from rfl, sel_f, sel_f, sel_pos (b := oCut _ _ _) (by unfold oCut; simp; omega), hw, hrl, sub_w (b := (a : Int)) (by unfold fits; omega), h64]
  rw [show iLt (((sBy s).length - a : Nat) : Int) 30 = false by unfold iLt; rw [decide_eq_false_iff_not]; omega, show iLt (sLen s - (a : Int)) 30 = false by unfold iLt; rw [decide_eq_false_iff_not]; omega, sel_f]
  rw [show oIn 0 (((sBy s).length - a : Nat) : Int) = true by unfold oIn; simp; omega, sel_t, show oIn 1 (((sBy s).length - a : Nat) : Int) = true by unfold oIn; simp; omega, sel_t]
  rw [show iLt (((sBy s).length - a : Nat) : Int) (bigE (part s a 2)) = true by unfold iLt; rw [decide_eq_true_eq]; omega, sel_t]
  refine ⟨_, rfl, ?_, (by decide)⟩
  rw [sel_pos (by rfl), let_s, show valS (some (bigE (part s a 2))) 0 = bigE (part s a 2) from rfl, show iLt (sLen s - (a : Int)) (bigE (part s a 2)) = true by unfold iLt; rw [decide_eq_true_eq]; omega]
  rfl
end Go.Proofs.YtdnfnjaccbgplaaDoor.K
end

section
set_option linter.unusedVariables false
set_option linter.unusedSimpArgs false
set_option linter.unnecessarySimpa false
open Go Go.Ev
namespace Go.Proofs.YtdnfnjaccbgplaaDoor.K
theorem entry_small (s : ByteArray) (a : Nat) (h : a + 30 ≤ (sBy s).length) (hn : bigE (part s a 2) < 30) (hs : (sBy s).length ≤ 1000000) : ∃ r, F19 s a = some r ∧ F20 s a = some r ∧ r.2.2 ≠ 0 := by
  have hl := by_len s
  have hr : sBy (sCut s a (sLen s)) = (sBy s).drop a := by
    rw [by_cut, hl, show ((a : Int)).toNat = a by omega, show (((sBy s).length : Int)).toNat = (sBy s).length by omega, List.take_length]
  have hrn : (sBy (sCut s a (sLen s))).length = (sBy s).length - a := by rw [hr, List.length_drop]
  have hrl : sLen (sCut s a (sLen s)) = ((sBy s).length - a : Nat) := by rw [by_len, hrn]
  have hw : iOr .i64 (iShl .i64 (iCv .i64 (sAt (sCut s a (sLen s)) 0)) 8) (iCv .i64 (sAt (sCut s a (sLen s)) 1)) = bigE (part s a 2) := by
    rw [two_w _ (by omega)]
    unfold part
    rw [hr, List.drop_zero]
  have h64 : F64 s a 2 = some (bigE (part s a 2)) := F64_eq s a 2 (by omega) (by omega) hs
  unfold F19 F20
  rw [(within_t (a := (a : Int)) (b := 0) (c := sLen s) (by omega)).1, (within_t (a := (a : Int)) (b := 0) (c := sLen s) (by omega)).2, let_s, let_s, show bNot true = false from rfl, sel_f, sel_f, sel_pos (b := oCut _ _ _) (by unfold oCut; simp; omega), hw, hrl, sub_w (b := (a : Int)) (by unfold fits; omega), h64]
  rw [show iLt (((sBy s).length - a : Nat) : Int) 30 = false by unfold iLt; rw [decide_eq_false_iff_not]; omega, show iLt (sLen s - (a : Int)) 30 = false by unfold iLt; rw [decide_eq_false_iff_not]; omega, sel_f]
  rw [show oIn 0 (((sBy s).length - a : Nat) : Int) = true by unfold oIn; simp; omega, sel_t, show oIn 1 (((sBy s).length - a : Nat) : Int) = true by unfold oIn; simp; omega, sel_t]
  have hp := part_lt (s := s) (p := a) (n := 2) (by omega)
  rw [show iLt (((sBy s).length - a : Nat) : Int) (bigE (part s a 2)) = false by unfold iLt; rw [decide_eq_false_iff_not]; omega, sel_f]
  rw [show iLt (bigE (part s a 2)) 30 = true by unfold iLt; rw [decide_eq_true_eq]; omega, sel_t]
  refine ⟨_, rfl, ?_, (by decide)⟩
  rw [sel_pos (by rfl), let_s, show valS (some (bigE (part s a 2))) 0 = bigE (part s a 2) from rfl, show iLt (sLen s - (a : Int)) (bigE (part s a 2)) = false by unfold iLt; rw [decide_eq_false_iff_not]; omega]
  rw [show bOr false false = false from rfl, sel_f, bnd_s, show iLt (bigE (part s a 2)) 30 = true by unfold iLt; rw [decide_eq_true_eq]; omega, sel_t, add_w (a := (a : Int)) (b := 30) (by unfold fits; omega)]
  have he : (sBy (sCut s a ((a : Int) + 30))).length = 30 := by rw [by_cut, List.length_drop, List.length_take]; omega
  have h22 : F64 (sCut s a ((a : Int) + 30)) 22 2 = some (bigE (part (sCut s a ((a : Int) + 30)) 22 2)) := F64_eq _ 22 2 (by omega) (by omega) (by omega)
  rw [sel_pos (b := oCut _ _ _) (by unfold oCut; simp; omega), h22, bnd_s, show ∀ b, bOr true b = true from fun _ => rfl, sel_t]
end Go.Proofs.YtdnfnjaccbgplaaDoor.K
end

section
set_option linter.unusedVariables false
set_option linter.unusedSimpArgs false
set_option linter.unnecessarySimpa false
open Go Go.Ev
namespace Go.Proofs.YtdnfnjaccbgplaaDoor.K
theorem cut_part (s : ByteArray) (a n : Nat) : sBy (sCut s (a : Int) ((a + n : Nat) : Int)) = part s a n := by
  rw [by_cut, show ((a : Int)).toNat = a by omega, show (((a + n : Nat) : Int)).toNat = a + n by omega, List.drop_take]
  unfold part
  congr 1
  omega
theorem cut_cut (s : ByteArray) (a n : Nat) (h : a + n ≤ (sBy s).length) : sCut (sCut s a (sLen s)) 0 n = sCut s a ((a + n : Nat) : Int) := by
  have hl := by_len s
  apply by_inj
  rw [cut_part, by_cut, by_cut, hl, show ((a : Int)).toNat = a by omega, show ((n : Int)).toNat = n by omega, show (((sBy s).length : Int)).toNat = (sBy s).length by omega, List.take_length]
  rfl
end Go.Proofs.YtdnfnjaccbgplaaDoor.K
end

section
set_option linter.unusedVariables false
set_option linter.unusedSimpArgs false
set_option linter.unnecessarySimpa false
namespace Go.Ev
open Go
/-! ## Words, as0 plain conditions -/
theorem not_t (b : Bool) : (bNot b = true) = (b = false) := by cases b <;> simp [bNot, sel]
theorem and_t (a b : Bool) : (bAnd a b = true) = (a = true ∧ b = true) := by cases a <;> simp [bAnd, sel]
theorem or_t (a b : Bool) : (bOr a b = true) = (a = true ∨ b = true) := by cases a <;> simp [bOr, sel]
theorem selB_t (a b c : Bool) : (sel a b c = true) = ((a = true ∧ b = true) ∨ (a = false ∧ c = true)) := by cases a <;> simp [sel]
theorem bEq_t (a b : Bool) : (bEq a b = true) = (a = b) := by cases a <;> cases b <;> simp [bEq]
theorem iEq_t (a b : Int) : (iEq a b = true) = (a = b) := by simp [iEq]
theorem iLt_t (a b : Int) : (iLt a b = true) = (a < b) := by simp [iLt]
theorem iLe_t (a b : Int) : (iLe a b = true) = (a ≤ b) := by simp [iLe]
theorem oNz_t (b : Int) : (oNz b = true) = (b ≠ 0) := by simp [oNz]
theorem oIn_t (n l : Int) : (oIn n l = true) = (0 ≤ n ∧ n < l) := by simp [oIn]
theorem oCut_t (a b l : Int) : (oCut a b l = true) = (0 ≤ a ∧ a ≤ b ∧ b ≤ l) := by simp [oCut]
theorem sEq_t (a b : ByteArray) : (sEq a b = true) = (a = b) := by rw [eq_b]; simp
theorem sOk_t (a b : ByteArray) : (sOk a b = true) = (sLen a + sLen b ≤ 9223372036854775807) := by
  unfold sOk sLen
  rw [decide_eq_true_eq]
  exact propext ⟨fun h => by omega, fun h => by omega⟩
theorem lCap_t {α : Type} (c : Int) (l : List α) : (lCap c l = true) = (lLen l * (c + 1) ≤ 140737488355328) := by simp [lCap, lLen]
theorem nCap_t (c n : Int) : (nCap c n = true) = (0 ≤ n ∧ n * (c + 1) ≤ 140737488355328) := by simp [nCap]
theorem okS_t {α : Type} (x : Option α) : (okS x = true) = (∃ a, x = some a) := by cases x <;> simp [okS]
theorem okS_s {α : Type} (a : α) : okS (some a) = true := rfl
theorem valS_s {α : Type} (a d : α) : valS (some a) d = a := rfl
theorem bf_t (b : Bool) : (b = false) = ¬ (b = true) := by cases b <;> simp
theorem sLen_nn (s : ByteArray) : 0 ≤ sLen s := by unfold sLen; omega
theorem lLen_nn {α : Type} (l : List α) : 0 ≤ lLen l := by unfold lLen; omega
/-- A result that is there, and what is known of it. -/
def Ok {α : Type} (x : Option α) (Q : α → Prop) : Prop := ∃ a, x = some a ∧ Q a
theorem Ok.mono {α : Type} {x : Option α} {Q R : α → Prop} (h : Ok x Q) (k : ∀ a, Q a → R a) : Ok x R := by obtain ⟨a, e, q⟩ := h; exact ⟨a, e, k a q⟩
theorem ok_some {α : Type} {a : α} {Q : α → Prop} : Ok (some a) Q = Q a := propext ⟨fun ⟨_, e, q⟩ => (by cases e; exact q), fun q => ⟨a, rfl, q⟩⟩
theorem ok_none {α : Type} {Q : α → Prop} : Ok (none : Option α) Q = False := propext ⟨fun ⟨_, e, _⟩ => (by cases e), fun h => h.elim⟩
theorem ok_sel {α : Type} {b : Bool} {x y : Option α} {Q : α → Prop} : Ok (sel b x y) Q = ((b = true → Ok x Q) ∧ (¬ b = true → Ok y Q)) := by
  cases b
  · show Ok y Q = _; simp
  · show Ok x Q = _; simp
theorem ok_bnd {α β : Type} {x : Option α} {k : α → Option β} {Q : β → Prop} : Ok (bndS x k) Q = Ok x (fun a => Ok (k a) Q) := by
  cases x with
  | none => exact propext ⟨fun ⟨_, e, _⟩ => (by cases e), fun ⟨_, e, _⟩ => (by cases e)⟩
  | some a => exact (ok_some (Q := fun a => Ok (k a) Q)).symm
theorem ok_let {α β : Type} {x : α} {k : α → Option β} {Q : β → Prop} : Ok (letS x k) Q = Ok (k x) Q := rfl
theorem ok_sumL {α β γ : Type} {a : α} {f : α → Option γ} {g : β → Option γ} {Q : γ → Prop} : Ok (sumS (.inl a) f g) Q = Ok (f a) Q := rfl
theorem ok_sumR {α β γ : Type} {a : β} {f : α → Option γ} {g : β → Option γ} {Q : γ → Prop} : Ok (sumS (.inr a) f g) Q = Ok (g a) Q := rfl
theorem ok_eq {α : Type} {x : Option α} {a : α} {Q : α → Prop} (e : x = some a) : Ok x Q = Q a := by rw [e, ok_some]
theorem ok_is {α : Type} {x : Option α} {a : α} : Ok x (fun b => b = a) = (x = some a) := propext ⟨fun ⟨_, e, q⟩ => (by rw [e, q]), fun e => ⟨a, e, rfl⟩⟩
/-- A loop with an invariant and a number that goes down. -/
theorem iter_inv {σ ρ : Type} {B : σ → Option (σ ⊕ ρ)} (I : Nat → σ → Prop) {Q : ρ → Prop} (h : ∀ m x, I m x → Ok (B x) (fun r => match r with | .inl y => ∃ k, k < m ∧ I k y | .inr r => Q r)) : ∀ (n m : Nat) (x : σ), I m x → m < n → Ok (iter B n x) Q := by
  intro n
  induction n with
  | zero => intro m x _ hn; omega
  | succ n ih =>
    intro m x hi hn
    obtain ⟨a, e, q⟩ := h m x hi
    cases a with
    | inl y =>
      obtain ⟨k, hk, hik⟩ := q
      rw [iter_s e]
      exact ih k y hik (by omega)
    | inr r =>
      rw [iter_e e]
      exact ⟨r, rfl, q⟩
theorem loop_inv {σ ρ : Type} {B : σ → Option (σ ⊕ ρ)} {Q : ρ → Prop} {x : σ} (I : Nat → σ → Prop) (m : Nat) (hx : I m x) (hm : m < 10000000) (h : ∀ m x, I m x → Ok (B x) (fun r => match r with | .inl y => ∃ k, k < m ∧ I k y | .inr r => Q r)) : Ok (iter B fuel x) Q :=
  iter_inv I h _ m x hx (by unfold fuel; omega)
/-- Two loops that go side by side. -/
theorem iter_two {σ τ ρ π : Type} {B : σ → Option (σ ⊕ ρ)} {C : τ → Option (τ ⊕ π)} (I : Nat → σ → τ → Prop) {Q : ρ → π → Prop} (h : ∀ m x y, I m x y → (∃ k x' y', k < m ∧ B x = some (.inl x') ∧ C y = some (.inl y') ∧ I k x' y') ∨ ∃ r s, B x = some (.inr r) ∧ C y = some (.inr s) ∧ Q r s) : ∀ (n m : Nat) (x : σ) (y : τ), I m x y → m < n → ∃ r s, iter B n x = some r ∧ iter C n y = some s ∧ Q r s := by
  intro n
  induction n with
  | zero => intro m x y _ hn; omega
  | succ n ih =>
    intro m x y hi hn
    rcases h m x y hi with ⟨k, x', y', hk, e1, e2, hi'⟩ | ⟨r, s, e1, e2, q⟩
    · rw [iter_s e1, iter_s e2]
      exact ih k x' y' hi' (by omega)
    · exact ⟨r, s, iter_e e1, iter_e e2, q⟩
theorem loop_two {σ τ ρ π : Type} {B : σ → Option (σ ⊕ ρ)} {C : τ → Option (τ ⊕ π)} {Q : ρ → π → Prop} {x : σ} {y : τ} (I : Nat → σ → τ → Prop) (m : Nat) (hx : I m x y) (hm : m < 10000000) (h : ∀ m x y, I m x y → (∃ k x' y', k < m ∧ B x = some (.inl x') ∧ C y = some (.inl y') ∧ I k x' y') ∨ ∃ r s, B x = some (.inr r) ∧ C y = some (.inr s) ∧ Q r s) : ∃ r s, iter B fuel x = some r ∧ iter C fuel y = some s ∧ Q r s :=
  iter_two I h _ m x y hx (by unfold fuel; omega)
theorem mul_ite {c : Int} (h : fits c) (p : Prop) [Decidable p] : iMul .i64 c (if p then 1 else 0) = if p then c else 0 := by
  by_cases hp : p
  · rw [if_pos hp, if_pos hp, mul_w (by rw [Int.mul_one]; exact h), Int.mul_one]
  · rw [if_neg hp, if_neg hp, mul_w (by rw [Int.mul_zero]; unfold fits; omega), Int.mul_zero]
/-! ### Arithmetic that stays in bounds -/
theorem add_n {a b : Int} (h1 : -9223372036854775808 ≤ a + b) (h2 : a + b ≤ 9223372036854775807) : iAdd .i64 a b = a + b := add_w ⟨h1, h2⟩
theorem sub_n {a b : Int} (h1 : -9223372036854775808 ≤ a - b) (h2 : a - b ≤ 9223372036854775807) : iSub .i64 a b = a - b := sub_w ⟨h1, h2⟩
theorem mul_n {a b : Int} (h1 : -9223372036854775808 ≤ a * b) (h2 : a * b ≤ 9223372036854775807) : iMul .i64 a b = a * b := mul_w ⟨h1, h2⟩
theorem cv_n {a : Int} (h1 : -9223372036854775808 ≤ a) (h2 : a ≤ 9223372036854775807) : iCv .i64 a = a := cv_w ⟨h1, h2⟩
theorem app_len {α : Type} (l m : List α) : lLen (lApp l m) = lLen l + lLen m := by simp [lLen, lApp]
theorem set_len {α : Type} (l : List α) (n : Int) (x : α) : lLen (lSet l n x) = lLen l := by simp [lLen, lSet]
theorem one_len {α : Type} (x : α) : lLen [x] = 1 := by simp [lLen]
theorem nil_len {α : Type} : lLen ([] : List α) = 0 := by simp [lLen]
theorem sadd_len (a b : ByteArray) : sLen (sAdd a b) = sLen a + sLen b := by simp [sLen, sAdd, ByteArray.size_append]
theorem scut_len (s : ByteArray) {a b : Int} (h0 : 0 ≤ a) (h1 : a ≤ b) (h2 : b ≤ sLen s) : sLen (sCut s a b) = b - a := by
  rw [by_len] at h2
  rw [by_len, by_cut, List.length_drop, List.length_take]
  omega
end Go.Ev
end

section
set_option linter.unusedVariables false
set_option linter.unusedSimpArgs false
set_option linter.unnecessarySimpa false
namespace Go.Ev
open Go
/-! ## Numbers as0 bytes, the highest first -/
def bigB (n : Int) : Nat → List Int
  | 0 => []
  | k + 1 => bigB (n / 256) k ++ [n % 256]
theorem bigB_len : ∀ (k : Nat) (n : Int), (bigB n k).length = k
  | 0, _ => rfl
  | k + 1, n => by unfold bigB; rw [List.length_append, bigB_len k]; rfl
theorem bigB_front : ∀ (j : Nat) (n : Int), bigB n (j + 1) = (n / 256 ^ j) % 256 :: bigB n j
  | 0, n => by simp [bigB]
  | j + 1, n => by
    have ih := bigB_front j (n / 256)
    show bigB (n / 256) (j + 1) ++ [n % 256] = _
    rw [ih, Int.ediv_ediv_of_nonneg (by decide), Int.mul_comm, ← Int.pow_succ]
    rfl
theorem bigB_byte : ∀ (k : Nat) (n : Int), ∀ b ∈ bigB n k, 0 ≤ b ∧ b < 256
  | 0, n, b, h => by cases h
  | k + 1, n, b, h => by
    unfold bigB at h
    rcases List.mem_append.1 h with h | h
    · exact bigB_byte k _ b h
    · rw [List.mem_singleton.1 h]
      omega
theorem by_sOf {l : List Int} (h : ∀ b ∈ l, 0 ≤ b ∧ b < 256) : sBy (sOf l) = l := by
  have gen : ∀ (l : List Int) (a : ByteArray), (∀ b ∈ l, 0 ≤ b ∧ b < 256) → sBy (l.foldl (fun r n => r.push (UInt8.ofNat n.toNat)) a) = sBy a ++ l := by
    intro l
    induction l with
    | nil => intro a _; simp
    | cons b l ih =>
      intro a h
      rw [List.foldl_cons, ih _ (fun c hc => h c (List.mem_cons_of_mem _ hc))]
      have hb := h b (List.mem_cons_self ..)
      have : sBy (a.push (UInt8.ofNat b.toNat)) = sBy a ++ [b] := by
        unfold sBy
        rw [ByteArray.data_push, Array.toList_push, List.map_append]
        congr 1
        simp only [List.map_cons, List.map_nil]
        congr 1
        rw [UInt8.toNat_ofNat']
        omega
      rw [this]
      simp
  unfold sOf mkBytes
  rw [gen l ByteArray.empty h]
  rfl
theorem byte_shr {n : Int} (h0 : 0 ≤ n) (j : Nat) (hj : j < 8) : iCv .u8 (iShr .i64 n (iMul .i64 8 (j : Int))) = (n / 256 ^ j) % 256 := by
  have h1 : iMul .i64 8 (j : Int) = ((8 * j : Nat) : Int) := by rw [mul_w (by unfold fits; omega)]; omega
  rw [h1]
  unfold iShr
  have h2 : min ((8 * j : Nat) : Int).toNat IntKind.i64.bits = 8 * j := by simp [IntKind.bits]; omega
  rw [h2, Int.pow_mul, Int.fdiv_eq_ediv_of_nonneg _ (by exact Int.le_of_lt (Int.pow_pos (by decide)))]
  show IntKind.wrap .u8 _ = _
  unfold IntKind.wrap
  simp [IntKind.bits, IntKind.signed]
theorem cv_u8 {n : Int} (h : 0 ≤ n ∧ n < 256) : iCv .u8 n = n := by
  show IntKind.wrap .u8 _ = _
  unfold IntKind.wrap
  simp [IntKind.bits, IntKind.signed]
  omega
end Go.Ev
end

section
set_option linter.unusedVariables false
set_option linter.unusedSimpArgs false
set_option linter.unnecessarySimpa false
namespace Go.Ev
open Go
/-- A loop that looks for the first place. -/
theorem iter_first {σ ρ : Type} {B : σ → Option (σ ⊕ ρ)} (st : Nat → σ) (p : Nat → Prop) (m : Nat) (r1 : Nat → ρ) (r2 : ρ) (hm : m < 10000000) (hs : ∀ i, i < m → ¬ p i → B (st i) = some (.inl (st (i + 1)))) (hf : ∀ i, i < m → p i → B (st i) = some (.inr (r1 i))) (he : B (st m) = some (.inr r2)) :
    (∃ i, i < m ∧ p i ∧ (∀ k, k < i → ¬ p k) ∧ iter B fuel (st 0) = some (r1 i)) ∨ ((∀ i, i < m → ¬ p i) ∧ iter B fuel (st 0) = some r2) := by
  have gen : ∀ (d i n : Nat), i + d = m → d < n → (∀ k, k < i → ¬ p k) → (∃ j, j < m ∧ p j ∧ (∀ k, k < j → ¬ p k) ∧ iter B n (st i) = some (r1 j)) ∨ ((∀ i, i < m → ¬ p i) ∧ iter B n (st i) = some r2) := by
    intro d
    induction d with
    | zero =>
      intro i n hi hn hk
      obtain ⟨n, rfl⟩ : ∃ q, n = q + 1 := ⟨n - 1, by omega⟩
      obtain rfl : i = m := by omega
      exact .inr ⟨hk, iter_e he⟩
    | succ d ih =>
      intro i n hi hn hk
      obtain ⟨n, rfl⟩ : ∃ q, n = q + 1 := ⟨n - 1, by omega⟩
      by_cases hp : p i
      · exact .inl ⟨i, by omega, hp, hk, iter_e (hf i (by omega) hp)⟩
      · rw [iter_s (hs i (by omega) hp)]
        exact ih (i + 1) n (by omega) (by omega) (fun k hk' => by
          by_cases h : k = i
          · rw [h]; exact hp
          · exact hk k (by omega))
  exact gen m 0 fuel (by omega) (by unfold fuel; omega) (fun k h => by omega)
theorem iLt_f {a b : Int} (h : ¬ a < b) : iLt a b = false := by unfold iLt; rw [decide_eq_false_iff_not]; exact h
theorem iLt_y {a b : Int} (h : a < b) : iLt a b = true := by unfold iLt; rw [decide_eq_true_eq]; exact h
theorem iLe_f {a b : Int} (h : ¬ a ≤ b) : iLe a b = false := by unfold iLe; rw [decide_eq_false_iff_not]; exact h
theorem iLe_y {a b : Int} (h : a ≤ b) : iLe a b = true := by unfold iLe; rw [decide_eq_true_eq]; exact h
theorem iEq_y {a b : Int} (h : a = b) : iEq a b = true := by unfold iEq; simpa using h
theorem iEq_f {a b : Int} (h : ¬ a = b) : iEq a b = false := by unfold iEq; simpa using h
theorem sEq_y {a b : ByteArray} (h : a = b) : sEq a b = true := by rw [sEq_t]; exact h
theorem sEq_f {a b : ByteArray} (h : ¬ a = b) : sEq a b = false := by rw [bf_t, sEq_t]; exact h
theorem oCut_y {a b c : Int} (h : 0 ≤ a ∧ a ≤ b ∧ b ≤ c) : oCut a b c = true := by rw [oCut_t]; exact h
theorem oIn_y {a b : Int} (h : 0 ≤ a ∧ a < b) : oIn a b = true := by rw [oIn_t]; exact h
theorem lCap_y {α : Type} {c : Int} {l : List α} (h0 : 0 ≤ c) (hc : c ≤ 1000) (h : l.length ≤ 1000000) : lCap c l = true := by
  rw [lCap_t]
  unfold lLen
  have : ((l.length : Int)) * (c + 1) ≤ 1000000 * 1001 := Int.mul_le_mul (by omega) (by omega) (by omega) (by omega)
  omega
theorem sOk_y {a b : ByteArray} (h : (sBy a).length + (sBy b).length ≤ 100000000) : sOk a b = true := by
  rw [sOk_t, by_len, by_len]
  omega
theorem nt : bNot true = false := rfl
theorem nf : bNot false = true := rfl
theorem at_ft (b : Bool) : bAnd true b = b := by cases b <;> rfl
theorem at_ff (b : Bool) : bAnd false b = false := rfl
theorem or_tt (b : Bool) : bOr true b = true := rfl
theorem or_ff (b : Bool) : bOr false b = b := by cases b <;> rfl
end Go.Ev
end

section
set_option linter.unusedVariables false
set_option linter.unusedSimpArgs false
set_option linter.unnecessarySimpa false
open Go Go.Ev
namespace Go.Proofs.YtdnfnjaccbgplaaDoor.K
theorem F60_bad (s : ByteArray) (p n : Nat) (hp : p ≤ (sBy s).length) (hn : n ≤ 4) (hs : (sBy s).length ≤ 1000000) : ∃ (q : Nat) (v : Nat), q ≤ (sBy s).length ∧ F60 s p false n = some ((s, ((q : Int), false)), (v : Int)) := by
  rcases F60_any s p n false hp hn hs with ⟨h, e⟩ | ⟨h, e⟩
  · have hb := bigE_4 (l := part s p n) mem_dt (by unfold part; rw [List.length_take]; omega)
    exact ⟨p + n, (bigE (part s p n)).toNat, h, by rw [e, Int.toNat_of_nonneg hb.1]⟩
  · exact ⟨p, 0, hp, e⟩
theorem F61_bad (s : ByteArray) (p n : Nat) (hp : p ≤ (sBy s).length) (hs : (sBy s).length ≤ 1000000) : ∃ (q : Nat) (v : ByteArray), q ≤ (sBy s).length ∧ F61 s p false n = some ((s, ((q : Int), false)), v) := by
  rcases F61_any s p n false hp hs with ⟨h, t, _, e⟩ | ⟨h, e⟩
  · exact ⟨p + n, t, h, e⟩
  · exact ⟨p, _, hp, e⟩
/-- The end of EntryIn, if a number or a text did not fit. -/
theorem tail_bad {γ : Type} (s : ByteArray) (p : Nat) (hp : p ≤ (sBy s).length) (hs : (sBy s).length ≤ 1000000) (X : Int → Bool) (R : Option γ) (K : ByteArray → Int → Bool → Int → ByteArray → Option γ) :
    (bndS (F60 s p false 2) fun y10 => bndS (F61 y10.1.1 y10.1.2.1 y10.1.2.2 y10.2) fun y11 => bndS (F60 y11.1.1 y11.1.2.1 y11.1.2.2 4) fun y12 => sel (bOr (bNot y12.1.2.2) (X y12.1.2.1)) R (K y12.1.1 y12.1.2.1 y12.1.2.2 y12.2 y11.2)) = R := by
  obtain ⟨q, v, hq, e⟩ := F60_bad s p 2 hp (by omega) hs
  obtain ⟨q2, v2, hq2, e2⟩ := F61_bad s q v hq hs
  obtain ⟨q3, v3, hq3, e3⟩ := F60_bad s q2 4 hq2 (by omega) hs
  have e : F60 s p false 2 = _ := e
  have e3 : F60 s q2 false 4 = _ := e3
  simp only [e, bnd_s, e2, e3]
  rfl
end Go.Proofs.YtdnfnjaccbgplaaDoor.K
end

section
set_option linter.unusedVariables false
set_option linter.unusedSimpArgs false
set_option linter.unnecessarySimpa false
open Go Go.Ev
namespace Go.Proofs.YtdnfnjaccbgplaaDoor.K
abbrev EntT := Int × (Int × (Int × (ByteArray × (Int × (Int × (ByteArray × ByteArray))))))
/-- A part of a list. -/
def sub (l : List Int) (p n : Nat) : List Int := (l.drop p).take n
/-- Bytes that are those of an entry. -/
def good (E : List Int) (x : EntT) : Prop :=
  30 ≤ E.length ∧ bigE (sub E 0 2) = E.length ∧ ∃ b c : Nat, bigE (sub E 22 2) = b ∧ bigE (sub E (24 + b) 2) = c ∧ 30 + b + c = E.length ∧ bigE (sub E (26 + b + c) 4) = sumE (E.take (26 + b + c)) ∧ (trimL (sub E 12 10) ≠ [] → nmOK (trimL (sub E 12 10)) = true) ∧ F17 x = some 0 ∧ x.1 = bigE (sub E 2 4) ∧ x.2.1 = bigE (sub E 6 1) ∧ x.2.2.1 = bigE (sub E 7 2) ∧ sBy x.2.2.2.1 = trimL (sub E 12 10) ∧ x.2.2.2.2.1 = bigE (sub E 9 1) ∧ x.2.2.2.2.2.1 = bigE (sub E 10 2) ∧ sBy x.2.2.2.2.2.2.1 = sub E 24 b ∧ sBy x.2.2.2.2.2.2.2 = sub E (26 + b) c
theorem entry_long (s : ByteArray) (a n : Nat) (h : a + n ≤ (sBy s).length) (hn : 30 ≤ n) (hw0 : bigE (part s a 2) = n) (hs : (sBy s).length ≤ 1000000) : ∃ r, F19 s a = some r ∧ F20 s a = some r ∧ (r.2.2 = 0 → r.2.1 = ((a + n : Nat) : Int) ∧ good (part s a n) r.1) ∧ (∀ x, good (part s a n) x → r = (x, (((a + n : Nat) : Int), 0))) := by
  have hl := by_len s
  have hE := cut_part s a n
  have hr : sBy (sCut s a (sLen s)) = (sBy s).drop a := by
    rw [by_cut, hl, show ((a : Int)).toNat = a by omega, show (((sBy s).length : Int)).toNat = (sBy s).length by omega, List.take_length]
  have hrn : (sBy (sCut s a (sLen s))).length = (sBy s).length - a := by rw [hr, List.length_drop]
  have hrl : sLen (sCut s a (sLen s)) = ((sBy s).length - a : Nat) := by rw [by_len, hrn]
  have hw : iOr .i64 (iShl .i64 (iCv .i64 (sAt (sCut s a (sLen s)) 0)) 8) (iCv .i64 (sAt (sCut s a (sLen s)) 1)) = n := by
    rw [two_w _ (by omega), ← hw0]
    unfold part
    rw [hr, List.drop_zero]
  have h64 : F64 s a 2 = some (n : Int) := by rw [← hw0]; exact F64_eq s a 2 (by omega) (by omega) hs
  have hcc := cut_cut s a n h
  have hm : iAdd .i64 (a : Int) (n : Int) = ((a + n : Nat) : Int) := by rw [add_w (by unfold fits; omega)]; omega
  have hel : (sBy (sCut s (a : Int) ((a + n : Nat) : Int))).length = n := by rw [by_cut, List.length_drop, List.length_take]; omega
  generalize he : sCut s (a : Int) ((a + n : Nat) : Int) = e at *
  rw [← hE]
  have hele := by_len e
  have hN : n ≤ 1000000 := by omega
  have g2 : F60 e 0 true 2 = some ((e, (2, true)), bigE (part e 0 2)) := F60_ok e 0 2 true (by omega) (by omega) (by omega)
  have g4 : F60 e 2 true 4 = some ((e, (6, true)), bigE (part e 2 4)) := F60_ok e 2 4 true (by omega) (by omega) (by omega)
  have g6 : F60 e 6 true 1 = some ((e, (7, true)), bigE (part e 6 1)) := F60_ok e 6 1 true (by omega) (by omega) (by omega)
  have g7 : F60 e 7 true 2 = some ((e, (9, true)), bigE (part e 7 2)) := F60_ok e 7 2 true (by omega) (by omega) (by omega)
  have g9 : F60 e 9 true 1 = some ((e, (10, true)), bigE (part e 9 1)) := F60_ok e 9 1 true (by omega) (by omega) (by omega)
  have g10 : F60 e 10 true 2 = some ((e, (12, true)), bigE (part e 10 2)) := F60_ok e 10 2 true (by omega) (by omega) (by omega)
  obtain ⟨t, ht, g12⟩ := F61_ok e 12 10 true (by omega) (by omega)
  have g12 : F61 e 12 true 10 = some ((e, (22, true)), t) := g12
  have g22 : F60 e 22 true 2 = some ((e, (24, true)), bigE (part e 22 2)) := F60_ok e 22 2 true (by omega) (by omega) (by omega)
  have g22' : F64 e 22 2 = some (bigE (part e 22 2)) := F64_eq e 22 2 (by omega) (by omega) (by omega)
  have hb := part_lt (s := e) (p := 22) (n := 2) (by omega)
  obtain ⟨b, hbn⟩ := Int.eq_ofNat_of_zero_le hb.1
  have hbb : bigE (part e 22 2) = (b : Int) := hbn
  rw [hbb] at g22 g22' hb
  have nob : 30 + b > n → ∀ x, ¬ good (sBy e) x := by
    rintro hgt x ⟨_, _, b', c', q1, _, q3, _⟩
    have : bigE (part e 22 2) = b' := q1
    omega
  clear hbn
  unfold F19 F20
  rw [(within_t (a := (a : Int)) (b := 0) (c := sLen s) (by omega)).1, (within_t (a := (a : Int)) (b := 0) (c := sLen s) (by omega)).2, let_s, let_s, show bNot true = false from rfl, sel_f, sel_f, sel_pos (b := oCut _ _ _) (by unfold oCut; simp; omega), hw, hcc, hrl, sub_w (b := (a : Int)) (by unfold fits; omega), h64]
  rw [iLt_f (a := (((sBy s).length - a : Nat) : Int)) (b := 30) (by omega), iLt_f (a := sLen s - (a : Int)) (b := 30) (by omega), sel_f, oIn_y (b := (((sBy s).length - a : Nat) : Int)) (a := 0) (by omega), sel_t, oIn_y (b := (((sBy s).length - a : Nat) : Int)) (by omega), sel_t, iLt_f (by omega), sel_f, iLt_f (by omega), sel_f, oCut_y (c := (((sBy s).length - a : Nat) : Int)) (by omega), sel_t, show okS (some (n : Int)) = true from rfl, sel_pos (b := bOr true _) rfl, let_s, show valS (some (n : Int)) 0 = (n : Int) from rfl, iLt_f (a := sLen s - (a : Int)) (by omega), show bOr false false = false from rfl, sel_f, bnd_s]
  have hn30 : iLt (n : Int) 30 = false := iLt_f (by omega)
  have hs4 : iSub .i64 (n : Int) 4 = ((n - 4 : Nat) : Int) := by rw [sub_w (by unfold fits; omega)]; omega
  have h30 : iAdd .i64 30 (b : Int) = ((30 + b : Nat) : Int) := by rw [add_w (by unfold fits; omega)]; omega
  have h24 : iAdd .i64 24 (b : Int) = ((24 + b : Nat) : Int) := by rw [add_w (by unfold fits; omega)]; omega
  have h26 : iAdd .i64 26 (b : Int) = ((26 + b : Nat) : Int) := by rw [add_w (by unfold fits; omega)]; omega
  simp only [hn30, sel_f, hm, he, bnd_s, g2, g4, g6, g7, g9, g10, g12, g22, g22', hs4, h30, h24, h26]
  rw [oCut_y (c := sLen s) (by omega), sel_t]
  rcases Nat.lt_or_ge n (24 + b) with h1 | h1
  · -- the first text does not fit
    have e0 : F61 e 24 true b = some ((e, (24, false)), bs []) := F61_no e 24 b true (by omega) (by omega) (by omega)
    obtain ⟨q1, v1, hq1, e1⟩ := F60_bad e 24 2 (by omega) (by omega) (by omega)
    have e1 : F60 e 24 false 2 = _ := e1
    obtain ⟨q2, v2, hq2, e2⟩ := F61_bad e q1 v1 hq1 (by omega)
    obtain ⟨q3, v3, hq3, e3⟩ := F60_bad e q2 4 hq2 (by omega) (by omega)
    have e3 : F60 e q2 false 4 = _ := e3
    simp only [e0, e1, e2, e3, bnd_s]
    refine ⟨_, rfl, ?_, fun h => absurd h (by decide), fun x hx => absurd hx (nob (by omega) x)⟩
    rw [iLt_y (a := (n : Int)) (b := ((30 + b : Nat) : Int)) (by omega)]
    rfl
  obtain ⟨t1, ht1, g24⟩ := F61_ok e 24 b true (by omega) (by omega)
  have g24 : F61 e 24 true b = some ((e, (((24 + b : Nat) : Int), true)), t1) := g24
  simp only [g24, bnd_s]
  rcases Nat.lt_or_ge n (26 + b) with h2 | h2
  · rw [F60_no e (24 + b) 2 true (by omega) (by omega) (by omega), bnd_s]
    obtain ⟨q2, v2, hq2, e2⟩ := F61_bad e (24 + b) 0 (by omega) (by omega)
    obtain ⟨q3, v3, hq3, e3⟩ := F60_bad e q2 4 hq2 (by omega) (by omega)
    have e2 : F61 e ((24 + b : Nat) : Int) false 0 = _ := e2
    have e3 : F60 e q2 false 4 = _ := e3
    simp only [e2, e3, bnd_s]
    refine ⟨_, rfl, ?_, fun h => absurd h (by decide), fun x hx => absurd hx (nob (by omega) x)⟩
    rw [iLt_y (a := (n : Int)) (b := ((30 + b : Nat) : Int)) (by omega)]
    rfl
  have g25 : F60 e ((24 + b : Nat) : Int) true 2 = some ((e, (((26 + b : Nat) : Int), true)), bigE (part e (24 + b) 2)) := by
    have := F60_ok e (24 + b) 2 true (by omega) (by omega) (by omega)
    rw [show 24 + b + 2 = 26 + b by omega] at this
    exact this
  have g25' : F64 e ((24 + b : Nat) : Int) 2 = some (bigE (part e (24 + b) 2)) := F64_eq e (24 + b) 2 (by omega) (by omega) (by omega)
  have hc := part_lt (s := e) (p := 24 + b) (n := 2) (by omega)
  obtain ⟨c, hcn⟩ := Int.eq_ofNat_of_zero_le hc.1
  have hcc : bigE (part e (24 + b) 2) = (c : Int) := hcn
  rw [hcc] at g25 g25' hc
  clear hcn
  have noc : 30 + b + c ≠ n → ∀ x, ¬ good (sBy e) x := by
    rintro hgt x ⟨_, _, b', c', q1, q2, q3, _⟩
    have : bigE (part e 22 2) = b' := q1
    obtain rfl : b' = b := by omega
    have : bigE (part e (24 + b') 2) = c' := q2
    omega
  have h30c : iAdd .i64 ((30 + b : Nat) : Int) (c : Int) = ((30 + b + c : Nat) : Int) := by rw [add_w (by unfold fits; omega)]; omega
  have h26c : iAdd .i64 ((26 + b : Nat) : Int) (c : Int) = ((26 + b + c : Nat) : Int) := by rw [add_w (by unfold fits; omega)]; omega
  simp only [g25, g25', bnd_s, h30c, h26c]
  have hY : ∀ (R : Option (EntT × (Int × Int))) (K : Option (EntT × (Int × Int))), 30 + b + c ≠ n → sel (bOr false (iLt (n : Int) ((30 + b : Nat) : Int))) R (sel (bNot (iEq ((30 + b + c : Nat) : Int) (n : Int))) R K) = R := by
    intro R K hne
    rw [iEq_f (by omega)]
    cases bOr false (iLt (n : Int) ((30 + b : Nat) : Int)) <;> rfl
  rcases Nat.lt_or_ge n (26 + b + c) with h3 | h3
  · rw [F61_no e (26 + b) c true (by omega) (by omega) (by omega), bnd_s]
    obtain ⟨q3, v3, hq3, e3⟩ := F60_bad e (26 + b) 4 (by omega) (by omega) (by omega)
    have e3 : F60 e ((26 + b : Nat) : Int) false 4 = _ := e3
    simp only [e3, bnd_s]
    exact ⟨_, rfl, hY _ _ (by omega), fun h => absurd h (by decide), fun x hx => absurd hx (noc (by omega) x)⟩
  obtain ⟨t2, ht2, g26⟩ := F61_ok e (26 + b) c true (by omega) (by omega)
  simp only [g26, bnd_s]
  rcases Nat.lt_or_ge n (30 + b + c) with h4 | h4
  · rw [F60_no e (26 + b + c) 4 true (by omega) (by omega) (by omega), bnd_s]
    exact ⟨_, rfl, hY _ _ (by omega), fun h => absurd h (by decide), fun x hx => absurd hx (noc (by omega) x)⟩
  have g29 : F60 e ((26 + b + c : Nat) : Int) true 4 = some ((e, (((30 + b + c : Nat) : Int), true)), bigE (part e (26 + b + c) 4)) := by
    have := F60_ok e (26 + b + c) 4 true (by omega) (by omega) (by omega)
    rw [show 26 + b + c + 4 = 30 + b + c by omega] at this
    exact this
  simp only [g29, bnd_s]
  by_cases h5 : 30 + b + c = n
  rotate_left
  · rw [iEq_f (a := ((30 + b + c : Nat) : Int)) (b := (n : Int)) (by omega)]
    refine ⟨_, rfl, ?_, fun h => absurd h (by decide), fun x hx => absurd hx (noc h5 x)⟩
    rw [iLt_f (a := (n : Int)) (b := ((30 + b : Nat) : Int)) (by omega)]
    rfl
  have hn4 : n - 4 = 26 + b + c := by omega
  rw [hn4] at *
  have k1 : F62 (sCut e 0 ((26 + b + c : Nat) : Int)) = some (sumE (sBy (sCut e 0 ((26 + b + c : Nat) : Int)))) := F62_eq _ (by rw [by_cut, List.length_drop, List.length_take]; omega)
  have k2 : F59 (sCut e 0 ((26 + b + c : Nat) : Int)) = some (sumE (sBy (sCut e 0 ((26 + b + c : Nat) : Int)))) := F59_eq _ (by rw [by_cut, List.length_drop, List.length_take]; omega)
  have k3 : F64 e ((26 + b + c : Nat) : Int) 4 = some (bigE (part e (26 + b + c) 4)) := F64_eq e (26 + b + c) 4 (by omega) (by omega) (by omega)
  have k4 : sCut e 12 22 = t := by apply by_inj; rw [ht]; exact cut_part e 12 10
  have k5 : sCut e 24 ((24 + b : Nat) : Int) = t1 := by apply by_inj; rw [ht1]; exact cut_part e 24 b
  have k6 : sCut e ((26 + b : Nat) : Int) ((26 + b + c : Nat) : Int) = t2 := by apply by_inj; rw [ht2]; exact cut_part e (26 + b) c
  have l2 : F64 e 2 4 = some (bigE (part e 2 4)) := F64_eq e 2 4 (by omega) (by omega) (by omega)
  have l6 : F64 e 6 1 = some (bigE (part e 6 1)) := F64_eq e 6 1 (by omega) (by omega) (by omega)
  have l7 : F64 e 7 2 = some (bigE (part e 7 2)) := F64_eq e 7 2 (by omega) (by omega) (by omega)
  have l9 : F64 e 9 1 = some (bigE (part e 9 1)) := F64_eq e 9 1 (by omega) (by omega) (by omega)
  have l10 : F64 e 10 2 = some (bigE (part e 10 2)) := F64_eq e 10 2 (by omega) (by omega) (by omega)
  have htl : (sBy t).length ≤ 10 := by rw [ht]; unfold part; rw [List.length_take]; omega
  obtain ⟨u, hu, u1, u2⟩ := trim_eq t (by omega)
  have hul : (sBy u).length ≤ 10 := by rw [hu]; exact Nat.le_trans (trimL_length _) htl
  have m1 := F51_eq u (by omega)
  have m2 := F55_eq u (by omega)
  obtain ⟨c1, r, c2⟩ := check_eq (bigE (part e 2 4)) (bigE (part e 6 1)) (bigE (part e 7 2)) u (bigE (part e 9 1)) (bigE (part e 10 2)) t1 t2 (by omega)
  rw [c2] at c1
  rw [iEq_y (a := ((30 + b + c : Nat) : Int)) (b := (n : Int)) (by omega), iLt_f (a := (n : Int)) (b := ((30 + b : Nat) : Int)) (by omega), oCut_y (a := 0) (c := sLen e) (by omega), oCut_y (a := 12) (c := sLen e) (by omega), oCut_y (a := 24) (c := sLen e) (by omega), oCut_y (a := ((26 + b : Nat) : Int)) (c := sLen e) (by omega)]
  simp only [k1, k2, k3, k4, k5, k6, l2, l6, l7, l9, l10, u1, u2, m1, m2, c1, c2, bnd_s, show bNot true = false from rfl, show bOr false false = false from rfl, sel_f, sel_t, okS_s, valS_s, let_s, show ∀ b, bOr true b = true from fun _ => rfl]
  have hsumE : sBy (sCut e 0 ((26 + b + c : Nat) : Int)) = (sBy e).take (26 + b + c) := by
    rw [by_cut, show (((26 + b + c : Nat) : Int)).toNat = 26 + b + c by omega]; rfl
  rw [hsumE]
  have hue : sEq u (bs []) = decide (sBy u = []) := by
    rw [Bool.eq_iff_iff, sEq_t, decide_eq_true_eq]
    exact ⟨fun h => by rw [h]; rfl, fun h => by_inj (by rw [h]; rfl)⟩
  have hx1 : sBy u = trimL (sub (sBy e) 12 10) := by rw [hu, ht]; rfl
  -- what a right entry must be
  have uniq : ∀ x, good (sBy e) x → bigE (part e (26 + b + c) 4) = sumE ((sBy e).take (26 + b + c)) ∧ (sBy u ≠ [] → nmOK (sBy u) = true) ∧ r = 0 ∧ x = (bigE (part e 2 4), bigE (part e 6 1), bigE (part e 7 2), u, bigE (part e 9 1), bigE (part e 10 2), t1, t2) := by
    rintro ⟨x1, x2, x3, x4, x5, x6, x7, x8⟩ ⟨_, _, b', c', q1, q2, q3, q4, q5, q6, y1, y2, y3, y4, y5, y6, y7, y8⟩
    have : bigE (part e 22 2) = b' := q1
    obtain rfl : b' = b := by omega
    have : bigE (part e (24 + b') 2) = c' := q2
    obtain rfl : c' = c := by omega
    have z4 : x4 = u := by_inj (by rw [hx1]; exact y4)
    have z7 : x7 = t1 := by_inj (by rw [ht1]; exact y7)
    have z8 : x8 = t2 := by_inj (by rw [ht2]; exact y8)
    have hxx : (x1, x2, x3, x4, x5, x6, x7, x8) = (bigE (part e 2 4), bigE (part e 6 1), bigE (part e 7 2), u, bigE (part e 9 1), bigE (part e 10 2), t1, t2) := by
      have y1 : x1 = bigE (part e 2 4) := y1
      have y2 : x2 = bigE (part e 6 1) := y2
      have y3 : x3 = bigE (part e 7 2) := y3
      have y5 : x5 = bigE (part e 9 1) := y5
      have y6 : x6 = bigE (part e 10 2) := y6
      rw [y1, y2, y3, y5, y6, z4, z7, z8]
    refine ⟨q4, ?_, ?_, hxx⟩
    · rw [hx1]; exact q5
    · rw [hxx, c2] at q6
      exact Option.some.inj q6
  by_cases A : bigE (part e (26 + b + c) 4) = sumE ((sBy e).take (26 + b + c))
  rotate_left
  · rw [iEq_f A]
    exact ⟨_, rfl, rfl, fun h => absurd h (by decide), fun x hx => absurd (uniq x hx).1 A⟩
  rw [iEq_y A]
  by_cases C : sBy u ≠ [] → nmOK (sBy u) = true
  rotate_left
  · have C1 : sBy u ≠ [] := fun h => C (fun h' => absurd h h')
    have C2 : nmOK (sBy u) = false := by
      cases hn : nmOK (sBy u) with
      | false => rfl
      | true => exact absurd (fun _ => hn) C
    rw [hue, C2, decide_eq_false C1]
    exact ⟨_, rfl, rfl, fun h => absurd h (by decide), fun x hx => absurd (uniq x hx).2.1 C⟩
  have C' : bAnd (bNot (sEq u (bs []))) (bNot (nmOK (sBy u))) = false := by
    rw [hue]
    by_cases h : sBy u = []
    · rw [decide_eq_true h]; rfl
    · rw [C h]; cases decide (sBy u = []) <;> rfl
  rw [C']
  simp only [sel_f, show bNot true = false from rfl]
  by_cases R : r = 0
  · subst R
    refine ⟨_, rfl, rfl, fun _ => ⟨rfl, ?_⟩, fun x hx => ?_⟩
    · refine ⟨by omega, ?_, b, c, hbb, hcc, by omega, A, ?_, c2, rfl, rfl, rfl, hx1, rfl, rfl, ht1, ht2⟩
      · show bigE (part e 0 2) = _
        rw [← hel] at hw0
        rw [← hw0]
        unfold part
        rw [hE]
        unfold part
        rw [List.drop_zero, List.take_take]
        congr 2
        omega
      · rw [← hx1]; exact C
    · obtain ⟨_, _, _, h⟩ := uniq x hx
      rw [h]
  · rw [iEq_f R]
    refine ⟨_, rfl, rfl, fun h => absurd h R, fun x hx => absurd (uniq x hx).2.2.1 R⟩
/-- The two readers of an entry are one. -/
theorem entry_all (s : ByteArray) (a : Int) (hs : (sBy s).length ≤ 1000000) : ∃ r, F19 s a = some r ∧ F20 s a = some r ∧
    ((r.2.2 ≠ 0 ∧ ∀ (m n : Nat) x, a = m → m + n ≤ (sBy s).length → ¬ good (part s m n) x) ∨ ∃ m n : Nat, a = m ∧ m + n ≤ (sBy s).length ∧ r.2.1 = ((m + n : Nat) : Int) ∧ r.2.2 = 0 ∧ good (part s m n) r.1) := by
  have hl := by_len s
  have glen : ∀ {E x}, good E x → 30 ≤ E.length := fun h => h.1
  have gtwo : ∀ {m n : Nat} {x}, m + n ≤ (sBy s).length → good (part s m n) x → 30 ≤ n ∧ bigE (part s m 2) = n := by
    intro m n x hmn hg
    have h1 := hg.1
    have h2 := hg.2.1
    have h3 : (part s m n).length = n := by unfold part; rw [List.length_take, List.length_drop]; omega
    rw [h3] at h1 h2
    refine ⟨h1, ?_⟩
    rw [← h2]
    unfold sub part
    rw [List.drop_zero, List.take_take]
    congr 2
    omega
  by_cases h : 0 ≤ a ∧ a ≤ sLen s
  · obtain ⟨a, rfl⟩ := Int.eq_ofNat_of_zero_le h.1
    rcases Nat.lt_or_ge (sBy s).length (a + 30) with h1 | h1
    · obtain ⟨r, e1, e2, e3⟩ := entry_short s a h1 (by omega) hs
      refine ⟨r, e1, e2, .inl ⟨e3, fun m n x hm hmn hg => ?_⟩⟩
      have := gtwo hmn hg
      omega
    · have hp := part_lt (s := s) (p := a) (n := 2) (by omega)
      obtain ⟨n, hn⟩ := Int.eq_ofNat_of_zero_le hp.1
      have hn : bigE (part s a 2) = (n : Int) := hn
      by_cases h2 : (sBy s).length - a < n
      · obtain ⟨r, e1, e2, e3⟩ := entry_cut s a h1 (by rw [hn]; omega) hs
        refine ⟨r, e1, e2, .inl ⟨e3, fun m n x hm hmn hg => ?_⟩⟩
        have := gtwo hmn hg
        obtain rfl : m = a := by omega
        omega
      · by_cases h3 : n < 30
        · obtain ⟨r, e1, e2, e3⟩ := entry_small s a h1 (by rw [hn]; omega) hs
          refine ⟨r, e1, e2, .inl ⟨e3, fun m n x hm hmn hg => ?_⟩⟩
          have := gtwo hmn hg
          obtain rfl : m = a := by omega
          omega
        · obtain ⟨r, e1, e2, e3, e4⟩ := entry_long s a n (by omega) (by omega) hn hs
          refine ⟨r, e1, e2, ?_⟩
          by_cases hr : r.2.2 = 0
          · obtain ⟨e5, e6⟩ := e3 hr
            exact .inr ⟨a, n, rfl, by omega, e5, hr, e6⟩
          · refine .inl ⟨hr, fun m n' x hm hmn hg => ?_⟩
            have := gtwo hmn hg
            obtain rfl : m = a := by omega
            obtain rfl : n' = n := by omega
            rw [e4 x hg] at hr
            exact hr rfl
  · obtain ⟨r, e1, e2, e3⟩ := entry_out s a h
    exact ⟨r, e1, e2, .inl ⟨e3, fun m n x hm hmn hg => h ⟨by omega, by omega⟩⟩⟩
theorem entry_eq (s : ByteArray) (a : Int) (hs : (sBy s).length ≤ 1000000) : ∃ r, F19 s a = some r ∧ F20 s a = some r := by
  obtain ⟨r, h1, h2, _⟩ := entry_all s a hs
  exact ⟨r, h1, h2⟩
end Go.Proofs.YtdnfnjaccbgplaaDoor.K
end

section
set_option linter.unusedVariables false
set_option linter.unusedSimpArgs false
set_option linter.unnecessarySimpa false
open Go Go.Ev
namespace Go.Proofs.YtdnfnjaccbgplaaDoor.K
theorem put_loop (l : List Int) (n : Int) (k : Nat) (h0 : 0 ≤ n) (hk : k ≤ 4) (hl : l.length ≤ 1000000) : iter (fun (x : ((List Int) × (Int × Int))) => (B76_0_1 x.1 x.2.1 x.2.2)) fuel (l, (n, (k : Int) - 1)) = some (l ++ bigB n k) := by
  have h := iter_run (B := fun (x : ((List Int) × (Int × Int))) => (B76_0_1 x.1 x.2.1 x.2.2)) (fun i => (l ++ bigB (n / 256 ^ (k - i)) i, (n, (k : Int) - 1 - (i : Int)))) (r := l ++ bigB n k) k (by omega) ?_ ?_
  · simpa [bigB] using h
  · intro i hi
    show B76_0_1 (l ++ bigB (n / 256 ^ (k - i)) i) n ((k : Int) - 1 - (i : Int)) = _
    unfold B76_0_1
    have e1 : (k : Int) - 1 - (i : Int) = ((k - 1 - i : Nat) : Int) := by omega
    rw [e1, byte_shr h0 _ (by omega)]
    rw [sel_pos (by rw [iLe_t]; omega), sel_pos (by rw [iLe_t, mul_w (by unfold fits; omega)]; omega)]
    rw [sel_pos (by rw [lCap_t, app_len]; unfold lLen; rw [List.length_append, bigB_len]; simp; omega)]
    rw [sub_w (by unfold fits; omega)]
    have e2 : k - i = (k - 1 - i) + 1 := by omega
    have e3 : lApp (l ++ bigB (n / 256 ^ (k - i)) i) [n / 256 ^ (k - 1 - i) % 256] = l ++ bigB (n / 256 ^ (k - (i + 1))) (i + 1) := by
      show (l ++ bigB (n / 256 ^ (k - i)) i) ++ _ = _
      rw [List.append_assoc, show k - (i + 1) = k - 1 - i by omega, e2]
      congr 1
      show _ = bigB (n / 256 ^ (k - 1 - i) / 256) i ++ _
      rw [Int.ediv_ediv_of_nonneg (by exact Int.le_of_lt (Int.pow_pos (by decide))), ← Int.pow_succ]
    rw [e3]
    congr 4
    omega
  · show B76_0_1 (l ++ bigB (n / 256 ^ (k - k)) k) n ((k : Int) - 1 - (k : Int)) = _
    unfold B76_0_1
    rw [sel_neg (by rw [bf_t, iLe_t]; omega)]
    simp
theorem F76_1_eq (l : List Int) (n : Int) (k : Nat) (h0 : 0 ≤ n) (hk : k ≤ 4) (hl : l.length ≤ 1000000) : F76_1 l n k = some (l ++ bigB n k) := by
  unfold F76_1 L76_0_1
  rw [sub_w (by unfold fits; omega), put_loop l n k h0 hk hl]
  rfl
theorem F76_eq (n : Int) (k : Nat) (h0 : 0 ≤ n) (hk : k ≤ 4) : F76 n k = some (bigB n k) := F76_1_eq [] n k h0 hk (by simp)
theorem F57_eq (n : Int) (k : Nat) (h0 : 0 ≤ n) (hk : k ≤ 4) (hn : n ≤ 9223372036854775807) : F57 n k = some (sOf (bigB n k)) := by
  unfold F57 L57_0
  rw [sel_pos (by rw [nCap_t]; omega)]
  have h := iter_run (B := fun (x : (Int × (Int × ((List Int) × Int)))) => (B57_0 x.1 x.2.1 x.2.2.1 x.2.2.2)) (fun i => (n / 256 ^ i, ((k : Int), (List.replicate (k - i) (0 : Int) ++ bigB n i, (i : Int))))) (r := bigB n k) k (by omega) ?_ ?_
  · have h' : iter (fun (x : (Int × (Int × ((List Int) × Int)))) => (B57_0 x.1 x.2.1 x.2.2.1 x.2.2.2)) fuel (n, ((k : Int), (lRep (k : Int) 0, 0))) = some (bigB n k) := by
      simpa [bigB, lRep] using h
    rw [h']
    rfl
  · intro i hi
    have hp : (0 : Int) < 256 ^ i := Int.pow_pos (by decide)
    have hd0 : 0 ≤ n / 256 ^ i := Int.ediv_nonneg h0 (by omega)
    have hd1 : n / 256 ^ i ≤ n := Int.ediv_le_self _ h0
    show B57_0 (n / 256 ^ i) k (List.replicate (k - i) (0 : Int) ++ bigB n i) i = _
    unfold B57_0
    rw [sub_w (a := (k : Int)) (by unfold fits; omega), sub_w (b := (i : Int)) (by unfold fits; omega), add_w (by unfold fits; omega)]
    rw [sel_pos (by rw [iLt_t]; omega), sel_pos (by decide), sel_pos (by rw [oIn_t]; unfold lLen; rw [List.length_append, bigB_len, List.length_replicate]; omega), sel_pos (by decide)]
    have e1 : iQuo .i64 (n / 256 ^ i) 256 = n / 256 ^ (i + 1) := by
      unfold iQuo
      rw [Int.tdiv_eq_ediv_of_nonneg hd0, Int.ediv_ediv_of_nonneg (by omega), ← Int.pow_succ]
      have q1 := Int.ediv_le_self (256 ^ (i + 1)) h0
      have q2 := Int.ediv_nonneg h0 (b := 256 ^ (i + 1)) (by exact Int.le_of_lt (Int.pow_pos (by decide)))
      revert q1 q2
      generalize n / 256 ^ (i + 1) = d
      intro q1 q2
      exact wrap_fits (by unfold fits; omega)
    have e2 : iCv .u8 (iRem (n / 256 ^ i) 256) = (n / 256 ^ i) % 256 := by
      unfold iRem
      rw [Int.tmod_eq_emod_of_nonneg hd0]
      exact cv_u8 ⟨by omega, by omega⟩
    rw [e1, e2]
    have e3 : lSet (List.replicate (k - i) (0 : Int) ++ bigB n i) ((k : Int) - 1 - (i : Int)) (n / 256 ^ i % 256) = List.replicate (k - (i + 1)) (0 : Int) ++ bigB n (i + 1) := by
      unfold lSet
      rw [bigB_front, show ((k : Int) - 1 - (i : Int)).toNat = k - (i + 1) by omega, show k - i = (k - (i + 1)) + 1 by omega, List.replicate_succ', List.append_assoc]
      rw [List.set_append_right _ _ (by simp)]
      simp
    rw [e3]
    rfl
  · show B57_0 (n / 256 ^ k) k (List.replicate (k - k) (0 : Int) ++ bigB n k) k = _
    unfold B57_0
    rw [sel_neg (by rw [bf_t, iLt_t]; omega)]
    simp
theorem F80_eq (k : Nat) (hk : k ≤ 1000) : F80 32 k = some (sOf (List.replicate k 32)) := by
  unfold F80 L80_0
  have h := iter_run (B := fun (x : (Int × (Int × ((List Int) × Int)))) => (B80_0 x.1 x.2.1 x.2.2.1 x.2.2.2)) (fun i => ((32 : Int), ((k : Int), (List.replicate i (32 : Int), (i : Int))))) (r := List.replicate k (32 : Int)) k (by omega) ?_ ?_
  · have h' : iter (fun (x : (Int × (Int × ((List Int) × Int)))) => (B80_0 x.1 x.2.1 x.2.2.1 x.2.2.2)) fuel ((32 : Int), ((k : Int), (([] : List Int), 0))) = some (List.replicate k (32 : Int)) := by
      simpa using h
    rw [h']
    rfl
  · intro i hi
    show B80_0 32 k (List.replicate i (32 : Int)) i = _
    unfold B80_0
    rw [sel_pos (by rw [iLt_t]; omega), sel_pos (by rw [lCap_t, app_len]; unfold lLen; simp; omega), add_w (by unfold fits; omega)]
    have e3 : lApp (List.replicate i (32 : Int)) [32] = List.replicate (i + 1) 32 := by
      rw [List.replicate_succ']
      rfl
    rw [e3]
    rfl
  · show B80_0 32 k (List.replicate k (32 : Int)) k = _
    unfold B80_0
    rw [sel_neg (by rw [bf_t, iLt_t]; omega)]
theorem FRepeat_eq (k : Nat) (hk : k ≤ 1000) : FRepeat (bs [32]) k = some (sOf (List.replicate k 32)) := by
  unfold FRepeat
  rw [sel_pos]
  · congr 1
    apply by_inj
    rw [by_sOf (by intro b hb; rw [List.eq_of_mem_replicate hb]; decide), show ((k : Int)).toNat = k by omega]
    unfold sBy
    clear hk
    induction k with
    | zero => rfl
    | succ k ih =>
      exact congrArg ((32 : Int) :: ·) ih
  · have : (bs [32]).size = 1 := rfl
    simp [this]
    omega
/-- A name with blanks behind it. -/
def padN (l : List Int) : List Int := l ++ List.replicate (10 - l.length) 32
theorem F58_eq (s : ByteArray) (h : (sBy s).length ≤ 10) : ∃ t, F58 s 10 = some t ∧ sBy t = padN (sBy s) := by
  have hl := by_len s
  unfold F58
  rcases Nat.lt_or_ge (sBy s).length 10 with h1 | h1
  · have e : iSub .i64 10 (sLen s) = ((10 - (sBy s).length : Nat) : Int) := by rw [sub_w (by unfold fits; omega)]; omega
    have h2 : sBy (sOf (List.replicate (10 - (sBy s).length) 32)) = List.replicate (10 - (sBy s).length) 32 := by_sOf (by intro b hb; rw [List.eq_of_mem_replicate hb]; decide)
    rw [sel_neg (by rw [bf_t, iLe_t]; omega), e, F80_eq _ (by omega), bnd_s, sel_pos (by rw [sOk_t, by_len, by_len, h2, List.length_replicate]; omega)]
    exact ⟨_, rfl, by rw [by_add, h2]; rfl⟩
  · rw [sel_pos (by rw [iLe_t]; omega), sel_pos (by rw [oCut_t]; omega)]
    exact ⟨_, rfl, by rw [by_cut]; unfold padN; rw [show 10 - (sBy s).length = 0 by omega]; show List.drop 0 (List.take 10 (sBy s)) = _; rw [List.take_of_length_le (by omega)]; simp⟩
end Go.Proofs.YtdnfnjaccbgplaaDoor.K
end

section
set_option linter.unusedVariables false
set_option linter.unusedSimpArgs false
set_option linter.unnecessarySimpa false
open Go Go.Ev
namespace Go.Proofs.YtdnfnjaccbgplaaDoor.K
/-- An entry's bytes, but for the sum. -/
def hdB (k n m : Int) (nm : List Int) (f u : Int) (x y : List Int) : List Int :=
  bigB (30 + x.length + y.length) 2 ++ bigB k 4 ++ bigB n 1 ++ bigB m 2 ++ bigB f 1 ++ bigB u 2 ++ padN nm ++ bigB x.length 2 ++ x ++ bigB y.length 2 ++ y
def entB (k n m : Int) (nm : List Int) (f u : Int) (x y : List Int) : List Int :=
  hdB k n m nm f u x y ++ bigB (sumE (hdB k n m nm f u x y)) 4
theorem padN_byte {l : List Int} (h : ∀ b ∈ l, 0 ≤ b ∧ b < 256) : ∀ b ∈ padN l, 0 ≤ b ∧ b < 256 := by
  intro b hb
  rcases List.mem_append.1 hb with hb | hb
  · exact h b hb
  · rw [List.eq_of_mem_replicate hb]; decide
theorem padN_len {l : List Int} (h : l.length ≤ 10) : (padN l).length = 10 := by
  unfold padN
  rw [List.length_append, List.length_replicate]
  omega
theorem hdB_byte {k n m : Int} {nm : List Int} {f u : Int} {x y : List Int} (h1 : ∀ b ∈ nm, 0 ≤ b ∧ b < 256) (h2 : ∀ b ∈ x, 0 ≤ b ∧ b < 256) (h3 : ∀ b ∈ y, 0 ≤ b ∧ b < 256) : ∀ b ∈ hdB k n m nm f u x y, 0 ≤ b ∧ b < 256 := by
  intro b hb
  unfold hdB at hb
  simp only [List.mem_append] at hb
  rcases hb with (((((((((hb | hb) | hb) | hb) | hb) | hb) | hb) | hb) | hb) | hb) | hb
  all_goals first | exact bigB_byte _ _ b hb | exact padN_byte h1 b hb | exact h2 b hb | exact h3 b hb
theorem hdB_len {k n m : Int} {nm : List Int} {f u : Int} {x y : List Int} (h : nm.length ≤ 10) : (hdB k n m nm f u x y).length = 26 + x.length + y.length := by
  unfold hdB
  simp only [List.length_append, bigB_len, padN_len h]
  omega
theorem entB_byte {k n m : Int} {nm : List Int} {f u : Int} {x y : List Int} (h1 : ∀ b ∈ nm, 0 ≤ b ∧ b < 256) (h2 : ∀ b ∈ x, 0 ≤ b ∧ b < 256) (h3 : ∀ b ∈ y, 0 ≤ b ∧ b < 256) : ∀ b ∈ entB k n m nm f u x y, 0 ≤ b ∧ b < 256 := by
  intro b hb
  rcases List.mem_append.1 hb with hb | hb
  · exact hdB_byte h1 h2 h3 b hb
  · exact bigB_byte _ _ b hb
theorem entB_len {k n m : Int} {nm : List Int} {f u : Int} {x y : List Int} (h : nm.length ≤ 10) : (entB k n m nm f u x y).length = 30 + x.length + y.length := by
  unfold entB
  rw [List.length_append, hdB_len h, bigB_len]
  omega
theorem bytes_eq (k n m : Int) (nm : ByteArray) (f u : Int) (x y : ByteArray) (hk : 0 ≤ k ∧ k ≤ 1000000) (hn : 0 ≤ n ∧ n ≤ 1000000) (hm : 0 ≤ m ∧ m ≤ 1000000) (hf : 0 ≤ f ∧ f ≤ 1000000) (hu : 0 ≤ u ∧ u ≤ 1000000) (hnm : (sBy nm).length ≤ 10) (hx : (sBy x).length ≤ 10000) (hy : (sBy y).length ≤ 10000) :
    ∃ t, sBy t = entB k n m (sBy nm) f u (sBy x) (sBy y) ∧ F52 (k, (n, (m, (nm, (f, (u, (x, y))))))) = some t ∧ F18 (k, (n, (m, (nm, (f, (u, (x, y))))))) = some t := by
  have lx := by_len x
  have ly := by_len y
  have ln := by_len nm
  have hB := entB_byte (k := k) (n := n) (m := m) (f := f) (u := u) (by_byte nm) (by_byte x) (by_byte y)
  have hH := hdB_byte (k := k) (n := n) (m := m) (f := f) (u := u) (by_byte nm) (by_byte x) (by_byte y)
  have hHl := hdB_len (k := k) (n := n) (m := m) (f := f) (u := u) (x := sBy x) (y := sBy y) hnm
  have hsz : iAdd .i64 (iAdd .i64 30 (sLen x)) (sLen y) = 30 + (sBy x).length + (sBy y).length := by
    rw [add_w (a := 30) (by unfold fits; omega), add_w (by unfold fits; omega)]; omega
  have hsum := sumE_lt hH
  refine ⟨sOf (entB k n m (sBy nm) f u (sBy x) (sBy y)), by_sOf hB, ?_, ?_⟩
  · have r : F76 (30 + (sBy x).length + (sBy y).length) 2 = some (bigB (30 + (sBy x).length + (sBy y).length) 2) := F76_eq _ 2 (by omega) (by omega)
    have p1 : ∀ (l : List Int) (v : Int), l.length ≤ 1000000 → 0 ≤ v → F76_1 l v 1 = some (l ++ bigB v 1) := fun l v hl hv => F76_1_eq l v 1 hv (by omega) hl
    have p2 : ∀ (l : List Int) (v : Int), l.length ≤ 1000000 → 0 ≤ v → F76_1 l v 2 = some (l ++ bigB v 2) := fun l v hl hv => F76_1_eq l v 2 hv (by omega) hl
    have p4 : ∀ (l : List Int) (v : Int), l.length ≤ 1000000 → 0 ≤ v → F76_1 l v 4 = some (l ++ bigB v 4) := fun l v hl hv => F76_1_eq l v 4 hv (by omega) hl
    have e : iSub .i64 10 (sLen nm) = ((10 - (sBy nm).length : Nat) : Int) := by rw [sub_w (by unfold fits; omega)]; omega
    have h2 : sBy (sOf (List.replicate (10 - (sBy nm).length) 32)) = List.replicate (10 - (sBy nm).length) 32 := by_sOf (by intro b hb; rw [List.eq_of_mem_replicate hb]; decide)
    have h3 : sBy (sAdd nm (sOf (List.replicate (10 - (sBy nm).length) 32))) = padN (sBy nm) := by rw [by_add, h2]; rfl
    have hpl := padN_len hnm
    unfold F52
    simp only [hsz]
    rw [r, bnd_s, p4 _ k (by simp only [List.length_append, bigB_len]; omega) hk.1, bnd_s, p1 _ n (by simp only [List.length_append, bigB_len]; omega) hn.1, bnd_s, p2 _ m (by simp only [List.length_append, bigB_len]; omega) hm.1, bnd_s, p1 _ f (by simp only [List.length_append, bigB_len]; omega) hf.1, bnd_s, p2 _ u (by simp only [List.length_append, bigB_len]; omega) hu.1, bnd_s, e, FRepeat_eq _ (by omega), bnd_s]
    rw [sel_pos (sOk_y (by rw [h2, List.length_replicate]; omega)), h3]
    unfold lApp
    rw [sel_pos (lCap_y (by omega) (by omega) (by simp only [List.length_append, bigB_len]; omega)), lx, p2 _ _ (by simp only [List.length_append, bigB_len]; omega) (by omega), bnd_s]
    rw [sel_pos (lCap_y (by omega) (by omega) (by simp only [List.length_append, bigB_len]; omega)), ly, p2 _ _ (by simp only [List.length_append, bigB_len]; omega) (by omega), bnd_s]
    rw [sel_pos (lCap_y (by omega) (by omega) (by simp only [List.length_append, bigB_len]; omega))]
    have hh : bigB (30 + (sBy x).length + (sBy y).length) 2 ++ bigB k 4 ++ bigB n 1 ++ bigB m 2 ++ bigB f 1 ++ bigB u 2 ++ padN (sBy nm) ++ bigB (sBy x).length 2 ++ sBy x ++ bigB (sBy y).length 2 ++ sBy y = hdB k n m (sBy nm) f u (sBy x) (sBy y) := rfl
    rw [hh, F62_eq _ (by rw [by_sOf hH, hHl]; omega), bnd_s, by_sOf hH, p4 _ _ (by omega) hsum.1, bnd_s]
    rfl
  · have q1 : ∀ (v : Int), 0 ≤ v → v ≤ 9223372036854775807 → F57 v 1 = some (sOf (bigB v 1)) := fun v h0 h1 => F57_eq v 1 h0 (by omega) h1
    have q2 : ∀ (v : Int), 0 ≤ v → v ≤ 9223372036854775807 → F57 v 2 = some (sOf (bigB v 2)) := fun v h0 h1 => F57_eq v 2 h0 (by omega) h1
    have q4 : ∀ (v : Int), 0 ≤ v → v ≤ 9223372036854775807 → F57 v 4 = some (sOf (bigB v 4)) := fun v h0 h1 => F57_eq v 4 h0 (by omega) h1
    have qb : ∀ v k, sBy (sOf (bigB v k)) = bigB v k := fun v k => by_sOf (bigB_byte k v)
    obtain ⟨t, ht, htb⟩ := F58_eq nm hnm
    have hpl := padN_len hnm
    unfold F18
    simp only [hsz]
    rw [q2 _ (by omega) (by omega), bnd_s, q4 k (by omega) (by omega), bnd_s, sel_pos (sOk_y (by simp only [qb, bigB_len]; omega)), q1 n (by omega) (by omega), bnd_s, sel_pos (sOk_y (by simp only [by_add, qb, bigB_len, List.length_append]; omega)), q2 m (by omega) (by omega), bnd_s, sel_pos (sOk_y (by simp only [by_add, qb, bigB_len, List.length_append]; omega)), q1 f (by omega) (by omega), bnd_s, sel_pos (sOk_y (by simp only [by_add, qb, bigB_len, List.length_append]; omega)), q2 u (by omega) (by omega), bnd_s, sel_pos (sOk_y (by simp only [by_add, qb, bigB_len, List.length_append]; omega)), ht, bnd_s, sel_pos (sOk_y (by simp only [by_add, qb, htb, bigB_len, List.length_append]; omega))]
    rw [q2 _ (by omega) (by omega), bnd_s, sel_pos (sOk_y (by simp only [by_add, qb, htb, bigB_len, List.length_append]; omega)), sel_pos (sOk_y (by simp only [by_add, qb, htb, bigB_len, List.length_append]; omega)), q2 _ (by omega) (by omega), bnd_s, sel_pos (sOk_y (by simp only [by_add, qb, htb, bigB_len, List.length_append]; omega)), sel_pos (sOk_y (by simp only [by_add, qb, htb, bigB_len, List.length_append]; omega))]
    generalize hw : sAdd (sAdd (sAdd (sAdd (sAdd (sAdd (sAdd (sAdd (sAdd (sAdd _ _) _) _) _) _) _) _) _) _) _ = w
    have hwb : sBy w = hdB k n m (sBy nm) f u (sBy x) (sBy y) := by
      rw [← hw]
      simp only [by_add, qb, htb, lx, ly]
      rfl
    rw [F59_eq w (by rw [hwb, hHl]; omega), bnd_s, hwb, q4 _ (by omega) (by omega), bnd_s, sel_pos (sOk_y (by simp only [hwb, qb, bigB_len, hHl]; omega))]
    congr 1
    apply by_inj
    rw [by_add, by_sOf hB, hwb, qb]
    rfl
end Go.Proofs.YtdnfnjaccbgplaaDoor.K
end

section
set_option linter.unusedVariables false
set_option linter.unusedSimpArgs false
set_option linter.unnecessarySimpa false
open Go Go.Ev
namespace Go.Proofs.YtdnfnjaccbgplaaDoor.K
theorem nmOK_len {l : List Int} (h : nmOK l = true) : l.length ≤ 10 := by
  unfold nmOK at h
  simp at h
  omega
theorem m5_0 (b : Bool) : (iMul .i64 5 (if b = true then 1 else 0) = 0) = ¬ (b = true) := by cases b <;> decide
theorem right_of (k n m : Int) (nm : ByteArray) (f u : Int) (x y : ByteArray) (hnm : (sBy nm).length ≤ 1000000) (h : F17 (k, (n, (m, (nm, (f, (u, (x, y))))))) = some 0) :
   (1 ≤ k ∧ k ≤ 9999) ∧ (0 ≤ n ∧ n ≤ 5) ∧ (0 ≤ m ∧ m ≤ 999) ∧ (0 ≤ f ∧ f ≤ 2) ∧ (0 ≤ u ∧ u ≤ 60) ∧ (sBy nm).length ≤ 10 ∧ (sBy x).length ≤ 200 ∧ (sBy y).length ≤ 200 := by
  have e0 : (sBy (bs [])).length = 0 := rfl
  have lx := by_len x
  have ly := by_len y
  have hq := @nmOK_len (sBy nm)
  rw [← ok_is] at h
  have hf5 : fits 5 := by unfold fits; omega
  unfold F17 F54 F56 at h
  simp only [let_s, F37, F53_eq, F55_eq nm hnm, ok_bnd, ok_some, ok_none, ok_sel, okS_s, valS_s, mul_ite hf5, not_t, and_t, or_t, selB_t, iLe_t, iEq_t, iLt_t, sEq_t, bf_t] at h
  simp only [true_and, and_true, Int.reduceEq, imp_false, Classical.not_not, implies_true, not_true, if_false, if_true, true_or, forall_const, false_and, and_false, not_false_eq_true, ite_false, ite_true] at h
  grind (splits := 40)
/-- BytesOf and Bytes are one, on right entries. -/
theorem bytesOf_eq (k n m : Int) (nm : ByteArray) (f u : Int) (x y : ByteArray) (hnm : (sBy nm).length ≤ 1000000) : ∃ c, F15 (k, (n, (m, (nm, (f, (u, (x, y))))))) = some c ∧ F17 (k, (n, (m, (nm, (f, (u, (x, y))))))) = some c ∧
   ((c ≠ 0 ∧ F16 (k, (n, (m, (nm, (f, (u, (x, y))))))) = some (bs [], c)) ∨ (c = 0 ∧ ∃ t, sBy t = entB k n m (sBy nm) f u (sBy x) (sBy y) ∧ F18 (k, (n, (m, (nm, (f, (u, (x, y))))))) = some t ∧ F16 (k, (n, (m, (nm, (f, (u, (x, y))))))) = some (t, 0))) := by
  obtain ⟨h1, c, h2⟩ := check_eq k n m nm f u x y hnm
  rw [h2] at h1
  refine ⟨c, h1, h2, ?_⟩
  by_cases hc : c = 0
  · subst hc
    obtain ⟨r1, r2, r3, r4, r5, r6, r7, r8⟩ := right_of k n m nm f u x y hnm h2
    obtain ⟨t, ht, e1, e2⟩ := bytes_eq k n m nm f u x y (by omega) (by omega) (by omega) (by omega) (by omega) r6 (by omega) (by omega)
    refine .inr ⟨rfl, t, ht, e2, ?_⟩
    unfold F16
    rw [h1, bnd_s, e1]
    rfl
  · refine .inl ⟨hc, ?_⟩
    unfold F16
    rw [h1, bnd_s, iEq_f hc]
    rfl
end Go.Proofs.YtdnfnjaccbgplaaDoor.K
end

section
set_option linter.unusedVariables false
set_option linter.unusedSimpArgs false
set_option linter.unnecessarySimpa false
open Go Go.Ev
namespace Go.Proofs.YtdnfnjaccbgplaaDoor.K
/-- The reading of an entry. -/
noncomputable def ent (s : ByteArray) (a : Int) : EntT × (Int × Int) := (F20 s a).getD ((0, (0, (0, (bs [], (0, (0, (bs [], bs []))))))), (0, 0))
theorem ent_two (s : ByteArray) (a : Int) (hs : (sBy s).length ≤ 1000000) : F19 s a = some (ent s a) ∧ F20 s a = some (ent s a) ∧
    (((ent s a).2.2 ≠ 0 ∧ ∀ (m n : Nat) x, a = m → m + n ≤ (sBy s).length → ¬ good (part s m n) x) ∨ ∃ m n : Nat, a = m ∧ m + n ≤ (sBy s).length ∧ (ent s a).2.1 = ((m + n : Nat) : Int) ∧ (ent s a).2.2 = 0 ∧ good (part s m n) (ent s a).1) := by
  obtain ⟨r, e1, e2, e3⟩ := entry_all s a hs
  have : ent s a = r := by unfold ent; rw [e2]; rfl
  rw [this]
  exact ⟨e1, e2, e3⟩
theorem part_len {s : ByteArray} {m n : Nat} (h : m + n ≤ (sBy s).length) : (part s m n).length = n := by
  unfold part; rw [List.length_take, List.length_drop]; omega
theorem good_n {s : ByteArray} {m n : Nat} {x : EntT} (h : m + n ≤ (sBy s).length) (hg : good (part s m n) x) : 30 ≤ n ∧ bigE (part s m 2) = n := by
  have h1 := hg.1
  have h2 := hg.2.1
  rw [part_len h] at h1 h2
  refine ⟨h1, ?_⟩
  rw [← h2]
  unfold sub part
  rw [List.drop_zero, List.take_take]
  congr 2
  omega
theorem good_x {E : List Int} {x y : EntT} (h1 : good E x) (h2 : good E y) : x = y := by
  obtain ⟨x1, x2, x3, x4, x5, x6, x7, x8⟩ := x
  obtain ⟨y1, y2, y3, y4, y5, y6, y7, y8⟩ := y
  obtain ⟨_, _, b, c, p1, p2, _, _, _, _, a1, a2, a3, a4, a5, a6, a7, a8⟩ := h1
  obtain ⟨_, _, b', c', q1, q2, _, _, _, _, b1, b2, b3, b4, b5, b6, b7, b8⟩ := h2
  obtain rfl : b = b' := by omega
  obtain rfl : c = c' := by omega
  simp only at a1 a2 a3 a4 a5 a6 a7 a8 b1 b2 b3 b4 b5 b6 b7 b8
  rw [a1, a2, a3, a5, a6, b1, b2, b3, b5, b6, by_inj (a4.trans b4.symm), by_inj (a7.trans b7.symm), by_inj (a8.trans b8.symm)]
theorem good_num {E : List Int} {x : EntT} (h : good E x) : 1 ≤ x.1 ∧ x.1 ≤ 9999 := by
  obtain ⟨x1, x2, x3, x4, x5, x6, x7, x8⟩ := x
  obtain ⟨_, _, b, c, p1, p2, _, _, _, h17, a1, a2, a3, a4, a5, a6, a7, a8⟩ := h
  have h4 : sBy x4 = trimL (sub E 12 10) := a4
  exact (right_of x1 x2 x3 x4 x5 x6 x7 x8 (by rw [h4]; have := trimL_length (sub E 12 10); have h5 : (sub E 12 10).length ≤ 10 := by { unfold sub; rw [List.length_take]; omega }; omega) h17).1
/-- What is read at a place where a right entry begins. -/
theorem ent_good {s : ByteArray} {m n : Nat} {x : EntT} (hs : (sBy s).length ≤ 1000000) (h : m + n ≤ (sBy s).length) (hg : good (part s m n) x) : ent s m = (x, (((m + n : Nat) : Int), 0)) := by
  obtain ⟨_, _, ⟨_, h2⟩ | ⟨m', n', e1, e2, e3, e4, e5⟩⟩ := ent_two s m hs
  · exact absurd hg (h2 m n x rfl h)
  · obtain rfl : m = m' := by omega
    have g1 := good_n h hg
    have g2 := good_n e2 e5
    obtain rfl : n = n' := by omega
    rw [good_x hg e5, ← e3]
    exact Prod.ext rfl (Prod.ext rfl e4)
/-- Entries one behind the other. -/
def Seq (s : ByteArray) (first : Int) : List EntT → Nat → Nat → Nat → Prop
  | [], a, b, _ => a = b
  | x :: l, a, b, i => ∃ n, a + n ≤ (sBy s).length ∧ good (part s a n) x ∧ x.1 = iAdd .i64 first i ∧ Seq s first l (a + n) b (i + 1)
theorem Seq.snoc {s : ByteArray} {first : Int} {x : EntT} {n : Nat} : ∀ {l : List EntT} {a b i : Nat}, Seq s first l a b i → b + n ≤ (sBy s).length → good (part s b n) x → x.1 = iAdd .i64 first ((i + l.length : Nat) : Int) → Seq s first (l ++ [x]) a (b + n) i
  | [], a, b, i, h, h1, h2, h3 => by
    obtain rfl : a = b := h
    exact ⟨n, h1, h2, h3, rfl⟩
  | y :: l, a, b, i, ⟨k, h1, h2, h3, h4⟩, g1, g2, g3 => by
    refine ⟨k, h1, h2, h3, h4.snoc g1 g2 ?_⟩
    rw [g3, List.length_cons]
    congr 2
    omega
theorem Seq.le {s : ByteArray} {first : Int} : ∀ {l : List EntT} {a b i : Nat}, Seq s first l a b i → a ≤ (sBy s).length → b ≤ (sBy s).length ∧ a + 30 * l.length ≤ b
  | [], a, b, i, h, h1 => by
    obtain rfl : a = b := h
    exact ⟨h1, by simp⟩
  | y :: l, a, b, i, ⟨k, h1, h2, h3, h4⟩, g => by
    obtain ⟨q1, q2⟩ := h4.le h1
    have := good_n h1 h2
    rw [List.length_cons]
    exact ⟨q1, by omega⟩
/-- Why the reading ends. -/
def Ends (s : ByteArray) (first : Int) (l : List EntT) (b : Nat) (c : Int) : Prop :=
  (c = 0 ∧ b = (sBy s).length) ∨ (c ≠ 0 ∧ b < (sBy s).length ∧ ((ent s b).2.2 = c ∨ ((ent s b).2.2 = 0 ∧ (ent s b).1.1 ≠ iAdd .i64 first l.length ∧ c = 14)))
theorem Seq.one {s : ByteArray} {first : Int} (hs : (sBy s).length ≤ 1000000) : ∀ {l l' p : List EntT} {a b b' i : Nat} {c c' : Int}, p.length = i → Seq s first l a b i → Ends s first (p ++ l) b c → Seq s first l' a b' i → Ends s first (p ++ l') b' c' → l = l' ∧ b = b' ∧ c = c'
  | [], [], p, a, b, b', i, c, c', hp, h, he, h', he' => by
    obtain rfl : a = b := h
    obtain rfl : a = b' := h'
    refine ⟨rfl, rfl, ?_⟩
    unfold Ends at he he'
    grind
  | [], x :: l', p, a, b, b', i, c, c', hp, h, he, ⟨n, h1, h2, h3, h4⟩, he' => by
    obtain rfl : a = b := h
    have e := ent_good hs h1 h2
    have g := good_n h1 h2
    unfold Ends at he
    rw [e, List.append_nil, hp, ← h3] at he
    simp only at he
    grind
  | x :: l, [], p, a, b, b', i, c, c', hp, ⟨n, h1, h2, h3, h4⟩, he, h, he' => by
    obtain rfl : a = b' := h
    have e := ent_good hs h1 h2
    have g := good_n h1 h2
    unfold Ends at he'
    rw [e, List.append_nil, hp, ← h3] at he'
    simp only at he'
    grind
  | x :: l, y :: l', p, a, b, b', i, c, c', hp, ⟨n, h1, h2, h3, h4⟩, he, ⟨n', h1', h2', h3', h4'⟩, he' => by
    have g1 := good_n h1 h2
    have g2 := good_n h1' h2'
    obtain rfl : n = n' := by omega
    obtain rfl := good_x h2 h2'
    have he : Ends s first ((p ++ [x]) ++ l) b c := by rw [List.append_assoc]; exact he
    have he' : Ends s first ((p ++ [x]) ++ l') b' c' := by rw [List.append_assoc]; exact he'
    obtain ⟨r1, r2, r3⟩ := Seq.one hs (p := p ++ [x]) (by rw [List.length_append, hp]; rfl) h4 he h4' he'
    exact ⟨by rw [r1], r2, r3⟩
theorem Seq.uniq {s : ByteArray} {first : Int} (hs : (sBy s).length ≤ 1000000) {l l' : List EntT} {b b' : Nat} {c c' : Int} (h : Seq s first l 0 b 0) (he : Ends s first l b c) (h' : Seq s first l' 0 b' 0) (he' : Ends s first l' b' c') : l = l' ∧ b = b' ∧ c = c' :=
  Seq.one hs (p := []) rfl h he h' he'
theorem whole_eq (nm : ByteArray) (first : Int) (s : ByteArray) (hs : (sBy s).length ≤ 1000000) : ∃ (l : List EntT) (b : Nat) (c : Int), F72 (nm, (first, s)) = some (l, ((b : Int), c)) ∧ F68 s first = some (l, ((0, (0, (0, (bs [], (0, (0, (bs [], bs []))))))), ((b : Int), c))) ∧ Seq s first l 0 b 0 ∧ Ends s first l b c := by
  have hl := by_len s
  have h := loop_two (B := fun (x : ((ByteArray × (Int × ByteArray)) × ((List EntT) × Int))) => (B72_0 x.1.1 x.1.2.1 x.1.2.2 x.2.1 x.2.2)) (C := fun (x : (ByteArray × (Int × ((Int × (Int × (Int × (ByteArray × (Int × (Int × (ByteArray × (ByteArray × (Int × Int))))))))) × ((List EntT) × Int))))) => (B68_0 x.1 x.2.1 x.2.2.1.1 x.2.2.1.2.1 x.2.2.1.2.2.1 x.2.2.1.2.2.2.1 x.2.2.1.2.2.2.2.1 x.2.2.1.2.2.2.2.2.1 x.2.2.1.2.2.2.2.2.2.1 x.2.2.1.2.2.2.2.2.2.2.1 x.2.2.1.2.2.2.2.2.2.2.2.1 x.2.2.1.2.2.2.2.2.2.2.2.2 x.2.2.2.1 x.2.2.2.2))
    (Q := fun r t => ∃ (l : List EntT) (b : Nat) (c : Int), Seq s first l 0 b 0 ∧ Ends s first l b c ∧ ((c = 0 ∧ r = .inl (l, (b : Int)) ∧ t = .inl ((0, (0, (0, (bs [], (0, (0, (bs [], (bs [], (0, 0))))))))), (l, (b : Int)))) ∨ (c ≠ 0 ∧ r = .inr (l, ((b : Int), c)) ∧ t = .inr (l, (0, (0, (0, (bs [], (0, (0, (bs [], (bs [], ((b : Int), c)))))))))))))
    (x := ((nm, (first, s)), (([] : List EntT), 0))) (y := (s, (first, ((0, (0, (0, ((bs []), (0, (0, ((bs []), ((bs []), (0, 0))))))))), (([] : List EntT), 0)))))
    (fun m x y => ∃ (l : List EntT) (b : Nat), x = ((nm, (first, s)), (l, (b : Int))) ∧ y = (s, (first, ((0, (0, (0, ((bs []), (0, (0, ((bs []), ((bs []), (0, 0))))))))), (l, (b : Int))))) ∧ Seq s first l 0 b 0 ∧ b ≤ (sBy s).length ∧ m = (sBy s).length - b)
    (sBy s).length ⟨[], 0, rfl, rfl, rfl, by omega, by omega⟩ (by omega) ?_
  · obtain ⟨r, t, h1, h2, l, b, c, h3, h4, ⟨hc, rfl, rfl⟩ | ⟨hc, rfl, rfl⟩⟩ := h
    · refine ⟨l, b, c, ?_, ?_, h3, h4⟩
      · unfold F72 L72_0
        rw [h1, hc]
        rfl
      · unfold F68 L68_0
        rw [h2, hc]
        rfl
    · refine ⟨l, b, c, ?_, ?_, h3, h4⟩
      · unfold F72 L72_0
        rw [h1]
        rfl
      · unfold F68 L68_0
        rw [h2]
        rfl
  · rintro m x y ⟨l, b, rfl, rfl, hq, hb, rfl⟩
    simp only
    unfold B72_0 B68_0
    have hle := hq.le (by omega)
    by_cases hlt : (b : Int) < sLen s
    rotate_left
    · rw [iLt_f hlt]
      exact .inr ⟨_, _, rfl, rfl, l, b, 0, hq, .inl ⟨rfl, by omega⟩, .inl ⟨rfl, rfl, rfl⟩⟩
    obtain ⟨e1, e2, e3⟩ := ent_two s b hs
    rw [iLt_y hlt, sel_t, sel_t, e1, e2, bnd_s, bnd_s]
    have hll : lLen l = (l.length : Int) := rfl
    rcases e3 with ⟨h1, h2⟩ | ⟨m, n, h1, h2, h3, h4, h5⟩
    · refine .inr ?_
      rw [iEq_f h1]
      have : bAnd false (bNot (iEq (ent s b).1.1 (iAdd .i64 first (lLen l)))) = false := rfl
      rw [this, sel_f, iEq_f h1]
      exact ⟨_, _, rfl, rfl, l, b, _, hq, .inr ⟨h1, by omega, .inl rfl⟩, .inr ⟨h1, rfl, rfl⟩⟩
    · obtain rfl : b = m := by omega
      have g := good_n h2 h5
      rw [h4]
      by_cases hn : (ent s b).1.1 = iAdd .i64 first (lLen l)
      · refine .inl ⟨(sBy s).length - (b + n), _, _, by omega, ?_, ?_, l ++ [(ent s b).1], b + n, rfl, rfl, hq.snoc h2 h5 (by rw [hn, hll]; congr 2; omega), h2, rfl⟩
        · rw [iEq_y hn, show bAnd (iEq 0 0) (bNot true) = false from rfl, sel_f, show bNot (iEq 0 0) = false from rfl, sel_f, sel_pos (lCap_y (by omega) (by omega) (by show (l ++ _).length ≤ _; rw [List.length_append, List.length_singleton]; omega)), h3]
          rfl
        · rw [iEq_y hn, show bNot true = false from rfl, show bNot (iEq 0 0) = false from rfl, sel_f, sel_f, sel_pos (lCap_y (by omega) (by omega) (by show (l ++ _).length ≤ _; rw [List.length_append, List.length_singleton]; omega)), h3]
          rfl
      · refine .inr ?_
        rw [iEq_f hn]
        exact ⟨_, _, rfl, rfl, l, b, 14, hq, .inr ⟨by decide, by omega, .inr ⟨h4, by rw [← hll]; exact hn, rfl⟩⟩, .inr ⟨by decide, rfl, rfl⟩⟩
end Go.Proofs.YtdnfnjaccbgplaaDoor.K
end

section
set_option linter.unusedVariables false
set_option linter.unusedSimpArgs false
set_option linter.unnecessarySimpa false
open Go Go.Ev
namespace Go.Proofs.YtdnfnjaccbgplaaDoor.K
abbrev RcvT := ByteArray × (Int × ByteArray)
theorem F51_any (s : ByteArray) : F51 s = some (nmOK (sBy s)) := by
  by_cases h : (sBy s).length ≤ 1000000
  · exact F51_eq s h
  · have hl := by_len s
    unfold F51 nmOK
    rw [sel_pos (by rw [or_t, iLt_t]; right; omega), decide_eq_false (by omega)]
    rfl
theorem F55_any (s : ByteArray) : F55 s = some (nmOK (sBy s)) := by
  by_cases h : (sBy s).length ≤ 1000000
  · exact F55_eq s h
  · have hl := by_len s
    unfold F55 nmOK
    rw [let_s, sel_pos (by unfold F37; rw [not_t, bf_t, and_t, iLe_t, iLe_t]; omega), decide_eq_false (by omega)]
    rfl
theorem F50_t (a b c : Int) : (F50 a b c = true) = (b ≤ a ∧ a ≤ c) := by unfold F50; rw [and_t, iLe_t, iLe_t]
theorem F37_t (a b c : Int) : (F37 a b c = true) = (b ≤ a ∧ a ≤ c) := by unfold F37; rw [and_t, iLe_t, iLe_t]
/-- A receiver with this name stands ahead. -/
def dupN (rs : List RcvT) (n : ByteArray) (i : Nat) : Prop := ∃ k : Nat, k < i ∧ (lAt rs (k : Int)).1 = n
theorem lAt_cut {α : Type} [Inhabited α] {l : List α} {i k : Nat} (h : k < i) : lAt (lCut l 0 (i : Int)) (k : Int) = lAt l (k : Int) := by
  unfold lAt lCut
  rw [show ((k : Int)).toNat = k by omega, show ((i : Int)).toNat = i by omega, show ((0 : Int)).toNat = 0 from rfl, List.drop_zero, List.getElem?_take, if_pos h]
theorem lLen_cut {α : Type} {l : List α} {i : Nat} (h : i ≤ l.length) : lLen (lCut l 0 (i : Int)) = i := by
  unfold lLen lCut
  rw [show ((i : Int)).toNat = i by omega, show ((0 : Int)).toNat = 0 from rfl, List.drop_zero, List.length_take]
  omega
open Classical in
theorem F98_eq (rs : List RcvT) (i : Nat) (hi : i ≤ rs.length) (hl : rs.length ≤ 1000) (r : RcvT) : F98 (lCut rs 0 (i : Int)) r.1 r.2.1 r.2.2 = some ((r.1, (r.2.1, r.2.2)), decide (dupN rs r.1 i)) := by
  unfold F98 F87 L87_0
  have hn := lLen_cut hi
  have hfirst := iter_first (B := fun (x : (RcvT × ((List RcvT) × (Int × Int)))) => (B87_0 x.1.1 x.1.2.1 x.1.2.2 x.2.1 x.2.2.1 x.2.2.2)) (fun k => ((r.1, (r.2.1, r.2.2)), (lCut rs 0 (i : Int), ((i : Int), (k : Int))))) (fun k => (lAt rs (k : Int)).1 = r.1) i (fun k => .inr ((r.1, (r.2.1, r.2.2)), (k : Int))) (.inl (r.1, (r.2.1, r.2.2))) (by omega) ?_ ?_ ?_
  rcases hfirst with ⟨k, h1, h2, _, h3⟩ | ⟨h1, h3⟩
  · rw [hn]
    have h3 : iter (fun (x : (RcvT × ((List RcvT) × (Int × Int)))) => (B87_0 x.1.1 x.1.2.1 x.1.2.2 x.2.1 x.2.2.1 x.2.2.2)) fuel ((r.1, (r.2.1, r.2.2)), (lCut rs 0 (i : Int), ((i : Int), 0))) = _ := h3
    rw [h3, decide_eq_true (show dupN rs r.1 i from ⟨k, h1, h2⟩)]
    show some (_, iLe 0 (k : Int)) = _
    rw [iLe_y (by omega)]
  · rw [hn]
    have h3 : iter (fun (x : (RcvT × ((List RcvT) × (Int × Int)))) => (B87_0 x.1.1 x.1.2.1 x.1.2.2 x.2.1 x.2.2.1 x.2.2.2)) fuel ((r.1, (r.2.1, r.2.2)), (lCut rs 0 (i : Int), ((i : Int), 0))) = _ := h3
    rw [h3, decide_eq_false (show ¬ dupN rs r.1 i from fun ⟨k, h4, h5⟩ => h1 k h4 h5)]
    rfl
  · intro k hk hp
    show B87_0 r.1 r.2.1 r.2.2 (lCut rs 0 (i : Int)) i k = _
    unfold B87_0 F99
    rw [iLt_y (by omega), sel_t, oIn_y (by rw [hn]; omega), sel_t, let_s, lAt_cut hk, sEq_f hp, sel_f, add_w (by unfold fits; omega)] <;> rfl
  · intro k hk hp
    show B87_0 r.1 r.2.1 r.2.2 (lCut rs 0 (i : Int)) i k = _
    unfold B87_0 F99
    rw [iLt_y (by omega), sel_t, oIn_y (by rw [hn]; omega), sel_t, let_s, lAt_cut hk, sEq_y hp, sel_t]
  · show B87_0 r.1 r.2.1 r.2.2 (lCut rs 0 (i : Int)) i i = _
    unfold B87_0
    rw [iLt_f (by omega), sel_f]
open Classical in
/-- The error of a receiver, but for its order and its entries. -/
noncomputable def rErr (rs : List RcvT) (i : Nat) : Int :=
  if nmOK (sBy (lAt rs (i : Int)).1) = false then 7 else if dupN rs (lAt rs (i : Int)).1 i then 13 else if 1200 < sLen (lAt rs (i : Int)).2.2 then 2 else if i = 0 ∧ ¬ (1 ≤ (lAt rs (i : Int)).2.1 ∧ (lAt rs (i : Int)).2.1 ≤ 10000) then 3 else 0
open Classical in
theorem F85_eq (rs : List RcvT) (next : Int) (i : Nat) (hi : i < rs.length) (hl : rs.length ≤ 1000) : F85 (rs, next) i = some (rErr rs i) := by
  unfold F85
  simp only []
  have hll : lLen rs = (rs.length : Int) := rfl
  rw [oIn_y (by rw [hll]; omega), sel_t, F51_any, bnd_s]
  unfold rErr
  cases hn : nmOK (sBy (lAt rs (i : Int)).1) with
  | false => rfl
  | true =>
    rw [nt, sel_f, oCut_y (by rw [hll]; omega), sel_t, F98_eq rs i (by omega) hl (lAt rs (i : Int)), bnd_s]
    simp only [reduceCtorEq, if_false]
    by_cases hd : dupN rs (lAt rs (i : Int)).1 i
    · rw [decide_eq_true hd, if_pos hd]
      rfl
    · rw [decide_eq_false hd, if_neg hd, sel_f]
      by_cases h1 : 1200 < sLen (lAt rs (i : Int)).2.2
      · rw [if_pos h1, iLt_y h1]
        rfl
      · rw [if_neg h1, iLt_f h1, sel_f, let_s]
        by_cases h2 : i = 0 ∧ ¬ (1 ≤ (lAt rs (i : Int)).2.1 ∧ (lAt rs (i : Int)).2.1 ≤ 10000)
        · rw [if_pos h2, sel_pos]
          rw [and_t, iEq_t, not_t, bf_t, F50_t]
          exact ⟨by omega, h2.2⟩
        · rw [if_neg h2, sel_neg]
          rw [bf_t, and_t, iEq_t, not_t, bf_t, F50_t]
          intro h3
          exact h2 ⟨by omega, h3.2⟩
open Classical in
theorem F67_eq (rs : List RcvT) (next : Int) (i : Nat) (nx : Int) (hi : i < rs.length) (hl : rs.length ≤ 1000) : F67 (rs, next) i nx = some (if rErr rs i ≠ 0 then rErr rs i else if i ≠ 0 ∧ (lAt rs (i : Int)).2.1 ≠ nx then 14 else 0) := by
  unfold F67
  simp only []
  have hll : lLen rs = (rs.length : Int) := rfl
  rw [oIn_y (by rw [hll]; omega), sel_t, F55_any, bnd_s]
  unfold rErr
  cases hn : nmOK (sBy (lAt rs (i : Int)).1) with
  | false => rfl
  | true =>
    rw [nt, sel_f]
    simp only [reduceCtorEq, if_false]
    generalize hr : lAt rs (i : Int) = r
    unfold L67_0
    have hfirst := iter_first (B := fun (x : (Int × (Int × (((List RcvT) × Int) × (RcvT × Int))))) => (B67_0 x.1 x.2.1 x.2.2.1.1 x.2.2.1.2 x.2.2.2.1.1 x.2.2.2.1.2.1 x.2.2.2.1.2.2 x.2.2.2.2)) (fun k => ((i : Int), (nx, ((rs, next), (r, (k : Int)))))) (fun k => (lAt rs (k : Int)).1 = r.1) i (fun k => .inr 13) (.inl ((i : Int), (nx, r))) (by omega) ?_ ?_ ?_
    rcases hfirst with ⟨k, h1, h2, _, h3⟩ | ⟨h1, h3⟩
    · have h3 : iter (fun (x : (Int × (Int × (((List RcvT) × Int) × (RcvT × Int))))) => (B67_0 x.1 x.2.1 x.2.2.1.1 x.2.2.1.2 x.2.2.2.1.1 x.2.2.2.1.2.1 x.2.2.2.1.2.2 x.2.2.2.2)) fuel ((i : Int), (nx, ((rs, next), (r, 0)))) = _ := h3
      rw [h3, if_pos (show dupN rs r.1 i from ⟨k, h1, h2⟩)]
      rfl
    · have h3 : iter (fun (x : (Int × (Int × (((List RcvT) × Int) × (RcvT × Int))))) => (B67_0 x.1 x.2.1 x.2.2.1.1 x.2.2.1.2 x.2.2.2.1.1 x.2.2.2.1.2.1 x.2.2.2.1.2.2 x.2.2.2.2)) fuel ((i : Int), (nx, ((rs, next), (r, 0)))) = _ := h3
      rw [h3, if_neg (show ¬ dupN rs r.1 i from fun ⟨k, h4, h5⟩ => h1 k h4 h5), bnd_s]
      show sel (iLt 1200 (sLen r.2.2)) (some 2) _ = _
      by_cases h4 : 1200 < sLen r.2.2
      · rw [if_pos h4, iLt_y h4]
        rfl
      · rw [if_neg h4, iLt_f h4, sel_f]
        simp only [let_s, F53_eq, bnd_s]
        have hf3 : fits 3 := by unfold fits; omega
        have hf14 : fits 14 := by unfold fits; omega
        rw [mul_ite hf3, mul_ite hf14]
        by_cases h5 : i = 0
        · subst h5
          rw [sel_pos (b := iEq _ 0) rfl]
          simp only [not_t, bf_t, F37_t]
          grind
        · rw [sel_neg (iEq_f (by omega))]
          simp only [not_t, bf_t, iEq_t]
          grind
    · intro k hk hp
      show B67_0 i nx rs next r.1 r.2.1 r.2.2 k = _
      unfold B67_0
      rw [iLt_y (by omega), sel_t, oIn_y (by rw [hll]; omega), sel_t, sEq_f hp, sel_f, add_w (by unfold fits; omega)] <;> rfl
    · intro k hk hp
      show B67_0 i nx rs next r.1 r.2.1 r.2.2 k = _
      unfold B67_0
      rw [iLt_y (by omega), sel_t, oIn_y (by rw [hll]; omega), sel_t, sEq_y hp, sel_t]
    · show B67_0 i nx rs next r.1 r.2.1 r.2.2 i = _
      unfold B67_0
      rw [iLt_f (by omega), sel_f]
/-- No more than the laws look at. -/
def fewJ (rs : List RcvT) : Prop := rs.length ≤ 8 ∧ ∀ k : Nat, k < rs.length → sLen (lAt rs (k : Int)).2.2 ≤ 1300
theorem F21_eq (rs : List RcvT) (next : Int) : ∃ b, F21 (rs, next) = some b ∧ (b = true → fewJ rs) := by
  unfold F21
  simp only []
  have hll : lLen rs = (rs.length : Int) := rfl
  by_cases h : 8 < lLen rs
  · rw [iLt_y h]
    exact ⟨false, rfl, fun h => by cases h⟩
  · rw [iLt_f h, sel_f]
    unfold L21_0
    have hfirst := iter_first (B := fun (x : (((List RcvT) × Int) × Int)) => (B21_0 x.1.1 x.1.2 x.2)) (fun k => ((rs, next), (k : Int))) (fun k => 1300 < sLen (lAt rs (k : Int)).2.2) rs.length (fun k => .inr false) (.inl ()) (by omega) ?_ ?_ ?_
    rcases hfirst with ⟨k, h1, h2, _, h3⟩ | ⟨h1, h3⟩
    · have h3 : iter (fun (x : (((List RcvT) × Int) × Int)) => (B21_0 x.1.1 x.1.2 x.2)) fuel ((rs, next), 0) = _ := h3
      rw [h3]
      exact ⟨false, rfl, fun h => by cases h⟩
    · have h3 : iter (fun (x : (((List RcvT) × Int) × Int)) => (B21_0 x.1.1 x.1.2 x.2)) fuel ((rs, next), 0) = _ := h3
      rw [h3]
      exact ⟨true, rfl, fun _ => ⟨by omega, fun k hk => by have := h1 k hk; omega⟩⟩
    · intro k hk hp
      show B21_0 rs next k = _
      unfold B21_0
      rw [iLt_y (by omega), sel_t, oIn_y (by omega), sel_t, iLt_f hp, sel_f, add_w (by unfold fits; omega)] <;> rfl
    · intro k hk hp
      show B21_0 rs next k = _
      unfold B21_0
      rw [iLt_y (by omega), sel_t, oIn_y (by omega), sel_t, iLt_y hp, sel_t]
    · show B21_0 rs next rs.length = _
      unfold B21_0
      rw [iLt_f (by omega), sel_f]
theorem F23_eq {rs : List RcvT} {next : Int} (h : rs.length ≤ 1000) : F23 (rs, next) = some (rs, next) := by
  unfold F23
  rw [sel_pos (lCap_y (by omega) (by omega) (by simp only []; omega))]
theorem F69_eq {rs : List RcvT} {next : Int} (h : rs.length ≤ 1000) : F69 (rs, next) = some (rs, next) := by
  unfold F69 F86
  simp only []
  have hll : lLen rs = (rs.length : Int) := rfl
  by_cases h0 : 0 < lLen rs
  · rw [iLt_y h0, sel_t, sel_t, sel_pos (lCap_y (by omega) (by omega) (by show ([] ++ rs).length ≤ _; simp; omega)), bnd_s]
    rfl
  · obtain rfl : rs = [] := List.length_eq_zero_iff.1 (by omega)
    have h1 : lCap 40 (lApp ([] : List RcvT) []) = true := lCap_y (by omega) (by omega) (by show 0 ≤ _; omega)
    rw [show iLt 0 (lLen ([] : List RcvT)) = false from rfl, sel_f, h1, sel_t]
    unfold bothS both
    rw [if_pos (show some ([] : List RcvT) = some (lApp [] []) from rfl)]
    rfl
end Go.Proofs.YtdnfnjaccbgplaaDoor.K
end
