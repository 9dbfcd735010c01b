/- A part of the proof: texts of the author, joined. -/
import Derived.Test.YtagcodkkkebnhaaKS3
import Derived.Laws.Strings
section
set_option linter.unusedVariables false
set_option linter.unusedSimpArgs false
set_option linter.unnecessarySimpa false
namespace Go.Ev
open Go
/-! ## Words, read as0 plain Lean -/
theorem sel_if {α : Type} (b : Bool) (x y : α) : sel b x y = if b = true then x else y := by cases b <;> rfl
theorem sel_t {α : Type} (x y : α) : sel true x y = x := rfl
theorem sel_f {α : Type} (x y : α) : sel false x y = y := rfl
theorem bnd_s {α β : Type} (a : α) (k : α → Option β) : bndS (some a) k = k a := rfl
theorem bnd_n {α β : Type} (k : α → Option β) : bndS none k = none := rfl
theorem let_s {α β : Type} (x : α) (k : α → β) : letS x k = k x := rfl
theorem not_b (b : Bool) : bNot b = !b := by cases b <;> rfl
theorem and_b (a b : Bool) : bAnd a b = (a && b) := by cases a <;> rfl
theorem or_b (a b : Bool) : bOr a b = (a || b) := by cases a <;> rfl
/-- A word that fits. -/
def fits (n : Int) : Prop := -9223372036854775808 ≤ n ∧ n ≤ 9223372036854775807
theorem wrap_fits {n : Int} (h : fits n) : IntKind.i64.wrap n = n := by
  obtain ⟨h1, h2⟩ := h
  unfold IntKind.wrap
  simp [IntKind.bits, IntKind.signed]
  omega
theorem add_w {a b : Int} (h : fits (a + b)) : iAdd .i64 a b = a + b := wrap_fits h
theorem sub_w {a b : Int} (h : fits (a - b)) : iSub .i64 a b = a - b := wrap_fits h
theorem mul_w {a b : Int} (h : fits (a * b)) : iMul .i64 a b = a * b := wrap_fits h
theorem cv_w {a : Int} (h : fits a) : iCv .i64 a = a := wrap_fits h
/-! ### Strings as0 lists of bytes -/
theorem by_len (s : ByteArray) : sLen s = (sBy s).length := by
  unfold sLen sBy
  rw [List.length_map, Array.length_toList]
  rfl
theorem by_at (s : ByteArray) (n : Int) : sAt s n = ((sBy s)[n.toNat]?).getD 0 := by
  unfold sAt sBy
  rw [List.getElem?_map]
  have : s[n.toNat]? = s.data.toList[n.toNat]? := by
    rw [Array.getElem?_toList]
    by_cases h : n.toNat < s.size
    · rw [getElem?_pos s _ h, getElem?_pos s.data _ h]; rfl
    · rw [getElem?_neg s _ h, getElem?_neg s.data _ h]
  rw [this]
  cases s.data.toList[n.toNat]? <;> rfl
theorem by_cut (s : ByteArray) (lo hi : Int) : sBy (sCut s lo hi) = ((sBy s).take hi.toNat).drop lo.toNat := by
  unfold sCut sBy
  rw [ByteArray.data_extract, Array.toList_extract, List.extract_eq_take_drop, ← List.map_take, ← List.map_drop, List.drop_take]
theorem by_add (a b : ByteArray) : sBy (sAdd a b) = sBy a ++ sBy b := by
  simp [sBy, sAdd, ByteArray.data_append]
theorem by_inj {a b : ByteArray} (h : sBy a = sBy b) : a = b := by
  have h2 : a.data.toList = b.data.toList := by
    have := congrArg (List.map fun n : Int => UInt8.ofNat n.toNat) h
    simpa [sBy, Function.comp_def] using this
  cases a; cases b
  simp only at h2
  congr
  exact Array.ext' h2
theorem ba_toList (s : ByteArray) : s.toList = s.data.toList := by
  exact ByteArray.toList_eq s
theorem eq_b (a b : ByteArray) : sEq a b = decide (a = b) := by
  unfold sEq
  rw [ba_toList, ba_toList, Bool.eq_iff_iff]
  simp only [beq_iff_eq, decide_eq_true_eq]
  constructor
  · intro h; cases a; cases b; simp only at h; congr; exact Array.ext' h
  · intro h; rw [h]
theorem by_byte (s : ByteArray) : ∀ n ∈ sBy s, 0 ≤ n ∧ n < 256 := by
  intro n hn
  unfold sBy at hn
  obtain ⟨b, _, rfl⟩ := List.mem_map.1 hn
  have := b.toNat_lt
  omega
/-! ### Loops -/
theorem iter_s {σ ρ : Type} {B : σ → Option (σ ⊕ ρ)} {n : Nat} {x y : σ} (h : B x = some (.inl y)) : iter B (n + 1) x = iter B n y := by
  show (match B x with | some (.inl y) => iter B n y | some (.inr r) => some r | none => none) = _
  rw [h]
theorem iter_e {σ ρ : Type} {B : σ → Option (σ ⊕ ρ)} {n : Nat} {x : σ} {r : ρ} (h : B x = some (.inr r)) : iter B (n + 1) x = some r := by
  show (match B x with | some (.inl y) => iter B n y | some (.inr r) => some r | none => none) = _
  rw [h]
/-- A loop that counts up to its end. -/
theorem iter_up {σ ρ : Type} {B : σ → Option (σ ⊕ ρ)} {st : Nat → σ} {r : ρ} {m : Nat} (hs : ∀ i, i < m → B (st i) = some (.inl (st (i + 1)))) (he : B (st m) = some (.inr r)) : ∀ (d i n : Nat), i + d = m → d < n → iter B n (st i) = some r := by
  intro d
  induction d with
  | zero =>
    intro i n hi hn
    obtain ⟨n, rfl⟩ : ∃ q, n = q + 1 := ⟨n - 1, by omega⟩
    obtain rfl : i = m := by omega
    exact iter_e he
  | succ d ih =>
    intro i n hi hn
    obtain ⟨n, rfl⟩ : ∃ q, n = q + 1 := ⟨n - 1, by omega⟩
    rw [iter_s (hs i (by omega))]
    exact ih (i + 1) n (by omega) (by omega)
theorem iter_run {σ ρ : Type} {B : σ → Option (σ ⊕ ρ)} (st : Nat → σ) {r : ρ} (m : Nat) (hm : m < 10000000) (hs : ∀ i, i < m → B (st i) = some (.inl (st (i + 1)))) (he : B (st m) = some (.inr r)) : iter B fuel (st 0) = some r :=
  iter_up hs he m 0 _ (by omega) hm
theorem or_w {a b : Int} (ha : 0 ≤ a) (ha' : a < 36028797018963968) (hb : 0 ≤ b) (hb' : b < 256) : iOr .i64 (iShl .i64 a 8) b = a * 256 + b := by
  obtain ⟨x, rfl⟩ := Int.eq_ofNat_of_zero_le ha
  obtain ⟨y, rfl⟩ := Int.eq_ofNat_of_zero_le hb
  have h1 : iShl .i64 (x : Int) 8 = ((x * 256 : Nat) : Int) := by
    unfold iShl
    rw [wrap_fits (by unfold fits; simp [IntKind.bits]; omega)]
    simp [IntKind.bits]
  rw [h1]
  unfold iOr
  have h2 : (BitVec.ofInt IntKind.i64.bits ((x * 256 : Nat) : Int) ||| BitVec.ofInt IntKind.i64.bits (y : Int)).toNat = x * 256 + y := by
    rw [BitVec.toNat_or, BitVec.ofInt_natCast, BitVec.ofInt_natCast, BitVec.toNat_ofNat, BitVec.toNat_ofNat]
    rw [Nat.mod_eq_of_lt (by simp [IntKind.bits]; omega), Nat.mod_eq_of_lt (by simp [IntKind.bits]; omega)]
    have := Nat.shiftLeft_add_eq_or_of_lt (b := y) (i := 8) (by omega) x
    rw [Nat.shiftLeft_eq] at this
    simpa using this.symm
  rw [h2, wrap_fits (by unfold fits; omega)]
  simp
end Go.Ev
end

section
set_option linter.unusedVariables false
set_option linter.unusedSimpArgs false
set_option linter.unnecessarySimpa false
namespace Go.Ev
open Go
/-! ## Words, as0 plain conditions -/
theorem not_t (b : Bool) : (bNot b = true) = (b = false) := by cases b <;> simp [bNot, sel]
theorem and_t (a b : Bool) : (bAnd a b = true) = (a = true ∧ b = true) := by cases a <;> simp [bAnd, sel]
theorem or_t (a b : Bool) : (bOr a b = true) = (a = true ∨ b = true) := by cases a <;> simp [bOr, sel]
theorem selB_t (a b c : Bool) : (sel a b c = true) = ((a = true ∧ b = true) ∨ (a = false ∧ c = true)) := by cases a <;> simp [sel]
theorem bEq_t (a b : Bool) : (bEq a b = true) = (a = b) := by cases a <;> cases b <;> simp [bEq]
theorem iEq_t (a b : Int) : (iEq a b = true) = (a = b) := by simp [iEq]
theorem iLt_t (a b : Int) : (iLt a b = true) = (a < b) := by simp [iLt]
theorem iLe_t (a b : Int) : (iLe a b = true) = (a ≤ b) := by simp [iLe]
theorem oNz_t (b : Int) : (oNz b = true) = (b ≠ 0) := by simp [oNz]
theorem oIn_t (n l : Int) : (oIn n l = true) = (0 ≤ n ∧ n < l) := by simp [oIn]
theorem oCut_t (a b l : Int) : (oCut a b l = true) = (0 ≤ a ∧ a ≤ b ∧ b ≤ l) := by simp [oCut]
theorem sEq_t (a b : ByteArray) : (sEq a b = true) = (a = b) := by rw [eq_b]; simp
theorem sOk_t (a b : ByteArray) : (sOk a b = true) = (sLen a + sLen b ≤ 9223372036854775807) := by
  unfold sOk sLen
  rw [decide_eq_true_eq]
  exact propext ⟨fun h => by omega, fun h => by omega⟩
theorem lCap_t {α : Type} (c : Int) (l : List α) : (lCap c l = true) = (lLen l * (c + 1) ≤ 140737488355328) := by simp [lCap, lLen]
theorem nCap_t (c n : Int) : (nCap c n = true) = (0 ≤ n ∧ n * (c + 1) ≤ 140737488355328) := by simp [nCap]
theorem okS_t {α : Type} (x : Option α) : (okS x = true) = (∃ a, x = some a) := by cases x <;> simp [okS]
theorem okS_s {α : Type} (a : α) : okS (some a) = true := rfl
theorem valS_s {α : Type} (a d : α) : valS (some a) d = a := rfl
theorem bf_t (b : Bool) : (b = false) = ¬ (b = true) := by cases b <;> simp
theorem sLen_nn (s : ByteArray) : 0 ≤ sLen s := by unfold sLen; omega
theorem lLen_nn {α : Type} (l : List α) : 0 ≤ lLen l := by unfold lLen; omega
/-- A result that is there, and what is known of it. -/
def Ok {α : Type} (x : Option α) (Q : α → Prop) : Prop := ∃ a, x = some a ∧ Q a
theorem Ok.mono {α : Type} {x : Option α} {Q R : α → Prop} (h : Ok x Q) (k : ∀ a, Q a → R a) : Ok x R := by obtain ⟨a, e, q⟩ := h; exact ⟨a, e, k a q⟩
theorem ok_some {α : Type} {a : α} {Q : α → Prop} : Ok (some a) Q = Q a := propext ⟨fun ⟨_, e, q⟩ => (by cases e; exact q), fun q => ⟨a, rfl, q⟩⟩
theorem ok_none {α : Type} {Q : α → Prop} : Ok (none : Option α) Q = False := propext ⟨fun ⟨_, e, _⟩ => (by cases e), fun h => h.elim⟩
theorem ok_sel {α : Type} {b : Bool} {x y : Option α} {Q : α → Prop} : Ok (sel b x y) Q = ((b = true → Ok x Q) ∧ (¬ b = true → Ok y Q)) := by
  cases b
  · show Ok y Q = _; simp
  · show Ok x Q = _; simp
theorem ok_bnd {α β : Type} {x : Option α} {k : α → Option β} {Q : β → Prop} : Ok (bndS x k) Q = Ok x (fun a => Ok (k a) Q) := by
  cases x with
  | none => exact propext ⟨fun ⟨_, e, _⟩ => (by cases e), fun ⟨_, e, _⟩ => (by cases e)⟩
  | some a => exact (ok_some (Q := fun a => Ok (k a) Q)).symm
theorem ok_let {α β : Type} {x : α} {k : α → Option β} {Q : β → Prop} : Ok (letS x k) Q = Ok (k x) Q := rfl
theorem ok_sumL {α β γ : Type} {a : α} {f : α → Option γ} {g : β → Option γ} {Q : γ → Prop} : Ok (sumS (.inl a) f g) Q = Ok (f a) Q := rfl
theorem ok_sumR {α β γ : Type} {a : β} {f : α → Option γ} {g : β → Option γ} {Q : γ → Prop} : Ok (sumS (.inr a) f g) Q = Ok (g a) Q := rfl
theorem ok_eq {α : Type} {x : Option α} {a : α} {Q : α → Prop} (e : x = some a) : Ok x Q = Q a := by rw [e, ok_some]
theorem ok_is {α : Type} {x : Option α} {a : α} : Ok x (fun b => b = a) = (x = some a) := propext ⟨fun ⟨_, e, q⟩ => (by rw [e, q]), fun e => ⟨a, e, rfl⟩⟩
/-- A loop with an invariant and a number that goes down. -/
theorem iter_inv {σ ρ : Type} {B : σ → Option (σ ⊕ ρ)} (I : Nat → σ → Prop) {Q : ρ → Prop} (h : ∀ m x, I m x → Ok (B x) (fun r => match r with | .inl y => ∃ k, k < m ∧ I k y | .inr r => Q r)) : ∀ (n m : Nat) (x : σ), I m x → m < n → Ok (iter B n x) Q := by
  intro n
  induction n with
  | zero => intro m x _ hn; omega
  | succ n ih =>
    intro m x hi hn
    obtain ⟨a, e, q⟩ := h m x hi
    cases a with
    | inl y =>
      obtain ⟨k, hk, hik⟩ := q
      rw [iter_s e]
      exact ih k y hik (by omega)
    | inr r =>
      rw [iter_e e]
      exact ⟨r, rfl, q⟩
theorem loop_inv {σ ρ : Type} {B : σ → Option (σ ⊕ ρ)} {Q : ρ → Prop} {x : σ} (I : Nat → σ → Prop) (m : Nat) (hx : I m x) (hm : m < 10000000) (h : ∀ m x, I m x → Ok (B x) (fun r => match r with | .inl y => ∃ k, k < m ∧ I k y | .inr r => Q r)) : Ok (iter B fuel x) Q :=
  iter_inv I h _ m x hx (by unfold fuel; omega)
/-- Two loops that go side by side. -/
theorem iter_two {σ τ ρ π : Type} {B : σ → Option (σ ⊕ ρ)} {C : τ → Option (τ ⊕ π)} (I : Nat → σ → τ → Prop) {Q : ρ → π → Prop} (h : ∀ m x y, I m x y → (∃ k x' y', k < m ∧ B x = some (.inl x') ∧ C y = some (.inl y') ∧ I k x' y') ∨ ∃ r s, B x = some (.inr r) ∧ C y = some (.inr s) ∧ Q r s) : ∀ (n m : Nat) (x : σ) (y : τ), I m x y → m < n → ∃ r s, iter B n x = some r ∧ iter C n y = some s ∧ Q r s := by
  intro n
  induction n with
  | zero => intro m x y _ hn; omega
  | succ n ih =>
    intro m x y hi hn
    rcases h m x y hi with ⟨k, x', y', hk, e1, e2, hi'⟩ | ⟨r, s, e1, e2, q⟩
    · rw [iter_s e1, iter_s e2]
      exact ih k x' y' hi' (by omega)
    · exact ⟨r, s, iter_e e1, iter_e e2, q⟩
theorem loop_two {σ τ ρ π : Type} {B : σ → Option (σ ⊕ ρ)} {C : τ → Option (τ ⊕ π)} {Q : ρ → π → Prop} {x : σ} {y : τ} (I : Nat → σ → τ → Prop) (m : Nat) (hx : I m x y) (hm : m < 10000000) (h : ∀ m x y, I m x y → (∃ k x' y', k < m ∧ B x = some (.inl x') ∧ C y = some (.inl y') ∧ I k x' y') ∨ ∃ r s, B x = some (.inr r) ∧ C y = some (.inr s) ∧ Q r s) : ∃ r s, iter B fuel x = some r ∧ iter C fuel y = some s ∧ Q r s :=
  iter_two I h _ m x y hx (by unfold fuel; omega)
theorem mul_ite {c : Int} (h : fits c) (p : Prop) [Decidable p] : iMul .i64 c (if p then 1 else 0) = if p then c else 0 := by
  by_cases hp : p
  · rw [if_pos hp, if_pos hp, mul_w (by rw [Int.mul_one]; exact h), Int.mul_one]
  · rw [if_neg hp, if_neg hp, mul_w (by rw [Int.mul_zero]; unfold fits; omega), Int.mul_zero]
/-! ### Arithmetic that stays in bounds -/
theorem add_n {a b : Int} (h1 : -9223372036854775808 ≤ a + b) (h2 : a + b ≤ 9223372036854775807) : iAdd .i64 a b = a + b := add_w ⟨h1, h2⟩
theorem sub_n {a b : Int} (h1 : -9223372036854775808 ≤ a - b) (h2 : a - b ≤ 9223372036854775807) : iSub .i64 a b = a - b := sub_w ⟨h1, h2⟩
theorem mul_n {a b : Int} (h1 : -9223372036854775808 ≤ a * b) (h2 : a * b ≤ 9223372036854775807) : iMul .i64 a b = a * b := mul_w ⟨h1, h2⟩
theorem cv_n {a : Int} (h1 : -9223372036854775808 ≤ a) (h2 : a ≤ 9223372036854775807) : iCv .i64 a = a := cv_w ⟨h1, h2⟩
theorem app_len {α : Type} (l m : List α) : lLen (lApp l m) = lLen l + lLen m := by simp [lLen, lApp]
theorem set_len {α : Type} (l : List α) (n : Int) (x : α) : lLen (lSet l n x) = lLen l := by simp [lLen, lSet]
theorem one_len {α : Type} (x : α) : lLen [x] = 1 := by simp [lLen]
theorem nil_len {α : Type} : lLen ([] : List α) = 0 := by simp [lLen]
theorem sadd_len (a b : ByteArray) : sLen (sAdd a b) = sLen a + sLen b := by simp [sLen, sAdd, ByteArray.size_append]
theorem scut_len (s : ByteArray) {a b : Int} (h0 : 0 ≤ a) (h1 : a ≤ b) (h2 : b ≤ sLen s) : sLen (sCut s a b) = b - a := by
  rw [by_len] at h2
  rw [by_len, by_cut, List.length_drop, List.length_take]
  omega
end Go.Ev
end

section
set_option linter.unusedVariables false
set_option linter.unusedSimpArgs false
set_option linter.unnecessarySimpa false
namespace Go.Ev
open Go
/-! ## Numbers as0 bytes, the highest first -/
def bigB (n : Int) : Nat → List Int
  | 0 => []
  | k + 1 => bigB (n / 256) k ++ [n % 256]
theorem bigB_len : ∀ (k : Nat) (n : Int), (bigB n k).length = k
  | 0, _ => rfl
  | k + 1, n => by unfold bigB; rw [List.length_append, bigB_len k]; rfl
theorem bigB_front : ∀ (j : Nat) (n : Int), bigB n (j + 1) = (n / 256 ^ j) % 256 :: bigB n j
  | 0, n => by simp [bigB]
  | j + 1, n => by
    have ih := bigB_front j (n / 256)
    show bigB (n / 256) (j + 1) ++ [n % 256] = _
    rw [ih, Int.ediv_ediv_of_nonneg (by decide), Int.mul_comm, ← Int.pow_succ]
    rfl
theorem bigB_byte : ∀ (k : Nat) (n : Int), ∀ b ∈ bigB n k, 0 ≤ b ∧ b < 256
  | 0, n, b, h => by cases h
  | k + 1, n, b, h => by
    unfold bigB at h
    rcases List.mem_append.1 h with h | h
    · exact bigB_byte k _ b h
    · rw [List.mem_singleton.1 h]
      omega
theorem by_sOf {l : List Int} (h : ∀ b ∈ l, 0 ≤ b ∧ b < 256) : sBy (sOf l) = l := by
  have gen : ∀ (l : List Int) (a : ByteArray), (∀ b ∈ l, 0 ≤ b ∧ b < 256) → sBy (l.foldl (fun r n => r.push (UInt8.ofNat n.toNat)) a) = sBy a ++ l := by
    intro l
    induction l with
    | nil => intro a _; simp
    | cons b l ih =>
      intro a h
      rw [List.foldl_cons, ih _ (fun c hc => h c (List.mem_cons_of_mem _ hc))]
      have hb := h b (List.mem_cons_self ..)
      have : sBy (a.push (UInt8.ofNat b.toNat)) = sBy a ++ [b] := by
        unfold sBy
        rw [ByteArray.data_push, Array.toList_push, List.map_append]
        congr 1
        simp only [List.map_cons, List.map_nil]
        congr 1
        rw [UInt8.toNat_ofNat']
        omega
      rw [this]
      simp
  unfold sOf mkBytes
  rw [gen l ByteArray.empty h]
  rfl
theorem byte_shr {n : Int} (h0 : 0 ≤ n) (j : Nat) (hj : j < 8) : iCv .u8 (iShr .i64 n (iMul .i64 8 (j : Int))) = (n / 256 ^ j) % 256 := by
  have h1 : iMul .i64 8 (j : Int) = ((8 * j : Nat) : Int) := by rw [mul_w (by unfold fits; omega)]; omega
  rw [h1]
  unfold iShr
  have h2 : min ((8 * j : Nat) : Int).toNat IntKind.i64.bits = 8 * j := by simp [IntKind.bits]; omega
  rw [h2, Int.pow_mul, Int.fdiv_eq_ediv_of_nonneg _ (by exact Int.le_of_lt (Int.pow_pos (by decide)))]
  show IntKind.wrap .u8 _ = _
  unfold IntKind.wrap
  simp [IntKind.bits, IntKind.signed]
theorem cv_u8 {n : Int} (h : 0 ≤ n ∧ n < 256) : iCv .u8 n = n := by
  show IntKind.wrap .u8 _ = _
  unfold IntKind.wrap
  simp [IntKind.bits, IntKind.signed]
  omega
end Go.Ev
end

section
set_option linter.unusedVariables false
set_option linter.unusedSimpArgs false
set_option linter.unnecessarySimpa false
namespace Go.Ev
open Go
/-- A loop that looks for the first place. -/
theorem iter_first {σ ρ : Type} {B : σ → Option (σ ⊕ ρ)} (st : Nat → σ) (p : Nat → Prop) (m : Nat) (r1 : Nat → ρ) (r2 : ρ) (hm : m < 10000000) (hs : ∀ i, i < m → ¬ p i → B (st i) = some (.inl (st (i + 1)))) (hf : ∀ i, i < m → p i → B (st i) = some (.inr (r1 i))) (he : B (st m) = some (.inr r2)) :
    (∃ i, i < m ∧ p i ∧ (∀ k, k < i → ¬ p k) ∧ iter B fuel (st 0) = some (r1 i)) ∨ ((∀ i, i < m → ¬ p i) ∧ iter B fuel (st 0) = some r2) := by
  have gen : ∀ (d i n : Nat), i + d = m → d < n → (∀ k, k < i → ¬ p k) → (∃ j, j < m ∧ p j ∧ (∀ k, k < j → ¬ p k) ∧ iter B n (st i) = some (r1 j)) ∨ ((∀ i, i < m → ¬ p i) ∧ iter B n (st i) = some r2) := by
    intro d
    induction d with
    | zero =>
      intro i n hi hn hk
      obtain ⟨n, rfl⟩ : ∃ q, n = q + 1 := ⟨n - 1, by omega⟩
      obtain rfl : i = m := by omega
      exact .inr ⟨hk, iter_e he⟩
    | succ d ih =>
      intro i n hi hn hk
      obtain ⟨n, rfl⟩ : ∃ q, n = q + 1 := ⟨n - 1, by omega⟩
      by_cases hp : p i
      · exact .inl ⟨i, by omega, hp, hk, iter_e (hf i (by omega) hp)⟩
      · rw [iter_s (hs i (by omega) hp)]
        exact ih (i + 1) n (by omega) (by omega) (fun k hk' => by
          by_cases h : k = i
          · rw [h]; exact hp
          · exact hk k (by omega))
  exact gen m 0 fuel (by omega) (by unfold fuel; omega) (fun k h => by omega)
theorem iLt_f {a b : Int} (h : ¬ a < b) : iLt a b = false := by unfold iLt; rw [decide_eq_false_iff_not]; exact h
theorem iLt_y {a b : Int} (h : a < b) : iLt a b = true := by unfold iLt; rw [decide_eq_true_eq]; exact h
theorem iLe_f {a b : Int} (h : ¬ a ≤ b) : iLe a b = false := by unfold iLe; rw [decide_eq_false_iff_not]; exact h
theorem iLe_y {a b : Int} (h : a ≤ b) : iLe a b = true := by unfold iLe; rw [decide_eq_true_eq]; exact h
theorem iEq_y {a b : Int} (h : a = b) : iEq a b = true := by unfold iEq; simpa using h
theorem iEq_f {a b : Int} (h : ¬ a = b) : iEq a b = false := by unfold iEq; simpa using h
theorem sEq_y {a b : ByteArray} (h : a = b) : sEq a b = true := by rw [sEq_t]; exact h
theorem sEq_f {a b : ByteArray} (h : ¬ a = b) : sEq a b = false := by rw [bf_t, sEq_t]; exact h
theorem oCut_y {a b c : Int} (h : 0 ≤ a ∧ a ≤ b ∧ b ≤ c) : oCut a b c = true := by rw [oCut_t]; exact h
theorem oIn_y {a b : Int} (h : 0 ≤ a ∧ a < b) : oIn a b = true := by rw [oIn_t]; exact h
theorem lCap_y {α : Type} {c : Int} {l : List α} (h0 : 0 ≤ c) (hc : c ≤ 1000) (h : l.length ≤ 1000000) : lCap c l = true := by
  rw [lCap_t]
  unfold lLen
  have : ((l.length : Int)) * (c + 1) ≤ 1000000 * 1001 := Int.mul_le_mul (by omega) (by omega) (by omega) (by omega)
  omega
theorem sOk_y {a b : ByteArray} (h : (sBy a).length + (sBy b).length ≤ 100000000) : sOk a b = true := by
  rw [sOk_t, by_len, by_len]
  omega
theorem nt : bNot true = false := rfl
theorem nf : bNot false = true := rfl
theorem at_ft (b : Bool) : bAnd true b = b := by cases b <;> rfl
theorem at_ff (b : Bool) : bAnd false b = false := rfl
theorem or_tt (b : Bool) : bOr true b = true := rfl
theorem or_ff (b : Bool) : bOr false b = b := by cases b <;> rfl
end Go.Ev
end

section
set_option linter.unusedVariables false
set_option linter.unusedSimpArgs false
set_option linter.unnecessarySimpa false
open Go Go.Ev
namespace Go.Proofs.Ytagcodkkkebnhaa.K
abbrev SEG := Int × ByteArray
abbrev STO := List SEG × Int
abbrev FRM := Int × (Bool × (Bool × (Int × (Int × (ByteArray × (Int × Int))))))
abbrev REST := List FRM × (List Int × (Int × (Int × Int)))
abbrev PAG := STO × REST
theorem awake : F11 = some true := by kernel_rfl
theorem wf_fits {n : Int} (h : (Ty.int .i64).wf n) : fits n := by
  have h : (decide (IntKind.i64.min ≤ n) && decide (n ≤ IntKind.i64.max)) = true := h
  rw [Bool.and_eq_true, decide_eq_true_eq, decide_eq_true_eq] at h
  have h1 : IntKind.i64.min = -9223372036854775808 := by decide
  have h2 : IntKind.i64.max = 9223372036854775807 := by decide
  unfold fits
  omega
theorem lAt_n {α : Type} [Inhabited α] (l : List α) (i : Nat) : lAt l (i : Int) = (l[i]?).getD default := by unfold lAt; rw [Int.toNat_natCast]
theorem lAt_lt {α : Type} [Inhabited α] {l : List α} {i : Nat} (h : i < l.length) : lAt l (i : Int) = l[i] := by rw [lAt_n, List.getElem?_eq_getElem h]; rfl
/-- A store that is small. -/
def fewS (s : STO) : Prop := s.1.length ≤ 12 ∧ ∀ i, i < s.1.length → ¬ 400 < sLen (lAt s.1 (i : Int)).2
theorem F16_eq (s : STO) : (fewS s ∧ F16 s = some true) ∨ F16 s = some false := by
  unfold F16
  by_cases h : 12 < lLen s.1
  · rw [iLt_y h]; exact .inr rfl
  rw [iLt_f h, sel_f]
  have hl : s.1.length ≤ 12 := by unfold lLen at h; omega
  have hL : (∃ i, i < s.1.length ∧ 400 < sLen (lAt s.1 (i : Int)).2 ∧ (∀ k, k < i → ¬ 400 < sLen (lAt s.1 (k : Int)).2) ∧ L16_0 (s, 0) = some (.inr false)) ∨ ((∀ i, i < s.1.length → ¬ 400 < sLen (lAt s.1 (i : Int)).2) ∧ L16_0 (s, 0) = some (.inl ())) := by
    refine iter_first (fun i => (s, (i : Int))) (fun i => 400 < sLen (lAt s.1 (i : Int)).2) s.1.length (fun _ => Sum.inr false) (Sum.inl ()) (by omega) ?_ ?_ ?_
    · intro i hi hp
      show B16_0 s.1 s.2 i = some (.inl (s, ((i + 1 : Nat) : Int)))
      unfold B16_0
      rw [iLt_y (by unfold lLen; omega), oIn_y (by unfold lLen; omega), sel_t, sel_t, iLt_f hp, sel_f, add_n (by omega) (by omega)]
      rfl
    · intro i hi hp
      show B16_0 s.1 s.2 i = _
      unfold B16_0
      rw [iLt_y (by unfold lLen; omega), oIn_y (by unfold lLen; omega), sel_t, sel_t, iLt_y hp, sel_t]
    · show B16_0 s.1 s.2 s.1.length = _
      unfold B16_0
      rw [iLt_f (by unfold lLen; omega), sel_f]
  rcases hL with ⟨i, _, _, _, e⟩ | ⟨h1, e⟩
  · rw [e]; exact .inr rfl
  · rw [e]; exact .inl ⟨⟨hl, h1⟩, rfl⟩
/-- The error of a segment of a store. -/
def sgE (s : STO) (i : Nat) : Int :=
  if ¬ (1 ≤ (lAt s.1 (i : Int)).1 ∧ (lAt s.1 (i : Int)).1 ≤ s.2 - 1) then 3
  else if 0 < i ∧ (lAt s.1 (i : Int)).1 ≤ (lAt s.1 ((i : Int) - 1)).1 then 14
  else if ¬ sLen (lAt s.1 (i : Int)).2 % 32 = 0 ∨ ¬ (1 ≤ sLen (lAt s.1 (i : Int)).2 / 32 ∧ sLen (lAt s.1 (i : Int)).2 / 32 ≤ 8) then 18 else 0
theorem sLen_le (s : ByteArray) (h : sLen s ≤ 400) : fits (sLen s / 32) := by
  have := sLen_nn s
  unfold fits; omega
theorem rem32 (s : ByteArray) : iRem (sLen s) 32 = sLen s % 32 := by
  unfold iRem; exact Int.tmod_eq_emod_of_nonneg (sLen_nn s)
theorem quo32 (s : ByteArray) (h : sLen s ≤ 400) : iQuo .i64 (sLen s) 32 = sLen s / 32 := by
  unfold iQuo
  rw [Int.tdiv_eq_ediv_of_nonneg (sLen_nn s)]
  exact wrap_fits (sLen_le s h)
theorem B43_eq (s : STO) (i : Nat) (hf : fewS s) (hn : 1 ≤ s.2 ∧ s.2 ≤ 1001) (hi : i < s.1.length) : B43_0 s.1 s.2 s.1 (lLen s.1) i = if sgE s i = 0 then some (.inl (s, (s.1, (lLen s.1, ((i + 1 : Nat) : Int))))) else some (.inr (.inr ((i : Int), sgE s i))) := by
  have h4 := hf.2 i hi
  have hl := hf.1
  unfold B43_0 sgE
  rw [iLt_y (by unfold lLen; omega), oIn_y (by unfold lLen; omega), sel_t, sel_t, sub_n (by omega) (by omega), add_n (by omega) (by omega), rem32, quo32 _ (by omega), sub_n (by omega) (by omega)]
  simp only [let_s, F70, sel_if, not_t, bf_t, and_t, or_t, iLe_t, iLt_t, iEq_t, oNz_t, oIn_t, lLen]
  grind (splits := 40)
theorem B56_eq (s : STO) (i : Nat) (hf : fewS s) (hn : 1 ≤ s.2 ∧ s.2 ≤ 1001) (hi : i < s.1.length) : B56_0 s.1 s.2 i = if sgE s i = 0 then some (.inl (s, ((i + 1 : Nat) : Int))) else some (.inr (.inr ((i : Int), sgE s i))) := by
  have h4 := hf.2 i hi
  have hl := hf.1
  have e66 : F66 (lAt s.1 (i : Int)).2 = some (sLen (lAt s.1 (i : Int)).2 / 32) := by
    unfold F66
    rw [show oNz 32 = true from rfl, sel_t, quo32 _ (by omega)]
  unfold B56_0 sgE
  rw [iLt_y (by unfold lLen; omega), oIn_y (by unfold lLen; omega), sel_t, sel_t, sub_n (by omega) (by omega), add_n (by omega) (by omega), rem32, e66, sub_n (by omega) (by omega), okS_s, valS_s]
  simp only [let_s, F24, sel_if, not_t, bf_t, and_t, or_t, iLe_t, iLt_t, iEq_t, oNz_t, oIn_t, lLen]
  grind (splits := 40)
/-- The first segment that is wrong, with its error. -/
theorem L43_eq (s : STO) (hf : fewS s) (hn : 1 ≤ s.2 ∧ s.2 ≤ 1001) : (∃ i, i < s.1.length ∧ sgE s i ≠ 0 ∧ (∀ k, k < i → ¬ sgE s k ≠ 0) ∧ L43_0 (s, (s.1, (lLen s.1, 0))) = some (.inr ((i : Int), sgE s i))) ∨ ((∀ i, i < s.1.length → ¬ sgE s i ≠ 0) ∧ L43_0 (s, (s.1, (lLen s.1, 0))) = some (Sum.inl ())) := by
  have hl := hf.1
  refine iter_first (fun i => (s, (s.1, (lLen s.1, (i : Int))))) (fun i => sgE s i ≠ 0) s.1.length (fun i => Sum.inr ((i : Int), sgE s i)) (Sum.inl ()) (by omega) ?_ ?_ ?_
  · intro i hi hp
    show B43_0 s.1 s.2 s.1 (lLen s.1) i = _
    rw [B43_eq s i hf hn hi, if_pos (by simpa using hp)]
  · intro i hi hp
    show B43_0 s.1 s.2 s.1 (lLen s.1) i = _
    rw [B43_eq s i hf hn hi, if_neg hp]
  · show B43_0 s.1 s.2 s.1 (lLen s.1) s.1.length = _
    unfold B43_0
    rw [iLt_f (by unfold lLen; omega), sel_f]
theorem L56_eq (s : STO) (hf : fewS s) (hn : 1 ≤ s.2 ∧ s.2 ≤ 1001) : (∃ i, i < s.1.length ∧ sgE s i ≠ 0 ∧ (∀ k, k < i → ¬ sgE s k ≠ 0) ∧ L56_0 (s, 0) = some (.inr ((i : Int), sgE s i))) ∨ ((∀ i, i < s.1.length → ¬ sgE s i ≠ 0) ∧ L56_0 (s, 0) = some (Sum.inl ())) := by
  have hl := hf.1
  refine iter_first (fun i => (s, (i : Int))) (fun i => sgE s i ≠ 0) s.1.length (fun i => Sum.inr ((i : Int), sgE s i)) (Sum.inl ()) (by omega) ?_ ?_ ?_
  · intro i hi hp
    show B56_0 s.1 s.2 i = _
    rw [B56_eq s i hf hn hi, if_pos (by simpa using hp)]
  · intro i hi hp
    show B56_0 s.1 s.2 i = _
    rw [B56_eq s i hf hn hi, if_neg hp]
  · show B56_0 s.1 s.2 s.1.length = _
    unfold B56_0
    rw [iLt_f (by unfold lLen; omega), sel_f]
/-- A right store. -/
def okS0 (s : STO) : Prop := s.1.length ≤ 10 ∧ 1 ≤ s.2 ∧ s.2 ≤ 1001 ∧ ∀ i, i < s.1.length → sgE s i = 0
/-- Which stores are right: the program and the specification answer alike. -/
theorem F43_eq (s : STO) (hf : fewS s) (h2 : fits s.2) : (okS0 s ∧ F43 s = some (0, 0) ∧ F25 s = some 0) ∨ ∃ a c, c ≠ 0 ∧ F43 s = some (a, c) ∧ F25 s = some c := by
  have hl := hf.1
  unfold F43 F25 F56
  by_cases h : 10 < lLen s.1
  · rw [iLt_y h]; exact .inr ⟨0, 2, by decide, rfl, rfl⟩
  rw [iLt_f h]
  by_cases hn : 1 ≤ s.2 ∧ s.2 ≤ 1001
  · have e1 : F70 s.2 1 1001 = true := by unfold F70; rw [and_t, iLe_t, iLe_t]; exact hn
    have e2 : F24 s.2 1 1001 = true := by unfold F24; rw [and_t, iLe_t, iLe_t]; exact hn
    rw [e1, e2]
    simp only [let_s, nt, sel_f]
    rcases L43_eq s hf hn with ⟨i, hi, hp, hk, e⟩ | ⟨hk, e⟩ <;> rcases L56_eq s hf hn with ⟨j, hj, hq, hm, e'⟩ | ⟨hm, e'⟩
    · obtain rfl : i = j := by
        rcases Nat.lt_trichotomy i j with h | h | h
        · exact absurd hp (hm i h)
        · exact h
        · exact absurd hq (hk j h)
      exact .inr ⟨i, sgE s i, hp, by rw [e]; rfl, by rw [e']; rfl⟩
    · exact absurd hp (hm i hi)
    · exact absurd hq (hk j hj)
    · refine .inl ⟨⟨by unfold lLen at h; omega, hn.1, hn.2, fun i hi => Classical.not_not.1 (hk i hi)⟩, by rw [e]; rfl, by rw [e']; rfl⟩
  · have e1 : F70 s.2 1 1001 = false := by rw [bf_t]; unfold F70; rw [and_t, iLe_t, iLe_t]; exact hn
    have e2 : F24 s.2 1 1001 = false := by rw [bf_t]; unfold F24; rw [and_t, iLe_t, iLe_t]; exact hn
    rw [e1, e2]
    exact .inr ⟨0, 3, by decide, rfl, rfl⟩
end Go.Proofs.Ytagcodkkkebnhaa.K
end

section
set_option linter.unusedVariables false
set_option linter.unusedSimpArgs false
set_option linter.unnecessarySimpa false
open Go Go.Ev
namespace Go.Proofs.Ytagcodkkkebnhaa.K
theorem lApp_nil {α : Type} (l : List α) : lApp [] l = l := rfl
theorem bothS_same {α : Type} {x y : Option α} (h : x = y) : bothS x y = x := by unfold bothS both; rw [if_pos h]
theorem len_pos {α : Type} (a : α) (l : List α) : iLt 0 (lLen (a :: l)) = true := iLt_y (by unfold lLen; rw [List.length_cons]; omega)
theorem F78_nil : F78 [] = some [] := (show F78 [] = bothS (some []) (sel (lCap 24 (lApp ([] : List SEG) ([] : List SEG))) (some (lApp ([] : List SEG) ([] : List SEG))) none) from by kernel_rfl).trans (bothS_same (by kernel_rfl))
theorem F78_eq (l : List SEG) (h : l.length ≤ 1000000) : F78 l = some l := by
  cases l with
  | nil => exact F78_nil
  | cons a l => unfold F78; rw [len_pos, lApp_nil, lCap_y (by decide) (by decide) h]; rfl
theorem F79_nil : F79 [] = some [] := (show F79 [] = bothS (some []) (sel (lCap 64 (lApp ([] : List FRM) ([] : List FRM))) (some (lApp ([] : List FRM) ([] : List FRM))) none) from by kernel_rfl).trans (bothS_same (by kernel_rfl))
theorem F79_eq (l : List FRM) (h : l.length ≤ 1000000) : F79 l = some l := by
  cases l with
  | nil => exact F79_nil
  | cons a l => unfold F79; rw [len_pos, lApp_nil, lCap_y (by decide) (by decide) h]; rfl
theorem F80_nil : F80 [] = some [] := (show F80 [] = bothS (some []) (sel (lCap 8 (lApp ([] : List Int) ([] : List Int))) (some (lApp ([] : List Int) ([] : List Int))) none) from by kernel_rfl).trans (bothS_same (by kernel_rfl))
theorem F80_eq (l : List Int) (h : l.length ≤ 1000000) : F80 l = some l := by
  cases l with
  | nil => exact F80_nil
  | cons a l => unfold F80; rw [len_pos, lApp_nil, lCap_y (by decide) (by decide) h]; rfl
theorem F51_eq (x : PAG) (h1 : x.1.1.length ≤ 1000000) (h2 : x.2.1.length ≤ 1000000) (h3 : x.2.2.1.length ≤ 1000000) : F51 x = some (x.1.1, (x.1.2, x.2)) := by
  unfold F51
  rw [F78_eq _ h1, F79_eq _ h2, F80_eq _ h3]
  rfl
theorem F18_eq (s : STO) (h : s.1.length ≤ 1000000) : F18 s = some s := by
  unfold F18; rw [lCap_y (by decide) (by decide) h]; rfl
theorem F19_eq (l : List Int) (h : l.length ≤ 1000000) : F19 l = some l := by
  unfold F19; rw [lCap_y (by decide) (by decide) h]; rfl
theorem F14_eq (x : PAG) (h1 : x.1.1.length ≤ 1000000) (h2 : x.2.1.length ≤ 1000000) (h3 : x.2.2.1.length ≤ 1000000) : F14 x = some (x.1.1, (x.1.2, x.2)) := by
  unfold F14
  rw [F18_eq _ h1, F19_eq _ h3, lCap_y (by decide) (by decide) h2]
  rfl
theorem F35_self (s : STO) (h : s.1.length ≤ 1000000) : F35 s s = some true := by
  have hL : L35_0 (s, (s, 0)) = some (Sum.inl ()) := by
    refine iter_run (fun i => (s, (s, (i : Int)))) s.1.length (by omega) ?_ ?_
    · intro i hi
      show B35_0 s.1 s.2 s.1 s.2 i = some (.inl (s, (s, ((i + 1 : Nat) : Int))))
      unfold B35_0
      rw [iLt_y (by unfold lLen; omega), oIn_y (by unfold lLen; omega), iEq_y rfl, sEq_y rfl, add_n (by omega) (by omega)]
      rfl
    · show B35_0 s.1 s.2 s.1 s.2 s.1.length = _
      unfold B35_0
      rw [iLt_f (by unfold lLen; omega), sel_f]
  unfold F35
  rw [iEq_y rfl, iEq_y rfl, hL]
  rfl
theorem F29_self (l : List Int) (h : l.length ≤ 1000000) : F29 l l = some true := by
  have hL : L29_0 (l, (l, 0)) = some (Sum.inl ()) := by
    refine iter_run (fun i => (l, (l, (i : Int)))) l.length (by omega) ?_ ?_
    · intro i hi
      show B29_0 l l i = some (.inl (l, (l, ((i + 1 : Nat) : Int))))
      unfold B29_0
      rw [iLt_y (by unfold lLen; omega), oIn_y (by unfold lLen; omega), iEq_y rfl, add_n (by omega) (by omega)]
      rfl
    · show B29_0 l l l.length = _
      unfold B29_0
      rw [iLt_f (by unfold lLen; omega), sel_f]
  unfold F29
  rw [iEq_y rfl, hL]
  rfl
theorem bEq_y {a b : Bool} (h : a = b) : bEq a b = true := by rw [bEq_t]; exact h
theorem F21_self (x : PAG) (h1 : x.1.1.length ≤ 1000000) (h2 : x.2.1.length ≤ 1000000) (h3 : x.2.2.1.length ≤ 1000000) : F21 x x = some true := by
  have hL : L21_0 ((x.1.1, (x.1.2, x.2)), ((x.1.1, (x.1.2, x.2)), 0)) = some (Sum.inl ()) := by
    refine iter_run (fun i => ((x.1.1, (x.1.2, x.2)), ((x.1.1, (x.1.2, x.2)), (i : Int)))) x.2.1.length (by omega) ?_ ?_
    · intro i hi
      show B21_0 x.1.1 x.1.2 x.2.1 x.2.2.1 x.2.2.2.1 x.2.2.2.2.1 x.2.2.2.2.2 x.1.1 x.1.2 x.2.1 x.2.2.1 x.2.2.2.1 x.2.2.2.2.1 x.2.2.2.2.2 i = some (.inl ((x.1.1, (x.1.2, x.2)), ((x.1.1, (x.1.2, x.2)), ((i + 1 : Nat) : Int))))
      unfold B21_0
      rw [iLt_y (by unfold lLen; omega), oIn_y (by unfold lLen; omega)]
      simp only [iEq_y, sEq_y, bEq_y, at_ft, nt, sel_t, sel_f]
      rw [add_n (by omega) (by omega)]
      rfl
    · show B21_0 x.1.1 x.1.2 x.2.1 x.2.2.1 x.2.2.2.1 x.2.2.2.2.1 x.2.2.2.2.2 x.1.1 x.1.2 x.2.1 x.2.2.1 x.2.2.2.1 x.2.2.2.2.1 x.2.2.2.2.2 x.2.1.length = _
      unfold B21_0
      rw [iLt_f (by unfold lLen; omega), sel_f]
  unfold F21
  rw [F35_self _ h1, F29_self _ h3, bnd_s, okS_s, iEq_y rfl, iEq_y rfl, iEq_y rfl, iEq_y rfl, hL]
  rfl
def fr (p : Int) : FRM := (p, (false, (false, (0, (0, (bs [], (0, -1)))))))
def hd5 : List Int := [-1, -1, -1, -1, -1]
theorem heads : F50 [-1] 5 = some hd5 := by kernel_rfl
def poolOK (l : List Int) (i : Nat) : Prop := 0 ≤ lAt l (i : Int) ∧ lAt l (i : Int) ≤ 2
theorem take_fr (l : List Int) (i : Nat) (hi : i < l.length) : lApp ((l.take i).map fr) [fr (lAt l (i : Int))] = (l.take (i + 1)).map fr := by
  rw [List.take_add_one, List.getElem?_eq_getElem hi, List.map_append, lAt_lt hi]; rfl
abbrev z4 : Int × (Int × (Int × Int)) := (0, (0, (0, 0)))
abbrev z3 : Int × (Int × Int) := (0, (0, 0))
theorem L17_eq (s : STO) (l : List Int) (hl : l.length ≤ 10) (h1 : 1 ≤ l.length) :
    (∃ i, i < l.length ∧ ¬ poolOK l i ∧ (∀ k, k < i → ¬ ¬ poolOK l k) ∧ L17_0 (.inl (z4, ((s.1, (s.2, (hd5, z3))), (l, (lLen l, 0))))) = some (.inr (.inl (z4, 3)))) ∨
    ((∀ i, i < l.length → ¬ ¬ poolOK l i) ∧ L17_0 (.inl (z4, ((s.1, (s.2, (hd5, z3))), (l, (lLen l, 0))))) = some (.inr (.inr (z4, (s.1, (s.2, (l.map fr, (hd5, z3)))))))) := by
  refine iter_first (fun i => match i with | 0 => Sum.inl (z4, ((s.1, (s.2, (hd5, z3))), (l, (lLen l, (0 : Int))))) | k + 1 => Sum.inr (z4, ((s.1, (s.2, ((l.take (k + 1)).map fr, (hd5, z3)))), (l, (lLen l, ((k + 1 : Nat) : Int)))))) (fun i => ¬ poolOK l i) l.length (fun _ => Sum.inr (Sum.inl (z4, (3 : Int)))) (Sum.inr (Sum.inr (z4, (s.1, (s.2, (l.map fr, (hd5, z3)))))) ) (by omega) ?_ ?_ ?_
  · intro i hi hp
    have hp := Classical.not_not.1 hp
    have e : F44 (lAt l (i : Int)) 0 2 = true := by unfold F44; rw [and_t, iLe_t, iLe_t]; exact hp
    cases i with
    | zero =>
      show B17_0h0 0 0 0 0 s.1 s.2 hd5 0 0 0 l (lLen l) ((0 : Nat) : Int) = some (.inl (.inr (z4, ((s.1, (s.2, ((l.take 1).map fr, (hd5, z3)))), (l, (lLen l, ((0 + 1 : Nat) : Int)))))))
      rw [← take_fr l 0 hi]
      unfold B17_0h0
      rw [iLt_y (by unfold lLen; omega), oIn_y (by unfold lLen; omega), e, let_s, nt, sel_t, sel_t, sel_f, lCap_y (by decide) (by decide) (by simp)]
      rfl
    | succ k =>
      show B17_0h1 0 0 0 0 s.1 s.2 ((l.take (k + 1)).map fr) hd5 0 0 0 l (lLen l) ((k + 1 : Nat) : Int) = some (.inl (.inr (z4, ((s.1, (s.2, ((l.take (k + 1 + 1)).map fr, (hd5, z3)))), (l, (lLen l, ((k + 1 + 1 : Nat) : Int)))))))
      rw [← take_fr l (k + 1) hi]
      unfold B17_0h1
      rw [iLt_y (by unfold lLen; omega), oIn_y (by unfold lLen; omega), e, add_n (by omega) (by omega), let_s, nt, sel_t, sel_t, sel_f, lCap_y (by decide) (by decide) (by simp [lApp]; omega)]
      rfl
  · intro i hi hp
    have e : F44 (lAt l (i : Int)) 0 2 = false := by rw [bf_t]; unfold F44; rw [and_t, iLe_t, iLe_t]; exact hp
    cases i with
    | zero =>
      show B17_0h0 0 0 0 0 s.1 s.2 hd5 0 0 0 l (lLen l) ((0 : Nat) : Int) = _
      unfold B17_0h0
      rw [iLt_y (by unfold lLen; omega), oIn_y (by unfold lLen; omega), e]
      rfl
    | succ k =>
      show B17_0h1 0 0 0 0 s.1 s.2 ((l.take (k + 1)).map fr) hd5 0 0 0 l (lLen l) ((k + 1 : Nat) : Int) = _
      unfold B17_0h1
      rw [iLt_y (by unfold lLen; omega), oIn_y (by unfold lLen; omega), e]
      rfl
  · obtain ⟨k, hk⟩ : ∃ k, l.length = k + 1 := ⟨l.length - 1, by omega⟩
    rw [hk]
    show B17_0h1 0 0 0 0 s.1 s.2 ((l.take (k + 1)).map fr) hd5 0 0 0 l (lLen l) ((k + 1 : Nat) : Int) = _
    unfold B17_0h1
    rw [iLt_f (by unfold lLen; omega), sel_f, ← hk, List.take_length]
end Go.Proofs.Ytagcodkkkebnhaa.K
end

section
set_option linter.unusedVariables false
set_option linter.unusedSimpArgs false
set_option linter.unnecessarySimpa false
open Go Go.Ev
namespace Go.Proofs.Ytagcodkkkebnhaa.K
theorem L20_eq (s : STO) (l : List Int) (hl : l.length ≤ 10) (h1 : 1 ≤ l.length) :
    (∃ i, i < l.length ∧ ¬ poolOK l i ∧ (∀ k, k < i → ¬ ¬ poolOK l k) ∧ L20_0 (.inl (l, (z4, ((s.1, (s.2, z3)), 0)))) = some (.inr (.inl (z4, 3)))) ∨
    ((∀ i, i < l.length → ¬ ¬ poolOK l i) ∧ L20_0 (.inl (l, (z4, ((s.1, (s.2, z3)), 0)))) = some (.inr (.inr (z4, (s.1, (s.2, (l.map fr, z3))))))) := by
  refine iter_first (fun i => match i with | 0 => Sum.inl (l, (z4, ((s.1, (s.2, z3)), (0 : Int)))) | k + 1 => Sum.inr (l, (z4, ((s.1, (s.2, ((l.take (k + 1)).map fr, z3))), ((k + 1 : Nat) : Int))))) (fun i => ¬ poolOK l i) l.length (fun _ => Sum.inr (Sum.inl (z4, (3 : Int)))) (Sum.inr (Sum.inr (z4, (s.1, (s.2, (l.map fr, z3)))))) (by omega) ?_ ?_ ?_
  · intro i hi hp
    have hp := Classical.not_not.1 hp
    have e : F52 (lAt l (i : Int)) = true := by unfold F52 F24; rw [let_s, and_t, iLe_t, iLe_t]; exact hp
    cases i with
    | zero =>
      show B20_0h0 l 0 0 0 0 s.1 s.2 0 0 0 ((0 : Nat) : Int) = some (.inl (.inr (l, (z4, ((s.1, (s.2, ((l.take 1).map fr, z3))), ((0 + 1 : Nat) : Int))))))
      rw [← take_fr l 0 hi]
      unfold B20_0h0
      rw [iLt_y (by unfold lLen; omega), oIn_y (by unfold lLen; omega), e, let_s, nt, sel_t, sel_t, sel_f, sel_t, lCap_y (by decide) (by decide) (by simp)]
      rfl
    | succ k =>
      show B20_0h1 l 0 0 0 0 s.1 s.2 ((l.take (k + 1)).map fr) 0 0 0 ((k + 1 : Nat) : Int) = some (.inl (.inr (l, (z4, ((s.1, (s.2, ((l.take (k + 1 + 1)).map fr, z3))), ((k + 1 + 1 : Nat) : Int))))))
      rw [← take_fr l (k + 1) hi]
      unfold B20_0h1
      rw [iLt_y (by unfold lLen; omega), oIn_y (by unfold lLen; omega), e, add_n (by omega) (by omega), let_s, nt, sel_t, sel_t, sel_f, sel_t, lCap_y (by decide) (by decide) (by simp [lApp]; omega)]
      rfl
  · intro i hi hp
    have e : F52 (lAt l (i : Int)) = false := by rw [bf_t]; unfold F52 F24; rw [let_s, and_t, iLe_t, iLe_t]; exact hp
    cases i with
    | zero =>
      show B20_0h0 l 0 0 0 0 s.1 s.2 0 0 0 ((0 : Nat) : Int) = _
      unfold B20_0h0
      rw [iLt_y (by unfold lLen; omega), oIn_y (by unfold lLen; omega), e]
      rfl
    | succ k =>
      show B20_0h1 l 0 0 0 0 s.1 s.2 ((l.take (k + 1)).map fr) 0 0 0 ((k + 1 : Nat) : Int) = _
      unfold B20_0h1
      rw [iLt_y (by unfold lLen; omega), oIn_y (by unfold lLen; omega), e]
      rfl
  · obtain ⟨k, hk⟩ : ∃ k, l.length = k + 1 := ⟨l.length - 1, by omega⟩
    rw [hk]
    show B20_0h1 l 0 0 0 0 s.1 s.2 ((l.take (k + 1)).map fr) 0 0 0 ((k + 1 : Nat) : Int) = _
    unfold B20_0h1
    rw [iLt_f (by unfold lLen; omega), sel_f, ← hk, List.take_length]
theorem L20b_eq (a : List SEG) (b : Int) (f : List FRM) : L20_2_1 (.inl (z4, ((a, (b, (f, z3))), 0))) = some (.inr (z4, (a, (b, (f, (hd5, z3)))))) := by kernel_rfl
def noP : List SEG × (Int × (List FRM × (List Int × (Int × (Int × Int))))) := ([], (0, ([], ([], (0, (0, 0))))))
/-- A memory without pages: the program and the specification answer alike. -/
theorem begin_eq (s : STO) (l : List Int) (hf : fewS s) (h2 : fits s.2) (hl : l.length ≤ 10) :
    (okS0 s ∧ 1 ≤ l.length ∧ l.length ≤ 8 ∧ (∀ i, i < l.length → poolOK l i) ∧ F17 s l = some ((s.1, (s.2, (l.map fr, (hd5, z3)))), 0) ∧ F20 s l = some ((s.1, (s.2, (l.map fr, (hd5, z3)))), 0)) ∨
    ∃ c, c ≠ 0 ∧ F17 s l = some (noP, c) ∧ F20 s l = some (noP, c) := by
  unfold F17 F20
  rcases F43_eq s hf h2 with ⟨hok, e1, e2⟩ | ⟨a, c, hc, e1, e2⟩
  · rw [e1, e2, bnd_s, bnd_s, iEq_y rfl, nt, sel_f, sel_f]
    by_cases hw : 1 ≤ l.length ∧ l.length ≤ 8
    · have w1 : F44 (lLen l) 1 8 = true := by unfold F44 lLen; rw [and_t, iLe_t, iLe_t]; omega
      have w2 : F24 (lLen l) 1 8 = true := by unfold F24 lLen; rw [and_t, iLe_t, iLe_t]; omega
      rw [w1, w2, F18_eq _ (by have := hf.1; omega), heads]
      simp only [let_s, nt, sel_f, bnd_s]
      rcases L17_eq s l hl hw.1 with ⟨i, hi, hp, _, e3⟩ | ⟨hk, e3⟩ <;> rcases L20_eq s l hl hw.1 with ⟨j, hj, hq, _, e4⟩ | ⟨hm, e4⟩
      · rw [e3, e4]
        exact .inr ⟨3, by decide, rfl, rfl⟩
      · exact absurd hp (hm i hi)
      · exact absurd hq (hk j hj)
      · rw [e3, e4]
        refine .inl ⟨hok, hw.1, hw.2, fun i hi => Classical.not_not.1 (hk i hi), ?_, ?_⟩
        · show bndS (F51 ((s.1, s.2), (l.map fr, (hd5, z3)))) _ = _
          rw [F51_eq _ (by have := hf.1; show s.1.length ≤ _; omega) (by simp; omega) (by show hd5.length ≤ _; decide)]
          rfl
        · simp only [bnd_s, sumS]
          rw [L20b_eq]
          rfl
    · have w1 : F44 (lLen l) 1 8 = false := by rw [bf_t]; unfold F44 lLen; rw [and_t, iLe_t, iLe_t]; omega
      have w2 : F24 (lLen l) 1 8 = false := by rw [bf_t]; unfold F24 lLen; rw [and_t, iLe_t, iLe_t]; omega
      rw [w1, w2]
      exact .inr ⟨6, by decide, rfl, rfl⟩
  · rw [e1, e2, bnd_s, bnd_s, iEq_f hc]
    exact .inr ⟨c, hc, rfl, rfl⟩
end Go.Proofs.Ytagcodkkkebnhaa.K
end

section
set_option linter.unusedVariables false
set_option linter.unusedSimpArgs false
set_option linter.unnecessarySimpa false
open Go.Ev
namespace Go.Proofs.Ytagcodkkkebnhaa.Pure
open Go.Proofs.Ytagcodkkkebnhaa.K
theorem begins (x0 : STO) (x1 : List Int) (h2 : fits x0.2) : F4 x0 x1 = some true := by
  unfold F4
  rw [awake, bnd_s, nt, sel_f]
  rcases F16_eq x0 with ⟨hf, e⟩ | e
  · rw [e, bnd_s, nt]
    by_cases hl : 10 < lLen x1
    · rw [iLt_y hl]; rfl
    rw [iLt_f hl, or_ff, sel_f, F18_eq _ (by have := hf.1; omega), F19_eq _ (by unfold lLen at hl; omega), bnd_s, bnd_s]
    have hl' : x1.length ≤ 10 := by unfold lLen at hl; omega
    rcases begin_eq x0 x1 hf h2 hl' with ⟨_, _, _, _, e1, e2⟩ | ⟨c, hc, e1, e2⟩
    · rw [e1, e2, bnd_s, bnd_s, F21_self _ (by have := hf.1; show x0.1.length ≤ _; omega) (by show (x1.map fr).length ≤ _; simp; omega) (by show hd5.length ≤ _; decide), iEq_y rfl]
      rfl
    · rw [e1, e2, bnd_s, bnd_s, F21_self _ (by show (0 : Nat) ≤ _; decide) (by show (0 : Nat) ≤ _; decide) (by show (0 : Nat) ≤ _; decide), iEq_y rfl]
      rfl
  · rw [e]; rfl
set_option maxRecDepth 100000 in
theorem PagingBegins (x0 : ((.pr (.sl (.pr (.int .i64) .str)) (.int .i64)) : Ty).T) (x1 : ((.sl (.int .i64)) : Ty).T) (h0 : ((.pr (.sl (.pr (.int .i64) .str)) (.int .i64)) : Ty).wf x0) (_h1 : ((.sl (.int .i64)) : Ty).wf x1) : K.gF4.F (x0, x1) = some true :=
  begins x0 x1 (wf_fits h0.2)
end Go.Proofs.Ytagcodkkkebnhaa.Pure
end
