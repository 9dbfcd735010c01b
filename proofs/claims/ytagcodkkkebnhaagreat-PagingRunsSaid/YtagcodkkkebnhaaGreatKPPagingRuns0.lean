/- A part of the proof: texts of the author, joined. -/
import Derived.Test.YtagcodkkkebnhaaGreatKS3
import Derived.Laws.Strings
section
set_option linter.unusedVariables false
set_option linter.unusedSimpArgs false
set_option linter.unnecessarySimpa false
namespace Go.Ev
open Go
/-! ## Words, read as0 plain Lean -/
theorem sel_if {α : Type} (b : Bool) (x y : α) : sel b x y = if b = true then x else y := by cases b <;> rfl
theorem sel_t {α : Type} (x y : α) : sel true x y = x := rfl
theorem sel_f {α : Type} (x y : α) : sel false x y = y := rfl
theorem bnd_s {α β : Type} (a : α) (k : α → Option β) : bndS (some a) k = k a := rfl
theorem bnd_n {α β : Type} (k : α → Option β) : bndS none k = none := rfl
theorem let_s {α β : Type} (x : α) (k : α → β) : letS x k = k x := rfl
theorem not_b (b : Bool) : bNot b = !b := by cases b <;> rfl
theorem and_b (a b : Bool) : bAnd a b = (a && b) := by cases a <;> rfl
theorem or_b (a b : Bool) : bOr a b = (a || b) := by cases a <;> rfl
/-- A word that fits. -/
def fits (n : Int) : Prop := -9223372036854775808 ≤ n ∧ n ≤ 9223372036854775807
theorem wrap_fits {n : Int} (h : fits n) : IntKind.i64.wrap n = n := by
  obtain ⟨h1, h2⟩ := h
  unfold IntKind.wrap
  simp [IntKind.bits, IntKind.signed]
  omega
theorem add_w {a b : Int} (h : fits (a + b)) : iAdd .i64 a b = a + b := wrap_fits h
theorem sub_w {a b : Int} (h : fits (a - b)) : iSub .i64 a b = a - b := wrap_fits h
theorem mul_w {a b : Int} (h : fits (a * b)) : iMul .i64 a b = a * b := wrap_fits h
theorem cv_w {a : Int} (h : fits a) : iCv .i64 a = a := wrap_fits h
/-! ### Strings as0 lists of bytes -/
theorem by_len (s : ByteArray) : sLen s = (sBy s).length := by
  unfold sLen sBy
  rw [List.length_map, Array.length_toList]
  rfl
theorem by_at (s : ByteArray) (n : Int) : sAt s n = ((sBy s)[n.toNat]?).getD 0 := by
  unfold sAt sBy
  rw [List.getElem?_map]
  have : s[n.toNat]? = s.data.toList[n.toNat]? := by
    rw [Array.getElem?_toList]
    by_cases h : n.toNat < s.size
    · rw [getElem?_pos s _ h, getElem?_pos s.data _ h]; rfl
    · rw [getElem?_neg s _ h, getElem?_neg s.data _ h]
  rw [this]
  cases s.data.toList[n.toNat]? <;> rfl
theorem by_cut (s : ByteArray) (lo hi : Int) : sBy (sCut s lo hi) = ((sBy s).take hi.toNat).drop lo.toNat := by
  unfold sCut sBy
  rw [ByteArray.data_extract, Array.toList_extract, List.extract_eq_take_drop, ← List.map_take, ← List.map_drop, List.drop_take]
theorem by_add (a b : ByteArray) : sBy (sAdd a b) = sBy a ++ sBy b := by
  simp [sBy, sAdd, ByteArray.data_append]
theorem by_inj {a b : ByteArray} (h : sBy a = sBy b) : a = b := by
  have h2 : a.data.toList = b.data.toList := by
    have := congrArg (List.map fun n : Int => UInt8.ofNat n.toNat) h
    simpa [sBy, Function.comp_def] using this
  cases a; cases b
  simp only at h2
  congr
  exact Array.ext' h2
theorem ba_toList (s : ByteArray) : s.toList = s.data.toList := by
  exact ByteArray.toList_eq s
theorem eq_b (a b : ByteArray) : sEq a b = decide (a = b) := by
  unfold sEq
  rw [ba_toList, ba_toList, Bool.eq_iff_iff]
  simp only [beq_iff_eq, decide_eq_true_eq]
  constructor
  · intro h; cases a; cases b; simp only at h; congr; exact Array.ext' h
  · intro h; rw [h]
theorem by_byte (s : ByteArray) : ∀ n ∈ sBy s, 0 ≤ n ∧ n < 256 := by
  intro n hn
  unfold sBy at hn
  obtain ⟨b, _, rfl⟩ := List.mem_map.1 hn
  have := b.toNat_lt
  omega
/-! ### Loops -/
theorem iter_s {σ ρ : Type} {B : σ → Option (σ ⊕ ρ)} {n : Nat} {x y : σ} (h : B x = some (.inl y)) : iter B (n + 1) x = iter B n y := by
  show (match B x with | some (.inl y) => iter B n y | some (.inr r) => some r | none => none) = _
  rw [h]
theorem iter_e {σ ρ : Type} {B : σ → Option (σ ⊕ ρ)} {n : Nat} {x : σ} {r : ρ} (h : B x = some (.inr r)) : iter B (n + 1) x = some r := by
  show (match B x with | some (.inl y) => iter B n y | some (.inr r) => some r | none => none) = _
  rw [h]
/-- A loop that counts up to its end. -/
theorem iter_up {σ ρ : Type} {B : σ → Option (σ ⊕ ρ)} {st : Nat → σ} {r : ρ} {m : Nat} (hs : ∀ i, i < m → B (st i) = some (.inl (st (i + 1)))) (he : B (st m) = some (.inr r)) : ∀ (d i n : Nat), i + d = m → d < n → iter B n (st i) = some r := by
  intro d
  induction d with
  | zero =>
    intro i n hi hn
    obtain ⟨n, rfl⟩ : ∃ q, n = q + 1 := ⟨n - 1, by omega⟩
    obtain rfl : i = m := by omega
    exact iter_e he
  | succ d ih =>
    intro i n hi hn
    obtain ⟨n, rfl⟩ : ∃ q, n = q + 1 := ⟨n - 1, by omega⟩
    rw [iter_s (hs i (by omega))]
    exact ih (i + 1) n (by omega) (by omega)
theorem iter_run {σ ρ : Type} {B : σ → Option (σ ⊕ ρ)} (st : Nat → σ) {r : ρ} (m : Nat) (hm : m < 10000000) (hs : ∀ i, i < m → B (st i) = some (.inl (st (i + 1)))) (he : B (st m) = some (.inr r)) : iter B fuel (st 0) = some r :=
  iter_up hs he m 0 _ (by omega) hm
theorem or_w {a b : Int} (ha : 0 ≤ a) (ha' : a < 36028797018963968) (hb : 0 ≤ b) (hb' : b < 256) : iOr .i64 (iShl .i64 a 8) b = a * 256 + b := by
  obtain ⟨x, rfl⟩ := Int.eq_ofNat_of_zero_le ha
  obtain ⟨y, rfl⟩ := Int.eq_ofNat_of_zero_le hb
  have h1 : iShl .i64 (x : Int) 8 = ((x * 256 : Nat) : Int) := by
    unfold iShl
    rw [wrap_fits (by unfold fits; simp [IntKind.bits]; omega)]
    simp [IntKind.bits]
  rw [h1]
  unfold iOr
  have h2 : (BitVec.ofInt IntKind.i64.bits ((x * 256 : Nat) : Int) ||| BitVec.ofInt IntKind.i64.bits (y : Int)).toNat = x * 256 + y := by
    rw [BitVec.toNat_or, BitVec.ofInt_natCast, BitVec.ofInt_natCast, BitVec.toNat_ofNat, BitVec.toNat_ofNat]
    rw [Nat.mod_eq_of_lt (by simp [IntKind.bits]; omega), Nat.mod_eq_of_lt (by simp [IntKind.bits]; omega)]
    have := Nat.shiftLeft_add_eq_or_of_lt (b := y) (i := 8) (by omega) x
    rw [Nat.shiftLeft_eq] at this
    simpa using this.symm
  rw [h2, wrap_fits (by unfold fits; omega)]
  simp
end Go.Ev
end

section
set_option linter.unusedVariables false
set_option linter.unusedSimpArgs false
set_option linter.unnecessarySimpa false
namespace Go.Ev
open Go
/-! ## Words, as0 plain conditions -/
theorem not_t (b : Bool) : (bNot b = true) = (b = false) := by cases b <;> simp [bNot, sel]
theorem and_t (a b : Bool) : (bAnd a b = true) = (a = true ∧ b = true) := by cases a <;> simp [bAnd, sel]
theorem or_t (a b : Bool) : (bOr a b = true) = (a = true ∨ b = true) := by cases a <;> simp [bOr, sel]
theorem selB_t (a b c : Bool) : (sel a b c = true) = ((a = true ∧ b = true) ∨ (a = false ∧ c = true)) := by cases a <;> simp [sel]
theorem bEq_t (a b : Bool) : (bEq a b = true) = (a = b) := by cases a <;> cases b <;> simp [bEq]
theorem iEq_t (a b : Int) : (iEq a b = true) = (a = b) := by simp [iEq]
theorem iLt_t (a b : Int) : (iLt a b = true) = (a < b) := by simp [iLt]
theorem iLe_t (a b : Int) : (iLe a b = true) = (a ≤ b) := by simp [iLe]
theorem oNz_t (b : Int) : (oNz b = true) = (b ≠ 0) := by simp [oNz]
theorem oIn_t (n l : Int) : (oIn n l = true) = (0 ≤ n ∧ n < l) := by simp [oIn]
theorem oCut_t (a b l : Int) : (oCut a b l = true) = (0 ≤ a ∧ a ≤ b ∧ b ≤ l) := by simp [oCut]
theorem sEq_t (a b : ByteArray) : (sEq a b = true) = (a = b) := by rw [eq_b]; simp
theorem sOk_t (a b : ByteArray) : (sOk a b = true) = (sLen a + sLen b ≤ 9223372036854775807) := by
  unfold sOk sLen
  rw [decide_eq_true_eq]
  exact propext ⟨fun h => by omega, fun h => by omega⟩
theorem lCap_t {α : Type} (c : Int) (l : List α) : (lCap c l = true) = (lLen l * (c + 1) ≤ 140737488355328) := by simp [lCap, lLen]
theorem nCap_t (c n : Int) : (nCap c n = true) = (0 ≤ n ∧ n * (c + 1) ≤ 140737488355328) := by simp [nCap]
theorem okS_t {α : Type} (x : Option α) : (okS x = true) = (∃ a, x = some a) := by cases x <;> simp [okS]
theorem okS_s {α : Type} (a : α) : okS (some a) = true := rfl
theorem valS_s {α : Type} (a d : α) : valS (some a) d = a := rfl
theorem bf_t (b : Bool) : (b = false) = ¬ (b = true) := by cases b <;> simp
theorem sLen_nn (s : ByteArray) : 0 ≤ sLen s := by unfold sLen; omega
theorem lLen_nn {α : Type} (l : List α) : 0 ≤ lLen l := by unfold lLen; omega
/-- A result that is there, and what is known of it. -/
def Ok {α : Type} (x : Option α) (Q : α → Prop) : Prop := ∃ a, x = some a ∧ Q a
theorem Ok.mono {α : Type} {x : Option α} {Q R : α → Prop} (h : Ok x Q) (k : ∀ a, Q a → R a) : Ok x R := by obtain ⟨a, e, q⟩ := h; exact ⟨a, e, k a q⟩
theorem ok_some {α : Type} {a : α} {Q : α → Prop} : Ok (some a) Q = Q a := propext ⟨fun ⟨_, e, q⟩ => (by cases e; exact q), fun q => ⟨a, rfl, q⟩⟩
theorem ok_none {α : Type} {Q : α → Prop} : Ok (none : Option α) Q = False := propext ⟨fun ⟨_, e, _⟩ => (by cases e), fun h => h.elim⟩
theorem ok_sel {α : Type} {b : Bool} {x y : Option α} {Q : α → Prop} : Ok (sel b x y) Q = ((b = true → Ok x Q) ∧ (¬ b = true → Ok y Q)) := by
  cases b
  · show Ok y Q = _; simp
  · show Ok x Q = _; simp
theorem ok_bnd {α β : Type} {x : Option α} {k : α → Option β} {Q : β → Prop} : Ok (bndS x k) Q = Ok x (fun a => Ok (k a) Q) := by
  cases x with
  | none => exact propext ⟨fun ⟨_, e, _⟩ => (by cases e), fun ⟨_, e, _⟩ => (by cases e)⟩
  | some a => exact (ok_some (Q := fun a => Ok (k a) Q)).symm
theorem ok_let {α β : Type} {x : α} {k : α → Option β} {Q : β → Prop} : Ok (letS x k) Q = Ok (k x) Q := rfl
theorem ok_sumL {α β γ : Type} {a : α} {f : α → Option γ} {g : β → Option γ} {Q : γ → Prop} : Ok (sumS (.inl a) f g) Q = Ok (f a) Q := rfl
theorem ok_sumR {α β γ : Type} {a : β} {f : α → Option γ} {g : β → Option γ} {Q : γ → Prop} : Ok (sumS (.inr a) f g) Q = Ok (g a) Q := rfl
theorem ok_eq {α : Type} {x : Option α} {a : α} {Q : α → Prop} (e : x = some a) : Ok x Q = Q a := by rw [e, ok_some]
theorem ok_is {α : Type} {x : Option α} {a : α} : Ok x (fun b => b = a) = (x = some a) := propext ⟨fun ⟨_, e, q⟩ => (by rw [e, q]), fun e => ⟨a, e, rfl⟩⟩
/-- A loop with an invariant and a number that goes down. -/
theorem iter_inv {σ ρ : Type} {B : σ → Option (σ ⊕ ρ)} (I : Nat → σ → Prop) {Q : ρ → Prop} (h : ∀ m x, I m x → Ok (B x) (fun r => match r with | .inl y => ∃ k, k < m ∧ I k y | .inr r => Q r)) : ∀ (n m : Nat) (x : σ), I m x → m < n → Ok (iter B n x) Q := by
  intro n
  induction n with
  | zero => intro m x _ hn; omega
  | succ n ih =>
    intro m x hi hn
    obtain ⟨a, e, q⟩ := h m x hi
    cases a with
    | inl y =>
      obtain ⟨k, hk, hik⟩ := q
      rw [iter_s e]
      exact ih k y hik (by omega)
    | inr r =>
      rw [iter_e e]
      exact ⟨r, rfl, q⟩
theorem loop_inv {σ ρ : Type} {B : σ → Option (σ ⊕ ρ)} {Q : ρ → Prop} {x : σ} (I : Nat → σ → Prop) (m : Nat) (hx : I m x) (hm : m < 10000000) (h : ∀ m x, I m x → Ok (B x) (fun r => match r with | .inl y => ∃ k, k < m ∧ I k y | .inr r => Q r)) : Ok (iter B fuel x) Q :=
  iter_inv I h _ m x hx (by unfold fuel; omega)
/-- Two loops that go side by side. -/
theorem iter_two {σ τ ρ π : Type} {B : σ → Option (σ ⊕ ρ)} {C : τ → Option (τ ⊕ π)} (I : Nat → σ → τ → Prop) {Q : ρ → π → Prop} (h : ∀ m x y, I m x y → (∃ k x' y', k < m ∧ B x = some (.inl x') ∧ C y = some (.inl y') ∧ I k x' y') ∨ ∃ r s, B x = some (.inr r) ∧ C y = some (.inr s) ∧ Q r s) : ∀ (n m : Nat) (x : σ) (y : τ), I m x y → m < n → ∃ r s, iter B n x = some r ∧ iter C n y = some s ∧ Q r s := by
  intro n
  induction n with
  | zero => intro m x y _ hn; omega
  | succ n ih =>
    intro m x y hi hn
    rcases h m x y hi with ⟨k, x', y', hk, e1, e2, hi'⟩ | ⟨r, s, e1, e2, q⟩
    · rw [iter_s e1, iter_s e2]
      exact ih k x' y' hi' (by omega)
    · exact ⟨r, s, iter_e e1, iter_e e2, q⟩
theorem loop_two {σ τ ρ π : Type} {B : σ → Option (σ ⊕ ρ)} {C : τ → Option (τ ⊕ π)} {Q : ρ → π → Prop} {x : σ} {y : τ} (I : Nat → σ → τ → Prop) (m : Nat) (hx : I m x y) (hm : m < 10000000) (h : ∀ m x y, I m x y → (∃ k x' y', k < m ∧ B x = some (.inl x') ∧ C y = some (.inl y') ∧ I k x' y') ∨ ∃ r s, B x = some (.inr r) ∧ C y = some (.inr s) ∧ Q r s) : ∃ r s, iter B fuel x = some r ∧ iter C fuel y = some s ∧ Q r s :=
  iter_two I h _ m x y hx (by unfold fuel; omega)
theorem mul_ite {c : Int} (h : fits c) (p : Prop) [Decidable p] : iMul .i64 c (if p then 1 else 0) = if p then c else 0 := by
  by_cases hp : p
  · rw [if_pos hp, if_pos hp, mul_w (by rw [Int.mul_one]; exact h), Int.mul_one]
  · rw [if_neg hp, if_neg hp, mul_w (by rw [Int.mul_zero]; unfold fits; omega), Int.mul_zero]
/-! ### Arithmetic that stays in bounds -/
theorem add_n {a b : Int} (h1 : -9223372036854775808 ≤ a + b) (h2 : a + b ≤ 9223372036854775807) : iAdd .i64 a b = a + b := add_w ⟨h1, h2⟩
theorem sub_n {a b : Int} (h1 : -9223372036854775808 ≤ a - b) (h2 : a - b ≤ 9223372036854775807) : iSub .i64 a b = a - b := sub_w ⟨h1, h2⟩
theorem mul_n {a b : Int} (h1 : -9223372036854775808 ≤ a * b) (h2 : a * b ≤ 9223372036854775807) : iMul .i64 a b = a * b := mul_w ⟨h1, h2⟩
theorem cv_n {a : Int} (h1 : -9223372036854775808 ≤ a) (h2 : a ≤ 9223372036854775807) : iCv .i64 a = a := cv_w ⟨h1, h2⟩
theorem app_len {α : Type} (l m : List α) : lLen (lApp l m) = lLen l + lLen m := by simp [lLen, lApp]
theorem set_len {α : Type} (l : List α) (n : Int) (x : α) : lLen (lSet l n x) = lLen l := by simp [lLen, lSet]
theorem one_len {α : Type} (x : α) : lLen [x] = 1 := by simp [lLen]
theorem nil_len {α : Type} : lLen ([] : List α) = 0 := by simp [lLen]
theorem sadd_len (a b : ByteArray) : sLen (sAdd a b) = sLen a + sLen b := by simp [sLen, sAdd, ByteArray.size_append]
theorem scut_len (s : ByteArray) {a b : Int} (h0 : 0 ≤ a) (h1 : a ≤ b) (h2 : b ≤ sLen s) : sLen (sCut s a b) = b - a := by
  rw [by_len] at h2
  rw [by_len, by_cut, List.length_drop, List.length_take]
  omega
end Go.Ev
end

section
set_option linter.unusedVariables false
set_option linter.unusedSimpArgs false
set_option linter.unnecessarySimpa false
namespace Go.Ev
open Go
/-! ## Numbers as0 bytes, the highest first -/
def bigB (n : Int) : Nat → List Int
  | 0 => []
  | k + 1 => bigB (n / 256) k ++ [n % 256]
theorem bigB_len : ∀ (k : Nat) (n : Int), (bigB n k).length = k
  | 0, _ => rfl
  | k + 1, n => by unfold bigB; rw [List.length_append, bigB_len k]; rfl
theorem bigB_front : ∀ (j : Nat) (n : Int), bigB n (j + 1) = (n / 256 ^ j) % 256 :: bigB n j
  | 0, n => by simp [bigB]
  | j + 1, n => by
    have ih := bigB_front j (n / 256)
    show bigB (n / 256) (j + 1) ++ [n % 256] = _
    rw [ih, Int.ediv_ediv_of_nonneg (by decide), Int.mul_comm, ← Int.pow_succ]
    rfl
theorem bigB_byte : ∀ (k : Nat) (n : Int), ∀ b ∈ bigB n k, 0 ≤ b ∧ b < 256
  | 0, n, b, h => by cases h
  | k + 1, n, b, h => by
    unfold bigB at h
    rcases List.mem_append.1 h with h | h
    · exact bigB_byte k _ b h
    · rw [List.mem_singleton.1 h]
      omega
theorem by_sOf {l : List Int} (h : ∀ b ∈ l, 0 ≤ b ∧ b < 256) : sBy (sOf l) = l := by
  have gen : ∀ (l : List Int) (a : ByteArray), (∀ b ∈ l, 0 ≤ b ∧ b < 256) → sBy (l.foldl (fun r n => r.push (UInt8.ofNat n.toNat)) a) = sBy a ++ l := by
    intro l
    induction l with
    | nil => intro a _; simp
    | cons b l ih =>
      intro a h
      rw [List.foldl_cons, ih _ (fun c hc => h c (List.mem_cons_of_mem _ hc))]
      have hb := h b (List.mem_cons_self ..)
      have : sBy (a.push (UInt8.ofNat b.toNat)) = sBy a ++ [b] := by
        unfold sBy
        rw [ByteArray.data_push, Array.toList_push, List.map_append]
        congr 1
        simp only [List.map_cons, List.map_nil]
        congr 1
        rw [UInt8.toNat_ofNat']
        omega
      rw [this]
      simp
  unfold sOf mkBytes
  rw [gen l ByteArray.empty h]
  rfl
theorem byte_shr {n : Int} (h0 : 0 ≤ n) (j : Nat) (hj : j < 8) : iCv .u8 (iShr .i64 n (iMul .i64 8 (j : Int))) = (n / 256 ^ j) % 256 := by
  have h1 : iMul .i64 8 (j : Int) = ((8 * j : Nat) : Int) := by rw [mul_w (by unfold fits; omega)]; omega
  rw [h1]
  unfold iShr
  have h2 : min ((8 * j : Nat) : Int).toNat IntKind.i64.bits = 8 * j := by simp [IntKind.bits]; omega
  rw [h2, Int.pow_mul, Int.fdiv_eq_ediv_of_nonneg _ (by exact Int.le_of_lt (Int.pow_pos (by decide)))]
  show IntKind.wrap .u8 _ = _
  unfold IntKind.wrap
  simp [IntKind.bits, IntKind.signed]
theorem cv_u8 {n : Int} (h : 0 ≤ n ∧ n < 256) : iCv .u8 n = n := by
  show IntKind.wrap .u8 _ = _
  unfold IntKind.wrap
  simp [IntKind.bits, IntKind.signed]
  omega
end Go.Ev
end

section
set_option linter.unusedVariables false
set_option linter.unusedSimpArgs false
set_option linter.unnecessarySimpa false
namespace Go.Ev
open Go
/-- A loop that looks for the first place. -/
theorem iter_first {σ ρ : Type} {B : σ → Option (σ ⊕ ρ)} (st : Nat → σ) (p : Nat → Prop) (m : Nat) (r1 : Nat → ρ) (r2 : ρ) (hm : m < 10000000) (hs : ∀ i, i < m → ¬ p i → B (st i) = some (.inl (st (i + 1)))) (hf : ∀ i, i < m → p i → B (st i) = some (.inr (r1 i))) (he : B (st m) = some (.inr r2)) :
    (∃ i, i < m ∧ p i ∧ (∀ k, k < i → ¬ p k) ∧ iter B fuel (st 0) = some (r1 i)) ∨ ((∀ i, i < m → ¬ p i) ∧ iter B fuel (st 0) = some r2) := by
  have gen : ∀ (d i n : Nat), i + d = m → d < n → (∀ k, k < i → ¬ p k) → (∃ j, j < m ∧ p j ∧ (∀ k, k < j → ¬ p k) ∧ iter B n (st i) = some (r1 j)) ∨ ((∀ i, i < m → ¬ p i) ∧ iter B n (st i) = some r2) := by
    intro d
    induction d with
    | zero =>
      intro i n hi hn hk
      obtain ⟨n, rfl⟩ : ∃ q, n = q + 1 := ⟨n - 1, by omega⟩
      obtain rfl : i = m := by omega
      exact .inr ⟨hk, iter_e he⟩
    | succ d ih =>
      intro i n hi hn hk
      obtain ⟨n, rfl⟩ : ∃ q, n = q + 1 := ⟨n - 1, by omega⟩
      by_cases hp : p i
      · exact .inl ⟨i, by omega, hp, hk, iter_e (hf i (by omega) hp)⟩
      · rw [iter_s (hs i (by omega) hp)]
        exact ih (i + 1) n (by omega) (by omega) (fun k hk' => by
          by_cases h : k = i
          · rw [h]; exact hp
          · exact hk k (by omega))
  exact gen m 0 fuel (by omega) (by unfold fuel; omega) (fun k h => by omega)
theorem iLt_f {a b : Int} (h : ¬ a < b) : iLt a b = false := by unfold iLt; rw [decide_eq_false_iff_not]; exact h
theorem iLt_y {a b : Int} (h : a < b) : iLt a b = true := by unfold iLt; rw [decide_eq_true_eq]; exact h
theorem iLe_f {a b : Int} (h : ¬ a ≤ b) : iLe a b = false := by unfold iLe; rw [decide_eq_false_iff_not]; exact h
theorem iLe_y {a b : Int} (h : a ≤ b) : iLe a b = true := by unfold iLe; rw [decide_eq_true_eq]; exact h
theorem iEq_y {a b : Int} (h : a = b) : iEq a b = true := by unfold iEq; simpa using h
theorem iEq_f {a b : Int} (h : ¬ a = b) : iEq a b = false := by unfold iEq; simpa using h
theorem sEq_y {a b : ByteArray} (h : a = b) : sEq a b = true := by rw [sEq_t]; exact h
theorem sEq_f {a b : ByteArray} (h : ¬ a = b) : sEq a b = false := by rw [bf_t, sEq_t]; exact h
theorem oCut_y {a b c : Int} (h : 0 ≤ a ∧ a ≤ b ∧ b ≤ c) : oCut a b c = true := by rw [oCut_t]; exact h
theorem oIn_y {a b : Int} (h : 0 ≤ a ∧ a < b) : oIn a b = true := by rw [oIn_t]; exact h
theorem lCap_y {α : Type} {c : Int} {l : List α} (h0 : 0 ≤ c) (hc : c ≤ 1000) (h : l.length ≤ 1000000) : lCap c l = true := by
  rw [lCap_t]
  unfold lLen
  have : ((l.length : Int)) * (c + 1) ≤ 1000000 * 1001 := Int.mul_le_mul (by omega) (by omega) (by omega) (by omega)
  omega
theorem sOk_y {a b : ByteArray} (h : (sBy a).length + (sBy b).length ≤ 100000000) : sOk a b = true := by
  rw [sOk_t, by_len, by_len]
  omega
theorem nt : bNot true = false := rfl
theorem nf : bNot false = true := rfl
theorem at_ft (b : Bool) : bAnd true b = b := by cases b <;> rfl
theorem at_ff (b : Bool) : bAnd false b = false := rfl
theorem or_tt (b : Bool) : bOr true b = true := rfl
theorem or_ff (b : Bool) : bOr false b = b := by cases b <;> rfl
end Go.Ev
end

section
set_option linter.unusedVariables false
set_option linter.unusedSimpArgs false
set_option linter.unnecessarySimpa false
open Go Go.Ev
namespace Go.Proofs.YtagcodkkkebnhaaGreat.K
abbrev SEG := Int × ByteArray
abbrev STO := List SEG × Int
abbrev FRM := Int × (Bool × (Bool × (Int × (Int × (ByteArray × (Int × Int))))))
abbrev REST := List FRM × (List Int × (Int × (Int × Int)))
abbrev PAG := STO × REST
theorem awake : F5 = some true := by kernel_rfl
theorem wf_fits {n : Int} (h : (Ty.int .i64).wf n) : fits n := by
  have h : (decide (IntKind.i64.min ≤ n) && decide (n ≤ IntKind.i64.max)) = true := h
  rw [Bool.and_eq_true, decide_eq_true_eq, decide_eq_true_eq] at h
  have h1 : IntKind.i64.min = -9223372036854775808 := by decide
  have h2 : IntKind.i64.max = 9223372036854775807 := by decide
  unfold fits
  omega
theorem lAt_n {α : Type} [Inhabited α] (l : List α) (i : Nat) : lAt l (i : Int) = (l[i]?).getD default := by unfold lAt; rw [Int.toNat_natCast]
theorem lAt_lt {α : Type} [Inhabited α] {l : List α} {i : Nat} (h : i < l.length) : lAt l (i : Int) = l[i] := by rw [lAt_n, List.getElem?_eq_getElem h]; rfl
/-- A store that is small. -/
def fewS (s : STO) : Prop := s.1.length ≤ 12 ∧ ∀ i, i < s.1.length → ¬ 400 < sLen (lAt s.1 (i : Int)).2
theorem F16_eq (s : STO) : (fewS s ∧ F19 s = some true) ∨ F19 s = some false := by
  unfold F19
  by_cases h : 12 < lLen s.1
  · rw [iLt_y h]; exact .inr rfl
  rw [iLt_f h, sel_f]
  have hl : s.1.length ≤ 12 := by unfold lLen at h; omega
  have hL : (∃ i, i < s.1.length ∧ 400 < sLen (lAt s.1 (i : Int)).2 ∧ (∀ k, k < i → ¬ 400 < sLen (lAt s.1 (k : Int)).2) ∧ L19_0 (s, 0) = some (.inr false)) ∨ ((∀ i, i < s.1.length → ¬ 400 < sLen (lAt s.1 (i : Int)).2) ∧ L19_0 (s, 0) = some (.inl ())) := by
    refine iter_first (fun i => (s, (i : Int))) (fun i => 400 < sLen (lAt s.1 (i : Int)).2) s.1.length (fun _ => Sum.inr false) (Sum.inl ()) (by omega) ?_ ?_ ?_
    · intro i hi hp
      show B19_0 s.1 s.2 i = some (.inl (s, ((i + 1 : Nat) : Int)))
      unfold B19_0
      rw [iLt_y (by unfold lLen; omega), oIn_y (by unfold lLen; omega), sel_t, sel_t, iLt_f hp, sel_f, add_n (by omega) (by omega)]
      rfl
    · intro i hi hp
      show B19_0 s.1 s.2 i = _
      unfold B19_0
      rw [iLt_y (by unfold lLen; omega), oIn_y (by unfold lLen; omega), sel_t, sel_t, iLt_y hp, sel_t]
    · show B19_0 s.1 s.2 s.1.length = _
      unfold B19_0
      rw [iLt_f (by unfold lLen; omega), sel_f]
  rcases hL with ⟨i, _, _, _, e⟩ | ⟨h1, e⟩
  · rw [e]; exact .inr rfl
  · rw [e]; exact .inl ⟨⟨hl, h1⟩, rfl⟩
/-- The error of a segment of a store. -/
def sgE (s : STO) (i : Nat) : Int :=
  if ¬ (1 ≤ (lAt s.1 (i : Int)).1 ∧ (lAt s.1 (i : Int)).1 ≤ s.2 - 1) then 3
  else if 0 < i ∧ (lAt s.1 (i : Int)).1 ≤ (lAt s.1 ((i : Int) - 1)).1 then 14
  else if ¬ sLen (lAt s.1 (i : Int)).2 % 32 = 0 ∨ ¬ (1 ≤ sLen (lAt s.1 (i : Int)).2 / 32 ∧ sLen (lAt s.1 (i : Int)).2 / 32 ≤ 8) then 18 else 0
theorem sLen_le (s : ByteArray) (h : sLen s ≤ 400) : fits (sLen s / 32) := by
  have := sLen_nn s
  unfold fits; omega
theorem rem32 (s : ByteArray) : iRem (sLen s) 32 = sLen s % 32 := by
  unfold iRem; exact Int.tmod_eq_emod_of_nonneg (sLen_nn s)
theorem quo32 (s : ByteArray) (h : sLen s ≤ 400) : iQuo .i64 (sLen s) 32 = sLen s / 32 := by
  unfold iQuo
  rw [Int.tdiv_eq_ediv_of_nonneg (sLen_nn s)]
  exact wrap_fits (sLen_le s h)
theorem B43_eq (s : STO) (i : Nat) (hf : fewS s) (hn : 1 ≤ s.2 ∧ s.2 ≤ 1001) (hi : i < s.1.length) : B31_0 s.1 s.2 s.1 (lLen s.1) i = if sgE s i = 0 then some (.inl (s, (s.1, (lLen s.1, ((i + 1 : Nat) : Int))))) else some (.inr (.inr ((i : Int), sgE s i))) := by
  have h4 := hf.2 i hi
  have hl := hf.1
  unfold B31_0 sgE
  rw [iLt_y (by unfold lLen; omega), oIn_y (by unfold lLen; omega), sel_t, sel_t, sub_n (by omega) (by omega), add_n (by omega) (by omega), rem32, quo32 _ (by omega), sub_n (by omega) (by omega)]
  simp only [let_s, F58, sel_if, not_t, bf_t, and_t, or_t, iLe_t, iLt_t, iEq_t, oNz_t, oIn_t, lLen]
  grind (splits := 40)
theorem B56_eq (s : STO) (i : Nat) (hf : fewS s) (hn : 1 ≤ s.2 ∧ s.2 ≤ 1001) (hi : i < s.1.length) : B74_0 s.1 s.2 i = if sgE s i = 0 then some (.inl (s, ((i + 1 : Nat) : Int))) else some (.inr (.inr ((i : Int), sgE s i))) := by
  have h4 := hf.2 i hi
  have hl := hf.1
  have e66 : F92 (lAt s.1 (i : Int)).2 = some (sLen (lAt s.1 (i : Int)).2 / 32) := by
    unfold F92
    rw [show oNz 32 = true from rfl, sel_t, quo32 _ (by omega)]
  unfold B74_0 sgE
  rw [iLt_y (by unfold lLen; omega), oIn_y (by unfold lLen; omega), sel_t, sel_t, sub_n (by omega) (by omega), add_n (by omega) (by omega), rem32, e66, sub_n (by omega) (by omega), okS_s, valS_s]
  simp only [let_s, F44, sel_if, not_t, bf_t, and_t, or_t, iLe_t, iLt_t, iEq_t, oNz_t, oIn_t, lLen]
  grind (splits := 40)
/-- The first segment that is wrong, with its error. -/
theorem L43_eq (s : STO) (hf : fewS s) (hn : 1 ≤ s.2 ∧ s.2 ≤ 1001) : (∃ i, i < s.1.length ∧ sgE s i ≠ 0 ∧ (∀ k, k < i → ¬ sgE s k ≠ 0) ∧ L31_0 (s, (s.1, (lLen s.1, 0))) = some (.inr ((i : Int), sgE s i))) ∨ ((∀ i, i < s.1.length → ¬ sgE s i ≠ 0) ∧ L31_0 (s, (s.1, (lLen s.1, 0))) = some (Sum.inl ())) := by
  have hl := hf.1
  refine iter_first (fun i => (s, (s.1, (lLen s.1, (i : Int))))) (fun i => sgE s i ≠ 0) s.1.length (fun i => Sum.inr ((i : Int), sgE s i)) (Sum.inl ()) (by omega) ?_ ?_ ?_
  · intro i hi hp
    show B31_0 s.1 s.2 s.1 (lLen s.1) i = _
    rw [B43_eq s i hf hn hi, if_pos (by simpa using hp)]
  · intro i hi hp
    show B31_0 s.1 s.2 s.1 (lLen s.1) i = _
    rw [B43_eq s i hf hn hi, if_neg hp]
  · show B31_0 s.1 s.2 s.1 (lLen s.1) s.1.length = _
    unfold B31_0
    rw [iLt_f (by unfold lLen; omega), sel_f]
theorem L56_eq (s : STO) (hf : fewS s) (hn : 1 ≤ s.2 ∧ s.2 ≤ 1001) : (∃ i, i < s.1.length ∧ sgE s i ≠ 0 ∧ (∀ k, k < i → ¬ sgE s k ≠ 0) ∧ L74_0 (s, 0) = some (.inr ((i : Int), sgE s i))) ∨ ((∀ i, i < s.1.length → ¬ sgE s i ≠ 0) ∧ L74_0 (s, 0) = some (Sum.inl ())) := by
  have hl := hf.1
  refine iter_first (fun i => (s, (i : Int))) (fun i => sgE s i ≠ 0) s.1.length (fun i => Sum.inr ((i : Int), sgE s i)) (Sum.inl ()) (by omega) ?_ ?_ ?_
  · intro i hi hp
    show B74_0 s.1 s.2 i = _
    rw [B56_eq s i hf hn hi, if_pos (by simpa using hp)]
  · intro i hi hp
    show B74_0 s.1 s.2 i = _
    rw [B56_eq s i hf hn hi, if_neg hp]
  · show B74_0 s.1 s.2 s.1.length = _
    unfold B74_0
    rw [iLt_f (by unfold lLen; omega), sel_f]
/-- A right store. -/
def okS0 (s : STO) : Prop := s.1.length ≤ 10 ∧ 1 ≤ s.2 ∧ s.2 ≤ 1001 ∧ ∀ i, i < s.1.length → sgE s i = 0
/-- Which stores are right: the program and the specification answer alike. -/
theorem F43_eq (s : STO) (hf : fewS s) (h2 : fits s.2) : (okS0 s ∧ F31 s = some (0, 0) ∧ F43 s = some 0) ∨ ∃ a c, c ≠ 0 ∧ F31 s = some (a, c) ∧ F43 s = some c := by
  have hl := hf.1
  unfold F31 F43 F74
  by_cases h : 10 < lLen s.1
  · rw [iLt_y h]; exact .inr ⟨0, 2, by decide, rfl, rfl⟩
  rw [iLt_f h]
  by_cases hn : 1 ≤ s.2 ∧ s.2 ≤ 1001
  · have e1 : F58 s.2 1 1001 = true := by unfold F58; rw [and_t, iLe_t, iLe_t]; exact hn
    have e2 : F44 s.2 1 1001 = true := by unfold F44; rw [and_t, iLe_t, iLe_t]; exact hn
    rw [e1, e2]
    simp only [let_s, nt, sel_f]
    rcases L43_eq s hf hn with ⟨i, hi, hp, hk, e⟩ | ⟨hk, e⟩ <;> rcases L56_eq s hf hn with ⟨j, hj, hq, hm, e'⟩ | ⟨hm, e'⟩
    · obtain rfl : i = j := by
        rcases Nat.lt_trichotomy i j with h | h | h
        · exact absurd hp (hm i h)
        · exact h
        · exact absurd hq (hk j h)
      exact .inr ⟨i, sgE s i, hp, by rw [e]; rfl, by rw [e']; rfl⟩
    · exact absurd hp (hm i hi)
    · exact absurd hq (hk j hj)
    · refine .inl ⟨⟨by unfold lLen at h; omega, hn.1, hn.2, fun i hi => Classical.not_not.1 (hk i hi)⟩, by rw [e]; rfl, by rw [e']; rfl⟩
  · have e1 : F58 s.2 1 1001 = false := by rw [bf_t]; unfold F58; rw [and_t, iLe_t, iLe_t]; exact hn
    have e2 : F44 s.2 1 1001 = false := by rw [bf_t]; unfold F44; rw [and_t, iLe_t, iLe_t]; exact hn
    rw [e1, e2]
    exact .inr ⟨0, 3, by decide, rfl, rfl⟩
end Go.Proofs.YtagcodkkkebnhaaGreat.K
end

section
set_option linter.unusedVariables false
set_option linter.unusedSimpArgs false
set_option linter.unnecessarySimpa false
open Go Go.Ev
namespace Go.Proofs.YtagcodkkkebnhaaGreat.K
theorem lApp_nil {α : Type} (l : List α) : lApp [] l = l := rfl
theorem bothS_same {α : Type} {x y : Option α} (h : x = y) : bothS x y = x := by unfold bothS both; rw [if_pos h]
theorem len_pos {α : Type} (a : α) (l : List α) : iLt 0 (lLen (a :: l)) = true := iLt_y (by unfold lLen; rw [List.length_cons]; omega)
theorem F78_nil : F55 [] = some [] := (show F55 [] = bothS (some []) (sel (lCap 24 (lApp ([] : List SEG) ([] : List SEG))) (some (lApp ([] : List SEG) ([] : List SEG))) none) from by kernel_rfl).trans (bothS_same (by kernel_rfl))
theorem F78_eq (l : List SEG) (h : l.length ≤ 1000000) : F55 l = some l := by
  cases l with
  | nil => exact F78_nil
  | cons a l => unfold F55; rw [len_pos, lApp_nil, lCap_y (by decide) (by decide) h]; rfl
theorem F79_nil : F56 [] = some [] := (show F56 [] = bothS (some []) (sel (lCap 64 (lApp ([] : List FRM) ([] : List FRM))) (some (lApp ([] : List FRM) ([] : List FRM))) none) from by kernel_rfl).trans (bothS_same (by kernel_rfl))
theorem F79_eq (l : List FRM) (h : l.length ≤ 1000000) : F56 l = some l := by
  cases l with
  | nil => exact F79_nil
  | cons a l => unfold F56; rw [len_pos, lApp_nil, lCap_y (by decide) (by decide) h]; rfl
theorem F80_nil : F57 [] = some [] := (show F57 [] = bothS (some []) (sel (lCap 8 (lApp ([] : List Int) ([] : List Int))) (some (lApp ([] : List Int) ([] : List Int))) none) from by kernel_rfl).trans (bothS_same (by kernel_rfl))
theorem F80_eq (l : List Int) (h : l.length ≤ 1000000) : F57 l = some l := by
  cases l with
  | nil => exact F80_nil
  | cons a l => unfold F57; rw [len_pos, lApp_nil, lCap_y (by decide) (by decide) h]; rfl
theorem F51_eq (x : PAG) (h1 : x.1.1.length ≤ 1000000) (h2 : x.2.1.length ≤ 1000000) (h3 : x.2.2.1.length ≤ 1000000) : F30 x = some (x.1.1, (x.1.2, x.2)) := by
  unfold F30
  rw [F78_eq _ h1, F79_eq _ h2, F80_eq _ h3]
  rfl
theorem F18_eq (s : STO) (h : s.1.length ≤ 1000000) : F22 s = some s := by
  unfold F22; rw [lCap_y (by decide) (by decide) h]; rfl
theorem F19_eq (l : List Int) (h : l.length ≤ 1000000) : F23 l = some l := by
  unfold F23; rw [lCap_y (by decide) (by decide) h]; rfl
theorem F14_eq (x : PAG) (h1 : x.1.1.length ≤ 1000000) (h2 : x.2.1.length ≤ 1000000) (h3 : x.2.2.1.length ≤ 1000000) : F8 x = some (x.1.1, (x.1.2, x.2)) := by
  unfold F8
  rw [F18_eq _ h1, F19_eq _ h3, lCap_y (by decide) (by decide) h2]
  rfl
theorem F35_self (s : STO) (h : s.1.length ≤ 1000000) : F28 s s = some true := by
  have hL : L28_0 (s, (s, 0)) = some (Sum.inl ()) := by
    refine iter_run (fun i => (s, (s, (i : Int)))) s.1.length (by omega) ?_ ?_
    · intro i hi
      show B28_0 s.1 s.2 s.1 s.2 i = some (.inl (s, (s, ((i + 1 : Nat) : Int))))
      unfold B28_0
      rw [iLt_y (by unfold lLen; omega), oIn_y (by unfold lLen; omega), iEq_y rfl, sEq_y rfl, add_n (by omega) (by omega)]
      rfl
    · show B28_0 s.1 s.2 s.1 s.2 s.1.length = _
      unfold B28_0
      rw [iLt_f (by unfold lLen; omega), sel_f]
  unfold F28
  rw [iEq_y rfl, iEq_y rfl, hL]
  rfl
theorem F29_self (l : List Int) (h : l.length ≤ 1000000) : F29 l l = some true := by
  have hL : L29_0 (l, (l, 0)) = some (Sum.inl ()) := by
    refine iter_run (fun i => (l, (l, (i : Int)))) l.length (by omega) ?_ ?_
    · intro i hi
      show B29_0 l l i = some (.inl (l, (l, ((i + 1 : Nat) : Int))))
      unfold B29_0
      rw [iLt_y (by unfold lLen; omega), oIn_y (by unfold lLen; omega), iEq_y rfl, add_n (by omega) (by omega)]
      rfl
    · show B29_0 l l l.length = _
      unfold B29_0
      rw [iLt_f (by unfold lLen; omega), sel_f]
  unfold F29
  rw [iEq_y rfl, hL]
  rfl
theorem bEq_y {a b : Bool} (h : a = b) : bEq a b = true := by rw [bEq_t]; exact h
theorem F21_self (x : PAG) (h1 : x.1.1.length ≤ 1000000) (h2 : x.2.1.length ≤ 1000000) (h3 : x.2.2.1.length ≤ 1000000) : F10 x x = some true := by
  have hL : L10_0 ((x.1.1, (x.1.2, x.2)), ((x.1.1, (x.1.2, x.2)), 0)) = some (Sum.inl ()) := by
    refine iter_run (fun i => ((x.1.1, (x.1.2, x.2)), ((x.1.1, (x.1.2, x.2)), (i : Int)))) x.2.1.length (by omega) ?_ ?_
    · intro i hi
      show B10_0 x.1.1 x.1.2 x.2.1 x.2.2.1 x.2.2.2.1 x.2.2.2.2.1 x.2.2.2.2.2 x.1.1 x.1.2 x.2.1 x.2.2.1 x.2.2.2.1 x.2.2.2.2.1 x.2.2.2.2.2 i = some (.inl ((x.1.1, (x.1.2, x.2)), ((x.1.1, (x.1.2, x.2)), ((i + 1 : Nat) : Int))))
      unfold B10_0
      rw [iLt_y (by unfold lLen; omega), oIn_y (by unfold lLen; omega)]
      simp only [iEq_y, sEq_y, bEq_y, at_ft, nt, sel_t, sel_f]
      rw [add_n (by omega) (by omega)]
      rfl
    · show B10_0 x.1.1 x.1.2 x.2.1 x.2.2.1 x.2.2.2.1 x.2.2.2.2.1 x.2.2.2.2.2 x.1.1 x.1.2 x.2.1 x.2.2.1 x.2.2.2.1 x.2.2.2.2.1 x.2.2.2.2.2 x.2.1.length = _
      unfold B10_0
      rw [iLt_f (by unfold lLen; omega), sel_f]
  unfold F10
  rw [F35_self _ h1, F29_self _ h3, bnd_s, okS_s, iEq_y rfl, iEq_y rfl, iEq_y rfl, iEq_y rfl, hL]
  rfl
def fr (p : Int) : FRM := (p, (false, (false, (0, (0, (bs [], (0, -1)))))))
def hd5 : List Int := [-1, -1, -1, -1, -1]
theorem heads : F33 [-1] 5 = some hd5 := by kernel_rfl
def poolOK (l : List Int) (i : Nat) : Prop := 0 ≤ lAt l (i : Int) ∧ lAt l (i : Int) ≤ 2
theorem take_fr (l : List Int) (i : Nat) (hi : i < l.length) : lApp ((l.take i).map fr) [fr (lAt l (i : Int))] = (l.take (i + 1)).map fr := by
  rw [List.take_add_one, List.getElem?_eq_getElem hi, List.map_append, lAt_lt hi]; rfl
abbrev z4 : Int × (Int × (Int × Int)) := (0, (0, (0, 0)))
abbrev z3 : Int × (Int × Int) := (0, (0, 0))
theorem L17_eq (s : STO) (l : List Int) (hl : l.length ≤ 10) (h1 : 1 ≤ l.length) :
    (∃ i, i < l.length ∧ ¬ poolOK l i ∧ (∀ k, k < i → ¬ ¬ poolOK l k) ∧ L16_0 (.inl (z4, ((s.1, (s.2, (hd5, z3))), (l, (lLen l, 0))))) = some (.inr (.inl (z4, 3)))) ∨
    ((∀ i, i < l.length → ¬ ¬ poolOK l i) ∧ L16_0 (.inl (z4, ((s.1, (s.2, (hd5, z3))), (l, (lLen l, 0))))) = some (.inr (.inr (z4, (s.1, (s.2, (l.map fr, (hd5, z3)))))))) := by
  refine iter_first (fun i => match i with | 0 => Sum.inl (z4, ((s.1, (s.2, (hd5, z3))), (l, (lLen l, (0 : Int))))) | k + 1 => Sum.inr (z4, ((s.1, (s.2, ((l.take (k + 1)).map fr, (hd5, z3)))), (l, (lLen l, ((k + 1 : Nat) : Int)))))) (fun i => ¬ poolOK l i) l.length (fun _ => Sum.inr (Sum.inl (z4, (3 : Int)))) (Sum.inr (Sum.inr (z4, (s.1, (s.2, (l.map fr, (hd5, z3)))))) ) (by omega) ?_ ?_ ?_
  · intro i hi hp
    have hp := Classical.not_not.1 hp
    have e : F32 (lAt l (i : Int)) 0 2 = true := by unfold F32; rw [and_t, iLe_t, iLe_t]; exact hp
    cases i with
    | zero =>
      show B16_0h0 0 0 0 0 s.1 s.2 hd5 0 0 0 l (lLen l) ((0 : Nat) : Int) = some (.inl (.inr (z4, ((s.1, (s.2, ((l.take 1).map fr, (hd5, z3)))), (l, (lLen l, ((0 + 1 : Nat) : Int)))))))
      rw [← take_fr l 0 hi]
      unfold B16_0h0
      rw [iLt_y (by unfold lLen; omega), oIn_y (by unfold lLen; omega), e, let_s, nt, sel_t, sel_t, sel_f, lCap_y (by decide) (by decide) (by simp)]
      rfl
    | succ k =>
      show B16_0h1 0 0 0 0 s.1 s.2 ((l.take (k + 1)).map fr) hd5 0 0 0 l (lLen l) ((k + 1 : Nat) : Int) = some (.inl (.inr (z4, ((s.1, (s.2, ((l.take (k + 1 + 1)).map fr, (hd5, z3)))), (l, (lLen l, ((k + 1 + 1 : Nat) : Int)))))))
      rw [← take_fr l (k + 1) hi]
      unfold B16_0h1
      rw [iLt_y (by unfold lLen; omega), oIn_y (by unfold lLen; omega), e, add_n (by omega) (by omega), let_s, nt, sel_t, sel_t, sel_f, lCap_y (by decide) (by decide) (by simp [lApp]; omega)]
      rfl
  · intro i hi hp
    have e : F32 (lAt l (i : Int)) 0 2 = false := by rw [bf_t]; unfold F32; rw [and_t, iLe_t, iLe_t]; exact hp
    cases i with
    | zero =>
      show B16_0h0 0 0 0 0 s.1 s.2 hd5 0 0 0 l (lLen l) ((0 : Nat) : Int) = _
      unfold B16_0h0
      rw [iLt_y (by unfold lLen; omega), oIn_y (by unfold lLen; omega), e]
      rfl
    | succ k =>
      show B16_0h1 0 0 0 0 s.1 s.2 ((l.take (k + 1)).map fr) hd5 0 0 0 l (lLen l) ((k + 1 : Nat) : Int) = _
      unfold B16_0h1
      rw [iLt_y (by unfold lLen; omega), oIn_y (by unfold lLen; omega), e]
      rfl
  · obtain ⟨k, hk⟩ : ∃ k, l.length = k + 1 := ⟨l.length - 1, by omega⟩
    rw [hk]
    show B16_0h1 0 0 0 0 s.1 s.2 ((l.take (k + 1)).map fr) hd5 0 0 0 l (lLen l) ((k + 1 : Nat) : Int) = _
    unfold B16_0h1
    rw [iLt_f (by unfold lLen; omega), sel_f, ← hk, List.take_length]
end Go.Proofs.YtagcodkkkebnhaaGreat.K
end

section
set_option linter.unusedVariables false
set_option linter.unusedSimpArgs false
set_option linter.unnecessarySimpa false
open Go Go.Ev
namespace Go.Proofs.YtagcodkkkebnhaaGreat.K
def noP : List SEG × (Int × (List FRM × (List Int × (Int × (Int × Int))))) := ([], (0, ([], ([], (0, (0, 0))))))
end Go.Proofs.YtagcodkkkebnhaaGreat.K
end

section
set_option linter.unusedVariables false
set_option linter.unusedSimpArgs false
set_option linter.unnecessarySimpa false
open Go Go.Ev
namespace Go.Proofs.YtagcodkkkebnhaaGreat.K
/-- Where a segment stands, or -1. -/
def place : List SEG → Int → Int
  | [], _ => -1
  | g :: r, n => if g.1 = n then 0 else if place r n = -1 then -1 else place r n + 1
theorem lAt_succ {α : Type} [Inhabited α] (a : α) (l : List α) (i : Nat) : lAt (a :: l) ((i + 1 : Nat) : Int) = lAt l (i : Int) := by rw [lAt_n, lAt_n, List.getElem?_cons_succ]
theorem place_cases (n : Int) : ∀ l : List SEG, (∃ i, i < l.length ∧ (lAt l (i : Int)).1 = n ∧ (∀ k, k < i → ¬ (lAt l (k : Int)).1 = n) ∧ place l n = (i : Int)) ∨ ((∀ i, i < l.length → ¬ (lAt l (i : Int)).1 = n) ∧ place l n = -1)
  | [] => .inr ⟨fun i h => by simp at h, rfl⟩
  | g :: r => by
    by_cases h : g.1 = n
    · exact .inl ⟨0, by simp, h, fun k hk => by omega, by unfold place; rw [if_pos h]; rfl⟩
    · rcases place_cases n r with ⟨i, h1, h2, h3, h4⟩ | ⟨h1, h2⟩
      · refine .inl ⟨i + 1, by simpa using h1, by rw [lAt_succ]; exact h2, fun k hk => ?_, by unfold place; rw [if_neg h, h4, if_neg (by omega)]; omega⟩
        cases k with
        | zero => exact h
        | succ k => rw [lAt_succ]; exact h3 k (by omega)
      · refine .inr ⟨fun i hi => ?_, by unfold place; rw [if_neg h, if_pos h2]⟩
        cases i with
        | zero => exact h
        | succ k => rw [lAt_succ]; exact h1 k (by simpa using hi)
theorem F83_eq (l : List SEG) (n : Int) (hl : l.length ≤ 1000000) : F60 l n = some (n, place l n) := by
  have hL : (∃ i, i < l.length ∧ (lAt l (i : Int)).1 = n ∧ (∀ k, k < i → ¬ (lAt l (k : Int)).1 = n) ∧ L60_0 (n, (l, (lLen l, 0))) = some (.inr (n, (i : Int)))) ∨ ((∀ i, i < l.length → ¬ (lAt l (i : Int)).1 = n) ∧ L60_0 (n, (l, (lLen l, 0))) = some (.inl n)) := by
    refine iter_first (fun i => (n, (l, (lLen l, (i : Int))))) (fun i => (lAt l (i : Int)).1 = n) l.length (fun i => Sum.inr (n, (i : Int))) (Sum.inl n) (by omega) ?_ ?_ ?_
    · intro i hi hp
      show B60_0 n l (lLen l) i = some (.inl (n, (l, (lLen l, ((i + 1 : Nat) : Int)))))
      unfold B60_0 F61
      rw [iLt_y (by unfold lLen; omega), oIn_y (by unfold lLen; omega), iEq_f hp, add_n (by omega) (by omega)]
      rfl
    · intro i hi hp
      show B60_0 n l (lLen l) i = _
      unfold B60_0 F61
      rw [iLt_y (by unfold lLen; omega), oIn_y (by unfold lLen; omega), iEq_y hp]
      rfl
    · show B60_0 n l (lLen l) l.length = _
      unfold B60_0
      rw [iLt_f (by unfold lLen; omega), sel_f]
  unfold F60
  rcases hL with ⟨i, h1, h2, h3, e⟩ | ⟨h1, e⟩ <;> rcases place_cases n l with ⟨j, k1, k2, k3, k4⟩ | ⟨k1, k4⟩ <;> rw [e, k4]
  · obtain rfl : i = j := by
      rcases Nat.lt_trichotomy i j with h | h | h
      · exact absurd h2 (k3 i h)
      · exact h
      · exact absurd k2 (h3 j h)
    rfl
  · exact absurd h2 (k1 i h1)
  · exact absurd k2 (h1 j k1)
  · rfl
theorem F90_eq (s : STO) (n : Int) (hl : s.1.length ≤ 1000000) : F79 s n = some (place s.1 n) := by
  have hL : (∃ i, i < s.1.length ∧ (lAt s.1 (i : Int)).1 = n ∧ (∀ k, k < i → ¬ (lAt s.1 (k : Int)).1 = n) ∧ L79_0 (n, (s, 0)) = some (.inr (i : Int))) ∨ ((∀ i, i < s.1.length → ¬ (lAt s.1 (i : Int)).1 = n) ∧ L79_0 (n, (s, 0)) = some (Sum.inl ())) := by
    refine iter_first (fun i => (n, (s, (i : Int)))) (fun i => (lAt s.1 (i : Int)).1 = n) s.1.length (fun i => Sum.inr (i : Int)) (Sum.inl ()) (by omega) ?_ ?_ ?_
    · intro i hi hp
      show B79_0 n s.1 s.2 i = some (.inl (n, (s, ((i + 1 : Nat) : Int))))
      unfold B79_0
      rw [iLt_y (by unfold lLen; omega), oIn_y (by unfold lLen; omega), iEq_f hp, add_n (by omega) (by omega)]
      rfl
    · intro i hi hp
      show B79_0 n s.1 s.2 i = _
      unfold B79_0
      rw [iLt_y (by unfold lLen; omega), oIn_y (by unfold lLen; omega), iEq_y hp]
      rfl
    · show B79_0 n s.1 s.2 s.1.length = _
      unfold B79_0
      rw [iLt_f (by unfold lLen; omega), sel_f]
  unfold F79
  rcases hL with ⟨i, h1, h2, h3, e⟩ | ⟨h1, e⟩ <;> rcases place_cases n s.1 with ⟨j, k1, k2, k3, k4⟩ | ⟨k1, k4⟩ <;> rw [e, k4]
  · obtain rfl : i = j := by
      rcases Nat.lt_trichotomy i j with h | h | h
      · exact absurd h2 (k3 i h)
      · exact h
      · exact absurd k2 (h3 j h)
    rfl
  · exact absurd h2 (k1 i h1)
  · exact absurd k2 (h1 j k1)
  · rfl
/-- A page of a store, and its bytes. -/
def hasP (s : STO) (n p : Int) : Prop := 0 ≤ place s.1 n ∧ 0 ≤ p ∧ p < sLen (lAt s.1 (place s.1 n)).2 / 32
def pageAt (s : STO) (n p : Int) : ByteArray := sCut (lAt s.1 (place s.1 n)).2 (p * 32) (p * 32 + 32)
theorem place_in {l : List SEG} {n : Int} (h : 0 ≤ place l n) : ∃ i, i < l.length ∧ (lAt l (i : Int)).1 = n ∧ (∀ k, k < i → ¬ (lAt l (k : Int)).1 = n) ∧ place l n = (i : Int) := by
  rcases place_cases n l with h' | ⟨_, h'⟩
  · exact h'
  · omega
theorem page_cut {s : STO} {n p : Int} (hf : fewS s) (h : hasP s n p) : oCut (iMul .i64 p 32) (iMul .i64 (iAdd .i64 p 1) 32) (sLen (lAt s.1 (place s.1 n)).2) = true ∧ iMul .i64 p 32 = p * 32 ∧ iMul .i64 (iAdd .i64 p 1) 32 = p * 32 + 32 := by
  obtain ⟨h1, h2, h3⟩ := h
  obtain ⟨i, hi, _, _, e⟩ := place_in h1
  have h4 := hf.2 i hi
  rw [e] at h3 ⊢
  have e1 : iMul .i64 p 32 = p * 32 := mul_n (by omega) (by omega)
  have e2 : iMul .i64 (iAdd .i64 p 1) 32 = p * 32 + 32 := by rw [add_n (by omega) (by omega), mul_n (by omega) (by omega)]; omega
  rw [e1, e2, oCut_t]
  exact ⟨by omega, rfl, rfl⟩
theorem F54_y {s : STO} {n p : Int} (hf : fewS s) (h : hasP s n p) : F35 s n p = some (pageAt s n p, true) := by
  have hl := hf.1
  obtain ⟨c1, c2, c3⟩ := page_cut hf h
  have h' := h
  obtain ⟨h1, h2, h3⟩ := h
  obtain ⟨i, hi, _, _, e⟩ := place_in h1
  have h4 := hf.2 i hi
  unfold F35 pageAt
  rw [F83_eq _ _ (by omega), bnd_s]
  dsimp only
  rw [e] at h3 c1 ⊢
  rw [oIn_y (by unfold lLen; omega), iLt_f (by omega), iLt_f (by omega), quo32 _ (by omega), iLe_f (by omega), c1, c2, c3]
  rfl
theorem F54_n {s : STO} {n p : Int} (hf : fewS s) (h : ¬ hasP s n p) : F35 s n p = some (bs [], false) := by
  have hl := hf.1
  unfold F35
  rw [F83_eq _ _ (by omega), bnd_s]
  dsimp only
  rcases place_cases n s.1 with ⟨i, hi, _, _, e⟩ | ⟨_, e⟩
  · have h4 := hf.2 i hi
    unfold hasP at h
    rw [e] at h ⊢
    rw [oIn_y (by unfold lLen; omega), iLt_f (by omega), quo32 _ (by omega)]
    by_cases hp : p < 0
    · rw [iLt_y hp]; rfl
    · rw [iLt_f hp, iLe_y (by omega)]; rfl
  · rw [e, iLt_y (by decide)]
    cases oIn (-1) (lLen s.1) <;> rfl
theorem F66_eq {b : ByteArray} (h : sLen b ≤ 400) : F92 b = some (sLen b / 32) := by
  unfold F92
  rw [show oNz 32 = true from rfl, sel_t, quo32 _ h]
theorem F60_y {s : STO} {n p : Int} (hf : fewS s) (h : hasP s n p) : F75 s n p = some true := by
  have hl := hf.1
  obtain ⟨h1, h2, h3⟩ := h
  obtain ⟨i, hi, _, _, e⟩ := place_in h1
  have h4 := hf.2 i hi
  have h5 := sLen_nn (lAt s.1 (i : Int)).2
  unfold F75
  rw [F90_eq _ _ (by omega), bnd_s]
  rw [e] at h3 ⊢
  rw [oIn_y (by unfold lLen; omega), F66_eq (by omega), okS_s, valS_s, iEq_f (by omega), let_s, sub_n (by omega) (by omega)]
  have e1 : F44 p 0 (sLen (lAt s.1 (i : Int)).2 / 32 - 1) = true := by unfold F44; rw [and_t, iLe_t, iLe_t]; omega
  rw [e1]
  rfl
end Go.Proofs.YtagcodkkkebnhaaGreat.K
end

section
set_option linter.unusedVariables false
set_option linter.unusedSimpArgs false
set_option linter.unnecessarySimpa false
open Go Go.Ev
namespace Go.Proofs.YtagcodkkkebnhaaGreat.K
/-- A string with other bytes from a place on. -/
def put (b : ByteArray) (a : Int) (v : ByteArray) : ByteArray := sAdd (sAdd (sCut b 0 a) v) (sCut b (a + sLen v) (sLen b))
/-- A byte of a string. -/
def byt (b : ByteArray) (j : Nat) : Option Int := (sBy b)[j]?
theorem byt_ext {b c : ByteArray} (h : ∀ j, byt b j = byt c j) : b = c := by_inj (List.ext_getElem? h)
theorem byt_cut (b : ByteArray) (lo hi j : Nat) : byt (sCut b lo hi) j = if lo + j < hi then byt b (lo + j) else none := by
  unfold byt
  rw [by_cut, Int.toNat_natCast, Int.toNat_natCast, List.getElem?_drop, List.getElem?_take]
theorem byt_none {b : ByteArray} {j : Nat} (h : sLen b ≤ j) : byt b j = none := by
  unfold byt; rw [by_len] at h; rw [List.getElem?_eq_none_iff]; omega
theorem put_len (b v : ByteArray) (a : Nat) (h : a + sLen v ≤ sLen b) : sLen (put b a v) = sLen b := by
  have := sLen_nn v
  unfold put
  rw [sadd_len, sadd_len, scut_len _ (by omega) (by omega) (by omega), scut_len _ (by omega) (by omega) (by omega)]
  omega
theorem byt_put (b v : ByteArray) (a j : Nat) (h : a + sLen v ≤ sLen b) : byt (put b a v) j = if a ≤ j ∧ j < a + sLen v then byt v (j - a) else byt b j := by
  have hb := by_len b
  have hv := by_len v
  unfold byt put
  rw [by_add, by_add, by_cut, by_cut, Int.toNat_natCast, show (0 : Int).toNat = 0 from rfl, List.drop_zero, List.append_assoc]
  have e1 : ((sBy b).take a).length = a := by rw [List.length_take]; omega
  have e2 : ((a : Int) + sLen v).toNat = a + (sBy v).length := by omega
  have e3 : (sLen b).toNat = (sBy b).length := by omega
  rw [e2, e3, List.take_length]
  by_cases h1 : j < a
  · rw [List.getElem?_append_left (by omega), List.getElem?_take, if_pos h1, if_neg (by omega)]
  · rw [List.getElem?_append_right (by omega), e1]
    by_cases h2 : j - a < (sBy v).length
    · rw [List.getElem?_append_left h2, if_pos (by omega)]
    · rw [List.getElem?_append_right (by omega), List.getElem?_drop, if_neg (by omega)]
      congr 1
      omega
/-- The bytes of a segment. -/
def sgB (s : STO) (n : Int) : ByteArray := (lAt s.1 (place s.1 n)).2
def sb (s : STO) (n : Int) (j : Nat) : Option Int := byt (sgB s n) j
/-- The numbers and lengths of a store's segments. -/
def shp (s : STO) : List (Int × Int) × Int := (s.1.map fun g => (g.1, sLen g.2), s.2)
theorem shp_len {s t : STO} (h : shp s = shp t) : s.1.length = t.1.length := by
  have := congrArg (fun q => q.1.length) h
  simpa [shp] using this
theorem shp_at {s t : STO} (h : shp s = shp t) (i : Nat) : (lAt s.1 (i : Int)).1 = (lAt t.1 (i : Int)).1 ∧ (i < s.1.length → sLen (lAt s.1 (i : Int)).2 = sLen (lAt t.1 (i : Int)).2) := by
  have hl := shp_len h
  have h1 := congrArg (fun q => q.1[i]?) h
  simp only [shp, List.getElem?_map] at h1
  by_cases hi : i < s.1.length
  · rw [List.getElem?_eq_getElem hi, List.getElem?_eq_getElem (by omega)] at h1
    simp only [Option.map_some, Option.some.injEq, Prod.mk.injEq] at h1
    rw [lAt_lt hi, lAt_lt (by omega)]
    exact ⟨h1.1, fun _ => h1.2⟩
  · rw [lAt_n, lAt_n, List.getElem?_eq_none (by omega), List.getElem?_eq_none (by omega)]
    exact ⟨rfl, fun h => absurd h hi⟩
theorem place_eq {n : Int} : ∀ {l m : List SEG}, l.map (fun g => g.1) = m.map (fun g => g.1) → place l n = place m n
  | [], [], _ => rfl
  | [], _ :: _, h => by simp at h
  | _ :: _, [], h => by simp at h
  | a :: l, b :: m, h => by
    simp only [List.map_cons, List.cons.injEq] at h
    unfold place
    rw [h.1, place_eq h.2]
theorem shp_place {s t : STO} (h : shp s = shp t) (n : Int) : place s.1 n = place t.1 n := by
  refine place_eq ?_
  have := congrArg (fun q => q.1.map fun g => g.1) h
  simpa [shp, Function.comp_def] using this
theorem shp_sg {s t : STO} (h : shp s = shp t) {n : Int} (hp : 0 ≤ place s.1 n) : sLen (sgB s n) = sLen (sgB t n) := by
  unfold sgB
  rw [← shp_place h n]
  obtain ⟨i, hi, _, _, e⟩ := place_in hp
  rw [e]
  exact (shp_at h i).2 hi
theorem shp_hasP {s t : STO} (h : shp s = shp t) (n p : Int) : hasP s n p = hasP t n p := by
  have e := shp_place h n
  refine propext ⟨fun ⟨h1, h2, h3⟩ => ⟨by rw [← e]; exact h1, h2, ?_⟩, fun ⟨h1, h2, h3⟩ => ⟨by rw [e]; exact h1, h2, ?_⟩⟩
  · have := shp_sg h h1; unfold sgB at this; omega
  · have := shp_sg h (by rw [e]; exact h1); unfold sgB at this; omega
theorem shp_few {s t : STO} (h : shp s = shp t) (hf : fewS s) : fewS t := by
  have hl := shp_len h
  refine ⟨by have := hf.1; omega, fun i hi => ?_⟩
  rw [← (shp_at h i).2 (by omega)]
  exact hf.2 i (by omega)
theorem shp_ok {s t : STO} (h : shp s = shp t) (hf : okS0 s) : okS0 t := by
  have hl := shp_len h
  have h2 : s.2 = t.2 := congrArg (fun q => q.2) h
  refine ⟨by have := hf.1; omega, by have := hf.2.1; omega, by have := hf.2.2.1; omega, fun i hi => ?_⟩
  have := hf.2.2.2 i (by omega)
  unfold sgE at this ⊢
  have e1 : (lAt s.1 ((i : Int) - 1)).1 = (lAt t.1 ((i : Int) - 1)).1 ∨ i = 0 := by
    cases i with
    | zero => exact .inr rfl
    | succ i => left; rw [show ((i + 1 : Nat) : Int) - 1 = (i : Int) by omega]; exact (shp_at h i).1
  rw [← (shp_at h i).1, ← (shp_at h i).2 (by omega), ← h2]
  rcases e1 with e1 | rfl
  · rw [← e1]; exact this
  · simpa using this
/-- A right store has each number once. -/
theorem ok_asc {s : STO} (h : okS0 s) : ∀ j i : Nat, i < j → j < s.1.length → (lAt s.1 (i : Int)).1 < (lAt s.1 (j : Int)).1
  | 0, i, hi, _ => by omega
  | j + 1, i, hi, hj => by
    have h1 := h.2.2.2 (j + 1) hj
    unfold sgE at h1
    have h2 : (lAt s.1 (j : Int)).1 < (lAt s.1 ((j + 1 : Nat) : Int)).1 := by
      split at h1
      · cases h1
      · split at h1
        · cases h1
        · rename_i h3
          rw [show ((j + 1 : Nat) : Int) - 1 = (j : Int) by omega] at h3
          omega
    rcases Nat.lt_or_ge i j with h3 | h3
    · have := ok_asc h j i h3 (by omega); omega
    · obtain rfl : i = j := by omega
      exact h2
theorem ok_place {s : STO} (h : okS0 s) (i : Nat) (hi : i < s.1.length) : place s.1 (lAt s.1 (i : Int)).1 = (i : Int) := by
  rcases place_cases (lAt s.1 (i : Int)).1 s.1 with ⟨k, h1, h2, h3, e⟩ | ⟨h1, _⟩
  · rw [e]
    rcases Nat.lt_trichotomy i k with hk | rfl | hk
    · have := ok_asc h k i hk h1; omega
    · rfl
    · have := ok_asc h i k hk hi; omega
  · exact absurd rfl (h1 i hi)
/-- Stores with the same numbers, lengths and bytes are the same. -/
theorem sto_ext {s t : STO} (h : shp s = shp t) (hs : okS0 s) (hb : ∀ n j, 0 ≤ place s.1 n → sb s n j = sb t n j) : s = t := by
  have hl := shp_len h
  have h2 : s.2 = t.2 := congrArg (fun q => q.2) h
  refine Prod.ext (List.ext_getElem hl fun i hi hi' => ?_) h2
  have e := ok_place hs i hi
  have e' : place t.1 (lAt s.1 (i : Int)).1 = (i : Int) := by rw [← shp_place h]; exact e
  have h3 := (shp_at h i).1
  rw [lAt_lt hi, lAt_lt hi'] at h3
  refine Prod.ext h3 (byt_ext fun j => ?_)
  have := hb (lAt s.1 (i : Int)).1 j (by rw [e]; omega)
  unfold sb sgB at this
  rw [e, e', lAt_lt hi, lAt_lt hi'] at this
  exact this
end Go.Proofs.YtagcodkkkebnhaaGreat.K
end

section
set_option linter.unusedVariables false
set_option linter.unusedSimpArgs false
set_option linter.unnecessarySimpa false
open Go Go.Ev
namespace Go.Proofs.YtagcodkkkebnhaaGreat.K
theorem F60_n {s : STO} {n p : Int} (hf : fewS s) (h : ¬ hasP s n p) : F75 s n p = some false := by
  have hl := hf.1
  unfold F75
  rw [F90_eq _ _ (by omega), bnd_s]
  rcases place_cases n s.1 with ⟨i, hi, _, _, e⟩ | ⟨_, e⟩
  · have h4 := hf.2 i hi
    have h5 := sLen_nn (lAt s.1 (i : Int)).2
    unfold hasP at h
    rw [e] at h ⊢
    rw [oIn_y (by unfold lLen; omega), F66_eq (by omega), okS_s, valS_s, iEq_f (by omega), let_s, sub_n (by omega) (by omega)]
    have e1 : F44 p 0 (sLen (lAt s.1 (i : Int)).2 / 32 - 1) = false := by rw [bf_t]; unfold F44; rw [and_t, iLe_t, iLe_t]; omega
    rw [e1]
    rfl
  · rw [e, iEq_y rfl]
    cases oIn (-1) (lLen s.1) <;> cases okS (F92 (lAt s.1 (-1)).2) <;> rfl
theorem F74_y {s : STO} {n p : Int} (hf : fewS s) (h : hasP s n p) : F76 s n p = some (pageAt s n p) := by
  have hl := hf.1
  obtain ⟨c1, c2, c3⟩ := page_cut hf h
  obtain ⟨h1, h2, h3⟩ := h
  obtain ⟨i, hi, _, _, e⟩ := place_in h1
  unfold F76 pageAt
  rw [F90_eq _ _ (by omega), bnd_s]
  rw [e] at c1 ⊢
  rw [oIn_y (by unfold lLen; omega), c1, c2, c3]
  rfl
/-- A frame has the page of another one. -/
def twin (g f : FRM) : Prop := g.2.1 = true ∧ g.2.2.2.1 = f.2.2.2.1 ∧ g.2.2.2.2.1 = f.2.2.2.2.1
theorem F72_t (g f : FRM) : ((F65 g f.1 f.2.1 f.2.2.1 f.2.2.2.1 f.2.2.2.2.1 f.2.2.2.2.2.1 f.2.2.2.2.2.2.1 f.2.2.2.2.2.2.2).2 = true) = twin g f := by
  unfold F65 twin
  rw [and_t, and_t, iEq_t, iEq_t, and_assoc]
theorem F65_1 (g f : FRM) : (F65 g f.1 f.2.1 f.2.2.1 f.2.2.2.1 f.2.2.2.2.1 f.2.2.2.2.2.1 f.2.2.2.2.2.2.1 f.2.2.2.2.2.2.2).1 = f := rfl
theorem F71_eq (l : List FRM) (f : FRM) (hl : l.length ≤ 1000000) : ((∃ k, k < l.length ∧ twin (lAt l (k : Int)) f) ∧ F64 l f.1 f.2.1 f.2.2.1 f.2.2.2.1 f.2.2.2.2.1 f.2.2.2.2.2.1 f.2.2.2.2.2.2.1 f.2.2.2.2.2.2.2 = some (f, true)) ∨ ((∀ k, k < l.length → ¬ twin (lAt l (k : Int)) f) ∧ F64 l f.1 f.2.1 f.2.2.1 f.2.2.2.1 f.2.2.2.2.1 f.2.2.2.2.2.1 f.2.2.2.2.2.2.1 f.2.2.2.2.2.2.2 = some (f, false)) := by
  have hL : (∃ i, i < l.length ∧ twin (lAt l (i : Int)) f ∧ (∀ k, k < i → ¬ twin (lAt l (k : Int)) f) ∧ L85_0 (f, (l, (lLen l, 0))) = some (.inr (f, (i : Int)))) ∨ ((∀ i, i < l.length → ¬ twin (lAt l (i : Int)) f) ∧ L85_0 (f, (l, (lLen l, 0))) = some (.inl f)) := by
    refine iter_first (fun i => (f, (l, (lLen l, (i : Int))))) (fun i => twin (lAt l (i : Int)) f) l.length (fun i => Sum.inr (f, (i : Int))) (Sum.inl f) (by omega) ?_ ?_ ?_
    · intro i hi hp
      show B85_0 f.1 f.2.1 f.2.2.1 f.2.2.2.1 f.2.2.2.2.1 f.2.2.2.2.2.1 f.2.2.2.2.2.2.1 f.2.2.2.2.2.2.2 l (lLen l) i = some (.inl (f, (l, (lLen l, ((i + 1 : Nat) : Int)))))
      have e : (F65 (lAt l (i : Int)) f.1 f.2.1 f.2.2.1 f.2.2.2.1 f.2.2.2.2.1 f.2.2.2.2.2.1 f.2.2.2.2.2.2.1 f.2.2.2.2.2.2.2).2 = false := by rw [bf_t, F72_t]; exact hp
      unfold B85_0
      rw [iLt_y (by unfold lLen; omega), oIn_y (by unfold lLen; omega), sel_t, sel_t, let_s, e, F65_1, add_n (by omega) (by omega)]
      rfl
    · intro i hi hp
      show B85_0 f.1 f.2.1 f.2.2.1 f.2.2.2.1 f.2.2.2.2.1 f.2.2.2.2.2.1 f.2.2.2.2.2.2.1 f.2.2.2.2.2.2.2 l (lLen l) i = _
      have e : (F65 (lAt l (i : Int)) f.1 f.2.1 f.2.2.1 f.2.2.2.1 f.2.2.2.2.1 f.2.2.2.2.2.1 f.2.2.2.2.2.2.1 f.2.2.2.2.2.2.2).2 = true := by rw [F72_t]; exact hp
      unfold B85_0
      rw [iLt_y (by unfold lLen; omega), oIn_y (by unfold lLen; omega), sel_t, sel_t, let_s, e, F65_1]
      rfl
    · show B85_0 f.1 f.2.1 f.2.2.1 f.2.2.2.1 f.2.2.2.2.1 f.2.2.2.2.2.1 f.2.2.2.2.2.2.1 f.2.2.2.2.2.2.2 l (lLen l) l.length = _
      unfold B85_0
      rw [iLt_f (by unfold lLen; omega), sel_f]
  have e0 : ∀ i : Nat, iLe 0 (i : Int) = true := fun i => iLe_y (by omega)
  unfold F64 F85
  rcases hL with ⟨i, h1, h2, h3, e⟩ | ⟨h1, e⟩
  · refine .inl ⟨⟨i, h1, h2⟩, ?_⟩
    show bndS (bndS (L85_0 (f, (l, (lLen l, 0)))) _) _ = _
    rw [e, ← e0 i]
    rfl
  · refine .inr ⟨h1, ?_⟩
    show bndS (bndS (L85_0 (f, (l, (lLen l, 0)))) _) _ = _
    rw [e]
    rfl
theorem L47_eq (x : PAG) (f : FRM) (i : Nat) (hi : i ≤ x.2.1.length) (hl : x.2.1.length ≤ 1000000) : ((∃ k, k < i ∧ twin (lAt x.2.1 (k : Int)) f) ∧ L45_0 ((i : Int), ((x.1.1, (x.1.2, x.2)), (f, 0))) = some (Sum.inr 13)) ∨ ((∀ k, k < i → ¬ twin (lAt x.2.1 (k : Int)) f) ∧ L45_0 ((i : Int), ((x.1.1, (x.1.2, x.2)), (f, 0))) = some (Sum.inl ((x.1.1, (x.1.2, x.2)), f))) := by
  have hL : (∃ k, k < i ∧ twin (lAt x.2.1 (k : Int)) f ∧ (∀ j, j < k → ¬ twin (lAt x.2.1 (j : Int)) f) ∧ L45_0 ((i : Int), ((x.1.1, (x.1.2, x.2)), (f, 0))) = some (Sum.inr 13)) ∨ ((∀ k, k < i → ¬ twin (lAt x.2.1 (k : Int)) f) ∧ L45_0 ((i : Int), ((x.1.1, (x.1.2, x.2)), (f, 0))) = some (Sum.inl ((x.1.1, (x.1.2, x.2)), f))) := by
    refine iter_first (fun k => ((i : Int), ((x.1.1, (x.1.2, x.2)), (f, (k : Int))))) (fun k => twin (lAt x.2.1 (k : Int)) f) i (fun _ => Sum.inr (13 : Int)) (Sum.inl ((x.1.1, (x.1.2, x.2)), f)) (by omega) ?_ ?_ ?_
    · intro k hk hp
      show B45_0 i x.1.1 x.1.2 x.2.1 x.2.2.1 x.2.2.2.1 x.2.2.2.2.1 x.2.2.2.2.2 f.1 f.2.1 f.2.2.1 f.2.2.2.1 f.2.2.2.2.1 f.2.2.2.2.2.1 f.2.2.2.2.2.2.1 f.2.2.2.2.2.2.2 k = some (.inl ((i : Int), ((x.1.1, (x.1.2, x.2)), (f, ((k + 1 : Nat) : Int)))))
      have e : bAnd (bAnd (lAt x.2.1 (k : Int)).2.1 (iEq (lAt x.2.1 (k : Int)).2.2.2.1 f.2.2.2.1)) (iEq (lAt x.2.1 (k : Int)).2.2.2.2.1 f.2.2.2.2.1) = false := by rw [bf_t, and_t, and_t, iEq_t, iEq_t, and_assoc]; exact hp
      unfold B45_0
      rw [iLt_y (by omega), oIn_y (by unfold lLen; omega), sel_t, sel_t, or_tt, or_tt, sel_t, sel_t, e, add_n (by omega) (by omega)]
      rfl
    · intro k hk hp
      show B45_0 i x.1.1 x.1.2 x.2.1 x.2.2.1 x.2.2.2.1 x.2.2.2.2.1 x.2.2.2.2.2 f.1 f.2.1 f.2.2.1 f.2.2.2.1 f.2.2.2.2.1 f.2.2.2.2.2.1 f.2.2.2.2.2.2.1 f.2.2.2.2.2.2.2 k = _
      have e : bAnd (bAnd (lAt x.2.1 (k : Int)).2.1 (iEq (lAt x.2.1 (k : Int)).2.2.2.1 f.2.2.2.1)) (iEq (lAt x.2.1 (k : Int)).2.2.2.2.1 f.2.2.2.2.1) = true := by rw [and_t, and_t, iEq_t, iEq_t, and_assoc]; exact hp
      unfold B45_0
      rw [iLt_y (by omega), oIn_y (by unfold lLen; omega), sel_t, sel_t, or_tt, or_tt, sel_t, sel_t, e]
      rfl
    · show B45_0 i x.1.1 x.1.2 x.2.1 x.2.2.1 x.2.2.2.1 x.2.2.2.2.1 x.2.2.2.2.2 f.1 f.2.1 f.2.2.1 f.2.2.2.1 f.2.2.2.2.1 f.2.2.2.2.2.1 f.2.2.2.2.2.2.1 f.2.2.2.2.2.2.2 i = _
      unfold B45_0
      rw [iLt_f (by omega), sel_f]
  rcases hL with ⟨k, h1, h2, h3, e⟩ | ⟨h1, e⟩
  · exact .inl ⟨⟨k, h1, h2⟩, e⟩
  · exact .inr ⟨h1, e⟩
end Go.Proofs.YtagcodkkkebnhaaGreat.K
end

section
set_option linter.unusedVariables false
set_option linter.unusedSimpArgs false
set_option linter.unnecessarySimpa false
open Go Go.Ev
namespace Go.Proofs.YtagcodkkkebnhaaGreat.K
abbrev fAt (x : PAG) (i : Nat) : FRM := lAt x.2.1 (i : Int)
/-- A right frame. -/
def rightF (x : PAG) (i : Nat) : Prop :=
  0 ≤ (fAt x i).1 ∧ (fAt x i).1 ≤ 2 ∧
  (((fAt x i).2.1 = false ∧ fAt x i = fr (fAt x i).1) ∨
   ((fAt x i).2.1 = true ∧ hasP x.1 (fAt x i).2.2.2.1 (fAt x i).2.2.2.2.1 ∧ sLen (fAt x i).2.2.2.2.2.1 = 32 ∧ (∀ k, k < i → ¬ twin (fAt x k) (fAt x i)) ∧
    1 ≤ (fAt x i).2.2.2.2.2.2.1 ∧ (fAt x i).2.2.2.2.2.2.1 ≤ x.2.2.2.1 ∧ ((fAt x i).2.2.1 = false → (fAt x i).2.2.2.2.2.1 = pageAt x.1 (fAt x i).2.2.2.1 (fAt x i).2.2.2.2.1)))
theorem cut_len {α : Type} (l : List α) (i : Nat) (h : i ≤ l.length) : (lCut l 0 (i : Int)).length = i := by
  unfold lCut; rw [Int.toNat_natCast]; simp; omega
theorem cut_at {α : Type} [Inhabited α] (l : List α) (i k : Nat) (h : k < i) : lAt (lCut l 0 (i : Int)) (k : Int) = lAt l (k : Int) := by
  rw [lAt_n, lAt_n]; unfold lCut; rw [Int.toNat_natCast, show (0 : Int).toNat = 0 from rfl, List.drop_zero, List.getElem?_take, if_pos h]
theorem fr_free {f : FRM} (h : bAnd (iEq f.1 f.1) (bAnd (bEq f.2.1 false) (bAnd (bEq f.2.2.1 false) (bAnd (iEq f.2.2.2.1 0) (bAnd (iEq f.2.2.2.2.1 0) (bAnd (sEq f.2.2.2.2.2.1 (bs [])) (bAnd (iEq f.2.2.2.2.2.2.1 0) (iEq f.2.2.2.2.2.2.2 (-1)))))))) = true) : f = fr f.1 := by
  obtain ⟨a, b, c, d, e, g, i, j⟩ := f
  simp only [and_t, iEq_t, bEq_t, sEq_t] at h
  obtain ⟨_, h1, h2, h3, h4, h5, h6, h7⟩ := h
  subst h1 h2 h3 h4 h5 h6 h7
  rfl
theorem frame_eq (x : PAG) (i : Nat) (hf : fewS x.1) (hi : i < x.2.1.length) (hl : x.2.1.length ≤ 1000000) : ∃ e, F37 x (i : Int) = some e ∧ F45 x (i : Int) = some e ∧ (e = 0 → rightF x i) := by
  unfold F37 F45
  rw [oIn_y (by unfold lLen; omega), sel_t, sel_t, let_s, let_s]
  by_cases hp : 0 ≤ (fAt x i).1 ∧ (fAt x i).1 ≤ 2
  · have w1 : F32 (lAt x.2.1 (i : Int)).1 0 2 = true := by unfold F32; rw [and_t, iLe_t, iLe_t]; exact hp
    have w2 : F44 (lAt x.2.1 (i : Int)).1 0 2 = true := by unfold F44; rw [and_t, iLe_t, iLe_t]; exact hp
    rw [w1, w2, nt, sel_f, sel_f]
    by_cases hu : (lAt x.2.1 (i : Int)).2.1 = false
    · have n : bNot (lAt x.2.1 (i : Int)).2.1 = true := by rw [not_t]; exact hu
      rw [n, sel_t, sel_t]
      cases hc : bAnd (iEq (lAt x.2.1 (i : Int)).1 (lAt x.2.1 (i : Int)).1) (bAnd (bEq (lAt x.2.1 (i : Int)).2.1 false) (bAnd (bEq (lAt x.2.1 (i : Int)).2.2.1 false) (bAnd (iEq (lAt x.2.1 (i : Int)).2.2.2.1 0) (bAnd (iEq (lAt x.2.1 (i : Int)).2.2.2.2.1 0) (bAnd (sEq (lAt x.2.1 (i : Int)).2.2.2.2.2.1 (bs [])) (bAnd (iEq (lAt x.2.1 (i : Int)).2.2.2.2.2.2.1 0) (iEq (lAt x.2.1 (i : Int)).2.2.2.2.2.2.2 (-1)))))))) with
      | true => exact ⟨0, rfl, rfl, fun _ => ⟨hp.1, hp.2, .inl ⟨hu, fr_free hc⟩⟩⟩
      | false => exact ⟨5, rfl, rfl, fun h => by cases h⟩
    · have hu : (lAt x.2.1 (i : Int)).2.1 = true := by simpa using hu
      have n : bNot (lAt x.2.1 (i : Int)).2.1 = false := by rw [hu]; rfl
      rw [n, sel_f, sel_f]
      by_cases hh : hasP x.1 (fAt x i).2.2.2.1 (fAt x i).2.2.2.2.1
      · rw [F54_y hf hh, F60_y hf hh, bnd_s, bnd_s]
        dsimp only
        rw [nt, sel_f, sel_f]
        by_cases h32 : sLen (fAt x i).2.2.2.2.2.1 = 32
        · rw [iEq_y h32, nt, sel_f, sel_f, oCut_y (by unfold lLen; omega), sel_t]
          have hct := cut_len x.2.1 i (by omega)
          rcases F71_eq (lCut x.2.1 0 (i : Int)) (fAt x i) (by omega) with ⟨⟨k, k1, k2⟩, e1⟩ | ⟨k1, e1⟩ <;> rcases L47_eq x (fAt x i) i (by omega) hl with ⟨⟨j, j1, j2⟩, e2⟩ | ⟨j1, e2⟩
          · rw [e1, e2]
            exact ⟨13, rfl, rfl, fun h => by cases h⟩
          · rw [cut_at _ _ _ (by omega)] at k2
            exact absurd k2 (j1 k (by omega))
          · refine absurd j2 ?_
            have := k1 j (by omega)
            rw [cut_at _ _ _ (by omega)] at this
            exact this
          · rw [e1, e2, bnd_s, bnd_s]
            dsimp only [sumS]
            rw [sel_f, let_s, let_s]
            by_cases ht : 1 ≤ (fAt x i).2.2.2.2.2.2.1 ∧ (fAt x i).2.2.2.2.2.2.1 ≤ x.2.2.2.1
            · have w3 : F32 (lAt x.2.1 (i : Int)).2.2.2.2.2.2.1 1 x.2.2.2.1 = true := by unfold F32; rw [and_t, iLe_t, iLe_t]; exact ht
              have w4 : F44 (lAt x.2.1 (i : Int)).2.2.2.2.2.2.1 1 x.2.2.2.1 = true := by unfold F44; rw [and_t, iLe_t, iLe_t]; exact ht
              rw [w3, w4, nt, sel_f, sel_f, F74_y hf hh, okS_s, valS_s, or_tt, sel_t, let_s]
              cases hc : bAnd (bNot (lAt x.2.1 (i : Int)).2.2.1) (bNot (sEq (lAt x.2.1 (i : Int)).2.2.2.2.2.1 (pageAt x.1 (lAt x.2.1 (i : Int)).2.2.2.1 (lAt x.2.1 (i : Int)).2.2.2.2.1))) with
              | true => exact ⟨15, rfl, rfl, fun h => by cases h⟩
              | false =>
                refine ⟨0, rfl, rfl, fun _ => ⟨hp.1, hp.2, .inr ⟨hu, hh, h32, j1, ht.1, ht.2, fun h => ?_⟩⟩⟩
                rw [bf_t, and_t, not_t, not_t, bf_t (sEq _ _), sEq_t] at hc
                exact Classical.not_not.1 fun hn => hc ⟨h, hn⟩
            · have w3 : F32 (lAt x.2.1 (i : Int)).2.2.2.2.2.2.1 1 x.2.2.2.1 = false := by rw [bf_t]; unfold F32; rw [and_t, iLe_t, iLe_t]; exact ht
              have w4 : F44 (lAt x.2.1 (i : Int)).2.2.2.2.2.2.1 1 x.2.2.2.1 = false := by rw [bf_t]; unfold F44; rw [and_t, iLe_t, iLe_t]; exact ht
              rw [w3, w4]
              exact ⟨3, rfl, rfl, fun h => by cases h⟩
        · rw [iEq_f h32]
          exact ⟨18, rfl, rfl, fun h => by cases h⟩
      · rw [F54_n hf hh, F60_n hf hh]
        exact ⟨11, rfl, rfl, fun h => by cases h⟩
  · have w1 : F32 (lAt x.2.1 (i : Int)).1 0 2 = false := by rw [bf_t]; unfold F32; rw [and_t, iLe_t, iLe_t]; exact hp
    have w2 : F44 (lAt x.2.1 (i : Int)).1 0 2 = false := by rw [bf_t]; unfold F44; rw [and_t, iLe_t, iLe_t]; exact hp
    rw [w1, w2]
    exact ⟨3, rfl, rfl, fun h => by cases h⟩
end Go.Proofs.YtagcodkkkebnhaaGreat.K
end

section
set_option linter.unusedVariables false
set_option linter.unusedSimpArgs false
set_option linter.unnecessarySimpa false
open Go Go.Ev
namespace Go.Proofs.YtagcodkkkebnhaaGreat.K
def fe (x : PAG) (i : Nat) : Int := (F37 x (i : Int)).getD 0
theorem fe_eq (x : PAG) (i : Nat) (hf : fewS x.1) (hi : i < x.2.1.length) (hl : x.2.1.length ≤ 1000000) : F37 x (i : Int) = some (fe x i) ∧ F45 x (i : Int) = some (fe x i) ∧ (fe x i = 0 → rightF x i) := by
  obtain ⟨e, h1, h2, h3⟩ := frame_eq x i hf hi hl
  have : fe x i = e := by unfold fe; rw [h1]; rfl
  rw [this]
  exact ⟨h1, h2, h3⟩
abbrev opg (x : PAG) : List SEG × (Int × REST) := (x.1.1, (x.1.2, x.2))
theorem L13c_eq (x : PAG) (hf : fewS x.1) (hl : x.2.1.length ≤ 1000000) : (∃ i, i < x.2.1.length ∧ fe x i ≠ 0 ∧ (∀ k, k < i → ¬ fe x k ≠ 0) ∧ L20_2 (opg x, (lLen x.2.1, 0)) = some (.inr (fe x i))) ∨ ((∀ i, i < x.2.1.length → ¬ fe x i ≠ 0) ∧ L20_2 (opg x, (lLen x.2.1, 0)) = some (.inl (opg x))) := by
  refine iter_first (fun i => (opg x, (lLen x.2.1, (i : Int)))) (fun i => fe x i ≠ 0) x.2.1.length (fun i => Sum.inr (fe x i)) (Sum.inl (opg x)) (by omega) ?_ ?_ ?_
  · intro i hi hp
    have hp := Classical.not_not.1 hp
    show B20_2 x.1.1 x.1.2 x.2.1 x.2.2.1 x.2.2.2.1 x.2.2.2.2.1 x.2.2.2.2.2 (lLen x.2.1) i = some (.inl (opg x, (lLen x.2.1, ((i + 1 : Nat) : Int))))
    unfold B20_2
    have e : F37 ((x.1.1, x.1.2), (x.2.1, (x.2.2.1, (x.2.2.2.1, (x.2.2.2.2.1, x.2.2.2.2.2))))) (i : Int) = some (fe x i) := (fe_eq x i hf hi hl).1
    rw [iLt_y (by unfold lLen; omega), sel_t, e, hp, add_n (by omega) (by omega)]
    rfl
  · intro i hi hp
    show B20_2 x.1.1 x.1.2 x.2.1 x.2.2.1 x.2.2.2.1 x.2.2.2.2.1 x.2.2.2.2.2 (lLen x.2.1) i = _
    unfold B20_2
    have e : F37 ((x.1.1, x.1.2), (x.2.1, (x.2.2.1, (x.2.2.2.1, (x.2.2.2.2.1, x.2.2.2.2.2))))) (i : Int) = some (fe x i) := (fe_eq x i hf hi hl).1
    rw [iLt_y (by unfold lLen; omega), sel_t, e, bnd_s, iEq_f hp]
    rfl
  · show B20_2 x.1.1 x.1.2 x.2.1 x.2.2.1 x.2.2.2.1 x.2.2.2.2.1 x.2.2.2.2.2 (lLen x.2.1) x.2.1.length = _
    unfold B20_2
    rw [iLt_f (by unfold lLen; omega), sel_f]
theorem L15a_eq (x : PAG) (hf : fewS x.1) (hl : x.2.1.length ≤ 1000000) : (∃ i, i < x.2.1.length ∧ fe x i ≠ 0 ∧ (∀ k, k < i → ¬ fe x k ≠ 0) ∧ L24_0 (opg x, 0) = some (.inr (fe x i))) ∨ ((∀ i, i < x.2.1.length → ¬ fe x i ≠ 0) ∧ L24_0 (opg x, 0) = some (.inl (opg x))) := by
  refine iter_first (fun i => (opg x, (i : Int))) (fun i => fe x i ≠ 0) x.2.1.length (fun i => Sum.inr (fe x i)) (Sum.inl (opg x)) (by omega) ?_ ?_ ?_
  · intro i hi hp
    have hp := Classical.not_not.1 hp
    show B24_0 x.1.1 x.1.2 x.2.1 x.2.2.1 x.2.2.2.1 x.2.2.2.2.1 x.2.2.2.2.2 i = some (.inl (opg x, ((i + 1 : Nat) : Int)))
    unfold B24_0
    have e : F45 ((x.1.1, x.1.2), (x.2.1, (x.2.2.1, (x.2.2.2.1, (x.2.2.2.2.1, x.2.2.2.2.2))))) (i : Int) = some (fe x i) := (fe_eq x i hf hi hl).2.1
    rw [iLt_y (by unfold lLen; omega), sel_t, e, hp, add_n (by omega) (by omega)]
    rfl
  · intro i hi hp
    show B24_0 x.1.1 x.1.2 x.2.1 x.2.2.1 x.2.2.2.1 x.2.2.2.2.1 x.2.2.2.2.2 i = _
    unfold B24_0
    have e : F45 ((x.1.1, x.1.2), (x.2.1, (x.2.2.1, (x.2.2.2.1, (x.2.2.2.2.1, x.2.2.2.2.2))))) (i : Int) = some (fe x i) := (fe_eq x i hf hi hl).2.1
    rw [iLt_y (by unfold lLen; omega), sel_t, e, bnd_s, iEq_f hp]
    rfl
  · show B24_0 x.1.1 x.1.2 x.2.1 x.2.2.1 x.2.2.2.1 x.2.2.2.2.1 x.2.2.2.2.2 x.2.1.length = _
    unfold B24_0
    rw [iLt_f (by unfold lLen; omega), sel_f]
/-- The two answer alike on the frames. -/
theorem frames_eq (x : PAG) (hf : fewS x.1) (hl : x.2.1.length ≤ 1000000) : (∃ e, e ≠ 0 ∧ L20_2 (opg x, (lLen x.2.1, 0)) = some (.inr e) ∧ L24_0 (opg x, 0) = some (.inr e)) ∨ ((∀ i, i < x.2.1.length → rightF x i) ∧ L20_2 (opg x, (lLen x.2.1, 0)) = some (.inl (opg x)) ∧ L24_0 (opg x, 0) = some (.inl (opg x))) := by
  rcases L13c_eq x hf hl with ⟨i, h1, h2, h3, e⟩ | ⟨h1, e⟩ <;> rcases L15a_eq x hf hl with ⟨j, k1, k2, k3, e'⟩ | ⟨k1, e'⟩
  · obtain rfl : i = j := by
      rcases Nat.lt_trichotomy i j with h | h | h
      · exact absurd h2 (k3 i h)
      · exact h
      · exact absurd k2 (h3 j h)
    exact .inl ⟨_, h2, e, e'⟩
  · exact absurd h2 (k1 i h1)
  · exact absurd k2 (h1 j k1)
  · exact .inr ⟨fun i hi => (fe_eq x i hf hi hl).2.2 (Classical.not_not.1 (h1 i hi)), e, e'⟩
def inN (n : Int) : Prop := 0 ≤ n ∧ n ≤ 999999999999999
theorem L13a_eq (x : PAG) (l : List Int) (hl : l.length ≤ 1000000) : (∃ i, i < l.length ∧ ¬ inN (lAt l (i : Int)) ∧ (∀ k, k < i → ¬ ¬ inN (lAt l (k : Int))) ∧ L20_0 (opg x, (l, (lLen l, 0))) = some (.inr 3)) ∨ ((∀ i, i < l.length → ¬ ¬ inN (lAt l (i : Int))) ∧ L20_0 (opg x, (l, (lLen l, 0))) = some (.inl (opg x))) := by
  refine iter_first (fun i => (opg x, (l, (lLen l, (i : Int))))) (fun i => ¬ inN (lAt l (i : Int))) l.length (fun _ => Sum.inr (3 : Int)) (Sum.inl (opg x)) (by omega) ?_ ?_ ?_
  · intro i hi hp
    have hp := Classical.not_not.1 hp
    show B20_0 x.1.1 x.1.2 x.2.1 x.2.2.1 x.2.2.2.1 x.2.2.2.2.1 x.2.2.2.2.2 l (lLen l) i = some (.inl (opg x, (l, (lLen l, ((i + 1 : Nat) : Int)))))
    have e : F32 (lAt l (i : Int)) 0 999999999999999 = true := by unfold F32; rw [and_t, iLe_t, iLe_t]; exact hp
    unfold B20_0
    rw [iLt_y (by unfold lLen; omega), oIn_y (by unfold lLen; omega), e, add_n (by omega) (by omega)]
    rfl
  · intro i hi hp
    show B20_0 x.1.1 x.1.2 x.2.1 x.2.2.1 x.2.2.2.1 x.2.2.2.2.1 x.2.2.2.2.2 l (lLen l) i = _
    have e : F32 (lAt l (i : Int)) 0 999999999999999 = false := by rw [bf_t]; unfold F32; rw [and_t, iLe_t, iLe_t]; exact hp
    unfold B20_0
    rw [iLt_y (by unfold lLen; omega), oIn_y (by unfold lLen; omega), e]
    rfl
  · show B20_0 x.1.1 x.1.2 x.2.1 x.2.2.1 x.2.2.2.1 x.2.2.2.2.1 x.2.2.2.2.2 l (lLen l) l.length = _
    unfold B20_0
    rw [iLt_f (by unfold lLen; omega), sel_f]
end Go.Proofs.YtagcodkkkebnhaaGreat.K
end

section
set_option linter.unusedVariables false
set_option linter.unusedSimpArgs false
set_option linter.unnecessarySimpa false
open Go Go.Ev
namespace Go.Proofs.YtagcodkkkebnhaaGreat.K
/-- The chain of a frame's page. -/
def bk (f : FRM) : Int := iRem (iAdd .i64 (iMul .i64 7 f.2.2.2.1) f.2.2.2.2.1) 5
theorem F73_eq (f : FRM) : F63 f.2.2.2.1 f.2.2.2.2.1 = some (bk f) := rfl
theorem F76_eq (f : FRM) : F78 f.2.2.2.1 f.2.2.2.2.1 = some (bk f) := rfl
theorem lAt_mem {l : List Int} {a : Int} : (∃ i, i < l.length ∧ lAt l (i : Int) = a) ↔ a ∈ l := by
  rw [List.mem_iff_getElem]
  constructor
  · rintro ⟨i, h, e⟩; exact ⟨i, h, by rw [← e, lAt_lt h]⟩
  · rintro ⟨i, h, e⟩; exact ⟨i, h, by rw [← e, lAt_lt h]⟩
theorem F75_eq (l : List Int) (a : Int) (hl : l.length ≤ 1000000) : (∃ i, i < l.length ∧ lAt l (i : Int) = a ∧ (∀ k, k < i → ¬ lAt l (k : Int) = a) ∧ F77 l a = some (i : Int)) ∨ ((∀ i, i < l.length → ¬ lAt l (i : Int) = a) ∧ F77 l a = some (-1)) := by
  have hL : (∃ i, i < l.length ∧ lAt l (i : Int) = a ∧ (∀ k, k < i → ¬ lAt l (k : Int) = a) ∧ L77_0 (l, (a, 0)) = some (.inr (i : Int))) ∨ ((∀ i, i < l.length → ¬ lAt l (i : Int) = a) ∧ L77_0 (l, (a, 0)) = some (Sum.inl ())) := by
    refine iter_first (fun i => (l, (a, (i : Int)))) (fun i => lAt l (i : Int) = a) l.length (fun i => Sum.inr (i : Int)) (Sum.inl ()) (by omega) ?_ ?_ ?_
    · intro i hi hp
      show B77_0 l a i = some (.inl (l, (a, ((i + 1 : Nat) : Int))))
      unfold B77_0
      rw [iLt_y (by unfold lLen; omega), oIn_y (by unfold lLen; omega), iEq_f hp, add_n (by omega) (by omega)]
      rfl
    · intro i hi hp
      show B77_0 l a i = _
      unfold B77_0
      rw [iLt_y (by unfold lLen; omega), oIn_y (by unfold lLen; omega), iEq_y hp]
      rfl
    · show B77_0 l a l.length = _
      unfold B77_0
      rw [iLt_f (by unfold lLen; omega), sel_f]
  unfold F77
  rcases hL with ⟨i, h1, h2, h3, e⟩ | ⟨h1, e⟩ <;> rw [e]
  · exact .inl ⟨i, h1, h2, h3, rfl⟩
  · exact .inr ⟨h1, rfl⟩
theorem F75_mem (l : List Int) (a : Int) (hl : l.length ≤ 1000000) : ∃ j, F77 l a = some j ∧ (j = -1 ↔ ¬ a ∈ l) := by
  rcases F75_eq l a hl with ⟨i, h1, h2, _, e⟩ | ⟨h1, e⟩
  · exact ⟨i, e, by constructor
                    · intro h; omega
                    · intro h; exact absurd (lAt_mem.1 ⟨i, h1, h2⟩) h⟩
  · exact ⟨-1, e, by constructor
                     · intro _ h
                       obtain ⟨i, k1, k2⟩ := lAt_mem.2 h
                       exact h1 i k1 k2
                     · intro _; rfl⟩
/-- A frame of a chain. -/
def gd (x : PAG) (c a : Int) : Prop := 0 ≤ a ∧ a < lLen x.2.1 ∧ (lAt x.2.1 a).2.1 = true ∧ bk (lAt x.2.1 a) = c
def nxt (x : PAG) (a : Int) : Int := (lAt x.2.1 a).2.2.2.2.2.2.2
theorem B48_y (x : PAG) (c a : Int) (out : List Int) (ho : out.length ≤ 1000) (hn : x.2.1.length ≤ 1000) (ha : a ≠ -1) (hg : gd x c a) (hm : ¬ a ∈ out) : B46_0 c x.1.1 x.1.2 x.2.1 x.2.2.1 x.2.2.2.1 x.2.2.2.2.1 x.2.2.2.2.2 out a = some (.inl (c, (opg x, (out ++ [a], nxt x a)))) := by
  obtain ⟨g1, g2, g3, g4⟩ := hg
  obtain ⟨j, e, hj⟩ := F75_mem out a (by omega)
  have hl : lLen x.2.1 = x.2.1.length := rfl
  have w : F44 a 0 (iSub .i64 (lLen x.2.1) 1) = true := by rw [sub_n (by omega) (by omega)]; unfold F44; rw [and_t, iLe_t, iLe_t]; omega
  unfold B46_0
  rw [iEq_f ha, nf, sel_t, w, let_s, e, okS_s, or_tt, sel_t, valS_s, let_s, iEq_y (hj.2 hm), nt, or_ff, sel_f, oIn_y ⟨g1, g2⟩, sel_t, F76_eq, okS_s, or_tt, sel_t, valS_s, let_s, g3, g4, iEq_y rfl, nt, or_ff, sel_f, lCap_y (by decide) (by decide) (by simp [lApp]; omega)]
  rfl
theorem B48_n (x : PAG) (c a : Int) (out : List Int) (ho : out.length ≤ 1000) (hn : x.2.1.length ≤ 1000) (ha : a ≠ -1) (hg : ¬ (gd x c a ∧ ¬ a ∈ out)) : B46_0 c x.1.1 x.1.2 x.2.1 x.2.2.1 x.2.2.2.1 x.2.2.2.2.1 x.2.2.2.2.2 out a = some (.inr (.inr false)) := by
  obtain ⟨j, e, hj⟩ := F75_mem out a (by omega)
  have hl : lLen x.2.1 = x.2.1.length := rfl
  unfold B46_0
  rw [iEq_f ha, nf, sel_t, sub_n (by omega) (by omega), let_s, e, okS_s, or_tt, sel_t, valS_s, let_s]
  by_cases hr : 0 ≤ a ∧ a < lLen x.2.1
  · have w : F44 a 0 (lLen x.2.1 - 1) = true := by unfold F44; rw [and_t, iLe_t, iLe_t]; omega
    rw [w, nt, or_ff]
    by_cases hm : a ∈ out
    · rw [iEq_f (fun h => hj.1 h hm)]; rfl
    · rw [iEq_y (hj.2 hm), nt, sel_f, oIn_y hr, sel_t, F76_eq, okS_s, or_tt, sel_t, valS_s, let_s]
      have : bOr (bNot (lAt x.2.1 a).2.1) (bNot (iEq (bk (lAt x.2.1 a)) c)) = true := by
        rw [or_t, not_t, not_t, bf_t, bf_t (iEq _ _), iEq_t]
        exact Classical.byContradiction fun h => hg ⟨⟨hr.1, hr.2, Classical.byContradiction fun h' => h (.inl h'), Classical.byContradiction fun h' => h (.inr h')⟩, hm⟩
      rw [this]
      rfl
  · have w : F44 a 0 (lLen x.2.1 - 1) = false := by rw [bf_t]; unfold F44; rw [and_t, iLe_t, iLe_t]; omega
    rw [w]
    rfl
end Go.Proofs.YtagcodkkkebnhaaGreat.K
end

section
set_option linter.unusedVariables false
set_option linter.unusedSimpArgs false
set_option linter.unnecessarySimpa false
open Go Go.Ev
namespace Go.Proofs.YtagcodkkkebnhaaGreat.K
theorem B46_y (x : PAG) (c a : Int) (seen : List Bool) (hs : List Int) (n i : Int) (hn : seen.length = x.2.1.length) (ha : a ≠ -1) (hg : gd x c a) (hm : lAt seen a = false) : B38_2 x.1.1 x.1.2 x.2.1 x.2.2.1 x.2.2.2.1 x.2.2.2.2.1 x.2.2.2.2.2 seen c a hs n i = some (.inl (opg x, (lSet seen a true, (c, (nxt x a, (hs, (n, i))))))) := by
  obtain ⟨g1, g2, g3, g4⟩ := hg
  have hl : lLen x.2.1 = x.2.1.length := rfl
  have hl' : lLen seen = x.2.1.length := by rw [← hn]; rfl
  unfold B38_2
  rw [iEq_f ha, nf, sel_t, oIn_y (a := a) (b := lLen seen) ⟨g1, by omega⟩, oIn_y (a := a) (b := lLen x.2.1) ⟨g1, g2⟩, or_tt, sel_t, or_tt, sel_t, sel_t, sel_t, F73_eq, okS_s, or_tt, sel_t, valS_s, let_s, iLt_f (by omega), iLe_f (by omega), hm, g3, g4, iEq_y rfl]
  rfl
theorem B46_n (x : PAG) (c a : Int) (seen : List Bool) (hs : List Int) (n i : Int) (hn : seen.length = x.2.1.length) (ha : a ≠ -1) (hg : ¬ (gd x c a ∧ lAt seen a = false)) : B38_2 x.1.1 x.1.2 x.2.1 x.2.2.1 x.2.2.2.1 x.2.2.2.2.1 x.2.2.2.2.2 seen c a hs n i = some (.inr (.inr false)) := by
  have hl : lLen x.2.1 = x.2.1.length := rfl
  have hl' : lLen seen = x.2.1.length := by rw [← hn]; rfl
  unfold B38_2
  rw [iEq_f ha, nf, sel_t]
  by_cases hr : 0 ≤ a ∧ a < lLen x.2.1
  · rw [oIn_y (a := a) (b := lLen seen) ⟨hr.1, by omega⟩, oIn_y (a := a) (b := lLen x.2.1) hr, or_tt, sel_t, or_tt, sel_t, sel_t, sel_t, F73_eq, okS_s, or_tt, sel_t, valS_s, let_s, iLt_f (by omega), iLe_f (by omega), or_ff, or_ff]
    have : bOr (bOr (lAt seen a) (bNot (lAt x.2.1 a).2.1)) (bNot (iEq (bk (lAt x.2.1 a)) c)) = true := by
      rw [or_t, or_t, not_t, not_t, bf_t (iEq _ _), iEq_t]
      refine Classical.byContradiction fun h => hg ⟨⟨hr.1, hr.2, ?_, Classical.byContradiction fun h' => h (.inr h')⟩, ?_⟩
      · exact Classical.byContradiction fun h' => h (.inl (.inr (by simpa using h')))
      · exact Classical.byContradiction fun h' => h (.inl (.inl (by simpa using h')))
    rw [this]
    rfl
  · have w : bOr (iLt a 0) (iLe (lLen seen) a) = true := by rw [or_t, iLt_t, iLe_t]; omega
    rw [w]
    simp only [or_tt, nt, nf, sel_t]
    cases oIn a (lLen seen) <;> cases oIn a (lLen x.2.1) <;> cases okS (F63 (lAt x.2.1 a).2.2.2.1 (lAt x.2.1 a).2.2.2.2.1) <;> rfl
end Go.Proofs.YtagcodkkkebnhaaGreat.K
end

section
set_option linter.unusedVariables false
set_option linter.unusedSimpArgs false
set_option linter.unnecessarySimpa false
open Go Go.Ev
namespace Go.Proofs.YtagcodkkkebnhaaGreat.K
theorem set_at {α : Type} [Inhabited α] (l : List α) (i j : Nat) (v : α) (h : i < l.length) : lAt (lSet l (i : Int) v) (j : Int) = if j = i then v else lAt l (j : Int) := by
  rw [lAt_n, lAt_n]
  unfold lSet
  rw [Int.toNat_natCast, List.getElem?_set]
  by_cases hj : j = i
  · subst hj; rw [if_pos rfl, if_pos h, if_pos rfl]; rfl
  · rw [if_neg (fun e => hj e.symm), if_neg hj]
theorem count_set_t : ∀ (l : List Bool) (i : Nat), i < l.length → lAt l (i : Int) = false → (l.set i true).count true = l.count true + 1
  | [], i, h, _ => by simp at h
  | b :: l, 0, _, h => by
    have : b = false := h
    subst this
    simp
  | b :: l, i + 1, h, h' => by
    rw [lAt_succ] at h'
    have := count_set_t l i (by simpa using h) h'
    simp only [List.set_cons_succ, List.count_cons, this]
    omega
/-- From a head along the next ones to a last one. -/
def path (x : PAG) : Int → List Int → Int → Prop
  | h, [], a => h = a
  | h, b :: r, a => h = b ∧ b ≠ -1 ∧ path x (nxt x b) r a
theorem path_snoc (x : PAG) (a : Int) (ha : a ≠ -1) : ∀ (l : List Int) (h : Int), path x h l a → path x h (l ++ [a]) (nxt x a)
  | [], h, hp => ⟨hp, ha, rfl⟩
  | _ :: r, _, hp => ⟨hp.1, hp.2.1, path_snoc x a ha r _ hp.2.2⟩
/-- Where the two walks along a chain stand. -/
def St (x : PAG) (c : Int) (S0 : List Bool) (h : Int) (seen : List Bool) (out : List Int) (a : Int) : Prop :=
  seen.length = x.2.1.length ∧ (∀ k : Nat, k < x.2.1.length → (lAt seen (k : Int) = true ↔ lAt S0 (k : Int) = true ∨ (k : Int) ∈ out)) ∧ (∀ b ∈ out, gd x c b) ∧ out.Nodup ∧ seen.count true = S0.count true + out.length ∧ path x h out a
theorem chain_two (x : PAG) (c h : Int) (S0 : List Bool) (hs : List Int) (n i : Int) (hn : x.2.1.length ≤ 1000) (h0 : S0.length = x.2.1.length) (hS : ∀ k : Nat, k < x.2.1.length → lAt S0 (k : Int) = true → ¬ gd x c (k : Int)) :
    ∃ r s, L38_2 (opg x, (S0, (c, (h, (hs, (n, i)))))) = some r ∧ L46_0 (c, (opg x, (([] : List Int), h))) = some s ∧
      ((∃ seen out, St x c S0 h seen out (-1) ∧ r = .inl (opg x, (seen, (hs, (n, i)))) ∧ s = .inl out) ∨ (r = .inr false ∧ s = .inr false)) := by
  refine loop_two (fun m y z => ∃ seen out a, St x c S0 h seen out a ∧ y = (opg x, (seen, (c, (a, (hs, (n, i)))))) ∧ z = (c, (opg x, (out, a))) ∧ m = x.2.1.length - out.length) x.2.1.length ⟨S0, [], h, ⟨h0, fun k _ => by simp, by simp, by simp, by simp, rfl⟩, rfl, rfl, by simp⟩ (by omega) ?_
  rintro m y z ⟨seen, out, a, ⟨s1, s2, s3, s4, s5, s6⟩, rfl, rfl, rfl⟩
  have hc := List.count_le_length (a := true) (l := seen)
  show (∃ k x' y', _ ∧ B38_2 x.1.1 x.1.2 x.2.1 x.2.2.1 x.2.2.2.1 x.2.2.2.2.1 x.2.2.2.2.2 seen c a hs n i = _ ∧ B46_0 c x.1.1 x.1.2 x.2.1 x.2.2.1 x.2.2.2.1 x.2.2.2.2.1 x.2.2.2.2.2 out a = _ ∧ _) ∨ (∃ r s, B38_2 x.1.1 x.1.2 x.2.1 x.2.2.1 x.2.2.2.1 x.2.2.2.2.1 x.2.2.2.2.2 seen c a hs n i = _ ∧ B46_0 c x.1.1 x.1.2 x.2.1 x.2.2.1 x.2.2.2.1 x.2.2.2.2.1 x.2.2.2.2.2 out a = _ ∧ _)
  by_cases ha : a = -1
  · subst ha
    refine .inr ⟨_, _, rfl, rfl, .inl ⟨seen, out, ⟨s1, s2, s3, s4, s5, s6⟩, rfl, rfl⟩⟩
  · by_cases hg : gd x c a
    · obtain ⟨j, rfl⟩ : ∃ j : Nat, a = (j : Int) := ⟨a.toNat, by have := hg.1; omega⟩
      have hj : j < x.2.1.length := by have := hg.2.1; unfold lLen at this; omega
      have key : lAt seen (j : Int) = false ↔ ¬ (j : Int) ∈ out := by
        rw [bf_t, s2 j hj]
        constructor
        · exact fun h1 h2 => h1 (.inr h2)
        · rintro h1 (h2 | h2)
          · exact hS j hj h2 hg
          · exact h1 h2
      by_cases hm : (j : Int) ∈ out
      · refine .inr ⟨_, _, B46_n x c j seen hs n i s1 ha (fun h => key.1 h.2 hm), B48_n x c j out (by omega) hn ha (fun h => h.2 hm), .inr ⟨rfl, rfl⟩⟩
      · refine .inl ⟨x.2.1.length - (out ++ [(j : Int)]).length, _, _, ?_, B46_y x c j seen hs n i s1 ha hg (key.2 hm), B48_y x c j out (by omega) hn ha hg hm, ?_⟩
        · have h6 := count_set_t seen j (by omega) (key.2 hm)
          have h7 := List.count_le_length (a := true) (l := seen.set j true)
          rw [List.length_set] at h7
          simp only [List.length_append, List.length_singleton]
          omega
        · refine ⟨lSet seen j true, out ++ [(j : Int)], nxt x j, ⟨?_, ?_, ?_, ?_, ?_, path_snoc x j ha out h s6⟩, rfl, rfl, rfl⟩
          · unfold lSet; rw [List.length_set]; exact s1
          · intro k hk
            rw [set_at seen j k true (by omega), List.mem_append, List.mem_singleton]
            by_cases hkj : k = j
            · subst hkj; simp
            · rw [if_neg hkj, s2 k hk]
              constructor
              · rintro (h1 | h1)
                · exact .inl h1
                · exact .inr (.inl h1)
              · rintro (h1 | h1 | h1)
                · exact .inl h1
                · exact .inr h1
                · omega
          · intro b hb
            rcases List.mem_append.1 hb with h1 | h1
            · exact s3 b h1
            · rw [List.mem_singleton.1 h1]; exact hg
          · rw [List.nodup_append]
            exact ⟨s4, by simp, fun b hb b' hb' => by rw [List.mem_singleton.1 hb']; rintro rfl; exact hm hb⟩
          · unfold lSet
            rw [Int.toNat_natCast, count_set_t seen j (by omega) (key.2 hm), s5, List.length_append]
            rfl
    · exact .inr ⟨_, _, B46_n x c a seen hs n i s1 ha (fun h => hg h.1), B48_n x c a out (by omega) hn ha (fun h => hg h.1), .inr ⟨rfl, rfl⟩⟩
end Go.Proofs.YtagcodkkkebnhaaGreat.K
end

section
set_option linter.unusedVariables false
set_option linter.unusedSimpArgs false
set_option linter.unnecessarySimpa false
open Go Go.Ev
namespace Go.Proofs.YtagcodkkkebnhaaGreat.K
/-- A store in which bytes of a segment are other ones. -/
def putS (s : STO) (n : Int) (a : Int) (v : ByteArray) : STO := (lSet s.1 (place s.1 n) ((lAt s.1 (place s.1 n)).1, put (lAt s.1 (place s.1 n)).2 a v), s.2)
theorem putS_shp {s : STO} {n : Int} {a : Nat} {v : ByteArray} (hp : 0 ≤ place s.1 n) (h : a + sLen v ≤ sLen (sgB s n)) : shp (putS s n a v) = shp s := by
  obtain ⟨i, hi, _, _, e⟩ := place_in hp
  unfold sgB at h
  rw [e] at h
  unfold shp putS
  refine Prod.ext ?_ rfl
  show (lSet s.1 (place s.1 n) _).map _ = _
  rw [e]
  unfold lSet
  rw [Int.toNat_natCast, List.map_set]
  dsimp only
  rw [put_len _ _ _ h, lAt_lt hi]
  have : ((s.1[i]).1, sLen (s.1[i]).2) = (s.1.map fun g => (g.1, sLen g.2))[i]'(by simpa using hi) := by rw [List.getElem_map]
  rw [this, List.set_getElem_self]
theorem putS_sb {s : STO} {n : Int} {a : Nat} {v : ByteArray} (hp : 0 ≤ place s.1 n) (h : a + sLen v ≤ sLen (sgB s n)) {m : Int} (hm : 0 ≤ place s.1 m) (j : Nat) : sb (putS s n a v) m j = if m = n ∧ a ≤ j ∧ j < a + sLen v then byt v (j - a) else sb s m j := by
  have hs := putS_shp hp h
  obtain ⟨i, hi, hn, _, e⟩ := place_in hp
  obtain ⟨k, hk, hm', _, e'⟩ := place_in hm
  have hpl : place (putS s n a v).1 m = (k : Int) := by rw [shp_place hs, e']
  unfold sb sgB
  rw [hpl, e']
  unfold sgB at h
  rw [e] at h
  show byt (lAt (lSet s.1 (place s.1 n) _) (k : Int)).2 j = _
  rw [e, set_at _ _ _ _ hi]
  by_cases hki : k = i
  · subst hki
    rw [if_pos rfl]
    dsimp only
    rw [byt_put _ _ _ _ h]
    have : m = n := by rw [← hn, ← hm']
    subst this
    simp
  · rw [if_neg hki, if_neg]
    rintro ⟨rfl, _⟩
    rw [e] at e'
    exact hki (by omega)
theorem byt_page {s : STO} {n : Int} (q j : Nat) : byt (pageAt s n (q : Int)) j = if j < 32 then sb s n (q * 32 + j) else none := by
  unfold pageAt
  rw [show (q : Int) * 32 = ((q * 32 : Nat) : Int) by omega, show ((q * 32 : Nat) : Int) + 32 = ((q * 32 + 32 : Nat) : Int) by omega, byt_cut]
  unfold sb sgB
  by_cases h : j < 32
  · rw [if_pos (by omega), if_pos h]
  · rw [if_neg (by omega), if_neg h]
/-- A page of a store in which other bytes are changed. -/
theorem page_sb {s t : STO} {n p : Int} (hp : 0 ≤ p) (h : ∀ j : Nat, (j : Int) / 32 = p → sb s n j = sb t n j) : pageAt s n p = pageAt t n p := by
  obtain ⟨q, rfl⟩ := Int.eq_ofNat_of_zero_le hp
  refine byt_ext fun j => ?_
  rw [byt_page, byt_page]
  split
  · exact h _ (by omega)
  · rfl
theorem page_len {s : STO} {n p : Int} (h : hasP s n p) : sLen (pageAt s n p) = 32 := by
  obtain ⟨h1, h2, h3⟩ := h
  unfold pageAt
  rw [scut_len _ (by omega) (by omega) (by omega)]
  omega
/-- A right store's segments are of whole pages. -/
theorem ok_pages {s : STO} (h : okS0 s) {n : Int} (hp : 0 ≤ place s.1 n) : sLen (sgB s n) % 32 = 0 ∧ 1 ≤ sLen (sgB s n) / 32 ∧ sLen (sgB s n) / 32 ≤ 8 ∧ 1 ≤ n ∧ n ≤ 1000 := by
  obtain ⟨i, hi, hn, _, e⟩ := place_in hp
  have h1 := h.2.2.2 i hi
  have h2 := h.2.2.1
  unfold sgE at h1
  unfold sgB
  rw [e]
  split at h1
  · cases h1
  · split at h1
    · cases h1
    · split at h1
      · cases h1
      · omega
theorem hasP_of {s : STO} (h : okS0 s) {n : Int} (hp : 0 ≤ place s.1 n) {j : Nat} (hj : (j : Int) < sLen (sgB s n)) : hasP s n ((j : Int) / 32) := by
  have := ok_pages h hp
  refine ⟨hp, by omega, ?_⟩
  show _ < sLen (sgB s n) / 32
  omega
theorem hasP_end {s : STO} {n p : Int} (h : hasP s n p) : p * 32 + 32 ≤ sLen (sgB s n) := by
  obtain ⟨_, _, h3⟩ := h
  unfold sgB
  omega
end Go.Proofs.YtagcodkkkebnhaaGreat.K
end

section
set_option linter.unusedVariables false
set_option linter.unusedSimpArgs false
set_option linter.unnecessarySimpa false
open Go Go.Ev
namespace Go.Proofs.YtagcodkkkebnhaaGreat.K
theorem path_uniq (x : PAG) : ∀ (l l' : List Int) (h : Int), path x h l (-1) → path x h l' (-1) → l = l'
  | [], [], _, _, _ => rfl
  | [], b :: _, h, h1, h2 => absurd ((h2.1.symm.trans h1)) h2.2.1
  | b :: _, [], h, h1, h2 => absurd ((h1.1.symm.trans h2)) h1.2.1
  | b :: r, b' :: r', h, h1, h2 => by
    obtain ⟨e1, _, p1⟩ := h1
    obtain ⟨e2, _, p2⟩ := h2
    have e : b = b' := e1.symm.trans e2
    subst e
    rw [path_uniq x r r' _ p1 p2]
/-- The frames of a chain. -/
def CH (x : PAG) (c : Int) (l : List Int) : Prop := path x (lAt x.2.2.1 c) l (-1) ∧ l.Nodup ∧ ∀ b ∈ l, gd x c b
theorem CH_uniq {x : PAG} {c : Int} {l l' : List Int} (h : CH x c l) (h' : CH x c l') : l = l' := path_uniq x l l' _ h.1 h'.1
def inCh (x : PAG) (i : Nat) (k : Int) : Prop := ∃ c : Nat, c < i ∧ ∃ l, CH x (c : Int) l ∧ k ∈ l
theorem table_two (x : PAG) (hn : x.2.1.length ≤ 1000) (hh : x.2.2.1.length = 5) :
    ∃ r s, L38_0 (opg x, (List.replicate x.2.1.length false, (x.2.2.1, (lLen x.2.2.1, 0)))) = some r ∧ L24_2 (opg x, (0, (0, 0))) = some s ∧
      ((∃ seen : List Bool, seen.length = x.2.1.length ∧ (∀ k : Nat, k < x.2.1.length → (lAt seen (k : Int) = true ↔ inCh x 5 k)) ∧ (∀ c : Nat, c < 5 → ∃ l, CH x (c : Int) l) ∧ r = .inl (opg x, seen) ∧ s = .inl (opg x, ((seen.count true : Int), 0))) ∨ (r = .inr false ∧ s = .inr 41)) := by
  refine loop_two (fun m y z => ∃ (i : Nat) (seen : List Bool), i ≤ 5 ∧ m = 5 - i ∧ seen.length = x.2.1.length ∧ (∀ k : Nat, k < x.2.1.length → (lAt seen (k : Int) = true ↔ inCh x i k)) ∧ (∀ c : Nat, c < i → ∃ l, CH x (c : Int) l) ∧ y = (opg x, (seen, (x.2.2.1, (lLen x.2.2.1, (i : Int))))) ∧ z = (opg x, ((seen.count true : Int), (0, (i : Int))))) 5 ⟨0, _, by omega, rfl, by simp, ?_, fun c hc => by omega, rfl, ?_⟩ (by omega) ?_
  · intro k hk
    rw [lAt_n, List.getElem?_replicate, if_pos hk]
    constructor
    · intro h; cases h
    · rintro ⟨c, hc, _⟩; omega
  · rw [List.count_replicate]; rfl
  rintro m y z ⟨i, seen, hi, rfl, s1, s2, s3, rfl, rfl⟩
  have hL : lLen x.2.2.1 = 5 := by unfold lLen; rw [hh]; rfl
  have hc := List.count_le_length (a := true) (l := seen)
  show (∃ k x' y', _ ∧ B38_0 x.1.1 x.1.2 x.2.1 x.2.2.1 x.2.2.2.1 x.2.2.2.2.1 x.2.2.2.2.2 seen x.2.2.1 (lLen x.2.2.1) i = _ ∧ B24_2 x.1.1 x.1.2 x.2.1 x.2.2.1 x.2.2.2.1 x.2.2.2.2.1 x.2.2.2.2.2 (seen.count true : Int) 0 i = _ ∧ _) ∨ (∃ r s, B38_0 x.1.1 x.1.2 x.2.1 x.2.2.1 x.2.2.2.1 x.2.2.2.2.1 x.2.2.2.2.2 seen x.2.2.1 (lLen x.2.2.1) i = _ ∧ B24_2 x.1.1 x.1.2 x.2.1 x.2.2.1 x.2.2.2.1 x.2.2.2.2.1 x.2.2.2.2.2 (seen.count true : Int) 0 i = _ ∧ _)
  by_cases h5 : i = 5
  · subst h5
    refine .inr ⟨.inl (opg x, seen), .inl (opg x, ((seen.count true : Int), 0)), ?_, ?_, .inl ⟨seen, s1, s2, s3, rfl, rfl⟩⟩
    · unfold B38_0; rw [iLt_f (by omega), sel_f]
    · unfold B24_2; rw [iLt_f (by omega), sel_f]
  · have hS : ∀ k : Nat, k < x.2.1.length → lAt seen (k : Int) = true → ¬ gd x (i : Int) (k : Int) := by
      intro k hk h hg
      obtain ⟨c, hc, l, hl, hm⟩ := (s2 k hk).1 h
      have := (hl.2.2 _ hm).2.2.2
      rw [hg.2.2.2] at this
      omega
    obtain ⟨r, s, e1, e2, h⟩ := chain_two x (i : Int) (lAt x.2.2.1 (i : Int)) seen x.2.2.1 (lLen x.2.2.1) (i : Int) hn s1 hS
    have e48 : F46 ((x.1.1, x.1.2), (x.2.1, (x.2.2.1, (x.2.2.2.1, (x.2.2.2.2.1, x.2.2.2.2.2))))) (i : Int) = bndS (L46_0 ((i : Int), (opg x, (([] : List Int), lAt x.2.2.1 (i : Int))))) fun y0 => sumS y0 (fun y0a => some (y0a, true)) fun y0b => some (([] : List Int), y0b) := by
      unfold F46
      rw [oIn_y (by dsimp only; omega), sel_t]
    unfold B38_0 B24_2
    rw [iLt_y (a := (i : Int)) (b := lLen x.2.2.1) (by omega), iLt_y (a := (i : Int)) (b := 5) (by omega), oIn_y (by omega), sel_t, sel_t, sel_t, e48]
    have e1' : L38_2 ((x.1.1, (x.1.2, (x.2.1, (x.2.2.1, (x.2.2.2.1, (x.2.2.2.2.1, x.2.2.2.2.2)))))), (seen, ((i : Int), (lAt x.2.2.1 (i : Int), (x.2.2.1, (lLen x.2.2.1, (i : Int))))))) = some r := e1
    rw [e1', e2, bnd_s, bnd_s]
    rcases h with ⟨seen', out, ⟨t1, t2, t3, t4, t5, t6⟩, rfl, rfl⟩ | ⟨rfl, rfl⟩
    · have hcn := List.count_le_length (a := true) (l := seen')
      refine .inl ⟨5 - (i + 1), (opg x, (seen', (x.2.2.1, (lLen x.2.2.1, ((i + 1 : Nat) : Int))))), (opg x, ((seen'.count true : Int), (0, ((i + 1 : Nat) : Int)))), by omega, ?_, ?_, i + 1, seen', by omega, rfl, t1, ?_, ?_, rfl, rfl⟩
      · dsimp only [sumS]; rw [add_n (by omega) (by omega)]; rfl
      · dsimp only [sumS]
        rw [bnd_s]
        dsimp only
        rw [nt, sel_f, t5, add_n (a := (i : Int)) (by omega) (by omega), add_n (by unfold lLen; omega) (by unfold lLen; omega)]
        unfold lLen
        rw [Int.natCast_add (List.count true seen)]
        rfl
      · intro k hk
        rw [t2 k hk, s2 k hk]
        constructor
        · rintro (⟨c, h1, l, h2, h3⟩ | h1)
          · exact ⟨c, by omega, l, h2, h3⟩
          · exact ⟨i, by omega, out, ⟨t6, t4, t3⟩, h1⟩
        · rintro ⟨c, h1, l, h2, h3⟩
          by_cases hci : c = i
          · subst hci
            rw [CH_uniq h2 ⟨t6, t4, t3⟩] at h3
            exact .inr h3
          · exact .inl ⟨c, by omega, l, h2, h3⟩
      · intro c hc
        by_cases hci : c = i
        · subst hci; exact ⟨out, t6, t4, t3⟩
        · exact s3 c (by omega)
    · exact .inr ⟨_, _, rfl, rfl, .inr ⟨rfl, rfl⟩⟩
end Go.Proofs.YtagcodkkkebnhaaGreat.K
end

section
set_option linter.unusedVariables false
set_option linter.unusedSimpArgs false
set_option linter.unnecessarySimpa false
open Go Go.Ev
namespace Go.Proofs.YtagcodkkkebnhaaGreat.K
theorem count_le2 : ∀ (s u : List Bool), s.length = u.length → (∀ k : Nat, k < s.length → lAt s (k : Int) = true → lAt u (k : Int) = true) → s.count true ≤ u.count true ∧ (s.count true = u.count true → s = u)
  | [], [], _, _ => ⟨Nat.le_refl _, fun _ => rfl⟩
  | [], _ :: _, h, _ => by simp at h
  | _ :: _, [], h, _ => by simp at h
  | a :: s, b :: u, h, h1 => by
    obtain ⟨i1, i2⟩ := count_le2 s u (by simpa using h) (fun k hk h2 => by
      have := h1 (k + 1) (by simpa using hk)
      rw [lAt_succ, lAt_succ] at this
      exact this h2)
    have h0 : a = true → b = true := h1 0 (by simp)
    cases a <;> cases b <;> simp at h0 ⊢
    · exact ⟨i1, i2⟩
    · exact ⟨by omega, fun h => by omega⟩
    · exact ⟨i1, i2⟩
def usedL (x : PAG) : List Bool := x.2.1.map fun f => f.2.1
theorem usedL_at (x : PAG) (k : Nat) (hk : k < x.2.1.length) : lAt (usedL x) (k : Int) = (fAt x k).2.1 := by
  rw [lAt_lt (by unfold usedL; simpa using hk)]
  show _ = (lAt x.2.1 (k : Int)).2.1
  rw [lAt_lt hk]
  simp [usedL]
theorem L46d_eq (x : PAG) (seen : List Bool) (hn : x.2.1.length ≤ 1000) (hs : seen.length = x.2.1.length) : (∃ k, k < x.2.1.length ∧ ¬ (fAt x k).2.1 = lAt seen (k : Int) ∧ (∀ j, j < k → ¬ ¬ (fAt x j).2.1 = lAt seen (j : Int)) ∧ L38_4 (seen, (x.2.1, (lLen x.2.1, 0))) = some (.inr false)) ∨ ((∀ k, k < x.2.1.length → ¬ ¬ (fAt x k).2.1 = lAt seen (k : Int)) ∧ L38_4 (seen, (x.2.1, (lLen x.2.1, 0))) = some (Sum.inl ())) := by
  have hl : lLen x.2.1 = x.2.1.length := rfl
  have hl' : lLen seen = x.2.1.length := by rw [← hs]; rfl
  refine iter_first (fun k => (seen, (x.2.1, (lLen x.2.1, (k : Int))))) (fun k => ¬ (fAt x k).2.1 = lAt seen (k : Int)) x.2.1.length (fun _ => Sum.inr false) (Sum.inl ()) (by omega) ?_ ?_ ?_
  · intro k hk hp
    show B38_4 seen x.2.1 (lLen x.2.1) k = some (.inl (seen, (x.2.1, (lLen x.2.1, ((k + 1 : Nat) : Int)))))
    unfold B38_4
    rw [iLt_y (by omega), oIn_y (a := (k : Int)) (b := lLen x.2.1) (by omega), oIn_y (a := (k : Int)) (b := lLen seen) (by omega), bEq_y (Classical.not_not.1 hp), add_n (by omega) (by omega)]
    rfl
  · intro k hk hp
    show B38_4 seen x.2.1 (lLen x.2.1) k = _
    have e : bEq (lAt x.2.1 (k : Int)).2.1 (lAt seen (k : Int)) = false := by rw [bf_t, bEq_t]; exact hp
    unfold B38_4
    rw [iLt_y (by omega), oIn_y (a := (k : Int)) (b := lLen x.2.1) (by omega), oIn_y (a := (k : Int)) (b := lLen seen) (by omega), e]
    rfl
  · show B38_4 seen x.2.1 (lLen x.2.1) x.2.1.length = _
    unfold B38_4
    rw [iLt_f (by omega), sel_f]
theorem L15e_eq (x : PAG) (r : Int) (hn : x.2.1.length ≤ 1000) : L24_4 (opg x, (r, (0, 0))) = some (r, ((usedL x).count true : Int)) := by
  have hl : lLen x.2.1 = x.2.1.length := rfl
  have hul : (usedL x).length = x.2.1.length := by simp [usedL]
  have h : L24_4 (opg x, (r, (0, 0))) = some (r, (((usedL x).take x.2.1.length).count true : Int)) := by
    refine iter_run (fun k => (opg x, (r, ((((usedL x).take k).count true : Int), (k : Int))))) x.2.1.length (by omega) ?_ ?_
    · intro k hk
      show B24_4 x.1.1 x.1.2 x.2.1 x.2.2.1 x.2.2.2.1 x.2.2.2.2.1 x.2.2.2.2.2 r (((usedL x).take k).count true : Int) k = some (.inl (opg x, (r, ((((usedL x).take (k + 1)).count true : Int), ((k + 1 : Nat) : Int)))))
      have hc := List.count_le_length (a := true) (l := (usedL x).take k)
      have hc' : ((usedL x).take k).length ≤ k := by rw [List.length_take]; omega
      have e : (usedL x).take (k + 1) = (usedL x).take k ++ [(fAt x k).2.1] := by
        rw [List.take_add_one, List.getElem?_eq_getElem (by omega), ← usedL_at x k hk, lAt_lt (by omega)]
        rfl
      rw [e, List.count_append]
      unfold B24_4
      rw [iLt_y (by omega), oIn_y (by omega), sel_t, sel_t]
      show bndS (F47 (fAt x k).2.1) _ = _
      cases hu : (fAt x k).2.1
      · show some (Sum.inl (opg x, (r, (iAdd .i64 (((usedL x).take k).count true : Int) 0, iAdd .i64 (k : Int) 1)))) = _
        rw [add_n (by omega) (by omega), add_n (by omega) (by omega)]
        rfl
      · show some (Sum.inl (opg x, (r, (iAdd .i64 (((usedL x).take k).count true : Int) 1, iAdd .i64 (k : Int) 1)))) = _
        rw [add_n (by omega) (by omega), add_n (by omega) (by omega)]
        rfl
    · show B24_4 x.1.1 x.1.2 x.2.1 x.2.2.1 x.2.2.2.1 x.2.2.2.2.1 x.2.2.2.2.2 r _ x.2.1.length = _
      unfold B24_4
      rw [iLt_f (by omega), sel_f]
  rw [h, ← hul, List.take_length]
/-- An inverted page table. -/
def TBL (x : PAG) : Prop := (∀ c : Nat, c < 5 → ∃ l, CH x (c : Int) l) ∧ ∀ k : Nat, k < x.2.1.length → ((fAt x k).2.1 = true ↔ inCh x 5 k)
def tailR (x : PAG) : Option Int :=
  bndS (L24_2 (opg x, (0, (0, 0)))) fun y6 =>
  sumS y6 (fun y6a =>
    bndS (L24_4 (y6a.1, (y6a.2.1, (y6a.2.2, 0)))) fun y7 =>
    bndS (F47 (bNot (iEq y7.1 y7.2))) fun y8 =>
    some (iMul .i64 41 y8)) fun y6b =>
    some y6b
theorem tab_eq (x : PAG) (hn : x.2.1.length ≤ 1000) (hh : x.2.2.1.length = 5) : (TBL x ∧ F38 x = some true ∧ tailR x = some 0) ∨ (F38 x = some false ∧ tailR x = some 41) := by
  have hl : lLen x.2.1 = x.2.1.length := rfl
  obtain ⟨r, s, e1, e2, h⟩ := table_two x hn hh
  have er : lRep (lLen x.2.1) (false : Bool) = List.replicate x.2.1.length false := by unfold lRep; rw [hl, Int.toNat_natCast]
  have ec : nCap 1 (lLen x.2.1) = true := by rw [nCap_t]; omega
  unfold F38 tailR
  rw [ec, sel_t, er, e1, e2, bnd_s, bnd_s]
  rcases h with ⟨seen, t1, t2, t3, rfl, rfl⟩ | ⟨rfl, rfl⟩
  · dsimp only [sumS]
    rw [L15e_eq x _ hn, bnd_s]
    have hul : (usedL x).length = x.2.1.length := by simp [usedL]
    have hsub : ∀ k : Nat, k < seen.length → lAt seen (k : Int) = true → lAt (usedL x) (k : Int) = true := by
      intro k hk h
      obtain ⟨c, _, l, hc, hm⟩ := (t2 k (by omega)).1 h
      rw [usedL_at x k (by omega)]
      exact (hc.2.2 _ hm).2.2.1
    obtain ⟨c1, c2⟩ := count_le2 seen (usedL x) (by omega) hsub
    rcases L46d_eq x seen hn t1 with ⟨k, k1, k2, _, e⟩ | ⟨k1, e⟩
    · refine .inr ⟨by rw [e]; rfl, ?_⟩
      have : ¬ ((seen.count true : Int) = ((usedL x).count true : Int)) := by
        intro h
        have := c2 (by omega)
        rw [this, usedL_at x k k1] at k2
        exact k2 rfl
      dsimp only
      rw [iEq_f this]
      rfl
    · have hs : seen = usedL x := by
        refine List.ext_getElem (by omega) fun k hk hk' => ?_
        have := Classical.not_not.1 (k1 k (by omega))
        rw [← usedL_at x k (by omega), lAt_lt hk', lAt_lt hk] at this
        exact this.symm
      refine .inl ⟨⟨t3, fun k hk => ?_⟩, by rw [e]; rfl, ?_⟩
      · rw [← t2 k hk, hs, usedL_at x k hk]
      · dsimp only
        rw [hs, iEq_y rfl]
        rfl
  · exact .inr ⟨rfl, rfl⟩
end Go.Proofs.YtagcodkkkebnhaaGreat.K
end

section
set_option linter.unusedVariables false
set_option linter.unusedSimpArgs false
set_option linter.unnecessarySimpa false
open Go Go.Ev
namespace Go.Proofs.YtagcodkkkebnhaaGreat.K
/-- A memory that is small. -/
def fewP (x : PAG) : Prop := fewS x.1 ∧ x.2.1.length ≤ 10 ∧ x.2.2.1.length ≤ 7 ∧ ∀ i, i < x.2.1.length → ¬ 100 < sLen (fAt x i).2.2.2.2.2.1
theorem F12_eq (x : PAG) : (fewP x ∧ F6 x = some true) ∨ F6 x = some false := by
  have hl : lLen x.2.1 = x.2.1.length := rfl
  have hl2 : lLen x.2.2.1 = x.2.2.1.length := rfl
  unfold F6
  rcases F16_eq x.1 with ⟨hf, e⟩ | e
  · rw [e, bnd_s, nt, or_ff]
    by_cases h1 : 10 < lLen x.2.1
    · rw [iLt_y h1]; exact .inr rfl
    by_cases h2 : 7 < lLen x.2.2.1
    · rw [iLt_f h1, iLt_y h2]; exact .inr rfl
    rw [iLt_f h1, iLt_f h2, or_ff, sel_f]
    have hL : (∃ i, i < x.2.1.length ∧ 100 < sLen (fAt x i).2.2.2.2.2.1 ∧ (∀ k, k < i → ¬ 100 < sLen (fAt x k).2.2.2.2.2.1) ∧ L6_0 (opg x, 0) = some (.inr false)) ∨ ((∀ i, i < x.2.1.length → ¬ 100 < sLen (fAt x i).2.2.2.2.2.1) ∧ L6_0 (opg x, 0) = some (Sum.inl ())) := by
      refine iter_first (fun i => (opg x, (i : Int))) (fun i => 100 < sLen (fAt x i).2.2.2.2.2.1) x.2.1.length (fun _ => Sum.inr false) (Sum.inl ()) (by omega) ?_ ?_ ?_
      · intro i hi hp
        show B6_0 x.1.1 x.1.2 x.2.1 x.2.2.1 x.2.2.2.1 x.2.2.2.2.1 x.2.2.2.2.2 i = some (.inl (opg x, ((i + 1 : Nat) : Int)))
        unfold B6_0
        rw [iLt_y (a := (i : Int)) (by omega), oIn_y (by omega), sel_t, sel_t, iLt_f hp, sel_f, add_n (by omega) (by omega)]
        rfl
      · intro i hi hp
        show B6_0 x.1.1 x.1.2 x.2.1 x.2.2.1 x.2.2.2.1 x.2.2.2.2.1 x.2.2.2.2.2 i = _
        unfold B6_0
        rw [iLt_y (a := (i : Int)) (by omega), oIn_y (by omega), sel_t, sel_t, iLt_y hp, sel_t]
      · show B6_0 x.1.1 x.1.2 x.2.1 x.2.2.1 x.2.2.2.1 x.2.2.2.2.1 x.2.2.2.2.2 x.2.1.length = _
        unfold B6_0
        rw [iLt_f (by omega), sel_f]
    have hd : L6_0 ((x.1.1, (x.1.2, x.2)), 0) = L6_0 (opg x, 0) := rfl
    rcases hL with ⟨i, _, _, _, e⟩ | ⟨h3, e⟩
    · rw [hd, e]; exact .inr rfl
    · rw [hd, e]; exact .inl ⟨⟨hf, by omega, by omega, h3⟩, rfl⟩
  · rw [e]; exact .inr rfl
/-- A right memory. -/
def RIGHT (x : PAG) : Prop := okS0 x.1 ∧ (1 ≤ x.2.1.length ∧ x.2.1.length ≤ 8) ∧ x.2.2.1.length = 5 ∧ inN x.2.2.2.1 ∧ inN x.2.2.2.2.1 ∧ inN x.2.2.2.2.2 ∧ (∀ i, i < x.2.1.length → rightF x i) ∧ TBL x
theorem F15_tail (x : PAG) : (bndS (L24_2 (opg x, (0, (0, 0)))) fun y6 =>
          sumS y6 (fun y6a =>
            bndS (L24_4 (y6a.1, (y6a.2.1, (y6a.2.2, 0)))) fun y7 =>
            bndS (F47 (bNot (iEq y7.1 y7.2))) fun y8 =>
            some (iMul .i64 41 y8)) fun y6b =>
            some y6b) = tailR x := rfl
/-- Which memories are right: the program and the specification answer alike. -/
theorem check_eq (x : PAG) (hf : fewS x.1) (h2 : fits x.1.2) (hn : x.2.1.length ≤ 1000) : (RIGHT x ∧ F20 x = some 0 ∧ F24 x = some 0) ∨ ∃ c, c ≠ 0 ∧ F20 x = some c ∧ F24 x = some c := by
  have hl : lLen x.2.1 = x.2.1.length := rfl
  have hl2 : lLen x.2.2.1 = x.2.2.1.length := rfl
  unfold F20 F24
  rcases F43_eq x.1 hf h2 with ⟨hok, e1, e2⟩ | ⟨a, c, hc, e1, e2⟩
  · rw [e1, e2, bnd_s, bnd_s, iEq_y rfl, nt, sel_f, sel_f, let_s, let_s]
    by_cases hs : (1 ≤ x.2.1.length ∧ x.2.1.length ≤ 8) ∧ x.2.2.1.length = 5
    · have w1 : F32 (lLen x.2.1) 1 8 = true := by unfold F32; rw [and_t, iLe_t, iLe_t]; omega
      have w2 : F44 (lLen x.2.1) 1 8 = true := by unfold F44; rw [and_t, iLe_t, iLe_t]; omega
      rw [w1, w2, iEq_y (show lLen x.2.2.1 = 5 by omega), nt, or_ff, sel_f, sel_f, let_s, let_s, let_s]
      have hd : L20_0 ((x.1.1, (x.1.2, x.2)), ([x.2.2.2.1, x.2.2.2.2.1, x.2.2.2.2.2], (lLen [x.2.2.2.1, x.2.2.2.2.1, x.2.2.2.2.2], 0))) = L20_0 (opg x, ([x.2.2.2.1, x.2.2.2.2.1, x.2.2.2.2.2], (lLen [x.2.2.2.1, x.2.2.2.2.1, x.2.2.2.2.2], 0))) := rfl
      have q : ∀ n, (F44 n 0 999999999999999 = true) = inN n := fun n => by unfold F44 inN; rw [and_t, iLe_t, iLe_t]
      have q' : (bOr (bOr (bNot (F44 x.2.2.2.1 0 999999999999999)) (bNot (F44 x.2.2.2.2.1 0 999999999999999))) (bNot (F44 x.2.2.2.2.2 0 999999999999999)) = true) = ((¬ inN x.2.2.2.1 ∨ ¬ inN x.2.2.2.2.1) ∨ ¬ inN x.2.2.2.2.2) := by rw [or_t, or_t, not_t, not_t, not_t, bf_t, bf_t (F44 x.2.2.2.2.1 _ _), bf_t (F44 x.2.2.2.2.2 _ _), q, q, q]
      rw [hd]
      rcases L13a_eq x [x.2.2.2.1, x.2.2.2.2.1, x.2.2.2.2.2] (by show 3 ≤ _; decide) with ⟨i, h1, h2, _, e⟩ | ⟨h1, e⟩
      · have : bOr (bOr (bNot (F44 x.2.2.2.1 0 999999999999999)) (bNot (F44 x.2.2.2.2.1 0 999999999999999))) (bNot (F44 x.2.2.2.2.2 0 999999999999999)) = true := by
          rw [q']
          have h1 : i < 3 := h1
          rcases i with _ | _ | _ | i
          · exact .inl (.inl h2)
          · exact .inl (.inr h2)
          · exact .inr h2
          · omega
        rw [e, this]
        exact .inr ⟨3, by decide, rfl, rfl⟩
      · have n1 := Classical.not_not.1 (h1 0 (by show 0 < 3; decide))
        have n2 := Classical.not_not.1 (h1 1 (by show 1 < 3; decide))
        have n3 := Classical.not_not.1 (h1 2 (by show 2 < 3; decide))
        have : bOr (bOr (bNot (F44 x.2.2.2.1 0 999999999999999)) (bNot (F44 x.2.2.2.2.1 0 999999999999999))) (bNot (F44 x.2.2.2.2.2 0 999999999999999)) = false := by
          rw [bf_t, q']
          rintro ((h | h) | h)
          · exact h n1
          · exact h n2
          · exact h n3
        rw [e, this, sel_f, bnd_s]
        have hd2 : L24_0 ((x.1.1, (x.1.2, x.2)), 0) = L24_0 (opg x, 0) := rfl
        rw [hd2]
        dsimp only [sumS]
        rcases frames_eq x hf (by omega) with ⟨c, hc, e3, e4⟩ | ⟨hr, e3, e4⟩
        · rw [e3, e4]
          exact .inr ⟨c, hc, rfl, rfl⟩
        · rw [e3, e4, bnd_s, bnd_s]
          rcases tab_eq x hn hs.2 with ⟨ht, e5, e6⟩ | ⟨e5, e6⟩
          · refine .inl ⟨⟨hok, hs.1, hs.2, n1, n2, n3, hr, ht⟩, ?_, e6⟩
            show bndS (F38 x) _ = _
            rw [e5]
            rfl
          · refine .inr ⟨41, by decide, ?_, e6⟩
            show bndS (F38 x) _ = _
            rw [e5]
            rfl
    · have w : bOr (bNot (F32 (lLen x.2.1) 1 8)) (bNot (iEq (lLen x.2.2.1) 5)) = true := by
        rw [or_t, not_t, not_t, bf_t, bf_t (iEq _ _), iEq_t]; unfold F32; rw [and_t, iLe_t, iLe_t]; omega
      have w' : bOr (bNot (F44 (lLen x.2.1) 1 8)) (bNot (iEq (lLen x.2.2.1) 5)) = true := by
        rw [or_t, not_t, not_t, bf_t, bf_t (iEq _ _), iEq_t]; unfold F44; rw [and_t, iLe_t, iLe_t]; omega
      rw [w, w']
      exact .inr ⟨6, by decide, rfl, rfl⟩
  · rw [e1, e2, bnd_s, bnd_s, iEq_f hc]
    exact .inr ⟨c, hc, rfl, rfl⟩
end Go.Proofs.YtagcodkkkebnhaaGreat.K
end

section
set_option linter.unusedVariables false
set_option linter.unusedSimpArgs false
set_option linter.unnecessarySimpa false
open Go Go.Ev
namespace Go.Proofs.YtagcodkkkebnhaaGreat.K
theorem fr_in {x : PAG} {c b : Int} (h : gd x c b) : oIn b (lLen x.2.1) = true := oIn_y ⟨h.1, h.2.1⟩
theorem CH_len {x : PAG} {c : Int} {l : List Int} (h : CH x c l) (hn : x.2.1.length ≤ 1000) : l.length ≤ 1000 := by
  have : l.Nodup := h.2.1
  have hs : ∀ (l : List Int), l.Nodup → (∀ b ∈ l, 0 ≤ b ∧ b < lLen x.2.1) → l.length ≤ x.2.1.length := by
    intro l h1 h2
    have e : (l.map Int.toNat).Nodup := by
      rw [List.nodup_iff_pairwise_ne] at *
      rw [List.pairwise_map]
      refine h1.imp_of_mem ?_
      intro a b ha hb hab hc
      have := h2 a ha
      have := h2 b hb
      omega
    have := List.Nodup.length_le_of_subset (l₂ := List.range x.2.1.length) e (fun a ha => by
      obtain ⟨b, hb, rfl⟩ := List.mem_map.1 ha
      have := h2 b hb
      rw [List.mem_range]
      unfold lLen at this
      omega)
    simpa using this
  have := hs l h.2.1 (fun b hb => ⟨(h.2.2 b hb).1, (h.2.2 b hb).2.1⟩)
  omega
/-- A chain is walked by the program and by the specification alike. -/
theorem F58_eq {x : PAG} {c : Int} {l : List Int} (h : CH x c l) (hn : x.2.1.length ≤ 1000) (hc : oIn c (lLen x.2.2.1) = true) : F62 x c = some l := by
  have hlen := CH_len h hn
  have hL : L62_0 (opg x, (([] : List Int), lAt x.2.2.1 c)) = some l := by
    rw [← ok_is]
    refine loop_inv (fun m y => ∃ out rest a, out ++ rest = l ∧ path x a rest (-1) ∧ y = (opg x, (out, a)) ∧ m = rest.length) l.length ⟨[], l, _, rfl, h.1, rfl, rfl⟩ (by omega) ?_
    rintro m y ⟨out, rest, a, h1, h2, rfl, rfl⟩
    show Ok (B62_0 x.1.1 x.1.2 x.2.1 x.2.2.1 x.2.2.2.1 x.2.2.2.2.1 x.2.2.2.2.2 out a) _
    unfold B62_0
    cases rest with
    | nil =>
      have h2 : a = -1 := h2
      rw [iEq_y h2, nt, sel_f, ok_some]
      simpa using h1
    | cons b r =>
      obtain ⟨e, e2, e3⟩ := h2
      subst e
      have hl : out.length ≤ 1000 := by rw [← h1] at hlen; simp at hlen; omega
      rw [iEq_f e2, nf, sel_t, lCap_y (by decide) (by decide) (by simp [lApp]; omega), sel_t, fr_in (h.2.2 a (by rw [← h1]; simp)), sel_t, ok_some]
      exact ⟨r.length, by simp, out ++ [a], r, nxt x a, by rw [← h1]; simp, e3, rfl, rfl⟩
  unfold F62
  rw [hc, sel_t]
  show bndS (L62_0 (opg x, (([] : List Int), lAt x.2.2.1 c))) _ = _
  rw [hL]
  rfl
end Go.Proofs.YtagcodkkkebnhaaGreat.K
end

section
set_option linter.unusedVariables false
set_option linter.unusedSimpArgs false
set_option linter.unnecessarySimpa false
open Go Go.Ev
namespace Go.Proofs.YtagcodkkkebnhaaGreat.K
theorem nodup_snoc {l : List Int} {a : Int} {r : List Int} (h : (l ++ a :: r).Nodup) : ¬ a ∈ l := by
  intro hm
  rw [List.nodup_append] at h
  exact h.2.2 a hm a (by simp) rfl
theorem F48_eq {x : PAG} {c : Int} {l : List Int} (h : CH x c l) (hn : x.2.1.length ≤ 1000) (hc : oIn c (lLen x.2.2.1) = true) : F46 x c = some (l, true) := by
  have hlen := CH_len h hn
  have hL : L46_0 (c, (opg x, (([] : List Int), lAt x.2.2.1 c))) = some (.inl l) := by
    rw [← ok_is]
    refine loop_inv (fun m y => ∃ out rest a, out ++ rest = l ∧ path x a rest (-1) ∧ y = (c, (opg x, (out, a))) ∧ m = rest.length) l.length ⟨[], l, _, rfl, h.1, rfl, rfl⟩ (by omega) ?_
    rintro m y ⟨out, rest, a, h1, h2, rfl, rfl⟩
    show Ok (B46_0 c x.1.1 x.1.2 x.2.1 x.2.2.1 x.2.2.2.1 x.2.2.2.2.1 x.2.2.2.2.2 out a) _
    cases rest with
    | nil =>
      have h2 : a = -1 := h2
      unfold B46_0
      rw [iEq_y h2, nt, sel_f, ok_some]
      simpa using h1
    | cons b r =>
      obtain ⟨e, e2, e3⟩ := h2
      subst e
      have hl : out.length ≤ 1000 := by rw [← h1] at hlen; simp at hlen; omega
      have hnd := h.2.1
      rw [← h1] at hnd
      rw [B48_y x c a out hl hn e2 (h.2.2 a (by rw [← h1]; simp)) (nodup_snoc hnd), ok_some]
      exact ⟨r.length, by simp, out ++ [a], r, nxt x a, by rw [← h1]; simp, e3, rfl, rfl⟩
  unfold F46
  rw [hc, sel_t]
  show bndS (L46_0 (c, (opg x, (([] : List Int), lAt x.2.2.1 c)))) _ = _
  rw [hL]
  rfl
/-- A frame has a page. -/
def hasK (f : FRM) (n p : Int) : Prop := f.2.2.2.1 = n ∧ f.2.2.2.2.1 = p
theorem L55_eq (x : PAG) (n p : Int) (l : List Int) (hl : l.length ≤ 1000) (hin : ∀ b ∈ l, oIn b (lLen x.2.1) = true) : (∃ i, i < l.length ∧ hasK (lAt x.2.1 (lAt l (i : Int))) n p ∧ (∀ k, k < i → ¬ hasK (lAt x.2.1 (lAt l (k : Int))) n p) ∧ L36_0 (n, (p, (opg x, (l, (lLen l, 0))))) = some (.inr (lAt l (i : Int), (i : Int) + 1))) ∨ ((∀ i, i < l.length → ¬ hasK (lAt x.2.1 (lAt l (i : Int))) n p) ∧ L36_0 (n, (p, (opg x, (l, (lLen l, 0))))) = some (Sum.inl ())) := by
  have hi' : ∀ i, i < l.length → oIn (lAt l (i : Int)) (lLen x.2.1) = true := fun i hi => hin _ (lAt_mem.1 ⟨i, hi, rfl⟩)
  have hll : lLen l = l.length := rfl
  refine iter_first (fun i => (n, (p, (opg x, (l, (lLen l, (i : Int))))))) (fun i => hasK (lAt x.2.1 (lAt l (i : Int))) n p) l.length (fun i => Sum.inr (lAt l (i : Int), (i : Int) + 1)) (Sum.inl ()) (by omega) ?_ ?_ ?_
  · intro i hi hp
    show B36_0 n p x.1.1 x.1.2 x.2.1 x.2.2.1 x.2.2.2.1 x.2.2.2.2.1 x.2.2.2.2.2 l (lLen l) i = some (.inl (n, (p, (opg x, (l, (lLen l, ((i + 1 : Nat) : Int)))))))
    have e : bAnd (iEq (lAt x.2.1 (lAt l (i : Int))).2.2.2.1 n) (iEq (lAt x.2.1 (lAt l (i : Int))).2.2.2.2.1 p) = false := by rw [bf_t, and_t, iEq_t, iEq_t]; exact hp
    unfold B36_0
    rw [iLt_y (a := (i : Int)) (by omega), oIn_y (a := (i : Int)) (by omega), hi' i hi, sel_t, sel_t, sel_t, or_tt, sel_t, e, add_n (by omega) (by omega)]
    rfl
  · intro i hi hp
    show B36_0 n p x.1.1 x.1.2 x.2.1 x.2.2.1 x.2.2.2.1 x.2.2.2.2.1 x.2.2.2.2.2 l (lLen l) i = _
    have e : bAnd (iEq (lAt x.2.1 (lAt l (i : Int))).2.2.2.1 n) (iEq (lAt x.2.1 (lAt l (i : Int))).2.2.2.2.1 p) = true := by rw [and_t, iEq_t, iEq_t]; exact hp
    unfold B36_0
    rw [iLt_y (a := (i : Int)) (by omega), oIn_y (a := (i : Int)) (by omega), hi' i hi, sel_t, sel_t, sel_t, or_tt, sel_t, e, add_n (by omega) (by omega)]
    rfl
  · show B36_0 n p x.1.1 x.1.2 x.2.1 x.2.2.1 x.2.2.2.1 x.2.2.2.2.1 x.2.2.2.2.2 l (lLen l) l.length = _
    unfold B36_0
    rw [iLt_f (by omega), sel_f]
theorem L61_eq (x : PAG) (n p : Int) (l : List Int) (hl : l.length ≤ 1000) (hin : ∀ b ∈ l, oIn b (lLen x.2.1) = true) : (∃ i, i < l.length ∧ hasK (lAt x.2.1 (lAt l (i : Int))) n p ∧ (∀ k, k < i → ¬ hasK (lAt x.2.1 (lAt l (k : Int))) n p) ∧ L81_0 (n, (p, (opg x, (l, 0)))) = some (.inr (lAt l (i : Int), (i : Int) + 1))) ∨ ((∀ i, i < l.length → ¬ hasK (lAt x.2.1 (lAt l (i : Int))) n p) ∧ L81_0 (n, (p, (opg x, (l, 0)))) = some (.inl l)) := by
  have hi' : ∀ i, i < l.length → oIn (lAt l (i : Int)) (lLen x.2.1) = true := fun i hi => hin _ (lAt_mem.1 ⟨i, hi, rfl⟩)
  have hll : lLen l = l.length := rfl
  refine iter_first (fun i => (n, (p, (opg x, (l, (i : Int)))))) (fun i => hasK (lAt x.2.1 (lAt l (i : Int))) n p) l.length (fun i => Sum.inr (lAt l (i : Int), (i : Int) + 1)) (Sum.inl l) (by omega) ?_ ?_ ?_
  · intro i hi hp
    show B81_0 n p x.1.1 x.1.2 x.2.1 x.2.2.1 x.2.2.2.1 x.2.2.2.2.1 x.2.2.2.2.2 l i = some (.inl (n, (p, (opg x, (l, ((i + 1 : Nat) : Int))))))
    have e : bAnd (iEq (lAt x.2.1 (lAt l (i : Int))).2.2.2.1 n) (iEq (lAt x.2.1 (lAt l (i : Int))).2.2.2.2.1 p) = false := by rw [bf_t, and_t, iEq_t, iEq_t]; exact hp
    unfold B81_0
    rw [iLt_y (a := (i : Int)) (by omega), oIn_y (a := (i : Int)) (by omega), hi' i hi, sel_t, sel_t, sel_t, e, add_n (by omega) (by omega)]
    rfl
  · intro i hi hp
    show B81_0 n p x.1.1 x.1.2 x.2.1 x.2.2.1 x.2.2.2.1 x.2.2.2.2.1 x.2.2.2.2.2 l i = _
    have e : bAnd (iEq (lAt x.2.1 (lAt l (i : Int))).2.2.2.1 n) (iEq (lAt x.2.1 (lAt l (i : Int))).2.2.2.2.1 p) = true := by rw [and_t, iEq_t, iEq_t]; exact hp
    unfold B81_0
    rw [iLt_y (a := (i : Int)) (by omega), oIn_y (a := (i : Int)) (by omega), hi' i hi, sel_t, sel_t, sel_t, e, add_n (by omega) (by omega)]
    rfl
  · show B81_0 n p x.1.1 x.1.2 x.2.1 x.2.2.1 x.2.2.2.1 x.2.2.2.2.1 x.2.2.2.2.2 l l.length = _
    unfold B81_0
    rw [iLt_f (by omega), sel_f]
end Go.Proofs.YtagcodkkkebnhaaGreat.K
end

section
set_option linter.unusedVariables false
set_option linter.unusedSimpArgs false
set_option linter.unnecessarySimpa false
open Go Go.Ev
namespace Go.Proofs.YtagcodkkkebnhaaGreat.K
def rk (f : FRM) : Int := if f.2.1 = false then 0 else if f.2.2.1 = false then 1 else 2
theorem F87_eq (f : FRM) : F88 f = some (rk f) := by
  unfold F88 rk
  cases f.2.1 <;> cases f.2.2.1 <;> rfl
def cmp3 (a b : Int) : Int := if a < b then -1 else if b < a then 1 else 0
theorem F89_eq (a b : Int) : F71 a b = some (cmp3 a b) := by
  unfold F71 F91 cmp3
  rw [iEq_y rfl, iEq_y rfl]
  simp only [let_s, nt, sel_f]
  simp only [sel_if, iLt_t]
  by_cases h : a < b
  · rw [if_pos h, if_pos h]
  · by_cases h' : b < a
    · rw [if_neg h, if_neg h, if_pos h', if_pos h']
    · rw [if_neg h, if_neg h, if_neg h', if_neg h']
theorem F88_eq (a b : Int) : F70 [a, b] = some (if a = 0 then b else a) := by
  unfold F70 L70_0
  have e1 : B70_0 0 [a, b] 2 0 = if a = 0 then some (.inl (0, ([a, b], (2, 1)))) else some (.inr (.inr a)) := by
    by_cases h : a = 0
    · subst h; rfl
    · rw [if_neg h]
      show sel (bNot (iEq a 0)) _ _ = _
      rw [iEq_f h]; rfl
  have e2 : B70_0 0 [a, b] 2 1 = if b = 0 then some (.inl (0, ([a, b], (2, 2)))) else some (.inr (.inr b)) := by
    by_cases h : b = 0
    · subst h; rfl
    · rw [if_neg h]
      show sel (bNot (iEq b 0)) _ _ = _
      rw [iEq_f h]; rfl
  show bndS (iter _ (9999997 + 1 + 1 + 1) (0, ([a, b], (2, 0)))) _ = _
  by_cases h : a = 0
  · rw [iter_s (e1.trans (if_pos h)), if_pos h]
    by_cases h' : b = 0
    · rw [iter_s (e2.trans (if_pos h')), iter_e (r := Sum.inl 0) rfl, h']; rfl
    · rw [iter_e (e2.trans (if_neg h'))]; rfl
  · rw [iter_e (e1.trans (if_neg h)), if_neg h]; rfl
/-- A frame is replaced before another one. -/
def bef (f g : FRM) : Prop := rk f < rk g ∨ (rk f = rk g ∧ f.2.2.2.2.2.2.1 < g.2.2.2.2.2.2.1)
theorem F86_eq (f g : FRM) : ∃ b, F87 f g = some b ∧ ((b = true) = bef f g) := by
  refine ⟨iLt (if cmp3 (rk f) (rk g) = 0 then cmp3 f.2.2.2.2.2.2.1 g.2.2.2.2.2.2.1 else cmp3 (rk f) (rk g)) 0, ?_, ?_⟩
  · unfold F87
    rw [F87_eq, F87_eq, bnd_s, bnd_s, F89_eq, F89_eq, bnd_s, bnd_s, F88_eq, bnd_s]
  · rw [iLt_t]
    unfold bef cmp3
    apply propext
    grind
end Go.Proofs.YtagcodkkkebnhaaGreat.K
end

section
set_option linter.unusedVariables false
set_option linter.unusedSimpArgs false
set_option linter.unnecessarySimpa false
open Go Go.Ev
namespace Go.Proofs.YtagcodkkkebnhaaGreat.K
open Classical in
/-- The frame for a page of a pool, among the first ones; -1: none. -/
noncomputable def bst (x : PAG) (pool : Int) : Nat → Int
  | 0 => -1
  | i + 1 => if (fAt x i).1 = pool ∧ (bst x pool i < 0 ∨ bef (fAt x i) (lAt x.2.1 (bst x pool i))) then (i : Int) else bst x pool i
open Classical in
theorem bst_s (x : PAG) (pool : Int) (i : Nat) : bst x pool (i + 1) = if (fAt x i).1 = pool ∧ (bst x pool i < 0 ∨ bef (fAt x i) (lAt x.2.1 (bst x pool i))) then (i : Int) else bst x pool i := rfl
theorem bst_in (x : PAG) (pool : Int) : ∀ i, bst x pool i = -1 ∨ (0 ≤ bst x pool i ∧ bst x pool i < (i : Int) ∧ (lAt x.2.1 (bst x pool i)).1 = pool)
  | 0 => .inl rfl
  | i + 1 => by
    rw [bst_s]
    split
    · rename_i h
      exact .inr ⟨by omega, by omega, h.1⟩
    · rcases bst_in x pool i with h | ⟨h1, h2, h3⟩
      · exact .inl h
      · exact .inr ⟨h1, by omega, h3⟩
theorem F59_eq (x : PAG) (pool : Int) (hn : x.2.1.length ≤ 1000) : F67 x pool = some (bst x pool x.2.1.length) := by
  have hl : lLen x.2.1 = x.2.1.length := rfl
  have hL : L67_0 (pool, (opg x, (-1, (x.2.1, (lLen x.2.1, 0))))) = some (bst x pool x.2.1.length) := by
    refine iter_run (fun i => (pool, (opg x, (bst x pool i, (x.2.1, (lLen x.2.1, (i : Int))))))) x.2.1.length (by omega) ?_ ?_
    · intro i hi
      show B67_0 pool x.1.1 x.1.2 x.2.1 x.2.2.1 x.2.2.2.1 x.2.2.2.2.1 x.2.2.2.2.2 (bst x pool i) x.2.1 (lLen x.2.1) i = some (.inl (pool, (opg x, (bst x pool (i + 1), (x.2.1, (lLen x.2.1, ((i + 1 : Nat) : Int)))))))
      obtain ⟨b, e, hb⟩ := F86_eq (lAt x.2.1 (i : Int)) (lAt x.2.1 (bst x pool i))
      have hin := bst_in x pool i
      have w : bOr (oIn (bst x pool i) (lLen x.2.1)) (bNot (bAnd (iEq (lAt x.2.1 (i : Int)).1 pool) (bNot (iLt (bst x pool i) 0)))) = true := by
        rw [or_t, not_t, bf_t, and_t, not_t, bf_t, iLt_t, oIn_t]
        rcases hin with h | h
        · right; rintro ⟨_, h'⟩; omega
        · left; omega
      have e3 : sel (bAnd (iEq (lAt x.2.1 (i : Int)).1 pool) (bOr (iLt (bst x pool i) 0) b)) (i : Int) (bst x pool i) = bst x pool (i + 1) := by
        rw [sel_if, bst_s]
        have : (bAnd (iEq (lAt x.2.1 (i : Int)).1 pool) (bOr (iLt (bst x pool i) 0) b) = true) = ((fAt x i).1 = pool ∧ (bst x pool i < 0 ∨ bef (fAt x i) (lAt x.2.1 (bst x pool i)))) := by
          rw [and_t, or_t, iEq_t, iLt_t, hb]
        by_cases hc : (fAt x i).1 = pool ∧ (bst x pool i < 0 ∨ bef (fAt x i) (lAt x.2.1 (bst x pool i)))
        · rw [if_pos hc, if_pos (this.mpr hc)]
        · rw [if_neg hc, if_neg (fun h => hc (this.mp h))]
      unfold B67_0
      rw [iLt_y (a := (i : Int)) (by omega), oIn_y (a := (i : Int)) (by omega), sel_t, sel_t, w, sel_t, e, okS_s, or_tt, sel_t, valS_s, let_s, e3, add_n (by omega) (by omega)]
      rfl
    · show B67_0 pool x.1.1 x.1.2 x.2.1 x.2.2.1 x.2.2.2.1 x.2.2.2.2.1 x.2.2.2.2.2 (bst x pool x.2.1.length) x.2.1 (lLen x.2.1) x.2.1.length = _
      unfold B67_0
      rw [iLt_f (by omega), sel_f]
  unfold F67
  show bndS (L67_0 (pool, (opg x, (-1, (x.2.1, (lLen x.2.1, 0)))))) _ = _
  rw [hL]
  rfl
end Go.Proofs.YtagcodkkkebnhaaGreat.K
end
