/- A part of the proof: texts of the author, joined. -/
import Derived.Test.YtiddpfhpmodfbaaGreatDoorKS2
import Derived.Laws.Strings
import Derived.Sort.Walk13a
import Derived.Sort.AssemblyPlain
import Derived.Sort.LotD4
import Derived.Sort.LotD5
import Derived.Sort.LotD6
import Derived.Sort.LotD7
section
set_option linter.unusedVariables false
set_option linter.unusedSimpArgs false
set_option linter.unnecessarySimpa false
namespace Go.Ev
open Go
theorem sel_if {α : Type} (b : Bool) (x y : α) : sel b x y = if b = true then x else y := by cases b <;> rfl
theorem sel_t {α : Type} (x y : α) : sel true x y = x := rfl
theorem sel_f {α : Type} (x y : α) : sel false x y = y := rfl
theorem bnd_s {α β : Type} (a : α) (k : α → Option β) : bndS (some a) k = k a := rfl
theorem bnd_n {α β : Type} (k : α → Option β) : bndS none k = none := rfl
theorem let_s {α β : Type} (x : α) (k : α → β) : letS x k = k x := rfl
theorem not_b (b : Bool) : bNot b = !b := by cases b <;> rfl
theorem and_b (a b : Bool) : bAnd a b = (a && b) := by cases a <;> rfl
theorem or_b (a b : Bool) : bOr a b = (a || b) := by cases a <;> rfl
def fits (n : Int) : Prop := -9223372036854775808 ≤ n ∧ n ≤ 9223372036854775807
theorem wrap_fits {n : Int} (h : fits n) : IntKind.i64.wrap n = n := by
  obtain ⟨h1, h2⟩ := h
  unfold IntKind.wrap
  simp [IntKind.bits, IntKind.signed]
  omega
theorem add_w {a b : Int} (h : fits (a + b)) : iAdd .i64 a b = a + b := wrap_fits h
theorem sub_w {a b : Int} (h : fits (a - b)) : iSub .i64 a b = a - b := wrap_fits h
theorem mul_w {a b : Int} (h : fits (a * b)) : iMul .i64 a b = a * b := wrap_fits h
theorem cv_w {a : Int} (h : fits a) : iCv .i64 a = a := wrap_fits h
theorem by_len (s : ByteArray) : sLen s = (sBy s).length := by
  unfold sLen sBy
  rw [List.length_map, Array.length_toList]
  rfl
theorem by_at (s : ByteArray) (n : Int) : sAt s n = ((sBy s)[n.toNat]?).getD 0 := by
  unfold sAt sBy
  rw [List.getElem?_map]
  have : s[n.toNat]? = s.data.toList[n.toNat]? := by
    rw [Array.getElem?_toList]
    by_cases h : n.toNat < s.size
    · rw [getElem?_pos s _ h, getElem?_pos s.data _ h]; rfl
    · rw [getElem?_neg s _ h, getElem?_neg s.data _ h]
  rw [this]
  cases s.data.toList[n.toNat]? <;> rfl
theorem by_cut (s : ByteArray) (lo hi : Int) : sBy (sCut s lo hi) = ((sBy s).take hi.toNat).drop lo.toNat := by
  unfold sCut sBy
  rw [ByteArray.data_extract, Array.toList_extract, List.extract_eq_take_drop, ← List.map_take, ← List.map_drop, List.drop_take]
theorem by_add (a b : ByteArray) : sBy (sAdd a b) = sBy a ++ sBy b := by
  simp [sBy, sAdd, ByteArray.data_append]
theorem by_inj {a b : ByteArray} (h : sBy a = sBy b) : a = b := by
  have h2 : a.data.toList = b.data.toList := by
    have := congrArg (List.map fun n : Int => UInt8.ofNat n.toNat) h
    simpa [sBy, Function.comp_def] using this
  cases a; cases b
  simp only at h2
  congr
  exact Array.ext' h2
theorem ba_toList (s : ByteArray) : s.toList = s.data.toList := by
  exact ByteArray.toList_eq s
theorem eq_b (a b : ByteArray) : sEq a b = decide (a = b) := by
  unfold sEq
  rw [ba_toList, ba_toList, Bool.eq_iff_iff]
  simp only [beq_iff_eq, decide_eq_true_eq]
  constructor
  · intro h; cases a; cases b; simp only at h; congr; exact Array.ext' h
  · intro h; rw [h]
theorem by_byte (s : ByteArray) : ∀ n ∈ sBy s, 0 ≤ n ∧ n < 256 := by
  intro n hn
  unfold sBy at hn
  obtain ⟨b, _, rfl⟩ := List.mem_map.1 hn
  have := b.toNat_lt
  omega
theorem iter_s {σ ρ : Type} {B : σ → Option (σ ⊕ ρ)} {n : Nat} {x y : σ} (h : B x = some (.inl y)) : iter B (n + 1) x = iter B n y := by
  show (match B x with | some (.inl y) => iter B n y | some (.inr r) => some r | none => none) = _
  rw [h]
theorem iter_e {σ ρ : Type} {B : σ → Option (σ ⊕ ρ)} {n : Nat} {x : σ} {r : ρ} (h : B x = some (.inr r)) : iter B (n + 1) x = some r := by
  show (match B x with | some (.inl y) => iter B n y | some (.inr r) => some r | none => none) = _
  rw [h]
theorem iter_up {σ ρ : Type} {B : σ → Option (σ ⊕ ρ)} {st : Nat → σ} {r : ρ} {m : Nat} (hs : ∀ i, i < m → B (st i) = some (.inl (st (i + 1)))) (he : B (st m) = some (.inr r)) : ∀ (d i n : Nat), i + d = m → d < n → iter B n (st i) = some r := by
  intro d
  induction d with
  | zero =>
    intro i n hi hn
    obtain ⟨n, rfl⟩ : ∃ q, n = q + 1 := ⟨n - 1, by omega⟩
    obtain rfl : i = m := by omega
    exact iter_e he
  | succ d ih =>
    intro i n hi hn
    obtain ⟨n, rfl⟩ : ∃ q, n = q + 1 := ⟨n - 1, by omega⟩
    rw [iter_s (hs i (by omega))]
    exact ih (i + 1) n (by omega) (by omega)
theorem iter_run {σ ρ : Type} {B : σ → Option (σ ⊕ ρ)} (st : Nat → σ) {r : ρ} (m : Nat) (hm : m < 10000000) (hs : ∀ i, i < m → B (st i) = some (.inl (st (i + 1)))) (he : B (st m) = some (.inr r)) : iter B fuel (st 0) = some r :=
  iter_up hs he m 0 _ (by omega) hm
theorem or_w {a b : Int} (ha : 0 ≤ a) (ha' : a < 36028797018963968) (hb : 0 ≤ b) (hb' : b < 256) : iOr .i64 (iShl .i64 a 8) b = a * 256 + b := by
  obtain ⟨x, rfl⟩ := Int.eq_ofNat_of_zero_le ha
  obtain ⟨y, rfl⟩ := Int.eq_ofNat_of_zero_le hb
  have h1 : iShl .i64 (x : Int) 8 = ((x * 256 : Nat) : Int) := by
    unfold iShl
    rw [wrap_fits (by unfold fits; simp [IntKind.bits]; omega)]
    simp [IntKind.bits]
  rw [h1]
  unfold iOr
  have h2 : (BitVec.ofInt IntKind.i64.bits ((x * 256 : Nat) : Int) ||| BitVec.ofInt IntKind.i64.bits (y : Int)).toNat = x * 256 + y := by
    rw [BitVec.toNat_or, BitVec.ofInt_natCast, BitVec.ofInt_natCast, BitVec.toNat_ofNat, BitVec.toNat_ofNat]
    rw [Nat.mod_eq_of_lt (by simp [IntKind.bits]; omega), Nat.mod_eq_of_lt (by simp [IntKind.bits]; omega)]
    have := Nat.shiftLeft_add_eq_or_of_lt (b := y) (i := 8) (by omega) x
    rw [Nat.shiftLeft_eq] at this
    simpa using this.symm
  rw [h2, wrap_fits (by unfold fits; omega)]
  simp
end Go.Ev
end

section
set_option linter.unusedVariables false
set_option linter.unusedSimpArgs false
set_option linter.unnecessarySimpa false
namespace Go.Ev
open Go
theorem not_t (b : Bool) : (bNot b = true) = (b = false) := by cases b <;> simp [bNot, sel]
theorem and_t (a b : Bool) : (bAnd a b = true) = (a = true ∧ b = true) := by cases a <;> simp [bAnd, sel]
theorem or_t (a b : Bool) : (bOr a b = true) = (a = true ∨ b = true) := by cases a <;> simp [bOr, sel]
theorem selB_t (a b c : Bool) : (sel a b c = true) = ((a = true ∧ b = true) ∨ (a = false ∧ c = true)) := by cases a <;> simp [sel]
theorem bEq_t (a b : Bool) : (bEq a b = true) = (a = b) := by cases a <;> cases b <;> simp [bEq]
theorem iEq_t (a b : Int) : (iEq a b = true) = (a = b) := by simp [iEq]
theorem iLt_t (a b : Int) : (iLt a b = true) = (a < b) := by simp [iLt]
theorem iLe_t (a b : Int) : (iLe a b = true) = (a ≤ b) := by simp [iLe]
theorem oNz_t (b : Int) : (oNz b = true) = (b ≠ 0) := by simp [oNz]
theorem oIn_t (n l : Int) : (oIn n l = true) = (0 ≤ n ∧ n < l) := by simp [oIn]
theorem oCut_t (a b l : Int) : (oCut a b l = true) = (0 ≤ a ∧ a ≤ b ∧ b ≤ l) := by simp [oCut]
theorem sEq_t (a b : ByteArray) : (sEq a b = true) = (a = b) := by rw [eq_b]; simp
theorem sOk_t (a b : ByteArray) : (sOk a b = true) = (sLen a + sLen b ≤ 9223372036854775807) := by
  unfold sOk sLen
  rw [decide_eq_true_eq]
  exact propext ⟨fun h => by omega, fun h => by omega⟩
theorem lCap_t {α : Type} (c : Int) (l : List α) : (lCap c l = true) = (lLen l * (c + 1) ≤ 140737488355328) := by simp [lCap, lLen]
theorem nCap_t (c n : Int) : (nCap c n = true) = (0 ≤ n ∧ n * (c + 1) ≤ 140737488355328) := by simp [nCap]
theorem okS_t {α : Type} (x : Option α) : (okS x = true) = (∃ a, x = some a) := by cases x <;> simp [okS]
theorem okS_s {α : Type} (a : α) : okS (some a) = true := rfl
theorem valS_s {α : Type} (a d : α) : valS (some a) d = a := rfl
theorem bf_t (b : Bool) : (b = false) = ¬ (b = true) := by cases b <;> simp
theorem sLen_nn (s : ByteArray) : 0 ≤ sLen s := by unfold sLen; omega
theorem lLen_nn {α : Type} (l : List α) : 0 ≤ lLen l := by unfold lLen; omega
def Ok {α : Type} (x : Option α) (Q : α → Prop) : Prop := ∃ a, x = some a ∧ Q a
theorem Ok.mono {α : Type} {x : Option α} {Q R : α → Prop} (h : Ok x Q) (k : ∀ a, Q a → R a) : Ok x R := by obtain ⟨a, e, q⟩ := h; exact ⟨a, e, k a q⟩
theorem ok_some {α : Type} {a : α} {Q : α → Prop} : Ok (some a) Q = Q a := propext ⟨fun ⟨_, e, q⟩ => (by cases e; exact q), fun q => ⟨a, rfl, q⟩⟩
theorem ok_none {α : Type} {Q : α → Prop} : Ok (none : Option α) Q = False := propext ⟨fun ⟨_, e, _⟩ => (by cases e), fun h => h.elim⟩
theorem ok_sel {α : Type} {b : Bool} {x y : Option α} {Q : α → Prop} : Ok (sel b x y) Q = ((b = true → Ok x Q) ∧ (¬ b = true → Ok y Q)) := by
  cases b
  · show Ok y Q = _; simp
  · show Ok x Q = _; simp
theorem ok_bnd {α β : Type} {x : Option α} {k : α → Option β} {Q : β → Prop} : Ok (bndS x k) Q = Ok x (fun a => Ok (k a) Q) := by
  cases x with
  | none => exact propext ⟨fun ⟨_, e, _⟩ => (by cases e), fun ⟨_, e, _⟩ => (by cases e)⟩
  | some a => exact (ok_some (Q := fun a => Ok (k a) Q)).symm
theorem ok_let {α β : Type} {x : α} {k : α → Option β} {Q : β → Prop} : Ok (letS x k) Q = Ok (k x) Q := rfl
theorem ok_sumL {α β γ : Type} {a : α} {f : α → Option γ} {g : β → Option γ} {Q : γ → Prop} : Ok (sumS (.inl a) f g) Q = Ok (f a) Q := rfl
theorem ok_sumR {α β γ : Type} {a : β} {f : α → Option γ} {g : β → Option γ} {Q : γ → Prop} : Ok (sumS (.inr a) f g) Q = Ok (g a) Q := rfl
theorem ok_eq {α : Type} {x : Option α} {a : α} {Q : α → Prop} (e : x = some a) : Ok x Q = Q a := by rw [e, ok_some]
theorem ok_is {α : Type} {x : Option α} {a : α} : Ok x (fun b => b = a) = (x = some a) := propext ⟨fun ⟨_, e, q⟩ => (by rw [e, q]), fun e => ⟨a, e, rfl⟩⟩
theorem iter_inv {σ ρ : Type} {B : σ → Option (σ ⊕ ρ)} (I : Nat → σ → Prop) {Q : ρ → Prop} (h : ∀ m x, I m x → Ok (B x) (fun r => match r with | .inl y => ∃ k, k < m ∧ I k y | .inr r => Q r)) : ∀ (n m : Nat) (x : σ), I m x → m < n → Ok (iter B n x) Q := by
  intro n
  induction n with
  | zero => intro m x _ hn; omega
  | succ n ih =>
    intro m x hi hn
    obtain ⟨a, e, q⟩ := h m x hi
    cases a with
    | inl y =>
      obtain ⟨k, hk, hik⟩ := q
      rw [iter_s e]
      exact ih k y hik (by omega)
    | inr r =>
      rw [iter_e e]
      exact ⟨r, rfl, q⟩
theorem loop_inv {σ ρ : Type} {B : σ → Option (σ ⊕ ρ)} {Q : ρ → Prop} {x : σ} (I : Nat → σ → Prop) (m : Nat) (hx : I m x) (hm : m < 10000000) (h : ∀ m x, I m x → Ok (B x) (fun r => match r with | .inl y => ∃ k, k < m ∧ I k y | .inr r => Q r)) : Ok (iter B fuel x) Q :=
  iter_inv I h _ m x hx (by unfold fuel; omega)
theorem iter_two {σ τ ρ π : Type} {B : σ → Option (σ ⊕ ρ)} {C : τ → Option (τ ⊕ π)} (I : Nat → σ → τ → Prop) {Q : ρ → π → Prop} (h : ∀ m x y, I m x y → (∃ k x' y', k < m ∧ B x = some (.inl x') ∧ C y = some (.inl y') ∧ I k x' y') ∨ ∃ r s, B x = some (.inr r) ∧ C y = some (.inr s) ∧ Q r s) : ∀ (n m : Nat) (x : σ) (y : τ), I m x y → m < n → ∃ r s, iter B n x = some r ∧ iter C n y = some s ∧ Q r s := by
  intro n
  induction n with
  | zero => intro m x y _ hn; omega
  | succ n ih =>
    intro m x y hi hn
    rcases h m x y hi with ⟨k, x', y', hk, e1, e2, hi'⟩ | ⟨r, s, e1, e2, q⟩
    · rw [iter_s e1, iter_s e2]
      exact ih k x' y' hi' (by omega)
    · exact ⟨r, s, iter_e e1, iter_e e2, q⟩
theorem loop_two {σ τ ρ π : Type} {B : σ → Option (σ ⊕ ρ)} {C : τ → Option (τ ⊕ π)} {Q : ρ → π → Prop} {x : σ} {y : τ} (I : Nat → σ → τ → Prop) (m : Nat) (hx : I m x y) (hm : m < 10000000) (h : ∀ m x y, I m x y → (∃ k x' y', k < m ∧ B x = some (.inl x') ∧ C y = some (.inl y') ∧ I k x' y') ∨ ∃ r s, B x = some (.inr r) ∧ C y = some (.inr s) ∧ Q r s) : ∃ r s, iter B fuel x = some r ∧ iter C fuel y = some s ∧ Q r s :=
  iter_two I h _ m x y hx (by unfold fuel; omega)
theorem mul_ite {c : Int} (h : fits c) (p : Prop) [Decidable p] : iMul .i64 c (if p then 1 else 0) = if p then c else 0 := by
  by_cases hp : p
  · rw [if_pos hp, if_pos hp, mul_w (by rw [Int.mul_one]; exact h), Int.mul_one]
  · rw [if_neg hp, if_neg hp, mul_w (by rw [Int.mul_zero]; unfold fits; omega), Int.mul_zero]
theorem add_n {a b : Int} (h1 : -9223372036854775808 ≤ a + b) (h2 : a + b ≤ 9223372036854775807) : iAdd .i64 a b = a + b := add_w ⟨h1, h2⟩
theorem sub_n {a b : Int} (h1 : -9223372036854775808 ≤ a - b) (h2 : a - b ≤ 9223372036854775807) : iSub .i64 a b = a - b := sub_w ⟨h1, h2⟩
theorem mul_n {a b : Int} (h1 : -9223372036854775808 ≤ a * b) (h2 : a * b ≤ 9223372036854775807) : iMul .i64 a b = a * b := mul_w ⟨h1, h2⟩
theorem cv_n {a : Int} (h1 : -9223372036854775808 ≤ a) (h2 : a ≤ 9223372036854775807) : iCv .i64 a = a := cv_w ⟨h1, h2⟩
theorem app_len {α : Type} (l m : List α) : lLen (lApp l m) = lLen l + lLen m := by simp [lLen, lApp]
theorem set_len {α : Type} (l : List α) (n : Int) (x : α) : lLen (lSet l n x) = lLen l := by simp [lLen, lSet]
theorem one_len {α : Type} (x : α) : lLen [x] = 1 := by simp [lLen]
theorem nil_len {α : Type} : lLen ([] : List α) = 0 := by simp [lLen]
theorem sadd_len (a b : ByteArray) : sLen (sAdd a b) = sLen a + sLen b := by simp [sLen, sAdd, ByteArray.size_append]
theorem scut_len (s : ByteArray) {a b : Int} (h0 : 0 ≤ a) (h1 : a ≤ b) (h2 : b ≤ sLen s) : sLen (sCut s a b) = b - a := by
  rw [by_len] at h2
  rw [by_len, by_cut, List.length_drop, List.length_take]
  omega
end Go.Ev
end

section
set_option linter.unusedVariables false
set_option linter.unusedSimpArgs false
set_option linter.unnecessarySimpa false
namespace Go.Ev
open Go
def bigB (n : Int) : Nat → List Int
  | 0 => []
  | k + 1 => bigB (n / 256) k ++ [n % 256]
theorem bigB_len : ∀ (k : Nat) (n : Int), (bigB n k).length = k
  | 0, _ => rfl
  | k + 1, n => by unfold bigB; rw [List.length_append, bigB_len k]; rfl
theorem bigB_front : ∀ (j : Nat) (n : Int), bigB n (j + 1) = (n / 256 ^ j) % 256 :: bigB n j
  | 0, n => by simp [bigB]
  | j + 1, n => by
    have ih := bigB_front j (n / 256)
    show bigB (n / 256) (j + 1) ++ [n % 256] = _
    rw [ih, Int.ediv_ediv_of_nonneg (by decide), Int.mul_comm, ← Int.pow_succ]
    rfl
theorem bigB_byte : ∀ (k : Nat) (n : Int), ∀ b ∈ bigB n k, 0 ≤ b ∧ b < 256
  | 0, n, b, h => by cases h
  | k + 1, n, b, h => by
    unfold bigB at h
    rcases List.mem_append.1 h with h | h
    · exact bigB_byte k _ b h
    · rw [List.mem_singleton.1 h]
      omega
theorem by_sOf {l : List Int} (h : ∀ b ∈ l, 0 ≤ b ∧ b < 256) : sBy (sOf l) = l := by
  have gen : ∀ (l : List Int) (a : ByteArray), (∀ b ∈ l, 0 ≤ b ∧ b < 256) → sBy (l.foldl (fun r n => r.push (UInt8.ofNat n.toNat)) a) = sBy a ++ l := by
    intro l
    induction l with
    | nil => intro a _; simp
    | cons b l ih =>
      intro a h
      rw [List.foldl_cons, ih _ (fun c hc => h c (List.mem_cons_of_mem _ hc))]
      have hb := h b (List.mem_cons_self ..)
      have : sBy (a.push (UInt8.ofNat b.toNat)) = sBy a ++ [b] := by
        unfold sBy
        rw [ByteArray.data_push, Array.toList_push, List.map_append]
        congr 1
        simp only [List.map_cons, List.map_nil]
        congr 1
        rw [UInt8.toNat_ofNat']
        omega
      rw [this]
      simp
  unfold sOf mkBytes
  rw [gen l ByteArray.empty h]
  rfl
theorem byte_shr {n : Int} (h0 : 0 ≤ n) (j : Nat) (hj : j < 8) : iCv .u8 (iShr .i64 n (iMul .i64 8 (j : Int))) = (n / 256 ^ j) % 256 := by
  have h1 : iMul .i64 8 (j : Int) = ((8 * j : Nat) : Int) := by rw [mul_w (by unfold fits; omega)]; omega
  rw [h1]
  unfold iShr
  have h2 : min ((8 * j : Nat) : Int).toNat IntKind.i64.bits = 8 * j := by simp [IntKind.bits]; omega
  rw [h2, Int.pow_mul, Int.fdiv_eq_ediv_of_nonneg _ (by exact Int.le_of_lt (Int.pow_pos (by decide)))]
  show IntKind.wrap .u8 _ = _
  unfold IntKind.wrap
  simp [IntKind.bits, IntKind.signed]
theorem cv_u8 {n : Int} (h : 0 ≤ n ∧ n < 256) : iCv .u8 n = n := by
  show IntKind.wrap .u8 _ = _
  unfold IntKind.wrap
  simp [IntKind.bits, IntKind.signed]
  omega
end Go.Ev
end

section
set_option linter.unusedVariables false
set_option linter.unusedSimpArgs false
set_option linter.unnecessarySimpa false
namespace Go.Ev
open Go
theorem iter_first {σ ρ : Type} {B : σ → Option (σ ⊕ ρ)} (st : Nat → σ) (p : Nat → Prop) (m : Nat) (r1 : Nat → ρ) (r2 : ρ) (hm : m < 10000000) (hs : ∀ i, i < m → ¬ p i → B (st i) = some (.inl (st (i + 1)))) (hf : ∀ i, i < m → p i → B (st i) = some (.inr (r1 i))) (he : B (st m) = some (.inr r2)) :
    (∃ i, i < m ∧ p i ∧ (∀ k, k < i → ¬ p k) ∧ iter B fuel (st 0) = some (r1 i)) ∨ ((∀ i, i < m → ¬ p i) ∧ iter B fuel (st 0) = some r2) := by
  have gen : ∀ (d i n : Nat), i + d = m → d < n → (∀ k, k < i → ¬ p k) → (∃ j, j < m ∧ p j ∧ (∀ k, k < j → ¬ p k) ∧ iter B n (st i) = some (r1 j)) ∨ ((∀ i, i < m → ¬ p i) ∧ iter B n (st i) = some r2) := by
    intro d
    induction d with
    | zero =>
      intro i n hi hn hk
      obtain ⟨n, rfl⟩ : ∃ q, n = q + 1 := ⟨n - 1, by omega⟩
      obtain rfl : i = m := by omega
      exact .inr ⟨hk, iter_e he⟩
    | succ d ih =>
      intro i n hi hn hk
      obtain ⟨n, rfl⟩ : ∃ q, n = q + 1 := ⟨n - 1, by omega⟩
      by_cases hp : p i
      · exact .inl ⟨i, by omega, hp, hk, iter_e (hf i (by omega) hp)⟩
      · rw [iter_s (hs i (by omega) hp)]
        exact ih (i + 1) n (by omega) (by omega) (fun k hk' => by
          by_cases h : k = i
          · rw [h]; exact hp
          · exact hk k (by omega))
  exact gen m 0 fuel (by omega) (by unfold fuel; omega) (fun k h => by omega)
theorem iLt_f {a b : Int} (h : ¬ a < b) : iLt a b = false := by unfold iLt; rw [decide_eq_false_iff_not]; exact h
theorem iLt_y {a b : Int} (h : a < b) : iLt a b = true := by unfold iLt; rw [decide_eq_true_eq]; exact h
theorem iLe_f {a b : Int} (h : ¬ a ≤ b) : iLe a b = false := by unfold iLe; rw [decide_eq_false_iff_not]; exact h
theorem iLe_y {a b : Int} (h : a ≤ b) : iLe a b = true := by unfold iLe; rw [decide_eq_true_eq]; exact h
theorem iEq_y {a b : Int} (h : a = b) : iEq a b = true := by unfold iEq; simpa using h
theorem iEq_f {a b : Int} (h : ¬ a = b) : iEq a b = false := by unfold iEq; simpa using h
theorem sEq_y {a b : ByteArray} (h : a = b) : sEq a b = true := by rw [sEq_t]; exact h
theorem sEq_f {a b : ByteArray} (h : ¬ a = b) : sEq a b = false := by rw [bf_t, sEq_t]; exact h
theorem oCut_y {a b c : Int} (h : 0 ≤ a ∧ a ≤ b ∧ b ≤ c) : oCut a b c = true := by rw [oCut_t]; exact h
theorem oIn_y {a b : Int} (h : 0 ≤ a ∧ a < b) : oIn a b = true := by rw [oIn_t]; exact h
theorem lCap_y {α : Type} {c : Int} {l : List α} (h0 : 0 ≤ c) (hc : c ≤ 1000) (h : l.length ≤ 1000000) : lCap c l = true := by
  rw [lCap_t]
  unfold lLen
  have : ((l.length : Int)) * (c + 1) ≤ 1000000 * 1001 := Int.mul_le_mul (by omega) (by omega) (by omega) (by omega)
  omega
theorem sOk_y {a b : ByteArray} (h : (sBy a).length + (sBy b).length ≤ 100000000) : sOk a b = true := by
  rw [sOk_t, by_len, by_len]
  omega
theorem nt : bNot true = false := rfl
theorem nf : bNot false = true := rfl
theorem at_ft (b : Bool) : bAnd true b = b := by cases b <;> rfl
theorem at_ff (b : Bool) : bAnd false b = false := rfl
theorem or_tt (b : Bool) : bOr true b = true := rfl
theorem or_ff (b : Bool) : bOr false b = b := by cases b <;> rfl
end Go.Ev
end

section
set_option linter.unusedVariables false
set_option linter.unusedSimpArgs false
set_option linter.unnecessarySimpa false
open Go Go.Ev
namespace Go.Proofs.YtiddpfhpmodfbaaGreatDoor.K
theorem sel_pos {α : Type} {b : Bool} {x y : α} (h : b = true) : sel b x y = x := by rw [h]; rfl
theorem sel_neg {α : Type} {b : Bool} {x y : α} (h : b = false) : sel b x y = y := by rw [h]; rfl
theorem bothS_same {α : Type} {x y : Option α} (h : x = y) : bothS x y = x := by unfold bothS both; rw [if_pos h]
theorem F116_nil : F116 [] = some [] := (show F116 [] = bothS (some []) (sel (lCap 24 (lApp ([] : List Tq13) ([] : List Tq13))) (some (lApp ([] : List Tq13) ([] : List Tq13))) none) from by kernel_rfl).trans (bothS_same (by kernel_rfl))
theorem F117_nil : F117 [] = some [] := (show F117 [] = bothS (some []) (sel (lCap 56 (lApp ([] : List Tq1) ([] : List Tq1))) (some (lApp ([] : List Tq1) ([] : List Tq1))) none) from by kernel_rfl).trans (bothS_same (by kernel_rfl))
theorem F118_nil : F118 [] = some [] := (show F118 [] = bothS (some []) (sel (lCap 16 (lApp ([] : List (Int × Int)) ([] : List (Int × Int)))) (some (lApp ([] : List (Int × Int)) ([] : List (Int × Int)))) none) from by kernel_rfl).trans (bothS_same (by kernel_rfl))
noncomputable section
def F83w (c1 : Option Tq5) (c2 : Option (List Tq1)) (c3 : Option Tq2) (a0 : (Tq5 × Int)) (a1 : Int) : Option ((Tq5 × Int) × (Int × Int)) :=
  bndS (F58 a0) fun y0 =>
  sel (bNot (iEq y0.2 0))
    (some ((([] : List Tq13), 0), (0, y0.2)))
    (letS (F109 a1 1 8) fun y1 =>
    sel (bNot y1)
      (some ((([] : List Tq13), 0), (0, 3)))
      (sel (sel (iEq (lLen a0.1) 10) (iEq (lLen a0.1) 10) (iLt 1000 a0.2))
        (some ((([] : List Tq13), 0), (0, 30)))
        (bndS (c1) fun y2 =>
        bndS (F137 a1) fun y3 =>
        sel (lCap 24 (lApp y2 [(a0.2, y3)])) (
        some (((lApp y2 [(a0.2, y3)]), (iAdd .i64 a0.2 1)), (a0.2, 0))) none)))
def F69w (c1 : Option Tq5) (c2 : Option (List Tq1)) (c3 : Option Tq2) (a0 : Tq10) : Option Tq0 :=
  bndS (c1) fun y0 =>
  bndS (c2) fun y1 =>
  bndS (c3) fun y2 =>
  some (y0, (a0.1.2, (y1, y2)))
def F69v (c1 : Option Tq5) (c2 : Option (List Tq1)) (c3 : Option Tq2) (a0 : Tq10) : Option Tq0 :=
  bndS (F116 a0.1.1) fun y0 =>
  bndS (F117 a0.2.1) fun y1 =>
  bndS (c3) fun y2 =>
  some (y0, (a0.1.2, (y1, y2)))
def F37w (c1 : Option Tq5) (c2 : Option (List Tq1)) (c3 : Option Tq2) (a0 : Tq10) (a1 : Tq7) (a2 : Int) : Option (Tq0 × (Int × Int)) :=
  bndS (F81 a0 a1) fun y0 =>
  sel (bNot (iEq y0 0))
    (some ((([] : List Tq13), (0, (([] : List Tq1), ([] : List (Int × Int))))), (0, y0)))
    (bndS (F82 a0 a1) fun y1 =>
    sel (iLe 0 y1)
      (some ((([] : List Tq13), (0, (([] : List Tq1), ([] : List (Int × Int))))), (0, 12)))
      (sel (iEq (lLen a0.2.1) 12)
        (some ((([] : List Tq13), (0, (([] : List Tq1), ([] : List (Int × Int))))), (0, 2)))
        (bndS (F83w c1 c2 c3 a0.1 a2) fun y2 =>
        sel (bNot (iEq y2.2.2 0))
          (some ((([] : List Tq13), (0, (([] : List Tq1), ([] : List (Int × Int))))), (0, y2.2.2)))
          (bndS (F69w c1 c2 c3 a0) fun y3 =>
          bndS (F79 a1 a2) fun y4 =>
          bndS (F84 y2.1 (y2.2.1, 0) y4) fun y5 =>
          bndS (F85 y5.1.1 y5.1.2 y3.2.2.1 y3.2.2.2 (a1, (y2.2.1, 0))) fun y6 =>
          some (y6, (y2.2.1, 0))))))
def F22w (c1 : Option Tq5) (c2 : Option (List Tq1)) (c3 : Option Tq2) (a0 : Tq10) (a1 : Tq2) : Option ((Tq5 × (Int × ((List Tq1) × (List (Int × Int) × Int × Int)))) × Int) :=
  bndS (F19 a0) fun y0 =>
  sel (bNot (iEq y0.2 0))
    (some ((([] : List Tq13), (0, (([] : List Tq1), (([] : List (Int × Int)), 0, (lLen ([] : List (Int × Int))))))), y0.2))
    (sel (iLt 40 (lLen a1))
      (some ((([] : List Tq13), (0, (([] : List Tq1), (([] : List (Int × Int)), 0, (lLen ([] : List (Int × Int))))))), 2))
      (bndS (F69v c1 c2 c3 a0) fun y1 =>
      bndS (L22_0 ((a0.1.1, (a0.1.2, a0.2)), (0, (y1, (a1, ((lLen a1), 0)))))) fun y2 =>
      sumS y2 (fun y2a =>
        bndS (F71 y2a.2.2.2.2) fun y3 =>
        bndS (F72 y3) fun y4 =>
        some ((y2a.2.1, (y2a.2.2.1, (y2a.2.2.2.1, (y4.1, y4.2.1, y4.2.2)))), 0)) fun y2b =>
        some ((([] : List Tq13), (y2b.1, (([] : List Tq1), (([] : List (Int × Int)), 0, (lLen ([] : List (Int × Int))))))), y2b.2)))
def F15x (d1 : Option Tq5) (d2 : Option (List Tq1)) (d3 : Option Tq2) (c3 : Option Tq2) : Option Bool :=
  bndS (F37w d1 d2 d3 (([], 1), ([], [])) ((bs [65]), ((bs [66]), 0)) 2) fun y0 =>
  sel (bOr (bNot (iEq y0.2.2 0)) (bNot (iEq y0.2.1 1)))
    (some false)
    (bndS (F22w d1 d2 c3 ((y0.1.1, y0.1.2.1), y0.1.2.2) [(1, 1)]) fun y1 =>
    sel (bNot (iEq y1.2 0))
      (some false)
      (bndS (F25 ((y1.1.1, y1.1.2.1), (y1.1.2.2.1, (lCut y1.1.2.2.2.1 y1.1.2.2.2.2.1 y1.1.2.2.2.2.2)))) fun y2 =>
      sel (iEq y2.2.2 0)
        (bndS (F27 y2.2.1 [(0, (1, (2, ((bs [65]), ((bs [66]), 0)))))]) fun y3 =>
        some y3)
        (some false)))
end
theorem f37 : F37 (([], 1), ([], [])) ((bs [65]), ((bs [66]), 0)) 2 = F37w (some []) (some []) (some []) (([], 1), ([], [])) ((bs [65]), ((bs [66]), 0)) 2 := (show F37 (([], 1), ([], [])) ((bs [65]), ((bs [66]), 0)) 2 = F37w (F116 []) (F117 []) (F118 []) (([], 1), ([], [])) ((bs [65]), ((bs [66]), 0)) 2 from by kernel_rfl).trans (by rw [F116_nil, F117_nil, F118_nil])
theorem awake : F15 = some true := by
  unfold F15
  rw [f37]
  refine Eq.trans (b := F15x (some []) (some []) (some []) (F118 [])) (by kernel_rfl) ?_
  rw [F118_nil]
  kernel_rfl
def bigE (l : List Int) : Int := l.foldl (fun x b => x * 256 + b) 0
theorem bigE_snoc (l : List Int) (b : Int) : bigE (l ++ [b]) = bigE l * 256 + b := by simp [bigE]
theorem bigE_take {l : List Int} {i : Nat} (h : i < l.length) : bigE (l.take (i + 1)) = bigE (l.take i) * 256 + (l[i]?).getD 0 := by
  rw [List.take_add_one, List.getElem?_eq_getElem h]
  exact bigE_snoc _ _
theorem bigE_4 {l : List Int} (hb : ∀ b ∈ l, 0 ≤ b ∧ b < 256) (h : l.length ≤ 4) : 0 ≤ bigE l ∧ bigE l < 4294967296 := by
  rcases l with _ | ⟨a, _ | ⟨b, _ | ⟨c, _ | ⟨d, _ | ⟨e, l⟩⟩⟩⟩⟩ <;> simp [bigE] at hb h ⊢ <;> omega
theorem get_byte (s : ByteArray) (i : Nat) : 0 ≤ ((sBy s)[i]?).getD 0 ∧ ((sBy s)[i]?).getD 0 < 256 := by
  cases h : (sBy s)[i]? with
  | none => simp
  | some b => exact by_byte s b (List.mem_of_getElem? h)
theorem mem_dt {s : ByteArray} {a n : Nat} : ∀ b ∈ ((sBy s).drop a).take n, 0 ≤ b ∧ b < 256 := fun b hb => by_byte s b (List.mem_of_mem_drop (List.mem_of_mem_take hb))
theorem F64_eq (s : ByteArray) (a n : Nat) (h : a + n ≤ (sBy s).length) (hn : n ≤ 4) (hs : (sBy s).length ≤ 1000000) : F55 s a n = some (bigE (((sBy s).drop a).take n)) := by
  have hL : L55_0 (s, ((a : Int), ((n : Int), (0, 0)))) = some (bigE (((sBy s).drop a).take n)) := by
    refine iter_run (fun i => (s, ((a : Int), ((n : Int), (bigE (((sBy s).drop a).take i), (i : Int)))))) n (by omega) ?_ ?_
    · intro i hi
      have hb := bigE_4 (mem_dt (s := s) (a := a) (n := i)) (by simp; omega)
      have hg := get_byte s (a + i)
      have hl := by_len s
      have h1 : i < ((sBy s).drop a).length := by rw [List.length_drop]; omega
      show B55_0 s a n _ i = some (.inl (s, ((a : Int), ((n : Int), (bigE (((sBy s).drop a).take (i + 1)), ((i + 1 : Nat) : Int))))))
      rw [bigE_take h1, List.getElem?_drop]
      unfold B55_0
      simp only [iLt, oIn, sel_if]
      rw [add_w (a := (a : Int)) (by unfold fits; omega), add_w (b := 1) (by unfold fits; omega), by_at, show ((a : Int) + i).toNat = a + i by omega, cv_w (by unfold fits; omega), mul_w (by unfold fits; omega), add_w (by unfold fits; omega)]
      rw [if_pos (by simp; omega), if_pos (by simp; omega)]
      rfl
    · show B55_0 s a n _ n = _
      unfold B55_0
      simp only [iLt, sel_if]
      rw [if_neg (by simp)]
  unfold F55
  rw [hL]
  rfl
def sumE (l : List Int) : Int := l.foldl (fun a b => (257 * a + b + 1) % 4294967291) 1
theorem sumE_take {l : List Int} {i : Nat} (h : i < l.length) : sumE (l.take (i + 1)) = (257 * sumE (l.take i) + (l[i]?).getD 0 + 1) % 4294967291 := by
  rw [List.take_add_one, List.getElem?_eq_getElem h]
  unfold sumE
  rw [List.foldl_append]
  rfl
theorem sumE_from (l : List Int) : ∀ a : Int, 0 ≤ a → a < 4294967291 → 0 ≤ l.foldl (fun a b => (257 * a + b + 1) % 4294967291) a ∧ l.foldl (fun a b => (257 * a + b + 1) % 4294967291) a < 4294967291 := by
  induction l with
  | nil => intro a h1 h2; exact ⟨h1, h2⟩
  | cons b l ih => intro a h1 h2; exact ih _ (Int.emod_nonneg _ (by decide)) (Int.emod_lt_of_pos _ (by decide))
theorem sumE_lt {l : List Int} (_h : ∀ b ∈ l, 0 ≤ b ∧ b < 256) : 0 ≤ sumE l ∧ sumE l < 4294967291 := sumE_from l 1 (by decide) (by decide)
theorem F59_eq (s : ByteArray) (hs : (sBy s).length ≤ 1000000) : F57 s = some (sumE (sBy s)) := by
  have hl := by_len s
  have hL : L57_0 (s, ((1 : Int), 0)) = some (sumE ((sBy s).take (sBy s).length)) := by
    refine iter_run (fun i => (s, (sumE ((sBy s).take i), (i : Int)))) (sBy s).length (by omega) ?_ ?_
    · intro i hi
      have hb := sumE_lt (l := (sBy s).take i) (fun b hb => by_byte s b (List.mem_of_mem_take hb))
      have hg := get_byte s i
      show B57_0 s (sumE ((sBy s).take i)) i = some (.inl ((s, (sumE ((sBy s).take (i + 1)), ((i + 1 : Nat) : Int)))))
      rw [sumE_take hi]
      unfold B57_0
      simp only [iLt, oIn, sel_if, oNz]
      rw [add_w (b := 1) (a := (i : Int)) (by unfold fits; omega), by_at, show (i : Int).toNat = i by omega, cv_w (by unfold fits; omega), mul_w (by unfold fits; omega), add_w (a := 257 * sumE ((sBy s).take i)) (by unfold fits; omega), add_w (b := 1) (by unfold fits; omega)]
      rw [if_pos (by simp; omega), if_pos (by simp; omega), if_pos (by decide)]
      unfold iRem
      rw [Int.tmod_eq_emod_of_nonneg (by omega)]
      rfl
    · show B57_0 s (sumE ((sBy s).take (sBy s).length)) (sBy s).length = _
      unfold B57_0
      simp only [iLt, sel_if]
      rw [if_neg (by simp; omega)]
  unfold F57
  rw [hL, List.take_length]
  rfl
theorem L52_eq (s : ByteArray) (hs : (sBy s).length ≤ 1000000) : L52_0 (s, (1, (sLen s, 0))) = some (sumE (sBy s)) := by
  have hl := by_len s
  have hL : L52_0 (s, ((1 : Int), (((sBy s).length : Int), 0))) = some (sumE ((sBy s).take (sBy s).length)) := by
    refine iter_run (fun i => (s, (sumE ((sBy s).take i), (((sBy s).length : Int), (i : Int))))) (sBy s).length (by omega) ?_ ?_
    · intro i hi
      have hb := sumE_lt (l := (sBy s).take i) (fun b hb => by_byte s b (List.mem_of_mem_take hb))
      have hg := get_byte s i
      show B52_0 s (sumE ((sBy s).take i)) (sBy s).length i = some (.inl ((s, (sumE ((sBy s).take (i + 1)), (((sBy s).length : Int), ((i + 1 : Nat) : Int))))))
      rw [sumE_take hi]
      unfold B52_0
      simp only [iLt, oIn, sel_if, oNz]
      rw [add_w (b := 1) (a := (i : Int)) (by unfold fits; omega), by_at, show (i : Int).toNat = i by omega, cv_w (by unfold fits; omega), mul_w (by unfold fits; omega), add_w (a := 257 * sumE ((sBy s).take i)) (by unfold fits; omega), add_w (b := 1) (by unfold fits; omega)]
      rw [if_pos (by simp; omega), if_pos (by simp; omega), if_pos (by decide)]
      unfold iRem
      rw [Int.tmod_eq_emod_of_nonneg (by omega)]
      rfl
    · show B52_0 s (sumE ((sBy s).take (sBy s).length)) (sBy s).length (sBy s).length = _
      unfold B52_0
      simp only [iLt, sel_if]
      rw [if_neg (by simp)]
  rw [hl, hL, List.take_length]
def trimL (l : List Int) : List Int := (l.reverse.dropWhile (fun c => c == 32)).reverse
theorem trimL_blank (l : List Int) : trimL (l ++ [32]) = trimL l := by unfold trimL; rw [List.reverse_append]; rfl
theorem trimL_end (l : List Int) {c : Int} (h : c ≠ 32) : trimL (l ++ [c]) = l ++ [c] := by
  unfold trimL
  rw [List.reverse_append]
  show (List.dropWhile _ (c :: l.reverse)).reverse = _
  rw [List.dropWhile_cons_of_neg (by simpa using h)]
  simp
theorem last_split {l : List Int} (h : 0 < l.length) : ∃ m c, l = m ++ [c] ∧ l[l.length - 1]? = some c := by
  refine ⟨l.dropLast, l.getLast (by intro e; rw [e] at h; cases h), (List.dropLast_concat_getLast _).symm, ?_⟩
  rw [List.getLast_eq_getElem]
  exact List.getElem?_eq_getElem (by omega)
theorem trim_loops : ∀ (k n : Nat) (s : ByteArray), (sBy s).length = k → k < n → k ≤ 1000000 → ∃ t, sBy t = trimL (sBy s) ∧ iter (fun (x : ByteArray) => B53_0 x) n s = some t ∧ iter (fun (x : Tq23) => B102_0 x.1 x.2) n (s, 32) = some t := by
  intro k
  induction k with
  | zero =>
    intro n s hk hn _
    obtain ⟨n, rfl⟩ : ∃ q, n = q + 1 := ⟨n - 1, by omega⟩
    have hl := by_len s
    have h0 : sBy s = [] := List.length_eq_zero_iff.1 hk
    have hs : iLt 0 (sLen s) = false := by unfold iLt; simp; omega
    refine ⟨s, by rw [h0]; rfl, iter_e ?_, iter_e ?_⟩
    · show B53_0 s = _
      unfold B53_0
      rw [hs, or_b, and_b, sel_pos (by simp [bNot, sel]), Bool.false_and, sel_f]
    · show B102_0 s 32 = _
      unfold B102_0
      rw [hs, or_b, and_b, sel_pos (by simp [bNot, sel]), Bool.false_and, sel_f]
  | succ k ih =>
    intro n s hk hn hm
    obtain ⟨n, rfl⟩ : ∃ q, n = q + 1 := ⟨n - 1, by omega⟩
    have hl := by_len s
    obtain ⟨m, c, he, hc⟩ := last_split (l := sBy s) (by omega)
    have hs : iLt 0 (sLen s) = true := by unfold iLt; simp; omega
    have hsub : iSub .i64 (sLen s) 1 = (k : Int) := by rw [sub_w (by unfold fits; omega)]; omega
    have hin : oIn (k : Int) (sLen s) = true := by unfold oIn; simp; omega
    have hat : sAt s (k : Int) = c := by
      rw [by_at, show ((k : Int)).toNat = (sBy s).length - 1 by omega, hc]
      rfl
    have hml : m.length = k := by rw [he] at hk; simpa using hk
    have hcut : sBy (sCut s 0 (k : Int)) = m := by
      rw [by_cut, he, show ((k : Int)).toNat = m.length by omega]
      simp
    by_cases h32 : c = 32
    · obtain ⟨t, h1, h2, h3⟩ := ih n (sCut s 0 (k : Int)) (by rw [hcut, hml]) (by omega) (by omega)
      have hoc : oCut 0 (k : Int) (sLen s) = true := by unfold oCut; simp; omega
      refine ⟨t, by rw [h1, hcut, he, h32, trimL_blank], ?_, ?_⟩
      · rw [iter_s (y := sCut s 0 (k : Int))]
        · exact h2
        · show B53_0 s = _
          unfold B53_0
          rw [hsub, hat, hs, or_b, and_b, sel_pos (by rw [hin]; rfl), sel_pos (by rw [h32]; rfl), sel_pos hoc]
      · rw [iter_s (y := (sCut s 0 (k : Int), 32))]
        · exact h3
        · show B102_0 s 32 = _
          unfold B102_0
          rw [hsub, hat, hs, or_b, and_b, sel_pos (by rw [hin]; rfl), sel_pos (by rw [h32]; rfl), sel_pos hoc]
    · refine ⟨s, by rw [he, trimL_end m h32], iter_e ?_, iter_e ?_⟩
      · show B53_0 s = _
        unfold B53_0
        rw [hsub, hat, hs, or_b, and_b, sel_pos (by rw [hin]; rfl), sel_neg (by unfold iEq; simpa using h32)]
      · show B102_0 s 32 = _
        unfold B102_0
        rw [hsub, hat, hs, or_b, and_b, sel_pos (by rw [hin]; rfl), sel_neg (by unfold iEq; simpa using h32)]
theorem trim_eq (s : ByteArray) (hs : (sBy s).length ≤ 1000000) : ∃ t, sBy t = trimL (sBy s) ∧ L53_0 s = some t ∧ F48 s = some t := by
  obtain ⟨t, h1, h2, h3⟩ := trim_loops (sBy s).length fuel s rfl (by unfold fuel; omega) hs
  refine ⟨t, h1, ?_, ?_⟩
  · unfold L53_0
    exact h2
  · unfold F48
    by_cases he : sEq s (bs []) = true
    · rw [he, show bAnd true true = true from rfl, sel_t]
      rw [eq_b, decide_eq_true_eq] at he
      rw [show s = t from by_inj (by rw [h1, he]; rfl)]
    · have he' : sEq s (bs []) = false := by simpa using he
      rw [he', show bAnd false true = false from rfl, sel_f]
      unfold F102 L102_0
      rw [h3]
      rfl
theorem trimL_length (l : List Int) : (trimL l).length ≤ l.length := by
  unfold trimL
  rw [List.length_reverse]
  have := (List.dropWhile_suffix (fun c : Int => c == 32) (l := l.reverse)).length_le
  rwa [List.length_reverse] at this
theorem iter_scan {σ ρ : Type} {B : σ → Option (σ ⊕ ρ)} {st : Nat → σ} {r1 r2 : ρ} {p : Nat → Bool} {m : Nat} (hs : ∀ i, i < m → p i = true → B (st i) = some (.inl (st (i + 1)))) (hf : ∀ i, i < m → p i = false → B (st i) = some (.inr r1)) (he : B (st m) = some (.inr r2)) :
    ∀ (d i n : Nat), i + d = m → d < n → iter B n (st i) = some (if (List.range' i d).all p = true then r2 else r1) := by
  intro d
  induction d with
  | zero =>
    intro i n hi hn
    obtain ⟨n, rfl⟩ : ∃ q, n = q + 1 := ⟨n - 1, by omega⟩
    obtain rfl : i = m := by omega
    rw [iter_e he]
    rfl
  | succ d ih =>
    intro i n hi hn
    obtain ⟨n, rfl⟩ : ∃ q, n = q + 1 := ⟨n - 1, by omega⟩
    rw [List.range'_succ, List.all_cons]
    cases hp : p i with
    | true =>
      rw [iter_s (hs i (by omega) hp), ih (i + 1) n (by omega) (by omega)]
      rfl
    | false =>
      rw [iter_e (hf i (by omega) hp)]
      rfl
def nmCh (i : Nat) (c : Int) : Bool := decide ((65 ≤ c ∧ c ≤ 90) ∨ c = 35 ∨ c = 36 ∨ c = 64) || (decide (i ≠ 0) && decide (c = 95 ∨ c = 46 ∨ (48 ≤ c ∧ c ≤ 57)))
def nmOK (l : List Int) : Bool := decide (1 ≤ l.length ∧ l.length ≤ 10) && (List.range' 0 l.length).all fun i => nmCh i ((l[i]?).getD 0)
theorem empty_iff (s : ByteArray) : sEq s (bs []) = decide ((sBy s).length = 0) := by
  rw [eq_b]
  apply decide_eq_decide.2
  constructor
  · intro h; rw [h]; rfl
  · intro h; exact by_inj (by rw [List.length_eq_zero_iff.1 h]; rfl)
theorem L51_eq (s : ByteArray) (hs : (sBy s).length ≤ 1000000) : L107_0 (s, (((sBy s).length : Int), 0)) = some (if ((List.range' 0 (sBy s).length).all fun i => nmCh i (((sBy s)[i]?).getD 0)) = true then .inl () else .inr false) := by
  have hl := by_len s
  refine iter_scan (st := fun i => (s, (((sBy s).length : Int), (i : Int)))) (p := fun i => nmCh i (((sBy s)[i]?).getD 0)) (m := (sBy s).length) ?_ ?_ ?_ (sBy s).length 0 _ (by omega) (by unfold fuel; omega)
  · intro i hi hp
    show B107_0 s (sBy s).length i = some (.inl (s, (((sBy s).length : Int), ((i + 1 : Nat) : Int))))
    unfold B107_0
    rw [by_at, show ((i : Int)).toNat = i by omega, add_w (b := 1) (by unfold fits; omega), sel_pos (by unfold iLt; simp; omega), sel_pos (by unfold oIn; simp; omega), sel_neg]
    · rfl
    · unfold nmCh at hp
      simp only [not_b, and_b, or_b, iLe, iEq, iLt] at hp ⊢
      generalize ((sBy s)[i]?).getD 0 = c at hp ⊢
      simp at hp ⊢
      omega
  · intro i hi hp
    show B107_0 s (sBy s).length i = _
    unfold B107_0
    rw [by_at, show ((i : Int)).toNat = i by omega, sel_pos (by unfold iLt; simp; omega), sel_pos (by unfold oIn; simp; omega), sel_pos]
    unfold nmCh at hp
    simp only [not_b, and_b, or_b, iLe, iEq, iLt] at hp ⊢
    generalize ((sBy s)[i]?).getD 0 = c at hp ⊢
    simp at hp ⊢
    omega
  · show B107_0 s (sBy s).length (sBy s).length = _
    unfold B107_0
    rw [sel_neg (by unfold iLt; simp)]
theorem F51_eq (s : ByteArray) (hs : (sBy s).length ≤ 1000000) : F107 s = some (nmOK (sBy s)) := by
  have hl := by_len s
  unfold F107 nmOK
  rw [hl, L51_eq s hs, empty_iff]
  by_cases h : 1 ≤ (sBy s).length ∧ (sBy s).length ≤ 10
  · rw [sel_neg (by rw [or_b, Bool.or_eq_false_iff]; unfold iLt; constructor <;> rw [decide_eq_false_iff_not] <;> omega), decide_eq_true h]
    split <;> rename_i h2
    · rw [h2]; rfl
    · rw [show ((List.range' 0 (sBy s).length).all fun i => nmCh i (((sBy s)[i]?).getD 0)) = false by simpa using h2]; rfl
  · rw [sel_pos (by rw [or_b, Bool.or_eq_true]; unfold iLt; rw [decide_eq_true_eq, decide_eq_true_eq]; omega), decide_eq_false h]
    rfl
theorem L55_eq (s : ByteArray) (hs : (sBy s).length ≤ 1000000) : L108_0 (s, 0) = some (if ((List.range' 0 (sBy s).length).all fun i => nmCh i (((sBy s)[i]?).getD 0)) = true then .inl () else .inr false) := by
  have hl := by_len s
  refine iter_scan (st := fun i => (s, (i : Int))) (p := fun i => nmCh i (((sBy s)[i]?).getD 0)) (m := (sBy s).length) ?_ ?_ ?_ (sBy s).length 0 _ (by omega) (by unfold fuel; omega)
  · intro i hi hp
    show B108_0 s i = some (.inl (s, ((i + 1 : Nat) : Int)))
    unfold B108_0 letS F157 F158
    dsimp only
    rw [by_at, show ((i : Int)).toNat = i by omega, add_w (b := 1) (by unfold fits; omega), sel_pos (by unfold iLt; simp; omega), sel_pos (by unfold oIn; simp; omega), sel_neg]
    · rfl
    · unfold nmCh at hp
      simp only [not_b, and_b, or_b, iLe, iEq, iLt] at hp ⊢
      generalize ((sBy s)[i]?).getD 0 = c at hp ⊢
      simp at hp ⊢
      omega
  · intro i hi hp
    show B108_0 s i = _
    unfold B108_0 letS F157 F158
    dsimp only
    rw [by_at, show ((i : Int)).toNat = i by omega, sel_pos (by unfold iLt; simp; omega), sel_pos (by unfold oIn; simp; omega), sel_pos]
    unfold nmCh at hp
    simp only [not_b, and_b, or_b, iLe, iEq, iLt] at hp ⊢
    generalize ((sBy s)[i]?).getD 0 = c at hp ⊢
    simp at hp ⊢
    omega
  · show B108_0 s (sBy s).length = _
    unfold B108_0
    rw [sel_neg (by unfold iLt; simp; omega)]
theorem F55_eq (s : ByteArray) (hs : (sBy s).length ≤ 1000000) : F108 s = some (nmOK (sBy s)) := by
  have hl := by_len s
  unfold F108 nmOK letS F35
  dsimp only
  rw [hl, L55_eq s hs]
  by_cases h : 1 ≤ (sBy s).length ∧ (sBy s).length ≤ 10
  · rw [sel_neg (by simp only [not_b, and_b, iLe]; simp; omega), decide_eq_true h]
    split <;> rename_i h2
    · rw [h2]; rfl
    · rw [show ((List.range' 0 (sBy s).length).all fun i => nmCh i (((sBy s)[i]?).getD 0)) = false by simpa using h2]; rfl
  · rw [sel_pos (by simp only [not_b, and_b, iLe]; simp; omega), decide_eq_false h]
    rfl
theorem F57_eq (n : Int) (k : Nat) (h0 : 0 ≤ n) (hk : k ≤ 4) (hn : n ≤ 9223372036854775807) : F133 n k = some (sOf (bigB n k)) := by
  unfold F133 L133_0
  rw [sel_pos (by rw [nCap_t]; omega)]
  have h := iter_run (B := fun (x : Tq21) => (B133_0 x.1 x.2.1 x.2.2.1 x.2.2.2)) (fun i => (n / 256 ^ i, ((k : Int), (List.replicate (k - i) (0 : Int) ++ bigB n i, (i : Int))))) (r := bigB n k) k (by omega) ?_ ?_
  · have h' : iter (fun (x : Tq21) => (B133_0 x.1 x.2.1 x.2.2.1 x.2.2.2)) fuel (n, ((k : Int), (lRep (k : Int) 0, 0))) = some (bigB n k) := by
      simpa [bigB, lRep] using h
    rw [h']
    rfl
  · intro i hi
    have hp : (0 : Int) < 256 ^ i := Int.pow_pos (by decide)
    have hd0 : 0 ≤ n / 256 ^ i := Int.ediv_nonneg h0 (by omega)
    have hd1 : n / 256 ^ i ≤ n := Int.ediv_le_self _ h0
    show B133_0 (n / 256 ^ i) k (List.replicate (k - i) (0 : Int) ++ bigB n i) i = _
    unfold B133_0
    rw [sub_w (a := (k : Int)) (by unfold fits; omega), sub_w (b := (i : Int)) (by unfold fits; omega), add_w (by unfold fits; omega)]
    rw [sel_pos (by rw [iLt_t]; omega), sel_pos (by decide), sel_pos (by rw [oIn_t]; unfold lLen; rw [List.length_append, bigB_len, List.length_replicate]; omega), sel_pos (by decide)]
    have e1 : iQuo .i64 (n / 256 ^ i) 256 = n / 256 ^ (i + 1) := by
      unfold iQuo
      rw [Int.tdiv_eq_ediv_of_nonneg hd0, Int.ediv_ediv_of_nonneg (by omega), ← Int.pow_succ]
      have q1 := Int.ediv_le_self (256 ^ (i + 1)) h0
      have q2 := Int.ediv_nonneg h0 (b := 256 ^ (i + 1)) (by exact Int.le_of_lt (Int.pow_pos (by decide)))
      revert q1 q2
      generalize n / 256 ^ (i + 1) = d
      intro q1 q2
      exact wrap_fits (by unfold fits; omega)
    have e2 : iCv .u8 (iRem (n / 256 ^ i) 256) = (n / 256 ^ i) % 256 := by
      unfold iRem
      rw [Int.tmod_eq_emod_of_nonneg hd0]
      exact cv_u8 ⟨by omega, by omega⟩
    rw [e1, e2]
    have e3 : lSet (List.replicate (k - i) (0 : Int) ++ bigB n i) ((k : Int) - 1 - (i : Int)) (n / 256 ^ i % 256) = List.replicate (k - (i + 1)) (0 : Int) ++ bigB n (i + 1) := by
      unfold lSet
      rw [bigB_front, show ((k : Int) - 1 - (i : Int)).toNat = k - (i + 1) by omega, show k - i = (k - (i + 1)) + 1 by omega, List.replicate_succ', List.append_assoc]
      rw [List.set_append_right _ _ (by simp)]
      simp
    rw [e3]
    rfl
  · show B133_0 (n / 256 ^ k) k (List.replicate (k - k) (0 : Int) ++ bigB n k) k = _
    unfold B133_0
    rw [sel_neg (by rw [bf_t, iLt_t]; omega)]
    simp
theorem F80_eq (k : Nat) (hk : k ≤ 1000) : F54 32 k = some (sOf (List.replicate k 32)) := by
  unfold F54 L54_0
  have h := iter_run (B := fun (x : Tq21) => (B54_0 x.1 x.2.1 x.2.2.1 x.2.2.2)) (fun i => ((32 : Int), ((k : Int), (List.replicate i (32 : Int), (i : Int))))) (r := List.replicate k (32 : Int)) k (by omega) ?_ ?_
  · have h' : iter (fun (x : Tq21) => (B54_0 x.1 x.2.1 x.2.2.1 x.2.2.2)) fuel ((32 : Int), ((k : Int), (([] : List Int), 0))) = some (List.replicate k (32 : Int)) := by
      simpa using h
    rw [h']
    rfl
  · intro i hi
    show B54_0 32 k (List.replicate i (32 : Int)) i = _
    unfold B54_0
    rw [sel_pos (by rw [iLt_t]; omega), sel_pos (by rw [lCap_t, app_len]; unfold lLen; simp; omega), add_w (by unfold fits; omega)]
    have e3 : lApp (List.replicate i (32 : Int)) [32] = List.replicate (i + 1) 32 := by
      rw [List.replicate_succ']
      rfl
    rw [e3]
    rfl
  · show B54_0 32 k (List.replicate k (32 : Int)) k = _
    unfold B54_0
    rw [sel_neg (by rw [bf_t, iLt_t]; omega)]
theorem FRepeat_eq (k : Nat) (hk : k ≤ 1000) : FRepeat (bs [32]) k = some (sOf (List.replicate k 32)) := by
  unfold FRepeat
  rw [sel_pos]
  · congr 1
    apply by_inj
    rw [by_sOf (by intro b hb; rw [List.eq_of_mem_replicate hb]; decide), show ((k : Int)).toNat = k by omega]
    unfold sBy
    clear hk
    induction k with
    | zero => rfl
    | succ k ih =>
      exact congrArg ((32 : Int) :: ·) ih
  · have : (bs [32]).size = 1 := rfl
    simp [this]
    omega
end Go.Proofs.YtiddpfhpmodfbaaGreatDoor.K
end

section
set_option linter.unusedVariables false
set_option linter.unusedSimpArgs false
set_option linter.unnecessarySimpa false
open Go Go.Ev
namespace Go.Proofs.YtiddpfhpmodfbaaGreatDoor.K
abbrev NAM := ByteArray × (ByteArray × Int)
theorem nm_eq (s : ByteArray) : F107 s = some (nmOK (sBy s)) ∧ F108 s = some (nmOK (sBy s)) := by
  by_cases h : (sBy s).length ≤ 1000000
  · exact ⟨F51_eq s h, F55_eq s h⟩
  · have hl := by_len s
    have hn : nmOK (sBy s) = false := by unfold nmOK; rw [decide_eq_false (by omega)]; rfl
    rw [hn]
    constructor
    · unfold F107
      rw [iLt_y (by omega), show bOr (sEq s (bs [])) true = true by rw [or_t]; exact .inr rfl, sel_t]
    · unfold F108
      have : F35 (sLen s) 1 10 = false := by rw [bf_t]; unfold F35; rw [and_t, iLe_t, iLe_t]; omega
      rw [let_s, this, nf, sel_t]
def nmE (n : NAM) : Int := if nmOK (sBy n.1) = true ∧ nmOK (sBy n.2.1) = true then (if 0 ≤ n.2.2 ∧ n.2.2 ≤ 29 then 0 else 17) else 7
theorem nmE_eq (n : NAM) : F50 n = some (nmE n) ∧ F56 n = some (nmE n) := by
  unfold F50 F56 nmE F47
  rw [(nm_eq n.1).1, (nm_eq n.1).2, (nm_eq n.2.1).1, (nm_eq n.2.1).2, bnd_s, bnd_s]
  have q : ∀ t : Int, F51 t 0 29 = F35 t 0 29 := fun _ => rfl
  by_cases h3 : 0 ≤ n.2.2 ∧ n.2.2 ≤ 29
  · have w : F35 n.2.2 0 29 = true := by unfold F35; rw [and_t, iLe_t, iLe_t]; exact h3
    rw [q, w, if_pos h3]
    cases nmOK (sBy n.1) <;> cases nmOK (sBy n.2.1) <;> exact ⟨rfl, rfl⟩
  · have w : F35 n.2.2 0 29 = false := by rw [bf_t]; unfold F35; rw [and_t, iLe_t, iLe_t]; exact h3
    rw [q, w, if_neg h3]
    cases nmOK (sBy n.1) <;> cases nmOK (sBy n.2.1) <;> exact ⟨rfl, rfl⟩
theorem index_mem (c : UInt8) : ∀ l : List UInt8, -1 ≤ Lib.indexByte l c ∧ (0 ≤ Lib.indexByte l c ↔ c ∈ l)
  | [] => ⟨by simp [Lib.indexByte], by simp [Lib.indexByte]⟩
  | b :: l => by
    obtain ⟨h1, h2⟩ := index_mem c l
    unfold Lib.indexByte
    by_cases hb : b = c
    · subst hb; simp
    · have hne : (b == c) = false := by simpa using hb
      rw [hne]
      simp only [Bool.false_eq_true, if_false]
      by_cases hn : Lib.indexByte l c = -1
      · rw [if_pos (by simpa using hn)]
        refine ⟨by decide, ⟨fun h => absurd h (by decide), fun h => ?_⟩⟩
        rcases List.mem_cons.1 h with h | h
        · exact absurd h.symm hb
        · have := h2.2 h; omega
      · rw [if_neg (by simpa using hn)]
        refine ⟨by omega, ⟨fun _ => List.mem_cons_of_mem _ (h2.1 (by omega)), fun _ => by omega⟩⟩
theorem mem_by {c : UInt8} {s : ByteArray} : c ∈ s.data.toList ↔ (c.toNat : Int) ∈ sBy s := by
  unfold sBy
  rw [List.mem_map]
  constructor
  · intro h; exact ⟨c, h, rfl⟩
  · rintro ⟨b, hb, e⟩
    have : b = c := UInt8.toNat_inj.1 (by omega)
    rw [← this]; exact hb
def hasB (s : ByteArray) : Bool := decide ((32 : Int) ∈ sBy s)
theorem cont_eq (s : ByteArray) : FContains s (bs [32]) = some (hasB s) := by
  unfold FContains
  have : sel (decide ((bs [32]).size = 1)) (some (decide (0 ≤ Lib.indexByte s.data.toList ((bs [32]).data.toList.headD 0)))) (none : Option Bool) = some (decide (0 ≤ Lib.indexByte s.data.toList 32)) := rfl
  rw [this]
  congr 1
  unfold hasB
  rw [decide_eq_decide, (index_mem 32 s.data.toList).2, mem_by]
  rfl
theorem pad_eq (s : ByteArray) (hs : (sBy s).length ≤ 1000) : ∃ t, F48 s = some t ∧ F53 s = some (t, bNot (hasB t)) := by
  obtain ⟨t, h1, h2, h3⟩ := trim_eq s (by omega)
  have hl := by_len t
  have htl : (sBy t).length ≤ 1000 := by rw [h1]; have := trimL_length (sBy s); omega
  refine ⟨t, h3, ?_⟩
  have hL : (∃ i, i < (sBy t).length ∧ sAt t (i : Int) = 32 ∧ (∀ k, k < i → ¬ sAt t (k : Int) = 32) ∧ L53_2 (t, 0) = some (.inr (t, false))) ∨ ((∀ i, i < (sBy t).length → ¬ sAt t (i : Int) = 32) ∧ L53_2 (t, 0) = some (Sum.inl t)) := by
    refine iter_first (fun i => (t, (i : Int))) (fun i => sAt t (i : Int) = 32) (sBy t).length (fun _ => Sum.inr (t, false)) (Sum.inl t) (by omega) ?_ ?_ ?_
    · intro i hi hp
      show B53_2 t i = some (.inl (t, ((i + 1 : Nat) : Int)))
      unfold B53_2
      rw [iLt_y (by omega), sel_t, oIn_y (by omega), sel_t, iEq_f hp, sel_f, add_n (by omega) (by omega)]
      rfl
    · intro i hi hp
      show B53_2 t i = _
      unfold B53_2
      rw [iLt_y (by omega), sel_t, oIn_y (by omega), sel_t, iEq_y hp, sel_t]
    · show B53_2 t (sBy t).length = _
      unfold B53_2
      rw [iLt_f (by omega), sel_f]
  have hat : ∀ i : Nat, i < (sBy t).length → sAt t (i : Int) = (sBy t)[i]?.getD 0 := fun i _ => by rw [by_at, Int.toNat_natCast]
  unfold F53
  rw [h2, bnd_s]
  rcases hL with ⟨i, i1, i2, _, e⟩ | ⟨i1, e⟩
  · rw [e]
    have : hasB t = true := by
      unfold hasB
      rw [decide_eq_true_eq]
      rw [hat i i1, List.getElem?_eq_getElem i1] at i2
      have i2 : (sBy t)[i] = 32 := i2
      rw [← i2]; exact List.getElem_mem i1
    rw [this]
    rfl
  · rw [e]
    have : hasB t = false := by
      unfold hasB
      rw [decide_eq_false_iff_not]
      intro h
      obtain ⟨i, hi, e⟩ := List.getElem_of_mem h
      exact i1 i hi (by rw [hat i hi, List.getElem?_eq_getElem hi]; exact e)
    rw [this]
    rfl
theorem nn (b : Bool) : bNot (bNot b) = b := by cases b <;> rfl
theorem big4 {l : List Int} (hb : ∀ b ∈ l, 0 ≤ b ∧ b < 256) (hl : l.length = 4) {n : Int} (hn : 0 ≤ n ∧ n < 4294967296) : bigE l = n ↔ l = [(n / 16777216) % 256, (n / 65536) % 256, (n / 256) % 256, n % 256] := by
  rcases l with _ | ⟨a, _ | ⟨b, _ | ⟨c, _ | ⟨d, _ | ⟨e, l⟩⟩⟩⟩⟩ <;> simp at hl
  simp only [List.mem_cons, List.not_mem_nil, or_false, forall_eq_or_imp, forall_eq] at hb
  obtain ⟨⟨a1, a2⟩, ⟨b1, b2⟩, ⟨c1, c2⟩, d1, d2⟩ := hb
  simp only [bigE, List.foldl_cons, List.foldl_nil, List.cons.injEq, and_true]
  omega
theorem u8_shr {n : Int} (h : 0 ≤ n) : iCv .u8 (iShr .i64 n 24) = (n / 16777216) % 256 ∧ iCv .u8 (iShr .i64 n 16) = (n / 65536) % 256 ∧ iCv .u8 (iShr .i64 n 8) = (n / 256) % 256 ∧ iCv .u8 n = n % 256 := by
  have h3 := byte_shr h 3 (by decide)
  have h2 := byte_shr h 2 (by decide)
  have h1 := byte_shr h 1 (by decide)
  refine ⟨h3, h2, h1, ?_⟩
  unfold iCv IntKind.wrap
  simp [IntKind.bits, IntKind.signed]
theorem sum_eq (s : ByteArray) (hs : (sBy s).length ≤ 1000) : F57 s = some (sumE (sBy s)) ∧ F52 s = some (sOf [(sumE (sBy s) / 16777216) % 256, (sumE (sBy s) / 65536) % 256, (sumE (sBy s) / 256) % 256, sumE (sBy s) % 256]) := by
  refine ⟨F59_eq s (by omega), ?_⟩
  have hb := sumE_lt (l := sBy s) (by_byte s)
  obtain ⟨h1, h2, h3, h4⟩ := u8_shr hb.1
  unfold F52
  rw [L52_eq s (by omega), bnd_s, h1, h2, h3, h4]
theorem bigE_1 (s : ByteArray) (a : Nat) (h : a < (sBy s).length) : bigE (((sBy s).drop a).take 1) = sAt s (a : Int) := by
  rw [by_at, Int.toNat_natCast, List.getElem?_eq_getElem h]
  have : ((sBy s).drop a).take 1 = [(sBy s)[a]] := by
    rw [List.drop_eq_getElem_cons h]; rfl
  rw [this]
  simp [bigE]
theorem in_eq (a : ByteArray) (ha : sLen a ≤ 1000) : ∃ r, F16 a = some r ∧ F17 a = some r := by
  have hl := by_len a
  unfold F16 F17
  by_cases h32 : sLen a = 32
  rotate_left
  · rw [iEq_f h32, nf, sel_t, sel_t]
    exact ⟨_, rfl, rfl⟩
  have hbl : (sBy a).length = 32 := by omega
  obtain ⟨t1, e1, f1⟩ := pad_eq (sCut a 5 15) (by rw [by_cut]; simp; omega)
  obtain ⟨t2, e2, f2⟩ := pad_eq (sCut a 15 25) (by rw [by_cut]; simp; omega)
  have z2 : F54 0 2 = some (bs [0, 0]) := by kernel_rfl
  have b4 : F55 a 4 1 = some (sAt a 4) := (F64_eq a 4 1 (by omega) (by decide) (by omega)).trans (by rw [bigE_1 a 4 (by omega)]; rfl)
  have b25 : F55 a 25 1 = some (sAt a 25) := (F64_eq a 25 1 (by omega) (by decide) (by omega)).trans (by rw [bigE_1 a 25 (by omega)]; rfl)
  have b26 : F55 a 26 4 = some (bigE (((sBy a).drop 26).take 4)) := F64_eq a 26 4 (by omega) (by decide) (by omega)
  have c26 : (sBy (sCut a 0 26)).length ≤ 1000 := by rw [by_cut]; simp; omega
  obtain ⟨s1, s2⟩ := sum_eq (sCut a 0 26) c26
  have hS := sumE_lt (l := sBy (sCut a 0 26)) (by_byte _)
  have hcmp : sEq (sCut a 26 30) (sOf [(sumE (sBy (sCut a 0 26)) / 16777216) % 256, (sumE (sBy (sCut a 0 26)) / 65536) % 256, (sumE (sBy (sCut a 0 26)) / 256) % 256, sumE (sBy (sCut a 0 26)) % 256]) = iEq (bigE (((sBy a).drop 26).take 4)) (sumE (sBy (sCut a 0 26))) := by
    rw [Bool.eq_iff_iff, sEq_t, iEq_t, big4 (mem_dt (s := a)) (by simp; omega) ⟨hS.1, by omega⟩]
    have hcut : sBy (sCut a 26 30) = ((sBy a).drop 26).take 4 := by
      rw [by_cut, List.drop_take]
      rfl
    rw [← hcut]
    constructor
    · intro h
      rw [h, by_sOf (by intro b hb; simp only [List.mem_cons, List.not_mem_nil, or_false] at hb; omega)]
    · intro h
      apply by_inj
      rw [by_sOf (by intro b hb; simp only [List.mem_cons, List.not_mem_nil, or_false] at hb; omega)]
      exact h
  have g4 := get_byte a 4
  have g25 := get_byte a 25
  have a4 : sAt a 4 = ((sBy a)[4]?).getD 0 := by rw [by_at]; rfl
  have a25 : sAt a 25 = ((sBy a)[25]?).getD 0 := by rw [by_at]; rfl
  have v4 : iCv .i64 (sAt a 4) = sAt a 4 := cv_n (by omega) (by omega)
  have v25 : iCv .i64 (sAt a 25) = sAt a 25 := cv_n (by omega) (by omega)
  rw [iEq_y h32, nt, sel_f, sel_f, oCut_y (a := 5) (by omega), sel_t, sel_t, e1, f1, bnd_s, bnd_s, oCut_y (a := 15) (by omega), sel_t, sel_t, e2, f2, bnd_s, bnd_s, oIn_y (a := 4) (by omega), sel_t, oIn_y (a := 25) (by omega), sel_t, oCut_y (a := 0) (b := 4) (by omega), sel_t, sel_t, cont_eq, cont_eq, okS_s, okS_s, or_tt, sel_t, valS_s, let_s, or_tt, sel_t, valS_s, let_s, oCut_y (a := 30) (by omega), or_tt, sel_t, z2, okS_s, or_tt, valS_s, v4, v25]
  dsimp only
  rw [nn, nn, sel_t, sel_t]
  simp only [let_s]
  rw [b4, b25, b26, bnd_s, bnd_s]
  generalize bOr (bOr (bOr (bNot (sEq (sCut a 0 4) (bs [42, 79, 66, 74]))) (hasB t1)) (hasB t2)) (bNot (sEq (sCut a 30 (sLen a)) (bs [0, 0]))) = c
  cases c with
  | true => exact ⟨_, rfl, rfl⟩
  | false =>
    rw [sel_f, sel_f, (nmE_eq _).1, (nmE_eq _).2, bnd_s, bnd_s]
    by_cases hz : nmE (t1, (t2, sAt a 4)) = 0
    · rw [iEq_y hz, nt, sel_f, sel_f]
      have q : F51 (sAt a 25) 1 8 = F35 (sAt a 25) 1 8 := rfl
      rw [q]
      cases F35 (sAt a 25) 1 8 with
      | false => exact ⟨_, rfl, rfl⟩
      | true =>
        rw [nt, sel_f, sel_f, oCut_y (a := 26) (by omega), sel_t, oCut_y (a := 0) (b := 26) (by omega), sel_t, bnd_s, sel_t, s1, s2, bnd_s, bnd_s, hcmp]
        generalize iEq _ _ = d
        cases d <;> exact ⟨_, rfl, rfl⟩
    · rw [iEq_f hz]
      exact ⟨_, rfl, rfl⟩
theorem reads (a : ByteArray) : F3 a = some true := by
  unfold F3
  rw [awake, bnd_s, nt, sel_f]
  by_cases h : 100 < sLen a
  · rw [iLt_y h, sel_t]
  · obtain ⟨r, e1, e2⟩ := in_eq a (by omega)
    rw [iLt_f h, sel_f, e1, e2, bnd_s, bnd_s, iEq_y rfl, iEq_y rfl, iEq_y rfl, sEq_y rfl, sEq_y rfl]
    rfl
end Go.Proofs.YtiddpfhpmodfbaaGreatDoor.K
end

section
set_option linter.unusedVariables false
set_option linter.unusedSimpArgs false
set_option linter.unnecessarySimpa false
open Go Go.Ev
namespace Go.Proofs.YtiddpfhpmodfbaaGreatDoor.K
theorem sOk_n {a b : ByteArray} (h : sLen a + sLen b ≤ 100000) : sOk a b = true := by rw [sOk_t]; omega
theorem sOf_len {l : List Int} (h : ∀ b ∈ l, 0 ≤ b ∧ b < 256) : sLen (sOf l) = l.length := by rw [by_len, by_sOf h]
theorem cut_all {s : ByteArray} {n : Int} (h : sLen s ≤ n) : sCut s 0 n = s := by
  apply by_inj
  rw [by_cut]
  have := by_len s
  rw [List.take_of_length_le (by omega)]
  rfl
theorem padd_eq {s : ByteArray} (h : sLen s ≤ 10) : ∃ r, F132 s = some r ∧ F134 s 10 = some r ∧ sLen r = 10 := by
  have h0 := sLen_nn s
  obtain ⟨k, hk⟩ := Int.eq_ofNat_of_zero_le (show 0 ≤ 10 - sLen s by omega)
  have hr : ∀ b ∈ List.replicate k (32 : Int), 0 ≤ b ∧ b < 256 := by intro b hb; rw [List.eq_of_mem_replicate hb]; decide
  have hlen : sLen (sOf (List.replicate k 32)) = k := by rw [sOf_len hr]; simp
  have e1 : F132 s = some (sAdd s (sOf (List.replicate k 32))) := by
    unfold F132
    rw [sub_n (by omega) (by omega), hk, FRepeat_eq k (by omega), bnd_s, sOk_n (by omega), sel_t]
  refine ⟨_, e1, ?_, by rw [sadd_len, hlen]; omega⟩
  unfold F134
  by_cases h10 : 10 ≤ sLen s
  · rw [iLe_y h10, sel_t, oCut_y (by omega), sel_t, cut_all (by omega)]
    have : k = 0 := by omega
    subst this
    congr 1
    apply by_inj
    rw [by_add, by_sOf hr]
    simp
  · rw [iLe_f h10, sel_f, sub_n (by omega) (by omega), hk, F80_eq k (by omega), bnd_s, sOk_n (by omega), sel_t]
theorem byte1 {t : Int} (h : 0 ≤ t ∧ t < 256) : F133 t 1 = some (sOf [t]) ∧ sOf [iCv .u8 t] = sOf [t] := by
  refine ⟨?_, by rw [cv_u8 h]⟩
  have := F57_eq t 1 h.1 (by decide) (by omega)
  refine this.trans ?_
  show some (sOf ([] ++ [t % 256])) = _
  rw [show t % 256 = t by omega]
  rfl
theorem head_eq (n : NAM) (p : Int) (h : nmE n = 0) (hp : 1 ≤ p ∧ p ≤ 8) : ∃ r, F79 n p = some r ∧ F80 n p = some r ∧ sLen r = 32 := by
  have hn : (nmOK (sBy n.1) = true ∧ nmOK (sBy n.2.1) = true) ∧ (0 ≤ n.2.2 ∧ n.2.2 ≤ 29) := by
    unfold nmE at h
    split at h
    · rename_i h1
      split at h
      · rename_i h2; exact ⟨h1, h2⟩
      · cases h
    · cases h
  have len : ∀ s : ByteArray, nmOK (sBy s) = true → sLen s ≤ 10 := by
    intro s hs
    unfold nmOK at hs
    rw [Bool.and_eq_true, decide_eq_true_eq] at hs
    rw [by_len]
    omega
  obtain ⟨r1, a1, b1, l1⟩ := padd_eq (len _ hn.1.1)
  obtain ⟨r2, a2, b2, l2⟩ := padd_eq (len _ hn.1.2)
  obtain ⟨t1, t2⟩ := byte1 (t := n.2.2) (by omega)
  obtain ⟨p1, p2⟩ := byte1 (t := p) (by omega)
  have lt : sLen (sOf [n.2.2]) = 1 := by rw [sOf_len (by intro b hb; rw [List.mem_singleton] at hb; omega)]; rfl
  have lp : sLen (sOf [p]) = 1 := by rw [sOf_len (by intro b hb; rw [List.mem_singleton] at hb; omega)]; rfl
  have lm : sLen (bs [42, 79, 66, 74]) = 4 := by kernel_rfl
  have lz : sLen (bs [0, 0]) = 2 := by kernel_rfl
  have z2 : F54 0 2 = some (bs [0, 0]) := by kernel_rfl
  have hx : sLen (sAdd (sAdd (sAdd (sAdd (bs [42, 79, 66, 74]) (sOf [n.2.2])) r1) r2) (sOf [p])) = 26 := by
    rw [sadd_len, sadd_len, sadd_len, sadd_len, lt, lp, lm, l1, l2]; decide
  have g1 : sLen (sAdd (bs [42, 79, 66, 74]) (sOf [n.2.2])) = 5 := by rw [sadd_len, lm, lt]; decide
  have g2 : sLen (sAdd (sAdd (bs [42, 79, 66, 74]) (sOf [n.2.2])) r1) = 15 := by rw [sadd_len, g1, l1]; decide
  have g3 : sLen (sAdd (sAdd (sAdd (bs [42, 79, 66, 74]) (sOf [n.2.2])) r1) r2) = 25 := by rw [sadd_len, g2, l2]; decide
  have f79 : F79 n p = bndS (F52 (sAdd (sAdd (sAdd (sAdd (bs [42, 79, 66, 74]) (sOf [n.2.2])) r1) r2) (sOf [p]))) fun y2 => sel (sOk (sAdd (sAdd (sAdd (sAdd (bs [42, 79, 66, 74]) (sOf [n.2.2])) r1) r2) (sOf [p])) y2) (sel (sOk (sAdd (sAdd (sAdd (sAdd (sAdd (bs [42, 79, 66, 74]) (sOf [n.2.2])) r1) r2) (sOf [p])) y2) (bs [0, 0])) (some (sAdd (sAdd (sAdd (sAdd (sAdd (sAdd (bs [42, 79, 66, 74]) (sOf [n.2.2])) r1) r2) (sOf [p])) y2) (bs [0, 0]))) none) none := by
    unfold F79
    rw [t2, p2, a1, a2, sOk_n (by omega), sel_t, bnd_s, sOk_n (by omega), sel_t, bnd_s, sOk_n (by omega), sel_t, sOk_n (by omega), sel_t]
  have f80 : F80 n p = bndS (F135 (sAdd (sAdd (sAdd (sAdd (bs [42, 79, 66, 74]) (sOf [n.2.2])) r1) r2) (sOf [p]))) fun y4 => some y4 := by
    unfold F80
    rw [t1, p1, b1, b2, bnd_s, sOk_n (by omega), sel_t, bnd_s, sOk_n (by omega), sel_t, bnd_s, sOk_n (by omega), sel_t, bnd_s, sOk_n (by omega), sel_t]
  rw [f79, f80]
  clear f79 f80
  generalize sAdd (sAdd (sAdd (sAdd (bs [42, 79, 66, 74]) (sOf [n.2.2])) r1) r2) (sOf [p]) = x at *
  have hxl := by_len x
  obtain ⟨s1, s2⟩ := sum_eq x (by omega)
  have hS := sumE_lt (l := sBy x) (by_byte x)
  unfold F135
  generalize sumE (sBy x) = S at *
  have e4 : F133 S 4 = some (sOf [(S / 16777216) % 256, (S / 65536) % 256, (S / 256) % 256, S % 256]) := by
    refine (F57_eq S 4 hS.1 (by decide) (by omega)).trans ?_
    show some (sOf ((((([] : List Int) ++ [S / 256 / 256 / 256 % 256]) ++ [S / 256 / 256 % 256]) ++ [S / 256 % 256]) ++ [S % 256])) = _
    rw [show S / 256 / 256 / 256 = S / 16777216 by omega, show S / 256 / 256 = S / 65536 by omega]
    rfl
  have l4 : sLen (sOf [(S / 16777216) % 256, (S / 65536) % 256, (S / 256) % 256, S % 256]) = 4 := by
    rw [sOf_len (by intro b hb; simp only [List.mem_cons, List.not_mem_nil, or_false] at hb; omega)]; rfl
  rw [s1, s2, bnd_s, bnd_s, e4, z2, bnd_s]
  generalize sOf [(S / 16777216) % 256, (S / 65536) % 256, (S / 256) % 256, S % 256] = y at *
  have o1 : sOk x y = true := sOk_n (by omega)
  have o2 : sOk (sAdd x y) (bs [0, 0]) = true := sOk_n (by rw [sadd_len]; omega)
  refine ⟨_, by rw [o1, sel_t, o2, sel_t], by rw [o1, sel_t, bnd_s, o2, sel_t, bnd_s], by rw [sadd_len, sadd_len]; omega⟩
end Go.Proofs.YtiddpfhpmodfbaaGreatDoor.K
end

section
set_option linter.unusedVariables false
set_option linter.unusedSimpArgs false
set_option linter.unnecessarySimpa false
open Go Go.Ev
namespace Go.Proofs.YtiddpfhpmodfbaaGreatDoor.K
abbrev SEG := Int × ByteArray
abbrev STO := List SEG × Int
theorem wf_fits {n : Int} (h : (Ty.int .i64).wf n) : fits n := by
  have h : (decide (IntKind.i64.min ≤ n) && decide (n ≤ IntKind.i64.max)) = true := h
  rw [Bool.and_eq_true, decide_eq_true_eq, decide_eq_true_eq] at h
  have h1 : IntKind.i64.min = -9223372036854775808 := by decide
  have h2 : IntKind.i64.max = 9223372036854775807 := by decide
  unfold fits
  omega
theorem lAt_n {α : Type} [Inhabited α] (l : List α) (i : Nat) : lAt l (i : Int) = (l[i]?).getD default := by unfold lAt; rw [Int.toNat_natCast]
theorem lAt_lt {α : Type} [Inhabited α] {l : List α} {i : Nat} (h : i < l.length) : lAt l (i : Int) = l[i] := by rw [lAt_n, List.getElem?_eq_getElem h]; rfl
def fewS (s : STO) : Prop := s.1.length ≤ 12 ∧ ∀ i, i < s.1.length → ¬ 400 < sLen (lAt s.1 (i : Int)).2
def sgE (s : STO) (i : Nat) : Int :=
  if ¬ (1 ≤ (lAt s.1 (i : Int)).1 ∧ (lAt s.1 (i : Int)).1 ≤ s.2 - 1) then 3
  else if 0 < i ∧ (lAt s.1 (i : Int)).1 ≤ (lAt s.1 ((i : Int) - 1)).1 then 14
  else if ¬ sLen (lAt s.1 (i : Int)).2 % 32 = 0 ∨ ¬ (1 ≤ sLen (lAt s.1 (i : Int)).2 / 32 ∧ sLen (lAt s.1 (i : Int)).2 / 32 ≤ 8) then 18 else 0
theorem sLen_le (s : ByteArray) (h : sLen s ≤ 400) : fits (sLen s / 32) := by
  have := sLen_nn s
  unfold fits; omega
theorem rem32 (s : ByteArray) : iRem (sLen s) 32 = sLen s % 32 := by
  unfold iRem; exact Int.tmod_eq_emod_of_nonneg (sLen_nn s)
theorem quo32 (s : ByteArray) (h : sLen s ≤ 400) : iQuo .i64 (sLen s) 32 = sLen s / 32 := by
  unfold iQuo
  rw [Int.tdiv_eq_ediv_of_nonneg (sLen_nn s)]
  exact wrap_fits (sLen_le s h)
theorem B43_eq (s : STO) (i : Nat) (hf : fewS s) (hn : 1 ≤ s.2 ∧ s.2 ≤ 1001) (hi : i < s.1.length) : B58_0 s.1 s.2 s.1 (lLen s.1) i = if sgE s i = 0 then some (.inl (s, (s.1, (lLen s.1, ((i + 1 : Nat) : Int))))) else some (.inr (.inr ((i : Int), sgE s i))) := by
  have h4 := hf.2 i hi
  have hl := hf.1
  unfold B58_0 sgE
  rw [iLt_y (by unfold lLen; omega), oIn_y (by unfold lLen; omega), sel_t, sel_t, sub_n (by omega) (by omega), add_n (by omega) (by omega), rem32, quo32 _ (by omega), sub_n (by omega) (by omega)]
  simp only [let_s, F109, sel_if, not_t, bf_t, and_t, or_t, iLe_t, iLt_t, iEq_t, oNz_t, oIn_t, lLen]
  grind (splits := 40)
theorem B56_eq (s : STO) (i : Nat) (hf : fewS s) (hn : 1 ≤ s.2 ∧ s.2 ≤ 1001) (hi : i < s.1.length) : B114_0 s.1 s.2 i = if sgE s i = 0 then some (.inl (s, ((i + 1 : Nat) : Int))) else some (.inr (.inr ((i : Int), sgE s i))) := by
  have h4 := hf.2 i hi
  have hl := hf.1
  have e66 : F75 (lAt s.1 (i : Int)).2 = some (sLen (lAt s.1 (i : Int)).2 / 32) := by
    unfold F75
    rw [show oNz 32 = true from rfl, sel_t, quo32 _ (by omega)]
  unfold B114_0 sgE
  rw [iLt_y (by unfold lLen; omega), oIn_y (by unfold lLen; omega), sel_t, sel_t, sub_n (by omega) (by omega), add_n (by omega) (by omega), rem32, e66, sub_n (by omega) (by omega), okS_s, valS_s]
  simp only [let_s, F35, sel_if, not_t, bf_t, and_t, or_t, iLe_t, iLt_t, iEq_t, oNz_t, oIn_t, lLen]
  grind (splits := 40)
theorem L43_eq (s : STO) (hf : fewS s) (hn : 1 ≤ s.2 ∧ s.2 ≤ 1001) : (∃ i, i < s.1.length ∧ sgE s i ≠ 0 ∧ (∀ k, k < i → ¬ sgE s k ≠ 0) ∧ L58_0 (s, (s.1, (lLen s.1, 0))) = some (.inr ((i : Int), sgE s i))) ∨ ((∀ i, i < s.1.length → ¬ sgE s i ≠ 0) ∧ L58_0 (s, (s.1, (lLen s.1, 0))) = some (Sum.inl ())) := by
  have hl := hf.1
  refine iter_first (fun i => (s, (s.1, (lLen s.1, (i : Int))))) (fun i => sgE s i ≠ 0) s.1.length (fun i => Sum.inr ((i : Int), sgE s i)) (Sum.inl ()) (by omega) ?_ ?_ ?_
  · intro i hi hp
    show B58_0 s.1 s.2 s.1 (lLen s.1) i = _
    rw [B43_eq s i hf hn hi, if_pos (by simpa using hp)]
  · intro i hi hp
    show B58_0 s.1 s.2 s.1 (lLen s.1) i = _
    rw [B43_eq s i hf hn hi, if_neg hp]
  · show B58_0 s.1 s.2 s.1 (lLen s.1) s.1.length = _
    unfold B58_0
    rw [iLt_f (by unfold lLen; omega), sel_f]
theorem L56_eq (s : STO) (hf : fewS s) (hn : 1 ≤ s.2 ∧ s.2 ≤ 1001) : (∃ i, i < s.1.length ∧ sgE s i ≠ 0 ∧ (∀ k, k < i → ¬ sgE s k ≠ 0) ∧ L114_0 (s, 0) = some (.inr ((i : Int), sgE s i))) ∨ ((∀ i, i < s.1.length → ¬ sgE s i ≠ 0) ∧ L114_0 (s, 0) = some (Sum.inl ())) := by
  have hl := hf.1
  refine iter_first (fun i => (s, (i : Int))) (fun i => sgE s i ≠ 0) s.1.length (fun i => Sum.inr ((i : Int), sgE s i)) (Sum.inl ()) (by omega) ?_ ?_ ?_
  · intro i hi hp
    show B114_0 s.1 s.2 i = _
    rw [B56_eq s i hf hn hi, if_pos (by simpa using hp)]
  · intro i hi hp
    show B114_0 s.1 s.2 i = _
    rw [B56_eq s i hf hn hi, if_neg hp]
  · show B114_0 s.1 s.2 s.1.length = _
    unfold B114_0
    rw [iLt_f (by unfold lLen; omega), sel_f]
def okS0 (s : STO) : Prop := s.1.length ≤ 10 ∧ 1 ≤ s.2 ∧ s.2 ≤ 1001 ∧ ∀ i, i < s.1.length → sgE s i = 0
theorem F43_eq (s : STO) (hf : fewS s) (h2 : fits s.2) : (okS0 s ∧ F58 s = some (0, 0) ∧ F65 s = some 0) ∨ ∃ a c, c ≠ 0 ∧ F58 s = some (a, c) ∧ F65 s = some c := by
  have hl := hf.1
  unfold F58 F65 F114
  by_cases h : 10 < lLen s.1
  · rw [iLt_y h]; exact .inr ⟨0, 2, by decide, rfl, rfl⟩
  rw [iLt_f h]
  by_cases hn : 1 ≤ s.2 ∧ s.2 ≤ 1001
  · have e1 : F109 s.2 1 1001 = true := by unfold F109; rw [and_t, iLe_t, iLe_t]; exact hn
    have e2 : F35 s.2 1 1001 = true := by unfold F35; rw [and_t, iLe_t, iLe_t]; exact hn
    rw [e1, e2]
    simp only [let_s, nt, sel_f]
    rcases L43_eq s hf hn with ⟨i, hi, hp, hk, e⟩ | ⟨hk, e⟩ <;> rcases L56_eq s hf hn with ⟨j, hj, hq, hm, e'⟩ | ⟨hm, e'⟩
    · obtain rfl : i = j := by
        rcases Nat.lt_trichotomy i j with h | h | h
        · exact absurd hp (hm i h)
        · exact h
        · exact absurd hq (hk j h)
      exact .inr ⟨i, sgE s i, hp, by rw [e]; rfl, by rw [e']; rfl⟩
    · exact absurd hp (hm i hi)
    · exact absurd hq (hk j hj)
    · refine .inl ⟨⟨by unfold lLen at h; omega, hn.1, hn.2, fun i hi => Classical.not_not.1 (hk i hi)⟩, by rw [e]; rfl, by rw [e']; rfl⟩
  · have e1 : F109 s.2 1 1001 = false := by rw [bf_t]; unfold F109; rw [and_t, iLe_t, iLe_t]; exact hn
    have e2 : F35 s.2 1 1001 = false := by rw [bf_t]; unfold F35; rw [and_t, iLe_t, iLe_t]; exact hn
    rw [e1, e2]
    exact .inr ⟨0, 3, by decide, rfl, rfl⟩
theorem lApp_nil {α : Type} (l : List α) : lApp [] l = l := rfl
theorem F18_eq (s : STO) (h : s.1.length ≤ 1000000) : F64 s = some s := by
  unfold F64; rw [lCap_y (by decide) (by decide) h]; rfl
def place : List SEG → Int → Int
  | [], _ => -1
  | g :: r, n => if g.1 = n then 0 else if place r n = -1 then -1 else place r n + 1
theorem lAt_succ {α : Type} [Inhabited α] (a : α) (l : List α) (i : Nat) : lAt (a :: l) ((i + 1 : Nat) : Int) = lAt l (i : Int) := by rw [lAt_n, lAt_n, List.getElem?_cons_succ]
theorem place_cases (n : Int) : ∀ l : List SEG, (∃ i, i < l.length ∧ (lAt l (i : Int)).1 = n ∧ (∀ k, k < i → ¬ (lAt l (k : Int)).1 = n) ∧ place l n = (i : Int)) ∨ ((∀ i, i < l.length → ¬ (lAt l (i : Int)).1 = n) ∧ place l n = -1)
  | [] => .inr ⟨fun i h => by simp at h, rfl⟩
  | g :: r => by
    by_cases h : g.1 = n
    · exact .inl ⟨0, by simp, h, fun k hk => by omega, by unfold place; rw [if_pos h]; rfl⟩
    · rcases place_cases n r with ⟨i, h1, h2, h3, h4⟩ | ⟨h1, h2⟩
      · refine .inl ⟨i + 1, by simpa using h1, by rw [lAt_succ]; exact h2, fun k hk => ?_, by unfold place; rw [if_neg h, h4, if_neg (by omega)]; omega⟩
        cases k with
        | zero => exact h
        | succ k => rw [lAt_succ]; exact h3 k (by omega)
      · refine .inr ⟨fun i hi => ?_, by unfold place; rw [if_neg h, if_pos h2]⟩
        cases i with
        | zero => exact h
        | succ k => rw [lAt_succ]; exact h1 k (by simpa using hi)
theorem F83_eq (l : List SEG) (n : Int) (hl : l.length ≤ 1000000) : F142 l n = some (n, place l n) := by
  have hL : (∃ i, i < l.length ∧ (lAt l (i : Int)).1 = n ∧ (∀ k, k < i → ¬ (lAt l (k : Int)).1 = n) ∧ L142_0 (n, (l, (lLen l, 0))) = some (.inr (n, (i : Int)))) ∨ ((∀ i, i < l.length → ¬ (lAt l (i : Int)).1 = n) ∧ L142_0 (n, (l, (lLen l, 0))) = some (.inl n)) := by
    refine iter_first (fun i => (n, (l, (lLen l, (i : Int))))) (fun i => (lAt l (i : Int)).1 = n) l.length (fun i => Sum.inr (n, (i : Int))) (Sum.inl n) (by omega) ?_ ?_ ?_
    · intro i hi hp
      show B142_0 n l (lLen l) i = some (.inl (n, (l, (lLen l, ((i + 1 : Nat) : Int)))))
      unfold B142_0 F148
      rw [iLt_y (by unfold lLen; omega), oIn_y (by unfold lLen; omega), iEq_f hp, add_n (by omega) (by omega)]
      rfl
    · intro i hi hp
      show B142_0 n l (lLen l) i = _
      unfold B142_0 F148
      rw [iLt_y (by unfold lLen; omega), oIn_y (by unfold lLen; omega), iEq_y hp]
      rfl
    · show B142_0 n l (lLen l) l.length = _
      unfold B142_0
      rw [iLt_f (by unfold lLen; omega), sel_f]
  unfold F142
  rcases hL with ⟨i, h1, h2, h3, e⟩ | ⟨h1, e⟩ <;> rcases place_cases n l with ⟨j, k1, k2, k3, k4⟩ | ⟨k1, k4⟩ <;> rw [e, k4]
  · obtain rfl : i = j := by
      rcases Nat.lt_trichotomy i j with h | h | h
      · exact absurd h2 (k3 i h)
      · exact h
      · exact absurd k2 (h3 j h)
    rfl
  · exact absurd h2 (k1 i h1)
  · exact absurd k2 (h1 j k1)
  · rfl
theorem F90_eq (s : STO) (n : Int) (hl : s.1.length ≤ 1000000) : F28 s n = some (place s.1 n) := by
  have hL : (∃ i, i < s.1.length ∧ (lAt s.1 (i : Int)).1 = n ∧ (∀ k, k < i → ¬ (lAt s.1 (k : Int)).1 = n) ∧ L28_0 (n, (s, 0)) = some (.inr (i : Int))) ∨ ((∀ i, i < s.1.length → ¬ (lAt s.1 (i : Int)).1 = n) ∧ L28_0 (n, (s, 0)) = some (Sum.inl ())) := by
    refine iter_first (fun i => (n, (s, (i : Int)))) (fun i => (lAt s.1 (i : Int)).1 = n) s.1.length (fun i => Sum.inr (i : Int)) (Sum.inl ()) (by omega) ?_ ?_ ?_
    · intro i hi hp
      show B28_0 n s.1 s.2 i = some (.inl (n, (s, ((i + 1 : Nat) : Int))))
      unfold B28_0
      rw [iLt_y (by unfold lLen; omega), oIn_y (by unfold lLen; omega), iEq_f hp, add_n (by omega) (by omega)]
      rfl
    · intro i hi hp
      show B28_0 n s.1 s.2 i = _
      unfold B28_0
      rw [iLt_y (by unfold lLen; omega), oIn_y (by unfold lLen; omega), iEq_y hp]
      rfl
    · show B28_0 n s.1 s.2 s.1.length = _
      unfold B28_0
      rw [iLt_f (by unfold lLen; omega), sel_f]
  unfold F28
  rcases hL with ⟨i, h1, h2, h3, e⟩ | ⟨h1, e⟩ <;> rcases place_cases n s.1 with ⟨j, k1, k2, k3, k4⟩ | ⟨k1, k4⟩ <;> rw [e, k4]
  · obtain rfl : i = j := by
      rcases Nat.lt_trichotomy i j with h | h | h
      · exact absurd h2 (k3 i h)
      · exact h
      · exact absurd k2 (h3 j h)
    rfl
  · exact absurd h2 (k1 i h1)
  · exact absurd k2 (h1 j k1)
  · rfl
theorem place_in {l : List SEG} {n : Int} (h : 0 ≤ place l n) : ∃ i, i < l.length ∧ (lAt l (i : Int)).1 = n ∧ (∀ k, k < i → ¬ (lAt l (k : Int)).1 = n) ∧ place l n = (i : Int) := by
  rcases place_cases n l with h' | ⟨_, h'⟩
  · exact h'
  · omega
theorem F66_eq {b : ByteArray} (h : sLen b ≤ 400) : F75 b = some (sLen b / 32) := by
  unfold F75
  rw [show oNz 32 = true from rfl, sel_t, quo32 _ h]
theorem cut_len {α : Type} (l : List α) (i : Nat) (h : i ≤ l.length) : (lCut l 0 (i : Int)).length = i := by
  unfold lCut; rw [Int.toNat_natCast]; simp; omega
theorem cut_at {α : Type} [Inhabited α] (l : List α) (i k : Nat) (h : k < i) : lAt (lCut l 0 (i : Int)) (k : Int) = lAt l (k : Int) := by
  rw [lAt_n, lAt_n]; unfold lCut; rw [Int.toNat_natCast, show (0 : Int).toNat = 0 from rfl, List.drop_zero, List.getElem?_take, if_pos h]
end Go.Proofs.YtiddpfhpmodfbaaGreatDoor.K
end

section
set_option linter.unusedVariables false
set_option linter.unusedSimpArgs false
set_option linter.unnecessarySimpa false
open Go Go.Ev
namespace Go.Proofs.YtiddpfhpmodfbaaGreatDoor.K
abbrev DE := NAM × (Int × Int)
abbrev SYS := STO × (List DE × List (Int × Int))
abbrev OSY := List SEG × (Int × (List DE × List (Int × Int)))
abbrev osy (x : SYS) : OSY := (x.1.1, (x.1.2, x.2))
theorem less_irr : ∀ l : List UInt8, Op.bytesLess l l = false
  | [] => rfl
  | a :: l => by
    unfold Op.bytesLess
    rw [less_irr l]
    have : ¬ a < a := UInt8.lt_irrefl a
    simp
theorem sLt_irr (a : ByteArray) : sLt a a = false := less_irr _
def cmpS (a b : ByteArray) : Int := if sLt a b = true then -1 else if a = b then 0 else 1
theorem F111_eq (a b : ByteArray) : F111 a b = some (cmpS a b) := by
  unfold F111 F159 cmpS
  rw [sEq_y rfl, sEq_y rfl, nt, let_s, let_s, sel_f, sel_f]
  cases h : sLt a b with
  | true => rfl
  | false =>
    rw [sel_f, or_ff, if_neg (by decide)]
    by_cases e : a = b
    · rw [sEq_y e, nt, sel_f, if_pos e]
    · rw [sEq_f e, nf, sel_t, if_neg e]
def cmp3 (a b : Int) : Int := if a < b then -1 else if b < a then 1 else 0
theorem F112_eq (a b : Int) : F112 a b = some (cmp3 a b) := by
  unfold F112 F160 cmp3
  rw [iEq_y rfl, iEq_y rfl, nt, let_s, let_s, sel_f, sel_f]
  by_cases h : a < b
  · rw [iLt_y h, sel_t, if_pos h]
  · rw [iLt_f h, sel_f, if_neg h]
    by_cases h' : b < a
    · rw [iLt_y h', sel_t, if_pos h']
    · rw [iLt_f h', sel_f, if_neg h']
theorem or_first (l : List Int) (hl : l.length ≤ 10) : (∃ i, i < l.length ∧ ¬ lAt l (i : Int) = 0 ∧ (∀ k, k < i → ¬ ¬ lAt l (k : Int) = 0) ∧ F110 l = some (lAt l (i : Int))) ∨ ((∀ i, i < l.length → ¬ ¬ lAt l (i : Int) = 0) ∧ F110 l = some 0) := by
  have hll : lLen l = (l.length : Int) := rfl
  have hL : (∃ i, i < l.length ∧ ¬ lAt l (i : Int) = 0 ∧ (∀ k, k < i → ¬ ¬ lAt l (k : Int) = 0) ∧ L110_0 (0, (l, (lLen l, 0))) = some (.inr (lAt l (i : Int)))) ∨ ((∀ i, i < l.length → ¬ ¬ lAt l (i : Int) = 0) ∧ L110_0 (0, (l, (lLen l, 0))) = some (Sum.inl 0)) := by
    refine iter_first (fun i => (0, (l, (lLen l, (i : Int))))) (fun i => ¬ lAt l (i : Int) = 0) l.length (fun i => Sum.inr (lAt l (i : Int))) (Sum.inl 0) (by omega) ?_ ?_ ?_
    · intro i hi hp
      have hp := Classical.not_not.1 hp
      show B110_0 0 l (lLen l) i = some (.inl (0, (l, (lLen l, ((i + 1 : Nat) : Int)))))
      unfold B110_0
      rw [iLt_y (by omega), sel_t, oIn_y (by omega), sel_t, iEq_y hp, nt, sel_f, add_n (by omega) (by omega)]
      rfl
    · intro i hi hp
      show B110_0 0 l (lLen l) i = _
      unfold B110_0
      rw [iLt_y (by omega), sel_t, oIn_y (by omega), sel_t, iEq_f hp, nf, sel_t]
    · show B110_0 0 l (lLen l) l.length = _
      unfold B110_0
      rw [iLt_f (by omega), sel_f]
  unfold F110
  rcases hL with ⟨i, h1, h2, h3, e⟩ | ⟨h1, e⟩
  · exact .inl ⟨i, h1, h2, h3, by rw [e]; rfl⟩
  · exact .inr ⟨h1, by rw [e]; rfl⟩
theorem or3 (a b c : Int) : F110 [a, b, c] = some (if ¬ a = 0 then a else if ¬ b = 0 then b else c) := by
  rcases or_first [a, b, c] (by show 3 ≤ 10; decide) with ⟨i, h1, h2, h3, e⟩ | ⟨h1, e⟩
  · rw [e]
    have h1 : i < 3 := h1
    rcases i with _ | _ | _ | i
    · have h2 : ¬ a = 0 := h2
      rw [if_pos h2]; rfl
    · have h2 : ¬ b = 0 := h2
      have h3 : ¬ ¬ a = 0 := h3 0 (by omega)
      rw [if_neg h3, if_pos h2]; rfl
    · have h4 : ¬ ¬ b = 0 := h3 1 (by omega)
      have h3 : ¬ ¬ a = 0 := h3 0 (by omega)
      rw [if_neg h3, if_neg h4]; rfl
    · omega
  · have h2 : ¬ ¬ a = 0 := h1 0 (by show 0 < 3; decide)
    have h3 : ¬ ¬ b = 0 := h1 1 (by show 1 < 3; decide)
    have h4 : ¬ ¬ c = 0 := h1 2 (by show 2 < 3; decide)
    rw [e, if_neg h2, if_neg h3]
    congr 1
    exact (Classical.not_not.1 h4).symm
theorem or2 (a b : Int) : F110 [a, b] = some (if ¬ a = 0 then a else b) := by
  rcases or_first [a, b] (by show 2 ≤ 10; decide) with ⟨i, h1, h2, h3, e⟩ | ⟨h1, e⟩
  · rw [e]
    have h1 : i < 2 := h1
    rcases i with _ | _ | i
    · have h2 : ¬ a = 0 := h2
      rw [if_pos h2]; rfl
    · have h3 : ¬ ¬ a = 0 := h3 0 (by omega)
      rw [if_neg h3]; rfl
    · omega
  · have h2 : ¬ ¬ a = 0 := h1 0 (by show 0 < 2; decide)
    have h3 : ¬ ¬ b = 0 := h1 1 (by show 1 < 2; decide)
    rw [e, if_neg h2]
    congr 1
    exact (Classical.not_not.1 h3).symm
theorem order_eq (a b : NAM) : ∃ v c, F59 a b = some v ∧ F115 a b = some c ∧ iLe 0 v = bNot c := by
  unfold F59 F115
  rw [F111_eq, F111_eq, F112_eq, bnd_s, bnd_s, bnd_s, or3, bnd_s]
  refine ⟨_, if ¬ a.1 = b.1 then sLt a.1 b.1 else if ¬ a.2.1 = b.2.1 then sLt a.2.1 b.2.1 else iLt a.2.2 b.2.2, rfl, ?_, ?_⟩
  · by_cases h1 : a.1 = b.1
    · rw [sEq_y h1, nt, sel_f, if_neg (fun h => h h1)]
      by_cases h2 : a.2.1 = b.2.1
      · rw [sEq_y h2, nt, sel_f, if_neg (fun h => h h2)]
      · rw [sEq_f h2, nf, sel_t, if_pos h2]
    · rw [sEq_f h1, nf, sel_t, if_pos h1]
  · unfold cmpS cmp3
    by_cases h1 : a.1 = b.1
    · rw [h1, sLt_irr]
      simp only [Bool.false_eq_true, if_false, if_true, not_true_eq_false]
      by_cases h2 : a.2.1 = b.2.1
      · rw [h2, sLt_irr]
        simp only [Bool.false_eq_true, if_false, if_true, not_true_eq_false]
        by_cases h3 : a.2.2 < b.2.2
        · rw [if_pos h3, iLt_y h3]; rfl
        · rw [if_neg h3, iLt_f h3]
          split <;> rfl
      · rw [if_pos h2]
        cases h3 : sLt a.2.1 b.2.1 with
        | true => rfl
        | false => simp only [Bool.false_eq_true, if_false, if_neg h2]; rfl
    · rw [if_pos h1]
      cases h3 : sLt a.1 b.1 with
      | true => rfl
      | false => simp only [Bool.false_eq_true, if_false, if_neg h1]; rfl
def before (x : SYS) (i : Int) : Bool := (F115 (lAt x.2.1 (i - 1)).1 (lAt x.2.1 i).1).getD false
noncomputable def entE (x : SYS) (i : Nat) : Int :=
  if ¬ nmE (lAt x.2.1 (i : Int)).1 = 0 then nmE (lAt x.2.1 (i : Int)).1
  else if 0 < i ∧ before x i = false then 14
  else if ¬ ((1 ≤ (lAt x.2.1 (i : Int)).2.1 ∧ (lAt x.2.1 (i : Int)).2.1 ≤ x.1.2 - 1) ∧ (0 ≤ (lAt x.2.1 (i : Int)).2.2 ∧ (lAt x.2.1 (i : Int)).2.2 ≤ 3)) then 3
  else open Classical in if ∃ k, k < i ∧ (lAt x.2.1 (k : Int)).2.1 = (lAt x.2.1 (i : Int)).2.1 then 13 else 0
theorem F60_eq (l : List DE) (a b : ByteArray) (c d e : Int) (hl : l.length ≤ 1000) : ∃ q, F60 l a b c d e = some q ∧ (q.2 = true ↔ ∃ k, k < l.length ∧ (lAt l (k : Int)).2.1 = d) := by
  have hll : lLen l = (l.length : Int) := rfl
  have hL : (∃ i, i < l.length ∧ (lAt l (i : Int)).2.1 = d ∧ (∀ k, k < i → ¬ (lAt l (k : Int)).2.1 = d) ∧ L113_0 ((a, (b, (c, (d, e)))), (l, (lLen l, 0))) = some (.inr ((a, (b, (c, (d, e)))), (i : Int)))) ∨ ((∀ i, i < l.length → ¬ (lAt l (i : Int)).2.1 = d) ∧ L113_0 ((a, (b, (c, (d, e)))), (l, (lLen l, 0))) = some (Sum.inl (a, (b, (c, (d, e)))))) := by
    refine iter_first (fun i => ((a, (b, (c, (d, e)))), (l, (lLen l, (i : Int))))) (fun i => (lAt l (i : Int)).2.1 = d) l.length (fun i => Sum.inr ((a, (b, (c, (d, e)))), (i : Int))) (Sum.inl (a, (b, (c, (d, e))))) (by omega) ?_ ?_ ?_
    · intro i hi hp
      show B113_0 a b c d e l (lLen l) i = some (.inl ((a, (b, (c, (d, e)))), (l, (lLen l, ((i + 1 : Nat) : Int)))))
      unfold B113_0 F61
      rw [iLt_y (by omega), sel_t, oIn_y (by omega), sel_t, let_s, iEq_f hp, sel_f, add_n (by omega) (by omega)]
      rfl
    · intro i hi hp
      show B113_0 a b c d e l (lLen l) i = _
      unfold B113_0 F61
      rw [iLt_y (by omega), sel_t, oIn_y (by omega), sel_t, let_s, iEq_y hp, sel_t]
    · show B113_0 a b c d e l (lLen l) l.length = _
      unfold B113_0
      rw [iLt_f (by omega), sel_f]
  unfold F60 F113
  rcases hL with ⟨i, h1, h2, _, e⟩ | ⟨h1, e⟩
  · rw [e]
    refine ⟨_, rfl, ?_⟩
    show iLe 0 (i : Int) = true ↔ _
    rw [iLe_t]
    exact ⟨fun _ => ⟨i, h1, h2⟩, fun _ => by omega⟩
  · rw [e]
    refine ⟨_, rfl, ?_⟩
    show iLe 0 (-1) = true ↔ _
    exact ⟨fun h => (by cases h), fun ⟨k, k1, k2⟩ => absurd k2 (h1 k k1)⟩
theorem L66_eq (l : List DE) (i : Nat) (hi : i < l.length) (hl : l.length ≤ 1000) : ((∃ k, k < i ∧ (lAt l (k : Int)).2.1 = (lAt l (i : Int)).2.1) ∧ L66_0 ((i : Int), (l, 0)) = some (.inr 13)) ∨ ((¬ ∃ k, k < i ∧ (lAt l (k : Int)).2.1 = (lAt l (i : Int)).2.1) ∧ L66_0 ((i : Int), (l, 0)) = some (Sum.inl ())) := by
  have hll : lLen l = (l.length : Int) := rfl
  have hL : (∃ k, k < i ∧ (lAt l (k : Int)).2.1 = (lAt l (i : Int)).2.1 ∧ (∀ j, j < k → ¬ (lAt l (j : Int)).2.1 = (lAt l (i : Int)).2.1) ∧ L66_0 ((i : Int), (l, 0)) = some (.inr 13)) ∨ ((∀ k, k < i → ¬ (lAt l (k : Int)).2.1 = (lAt l (i : Int)).2.1) ∧ L66_0 ((i : Int), (l, 0)) = some (Sum.inl ())) := by
    refine iter_first (fun k => ((i : Int), (l, (k : Int)))) (fun k => (lAt l (k : Int)).2.1 = (lAt l (i : Int)).2.1) i (fun _ => Sum.inr 13) (Sum.inl ()) (by omega) ?_ ?_ ?_
    · intro k hk hp
      show B66_0 i l k = some (.inl ((i : Int), (l, ((k + 1 : Nat) : Int))))
      unfold B66_0
      rw [iLt_y (by omega), sel_t, oIn_y (a := (k : Int)) (by omega), sel_t, oIn_y (a := (i : Int)) (by omega), sel_t, iEq_f hp, sel_f, add_n (by omega) (by omega)]
      rfl
    · intro k hk hp
      show B66_0 i l k = _
      unfold B66_0
      rw [iLt_y (by omega), sel_t, oIn_y (a := (k : Int)) (by omega), sel_t, oIn_y (a := (i : Int)) (by omega), sel_t, iEq_y hp, sel_t]
    · show B66_0 i l i = _
      unfold B66_0
      rw [iLt_f (by omega), sel_f]
  rcases hL with ⟨k, h1, h2, _, e⟩ | ⟨h1, e⟩
  · exact .inl ⟨⟨k, h1, h2⟩, e⟩
  · exact .inr ⟨fun ⟨k, a, b⟩ => h1 k a b, e⟩
theorem ent_eq (x : SYS) (i : Nat) (hi : i < x.2.1.length) (hl : x.2.1.length ≤ 1000) (hn : 1 ≤ x.1.2 ∧ x.1.2 ≤ 1001) : F66 x i = some (entE x i) ∧ B19_0 x.1.1 x.1.2 x.2.1 x.2.2 x.2.1 (lLen x.2.1) i = if entE x i = 0 then some (.inl (osy x, (x.2.1, (lLen x.2.1, ((i + 1 : Nat) : Int))))) else some (.inr (.inr ((i : Int), entE x i))) := by
  have hll : lLen x.2.1 = (x.2.1.length : Int) := rfl
  unfold F66 B19_0
  rw [iLt_y (a := (i : Int)) (by omega), oIn_y (a := (i : Int)) (by omega), sel_t, sel_t, sel_t, (nmE_eq _).1, (nmE_eq _).2, bnd_s, bnd_s]
  unfold entE
  by_cases h0 : nmE (lAt x.2.1 (i : Int)).1 = 0
  rotate_left
  · rw [iEq_f h0, nf, sel_t, sel_f, sel_t, if_pos h0, if_neg h0]
    exact ⟨rfl, rfl⟩
  rw [iEq_y h0, nt, sel_f, sel_t, if_neg (fun h => h h0), h0]
  obtain ⟨v, c, e1, e2, e3⟩ := order_eq (lAt x.2.1 ((i : Int) - 1)).1 (lAt x.2.1 (i : Int)).1
  have hb : before x i = c := by unfold before; rw [e2]; rfl
  rw [hb]
  have o1 : bOr (oIn (iSub .i64 (i : Int) 1) (lLen x.2.1)) (bNot (iLt 0 (i : Int))) = true := by
    rw [sub_n (by omega) (by omega), or_t, oIn_t, not_t, bf_t, iLt_t]; omega
  have q : ∀ a b c : Int, F51 a b c = F35 a b c := fun _ _ _ => rfl
  rw [o1, sub_n (by omega) (by omega), e1, e2]
  simp only [okS_s, or_tt, sel_t, valS_s, let_s, e3, q]
  by_cases hc : 0 < i ∧ c = false
  · have w : bAnd (iLt 0 (i : Int)) (bNot c) = true := by rw [and_t, iLt_t, not_t]; exact ⟨by omega, hc.2⟩
    rw [w, sel_t, if_pos hc]
    exact ⟨rfl, rfl⟩
  have w : bAnd (iLt 0 (i : Int)) (bNot c) = false := by rw [bf_t, and_t, iLt_t, not_t]; intro h; exact hc ⟨by omega, h.2⟩
  rw [w, sel_f, sel_f, if_neg hc]
  rw [sub_n (by omega) (by omega)]
  have p1 : (F35 (lAt x.2.1 (i : Int)).2.1 1 (x.1.2 - 1) = true) = (1 ≤ (lAt x.2.1 (i : Int)).2.1 ∧ (lAt x.2.1 (i : Int)).2.1 ≤ x.1.2 - 1) := by unfold F35; rw [and_t, iLe_t, iLe_t]
  have p2 : (F35 (lAt x.2.1 (i : Int)).2.2 0 3 = true) = (0 ≤ (lAt x.2.1 (i : Int)).2.2 ∧ (lAt x.2.1 (i : Int)).2.2 ≤ 3) := by unfold F35; rw [and_t, iLe_t, iLe_t]
  by_cases h3 : (1 ≤ (lAt x.2.1 (i : Int)).2.1 ∧ (lAt x.2.1 (i : Int)).2.1 ≤ x.1.2 - 1) ∧ (0 ≤ (lAt x.2.1 (i : Int)).2.2 ∧ (lAt x.2.1 (i : Int)).2.2 ≤ 3)
  rotate_left
  · rw [if_pos h3]
    by_cases h4 : 1 ≤ (lAt x.2.1 (i : Int)).2.1 ∧ (lAt x.2.1 (i : Int)).2.1 ≤ x.1.2 - 1
    · have w1 : F35 (lAt x.2.1 (i : Int)).2.1 1 (x.1.2 - 1) = true := p1.mpr h4
      have w2 : F35 (lAt x.2.1 (i : Int)).2.2 0 3 = false := by rw [bf_t, p2]; exact fun h => h3 ⟨h4, h⟩
      rw [w1, w2]
      exact ⟨rfl, rfl⟩
    · have w1 : F35 (lAt x.2.1 (i : Int)).2.1 1 (x.1.2 - 1) = false := by rw [bf_t, p1]; exact h4
      rw [w1]
      exact ⟨rfl, rfl⟩
  · have w1 : F35 (lAt x.2.1 (i : Int)).2.1 1 (x.1.2 - 1) = true := p1.mpr h3.1
    have w2 : F35 (lAt x.2.1 (i : Int)).2.2 0 3 = true := p2.mpr h3.2
    · rw [w1, w2, if_neg (fun h => h h3), nt, or_ff, sel_f, sel_f, sel_f, oCut_y (by omega), sel_t]
      have hcl := cut_len x.2.1 i (by omega)
      obtain ⟨qq, e6, h6⟩ := F60_eq (lCut x.2.1 0 (i : Int)) (lAt x.2.1 (i : Int)).1.1 (lAt x.2.1 (i : Int)).1.2.1 (lAt x.2.1 (i : Int)).1.2.2 (lAt x.2.1 (i : Int)).2.1 (lAt x.2.1 (i : Int)).2.2 (by omega)
      have h6' : qq.2 = true ↔ ∃ k, k < i ∧ (lAt x.2.1 (k : Int)).2.1 = (lAt x.2.1 (i : Int)).2.1 := by
        rw [h6, hcl]
        constructor
        · rintro ⟨k, k1, k2⟩; exact ⟨k, k1, by rw [cut_at _ _ _ k1] at k2; exact k2⟩
        · rintro ⟨k, k1, k2⟩; exact ⟨k, k1, by rw [cut_at _ _ _ k1]; exact k2⟩
      rw [e6, bnd_s]
      rcases L66_eq x.2.1 i hi hl with ⟨k1, e7⟩ | ⟨k1, e7⟩
      · have : (i : Int) = (i : Int) := rfl
        rw [e7, h6'.2 k1, if_pos k1]
        exact ⟨rfl, rfl⟩
      · have hq : qq.2 = false := by rw [bf_t]; exact fun h => k1 (h6'.1 h)
        rw [e7, hq, if_neg k1, add_n (by omega) (by omega)]
        exact ⟨rfl, rfl⟩
end Go.Proofs.YtiddpfhpmodfbaaGreatDoor.K
end

section
set_option linter.unusedVariables false
set_option linter.unusedSimpArgs false
set_option linter.unnecessarySimpa false
open Go Go.Ev
namespace Go.Proofs.YtiddpfhpmodfbaaGreatDoor.K
def hasP (s : STO) (n p : Int) : Prop := 0 ≤ place s.1 n ∧ 0 ≤ p ∧ p ≤ sLen (lAt s.1 (place s.1 n)).2 / 32 - 1
theorem F96_eq {s : STO} (hf : fewS s) (n : Int) : F96 s n = some (if 0 ≤ place s.1 n then ((lAt s.1 (place s.1 n)).2, true) else (bs [], false)) := by
  have hl := hf.1
  unfold F96
  rw [F83_eq _ _ (by omega), bnd_s]
  dsimp only
  rcases place_cases n s.1 with ⟨i, hi, _, _, e⟩ | ⟨_, e⟩
  · rw [e, iLt_f (by omega), sel_f, oIn_y (by unfold lLen; omega), sel_t, if_pos (by omega)]
  · rw [e, iLt_y (by decide), sel_t, if_neg (by decide)]
theorem has_eq {s : STO} (hf : fewS s) (p : Int × Int) : ∃ h, F62 s p = some h ∧ F67 s p.1 p.2 = some h ∧ (h = true ↔ hasP s p.1 p.2) := by
  have hl := hf.1
  have q : ∀ a b c : Int, F51 a b c = F35 a b c := fun _ _ _ => rfl
  unfold F62 F67 hasP
  rw [F96_eq hf, bnd_s, F90_eq _ _ (by omega), bnd_s]
  rcases place_cases p.1 s.1 with ⟨i, hi, _, _, e⟩ | ⟨_, e⟩
  · have h4 := hf.2 i hi
    have h5 := sLen_nn (lAt s.1 (i : Int)).2
    rw [e, if_pos (by omega)]
    dsimp only
    rw [show oNz 32 = true from rfl, or_tt, sel_t, let_s, q, quo32 _ (by omega), sub_n (by omega) (by omega), oIn_y (by unfold lLen; omega), or_tt, sel_t, F66_eq (by omega), okS_s, or_tt, sel_t, valS_s, let_s, let_s, sub_n (by omega) (by omega), iEq_f (by omega), nf]
    refine ⟨_, rfl, rfl, ?_⟩
    rw [and_t]
    unfold F35
    rw [and_t, iLe_t, iLe_t]
    exact ⟨fun h => ⟨by omega, h.2⟩, fun h => ⟨rfl, h.2⟩⟩
  · rw [e, if_neg (by decide)]
    dsimp only
    rw [show oNz 32 = true from rfl, or_tt, sel_t, let_s, iEq_y rfl, nt, nf]
    have w1 : bOr (oIn (-1) (lLen s.1)) true = true := by rw [or_t]; exact .inr rfl
    have w2 : bOr (okS (F75 (lAt s.1 (-1)).2)) true = true := by rw [or_t]; exact .inr rfl
    rw [w1, w2, sel_t, sel_t]
    exact ⟨false, rfl, rfl, ⟨fun h => (by cases h), fun h => absurd h.1 (by decide)⟩⟩
theorem page_order (a b : Int × Int) : ∃ v, F63 a b = some v ∧ iLe 0 v = bNot (F68 b a) := by
  unfold F63 F68
  rw [F112_eq, F112_eq, bnd_s, bnd_s, or2, bnd_s]
  refine ⟨_, rfl, ?_⟩
  rw [Bool.eq_iff_iff, iLe_t, not_t, bf_t, or_t, and_t, iLt_t, iEq_t, iLt_t]
  unfold cmp3
  repeat' split
  all_goals omega
open Classical in
noncomputable def lostE (x : SYS) (i : Nat) : Int :=
  if ¬ hasP x.1 (lAt x.2.2 (i : Int)).1 (lAt x.2.2 (i : Int)).2 then 11
  else if 0 < i ∧ F68 (lAt x.2.2 (i : Int)) (lAt x.2.2 ((i : Int) - 1)) = false then 14 else 0
theorem lost_eq (x : SYS) (i : Nat) (hf : fewS x.1) (hi : i < x.2.2.length) (hl : x.2.2.length ≤ 1000) :
    (B19_3 x.1.1 x.1.2 x.2.1 x.2.2 x.2.2 (lLen x.2.2) i = if lostE x i = 0 then some (.inl (osy x, (x.2.2, (lLen x.2.2, ((i + 1 : Nat) : Int))))) else some (.inr (.inr ((i : Int), lostE x i)))) ∧
    (B21_2 x.1.1 x.1.2 x.2.1 x.2.2 i = if lostE x i = 0 then some (.inl (osy x, ((i + 1 : Nat) : Int))) else some (.inr (.inr ((i : Int), lostE x i)))) := by
  have hll : lLen x.2.2 = (x.2.2.length : Int) := rfl
  obtain ⟨h, e1, e2, e3⟩ := has_eq hf (lAt x.2.2 (i : Int))
  obtain ⟨v, v1, v2⟩ := page_order (lAt x.2.2 ((i : Int) - 1)) (lAt x.2.2 (i : Int))
  unfold B19_3 B21_2
  have e1' : F62 (x.1.1, x.1.2) (lAt x.2.2 (i : Int)) = some h := e1
  have e2' : F67 (x.1.1, x.1.2) (lAt x.2.2 (i : Int)).1 (lAt x.2.2 (i : Int)).2 = some h := e2
  rw [iLt_y (a := (i : Int)) (b := lLen x.2.2) (by omega), sel_t, sel_t, oIn_y (a := (i : Int)) (by omega), sel_t, sel_t, sel_t, e1', e2', bnd_s, bnd_s]
  cases h with
  | false =>
    have hn : ¬ hasP x.1 (lAt x.2.2 (i : Int)).1 (lAt x.2.2 (i : Int)).2 := fun hp => by have := e3.2 hp; cases this
    have hv : lostE x i = 11 := by unfold lostE; rw [if_pos hn]
    rw [nf, sel_t, sel_t, hv]
    exact ⟨rfl, rfl⟩
  | true =>
    have hp := e3.1 rfl
    have o1 : bOr (oIn ((i : Int) - 1) (lLen x.2.2)) (bNot (iLt 0 (i : Int))) = true := by
      rw [or_t, oIn_t, not_t, bf_t, iLt_t]; omega
    have hnn : ¬ ¬ hasP x.1 (lAt x.2.2 (i : Int)).1 (lAt x.2.2 (i : Int)).2 := fun h => h hp
    rw [nt, sel_f, sel_f, sub_n (by omega) (by omega), o1, v1]
    simp only [okS_s, or_tt, sel_t, valS_s, let_s, v2]
    by_cases hc : 0 < i ∧ F68 (lAt x.2.2 (i : Int)) (lAt x.2.2 ((i : Int) - 1)) = false
    · have w : bAnd (iLt 0 (i : Int)) (bNot (F68 (lAt x.2.2 (i : Int)) (lAt x.2.2 ((i : Int) - 1)))) = true := by rw [and_t, iLt_t, not_t]; exact ⟨by omega, hc.2⟩
      have hv : lostE x i = 14 := by unfold lostE; rw [if_neg hnn, if_pos hc]
      rw [w, sel_t, sel_t, hv]
      exact ⟨rfl, rfl⟩
    · have w : bAnd (iLt 0 (i : Int)) (bNot (F68 (lAt x.2.2 (i : Int)) (lAt x.2.2 ((i : Int) - 1)))) = false := by rw [bf_t, and_t, iLt_t, not_t]; intro h; exact hc ⟨by omega, h.2⟩
      have hv : lostE x i = 0 := by unfold lostE; rw [if_neg hnn, if_neg hc]
      rw [w, sel_f, sel_f, hv, add_n (by omega) (by omega)]
      exact ⟨rfl, rfl⟩
def fewX (x : SYS) : Prop := fewS x.1 ∧ x.2.1.length ≤ 14 ∧ x.2.2.length ≤ 100
structure okX (x : SYS) : Prop where
  st : okS0 x.1
  dir : x.2.1.length ≤ 12
  ent : ∀ i, i < x.2.1.length → entE x i = 0
  los : ∀ i, i < x.2.2.length → lostE x i = 0
theorem first_uniq {p : Nat → Prop} {i j : Nat} (h1 : p i) (h2 : ∀ k, k < i → ¬ p k) (h3 : p j) (h4 : ∀ k, k < j → ¬ p k) : i = j := by
  rcases Nat.lt_trichotomy i j with h | h | h
  · exact absurd h1 (h4 i h)
  · exact h
  · exact absurd h3 (h2 j h)
theorem dir_two (x : SYS) (hl : x.2.1.length ≤ 1000) (hn : 1 ≤ x.1.2 ∧ x.1.2 ≤ 1001) : (∃ i, i < x.2.1.length ∧ entE x i ≠ 0 ∧ L19_0 (osy x, (x.2.1, (lLen x.2.1, 0))) = some (.inr ((i : Int), entE x i)) ∧ L21_0 (osy x, 0) = some (.inr ((i : Int), entE x i))) ∨ ((∀ i, i < x.2.1.length → entE x i = 0) ∧ L19_0 (osy x, (x.2.1, (lLen x.2.1, 0))) = some (.inl (osy x)) ∧ L21_0 (osy x, 0) = some (.inl (osy x))) := by
  have hll : lLen x.2.1 = (x.2.1.length : Int) := rfl
  have hA : (∃ i, i < x.2.1.length ∧ entE x i ≠ 0 ∧ (∀ k, k < i → ¬ entE x k ≠ 0) ∧ L19_0 (osy x, (x.2.1, (lLen x.2.1, 0))) = some (.inr ((i : Int), entE x i))) ∨ ((∀ i, i < x.2.1.length → ¬ entE x i ≠ 0) ∧ L19_0 (osy x, (x.2.1, (lLen x.2.1, 0))) = some (.inl (osy x))) := by
    refine iter_first (fun i => (osy x, (x.2.1, (lLen x.2.1, (i : Int))))) (fun i => entE x i ≠ 0) x.2.1.length (fun i => Sum.inr ((i : Int), entE x i)) (Sum.inl (osy x)) (by omega) ?_ ?_ ?_
    · intro i hi hp
      show B19_0 x.1.1 x.1.2 x.2.1 x.2.2 x.2.1 (lLen x.2.1) i = _
      rw [(ent_eq x i hi hl hn).2, if_pos (Classical.not_not.1 hp)]
    · intro i hi hp
      show B19_0 x.1.1 x.1.2 x.2.1 x.2.2 x.2.1 (lLen x.2.1) i = _
      rw [(ent_eq x i hi hl hn).2, if_neg hp]
    · show B19_0 x.1.1 x.1.2 x.2.1 x.2.2 x.2.1 (lLen x.2.1) x.2.1.length = _
      unfold B19_0
      rw [iLt_f (by omega), sel_f]
  have hB : (∃ i, i < x.2.1.length ∧ entE x i ≠ 0 ∧ (∀ k, k < i → ¬ entE x k ≠ 0) ∧ L21_0 (osy x, 0) = some (.inr ((i : Int), entE x i))) ∨ ((∀ i, i < x.2.1.length → ¬ entE x i ≠ 0) ∧ L21_0 (osy x, 0) = some (.inl (osy x))) := by
    refine iter_first (fun i => (osy x, (i : Int))) (fun i => entE x i ≠ 0) x.2.1.length (fun i => Sum.inr ((i : Int), entE x i)) (Sum.inl (osy x)) (by omega) ?_ ?_ ?_
    · intro i hi hp
      show B21_0 x.1.1 x.1.2 x.2.1 x.2.2 i = some (.inl (osy x, ((i + 1 : Nat) : Int)))
      unfold B21_0
      rw [iLt_y (by omega), sel_t]
      show bndS (F66 x (i : Int)) _ = _
      rw [(ent_eq x i hi hl hn).1, bnd_s, iEq_y (Classical.not_not.1 hp), nt, sel_f, add_n (by omega) (by omega)]
      rfl
    · intro i hi hp
      show B21_0 x.1.1 x.1.2 x.2.1 x.2.2 i = _
      unfold B21_0
      rw [iLt_y (by omega), sel_t]
      show bndS (F66 x (i : Int)) _ = _
      rw [(ent_eq x i hi hl hn).1, bnd_s, iEq_f hp, nf, sel_t]
    · show B21_0 x.1.1 x.1.2 x.2.1 x.2.2 x.2.1.length = _
      unfold B21_0
      rw [iLt_f (by omega), sel_f]
  rcases hA with ⟨i, i1, i2, i3, e⟩ | ⟨i1, e⟩ <;> rcases hB with ⟨j, j1, j2, j3, e'⟩ | ⟨j1, e'⟩
  · obtain rfl := first_uniq i2 i3 j2 j3
    exact .inl ⟨i, i1, i2, e, e'⟩
  · exact absurd i2 (j1 i i1)
  · exact absurd j2 (i1 j j1)
  · exact .inr ⟨fun i hi => Classical.not_not.1 (i1 i hi), e, e'⟩
theorem lost_two (x : SYS) (hf : fewS x.1) (hl : x.2.2.length ≤ 1000) : (∃ i, i < x.2.2.length ∧ lostE x i ≠ 0 ∧ L19_3 (osy x, (x.2.2, (lLen x.2.2, 0))) = some (.inr ((i : Int), lostE x i)) ∧ L21_2 (osy x, 0) = some (.inr ((i : Int), lostE x i))) ∨ ((∀ i, i < x.2.2.length → lostE x i = 0) ∧ L19_3 (osy x, (x.2.2, (lLen x.2.2, 0))) = some (Sum.inl ()) ∧ L21_2 (osy x, 0) = some (Sum.inl ())) := by
  have hll : lLen x.2.2 = (x.2.2.length : Int) := rfl
  have hA : (∃ i, i < x.2.2.length ∧ lostE x i ≠ 0 ∧ (∀ k, k < i → ¬ lostE x k ≠ 0) ∧ L19_3 (osy x, (x.2.2, (lLen x.2.2, 0))) = some (.inr ((i : Int), lostE x i))) ∨ ((∀ i, i < x.2.2.length → ¬ lostE x i ≠ 0) ∧ L19_3 (osy x, (x.2.2, (lLen x.2.2, 0))) = some (Sum.inl ())) := by
    refine iter_first (fun i => (osy x, (x.2.2, (lLen x.2.2, (i : Int))))) (fun i => lostE x i ≠ 0) x.2.2.length (fun i => Sum.inr ((i : Int), lostE x i)) (Sum.inl ()) (by omega) ?_ ?_ ?_
    · intro i hi hp
      show B19_3 x.1.1 x.1.2 x.2.1 x.2.2 x.2.2 (lLen x.2.2) i = _
      rw [(lost_eq x i hf hi hl).1, if_pos (Classical.not_not.1 hp)]
    · intro i hi hp
      show B19_3 x.1.1 x.1.2 x.2.1 x.2.2 x.2.2 (lLen x.2.2) i = _
      rw [(lost_eq x i hf hi hl).1, if_neg hp]
    · show B19_3 x.1.1 x.1.2 x.2.1 x.2.2 x.2.2 (lLen x.2.2) x.2.2.length = _
      unfold B19_3
      rw [iLt_f (by omega), sel_f]
  have hB : (∃ i, i < x.2.2.length ∧ lostE x i ≠ 0 ∧ (∀ k, k < i → ¬ lostE x k ≠ 0) ∧ L21_2 (osy x, 0) = some (.inr ((i : Int), lostE x i))) ∨ ((∀ i, i < x.2.2.length → ¬ lostE x i ≠ 0) ∧ L21_2 (osy x, 0) = some (Sum.inl ())) := by
    refine iter_first (fun i => (osy x, (i : Int))) (fun i => lostE x i ≠ 0) x.2.2.length (fun i => Sum.inr ((i : Int), lostE x i)) (Sum.inl ()) (by omega) ?_ ?_ ?_
    · intro i hi hp
      show B21_2 x.1.1 x.1.2 x.2.1 x.2.2 i = _
      rw [(lost_eq x i hf hi hl).2, if_pos (Classical.not_not.1 hp)]
    · intro i hi hp
      show B21_2 x.1.1 x.1.2 x.2.1 x.2.2 i = _
      rw [(lost_eq x i hf hi hl).2, if_neg hp]
    · show B21_2 x.1.1 x.1.2 x.2.1 x.2.2 x.2.2.length = _
      unfold B21_2
      rw [iLt_f (by omega), sel_f]
  rcases hA with ⟨i, i1, i2, i3, e⟩ | ⟨i1, e⟩ <;> rcases hB with ⟨j, j1, j2, j3, e'⟩ | ⟨j1, e'⟩
  · obtain rfl := first_uniq i2 i3 j2 j3
    exact .inl ⟨i, i1, i2, e, e'⟩
  · exact absurd i2 (j1 i i1)
  · exact absurd j2 (i1 j j1)
  · exact .inr ⟨fun i hi => Classical.not_not.1 (i1 i hi), e, e'⟩
end Go.Proofs.YtiddpfhpmodfbaaGreatDoor.K
end

section
set_option linter.unusedVariables false
set_option linter.unusedSimpArgs false
set_option linter.unnecessarySimpa false
open Go Go.Ev
namespace Go.Proofs.YtiddpfhpmodfbaaGreatDoor.K
abbrev PG := Int × Int
abbrev PA := Array PG
def ltP (a b : PG) : Bool := decide (a.1 < b.1 ∨ (a.1 = b.1 ∧ a.2 < b.2))
theorem F63_lt (a b : PG) : ∃ v, F63 a b = some v ∧ iLt v 0 = ltP a b := by
  unfold F63
  rw [F112_eq, F112_eq, bnd_s, bnd_s, or2, bnd_s]
  refine ⟨_, rfl, ?_⟩
  rw [Bool.eq_iff_iff, iLt_t]
  unfold ltP cmp3
  rw [decide_eq_true_eq]
  repeat' split
  all_goals omega
theorem swoP : Go.Sort.SWO ltP where
  irrefl x := by unfold ltP; rw [decide_eq_false_iff_not]; omega
  trans x y z h1 h2 := by unfold ltP at *; rw [decide_eq_true_eq] at *; omega
  ntrans x y z h1 h2 := by unfold ltP at *; rw [decide_eq_false_iff_not] at *; omega
theorem totP (x y : PG) (h1 : ltP x y = false) (h2 : ltP y x = false) : x = y := by
  unfold ltP at *
  rw [decide_eq_false_iff_not] at *
  exact Prod.ext (by omega) (by omega)
def vF (a b : PG) : Int := valS (F63 a b) 0
theorem vF_eq (a b : PG) : F63 a b = some (vF a b) := by obtain ⟨v, h, _⟩ := F63_lt a b; unfold vF; rw [h]; rfl
theorem vF_lt (a b : PG) : iLt (vF a b) 0 = ltP a b := by obtain ⟨v, h, h2⟩ := F63_lt a b; unfold vF; rw [h]; exact h2
theorem gcmp {β : Type} {c g1 g2 : Bool} {p q : PG} {k : Int → Option β} (h1 : bOr g1 (bNot c) = true) (h2 : bOr g2 (bNot c) = true) :
    sel (bOr g1 (bNot c)) (sel (bOr g2 (bNot c)) (sel (bOr (okS (F63 p q)) (bNot c)) (letS (valS (F63 p q) 0) k) none) none) none = k (vF p q) := by
  rw [h1, h2, sel_t, sel_t, vF_eq, okS_s, or_tt, sel_t]
  rfl
theorem bcmp {β : Type} {p q : PG} {k : Int → Option β} : bndS (F63 p q) k = k (vF p q) := by rw [vF_eq, bnd_s]
theorem or_imp {g c : Bool} (h : c = true → g = true) : bOr g (bNot c) = true := by
  cases c
  · cases g <;> rfl
  · rw [h rfl]; rfl
theorem at_d (d : PA) (i : Nat) : lAt d.toList (i : Int) = d[i]! := by
  rw [lAt_n]
  by_cases h : i < d.size
  · rw [getElem!_pos d i h, List.getElem?_eq_getElem (by simpa using h)]; simp
  · rw [getElem!_neg d i h, List.getElem?_eq_none (by simpa using h)]; rfl
theorem len_d (d : PA) : lLen d.toList = (d.size : Int) := by unfold lLen; simp
theorem swp_d (d : PA) (i j : Nat) : lSet (lSet d.toList (i : Int) d[j]!) (j : Int) d[i]! = (Go.Sort.swp d i j).toList := by
  unfold lSet Go.Sort.swp
  rw [Int.toNat_natCast, Int.toNat_natCast]
  simp
theorem oin_d {d : PA} {i : Nat} (h : i < d.size) : oIn (i : Int) (lLen d.toList) = true := oIn_y (by rw [len_d]; omega)
theorem oin_s {d : PA} {i : Nat} {x : PG} {k : Int} (h : i < d.size) : oIn (i : Int) (lLen (lSet d.toList k x)) = true := by rw [set_len]; exact oin_d h
theorem subN {a b : Nat} (h : b ≤ a) (ha : a ≤ 100000) : iSub .i64 (a : Int) (b : Int) = ((a - b : Nat) : Int) := by rw [sub_n (by omega) (by omega)]; omega
theorem sub1 {a : Nat} (h : 1 ≤ a) (ha : a ≤ 100000) : iSub .i64 (a : Int) 1 = ((a - 1 : Nat) : Int) := subN (b := 1) h ha
theorem addN {a b : Nat} (h : a ≤ 100000) (hb : b ≤ 100000) : iAdd .i64 (a : Int) (b : Int) = ((a + b : Nat) : Int) := by rw [add_n (by omega) (by omega)]; omega
theorem add1 {a : Nat} (h : a ≤ 100000) : iAdd .i64 (a : Int) 1 = ((a + 1 : Nat) : Int) := addN (b := 1) h (by decide)
theorem ltN (a b : Nat) : iLt (a : Int) (b : Int) = decide (a < b) := by unfold iLt; exact decide_eq_decide.2 (by omega)
theorem leN (a b : Nat) : iLe (a : Int) (b : Int) = decide (a ≤ b) := by unfold iLe; exact decide_eq_decide.2 (by omega)
theorem eqN (a b : Nat) : iEq (a : Int) (b : Int) = decide (a = b) := by rw [Bool.eq_iff_iff, iEq_t, decide_eq_true_eq]; omega
theorem b1662 {a b i j : Nat} {d : PA} (hj : j < d.size) (hd : d.size ≤ 1000) : B166_2 d.toList a b i j = if (decide (j > a) && ltP d[j]! d[j - 1]!) = true then some (.inl ((Go.Sort.swp d j (j - 1)).toList, ((a : Int), ((b : Int), ((i : Int), ((j - 1 : Nat) : Int)))))) else some (.inr (d.toList, ((a : Int), ((b : Int), (i : Int))))) := by
  unfold B166_2
  rw [gcmp]
  · rw [vF_lt]
    by_cases hc : a < j
    · rw [sub1 (by omega) (by omega), at_d, at_d, iLt_y (by omega), at_ft, decide_eq_true hc, Bool.true_and]
      cases hl : ltP d[j]! d[j - 1]! with
      | true => rw [sel_t, oin_d (by omega), oin_d hj, oin_s (by omega), sel_t, sel_t, sel_t, sel_t, if_pos rfl, swp_d]
      | false => rw [sel_f, if_neg (by decide)]
    · rw [iLt_f (by omega), at_ff, sel_f, decide_eq_false hc, Bool.false_and, if_neg (by decide)]
  · exact or_imp fun h => oin_d hj
  · refine or_imp fun h => ?_
    rw [iLt_t] at h
    rw [sub1 (by omega) (by omega)]
    exact oin_d (by omega)
theorem l1662 {a b i : Nat} : ∀ (j : Nat) (d : PA) (n : Nat), j < d.size → d.size ≤ 1000 → j < n → iter (fun (x : ((List PG) × (Int × (Int × (Int × Int))))) => (B166_2 x.1 x.2.1 x.2.2.1 x.2.2.2.1 x.2.2.2.2)) n (d.toList, ((a : Int), ((b : Int), ((i : Int), (j : Int))))) = some ((Go.Sort.insInner ltP a j d).toList, ((a : Int), ((b : Int), (i : Int))))
  | 0, d, n, hj, hd, hn => by
    obtain ⟨n, rfl⟩ : ∃ q, n = q + 1 := ⟨n - 1, by omega⟩
    refine iter_e ?_
    show B166_2 d.toList a b i ((0 : Nat) : Int) = _
    rw [b1662 hj hd, decide_eq_false (by omega), Bool.false_and, if_neg (by decide)]
    rfl
  | j + 1, d, n, hj, hd, hn => by
    obtain ⟨n, rfl⟩ : ∃ q, n = q + 1 := ⟨n - 1, by omega⟩
    have hb := b1662 (a := a) (b := b) (i := i) hj hd
    have hi : Go.Sort.insInner ltP a (j + 1) d = if (decide (j + 1 > a) && ltP d[j + 1]! d[j]!) = true then Go.Sort.insInner ltP a j (Go.Sort.swp d (j + 1) j) else d := rfl
    rw [Nat.add_sub_cancel] at hb
    by_cases hc : (decide (j + 1 > a) && ltP d[j + 1]! d[j]!) = true
    · rw [if_pos hc] at hb hi
      rw [iter_s (B := fun (x : ((List PG) × (Int × (Int × (Int × Int))))) => (B166_2 x.1 x.2.1 x.2.2.1 x.2.2.2.1 x.2.2.2.2)) hb, hi]
      exact l1662 j _ n (by rw [Go.Sort.size_swp]; omega) (by rw [Go.Sort.size_swp]; omega) (by omega)
    · rw [if_neg hc] at hb hi
      rw [hi]
      exact iter_e hb
theorem l1660 {a b : Nat} : ∀ (k i : Nat) (d : PA) (n : Nat), b - i = k → b ≤ d.size → d.size ≤ 1000 → k < n → iter (fun (x : ((List PG) × (Int × (Int × Int)))) => (B166_0 x.1 x.2.1 x.2.2.1 x.2.2.2)) n (d.toList, ((a : Int), ((b : Int), (i : Int)))) = some ((Go.Sort.insOuter ltP a b i d).toList)
  | 0, i, d, n, hk, hb, hd, hn => by
    obtain ⟨n, rfl⟩ : ∃ q, n = q + 1 := ⟨n - 1, by omega⟩
    refine iter_e ?_
    show B166_0 d.toList a b i = _
    unfold B166_0
    rw [iLt_f (by omega), sel_f, Go.Sort.insOuter, if_neg (by omega)]
  | k + 1, i, d, n, hk, hb, hd, hn => by
    obtain ⟨n, rfl⟩ : ∃ q, n = q + 1 := ⟨n - 1, by omega⟩
    have h : B166_0 d.toList a b i = some (.inl ((Go.Sort.insInner ltP a i d).toList, ((a : Int), ((b : Int), ((i + 1 : Nat) : Int))))) := by
      unfold B166_0
      rw [iLt_y (by omega), sel_t]
      show bndS (iter _ fuel _) _ = _
      rw [l1662 i d fuel (by omega) hd (by unfold fuel; omega), bnd_s]
      dsimp only
      rw [add1 (by omega)]
    rw [iter_s (B := fun (x : ((List PG) × (Int × (Int × Int)))) => (B166_0 x.1 x.2.1 x.2.2.1 x.2.2.2)) h, Go.Sort.insOuter, if_pos (by omega)]
    have hs : (Go.Sort.insInner ltP a i d).size = d.size := by
      have : ∀ (j : Nat) (d : PA), (Go.Sort.insInner ltP a j d).size = d.size := fun j => by
        induction j with
        | zero => intro d; rfl
        | succ j ih =>
          intro d
          show (if (decide (j + 1 > a) && ltP d[j + 1]! d[j]!) = true then Go.Sort.insInner ltP a j (Go.Sort.swp d (j + 1) j) else d).size = _
          split
          · rw [ih, Go.Sort.size_swp]
          · rfl
      exact this i d
    exact l1660 k (i + 1) _ n (by omega) (by omega) (by omega) (by omega)
theorem F166_eq {a b : Nat} {d : PA} (hb : b ≤ d.size) (hd : d.size ≤ 1000) (ha : a ≤ 1000) : F166 d.toList a b = some (Go.Sort.insertionSort ltP d a b).toList := by
  unfold F166
  rw [add1 (by omega)]
  show bndS (iter _ fuel _) _ = _
  rw [l1660 (b - (a + 1)) (a + 1) d fuel rfl hb hd (by unfold fuel; omega), bnd_s]
  rfl
theorem l190 {hi F : Nat} : ∀ (k root : Nat) (d : PA) (n : Nat), hi - root ≤ k → F + hi ≤ d.size → d.size ≤ 1000 → k < n → root ≤ 1000 → ∃ r, iter (fun (x : ((List PG) × (Int × (Int × Int)))) => (B190_0 x.1 x.2.1 x.2.2.1 x.2.2.2)) n (d.toList, ((hi : Int), ((F : Int), (root : Int)))) = some r ∧ (r = .inl (Go.Sort.siftDown ltP hi F root d).toList ∨ r = .inr (Go.Sort.siftDown ltP hi F root d).toList) := by
  intro k
  induction k with
  | zero =>
    intro root d n hk hF hd hn hr
    obtain ⟨n, rfl⟩ : ∃ q, n = q + 1 := ⟨n - 1, by omega⟩
    have m1 : iMul .i64 2 (root : Int) = ((2 * root : Nat) : Int) := by rw [mul_n (by omega) (by omega)]; omega
    refine ⟨.inr d.toList, iter_e ?_, .inr ?_⟩
    · show B190_0 d.toList hi F root = _
      unfold B190_0
      rw [m1, add1 (by omega), leN, decide_eq_true (by omega), sel_t]
    · rw [Go.Sort.siftDown, dif_pos (by omega)]
  | succ k ih =>
    intro root d n hk hF hd hn hr
    obtain ⟨n, rfl⟩ : ∃ q, n = q + 1 := ⟨n - 1, by omega⟩
    have m1 : iMul .i64 2 (root : Int) = ((2 * root : Nat) : Int) := by rw [mul_n (by omega) (by omega)]; omega
    by_cases h1 : 2 * root + 1 ≥ hi
    · refine ⟨.inr d.toList, iter_e ?_, .inr ?_⟩
      · show B190_0 d.toList hi F root = _
        unfold B190_0
        rw [m1, add1 (by omega), leN, decide_eq_true (by omega), sel_t]
      · rw [Go.Sort.siftDown, dif_pos h1]
    have hB : ∀ c : Nat, c = (if (decide (2 * root + 1 + 1 < hi) && ltP d[F + (2 * root + 1)]! d[F + (2 * root + 1) + 1]!) = true then 2 * root + 1 + 1 else 2 * root + 1) → B190_0 d.toList hi F root = if (!ltP d[F + root]! d[F + c]!) = true then some (.inr (.inl d.toList)) else some (.inl ((Go.Sort.swp d (F + root) (F + c)).toList, ((hi : Int), ((F : Int), (c : Int))))) := by
      intro c hc
      have hch : c < hi := by
        rw [hc]; split
        · rename_i h; rw [Bool.and_eq_true, decide_eq_true_eq] at h; omega
        · omega
      have a0 : iAdd .i64 (((2 * root : Nat) : Int)) 1 = ((2 * root + 1 : Nat) : Int) := add1 (by omega)
      have a1 : iAdd .i64 (F : Int) ((2 * root + 1 : Nat) : Int) = ((F + (2 * root + 1) : Nat) : Int) := addN (by omega) (by omega)
      have a2 : iAdd .i64 ((F + (2 * root + 1) : Nat) : Int) 1 = ((F + (2 * root + 1) + 1 : Nat) : Int) := add1 (by omega)
      have a3 : iAdd .i64 ((2 * root + 1 : Nat) : Int) 1 = ((2 * root + 1 + 1 : Nat) : Int) := add1 (by omega)
      have a4 : iAdd .i64 (F : Int) (root : Int) = ((F + root : Nat) : Int) := addN (by omega) (by omega)
      have a5 : iAdd .i64 (F : Int) (c : Int) = ((F + c : Nat) : Int) := addN (by omega) (by omega)
      unfold B190_0
      rw [m1, a0, a1, a2, a3, a4, leN, decide_eq_false (by omega), sel_f, gcmp]
      · rw [vF_lt, at_d, at_d, at_d, ltN]
        have es : sel (bAnd (decide (2 * root + 1 + 1 < hi)) (ltP d[F + (2 * root + 1)]! d[F + (2 * root + 1) + 1]!)) (((2 * root + 1 + 1 : Nat) : Int)) (((2 * root + 1 : Nat) : Int)) = (c : Int) := by
          rw [and_b, sel_if, hc]
          split <;> rfl
        rw [es, a5, oin_d (by omega), oin_d (by omega), sel_t, sel_t, at_d, bcmp, vF_lt, oin_s (by omega), sel_t, sel_t, sel_t, sel_t, swp_d]
        cases ltP d[F + root]! d[F + c]! with
        | true => rw [nt, sel_f, if_neg (by decide)]
        | false => rw [nf, sel_t, if_pos (by decide)]
      · exact or_imp fun h => oin_d (by omega)
      · rw [ltN]
        exact or_imp fun h => by rw [decide_eq_true_eq] at h; exact oin_d (by omega)
    have hs := fun i j => Go.Sort.size_swp d i j
    by_cases h2 : (decide (2 * root + 1 + 1 < hi) && ltP d[F + (2 * root + 1)]! d[F + (2 * root + 1) + 1]!) = true
    · have hb := hB (2 * root + 2) (by rw [if_pos h2])
      have h22 : 2 * root + 2 < hi := by rw [Bool.and_eq_true, decide_eq_true_eq] at h2; omega
      by_cases h3 : (!ltP d[F + root]! d[F + (2 * root + 2)]!) = true
      · rw [if_pos h3] at hb
        refine ⟨_, iter_e hb, .inl ?_⟩
        rw [Go.Sort.siftDown, dif_neg h1, if_pos h2, if_pos h3]
      · rw [if_neg h3] at hb
        have e : Go.Sort.siftDown ltP hi F root d = Go.Sort.siftDown ltP hi F (2 * root + 2) (Go.Sort.swp d (F + root) (F + (2 * root + 2))) := by
          rw [Go.Sort.siftDown, dif_neg h1, if_pos h2, if_neg h3, dif_pos h22]
        rw [iter_s (B := fun (x : ((List PG) × (Int × (Int × Int)))) => (B190_0 x.1 x.2.1 x.2.2.1 x.2.2.2)) (x := (d.toList, ((hi : Int), ((F : Int), (root : Int))))) hb, e]
        exact ih (2 * root + 2) _ n (by omega) (by rw [hs]; exact hF) (by rw [hs]; exact hd) (by omega) (by omega)
    · have hb := hB (2 * root + 1) (by rw [if_neg h2])
      by_cases h3 : (!ltP d[F + root]! d[F + (2 * root + 1)]!) = true
      · rw [if_pos h3] at hb
        refine ⟨_, iter_e hb, .inl ?_⟩
        rw [Go.Sort.siftDown, dif_neg h1, if_neg h2, if_pos h3]
      · rw [if_neg h3] at hb
        have e : Go.Sort.siftDown ltP hi F root d = Go.Sort.siftDown ltP hi F (2 * root + 1) (Go.Sort.swp d (F + root) (F + (2 * root + 1))) := by
          rw [Go.Sort.siftDown, dif_neg h1, if_neg h2, if_neg h3]
        rw [iter_s (B := fun (x : ((List PG) × (Int × (Int × Int)))) => (B190_0 x.1 x.2.1 x.2.2.1 x.2.2.2)) (x := (d.toList, ((hi : Int), ((F : Int), (root : Int))))) hb, e]
        exact ih (2 * root + 1) _ n (by omega) (by rw [hs]; exact hF) (by rw [hs]; exact hd) (by omega) (by omega)
theorem F190_eq {hi F root : Nat} {d : PA} (hF : F + hi ≤ d.size) (hd : d.size ≤ 1000) (hr : root ≤ 1000) : F190 d.toList root hi F = some (Go.Sort.siftDown ltP hi F root d).toList := by
  obtain ⟨r, h1, h2⟩ := l190 (hi := hi) (F := F) (hi - root) root d fuel (Nat.le_refl _) hF hd (by unfold fuel; omega) hr
  unfold F190
  show bndS (iter _ fuel _) _ = _
  rw [h1, bnd_s]
  rcases h2 with rfl | rfl <;> rfl
theorem sift_size {hi F : Nat} : ∀ (k root : Nat) (d : PA), hi - root ≤ k → (Go.Sort.siftDown ltP hi F root d).size = d.size := by
  intro k
  induction k with
  | zero => intro root d h; rw [Go.Sort.siftDown, dif_pos (by omega)]
  | succ k ih =>
    intro root d h
    rw [Go.Sort.siftDown]
    split
    · rfl
    · split
      · split
        · rfl
        · split
          · rw [ih _ _ (by omega), Go.Sort.size_swp]
          · rfl
      · split
        · rfl
        · rw [ih _ _ (by omega), Go.Sort.size_swp]
theorem l1670 {hi F : Nat} {lo : Int} : ∀ (k : Nat) (d : PA) (n : Nat), F + hi ≤ d.size → d.size ≤ 1000 → k ≤ 1000 → k < n → iter (fun (x : ((List PG) × (Int × (Int × (Int × Int))))) => (B167_0 x.1 x.2.1 x.2.2.1 x.2.2.2.1 x.2.2.2.2)) n (d.toList, ((F : Int), (lo, ((hi : Int), (k : Int) - 1)))) = some ((Go.Sort.heapBuild ltP hi F k d).toList, ((F : Int), (lo, (hi : Int))))
  | 0, d, n, hF, hd, hk, hn => by
    obtain ⟨n, rfl⟩ : ∃ q, n = q + 1 := ⟨n - 1, by omega⟩
    refine iter_e ?_
    show B167_0 d.toList F lo hi (((0 : Nat) : Int) - 1) = _
    unfold B167_0
    rw [iLe_f (by omega), sel_f]
    rfl
  | k + 1, d, n, hF, hd, hk, hn => by
    obtain ⟨n, rfl⟩ : ∃ q, n = q + 1 := ⟨n - 1, by omega⟩
    have h : B167_0 d.toList F lo hi (((k + 1 : Nat) : Int) - 1) = some (.inl ((Go.Sort.siftDown ltP hi F k d).toList, ((F : Int), (lo, ((hi : Int), (k : Int) - 1))))) := by
      unfold B167_0
      rw [show ((k + 1 : Nat) : Int) - 1 = (k : Int) by omega, iLe_y (by omega), sel_t, F190_eq hF hd (by omega), bnd_s, sub_n (by omega) (by omega)]
    rw [iter_s (B := fun (x : ((List PG) × (Int × (Int × (Int × Int))))) => (B167_0 x.1 x.2.1 x.2.2.1 x.2.2.2.1 x.2.2.2.2)) h]
    have hs := sift_size (hi := hi) (F := F) (hi - k) k d (Nat.le_refl _)
    exact l1670 k _ n (by omega) (by omega) (by omega) (by omega)
theorem l1672 {F m : Nat} : ∀ (k : Nat) (d : PA) (n : Nat), k ≤ m → F + m ≤ d.size → d.size ≤ 1000 → k < n → iter (fun (x : ((List PG) × (Int × (Int × Int)))) => (B167_2 x.1 x.2.1 x.2.2.1 x.2.2.2)) n (d.toList, ((F : Int), ((0 : Int), (k : Int) - 1))) = some (Go.Sort.heapPop ltP F k d).toList
  | 0, d, n, hm, hF, hd, hn => by
    obtain ⟨n, rfl⟩ : ∃ q, n = q + 1 := ⟨n - 1, by omega⟩
    refine iter_e ?_
    show B167_2 d.toList F 0 (((0 : Nat) : Int) - 1) = _
    unfold B167_2
    rw [iLe_f (by omega), sel_f]
    rfl
  | k + 1, d, n, hm, hF, hd, hn => by
    obtain ⟨n, rfl⟩ : ∃ q, n = q + 1 := ⟨n - 1, by omega⟩
    have hs := Go.Sort.size_swp d F (F + k)
    have h : B167_2 d.toList F 0 (((k + 1 : Nat) : Int) - 1) = some (.inl ((Go.Sort.siftDown ltP k F 0 (Go.Sort.swp d F (F + k))).toList, ((F : Int), ((0 : Int), (k : Int) - 1)))) := by
      unfold B167_2
      rw [show ((k + 1 : Nat) : Int) - 1 = (k : Int) by omega, iLe_y (by omega), sel_t, addN (by omega) (by omega), oin_d (by omega), oin_d (by omega), at_d, at_d, oin_s (by omega), sel_t, sel_t, sel_t, sel_t, swp_d]
      have := F190_eq (hi := k) (F := F) (root := 0) (d := Go.Sort.swp d F (F + k)) (by omega) (by omega) (by omega)
      rw [show (((0 : Nat) : Int)) = 0 from rfl] at this
      rw [this, bnd_s, sub_n (by omega) (by omega)]
    rw [iter_s (B := fun (x : ((List PG) × (Int × (Int × Int)))) => (B167_2 x.1 x.2.1 x.2.2.1 x.2.2.2)) h]
    have h2 := sift_size (hi := k) (F := F) k 0 (Go.Sort.swp d F (F + k)) (by omega)
    exact l1672 (m := m) k _ n (by omega) (by omega) (by omega) (by omega)
theorem build_size {hi F : Nat} : ∀ (k : Nat) (d : PA), (Go.Sort.heapBuild ltP hi F k d).size = d.size
  | 0, _ => rfl
  | k + 1, d => by
    show (Go.Sort.heapBuild ltP hi F k _).size = _
    rw [build_size k, sift_size _ _ _ (Nat.le_refl _)]
theorem F167_eq {a b : Nat} {d : PA} (hab : a < b) (hb : b ≤ d.size) (hd : d.size ≤ 1000) : F167 d.toList a b = some (Go.Sort.heapSort ltP d a b).toList := by
  have q2 : iQuo .i64 (iSub .i64 ((b - a : Nat) : Int) 1) 2 = (((b - a - 1) / 2 + 1 : Nat) : Int) - 1 := by
    rw [sub1 (by omega) (by omega)]
    unfold iQuo
    rw [Int.tdiv_eq_ediv_of_nonneg (by omega), wrap_fits (by unfold fits; omega)]
    omega
  unfold F167
  rw [show oNz 2 = true from rfl, sel_t, subN (by omega) (by omega), q2]
  show bndS (iter _ fuel _) _ = _
  rw [l1670 _ d fuel (by omega) hd (by omega) (by unfold fuel; omega), bnd_s]
  dsimp only
  rw [sub_n (by omega) (by omega)]
  show bndS (iter _ fuel _) _ = _
  rw [l1672 (m := b - a) (b - a) _ fuel (Nat.le_refl _) (by rw [build_size]; omega) (by rw [build_size]; omega) (by unfold fuel; omega), bnd_s]
  rfl
end Go.Proofs.YtiddpfhpmodfbaaGreatDoor.K
end
