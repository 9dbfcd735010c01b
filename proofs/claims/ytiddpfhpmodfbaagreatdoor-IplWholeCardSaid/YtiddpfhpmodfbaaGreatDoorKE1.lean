/- A part of the proof: texts of the author, joined. -/
import Derived.Test.YtiddpfhpmodfbaaGreatDoorKE0
import Derived.Laws.Sem
import Derived.Laws.World
import Derived.Laws.Small
import Derived.Laws.StructEq
import Derived.Laws.Tables
import Derived.Great.BuildSlice
import Derived.Laws.Shifts
import Derived.Laws.Append
section
set_option linter.unusedVariables false
set_option linter.unusedSimpArgs false
set_option linter.unnecessarySimpa false
namespace Go.Ev
open Go

/-! ## What the evaluator's values stand for -/
structure Cx where
  S : Nat → Prop
  β : Nat → Option (Nat × Nat)
  N : Nat → Prop
  w : World

def Cx.clo (K : Cx) (fl : Bool) : Cx := ⟨fun q => fl = false ∧ K.S q, K.β, fun _ => False, K.w⟩

inductive VR : Cx → V → Value → Prop
  | lit {K : Cx} {v : Value} (h : Ev.one v = true) : VR K (.lit v) v
  | con0 {K : Cx} {fl : Bool} {sz cap : Nat} {a : Option Addr} (hz : a = none → cap = 0) : VR K (.con fl sz []) (.slice a 0 cap)
  | emp {K : Cx} {cap : Nat} {a : Addr} : VR K .emp (.slice (some a) 0 cap)
  | con {K : Cx} {fl : Bool} {sz b o cap : Nat} {es : List (List V)} (hp : 0 < es.length) (hcap : es.length ≤ cap) (hS : K.S b) (hsz : ∀ cs, cs ∈ es → List.length cs = sz) (h1 : ∀ cs, cs ∈ es → ones cs = true)
      (hc : ∀ (i j : Nat) (v : V), at2 es i j = some v → ∃ x, K.w.cell? ⟨b, o + i * sz + j, none⟩ = some x)
      (hr : ∀ (i j : Nat) (v : V) (x : Value), at2 es i j = some v → K.w.cell? ⟨b, o + i * sz + j, none⟩ = some x → VR (K.clo fl) v x) :
      VR K (.con fl sz es) (.slice (some ⟨b, o, none⟩) es.length cap)
  | refE {K : Cx} {b sz off : Nat} {a : Option Addr} (hN : K.N b) (hE : ∀ q n, K.β b = some (q, n) → n ≤ off * sz) : VR K (.ref b sz off 0) (.slice a 0 0)
  | ref {K : Cx} {b sz off len q n cap : Nat} (hN : K.N b) (hb : K.β b = some (q, n)) (hl : len ≤ cap) (hn : (off + cap) * sz = n) :
      VR K (.ref b sz off len) (.slice (some ⟨q, off * sz, none⟩) len cap)
  | ptr {K : Cx} {b sz i c q n : Nat} (hN : K.N b) (hb : K.β b = some (q, n)) : VR K (.ptr b sz i c) (.pointer (some ⟨q, i * sz + c, none⟩))
  | cel {K : Cx} {fl : Bool} {sz b o i c : Nat} {es : List (List V)} (hS : K.S b) (hsz : ∀ cs, cs ∈ es → List.length cs = sz) (h1 : ∀ cs, cs ∈ es → ones cs = true)
      (hc : ∀ (i j : Nat) (v : V), at2 es i j = some v → ∃ x, K.w.cell? ⟨b, o + i * sz + j, none⟩ = some x)
      (hr : ∀ (i j : Nat) (v : V) (x : Value), at2 es i j = some v → K.w.cell? ⟨b, o + i * sz + j, none⟩ = some x → VR (K.clo fl) v x) :
      VR K (.cel fl sz es i c) (.pointer (some ⟨b, o + i * sz + c, none⟩))
  | agg {K : Cx} {cs : List V} {xs : Array Value} (hl : cs.length = xs.toList.length) (h : ∀ (j : Nat) (v : V) (x : Value), cs[j]? = some v → xs.toList[j]? = some x → VR K v x) : VR K (.agg cs) (.agg xs)
  | tup {K : Cx} {cs : List V} {xs : Array Value} (hl : cs.length = xs.toList.length) (h : ∀ (j : Nat) (v : V) (x : Value), cs[j]? = some v → xs.toList[j]? = some x → VR K v x) : VR K (.tup cs) (.tuple xs)
  | fn {K : Cx} {f : Nat} {cs : List V} {xs : Array Value} (hl : cs.length = xs.toList.length) (h : ∀ (j : Nat) (v : V) (x : Value), cs[j]? = some v → xs.toList[j]? = some x → VR K v x) : VR K (.fn f cs) (.func (.func f) #[] xs)

structure Le (K K' : Cx) : Prop where
  S : ∀ q, K.S q → K'.S q
  N : ∀ b, K.N b → K'.N b
  β : ∀ b, K.N b → K'.β b = K.β b
  c : ∀ q o, K.S q → K'.w.cell? ⟨q, o, none⟩ = K.w.cell? ⟨q, o, none⟩

theorem Le.refl (K : Cx) : Le K K := ⟨fun _ h => h, fun _ h => h, fun _ _ => rfl, fun _ _ _ => rfl⟩
theorem Le.trans {K K' K'' : Cx} (h : Le K K') (g : Le K' K'') : Le K K'' :=
  ⟨fun q hq => g.S q (h.S q hq), fun b hb => g.N b (h.N b hb), fun b hb => (g.β b (h.N b hb)).trans (h.β b hb), fun q o hq => (g.c q o (h.S q hq)).trans (h.c q o hq)⟩
theorem Le.clo {K K' : Cx} (h : Le K K') (fl : Bool) : Le (K.clo fl) (K'.clo fl) :=
  ⟨fun q hq => ⟨hq.1, h.S q hq.2⟩, fun _ hb => hb.elim, fun _ hb => hb.elim, fun q o hq => h.c q o hq.2⟩

theorem VR.mono {K K' : Cx} {v : V} {x : Value} (hv : VR K v x) (hle : Le K K') : VR K' v x := by
  induction hv generalizing K' with
  | lit h => exact .lit h
  | con0 hz => exact .con0 hz
  | emp => exact .emp
  | con hp hcap hS hsz h1 hc hr ih =>
    refine .con hp hcap (hle.S _ hS) hsz h1 (fun i j v hv => ?_) (fun i j v x hv hx => ?_)
    · obtain ⟨x, hx⟩ := hc i j v hv
      exact ⟨x, by rw [hle.c _ _ hS]; exact hx⟩
    · exact ih i j v x hv (by rw [← hle.c _ _ hS]; exact hx) (hle.clo _)
  | refE hN hE => exact .refE (hle.N _ hN) (by rw [hle.β _ hN]; exact hE)
  | ref hN hb hl hn => exact .ref (hle.N _ hN) (by rw [hle.β _ hN]; exact hb) hl hn
  | ptr hN hb => exact .ptr (hle.N _ hN) (by rw [hle.β _ hN]; exact hb)
  | cel hS hsz h1 hc hr ih =>
    refine .cel (hle.S _ hS) hsz h1 (fun i j v hv => ?_) (fun i j v x hv hx => ?_)
    · obtain ⟨x, hx⟩ := hc i j v hv
      exact ⟨x, by rw [hle.c _ _ hS]; exact hx⟩
    · exact ih i j v x hv (by rw [← hle.c _ _ hS]; exact hx) (hle.clo _)
  | agg hl h ih => exact .agg hl fun j v x hv hx => ih j v x hv hx hle
  | tup hl h ih => exact .tup hl fun j v x hv hx => ih j v x hv hx hle
  | fn hl h ih => exact .fn hl fun j v x hv hx => ih j v x hv hx hle

/-! ### Lists -/
def VRl (K : Cx) (cs : List V) (xs : List Value) : Prop := cs.length = xs.length ∧ ∀ (j : Nat) (v : V) (x : Value), cs[j]? = some v → xs[j]? = some x → VR K v x

theorem VRl.nil {K : Cx} : VRl K [] [] := ⟨rfl, fun _ _ _ h => by cases h⟩
theorem VRl.cons {K : Cx} {v : V} {x : Value} {cs xs} (h : VR K v x) (hs : VRl K cs xs) : VRl K (v :: cs) (x :: xs) := by
  refine ⟨by simp [hs.1], fun j v' x' h1 h2 => ?_⟩
  cases j with
  | zero => simp at h1 h2; subst h1; subst h2; exact h
  | succ j => simp at h1 h2; exact hs.2 j _ _ h1 h2
theorem VRl.inv {K : Cx} {v : V} {cs xs} (h : VRl K (v :: cs) xs) : ∃ x r, xs = x :: r ∧ VR K v x ∧ VRl K cs r := by
  cases xs with
  | nil => cases h.1
  | cons x r => exact ⟨x, r, rfl, h.2 0 _ _ rfl rfl, by simpa using h.1, fun j v' x' h1 h2 => h.2 (j + 1) v' x' h1 h2⟩
theorem VRl.inv0 {K : Cx} {xs} (h : VRl K [] xs) : xs = [] := by
  cases xs with
  | nil => rfl
  | cons x r => cases h.1
theorem VRl.mono {K K' : Cx} {cs xs} (h : VRl K cs xs) (hle : Le K K') : VRl K' cs xs := ⟨h.1, fun j v x h1 h2 => (h.2 j v x h1 h2).mono hle⟩
theorem VRl.append {K : Cx} {cs ds xs ys} (h : VRl K cs xs) (g : VRl K ds ys) : VRl K (cs ++ ds) (xs ++ ys) := by
  refine ⟨by simp [h.1, g.1], fun j v x h1 h2 => ?_⟩
  by_cases hj : j < cs.length
  · rw [List.getElem?_append_left hj] at h1
    rw [List.getElem?_append_left (h.1 ▸ hj)] at h2
    exact h.2 j v x h1 h2
  · rw [List.getElem?_append_right (by omega)] at h1
    rw [List.getElem?_append_right (by have := h.1; omega)] at h2
    exact g.2 (j - cs.length) v x h1 (by rw [h.1]; exact h2)
theorem VRl.take {K : Cx} {cs xs} (h : VRl K cs xs) (n : Nat) : VRl K (cs.take n) (xs.take n) := by
  refine ⟨by simp [h.1], fun j v x h1 h2 => ?_⟩
  rw [List.getElem?_take] at h1 h2
  by_cases hj : j < n
  · rw [if_pos hj] at h1 h2; exact h.2 j v x h1 h2
  · rw [if_neg hj] at h1; cases h1
theorem VRl.drop {K : Cx} {cs xs} (h : VRl K cs xs) (n : Nat) : VRl K (cs.drop n) (xs.drop n) := by
  refine ⟨by simp [h.1], fun j v x h1 h2 => ?_⟩
  rw [List.getElem?_drop] at h1 h2
  exact h.2 _ v x h1 h2
theorem VRl.agg {K : Cx} {cs} {xs : Array Value} (h : VRl K cs xs.toList) : VR K (.agg cs) (.agg xs) := .agg h.1 h.2
theorem VRl.tup {K : Cx} {cs} {xs : Array Value} (h : VRl K cs xs.toList) : VR K (.tup cs) (.tuple xs) := .tup h.1 h.2
theorem VR.one {K : Cx} {v : V} {x : Value} (h : VR K v x) (h1 : v.one = true) : x.oneCell' = true := by
  cases h <;> first | rfl | (cases h1; done) | skip
  rename_i h
  cases x <;> first | rfl | (simp [Ev.one] at h; done)
theorem VR.cells {K : Cx} {v : V} {x : Value} (h : VR K v x) : VRl K v.cells x.cells.toList := by
  cases h with
  | agg hl h => exact ⟨hl, h⟩
  | lit h =>
    have e : x.cells = #[x] := by cases x <;> first | rfl | (simp [Ev.one] at h; done)
    rw [e]; exact VRl.cons (.lit h) .nil
  | con0 hz => exact VRl.cons (.con0 hz) .nil
  | emp => exact VRl.cons .emp .nil
  | con a b c d e f g => exact VRl.cons (.con a b c d e f g) .nil
  | refE a b => exact VRl.cons (.refE a b) .nil
  | ref a b c d => exact VRl.cons (.ref a b c d) .nil
  | ptr a b => exact VRl.cons (.ptr a b) .nil
  | cel a b c d e => exact VRl.cons (.cel a b c d e) .nil
  | tup a b => exact VRl.cons (.tup a b) .nil
  | fn a b => exact VRl.cons (.fn a b) .nil
theorem VRl.ones {K : Cx} : ∀ {cs xs}, VRl K cs xs → ones cs = true → ∀ x ∈ xs, x.oneCell' = true
  | [], xs, h, _ => by rw [h.inv0]; intro x hx; cases hx
  | v :: cs, xs, h, h1 => by
    obtain ⟨x, r, rfl, hv, hr⟩ := h.inv
    simp only [Ev.ones, Bool.and_eq_true] at h1
    intro y hy
    cases hy with
    | head => exact hv.one h1.1
    | tail _ hy => exact VRl.ones hr h1.2 y hy

/-- Closed values stay what they are when nothing of one's own is known. -/
theorem VR.of_clo {K : Cx} {v : V} {x : Value} (h : VR K v x) (hc : v.clo = true) : VR (K.clo false) v x := by
  cases h with
  | lit h => exact .lit h
  | con0 hz => exact .con0 hz
  | emp => exact .emp
  | con hp hcap hS hsz h1 hcc hr =>
    exact .con hp hcap ⟨rfl, hS⟩ hsz h1 hcc fun i j v x h3 h2 => (hr i j v x h3 h2).mono ⟨fun q hq => ⟨hq.1, rfl, hq.2⟩, fun _ h => h.elim, fun _ h => h.elim, fun _ _ _ => rfl⟩
  | _ => cases hc
theorem VR.of_flt {K : Cx} {v : V} {x : Value} (h : VR K v x) (hc : v.flt = true) (fl : Bool) : VR (K.clo fl) v x := by
  cases h with
  | lit h => exact .lit h
  | _ => cases hc
theorem Cx.clo_le (K : Cx) (fl : Bool) : Le (K.clo fl) K := ⟨fun _ h => h.2, fun _ h => h.elim, fun _ h => h.elim, fun _ _ _ => rfl⟩
theorem Cx.clo_clo (K : Cx) (a b : Bool) : Le ((K.clo a).clo b) (K.clo b) := ⟨fun _ h => ⟨h.1, h.2.2⟩, fun _ h => h.elim, fun _ h => h.elim, fun _ _ _ => rfl⟩
theorem Cx.clo_false (K : Cx) (fl : Bool) : Le (K.clo fl) (K.clo false) := ⟨fun _ h => ⟨rfl, h.2⟩, fun _ h => h.elim, fun _ h => h.elim, fun _ _ _ => rfl⟩

/-! ## Blocks -/
def Blk.K (K : Cx) (b : Blk) : Cx := if b.box then K else K.clo b.fl
theorem Le.blk {K K' : Cx} (h : Le K K') (b : Blk) : Le (b.K K) (b.K K') := by
  unfold Blk.K; split
  · exact h
  · exact h.clo _
theorem Blk.K_le (K : Cx) (b : Blk) : Le (b.K K) K := by
  unfold Blk.K; split
  · exact Le.refl _
  · exact K.clo_le _

structure BRs (K : Cx) (b : Blk) (q n : Nat) (cs : Array Value) (e : TypeId) (lo hi : Nat) : Prop where
  hw : K.w.heap[q]? = some (.cells cs e (lo, hi))
  hn : cs.size = n
  hf : ∀ j, j < n → ¬ (lo ≤ j ∧ j < hi)
  hs : ∀ c ∈ b.es, c.length = b.sz
  h1 : ∀ c ∈ b.es, ones c = true
  hl : b.es.length * b.sz ≤ n
  hv : ∀ (i j : Nat) (v : V) (x : Value), at2 b.es i j = some v → cs[i * b.sz + j]? = some x → VR (b.K K) v x

def BR (K : Cx) (b : Blk) : Option (Nat × Nat) → Prop
  | none => b.es = [] ∧ b.box = false
  | some (q, n) => ∃ cs e lo hi, BRs K b q n cs e lo hi

structure Bs where
  w0 : World
  S0 : Nat → Prop
  β0 : Nat → Option (Nat × Nat)
  own : Nat → Prop
  m : Nat

def Io (w w' : World) : Prop := w'.os = w.os ∧ w'.tape = w.tape ∧ w'.output = w.output
theorem Io.refl (w : World) : Io w w := ⟨rfl, rfl, rfl⟩
theorem Io.trans {a b c : World} (h : Io a b) (g : Io b c) : Io a c := ⟨g.1.trans h.1, g.2.1.trans h.2.1, g.2.2.trans h.2.2⟩
structure Good (B : Bs) (U : Nat → Prop) (K : Cx) (h : Nat → Option Blk) : Prop where
  blk : ∀ b x, h b = some x → K.N b ∧ BR K x (K.β b)
  inj : ∀ b x b' x' q n n', h b = some x → h b' = some x' → K.β b = some (q, n) → K.β b' = some (q, n') → b = b'
  apart : ∀ b x q n, h b = some x → K.β b = some (q, n) → ¬ K.S q
  sz : ∀ q, K.S q → q < K.w.heap.size
  N : ∀ b, K.N b → U b
  grow : B.w0.heap.size ≤ K.w.heap.size
  io : Io B.w0 K.w
  frame : ∀ q, q < B.w0.heap.size → ¬ B.own q → K.w.heap[q]? = B.w0.heap[q]?
  inp : ∀ b, b < B.m → K.N b ∧ K.β b = B.β0 b
  own : ∀ b x q n, h b = some x → K.β b = some (q, n) → B.own q ∨ B.w0.heap.size ≤ q
  S0 : ∀ q, B.S0 q → K.S q
  S1 : ∀ q, K.S q → B.S0 q ∨ B.own q ∨ B.w0.heap.size ≤ q

end Go.Ev
end

section
set_option linter.unusedVariables false
set_option linter.unusedSimpArgs false
set_option linter.unnecessarySimpa false
namespace Go.Ev
open Go

theorem add_at (q o i : Nat) : (Addr.mk q o none).add i = ⟨q, o + i, none⟩ := by
  unfold Addr.add; split
  · rename_i h; subst h; rfl
  · rfl

theorem cell_of_row {w : World} {q : Nat} {cs : Array Value} {e : TypeId} {fz : Nat × Nat} (h : w.heap[q]? = some (.cells cs e fz)) (o : Nat) : w.cell? ⟨q, o, none⟩ = cs[o]? := by
  simp [World.cell?, h]
theorem cell_congr {w w' : World} {q : Nat} (h : w'.heap[q]? = w.heap[q]?) (o : Nat) : w'.cell? ⟨q, o, none⟩ = w.cell? ⟨q, o, none⟩ := by
  simp [World.cell?, h]

/-! ## The row of a block anew -/
def wr (cur : Array Value) : Nat → List Value → Array Value
  | _, [] => cur
  | o, v :: r => wr (cur.setIfInBounds o v) (o + 1) r
theorem wr_size : ∀ (vs : List Value) (cur : Array Value) (o : Nat), (wr cur o vs).size = cur.size
  | [], _, _ => rfl
  | v :: r, cur, o => by rw [wr, wr_size r]; simp
theorem wr_get : ∀ (vs : List Value) (cur : Array Value) (o j : Nat), o + vs.length ≤ cur.size → (wr cur o vs)[j]? = if o ≤ j ∧ j < o + vs.length then vs[j - o]? else cur[j]?
  | [], cur, o, j, _ => by rw [wr, if_neg (by simp)]
  | v :: r, cur, o, j, h => by
    simp only [List.length_cons] at h
    rw [wr, wr_get r _ _ j (by simp; omega)]
    by_cases h1 : o + 1 ≤ j ∧ j < o + 1 + r.length
    · rw [if_pos h1, if_pos (by simp; omega)]
      obtain ⟨d, hd⟩ : ∃ d, j - o = d + 1 := ⟨j - o - 1, by omega⟩
      rw [hd, List.getElem?_cons_succ]; congr 1; omega
    · rw [if_neg h1]
      by_cases h2 : j = o
      · subst h2
        rw [if_pos (by simp), Nat.sub_self]
        simp only [List.getElem?_cons_zero]
        rw [Array.getElem?_setIfInBounds_self_of_lt (by omega)]
      · rw [if_neg (by simp; omega), Array.getElem?_setIfInBounds_ne (fun e => h2 e.symm)]

def rowW (w : World) (q : Nat) (c : Array Value) (e : TypeId) (fz : Nat × Nat) : World := { w with heap := w.heap.setIfInBounds q (.cells c e fz) }

theorem rowW_heap {w : World} {q : Nat} {c0 c : Array Value} {e e0 : TypeId} {fz fz0 : Nat × Nat} (h : w.heap[q]? = some (.cells c0 e0 fz0)) : (rowW w q c e fz).heap[q]? = some (.cells c e fz) := by
  have hq : q < w.heap.size := by
    rcases Nat.lt_or_ge q w.heap.size with h' | h'
    · exact h'
    · rw [Array.getElem?_eq_none h'] at h; cases h
  simp [rowW, Array.getElem?_setIfInBounds_self_of_lt hq]
theorem rowW_other {w : World} {q p : Nat} {c : Array Value} {e : TypeId} {fz : Nat × Nat} (h : p ≠ q) : (rowW w q c e fz).heap[p]? = w.heap[p]? := by
  simp [rowW, Array.getElem?_setIfInBounds_ne (Ne.symm h)]
theorem rowW_size (w : World) (q : Nat) (c : Array Value) (e : TypeId) (fz : Nat × Nat) : (rowW w q c e fz).heap.size = w.heap.size := by simp [rowW]
theorem rowW_self {w : World} {q : Nat} {c : Array Value} {e : TypeId} {fz : Nat × Nat} (h : w.heap[q]? = some (.cells c e fz)) : rowW w q c e fz = w := by
  unfold rowW
  have : w.heap.setIfInBounds q (.cells c e fz) = w.heap := by
    apply Array.ext_getElem?
    intro i
    by_cases hi : i = q
    · subst hi
      have hq : i < w.heap.size := by
        rcases Nat.lt_or_ge i w.heap.size with h' | h'
        · exact h'
        · rw [Array.getElem?_eq_none h'] at h; cases h
      rw [Array.getElem?_setIfInBounds_self_of_lt hq, h]
    · rw [Array.getElem?_setIfInBounds_ne (Ne.symm hi)]
  rw [this]
theorem setCell_row {w : World} {q o : Nat} {c : Array Value} {e : TypeId} {fz : Nat × Nat} {v : Value} (h : w.heap[q]? = some (.cells c e fz)) :
    w.setCell ⟨q, o, none⟩ v = rowW w q (c.setIfInBounds o v) e fz := by
  have hq : q < w.heap.size := by
    rcases Nat.lt_or_ge q w.heap.size with h' | h'
    · exact h'
    · rw [Array.getElem?_eq_none h'] at h; cases h
  unfold World.setCell rowW
  congr 1
  apply Array.ext_getElem?
  intro i
  rw [Array.getElem?_modify]
  by_cases hi : q = i
  · subst hi
    rw [if_pos rfl, h, Array.getElem?_setIfInBounds_self_of_lt hq]
    simp
  · rw [if_neg hi, Array.getElem?_setIfInBounds_ne hi]

theorem run_storeCells_own (P : Program) (q o : Nat) (e : TypeId) (lo hi : Nat) : ∀ (vs : List Value) (i : Nat) (cur : Array Value) (w : World),
    w.heap[q]? = some (.cells cur e (lo, hi)) → (∀ j, j < cur.size → ¬ (lo ≤ j ∧ j < hi)) → o + i + vs.length ≤ cur.size → (∀ v ∈ vs, v.oneCell' = true) →
    (storeCells ⟨q, o, none⟩ vs i).run P w = .ok () (rowW w q (wr cur (o + i) vs) e (lo, hi))
  | [], i, cur, w, h, _, _, _ => by simp only [storeCells, wr]; rw [rowW_self h]; rfl
  | v :: r, i, cur, w, h, hf, hl, h1 => by
    simp only [List.length_cons] at hl
    have ho : o + i < cur.size := by omega
    have hc : w.cell? ⟨q, o + i, none⟩ = some cur[o + i] := by rw [cell_of_row h]; simp [ho]
    have hfz : w.frozen? ⟨q, o + i, none⟩ = false := by
      have := hf (o + i) ho
      simp only [World.frozen?, h]
      simp only [Bool.and_eq_false_iff, decide_eq_false_iff_not]
      by_cases h' : lo ≤ o + i
      · right; exact fun h2 => this ⟨h', h2⟩
      · left; exact h'
    simp only [storeCells, add_at, Sem.run_bind]
    rw [run_store P w _ v _ (h1 v (List.mem_cons_self ..)), hc]
    simp only [hfz, Bool.false_eq_true, if_false, Result.andThen_ok]
    rw [setCell_row h]
    rw [run_storeCells_own P q o e lo hi r (i + 1) (cur.setIfInBounds (o + i) v) _ (rowW_heap h) (by simpa using hf) (by simp; omega) (fun x hx => h1 x (List.mem_cons_of_mem _ hx))]
    congr 1
    unfold rowW
    simp only [wr, Array.setIfInBounds_setIfInBounds]
    rfl

theorem run_loadCellsFrom_list (P : Program) (w : World) (q o : Nat) : ∀ (xs : List Value) (i : Nat) (acc : Array Value), (∀ (j : Nat) (x : Value), xs[j]? = some x → w.cell? ⟨q, o + i + j, none⟩ = some x) →
    (loadCellsFrom ⟨q, o, none⟩ i xs.length acc).run P w = .ok (acc ++ xs.toArray) w
  | [], i, acc, _ => by simp [loadCellsFrom]
  | x :: r, i, acc, h => by
    simp only [List.length_cons, loadCellsFrom, add_at, Sem.run_bind, run_load]
    have h0 := h 0 x rfl
    rw [Nat.add_zero] at h0
    rw [h0]
    simp only [Result.andThen_ok]
    rw [run_loadCellsFrom_list P w q o r (i + 1) (acc.push x) (fun j y hj => by have := h (j + 1) y hj; rw [show o + (i + 1) + j = o + i + (j + 1) by omega]; exact this)]
    congr 1
    simp
theorem run_loadCells_list (P : Program) (w : World) (q o : Nat) (xs : List Value) (h : ∀ (j : Nat) (x : Value), xs[j]? = some x → w.cell? ⟨q, o + j, none⟩ = some x) :
    (loadCells ⟨q, o, none⟩ xs.length).run P w = .ok xs.toArray w := by
  unfold loadCells
  rw [run_loadCellsFrom_list P w q o xs 0 #[] (by simpa using h)]
  simp

/-! ## Steps of what is known -/
theorem Good.mono_U {B : Bs} {U U' : Nat → Prop} {K : Cx} {h : Nat → Option Blk} (g : Good B U K h) (hU : ∀ b, U b → U' b) : Good B U' K h :=
  { g with N := fun b hb => hU b (g.N b hb) }

theorem BR.mono {K K' : Cx} {b : Blk} {z : Option (Nat × Nat)} (h : BR K b z) (hle : Le K K') (hq : ∀ q n, z = some (q, n) → K'.w.heap[q]? = K.w.heap[q]?) : BR K' b z := by
  cases z with
  | none => exact h
  | some z =>
    obtain ⟨q, n⟩ := z
    obtain ⟨cs, e, lo, hi, hb⟩ := h
    exact ⟨cs, e, lo, hi, { hb with hw := by rw [hq q n rfl]; exact hb.hw, hv := fun i j v x h1 h2 => (hb.hv i j v x h1 h2).mono (hle.blk b) }⟩

theorem BRs.lt {K : Cx} {b : Blk} {q n : Nat} {cs : Array Value} {e : TypeId} {lo hi : Nat} (h : BRs K b q n cs e lo hi) : q < K.w.heap.size := by
  rcases Nat.lt_or_ge q K.w.heap.size with h' | h'
  · exact h'
  · have := h.hw; rw [Array.getElem?_eq_none h'] at this; cases this

/-- Nothing of the heap changes but for blocks that are added. -/
theorem Good.world {B : Bs} {U : Nat → Prop} {K : Cx} {h : Nat → Option Blk} (g : Good B U K h) {w' : World} (hs : K.w.heap.size ≤ w'.heap.size) (hh : ∀ q, q < K.w.heap.size → w'.heap[q]? = K.w.heap[q]?) (hio : Io K.w w') :
    Le K { K with w := w' } ∧ Good B U { K with w := w' } h := by
  have hle : Le K { K with w := w' } := ⟨fun _ h => h, fun _ h => h, fun _ _ => rfl, fun q o hq => cell_congr (hh q (g.sz q hq)) o⟩
  refine ⟨hle, { g with blk := fun b x hx => ⟨(g.blk b x hx).1, (g.blk b x hx).2.mono hle fun q n hz => ?_⟩, sz := fun q hq => Nat.lt_of_lt_of_le (g.sz q hq) hs, grow := Nat.le_trans g.grow hs, io := g.io.trans hio, frame := fun q hq hn => ?_ }⟩
  · have := (g.blk b x hx).2
    rw [hz] at this
    obtain ⟨_, _, _, _, hb⟩ := this
    exact hh q hb.lt
  · show w'.heap[q]? = _
    rw [hh q (Nat.lt_of_lt_of_le hq g.grow)]; exact g.frame q hq hn

theorem set_same {α : Type} (f : Nat → Option α) (t : Nat) (x : Option α) : set f t x t = x := by simp [set]
theorem set_ne {α : Type} {f : Nat → Option α} {t u : Nat} {x : Option α} (h : u ≠ t) : set f t x u = f u := by simp [set, h]

theorem Good.del {B : Bs} {U : Nat → Prop} {K : Cx} {h : Nat → Option Blk} (g : Good B U K h) (b : Nat) : Good B U K (set h b none) := by
  have hk : ∀ c x, set h b none c = some x → h c = some x := fun c x hx => by
    by_cases hc : c = b
    · subst hc; rw [set_same] at hx; cases hx
    · rwa [set_ne hc] at hx
  exact { g with
    blk := fun c x hx => g.blk c x (hk c x hx)
    inj := fun c x c' x' q n n' h1 h2 => g.inj c x c' x' q n n' (hk _ _ h1) (hk _ _ h2)
    apart := fun c x q n h1 => g.apart c x q n (hk _ _ h1)
    own := fun c x q n h1 => g.own c x q n (hk _ _ h1) }

/-- A block is given up: nobody writes to it any more. -/
theorem Good.freeze {B : Bs} {U : Nat → Prop} {K : Cx} {h : Nat → Option Blk} (g : Good B U K h) {b : Nat} {x : Blk} {q n : Nat} (hb : h b = some x) (hβ : K.β b = some (q, n)) :
    Le K { K with S := fun p => K.S p ∨ p = q } ∧ Good B U { K with S := fun p => K.S p ∨ p = q } (set h b none) := by
  have hle : Le K { K with S := fun p => K.S p ∨ p = q } := ⟨fun _ h => .inl h, fun _ h => h, fun _ _ => rfl, fun _ _ _ => rfl⟩
  have g' := g.del b
  have hq : q < K.w.heap.size := by
    have := (g.blk b x hb).2
    rw [hβ] at this
    obtain ⟨_, _, _, _, hb⟩ := this
    exact hb.lt
  refine ⟨hle, { g' with blk := fun c y hy => ⟨(g'.blk c y hy).1, (g'.blk c y hy).2.mono hle fun _ _ _ => rfl⟩, apart := fun c y p m h1 h2 => ?_, sz := fun p hp => ?_, S0 := fun p hp => .inl (g.S0 p hp), S1 := fun p hp => ?_ }⟩
  · rintro (h3 | rfl)
    · exact g'.apart c y p m h1 h2 h3
    · by_cases hc : c = b
      · subst hc; rw [set_same] at h1; cases h1
      · rw [set_ne hc] at h1; exact hc (g.inj c y b x p m n h1 hb h2 hβ)
  · rcases hp with hp | rfl
    · exact g.sz p hp
    · exact hq
  · rcases hp with hp | rfl
    · exact g.S1 p hp
    · exact (g.own b x p n hb hβ).elim (fun h => .inr (.inl h)) (fun h => .inr (.inr h))

/-- A new block under a new number. -/
theorem Good.new {B : Bs} {U : Nat → Prop} {K : Cx} {h : Nat → Option Blk} (g : Good B U K h) {k : Nat} (hk : ¬ U k) {x : Blk} {cs : Array Value} {e : TypeId}
    {lo hi : Nat} (hw : K.w.heap[K.w.heap.size - 1]? = some (.cells cs e (lo, hi))) (hf : ∀ j, j < cs.size → ¬ (lo ≤ j ∧ j < hi)) (hpos : 0 < K.w.heap.size) (hfr : B.w0.heap.size ≤ K.w.heap.size - 1) (hnS : ¬ K.S (K.w.heap.size - 1))
    (hnew : ∀ b y n, h b = some y → K.β b ≠ some (K.w.heap.size - 1, n))
    (hs : ∀ c ∈ x.es, c.length = x.sz) (h1 : ∀ c ∈ x.es, ones c = true) (hl : x.es.length * x.sz ≤ cs.size) (hv : ∀ (i j : Nat) (v : V) (y : Value), at2 x.es i j = some v → cs[i * x.sz + j]? = some y → VR (x.K K) v y) :
    let K' : Cx := { K with β := fun b => if b = k then some (K.w.heap.size - 1, cs.size) else K.β b, N := fun b => K.N b ∨ b = k }
    Le K K' ∧ Good B (fun b => U b ∨ b = k) K' (set h k (some x)) ∧ K'.β k = some (K.w.heap.size - 1, cs.size) := by
  intro K'
  have hkN : ∀ b, K.N b → b ≠ k := fun b hb e => hk (e ▸ g.N b hb)
  have hle : Le K K' := ⟨fun _ h => h, fun _ h => .inl h, fun b hb => by simp [K', hkN b hb], fun _ _ _ => rfl⟩
  have hold : ∀ c y, c ≠ k → set h k (some x) c = some y → h c = some y := fun c y hc hy => by rwa [set_ne hc] at hy
  have hβ : ∀ c, c ≠ k → K'.β c = K.β c := fun c hc => by simp [K', hc]
  have hβk : K'.β k = some (K.w.heap.size - 1, cs.size) := by simp [K']
  refine ⟨hle, ?_, hβk⟩
  exact {
    blk := fun c y hy => by
      by_cases hc : c = k
      · subst hc
        rw [set_same] at hy
        obtain rfl := Option.some.inj hy
        refine ⟨.inr rfl, ?_⟩
        rw [hβk]
        exact ⟨cs, e, lo, hi, { hw := hw, hn := rfl, hf := hf, hs := hs, h1 := h1, hl := hl, hv := fun i j v z h1 h2 => (hv i j v z h1 h2).mono (hle.blk _) }⟩
      · have hy' := hold c y hc hy
        refine ⟨.inl (g.blk c y hy').1, ?_⟩
        rw [hβ c hc]
        exact (g.blk c y hy').2.mono hle fun _ _ _ => rfl
    inj := fun c y c' y' q n n' h1 h2 h3 h4 => by
      by_cases hc : c = k
      · by_cases hc' : c' = k
        · rw [hc, hc']
        · subst hc
          rw [hβk] at h3; rw [hβ c' hc'] at h4
          injection h3 with h3; injection h3 with h3 _; subst h3
          exact absurd h4 (hnew c' y' n' (hold _ _ hc' h2))
      · by_cases hc' : c' = k
        · subst hc'
          rw [hβk] at h4; rw [hβ c hc] at h3
          injection h4 with h4; injection h4 with h4 _; subst h4
          exact absurd h3 (hnew c y n (hold _ _ hc h1))
        · rw [hβ c hc] at h3; rw [hβ c' hc'] at h4
          exact g.inj c y c' y' q n n' (hold _ _ hc h1) (hold _ _ hc' h2) h3 h4
    apart := fun c y q n h1 h2 => by
      by_cases hc : c = k
      · subst hc
        rw [hβk] at h2; injection h2 with h2; injection h2 with h2 _; subst h2
        exact hnS
      · rw [hβ c hc] at h2; exact g.apart c y q n (hold _ _ hc h1) h2
    sz := g.sz
    N := fun b hb => hb.imp (g.N b) id
    grow := g.grow
    io := g.io
    frame := g.frame
    inp := fun b hb => ⟨.inl (g.inp b hb).1, by rw [hβ b (hkN b (g.inp b hb).1)]; exact (g.inp b hb).2⟩
    own := fun c y q n h1 h2 => by
      by_cases hc : c = k
      · subst hc
        rw [hβk] at h2; injection h2 with h2; injection h2 with h2 _; subst h2
        exact .inr hfr
      · rw [hβ c hc] at h2; exact g.own c y q n (hold _ _ hc h1) h2
    S0 := g.S0
    S1 := g.S1 }

/-- A world with one more row. -/
def pushW (w : World) (cs : Array Value) (e : TypeId) : World := { w with heap := w.heap.push (.cells cs e (0, 0)) }
theorem pushW_old {w : World} {cs : Array Value} {e : TypeId} {q : Nat} (h : q < w.heap.size) : (pushW w cs e).heap[q]? = w.heap[q]? := by
  show (w.heap.push _)[q]? = _
  rw [Array.getElem?_push, if_neg (Nat.ne_of_lt h)]
theorem pushW_new (w : World) (cs : Array Value) (e : TypeId) : (pushW w cs e).heap[w.heap.size]? = some (.cells cs e (0, 0)) := by
  show (w.heap.push _)[w.heap.size]? = _
  rw [Array.getElem?_push, if_pos rfl]
theorem pushW_size (w : World) (cs : Array Value) (e : TypeId) : (pushW w cs e).heap.size = w.heap.size + 1 := by simp [pushW]

theorem Good.pushG {B : Bs} {U : Nat → Prop} {K : Cx} {h : Nat → Option Blk} (g : Good B U K h) {k : Nat} (hk : ¬ U k) {x : Blk} (cs : Array Value) (e : TypeId) (lo hi : Nat) (w' : World) (hsz' : w'.heap.size = K.w.heap.size + 1) (hold : ∀ q, q < K.w.heap.size → w'.heap[q]? = K.w.heap[q]?)
    (hnew' : w'.heap[K.w.heap.size]? = some (.cells cs e (lo, hi))) (hf : ∀ j, j < cs.size → ¬ (lo ≤ j ∧ j < hi)) (hio : Io K.w w')
    (hs : ∀ c ∈ x.es, c.length = x.sz) (h1 : ∀ c ∈ x.es, ones c = true) (hl : x.es.length * x.sz ≤ cs.size) (hv : ∀ (i j : Nat) (v : V) (y : Value), at2 x.es i j = some v → cs[i * x.sz + j]? = some y → VR (x.K K) v y) :
    ∃ K' : Cx, K'.w = w' ∧ Le K K' ∧ Good B (fun b => U b ∨ b = k) K' (set h k (some x)) ∧ K'.N k ∧ K'.β k = some (K.w.heap.size, cs.size) := by
  obtain ⟨hle1, g1⟩ := g.world (w' := w') (by rw [hsz']; omega) hold hio
  have hsz : ({ K with w := w' } : Cx).w.heap.size - 1 = K.w.heap.size := by show w'.heap.size - 1 = _; rw [hsz']; omega
  have hlt : ∀ b y q n, h b = some y → K.β b = some (q, n) → q < K.w.heap.size := fun b y q n hb hβ => by
    have := (g.blk b y hb).2
    rw [hβ] at this
    obtain ⟨_, _, _, _, hb⟩ := this
    exact hb.lt
  obtain ⟨hle2, g2, hβ⟩ := g1.new hk (x := x) (cs := cs) (e := e) (lo := lo) (hi := hi) (by rw [hsz]; exact hnew') hf (by show 0 < w'.heap.size; omega)
    (by rw [hsz]; exact g.grow) (by rw [hsz]; exact fun h => absurd (g.sz _ h) (by omega)) (fun b y n hb hβ => by rw [hsz] at hβ; exact absurd (hlt b y _ n hb hβ) (by omega)) hs h1 hl (fun i j v y h1 h2 => (hv i j v y h1 h2).mono (hle1.blk x))
  exact ⟨_, rfl, hle1.trans hle2, g2, .inr rfl, by rw [hβ, hsz]⟩
theorem Good.push {B : Bs} {U : Nat → Prop} {K : Cx} {h : Nat → Option Blk} (g : Good B U K h) {k : Nat} (hk : ¬ U k) {x : Blk} (cs : Array Value) (e : TypeId) (w' : World) (hd : w'.heap = (pushW K.w cs e).heap) (hio : Io K.w w')
    (hs : ∀ c ∈ x.es, c.length = x.sz) (h1 : ∀ c ∈ x.es, ones c = true) (hl : x.es.length * x.sz ≤ cs.size) (hv : ∀ (i j : Nat) (v : V) (y : Value), at2 x.es i j = some v → cs[i * x.sz + j]? = some y → VR (x.K K) v y) :
    ∃ K' : Cx, K'.w = w' ∧ Le K K' ∧ Good B (fun b => U b ∨ b = k) K' (set h k (some x)) ∧ K'.N k ∧ K'.β k = some (K.w.heap.size, cs.size) :=
  g.pushG hk cs e 0 0 w' (by rw [hd, pushW_size]) (fun q hq => by rw [hd]; exact pushW_old hq) (by rw [hd]; exact pushW_new _ _ _) (fun j _ h => by omega) hio hs h1 hl hv
end Go.Ev
end

section
set_option linter.unusedVariables false
set_option linter.unusedSimpArgs false
set_option linter.unnecessarySimpa false
namespace Go.Ev
open Go

theorem bnd_eq {α β : Type} {x : Option α} {f : α → Option β} {y : β} (h : bnd x f = some y) : ∃ a, x = some a ∧ f a = some y := by
  cases x with
  | none => cases h
  | some a => exact ⟨a, rfl, h⟩
theorem grd_eq {α : Type} {p : Prop} [Decidable p] {x : Option α} {y : α} (h : grd p x = some y) : p ∧ x = some y := by
  unfold grd at h
  split at h
  · rename_i hp; exact ⟨hp, h⟩
  · cases h
theorem cnd_eq {α : Type} {b : Bool} {x y : Option α} {z : α} (h : cnd b x y = some z) : (b = true ∧ x = some z) ∨ (b = false ∧ y = some z) := by
  cases b with
  | true => exact .inl ⟨rfl, h⟩
  | false => exact .inr ⟨rfl, h⟩

def TR (K : Cx) (tm : Nat → Option V) (a : Act) : Prop := ∀ t v, tm t = some v → VR K v (a.tmps.getD t undef)

theorem ofVals_sound {K : Cx} : ∀ {xs : List Value} {vs : List V}, ofVals xs = some vs → VRl K vs xs
  | [], vs, h => by cases h; exact .nil
  | x :: r, vs, h => by
    unfold ofVals at h
    rcases cnd_eq h with ⟨h1, h2⟩ | ⟨_, h2⟩
    · obtain ⟨l, hl, h3⟩ := bnd_eq h2
      cases h3
      exact .cons (.lit h1) (ofVals_sound hl)
    · cases h2
theorem ofVal_sound {K : Cx} {x : Value} {v : V} (h : ofVal x = some v) : VR K v x := by
  cases x
  case agg cs =>
    obtain ⟨l, hl, h3⟩ := bnd_eq h
    cases h3
    exact (ofVals_sound hl).agg
  case tuple => cases h
  all_goals (cases h; exact .lit rfl)
theorem opd_sound {K : Cx} {tm : Nat → Option V} {a : Act} (hT : TR K tm a) {x : Operand} {v : V} (h : opd tm x = some v) : VR K v (a.eval x) := by
  cases x with
  | tmp t => exact hT t v h
  | const c => exact ofVal_sound h
  | global g => cases h
  | func f => cases h; exact VR.fn (xs := #[]) rfl (fun _ _ _ h => by cases h)
theorem opds_sound {K : Cx} {tm : Nat → Option V} {a : Act} (hT : TR K tm a) : ∀ {l : List Operand} {vs : List V}, opds tm l = some vs → VRl K vs (l.map a.eval)
  | [], vs, h => by cases h; exact .nil
  | x :: r, vs, h => by
    obtain ⟨v, hv, h2⟩ := bnd_eq h
    obtain ⟨us, hu, h3⟩ := bnd_eq h2
    cases h3
    exact .cons (opd_sound hT hv) (opds_sound hT hu)

/-! ### Types -/
theorem info_of_underlying {P : Program} {t : Nat} {d : TypeDesc} (h : P.underlying t = some d) : ∃ i, P.info? t = some i := by
  unfold Program.underlying at h
  cases hi : P.info? t with
  | none => rw [hi] at h; cases h
  | some i => exact ⟨i, rfl⟩
theorem run_sizeOf' {P : Program} {t : Nat} {i : TypeInfo} (h : P.info? t = some i) (w : World) : (sizeOf t).run P w = .ok (tsz P t) w := by
  simp [sizeOf, typeInfo, tsz, h]
theorem tagg_run {P : Program} {t : Nat} {ag : Bool} (h : tagg P t = some ag) (w : World) : (isAgg t).run P w = .ok ag w ∧ (sizeOf t).run P w = .ok (tsz P t) w := by
  unfold tagg at h
  cases hu : P.underlying t with
  | none => rw [hu] at h; cases h
  | some d =>
    obtain ⟨i, hi⟩ := info_of_underlying hu
    refine ⟨?_, run_sizeOf' hi w⟩
    rw [hu] at h
    simp only [isAgg, Sem.run_bind, run_underlying hu, Result.andThen_ok]
    cases d <;> (simp only [Option.some.injEq] at h; subst h; rfl)

/-! ### Loads -/
theorem mkV_sound {K : Cx} {ag : Bool} {vs : List V} {xs : List Value} {v : V} (h : mkV ag vs = some v) (hv : VRl K vs xs) : (ag = true ∧ VR K v (.agg xs.toArray)) ∨ (ag = false ∧ ∃ x, xs = [x] ∧ VR K v x) := by
  unfold mkV at h
  cases ag with
  | true => cases h; exact .inl ⟨rfl, VRl.agg (by simpa using hv)⟩
  | false =>
    refine .inr ⟨rfl, ?_⟩
    simp only [Bool.false_eq_true, if_false] at h
    split at h
    · rename_i u
      cases h
      obtain ⟨x, r, rfl, hx, hr⟩ := hv.inv
      rw [hr.inv0]; exact ⟨x, rfl, hx⟩
    · cases h
theorem run_load_at {P : Program} {K : Cx} {t q o : Nat} {ag : Bool} {vs : List V} {xs : List Value} {v : V} (hag : tagg P t = some ag) (hl : vs.length = tsz P t) (h : mkV ag vs = some v) (hv : VRl K vs xs)
    (hc : ∀ (j : Nat) (x : Value), xs[j]? = some x → K.w.cell? ⟨q, o + j, none⟩ = some x) : ∃ y, (Instr.loadAt t (.pointer (some ⟨q, o, none⟩))).run P K.w = .ok y K.w ∧ VR K v y := by
  obtain ⟨h1, h2⟩ := tagg_run hag K.w
  rcases mkV_sound h hv with ⟨rfl, hy⟩ | ⟨rfl, x, rfl, hx⟩
  · refine ⟨_, ?_, hy⟩
    simp only [Instr.loadAt, Instr.sureAddr, loadVar, Sem.run_bind, Sem.run_pure, Result.andThen_ok, h1, if_true, h2]
    rw [← hl, hv.1, run_loadCells_list P K.w q o xs hc]
    rfl
  · refine ⟨_, ?_, hx⟩
    have h0 := hc 0 x rfl
    rw [Nat.add_zero] at h0
    simp only [Instr.loadAt, Instr.sureAddr, loadVar, Sem.run_bind, Sem.run_pure, Result.andThen_ok, h1, Bool.false_eq_true, if_false, run_load, h0]

theorem take_drop_length {α : Type} {cs : List α} {c n : Nat} (h : c + n ≤ cs.length) : ((cs.drop c).take n).length = n := by simp; omega

theorem at2_of {α : Type} {es : List (List α)} {i j : Nat} {cs : List α} {v : α} (h : es[i]? = some cs) (hj : cs[j]? = some v) : at2 es i j = some v := by simp [at2, h, hj]
theorem at2_inv {α : Type} {es : List (List α)} {i j : Nat} {v : α} (h : at2 es i j = some v) : ∃ cs, es[i]? = some cs ∧ cs[j]? = some v := by
  unfold at2 at h
  cases he : es[i]? with
  | none => rw [he] at h; cases h
  | some cs => rw [he] at h; exact ⟨cs, rfl, h⟩
theorem get_lt {α : Type} {l : List α} {i : Nat} {x : α} (h : l[i]? = some x) : i < l.length := by
  rcases Nat.lt_or_ge i l.length with h' | h'
  · exact h'
  · rw [List.getElem?_eq_none h'] at h; cases h
theorem get_mem {α : Type} {l : List α} {i : Nat} {x : α} (h : l[i]? = some x) : x ∈ l := List.mem_of_getElem? h
theorem cell_lt {i sz n c m : Nat} (hi : i < n) (hc : c + m ≤ sz) : i * sz + c + m ≤ n * sz := by
  have h1 : (i + 1) * sz ≤ n * sz := Nat.mul_le_mul_right sz hi
  rw [Nat.succ_mul] at h1
  omega

/-- The cells of one's own block at an element. -/
theorem BRs.row {K : Cx} {b : Blk} {q n : Nat} {cs : Array Value} {e : TypeId} {lo hi : Nat} (hb : BRs K b q n cs e lo hi) {i c m : Nat} {row : List V} (hr : b.es[i]? = some row) (hc : c + m ≤ row.length) :
    ∃ xs : List Value, xs.length = m ∧ (∀ (j : Nat) (x : Value), xs[j]? = some x → cs[i * b.sz + c + j]? = some x) ∧ VRl (b.K K) ((row.drop c).take m) xs := by
  have hi := get_lt hr
  have hrow : row.length = b.sz := hb.hs row (get_mem hr)
  have hlt := cell_lt (sz := b.sz) (n := b.es.length) hi (hrow ▸ hc)
  have hn : i * b.sz + c + m ≤ cs.size := by rw [hb.hn]; exact Nat.le_trans hlt hb.hl
  refine ⟨(cs.toList.drop (i * b.sz + c)).take m, by simp; omega, fun j x hx => ?_, by simp; omega, fun j v x hv hx => ?_⟩
  · rw [List.getElem?_take] at hx
    split at hx
    · rw [List.getElem?_drop] at hx; simpa using hx
    · cases hx
  · rw [List.getElem?_take] at hv hx
    split at hv
    · rename_i hj
      rw [if_pos hj] at hx
      rw [List.getElem?_drop] at hv hx
      exact hb.hv i (c + j) v x (at2_of hr hv) (by rw [← Nat.add_assoc]; simpa using hx)
    · cases hv

theorem load_sound {P : Program} {B : Bs} {U : Nat → Prop} {K : Cx} {h : Nat → Option Blk} (g : Good B U K h) {t : Nat} {p v : V} {x : Value} (hp : VR K p x) (hl : loadV P h t p = some v) :
    ∃ y, (Instr.loadAt t x).run P K.w = .ok y K.w ∧ VR K v y := by
  unfold loadV at hl
  split at hl
  · rename_i b sz i c
    obtain ⟨blk, hb, hl⟩ := bnd_eq hl
    obtain ⟨row, hr, hl⟩ := bnd_eq hl
    obtain ⟨ag, hag, hl⟩ := bnd_eq hl
    obtain ⟨⟨rfl, hle⟩, hm⟩ := grd_eq hl
    cases hp with
    | ptr hN hβ =>
      have hB := (g.blk b blk hb).2
      rw [hβ] at hB
      obtain ⟨cs, e, lo, hi, hB⟩ := hB
      obtain ⟨xs, hxl, hxc, hxv⟩ := hB.row hr hle
      exact run_load_at hag (take_drop_length hle) hm (hxv.mono (blk.K_le K)) (fun j x hx => by rw [cell_of_row hB.hw]; exact hxc j x hx)
  · rename_i fl sz es i c
    obtain ⟨row, hr, hl⟩ := bnd_eq hl
    obtain ⟨ag, hag, hl⟩ := bnd_eq hl
    obtain ⟨hle, hm⟩ := grd_eq hl
    cases hp with
    | @cel _ _ _ b o _ _ _ hS hsz _ hc hr' =>
      have hrow : row.length = sz := hsz row (get_mem hr)
      let f : Nat → Value := fun j => (K.w.cell? ⟨b, o + i * sz + c + j, none⟩).getD undef
      have hf : ∀ j, j < tsz P t → ∀ v, row[c + j]? = some v → K.w.cell? ⟨b, o + i * sz + c + j, none⟩ = some (f j) := fun j hj v hv => by
        obtain ⟨x, hx⟩ := hc i (c + j) v (at2_of hr hv)
        rw [← Nat.add_assoc] at hx
        simp [f, hx]
      have hget : ∀ j, j < tsz P t → ∃ v, row[c + j]? = some v := fun j hj => ⟨_, List.getElem?_eq_getElem (by omega)⟩
      refine run_load_at (xs := (List.range (tsz P t)).map f) hag (take_drop_length hle) hm ⟨by simp; omega, fun j v x hv hx => ?_⟩ (fun j x hx => ?_)
      · rw [List.getElem?_take] at hv
        split at hv
        · rename_i hj
          rw [List.getElem?_drop] at hv
          rw [List.getElem?_map, List.getElem?_range hj] at hx
          cases hx
          refine (hr' i (c + j) v _ (at2_of hr hv) ?_).mono (K.clo_le _)
          rw [← Nat.add_assoc]; exact hf j hj v hv
        · cases hv
      · have hj := get_lt hx
        simp only [List.length_map, List.length_range] at hj
        rw [List.getElem?_map, List.getElem?_range hj] at hx
        cases hx
        obtain ⟨v, hv⟩ := hget j hj
        exact hf j hj v hv
  · cases hl
end Go.Ev
end

section
set_option linter.unusedVariables false
set_option linter.unusedSimpArgs false
set_option linter.unnecessarySimpa false
namespace Go.Ev
open Go

theorem spl_length {cs vs : List V} {c : Nat} (h : c + vs.length ≤ cs.length) : (spl cs c vs).length = cs.length := by
  simp [spl]; omega
theorem ones_append {a b : List V} (h : ones a = true) (g : ones b = true) : ones (a ++ b) = true := by
  induction a with
  | nil => exact g
  | cons v r ih => simp only [ones, Bool.and_eq_true] at h; simp only [List.cons_append, ones, Bool.and_eq_true]; exact ⟨h.1, ih h.2⟩
theorem ones_take {a : List V} (h : ones a = true) (n : Nat) : ones (a.take n) = true := by
  induction a generalizing n with
  | nil => simp [ones]
  | cons v r ih =>
    simp only [ones, Bool.and_eq_true] at h
    cases n with
    | zero => rfl
    | succ n => simp only [List.take_succ_cons, ones, Bool.and_eq_true]; exact ⟨h.1, ih h.2 n⟩
theorem ones_drop {a : List V} (h : ones a = true) (n : Nat) : ones (a.drop n) = true := by
  induction a generalizing n with
  | nil => simp [ones]
  | cons v r ih =>
    simp only [ones, Bool.and_eq_true] at h
    cases n with
    | zero => simp only [List.drop_zero, ones, Bool.and_eq_true]; exact h
    | succ n => exact ih h.2 n
theorem ones_spl {cs vs : List V} {c : Nat} (h : ones cs = true) (g : ones vs = true) : ones (spl cs c vs) = true := ones_append (ones_append (ones_take h _) g) (ones_drop h _)
theorem ones_get {a : List V} (h : ones a = true) {j : Nat} {v : V} (hj : a[j]? = some v) : v.one = true := by
  induction a generalizing j with
  | nil => simp at hj
  | cons u r ih =>
    simp only [ones, Bool.and_eq_true] at h
    cases j with
    | zero => simp at hj; subst hj; exact h.1
    | succ j => simp at hj; exact ih h.2 hj
theorem spl_get {cs vs : List V} {c : Nat} (h : c + vs.length ≤ cs.length) (j : Nat) : (spl cs c vs)[j]? = if c ≤ j ∧ j < c + vs.length then vs[j - c]? else cs[j]? := by
  unfold spl
  by_cases h1 : j < c
  · rw [if_neg (by omega), List.append_assoc, List.getElem?_append_left (by simp; omega), List.getElem?_take, if_pos h1]
  · by_cases h2 : j < c + vs.length
    · rw [if_pos (by omega), List.append_assoc, List.getElem?_append_right (by simp; omega), List.getElem?_append_left (by simp; omega)]
      congr 1; simp; omega
    · rw [if_neg (by omega), List.getElem?_append_right (by simp; omega), List.getElem?_drop]
      congr 1; simp; omega
theorem spl_wr {K : Cx} {cs vs : List V} {cur : Array Value} {xs : List Value} {c : Nat} (hc : VRl K cs cur.toList) (hv : VRl K vs xs) (h : c + vs.length ≤ cs.length) : VRl K (spl cs c vs) (wr cur c xs).toList := by
  have hl : cs.length = cur.size := by simpa using hc.1
  have hx : c + xs.length ≤ cur.size := by rw [← hv.1, ← hl]; exact h
  refine ⟨by rw [spl_length h]; simp [wr_size, hl], fun j v x h1 h2 => ?_⟩
  rw [spl_get h] at h1
  have h2' : (wr cur c xs)[j]? = some x := by simpa using h2
  rw [wr_get xs cur c j hx] at h2'
  rw [← hv.1] at h2'
  split at h1
  · rename_i hj
    rw [if_pos hj] at h2'
    exact hv.2 _ v x h1 h2'
  · rename_i hj
    rw [if_neg hj] at h2'
    exact hc.2 j v x h1 (by simpa using h2')

theorem clos_sound {K : Cx} : ∀ {vs : List V} {xs : List Value}, VRl K vs xs → clos vs = true → VRl (K.clo false) vs xs
  | [], xs, h, _ => by rw [h.inv0]; exact .nil
  | v :: r, xs, h, hc => by
    obtain ⟨x, ys, rfl, h1, h2⟩ := h.inv
    simp only [clos, Bool.and_eq_true] at hc
    exact .cons (h1.of_clo hc.1) (clos_sound h2 hc.2)
theorem flts_sound {K : Cx} (fl : Bool) : ∀ {vs : List V} {xs : List Value}, VRl K vs xs → flts vs = true → VRl (K.clo fl) vs xs
  | [], xs, h, _ => by rw [h.inv0]; exact .nil
  | v :: r, xs, h, hc => by
    obtain ⟨x, ys, rfl, h1, h2⟩ := h.inv
    simp only [flts, Bool.and_eq_true] at hc
    exact .cons (h1.of_flt hc.1 fl) (flts_sound fl h2 hc.2)

theorem row_ne {i i' sz j c m : Nat} (hne : i' ≠ i) (hj : j < sz) (hc : c + m ≤ sz) : ¬ (i * sz + c ≤ i' * sz + j ∧ i' * sz + j < i * sz + c + m) := by
  intro h
  rcases Nat.lt_or_gt_of_ne hne with h1 | h1
  · have := Nat.mul_le_mul_right sz h1
    rw [Nat.succ_mul] at this
    omega
  · have := Nat.mul_le_mul_right sz h1
    rw [Nat.succ_mul] at this
    omega

theorem store_sound {P : Program} {B : Bs} {U : Nat → Prop} {K : Cx} {h : Nat → Option Blk} (g : Good B U K h) {t : Nat} {p v : V} {x y : Value} {d : Dl} (hp : VR K p x) (hv : VR K v y) (hs : storeV P h t p v = some d) :
    ∃ K' : Cx, (Instr.storeAt t x y).run P K.w = .ok () K'.w ∧ Le K K' ∧ Good B U K' (putU h d.up) ∧ d.nb = [] ∧ d.v = none := by
  unfold storeV at hs
  split at hs
  · rename_i b sz i c
    obtain ⟨blk, hb, hs⟩ := bnd_eq hs
    obtain ⟨row, hr, hs⟩ := bnd_eq hs
    obtain ⟨ag, hag, hs⟩ := bnd_eq hs
    obtain ⟨⟨rfl, hlen, hle⟩, hs2⟩ := grd_eq hs
    obtain ⟨hk, hs3⟩ := (cnd_eq hs2).resolve_right (fun h => by cases h.2)
    cases hs3
    simp only [Bool.and_eq_true, Bool.or_eq_true, Bool.not_eq_true'] at hk
    obtain ⟨hone, hkind⟩ := hk
    cases hp with
    | @ptr _ _ _ _ _ q n hN hβ =>
      have hB := (g.blk b blk hb).2
      rw [hβ] at hB
      obtain ⟨cs, e, lo, hi, hB⟩ := hB
      have hi' := get_lt hr
      have hrow : row.length = blk.sz := hB.hs row (get_mem hr)
      have hyl : y.cells.toList.length = tsz P t := by rw [← hv.cells.1, hlen]
      have hfit : i * blk.sz + c + y.cells.toList.length ≤ cs.size := by
        rw [hyl, hB.hn]; exact Nat.le_trans (cell_lt hi' (hrow ▸ hle)) hB.hl
      obtain ⟨h1, h2⟩ := tagg_run hag K.w
      have hrun := run_storeCells_own P q (i * blk.sz + c) e lo hi y.cells.toList 0 cs K.w hB.hw (by rw [hB.hn]; exact hB.hf) (by simpa using hfit) (hv.cells.ones hone)
      rw [Nat.add_zero] at hrun
      have hnS := g.apart b blk q n hb hβ
      let w' := rowW K.w q (wr cs (i * blk.sz + c) y.cells.toList) e (lo, hi)
      let K' : Cx := { K with w := w' }
      have hLe : Le K K' := ⟨fun _ h => h, fun _ h => h, fun _ _ => rfl, fun p o hp => cell_congr (rowW_other (fun he => hnS (by rw [← he]; exact hp))) o⟩
      have hrunS : (Instr.storeAt t (.pointer (some ⟨q, i * blk.sz + c, none⟩)) y).run P K.w = .ok () K'.w := by
        simp only [Instr.storeAt, Instr.sureAddr, storeVar, Sem.run_bind, Sem.run_pure, Result.andThen_ok, h2]
        rw [if_neg (by simpa using hyl)]
        exact hrun
      have hvK : VRl (blk.K K') v.cells y.cells.toList := by
        have h0 := hv.cells
        have : VRl (blk.K K) v.cells y.cells.toList := by
          unfold Blk.K
          rcases hkind with hbox | ⟨hcl, hfl⟩
          · rw [if_pos hbox]; exact h0
          · split
            · exact h0
            · cases hf : blk.fl with
              | false => exact clos_sound h0 hcl
              | true =>
                rcases hfl with hfl | hfl
                · rw [hf] at hfl; cases hfl
                · exact flts_sound true h0 hfl
        exact this.mono (hLe.blk blk)
      refine ⟨K', hrunS, hLe, ?_, rfl, rfl⟩
      show Good B U K' (set h b (some { blk with es := blk.es.set i (spl row c v.cells) }))
      have hsame : ∀ b' z, set h b (some { blk with es := blk.es.set i (spl row c v.cells) }) b' = some z → ∃ z', h b' = some z' := fun b' z hz => by
        by_cases hbb : b' = b
        · subst hbb; exact ⟨blk, hb⟩
        · rw [set_ne hbb] at hz; exact ⟨z, hz⟩
      have hsp := spl_length (cs := row) (vs := v.cells) (c := c) (by rw [hlen]; exact hle)
      exact {
        blk := fun b' z hz => by
          by_cases hbb : b' = b
          · subst hbb
            rw [set_same] at hz
            obtain rfl := Option.some.inj hz
            refine ⟨(g.blk b' blk hb).1, ?_⟩
            show BR K' _ (K.β b')
            rw [hβ]
            refine ⟨_, e, lo, hi, { hw := rowW_heap hB.hw, hn := by rw [wr_size]; exact hB.hn, hf := hB.hf, hs := fun r hr' => ?_, h1 := fun r hr' => ?_, hl := by simpa using hB.hl, hv := fun i' j v' x' h3 h4 => ?_ }⟩
            · rcases List.mem_or_eq_of_mem_set hr' with h' | rfl
              · exact hB.hs r h'
              · rw [hsp]; exact hrow
            · rcases List.mem_or_eq_of_mem_set hr' with h' | rfl
              · exact hB.h1 r h'
              · exact ones_spl (hB.h1 row (get_mem hr)) hone
            · show VR (Blk.K K' blk) v' x'
              obtain ⟨r, h5, h6⟩ := at2_inv h3
              replace h4 : (wr cs (i * blk.sz + c) y.cells.toList)[i' * blk.sz + j]? = some x' := h4
              rw [wr_get _ _ _ _ hfit] at h4
              replace h5 : (blk.es.set i (spl row c v.cells))[i']? = some r := h5
              by_cases hii : i' = i
              · subst hii
                rw [List.getElem?_set_self hi'] at h5
                obtain rfl := Option.some.inj h5
                rw [spl_get (by rw [hlen]; exact hle)] at h6
                split at h6
                · rename_i hj
                  rw [if_pos (by rw [← hv.cells.1]; omega)] at h4
                  exact hvK.2 _ v' x' h6 (by rw [show j - c = i' * blk.sz + j - (i' * blk.sz + c) by omega]; exact h4)
                · rename_i hj
                  rw [if_neg (by rw [← hv.cells.1]; omega)] at h4
                  exact (hB.hv i' j v' x' (at2_of hr h6) h4).mono (hLe.blk blk)
              · rw [List.getElem?_set_ne (fun e => hii e.symm)] at h5
                have hj : j < blk.sz := by have := get_lt h6; rwa [hB.hs r (get_mem h5)] at this
                rw [if_neg (row_ne hii hj (by rw [hyl]; exact hrow ▸ hle))] at h4
                exact (hB.hv i' j v' x' (at2_of h5 h6) h4).mono (hLe.blk blk)
          · rw [set_ne hbb] at hz
            refine ⟨(g.blk b' z hz).1, (g.blk b' z hz).2.mono hLe fun q' n' hq' => rowW_other fun e => ?_⟩
            subst e
            exact hbb (g.inj b' z b blk q' n' n hz hb hq' hβ)
        inj := fun b1 z1 b2 z2 q' n1 n2 h3 h4 h5 h6 => by
          obtain ⟨z1', h3'⟩ := hsame b1 z1 h3
          obtain ⟨z2', h4'⟩ := hsame b2 z2 h4
          exact g.inj b1 z1' b2 z2' q' n1 n2 h3' h4' h5 h6
        apart := fun b1 z1 q' n1 h3 h4 => by obtain ⟨z', h3'⟩ := hsame b1 z1 h3; exact g.apart b1 z' q' n1 h3' h4
        sz := fun p hp => by show p < (rowW _ _ _ _ _).heap.size; rw [rowW_size]; exact g.sz p hp
        N := g.N
        grow := by show _ ≤ (rowW _ _ _ _ _).heap.size; rw [rowW_size]; exact g.grow
        io := g.io
        frame := fun p hp hn => by
          show (rowW _ _ _ _ _).heap[p]? = _
          rw [rowW_other (fun e => ?_)]
          · exact g.frame p hp hn
          · subst e
            rcases g.own b blk p n hb hβ with h' | h'
            · exact hn h'
            · omega
        inp := g.inp
        own := fun b1 z1 q' n1 h3 h4 => by obtain ⟨z', h3'⟩ := hsame b1 z1 h3; exact g.own b1 z' q' n1 h3' h4
        S0 := g.S0
        S1 := g.S1 }
  · cases hs

/-! ### New variables -/
theorem at2_one {α : Type} {cs : List α} {i j : Nat} {v : α} (h : at2 [cs] i j = some v) : i = 0 ∧ cs[j]? = some v := by
  obtain ⟨c, h1, h2⟩ := at2_inv h
  cases i with
  | zero => simp at h1; subst h1; exact ⟨rfl, h2⟩
  | succ i => simp at h1
theorem newVar_sound {P : Program} {B : Bs} {U : Nat → Prop} {K : Cx} {h : Nat → Option Blk} (g : Good B U K h) {k : Nat} (hk : ¬ U k) {t : Nat} {v : V} {y : Value} (hv : VR K v y) (h1 : ones v.cells = true) :
    ∃ (K' : Cx) (x : Value), (do pure (Value.pointer (some (← newVar t y))) : Sem Value).run P K.w = .ok x K'.w ∧ Le K K' ∧ Good B (fun b => U b ∨ b = k) K' (set h k (some ⟨true, false, v.cells.length, [v.cells]⟩)) ∧ VR K' (.ptr k v.cells.length 0 0) x := by
  have hc := hv.cells
  have hcl : v.cells.length = y.cells.size := by simpa using hc.1
  obtain ⟨K', hw, hle, hg, hN, hβ⟩ := g.push hk (x := ⟨true, false, v.cells.length, [v.cells]⟩) y.cells t (pushW K.w y.cells t) rfl ⟨rfl, rfl, rfl⟩ (fun c hc' => by simp at hc'; rw [hc']) (fun c hc' => by simp at hc'; rw [hc']; exact h1) (by simp [hcl]) (fun i j v' x' h1 h2 => by
    obtain ⟨rfl, h3⟩ := at2_one h1
    simp only [Nat.zero_mul, Nat.zero_add] at h2
    exact hc.2 j v' x' h3 (by simpa using h2))
  refine ⟨K', .pointer (some ⟨K.w.heap.size, 0, none⟩), ?_, hle, hg, ?_⟩
  · rw [hw]; simp only [newVar, newRow, Sem.run_bind, run_newObj, Sem.run_pure, Result.andThen_ok]; rfl
  · have := VR.ptr (K := K') (sz := v.cells.length) (i := 0) (c := 0) hN hβ
    simpa using this

/-! ### Building -/
theorem fill_wr : ∀ (xs : List Value) (cs : Array Value) (o j : Nat), (xs.zipIdx j).foldl (fun cs (c, j) => cs.setIfInBounds (o + j) c) cs = wr cs (o + j) xs
  | [], _, _, _ => rfl
  | x :: r, cs, o, j => by
    simp only [List.zipIdx_cons, List.foldl_cons, wr]
    rw [fill_wr r _ o (j + 1), Nat.add_assoc]
theorem fill_sound {K : Cx} {tm : Nat → Option V} {a : Act} (hT : TR K tm a) (pl : List (Nat × Nat)) : ∀ (parts : List (Nat × Operand)) (cs : List V) (cur : Array Value) (out : List V), VRl K cs cur.toList → fill tm pl parts cs = some out →
    ∃ res, Instr.fill (fun i => pl[i]?) cur (parts.map fun (i, x) => (i, a.eval x)) = some res ∧ VRl K out res.toList
  | [], cs, cur, out, hc, h => by cases h; exact ⟨cur, rfl, hc⟩
  | (i, x) :: r, cs, cur, out, hc, h => by
    obtain ⟨fo, hfo, h⟩ := bnd_eq h
    obtain ⟨v, hv, h⟩ := bnd_eq h
    obtain ⟨⟨h1, h2⟩, h⟩ := grd_eq h
    have hx := (opd_sound hT hv).cells
    have hl : cs.length = cur.size := by simpa using hc.1
    have hxs : v.cells.length = (a.eval x).cells.size := by simpa using hx.1
    obtain ⟨res, h3, h4⟩ := fill_sound hT pl r (spl cs fo.1 v.cells) (wr cur fo.1 (a.eval x).cells.toList) out (spl_wr hc hx h2) h
    refine ⟨res, ?_, h4⟩
    obtain ⟨off, size⟩ := fo
    simp only [List.map_cons, Instr.fill, hfo]
    rw [if_neg (by simp only [Bool.or_eq_true, decide_eq_true_eq, not_or]; simp only [bne_iff_ne, ne_eq] at *; exact ⟨by rw [← hxs, h1]; simp, by rw [← hxs, ← hl]; simpa using h2⟩)]
    rw [← h3]
    congr 1
    have := fill_wr (a.eval x).cells.toList cur off 0
    rw [Nat.add_zero] at this
    rw [← this, ← Array.foldl_toList]
    simp
theorem build_sound {P : Program} {K : Cx} {tm : Nat → Option V} {a : Act} (hT : TR K tm a) {t : Nat} {pl : List (Nat × Nat)} {z : V} {parts : Array (Nat × Operand)} {cs : List V} (hpl : tplaces P t = some pl) (hz : tzero P t = some z) (hf : fill tm pl parts.toList z.cells = some cs) :
    ∃ y, (Instr.build t (parts.map fun (i, x) => (i, a.eval x))).run P K.w = .ok y K.w ∧ VR K (.agg cs) y := by
  obtain ⟨zv, hzv, hz⟩ := bnd_eq hz
  cases hi : P.info? t with
  | none => rw [hi] at hzv; cases hzv
  | some it =>
    rw [hi] at hzv
    replace hzv : it.zero = some zv := hzv
    unfold tplaces at hpl
    cases hu : P.underlying t with
    | none => rw [hu] at hpl; cases hpl
    | some d =>
      rw [hu] at hpl
      cases d <;> first | (cases hpl; done) | skip
      rename_i fs
      simp only at hpl
      obtain ⟨res, h1, h2⟩ := fill_sound hT pl parts.toList z.cells zv.cells cs (ofVal_sound hz).cells hf
      refine ⟨.agg res, run_build K.w t _ res ?_, h2.agg⟩
      unfold Program.built
      have e : (parts.map fun (i, x) => (i, a.eval x)).toList = parts.toList.map fun (i, x) => (i, a.eval x) := Array.toList_map ..
      have e2 : (fun x : Nat => pl.toArray[x]?) = fun i : Nat => pl[i]? := by funext i; simp
      simp only [hi, hu, hzv, hpl]
      rw [e, e2, ← h1]
end Go.Ev
end

section
set_option linter.unusedVariables false
set_option linter.unusedSimpArgs false
set_option linter.unnecessarySimpa false
namespace Go.Ev
open Go

/-! ## '==' of structs -/
theorem run_part {P : Program} {t : Nat} {ag : Bool} (hag : tagg P t = some ag) (cs : Array Value) (off : Nat) (w : World) :
    (part t cs off).run P w = if ag then .ok (.agg (cs.extract off (off + tsz P t))) w else match cs[off]? with | some v => .ok v w | none => .halt (.stuck "part: no such cell") w := by
  obtain ⟨h1, h2⟩ := tagg_run hag w
  simp only [part, Sem.run_bind, h1, Result.andThen_ok]
  cases ag with
  | true => simp [h2]
  | false =>
    simp only [Bool.false_eq_true, if_false]
    cases cs[off]? <;> rfl
theorem cellsEq_len : ∀ {ks : List Nat} {x y : List V} {b : Bool}, cellsEq ks x y = some b → x.length = ks.length ∧ y.length = ks.length
  | [], x, y, b, h => by
    cases x with
    | nil => cases y with
      | nil => exact ⟨rfl, rfl⟩
      | cons _ _ => simp [cellsEq] at h
    | cons u _ => cases u <;> simp [cellsEq] at h
  | k :: ks, x, y, b, h => by
    cases x with
    | nil => simp [cellsEq] at h
    | cons u x => cases y with
      | nil => cases u <;> simp [cellsEq] at h
      | cons v y =>
        cases u <;> cases v <;> first | (simp [cellsEq] at h; done) | skip
        obtain ⟨r, _, h⟩ := bnd_eq h
        obtain ⟨q, hq, _⟩ := bnd_eq h
        have := cellsEq_len hq
        simp [this.1, this.2]
theorem cellsEq_append : ∀ {k1 k2 : List Nat} {x y : List V} {b : Bool}, cellsEq (k1 ++ k2) x y = some b →
    ∃ r q, cellsEq k1 (x.take k1.length) (y.take k1.length) = some r ∧ cellsEq k2 (x.drop k1.length) (y.drop k1.length) = some q ∧ b = (r && q)
  | [], k2, x, y, b, h => ⟨true, b, by simp [cellsEq], h, by simp⟩
  | k :: k1, k2, x, y, b, h => by
    cases x with
    | nil => simp [cellsEq] at h
    | cons u x => cases y with
      | nil => cases u <;> simp [cellsEq] at h
      | cons v y =>
        cases u <;> cases v <;> first | (simp [cellsEq] at h; done) | skip
        obtain ⟨r, hr, h⟩ := bnd_eq h
        obtain ⟨q, hq, h⟩ := bnd_eq h
        cases h
        obtain ⟨r1, q1, h1, h2, rfl⟩ := cellsEq_append hq
        refine ⟨r && r1, q1, ?_, by simpa using h2, by rw [Bool.and_assoc]⟩
        simp only [List.length_cons, List.take_succ_cons, cellsEq]
        rw [hr]
        show bnd (cellsEq k1 _ _) _ = _
        rw [h1]
        rfl

theorem VRl.lit1 {K : Cx} {u : Value} {x : List V} {xs : List Value} (h : VRl K (.lit u :: x) xs) : ∃ r, xs = u :: r ∧ VRl K x r := by
  obtain ⟨y, r, rfl, h1, h2⟩ := h.inv
  cases h1
  exact ⟨r, rfl, h2⟩

def ofCells (ag : Bool) (xs : List Value) : Value := if ag then .agg xs.toArray else xs.headD undef

theorem eqT_lit {P : Program} {d t : Nat} {k : Nat} {desc : TypeDesc} (hu : P.underlying t = some desc) (hk : (k = 0 ∧ ∃ i, desc = .int i) ∨ (k = 1 ∧ desc = .bool) ∨ (k = 2 ∧ desc = .string))
    {a b : Value} {r : Bool} (h : litEq k a b = some r) (w : World) : (Op.equalIn (d + 1) t a b).run P w = .ok r w := by
  rcases hk with ⟨rfl, i, rfl⟩ | ⟨rfl, rfl⟩ | ⟨rfl, rfl⟩
  · cases a <;> cases b <;> first | (simp [litEq] at h; done) | skip
    simp only [litEq] at h
    split at h
    · rename_i hk; subst hk; cases h; exact run_equalIn_int w d t _ _ _ _ hu
    · cases h
  · cases a <;> cases b <;> first | (simp [litEq] at h; done) | skip
    cases h; exact run_equalIn_bool w d t _ _ hu
  · cases a <;> cases b <;> first | (simp [litEq] at h; done) | skip
    cases h; exact run_equalIn_string w d t _ _ hu

theorem cells1 {K : Cx} {k : Nat} {vs ws : List V} {xs ys : List Value} {b : Bool} (hv : VRl K vs xs) (hw : VRl K ws ys) (h : cellsEq [k] vs ws = some b) : ∃ x y, xs = [x] ∧ ys = [y] ∧ litEq k x y = some b := by
  cases vs with
  | nil => simp [cellsEq] at h
  | cons u x => cases ws with
    | nil => cases u <;> simp [cellsEq] at h
    | cons v y =>
      cases u <;> cases v <;> first | (simp [cellsEq] at h; done) | skip
      obtain ⟨r, hr, h⟩ := bnd_eq h
      obtain ⟨q, hq, h⟩ := bnd_eq h
      cases h
      obtain ⟨r1, rfl, h1⟩ := hv.lit1
      obtain ⟨r2, rfl, h2⟩ := hw.lit1
      have hl := cellsEq_len hq
      have e1 := List.length_eq_zero_iff.1 hl.1
      have e2 := List.length_eq_zero_iff.1 hl.2
      subst e1; subst e2
      rw [h1.inv0, h2.inv0]
      cases hq
      exact ⟨_, _, rfl, rfl, by rw [hr, Bool.and_true]⟩

def EqOK (P : Program) (K : Cx) (w : World) (D t : Nat) (ks : List Nat) : Prop := ∀ (ag : Bool) (vs ws : List V) (xs ys : List Value) (b : Bool), tagg P t = some ag → VRl K vs xs → VRl K ws ys → cellsEq ks vs ws = some b →
    (Op.equalIn D t (ofCells ag xs) (ofCells ag ys)).run P w = .ok b w ∧ ks.length = tsz P t

theorem eqFs_sound (P : Program) (K : Cx) (w : World) (D : Nat) (g : Nat → Option (List Nat)) (hg : ∀ t ks, g t = some ks → EqOK P K w D t ks) : ∀ (fs : List Field) (o : Nat) (ks : List Nat), eqFs P g fs o = some ks → ∀ (vs ws : List V) (xs ys : List Value) (b : Bool), VRl K vs xs → VRl K ws ys → cellsEq ks (vs.drop o) (ws.drop o) = some b →
    (Op.eqFields D xs.toArray ys.toArray fs).run P w = .ok b w
  | [], o, ks, h, vs, ws, xs, ys, b, hv, hw, hc => by
    cases h
    have hl := cellsEq_len hc
    have e1 := List.length_eq_zero_iff.1 hl.1
    have e2 := List.length_eq_zero_iff.1 hl.2
    rw [e1, e2] at hc
    cases hc
    simp [Op.eqFields]
  | f :: r, o, ks, h, vs, ws, xs, ys, b, hv, hw, hc => by
    unfold eqFs at h
    obtain ⟨⟨hn, rfl, hs⟩, h⟩ := grd_eq h
    obtain ⟨k1, hk1, h⟩ := bnd_eq h
    obtain ⟨k2, hk2, h⟩ := bnd_eq h
    obtain ⟨hpos, h⟩ := grd_eq h
    cases h
    obtain ⟨ag, hag⟩ := Option.isSome_iff_exists.1 hs
    obtain ⟨r1, q1, h1, h2, rfl⟩ := cellsEq_append hc
    have hl := cellsEq_len h1
    have hv1 := (hv.drop f.offset).take k1.length
    have hw1 := (hw.drop f.offset).take k1.length
    obtain ⟨hrun, hsz⟩ := hg f.type k1 hk1 ag _ _ _ _ r1 hag hv1 hw1 h1
    have hrest := eqFs_sound P K w D g hg r (f.offset + k1.length) k2 hk2 vs ws xs ys q1 hv hw (by simpa [List.drop_drop] using h2)
    have hx1 : ((xs.drop f.offset).take k1.length).length = k1.length := by rw [← hv1.1]; exact hl.1
    have hy1 : ((ys.drop f.offset).take k1.length).length = k1.length := by rw [← hw1.1]; exact hl.2
    have hpart : ∀ zs : List Value, ((zs.drop f.offset).take k1.length).length = k1.length → (part f.type zs.toArray f.offset).run P w = .ok (ofCells ag ((zs.drop f.offset).take k1.length)) w := fun zs hz => by
      rw [run_part hag]
      cases ag with
      | true =>
        simp only [if_true, ofCells, ← hsz]
        congr 2
        apply Array.ext'
        simp
      | false =>
        simp only [Bool.false_eq_true, if_false, ofCells]
        cases hzz : (zs.drop f.offset).take k1.length with
        | nil => rw [hzz] at hz; simp at hz; omega
        | cons z rest =>
          have : zs[f.offset]? = some z := by
            have h0 : ((zs.drop f.offset).take k1.length)[0]? = some z := by rw [hzz]; rfl
            rw [List.getElem?_take, if_pos hpos, List.getElem?_drop, Nat.add_zero] at h0
            exact h0
          simp [this]
    rw [Op.eqFields, if_pos hn]
    simp only [Sem.run_bind, hpart xs hx1, hpart ys hy1, Result.andThen_ok, hrun]
    cases r1 with
    | false => simp
    | true => simpa using hrest

theorem eqT_sound (P : Program) (K : Cx) (w : World) : ∀ (d t : Nat) (ks : List Nat), eqT P d t = some ks → ∀ e, EqOK P K w (e + d) t ks
  | 0, t, ks, h, _ => by cases h
  | d + 1, t, ks, h, e => by
    intro ag vs ws xs ys b hag hv hw hc
    unfold eqT at h
    cases hu : P.underlying t with
    | none => rw [hu] at h; cases h
    | some desc =>
      rw [hu] at h
      unfold tagg at hag
      rw [hu] at hag
      cases desc <;> first | (cases h; done) | skip
      case int i =>
        obtain ⟨h1, h⟩ := grd_eq h
        cases h; cases hag
        obtain ⟨x, y, rfl, rfl, h2⟩ := cells1 hv hw hc
        exact ⟨eqT_lit hu (.inl ⟨rfl, _, rfl⟩) h2 w, h1.symm⟩
      case bool =>
        obtain ⟨h1, h⟩ := grd_eq h
        cases h; cases hag
        obtain ⟨x, y, rfl, rfl, h2⟩ := cells1 hv hw hc
        exact ⟨eqT_lit hu (.inr (.inl ⟨rfl, rfl⟩)) h2 w, h1.symm⟩
      case string =>
        obtain ⟨h1, h⟩ := grd_eq h
        cases h; cases hag
        obtain ⟨x, y, rfl, rfl, h2⟩ := cells1 hv hw hc
        exact ⟨eqT_lit hu (.inr (.inr ⟨rfl, rfl⟩)) h2 w, h1.symm⟩
      case struct fs =>
        obtain ⟨hst, h⟩ := grd_eq h
        obtain ⟨ks', hk, h⟩ := bnd_eq h
        obtain ⟨hl, h⟩ := grd_eq h
        cases h; cases hag
        refine ⟨?_, hl⟩
        have hf : P.fieldsOf t = fs := by simp [Program.fieldsOf, hu]
        show (Op.equalIn ((e + d) + 1) t (.agg xs.toArray) (.agg ys.toArray)).run P w = _
        rw [run_equalIn_struct (P := P) w (e + d) t _ _ (by rw [hf]; exact hu) hst, hf]
        exact eqFs_sound P K w (e + d) (eqT P d) (fun t ks h => eqT_sound P K w d t ks h e) fs.toList 0 ks hk vs ws xs ys b hv hw (by simpa using hc)
end Go.Ev
end

section
set_option linter.unusedVariables false
set_option linter.unusedSimpArgs false
set_option linter.unnecessarySimpa false
namespace Go.Ev
open Go

theorem intBin_sound {P : Program} {w : World} {op : BinOp} {k : IntKind} {a b : Int} {v : Value} {t : Nat} (hop : isShift op = false) (h : intBin op k a b = some v) :
    (binOp op t (.int k a) (.int k b)).run P w = .ok v w ∧ one v = true := by
  cases op <;> first
    | (cases hop; done)
    | (cases h; done)
    | (cases h; refine ⟨?_, rfl⟩; simp [binOp, Op.intArith, Op.intCmp, Op.intBits]; done)
    | (obtain ⟨h0, h⟩ := grd_eq h; cases h; refine ⟨?_, rfl⟩; simp [binOp, Op.intDiv, h0]; done)
theorem shBin_sound {P : Program} {w : World} {op : BinOp} {k k' : IntKind} {a b : Int} {v : Value} {t : Nat} (h : shBin op k a b = some v) :
    (binOp op t (.int k a) (.int k' b)).run P w = .ok v w ∧ one v = true := by
  cases op <;> first
    | (cases h; done)
    | (obtain ⟨h0, h⟩ := grd_eq h; cases h; refine ⟨?_, rfl⟩; have h0' : ¬ b < 0 := by omega
       simp [binOp, Op.shift, h0']; done)
theorem strBin_sound {P : Program} {w : World} {op : BinOp} {a b : ByteArray} {v : Value} {t : Nat} (h : strBin op a b = some v) :
    (binOp op t (.string a) (.string b)).run P w = .ok v w ∧ one v = true := by
  cases op <;> first
    | (cases h; done)
    | (cases h; refine ⟨?_, rfl⟩; simp [binOp, Op.stringOp]; done)
    | (obtain ⟨h0, h⟩ := grd_eq h; cases h; refine ⟨?_, rfl⟩
       have e : IntKind.i64.max = 9223372036854775807 := by rfl
       have h0' : ¬ (((a.size + b.size : Nat) : Int) > IntKind.i64.max) := by rw [e]; omega
       simp only [binOp, Op.stringOp]
       rw [if_neg h0']; rfl)

theorem run_eqGuard_int {P : Program} {w : World} {op : BinOp} {t : Nat} {x y : Operand} {k k' : IntKind} {a b : Int} : (eqGuard op t x y (.int k a) (.int k' b)).run P w = .ok () w := by cases op <;> simp [eqGuard]
theorem run_eqGuard_str {P : Program} {w : World} {op : BinOp} {t : Nat} {x y : Operand} {a b : ByteArray} : (eqGuard op t x y (.string a) (.string b)).run P w = .ok () w := by cases op <;> simp [eqGuard]
theorem run_eqGuard_bool {P : Program} {w : World} {op : BinOp} {t : Nat} {x y : Operand} {a b : Bool} : (eqGuard op t x y (.bool a) (.bool b)).run P w = .ok () w := by cases op <;> simp [eqGuard]

theorem und_of_telem {P : Program} {t e : Nat} (h : telem P t = some e) : P.underlying t = some (.slice e) := by
  unfold telem at h
  split at h
  · cases h; assumption
  · cases h
theorem run_equalIn_nil {P : Program} {w : World} {d t e n c : Nat} {a : Option Addr} (hu : P.underlying t = some (.slice e)) : (Op.equalIn (d + 1) t (.slice a n c) (.slice none 0 0)).run P w = .ok a.isNone w := by
  cases a <;> simp [Op.equalIn, run_underlying hu]
theorem nil_sound {P : Program} {K2 : Cx} {w : World} {op : BinOp} {t e n c : Nat} {a : Option Addr} {b : Bool} {v : V} {ox oy : Operand} (hu : P.underlying t = some (.slice e)) (h : nilCmp op b = some v) (hb : b = a.isNone) :
    ∃ z, (do eqGuard op t ox oy (.slice a n c) (.slice none 0 0); binOp op t (.slice a n c) (.slice none 0 0) : Sem Value).run P w = .ok z w ∧ VR K2 v z := by
  subst hb
  have he : (Op.equalIn Op.maxDepth t (.slice a n c) (.slice none 0 0)).run P w = .ok a.isNone w := run_equalIn_nil (d := 9999) hu
  cases op <;> first | (cases h; done) | (cases h; refine ⟨_, ?_, .lit rfl⟩; simp [eqGuard, binOp, Op.equal, he])

theorem binV_sound {P : Program} {K K2 : Cx} {w : World} {te : Option (List Nat)} {t : Nat} (hte : ∀ ks, te = some ks → eqK P t = some ks) {op : BinOp} {x y v : V} {X Y : Value} {ox oy : Operand} (hx : VR K x X) (hy : VR K y Y) (h : binV P te t op x y = some v) :
    ∃ z, (do eqGuard op t ox oy X Y; binOp op t X Y : Sem Value).run P w = .ok z w ∧ VR K2 v z := by
  unfold binV at h
  split at h
  · cases hx; cases hy
    rename_i k a k' b _ _
    have hg : (eqGuard op t ox oy (.int k a) (.int k' b)).run P w = .ok () w := run_eqGuard_int
    split at h
    · obtain ⟨z, hz, h⟩ := bnd_eq h
      cases h
      obtain ⟨h1, h2⟩ := shBin_sound (P := P) (w := w) (k' := k') (t := t) hz
      exact ⟨z, by simp only [Sem.run_bind, hg, Result.andThen_ok, h1], .lit h2⟩
    · rename_i hsh
      split at h
      · rename_i hk
        subst hk
        obtain ⟨z, hz, h⟩ := bnd_eq h
        cases h
        obtain ⟨h1, h2⟩ := intBin_sound (P := P) (w := w) (t := t) (by simpa using hsh) hz
        exact ⟨z, by simp only [Sem.run_bind, hg, Result.andThen_ok, h1], .lit h2⟩
      · cases h
  · cases hx; cases hy
    rename_i a b _ _
    have hg : (eqGuard op t ox oy (.string a) (.string b)).run P w = .ok () w := run_eqGuard_str
    obtain ⟨z, hz, h⟩ := bnd_eq h
    cases h
    obtain ⟨h1, h2⟩ := strBin_sound (P := P) (w := w) (t := t) hz
    exact ⟨z, by simp only [Sem.run_bind, hg, Result.andThen_ok, h1], .lit h2⟩
  · cases hx; cases hy
    rename_i a b _ _
    have hg : (eqGuard op t ox oy (.bool a) (.bool b)).run P w = .ok () w := run_eqGuard_bool
    obtain ⟨hb, h⟩ := (cnd_eq h).resolve_right (fun h => by cases h.2)
    have hu : P.underlying t = some .bool := by
      unfold tbool at hb
      split at hb
      · assumption
      · cases hb
    cases op <;> first
      | (cases h; done)
      | (cases h; exact ⟨_, by simp only [Sem.run_bind, hg, Result.andThen_ok]; first | exact run_eql_bool w t a b hu | exact run_neq_bool w t a b hu, .lit rfl⟩)
  · obtain ⟨ks, hks, h⟩ := bnd_eq h
    obtain ⟨b, hb, h⟩ := bnd_eq h
    obtain ⟨hag, h⟩ := grd_eq h
    obtain ⟨hgd, hK⟩ := grd_eq (hte ks hks)
    cases hx with
    | agg hl1 h1 =>
      cases hy with
      | agg hl2 h2 =>
        rename_i xs ys
        have hq := (eqT_sound P K w 20 t ks hK 9980 true _ _ xs.toList ys.toList b hag ⟨hl1, h1⟩ ⟨hl2, h2⟩ hb).1
        simp only [ofCells, if_true] at hq
        have hg : (eqGuard op t ox oy (.agg xs) (.agg ys)).run P w = .ok () w := run_eqGuard_agg w op t ox oy xs ys hgd
        have hq' : (Op.equalIn 10000 t (.agg xs) (.agg ys)).run P w = .ok b w := by simpa using hq
        cases op <;> first
          | (cases h; done)
          | (cases h; exact ⟨.bool b, by simp only [Sem.run_bind, hg, Result.andThen_ok, run_eql_struct, hq'], .lit rfl⟩)
          | (cases h; exact ⟨.bool (!b), by simp only [Sem.run_bind, hg, Result.andThen_ok, run_neq_struct, hq'], .lit rfl⟩)
  · obtain ⟨e, he, h⟩ := bnd_eq h
    have hu := und_of_telem he
    cases hy
    cases hx
    exact nil_sound hu h (by simp)
  · obtain ⟨e, he, h⟩ := bnd_eq h
    have hu := und_of_telem he
    cases hy
    cases hx
    exact nil_sound hu h (by simp)
  · obtain ⟨e, he, h⟩ := bnd_eq h
    have hu := und_of_telem he
    cases hy
    cases hx
    exact nil_sound hu h (by simp)
  · obtain ⟨e, he, h⟩ := bnd_eq h
    have hu := und_of_telem he
    cases hy
    cases hx
    exact nil_sound hu h (by simp)
  · cases h
end Go.Ev
end

section
set_option linter.unusedVariables false
set_option linter.unusedSimpArgs false
set_option linter.unnecessarySimpa false
namespace Go.Ev
open Go

/-- Elements, each of sz cells, laid one behind the other. -/
structure RowsR (K : Cx) (sz : Nat) (es : List (List V)) (xs : List Value) : Prop where
  s : ∀ c ∈ es, c.length = sz
  o : ∀ c ∈ es, ones c = true
  l : xs.length = es.length * sz
  v : ∀ (i j : Nat) (v : V) (x : Value), at2 es i j = some v → xs[i * sz + j]? = some x → VR K v x

theorem RowsR.mono {K K' : Cx} {sz : Nat} {es : List (List V)} {xs : List Value} (h : RowsR K sz es xs) (hle : Le K K') : RowsR K' sz es xs := ⟨h.s, h.o, h.l, fun i j v x a b => (h.v i j v x a b).mono hle⟩
theorem RowsR.nil {K : Cx} {sz : Nat} : RowsR K sz [] [] := ⟨fun _ h => (by cases h), fun _ h => (by cases h), (by simp), fun i j v x h _ => (by simp [at2] at h)⟩
theorem at2_lt {α : Type} {es : List (List α)} {i j : Nat} {v : α} (h : at2 es i j = some v) : i < es.length := by
  obtain ⟨c, h1, _⟩ := at2_inv h; exact get_lt h1
theorem at2_append {α : Type} {es ys : List (List α)} {i j : Nat} {v : α} (h : at2 (es ++ ys) i j = some v) : (i < es.length ∧ at2 es i j = some v) ∨ (es.length ≤ i ∧ at2 ys (i - es.length) j = some v) := by
  obtain ⟨c, h1, h2⟩ := at2_inv h
  by_cases hi : i < es.length
  · rw [List.getElem?_append_left hi] at h1; exact .inl ⟨hi, at2_of h1 h2⟩
  · rw [List.getElem?_append_right (by omega)] at h1; exact .inr ⟨by omega, at2_of h1 h2⟩
theorem RowsR.cell_lt {K : Cx} {sz : Nat} {es : List (List V)} {xs : List Value} (h : RowsR K sz es xs) {i j : Nat} {v : V} (hv : at2 es i j = some v) : i * sz + j < xs.length := by
  obtain ⟨c, h1, h2⟩ := at2_inv hv
  have h3 := get_lt h2
  rw [h.s c (get_mem h1)] at h3
  have := Ev.cell_lt (sz := sz) (c := j) (m := 1) (get_lt h1) (by omega)
  rw [h.l]; omega
theorem RowsR.append {K : Cx} {sz : Nat} {es ys : List (List V)} {xs zs : List Value} (h : RowsR K sz es xs) (g : RowsR K sz ys zs) : RowsR K sz (es ++ ys) (xs ++ zs) := by
  refine ⟨fun c hc => (List.mem_append.1 hc).elim (h.s c) (g.s c), fun c hc => (List.mem_append.1 hc).elim (h.o c) (g.o c), by simp [h.l, g.l, Nat.add_mul], fun i j v x hv hx => ?_⟩
  rcases at2_append hv with ⟨hi, h1⟩ | ⟨hi, h1⟩
  · rw [List.getElem?_append_left (h.cell_lt h1)] at hx
    exact h.v i j v x h1 hx
  · have e : i * sz = es.length * sz + (i - es.length) * sz := by rw [← Nat.add_mul]; congr 1; omega
    rw [List.getElem?_append_right (by rw [h.l, e]; omega)] at hx
    exact g.v _ j v x h1 (by rw [h.l, e] at hx; rw [← hx]; congr 1; omega)
theorem RowsR.drop {K : Cx} {sz : Nat} {es : List (List V)} {xs : List Value} (h : RowsR K sz es xs) (n : Nat) : RowsR K sz (es.drop n) (xs.drop (n * sz)) := by
  refine ⟨fun c hc => h.s c (List.mem_of_mem_drop hc), fun c hc => h.o c (List.mem_of_mem_drop hc), by simp [h.l, Nat.sub_mul], fun i j v x hv hx => ?_⟩
  obtain ⟨c, h1, h2⟩ := at2_inv hv
  rw [List.getElem?_drop] at h1 hx
  exact h.v (n + i) j v x (at2_of h1 h2) (by rw [Nat.add_mul, Nat.add_assoc]; exact hx)
theorem RowsR.take {K : Cx} {sz : Nat} {es : List (List V)} {xs : List Value} (h : RowsR K sz es xs) (n : Nat) : RowsR K sz (es.take n) (xs.take (n * sz)) := by
  refine ⟨fun c hc => h.s c (List.mem_of_mem_take hc), fun c hc => h.o c (List.mem_of_mem_take hc), by simp [h.l], fun i j v x hv hx => ?_⟩
  obtain ⟨c, h1, h2⟩ := at2_inv hv
  rw [List.getElem?_take] at h1 hx
  split at h1
  · split at hx
    · exact h.v i j v x (at2_of h1 h2) hx
    · cases hx
  · cases h1
/-- What a reader of cells finds. -/
theorem rows_of_cells {K : Cx} {sz : Nat} {es : List (List V)} {w : World} {b o : Nat} (hs : ∀ c, c ∈ es → List.length c = sz) (h1 : ∀ c, c ∈ es → ones c = true) (hc : ∀ (i j : Nat) (v : V), at2 es i j = some v → ∃ x, w.cell? ⟨b, o + i * sz + j, none⟩ = some x)
    (hr : ∀ (i j : Nat) (v : V) (x : Value), at2 es i j = some v → w.cell? ⟨b, o + i * sz + j, none⟩ = some x → VR K v x) :
    ∃ xs, RowsR K sz es xs ∧ ∀ (j : Nat) (x : Value), xs[j]? = some x → w.cell? ⟨b, o + j, none⟩ = some x := by
  let f : Nat → Value := fun j => (w.cell? ⟨b, o + j, none⟩).getD undef
  have key : ∀ i j v, at2 es i j = some v → w.cell? ⟨b, o + (i * sz + j), none⟩ = some (f (i * sz + j)) := fun i j v hv => by
    obtain ⟨x, hx⟩ := hc i j v hv
    rw [Nat.add_assoc] at hx
    simp [f, hx]
  refine ⟨(List.range (es.length * sz)).map f, ⟨hs, h1, by simp, fun i j v x hv hx => ?_⟩, fun j x hx => ?_⟩
  · have h1 := get_lt hx
    simp only [List.length_map, List.length_range] at h1
    rw [List.getElem?_map, List.getElem?_range h1] at hx
    cases hx
    have := key i j v hv
    rw [← Nat.add_assoc] at this
    exact hr i j v _ hv this
  · have h1 := get_lt hx
    simp only [List.length_map, List.length_range] at h1
    rw [List.getElem?_map, List.getElem?_range h1] at hx
    cases hx
    have hsz : 0 < sz := by
      rcases Nat.eq_zero_or_pos sz with rfl | h'
      · simp at h1
      · exact h'
    have hi : j / sz < es.length := Nat.div_lt_of_lt_mul (by rw [Nat.mul_comm]; exact h1)
    have hj : j % sz < (es[j / sz]).length := by rw [hs _ (List.getElem_mem hi)]; exact Nat.mod_lt _ hsz
    have := key (j / sz) (j % sz) _ (at2_of (List.getElem?_eq_getElem hi) (List.getElem?_eq_getElem hj))
    rw [show j / sz * sz + j % sz = j by rw [Nat.mul_comm]; exact Nat.div_add_mod j sz] at this
    exact this
theorem RowsR.one {K : Cx} {sz : Nat} {es : List (List V)} {xs : List Value} (h : RowsR K sz es xs) : ∀ x ∈ xs, x.oneCell' = true := by
  intro x hx
  obtain ⟨j, hj⟩ := List.getElem?_of_mem hx
  have h1 := get_lt hj
  rw [h.l] at h1
  have hsz : 0 < sz := by
    rcases Nat.eq_zero_or_pos sz with rfl | h'
    · simp at h1
    · exact h'
  have hi : j / sz < es.length := Nat.div_lt_of_lt_mul (by rw [Nat.mul_comm]; exact h1)
  have hj' : j % sz < (es[j / sz]).length := by rw [h.s _ (List.getElem_mem hi)]; exact Nat.mod_lt _ hsz
  have hv := at2_of (List.getElem?_eq_getElem hi) (List.getElem?_eq_getElem hj')
  exact (h.v _ _ _ x hv (by rw [show j / sz * sz + j % sz = j by rw [Nat.mul_comm]; exact Nat.div_add_mod j sz]; exact hj)).one (ones_get (h.o _ (List.getElem_mem hi)) (List.getElem?_eq_getElem hj'))
theorem BRs.rows {K : Cx} {b : Blk} {q n : Nat} {cs : Array Value} {e : TypeId} {lo hi : Nat} (hb : BRs K b q n cs e lo hi) : RowsR (b.K K) b.sz b.es (cs.toList.take (b.es.length * b.sz)) := by
  refine ⟨hb.hs, hb.h1, by simp; rw [hb.hn]; exact Nat.min_eq_left hb.hl, fun i j v x hv hx => ?_⟩
  rw [List.getElem?_take] at hx
  split at hx
  · exact hb.hv i j v x hv (by simpa using hx)
  · cases hx

theorem Blk.K_slice {K : Cx} {b : Blk} (h : b.box = false) : b.K K = K.clo b.fl := by unfold Blk.K; rw [h]; rfl
theorem Cx.clo_and (K : Cx) (a b : Bool) : Le (K.clo a) (K.clo (a && b)) := ⟨fun q hq => ⟨by rw [hq.1]; rfl, hq.2⟩, fun _ h => h.elim, fun _ h => h.elim, fun _ _ _ => rfl⟩
theorem Cx.clo_and' (K : Cx) (a b : Bool) : Le (K.clo b) (K.clo (a && b)) := ⟨fun q hq => ⟨by rw [hq.1, Bool.and_false], hq.2⟩, fun _ h => h.elim, fun _ h => h.elim, fun _ _ _ => rfl⟩

theorem drop_take_cells {cs : Array Value} {m : Nat} {a b : Nat} (h : a + b ≤ m) (hm : m ≤ cs.size) (j : Nat) (x : Value) (hx : (((cs.toList.take m).drop a).take b)[j]? = some x) : cs[a + j]? = some x ∧ j < b := by
  rw [List.getElem?_take] at hx
  split at hx
  · rename_i hj
    rw [List.getElem?_drop, List.getElem?_take] at hx
    split at hx
    · exact ⟨by simpa using hx, hj⟩
    · cases hx
  · cases hx

theorem elems_sound {P : Program} {B : Bs} {U : Nat → Prop} {K : Cx} {h : Nat → Option Blk} (g : Good B U K h) {sz : Nat} {y : V} {Y : Value} {q : Bool × List (List V)} (hy : VR K y Y) (he : elems h sz y = some q) :
    ∃ news : List Value, RowsR (K.clo q.1) sz q.2 news ∧ ∀ w' : World, w'.heap = K.w.heap → (Builtin.lenOf Y).run P w' = .ok q.2.length w' ∧ (Builtin.firstCells sz q.2.length Y).run P w' = .ok news.toArray w' := by
  unfold elems at he
  split at he
  · rename_i s
    obtain ⟨rfl, he2⟩ := grd_eq he
    cases he2
    cases hy
    refine ⟨s.data.toList.map fun b => .int .u8 (b.toNat : Int), ⟨fun c hc => ?_, fun c hc => ?_, by simp [byteCells], fun i j v x hv hx => ?_⟩, fun w' _ => ⟨?_, ?_⟩⟩
    · simp only [byteCells, List.mem_map] at hc
      obtain ⟨b, _, rfl⟩ := hc; rfl
    · simp only [byteCells, List.mem_map] at hc
      obtain ⟨b, _, rfl⟩ := hc; rfl
    · obtain ⟨c, h1, h2⟩ := at2_inv hv
      simp only [byteCells, List.getElem?_map, Option.map_eq_some_iff] at h1
      obtain ⟨b, hb, rfl⟩ := h1
      cases j with
      | zero =>
        cases h2
        simp only [Nat.mul_one, Nat.add_zero, List.getElem?_map, hb, Option.map_some] at hx
        cases hx
        exact .lit rfl
      | succ j => simp at h2
    · simp [Builtin.lenOf, byteCells]
    · have e1 : (byteCells s).length = s.size := by simp [byteCells]
      have e2 : s.extract 0 s.size = s := by
        apply ByteArray.ext
        simp
      simp only [Builtin.firstCells, e1, e2, Sem.run_pure]
      congr 1
      apply Array.ext'
      simp
  · cases he
    cases hy
    exact ⟨[], .nil, fun w' _ => ⟨by simp [Builtin.lenOf], by simp [Builtin.firstCells]⟩⟩
  · cases he
    cases hy
    exact ⟨[], .nil, fun w' _ => ⟨by simp [Builtin.lenOf], by simp [Builtin.firstCells, loadCells, loadCellsFrom]⟩⟩
  · rename_i fl sz' es
    obtain ⟨rfl, he2⟩ := grd_eq he
    cases he2
    cases hy with
    | @con0 _ _ _ cap a _ =>
      refine ⟨[], .nil, fun w' _ => ⟨by simp [Builtin.lenOf], ?_⟩⟩
      cases a with
      | none => simp [Builtin.firstCells]
      | some a => simp [Builtin.firstCells, loadCells, loadCellsFrom]
    | @con _ _ _ b o cap _ hp hcap hS hsz h1' hc hr =>
      obtain ⟨xs, h1, h2⟩ := rows_of_cells hsz h1' hc hr
      refine ⟨xs, h1, fun w' hw => ⟨by simp [Builtin.lenOf], ?_⟩⟩
      simp only [Builtin.firstCells]
      rw [← h1.l]
      exact run_loadCells_list P w' b o xs fun j x hx => (cell_congr (by rw [hw]) _).trans (h2 j x hx)
  · rename_i b sz' off n
    obtain ⟨blk, hb, he⟩ := bnd_eq he
    obtain ⟨⟨hbox, rfl, hsz, hlen⟩, he2⟩ := grd_eq he
    cases he2
    have hlen' : ((blk.es.drop off).take n).length = n := by simp; omega
    cases hy with
    | @refE _ _ _ _ a hN hE =>
      refine ⟨[], by simpa using RowsR.nil, fun w' _ => ⟨by simp [Builtin.lenOf], ?_⟩⟩
      cases a with
      | none => simp [Builtin.firstCells]
      | some a => simp [Builtin.firstCells, loadCells, loadCellsFrom]
    | @ref _ _ _ _ _ q m cap hN hβ hl hn =>
      have hB := (g.blk b blk hb).2
      rw [hβ] at hB
      obtain ⟨cs, e, lo, hi, hB⟩ := hB
      have hR := (hB.rows.drop off).take n
      rw [Blk.K_slice hbox, hsz] at hR
      refine ⟨_, hR, fun w' hw => ⟨by simp only [Builtin.lenOf, hlen']; rfl, ?_⟩⟩
      have hl := hR.l
      simp only [Builtin.firstCells]
      rw [← hl]
      refine run_loadCells_list P w' q (off * sz') _ fun j x hx => ?_
      rw [cell_congr (w := K.w) (by rw [hw]), cell_of_row hB.hw]
      refine (drop_take_cells (m := blk.es.length * sz') (b := n * sz') ?_ ?_ j x hx).1
      · rw [← Nat.add_mul]; exact Nat.mul_le_mul_right _ hlen
      · rw [hB.hn]; have := hB.hl; rwa [hsz] at this
  · cases he
end Go.Ev
end

section
set_option linter.unusedVariables false
set_option linter.unusedSimpArgs false
set_option linter.unnecessarySimpa false
namespace Go.Ev
open Go

set_option maxHeartbeats 4000000 in
theorem run_append_fits {P : Program} {w : World} {t u ty e : Nat} {i : TypeInfo} (ht : P.underlying t = some (.slice e)) (hi : P.info? e = some i) (hu : tnint P u = true)
    {base : Option Addr} {sLen sCap n : Nat} {Y : Value} {news : List Value} (hlen : (Builtin.lenOf Y).run P w = .ok n w) (hf : (Builtin.firstCells i.size n Y).run P w = .ok news.toArray w) (h : sLen + n ≤ sCap) :
    (Builtin.append_ #[t, u] ty #[.slice base sLen sCap, Y]).run P w = match base with
      | some a => ((storeCells (a.add (sLen * i.size)) news).run P w).andThen fun _ w' => .ok (.slice base (sLen + n) sCap) w'
      | none => .ok (.slice base (sLen + n) sCap) w := by
  unfold tnint at hu
  cases hu' : P.underlying u with
  | none => rw [hu'] at hu; cases hu
  | some du =>
    rw [hu'] at hu
    cases base with
    | none => cases du <;> first | (cases hu; done) | (simp [Builtin.append_, run_underlying ht, run_underlying hu', sizeOf, typeInfo, hi, hlen, h, hf]; done)
    | some a => cases du <;> first | (cases hu; done) | (simp [Builtin.append_, run_underlying ht, run_underlying hu', sizeOf, typeInfo, hi, hlen, h, hf]; done)

set_option maxHeartbeats 4000000 in
theorem run_append_grows {P : Program} {w : World} {t u ty e : Nat} {i : TypeInfo} {z : Value} (ht : P.underlying t = some (.slice e)) (hi : P.info? e = some i) (hz : i.zero = some z) (hu : tnint P u = true)
    {base : Option Addr} {sLen sCap n : Nat} {Y : Value} {olds news : List Value} (hlen : ∀ w' : World, w'.heap = w.heap → (Builtin.lenOf Y).run P w' = .ok n w') (hf : ∀ w' : World, w'.heap = w.heap → (Builtin.firstCells i.size n Y).run P w' = .ok news.toArray w')
    (ho : ∀ w' : World, w'.heap = w.heap → (Builtin.firstCells i.size sLen (.slice base sLen sCap)).run P w' = .ok olds.toArray w') (h : sCap < sLen + n) (hcap : (sLen + n) * i.bytes ≤ 140737488355328) (h63 : sLen + n ≤ 140737488355328) :
    (Builtin.append_ #[t, u] ty #[.slice base sLen sCap, Y]).run P w =
      .ok (.slice (some ⟨w.heap.size, 0, none⟩) (sLen + n) (grownCap w (sLen + n) sCap e)) (w.drew.alloc (.cells (olds.toArray ++ news.toArray ++ Builtin.zeroCells z.cells (grownCap w (sLen + n) sCap e - (sLen + n))) e)) := by
  have hn : ¬ (sLen + n ≤ sCap) := by omega
  have h63' : ¬ (9223372036854775807 < ((sLen : Int) + (n : Int))) := by omega
  have h48' : ¬ (281474976710656 < Builtin.nextslicecap (sLen + n) sCap * i.bytes) := by have := growslice_fits h hcap; omega
  have hl0 := hlen w rfl
  have hf0 := hf w.drew rfl
  have ho0 := ho w.drew rfl
  unfold tnint at hu
  cases hu' : P.underlying u with
  | none => rw [hu'] at hu; cases hu
  | some du =>
    rw [hu'] at hu
    cases du <;> first | (cases hu; done) | (simp [Builtin.append_, run_underlying ht, run_underlying hu', sizeOf, typeInfo, zeroValue, hi, hz, hl0, hn, h63', h48', Question.forced, hf0, ho0, newRow, grownCap]; congr 2; rw [← Array.append_assoc]; congr 1; simp)

theorem grownCap_ge (w : World) (need old : Nat) (e : TypeId) : need ≤ grownCap w need old e := by
  simp [grownCap, Question.cut]
theorem zeroCells_size (z : Array Value) (n : Nat) : (Builtin.zeroCells z n).size = n * z.size := by simp [Builtin.zeroCells]

/-- A new number without memory: an empty slice. -/
theorem Good.new0 {B : Bs} {U : Nat → Prop} {K : Cx} {h : Nat → Option Blk} (g : Good B U K h) {k : Nat} (hk : ¬ U k) {fl : Bool} {sz : Nat} :
    ∃ K' : Cx, K'.w = K.w ∧ Le K K' ∧ Good B (fun b => U b ∨ b = k) K' (set h k (some ⟨false, fl, sz, []⟩)) ∧ K'.N k ∧ K'.β k = none := by
  let K' : Cx := { K with β := fun b => if b = k then none else K.β b, N := fun b => K.N b ∨ b = k }
  have hkN : ∀ b, K.N b → b ≠ k := fun b hb e => hk (e ▸ g.N b hb)
  have hle : Le K K' := ⟨fun _ h => h, fun _ h => .inl h, fun b hb => by simp [K', hkN b hb], fun _ _ _ => rfl⟩
  have hold : ∀ c y, c ≠ k → set h k (some ⟨false, fl, sz, []⟩) c = some y → h c = some y := fun c y hc hy => by rwa [set_ne hc] at hy
  have hβ : ∀ c, c ≠ k → K'.β c = K.β c := fun c hc => by simp [K', hc]
  have hβk : K'.β k = none := by simp [K']
  have hne : ∀ c q n, K'.β c = some (q, n) → c ≠ k := fun c q n h e => by rw [e, hβk] at h; cases h
  refine ⟨K', rfl, hle, ?_, .inr rfl, hβk⟩
  exact {
    blk := fun c y hy => by
      by_cases hc : c = k
      · subst hc
        rw [set_same] at hy
        obtain rfl := Option.some.inj hy
        exact ⟨.inr rfl, by rw [hβk]; exact ⟨rfl, rfl⟩⟩
      · have hy' := hold c y hc hy
        refine ⟨.inl (g.blk c y hy').1, ?_⟩
        rw [hβ c hc]
        exact (g.blk c y hy').2.mono hle fun _ _ _ => rfl
    inj := fun c y c' y' q n n' h1 h2 h3 h4 => by
      have hc := hne c q n h3
      have hc' := hne c' q n' h4
      rw [hβ c hc] at h3; rw [hβ c' hc'] at h4
      exact g.inj c y c' y' q n n' (hold _ _ hc h1) (hold _ _ hc' h2) h3 h4
    apart := fun c y q n h1 h2 => by
      have hc := hne c q n h2
      rw [hβ c hc] at h2; exact g.apart c y q n (hold _ _ hc h1) h2
    sz := g.sz
    N := fun b hb => hb.imp (g.N b) id
    grow := g.grow
    io := g.io
    frame := g.frame
    inp := fun b hb => ⟨.inl (g.inp b hb).1, by rw [hβ b (hkN b (g.inp b hb).1)]; exact (g.inp b hb).2⟩
    own := fun c y q n h1 h2 => by
      have hc := hne c q n h2
      rw [hβ c hc] at h2; exact g.own c y q n (hold _ _ hc h1) h2
    S0 := g.S0
    S1 := g.S1 }

/-- A block goes on under a new number, with other cells. -/
theorem Good.regrow {B : Bs} {U : Nat → Prop} {K : Cx} {h : Nat → Option Blk} (g : Good B U K h) {b k q n : Nat} {x x' : Blk} (hb : h b = some x) (hβ : K.β b = some (q, n)) (hk : ¬ U k) {cs0 cs' : Array Value} {e e0 : TypeId} {lo hi : Nat} {fz : Nat × Nat}
    (hw0 : K.w.heap[q]? = some (.cells cs0 e0 fz)) (hn : cs'.size = n) (hf : ∀ j, j < n → ¬ (lo ≤ j ∧ j < hi)) (hs : ∀ c ∈ x'.es, c.length = x'.sz) (ho : ∀ c ∈ x'.es, ones c = true) (hl : x'.es.length * x'.sz ≤ n)
    (hv : ∀ (i j : Nat) (v : V) (y : Value), at2 x'.es i j = some v → cs'[i * x'.sz + j]? = some y → VR (x'.K K) v y) :
    ∃ K' : Cx, K'.w = rowW K.w q cs' e (lo, hi) ∧ Le K K' ∧ Good B (fun b => U b ∨ b = k) K' (set (set h b none) k (some x')) ∧ K'.N k ∧ K'.β k = some (q, n) := by
  let K' : Cx := { K with w := rowW K.w q cs' e (lo, hi), β := fun b => if b = k then some (q, n) else K.β b, N := fun b => K.N b ∨ b = k }
  have hkN : ∀ b, K.N b → b ≠ k := fun b hb e => hk (e ▸ g.N b hb)
  have hnS := g.apart b x q n hb hβ
  have hle : Le K K' := ⟨fun _ h => h, fun _ h => .inl h, fun b hb => by simp [K', hkN b hb], fun p o hp => cell_congr (rowW_other (fun he => hnS (by rw [← he]; exact hp))) o⟩
  have hold : ∀ c y, c ≠ k → set (set h b none) k (some x') c = some y → h c = some y ∧ c ≠ b := fun c y hc hy => by
    rw [set_ne hc] at hy
    by_cases hcb : c = b
    · subst hcb; rw [set_same] at hy; cases hy
    · rw [set_ne hcb] at hy; exact ⟨hy, hcb⟩
  have hβ' : ∀ c, c ≠ k → K'.β c = K.β c := fun c hc => by simp [K', hc]
  have hβk : K'.β k = some (q, n) := by simp [K']
  refine ⟨K', rfl, hle, ?_, .inr rfl, hβk⟩
  exact {
    blk := fun c y hy => by
      by_cases hc : c = k
      · subst hc
        rw [set_same] at hy
        obtain rfl := Option.some.inj hy
        refine ⟨.inr rfl, ?_⟩
        rw [hβk]
        exact ⟨cs', e, lo, hi, { hw := rowW_heap hw0, hn := hn, hf := hf, hs := hs, h1 := ho, hl := hl, hv := fun i j v z h1 h2 => (hv i j v z h1 h2).mono (hle.blk _) }⟩
      · obtain ⟨hy', hcb⟩ := hold c y hc hy
        refine ⟨.inl (g.blk c y hy').1, ?_⟩
        rw [hβ' c hc]
        refine (g.blk c y hy').2.mono hle fun q' n' hq' => rowW_other fun he => ?_
        subst he
        exact hcb (g.inj c y b x q' n' n hy' hb hq' hβ)
    inj := fun c y c' y' p m m' h1 h2 h3 h4 => by
      by_cases hc : c = k
      · by_cases hc' : c' = k
        · rw [hc, hc']
        · subst hc
          rw [hβk] at h3; rw [hβ' c' hc'] at h4
          injection h3 with h3; injection h3 with h3 _; subst h3
          obtain ⟨h5, h6⟩ := hold c' y' hc' h2
          exact absurd (g.inj c' y' b x q m' n h5 hb h4 hβ) h6
      · by_cases hc' : c' = k
        · subst hc'
          rw [hβk] at h4; rw [hβ' c hc] at h3
          injection h4 with h4; injection h4 with h4 _; subst h4
          obtain ⟨h5, h6⟩ := hold c y hc h1
          exact absurd (g.inj c y b x q m n h5 hb h3 hβ) h6
        · rw [hβ' c hc] at h3; rw [hβ' c' hc'] at h4
          exact g.inj c y c' y' p m m' (hold _ _ hc h1).1 (hold _ _ hc' h2).1 h3 h4
    apart := fun c y p m h1 h2 => by
      by_cases hc : c = k
      · subst hc
        rw [hβk] at h2; injection h2 with h2; injection h2 with h2 _; subst h2
        exact hnS
      · rw [hβ' c hc] at h2; exact g.apart c y p m (hold _ _ hc h1).1 h2
    sz := fun p hp => by show p < (rowW _ _ _ _ _).heap.size; rw [rowW_size]; exact g.sz p hp
    N := fun b hb => hb.imp (g.N b) id
    grow := by show _ ≤ (rowW _ _ _ _ _).heap.size; rw [rowW_size]; exact g.grow
    io := g.io
    frame := fun p hp hn => by
      show (rowW _ _ _ _ _).heap[p]? = _
      rw [rowW_other (fun e => ?_)]
      · exact g.frame p hp hn
      · subst e
        rcases g.own b x p n hb hβ with h' | h'
        · exact hn h'
        · omega
    inp := fun b hb => ⟨.inl (g.inp b hb).1, by rw [hβ' b (hkN b (g.inp b hb).1)]; exact (g.inp b hb).2⟩
    own := fun c y p m h1 h2 => by
      by_cases hc : c = k
      · subst hc
        rw [hβk] at h2; injection h2 with h2; injection h2 with h2 _; subst h2
        exact g.own b x q n hb hβ
      · rw [hβ' c hc] at h2; exact g.own c y p m (hold _ _ hc h1).1 h2
    S0 := g.S0
    S1 := g.S1 }

theorem RowsR.cs {K : Cx} {sz : Nat} {es : List (List V)} {xs : List Value} (h : RowsR K sz es xs) {rest : Array Value} (i j : Nat) (v : V) (y : Value) (hv : at2 es i j = some v) (hy : (xs.toArray ++ rest)[i * sz + j]? = some y) : VR K v y := by
  have hlt := h.cell_lt hv
  rw [Array.getElem?_append_left (by simpa using hlt)] at hy
  exact h.v i j v y hv (by simpa using hy)

/-- A grown slice: a new row under a new number. -/
theorem grow_sound {B : Bs} {U : Nat → Prop} {K : Cx} {h : Nat → Option Blk} (g : Good B U K h) {k : Nat} (hk : ¬ U k) {fl : Bool} {sz need cap : Nat} {es : List (List V)} {xs : List Value} (hR : RowsR (K.clo fl) sz es xs) {z : Array Value} (hz : z.size = sz) {e : TypeId} (hlen : es.length = need) (hc : need ≤ cap) {w' : World}
    (hw : w'.heap = (pushW K.w (xs.toArray ++ Builtin.zeroCells z (cap - need)) e).heap) (hio : Io K.w w') :
    ∃ K' : Cx, K'.w = w' ∧ Le K K' ∧ Good B (fun b => U b ∨ b = k) K' (set h k (some ⟨false, fl, sz, es⟩)) ∧ VR K' (.ref k sz 0 need) (.slice (some ⟨K.w.heap.size, 0, none⟩) need cap) := by
  obtain ⟨K', h1, h2, h3, h4, h5⟩ := g.push hk (x := ⟨false, fl, sz, es⟩) _ e w' hw hio hR.s hR.o (by simp [hR.l]) (fun i j v y hv hy => hR.cs i j v y hv hy)
  refine ⟨K', h1, h2, h3, ?_⟩
  have := VR.ref (K := K') (sz := sz) (off := 0) (cap := cap) h4 h5 hc (by
    simp only [Array.size_append, List.size_toArray, zeroCells_size, hz, hR.l, hlen, Nat.zero_add]
    rw [← Nat.add_mul]; congr 1; omega)
  simpa using this

theorem append_sound {P : Program} {B : Bs} {U : Nat → Prop} {K : Cx} {h : Nat → Option Blk} (g : Good B U K h) {k : Nat} (hk : ¬ U k) {t u ty : Nat} (hu : tnint P u = true) {x y : V} {X Y : Value} {d : Dl} (hx : VR K x X) (hy : VR K y Y) (hd : appendV P h k t x y = some d) :
    ∃ (K' : Cx) (z : Value), (Builtin.append_ #[t, u] ty #[X, Y]).run P K.w = .ok z K'.w ∧ Le K K' ∧ Good B (fun b => U b ∨ b = k) K' (putN (putU h d.up) k d.nb) ∧ ∀ v, d.v = some v → VR K' v z := by
  unfold appendV at hd
  obtain ⟨e, he, hd⟩ := bnd_eq hd
  obtain ⟨zv, hz, hd⟩ := bnd_eq hd
  obtain ⟨hzl, hd⟩ := grd_eq hd
  obtain ⟨q, hq, hd⟩ := bnd_eq hd
  obtain ⟨zz, hzz, hz⟩ := bnd_eq hz
  cases hi : P.info? e with
  | none => rw [hi] at hzz; cases hzz
  | some i =>
  rw [hi] at hzz
  replace hzz : i.zero = some zz := hzz
  have hsz : tsz P e = i.size := by simp [tsz, hi]
  have hby : tbytes P e = i.bytes := by simp [tbytes, hi]
  have hzs : zz.cells.size = i.size := by have := (ofVal_sound (K := K) hz).cells.1; rw [← hsz, ← hzl]; simpa using this.symm
  have ht : P.underlying t = some (.slice e) := by
    unfold telem at he
    split at he
    · cases he; assumption
    · cases he
  rw [hsz] at hq
  obtain ⟨news, hR, hrun⟩ := elems_sound (P := P) g hy hq
  cases x with
  | ref b sz off n =>
    obtain ⟨blk, hb, hd⟩ := bnd_eq hd
    obtain ⟨⟨hbox, hs1, hs2, hoff, hn, hcap⟩, hd⟩ := grd_eq hd
    cases hd
    subst hoff
    rw [hsz] at hs1
    subst hs1
    subst hn
    unfold capLim at hcap
    rw [hby] at hcap
    have hc1 : (blk.es.length + q.2.length) * i.bytes ≤ 140737488355328 := by rw [Nat.mul_add] at hcap; omega
    have hc2 : blk.es.length + q.2.length ≤ 140737488355328 := by rw [Nat.mul_add] at hcap; omega
    have gd := g.del b
    show ∃ (K' : Cx) (z : Value), _ ∧ _ ∧ Good B _ K' (set (set h b none) k (some ⟨false, blk.fl && q.1, i.size, blk.es ++ q.2⟩)) ∧ _
    obtain ⟨L, hbl⟩ : ∃ L, blk.es.length = L := ⟨_, rfl⟩
    rw [hbl] at hcap hc1 hc2 hx ⊢
    cases hx with
    | @refE _ _ _ _ a hN _ =>
      have hes0 : blk.es = [] := List.length_eq_zero_iff.1 hbl
      rw [hes0, List.nil_append]
      have hR' : RowsR (K.clo (blk.fl && q.1)) i.size q.2 news := hR.mono (K.clo_and' _ _)
      by_cases hn : q.2.length = 0
      · have hes : q.2 = [] := List.length_eq_zero_iff.1 hn
        obtain ⟨K', h1, h2, h3, h4, h4b⟩ := gd.new0 hk (fl := blk.fl && q.1) (sz := i.size)
        have hnl : news = [] := List.length_eq_zero_iff.1 (by rw [hR.l, hn, Nat.zero_mul])
        refine ⟨K', .slice a 0 0, ?_, h2, by rw [hes]; exact h3, fun v hv => ?_⟩
        · rw [h1, run_append_fits ht hi hu (hrun _ rfl).1 (hrun _ rfl).2 (by omega)]
          cases a with
          | none => simp [hn]
          | some a => simp [hn, hnl, storeCells]
        · cases hv; rw [hn]; exact .refE h4 (fun q n hq => by rw [h4b] at hq; cases hq)
      · obtain ⟨K', h1, h2, h3, h4⟩ := grow_sound gd hk hR' hzs (e := e) rfl (grownCap_ge K.w q.2.length 0 e) (w' := K.w.drew.alloc (.cells (news.toArray ++ Builtin.zeroCells zz.cells (grownCap K.w q.2.length 0 e - q.2.length)) e)) rfl ⟨rfl, rfl, rfl⟩
        refine ⟨K', _, ?_, h2, h3, fun v hv => by cases hv; rw [Nat.zero_add]; exact h4⟩
        rw [h1]
        have := run_append_grows (ty := ty) ht hi hzz hu (base := a) (sLen := 0) (sCap := 0) (olds := []) (fun w' hw => (hrun w' hw).1) (fun w' hw => (hrun w' hw).2) (fun w' _ => by cases a <;> simp [Builtin.firstCells, loadCells, loadCellsFrom]) (by omega) (by simpa using hc1) (by simpa using hc2)
        simpa using this
    | @ref _ _ _ _ _ p m cap hN hβ hl hm =>
      have hB := (g.blk b blk hb).2
      rw [hβ] at hB
      obtain ⟨cs, e0, lo, hi0, hB⟩ := hB
      simp only [Nat.zero_mul, Nat.zero_add] at hm ⊢
      have hRo := hB.rows
      rw [Blk.K_slice hbox, hs2] at hRo
      have hRR : RowsR (K.clo (blk.fl && q.1)) i.size (blk.es ++ q.2) (cs.toList.take (blk.es.length * i.size) ++ news) := (hRo.mono (K.clo_and _ _)).append (hR.mono (K.clo_and' _ _))
      rw [hbl] at hRo hRR
      by_cases hfit : L + q.2.length ≤ cap
      · have hnl : news.length = q.2.length * i.size := hR.l
        have hfc : L * i.size + news.length ≤ cs.size := by
          rw [hnl, ← Nat.add_mul, hB.hn]; exact Nat.le_trans (Nat.mul_le_mul_right _ hfit) (Nat.le_of_eq hm)
        obtain ⟨K', h1, h2, h3, h4, h5⟩ := g.regrow hb hβ hk (x' := ⟨false, blk.fl && q.1, i.size, blk.es ++ q.2⟩) (cs' := wr cs (L * i.size) news) (e := e0) (lo := lo) (hi := hi0) hB.hw (by rw [wr_size]; exact hB.hn) hB.hf hRR.s hRR.o
          (by have := hRR.l; simp only [List.length_append] at this ⊢; rw [hbl, Nat.add_mul, ← hnl]; rw [← hB.hn]; exact hfc)
          (fun i' j v y hv hy => by
            have hlt := hRR.cell_lt hv
            refine hRR.v i' j v y hv ?_
            replace hy : (wr cs (L * i.size) news)[i' * i.size + j]? = some y := hy
            rw [wr_get _ _ _ _ hfc] at hy
            by_cases hlo : i' * i.size + j < L * i.size
            · rw [if_neg (by omega)] at hy
              rw [List.getElem?_append_left (by rw [hRo.l, hbl]; exact hlo), List.getElem?_take, if_pos hlo]
              simpa using hy
            · simp only [List.length_append] at hlt
              have hl0 := hRo.l
              rw [hbl] at hl0
              rw [if_pos (by omega)] at hy
              rw [List.getElem?_append_right (by omega), hl0]
              exact hy)
        refine ⟨K', .slice (some ⟨p, 0, none⟩) (L + q.2.length) cap, ?_, h2, h3, fun v hv => ?_⟩
        · rw [h1, run_append_fits ht hi hu (hrun _ rfl).1 (hrun _ rfl).2 hfit]
          simp only [add_at, Nat.zero_add]
          have hst := run_storeCells_own P p (L * i.size) e0 lo hi0 news 0 cs K.w hB.hw (by rw [hB.hn]; exact hB.hf) (by simpa using hfc) (fun v hv => ?_)
          · rw [Nat.add_zero] at hst
            rw [hst]; rfl
          · exact hR.one v hv
        · cases hv
          have := VR.ref (K := K') (sz := i.size) (off := 0) h4 h5 hfit (by simpa using hm)
          simpa using this
      · obtain ⟨K', h1, h2, h3, h4⟩ := grow_sound gd hk hRR hzs (e := e) (by simp [hbl]) (grownCap_ge K.w (L + q.2.length) cap e) (w' := K.w.drew.alloc (.cells ((cs.toList.take (L * i.size) ++ news).toArray ++ Builtin.zeroCells zz.cells (grownCap K.w (L + q.2.length) cap e - (L + q.2.length))) e)) rfl ⟨rfl, rfl, rfl⟩
        refine ⟨K', _, ?_, h2, h3, fun v hv => by cases hv; exact h4⟩
        rw [h1]
        have hlo := hRo.l
        rw [hbl] at hlo
        have := run_append_grows (ty := ty) (base := some ⟨p, 0, none⟩) (sLen := L) (sCap := cap) (olds := cs.toList.take (L * i.size)) ht hi hzz hu (fun w' hw => (hrun w' hw).1) (fun w' hw => (hrun w' hw).2) (fun w' hw => by
          have hld := run_loadCells_list P w' p 0 (cs.toList.take (L * i.size)) fun j x hx => by
            rw [cell_congr (w := K.w) (by rw [hw]), cell_of_row hB.hw]
            rw [List.getElem?_take] at hx
            split at hx
            · simpa using hx
            · cases hx
          rw [hlo] at hld
          simp only [Builtin.firstCells]
          exact hld) (by omega) hc1 hc2
        simpa using this
  | lit v =>
    have hv0 : v = .slice none 0 0 := by
      cases v with
      | slice a n c =>
        cases a with
        | none =>
          cases n with
          | zero =>
            cases c with
            | zero => rfl
            | succ c => cases hd
          | succ n => cases hd
        | some a => cases hd
      | _ => cases hd
    subst hv0
    obtain ⟨hcap, hd⟩ := grd_eq hd
    cases hd
    cases hx
    rw [hsz]
    unfold capLim at hcap
    rw [hby] at hcap
    have hc1 : q.2.length * i.bytes ≤ 140737488355328 := by rw [Nat.mul_add] at hcap; omega
    have hc2 : q.2.length ≤ 140737488355328 := by rw [Nat.mul_add] at hcap; omega
    by_cases hn : q.2.length = 0
    · have hes : q.2 = [] := List.length_eq_zero_iff.1 hn
      obtain ⟨K', h1, h2, h3, h4, h4b⟩ := g.new0 hk (fl := q.1) (sz := i.size)
      refine ⟨K', .slice none 0 0, ?_, h2, ?_, fun v hv => ?_⟩
      · rw [h1, run_append_fits ht hi hu (hrun _ rfl).1 (hrun _ rfl).2 (by omega)]
        simp [hn]
      · show Good B _ K' (set h k (some ⟨false, q.1, i.size, q.2⟩))
        rw [hes]; exact h3
      · cases hv; rw [hn]; exact .refE h4 (fun q n hq => by rw [h4b] at hq; cases hq)
    · obtain ⟨K', h1, h2, h3, h4⟩ := grow_sound g hk hR hzs (e := e) rfl (grownCap_ge K.w q.2.length 0 e) (w' := K.w.drew.alloc (.cells (news.toArray ++ Builtin.zeroCells zz.cells (grownCap K.w q.2.length 0 e - q.2.length)) e)) rfl ⟨rfl, rfl, rfl⟩
      refine ⟨K', _, ?_, h2, h3, fun v hv => by cases hv; exact h4⟩
      rw [h1]
      have := run_append_grows (ty := ty) ht hi hzz hu (base := none) (sLen := 0) (sCap := 0) (olds := []) (fun w' hw => (hrun w' hw).1) (fun w' hw => (hrun w' hw).2) (fun w' _ => by simp [Builtin.firstCells]) (by omega) (by simpa using hc1) (by simpa using hc2)
      simpa using this
  | _ => cases hd
end Go.Ev
end

section
set_option linter.unusedVariables false
set_option linter.unusedSimpArgs false
set_option linter.unnecessarySimpa false
namespace Go.Ev
open Go
/-! ### Parts of what is copied -/
theorem take_rows_len {sz m : Nat} {es : List (List V)} {xs : List Value} {K : Cx} (h : RowsR K sz es xs) (hm : m ≤ es.length) : (xs.take (m * sz)).length = m * sz := by
  rw [List.length_take, h.l]
  exact Nat.min_eq_left (Nat.mul_le_mul_right _ hm)
theorem elems_part {P : Program} {B : Bs} {U : Nat → Prop} {K : Cx} {h : Nat → Option Blk} (g : Good B U K h) {sz : Nat} {y : V} {Y : Value} {q : Bool × List (List V)} (hy : VR K y Y) (he : elems h sz y = some q) :
    ∃ news : List Value, RowsR (K.clo q.1) sz q.2 news ∧ (Builtin.lenOf Y).run P K.w = .ok q.2.length K.w ∧ ∀ m, m ≤ q.2.length → (Builtin.firstCells sz m Y).run P K.w = .ok (news.take (m * sz)).toArray K.w := by
  unfold elems at he
  split at he
  · rename_i s
    obtain ⟨rfl, he2⟩ := grd_eq he
    cases he2
    cases hy
    refine ⟨s.data.toList.map fun b => .int .u8 (b.toNat : Int), ⟨fun c hc => ?_, fun c hc => ?_, by simp [byteCells], fun i j v x hv hx => ?_⟩, ?_, fun m hm => ?_⟩
    · simp only [byteCells, List.mem_map] at hc
      obtain ⟨b, _, rfl⟩ := hc; rfl
    · simp only [byteCells, List.mem_map] at hc
      obtain ⟨b, _, rfl⟩ := hc; rfl
    · obtain ⟨c, h1, h2⟩ := at2_inv hv
      simp only [byteCells, List.getElem?_map, Option.map_eq_some_iff] at h1
      obtain ⟨b, hb, rfl⟩ := h1
      cases j with
      | zero =>
        cases h2
        simp only [Nat.mul_one, Nat.add_zero, List.getElem?_map, hb, Option.map_some] at hx
        cases hx
        exact .lit rfl
      | succ j => simp at h2
    · simp [Builtin.lenOf, byteCells]
    · simp only [Builtin.firstCells, Sem.run_pure]
      congr 1
      apply Array.ext'
      rw [ByteArray.data_extract, Array.toList_map, Array.toList_extract, List.extract_eq_take_drop, List.drop_zero, Nat.sub_zero, Nat.mul_one, List.map_take]
  · cases he
    cases hy
    refine ⟨[], .nil, by simp [Builtin.lenOf], fun m hm => ?_⟩
    have hm : m = 0 := by simpa using hm
    subst hm
    simp [Builtin.firstCells]
  · cases he
    cases hy
    refine ⟨[], .nil, by simp [Builtin.lenOf], fun m hm => ?_⟩
    have hm : m = 0 := by simpa using hm
    subst hm
    simp [Builtin.firstCells, loadCells, loadCellsFrom]
  · rename_i fl sz' es
    obtain ⟨rfl, he2⟩ := grd_eq he
    cases he2
    cases hy with
    | @con0 _ _ _ cap a _ =>
      refine ⟨[], .nil, by simp [Builtin.lenOf], fun m hm => ?_⟩
      have hm : m = 0 := by simpa using hm
      subst hm
      cases a with
      | none => simp [Builtin.firstCells]
      | some a => simp [Builtin.firstCells, loadCells, loadCellsFrom]
    | @con _ _ _ b o cap _ hp hcap hS hsz h1' hc hr =>
      obtain ⟨xs, h1, h2⟩ := rows_of_cells hsz h1' hc hr
      refine ⟨xs, h1, by simp [Builtin.lenOf], fun m hm => ?_⟩
      simp only [Builtin.firstCells]
      have e := take_rows_len h1 hm
      have := run_loadCells_list P K.w b o (xs.take (m * sz')) fun j x hx => by
        rw [List.getElem?_take] at hx
        split at hx
        · exact h2 j x hx
        · cases hx
      rw [e] at this
      exact this
  · rename_i b sz' off n
    obtain ⟨blk, hb, he⟩ := bnd_eq he
    obtain ⟨⟨hbox, rfl, hsz, hlen⟩, he2⟩ := grd_eq he
    cases he2
    have hlen' : ((blk.es.drop off).take n).length = n := by simp; omega
    cases hy with
    | @refE _ _ _ _ a hN _ =>
      refine ⟨[], by simpa using RowsR.nil, by simp [Builtin.lenOf], fun m hm => ?_⟩
      have hm : m = 0 := by simpa using hm
      subst hm
      cases a with
      | none => simp [Builtin.firstCells]
      | some a => simp [Builtin.firstCells, loadCells, loadCellsFrom]
    | @ref _ _ _ _ _ p mm cap hN hβ hl hn =>
      have hB := (g.blk b blk hb).2
      rw [hβ] at hB
      obtain ⟨cs, e, lo, hi, hB⟩ := hB
      have hR := (hB.rows.drop off).take n
      rw [Blk.K_slice hbox, hsz] at hR
      refine ⟨_, hR, by simp only [Builtin.lenOf, hlen']; rfl, fun m hm => ?_⟩
      simp only [Builtin.firstCells]
      have e := take_rows_len hR hm
      have := run_loadCells_list P K.w p (off * sz') ((((cs.toList.take (blk.es.length * sz')).drop (off * sz')).take (n * sz')).take (m * sz')) fun j x hx => by
        rw [List.getElem?_take] at hx
        split at hx
        · rw [cell_of_row hB.hw]
          refine (drop_take_cells (m := blk.es.length * sz') (b := n * sz') ?_ ?_ j x hx).1
          · rw [← Nat.add_mul]; exact Nat.mul_le_mul_right _ hlen
          · rw [hB.hn]; have := hB.hl; rwa [hsz] at this
        · cases hx
      rw [e] at this
      exact this
  · cases he
/-- A block's row anew. -/
theorem Good.rewrite {B : Bs} {U : Nat → Prop} {K K' : Cx} {h : Nat → Option Blk} (g : Good B U K h) {b p n : Nat} {blk blk' : Blk} {cs cs' : Array Value} {e : TypeId} {lo hi : Nat} (hb : h b = some blk) (hβ : K.β b = some (p, n)) (hw : K.w.heap[p]? = some (.cells cs e (lo, hi)))
    (hK : K' = { K with w := rowW K.w p cs' e (lo, hi) }) (hB' : BRs K' blk' p n cs' e lo hi) : Le K K' ∧ Good B U K' (set h b (some blk')) := by
  subst hK
  have hnS := g.apart b blk p n hb hβ
  have hLe : Le K { K with w := rowW K.w p cs' e (lo, hi) } := ⟨fun _ h => h, fun _ h => h, fun _ _ => rfl, fun q o hq => cell_congr (rowW_other (fun he => hnS (by rw [← he]; exact hq))) o⟩
  have hsame : ∀ b' z, set h b (some blk') b' = some z → ∃ z', h b' = some z' := fun b' z hz => by
    by_cases hbb : b' = b
    · subst hbb; exact ⟨blk, hb⟩
    · rw [set_ne hbb] at hz; exact ⟨z, hz⟩
  refine ⟨hLe, ?_⟩
  exact {
    blk := fun b' z hz => by
      by_cases hbb : b' = b
      · subst hbb
        rw [set_same] at hz
        obtain rfl := Option.some.inj hz
        refine ⟨(g.blk b' blk hb).1, ?_⟩
        show BR _ _ (K.β b')
        rw [hβ]
        exact ⟨_, e, lo, hi, hB'⟩
      · rw [set_ne hbb] at hz
        refine ⟨(g.blk b' z hz).1, (g.blk b' z hz).2.mono hLe fun q' n' hq' => rowW_other fun e => ?_⟩
        subst e
        exact hbb (g.inj b' z b blk q' n' n hz hb hq' hβ)
    inj := fun b1 z1 b2 z2 q' n1 n2 h3 h4 h5 h6 => by
      obtain ⟨z1', h3'⟩ := hsame b1 z1 h3
      obtain ⟨z2', h4'⟩ := hsame b2 z2 h4
      exact g.inj b1 z1' b2 z2' q' n1 n2 h3' h4' h5 h6
    apart := fun b1 z1 q' n1 h3 h4 => by obtain ⟨z', h3'⟩ := hsame b1 z1 h3; exact g.apart b1 z' q' n1 h3' h4
    sz := fun p hp => by show p < (rowW _ _ _ _ _).heap.size; rw [rowW_size]; exact g.sz p hp
    N := g.N
    grow := by show _ ≤ (rowW _ _ _ _ _).heap.size; rw [rowW_size]; exact g.grow
    io := g.io
    frame := fun q hq hn => by
      show (rowW _ _ _ _ _).heap[q]? = _
      rw [rowW_other (fun e => ?_)]
      · exact g.frame q hq hn
      · subst e
        rcases g.own b blk q n hb hβ with h' | h'
        · exact hn h'
        · omega
    inp := g.inp
    own := fun b1 z1 q' n1 h3 h4 => by obtain ⟨z', h3'⟩ := hsame b1 z1 h3; exact g.own b1 z' q' n1 h3' h4
    S0 := g.S0
    S1 := g.S1 }
theorem set_self {h : Nat → Option Blk} {b : Nat} {x : Blk} (hb : h b = some x) : set h b (some x) = h := by
  funext u
  by_cases hu : u = b
  · subst hu; rw [set_same, hb]
  · rw [set_ne hu]
/-- Rows in the middle are other ones. -/
theorem spliced {α : Type} {es qs : List α} {off : Nat} (h : off + qs.length ≤ es.length) (i : Nat) : (es.take off ++ (qs ++ es.drop (off + qs.length)))[i]? = if off ≤ i ∧ i < off + qs.length then qs[i - off]? else es[i]? := by
  by_cases h1 : i < off
  · rw [if_neg (by omega), List.getElem?_append_left (by rw [List.length_take]; omega), List.getElem?_take, if_pos h1]
  · rw [List.getElem?_append_right (by rw [List.length_take]; omega), List.length_take, Nat.min_eq_left (by omega)]
    by_cases h2 : i < off + qs.length
    · rw [if_pos (by omega), List.getElem?_append_left (by omega)]
    · rw [if_neg (by omega), List.getElem?_append_right (by omega), List.getElem?_drop]
      congr 1
      omega
theorem spliced_len {α : Type} {es qs : List α} {off : Nat} (h : off + qs.length ≤ es.length) : (es.take off ++ (qs ++ es.drop (off + qs.length))).length = es.length := by
  simp only [List.length_append, List.length_take, List.length_drop]
  omega
theorem BRs.splice {K : Cx} {blk : Blk} {p n : Nat} {cs : Array Value} {e : TypeId} {lo hi : Nat} (hB : BRs K blk p n cs e lo hi) (hbox : blk.box = false) {fl : Bool} {off : Nat} {qs : List (List V)} {xs : List Value} (hR : RowsR (K.clo fl) blk.sz qs xs) (hfl : blk.fl = true → fl = true) (hlen : off + qs.length ≤ blk.es.length)
    {K' : Cx} (hK : K' = { K with w := rowW K.w p (wr cs (off * blk.sz) xs) e (lo, hi) }) (hLe : Le K K') : BRs K' { blk with es := blk.es.take off ++ (qs ++ blk.es.drop (off + qs.length)) } p n (wr cs (off * blk.sz) xs) e lo hi := by
  subst hK
  have hl := spliced_len hlen
  have hxl := hR.l
  have hfit : off * blk.sz + xs.length ≤ cs.size := by
    rw [hxl, ← Nat.add_mul, hB.hn]
    exact Nat.le_trans (Nat.mul_le_mul_right _ hlen) hB.hl
  have hmem : ∀ c ∈ blk.es.take off ++ (qs ++ blk.es.drop (off + qs.length)), c ∈ blk.es ∨ c ∈ qs := fun c hc => by
    rcases List.mem_append.1 hc with h | h
    · exact .inl (List.mem_of_mem_take h)
    · rcases List.mem_append.1 h with h | h
      · exact .inr h
      · exact .inl (List.mem_of_mem_drop h)
  have hbK : blk.K K = K.clo blk.fl := Blk.K_slice hbox
  refine { hw := rowW_heap hB.hw, hn := by rw [wr_size]; exact hB.hn, hf := hB.hf, hs := fun c hc => ?_, h1 := fun c hc => ?_, hl := by show (blk.es.take off ++ (qs ++ blk.es.drop (off + qs.length))).length * blk.sz ≤ n; rw [hl]; exact hB.hl, hv := fun i j v x h3 h4 => ?_ }
  · rcases hmem c hc with h | h
    · exact hB.hs c h
    · exact hR.s c h
  · rcases hmem c hc with h | h
    · exact hB.h1 c h
    · exact hR.o c h
  · show VR (Blk.K _ blk) v x
    obtain ⟨r, h5, h6⟩ := at2_inv h3
    replace h5 : (blk.es.take off ++ (qs ++ blk.es.drop (off + qs.length)))[i]? = some r := h5
    replace h4 : (wr cs (off * blk.sz) xs)[i * blk.sz + j]? = some x := h4
    rw [spliced hlen] at h5
    rw [wr_get _ _ _ _ hfit, hxl] at h4
    split at h5
    · rename_i hi
      have hj : j < blk.sz := by have := get_lt h6; rwa [hR.s r (get_mem h5)] at this
      obtain ⟨d, rfl⟩ : ∃ d, i = off + d := ⟨i - off, by omega⟩
      rw [show off + d - off = d by omega] at h5
      have hd : d + 1 ≤ qs.length := by omega
      have hm := Nat.mul_le_mul_right blk.sz hd
      rw [Nat.succ_mul] at hm
      rw [Nat.add_mul, if_pos (by omega), show off * blk.sz + d * blk.sz + j - off * blk.sz = d * blk.sz + j by omega] at h4
      have hv := hR.v d j v x (at2_of h5 h6) h4
      have : VR (blk.K K) v x := by
        rw [hbK]
        cases hf : blk.fl with
        | false => exact hv.mono (Cx.clo_false K fl)
        | true => rw [hfl hf] at hv; exact hv
      exact this.mono (hLe.blk blk)
    · rename_i hi
      have hj : j < blk.sz := by have := get_lt h6; rwa [hB.hs r (get_mem h5)] at this
      rw [if_neg (fun hc => by
        apply hi
        constructor
        · rcases Nat.lt_or_ge i off with h | h
          · have := Nat.mul_le_mul_right blk.sz h
            rw [Nat.succ_mul] at this
            omega
          · exact h
        · rcases Nat.lt_or_ge i (off + qs.length) with h | h
          · exact h
          · have := Nat.mul_le_mul_right blk.sz h
            rw [Nat.add_mul] at this
            omega)] at h4
      exact (hB.hv i j v x (at2_of h5 h6) h4).mono (hLe.blk blk)
theorem copy_sound {P : Program} {B : Bs} {U : Nat → Prop} {K : Cx} {h : Nat → Option Blk} (g : Good B U K h) {t u ty : Nat} {x y : V} {X Y : Value} {d : Dl} (hx : VR K x X) (hy : VR K y Y) (hd : copyV P h t x y = some d) :
    ∃ (K' : Cx) (z : Value), (Builtin.copy_ #[t, u] ty #[X, Y]).run P K.w = .ok z K'.w ∧ Le K K' ∧ Good B U K' (putU h d.up) ∧ d.nb = [] ∧ ∀ v, d.v = some v → VR K' v z := by
  unfold copyV at hd
  obtain ⟨e, he, hd⟩ := bnd_eq hd
  obtain ⟨hpos, hd⟩ := grd_eq hd
  obtain ⟨q, hq, hd⟩ := bnd_eq hd
  have ht : P.underlying t = some (.slice e) := by
    unfold telem at he
    split at he
    · cases he; assumption
    · cases he
  have hso : (sizeOf e).run P K.w = .ok (tsz P e) K.w := by
    cases hi : P.info? e with
    | none => simp [tsz, hi] at hpos
    | some i => exact run_sizeOf' hi K.w
  obtain ⟨news, hR, hlo, hfc⟩ := elems_part (P := P) g hy hq
  cases x with
  | ref b sz off n =>
    obtain ⟨blk, hb, hd⟩ := bnd_eq hd
    obtain ⟨⟨hbox, hs1, hs2, hoff, hfl⟩, hd⟩ := grd_eq hd
    cases hd
    subst hs1
    have hmin : ((q.2.take n).length) = min q.2.length n := by rw [List.length_take, Nat.min_comm]
    cases hx with
    | @refE _ _ _ _ a hN _ =>
      refine ⟨K, goInt 0, ?_, Le.refl K, ?_, rfl, fun v hv => ?_⟩
      · have := hfc 0 (Nat.zero_le _)
        simp only [Nat.zero_mul, List.take_zero] at this
        cases a with
        | none => simp [Builtin.copy_, run_underlying ht, hlo, hso, this]
        | some a => simp [Builtin.copy_, run_underlying ht, hlo, hso, this, storeCells]
      · show Good B U K (set h b (some { blk with es := blk.es.take off ++ (q.2.take 0 ++ blk.es.drop (off + min q.2.length 0)) }))
        have : ({ blk with es := blk.es.take off ++ (q.2.take 0 ++ blk.es.drop (off + min q.2.length 0)) } : Blk) = blk := by
          rw [Nat.min_zero, Nat.add_zero, List.take_zero, List.nil_append, List.take_append_drop]
        rw [this, set_self hb]
        exact g
      · cases hv
        rw [Nat.min_zero]
        exact .lit rfl
    | @ref _ _ _ _ _ p mm cap hN hβ hl hn =>
      have hB := (g.blk b blk hb).2
      rw [hβ] at hB
      obtain ⟨cs, et, lo, hi, hB⟩ := hB
      have hRn := hR.take n
      have hlen : off + (q.2.take n).length ≤ blk.es.length := by rw [List.length_take]; omega
      have hxl := hRn.l
      rw [← hs2] at hRn hxl
      have e1 : news.take (min q.2.length n * tsz P e) = news.take (n * tsz P e) := by
        rcases Nat.le_total q.2.length n with h' | h'
        · rw [Nat.min_eq_left h', ← hR.l, List.take_length, List.take_of_length_le (by rw [hR.l]; exact Nat.mul_le_mul_right _ h')]
        · rw [Nat.min_eq_right h']
      have hf1 := hfc (min q.2.length n) (Nat.min_le_left _ _)
      rw [e1] at hf1
      have hfit : off * blk.sz + (news.take (n * tsz P e)).length ≤ cs.size := by
        rw [← hs2, hxl, ← Nat.add_mul, hB.hn]
        exact Nat.le_trans (Nat.mul_le_mul_right _ hlen) hB.hl
      have hst := run_storeCells_own P p (off * tsz P e) et lo hi (news.take (n * tsz P e)) 0 cs K.w hB.hw (by rw [hB.hn]; exact hB.hf) (by rw [hs2] at hfit; simpa using hfit) (by rw [hs2] at hRn; exact hRn.one)
      rw [Nat.add_zero] at hst
      let K' : Cx := { K with w := rowW K.w p (wr cs (off * blk.sz) (news.take (n * tsz P e))) et (lo, hi) }
      have hnS := g.apart b blk p mm hb hβ
      have hLe0 : Le K K' := ⟨fun _ h => h, fun _ h => h, fun _ _ => rfl, fun q o hq => cell_congr (rowW_other (fun he => hnS (by rw [← he]; exact hq))) o⟩
      have hRb : RowsR (K.clo q.1) blk.sz (q.2.take n) (news.take (n * tsz P e)) := by rw [← hs2]; exact hRn
      have hB' := hB.splice hbox hRb (by intro hf; rw [hf] at hfl; simpa using hfl) hlen (K' := K') rfl hLe0
      obtain ⟨hLe, hg⟩ := g.rewrite hb hβ hB.hw (K' := K') rfl hB'
      refine ⟨K', goInt ((min q.2.length n : Nat) : Int), ?_, hLe, ?_, rfl, fun v hv => ?_⟩
      · simp only [Builtin.copy_]
        simp only [run_underlying ht, hlo, hso, hf1, Sem.run_bind, Result.andThen_ok, List.getElem?_toArray, List.getElem?_cons_zero, List.getElem?_cons_succ, Sem.run_pure]
        show ((storeCells _ _ 0).run P K.w).andThen _ = _
        rw [hst]
        show Result.ok (goInt ((min q.2.length n : Nat) : Int)) _ = Result.ok _ (rowW K.w p (wr cs (off * blk.sz) (news.take (n * tsz P e))) et (lo, hi))
        rw [hs2]
      · rw [hmin] at hg
        exact hg
      · cases hv
        exact .lit rfl
  | _ => cases hd
end Go.Ev
end
