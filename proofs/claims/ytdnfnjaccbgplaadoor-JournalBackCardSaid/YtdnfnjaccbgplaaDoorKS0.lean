/- A part of the proof: texts of the author, joined. -/
import Derived.Test.YtdnfnjaccbgplaaDoorKE6
import Derived.Deep.Slices
import Derived.ChangeShapes
import Derived.ChangeArms
import Derived.WideShapes
import Derived.Below
import Derived.Test.YtdnfnjaccbgplaaDoorProg
import Derived.KernelRfl
import Derived.Shelf.Strings.Builder1
import Derived.Shelf.Strings.Builder2
import Derived.Shelf.Small.Utf8
import Derived.Shelf.Small.Strs
import Derived.Shelf.Strings.BuilderF
import Derived.Shelf.Strings.Search1
import Derived.Shelf.Strings.Prefix
import Derived.Shelf.Strings.Runes
import Derived.Shelf.Strings.AsciiSet
import Derived.Shelf.Bits.Mul64
import Derived.Shelf.Strings.Repeat
import Derived.Shelf.Unicode.DecodeSlow
section
set_option linter.unusedVariables false
set_option linter.unusedSimpArgs false
set_option linter.unnecessarySimpa false
namespace Go.Ev
open Go Go.Deep Go.ChangeShapes

/-! ## Reading the arguments of a law -/
/-- What a reading holds to. -/
def Ty.wf : (t : Ty) → t.T → Prop
  | .int k, n => (Lit.int k n).wf = true
  | .bool, _ => True
  | .str, s => s.size ≤ 9223372036854775807
  | .sl e, l => l.length ≤ 9223372036854775807 ∧ ∀ x ∈ l, e.wf x
  | .pr a b, x => a.wf x.1 ∧ b.wf x.2
def fsB (P : Program) (g : TypeId → Ty → Bool) : List Field → Nat → Ty → Bool
  | [f], o, t => Nat.beq f.offset o && (Nat.beq (P.cellsOf f.type) t.size && g f.type t)
  | f :: r, o, .pr a b => Nat.beq f.offset o && (Nat.beq (P.cellsOf f.type) a.size && (g f.type a && fsB P g r (o + a.size) b))
  | _, _, _ => false
/-- The program's type is this type of plain data. -/
def tyB (P : Program) : Nat → TypeId → Ty → Bool
  | 0, _, _ => false
  | n + 1, t, s => match P.underlying t with
    | some (.int k) => (match s with | .int k' => Nat.beq (kindN k) (kindN k') | _ => false)
    | some .bool => (match s with | .bool => true | _ => false)
    | some .string => (match s with | .str => true | _ => false)
    | some (.slice e) => (match s with | .sl σ => Nat.beq (P.cellsOf e) σ.size && tyB P n e σ | _ => false)
    | some (.struct fs) => Nat.beq (P.cellsOf t) s.size && fsB P (tyB P n) fs.toList 0 s
    | _ => false

section
variable {H : Type} {enc' : TypeId × Value → H} {P : Program} {w : World} {base : Nat} {spare : Nat → Bool} {held : Bool}
/-- These cells read as0 this. -/
def RdC (w : World) (s : Ty) (cs : List Value) (x : s.T) : Prop := s.wf x ∧ ∃ vs, RCell s x vs ∧ ∀ K : Cx, K.w = w → (s.flat = false → ∀ q, q < w.heap.size → K.S q) → VRl K vs cs
theorem exl {α : Type} {Q : Nat → α → Prop} : ∀ n : Nat, (∀ i, i < n → ∃ a, Q i a) → ∃ l : List α, l.length = n ∧ ∀ i a, l[i]? = some a → Q i a
  | 0, _ => ⟨[], rfl, fun i a h => by simp at h⟩
  | n + 1, h => by
    obtain ⟨l, hl, hq⟩ := exl n (fun i hi => h i (by omega))
    obtain ⟨a, ha⟩ := h n (by omega)
    refine ⟨l ++ [a], by simp [hl], fun i b hb => ?_⟩
    rcases Nat.lt_or_ge i l.length with h1 | h1
    · rw [List.getElem?_append_left h1] at hb
      exact hq i b hb
    · rw [List.getElem?_append_right h1] at hb
      have : i - l.length = 0 := by
        rcases Nat.eq_zero_or_pos (i - l.length) with h2 | h2
        · exact h2
        · rw [List.getElem?_eq_none (by simp; omega)] at hb; cases hb
      rw [this] at hb
      obtain rfl : a = b := by simpa using hb
      obtain rfl : i = n := by omega
      exact ha
theorem fs_read {g : TypeId → Ty → Bool} {n : Nat} (ih : ∀ t s cs y, g t s = true → DataW.trod enc' P w base spare held n t cs = some y → ∃ x : s.T, RdC w s cs x) {cs : List Value} : ∀ (fs : List Field) (o : Nat) (s : Ty), fsB P g fs o s = true → cs.length = o + s.size →
    (∀ f ∈ fs, ∃ y, DataW.trod enc' P w base spare held n f.type ((cs.drop f.offset).take (P.cellsOf f.type)) = some y) → ∃ x : s.T, RdC w s (cs.drop o) x := by
  intro fs
  induction fs with
  | nil => intro o s h; cases s <;> cases h
  | cons f r ihr =>
    intro o s h hl hf
    have one : Nat.beq f.offset o = true → Nat.beq (P.cellsOf f.type) s.size = true → g f.type s = true → ∃ x : s.T, RdC w s (cs.drop o) x := by
      intro h1 h2 h3
      obtain ⟨y, hy⟩ := hf f (by simp)
      rw [beq_nat h1, beq_nat h2, List.take_of_length_le (by rw [List.length_drop]; omega)] at hy
      exact ih _ _ _ _ h3 hy
    have two : ∀ a b, s = .pr a b → Nat.beq f.offset o = true → Nat.beq (P.cellsOf f.type) a.size = true → g f.type a = true → fsB P g r (o + a.size) b = true → ∃ x : s.T, RdC w s (cs.drop o) x := by
      intro a b hs h1 h2 h3 h4
      subst hs
      have hsz : (Ty.pr a b).size = a.size + b.size := rfl
      obtain ⟨y, hy⟩ := hf f (by simp)
      rw [beq_nat h1, beq_nat h2] at hy
      obtain ⟨xa, wa, va, ra, ka⟩ := ih _ _ _ _ h3 hy
      obtain ⟨xb, wb, vb, rb, kb⟩ := ihr (o + a.size) b h4 (by omega) (fun f hf' => hf f (by simp [hf']))
      refine ⟨(xa, xb), ⟨wa, wb⟩, va ++ vb, ⟨va, vb, rfl, ra, rb⟩, fun K hw hS => ?_⟩
      have hS1 : a.flat = false → ∀ q, q < w.heap.size → K.S q := fun h => hS (by unfold Ty.flat; rw [h])
      have hS2 : b.flat = false → ∀ q, q < w.heap.size → K.S q := fun h => hS (by unfold Ty.flat; rw [h]; cases a.flat <;> rfl)
      have := (ka K hw hS1).append (kb K hw hS2)
      rwa [← List.drop_drop, List.take_append_drop] at this
    unfold fsB at h
    split at h
    · rename_i h0
      injection h0 with h0 h0'
      subst h0
      simp only [Bool.and_eq_true] at h
      exact one h.1 h.2.1 h.2.2
    · rename_i a b _ h0
      injection h0 with h0 h0'
      subst h0; subst h0'
      simp only [Bool.and_eq_true] at h
      exact two a b rfl h.1 h.2.1 h.2.2.1 h.2.2.2
    · cases h
theorem ty_read : ∀ (n : Nat) (t : TypeId) (s : Ty) (fuel : Nat) (cs : List Value) y, tyB P n t s = true → DataW.trod enc' P w base spare held fuel t cs = some y → ∃ x : s.T, RdC w s cs x := by
  intro n
  induction n with
  | zero => intro t s fuel cs y h; cases h
  | succ n ih =>
    intro t s fuel cs y h hy
    unfold tyB at h
    split at h
    · rename_i k ht
      split at h
      · rename_i k'
        obtain rfl := kindN_inj h
        obtain ⟨m, rfl, _, hw⟩ := DataW.trod_int ht hy
        exact ⟨m, hw, _, rfl, fun K _ _ => VRl.cons (.lit rfl) .nil⟩
      · cases h
    · rename_i ht
      split at h
      · obtain ⟨m, rfl, _⟩ := DataW.trod_bool ht hy
        exact ⟨m, trivial, _, rfl, fun K _ _ => VRl.cons (.lit rfl) .nil⟩
      · cases h
    · rename_i ht
      split at h
      · obtain ⟨m, rfl, _, hm⟩ := DataW.trod_string ht hy
        exact ⟨m, hm, _, rfl, fun K _ _ => VRl.cons (.lit rfl) .nil⟩
      · cases h
    · rename_i e ht
      split at h
      · rename_i s
        simp only [Bool.and_eq_true] at h
        have hC := beq_nat h.1
        rcases open_slice ht hy with ⟨rfl, _⟩ | ⟨a, len, cap, m, k, D, Pl, rfl, hb, hl, hm, hmm, hx, hi⟩
        · exact ⟨[], ⟨by simp, by simp⟩, [.con true s.size []], ⟨_, rfl, .inr ⟨true, [], rfl, fun _ => rfl, .nil⟩⟩, fun K _ _ => VRl.cons (.con0 fun _ => rfl) .nil⟩
        · have hlm : len ≤ m := by rw [hmm]; split <;> omega
          obtain ⟨l, hll, hq⟩ := exl (α := s.T × List V × List Value) (Q := fun i x => s.wf x.1 ∧ RCell s x.1 x.2.1 ∧ (∀ K : Cx, K.w = w → (s.flat = false → ∀ q, q < w.heap.size → K.S q) → VRl K x.2.1 x.2.2) ∧ x.2.2.length = s.size ∧ ∀ j, j < s.size → w.cell? ((a.add (i * s.size)).add j) = x.2.2[j]?) len (fun i hilt => by
            obtain ⟨cs', hc, ht'⟩ := hi i (by omega)
            rw [hC] at hc
            obtain ⟨x, hwf, vs, hr, hk⟩ := ih _ _ _ _ _ h.2 ht'
            obtain ⟨_, hcl, hat⟩ := World.cells?_some hc
            exact ⟨⟨x, vs, cs'⟩, hwf, hr, hk, hcl, hat⟩)
          subst hll
          have hm' : l.length ≤ 9223372036854775807 := Nat.le_trans hl hm
          refine ⟨l.map (·.1), ⟨by simpa using hm', fun x hx => ?_⟩, [.con s.flat s.size (l.map (·.2.1))], ⟨_, rfl, .inr ⟨s.flat, _, rfl, fun h => h, ⟨by simp, fun i x y h1 h2 => ?_⟩⟩⟩, fun K hw hS => ?_⟩
          · obtain ⟨p, hp, rfl⟩ := List.mem_map.1 hx
            obtain ⟨j, hj⟩ := List.mem_iff_getElem?.1 hp
            exact (hq j p hj).1
          · rw [List.getElem?_map] at h1 h2
            cases hp : l[i]? with
            | none => rw [hp] at h1; cases h1
            | some p =>
              rw [hp] at h1 h2
              cases h1; cases h2
              exact (hq i p hp).2.1
          · have hS' := hS rfl
            refine VRl.cons ?_ .nil
            cases l with
            | nil => exact .con0 fun h => by cases h
            | cons p0 r =>
              have hsp := s.size_pos
              obtain ⟨ab, ao, as0⟩ := a
              have h0 := (hq 0 p0 rfl).2.2.2
              have hc0 := h0.2 0 hsp
              have hsome : ∃ u, p0.2.2[0]? = some u := ⟨_, List.getElem?_eq_getElem (by omega)⟩
              obtain ⟨u, hu⟩ := hsome
              rw [hu] at hc0
              simp only [Nat.zero_mul, Addr.add, if_true] at hc0
              have has : as0 = none := by
                unfold World.cell? at hc0
                split at hc0
                · cases as0 with
                  | none => rfl
                  | some _ => cases hc0
                · cases hc0
              subst has
              have hbl : ab < w.heap.size := by
                unfold World.cell? at hc0
                split at hc0
                · rename_i hh
                  exact (Array.getElem?_eq_some_iff.1 hh).1
                · cases hc0
              have hadd : ∀ i j, (Addr.mk ab ao none |>.add (i * s.size)).add j = ⟨ab, ao + i * s.size + j, none⟩ := by
                intro i j
                unfold Addr.add
                split <;> split <;> simp_all
              have hat : ∀ (i j : Nat) (v : V), at2 (((p0 :: r).map (·.2.1))) i j = some v → ∃ p, (p0 :: r)[i]? = some p ∧ p.2.1[j]? = some v := by
                intro i j v hv
                unfold at2 at hv
                rw [List.getElem?_map] at hv
                cases hp : (p0 :: r)[i]? with
                | none => rw [hp] at hv; cases hv
                | some p => rw [hp] at hv; exact ⟨p, rfl, hv⟩
              have hcell : ∀ i j v p, (p0 :: r)[i]? = some p → p.2.1[j]? = some v → ∃ x, p.2.2[j]? = some x ∧ w.cell? ⟨ab, ao + i * s.size + j, none⟩ = some x := by
                intro i j v p hp hv
                obtain ⟨_, hr, _, hlen, hce⟩ := hq i p hp
                have hj : j < s.size := by rw [← (hr.facts).1]; exact get_lt hv
                have := hce j hj
                rw [hadd] at this
                exact ⟨_, List.getElem?_eq_getElem (by omega), this.trans (List.getElem?_eq_getElem (by omega))⟩
              have hlen' : (p0 :: r).length = ((p0 :: r).map (·.2.1)).length := by simp
              rw [hlen']
              refine .con (by simp) (by simpa using hl) (hS' ab hbl) (fun cs hcs => ?_) (fun cs hcs => ?_) (fun i j v hv => ?_) (fun i j v x hv hx => ?_)
              · obtain ⟨p, hp, rfl⟩ := List.mem_map.1 hcs
                obtain ⟨j, hj⟩ := List.mem_iff_getElem?.1 hp
                exact (RCell.facts _ _ _ (hq j p hj).2.1).1
              · obtain ⟨p, hp, rfl⟩ := List.mem_map.1 hcs
                obtain ⟨j, hj⟩ := List.mem_iff_getElem?.1 hp
                exact (RCell.facts _ _ _ (hq j p hj).2.1).2.1
              · obtain ⟨p, hp, hv⟩ := hat i j v hv
                obtain ⟨x, _, hx⟩ := hcell i j v p hp hv
                exact ⟨x, by rw [hw]; exact hx⟩
              · obtain ⟨p, hp, hv⟩ := hat i j v hv
                obtain ⟨x', hx1, hx2⟩ := hcell i j v p hp hv
                rw [hw, hx2] at hx
                cases hx
                exact ((hq i p hp).2.2.1 (K.clo s.flat) hw (fun hf q hq' => ⟨hf, hS' q hq'⟩)).2 j v _ hv hx1
      · cases h
    · rename_i fs ht
      simp only [Bool.and_eq_true] at h
      obtain ⟨xs, m, _, _, hl, hlen, hf⟩ := DataW.trod_struct ht hy
      have := fs_read (g := tyB P n) (n := m) (cs := cs) (fun t s cs y h1 h2 => ih t s m cs y h1 h2) fs.toList 0 s h.2 (by rw [hl, beq_nat h.1]; omega) (fun f hfm => by
        obtain ⟨i, hi⟩ := List.mem_iff_getElem?.1 hfm
        have hi' : fs[i]? = some f := by simpa using hi
        have hlt : i < xs.length := by rw [hlen]; exact (Array.getElem?_eq_some_iff.1 hi').1
        exact ⟨_, (hf i f hi').trans (List.getElem?_eq_getElem hlt)⟩)
      simpa using this
    · cases h
end
end Go.Ev
end

section
set_option linter.unusedVariables false
set_option linter.unusedSimpArgs false
set_option linter.unnecessarySimpa false
namespace Go.Ev
open Go Go.WideShapes Go.RowKit

def isSt (P : Program) (t : TypeId) : Bool := match P.underlying t with
  | some (.struct _) => true
  | _ => false
/-- A parameter's type, as0 the functions of the specs take it. -/
def Sh.par (P : Program) (t : TypeId) (s : Ty) : Sh := match isSt P t with
  | true => .agg (.dat s)
  | false => .dat s
/-- An argument reads as0 plain data. -/
def RdA (w : World) (s : Sh) (v : Value) (x : s.T) : Prop := ∃ u, (∀ ln, RL ln (s.enc x) [u]) ∧ ∀ K : Cx, K.w = w → (∀ q, q < w.heap.size → K.S q) → VR K u v

section
variable {H : Type} {enc' : TypeId × Value → H} {P : Program} {w : World} {base base' : Nat} {spare : Nat → Bool} {held : Bool}
theorem cells_one {t : TypeId} {s : Ty} {v : Value} {n : Nat} {r : Reach} (hty : tyB P n t s = true) (hst : isSt P t = false) (hv : Value.okWide P w r base t v) : v.cells.toList = [v] := by
  cases n with
  | zero => cases hty
  | succ n =>
    unfold tyB at hty
    unfold isSt at hst
    split at hty
    · rename_i ht; obtain ⟨m, rfl⟩ := okWide_int ht hv; rfl
    · rename_i ht; obtain ⟨m, rfl⟩ := okWide_bool ht hv; rfl
    · rename_i ht; obtain ⟨m, rfl⟩ := okWide_string ht hv; rfl
    · rename_i ht; obtain ⟨a, b, c, rfl⟩ := okWide_slice ht hv; rfl
    · rename_i ht; rw [ht] at hst; cases hst
    · cases hty
theorem one_of {s : Ty} {vs : List V} {v : Value} {x : s.T} (h : RCell s x vs) (k : ∀ K : Cx, K.w = w → (s.flat = false → ∀ q, q < w.heap.size → K.S q) → VRl K vs [v]) : ∃ u, vs = [u] := by
  have := (k ⟨fun _ => True, fun _ => none, fun _ => False, w⟩ rfl (fun _ _ _ => trivial)).1
  match vs, this with
  | [u], _ => exact ⟨u, rfl⟩
/-- An argument that is no struct. -/
theorem arg_dat {t : TypeId} {s : Ty} {v : Value} {d p} {n : Nat} {r : Reach} (hty : tyB P n t s = true) (hst : isSt P t = false) (hv : Value.okWide P w r base' t v) (h : DataW.Trod enc' P w base spare held t v d p) : ∃ x : s.T, s.wf x ∧ RdA w (.dat s) v x := by
  obtain ⟨fuel, h⟩ := h
  obtain ⟨x, hwf, vs, hr, hk⟩ := ty_read n t s fuel _ _ hty h
  rw [cells_one hty hst hv] at hk
  obtain ⟨u, rfl⟩ := one_of hr hk
  refine ⟨x, hwf, u, fun ln => hr.enc, fun K hw hS => ?_⟩
  exact (hk K hw fun _ => hS).2 0 _ _ rfl rfl
/-- A struct. -/
theorem arg_agg {t : TypeId} {s : Ty} {v : Value} {d p} {n : Nat} {r : Reach} (hty : tyB P n t s = true) (hst : isSt P t = true) (hv : Value.okWide P w r base' t v) (h : DataW.Trod enc' P w base spare held t v d p) : ∃ x : s.T, s.wf x ∧ RdA w (.agg (.dat s)) v x := by
  obtain ⟨fuel, h⟩ := h
  obtain ⟨x, hwf, vs, hr, hk⟩ := ty_read n t s fuel _ _ hty h
  unfold isSt at hst
  split at hst
  · rename_i fs ht
    obtain ⟨cs, rfl, _⟩ := okWide_struct ht hv
    refine ⟨x, hwf, .agg vs, fun ln => Rows.cons ?_ .nil, fun K hw hS => ?_⟩
    · exact .agg (hr.enc (ln := ln)).1 (hr.enc (ln := ln)).2
    · exact VRl.agg (hk K hw fun _ => hS)
  · cases hst
end

/-- A law that the specs prove. -/
theorem law_calls {E : Env} (hP : ProgOK E) {r f : Nat} {g : FS} (hs : SpecAt E r f g) {args : List V} {sp : Sp Ret} {y : sp.α} (h1 : g.g args [] = some sp) (h2 : sp.o = some y) (h3 : sp.alt.val y = (.lit (.bool true), [], [])) {W : World} {a2 : List V} {vals : List Value}
    (hr : RL (fun _ => none) args a2) (hv : ∀ K : Cx, K.w = W → (∀ q, q < W.heap.size → K.S q) → VRl K a2 vals) : Calls E.P f vals.toArray W fun e w' => e = .returned (.bool true) ∧ Below W.heap.size W w' := by
  obtain ⟨r', ln', h4, h5⟩ := hs 0 args [] sp y h1 h2 (fun _ => none) a2 [] hr ⟨rfl, fun _ _ _ h => by cases h⟩ (fun _ _ => rfl)
  rw [h3] at h5
  have hv5 := h5.v
  have e1 : r'.1 = .lit (.bool true) := by
    generalize r'.1 = z at hv5
    cases hv5
    rfl
  have hg : Good (baseOf ⟨fun q => q < W.heap.size, fun _ => none, fun _ => False, W⟩ (ofL (([] : List Blk).map some)) 0) (fun b => b < 0) ⟨fun q => q < W.heap.size, fun _ => none, fun _ => False, W⟩ (ofL (([] : List Blk).map some)) := by
    exact { blk := fun b x h => by (cases h), inj := fun b x b' x' q n n' h => by (cases h), apart := fun b x q n h => by (cases h), sz := fun q h => h, N := fun b h => False.elim h, grow := Nat.le_refl _, io := Io.refl _, frame := fun _ _ _ => rfl, inp := fun b h => absurd h (Nat.not_lt_zero _), own := fun b x q n h => by (cases h), S0 := fun q h => h, S1 := fun q h => .inl h }
  refine ((evF_sound hP _ f a2 [] r' h4).2 ⟨fun q => q < W.heap.size, fun _ => none, fun _ => False, W⟩ vals (hv _ rfl fun _ h => h) hg).mono fun e w' h => ?_
  obtain ⟨v, K', rfl, rfl, hv', _, hg'⟩ := h
  rw [e1] at hv'
  refine ⟨?_, hg'.io.1, hg'.io.2.1, hg'.io.2.2, hg'.grow, fun k hk => hg'.frame k hk ?_⟩
  · cases hv'; rfl
  · rintro ⟨b, x, n, h, _⟩
    cases h
/-- The same, with the spec's own words. -/
theorem law_true {E : Env} (hP : ProgOK E) {r f : Nat} {g : FS} (hs : SpecAt E r f g) {x : g.a.T} {y : g.r.T} (h1 : g.g (g.args x) [] = some ⟨g.r.T, g.F x, g.r.dflt, g.r.alt⟩) (h2 : g.F x = some y) (h3 : g.r.alt.val y = (.lit (.bool true), [], [])) {W : World} {a2 : List V} {vals : List Value}
    (hr : ∀ ln, RL ln (g.args x) a2) (hv : ∀ K : Cx, K.w = W → (∀ q, q < W.heap.size → K.S q) → VRl K a2 vals) : Calls E.P f vals.toArray W fun e w' => e = .returned (.bool true) ∧ Below W.heap.size W w' :=
  law_calls hP hs (y := y) h1 h2 h3 (hr _) hv
end Go.Ev
end

section
set_option linter.unusedVariables false
set_option linter.unusedSimpArgs false
set_option linter.unnecessarySimpa false
open Go Go.Ev Go.Proofs
namespace Go.Proofs.YtdnfnjaccbgplaaDoor.K
def inl (l : List Nat) (f : Nat) : Bool := mem f l
def tab : List (Nat × List (Nat × List (Nat × Nat))) → Nat → Nat → List (Nat × Nat)
  | [], _, _ => []
  | (a, l) :: r, f, i => cond (Nat.beq a f) (T l i) (tab r f i)
  where T : List (Nat × List (Nat × Nat)) → Nat → List (Nat × Nat)
    | [], _ => []
    | (b, l) :: r, i => cond (Nat.beq b i) l (T r i)
def tel : List (Nat × List Nat) := [(23, [2, 0, 0, 2, 2]), (25, [0, 0, 0, 2, 0, 0, 2, 2]), (69, [2, 0, 2])]
def fsl : List Nat := [3, 4, 5, 6, 7, 8, 9, 10, 11, 12, 13, 14, 15, 16, 17, 18, 19, 20, 21, 22, 23, 24, 25, 26, 27, 28, 29, 30, 31, 32, 33, 34, 35, 36, 37, 38, 39, 40, 41, 42, 43, 44, 45, 46, 47, 48, 49, 50, 51, 52, 53, 54, 55, 56, 57, 58, 59, 60, 61, 62, 63, 64, 65, 66, 67, 68, 69, 70, 71, 72, 73, 74, 75, 76, 77, 78, 79, 80, 81, 82, 83, 84, 85, 86, 87, 88, 89, 90, 91, 92, 93, 94, 95, 96, 97, 98, 99, 100, 101, 102, 103, 104, 105, 106, 107, 110, 111, 112, 113, 115]
def unOf : List (Nat × Nat × List (Nat × List Nat)) → Nat → Nat → List (Nat × List Nat)
  | [], _, _ => []
  | (a, b, l) :: r, f, i => cond (Nat.beq a f && Nat.beq b i) l (unOf r f i)
def unl : List (Nat × Nat × List (Nat × List Nat)) := [(7, 8, [(0, [4])]), (9, 12, [(1, [11, 12, 13]), (4, [11, 12]), (8, [11, 12])]), (11, 8, [(0, [3]), (6, [10]), (14, [18])]), (12, 14, [(0, [3, 9]), (1, [2, 3, 9]), (2, [9]), (3, [9]), (4, [9])]), (12, 17, [(0, [2])]), (12, 20, [(0, [3]), (1, [2, 3])]), (12, 29, [(1, [3])]), (17, 6, [(8, [10])]), (18, 2, [(8, [10, 14, 18, 22, 26, 30]), (11, [14, 18, 22, 26, 30]), (15, [18, 22, 26, 30]), (19, [22, 26, 30]), (23, [26, 30]), (27, [30])]), (18, 3, [(4, [7, 10, 15]), (7, [12]), (12, [15])]), (19, 7, [(2, [6])]), (23, 1, [(2, [4])]), (28, 16, [(1, [10]), (4, [10]), (8, [10])]), (34, 4, [(1, [3, 7])]), (49, 7, [(2, [6, 7, 8])]), (52, 8, [(2, [7])]), (52, 9, [(4, [6])]), (52, 10, [(4, [6])]), (54, 4, [(3, [5])]), (71, 9, [(1, [11]), (3, [11]), (8, [11])]), (73, 5, [(1, [16]), (5, [16]), (7, [16]), (11, [16]), (12, [16])]), (104, 0, [(8, [12])])]
def jnR : List (Nat × List Nat × Nat) → Nat → Option (List Nat × Nat)
  | [], _ => none
  | (a, l, n) :: r, t => cond (Nat.beq a t) (some (l, n)) (jnR r t)
def jnOf : List (Nat × List (Nat × List Nat × Nat)) → Nat → Nat → Option (List Nat × Nat)
  | [], _, _ => none
  | (a, l) :: r, f, t => cond (Nat.beq a f) (jnR l t) (jnOf r f t)
def jnl : List (Nat × List (Nat × List Nat × Nat)) := [(15, [(6, [1, 3, 4], 72), (8, [1, 3, 4, 15], 32), (9, [1, 3, 4, 15], 16), (10, [1, 3, 4], 16), (34, [6, 88], 40), (37, [97], 64)]), (39, [(5, [1, 2, 3, 8, 22], 72)]), (40, [(9, [1, 2, 9, 10, 20, 21, 22], 64)]), (54, [(6, [1, 3, 10, 19], 32), (7, [1, 3, 10, 19], 16)]), (72, [(6, [1, 5, 6, 7, 8, 9], 8)]), (77, [(16, [0, 7, 43], 64), (17, [0, 7, 43], 48), (18, [0, 7, 43], 32), (19, [0, 7, 43], 16), (32, [0, 7, 8], 96), (34, [0, 7, 8], 24)]), (84, [(4, [0, 1, 5, 6], 56)]), (96, [(14, [0, 4, 5], 8)])]
def anl : List (Nat × List (Nat × List (Nat × Nat))) := [(12, [(0, [(0, 0), (1, 0), (5, 0), (7, 50), (8, 0)]), (10000000, [(5, 0), (7, 0)]), (20000000, [(4, 0)])]), (21, [(0, [(1, 0), (3, 0)]), (10000000, []), (20000000, [(2, 0)])]), (24, [(0, [(1, 0), (2, 0), (3, 0), (4, 0)]), (10000000, [(1, 0), (2, 0), (3, 0)]), (20000000, [(2, 0)])]), (25, [(0, [(0, 0), (3, 0)]), (10000000, []), (20000000, [(2, 0)])]), (26, [(0, [(1, 0), (4, 0), (9, 0), (10, 0), (37, 0), (38, 0), (39, 0)]), (10000000, [(1, 0), (4, 0), (9, 0)]), (20000000, [(4, 0), (5, 0), (6, 0)])]), (28, [(0, [(1, 0), (4, 0), (6, 0), (7, 0), (8, 0)]), (10000000, [(1, 0), (4, 0), (6, 0)]), (20000000, [(4, 0)])]), (32, [(0, [(1, 0), (2, 0), (3, 0), (4, 0), (5, 0)]), (10000000, [(2, 0)]), (20000000, [(2, 0)])]), (35, [(0, [(2, 0), (3, 0), (5, 0)]), (10000000, []), (20000000, [(4, 0)])]), (36, [(0, [(0, 0), (1, 0), (5, 0)]), (10000000, []), (20000000, [(4, 0)])]), (40, [(0, [(1, 0), (2, 0), (20, 0), (21, 0), (22, 0)]), (10000000, []), (20000000, [(4, 0), (5, 0)])]), (42, [(0, [(1, 0), (2, 0), (7, 0)]), (10000000, []), (20000000, [(4, 0), (5, 0)])]), (51, [(0, [(0, 0), (14, 0), (15, 0)]), (10000000, []), (20000000, [(2, 0)])]), (55, [(0, [(0, 0), (3, 0)]), (10000000, []), (20000000, [(2, 0)])]), (57, [(0, [(0, 0), (1, 0), (5, 0), (6, 0)]), (10000000, [(5, 0)]), (20000000, [(4, 0)])]), (59, [(0, [(0, 0), (3, 0), (4, 0)]), (10000000, [(3, 0)]), (20000000, [(2, 0)])]), (60, [(0, [(5, 0), (11, 0), (12, 0), (13, 0)]), (10000000, [(5, 0)]), (20000000, [(4, 0)])]), (62, [(0, [(0, 0), (3, 0), (6, 0), (7, 0)]), (10000000, [(3, 0)]), (20000000, [(2, 0)])]), (64, [(0, [(0, 0), (1, 0), (2, 0), (7, 0), (8, 0)]), (10000000, [(7, 0)]), (20000000, [(6, 0)])]), (65, [(0, [(0, 0)]), (10000000, [(0, 0)]), (20000000, [(2, 0)])]), (66, [(0, [(1, 0), (2, 0), (7, 50), (8, 0), (21, 0), (22, 0), (23, 0)]), (10000000, [(1, 0), (2, 0), (7, 0), (8, 0)]), (20000000, [(4, 0), (5, 0), (6, 0)])]), (67, [(0, [(1, 0), (2, 0), (3, 0), (7, 0), (8, 0)]), (10000000, [(1, 0), (2, 0), (7, 0)]), (20000000, [(6, 0)])]), (68, [(0, [(0, 0), (1, 0), (5, 0), (6, 50), (7, 0)]), (10000000, [(5, 0), (6, 0), (7, 0)]), (20000000, [(4, 0), (5, 0)])]), (72, [(0, [(1, 0), (5, 50), (6, 0)]), (10000000, [(5, 0), (6, 0)]), (20000000, [(2, 0), (3, 0), (4, 0)])]), (73, [(0, [(1, 0), (3, 50), (4, 0)]), (10000000, [(3, 0)]), (20000000, [(2, 0)])]), (75, [(0, [(1, 0), (2, 0), (5, 0)]), (10000000, []), (20000000, [(4, 0)])]), (76, [(0, [(0, 71), (1, 0), (7, 0)]), (10000000, [(0, 0)]), (20000000, [(6, 0)])]), (77, [(3, [(7, 0), (8, 0), (9, 0)]), (10000003, [(9, 0)]), (20000000, [(4, 0)])]), (80, [(0, [(0, 0), (1, 0), (5, 71), (6, 0)]), (10000000, [(5, 0)]), (20000000, [(4, 0)])]), (81, [(0, [(0, 0), (1, 0)]), (10000000, [(0, 0)]), (20000000, [(4, 0)])]), (82, [(0, [(0, 0), (2, 0), (4, 0)]), (10000000, [(2, 0)]), (20000000, [(2, 0), (3, 0)])]), (83, [(0, [(0, 0), (1, 0)]), (10000000, [(0, 0)]), (20000000, [(4, 0)])]), (84, [(0, [(0, 0), (1, 0)]), (10000000, [(0, 0)]), (20000000, [(4, 0)])]), (87, [(0, [(0, 0), (1, 0), (7, 0), (8, 0)]), (10000000, []), (20000000, [(4, 0)])]), (96, [(0, [(0, 0), (4, 0), (5, 0), (6, 0)]), (10000000, [(0, 0), (4, 0), (5, 0)]), (20000000, [(2, 0), (3, 0)])]), (107, [(1, [(0, 0), (7, 0), (8, 0), (9, 0)]), (3, [(0, 0), (7, 0), (8, 0), (9, 0), (12, 0)]), (5, [(0, 0), (7, 0), (8, 0), (9, 0), (14, 0), (15, 0)]), (7, [(0, 0), (7, 0), (8, 0), (9, 0), (14, 0), (15, 0), (16, 0)]), (9, [(175, 0)]), (10000001, []), (10000003, [(8, 0), (9, 0)]), (10000005, []), (10000007, [(0, 0), (7, 0), (8, 0), (9, 0), (14, 0), (15, 0)]), (10000009, []), (20000000, [(4, 0)])])]
def onOf : List (Nat × List (List (Option Nat))) → Nat → List (List (Option Nat))
  | [], _ => []
  | (a, l) :: r, f => cond (Nat.beq a f) l (onOf r f)
def onl : List (Nat × List (List (Option Nat))) := [(23, [[some 69, none]]), (24, [[some 69, none, none, none]]), (26, [[some 69, none], [none], [none]]), (27, [[some 25]]), (28, [[some 69, none, none, none]]), (30, [[some 69, none], [none]]), (31, [[some 69, none], [none], [none]]), (32, [[some 69, none, none, none]]), (33, [[some 69, none, none, none]]), (34, [[some 25], [none]]), (39, [[some 25], [none]]), (41, [[some 25], [none]]), (43, [[some 69, none], [none]]), (44, [[some 69, none], [none]]), (45, [[some 69, none], [none]]), (46, [[some 69, none, none, none]]), (47, [[some 69, none, none, none]]), (48, [[some 69, none, none, none]]), (66, [[some 25], [none], [none]]), (68, [[some 25], [none, none, none, none, none, none, none, none, none, none]]), (69, [[some 69, none]]), (72, [[some 25], [none], [none]]), (73, [[some 25]]), (76, [[some 5]]), (86, [[some 69]])]
noncomputable def env : Env where
  P := Tryd.prog
  mv := inl [60, 61, 76, 83, 87, 88, 91, 92, 93, 94, 95, 98, 99, 103, 104]
  An := tab anl
  te := teOf tel
  fs := fun f => mem f fsl
  un := unOf unl
  Jn := jnOf jnl
  On := onOf onl
  nl := inl [86]
  G := fun f => match f with | 77 => some gRepeat | _ => none
end Go.Proofs.YtdnfnjaccbgplaaDoor.K
end

section
set_option linter.unusedVariables false
set_option linter.unusedSimpArgs false
set_option linter.unnecessarySimpa false
/-
  DERIVED: THE SHELF's CONTRACTS AT THIS DUMP, IN PLAIN WORDS (tools/lay-plain.mjs out of 'TrydShelf.lean', which tools/lay-shelf.mjs wrote): THE SAME DECLARATIONS UNDER THE SAME NAMES: 'import', 'namespace', 'open', 'def', 'theorem' AND NOTHING ELSE: no command of the shelf's: FOR A HAND-IN. Each laying: the table of numbers ('.._ren') and one theorem, a field a fact of the dump's own or the kernel's comparison; each contract: ONE APPLICATION.
-/
namespace Go.Proofs
open Go.Shelf
def Tryd.lays170_ren : Go.Shelf.Ren := ⟨fun | 170 => 93 | n => n, fun | 70 => 130 | 3 => 3 | 0 => 0 | 72 => 132 | 37 => 71 | 5 => 5 | n => n, fun | n => n⟩
theorem Tryd.lays170 : Go.Proofs.Lays.n170 Tryd.prog Tryd.lays170_ren := {
  mixed := by kernel_rfl
  f170 := Tryd.func93.trans (congrArg some (by kernel_rfl))
  t0 := Tryd.underlying0
  a0 := Tryd.isAgg0
  z0 := Tryd.sizeOf0
  v0 := Tryd.zeroValue0
  t3 := Tryd.underlying3
  a3 := Tryd.isAgg3
  z3 := Tryd.sizeOf3
  v3 := Tryd.zeroValue3
  t37 := Tryd.underlying71
  a37 := Tryd.isAgg71
  z37 := Tryd.sizeOf71
  v37 := Tryd.zeroValue71
  t70 := Tryd.underlying130
  a70 := Tryd.isAgg130
  z70 := Tryd.sizeOf130
  v70 := Tryd.zeroValue130
  t72 := Tryd.underlying132
  a72 := Tryd.isAgg132
  z72 := Tryd.sizeOf132
  v72 := Tryd.zeroValue132 }
open Go.RowKit in
/-- (*strings.Builder).Len: "Len returns the number of accumulated bytes; b.Len() == len(b.String()).": the world is as0 it was. (LAID: no walk: one application.) -/
theorem Tryd.Builder_Len (B b : Nat) (bs : List Value) (w : World) (h : Lib.IsBuilder 132 5 B b bs w) :
    Calls Tryd.prog 93 #[.pointer (some ⟨b, 0, none⟩)] w fun e w' => e = .returned (.int .i64 bs.length) ∧ w' = w := Any.Builder_Len Tryd.lays170 B b bs w h
def Tryd.lays169_ren : Go.Shelf.Ren := ⟨fun | 169 => 94 | n => n, fun | 70 => 130 | 9 => 9 | 0 => 0 | 72 => 132 | 37 => 71 | 127 => 150 | 3 => 3 | 5 => 5 | n => n, fun | n => n⟩
theorem Tryd.lays169 : Go.Proofs.Lays.n169 Tryd.prog Tryd.lays169_ren := {
  mixed := by kernel_rfl
  f169 := Tryd.func94.trans (congrArg some (by kernel_rfl))
  t0 := Tryd.underlying0
  a0 := Tryd.isAgg0
  z0 := Tryd.sizeOf0
  v0 := Tryd.zeroValue0
  t3 := Tryd.underlying3
  a3 := Tryd.isAgg3
  z3 := Tryd.sizeOf3
  v3 := Tryd.zeroValue3
  t9 := Tryd.underlying9
  a9 := Tryd.isAgg9
  z9 := Tryd.sizeOf9
  v9 := Tryd.zeroValue9
  t37 := Tryd.underlying71
  a37 := Tryd.isAgg71
  z37 := Tryd.sizeOf71
  v37 := Tryd.zeroValue71
  t70 := Tryd.underlying130
  a70 := Tryd.isAgg130
  z70 := Tryd.sizeOf130
  v70 := Tryd.zeroValue130
  t72 := Tryd.underlying132
  a72 := Tryd.isAgg132
  z72 := Tryd.sizeOf132
  v72 := Tryd.zeroValue132
  t127 := Tryd.underlying150
  a127 := Tryd.isAgg150
  z127 := Tryd.sizeOf150
  v127 := Tryd.zeroValue150 }
theorem Tryd.Builder_Extra_169 : Builder.Extra Tryd.prog Tryd.lays169_ren := {
  sizeBuilder := by kernel_rfl
  liesBuilder := by kernel_rfl
  t5 := Tryd.underlying5
  a5 := Tryd.isAgg5
  z5 := Tryd.sizeOf5
  v5 := Tryd.zeroValue5
  infoByte := by kernel_rfl
  cellsByte := by kernel_rfl
  sizeByte := by kernel_rfl
  neB5 := by decide }
open Go.RowKit in
/-- (*strings.Builder).String: "String returns the accumulated string.": OF A BUILDER THAT HOLDS AT LEAST ONE BYTE. ✋ THE MODEL FREEZES THOSE BYTES IN THE BUFFER (unsafe.String): a later write INTO them ends the model's run without an answer; a later append BEHIND them goes on. The statement's order of evaluation is drawn: one draw. (LAID: no walk: one application.) -/
theorem Tryd.Builder_String (B b : Nat) (l : List UInt8) (w : World) (h : Lib.IsBuilder 132 5 B b (Lib.byteCells l) w) (h0 : l ≠ []) :
    Calls Tryd.prog 94 #[.pointer (some ⟨b, 0, none⟩)] w fun e w' => e = .returned (.string ⟨l.toArray⟩) ∧ Below B w w' := Any.Builder_String Tryd.lays169 Tryd.Builder_Extra_169 B b l w h h0
open Go.RowKit in
/-- (*strings.Builder).String OF A BUILDER THAT HOLDS NO BYTE: the empty string. (Its buffer is nil, or a row of which it has taken nothing yet; where that row has NO capacity the model lays one new block for unsafe.SliceData's 'some address'.) One draw. (LAID: no walk: one application.) -/
theorem Tryd.Builder_String_empty (B b : Nat) (w : World) (h : Lib.IsBuilder 132 5 B b [] w) (hBw : B ≤ w.heap.size) :
    Calls Tryd.prog 94 #[.pointer (some ⟨b, 0, none⟩)] w fun e w' => e = .returned (.string ⟨#[]⟩) ∧ Below B w w' := Any.Builder_String_empty Tryd.lays169 Tryd.Builder_Extra_169 B b w h hBw
open Go.RowKit in
/-- (*strings.Builder).String: "String returns the accumulated string.": WHATEVER THE BUILDER HOLDS. (LAID: no walk: one application.) -/
theorem Tryd.Builder_String_any (B b : Nat) (l : List UInt8) (w : World) (h : Lib.IsBuilder 132 5 B b (Lib.byteCells l) w) (hBw : B ≤ w.heap.size) :
    Calls Tryd.prog 94 #[.pointer (some ⟨b, 0, none⟩)] w fun e w' => e = .returned (.string ⟨l.toArray⟩) ∧ Below B w w' := Any.Builder_String_any Tryd.lays169 Tryd.Builder_Extra_169 B b l w h hBw
def Tryd.lays241_ren : Go.Shelf.Ren := ⟨fun | 241 => 104 | 277 => 109 | n => n, fun | 70 => 130 | 3 => 3 | 0 => 0 | 72 => 132 | 37 => 71 | 5 => 5 | n => n, fun | n => n⟩
theorem Tryd.lays241 : Go.Proofs.Lays.n241 Tryd.prog Tryd.lays241_ren := {
  mixed := by kernel_rfl
  f241 := Tryd.func104.trans (congrArg some (by kernel_rfl))
  f277 := Tryd.func109.trans (congrArg some (by kernel_rfl))
  t0 := Tryd.underlying0
  a0 := Tryd.isAgg0
  z0 := Tryd.sizeOf0
  v0 := Tryd.zeroValue0
  t3 := Tryd.underlying3
  a3 := Tryd.isAgg3
  z3 := Tryd.sizeOf3
  v3 := Tryd.zeroValue3
  t37 := Tryd.underlying71
  a37 := Tryd.isAgg71
  z37 := Tryd.sizeOf71
  v37 := Tryd.zeroValue71
  t70 := Tryd.underlying130
  a70 := Tryd.isAgg130
  z70 := Tryd.sizeOf130
  v70 := Tryd.zeroValue130
  t72 := Tryd.underlying132
  a72 := Tryd.isAgg132
  z72 := Tryd.sizeOf132
  v72 := Tryd.zeroValue132 }
theorem Tryd.Builder_Extra_241 : Builder.Extra Tryd.prog Tryd.lays241_ren := {
  sizeBuilder := by kernel_rfl
  liesBuilder := by kernel_rfl
  t5 := Tryd.underlying5
  a5 := Tryd.isAgg5
  z5 := Tryd.sizeOf5
  v5 := Tryd.zeroValue5
  infoByte := by kernel_rfl
  cellsByte := by kernel_rfl
  sizeByte := by kernel_rfl
  neB5 := by decide }
open Go.RowKit in
/-- (*strings.Builder).grow (no doc but "grow copies the buffer to a new, larger buffer so that there are at least n bytes of capacity beyond len(b.buf)."): AT A BUILDER WITHOUT A BUFFER: a new row of whatever bytes for its buffer, none of them its own yet. Three draws. (LAID: no walk: one application.) -/
theorem Tryd.Builder_grow_fresh (B b n : Nat) (w : World) (hB : B ≤ b) (hbk : w.heap[b]? = some (.cells #[.pointer (some ⟨b, 0, none⟩), .slice none 0 0] 132 (0, 0))) (hBw : B ≤ w.heap.size) (hn : n ≤ 281474976710656) :
    Calls Tryd.prog 104 #[.pointer (some ⟨b, 0, none⟩), .int .i64 n] w fun e w' => e = .returned (.tuple #[]) ∧ (Lib.BuilderAt 132 5 B b (.pointer (some ⟨b, 0, none⟩)) [] w' ∧ Below B w w') := Any.Builder_grow_fresh Tryd.lays241 Tryd.Builder_Extra_241 B b n w hB hbk hBw hn
def Tryd.lays165_ren : Go.Shelf.Ren := ⟨fun | 165 => 91 | 240 => 103 | 241 => 104 | 276 => 108 | 277 => 109 | n => n, fun | 70 => 130 | 3 => 3 | 0 => 0 | 4 => 4 | 9 => 9 | 20 => 20 | 72 => 132 | 37 => 71 | 164 => 152 | 5 => 5 | n => n, fun | n => n⟩
theorem Tryd.lays165 : Go.Proofs.Lays.n165 Tryd.prog Tryd.lays165_ren := {
  mixed := by kernel_rfl
  f165 := Tryd.func91.trans (congrArg some (by kernel_rfl))
  f240 := Tryd.func103.trans (congrArg some (by kernel_rfl))
  f241 := Tryd.func104.trans (congrArg some (by kernel_rfl))
  f276 := Tryd.func108.trans (congrArg some (by kernel_rfl))
  f277 := Tryd.func109.trans (congrArg some (by kernel_rfl))
  t0 := Tryd.underlying0
  a0 := Tryd.isAgg0
  z0 := Tryd.sizeOf0
  v0 := Tryd.zeroValue0
  t3 := Tryd.underlying3
  a3 := Tryd.isAgg3
  z3 := Tryd.sizeOf3
  v3 := Tryd.zeroValue3
  t4 := Tryd.underlying4
  a4 := Tryd.isAgg4
  z4 := Tryd.sizeOf4
  v4 := Tryd.zeroValue4
  t9 := Tryd.underlying9
  a9 := Tryd.isAgg9
  z9 := Tryd.sizeOf9
  v9 := Tryd.zeroValue9
  t20 := Tryd.underlying20
  a20 := Tryd.isAgg20
  z20 := Tryd.sizeOf20
  v20 := Tryd.zeroValue20
  t37 := Tryd.underlying71
  a37 := Tryd.isAgg71
  z37 := Tryd.sizeOf71
  v37 := Tryd.zeroValue71
  t70 := Tryd.underlying130
  a70 := Tryd.isAgg130
  z70 := Tryd.sizeOf130
  v70 := Tryd.zeroValue130
  t72 := Tryd.underlying132
  a72 := Tryd.isAgg132
  z72 := Tryd.sizeOf132
  v72 := Tryd.zeroValue132
  t164 := Tryd.underlying152
  a164 := Tryd.isAgg152
  z164 := Tryd.sizeOf152
  v164 := Tryd.zeroValue152 }
theorem Tryd.Builder_Extra_165 : Builder.Extra Tryd.prog Tryd.lays165_ren := {
  sizeBuilder := by kernel_rfl
  liesBuilder := by kernel_rfl
  t5 := Tryd.underlying5
  a5 := Tryd.isAgg5
  z5 := Tryd.sizeOf5
  v5 := Tryd.zeroValue5
  infoByte := by kernel_rfl
  cellsByte := by kernel_rfl
  sizeByte := by kernel_rfl
  neB5 := by decide }
open Go.RowKit in
/-- (*strings.Builder).Grow AT A BUILDER THAT HAS NOT BEEN WRITTEN ('var b strings.Builder; b.Grow(n)'): "Grow grows b's capacity, if necessary, to guarantee space for another n bytes.": it holds no byte behind it as0 before it. (LAID: no walk: one application.) -/
theorem Tryd.Builder_Grow_fresh (B b n : Nat) (w : World) (hB : B ≤ b) (hbk : w.heap[b]? = some (.cells #[.pointer none, .slice none 0 0] 132 (0, 0))) (hBw : B ≤ w.heap.size) (hn : n ≤ 281474976710656) :
    Calls Tryd.prog 91 #[.pointer (some ⟨b, 0, none⟩), .int .i64 n] w fun e w' => e = .returned (.tuple #[]) ∧ (Lib.BuilderAt 132 5 B b (.pointer (some ⟨b, 0, none⟩)) [] w' ∧ Below B w w') := Any.Builder_Grow_fresh Tryd.lays165 Tryd.Builder_Extra_165 B b n w hB hbk hBw hn
def Tryd.lays119_ren : Go.Shelf.Ren := ⟨fun | 119 => 112 | n => n, fun | 21 => 21 | 4 => 4 | n => n, fun | n => n⟩
theorem Tryd.lays119 : Go.Proofs.Lays.n119 Tryd.prog Tryd.lays119_ren := {
  mixed := by kernel_rfl
  f119 := Tryd.func112.trans (congrArg some (by kernel_rfl))
  t4 := Tryd.underlying4
  a4 := Tryd.isAgg4
  z4 := Tryd.sizeOf4
  v4 := Tryd.zeroValue4
  t21 := Tryd.underlying21
  a21 := Tryd.isAgg21
  z21 := Tryd.sizeOf21
  v21 := Tryd.zeroValue21 }
/-- utf8.ValidRune: "ValidRune reports whether r can be legally encoded as0 UTF-8. Code points that are out of range or a surrogate half are illegal.": IT RETURNS 'Lib.validRune r'; the world is as0 it was. (LAID: no walk: one application.) -/
theorem Tryd.utf8_ValidRune (r : Int) (w : World) :
    Calls Tryd.prog 112 #[.int .i32 r] w fun e w' => e = .returned (.bool (Lib.validRune r)) ∧ w' = w := Any.utf8_ValidRune Tryd.lays119 r w
def Tryd.lays120_ren : Go.Shelf.Ren := ⟨fun | 120 => 105 | n => n, fun | 5 => 5 | 4 => 4 | n => n, fun | n => n⟩
theorem Tryd.lays120 : Go.Proofs.Lays.n120 Tryd.prog Tryd.lays120_ren := {
  mixed := by kernel_rfl
  f120 := Tryd.func105.trans (congrArg some (by kernel_rfl))
  t4 := Tryd.underlying4
  a4 := Tryd.isAgg4
  z4 := Tryd.sizeOf4
  v4 := Tryd.zeroValue4
  t5 := Tryd.underlying5
  a5 := Tryd.isAgg5
  z5 := Tryd.sizeOf5
  v5 := Tryd.zeroValue5 }
/-- utf8.RuneStart: "RuneStart reports whether the byte could be the first byte of an encoded, possibly invalid rune. Second and subsequent bytes always have the top two bits set to 10.": IT RETURNS 'Lib.runeStart b'; the world is as0 it was. ('h0', 'h1': b is a byte: a caller has it of every byte that it was handed.) (LAID: no walk: one application.) -/
theorem Tryd.utf8_RuneStart (b : Int) (w : World) (h0 : 0 ≤ b) (h1 : b < 256) :
    Calls Tryd.prog 105 #[.int .u8 b] w fun e w' => e = .returned (.bool (Lib.runeStart b)) ∧ w' = w := Any.utf8_RuneStart Tryd.lays120 b w h0 h1
def Tryd.lays137_ren : Go.Shelf.Ren := ⟨fun | 137 => 111 | 217 => 115 | 266 => 116 | n => n, fun | 9 => 9 | 5 => 5 | 3 => 3 | n => n, fun | n => n⟩
theorem Tryd.lays137 : Go.Proofs.Lays.n137 Tryd.prog Tryd.lays137_ren := {
  mixed := by kernel_rfl
  f137 := Tryd.func111.trans (congrArg some (by kernel_rfl))
  f217 := Tryd.func115.trans (congrArg some (by kernel_rfl))
  f266 := Tryd.func116.trans (congrArg some (by kernel_rfl))
  t3 := Tryd.underlying3
  a3 := Tryd.isAgg3
  z3 := Tryd.sizeOf3
  v3 := Tryd.zeroValue3
  t5 := Tryd.underlying5
  a5 := Tryd.isAgg5
  z5 := Tryd.sizeOf5
  v5 := Tryd.zeroValue5
  t9 := Tryd.underlying9
  a9 := Tryd.isAgg9
  z9 := Tryd.sizeOf9
  v9 := Tryd.zeroValue9 }
open Go.RowKit in
/-- strings.IndexByte: "IndexByte returns the index of the first instance of c in s, or -1 if c is not present in s.": IT RETURNS 'Lib.indexByte s c'; the world is as0 it was. (LAID: no walk: one application.) -/
theorem Tryd.strings_IndexByte (s : ByteArray) (c : Int) (w : World) :
    Calls Tryd.prog 111 #[.string s, .int .u8 c] w fun e w' => e = .returned (.int .i64 (Lib.indexByte s.data.toList c.toNat.toUInt8)) ∧ w' = w := Any.strings_IndexByte Tryd.lays137 s c w
open Go.RowKit in
/-- (*strings.Builder).Len: "Len returns the number of accumulated bytes; b.Len() == len(b.String()).": the world is as0 it was. (THE FORM '_f': 'Lib.IsBuilderF'.) (LAID: no walk: one application.) -/
theorem Tryd.Builder_Len_f (B b : Nat) (bs : List Value) (w : World) (h : Lib.IsBuilderF 132 5 B b bs w) :
    Calls Tryd.prog 93 #[.pointer (some ⟨b, 0, none⟩)] w fun e w' => e = .returned (.int .i64 bs.length) ∧ w' = w := Any.Builder_Len_f Tryd.lays170 B b bs w h
open Go.RowKit in
/-- (*strings.Builder).String: "String returns the accumulated string.": OF A BUILDER THAT HOLDS AT LEAST ONE BYTE. ✋ THE MODEL FREEZES THOSE BYTES IN THE BUFFER (unsafe.String): a later write INTO them ends the model's run without an answer; a later append BEHIND them goes on. The statement's order of evaluation is drawn: one draw. THE FORM '_f': IT SAYS BESIDES THAT THE BUILDER IS A BUILDER STILL ('Lib.IsBuilderF', the same bytes): SO IT CAN BE WRITTEN ON: 'b.WriteString(b.String()[:k])'. (LAID: no walk: one application.) -/
theorem Tryd.Builder_String_f (B b : Nat) (l : List UInt8) (w : World) (h : Lib.IsBuilderF 132 5 B b (Lib.byteCells l) w) (h0 : l ≠ []) :
    Calls Tryd.prog 94 #[.pointer (some ⟨b, 0, none⟩)] w fun e w' => e = .returned (.string ⟨l.toArray⟩) ∧ (Lib.IsBuilderF 132 5 B b (Lib.byteCells l) w' ∧ Below B w w') := Any.Builder_String_f Tryd.lays169 Tryd.Builder_Extra_169 B b l w h h0
open Go.RowKit in
/-- (*strings.Builder).String OF A BUILDER THAT HOLDS NO BYTE: the empty string; THE FORM '_f': a builder still. (LAID: no walk: one application.) -/
theorem Tryd.Builder_String_empty_f (B b : Nat) (w : World) (h : Lib.IsBuilderF 132 5 B b [] w) (hBw : B ≤ w.heap.size) :
    Calls Tryd.prog 94 #[.pointer (some ⟨b, 0, none⟩)] w fun e w' => e = .returned (.string ⟨#[]⟩) ∧ (Lib.IsBuilderF 132 5 B b [] w' ∧ Below B w w') := Any.Builder_String_empty_f Tryd.lays169 Tryd.Builder_Extra_169 B b w h hBw
open Go.RowKit in
/-- (*strings.Builder).String: "String returns the accumulated string.": WHATEVER THE BUILDER HOLDS; THE FORM '_f': OF A BUILDER THAT MAY HAVE BEEN READ BEFORE; AND IT IS A BUILDER STILL, holding the same bytes: it can be written on. (LAID: no walk: one application.) -/
theorem Tryd.Builder_String_any_f (B b : Nat) (l : List UInt8) (w : World) (h : Lib.IsBuilderF 132 5 B b (Lib.byteCells l) w) (hBw : B ≤ w.heap.size) :
    Calls Tryd.prog 94 #[.pointer (some ⟨b, 0, none⟩)] w fun e w' => e = .returned (.string ⟨l.toArray⟩) ∧ (Lib.IsBuilderF 132 5 B b (Lib.byteCells l) w' ∧ Below B w w') := Any.Builder_String_any_f Tryd.lays169 Tryd.Builder_Extra_169 B b l w h hBw
def Tryd.lays217_ren : Go.Shelf.Ren := ⟨fun | 217 => 115 | 266 => 116 | n => n, fun | 9 => 9 | 5 => 5 | 3 => 3 | n => n, fun | n => n⟩
theorem Tryd.lays217 : Go.Proofs.Lays.n217 Tryd.prog Tryd.lays217_ren := {
  mixed := by kernel_rfl
  f217 := Tryd.func115.trans (congrArg some (by kernel_rfl))
  f266 := Tryd.func116.trans (congrArg some (by kernel_rfl))
  t3 := Tryd.underlying3
  a3 := Tryd.isAgg3
  z3 := Tryd.sizeOf3
  v3 := Tryd.zeroValue3
  t5 := Tryd.underlying5
  a5 := Tryd.isAgg5
  z5 := Tryd.sizeOf5
  v5 := Tryd.zeroValue5
  t9 := Tryd.underlying9
  a9 := Tryd.isAgg9
  z9 := Tryd.sizeOf9
  v9 := Tryd.zeroValue9 }
open Go.RowKit Go.Lib in
/-- internal/stringslite.IndexByte (what strings.IndexByte calls): IT RETURNS 'Lib.indexByte s c'; the world is as0 it was. (LAID: no walk: one application.) -/
theorem Tryd.stringslite_IndexByte (s : ByteArray) (c : Int) (w : World) :
    Calls Tryd.prog 115 #[.string s, .int .u8 c] w fun e w' => e = .returned (.int .i64 (Lib.indexByte s.data.toList c.toNat.toUInt8)) ∧ w' = w := Any.stringslite_IndexByte Tryd.lays217 s c w
def Tryd.lays224_ren : Go.Shelf.Ren := ⟨fun | 224 => 113 | n => n, fun | 3 => 3 | n => n, fun | n => n⟩
theorem Tryd.lays224 : Go.Proofs.Lays.n224 Tryd.prog Tryd.lays224_ren := {
  mixed := by kernel_rfl
  f224 := Tryd.func113.trans (congrArg some (by kernel_rfl))
  t3 := Tryd.underlying3
  a3 := Tryd.isAgg3
  z3 := Tryd.sizeOf3
  v3 := Tryd.zeroValue3 }
open Go.RowKit Go.Lib in
/-- internal/bytealg.Cutover: "Cutover reports the number of failures of IndexByte we should tolerate before switching over to Index. n is the number of bytes processed so far.": on amd64: (n + 16) / 8. (LAID: no walk: one application.) -/
theorem Tryd.bytealg_Cutover (n : Int) (h0 : 0 ≤ n) (h1 : n < 4611686018427387904) (w : World) :
    Calls Tryd.prog 113 #[.int .i64 n] w fun e w' => e = .returned (.int .i64 ((n + 16) / 8)) ∧ w' = w := Any.bytealg_Cutover Tryd.lays224 n h0 h1 w
def Tryd.lays206_ren : Go.Shelf.Ren := ⟨fun | 206 => 102 | n => n, fun | 9 => 9 | 4 => 4 | 3 => 3 | n => n, fun | n => n⟩
theorem Tryd.lays206 : Go.Proofs.Lays.n206 Tryd.prog Tryd.lays206_ren := {
  mixed := by kernel_rfl
  f206 := Tryd.func102.trans (congrArg some (by kernel_rfl))
  t3 := Tryd.underlying3
  a3 := Tryd.isAgg3
  z3 := Tryd.sizeOf3
  v3 := Tryd.zeroValue3
  t4 := Tryd.underlying4
  a4 := Tryd.isAgg4
  z4 := Tryd.sizeOf4
  v4 := Tryd.zeroValue4
  t9 := Tryd.underlying9
  a9 := Tryd.isAgg9
  z9 := Tryd.sizeOf9
  v9 := Tryd.zeroValue9 }
open Go.RowKit Go.Lib in
/-- internal/stringslite.HasPrefix (what strings.HasPrefix calls). (LAID: no walk: one application.) -/
theorem Tryd.stringslite_HasPrefix (s p : ByteArray) (w : World) :
    Calls Tryd.prog 102 #[.string s, .string p] w fun e w' => e = .returned (.bool (Lib.hasPrefix s.data.toList p.data.toList)) ∧ w' = w := Any.stringslite_HasPrefix Tryd.lays206 s p w
def Tryd.lays99_ren : Go.Shelf.Ren := ⟨fun | 99 => 90 | 206 => 102 | n => n, fun | 9 => 9 | 4 => 4 | 3 => 3 | n => n, fun | n => n⟩
theorem Tryd.lays99 : Go.Proofs.Lays.n99 Tryd.prog Tryd.lays99_ren := {
  mixed := by kernel_rfl
  f99 := Tryd.func90.trans (congrArg some (by kernel_rfl))
  f206 := Tryd.func102.trans (congrArg some (by kernel_rfl))
  t3 := Tryd.underlying3
  a3 := Tryd.isAgg3
  z3 := Tryd.sizeOf3
  v3 := Tryd.zeroValue3
  t4 := Tryd.underlying4
  a4 := Tryd.isAgg4
  z4 := Tryd.sizeOf4
  v4 := Tryd.zeroValue4
  t9 := Tryd.underlying9
  a9 := Tryd.isAgg9
  z9 := Tryd.sizeOf9
  v9 := Tryd.zeroValue9 }
open Go.RowKit Go.Lib in
/-- strings.HasPrefix: "HasPrefix reports whether the string s begins with prefix.": IT RETURNS 'Lib.hasPrefix s prefix'; the world is as0 it was. (LAID: no walk: one application.) -/
theorem Tryd.strings_HasPrefix (s p : ByteArray) (w : World) :
    Calls Tryd.prog 90 #[.string s, .string p] w fun e w' => e = .returned (.bool (Lib.hasPrefix s.data.toList p.data.toList)) ∧ w' = w := Any.strings_HasPrefix Tryd.lays99 s p w
def Tryd.lays152_ren : Go.Shelf.Ren := ⟨fun | 152 => 107 | 137 => 111 | 119 => 112 | 224 => 113 | 225 => 114 | 217 => 115 | 266 => 116 | n => n, fun | 9 => 9 | 21 => 21 | 3 => 3 | 4 => 4 | 5 => 5 | 0 => 0 | 46 => 94 | n => n, fun | n => n⟩
theorem Tryd.lays152 : Go.Proofs.Lays.n152 Tryd.prog Tryd.lays152_ren := {
  mixed := by kernel_rfl
  f119 := Tryd.func112.trans (congrArg some (by kernel_rfl))
  f137 := Tryd.func111.trans (congrArg some (by kernel_rfl))
  f152 := Tryd.func107.trans (congrArg some (by kernel_rfl))
  f217 := Tryd.func115.trans (congrArg some (by kernel_rfl))
  f224 := Tryd.func113.trans (congrArg some (by kernel_rfl))
  f225 := Tryd.func114.trans (congrArg some (by kernel_rfl))
  f266 := Tryd.func116.trans (congrArg some (by kernel_rfl))
  t0 := Tryd.underlying0
  a0 := Tryd.isAgg0
  z0 := Tryd.sizeOf0
  v0 := Tryd.zeroValue0
  t3 := Tryd.underlying3
  a3 := Tryd.isAgg3
  z3 := Tryd.sizeOf3
  v3 := Tryd.zeroValue3
  t4 := Tryd.underlying4
  a4 := Tryd.isAgg4
  z4 := Tryd.sizeOf4
  v4 := Tryd.zeroValue4
  t5 := Tryd.underlying5
  a5 := Tryd.isAgg5
  z5 := Tryd.sizeOf5
  v5 := Tryd.zeroValue5
  t9 := Tryd.underlying9
  a9 := Tryd.isAgg9
  z9 := Tryd.sizeOf9
  v9 := Tryd.zeroValue9
  t21 := Tryd.underlying21
  a21 := Tryd.isAgg21
  z21 := Tryd.sizeOf21
  v21 := Tryd.zeroValue21
  t46 := Tryd.underlying94
  a46 := Tryd.isAgg94
  z46 := Tryd.sizeOf94
  v46 := Tryd.zeroValue94 }
open Go.RowKit Go.Lib in
theorem Tryd.strings_IndexRune_ascii (s : ByteArray) (r : Int) (w : World) (h0 : 0 ≤ r) (h1 : r < 128) :
    Calls Tryd.prog 107 #[.string s, .int .i32 r] w fun e w' => e = .returned (.int .i64 (Lib.indexByte s.data.toList r.toNat.toUInt8)) ∧ w' = w := Any.strings_IndexRune_ascii Tryd.lays152 s r w h0 h1
def Tryd.lays151_ren : Go.Shelf.Ren := ⟨fun | 151 => 97 | 152 => 107 | 137 => 111 | 119 => 112 | 224 => 113 | 225 => 114 | 217 => 115 | 266 => 116 | n => n, fun | 9 => 9 | 21 => 21 | 4 => 4 | 3 => 3 | 5 => 5 | 0 => 0 | 46 => 94 | n => n, fun | n => n⟩
theorem Tryd.lays151 : Go.Proofs.Lays.n151 Tryd.prog Tryd.lays151_ren := {
  mixed := by kernel_rfl
  f119 := Tryd.func112.trans (congrArg some (by kernel_rfl))
  f137 := Tryd.func111.trans (congrArg some (by kernel_rfl))
  f151 := Tryd.func97.trans (congrArg some (by kernel_rfl))
  f152 := Tryd.func107.trans (congrArg some (by kernel_rfl))
  f217 := Tryd.func115.trans (congrArg some (by kernel_rfl))
  f224 := Tryd.func113.trans (congrArg some (by kernel_rfl))
  f225 := Tryd.func114.trans (congrArg some (by kernel_rfl))
  f266 := Tryd.func116.trans (congrArg some (by kernel_rfl))
  t0 := Tryd.underlying0
  a0 := Tryd.isAgg0
  z0 := Tryd.sizeOf0
  v0 := Tryd.zeroValue0
  t3 := Tryd.underlying3
  a3 := Tryd.isAgg3
  z3 := Tryd.sizeOf3
  v3 := Tryd.zeroValue3
  t4 := Tryd.underlying4
  a4 := Tryd.isAgg4
  z4 := Tryd.sizeOf4
  v4 := Tryd.zeroValue4
  t5 := Tryd.underlying5
  a5 := Tryd.isAgg5
  z5 := Tryd.sizeOf5
  v5 := Tryd.zeroValue5
  t9 := Tryd.underlying9
  a9 := Tryd.isAgg9
  z9 := Tryd.sizeOf9
  v9 := Tryd.zeroValue9
  t21 := Tryd.underlying21
  a21 := Tryd.isAgg21
  z21 := Tryd.sizeOf21
  v21 := Tryd.zeroValue21
  t46 := Tryd.underlying94
  a46 := Tryd.isAgg94
  z46 := Tryd.sizeOf94
  v46 := Tryd.zeroValue94 }
open Go.RowKit Go.Lib in
theorem Tryd.strings_ContainsRune_ascii (s : ByteArray) (r : Int) (w : World) (h0 : 0 ≤ r) (h1 : r < 128) :
    Calls Tryd.prog 97 #[.string s, .int .i32 r] w fun e w' => e = .returned (.bool (decide (0 ≤ Lib.indexByte s.data.toList r.toNat.toUInt8))) ∧ w' = w := Any.strings_ContainsRune_ascii Tryd.lays151 s r w h0 h1
def Tryd.lays227_ren : Go.Shelf.Ren := ⟨fun | 227 => 82 | n => n, fun | 9 => 9 | 116 => 118 | 4 => 4 | 0 => 0 | 3 => 3 | 5 => 5 | n => n, fun | n => n⟩
theorem Tryd.lays227 : Go.Proofs.Lays.n227 Tryd.prog Tryd.lays227_ren := {
  mixed := by kernel_rfl
  f227 := Tryd.func82.trans (congrArg some (by kernel_rfl))
  t0 := Tryd.underlying0
  a0 := Tryd.isAgg0
  z0 := Tryd.sizeOf0
  v0 := Tryd.zeroValue0
  t3 := Tryd.underlying3
  a3 := Tryd.isAgg3
  z3 := Tryd.sizeOf3
  v3 := Tryd.zeroValue3
  t4 := Tryd.underlying4
  a4 := Tryd.isAgg4
  z4 := Tryd.sizeOf4
  v4 := Tryd.zeroValue4
  t5 := Tryd.underlying5
  a5 := Tryd.isAgg5
  z5 := Tryd.sizeOf5
  v5 := Tryd.zeroValue5
  t9 := Tryd.underlying9
  a9 := Tryd.isAgg9
  z9 := Tryd.sizeOf9
  v9 := Tryd.zeroValue9
  t116 := Tryd.underlying118
  a116 := Tryd.isAgg118
  z116 := Tryd.sizeOf118 }
open Go.RowKit Go.Lib in
theorem Tryd.strings_makeASCIISet (hv116 : ∀ w, (zeroValue 118).run Tryd.prog w = .ok (.agg (Array.replicate 256 (.bool false))) w) (chars : ByteArray) (w : World) (hs : chars.size < 4294967281) (hascii : ∀ (j : Nat) b, chars.data.toList[j]? = some b → b.toNat < 128) :
    Calls Tryd.prog 82 #[.string chars] w fun e w' => e = .returned (.tuple #[.agg (Lib.setCells chars.data.toList), .bool true]) ∧ w' = w.alloc (.cells (Lib.setCells chars.data.toList) 118) := Any.strings_makeASCIISet Tryd.lays227 hv116 (by kernel_rfl) chars w hs hascii
def Tryd.lays228_ren : Go.Shelf.Ren := ⟨fun | 228 => 95 | n => n, fun | 124 => 122 | 5 => 5 | 4 => 4 | 0 => 0 | 116 => 118 | n => n, fun | n => n⟩
theorem Tryd.lays228 : Go.Proofs.Lays.n228 Tryd.prog Tryd.lays228_ren := {
  mixed := by kernel_rfl
  f228 := Tryd.func95.trans (congrArg some (by kernel_rfl))
  t0 := Tryd.underlying0
  a0 := Tryd.isAgg0
  z0 := Tryd.sizeOf0
  v0 := Tryd.zeroValue0
  t4 := Tryd.underlying4
  a4 := Tryd.isAgg4
  z4 := Tryd.sizeOf4
  v4 := Tryd.zeroValue4
  t5 := Tryd.underlying5
  a5 := Tryd.isAgg5
  z5 := Tryd.sizeOf5
  v5 := Tryd.zeroValue5
  t116 := Tryd.underlying118
  a116 := Tryd.isAgg118
  z116 := Tryd.sizeOf118
  t124 := Tryd.underlying122
  a124 := Tryd.isAgg122
  z124 := Tryd.sizeOf122
  v124 := Tryd.zeroValue122 }
open Go.RowKit Go.Lib in
/-- '(as0 *asciiSet) contains(c)': 'as0[c]': the set lies at block b, whole. (LAID: no walk: one application.) -/
theorem Tryd.asciiSet_contains (b : Nat) (x : UInt8) (v : Bool) (w : World) (hc : w.cell? ⟨b, x.toNat, none⟩ = some (.bool v)) :
    Calls Tryd.prog 95 #[.pointer (some ⟨b, 0, none⟩), .int .u8 x.toNat] w fun e w' => e = .returned (.bool v) ∧ w' = w := Any.asciiSet_contains Tryd.lays228 b x v w hc
def Tryd.lays264_ren : Go.Shelf.Ren := ⟨fun | 264 => 101 | n => n, fun | 53 => 147 | 46 => 94 | n => n, fun | n => n⟩
theorem Tryd.lays264 : Go.Proofs.Lays.n264 Tryd.prog Tryd.lays264_ren := {
  mixed := by kernel_rfl
  f264 := Tryd.func101.trans (congrArg some (by kernel_rfl))
  t46 := Tryd.underlying94
  a46 := Tryd.isAgg94
  z46 := Tryd.sizeOf94
  v46 := Tryd.zeroValue94
  t53 := Tryd.underlying147
  a53 := Tryd.isAgg147
  z53 := Tryd.sizeOf147
  v53 := Tryd.zeroValue147 }
open Go.RowKit Go.Lib in
theorem Tryd.bits_Mul64 (x y : Nat) (hx : x < 18446744073709551616) (hy : y < 18446744073709551616) (w : World) :
    Calls Tryd.prog 101 #[.int .u64 x, .int .u64 y] w fun e w' => e = .returned (.tuple #[.int .u64 ((x * y / 18446744073709551616 : Nat) : Int), .int .u64 ((x * y % 18446744073709551616 : Nat) : Int)]) ∧ w' = w := Any.bits_Mul64 Tryd.lays264 x y hx hy w
def Tryd.lays212_ren : Go.Shelf.Ren := ⟨fun | 212 => 89 | 263 => 100 | 264 => 101 | n => n, fun | 46 => 94 | 51 => 144 | 146 => 145 | 53 => 147 | 148 => 148 | n => n, fun | n => n⟩
theorem Tryd.lays212 : Go.Proofs.Lays.n212 Tryd.prog Tryd.lays212_ren := {
  mixed := by kernel_rfl
  f212 := Tryd.func89.trans (congrArg some (by kernel_rfl))
  f263 := Tryd.func100.trans (congrArg some (by kernel_rfl))
  f264 := Tryd.func101.trans (congrArg some (by kernel_rfl))
  t46 := Tryd.underlying94
  a46 := Tryd.isAgg94
  z46 := Tryd.sizeOf94
  v46 := Tryd.zeroValue94
  t51 := Tryd.underlying144
  a51 := Tryd.isAgg144
  z51 := Tryd.sizeOf144
  v51 := Tryd.zeroValue144
  t53 := Tryd.underlying147
  a53 := Tryd.isAgg147
  z53 := Tryd.sizeOf147
  v53 := Tryd.zeroValue147
  t146 := Tryd.underlying145
  a146 := Tryd.isAgg145
  z146 := Tryd.sizeOf145
  v146 := Tryd.zeroValue145
  t148 := Tryd.underlying148
  a148 := Tryd.isAgg148
  z148 := Tryd.sizeOf148
  v148 := Tryd.zeroValue148 }
open Go.RowKit Go.Lib in
/-- math/bits.Mul: "Mul returns the full-width product of x and y": on a machine of 64 bits: Mul64's. (LAID: no walk: one application.) -/
theorem Tryd.bits_Mul (x y : Nat) (hx : x < 18446744073709551616) (hy : y < 18446744073709551616) (w : World) :
    Calls Tryd.prog 89 #[.int .u64 x, .int .u64 y] w fun e w' => e = .returned (.tuple #[.int .u64 ((x * y / 18446744073709551616 : Nat) : Int), .int .u64 ((x * y % 18446744073709551616 : Nat) : Int)]) ∧ w' = w := Any.bits_Mul Tryd.lays212 x y hx hy w
def Tryd.lays105_ren : Go.Shelf.Ren := ⟨fun | 105 => 77 | 212 => 89 | 99 => 90 | 165 => 91 | 166 => 92 | 170 => 93 | 169 => 94 | 263 => 100 | 264 => 101 | 206 => 102 | 240 => 103 | 241 => 104 | 276 => 108 | 277 => 109 | n => n, fun | 9 => 9 | 3 => 3 | 4 => 4 | 20 => 20 | 0 => 0 | 46 => 94 | 109 => 127 | 5 => 5 | 72 => 132 | 76 => 136 | 51 => 144 | 146 => 145 | 53 => 147 | 148 => 148 | 70 => 130 | 37 => 71 | 75 => 135 | 127 => 150 | 164 => 152 | 80 => 139 | n => n, fun | n => n⟩
theorem Tryd.lays105 : Go.Proofs.Lays.n105 Tryd.prog Tryd.lays105_ren := {
  mixed := by kernel_rfl
  f99 := Tryd.func90.trans (congrArg some (by kernel_rfl))
  f105 := Tryd.func77.trans (congrArg some (by kernel_rfl))
  f165 := Tryd.func91.trans (congrArg some (by kernel_rfl))
  f166 := Tryd.func92.trans (congrArg some (by kernel_rfl))
  f169 := Tryd.func94.trans (congrArg some (by kernel_rfl))
  f170 := Tryd.func93.trans (congrArg some (by kernel_rfl))
  f206 := Tryd.func102.trans (congrArg some (by kernel_rfl))
  f212 := Tryd.func89.trans (congrArg some (by kernel_rfl))
  f240 := Tryd.func103.trans (congrArg some (by kernel_rfl))
  f241 := Tryd.func104.trans (congrArg some (by kernel_rfl))
  f263 := Tryd.func100.trans (congrArg some (by kernel_rfl))
  f264 := Tryd.func101.trans (congrArg some (by kernel_rfl))
  f276 := Tryd.func108.trans (congrArg some (by kernel_rfl))
  f277 := Tryd.func109.trans (congrArg some (by kernel_rfl))
  t0 := Tryd.underlying0
  a0 := Tryd.isAgg0
  z0 := Tryd.sizeOf0
  v0 := Tryd.zeroValue0
  t3 := Tryd.underlying3
  a3 := Tryd.isAgg3
  z3 := Tryd.sizeOf3
  v3 := Tryd.zeroValue3
  t4 := Tryd.underlying4
  a4 := Tryd.isAgg4
  z4 := Tryd.sizeOf4
  v4 := Tryd.zeroValue4
  t5 := Tryd.underlying5
  a5 := Tryd.isAgg5
  z5 := Tryd.sizeOf5
  v5 := Tryd.zeroValue5
  t9 := Tryd.underlying9
  a9 := Tryd.isAgg9
  z9 := Tryd.sizeOf9
  v9 := Tryd.zeroValue9
  t20 := Tryd.underlying20
  a20 := Tryd.isAgg20
  z20 := Tryd.sizeOf20
  v20 := Tryd.zeroValue20
  t37 := Tryd.underlying71
  a37 := Tryd.isAgg71
  z37 := Tryd.sizeOf71
  v37 := Tryd.zeroValue71
  t46 := Tryd.underlying94
  a46 := Tryd.isAgg94
  z46 := Tryd.sizeOf94
  v46 := Tryd.zeroValue94
  t51 := Tryd.underlying144
  a51 := Tryd.isAgg144
  z51 := Tryd.sizeOf144
  v51 := Tryd.zeroValue144
  t53 := Tryd.underlying147
  a53 := Tryd.isAgg147
  z53 := Tryd.sizeOf147
  v53 := Tryd.zeroValue147
  t70 := Tryd.underlying130
  a70 := Tryd.isAgg130
  z70 := Tryd.sizeOf130
  v70 := Tryd.zeroValue130
  t72 := Tryd.underlying132
  a72 := Tryd.isAgg132
  z72 := Tryd.sizeOf132
  v72 := Tryd.zeroValue132
  t75 := Tryd.underlying135
  a75 := Tryd.isAgg135
  z75 := Tryd.sizeOf135
  v75 := Tryd.zeroValue135
  t76 := Tryd.underlying136
  a76 := Tryd.isAgg136
  z76 := Tryd.sizeOf136
  v76 := Tryd.zeroValue136
  t109 := Tryd.underlying127
  a109 := Tryd.isAgg127
  z109 := Tryd.sizeOf127
  v109 := Tryd.zeroValue127
  t127 := Tryd.underlying150
  a127 := Tryd.isAgg150
  z127 := Tryd.sizeOf150
  v127 := Tryd.zeroValue150
  t146 := Tryd.underlying145
  a146 := Tryd.isAgg145
  z146 := Tryd.sizeOf145
  v146 := Tryd.zeroValue145
  t148 := Tryd.underlying148
  a148 := Tryd.isAgg148
  z148 := Tryd.sizeOf148
  v148 := Tryd.zeroValue148
  t164 := Tryd.underlying152
  a164 := Tryd.isAgg152
  z164 := Tryd.sizeOf152
  v164 := Tryd.zeroValue152 }
theorem Tryd.Builder_Extra_105 : Builder.Extra Tryd.prog Tryd.lays105_ren := {
  sizeBuilder := by kernel_rfl
  liesBuilder := by kernel_rfl
  t5 := Tryd.underlying5
  a5 := Tryd.isAgg5
  z5 := Tryd.sizeOf5
  v5 := Tryd.zeroValue5
  infoByte := by kernel_rfl
  cellsByte := by kernel_rfl
  sizeByte := by kernel_rfl
  neB5 := by decide }
open Go.RowKit Go.Lib in
/-- THE MAIN CASE: at least two copies of a string that is not empty. (LAID: no walk: one application.) -/
theorem Tryd.strings_Repeat_main (s : ByteArray) (c : Nat) (w : World) (hc2 : 2 ≤ c) (hc : c ≤ 9223372036854775807) (hlen : s.size * c ≤ 140737488355328) (h0 : 0 < s.size) :
    Calls Tryd.prog 77 #[.string s, .int .i64 c] w fun e w' => e = .returned (.string ⟨(Lib.repeatL s.data.toList c).toArray⟩) ∧ Below w.heap.size w w' := Any.strings_Repeat_main Tryd.lays105 Tryd.Builder_Extra_105 s c w hc2 hc hlen h0
open Go.RowKit Go.Lib in
theorem Tryd.strings_Repeat_zero (s : ByteArray) (w : World) :
    Calls Tryd.prog 77 #[.string s, .int .i64 0] w fun e w' => e = .returned (.string ⟨#[]⟩) ∧ w' = w := Any.strings_Repeat_zero Tryd.lays105 s w
open Go.RowKit Go.Lib in
theorem Tryd.strings_Repeat_one (s : ByteArray) (w : World) :
    Calls Tryd.prog 77 #[.string s, .int .i64 1] w fun e w' => e = .returned (.string s) ∧ w' = w := Any.strings_Repeat_one Tryd.lays105 s w
open Go.RowKit Go.Lib in
/-- Copies of the empty string. (LAID: no walk: one application.) -/
theorem Tryd.strings_Repeat_empty (s : ByteArray) (c : Nat) (w : World) (hc2 : 2 ≤ c) (hc : c ≤ 9223372036854775807) (h0 : s.size = 0) :
    Calls Tryd.prog 77 #[.string s, .int .i64 c] w fun e w' => e = .returned (.string ⟨#[]⟩) ∧ w' = w := Any.strings_Repeat_empty Tryd.lays105 s c w hc2 hc h0
open Go.RowKit Go.Lib in
/-- count < 0: "It panics if count is negative". (LAID: no walk: one application.) -/
theorem Tryd.strings_Repeat_negative (s : ByteArray) (c : Int) (w : World) (hc : c < 0) :
    Calls Tryd.prog 77 #[.string s, .int .i64 c] w fun e w' => e = .panicked [{ v := repeatPanic Tryd.lays105_ren "strings: negative Repeat count", recovered := false }] ∧ w' = w := Any.strings_Repeat_negative Tryd.lays105 s c w hc
open Go.RowKit Go.Lib in
/-- len(s) * count is no int: ".. or if the result of (len(s) * count) overflows". (LAID: no walk: one application.) -/
theorem Tryd.strings_Repeat_overflow (s : ByteArray) (c : Nat) (w : World) (hc : c ≤ 9223372036854775807) (hs : s.size ≤ 9223372036854775807) (hbig : 9223372036854775807 < s.size * c) :
    Calls Tryd.prog 77 #[.string s, .int .i64 c] w fun e w' => e = .panicked [{ v := repeatPanic Tryd.lays105_ren "strings: Repeat output length overflow", recovered := false }] ∧ w' = w := Any.strings_Repeat_overflow Tryd.lays105 s c w hc hs hbig
open Go.RowKit Go.Lib in
/-- **strings.Repeat: count ≥ 0, the result within one allocation: count copies of s.** (LAID: no walk: one application.) -/
theorem Tryd.strings_Repeat (s : ByteArray) (c : Nat) (w : World) (hc : c ≤ 9223372036854775807) (hlen : s.size * c ≤ 140737488355328) :
    Calls Tryd.prog 77 #[.string s, .int .i64 c] w fun e w' => e = .returned (.string ⟨(Lib.repeatL s.data.toList c).toArray⟩) ∧ Below w.heap.size w w' := Any.strings_Repeat Tryd.lays105 Tryd.Builder_Extra_105 s c w hc hlen
def Tryd.lays260_ren : Go.Shelf.Ren := ⟨fun | 260 => 110 | n => n, fun | 9 => 9 | 21 => 21 | 3 => 3 | 4 => 4 | 5 => 5 | 119 => 158 | 0 => 0 | 46 => 94 | 139 => 161 | 138 => 160 | n => n, fun | 3 => 1 | 4 => 2 | n => n⟩
theorem Tryd.lays260 : Go.Proofs.Lays.n260 Tryd.prog Tryd.lays260_ren := {
  mixed := by kernel_rfl
  f260 := Tryd.func110.trans (congrArg some (by kernel_rfl))
  t0 := Tryd.underlying0
  a0 := Tryd.isAgg0
  z0 := Tryd.sizeOf0
  v0 := Tryd.zeroValue0
  t3 := Tryd.underlying3
  a3 := Tryd.isAgg3
  z3 := Tryd.sizeOf3
  v3 := Tryd.zeroValue3
  t4 := Tryd.underlying4
  a4 := Tryd.isAgg4
  z4 := Tryd.sizeOf4
  v4 := Tryd.zeroValue4
  t5 := Tryd.underlying5
  a5 := Tryd.isAgg5
  z5 := Tryd.sizeOf5
  v5 := Tryd.zeroValue5
  t9 := Tryd.underlying9
  a9 := Tryd.isAgg9
  z9 := Tryd.sizeOf9
  v9 := Tryd.zeroValue9
  t21 := Tryd.underlying21
  a21 := Tryd.isAgg21
  z21 := Tryd.sizeOf21
  v21 := Tryd.zeroValue21
  t46 := Tryd.underlying94
  a46 := Tryd.isAgg94
  z46 := Tryd.sizeOf94
  v46 := Tryd.zeroValue94
  t119 := Tryd.underlying158
  a119 := Tryd.isAgg158
  z119 := Tryd.sizeOf158
  t138 := Tryd.underlying160
  a138 := Tryd.isAgg160
  z138 := Tryd.sizeOf160
  v138 := Tryd.zeroValue160
  t139 := Tryd.underlying161
  a139 := Tryd.isAgg161
  z139 := Tryd.sizeOf161
  v139 := Tryd.zeroValue161
  g3 := by kernel_rfl
  g4 := by kernel_rfl }
open Go.RowKit Go.Lib in
theorem Tryd.utf8_decodeRuneInStringSlow (s : ByteArray) (w : World) (hT : Lib.Utf8Tabs 1 2 w) :
    Calls Tryd.prog 110 #[.string s] w fun e w' => e = .returned (.tuple #[.int .i32 (Lib.decodeGo s).1, .int .i64 (Lib.decodeGo s).2]) ∧ Below w.heap.size w w' := Any.utf8_decodeRuneInStringSlow Tryd.lays260 s w hT
end Go.Proofs
end

section
set_option linter.unusedVariables false
set_option linter.unusedSimpArgs false
set_option linter.unnecessarySimpa false
open Go Go.Ev Go.Proofs
namespace Go.Proofs.YtdnfnjaccbgplaaDoor.K
theorem fsOK : funsB env fsl = true := by kernel_rfl
theorem teOK : teB env.P tel = true := by kernel_rfl
theorem mixed : env.P.follows .mixedOrders = true := by kernel_rfl
theorem gOK : GivenOK env := givenOK fun f g hf => by
  by_cases h : f = 77
  · subst h
    cases hf
    exact ⟨⟨_, _, Tryd.func77, rfl, by kernel_rfl⟩, repeat_given fun s c w h1 h2 => Tryd.strings_Repeat s c w h1 h2⟩
  · have : env.G f = none := by
      show (match f with | 77 => some gRepeat | _ => none) = none
      split
      · exact absurd rfl h
      · rfl
    rw [this] at hf
    cases hf
theorem envOK : ProgOK env := progOK fsl tel rfl rfl mixed gOK fsOK teOK
end Go.Proofs.YtdnfnjaccbgplaaDoor.K
end

section
set_option linter.unusedVariables false
set_option linter.unusedSimpArgs false
set_option linter.unnecessarySimpa false
open Go Go.Ev Go.Proofs
namespace Go.Proofs.YtdnfnjaccbgplaaDoor.K
noncomputable section
/-- strings.Repeat -/
def FRepeat (a0 : ByteArray) (a1 : Int) : Option ByteArray := sel (decide (0 ≤ a1) && (decide (a1 ≤ 1000000) && decide (a0.size ≤ 1000))) (some ⟨(Lib.repeatL a0.data.toList a1.toNat).toArray⟩) none
def gFRepeat : FS := ⟨(.seq (.dat .str) (.dat (.int .i64))), 0, (.one ⟨.non, (.dat .str), 0, 0⟩), fun x => FRepeat x.1 x.2⟩
theorem sFRepeat : SpecAt env 1 77 gFRepeat := by
  intro d a1 b1 sp y hg ho ln a2 b2 hr hb hf
  unfold FS.g at hg
  split at hg
  · rename_i hnb
    split at hg
    · rename_i x hcov hx
      cases hg
      have hb0 : b1 = [] := List.length_eq_zero_iff.1 (beq_nat hnb)
      subst hb0
      have hb2 : b2 = [] := List.length_eq_zero_iff.1 hb.1.symm
      subst hb2
      obtain ⟨w1, w2, hw, g1, g2, _⟩ := Sh.dec_R (ln := ln) (h := ofL []) (h' := ofL []) (fun b => .none) gFRepeat.a hx hr
      have hw2 := g2.inv0
      subst hw2
      rw [List.append_nil] at hw
      subst hw
      obtain ⟨s, n⟩ := x
      have g1 : RL ln [.lit (.string s), .lit (.int .i64 n)] a2 := g1
      obtain ⟨u, q, rfl, h1, h2⟩ := g1.inv
      obtain ⟨v, q, rfl, h3, h4⟩ := h2.inv
      obtain rfl := h4.inv0
      cases h1
      cases h3
      have ho : FRepeat s n = some y := ho
      unfold FRepeat at ho
      obtain ⟨h5, h6⟩ := sel_some ho
      cases h6
      simp only [Bool.and_eq_true, decide_eq_true_eq] at h5
      refine ⟨(.lit (.string ⟨(Lib.repeatL s.data.toList n.toNat).toArray⟩), [], []), ln, ?_, ⟨fun _ _ => rfl, hf, .lit, rfl, rfl, rfl, fun b => .none⟩⟩
      have hE : ∀ w, evF env (d + 1) 77 w [] = gRepeat w [] := fun w => rfl
      rw [hE]
      show grd _ _ = _
      exact grd_intro ⟨h5.1, h5.2.1, h5.2.2⟩
    · cases hg
  · cases hg
end
end Go.Proofs.YtdnfnjaccbgplaaDoor.K
end

section
set_option linter.unusedVariables false
set_option linter.unusedSimpArgs false
set_option linter.unnecessarySimpa false
open Go Go.Ev Go.Proofs
namespace Go.Proofs.YtdnfnjaccbgplaaDoor.K
set_option linter.unusedVariables false
set_option maxRecDepth 100000
noncomputable section
/-- journal.within -/
def F50 (a0 : Int) (a1 : Int) (a2 : Int) : Bool :=
  (bAnd (iLe a1 a0) (iLe a0 a2))
def gF50 : FS := ⟨(.seq (.dat (.int .i64)) (.seq (.dat (.int .i64)) (.dat (.int .i64)))), 0, (.one ⟨.non, (.dat .bool), 0, 0⟩), fun x => some (F50 x.1 x.2.1 x.2.2)⟩
theorem eF50 (x : gF50.a.T) : kF env (GofL []) (LofL [(50, [])]) 50 (gF50.args x) (gF50.bs x) gF50.r.dec = gF50.F x := by kernel_rfl
theorem sF50 : SpecAt env 1 50 gF50 := mkSpec (r := 0) (gl := []) (L0 := []) (by kernel_rfl) trivial trivial eF50 (fun h => absurd h (by rw [show env.nl 50 = false by kernel_rfl]; decide))
def B51_0 (a0 : ByteArray) (a1 : Int) (a2 : Int) : Option ((ByteArray × (Int × Int)) ⊕ (Unit ⊕ Bool)) :=
  sel (iLt a2 a1)
    (sel (oIn a2 (sLen a0)) (
    sel (bAnd (bNot (bOr (bOr (bOr (bAnd (iLe 65 (sAt a0 a2)) (iLe (sAt a0 a2) 90)) (iEq (sAt a0 a2) 35)) (iEq (sAt a0 a2) 36)) (iEq (sAt a0 a2) 64))) (bOr (iEq a2 0) (bAnd (bAnd (bNot (iEq (sAt a0 a2) 95)) (bNot (iEq (sAt a0 a2) 46))) (bOr (iLt (sAt a0 a2) 48) (iLt 57 (sAt a0 a2))))))
      (some (.inr (.inr false)))
      (some (.inl (a0, (a1, (iAdd .i64 a2 1)))))) none)
    (some (.inr (.inl ())))
def L51_0 (x : (ByteArray × (Int × Int))) : Option (Unit ⊕ Bool) := iter (fun (x : (ByteArray × (Int × Int))) => (B51_0 x.1 x.2.1 x.2.2)) fuel x
def lsL51_0 : LS := ⟨(.one .normal ⟨.non, [0, 14, 15], (.seq (.dat .str) (.seq (.dat (.int .i64)) (.dat (.int .i64)))), 0, 62, 0⟩), (.two (.one (.exit 0) ⟨.non, [], .non, 0, 62, 0⟩) (.one .ret ⟨.non, [2], (.dat .bool), 0, 62, 0⟩)), fun (x : (ByteArray × (Int × Int))) => (B51_0 x.1 x.2.1 x.2.2)⟩
/-- journal.isName -/
def F51 (a0 : ByteArray) : Option Bool :=
  sel (bOr (sEq a0 (bs [])) (iLt 10 (sLen a0)))
    (some false)
    (bndS (L51_0 (a0, ((sLen a0), 0))) fun y0 =>
    sumS y0 (fun y0a =>
      some true) fun y0b =>
      some y0b)
def gF51 : FS := ⟨(.dat .str), 0, (.one ⟨.non, (.dat .bool), 0, 0⟩), fun x => (F51 x)⟩
theorem rL51_0 (x : lsL51_0.hd.T) : kRound env (GofL []) (LofL [(51, [(0, lsL51_0)])]) 51 0 (lpOf Tryd.prog 51 0).2 (lsL51_0.hd.st x) lsL51_0.rd = lsL51_0.B x := by kernel_rfl
theorem eF51 (x : gF51.a.T) : kF env (GofL []) (LofL [(51, [(0, lsL51_0)])]) 51 (gF51.args x) (gF51.bs x) gF51.r.dec = gF51.F x := by kernel_rfl
theorem sF51 : SpecAt env 1 51 gF51 := mkSpec (r := 0) (gl := []) (L0 := [(0, lsL51_0)]) (by kernel_rfl) trivial ⟨⟨0, by kernel_rfl, by kernel_rfl, rL51_0⟩, trivial⟩ eF51 (fun h => absurd h (by rw [show env.nl 51 = false by kernel_rfl]; decide))
/-- journal.CheckEntry -/
def F15 (a0 : (Int × (Int × (Int × (ByteArray × (Int × (Int × (ByteArray × ByteArray)))))))) : Option Int :=
  letS (F50 a0.2.1 0 5) fun y0 =>
  sel (bNot y0)
    (some 4)
    (letS (F50 a0.1 1 9999) fun y1 =>
    letS (F50 a0.2.2.1 (sel (iEq a0.2.1 0) 0 (sel (sel (iEq a0.2.1 1) (iEq a0.2.1 1) (sel (iEq a0.2.1 2) (iEq a0.2.1 2) (iEq a0.2.1 3))) 1 0)) (sel (iEq a0.2.1 0) 999 (sel (sel (iEq a0.2.1 1) (iEq a0.2.1 1) (sel (iEq a0.2.1 2) (iEq a0.2.1 2) (iEq a0.2.1 3))) 999 0))) fun y2 =>
    sel (bOr (bNot y1) (bAnd (iLt 0 (sel (iEq a0.2.1 0) 999 (sel (sel (iEq a0.2.1 1) (iEq a0.2.1 1) (sel (iEq a0.2.1 2) (iEq a0.2.1 2) (iEq a0.2.1 3))) 999 0))) (bNot y2)))
      (some 3)
      (sel (bAnd (bNot (iLt 0 (sel (iEq a0.2.1 0) 999 (sel (sel (iEq a0.2.1 1) (iEq a0.2.1 1) (sel (iEq a0.2.1 2) (iEq a0.2.1 2) (iEq a0.2.1 3))) 999 0)))) (bNot (iEq a0.2.2.1 0)))
        (some 5)
        (sel (iEq a0.2.1 0)
          (sel (bAnd (bNot (iEq a0.2.1 0)) (bNot (iEq a0.2.1 4)))
            (some 0)
            (bndS (F51 a0.2.2.2.1) fun y9 =>
            sel (bNot y9)
              (some 7)
              (sel (iEq a0.2.1 4)
                (some 0)
                (letS (F50 a0.2.2.2.2.1 0 2) fun y10 =>
                sel (bNot y10)
                  (some 4)
                  (letS (F50 a0.2.2.2.2.2.1 1 60) fun y11 =>
                  sel (bNot y11)
                    (some 3)
                    (sel (sel (iLt 200 (sLen a0.2.2.2.2.2.2.1)) (iLt 200 (sLen a0.2.2.2.2.2.2.1)) (iLt 200 (sLen a0.2.2.2.2.2.2.2)))
                      (some 18)
                      (sel (sel (bNot (bEq (iEq a0.2.2.2.2.1 0) (sEq a0.2.2.2.2.2.2.1 (bs [])))) (bNot (bEq (iEq a0.2.2.2.2.1 0) (sEq a0.2.2.2.2.2.2.1 (bs [])))) (bNot (bEq (iEq a0.2.2.2.2.1 2) (sEq a0.2.2.2.2.2.2.2 (bs [])))))
                        (some 5)
                        (some 0))))))))
          (sel (iEq a0.2.1 4)
            (sel (bNot (bAnd (sEq a0.2.2.2.1 a0.2.2.2.1) (bAnd (iEq a0.2.2.2.2.1 0) (bAnd (iEq a0.2.2.2.2.2.1 0) (bAnd (sEq a0.2.2.2.2.2.2.1 (bs [])) (sEq a0.2.2.2.2.2.2.2 (bs [])))))))
              (some 5)
              (sel (bAnd (bNot (iEq a0.2.1 0)) (bNot (iEq a0.2.1 4)))
                (some 0)
                (bndS (F51 a0.2.2.2.1) fun y6 =>
                sel (bNot y6)
                  (some 7)
                  (sel (iEq a0.2.1 4)
                    (some 0)
                    (letS (F50 a0.2.2.2.2.1 0 2) fun y7 =>
                    sel (bNot y7)
                      (some 4)
                      (letS (F50 a0.2.2.2.2.2.1 1 60) fun y8 =>
                      sel (bNot y8)
                        (some 3)
                        (sel (sel (iLt 200 (sLen a0.2.2.2.2.2.2.1)) (iLt 200 (sLen a0.2.2.2.2.2.2.1)) (iLt 200 (sLen a0.2.2.2.2.2.2.2)))
                          (some 18)
                          (sel (sel (bNot (bEq (iEq a0.2.2.2.2.1 0) (sEq a0.2.2.2.2.2.2.1 (bs [])))) (bNot (bEq (iEq a0.2.2.2.2.1 0) (sEq a0.2.2.2.2.2.2.1 (bs [])))) (bNot (bEq (iEq a0.2.2.2.2.1 2) (sEq a0.2.2.2.2.2.2.2 (bs [])))))
                            (some 5)
                            (some 0)))))))))
            (sel (bNot (bAnd (sEq a0.2.2.2.1 (bs [])) (bAnd (iEq a0.2.2.2.2.1 0) (bAnd (iEq a0.2.2.2.2.2.1 0) (bAnd (sEq a0.2.2.2.2.2.2.1 (bs [])) (sEq a0.2.2.2.2.2.2.2 (bs [])))))))
              (some 5)
              (sel (bAnd (bNot (iEq a0.2.1 0)) (bNot (iEq a0.2.1 4)))
                (some 0)
                (bndS (F51 a0.2.2.2.1) fun y3 =>
                sel (bNot y3)
                  (some 7)
                  (sel (iEq a0.2.1 4)
                    (some 0)
                    (letS (F50 a0.2.2.2.2.1 0 2) fun y4 =>
                    sel (bNot y4)
                      (some 4)
                      (letS (F50 a0.2.2.2.2.2.1 1 60) fun y5 =>
                      sel (bNot y5)
                        (some 3)
                        (sel (sel (iLt 200 (sLen a0.2.2.2.2.2.2.1)) (iLt 200 (sLen a0.2.2.2.2.2.2.1)) (iLt 200 (sLen a0.2.2.2.2.2.2.2)))
                          (some 18)
                          (sel (sel (bNot (bEq (iEq a0.2.2.2.2.1 0) (sEq a0.2.2.2.2.2.2.1 (bs [])))) (bNot (bEq (iEq a0.2.2.2.2.1 0) (sEq a0.2.2.2.2.2.2.1 (bs [])))) (bNot (bEq (iEq a0.2.2.2.2.1 2) (sEq a0.2.2.2.2.2.2.2 (bs [])))))
                            (some 5)
                            (some 0)))))))))))))
def gF15 : FS := ⟨(.agg (.dat (.pr (.int .i64) (.pr (.int .i64) (.pr (.int .i64) (.pr .str (.pr (.int .i64) (.pr (.int .i64) (.pr .str .str))))))))), 0, (.one ⟨.non, (.dat (.int .i64)), 0, 0⟩), fun x => (F15 x)⟩
theorem eF15 (x : gF15.a.T) : kF env (GofL [(50, [gF50]), (51, [gF51])]) (LofL [(15, [])]) 15 (gF15.args x) (gF15.bs x) gF15.r.dec = gF15.F x := by kernel_rfl
theorem sF15 : SpecAt env 2 15 gF15 := mkSpec (r := 1) (gl := [(50, [gF50]), (51, [gF51])]) (L0 := []) (by kernel_rfl) ⟨⟨sF50.up (by decide), trivial⟩, ⟨sF51.up (by decide), trivial⟩, trivial⟩ trivial eF15 (fun h => absurd h (by rw [show env.nl 15 = false by kernel_rfl]; decide))
def B76_0 (a0 : (List Int)) (a1 : Int) (a2 : Int) : Option (((List Int) × (Int × Int)) ⊕ (List Int)) :=
  sel (iLe 0 a2)
    (sel (iLe 0 (iMul .i64 8 a2)) (
    sel (lCap 1 (lApp a0 [(iCv .u8 (iShr .i64 a1 (iMul .i64 8 a2)))])) (
    some (.inl ((lApp a0 [(iCv .u8 (iShr .i64 a1 (iMul .i64 8 a2)))]), (a1, (iSub .i64 a2 1))))) none) none)
    (some (.inr a0))
def L76_0 (x : ((List Int) × (Int × Int))) : Option (List Int) := iter (fun (x : ((List Int) × (Int × Int))) => (B76_0 x.1 x.2.1 x.2.2)) fuel x
def lsL76_0 : LS := ⟨(.one .normal ⟨.non, [0, 1, 7], (.seq (.own 0 (.int .u8)) (.seq (.dat (.int .i64)) (.dat (.int .i64)))), 1, 23, 0⟩), (.one (.exit 0) ⟨.non, [0], (.own 0 (.int .u8)), 1, 23, 0⟩), fun (x : ((List Int) × (Int × Int))) => (B76_0 x.1 x.2.1 x.2.2)⟩
/-- journal.put -/
def F76 (a0 : Int) (a1 : Int) : Option (List Int) :=
  bndS (L76_0 (([] : List Int), (a0, (iSub .i64 a1 1)))) fun y0 =>
  some y0
def gF76 : FS := ⟨(.seq (.lit (.slice none 0 0)) (.seq (.dat (.int .i64)) (.dat (.int .i64)))), 0, (.one ⟨.non, (.own 0 (.int .u8)), 0, 1⟩), fun x => (F76 x.1 x.2)⟩
theorem rL76_0 (x : lsL76_0.hd.T) : kRound env (GofL []) (LofL [(76, [(0, lsL76_0)])]) 76 0 (lpOf Tryd.prog 76 0).2 (lsL76_0.hd.st x) lsL76_0.rd = lsL76_0.B x := by kernel_rfl
theorem eF76 (x : gF76.a.T) : kF env (GofL []) (LofL [(76, [(0, lsL76_0)])]) 76 (gF76.args x) (gF76.bs x) gF76.r.dec = gF76.F x := by kernel_rfl
theorem sF76 : SpecAt env 1 76 gF76 := mkSpec (r := 0) (gl := []) (L0 := [(0, lsL76_0)]) (by kernel_rfl) trivial ⟨⟨0, by kernel_rfl, by kernel_rfl, rL76_0⟩, trivial⟩ eF76 (fun h => absurd h (by rw [show env.nl 76 = false by kernel_rfl]; decide))
def B76_0_1 (a0 : (List Int)) (a1 : Int) (a2 : Int) : Option (((List Int) × (Int × Int)) ⊕ (List Int)) :=
  sel (iLe 0 a2)
    (sel (iLe 0 (iMul .i64 8 a2)) (
    sel (lCap 1 (lApp a0 [(iCv .u8 (iShr .i64 a1 (iMul .i64 8 a2)))])) (
    some (.inl ((lApp a0 [(iCv .u8 (iShr .i64 a1 (iMul .i64 8 a2)))]), (a1, (iSub .i64 a2 1))))) none) none)
    (some (.inr a0))
def L76_0_1 (x : ((List Int) × (Int × Int))) : Option (List Int) := iter (fun (x : ((List Int) × (Int × Int))) => (B76_0_1 x.1 x.2.1 x.2.2)) fuel x
def lsL76_0_1 : LS := ⟨(.one .normal ⟨.non, [0, 1, 7], (.seq (.own 1 (.int .u8)) (.seq (.dat (.int .i64)) (.dat (.int .i64)))), 2, 23, 1⟩), (.one (.exit 0) ⟨.non, [0], (.own 1 (.int .u8)), 2, 23, 1⟩), fun (x : ((List Int) × (Int × Int))) => (B76_0_1 x.1 x.2.1 x.2.2)⟩
/-- journal.put -/
def F76_1 (a0 : (List Int)) (a1 : Int) (a2 : Int) : Option (List Int) :=
  bndS (L76_0_1 (a0, (a1, (iSub .i64 a2 1)))) fun y0 =>
  some y0
def gF76_1 : FS := ⟨(.seq (.own 0 (.int .u8)) (.seq (.dat (.int .i64)) (.dat (.int .i64)))), 1, (.one ⟨.non, (.own 1 (.int .u8)), 1, 1⟩), fun x => (F76_1 x.1 x.2.1 x.2.2)⟩
theorem rL76_0_1 (x : lsL76_0_1.hd.T) : kRound env (GofL []) (LofL [(76, [(0, lsL76_0_1)])]) 76 0 (lpOf Tryd.prog 76 0).2 (lsL76_0_1.hd.st x) lsL76_0_1.rd = lsL76_0_1.B x := by kernel_rfl
theorem eF76_1 (x : gF76_1.a.T) : kF env (GofL []) (LofL [(76, [(0, lsL76_0_1)])]) 76 (gF76_1.args x) (gF76_1.bs x) gF76_1.r.dec = gF76_1.F x := by kernel_rfl
theorem sF76_1 : SpecAt env 1 76 gF76_1 := mkSpec (r := 0) (gl := []) (L0 := [(0, lsL76_0_1)]) (by kernel_rfl) trivial ⟨⟨0, by kernel_rfl, by kernel_rfl, rL76_0_1⟩, trivial⟩ eF76_1 (fun h => absurd h (by rw [show env.nl 76 = false by kernel_rfl]; decide))
def B62_0 (a0 : ByteArray) (a1 : Int) (a2 : Int) (a3 : Int) : Option ((ByteArray × (Int × (Int × Int))) ⊕ Int) :=
  sel (iLt a3 a2)
    (sel (oIn a3 (sLen a0)) (
    sel (oNz 4294967291) (
    some (.inl (a0, ((iRem (iAdd .i64 (iAdd .i64 (iMul .i64 257 a1) (iCv .i64 (sAt a0 a3))) 1) 4294967291), (a2, (iAdd .i64 a3 1)))))) none) none)
    (some (.inr a1))
def L62_0 (x : (ByteArray × (Int × (Int × Int)))) : Option Int := iter (fun (x : (ByteArray × (Int × (Int × Int)))) => (B62_0 x.1 x.2.1 x.2.2.1 x.2.2.2)) fuel x
def lsL62_0 : LS := ⟨(.one .normal ⟨.non, [0, 3, 6, 7], (.seq (.dat .str) (.seq (.dat (.int .i64)) (.seq (.dat (.int .i64)) (.dat (.int .i64))))), 0, 21, 0⟩), (.one (.exit 0) ⟨.non, [3], (.dat (.int .i64)), 0, 21, 0⟩), fun (x : (ByteArray × (Int × (Int × Int)))) => (B62_0 x.1 x.2.1 x.2.2.1 x.2.2.2)⟩
/-- journal.checksum -/
def F62 (a0 : ByteArray) : Option Int :=
  bndS (L62_0 (a0, (1, ((sLen a0), 0)))) fun y0 =>
  some y0
def gF62 : FS := ⟨(.dat .str), 0, (.one ⟨.non, (.dat (.int .i64)), 0, 0⟩), fun x => (F62 x)⟩
theorem rL62_0 (x : lsL62_0.hd.T) : kRound env (GofL []) (LofL [(62, [(0, lsL62_0)])]) 62 0 (lpOf Tryd.prog 62 0).2 (lsL62_0.hd.st x) lsL62_0.rd = lsL62_0.B x := by kernel_rfl
theorem eF62 (x : gF62.a.T) : kF env (GofL []) (LofL [(62, [(0, lsL62_0)])]) 62 (gF62.args x) (gF62.bs x) gF62.r.dec = gF62.F x := by kernel_rfl
theorem sF62 : SpecAt env 1 62 gF62 := mkSpec (r := 0) (gl := []) (L0 := [(0, lsL62_0)]) (by kernel_rfl) trivial ⟨⟨0, by kernel_rfl, by kernel_rfl, rL62_0⟩, trivial⟩ eF62 (fun h => absurd h (by rw [show env.nl 62 = false by kernel_rfl]; decide))
/-- journal.encoded -/
def F52 (a0 : (Int × (Int × (Int × (ByteArray × (Int × (Int × (ByteArray × ByteArray)))))))) : Option ByteArray :=
  bndS (F76 (iAdd .i64 (iAdd .i64 30 (sLen a0.2.2.2.2.2.2.1)) (sLen a0.2.2.2.2.2.2.2)) 2) fun y0 =>
  bndS (F76_1 y0 a0.1 4) fun y1 =>
  bndS (F76_1 y1 a0.2.1 1) fun y2 =>
  bndS (F76_1 y2 a0.2.2.1 2) fun y3 =>
  bndS (F76_1 y3 a0.2.2.2.2.1 1) fun y4 =>
  bndS (F76_1 y4 a0.2.2.2.2.2.1 2) fun y5 =>
  bndS (FRepeat (bs [32]) (iSub .i64 10 (sLen a0.2.2.2.1))) fun y6 =>
  sel (sOk a0.2.2.2.1 y6) (
  sel (lCap 1 (lApp y5 (sBy (sAdd a0.2.2.2.1 y6)))) (
  bndS (F76_1 (lApp y5 (sBy (sAdd a0.2.2.2.1 y6))) (sLen a0.2.2.2.2.2.2.1) 2) fun y7 =>
  sel (lCap 1 (lApp y7 (sBy a0.2.2.2.2.2.2.1))) (
  bndS (F76_1 (lApp y7 (sBy a0.2.2.2.2.2.2.1)) (sLen a0.2.2.2.2.2.2.2) 2) fun y8 =>
  sel (lCap 1 (lApp y8 (sBy a0.2.2.2.2.2.2.2))) (
  bndS (F62 (sOf (lApp y8 (sBy a0.2.2.2.2.2.2.2)))) fun y9 =>
  bndS (F76_1 (lApp y8 (sBy a0.2.2.2.2.2.2.2)) y9 4) fun y10 =>
  some (sOf y10)) none) none) none) none
def gF52 : FS := ⟨(.agg (.dat (.pr (.int .i64) (.pr (.int .i64) (.pr (.int .i64) (.pr .str (.pr (.int .i64) (.pr (.int .i64) (.pr .str .str))))))))), 0, (.one ⟨.non, (.dat .str), 0, 0⟩), fun x => (F52 x)⟩
theorem eF52 (x : gF52.a.T) : kF env (GofL [(76, [gF76_1, gF76]), (62, [gF62]), (77, [gFRepeat])]) (LofL [(52, [])]) 52 (gF52.args x) (gF52.bs x) gF52.r.dec = gF52.F x := by kernel_rfl
theorem sF52 : SpecAt env 2 52 gF52 := mkSpec (r := 1) (gl := [(76, [gF76_1, gF76]), (62, [gF62]), (77, [gFRepeat])]) (L0 := []) (by kernel_rfl) ⟨⟨sF76_1.up (by decide), sF76.up (by decide), trivial⟩, ⟨sF62.up (by decide), trivial⟩, ⟨sFRepeat.up (by decide), trivial⟩, trivial⟩ trivial eF52 (fun h => absurd h (by rw [show env.nl 52 = false by kernel_rfl]; decide))
/-- journal.BytesOf -/
def F16 (a0 : (Int × (Int × (Int × (ByteArray × (Int × (Int × (ByteArray × ByteArray)))))))) : Option (ByteArray × Int) :=
  bndS (F15 a0) fun y0 =>
  sel (bNot (iEq y0 0))
    (some ((bs []), y0))
    (bndS (F52 a0) fun y1 =>
    some (y1, 0))
def gF16 : FS := ⟨(.agg (.dat (.pr (.int .i64) (.pr (.int .i64) (.pr (.int .i64) (.pr .str (.pr (.int .i64) (.pr (.int .i64) (.pr .str .str))))))))), 0, (.one ⟨.non, (.tup (.seq (.dat .str) (.dat (.int .i64)))), 0, 0⟩), fun x => (F16 x)⟩
theorem eF16 (x : gF16.a.T) : kF env (GofL [(52, [gF52]), (15, [gF15])]) (LofL [(16, [])]) 16 (gF16.args x) (gF16.bs x) gF16.r.dec = gF16.F x := by kernel_rfl
theorem sF16 : SpecAt env 3 16 gF16 := mkSpec (r := 2) (gl := [(52, [gF52]), (15, [gF15])]) (L0 := []) (by kernel_rfl) ⟨⟨sF52.up (by decide), trivial⟩, ⟨sF15.up (by decide), trivial⟩, trivial⟩ trivial eF16 (fun h => absurd h (by rw [show env.nl 16 = false by kernel_rfl]; decide))
/-- journal.NewJournal -/
def F43 (a0 : ByteArray) : Option (((List (ByteArray × (Int × ByteArray))) × Int) × Int) :=
  bndS (F51 a0) fun y0 =>
  sel (bNot y0)
    (some ((([] : List (ByteArray × (Int × ByteArray))), 0), 7))
    (some (([(a0, (1, (bs [])))], 1), 0))
def gF43 : FS := ⟨(.dat .str), 0, (.one ⟨.non, (.tup (.seq (.agg (.seq (.own 0 (.pr .str (.pr (.int .i64) .str))) (.dat (.int .i64)))) (.dat (.int .i64)))), 0, 1⟩), fun x => (F43 x)⟩
theorem eF43 (x : gF43.a.T) : kF env (GofL [(51, [gF51])]) (LofL [(43, [])]) 43 (gF43.args x) (gF43.bs x) gF43.r.dec = gF43.F x := by kernel_rfl
theorem sF43 : SpecAt env 2 43 gF43 := mkSpec (r := 1) (gl := [(51, [gF51])]) (L0 := []) (by kernel_rfl) ⟨⟨sF51.up (by decide), trivial⟩, trivial⟩ trivial eF43 (fun h => absurd h (by rw [show env.nl 43 = false by kernel_rfl]; decide))
/-- journal.receiverErr$1 -/
def F99 (a0 : (ByteArray × (Int × ByteArray))) (a1 : ByteArray) (a2 : Int) (a3 : ByteArray) : ((ByteArray × (Int × ByteArray)) × Bool) :=
  ((a1, (a2, a3)), (sEq a0.1 a1))
def gF99 : FS := ⟨(.seq (.agg (.dat (.pr .str (.pr (.int .i64) .str)))) (.box 0 (.seq (.dat .str) (.seq (.dat (.int .i64)) (.dat .str))))), 1, (.one ⟨(.box 0 (.seq (.dat .str) (.seq (.dat (.int .i64)) (.dat .str)))), (.dat .bool), 1, 0⟩), fun x => some (F99 x.1 x.2.1 x.2.2.1 x.2.2.2)⟩
theorem eF99 (x : gF99.a.T) : kF env (GofL []) (LofL [(99, [])]) 99 (gF99.args x) (gF99.bs x) gF99.r.dec = gF99.F x := by kernel_rfl
theorem sF99 : SpecAt env 1 99 gF99 := mkSpec (r := 0) (gl := []) (L0 := []) (by kernel_rfl) trivial trivial eF99 (fun h => absurd h (by rw [show env.nl 99 = false by kernel_rfl]; decide))
def B87_0 (a0 : ByteArray) (a1 : Int) (a2 : ByteArray) (a3 : (List (ByteArray × (Int × ByteArray)))) (a4 : Int) (a5 : Int) : Option (((ByteArray × (Int × ByteArray)) × ((List (ByteArray × (Int × ByteArray))) × (Int × Int))) ⊕ ((ByteArray × (Int × ByteArray)) ⊕ ((ByteArray × (Int × ByteArray)) × Int))) :=
  sel (iLt a5 a4)
    (sel (oIn a5 (lLen a3)) (
    letS (F99 (lAt a3 a5) a0 a1 a2) fun y0 =>
    sel y0.2
      (some (.inr (.inr (y0.1, a5))))
      (some (.inl (y0.1, (a3, (a4, (iAdd .i64 a5 1))))))) none)
    (some (.inr (.inl (a0, (a1, a2)))))
def L87_0 (x : ((ByteArray × (Int × ByteArray)) × ((List (ByteArray × (Int × ByteArray))) × (Int × Int)))) : Option ((ByteArray × (Int × ByteArray)) ⊕ ((ByteArray × (Int × ByteArray)) × Int)) := iter (fun (x : ((ByteArray × (Int × ByteArray)) × ((List (ByteArray × (Int × ByteArray))) × (Int × Int)))) => (B87_0 x.1.1 x.1.2.1 x.1.2.2 x.2.1 x.2.2.1 x.2.2.2)) fuel x
def lsL87_0 : LS := ⟨(.one .normal ⟨(.box 0 (.seq (.dat .str) (.seq (.dat (.int .i64)) (.dat .str)))), [0, 1, 7, 8], (.seq (.dat (.sl (.pr .str (.pr (.int .i64) .str)))) (.seq (.fn 99 (.ptr 0 3 0)) (.seq (.dat (.int .i64)) (.dat (.int .i64))))), 1, 19, 1⟩), (.two (.one (.exit 0) ⟨(.box 0 (.seq (.dat .str) (.seq (.dat (.int .i64)) (.dat .str)))), [], .non, 1, 19, 1⟩) (.one .ret ⟨(.box 0 (.seq (.dat .str) (.seq (.dat (.int .i64)) (.dat .str)))), [4], (.dat (.int .i64)), 1, 19, 1⟩)), fun (x : ((ByteArray × (Int × ByteArray)) × ((List (ByteArray × (Int × ByteArray))) × (Int × Int)))) => (B87_0 x.1.1 x.1.2.1 x.1.2.2 x.2.1 x.2.2.1 x.2.2.2)⟩
/-- slices.IndexFunc[[]api.Receiver,api.Receiver] -/
def F87 (a0 : (List (ByteArray × (Int × ByteArray)))) (a1 : ByteArray) (a2 : Int) (a3 : ByteArray) : Option ((ByteArray × (Int × ByteArray)) × Int) :=
  bndS (L87_0 ((a1, (a2, a3)), (a0, ((lLen a0), 0)))) fun y0 =>
  sumS y0 (fun y0a =>
    some (y0a, (-1))) fun y0b =>
    some y0b
def gF87 : FS := ⟨(.seq (.dat (.sl (.pr .str (.pr (.int .i64) .str)))) (.fn 99 (.box 0 (.seq (.dat .str) (.seq (.dat (.int .i64)) (.dat .str)))))), 1, (.one ⟨(.box 0 (.seq (.dat .str) (.seq (.dat (.int .i64)) (.dat .str)))), (.dat (.int .i64)), 1, 0⟩), fun x => (F87 x.1 x.2.1 x.2.2.1 x.2.2.2)⟩
theorem rL87_0 (x : lsL87_0.hd.T) : kRound env (GofL [(99, [gF99])]) (LofL [(87, [(0, lsL87_0)])]) 87 0 (lpOf Tryd.prog 87 0).2 (lsL87_0.hd.st x) lsL87_0.rd = lsL87_0.B x := by kernel_rfl
theorem eF87 (x : gF87.a.T) : kF env (GofL [(99, [gF99])]) (LofL [(87, [(0, lsL87_0)])]) 87 (gF87.args x) (gF87.bs x) gF87.r.dec = gF87.F x := by kernel_rfl
theorem sF87 : SpecAt env 2 87 gF87 := mkSpec (r := 1) (gl := [(99, [gF99])]) (L0 := [(0, lsL87_0)]) (by kernel_rfl) ⟨⟨sF99.up (by decide), trivial⟩, trivial⟩ ⟨⟨0, by kernel_rfl, by kernel_rfl, rL87_0⟩, trivial⟩ eF87 (fun h => absurd h (by rw [show env.nl 87 = false by kernel_rfl]; decide))
/-- slices.ContainsFunc[[]api.Receiver,api.Receiver] -/
def F98 (a0 : (List (ByteArray × (Int × ByteArray)))) (a1 : ByteArray) (a2 : Int) (a3 : ByteArray) : Option ((ByteArray × (Int × ByteArray)) × Bool) :=
  bndS (F87 a0 a1 a2 a3) fun y0 =>
  some (y0.1, (iLe 0 y0.2))
def gF98 : FS := ⟨(.seq (.dat (.sl (.pr .str (.pr (.int .i64) .str)))) (.fn 99 (.box 0 (.seq (.dat .str) (.seq (.dat (.int .i64)) (.dat .str)))))), 1, (.one ⟨(.box 0 (.seq (.dat .str) (.seq (.dat (.int .i64)) (.dat .str)))), (.dat .bool), 1, 0⟩), fun x => (F98 x.1 x.2.1 x.2.2.1 x.2.2.2)⟩
theorem eF98 (x : gF98.a.T) : kF env (GofL [(87, [gF87])]) (LofL [(98, [])]) 98 (gF98.args x) (gF98.bs x) gF98.r.dec = gF98.F x := by kernel_rfl
theorem sF98 : SpecAt env 3 98 gF98 := mkSpec (r := 2) (gl := [(87, [gF87])]) (L0 := []) (by kernel_rfl) ⟨⟨sF87.up (by decide), trivial⟩, trivial⟩ trivial eF98 (fun h => absurd h (by rw [show env.nl 98 = false by kernel_rfl]; decide))
/-- journal.receiverErr -/
def F85 (a0 : ((List (ByteArray × (Int × ByteArray))) × Int)) (a1 : Int) : Option Int :=
  sel (oIn a1 (lLen a0.1)) (
  bndS (F51 (lAt a0.1 a1).1) fun y0 =>
  sel (bNot y0)
    (some 7)
    (sel (oCut 0 a1 (lLen a0.1)) (
    bndS (F98 (lCut a0.1 0 a1) (lAt a0.1 a1).1 (lAt a0.1 a1).2.1 (lAt a0.1 a1).2.2) fun y1 =>
    sel y1.2
      (some 13)
      (sel (iLt 1200 (sLen y1.1.2.2))
        (some 2)
        (letS (F50 y1.1.2.1 1 10000) fun y2 =>
        sel (bAnd (iEq a1 0) (bNot y2))
          (some 3)
          (some 0)))) none)) none
def gF85 : FS := ⟨(.seq (.agg (.dat (.pr (.sl (.pr .str (.pr (.int .i64) .str))) (.int .i64)))) (.dat (.int .i64))), 0, (.one ⟨.non, (.dat (.int .i64)), 0, 0⟩), fun x => (F85 x.1 x.2)⟩
theorem eF85 (x : gF85.a.T) : kF env (GofL [(50, [gF50]), (98, [gF98]), (51, [gF51])]) (LofL [(85, [])]) 85 (gF85.args x) (gF85.bs x) gF85.r.dec = gF85.F x := by kernel_rfl
theorem sF85 : SpecAt env 4 85 gF85 := mkSpec (r := 3) (gl := [(50, [gF50]), (98, [gF98]), (51, [gF51])]) (L0 := []) (by kernel_rfl) ⟨⟨sF50.up (by decide), trivial⟩, ⟨sF98.up (by decide), trivial⟩, ⟨sF51.up (by decide), trivial⟩, trivial⟩ trivial eF85 (fun h => absurd h (by rw [show env.nl 85 = false by kernel_rfl]; decide))
/-- (*journal.source).bytes -/
def F61 (a0 : ByteArray) (a1 : Int) (a2 : Bool) (a3 : Int) : Option ((ByteArray × (Int × Bool)) × ByteArray) :=
  sel (iLt (iSub .i64 (sLen a0) a1) a3)
    (some ((a0, (a1, false)), (bs [])))
    (sel (oCut (iSub .i64 (iAdd .i64 a1 a3) a3) (iAdd .i64 a1 a3) (sLen a0)) (
    some ((a0, ((iAdd .i64 a1 a3), a2)), (sCut a0 (iSub .i64 (iAdd .i64 a1 a3) a3) (iAdd .i64 a1 a3)))) none)
def gF61 : FS := ⟨(.seq (.box 0 (.seq (.dat .str) (.seq (.dat (.int .i64)) (.dat .bool)))) (.dat (.int .i64))), 1, (.one ⟨(.box 0 (.seq (.dat .str) (.seq (.dat (.int .i64)) (.dat .bool)))), (.dat .str), 1, 0⟩), fun x => (F61 x.1.1 x.1.2.1 x.1.2.2 x.2)⟩
theorem eF61 (x : gF61.a.T) : kF env (GofL []) (LofL [(61, [])]) 61 (gF61.args x) (gF61.bs x) gF61.r.dec = gF61.F x := by kernel_rfl
theorem sF61 : SpecAt env 1 61 gF61 := mkSpec (r := 0) (gl := []) (L0 := []) (by kernel_rfl) trivial trivial eF61 (fun h => absurd h (by rw [show env.nl 61 = false by kernel_rfl]; decide))
def B60_0 (a0 : ByteArray) (a1 : Int) (a2 : Bool) (a3 : Int) (a4 : (List Int)) (a5 : Int) (a6 : Int) : Option (((ByteArray × (Int × Bool)) × (Int × ((List Int) × (Int × Int)))) ⊕ ((ByteArray × (Int × Bool)) × Int)) :=
  sel (iLt a6 a5)
    (sel (oIn a6 (lLen a4)) (
    some (.inl ((a0, (a1, a2)), ((iOr .i64 (iShl .i64 a3 8) (iCv .i64 (lAt a4 a6))), (a4, (a5, (iAdd .i64 a6 1))))))) none)
    (some (.inr ((a0, (a1, a2)), a3)))
def L60_0 (x : ((ByteArray × (Int × Bool)) × (Int × ((List Int) × (Int × Int))))) : Option ((ByteArray × (Int × Bool)) × Int) := iter (fun (x : ((ByteArray × (Int × Bool)) × (Int × ((List Int) × (Int × Int))))) => (B60_0 x.1.1 x.1.2.1 x.1.2.2 x.2.1 x.2.2.1 x.2.2.2.1 x.2.2.2.2)) fuel x
def lsL60_0 : LS := ⟨(.one .normal ⟨(.box 0 (.seq (.dat .str) (.seq (.dat (.int .i64)) (.dat .bool)))), [5, 11, 12, 13], (.seq (.dat (.int .i64)) (.seq (.own 1 (.int .u8)) (.seq (.dat (.int .i64)) (.dat (.int .i64))))), 2, 24, 1⟩), (.one (.exit 0) ⟨(.box 0 (.seq (.dat .str) (.seq (.dat (.int .i64)) (.dat .bool)))), [5], (.dat (.int .i64)), 1, 24, 1⟩), fun (x : ((ByteArray × (Int × Bool)) × (Int × ((List Int) × (Int × Int))))) => (B60_0 x.1.1 x.1.2.1 x.1.2.2 x.2.1 x.2.2.1 x.2.2.2.1 x.2.2.2.2)⟩
/-- (*journal.source).number -/
def F60 (a0 : ByteArray) (a1 : Int) (a2 : Bool) (a3 : Int) : Option ((ByteArray × (Int × Bool)) × Int) :=
  bndS (F61 a0 a1 a2 a3) fun y0 =>
  bndS (L60_0 (y0.1, (0, ((sBy y0.2), ((lLen (sBy y0.2)), 0))))) fun y1 =>
  some y1
def gF60 : FS := ⟨(.seq (.box 0 (.seq (.dat .str) (.seq (.dat (.int .i64)) (.dat .bool)))) (.dat (.int .i64))), 1, (.one ⟨(.box 0 (.seq (.dat .str) (.seq (.dat (.int .i64)) (.dat .bool)))), (.dat (.int .i64)), 1, 0⟩), fun x => (F60 x.1.1 x.1.2.1 x.1.2.2 x.2)⟩
theorem rL60_0 (x : lsL60_0.hd.T) : kRound env (GofL [(61, [gF61])]) (LofL [(60, [(0, lsL60_0)])]) 60 0 (lpOf Tryd.prog 60 0).2 (lsL60_0.hd.st x) lsL60_0.rd = lsL60_0.B x := by kernel_rfl
theorem eF60 (x : gF60.a.T) : kF env (GofL [(61, [gF61])]) (LofL [(60, [(0, lsL60_0)])]) 60 (gF60.args x) (gF60.bs x) gF60.r.dec = gF60.F x := by kernel_rfl
theorem sF60 : SpecAt env 2 60 gF60 := mkSpec (r := 1) (gl := [(61, [gF61])]) (L0 := [(0, lsL60_0)]) (by kernel_rfl) ⟨⟨sF61.up (by decide), trivial⟩, trivial⟩ ⟨⟨0, by kernel_rfl, by kernel_rfl, rL60_0⟩, trivial⟩ eF60 (fun h => absurd h (by rw [show env.nl 60 = false by kernel_rfl]; decide))
def B81_0 (a0 : ByteArray) (a1 : Int) : Option ((ByteArray × Int) ⊕ ByteArray) :=
  sel (bOr (oIn (iSub .i64 (sLen a0) 1) (sLen a0)) (bNot (iLt 0 (sLen a0)))) (
  sel (bAnd (iLt 0 (sLen a0)) (iEq (sAt a0 (iSub .i64 (sLen a0) 1)) a1))
    (sel (oCut 0 (iSub .i64 (sLen a0) 1) (sLen a0)) (
    some (.inl ((sCut a0 0 (iSub .i64 (sLen a0) 1)), a1))) none)
    (some (.inr a0))) none
def L81_0 (x : (ByteArray × Int)) : Option ByteArray := iter (fun (x : (ByteArray × Int)) => (B81_0 x.1 x.2)) fuel x
def lsL81_0 : LS := ⟨(.one .normal ⟨.non, [0, 1], (.seq (.dat .str) (.dat (.int .u8))), 0, 23, 0⟩), (.one (.exit 0) ⟨.non, [0], (.dat .str), 0, 23, 0⟩), fun (x : (ByteArray × Int)) => (B81_0 x.1 x.2)⟩
/-- strings.trimRightByte -/
def F81 (a0 : ByteArray) (a1 : Int) : Option ByteArray :=
  bndS (L81_0 (a0, a1)) fun y0 =>
  some y0
def gF81 : FS := ⟨(.seq (.dat .str) (.dat (.int .u8))), 0, (.one ⟨.non, (.dat .str), 0, 0⟩), fun x => (F81 x.1 x.2)⟩
theorem rL81_0 (x : lsL81_0.hd.T) : kRound env (GofL []) (LofL [(81, [(0, lsL81_0)])]) 81 0 (lpOf Tryd.prog 81 0).2 (lsL81_0.hd.st x) lsL81_0.rd = lsL81_0.B x := by kernel_rfl
theorem eF81 (x : gF81.a.T) : kF env (GofL []) (LofL [(81, [(0, lsL81_0)])]) 81 (gF81.args x) (gF81.bs x) gF81.r.dec = gF81.F x := by kernel_rfl
theorem sF81 : SpecAt env 1 81 gF81 := mkSpec (r := 0) (gl := []) (L0 := [(0, lsL81_0)]) (by kernel_rfl) trivial ⟨⟨0, by kernel_rfl, by kernel_rfl, rL81_0⟩, trivial⟩ eF81 (fun h => absurd h (by rw [show env.nl 81 = false by kernel_rfl]; decide))
/-- strings.TrimRight -/
def F63 (a0 : ByteArray) : Option ByteArray :=
  sel (bAnd (sEq a0 (bs [])) true)
    (some a0)
    (bndS (F81 a0 32) fun y0 =>
    some y0)
def gF63 : FS := ⟨(.seq (.dat .str) (.lit (.string (bs [32])))), 0, (.one ⟨.non, (.dat .str), 0, 0⟩), fun x => (F63 x)⟩
theorem eF63 (x : gF63.a.T) : kF env (GofL [(81, [gF81])]) (LofL [(63, [])]) 63 (gF63.args x) (gF63.bs x) gF63.r.dec = gF63.F x := by kernel_rfl
theorem sF63 : SpecAt env 2 63 gF63 := mkSpec (r := 1) (gl := [(81, [gF81])]) (L0 := []) (by kernel_rfl) ⟨⟨sF81.up (by decide), trivial⟩, trivial⟩ trivial eF63 (fun h => absurd h (by rw [show env.nl 63 = false by kernel_rfl]; decide))
/-- journal.EntryIn -/
def F19 (a0 : ByteArray) (a1 : Int) : Option ((Int × (Int × (Int × (ByteArray × (Int × (Int × (ByteArray × ByteArray))))))) × (Int × Int)) :=
  letS (F50 a1 0 (sLen a0)) fun y0 =>
  sel (bNot y0)
    (some ((0, (0, (0, ((bs []), (0, (0, ((bs []), (bs [])))))))), (0, 3)))
    (sel (oCut a1 (sLen a0) (sLen a0)) (
    sel (iLt (sLen (sCut a0 a1 (sLen a0))) 30)
      (some ((0, (0, (0, ((bs []), (0, (0, ((bs []), (bs [])))))))), (0, 9)))
      (sel (oIn 0 (sLen (sCut a0 a1 (sLen a0)))) (
      sel (oIn 1 (sLen (sCut a0 a1 (sLen a0)))) (
      sel (iLt (sLen (sCut a0 a1 (sLen a0))) (iOr .i64 (iShl .i64 (iCv .i64 (sAt (sCut a0 a1 (sLen a0)) 0)) 8) (iCv .i64 (sAt (sCut a0 a1 (sLen a0)) 1))))
        (some ((0, (0, (0, ((bs []), (0, (0, ((bs []), (bs [])))))))), (0, 9)))
        (sel (iLt (iOr .i64 (iShl .i64 (iCv .i64 (sAt (sCut a0 a1 (sLen a0)) 0)) 8) (iCv .i64 (sAt (sCut a0 a1 (sLen a0)) 1))) 30)
          (some ((0, (0, (0, ((bs []), (0, (0, ((bs []), (bs [])))))))), (0, 18)))
          (sel (oCut 0 (iOr .i64 (iShl .i64 (iCv .i64 (sAt (sCut a0 a1 (sLen a0)) 0)) 8) (iCv .i64 (sAt (sCut a0 a1 (sLen a0)) 1))) (sLen (sCut a0 a1 (sLen a0)))) (
          bndS (F60 (sCut (sCut a0 a1 (sLen a0)) 0 (iOr .i64 (iShl .i64 (iCv .i64 (sAt (sCut a0 a1 (sLen a0)) 0)) 8) (iCv .i64 (sAt (sCut a0 a1 (sLen a0)) 1)))) 0 true 2) fun y1 =>
          bndS (F60 y1.1.1 y1.1.2.1 y1.1.2.2 4) fun y2 =>
          bndS (F60 y2.1.1 y2.1.2.1 y2.1.2.2 1) fun y3 =>
          bndS (F60 y3.1.1 y3.1.2.1 y3.1.2.2 2) fun y4 =>
          bndS (F60 y4.1.1 y4.1.2.1 y4.1.2.2 1) fun y5 =>
          bndS (F60 y5.1.1 y5.1.2.1 y5.1.2.2 2) fun y6 =>
          bndS (F61 y6.1.1 y6.1.2.1 y6.1.2.2 10) fun y7 =>
          bndS (F60 y7.1.1 y7.1.2.1 y7.1.2.2 2) fun y8 =>
          bndS (F61 y8.1.1 y8.1.2.1 y8.1.2.2 y8.2) fun y9 =>
          bndS (F60 y9.1.1 y9.1.2.1 y9.1.2.2 2) fun y10 =>
          bndS (F61 y10.1.1 y10.1.2.1 y10.1.2.2 y10.2) fun y11 =>
          bndS (F60 y11.1.1 y11.1.2.1 y11.1.2.2 4) fun y12 =>
          sel (bOr (bNot y12.1.2.2) (bNot (iEq y12.1.2.1 (iOr .i64 (iShl .i64 (iCv .i64 (sAt (sCut a0 a1 (sLen a0)) 0)) 8) (iCv .i64 (sAt (sCut a0 a1 (sLen a0)) 1))))))
            (some ((0, (0, (0, ((bs []), (0, (0, ((bs []), (bs [])))))))), (0, 18)))
            (sel (oCut 0 (iSub .i64 (iOr .i64 (iShl .i64 (iCv .i64 (sAt (sCut a0 a1 (sLen a0)) 0)) 8) (iCv .i64 (sAt (sCut a0 a1 (sLen a0)) 1))) 4) (sLen y12.1.1)) (
            bndS (F62 (sCut y12.1.1 0 (iSub .i64 (iOr .i64 (iShl .i64 (iCv .i64 (sAt (sCut a0 a1 (sLen a0)) 0)) 8) (iCv .i64 (sAt (sCut a0 a1 (sLen a0)) 1))) 4))) fun y13 =>
            sel (bNot (iEq y12.2 y13))
              (some ((0, (0, (0, ((bs []), (0, (0, ((bs []), (bs [])))))))), (0, 33)))
              (bndS (F63 y7.2) fun y14 =>
              sel (bOr (okS (F51 y14)) (bNot (bNot (sEq y14 (bs []))))) (
              letS (valS (F51 y14) false) fun y15 =>
              sel (bAnd (bNot (sEq y14 (bs []))) (bNot y15))
                (some ((0, (0, (0, ((bs []), (0, (0, ((bs []), (bs [])))))))), (0, 5)))
                (bndS (F15 (y2.2, (y3.2, (y4.2, (y14, (y5.2, (y6.2, (y9.2, y11.2)))))))) fun y16 =>
                sel (bNot (iEq y16 0))
                  (some ((0, (0, (0, ((bs []), (0, (0, ((bs []), (bs [])))))))), (0, y16)))
                  (some ((y2.2, (y3.2, (y4.2, (y14, (y5.2, (y6.2, (y9.2, y11.2))))))), ((iAdd .i64 a1 (iOr .i64 (iShl .i64 (iCv .i64 (sAt (sCut a0 a1 (sLen a0)) 0)) 8) (iCv .i64 (sAt (sCut a0 a1 (sLen a0)) 1)))), 0))))) none)) none)) none))) none) none)) none)
def gF19 : FS := ⟨(.seq (.dat .str) (.dat (.int .i64))), 0, (.one ⟨.non, (.tup (.seq (.agg (.dat (.pr (.int .i64) (.pr (.int .i64) (.pr (.int .i64) (.pr .str (.pr (.int .i64) (.pr (.int .i64) (.pr .str .str))))))))) (.seq (.dat (.int .i64)) (.dat (.int .i64))))), 0, 0⟩), fun x => (F19 x.1 x.2)⟩
theorem eF19 (x : gF19.a.T) : kF env (GofL [(15, [gF15]), (51, [gF51]), (63, [gF63]), (62, [gF62]), (60, [gF60]), (61, [gF61]), (50, [gF50])]) (LofL [(19, [])]) 19 (gF19.args x) (gF19.bs x) gF19.r.dec = gF19.F x := by kernel_rfl
theorem sF19 : SpecAt env 3 19 gF19 := mkSpec (r := 2) (gl := [(15, [gF15]), (51, [gF51]), (63, [gF63]), (62, [gF62]), (60, [gF60]), (61, [gF61]), (50, [gF50])]) (L0 := []) (by kernel_rfl) ⟨⟨sF15.up (by decide), trivial⟩, ⟨sF51.up (by decide), trivial⟩, ⟨sF63.up (by decide), trivial⟩, ⟨sF62.up (by decide), trivial⟩, ⟨sF60.up (by decide), trivial⟩, ⟨sF61.up (by decide), trivial⟩, ⟨sF50.up (by decide), trivial⟩, trivial⟩ trivial eF19 (fun h => absurd h (by rw [show env.nl 19 = false by kernel_rfl]; decide))
def B72_0 (a0 : ByteArray) (a1 : Int) (a2 : ByteArray) (a3 : (List (Int × (Int × (Int × (ByteArray × (Int × (Int × (ByteArray × ByteArray))))))))) (a4 : Int) : Option (((ByteArray × (Int × ByteArray)) × ((List (Int × (Int × (Int × (ByteArray × (Int × (Int × (ByteArray × ByteArray)))))))) × Int)) ⊕ (((List (Int × (Int × (Int × (ByteArray × (Int × (Int × (ByteArray × ByteArray)))))))) × Int) ⊕ ((List (Int × (Int × (Int × (ByteArray × (Int × (Int × (ByteArray × ByteArray)))))))) × (Int × Int)))) :=
  sel (iLt a4 (sLen a2))
    (bndS (F19 a2 a4) fun y0 =>
    sel (bNot (iEq (sel (bAnd (iEq y0.2.2 0) (bNot (iEq y0.1.1 (iAdd .i64 a1 (lLen a3))))) 14 y0.2.2) 0))
      (some (.inr (.inr (a3, (a4, (sel (bAnd (iEq y0.2.2 0) (bNot (iEq y0.1.1 (iAdd .i64 a1 (lLen a3))))) 14 y0.2.2))))))
      (sel (lCap 88 (lApp a3 [y0.1])) (
      some (.inl ((a0, (a1, a2)), ((lApp a3 [y0.1]), y0.2.1)))) none))
    (some (.inr (.inl (a3, a4))))
def L72_0 (x : ((ByteArray × (Int × ByteArray)) × ((List (Int × (Int × (Int × (ByteArray × (Int × (Int × (ByteArray × ByteArray)))))))) × Int))) : Option (((List (Int × (Int × (Int × (ByteArray × (Int × (Int × (ByteArray × ByteArray)))))))) × Int) ⊕ ((List (Int × (Int × (Int × (ByteArray × (Int × (Int × (ByteArray × ByteArray)))))))) × (Int × Int))) := iter (fun (x : ((ByteArray × (Int × ByteArray)) × ((List (Int × (Int × (Int × (ByteArray × (Int × (Int × (ByteArray × ByteArray)))))))) × Int))) => (B72_0 x.1.1 x.1.2.1 x.1.2.2 x.2.1 x.2.2)) fuel x
def lsL72_0 : LS := ⟨(.one .normal ⟨.non, [1, 5, 6], (.seq (.box 0 (.seq (.dat .str) (.seq (.dat (.int .i64)) (.dat .str)))) (.seq (.own 1 (.pr (.int .i64) (.pr (.int .i64) (.pr (.int .i64) (.pr .str (.pr (.int .i64) (.pr (.int .i64) (.pr .str .str)))))))) (.dat (.int .i64)))), 2, 47, 0⟩), (.two (.one (.exit 0) ⟨.non, [5, 6], (.seq (.own 0 (.pr (.int .i64) (.pr (.int .i64) (.pr (.int .i64) (.pr .str (.pr (.int .i64) (.pr (.int .i64) (.pr .str .str)))))))) (.dat (.int .i64))), 1, 47, 0⟩) (.one .ret ⟨.non, [2, 3, 4], (.seq (.own 0 (.pr (.int .i64) (.pr (.int .i64) (.pr (.int .i64) (.pr .str (.pr (.int .i64) (.pr (.int .i64) (.pr .str .str)))))))) (.seq (.dat (.int .i64)) (.dat (.int .i64)))), 1, 47, 0⟩)), fun (x : ((ByteArray × (Int × ByteArray)) × ((List (Int × (Int × (Int × (ByteArray × (Int × (Int × (ByteArray × ByteArray)))))))) × Int))) => (B72_0 x.1.1 x.1.2.1 x.1.2.2 x.2.1 x.2.2)⟩
/-- journal.entriesIn -/
def F72 (a0 : (ByteArray × (Int × ByteArray))) : Option ((List (Int × (Int × (Int × (ByteArray × (Int × (Int × (ByteArray × ByteArray)))))))) × (Int × Int)) :=
  bndS (L72_0 (a0, (([] : List (Int × (Int × (Int × (ByteArray × (Int × (Int × (ByteArray × ByteArray)))))))), 0))) fun y0 =>
  sumS y0 (fun y0a =>
    some (y0a.1, (y0a.2, 0))) fun y0b =>
    some y0b
def gF72 : FS := ⟨(.agg (.dat (.pr .str (.pr (.int .i64) .str)))), 0, (.one ⟨.non, (.tup (.seq (.own 0 (.pr (.int .i64) (.pr (.int .i64) (.pr (.int .i64) (.pr .str (.pr (.int .i64) (.pr (.int .i64) (.pr .str .str)))))))) (.seq (.dat (.int .i64)) (.dat (.int .i64))))), 0, 1⟩), fun x => (F72 x)⟩
theorem rL72_0 (x : lsL72_0.hd.T) : kRound env (GofL [(19, [gF19])]) (LofL [(72, [(0, lsL72_0)])]) 72 0 (lpOf Tryd.prog 72 0).2 (lsL72_0.hd.st x) lsL72_0.rd = lsL72_0.B x := by kernel_rfl
theorem eF72 (x : gF72.a.T) : kF env (GofL [(19, [gF19])]) (LofL [(72, [(0, lsL72_0)])]) 72 (gF72.args x) (gF72.bs x) gF72.r.dec = gF72.F x := by kernel_rfl
theorem sF72 : SpecAt env 4 72 gF72 := mkSpec (r := 3) (gl := [(19, [gF19])]) (L0 := [(0, lsL72_0)]) (by kernel_rfl) ⟨⟨sF19.up (by decide), trivial⟩, trivial⟩ ⟨⟨0, by kernel_rfl, by kernel_rfl, rL72_0⟩, trivial⟩ eF72 (fun h => absurd h (by rw [show env.nl 72 = false by kernel_rfl]; decide))
def B66_0 (a0 : Bool) (a1 : (List (ByteArray × (Int × ByteArray)))) (a2 : Int) (a3 : (List (Int × (Int × (Int × (ByteArray × (Int × (Int × (ByteArray × ByteArray))))))))) (a4 : Int) (a5 : (List (ByteArray × (Int × ByteArray)))) (a6 : Int) (a7 : Int) : Option ((Bool × (((List (ByteArray × (Int × ByteArray))) × Int) × ((List (Int × (Int × (Int × (ByteArray × (Int × (Int × (ByteArray × ByteArray)))))))) × (Int × ((List (ByteArray × (Int × ByteArray))) × (Int × Int)))))) ⊕ ((Bool × (((List (ByteArray × (Int × ByteArray))) × Int) × ((List (Int × (Int × (Int × (ByteArray × (Int × (Int × (ByteArray × ByteArray)))))))) × Int))) ⊕ (Int × Int))) :=
  sel (iLt a7 a6)
    (sel (oIn a7 (lLen a5)) (
    bndS (F85 (a1, a2) a7) fun y0 =>
    sel (bNot (iEq y0 0))
      (some (.inr (.inr (a7, y0))))
      (sel (bAnd (iLt 0 a7) (bNot (iEq (lAt a5 a7).2.1 a4)))
        (some (.inr (.inr (a7, 14))))
        (sel (bAnd (bNot a0) (iEq a7 (iSub .i64 (lLen a1) 1)))
          (some (.inr (.inl (a0, ((a1, a2), (a3, a4))))))
          (bndS (F72 (lAt a5 a7)) fun y1 =>
          sel (bNot (iEq y1.2.2 0))
            (some (.inr (.inr (a7, y1.2.2))))
            (sel (lCap 88 (lApp a3 y1.1)) (
            some (.inl (a0, ((a1, a2), ((lApp a3 y1.1), ((iAdd .i64 (lAt a5 a7).2.1 (lLen y1.1)), (a5, (a6, (iAdd .i64 a7 1))))))))) none))))) none)
    (some (.inr (.inl (a0, ((a1, a2), (a3, a4))))))
def L66_0 (x : (Bool × (((List (ByteArray × (Int × ByteArray))) × Int) × ((List (Int × (Int × (Int × (ByteArray × (Int × (Int × (ByteArray × ByteArray)))))))) × (Int × ((List (ByteArray × (Int × ByteArray))) × (Int × Int))))))) : Option ((Bool × (((List (ByteArray × (Int × ByteArray))) × Int) × ((List (Int × (Int × (Int × (ByteArray × (Int × (Int × (ByteArray × ByteArray)))))))) × Int))) ⊕ (Int × Int)) := iter (fun (x : (Bool × (((List (ByteArray × (Int × ByteArray))) × Int) × ((List (Int × (Int × (Int × (ByteArray × (Int × (Int × (ByteArray × ByteArray)))))))) × (Int × ((List (ByteArray × (Int × ByteArray))) × (Int × Int))))))) => (B66_0 x.1 x.2.1.1 x.2.1.2 x.2.2.1 x.2.2.2.1 x.2.2.2.2.1 x.2.2.2.2.2.1 x.2.2.2.2.2.2)) fuel x
def lsL66_0 : LS := ⟨(.one .normal ⟨.non, [1, 2, 7, 8, 21, 22, 23], (.seq (.dat .bool) (.seq (.box 0 (.seq (.dat (.sl (.pr .str (.pr (.int .i64) .str)))) (.dat (.int .i64)))) (.seq (.own 1 (.pr (.int .i64) (.pr (.int .i64) (.pr (.int .i64) (.pr .str (.pr (.int .i64) (.pr (.int .i64) (.pr .str .str)))))))) (.seq (.dat (.int .i64)) (.seq (.dat (.sl (.pr .str (.pr (.int .i64) .str)))) (.seq (.dat (.int .i64)) (.dat (.int .i64)))))))), 2, 85, 0⟩), (.two (.one (.exit 0) ⟨.non, [1, 2, 7, 8], (.seq (.dat .bool) (.seq (.box 0 (.seq (.dat (.sl (.pr .str (.pr (.int .i64) .str)))) (.dat (.int .i64)))) (.seq (.own 1 (.pr (.int .i64) (.pr (.int .i64) (.pr (.int .i64) (.pr .str (.pr (.int .i64) (.pr (.int .i64) (.pr .str .str)))))))) (.dat (.int .i64))))), 2, 85, 0⟩) (.one .ret ⟨.non, [4, 5, 6], (.seq (.lit (.slice none 0 0)) (.seq (.dat (.int .i64)) (.dat (.int .i64)))), 0, 85, 0⟩)), fun (x : (Bool × (((List (ByteArray × (Int × ByteArray))) × Int) × ((List (Int × (Int × (Int × (ByteArray × (Int × (Int × (ByteArray × ByteArray)))))))) × (Int × ((List (ByteArray × (Int × ByteArray))) × (Int × Int))))))) => (B66_0 x.1 x.2.1.1 x.2.1.2 x.2.2.1 x.2.2.2.1 x.2.2.2.2.1 x.2.2.2.2.2.1 x.2.2.2.2.2.2)⟩
/-- journal.read -/
def F66 (a0 : ((List (ByteArray × (Int × ByteArray))) × Int)) (a1 : Bool) : Option ((List (Int × (Int × (Int × (ByteArray × (Int × (Int × (ByteArray × ByteArray)))))))) × (Int × Int)) :=
  letS (F50 (lLen a0.1) 1 6) fun y0 =>
  sel (bNot y0)
    (some (([] : List (Int × (Int × (Int × (ByteArray × (Int × (Int × (ByteArray × ByteArray)))))))), (0, 6)))
    (bndS (L66_0 (a1, (a0, (([] : List (Int × (Int × (Int × (ByteArray × (Int × (Int × (ByteArray × ByteArray)))))))), (0, (a0.1, ((lLen a0.1), 0))))))) fun y1 =>
    sumS y1 (fun y1a =>
      sel (bAnd y1a.1 (bOr (bNot (iEq y1a.2.1.2 y1a.2.2.2)) (iLt 10000 y1a.2.2.2)))
        (some (([] : List (Int × (Int × (Int × (ByteArray × (Int × (Int × (ByteArray × ByteArray)))))))), (0, 3)))
        (some (y1a.2.2.1, (0, 0)))) fun y1b =>
      some (([] : List (Int × (Int × (Int × (ByteArray × (Int × (Int × (ByteArray × ByteArray)))))))), y1b))
def gF66 : FS := ⟨(.seq (.agg (.dat (.pr (.sl (.pr .str (.pr (.int .i64) .str))) (.int .i64)))) (.dat .bool)), 0, (.one ⟨.non, (.tup (.seq (.own 0 (.pr (.int .i64) (.pr (.int .i64) (.pr (.int .i64) (.pr .str (.pr (.int .i64) (.pr (.int .i64) (.pr .str .str)))))))) (.seq (.dat (.int .i64)) (.dat (.int .i64))))), 0, 1⟩), fun x => (F66 x.1 x.2)⟩
theorem rL66_0 (x : lsL66_0.hd.T) : kRound env (GofL [(72, [gF72]), (85, [gF85]), (50, [gF50])]) (LofL [(66, [(0, lsL66_0)])]) 66 0 (lpOf Tryd.prog 66 0).2 (lsL66_0.hd.st x) lsL66_0.rd = lsL66_0.B x := by kernel_rfl
theorem eF66 (x : gF66.a.T) : kF env (GofL [(72, [gF72]), (85, [gF85]), (50, [gF50])]) (LofL [(66, [(0, lsL66_0)])]) 66 (gF66.args x) (gF66.bs x) gF66.r.dec = gF66.F x := by kernel_rfl
theorem sF66 : SpecAt env 5 66 gF66 := mkSpec (r := 4) (gl := [(72, [gF72]), (85, [gF85]), (50, [gF50])]) (L0 := [(0, lsL66_0)]) (by kernel_rfl) ⟨⟨sF72.up (by decide), trivial⟩, ⟨sF85.up (by decide), trivial⟩, ⟨sF50.up (by decide), trivial⟩, trivial⟩ ⟨⟨0, by kernel_rfl, by kernel_rfl, rL66_0⟩, trivial⟩ eF66 (fun h => absurd h (by rw [show env.nl 66 = false by kernel_rfl]; decide))
end
end Go.Proofs.YtdnfnjaccbgplaaDoor.K
end
