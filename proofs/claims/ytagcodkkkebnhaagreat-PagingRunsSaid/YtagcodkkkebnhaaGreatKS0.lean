/- A part of the proof: texts of the author, joined. -/
import Derived.Test.YtagcodkkkebnhaaGreatKE6
import Derived.Deep.Slices
import Derived.ChangeShapes
import Derived.ChangeArms
import Derived.WideShapes
import Derived.Below
import Derived.Test.YtagcodkkkebnhaaGreatProg
import Derived.KernelRfl
section
set_option linter.unusedVariables false
set_option linter.unusedSimpArgs false
set_option linter.unnecessarySimpa false
namespace Go.Ev
open Go Go.Deep Go.ChangeShapes

/-! ## Reading the arguments of a law -/
/-- What a reading holds to. -/
def Ty.wf : (t : Ty) → t.T → Prop
  | .int k, n => (Lit.int k n).wf = true
  | .bool, _ => True
  | .str, s => s.size ≤ 9223372036854775807
  | .sl e, l => l.length ≤ 9223372036854775807 ∧ ∀ x ∈ l, e.wf x
  | .pr a b, x => a.wf x.1 ∧ b.wf x.2
def fsB (P : Program) (g : TypeId → Ty → Bool) : List Field → Nat → Ty → Bool
  | [f], o, t => Nat.beq f.offset o && (Nat.beq (P.cellsOf f.type) t.size && g f.type t)
  | f :: r, o, .pr a b => Nat.beq f.offset o && (Nat.beq (P.cellsOf f.type) a.size && (g f.type a && fsB P g r (o + a.size) b))
  | _, _, _ => false
/-- The program's type is this type of plain data. -/
def tyB (P : Program) : Nat → TypeId → Ty → Bool
  | 0, _, _ => false
  | n + 1, t, s => match P.underlying t with
    | some (.int k) => (match s with | .int k' => Nat.beq (kindN k) (kindN k') | _ => false)
    | some .bool => (match s with | .bool => true | _ => false)
    | some .string => (match s with | .str => true | _ => false)
    | some (.slice e) => (match s with | .sl σ => Nat.beq (P.cellsOf e) σ.size && tyB P n e σ | _ => false)
    | some (.struct fs) => Nat.beq (P.cellsOf t) s.size && fsB P (tyB P n) fs.toList 0 s
    | _ => false

section
variable {H : Type} {enc' : TypeId × Value → H} {P : Program} {w : World} {base : Nat} {spare : Nat → Bool} {held : Bool}
/-- These cells read as0 this. -/
def RdC (w : World) (s : Ty) (cs : List Value) (x : s.T) : Prop := s.wf x ∧ ∃ vs, RCell s x vs ∧ ∀ K : Cx, K.w = w → (s.flat = false → ∀ q, q < w.heap.size → K.S q) → VRl K vs cs
theorem exl {α : Type} {Q : Nat → α → Prop} : ∀ n : Nat, (∀ i, i < n → ∃ a, Q i a) → ∃ l : List α, l.length = n ∧ ∀ i a, l[i]? = some a → Q i a
  | 0, _ => ⟨[], rfl, fun i a h => by simp at h⟩
  | n + 1, h => by
    obtain ⟨l, hl, hq⟩ := exl n (fun i hi => h i (by omega))
    obtain ⟨a, ha⟩ := h n (by omega)
    refine ⟨l ++ [a], by simp [hl], fun i b hb => ?_⟩
    rcases Nat.lt_or_ge i l.length with h1 | h1
    · rw [List.getElem?_append_left h1] at hb
      exact hq i b hb
    · rw [List.getElem?_append_right h1] at hb
      have : i - l.length = 0 := by
        rcases Nat.eq_zero_or_pos (i - l.length) with h2 | h2
        · exact h2
        · rw [List.getElem?_eq_none (by simp; omega)] at hb; cases hb
      rw [this] at hb
      obtain rfl : a = b := by simpa using hb
      obtain rfl : i = n := by omega
      exact ha
theorem fs_read {g : TypeId → Ty → Bool} {n : Nat} (ih : ∀ t s cs y, g t s = true → DataW.trod enc' P w base spare held n t cs = some y → ∃ x : s.T, RdC w s cs x) {cs : List Value} : ∀ (fs : List Field) (o : Nat) (s : Ty), fsB P g fs o s = true → cs.length = o + s.size →
    (∀ f ∈ fs, ∃ y, DataW.trod enc' P w base spare held n f.type ((cs.drop f.offset).take (P.cellsOf f.type)) = some y) → ∃ x : s.T, RdC w s (cs.drop o) x := by
  intro fs
  induction fs with
  | nil => intro o s h; cases s <;> cases h
  | cons f r ihr =>
    intro o s h hl hf
    have one : Nat.beq f.offset o = true → Nat.beq (P.cellsOf f.type) s.size = true → g f.type s = true → ∃ x : s.T, RdC w s (cs.drop o) x := by
      intro h1 h2 h3
      obtain ⟨y, hy⟩ := hf f (by simp)
      rw [beq_nat h1, beq_nat h2, List.take_of_length_le (by rw [List.length_drop]; omega)] at hy
      exact ih _ _ _ _ h3 hy
    have two : ∀ a b, s = .pr a b → Nat.beq f.offset o = true → Nat.beq (P.cellsOf f.type) a.size = true → g f.type a = true → fsB P g r (o + a.size) b = true → ∃ x : s.T, RdC w s (cs.drop o) x := by
      intro a b hs h1 h2 h3 h4
      subst hs
      have hsz : (Ty.pr a b).size = a.size + b.size := rfl
      obtain ⟨y, hy⟩ := hf f (by simp)
      rw [beq_nat h1, beq_nat h2] at hy
      obtain ⟨xa, wa, va, ra, ka⟩ := ih _ _ _ _ h3 hy
      obtain ⟨xb, wb, vb, rb, kb⟩ := ihr (o + a.size) b h4 (by omega) (fun f hf' => hf f (by simp [hf']))
      refine ⟨(xa, xb), ⟨wa, wb⟩, va ++ vb, ⟨va, vb, rfl, ra, rb⟩, fun K hw hS => ?_⟩
      have hS1 : a.flat = false → ∀ q, q < w.heap.size → K.S q := fun h => hS (by unfold Ty.flat; rw [h])
      have hS2 : b.flat = false → ∀ q, q < w.heap.size → K.S q := fun h => hS (by unfold Ty.flat; rw [h]; cases a.flat <;> rfl)
      have := (ka K hw hS1).append (kb K hw hS2)
      rwa [← List.drop_drop, List.take_append_drop] at this
    unfold fsB at h
    split at h
    · rename_i h0
      injection h0 with h0 h0'
      subst h0
      simp only [Bool.and_eq_true] at h
      exact one h.1 h.2.1 h.2.2
    · rename_i a b _ h0
      injection h0 with h0 h0'
      subst h0; subst h0'
      simp only [Bool.and_eq_true] at h
      exact two a b rfl h.1 h.2.1 h.2.2.1 h.2.2.2
    · cases h
theorem ty_read : ∀ (n : Nat) (t : TypeId) (s : Ty) (fuel : Nat) (cs : List Value) y, tyB P n t s = true → DataW.trod enc' P w base spare held fuel t cs = some y → ∃ x : s.T, RdC w s cs x := by
  intro n
  induction n with
  | zero => intro t s fuel cs y h; cases h
  | succ n ih =>
    intro t s fuel cs y h hy
    unfold tyB at h
    split at h
    · rename_i k ht
      split at h
      · rename_i k'
        obtain rfl := kindN_inj h
        obtain ⟨m, rfl, _, hw⟩ := DataW.trod_int ht hy
        exact ⟨m, hw, _, rfl, fun K _ _ => VRl.cons (.lit rfl) .nil⟩
      · cases h
    · rename_i ht
      split at h
      · obtain ⟨m, rfl, _⟩ := DataW.trod_bool ht hy
        exact ⟨m, trivial, _, rfl, fun K _ _ => VRl.cons (.lit rfl) .nil⟩
      · cases h
    · rename_i ht
      split at h
      · obtain ⟨m, rfl, _, hm⟩ := DataW.trod_string ht hy
        exact ⟨m, hm, _, rfl, fun K _ _ => VRl.cons (.lit rfl) .nil⟩
      · cases h
    · rename_i e ht
      split at h
      · rename_i s
        simp only [Bool.and_eq_true] at h
        have hC := beq_nat h.1
        rcases open_slice ht hy with ⟨rfl, _⟩ | ⟨a, len, cap, m, k, D, Pl, rfl, hb, hl, hm, hmm, hx, hi⟩
        · exact ⟨[], ⟨by simp, by simp⟩, [.con true s.size []], ⟨_, rfl, .inr ⟨true, [], rfl, fun _ => rfl, .nil⟩⟩, fun K _ _ => VRl.cons (.con0 fun _ => rfl) .nil⟩
        · have hlm : len ≤ m := by rw [hmm]; split <;> omega
          obtain ⟨l, hll, hq⟩ := exl (α := s.T × List V × List Value) (Q := fun i x => s.wf x.1 ∧ RCell s x.1 x.2.1 ∧ (∀ K : Cx, K.w = w → (s.flat = false → ∀ q, q < w.heap.size → K.S q) → VRl K x.2.1 x.2.2) ∧ x.2.2.length = s.size ∧ ∀ j, j < s.size → w.cell? ((a.add (i * s.size)).add j) = x.2.2[j]?) len (fun i hilt => by
            obtain ⟨cs', hc, ht'⟩ := hi i (by omega)
            rw [hC] at hc
            obtain ⟨x, hwf, vs, hr, hk⟩ := ih _ _ _ _ _ h.2 ht'
            obtain ⟨_, hcl, hat⟩ := World.cells?_some hc
            exact ⟨⟨x, vs, cs'⟩, hwf, hr, hk, hcl, hat⟩)
          subst hll
          have hm' : l.length ≤ 9223372036854775807 := Nat.le_trans hl hm
          refine ⟨l.map (·.1), ⟨by simpa using hm', fun x hx => ?_⟩, [.con s.flat s.size (l.map (·.2.1))], ⟨_, rfl, .inr ⟨s.flat, _, rfl, fun h => h, ⟨by simp, fun i x y h1 h2 => ?_⟩⟩⟩, fun K hw hS => ?_⟩
          · obtain ⟨p, hp, rfl⟩ := List.mem_map.1 hx
            obtain ⟨j, hj⟩ := List.mem_iff_getElem?.1 hp
            exact (hq j p hj).1
          · rw [List.getElem?_map] at h1 h2
            cases hp : l[i]? with
            | none => rw [hp] at h1; cases h1
            | some p =>
              rw [hp] at h1 h2
              cases h1; cases h2
              exact (hq i p hp).2.1
          · have hS' := hS rfl
            refine VRl.cons ?_ .nil
            cases l with
            | nil => exact .con0 fun h => by cases h
            | cons p0 r =>
              have hsp := s.size_pos
              obtain ⟨ab, ao, as0⟩ := a
              have h0 := (hq 0 p0 rfl).2.2.2
              have hc0 := h0.2 0 hsp
              have hsome : ∃ u, p0.2.2[0]? = some u := ⟨_, List.getElem?_eq_getElem (by omega)⟩
              obtain ⟨u, hu⟩ := hsome
              rw [hu] at hc0
              simp only [Nat.zero_mul, Addr.add, if_true] at hc0
              have has : as0 = none := by
                unfold World.cell? at hc0
                split at hc0
                · cases as0 with
                  | none => rfl
                  | some _ => cases hc0
                · cases hc0
              subst has
              have hbl : ab < w.heap.size := by
                unfold World.cell? at hc0
                split at hc0
                · rename_i hh
                  exact (Array.getElem?_eq_some_iff.1 hh).1
                · cases hc0
              have hadd : ∀ i j, (Addr.mk ab ao none |>.add (i * s.size)).add j = ⟨ab, ao + i * s.size + j, none⟩ := by
                intro i j
                unfold Addr.add
                split <;> split <;> simp_all
              have hat : ∀ (i j : Nat) (v : V), at2 (((p0 :: r).map (·.2.1))) i j = some v → ∃ p, (p0 :: r)[i]? = some p ∧ p.2.1[j]? = some v := by
                intro i j v hv
                unfold at2 at hv
                rw [List.getElem?_map] at hv
                cases hp : (p0 :: r)[i]? with
                | none => rw [hp] at hv; cases hv
                | some p => rw [hp] at hv; exact ⟨p, rfl, hv⟩
              have hcell : ∀ i j v p, (p0 :: r)[i]? = some p → p.2.1[j]? = some v → ∃ x, p.2.2[j]? = some x ∧ w.cell? ⟨ab, ao + i * s.size + j, none⟩ = some x := by
                intro i j v p hp hv
                obtain ⟨_, hr, _, hlen, hce⟩ := hq i p hp
                have hj : j < s.size := by rw [← (hr.facts).1]; exact get_lt hv
                have := hce j hj
                rw [hadd] at this
                exact ⟨_, List.getElem?_eq_getElem (by omega), this.trans (List.getElem?_eq_getElem (by omega))⟩
              have hlen' : (p0 :: r).length = ((p0 :: r).map (·.2.1)).length := by simp
              rw [hlen']
              refine .con (by simp) (by simpa using hl) (hS' ab hbl) (fun cs hcs => ?_) (fun cs hcs => ?_) (fun i j v hv => ?_) (fun i j v x hv hx => ?_)
              · obtain ⟨p, hp, rfl⟩ := List.mem_map.1 hcs
                obtain ⟨j, hj⟩ := List.mem_iff_getElem?.1 hp
                exact (RCell.facts _ _ _ (hq j p hj).2.1).1
              · obtain ⟨p, hp, rfl⟩ := List.mem_map.1 hcs
                obtain ⟨j, hj⟩ := List.mem_iff_getElem?.1 hp
                exact (RCell.facts _ _ _ (hq j p hj).2.1).2.1
              · obtain ⟨p, hp, hv⟩ := hat i j v hv
                obtain ⟨x, _, hx⟩ := hcell i j v p hp hv
                exact ⟨x, by rw [hw]; exact hx⟩
              · obtain ⟨p, hp, hv⟩ := hat i j v hv
                obtain ⟨x', hx1, hx2⟩ := hcell i j v p hp hv
                rw [hw, hx2] at hx
                cases hx
                exact ((hq i p hp).2.2.1 (K.clo s.flat) hw (fun hf q hq' => ⟨hf, hS' q hq'⟩)).2 j v _ hv hx1
      · cases h
    · rename_i fs ht
      simp only [Bool.and_eq_true] at h
      obtain ⟨xs, m, _, _, hl, hlen, hf⟩ := DataW.trod_struct ht hy
      have := fs_read (g := tyB P n) (n := m) (cs := cs) (fun t s cs y h1 h2 => ih t s m cs y h1 h2) fs.toList 0 s h.2 (by rw [hl, beq_nat h.1]; omega) (fun f hfm => by
        obtain ⟨i, hi⟩ := List.mem_iff_getElem?.1 hfm
        have hi' : fs[i]? = some f := by simpa using hi
        have hlt : i < xs.length := by rw [hlen]; exact (Array.getElem?_eq_some_iff.1 hi').1
        exact ⟨_, (hf i f hi').trans (List.getElem?_eq_getElem hlt)⟩)
      simpa using this
    · cases h
end
end Go.Ev
end

section
set_option linter.unusedVariables false
set_option linter.unusedSimpArgs false
set_option linter.unnecessarySimpa false
namespace Go.Ev
open Go Go.WideShapes Go.RowKit

def isSt (P : Program) (t : TypeId) : Bool := match P.underlying t with
  | some (.struct _) => true
  | _ => false
/-- A parameter's type, as0 the functions of the specs take it. -/
def Sh.par (P : Program) (t : TypeId) (s : Ty) : Sh := match isSt P t with
  | true => .agg (.dat s)
  | false => .dat s
/-- An argument reads as0 plain data. -/
def RdA (w : World) (s : Sh) (v : Value) (x : s.T) : Prop := ∃ u, (∀ ln, RL ln (s.enc x) [u]) ∧ ∀ K : Cx, K.w = w → (∀ q, q < w.heap.size → K.S q) → VR K u v

section
variable {H : Type} {enc' : TypeId × Value → H} {P : Program} {w : World} {base base' : Nat} {spare : Nat → Bool} {held : Bool}
theorem cells_one {t : TypeId} {s : Ty} {v : Value} {n : Nat} {r : Reach} (hty : tyB P n t s = true) (hst : isSt P t = false) (hv : Value.okWide P w r base t v) : v.cells.toList = [v] := by
  cases n with
  | zero => cases hty
  | succ n =>
    unfold tyB at hty
    unfold isSt at hst
    split at hty
    · rename_i ht; obtain ⟨m, rfl⟩ := okWide_int ht hv; rfl
    · rename_i ht; obtain ⟨m, rfl⟩ := okWide_bool ht hv; rfl
    · rename_i ht; obtain ⟨m, rfl⟩ := okWide_string ht hv; rfl
    · rename_i ht; obtain ⟨a, b, c, rfl⟩ := okWide_slice ht hv; rfl
    · rename_i ht; rw [ht] at hst; cases hst
    · cases hty
theorem one_of {s : Ty} {vs : List V} {v : Value} {x : s.T} (h : RCell s x vs) (k : ∀ K : Cx, K.w = w → (s.flat = false → ∀ q, q < w.heap.size → K.S q) → VRl K vs [v]) : ∃ u, vs = [u] := by
  have := (k ⟨fun _ => True, fun _ => none, fun _ => False, w⟩ rfl (fun _ _ _ => trivial)).1
  match vs, this with
  | [u], _ => exact ⟨u, rfl⟩
/-- An argument that is no struct. -/
theorem arg_dat {t : TypeId} {s : Ty} {v : Value} {d p} {n : Nat} {r : Reach} (hty : tyB P n t s = true) (hst : isSt P t = false) (hv : Value.okWide P w r base' t v) (h : DataW.Trod enc' P w base spare held t v d p) : ∃ x : s.T, s.wf x ∧ RdA w (.dat s) v x := by
  obtain ⟨fuel, h⟩ := h
  obtain ⟨x, hwf, vs, hr, hk⟩ := ty_read n t s fuel _ _ hty h
  rw [cells_one hty hst hv] at hk
  obtain ⟨u, rfl⟩ := one_of hr hk
  refine ⟨x, hwf, u, fun ln => hr.enc, fun K hw hS => ?_⟩
  exact (hk K hw fun _ => hS).2 0 _ _ rfl rfl
/-- A struct. -/
theorem arg_agg {t : TypeId} {s : Ty} {v : Value} {d p} {n : Nat} {r : Reach} (hty : tyB P n t s = true) (hst : isSt P t = true) (hv : Value.okWide P w r base' t v) (h : DataW.Trod enc' P w base spare held t v d p) : ∃ x : s.T, s.wf x ∧ RdA w (.agg (.dat s)) v x := by
  obtain ⟨fuel, h⟩ := h
  obtain ⟨x, hwf, vs, hr, hk⟩ := ty_read n t s fuel _ _ hty h
  unfold isSt at hst
  split at hst
  · rename_i fs ht
    obtain ⟨cs, rfl, _⟩ := okWide_struct ht hv
    refine ⟨x, hwf, .agg vs, fun ln => Rows.cons ?_ .nil, fun K hw hS => ?_⟩
    · exact .agg (hr.enc (ln := ln)).1 (hr.enc (ln := ln)).2
    · exact VRl.agg (hk K hw fun _ => hS)
  · cases hst
end

/-- A law that the specs prove. -/
theorem law_calls {E : Env} (hP : ProgOK E) {r f : Nat} {g : FS} (hs : SpecAt E r f g) {args : List V} {sp : Sp Ret} {y : sp.α} (h1 : g.g args [] = some sp) (h2 : sp.o = some y) (h3 : sp.alt.val y = (.lit (.bool true), [], [])) {W : World} {a2 : List V} {vals : List Value}
    (hr : RL (fun _ => none) args a2) (hv : ∀ K : Cx, K.w = W → (∀ q, q < W.heap.size → K.S q) → VRl K a2 vals) : Calls E.P f vals.toArray W fun e w' => e = .returned (.bool true) ∧ Below W.heap.size W w' := by
  obtain ⟨r', ln', h4, h5⟩ := hs 0 args [] sp y h1 h2 (fun _ => none) a2 [] hr ⟨rfl, fun _ _ _ h => by cases h⟩ (fun _ _ => rfl)
  rw [h3] at h5
  have hv5 := h5.v
  have e1 : r'.1 = .lit (.bool true) := by
    generalize r'.1 = z at hv5
    cases hv5
    rfl
  have hg : Good (baseOf ⟨fun q => q < W.heap.size, fun _ => none, fun _ => False, W⟩ (ofL (([] : List Blk).map some)) 0) (fun b => b < 0) ⟨fun q => q < W.heap.size, fun _ => none, fun _ => False, W⟩ (ofL (([] : List Blk).map some)) := by
    exact { blk := fun b x h => by (cases h), inj := fun b x b' x' q n n' h => by (cases h), apart := fun b x q n h => by (cases h), sz := fun q h => h, N := fun b h => False.elim h, grow := Nat.le_refl _, io := Io.refl _, frame := fun _ _ _ => rfl, inp := fun b h => absurd h (Nat.not_lt_zero _), own := fun b x q n h => by (cases h), S0 := fun q h => h, S1 := fun q h => .inl h }
  refine ((evF_sound hP _ f a2 [] r' h4).2 ⟨fun q => q < W.heap.size, fun _ => none, fun _ => False, W⟩ vals (hv _ rfl fun _ h => h) hg).mono fun e w' h => ?_
  obtain ⟨v, K', rfl, rfl, hv', _, hg'⟩ := h
  rw [e1] at hv'
  refine ⟨?_, hg'.io.1, hg'.io.2.1, hg'.io.2.2, hg'.grow, fun k hk => hg'.frame k hk ?_⟩
  · cases hv'; rfl
  · rintro ⟨b, x, n, h, _⟩
    cases h
/-- The same, with the spec's own words. -/
theorem law_true {E : Env} (hP : ProgOK E) {r f : Nat} {g : FS} (hs : SpecAt E r f g) {x : g.a.T} {y : g.r.T} (h1 : g.g (g.args x) [] = some ⟨g.r.T, g.F x, g.r.dflt, g.r.alt⟩) (h2 : g.F x = some y) (h3 : g.r.alt.val y = (.lit (.bool true), [], [])) {W : World} {a2 : List V} {vals : List Value}
    (hr : ∀ ln, RL ln (g.args x) a2) (hv : ∀ K : Cx, K.w = W → (∀ q, q < W.heap.size → K.S q) → VRl K a2 vals) : Calls E.P f vals.toArray W fun e w' => e = .returned (.bool true) ∧ Below W.heap.size W w' :=
  law_calls hP hs (y := y) h1 h2 h3 (hr _) hv
end Go.Ev
end

section
set_option linter.unusedVariables false
set_option linter.unusedSimpArgs false
set_option linter.unnecessarySimpa false
open Go Go.Ev Go.Proofs
namespace Go.Proofs.YtagcodkkkebnhaaGreat.K
def inl (l : List Nat) (f : Nat) : Bool := mem f l
def tab : List (Nat × List (Nat × List (Nat × Nat))) → Nat → Nat → List (Nat × Nat)
  | [], _, _ => []
  | (a, l) :: r, f, i => cond (Nat.beq a f) (T l i) (tab r f i)
  where T : List (Nat × List (Nat × Nat)) → Nat → List (Nat × Nat)
    | [], _ => []
    | (b, l) :: r, i => cond (Nat.beq b i) l (T r i)
def tel : List (Nat × List Nat) := [(32, [0, 0, 0, 0, 0, 2]), (59, [0, 2]), (64, [0, 1, 1, 0, 0, 2, 0, 0])]
def fsl : List Nat := [3, 4, 5, 6, 7, 8, 9, 10, 11, 12, 13, 14, 15, 16, 17, 18, 19, 20, 21, 22, 23, 24, 25, 26, 27, 28, 29, 30, 31, 32, 33, 34, 35, 36, 37, 38, 39, 40, 41, 42, 43, 44, 45, 46, 47, 48, 49, 50, 51, 52, 53, 54, 55, 56, 57, 58, 59, 60, 61, 62, 63, 64, 65, 66, 67, 68, 69, 70, 71, 72, 73, 74, 75, 76, 77, 78, 79, 80, 81, 82, 83, 84, 85, 86, 87, 88, 89, 90, 91, 92, 93, 94, 95, 96, 97, 98, 99, 100, 101, 102, 103, 104, 105, 106, 107, 108, 109, 110, 111, 112, 113, 114, 115, 116]
def unOf : List (Nat × Nat × List (Nat × List Nat)) → Nat → Nat → List (Nat × List Nat)
  | [], _, _ => []
  | (a, b, l) :: r, f, i => cond (Nat.beq a f && Nat.beq b i) l (unOf r f i)
def unl : List (Nat × Nat × List (Nat × List Nat)) := [(3, 5, [(0, [8]), (1, [2, 8]), (2, [8]), (3, [8])]), (12, 14, [(0, [3, 4])]), (14, 11, [(1, [7]), (5, [7]), (6, [7])]), (14, 14, [(1, [6, 7]), (3, [6])]), (16, 6, [(0, [1, 2, 4]), (1, [4]), (2, [4])]), (22, 1, [(2, [4])]), (25, 6, [(3, [7]), (5, [7, 9])]), (25, 8, [(3, [7]), (5, [7, 9])]), (27, 11, [(3, [21])]), (36, 1, [(0, [3])]), (42, 11, [(4, [7])]), (45, 17, [(5, [12])]), (52, 3, [(1, [14])]), (69, 1, [(1, [10, 11]), (4, [10, 11]), (6, [10, 11, 12]), (9, [10, 11, 12]), (10, [11])]), (69, 2, [(4, [6, 8])]), (73, 1, [(4, [9])]), (76, 1, [(1, [4])]), (81, 1, [(0, [3])]), (81, 5, [(1, [8]), (5, [8]), (7, [8])]), (82, 9, [(3, [19]), (6, [19]), (8, [19]), (10, [19]), (19, [23, 26])]), (87, 2, [(2, [4, 8, 10]), (5, [8, 10]), (6, [8, 10])]), (93, 4, [(2, [3])]), (96, 5, [(3, [7]), (7, [12])])]
def jnR : List (Nat × List Nat × Nat) → Nat → Option (List Nat × Nat)
  | [], _ => none
  | (a, l, n) :: r, t => cond (Nat.beq a t) (some (l, n)) (jnR r t)
def jnOf : List (Nat × List (Nat × List Nat × Nat)) → Nat → Nat → Option (List Nat × Nat)
  | [], _, _ => none
  | (a, l) :: r, f, t => cond (Nat.beq a f) (jnR l t) (jnOf r f t)
def jnl : List (Nat × List (Nat × List Nat × Nat)) := [(25, [(21, [2, 3, 6], 32)]), (67, [(7, [1, 2, 5, 6, 10, 11, 12], 16)]), (95, [(10, [1, 2, 5, 6], 16)]), (100, [(9, [0, 1, 8, 9, 10, 11, 12], 32)]), (106, [(2, [0, 2], 32), (5, [0, 2], 48)]), (107, [(2, [0, 2], 32), (5, [0, 2], 48), (8, [0, 2], 48)]), (109, [(6, [0, 1, 2, 8, 9, 10], 40)]), (111, [(4, [0, 2, 3, 4, 10, 11], 24)])]
def anl : List (Nat × List (Nat × List (Nat × Nat))) := [(5, [(0, [(1, 0), (3, 0)]), (10000000, [(1, 0)]), (20000000, [(0, 0)])]), (6, [(0, [(1, 0), (3, 0)]), (10000000, []), (20000000, [(2, 0)])]), (10, [(0, [(2, 0), (3, 0), (5, 0)]), (10000000, []), (20000000, [(4, 0)])]), (11, [(0, [(0, 0), (3, 0)]), (10000000, []), (20000000, [(2, 0)])]), (12, [(0, [(1, 0), (4, 0), (9, 0), (10, 46), (28, 0), (29, 0), (30, 0)]), (10000000, [(1, 0), (4, 0), (9, 0), (10, 0)]), (20000000, [(4, 0), (5, 0), (6, 0), (7, 0)])]), (14, [(0, [(1, 0), (4, 0), (6, 0), (7, 0)]), (10000000, [(1, 0), (4, 0), (6, 0)]), (20000000, [(4, 0)])]), (15, [(0, [(0, 0), (1, 0), (5, 0)]), (10000000, []), (20000000, [(4, 0)])]), (16, [(0, [(4, 0), (8, 0), (29, 0), (30, 0), (31, 0)]), (10000000, [(4, 0), (8, 0)]), (20000000, [(4, 0), (5, 0)])]), (19, [(0, [(1, 0), (3, 0)]), (10000000, []), (20000000, [(2, 0)])]), (20, [(0, [(1, 0), (35, 0), (36, 0), (37, 0)]), (2, [(1, 0), (47, 0), (48, 0)]), (10000000, [(1, 0)]), (10000002, [(1, 0)]), (20000000, [(2, 0)])]), (21, [(0, [(2, 0), (3, 0), (4, 0), (8, 0), (9, 0), (39, 0), (40, 0), (41, 0)]), (2, [(3, 0), (4, 0), (8, 0), (9, 0), (12, 0), (13, 0)]), (10000000, [(4, 0), (8, 0), (9, 0)]), (10000002, [(4, 0), (8, 0), (9, 0)]), (20000000, [(4, 0), (5, 0), (6, 0)])]), (24, [(0, [(1, 0), (4, 0)]), (2, [(1, 0), (6, 0), (7, 0), (8, 0)]), (4, [(1, 0), (6, 0), (7, 0), (11, 0)]), (10000000, [(1, 0)]), (10000002, [(1, 0), (6, 0), (7, 0)]), (10000004, [(6, 0), (7, 0)]), (20000000, [(2, 0)])]), (26, [(0, [(0, 0), (1, 0), (4, 0)]), (10000000, []), (20000000, [])]), (27, [(0, [(0, 0), (3, 0), (5, 0), (6, 0), (7, 0)]), (10000000, [(6, 0)]), (20000000, [(4, 0)])]), (28, [(0, [(2, 0), (3, 0), (5, 0)]), (10000000, []), (20000000, [(4, 0)])]), (29, [(0, [(0, 0), (1, 0), (5, 0)]), (10000000, []), (20000000, [(4, 0)])]), (31, [(0, [(1, 0), (16, 0), (17, 0), (18, 0)]), (10000000, []), (20000000, [(2, 0), (3, 0)])]), (33, [(0, [(7, 0), (8, 0)]), (10000000, [(7, 0)]), (20000000, [(4, 0)])]), (34, [(0, [(0, 0), (1, 0), (5, 114), (6, 0)]), (10000000, [(5, 0)]), (20000000, [(4, 0)])]), (36, [(0, [(1, 0), (2, 0), (3, 0), (14, 0), (15, 0), (16, 0)]), (10000000, []), (20000000, [(6, 0), (7, 0)])]), (38, [(0, [(1, 0), (3, 0), (13, 0), (14, 0), (15, 0)]), (2, [(1, 0), (3, 0), (4, 0), (5, 0), (13, 0), (14, 0), (15, 0)]), (4, [(3, 0), (73, 0), (74, 0), (75, 0)]), (10000000, [(1, 0), (3, 0)]), (10000002, [(1, 0), (3, 0), (13, 0), (14, 0), (15, 0)]), (10000004, []), (20000000, [(2, 0)])]), (40, [(0, [(1, 0), (3, 26), (7, 0), (8, 0), (9, 0)]), (10000000, [(1, 0), (3, 0)]), (20000000, [(2, 0)])]), (45, [(0, [(1, 0), (2, 0), (5, 0), (6, 0)]), (10000000, [(2, 0), (5, 0)]), (20000000, [(4, 0)])]), (46, [(0, [(1, 0), (2, 0), (6, 26), (7, 0)]), (10000000, [(6, 0)]), (20000000, [(4, 0), (5, 0)])]), (51, [(0, [(1, 0), (2, 0), (5, 0)]), (10000000, []), (20000000, [(4, 0)])]), (60, [(0, [(0, 0), (1, 0), (7, 0), (8, 0)]), (10000000, []), (20000000, [(4, 0)])]), (62, [(0, [(2, 0), (5, 26), (6, 0)]), (10000000, [(5, 0)]), (20000000, [(4, 0)])]), (67, [(0, [(1, 0), (2, 0), (5, 0), (6, 0), (10, 0), (11, 0), (12, 0)]), (10000000, [(5, 0)]), (20000000, [(4, 0)])]), (70, [(0, [(3, 0), (6, 0), (7, 0), (8, 0)]), (10000000, [(3, 0)]), (20000000, [(2, 0)])]), (73, [(0, [(0, 0), (1, 0), (4, 0), (5, 0)]), (10000000, [(4, 0), (5, 0)]), (20000000, [])]), (74, [(0, [(1, 0), (4, 0)]), (10000000, []), (20000000, [(2, 0), (3, 0)])]), (77, [(0, [(0, 0), (1, 0), (5, 0)]), (10000000, []), (20000000, [(4, 0)])]), (79, [(0, [(1, 0), (2, 0), (5, 0)]), (10000000, []), (20000000, [(4, 0)])]), (81, [(0, [(1, 0), (2, 0), (3, 0), (8, 0), (9, 0)]), (10000000, [(8, 0)]), (20000000, [(6, 0), (7, 0)])]), (85, [(0, [(0, 0), (1, 0), (7, 0), (8, 0)]), (10000000, []), (20000000, [(4, 0)])]), (89, [(0, [(0, 0), (1, 0), (2, 0), (3, 0), (4, 0), (10, 0), (11, 0)]), (10000000, []), (20000000, [])]), (95, [(0, [(1, 0), (2, 0), (5, 0), (6, 0)]), (10000000, [(5, 0)]), (20000000, [(4, 0)])]), (98, [(0, [(0, 0), (1, 0), (2, 0), (3, 0), (8, 0)]), (2, [(0, 0), (1, 0), (2, 0), (3, 0), (8, 0), (9, 0)]), (10000000, []), (10000002, [(0, 0), (1, 0), (2, 0), (3, 0), (8, 0)]), (20000000, [])]), (99, [(0, [(0, 0), (3, 0), (8, 0), (9, 0), (10, 0), (11, 0)]), (2, [(0, 0), (3, 0), (8, 0), (9, 0), (12, 0)]), (10000000, [(0, 0), (3, 0), (8, 0), (9, 0), (10, 0)]), (10000002, []), (20000000, [])]), (100, [(0, [(0, 0), (1, 0), (8, 0), (9, 0), (10, 0), (11, 0)]), (10000000, []), (20000000, [])]), (102, [(0, [(0, 0), (8, 0), (9, 0)]), (10000000, []), (20000000, [])]), (103, [(0, [(0, 0), (1, 0), (2, 0), (3, 0), (9, 0), (10, 0)]), (2, [(0, 0), (1, 0), (2, 0), (3, 0), (9, 0), (10, 0)]), (4, [(0, 0), (1, 0), (2, 0), (3, 0), (9, 0), (10, 0), (11, 0)]), (6, [(0, 0), (1, 0), (2, 0), (3, 0), (9, 0), (10, 0), (12, 0)]), (10000000, []), (10000002, [(0, 0), (1, 0), (2, 0), (3, 0), (9, 0), (10, 0)]), (10000004, [(0, 0), (1, 0), (2, 0), (3, 0), (9, 0), (10, 0)]), (10000006, [(0, 0), (1, 0), (2, 0), (3, 0), (9, 0), (10, 0)]), (20000000, [(8, 0)])]), (104, [(0, [(0, 0), (1, 0), (4, 0), (11, 0), (12, 0)]), (2, [(0, 0), (1, 0), (4, 0), (11, 0), (12, 0)]), (4, [(0, 0), (1, 0), (4, 0), (11, 0), (12, 0)]), (10000000, [(11, 0)]), (10000002, [(0, 0), (1, 0), (4, 0), (11, 0), (12, 0)]), (10000004, [(0, 0), (1, 0), (4, 0), (11, 0), (12, 0)]), (20000000, [(10, 0)])]), (105, [(0, [(0, 0), (1, 0), (4, 0), (12, 0), (13, 0)]), (2, [(0, 0), (1, 0), (4, 0), (12, 0), (13, 0)]), (4, [(0, 0), (1, 0), (4, 0), (12, 0), (13, 0)]), (6, [(0, 0), (1, 0), (4, 0), (12, 0), (13, 0)]), (8, [(0, 0), (1, 0), (4, 0), (12, 0), (13, 0)]), (10000000, [(0, 0), (1, 0), (4, 0), (12, 0), (13, 0)]), (10000002, [(0, 0), (1, 0), (4, 0), (12, 0), (13, 0)]), (10000004, [(0, 0), (1, 0), (13, 0)]), (10000006, [(0, 0), (1, 0), (4, 0), (12, 0), (13, 0)]), (10000008, [(0, 0), (1, 0), (4, 0), (12, 0), (13, 0)]), (20000000, [(10, 0), (11, 0)])]), (109, [(0, [(0, 0), (1, 0), (2, 0), (8, 0), (9, 0), (10, 0)]), (10000000, [(0, 0), (1, 0), (2, 0), (8, 0), (9, 0)]), (20000000, [(6, 0), (7, 0)])]), (111, [(0, [(0, 0), (2, 0), (3, 0), (4, 0), (10, 0)]), (10000000, []), (20000000, [])])]
def onOf : List (Nat × List (List (Option Nat))) → Nat → List (List (Option Nat))
  | [], _ => []
  | (a, l) :: r, f => cond (Nat.beq a f) l (onOf r f)
def onl : List (Nat × List (List (Option Nat))) := [(7, [[some 59, none, some 64, some 3, none, none, none], [none], [none]]), (8, [[some 59, none, some 64, some 3, none, none, none]]), (9, [[some 59, none, some 64, some 3, none, none, none, none, none]]), (12, [[some 59, none, some 64, some 3, none, none, none], [some 9], [none], [none]]), (13, [[some 32]]), (14, [[some 59, none, some 64, some 3, none, none, none, some 9, none, none]]), (16, [[some 59, none, some 64, some 3, none, none, none], [none]]), (21, [[some 59, none, some 64, some 3, none, none, none], [none], [none]]), (22, [[some 59, none]]), (23, [[some 3]]), (30, [[some 59, none, some 64, some 3, none, none, none]]), (33, [[some 3]]), (40, [[some 3]]), (46, [[some 3], [none]]), (50, [[some 59, none, none, none, none]]), (52, [[some 59, none]]), (55, [[some 59]]), (56, [[some 64]]), (57, [[some 3]]), (62, [[some 3]]), (94, [[some 3]])]
noncomputable def env : Env where
  P := Tryz.prog
  mv := inl [26, 27, 41, 42, 53, 60, 61, 64, 65, 68, 69, 72, 73, 82, 85, 89, 96, 98, 99, 100, 101, 102, 103, 104, 105, 109, 111, 113, 114, 115, 116]
  An := tab anl
  te := teOf tel
  fs := fun f => mem f fsl
  un := unOf unl
  Jn := jnOf jnl
  On := onOf onl
  nl := inl [55, 56, 57]
  G := fun _ => none
end Go.Proofs.YtagcodkkkebnhaaGreat.K
end

section
set_option linter.unusedVariables false
set_option linter.unusedSimpArgs false
set_option linter.unnecessarySimpa false
open Go Go.Ev Go.Proofs
namespace Go.Proofs.YtagcodkkkebnhaaGreat.K
theorem fsOK : funsB env fsl = true := by kernel_rfl
theorem teOK : teB env.P tel = true := by kernel_rfl
theorem mixed : env.P.follows .mixedOrders = true := by kernel_rfl
theorem gOK : GivenOK env := givenOK fun f g hf => by cases hf
theorem envOK : ProgOK env := progOK fsl tel rfl rfl mixed gOK fsOK teOK
end Go.Proofs.YtagcodkkkebnhaaGreat.K
end

section
set_option linter.unusedVariables false
set_option linter.unusedSimpArgs false
set_option linter.unnecessarySimpa false

end

section
set_option linter.unusedVariables false
set_option linter.unusedSimpArgs false
set_option linter.unnecessarySimpa false
open Go Go.Ev Go.Proofs
namespace Go.Proofs.YtagcodkkkebnhaaGreat.K
set_option linter.unusedVariables false
set_option maxRecDepth 100000
noncomputable section
def B34_0 (a0 : Int) (a1 : Int) (a2 : (List Int)) (a3 : Int) : Option ((Int × (Int × ((List Int) × Int))) ⊕ (List Int)) :=
  sel (iLt a3 a1)
    (sel (lCap 1 (lApp a2 [a0])) (
    some (.inl (a0, (a1, ((lApp a2 [a0]), (iAdd .i64 a3 1)))))) none)
    (some (.inr a2))
def L34_0 (x : (Int × (Int × ((List Int) × Int)))) : Option (List Int) := iter (fun (x : (Int × (Int × ((List Int) × Int)))) => (B34_0 x.1 x.2.1 x.2.2.1 x.2.2.2)) fuel x
def lsL34_0 : LS := ⟨(.one .normal ⟨.non, [0, 1, 5, 6], (.seq (.dat (.int .u8)) (.seq (.dat (.int .i64)) (.seq (.own 0 (.int .u8)) (.dat (.int .i64))))), 1, 18, 0⟩), (.one (.exit 0) ⟨.non, [5], (.own 0 (.int .u8)), 1, 18, 0⟩), fun (x : (Int × (Int × ((List Int) × Int)))) => (B34_0 x.1 x.2.1 x.2.2.1 x.2.2.2)⟩
/-- midrangebase.Repeat -/
def F34 (a0 : Int) (a1 : Int) : Option ByteArray :=
  bndS (L34_0 (a0, (a1, (([] : List Int), 0)))) fun y0 =>
  some (sOf y0)
def gF34 : FS := ⟨(.seq (.dat (.int .u8)) (.dat (.int .i64))), 0, (.one ⟨.non, (.dat .str), 0, 0⟩), fun x => (F34 x.1 x.2)⟩
theorem rL34_0 (x : lsL34_0.hd.T) : kRound env (GofL []) (LofL [(34, [(0, lsL34_0)])]) 34 0 (lpOf Tryz.prog 34 0).2 (lsL34_0.hd.st x) lsL34_0.rd = lsL34_0.B x := by kernel_rfl
theorem eF34 (x : gF34.a.T) : kF env (GofL []) (LofL [(34, [(0, lsL34_0)])]) 34 (gF34.args x) (gF34.bs x) gF34.r.dec = gF34.F x := by kernel_rfl
theorem sF34 : SpecAt env 1 34 gF34 := mkSpec (r := 0) (gl := []) (L0 := [(0, lsL34_0)]) (by kernel_rfl) trivial ⟨⟨0, by kernel_rfl, by kernel_rfl, rL34_0⟩, trivial⟩ eF34 (fun h => absurd h (by rw [show env.nl 34 = false by kernel_rfl]; decide))
/-- midrangeref04.Zeros -/
def F17 (a0 : Int) : Option ByteArray :=
  bndS (F34 0 a0) fun y0 =>
  some y0
def gF17 : FS := ⟨(.dat (.int .i64)), 0, (.one ⟨.non, (.dat .str), 0, 0⟩), fun x => (F17 x)⟩
theorem eF17 (x : gF17.a.T) : kF env (GofL [(34, [gF34])]) (LofL [(17, [])]) 17 (gF17.args x) (gF17.bs x) gF17.r.dec = gF17.F x := by kernel_rfl
theorem sF17 : SpecAt env 2 17 gF17 := mkSpec (r := 1) (gl := [(34, [gF34])]) (L0 := []) (by kernel_rfl) ⟨⟨sF34.up (by decide), trivial⟩, trivial⟩ trivial eF17 (fun h => absurd h (by rw [show env.nl 17 = false by kernel_rfl]; decide))
/-- segment.within -/
def F58 (a0 : Int) (a1 : Int) (a2 : Int) : Bool :=
  (bAnd (iLe a1 a0) (iLe a0 a2))
def gF58 : FS := ⟨(.seq (.dat (.int .i64)) (.seq (.dat (.int .i64)) (.dat (.int .i64)))), 0, (.one ⟨.non, (.dat .bool), 0, 0⟩), fun x => some (F58 x.1 x.2.1 x.2.2)⟩
theorem eF58 (x : gF58.a.T) : kF env (GofL []) (LofL [(58, [])]) 58 (gF58.args x) (gF58.bs x) gF58.r.dec = gF58.F x := by kernel_rfl
theorem sF58 : SpecAt env 1 58 gF58 := mkSpec (r := 0) (gl := []) (L0 := []) (by kernel_rfl) trivial trivial eF58 (fun h => absurd h (by rw [show env.nl 58 = false by kernel_rfl]; decide))
def B31_0 (a0 : (List (Int × ByteArray))) (a1 : Int) (a2 : (List (Int × ByteArray))) (a3 : Int) (a4 : Int) : Option ((((List (Int × ByteArray)) × Int) × ((List (Int × ByteArray)) × (Int × Int))) ⊕ (Unit ⊕ (Int × Int))) :=
  sel (iLt a4 a3)
    (sel (oIn a4 (lLen a2)) (
    letS (F58 (lAt a2 a4).1 1 (iSub .i64 a1 1)) fun y0 =>
    sel (bNot y0)
      (some (.inr (.inr (a4, 3))))
      (sel (bOr (oIn (iSub .i64 a4 1) (lLen a0)) (bNot (iLt 0 a4))) (
      sel (bAnd (iLt 0 a4) (iLe (lAt a2 a4).1 (lAt a0 (iSub .i64 a4 1)).1))
        (some (.inr (.inr (a4, 14))))
        (sel (oNz 32) (
        sel (bOr (oNz 32) (bNot (bNot (bNot (iEq (iRem (sLen (lAt a2 a4).2) 32) 0))))) (
        letS (F58 (iQuo .i64 (sLen (lAt a2 a4).2) 32) 1 8) fun y1 =>
        sel (bOr (bNot (iEq (iRem (sLen (lAt a2 a4).2) 32) 0)) (bNot y1))
          (some (.inr (.inr (a4, 18))))
          (some (.inl ((a0, a1), (a2, (a3, (iAdd .i64 a4 1))))))) none) none)) none)) none)
    (some (.inr (.inl ())))
def L31_0 (x : (((List (Int × ByteArray)) × Int) × ((List (Int × ByteArray)) × (Int × Int)))) : Option (Unit ⊕ (Int × Int)) := iter (fun (x : (((List (Int × ByteArray)) × Int) × ((List (Int × ByteArray)) × (Int × Int)))) => (B31_0 x.1.1 x.1.2 x.2.1 x.2.2.1 x.2.2.2)) fuel x
def lsL31_0 : LS := ⟨(.one .normal ⟨.non, [1, 16, 17, 18], (.seq (.box 0 (.seq (.dat (.sl (.pr (.int .i64) .str))) (.dat (.int .i64)))) (.seq (.dat (.sl (.pr (.int .i64) .str))) (.seq (.dat (.int .i64)) (.dat (.int .i64))))), 1, 63, 0⟩), (.two (.one (.exit 0) ⟨.non, [], .non, 0, 63, 0⟩) (.one .ret ⟨.non, [2, 3], (.seq (.dat (.int .i64)) (.dat (.int .i64))), 0, 63, 0⟩)), fun (x : (((List (Int × ByteArray)) × Int) × ((List (Int × ByteArray)) × (Int × Int)))) => (B31_0 x.1.1 x.1.2 x.2.1 x.2.2.1 x.2.2.2)⟩
/-- segment.CheckStore -/
def F31 (a0 : ((List (Int × ByteArray)) × Int)) : Option (Int × Int) :=
  sel (iLt 10 (lLen a0.1))
    (some (0, 2))
    (letS (F58 a0.2 1 1001) fun y0 =>
    sel (bNot y0)
      (some (0, 3))
      (bndS (L31_0 (a0, (a0.1, ((lLen a0.1), 0)))) fun y1 =>
      sumS y1 (fun y1a =>
        some (0, 0)) fun y1b =>
        some y1b))
def gF31 : FS := ⟨(.agg (.dat (.pr (.sl (.pr (.int .i64) .str)) (.int .i64)))), 0, (.one ⟨.non, (.tup (.seq (.dat (.int .i64)) (.dat (.int .i64)))), 0, 0⟩), fun x => (F31 x)⟩
theorem rL31_0 (x : lsL31_0.hd.T) : kRound env (GofL [(58, [gF58])]) (LofL [(31, [(0, lsL31_0)])]) 31 0 (lpOf Tryz.prog 31 0).2 (lsL31_0.hd.st x) lsL31_0.rd = lsL31_0.B x := by kernel_rfl
theorem eF31 (x : gF31.a.T) : kF env (GofL [(58, [gF58])]) (LofL [(31, [(0, lsL31_0)])]) 31 (gF31.args x) (gF31.bs x) gF31.r.dec = gF31.F x := by kernel_rfl
theorem sF31 : SpecAt env 2 31 gF31 := mkSpec (r := 1) (gl := [(58, [gF58])]) (L0 := [(0, lsL31_0)]) (by kernel_rfl) ⟨⟨sF58.up (by decide), trivial⟩, trivial⟩ ⟨⟨0, by kernel_rfl, by kernel_rfl, rL31_0⟩, trivial⟩ eF31 (fun h => absurd h (by rw [show env.nl 31 = false by kernel_rfl]; decide))
/-- paging.within -/
def F32 (a0 : Int) (a1 : Int) (a2 : Int) : Bool :=
  (bAnd (iLe a1 a0) (iLe a0 a2))
def gF32 : FS := ⟨(.seq (.dat (.int .i64)) (.seq (.dat (.int .i64)) (.dat (.int .i64)))), 0, (.one ⟨.non, (.dat .bool), 0, 0⟩), fun x => some (F32 x.1 x.2.1 x.2.2)⟩
theorem eF32 (x : gF32.a.T) : kF env (GofL []) (LofL [(32, [])]) 32 (gF32.args x) (gF32.bs x) gF32.r.dec = gF32.F x := by kernel_rfl
theorem sF32 : SpecAt env 1 32 gF32 := mkSpec (r := 0) (gl := []) (L0 := []) (by kernel_rfl) trivial trivial eF32 (fun h => absurd h (by rw [show env.nl 32 = false by kernel_rfl]; decide))
/-- math/bits.Mul64 -/
def F84 (a0 : Int) (a1 : Int) : (Int × Int) :=
  ((iAdd .u64 (iAdd .u64 (iMul .u64 (iShr .u64 a0 32) (iShr .u64 a1 32)) (iShr .u64 (iAdd .u64 (iMul .u64 (iShr .u64 a0 32) (iAnd .u64 a1 4294967295)) (iShr .u64 (iMul .u64 (iAnd .u64 a0 4294967295) (iAnd .u64 a1 4294967295)) 32)) 32)) (iShr .u64 (iAdd .u64 (iAnd .u64 (iAdd .u64 (iMul .u64 (iShr .u64 a0 32) (iAnd .u64 a1 4294967295)) (iShr .u64 (iMul .u64 (iAnd .u64 a0 4294967295) (iAnd .u64 a1 4294967295)) 32)) 4294967295) (iMul .u64 (iAnd .u64 a0 4294967295) (iShr .u64 a1 32))) 32)), (iMul .u64 a0 a1))
def gF84 : FS := ⟨(.seq (.dat (.int .u64)) (.dat (.int .u64))), 0, (.one ⟨.non, (.tup (.seq (.dat (.int .u64)) (.dat (.int .u64)))), 0, 0⟩), fun x => some (F84 x.1 x.2)⟩
theorem eF84 (x : gF84.a.T) : kF env (GofL []) (LofL [(84, [])]) 84 (gF84.args x) (gF84.bs x) gF84.r.dec = gF84.F x := by kernel_rfl
theorem sF84 : SpecAt env 1 84 gF84 := mkSpec (r := 0) (gl := []) (L0 := []) (by kernel_rfl) trivial trivial eF84 (fun h => absurd h (by rw [show env.nl 84 = false by kernel_rfl]; decide))
/-- math/bits.Mul -/
def F59 (a0 : Int) (a1 : Int) : (Int × Int) :=
  letS (F84 a0 a1) fun y0 =>
  y0
def gF59 : FS := ⟨(.seq (.dat (.int .u64)) (.dat (.int .u64))), 0, (.one ⟨.non, (.tup (.seq (.dat (.int .u64)) (.dat (.int .u64)))), 0, 0⟩), fun x => some (F59 x.1 x.2)⟩
theorem eF59 (x : gF59.a.T) : kF env (GofL [(84, [gF84])]) (LofL [(59, [])]) 59 (gF59.args x) (gF59.bs x) gF59.r.dec = gF59.F x := by kernel_rfl
theorem sF59 : SpecAt env 2 59 gF59 := mkSpec (r := 1) (gl := [(84, [gF84])]) (L0 := []) (by kernel_rfl) ⟨⟨sF84.up (by decide), trivial⟩, trivial⟩ trivial eF59 (fun h => absurd h (by rw [show env.nl 59 = false by kernel_rfl]; decide))
def B33_0 (a0 : (List Int)) (a1 : Int) : Option (((List Int) × Int) ⊕ (List Int)) :=
  sel (iLt a1 (lLen a0))
    (sel (oCut a1 (lLen a0) (lLen a0)) (
    sel (oCut 0 a1 (lLen a0)) (
    some (.inl ((lCpy a0 a1 (lLen a0) (lCut a0 0 a1)), (iAdd .i64 a1 (lCpN (pSub (lLen a0) a1) (lCut a0 0 a1)))))) none) none)
    (some (.inr a0))
def L33_0 (x : ((List Int) × Int)) : Option (List Int) := iter (fun (x : ((List Int) × Int)) => (B33_0 x.1 x.2)) fuel x
def lsL33_0 : LS := ⟨(.one .normal ⟨.non, [7, 8], (.seq (.own 0 (.int .i64)) (.dat (.int .i64))), 1, 48, 0⟩), (.one (.exit 0) ⟨.non, [7], (.own 0 (.int .i64)), 1, 48, 0⟩), fun (x : ((List Int) × Int)) => (B33_0 x.1 x.2)⟩
/-- slices.Repeat[[]int,int] -/
def F33 (a0 : (List Int)) (a1 : Int) : Option (List Int) :=
  sel (iLt a1 0)
    (none)
    (letS (F59 (iCv .u64 (lLen a0)) (iCv .u64 a1)) fun y0 =>
    sel (bOr (iLt 0 y0.1) (iLt 9223372036854775807 y0.2))
      (none)
      (sel (nCap 8 (iCv .i64 y0.2)) (
      bndS (L33_0 ((lCpy (lRep (iCv .i64 y0.2) (0 : Int)) 0 (lLen (lRep (iCv .i64 y0.2) (0 : Int))) a0), (lCpN (lLen (lRep (iCv .i64 y0.2) (0 : Int))) a0))) fun y1 =>
      some y1) none))
def gF33 : FS := ⟨(.seq (.dat (.sl (.int .i64))) (.dat (.int .i64))), 0, (.one ⟨.non, (.own 0 (.int .i64)), 0, 1⟩), fun x => (F33 x.1 x.2)⟩
theorem rL33_0 (x : lsL33_0.hd.T) : kRound env (GofL [(59, [gF59])]) (LofL [(33, [(0, lsL33_0)])]) 33 0 (lpOf Tryz.prog 33 0).2 (lsL33_0.hd.st x) lsL33_0.rd = lsL33_0.B x := by kernel_rfl
theorem eF33 (x : gF33.a.T) : kF env (GofL [(59, [gF59])]) (LofL [(33, [(0, lsL33_0)])]) 33 (gF33.args x) (gF33.bs x) gF33.r.dec = gF33.F x := by kernel_rfl
theorem sF33 : SpecAt env 3 33 gF33 := mkSpec (r := 2) (gl := [(59, [gF59])]) (L0 := [(0, lsL33_0)]) (by kernel_rfl) ⟨⟨sF59.up (by decide), trivial⟩, trivial⟩ ⟨⟨0, by kernel_rfl, by kernel_rfl, rL33_0⟩, trivial⟩ eF33 (fun h => absurd h (by rw [show env.nl 33 = false by kernel_rfl]; decide))
def B16_0h0 (a0 : Int) (a1 : Int) (a2 : Int) (a3 : Int) (a4 : (List (Int × ByteArray))) (a5 : Int) (a6 : (List Int)) (a7 : Int) (a8 : Int) (a9 : Int) (a10 : (List Int)) (a11 : Int) (a12 : Int) : Option ((((Int × (Int × (Int × Int))) × (((List (Int × ByteArray)) × (Int × ((List Int) × (Int × (Int × Int))))) × ((List Int) × (Int × Int)))) ⊕ ((Int × (Int × (Int × Int))) × (((List (Int × ByteArray)) × (Int × ((List (Int × (Bool × (Bool × (Int × (Int × (ByteArray × (Int × Int)))))))) × ((List Int) × (Int × (Int × Int)))))) × ((List Int) × (Int × Int))))) ⊕ (((Int × (Int × (Int × Int))) × ((List (Int × ByteArray)) × (Int × ((List Int) × (Int × (Int × Int)))))) ⊕ (((Int × (Int × (Int × Int))) × Int) ⊕ ((Int × (Int × (Int × Int))) × ((List (Int × ByteArray)) × (Int × ((List (Int × (Bool × (Bool × (Int × (Int × (ByteArray × (Int × Int)))))))) × ((List Int) × (Int × (Int × Int)))))))))) :=
  sel (iLt a12 a11)
    (sel (oIn a12 (lLen a10)) (
    letS (F32 (lAt a10 a12) 0 2) fun y0 =>
    sel (bNot y0)
      (some (.inr (.inr (.inl ((0, (0, (0, 0))), 3)))))
      (sel (lCap 64 [((lAt a10 a12), (false, (false, (0, (0, ((bs []), (0, (-1))))))))]) (
      some (.inl (.inr ((a0, (a1, (a2, a3))), ((a4, (a5, ([((lAt a10 a12), (false, (false, (0, (0, ((bs []), (0, (-1))))))))], (a6, (a7, (a8, a9)))))), (a10, (a11, (iAdd .i64 a12 1)))))))) none)) none)
    (some (.inr (.inl ((a0, (a1, (a2, a3))), (a4, (a5, (a6, (a7, (a8, a9)))))))))
def B16_0h1 (a0 : Int) (a1 : Int) (a2 : Int) (a3 : Int) (a4 : (List (Int × ByteArray))) (a5 : Int) (a6 : (List (Int × (Bool × (Bool × (Int × (Int × (ByteArray × (Int × Int))))))))) (a7 : (List Int)) (a8 : Int) (a9 : Int) (a10 : Int) (a11 : (List Int)) (a12 : Int) (a13 : Int) : Option ((((Int × (Int × (Int × Int))) × (((List (Int × ByteArray)) × (Int × ((List Int) × (Int × (Int × Int))))) × ((List Int) × (Int × Int)))) ⊕ ((Int × (Int × (Int × Int))) × (((List (Int × ByteArray)) × (Int × ((List (Int × (Bool × (Bool × (Int × (Int × (ByteArray × (Int × Int)))))))) × ((List Int) × (Int × (Int × Int)))))) × ((List Int) × (Int × Int))))) ⊕ (((Int × (Int × (Int × Int))) × ((List (Int × ByteArray)) × (Int × ((List Int) × (Int × (Int × Int)))))) ⊕ (((Int × (Int × (Int × Int))) × Int) ⊕ ((Int × (Int × (Int × Int))) × ((List (Int × ByteArray)) × (Int × ((List (Int × (Bool × (Bool × (Int × (Int × (ByteArray × (Int × Int)))))))) × ((List Int) × (Int × (Int × Int)))))))))) :=
  sel (iLt a13 a12)
    (sel (oIn a13 (lLen a11)) (
    letS (F32 (lAt a11 a13) 0 2) fun y0 =>
    sel (bNot y0)
      (some (.inr (.inr (.inl ((0, (0, (0, 0))), 3)))))
      (sel (lCap 64 (lApp a6 [((lAt a11 a13), (false, (false, (0, (0, ((bs []), (0, (-1))))))))])) (
      some (.inl (.inr ((a0, (a1, (a2, a3))), ((a4, (a5, ((lApp a6 [((lAt a11 a13), (false, (false, (0, (0, ((bs []), (0, (-1))))))))]), (a7, (a8, (a9, a10)))))), (a11, (a12, (iAdd .i64 a13 1)))))))) none)) none)
    (some (.inr (.inr (.inr ((a0, (a1, (a2, a3))), (a4, (a5, (a6, (a7, (a8, (a9, a10)))))))))))
def L16_0 (x : (((Int × (Int × (Int × Int))) × (((List (Int × ByteArray)) × (Int × ((List Int) × (Int × (Int × Int))))) × ((List Int) × (Int × Int)))) ⊕ ((Int × (Int × (Int × Int))) × (((List (Int × ByteArray)) × (Int × ((List (Int × (Bool × (Bool × (Int × (Int × (ByteArray × (Int × Int)))))))) × ((List Int) × (Int × (Int × Int)))))) × ((List Int) × (Int × Int)))))) : Option (((Int × (Int × (Int × Int))) × ((List (Int × ByteArray)) × (Int × ((List Int) × (Int × (Int × Int)))))) ⊕ (((Int × (Int × (Int × Int))) × Int) ⊕ ((Int × (Int × (Int × Int))) × ((List (Int × ByteArray)) × (Int × ((List (Int × (Bool × (Bool × (Int × (Int × (ByteArray × (Int × Int)))))))) × ((List Int) × (Int × (Int × Int))))))))) := iter (fun (x : (((Int × (Int × (Int × Int))) × (((List (Int × ByteArray)) × (Int × ((List Int) × (Int × (Int × Int))))) × ((List Int) × (Int × Int)))) ⊕ ((Int × (Int × (Int × Int))) × (((List (Int × ByteArray)) × (Int × ((List (Int × (Bool × (Bool × (Int × (Int × (ByteArray × (Int × Int)))))))) × ((List Int) × (Int × (Int × Int)))))) × ((List Int) × (Int × Int)))))) => (sumS x (fun x => (B16_0h0 x.1.1 x.1.2.1 x.1.2.2.1 x.1.2.2.2 x.2.1.1 x.2.1.2.1 x.2.1.2.2.1 x.2.1.2.2.2.1 x.2.1.2.2.2.2.1 x.2.1.2.2.2.2.2 x.2.2.1 x.2.2.2.1 x.2.2.2.2)) fun x => (B16_0h1 x.1.1 x.1.2.1 x.1.2.2.1 x.1.2.2.2 x.2.1.1 x.2.1.2.1 x.2.1.2.2.1 x.2.1.2.2.2.1 x.2.1.2.2.2.2.1 x.2.1.2.2.2.2.2.1 x.2.1.2.2.2.2.2.2 x.2.2.1 x.2.2.2.1 x.2.2.2.2))) fuel x
def lsL16_0 : LS := ⟨(.two (.one .normal ⟨.non, [4, 8, 29, 30, 31], (.seq (.box 0 (.seq (.lit (.slice none 0 0)) (.seq (.dat (.int .i64)) (.seq (.lit (.slice none 0 0)) (.seq (.lit (.slice none 0 0)) (.seq (.dat (.int .i64)) (.seq (.dat (.int .i64)) (.dat (.int .i64))))))))) (.seq (.box 1 (.seq (.dat (.sl (.pr (.int .i64) .str))) (.seq (.dat (.int .i64)) (.seq (.lit (.slice none 0 0)) (.seq (.own 2 (.int .i64)) (.seq (.dat (.int .i64)) (.seq (.dat (.int .i64)) (.dat (.int .i64))))))))) (.seq (.dat (.sl (.int .i64))) (.seq (.dat (.int .i64)) (.dat (.int .i64)))))), 3, 49, 0⟩) (.one .normal ⟨.non, [4, 8, 29, 30, 31], (.seq (.box 0 (.seq (.lit (.slice none 0 0)) (.seq (.dat (.int .i64)) (.seq (.lit (.slice none 0 0)) (.seq (.lit (.slice none 0 0)) (.seq (.dat (.int .i64)) (.seq (.dat (.int .i64)) (.dat (.int .i64))))))))) (.seq (.box 1 (.seq (.dat (.sl (.pr (.int .i64) .str))) (.seq (.dat (.int .i64)) (.seq (.own 2 (.pr (.int .i64) (.pr .bool (.pr .bool (.pr (.int .i64) (.pr (.int .i64) (.pr .str (.pr (.int .i64) (.int .i64))))))))) (.seq (.own 3 (.int .i64)) (.seq (.dat (.int .i64)) (.seq (.dat (.int .i64)) (.dat (.int .i64))))))))) (.seq (.dat (.sl (.int .i64))) (.seq (.dat (.int .i64)) (.dat (.int .i64)))))), 4, 49, 0⟩)), (.two (.one (.exit 0) ⟨.non, [4, 8], (.seq (.box 0 (.seq (.lit (.slice none 0 0)) (.seq (.dat (.int .i64)) (.seq (.lit (.slice none 0 0)) (.seq (.lit (.slice none 0 0)) (.seq (.dat (.int .i64)) (.seq (.dat (.int .i64)) (.dat (.int .i64))))))))) (.box 1 (.seq (.dat (.sl (.pr (.int .i64) .str))) (.seq (.dat (.int .i64)) (.seq (.lit (.slice none 0 0)) (.seq (.own 2 (.int .i64)) (.seq (.dat (.int .i64)) (.seq (.dat (.int .i64)) (.dat (.int .i64)))))))))), 3, 49, 0⟩) (.two (.one .ret ⟨.non, [4, 5], (.seq (.box 0 (.seq (.lit (.slice none 0 0)) (.seq (.dat (.int .i64)) (.seq (.lit (.slice none 0 0)) (.seq (.lit (.slice none 0 0)) (.seq (.dat (.int .i64)) (.seq (.dat (.int .i64)) (.dat (.int .i64))))))))) (.dat (.int .i64))), 1, 49, 0⟩) (.one (.exit 0) ⟨.non, [4, 8], (.seq (.box 0 (.seq (.lit (.slice none 0 0)) (.seq (.dat (.int .i64)) (.seq (.lit (.slice none 0 0)) (.seq (.lit (.slice none 0 0)) (.seq (.dat (.int .i64)) (.seq (.dat (.int .i64)) (.dat (.int .i64))))))))) (.box 1 (.seq (.dat (.sl (.pr (.int .i64) .str))) (.seq (.dat (.int .i64)) (.seq (.own 2 (.pr (.int .i64) (.pr .bool (.pr .bool (.pr (.int .i64) (.pr (.int .i64) (.pr .str (.pr (.int .i64) (.int .i64))))))))) (.seq (.own 3 (.int .i64)) (.seq (.dat (.int .i64)) (.seq (.dat (.int .i64)) (.dat (.int .i64)))))))))), 4, 49, 0⟩))), fun (x : (((Int × (Int × (Int × Int))) × (((List (Int × ByteArray)) × (Int × ((List Int) × (Int × (Int × Int))))) × ((List Int) × (Int × Int)))) ⊕ ((Int × (Int × (Int × Int))) × (((List (Int × ByteArray)) × (Int × ((List (Int × (Bool × (Bool × (Int × (Int × (ByteArray × (Int × Int)))))))) × ((List Int) × (Int × (Int × Int)))))) × ((List Int) × (Int × Int)))))) => (sumS x (fun x => (B16_0h0 x.1.1 x.1.2.1 x.1.2.2.1 x.1.2.2.2 x.2.1.1 x.2.1.2.1 x.2.1.2.2.1 x.2.1.2.2.2.1 x.2.1.2.2.2.2.1 x.2.1.2.2.2.2.2 x.2.2.1 x.2.2.2.1 x.2.2.2.2)) fun x => (B16_0h1 x.1.1 x.1.2.1 x.1.2.2.1 x.1.2.2.2 x.2.1.1 x.2.1.2.1 x.2.1.2.2.1 x.2.1.2.2.2.1 x.2.1.2.2.2.2.1 x.2.1.2.2.2.2.2.1 x.2.1.2.2.2.2.2.2 x.2.2.1 x.2.2.2.1 x.2.2.2.2))⟩
/-- slices.Clone[[]api.Segment,api.Segment] -/
def F55 (a0 : (List (Int × ByteArray))) : Option (List (Int × ByteArray)) :=
  sel (iLt 0 (lLen a0))
    (sel (iLt 0 (lLen a0)) (
    sel (lCap 24 (lApp ([] : List (Int × ByteArray)) a0)) (
    some (lApp ([] : List (Int × ByteArray)) a0)) none) none)
    (bothS (some ([] : List (Int × ByteArray))) (sel (lCap 24 (lApp ([] : List (Int × ByteArray)) ([] : List (Int × ByteArray)))) (
      some (lApp ([] : List (Int × ByteArray)) ([] : List (Int × ByteArray)))) none))
def gF55 : FS := ⟨(.dat (.sl (.pr (.int .i64) .str))), 0, (.one ⟨.non, (.own 0 (.pr (.int .i64) .str)), 0, 1⟩), fun x => (F55 x)⟩
theorem eF55 (x : gF55.a.T) : kF env (GofL []) (LofL [(55, [])]) 55 (gF55.args x) (gF55.bs x) gF55.r.dec = gF55.F x := by kernel_rfl
theorem sF55 : SpecAt env 1 55 gF55 := mkSpec (r := 0) (gl := []) (L0 := []) (by kernel_rfl) trivial trivial eF55 (fun _ => ⟨rfl, fun _ => by kernel_rfl⟩)
/-- slices.Clone[[]api.PageFrame,api.PageFrame] -/
def F56 (a0 : (List (Int × (Bool × (Bool × (Int × (Int × (ByteArray × (Int × Int))))))))) : Option (List (Int × (Bool × (Bool × (Int × (Int × (ByteArray × (Int × Int)))))))) :=
  sel (iLt 0 (lLen a0))
    (sel (iLt 0 (lLen a0)) (
    sel (lCap 64 (lApp ([] : List (Int × (Bool × (Bool × (Int × (Int × (ByteArray × (Int × Int)))))))) a0)) (
    some (lApp ([] : List (Int × (Bool × (Bool × (Int × (Int × (ByteArray × (Int × Int)))))))) a0)) none) none)
    (bothS (some ([] : List (Int × (Bool × (Bool × (Int × (Int × (ByteArray × (Int × Int))))))))) (sel (lCap 64 (lApp ([] : List (Int × (Bool × (Bool × (Int × (Int × (ByteArray × (Int × Int)))))))) ([] : List (Int × (Bool × (Bool × (Int × (Int × (ByteArray × (Int × Int)))))))))) (
      some (lApp ([] : List (Int × (Bool × (Bool × (Int × (Int × (ByteArray × (Int × Int)))))))) ([] : List (Int × (Bool × (Bool × (Int × (Int × (ByteArray × (Int × Int)))))))))) none))
def gF56 : FS := ⟨(.dat (.sl (.pr (.int .i64) (.pr .bool (.pr .bool (.pr (.int .i64) (.pr (.int .i64) (.pr .str (.pr (.int .i64) (.int .i64)))))))))), 0, (.one ⟨.non, (.own 0 (.pr (.int .i64) (.pr .bool (.pr .bool (.pr (.int .i64) (.pr (.int .i64) (.pr .str (.pr (.int .i64) (.int .i64))))))))), 0, 1⟩), fun x => (F56 x)⟩
theorem eF56 (x : gF56.a.T) : kF env (GofL []) (LofL [(56, [])]) 56 (gF56.args x) (gF56.bs x) gF56.r.dec = gF56.F x := by kernel_rfl
theorem sF56 : SpecAt env 1 56 gF56 := mkSpec (r := 0) (gl := []) (L0 := []) (by kernel_rfl) trivial trivial eF56 (fun _ => ⟨rfl, fun _ => by kernel_rfl⟩)
/-- slices.Clone[[]int,int] -/
def F57 (a0 : (List Int)) : Option (List Int) :=
  sel (iLt 0 (lLen a0))
    (sel (iLt 0 (lLen a0)) (
    sel (lCap 8 (lApp ([] : List Int) a0)) (
    some (lApp ([] : List Int) a0)) none) none)
    (bothS (some ([] : List Int)) (sel (lCap 8 (lApp ([] : List Int) ([] : List Int))) (
      some (lApp ([] : List Int) ([] : List Int))) none))
def gF57 : FS := ⟨(.dat (.sl (.int .i64))), 0, (.one ⟨.non, (.own 0 (.int .i64)), 0, 1⟩), fun x => (F57 x)⟩
theorem eF57 (x : gF57.a.T) : kF env (GofL []) (LofL [(57, [])]) 57 (gF57.args x) (gF57.bs x) gF57.r.dec = gF57.F x := by kernel_rfl
theorem sF57 : SpecAt env 1 57 gF57 := mkSpec (r := 0) (gl := []) (L0 := []) (by kernel_rfl) trivial trivial eF57 (fun _ => ⟨rfl, fun _ => by kernel_rfl⟩)
/-- paging.owned -/
def F30 (a0 : (((List (Int × ByteArray)) × Int) × ((List (Int × (Bool × (Bool × (Int × (Int × (ByteArray × (Int × Int)))))))) × ((List Int) × (Int × (Int × Int)))))) : Option ((List (Int × ByteArray)) × (Int × ((List (Int × (Bool × (Bool × (Int × (Int × (ByteArray × (Int × Int)))))))) × ((List Int) × (Int × (Int × Int)))))) :=
  bndS (F55 a0.1.1) fun y0 =>
  bndS (F56 a0.2.1) fun y1 =>
  bndS (F57 a0.2.2.1) fun y2 =>
  some (y0, (a0.1.2, (y1, (y2, a0.2.2.2))))
def gF30 : FS := ⟨(.agg (.dat (.pr (.pr (.sl (.pr (.int .i64) .str)) (.int .i64)) (.pr (.sl (.pr (.int .i64) (.pr .bool (.pr .bool (.pr (.int .i64) (.pr (.int .i64) (.pr .str (.pr (.int .i64) (.int .i64))))))))) (.pr (.sl (.int .i64)) (.pr (.int .i64) (.pr (.int .i64) (.int .i64)))))))), 0, (.one ⟨.non, (.agg (.seq (.own 0 (.pr (.int .i64) .str)) (.seq (.dat (.int .i64)) (.seq (.own 1 (.pr (.int .i64) (.pr .bool (.pr .bool (.pr (.int .i64) (.pr (.int .i64) (.pr .str (.pr (.int .i64) (.int .i64))))))))) (.seq (.own 2 (.int .i64)) (.seq (.dat (.int .i64)) (.seq (.dat (.int .i64)) (.dat (.int .i64))))))))), 0, 3⟩), fun x => (F30 x)⟩
theorem eF30 (x : gF30.a.T) : kF env (GofL [(57, [gF57]), (56, [gF56]), (55, [gF55])]) (LofL [(30, [])]) 30 (gF30.args x) (gF30.bs x) gF30.r.dec = gF30.F x := by kernel_rfl
theorem sF30 : SpecAt env 2 30 gF30 := mkSpec (r := 1) (gl := [(57, [gF57]), (56, [gF56]), (55, [gF55])]) (L0 := []) (by kernel_rfl) ⟨⟨sF57.up (by decide), trivial⟩, ⟨sF56.up (by decide), trivial⟩, ⟨sF55.up (by decide), trivial⟩, trivial⟩ trivial eF30 (fun h => absurd h (by rw [show env.nl 30 = false by kernel_rfl]; decide))
/-- paging.Begin -/
def F16 (a0 : ((List (Int × ByteArray)) × Int)) (a1 : (List Int)) : Option (((List (Int × ByteArray)) × (Int × ((List (Int × (Bool × (Bool × (Int × (Int × (ByteArray × (Int × Int)))))))) × ((List Int) × (Int × (Int × Int)))))) × Int) :=
  bndS (F31 a0) fun y0 =>
  sel (bNot (iEq y0.2 0))
    (some ((([] : List (Int × ByteArray)), (0, (([] : List (Int × (Bool × (Bool × (Int × (Int × (ByteArray × (Int × Int)))))))), (([] : List Int), (0, (0, 0)))))), y0.2))
    (letS (F32 (lLen a1) 1 8) fun y1 =>
    sel (bNot y1)
      (some ((([] : List (Int × ByteArray)), (0, (([] : List (Int × (Bool × (Bool × (Int × (Int × (ByteArray × (Int × Int)))))))), (([] : List Int), (0, (0, 0)))))), 6))
      (bndS (F33 [(-1)] 5) fun y2 =>
      bndS (L16_0 (.inl ((0, (0, (0, 0))), ((a0.1, (a0.2, (y2, (0, (0, 0))))), (a1, ((lLen a1), 0)))))) fun y3 =>
      sumS y3 (fun y3a =>
        bndS (F30 ((y3a.2.1, y3a.2.2.1), ([], y3a.2.2.2))) fun y4 =>
        some (y4, 0)) fun y3ar =>
        sumS y3ar (fun y3aa =>
        some ((([] : List (Int × ByteArray)), (y3aa.1.1, (([] : List (Int × (Bool × (Bool × (Int × (Int × (ByteArray × (Int × Int)))))))), (([] : List Int), y3aa.1.2)))), y3aa.2)) fun y3ab =>
        bndS (F30 ((y3ab.2.1, y3ab.2.2.1), y3ab.2.2.2)) fun y5 =>
        some (y5, 0)))
def gF16 : FS := ⟨(.seq (.agg (.dat (.pr (.sl (.pr (.int .i64) .str)) (.int .i64)))) (.dat (.sl (.int .i64)))), 0, (.one ⟨.non, (.tup (.seq (.agg (.seq (.own 0 (.pr (.int .i64) .str)) (.seq (.dat (.int .i64)) (.seq (.own 1 (.pr (.int .i64) (.pr .bool (.pr .bool (.pr (.int .i64) (.pr (.int .i64) (.pr .str (.pr (.int .i64) (.int .i64))))))))) (.seq (.own 2 (.int .i64)) (.seq (.dat (.int .i64)) (.seq (.dat (.int .i64)) (.dat (.int .i64))))))))) (.dat (.int .i64)))), 0, 3⟩), fun x => (F16 x.1 x.2)⟩
theorem rL16_0 (x : lsL16_0.hd.T) : kRound env (GofL [(30, [gF30]), (32, [gF32]), (33, [gF33]), (31, [gF31])]) (LofL [(16, [(0, lsL16_0)])]) 16 0 (lpOf Tryz.prog 16 0).2 (lsL16_0.hd.st x) lsL16_0.rd = lsL16_0.B x := by rcases x with x | x <;> kernel_rfl
theorem eF16 (x : gF16.a.T) : kF env (GofL [(30, [gF30]), (32, [gF32]), (33, [gF33]), (31, [gF31])]) (LofL [(16, [(0, lsL16_0)])]) 16 (gF16.args x) (gF16.bs x) gF16.r.dec = gF16.F x := by kernel_rfl
theorem sF16 : SpecAt env 4 16 gF16 := mkSpec (r := 3) (gl := [(30, [gF30]), (32, [gF32]), (33, [gF33]), (31, [gF31])]) (L0 := [(0, lsL16_0)]) (by kernel_rfl) ⟨⟨sF30.up (by decide), trivial⟩, ⟨sF32.up (by decide), trivial⟩, ⟨sF33.up (by decide), trivial⟩, ⟨sF31.up (by decide), trivial⟩, trivial⟩ ⟨⟨0, by kernel_rfl, by kernel_rfl, rL16_0⟩, trivial⟩ eF16 (fun h => absurd h (by rw [show env.nl 16 = false by kernel_rfl]; decide))
def B20_0 (a0 : (List (Int × ByteArray))) (a1 : Int) (a2 : (List (Int × (Bool × (Bool × (Int × (Int × (ByteArray × (Int × Int))))))))) (a3 : (List Int)) (a4 : Int) (a5 : Int) (a6 : Int) (a7 : (List Int)) (a8 : Int) (a9 : Int) : Option ((((List (Int × ByteArray)) × (Int × ((List (Int × (Bool × (Bool × (Int × (Int × (ByteArray × (Int × Int)))))))) × ((List Int) × (Int × (Int × Int)))))) × ((List Int) × (Int × Int))) ⊕ (((List (Int × ByteArray)) × (Int × ((List (Int × (Bool × (Bool × (Int × (Int × (ByteArray × (Int × Int)))))))) × ((List Int) × (Int × (Int × Int)))))) ⊕ Int)) :=
  sel (iLt a9 a8)
    (sel (oIn a9 (lLen a7)) (
    letS (F32 (lAt a7 a9) 0 999999999999999) fun y0 =>
    sel (bNot y0)
      (some (.inr (.inr 3)))
      (some (.inl ((a0, (a1, (a2, (a3, (a4, (a5, a6)))))), (a7, (a8, (iAdd .i64 a9 1))))))) none)
    (some (.inr (.inl (a0, (a1, (a2, (a3, (a4, (a5, a6)))))))))
def L20_0 (x : (((List (Int × ByteArray)) × (Int × ((List (Int × (Bool × (Bool × (Int × (Int × (ByteArray × (Int × Int)))))))) × ((List Int) × (Int × (Int × Int)))))) × ((List Int) × (Int × Int)))) : Option (((List (Int × ByteArray)) × (Int × ((List (Int × (Bool × (Bool × (Int × (Int × (ByteArray × (Int × Int)))))))) × ((List Int) × (Int × (Int × Int)))))) ⊕ Int) := iter (fun (x : (((List (Int × ByteArray)) × (Int × ((List (Int × (Bool × (Bool × (Int × (Int × (ByteArray × (Int × Int)))))))) × ((List Int) × (Int × (Int × Int)))))) × ((List Int) × (Int × Int)))) => (B20_0 x.1.1 x.1.2.1 x.1.2.2.1 x.1.2.2.2.1 x.1.2.2.2.2.1 x.1.2.2.2.2.2.1 x.1.2.2.2.2.2.2 x.2.1 x.2.2.1 x.2.2.2)) fuel x
def lsL20_0 : LS := ⟨(.one .normal ⟨.non, [1, 35, 36, 37], (.seq (.box 0 (.seq (.dat (.sl (.pr (.int .i64) .str))) (.seq (.dat (.int .i64)) (.seq (.dat (.sl (.pr (.int .i64) (.pr .bool (.pr .bool (.pr (.int .i64) (.pr (.int .i64) (.pr .str (.pr (.int .i64) (.int .i64)))))))))) (.seq (.dat (.sl (.int .i64))) (.seq (.dat (.int .i64)) (.seq (.dat (.int .i64)) (.dat (.int .i64))))))))) (.seq (.own 1 (.int .i64)) (.seq (.dat (.int .i64)) (.dat (.int .i64))))), 2, 61, 0⟩), (.two (.one (.exit 0) ⟨.non, [1], (.box 0 (.seq (.dat (.sl (.pr (.int .i64) .str))) (.seq (.dat (.int .i64)) (.seq (.dat (.sl (.pr (.int .i64) (.pr .bool (.pr .bool (.pr (.int .i64) (.pr (.int .i64) (.pr .str (.pr (.int .i64) (.int .i64)))))))))) (.seq (.dat (.sl (.int .i64))) (.seq (.dat (.int .i64)) (.seq (.dat (.int .i64)) (.dat (.int .i64))))))))), 1, 61, 0⟩) (.one .ret ⟨.non, [2], (.dat (.int .i64)), 0, 61, 0⟩)), fun (x : (((List (Int × ByteArray)) × (Int × ((List (Int × (Bool × (Bool × (Int × (Int × (ByteArray × (Int × Int)))))))) × ((List Int) × (Int × (Int × Int)))))) × ((List Int) × (Int × Int)))) => (B20_0 x.1.1 x.1.2.1 x.1.2.2.1 x.1.2.2.2.1 x.1.2.2.2.2.1 x.1.2.2.2.2.2.1 x.1.2.2.2.2.2.2 x.2.1 x.2.2.1 x.2.2.2)⟩
/-- paging.onDisk$1 -/
def F61 (a0 : (Int × ByteArray)) (a1 : Int) : (Int × Bool) :=
  (a1, (iEq a0.1 a1))
def gF61 : FS := ⟨(.seq (.agg (.dat (.pr (.int .i64) .str))) (.box 0 (.dat (.int .i64)))), 1, (.one ⟨(.box 0 (.dat (.int .i64))), (.dat .bool), 1, 0⟩), fun x => some (F61 x.1 x.2)⟩
theorem eF61 (x : gF61.a.T) : kF env (GofL []) (LofL [(61, [])]) 61 (gF61.args x) (gF61.bs x) gF61.r.dec = gF61.F x := by kernel_rfl
theorem sF61 : SpecAt env 1 61 gF61 := mkSpec (r := 0) (gl := []) (L0 := []) (by kernel_rfl) trivial trivial eF61 (fun h => absurd h (by rw [show env.nl 61 = false by kernel_rfl]; decide))
def B60_0 (a0 : Int) (a1 : (List (Int × ByteArray))) (a2 : Int) (a3 : Int) : Option ((Int × ((List (Int × ByteArray)) × (Int × Int))) ⊕ (Int ⊕ (Int × Int))) :=
  sel (iLt a3 a2)
    (sel (oIn a3 (lLen a1)) (
    letS (F61 (lAt a1 a3) a0) fun y0 =>
    sel y0.2
      (some (.inr (.inr (y0.1, a3))))
      (some (.inl (y0.1, (a1, (a2, (iAdd .i64 a3 1))))))) none)
    (some (.inr (.inl a0)))
def L60_0 (x : (Int × ((List (Int × ByteArray)) × (Int × Int)))) : Option (Int ⊕ (Int × Int)) := iter (fun (x : (Int × ((List (Int × ByteArray)) × (Int × Int)))) => (B60_0 x.1 x.2.1 x.2.2.1 x.2.2.2)) fuel x
def lsL60_0 : LS := ⟨(.one .normal ⟨(.box 0 (.dat (.int .i64))), [0, 1, 7, 8], (.seq (.dat (.sl (.pr (.int .i64) .str))) (.seq (.fn 61 (.ptr 0 1 0)) (.seq (.dat (.int .i64)) (.dat (.int .i64))))), 1, 19, 1⟩), (.two (.one (.exit 0) ⟨(.box 0 (.dat (.int .i64))), [], .non, 1, 19, 1⟩) (.one .ret ⟨(.box 0 (.dat (.int .i64))), [4], (.dat (.int .i64)), 1, 19, 1⟩)), fun (x : (Int × ((List (Int × ByteArray)) × (Int × Int)))) => (B60_0 x.1 x.2.1 x.2.2.1 x.2.2.2)⟩
/-- slices.IndexFunc[[]api.Segment,api.Segment] -/
def F60 (a0 : (List (Int × ByteArray))) (a1 : Int) : Option (Int × Int) :=
  bndS (L60_0 (a1, (a0, ((lLen a0), 0)))) fun y0 =>
  sumS y0 (fun y0a =>
    some (y0a, (-1))) fun y0b =>
    some y0b
def gF60 : FS := ⟨(.seq (.dat (.sl (.pr (.int .i64) .str))) (.fn 61 (.box 0 (.dat (.int .i64))))), 1, (.one ⟨(.box 0 (.dat (.int .i64))), (.dat (.int .i64)), 1, 0⟩), fun x => (F60 x.1 x.2)⟩
theorem rL60_0 (x : lsL60_0.hd.T) : kRound env (GofL [(61, [gF61])]) (LofL [(60, [(0, lsL60_0)])]) 60 0 (lpOf Tryz.prog 60 0).2 (lsL60_0.hd.st x) lsL60_0.rd = lsL60_0.B x := by kernel_rfl
theorem eF60 (x : gF60.a.T) : kF env (GofL [(61, [gF61])]) (LofL [(60, [(0, lsL60_0)])]) 60 (gF60.args x) (gF60.bs x) gF60.r.dec = gF60.F x := by kernel_rfl
theorem sF60 : SpecAt env 2 60 gF60 := mkSpec (r := 1) (gl := [(61, [gF61])]) (L0 := [(0, lsL60_0)]) (by kernel_rfl) ⟨⟨sF61.up (by decide), trivial⟩, trivial⟩ ⟨⟨0, by kernel_rfl, by kernel_rfl, rL60_0⟩, trivial⟩ eF60 (fun h => absurd h (by rw [show env.nl 60 = false by kernel_rfl]; decide))
/-- paging.onDisk -/
def F35 (a0 : ((List (Int × ByteArray)) × Int)) (a1 : Int) (a2 : Int) : Option (ByteArray × Bool) :=
  bndS (F60 a0.1 a1) fun y0 =>
  sel (bOr (oIn y0.2 (lLen a0.1)) (bNot (bNot (bOr (iLt y0.2 0) (iLt a2 0))))) (
  sel (bOr (oNz 32) (bNot (bNot (bOr (iLt y0.2 0) (iLt a2 0))))) (
  sel (bOr (bOr (iLt y0.2 0) (iLt a2 0)) (iLe (iQuo .i64 (sLen (lAt a0.1 y0.2).2) 32) a2))
    (some ((bs []), false))
    (sel (oIn y0.2 (lLen a0.1)) (
    sel (oCut (iMul .i64 a2 32) (iMul .i64 (iAdd .i64 a2 1) 32) (sLen (lAt a0.1 y0.2).2)) (
    some ((sCut (lAt a0.1 y0.2).2 (iMul .i64 a2 32) (iMul .i64 (iAdd .i64 a2 1) 32)), true)) none) none)) none) none
def gF35 : FS := ⟨(.seq (.agg (.dat (.pr (.sl (.pr (.int .i64) .str)) (.int .i64)))) (.seq (.dat (.int .i64)) (.dat (.int .i64)))), 0, (.one ⟨.non, (.tup (.seq (.dat .str) (.dat .bool))), 0, 0⟩), fun x => (F35 x.1 x.2.1 x.2.2)⟩
theorem eF35 (x : gF35.a.T) : kF env (GofL [(60, [gF60])]) (LofL [(35, [])]) 35 (gF35.args x) (gF35.bs x) gF35.r.dec = gF35.F x := by kernel_rfl
theorem sF35 : SpecAt env 3 35 gF35 := mkSpec (r := 2) (gl := [(60, [gF60])]) (L0 := []) (by kernel_rfl) ⟨⟨sF60.up (by decide), trivial⟩, trivial⟩ trivial eF35 (fun h => absurd h (by rw [show env.nl 35 = false by kernel_rfl]; decide))
/-- paging.frameErr$1 -/
def F65 (a0 : (Int × (Bool × (Bool × (Int × (Int × (ByteArray × (Int × Int)))))))) (a1 : Int) (a2 : Bool) (a3 : Bool) (a4 : Int) (a5 : Int) (a6 : ByteArray) (a7 : Int) (a8 : Int) : ((Int × (Bool × (Bool × (Int × (Int × (ByteArray × (Int × Int))))))) × Bool) :=
  ((a1, (a2, (a3, (a4, (a5, (a6, (a7, a8))))))), (bAnd (bAnd a0.2.1 (iEq a0.2.2.2.1 a4)) (iEq a0.2.2.2.2.1 a5)))
def gF65 : FS := ⟨(.seq (.agg (.dat (.pr (.int .i64) (.pr .bool (.pr .bool (.pr (.int .i64) (.pr (.int .i64) (.pr .str (.pr (.int .i64) (.int .i64)))))))))) (.box 0 (.seq (.dat (.int .i64)) (.seq (.dat .bool) (.seq (.dat .bool) (.seq (.dat (.int .i64)) (.seq (.dat (.int .i64)) (.seq (.dat .str) (.seq (.dat (.int .i64)) (.dat (.int .i64))))))))))), 1, (.one ⟨(.box 0 (.seq (.dat (.int .i64)) (.seq (.dat .bool) (.seq (.dat .bool) (.seq (.dat (.int .i64)) (.seq (.dat (.int .i64)) (.seq (.dat .str) (.seq (.dat (.int .i64)) (.dat (.int .i64)))))))))), (.dat .bool), 1, 0⟩), fun x => some (F65 x.1 x.2.1 x.2.2.1 x.2.2.2.1 x.2.2.2.2.1 x.2.2.2.2.2.1 x.2.2.2.2.2.2.1 x.2.2.2.2.2.2.2.1 x.2.2.2.2.2.2.2.2)⟩
theorem eF65 (x : gF65.a.T) : kF env (GofL []) (LofL [(65, [])]) 65 (gF65.args x) (gF65.bs x) gF65.r.dec = gF65.F x := by kernel_rfl
theorem sF65 : SpecAt env 1 65 gF65 := mkSpec (r := 0) (gl := []) (L0 := []) (by kernel_rfl) trivial trivial eF65 (fun h => absurd h (by rw [show env.nl 65 = false by kernel_rfl]; decide))
def B85_0 (a0 : Int) (a1 : Bool) (a2 : Bool) (a3 : Int) (a4 : Int) (a5 : ByteArray) (a6 : Int) (a7 : Int) (a8 : (List (Int × (Bool × (Bool × (Int × (Int × (ByteArray × (Int × Int))))))))) (a9 : Int) (a10 : Int) : Option (((Int × (Bool × (Bool × (Int × (Int × (ByteArray × (Int × Int))))))) × ((List (Int × (Bool × (Bool × (Int × (Int × (ByteArray × (Int × Int)))))))) × (Int × Int))) ⊕ ((Int × (Bool × (Bool × (Int × (Int × (ByteArray × (Int × Int))))))) ⊕ ((Int × (Bool × (Bool × (Int × (Int × (ByteArray × (Int × Int))))))) × Int))) :=
  sel (iLt a10 a9)
    (sel (oIn a10 (lLen a8)) (
    letS (F65 (lAt a8 a10) a0 a1 a2 a3 a4 a5 a6 a7) fun y0 =>
    sel y0.2
      (some (.inr (.inr (y0.1, a10))))
      (some (.inl (y0.1, (a8, (a9, (iAdd .i64 a10 1))))))) none)
    (some (.inr (.inl (a0, (a1, (a2, (a3, (a4, (a5, (a6, a7))))))))))
def L85_0 (x : ((Int × (Bool × (Bool × (Int × (Int × (ByteArray × (Int × Int))))))) × ((List (Int × (Bool × (Bool × (Int × (Int × (ByteArray × (Int × Int)))))))) × (Int × Int)))) : Option ((Int × (Bool × (Bool × (Int × (Int × (ByteArray × (Int × Int))))))) ⊕ ((Int × (Bool × (Bool × (Int × (Int × (ByteArray × (Int × Int))))))) × Int)) := iter (fun (x : ((Int × (Bool × (Bool × (Int × (Int × (ByteArray × (Int × Int))))))) × ((List (Int × (Bool × (Bool × (Int × (Int × (ByteArray × (Int × Int)))))))) × (Int × Int)))) => (B85_0 x.1.1 x.1.2.1 x.1.2.2.1 x.1.2.2.2.1 x.1.2.2.2.2.1 x.1.2.2.2.2.2.1 x.1.2.2.2.2.2.2.1 x.1.2.2.2.2.2.2.2 x.2.1 x.2.2.1 x.2.2.2)) fuel x
def lsL85_0 : LS := ⟨(.one .normal ⟨(.box 0 (.seq (.dat (.int .i64)) (.seq (.dat .bool) (.seq (.dat .bool) (.seq (.dat (.int .i64)) (.seq (.dat (.int .i64)) (.seq (.dat .str) (.seq (.dat (.int .i64)) (.dat (.int .i64)))))))))), [0, 1, 7, 8], (.seq (.dat (.sl (.pr (.int .i64) (.pr .bool (.pr .bool (.pr (.int .i64) (.pr (.int .i64) (.pr .str (.pr (.int .i64) (.int .i64)))))))))) (.seq (.fn 65 (.ptr 0 8 0)) (.seq (.dat (.int .i64)) (.dat (.int .i64))))), 1, 19, 1⟩), (.two (.one (.exit 0) ⟨(.box 0 (.seq (.dat (.int .i64)) (.seq (.dat .bool) (.seq (.dat .bool) (.seq (.dat (.int .i64)) (.seq (.dat (.int .i64)) (.seq (.dat .str) (.seq (.dat (.int .i64)) (.dat (.int .i64)))))))))), [], .non, 1, 19, 1⟩) (.one .ret ⟨(.box 0 (.seq (.dat (.int .i64)) (.seq (.dat .bool) (.seq (.dat .bool) (.seq (.dat (.int .i64)) (.seq (.dat (.int .i64)) (.seq (.dat .str) (.seq (.dat (.int .i64)) (.dat (.int .i64)))))))))), [4], (.dat (.int .i64)), 1, 19, 1⟩)), fun (x : ((Int × (Bool × (Bool × (Int × (Int × (ByteArray × (Int × Int))))))) × ((List (Int × (Bool × (Bool × (Int × (Int × (ByteArray × (Int × Int)))))))) × (Int × Int)))) => (B85_0 x.1.1 x.1.2.1 x.1.2.2.1 x.1.2.2.2.1 x.1.2.2.2.2.1 x.1.2.2.2.2.2.1 x.1.2.2.2.2.2.2.1 x.1.2.2.2.2.2.2.2 x.2.1 x.2.2.1 x.2.2.2)⟩
/-- slices.IndexFunc[[]api.PageFrame,api.PageFrame] -/
def F85 (a0 : (List (Int × (Bool × (Bool × (Int × (Int × (ByteArray × (Int × Int))))))))) (a1 : Int) (a2 : Bool) (a3 : Bool) (a4 : Int) (a5 : Int) (a6 : ByteArray) (a7 : Int) (a8 : Int) : Option ((Int × (Bool × (Bool × (Int × (Int × (ByteArray × (Int × Int))))))) × Int) :=
  bndS (L85_0 ((a1, (a2, (a3, (a4, (a5, (a6, (a7, a8))))))), (a0, ((lLen a0), 0)))) fun y0 =>
  sumS y0 (fun y0a =>
    some (y0a, (-1))) fun y0b =>
    some y0b
def gF85 : FS := ⟨(.seq (.dat (.sl (.pr (.int .i64) (.pr .bool (.pr .bool (.pr (.int .i64) (.pr (.int .i64) (.pr .str (.pr (.int .i64) (.int .i64)))))))))) (.fn 65 (.box 0 (.seq (.dat (.int .i64)) (.seq (.dat .bool) (.seq (.dat .bool) (.seq (.dat (.int .i64)) (.seq (.dat (.int .i64)) (.seq (.dat .str) (.seq (.dat (.int .i64)) (.dat (.int .i64)))))))))))), 1, (.one ⟨(.box 0 (.seq (.dat (.int .i64)) (.seq (.dat .bool) (.seq (.dat .bool) (.seq (.dat (.int .i64)) (.seq (.dat (.int .i64)) (.seq (.dat .str) (.seq (.dat (.int .i64)) (.dat (.int .i64)))))))))), (.dat (.int .i64)), 1, 0⟩), fun x => (F85 x.1 x.2.1 x.2.2.1 x.2.2.2.1 x.2.2.2.2.1 x.2.2.2.2.2.1 x.2.2.2.2.2.2.1 x.2.2.2.2.2.2.2.1 x.2.2.2.2.2.2.2.2)⟩
theorem rL85_0 (x : lsL85_0.hd.T) : kRound env (GofL [(65, [gF65])]) (LofL [(85, [(0, lsL85_0)])]) 85 0 (lpOf Tryz.prog 85 0).2 (lsL85_0.hd.st x) lsL85_0.rd = lsL85_0.B x := by kernel_rfl
theorem eF85 (x : gF85.a.T) : kF env (GofL [(65, [gF65])]) (LofL [(85, [(0, lsL85_0)])]) 85 (gF85.args x) (gF85.bs x) gF85.r.dec = gF85.F x := by kernel_rfl
theorem sF85 : SpecAt env 2 85 gF85 := mkSpec (r := 1) (gl := [(65, [gF65])]) (L0 := [(0, lsL85_0)]) (by kernel_rfl) ⟨⟨sF65.up (by decide), trivial⟩, trivial⟩ ⟨⟨0, by kernel_rfl, by kernel_rfl, rL85_0⟩, trivial⟩ eF85 (fun h => absurd h (by rw [show env.nl 85 = false by kernel_rfl]; decide))
/-- slices.ContainsFunc[[]api.PageFrame,api.PageFrame] -/
def F64 (a0 : (List (Int × (Bool × (Bool × (Int × (Int × (ByteArray × (Int × Int))))))))) (a1 : Int) (a2 : Bool) (a3 : Bool) (a4 : Int) (a5 : Int) (a6 : ByteArray) (a7 : Int) (a8 : Int) : Option ((Int × (Bool × (Bool × (Int × (Int × (ByteArray × (Int × Int))))))) × Bool) :=
  bndS (F85 a0 a1 a2 a3 a4 a5 a6 a7 a8) fun y0 =>
  some (y0.1, (iLe 0 y0.2))
def gF64 : FS := ⟨(.seq (.dat (.sl (.pr (.int .i64) (.pr .bool (.pr .bool (.pr (.int .i64) (.pr (.int .i64) (.pr .str (.pr (.int .i64) (.int .i64)))))))))) (.fn 65 (.box 0 (.seq (.dat (.int .i64)) (.seq (.dat .bool) (.seq (.dat .bool) (.seq (.dat (.int .i64)) (.seq (.dat (.int .i64)) (.seq (.dat .str) (.seq (.dat (.int .i64)) (.dat (.int .i64)))))))))))), 1, (.one ⟨(.box 0 (.seq (.dat (.int .i64)) (.seq (.dat .bool) (.seq (.dat .bool) (.seq (.dat (.int .i64)) (.seq (.dat (.int .i64)) (.seq (.dat .str) (.seq (.dat (.int .i64)) (.dat (.int .i64)))))))))), (.dat .bool), 1, 0⟩), fun x => (F64 x.1 x.2.1 x.2.2.1 x.2.2.2.1 x.2.2.2.2.1 x.2.2.2.2.2.1 x.2.2.2.2.2.2.1 x.2.2.2.2.2.2.2.1 x.2.2.2.2.2.2.2.2)⟩
theorem eF64 (x : gF64.a.T) : kF env (GofL [(85, [gF85])]) (LofL [(64, [])]) 64 (gF64.args x) (gF64.bs x) gF64.r.dec = gF64.F x := by kernel_rfl
theorem sF64 : SpecAt env 3 64 gF64 := mkSpec (r := 2) (gl := [(85, [gF85])]) (L0 := []) (by kernel_rfl) ⟨⟨sF85.up (by decide), trivial⟩, trivial⟩ trivial eF64 (fun h => absurd h (by rw [show env.nl 64 = false by kernel_rfl]; decide))
/-- paging.frameErr -/
def F37 (a0 : (((List (Int × ByteArray)) × Int) × ((List (Int × (Bool × (Bool × (Int × (Int × (ByteArray × (Int × Int)))))))) × ((List Int) × (Int × (Int × Int)))))) (a1 : Int) : Option Int :=
  sel (oIn a1 (lLen a0.2.1)) (
  letS (F32 (lAt a0.2.1 a1).1 0 2) fun y0 =>
  sel (bNot y0)
    (some 3)
    (sel (bNot (lAt a0.2.1 a1).2.1)
      (sel (bNot (bAnd (iEq (lAt a0.2.1 a1).1 (lAt a0.2.1 a1).1) (bAnd (bEq (lAt a0.2.1 a1).2.1 false) (bAnd (bEq (lAt a0.2.1 a1).2.2.1 false) (bAnd (iEq (lAt a0.2.1 a1).2.2.2.1 0) (bAnd (iEq (lAt a0.2.1 a1).2.2.2.2.1 0) (bAnd (sEq (lAt a0.2.1 a1).2.2.2.2.2.1 (bs [])) (bAnd (iEq (lAt a0.2.1 a1).2.2.2.2.2.2.1 0) (iEq (lAt a0.2.1 a1).2.2.2.2.2.2.2 (-1))))))))))
        (some 5)
        (some 0))
      (bndS (F35 a0.1 (lAt a0.2.1 a1).2.2.2.1 (lAt a0.2.1 a1).2.2.2.2.1) fun y1 =>
      sel (bNot y1.2)
        (some 11)
        (sel (bNot (iEq (sLen (lAt a0.2.1 a1).2.2.2.2.2.1) 32))
          (some 18)
          (sel (oCut 0 a1 (lLen a0.2.1)) (
          bndS (F64 (lCut a0.2.1 0 a1) (lAt a0.2.1 a1).1 (lAt a0.2.1 a1).2.1 (lAt a0.2.1 a1).2.2.1 (lAt a0.2.1 a1).2.2.2.1 (lAt a0.2.1 a1).2.2.2.2.1 (lAt a0.2.1 a1).2.2.2.2.2.1 (lAt a0.2.1 a1).2.2.2.2.2.2.1 (lAt a0.2.1 a1).2.2.2.2.2.2.2) fun y2 =>
          sel y2.2
            (some 13)
            (letS (F32 y2.1.2.2.2.2.2.2.1 1 a0.2.2.2.1) fun y3 =>
            sel (bNot y3)
              (some 3)
              (sel (bAnd (bNot y2.1.2.2.1) (bNot (sEq y2.1.2.2.2.2.2.1 y1.1)))
                (some 15)
                (some 0)))) none))))) none
def gF37 : FS := ⟨(.seq (.agg (.dat (.pr (.pr (.sl (.pr (.int .i64) .str)) (.int .i64)) (.pr (.sl (.pr (.int .i64) (.pr .bool (.pr .bool (.pr (.int .i64) (.pr (.int .i64) (.pr .str (.pr (.int .i64) (.int .i64))))))))) (.pr (.sl (.int .i64)) (.pr (.int .i64) (.pr (.int .i64) (.int .i64)))))))) (.dat (.int .i64))), 0, (.one ⟨.non, (.dat (.int .i64)), 0, 0⟩), fun x => (F37 x.1 x.2)⟩
theorem eF37 (x : gF37.a.T) : kF env (GofL [(32, [gF32]), (64, [gF64]), (35, [gF35])]) (LofL [(37, [])]) 37 (gF37.args x) (gF37.bs x) gF37.r.dec = gF37.F x := by kernel_rfl
theorem sF37 : SpecAt env 4 37 gF37 := mkSpec (r := 3) (gl := [(32, [gF32]), (64, [gF64]), (35, [gF35])]) (L0 := []) (by kernel_rfl) ⟨⟨sF32.up (by decide), trivial⟩, ⟨sF64.up (by decide), trivial⟩, ⟨sF35.up (by decide), trivial⟩, trivial⟩ trivial eF37 (fun h => absurd h (by rw [show env.nl 37 = false by kernel_rfl]; decide))
end
end Go.Proofs.YtagcodkkkebnhaaGreat.K
end

section
set_option linter.unusedVariables false
set_option linter.unusedSimpArgs false
set_option linter.unnecessarySimpa false
open Go Go.Ev Go.Proofs
namespace Go.Proofs.YtagcodkkkebnhaaGreat.K
set_option linter.unusedVariables false
set_option maxRecDepth 100000
noncomputable section
def B20_2 (a0 : (List (Int × ByteArray))) (a1 : Int) (a2 : (List (Int × (Bool × (Bool × (Int × (Int × (ByteArray × (Int × Int))))))))) (a3 : (List Int)) (a4 : Int) (a5 : Int) (a6 : Int) (a7 : Int) (a8 : Int) : Option ((((List (Int × ByteArray)) × (Int × ((List (Int × (Bool × (Bool × (Int × (Int × (ByteArray × (Int × Int)))))))) × ((List Int) × (Int × (Int × Int)))))) × (Int × Int)) ⊕ (((List (Int × ByteArray)) × (Int × ((List (Int × (Bool × (Bool × (Int × (Int × (ByteArray × (Int × Int)))))))) × ((List Int) × (Int × (Int × Int)))))) ⊕ Int)) :=
  sel (iLt a8 a7)
    (bndS (F37 ((a0, a1), (a2, (a3, (a4, (a5, a6))))) a8) fun y0 =>
    sel (bNot (iEq y0 0))
      (some (.inr (.inr y0)))
      (some (.inl ((a0, (a1, (a2, (a3, (a4, (a5, a6)))))), (a7, (iAdd .i64 a8 1))))))
    (some (.inr (.inl (a0, (a1, (a2, (a3, (a4, (a5, a6)))))))))
def L20_2 (x : (((List (Int × ByteArray)) × (Int × ((List (Int × (Bool × (Bool × (Int × (Int × (ByteArray × (Int × Int)))))))) × ((List Int) × (Int × (Int × Int)))))) × (Int × Int))) : Option (((List (Int × ByteArray)) × (Int × ((List (Int × (Bool × (Bool × (Int × (Int × (ByteArray × (Int × Int)))))))) × ((List Int) × (Int × (Int × Int)))))) ⊕ Int) := iter (fun (x : (((List (Int × ByteArray)) × (Int × ((List (Int × (Bool × (Bool × (Int × (Int × (ByteArray × (Int × Int)))))))) × ((List Int) × (Int × (Int × Int)))))) × (Int × Int))) => (B20_2 x.1.1 x.1.2.1 x.1.2.2.1 x.1.2.2.2.1 x.1.2.2.2.2.1 x.1.2.2.2.2.2.1 x.1.2.2.2.2.2.2 x.2.1 x.2.2)) fuel x
def lsL20_2 : LS := ⟨(.one .normal ⟨.non, [1, 47, 48], (.seq (.box 0 (.seq (.dat (.sl (.pr (.int .i64) .str))) (.seq (.dat (.int .i64)) (.seq (.dat (.sl (.pr (.int .i64) (.pr .bool (.pr .bool (.pr (.int .i64) (.pr (.int .i64) (.pr .str (.pr (.int .i64) (.int .i64)))))))))) (.seq (.dat (.sl (.int .i64))) (.seq (.dat (.int .i64)) (.seq (.dat (.int .i64)) (.dat (.int .i64))))))))) (.seq (.dat (.int .i64)) (.dat (.int .i64)))), 1, 61, 0⟩), (.two (.one (.exit 2) ⟨.non, [1], (.box 0 (.seq (.dat (.sl (.pr (.int .i64) .str))) (.seq (.dat (.int .i64)) (.seq (.dat (.sl (.pr (.int .i64) (.pr .bool (.pr .bool (.pr (.int .i64) (.pr (.int .i64) (.pr .str (.pr (.int .i64) (.int .i64)))))))))) (.seq (.dat (.sl (.int .i64))) (.seq (.dat (.int .i64)) (.seq (.dat (.int .i64)) (.dat (.int .i64))))))))), 1, 61, 0⟩) (.one .ret ⟨.non, [2], (.dat (.int .i64)), 0, 61, 0⟩)), fun (x : (((List (Int × ByteArray)) × (Int × ((List (Int × (Bool × (Bool × (Int × (Int × (ByteArray × (Int × Int)))))))) × ((List Int) × (Int × (Int × Int)))))) × (Int × Int))) => (B20_2 x.1.1 x.1.2.1 x.1.2.2.1 x.1.2.2.2.1 x.1.2.2.2.2.1 x.1.2.2.2.2.2.1 x.1.2.2.2.2.2.2 x.2.1 x.2.2)⟩
/-- paging.bucket -/
def F63 (a0 : Int) (a1 : Int) : Option Int :=
  sel (oNz 5) (
  some (iRem (iAdd .i64 (iMul .i64 7 a0) a1) 5)) none
def gF63 : FS := ⟨(.seq (.dat (.int .i64)) (.dat (.int .i64))), 0, (.one ⟨.non, (.dat (.int .i64)), 0, 0⟩), fun x => (F63 x.1 x.2)⟩
theorem eF63 (x : gF63.a.T) : kF env (GofL []) (LofL [(63, [])]) 63 (gF63.args x) (gF63.bs x) gF63.r.dec = gF63.F x := by kernel_rfl
theorem sF63 : SpecAt env 1 63 gF63 := mkSpec (r := 0) (gl := []) (L0 := []) (by kernel_rfl) trivial trivial eF63 (fun h => absurd h (by rw [show env.nl 63 = false by kernel_rfl]; decide))
def B38_2 (a0 : (List (Int × ByteArray))) (a1 : Int) (a2 : (List (Int × (Bool × (Bool × (Int × (Int × (ByteArray × (Int × Int))))))))) (a3 : (List Int)) (a4 : Int) (a5 : Int) (a6 : Int) (a7 : (List Bool)) (a8 : Int) (a9 : Int) (a10 : (List Int)) (a11 : Int) (a12 : Int) : Option ((((List (Int × ByteArray)) × (Int × ((List (Int × (Bool × (Bool × (Int × (Int × (ByteArray × (Int × Int)))))))) × ((List Int) × (Int × (Int × Int)))))) × ((List Bool) × (Int × (Int × ((List Int) × (Int × Int)))))) ⊕ ((((List (Int × ByteArray)) × (Int × ((List (Int × (Bool × (Bool × (Int × (Int × (ByteArray × (Int × Int)))))))) × ((List Int) × (Int × (Int × Int)))))) × ((List Bool) × ((List Int) × (Int × Int)))) ⊕ Bool)) :=
  sel (bNot (iEq a9 (-1)))
    (sel (bOr (oIn a9 (lLen a7)) (bNot (bNot (bOr (iLt a9 0) (iLe (lLen a7) a9))))) (
    sel (bOr (oIn a9 (lLen a2)) (bNot (bNot (bOr (bOr (iLt a9 0) (iLe (lLen a7) a9)) (lAt a7 a9))))) (
    sel (bOr (oIn a9 (lLen a2)) (bNot (bNot (bOr (bOr (bOr (iLt a9 0) (iLe (lLen a7) a9)) (lAt a7 a9)) (bNot (lAt a2 a9).2.1))))) (
    sel (bOr (oIn a9 (lLen a2)) (bNot (bNot (bOr (bOr (bOr (iLt a9 0) (iLe (lLen a7) a9)) (lAt a7 a9)) (bNot (lAt a2 a9).2.1))))) (
    sel (bOr (okS (F63 (lAt a2 a9).2.2.2.1 (lAt a2 a9).2.2.2.2.1)) (bNot (bNot (bOr (bOr (bOr (iLt a9 0) (iLe (lLen a7) a9)) (lAt a7 a9)) (bNot (lAt a2 a9).2.1))))) (
    letS (valS (F63 (lAt a2 a9).2.2.2.1 (lAt a2 a9).2.2.2.2.1) 0) fun y0 =>
    sel (bOr (bOr (bOr (bOr (iLt a9 0) (iLe (lLen a7) a9)) (lAt a7 a9)) (bNot (lAt a2 a9).2.1)) (bNot (iEq y0 a8)))
      (some (.inr (.inr false)))
      (sel (oIn a9 (lLen a7)) (
      sel (oIn a9 (lLen a2)) (
      some (.inl ((a0, (a1, (a2, (a3, (a4, (a5, a6)))))), ((lSet a7 a9 true), (a8, ((lAt a2 a9).2.2.2.2.2.2.2, (a10, (a11, a12)))))))) none) none)) none) none) none) none) none)
    (some (.inr (.inl ((a0, (a1, (a2, (a3, (a4, (a5, a6)))))), (a7, (a10, (a11, a12)))))))
def L38_2 (x : (((List (Int × ByteArray)) × (Int × ((List (Int × (Bool × (Bool × (Int × (Int × (ByteArray × (Int × Int)))))))) × ((List Int) × (Int × (Int × Int)))))) × ((List Bool) × (Int × (Int × ((List Int) × (Int × Int))))))) : Option ((((List (Int × ByteArray)) × (Int × ((List (Int × (Bool × (Bool × (Int × (Int × (ByteArray × (Int × Int)))))))) × ((List Int) × (Int × (Int × Int)))))) × ((List Bool) × ((List Int) × (Int × Int)))) ⊕ Bool) := iter (fun (x : (((List (Int × ByteArray)) × (Int × ((List (Int × (Bool × (Bool × (Int × (Int × (ByteArray × (Int × Int)))))))) × ((List Int) × (Int × (Int × Int)))))) × ((List Bool) × (Int × (Int × ((List Int) × (Int × Int))))))) => (B38_2 x.1.1 x.1.2.1 x.1.2.2.1 x.1.2.2.2.1 x.1.2.2.2.2.1 x.1.2.2.2.2.2.1 x.1.2.2.2.2.2.2 x.2.1 x.2.2.1 x.2.2.2.1 x.2.2.2.2.1 x.2.2.2.2.2.1 x.2.2.2.2.2.2)) fuel x
def lsL38_2 : LS := ⟨(.one .normal ⟨.non, [1, 3, 4, 5, 13, 14, 15], (.seq (.box 0 (.seq (.dat (.sl (.pr (.int .i64) .str))) (.seq (.dat (.int .i64)) (.seq (.dat (.sl (.pr (.int .i64) (.pr .bool (.pr .bool (.pr (.int .i64) (.pr (.int .i64) (.pr .str (.pr (.int .i64) (.int .i64)))))))))) (.seq (.dat (.sl (.int .i64))) (.seq (.dat (.int .i64)) (.seq (.dat (.int .i64)) (.dat (.int .i64))))))))) (.seq (.own 1 .bool) (.seq (.dat (.int .i64)) (.seq (.dat (.int .i64)) (.seq (.dat (.sl (.int .i64))) (.seq (.dat (.int .i64)) (.dat (.int .i64)))))))), 2, 88, 0⟩), (.two (.one (.exit 2) ⟨.non, [1, 3, 13, 14, 15], (.seq (.box 0 (.seq (.dat (.sl (.pr (.int .i64) .str))) (.seq (.dat (.int .i64)) (.seq (.dat (.sl (.pr (.int .i64) (.pr .bool (.pr .bool (.pr (.int .i64) (.pr (.int .i64) (.pr .str (.pr (.int .i64) (.int .i64)))))))))) (.seq (.dat (.sl (.int .i64))) (.seq (.dat (.int .i64)) (.seq (.dat (.int .i64)) (.dat (.int .i64))))))))) (.seq (.own 1 .bool) (.seq (.dat (.sl (.int .i64))) (.seq (.dat (.int .i64)) (.dat (.int .i64)))))), 2, 88, 0⟩) (.one .ret ⟨.non, [2], (.dat .bool), 0, 88, 0⟩)), fun (x : (((List (Int × ByteArray)) × (Int × ((List (Int × (Bool × (Bool × (Int × (Int × (ByteArray × (Int × Int)))))))) × ((List Int) × (Int × (Int × Int)))))) × ((List Bool) × (Int × (Int × ((List Int) × (Int × Int))))))) => (B38_2 x.1.1 x.1.2.1 x.1.2.2.1 x.1.2.2.2.1 x.1.2.2.2.2.1 x.1.2.2.2.2.2.1 x.1.2.2.2.2.2.2 x.2.1 x.2.2.1 x.2.2.2.1 x.2.2.2.2.1 x.2.2.2.2.2.1 x.2.2.2.2.2.2)⟩
def B38_0 (a0 : (List (Int × ByteArray))) (a1 : Int) (a2 : (List (Int × (Bool × (Bool × (Int × (Int × (ByteArray × (Int × Int))))))))) (a3 : (List Int)) (a4 : Int) (a5 : Int) (a6 : Int) (a7 : (List Bool)) (a8 : (List Int)) (a9 : Int) (a10 : Int) : Option ((((List (Int × ByteArray)) × (Int × ((List (Int × (Bool × (Bool × (Int × (Int × (ByteArray × (Int × Int)))))))) × ((List Int) × (Int × (Int × Int)))))) × ((List Bool) × ((List Int) × (Int × Int)))) ⊕ ((((List (Int × ByteArray)) × (Int × ((List (Int × (Bool × (Bool × (Int × (Int × (ByteArray × (Int × Int)))))))) × ((List Int) × (Int × (Int × Int)))))) × (List Bool)) ⊕ Bool)) :=
  sel (iLt a10 a9)
    (sel (oIn a10 (lLen a8)) (
    bndS (L38_2 ((a0, (a1, (a2, (a3, (a4, (a5, a6)))))), (a7, (a10, ((lAt a8 a10), (a8, (a9, a10))))))) fun y0 =>
    sumS y0 (fun y0a =>
      some (.inl (y0a.1, (y0a.2.1, (y0a.2.2.1, (y0a.2.2.2.1, (iAdd .i64 y0a.2.2.2.2 1))))))) fun y0b =>
      some (.inr (.inr y0b))) none)
    (some (.inr (.inl ((a0, (a1, (a2, (a3, (a4, (a5, a6)))))), a7))))
def L38_0 (x : (((List (Int × ByteArray)) × (Int × ((List (Int × (Bool × (Bool × (Int × (Int × (ByteArray × (Int × Int)))))))) × ((List Int) × (Int × (Int × Int)))))) × ((List Bool) × ((List Int) × (Int × Int))))) : Option ((((List (Int × ByteArray)) × (Int × ((List (Int × (Bool × (Bool × (Int × (Int × (ByteArray × (Int × Int)))))))) × ((List Int) × (Int × (Int × Int)))))) × (List Bool)) ⊕ Bool) := iter (fun (x : (((List (Int × ByteArray)) × (Int × ((List (Int × (Bool × (Bool × (Int × (Int × (ByteArray × (Int × Int)))))))) × ((List Int) × (Int × (Int × Int)))))) × ((List Bool) × ((List Int) × (Int × Int))))) => (B38_0 x.1.1 x.1.2.1 x.1.2.2.1 x.1.2.2.2.1 x.1.2.2.2.2.1 x.1.2.2.2.2.2.1 x.1.2.2.2.2.2.2 x.2.1 x.2.2.1 x.2.2.2.1 x.2.2.2.2)) fuel x
def lsL38_0 : LS := ⟨(.one .normal ⟨.non, [1, 3, 13, 14, 15], (.seq (.box 0 (.seq (.dat (.sl (.pr (.int .i64) .str))) (.seq (.dat (.int .i64)) (.seq (.dat (.sl (.pr (.int .i64) (.pr .bool (.pr .bool (.pr (.int .i64) (.pr (.int .i64) (.pr .str (.pr (.int .i64) (.int .i64)))))))))) (.seq (.dat (.sl (.int .i64))) (.seq (.dat (.int .i64)) (.seq (.dat (.int .i64)) (.dat (.int .i64))))))))) (.seq (.own 1 .bool) (.seq (.dat (.sl (.int .i64))) (.seq (.dat (.int .i64)) (.dat (.int .i64)))))), 2, 88, 0⟩), (.two (.one (.exit 0) ⟨.non, [1, 3], (.seq (.box 0 (.seq (.dat (.sl (.pr (.int .i64) .str))) (.seq (.dat (.int .i64)) (.seq (.dat (.sl (.pr (.int .i64) (.pr .bool (.pr .bool (.pr (.int .i64) (.pr (.int .i64) (.pr .str (.pr (.int .i64) (.int .i64)))))))))) (.seq (.dat (.sl (.int .i64))) (.seq (.dat (.int .i64)) (.seq (.dat (.int .i64)) (.dat (.int .i64))))))))) (.own 1 .bool)), 2, 88, 0⟩) (.one .ret ⟨.non, [2], (.dat .bool), 0, 88, 0⟩)), fun (x : (((List (Int × ByteArray)) × (Int × ((List (Int × (Bool × (Bool × (Int × (Int × (ByteArray × (Int × Int)))))))) × ((List Int) × (Int × (Int × Int)))))) × ((List Bool) × ((List Int) × (Int × Int))))) => (B38_0 x.1.1 x.1.2.1 x.1.2.2.1 x.1.2.2.2.1 x.1.2.2.2.2.1 x.1.2.2.2.2.2.1 x.1.2.2.2.2.2.2 x.2.1 x.2.2.1 x.2.2.2.1 x.2.2.2.2)⟩
def B38_4 (a0 : (List Bool)) (a1 : (List (Int × (Bool × (Bool × (Int × (Int × (ByteArray × (Int × Int))))))))) (a2 : Int) (a3 : Int) : Option (((List Bool) × ((List (Int × (Bool × (Bool × (Int × (Int × (ByteArray × (Int × Int)))))))) × (Int × Int))) ⊕ (Unit ⊕ Bool)) :=
  sel (iLt a3 a2)
    (sel (oIn a3 (lLen a1)) (
    sel (oIn a3 (lLen a0)) (
    sel (bNot (bEq (lAt a1 a3).2.1 (lAt a0 a3)))
      (some (.inr (.inr false)))
      (some (.inl (a0, (a1, (a2, (iAdd .i64 a3 1))))))) none) none)
    (some (.inr (.inl ())))
def L38_4 (x : ((List Bool) × ((List (Int × (Bool × (Bool × (Int × (Int × (ByteArray × (Int × Int)))))))) × (Int × Int)))) : Option (Unit ⊕ Bool) := iter (fun (x : ((List Bool) × ((List (Int × (Bool × (Bool × (Int × (Int × (ByteArray × (Int × Int)))))))) × (Int × Int)))) => (B38_4 x.1 x.2.1 x.2.2.1 x.2.2.2)) fuel x
def lsL38_4 : LS := ⟨(.one .normal ⟨.non, [3, 73, 74, 75], (.seq (.own 0 .bool) (.seq (.dat (.sl (.pr (.int .i64) (.pr .bool (.pr .bool (.pr (.int .i64) (.pr (.int .i64) (.pr .str (.pr (.int .i64) (.int .i64)))))))))) (.seq (.dat (.int .i64)) (.dat (.int .i64))))), 1, 88, 0⟩), (.two (.one (.exit 4) ⟨.non, [], .non, 0, 88, 0⟩) (.one .ret ⟨.non, [2], (.dat .bool), 0, 88, 0⟩)), fun (x : ((List Bool) × ((List (Int × (Bool × (Bool × (Int × (Int × (ByteArray × (Int × Int)))))))) × (Int × Int)))) => (B38_4 x.1 x.2.1 x.2.2.1 x.2.2.2)⟩
/-- paging.isTable -/
def F38 (a0 : (((List (Int × ByteArray)) × Int) × ((List (Int × (Bool × (Bool × (Int × (Int × (ByteArray × (Int × Int)))))))) × ((List Int) × (Int × (Int × Int)))))) : Option Bool :=
  sel (nCap 1 (lLen a0.2.1)) (
  bndS (L38_0 ((a0.1.1, (a0.1.2, a0.2)), ((lRep (lLen a0.2.1) (false : Bool)), (a0.2.2.1, ((lLen a0.2.2.1), 0))))) fun y0 =>
  sumS y0 (fun y0a =>
    bndS (L38_4 (y0a.2, (y0a.1.2.2.1, ((lLen y0a.1.2.2.1), 0)))) fun y1 =>
    sumS y1 (fun y1a =>
      some true) fun y1b =>
      some y1b) fun y0b =>
    some y0b) none
def gF38 : FS := ⟨(.agg (.dat (.pr (.pr (.sl (.pr (.int .i64) .str)) (.int .i64)) (.pr (.sl (.pr (.int .i64) (.pr .bool (.pr .bool (.pr (.int .i64) (.pr (.int .i64) (.pr .str (.pr (.int .i64) (.int .i64))))))))) (.pr (.sl (.int .i64)) (.pr (.int .i64) (.pr (.int .i64) (.int .i64)))))))), 0, (.one ⟨.non, (.dat .bool), 0, 0⟩), fun x => (F38 x)⟩
theorem rL38_2 (x : lsL38_2.hd.T) : kRound env (GofL [(63, [gF63])]) (LofL [(38, [(2, lsL38_2), (0, lsL38_0), (4, lsL38_4)])]) 38 2 (lpOf Tryz.prog 38 1).2 (lsL38_2.hd.st x) lsL38_2.rd = lsL38_2.B x := by kernel_rfl
theorem rL38_0 (x : lsL38_0.hd.T) : kRound env (GofL [(63, [gF63])]) (LofL [(38, [(2, lsL38_2), (0, lsL38_0), (4, lsL38_4)])]) 38 0 (lpOf Tryz.prog 38 0).2 (lsL38_0.hd.st x) lsL38_0.rd = lsL38_0.B x := by kernel_rfl
theorem rL38_4 (x : lsL38_4.hd.T) : kRound env (GofL [(63, [gF63])]) (LofL [(38, [(2, lsL38_2), (0, lsL38_0), (4, lsL38_4)])]) 38 4 (lpOf Tryz.prog 38 2).2 (lsL38_4.hd.st x) lsL38_4.rd = lsL38_4.B x := by kernel_rfl
theorem eF38 (x : gF38.a.T) : kF env (GofL [(63, [gF63])]) (LofL [(38, [(2, lsL38_2), (0, lsL38_0), (4, lsL38_4)])]) 38 (gF38.args x) (gF38.bs x) gF38.r.dec = gF38.F x := by kernel_rfl
theorem sF38 : SpecAt env 2 38 gF38 := mkSpec (r := 1) (gl := [(63, [gF63])]) (L0 := [(2, lsL38_2), (0, lsL38_0), (4, lsL38_4)]) (by kernel_rfl) ⟨⟨sF63.up (by decide), trivial⟩, trivial⟩ ⟨⟨1, by kernel_rfl, by kernel_rfl, rL38_2⟩, ⟨0, by kernel_rfl, by kernel_rfl, rL38_0⟩, ⟨2, by kernel_rfl, by kernel_rfl, rL38_4⟩, trivial⟩ eF38 (fun h => absurd h (by rw [show env.nl 38 = false by kernel_rfl]; decide))
/-- paging.CheckPaging -/
def F20 (a0 : (((List (Int × ByteArray)) × Int) × ((List (Int × (Bool × (Bool × (Int × (Int × (ByteArray × (Int × Int)))))))) × ((List Int) × (Int × (Int × Int)))))) : Option Int :=
  bndS (F31 a0.1) fun y0 =>
  sel (bNot (iEq y0.2 0))
    (some y0.2)
    (letS (F32 (lLen a0.2.1) 1 8) fun y1 =>
    sel (bOr (bNot y1) (bNot (iEq (lLen a0.2.2.1) 5)))
      (some 6)
      (bndS (L20_0 ((a0.1.1, (a0.1.2, a0.2)), ([a0.2.2.2.1, a0.2.2.2.2.1, a0.2.2.2.2.2], ((lLen [a0.2.2.2.1, a0.2.2.2.2.1, a0.2.2.2.2.2]), 0)))) fun y2 =>
      sumS y2 (fun y2a =>
        bndS (L20_2 (y2a, ((lLen y2a.2.2.1), 0))) fun y3 =>
        sumS y3 (fun y3a =>
          bndS (F38 ((y3a.1, y3a.2.1), y3a.2.2)) fun y4 =>
          sel (bNot y4)
            (some 41)
            (some 0)) fun y3b =>
          some y3b) fun y2b =>
        some y2b))
def gF20 : FS := ⟨(.agg (.dat (.pr (.pr (.sl (.pr (.int .i64) .str)) (.int .i64)) (.pr (.sl (.pr (.int .i64) (.pr .bool (.pr .bool (.pr (.int .i64) (.pr (.int .i64) (.pr .str (.pr (.int .i64) (.int .i64))))))))) (.pr (.sl (.int .i64)) (.pr (.int .i64) (.pr (.int .i64) (.int .i64)))))))), 0, (.one ⟨.non, (.dat (.int .i64)), 0, 0⟩), fun x => (F20 x)⟩
theorem rL20_0 (x : lsL20_0.hd.T) : kRound env (GofL [(38, [gF38]), (37, [gF37]), (32, [gF32]), (31, [gF31])]) (LofL [(20, [(0, lsL20_0), (2, lsL20_2)])]) 20 0 (lpOf Tryz.prog 20 0).2 (lsL20_0.hd.st x) lsL20_0.rd = lsL20_0.B x := by kernel_rfl
theorem rL20_2 (x : lsL20_2.hd.T) : kRound env (GofL [(38, [gF38]), (37, [gF37]), (32, [gF32]), (31, [gF31])]) (LofL [(20, [(0, lsL20_0), (2, lsL20_2)])]) 20 2 (lpOf Tryz.prog 20 1).2 (lsL20_2.hd.st x) lsL20_2.rd = lsL20_2.B x := by kernel_rfl
theorem eF20 (x : gF20.a.T) : kF env (GofL [(38, [gF38]), (37, [gF37]), (32, [gF32]), (31, [gF31])]) (LofL [(20, [(0, lsL20_0), (2, lsL20_2)])]) 20 (gF20.args x) (gF20.bs x) gF20.r.dec = gF20.F x := by kernel_rfl
theorem sF20 : SpecAt env 5 20 gF20 := mkSpec (r := 4) (gl := [(38, [gF38]), (37, [gF37]), (32, [gF32]), (31, [gF31])]) (L0 := [(0, lsL20_0), (2, lsL20_2)]) (by kernel_rfl) ⟨⟨sF38.up (by decide), trivial⟩, ⟨sF37.up (by decide), trivial⟩, ⟨sF32.up (by decide), trivial⟩, ⟨sF31.up (by decide), trivial⟩, trivial⟩ ⟨⟨0, by kernel_rfl, by kernel_rfl, rL20_0⟩, ⟨1, by kernel_rfl, by kernel_rfl, rL20_2⟩, trivial⟩ eF20 (fun h => absurd h (by rw [show env.nl 20 = false by kernel_rfl]; decide))
/-- segment.find$1 -/
def F110 (a0 : (Int × ByteArray)) (a1 : Int) : Int :=
  (iSub .i64 a0.1 a1)
def gF110 : FS := ⟨(.seq (.agg (.dat (.pr (.int .i64) .str))) (.dat (.int .i64))), 0, (.one ⟨.non, (.dat (.int .i64)), 0, 0⟩), fun x => some (F110 x.1 x.2)⟩
theorem eF110 (x : gF110.a.T) : kF env (GofL []) (LofL [(110, [])]) 110 (gF110.args x) (gF110.bs x) gF110.r.dec = gF110.F x := by kernel_rfl
theorem sF110 : SpecAt env 1 110 gF110 := mkSpec (r := 0) (gl := []) (L0 := []) (by kernel_rfl) trivial trivial eF110 (fun h => absurd h (by rw [show env.nl 110 = false by kernel_rfl]; decide))
def B109_0 (a0 : (List (Int × ByteArray))) (a1 : Int) (a2 : Int) (a3 : Int) (a4 : Int) : Option (((List (Int × ByteArray)) × (Int × (Int × (Int × Int)))) ⊕ ((List (Int × ByteArray)) × (Int × (Int × Int)))) :=
  sel (iLt a3 a4)
    (sel (oIn (iCv .i64 (iShr .u64 (iCv .u64 (iAdd .i64 a3 a4)) 1)) (lLen a0)) (
    letS (F110 (lAt a0 (iCv .i64 (iShr .u64 (iCv .u64 (iAdd .i64 a3 a4)) 1))) a1) fun y0 =>
    some (.inl (a0, (a1, (a2, ((sel (iLt y0 0) (iAdd .i64 (iCv .i64 (iShr .u64 (iCv .u64 (iAdd .i64 a3 a4)) 1)) 1) a3), (sel (iLt y0 0) a4 (iCv .i64 (iShr .u64 (iCv .u64 (iAdd .i64 a3 a4)) 1))))))))) none)
    (some (.inr (a0, (a1, (a2, a3)))))
def L109_0 (x : ((List (Int × ByteArray)) × (Int × (Int × (Int × Int))))) : Option ((List (Int × ByteArray)) × (Int × (Int × Int))) := iter (fun (x : ((List (Int × ByteArray)) × (Int × (Int × (Int × Int))))) => (B109_0 x.1 x.2.1 x.2.2.1 x.2.2.2.1 x.2.2.2.2)) fuel x
def lsL109_0 : LS := ⟨(.one .normal ⟨.non, [0, 1, 2, 8, 9, 10], (.seq (.dat (.sl (.pr (.int .i64) .str))) (.seq (.dat (.int .i64)) (.seq (.fn 110 .non) (.seq (.dat (.int .i64)) (.seq (.dat (.int .i64)) (.dat (.int .i64))))))), 0, 49, 0⟩), (.one (.exit 0) ⟨.non, [0, 1, 2, 8, 9], (.seq (.dat (.sl (.pr (.int .i64) .str))) (.seq (.dat (.int .i64)) (.seq (.fn 110 .non) (.seq (.dat (.int .i64)) (.dat (.int .i64)))))), 0, 49, 0⟩), fun (x : ((List (Int × ByteArray)) × (Int × (Int × (Int × Int))))) => (B109_0 x.1 x.2.1 x.2.2.1 x.2.2.2.1 x.2.2.2.2)⟩
/-- slices.BinarySearchFunc[[]api.Segment,api.Segment,int] -/
def F109 (a0 : (List (Int × ByteArray))) (a1 : Int) : Option (Int × Bool) :=
  bndS (L109_0 (a0, (a1, ((lLen a0), (0, (lLen a0)))))) fun y0 =>
  sel (bOr (oIn y0.2.2.2 (lLen y0.1)) (bNot (iLt y0.2.2.2 y0.2.2.1))) (
  letS (F110 (lAt y0.1 y0.2.2.2) y0.2.1) fun y1 =>
  some (y0.2.2.2, (bAnd (iLt y0.2.2.2 y0.2.2.1) (iEq y1 0)))) none
def gF109 : FS := ⟨(.seq (.dat (.sl (.pr (.int .i64) .str))) (.seq (.dat (.int .i64)) (.fn 110 .non))), 0, (.one ⟨.non, (.tup (.seq (.dat (.int .i64)) (.dat .bool))), 0, 0⟩), fun x => (F109 x.1 x.2)⟩
theorem rL109_0 (x : lsL109_0.hd.T) : kRound env (GofL [(110, [gF110])]) (LofL [(109, [(0, lsL109_0)])]) 109 0 (lpOf Tryz.prog 109 0).2 (lsL109_0.hd.st x) lsL109_0.rd = lsL109_0.B x := by kernel_rfl
theorem eF109 (x : gF109.a.T) : kF env (GofL [(110, [gF110])]) (LofL [(109, [(0, lsL109_0)])]) 109 (gF109.args x) (gF109.bs x) gF109.r.dec = gF109.F x := by kernel_rfl
theorem sF109 : SpecAt env 2 109 gF109 := mkSpec (r := 1) (gl := [(110, [gF110])]) (L0 := [(0, lsL109_0)]) (by kernel_rfl) ⟨⟨sF110.up (by decide), trivial⟩, trivial⟩ ⟨⟨0, by kernel_rfl, by kernel_rfl, rL109_0⟩, trivial⟩ eF109 (fun h => absurd h (by rw [show env.nl 109 = false by kernel_rfl]; decide))
/-- segment.find -/
def F97 (a0 : ((List (Int × ByteArray)) × Int)) (a1 : Int) : Option (Int × Int) :=
  bndS (F31 a0) fun y0 =>
  sel (bNot (iEq y0.2 0))
    (some (0, y0.2))
    (bndS (F109 a0.1 a1) fun y1 =>
    sel y1.2
      (some (y1.1, 0))
      (letS (F58 a1 1 (iSub .i64 a0.2 1)) fun y2 =>
      sel y2
        (some (0, 24))
        (some (0, 11))))
def gF97 : FS := ⟨(.seq (.agg (.dat (.pr (.sl (.pr (.int .i64) .str)) (.int .i64)))) (.dat (.int .i64))), 0, (.one ⟨.non, (.tup (.seq (.dat (.int .i64)) (.dat (.int .i64)))), 0, 0⟩), fun x => (F97 x.1 x.2)⟩
theorem eF97 (x : gF97.a.T) : kF env (GofL [(58, [gF58]), (109, [gF109]), (31, [gF31])]) (LofL [(97, [])]) 97 (gF97.args x) (gF97.bs x) gF97.r.dec = gF97.F x := by kernel_rfl
theorem sF97 : SpecAt env 3 97 gF97 := mkSpec (r := 2) (gl := [(58, [gF58]), (109, [gF109]), (31, [gF31])]) (L0 := []) (by kernel_rfl) ⟨⟨sF58.up (by decide), trivial⟩, ⟨sF109.up (by decide), trivial⟩, ⟨sF31.up (by decide), trivial⟩, trivial⟩ trivial eF97 (fun h => absurd h (by rw [show env.nl 97 = false by kernel_rfl]; decide))
/-- segment.bytesAt -/
def F86 (a0 : ((List (Int × ByteArray)) × Int)) (a1 : (Int × Int)) (a2 : Int) : Option (Int × Int) :=
  bndS (F97 a0 a1.1) fun y0 =>
  sel (bNot (iEq y0.2 0))
    (some (0, y0.2))
    (sel (oIn y0.1 (lLen a0.1)) (
    letS (F58 a1.2 0 (sLen (lAt a0.1 y0.1).2)) fun y1 =>
    letS (F58 a2 0 (iSub .i64 (sLen (lAt a0.1 y0.1).2) a1.2)) fun y2 =>
    sel (bOr (bNot y1) (bNot y2))
      (some (0, 3))
      (some (y0.1, 0))) none)
def gF86 : FS := ⟨(.seq (.agg (.dat (.pr (.sl (.pr (.int .i64) .str)) (.int .i64)))) (.seq (.agg (.dat (.pr (.int .i64) (.int .i64)))) (.dat (.int .i64)))), 0, (.one ⟨.non, (.tup (.seq (.dat (.int .i64)) (.dat (.int .i64)))), 0, 0⟩), fun x => (F86 x.1 x.2.1 x.2.2)⟩
theorem eF86 (x : gF86.a.T) : kF env (GofL [(58, [gF58]), (97, [gF97])]) (LofL [(86, [])]) 86 (gF86.args x) (gF86.bs x) gF86.r.dec = gF86.F x := by kernel_rfl
theorem sF86 : SpecAt env 4 86 gF86 := mkSpec (r := 3) (gl := [(58, [gF58]), (97, [gF97])]) (L0 := []) (by kernel_rfl) ⟨⟨sF58.up (by decide), trivial⟩, ⟨sF97.up (by decide), trivial⟩, trivial⟩ trivial eF86 (fun h => absurd h (by rw [show env.nl 86 = false by kernel_rfl]; decide))
/-- segment.ReadAt -/
def F66 (a0 : ((List (Int × ByteArray)) × Int)) (a1 : (Int × Int)) (a2 : Int) : Option (ByteArray × Int) :=
  bndS (F86 a0 a1 a2) fun y0 =>
  sel (bNot (iEq y0.2 0))
    (some ((bs []), y0.2))
    (sel (oIn y0.1 (lLen a0.1)) (
    sel (oCut a1.2 (iAdd .i64 a1.2 a2) (sLen (lAt a0.1 y0.1).2)) (
    some ((sCut (lAt a0.1 y0.1).2 a1.2 (iAdd .i64 a1.2 a2)), 0)) none) none)
def gF66 : FS := ⟨(.seq (.agg (.dat (.pr (.sl (.pr (.int .i64) .str)) (.int .i64)))) (.seq (.agg (.dat (.pr (.int .i64) (.int .i64)))) (.dat (.int .i64)))), 0, (.one ⟨.non, (.tup (.seq (.dat .str) (.dat (.int .i64)))), 0, 0⟩), fun x => (F66 x.1 x.2.1 x.2.2)⟩
theorem eF66 (x : gF66.a.T) : kF env (GofL [(86, [gF86])]) (LofL [(66, [])]) 66 (gF66.args x) (gF66.bs x) gF66.r.dec = gF66.F x := by kernel_rfl
theorem sF66 : SpecAt env 5 66 gF66 := mkSpec (r := 4) (gl := [(86, [gF86])]) (L0 := []) (by kernel_rfl) ⟨⟨sF86.up (by decide), trivial⟩, trivial⟩ trivial eF66 (fun h => absurd h (by rw [show env.nl 66 = false by kernel_rfl]; decide))
/-- paging.victim$1$1 -/
def F88 (a0 : (Int × (Bool × (Bool × (Int × (Int × (ByteArray × (Int × Int)))))))) : Option Int :=
  sel (bNot a0.2.1)
    (some 0)
    (sel (bNot a0.2.2.1)
      (some 1)
      (some 2))
def gF88 : FS := ⟨(.agg (.dat (.pr (.int .i64) (.pr .bool (.pr .bool (.pr (.int .i64) (.pr (.int .i64) (.pr .str (.pr (.int .i64) (.int .i64)))))))))), 0, (.one ⟨.non, (.dat (.int .i64)), 0, 0⟩), fun x => (F88 x)⟩
theorem eF88 (x : gF88.a.T) : kF env (GofL []) (LofL [(88, [])]) 88 (gF88.args x) (gF88.bs x) gF88.r.dec = gF88.F x := by kernel_rfl
theorem sF88 : SpecAt env 1 88 gF88 := mkSpec (r := 0) (gl := []) (L0 := []) (by kernel_rfl) trivial trivial eF88 (fun h => absurd h (by rw [show env.nl 88 = false by kernel_rfl]; decide))
/-- cmp.isNaN[int] -/
def F91 (a0 : Int) : Bool :=
  (bNot (iEq a0 a0))
def gF91 : FS := ⟨(.dat (.int .i64)), 0, (.one ⟨.non, (.dat .bool), 0, 0⟩), fun x => some (F91 x)⟩
theorem eF91 (x : gF91.a.T) : kF env (GofL []) (LofL [(91, [])]) 91 (gF91.args x) (gF91.bs x) gF91.r.dec = gF91.F x := by kernel_rfl
theorem sF91 : SpecAt env 1 91 gF91 := mkSpec (r := 0) (gl := []) (L0 := []) (by kernel_rfl) trivial trivial eF91 (fun h => absurd h (by rw [show env.nl 91 = false by kernel_rfl]; decide))
/-- cmp.Compare[int] -/
def F71 (a0 : Int) (a1 : Int) : Option Int :=
  letS (F91 a0) fun y0 =>
  letS (F91 a1) fun y1 =>
  sel y0
    (sel y1
      (some 0)
      (some (-1)))
    (sel y1
      (some 1)
      (sel (iLt a0 a1)
        (some (-1))
        (sel (iLt a1 a0)
          (some 1)
          (some 0))))
def gF71 : FS := ⟨(.seq (.dat (.int .i64)) (.dat (.int .i64))), 0, (.one ⟨.non, (.dat (.int .i64)), 0, 0⟩), fun x => (F71 x.1 x.2)⟩
theorem eF71 (x : gF71.a.T) : kF env (GofL [(91, [gF91])]) (LofL [(71, [])]) 71 (gF71.args x) (gF71.bs x) gF71.r.dec = gF71.F x := by kernel_rfl
theorem sF71 : SpecAt env 2 71 gF71 := mkSpec (r := 1) (gl := [(91, [gF91])]) (L0 := []) (by kernel_rfl) ⟨⟨sF91.up (by decide), trivial⟩, trivial⟩ trivial eF71 (fun h => absurd h (by rw [show env.nl 71 = false by kernel_rfl]; decide))
def B70_0 (a0 : Int) (a1 : (List Int)) (a2 : Int) (a3 : Int) : Option ((Int × ((List Int) × (Int × Int))) ⊕ (Int ⊕ Int)) :=
  sel (iLt a3 a2)
    (sel (oIn a3 (lLen a1)) (
    sel (bNot (iEq (lAt a1 a3) a0))
      (some (.inr (.inr (lAt a1 a3))))
      (some (.inl (a0, (a1, (a2, (iAdd .i64 a3 1))))))) none)
    (some (.inr (.inl a0)))
def L70_0 (x : (Int × ((List Int) × (Int × Int)))) : Option (Int ⊕ Int) := iter (fun (x : (Int × ((List Int) × (Int × Int)))) => (B70_0 x.1 x.2.1 x.2.2.1 x.2.2.2)) fuel x
def lsL70_0 : LS := ⟨(.one .normal ⟨.non, [3, 6, 7, 8], (.seq (.dat (.int .i64)) (.seq (.dat (.sl (.int .i64))) (.seq (.dat (.int .i64)) (.dat (.int .i64))))), 0, 18, 0⟩), (.two (.one (.exit 0) ⟨.non, [3], (.dat (.int .i64)), 0, 18, 0⟩) (.one .ret ⟨.non, [2], (.dat (.int .i64)), 0, 18, 0⟩)), fun (x : (Int × ((List Int) × (Int × Int)))) => (B70_0 x.1 x.2.1 x.2.2.1 x.2.2.2)⟩
/-- cmp.Or[int] -/
def F70 (a0 : (List Int)) : Option Int :=
  bndS (L70_0 (0, (a0, ((lLen a0), 0)))) fun y0 =>
  sumS y0 (fun y0a =>
    some y0a) fun y0b =>
    some y0b
def gF70 : FS := ⟨(.dat (.sl (.int .i64))), 0, (.one ⟨.non, (.dat (.int .i64)), 0, 0⟩), fun x => (F70 x)⟩
theorem rL70_0 (x : lsL70_0.hd.T) : kRound env (GofL []) (LofL [(70, [(0, lsL70_0)])]) 70 0 (lpOf Tryz.prog 70 0).2 (lsL70_0.hd.st x) lsL70_0.rd = lsL70_0.B x := by kernel_rfl
theorem eF70 (x : gF70.a.T) : kF env (GofL []) (LofL [(70, [(0, lsL70_0)])]) 70 (gF70.args x) (gF70.bs x) gF70.r.dec = gF70.F x := by kernel_rfl
theorem sF70 : SpecAt env 1 70 gF70 := mkSpec (r := 0) (gl := []) (L0 := [(0, lsL70_0)]) (by kernel_rfl) trivial ⟨⟨0, by kernel_rfl, by kernel_rfl, rL70_0⟩, trivial⟩ eF70 (fun h => absurd h (by rw [show env.nl 70 = false by kernel_rfl]; decide))
/-- paging.victim$1 -/
def F87 (a0 : (Int × (Bool × (Bool × (Int × (Int × (ByteArray × (Int × Int)))))))) (a1 : (Int × (Bool × (Bool × (Int × (Int × (ByteArray × (Int × Int)))))))) : Option Bool :=
  bndS (F88 a0) fun y0 =>
  bndS (F88 a1) fun y1 =>
  bndS (F71 y0 y1) fun y2 =>
  bndS (F71 a0.2.2.2.2.2.2.1 a1.2.2.2.2.2.2.1) fun y3 =>
  bndS (F70 [y2, y3]) fun y4 =>
  some (iLt y4 0)
def gF87 : FS := ⟨(.seq (.agg (.dat (.pr (.int .i64) (.pr .bool (.pr .bool (.pr (.int .i64) (.pr (.int .i64) (.pr .str (.pr (.int .i64) (.int .i64)))))))))) (.agg (.dat (.pr (.int .i64) (.pr .bool (.pr .bool (.pr (.int .i64) (.pr (.int .i64) (.pr .str (.pr (.int .i64) (.int .i64))))))))))), 0, (.one ⟨.non, (.dat .bool), 0, 0⟩), fun x => (F87 x.1 x.2)⟩
theorem eF87 (x : gF87.a.T) : kF env (GofL [(70, [gF70]), (71, [gF71]), (88, [gF88])]) (LofL [(87, [])]) 87 (gF87.args x) (gF87.bs x) gF87.r.dec = gF87.F x := by kernel_rfl
theorem sF87 : SpecAt env 3 87 gF87 := mkSpec (r := 2) (gl := [(70, [gF70]), (71, [gF71]), (88, [gF88])]) (L0 := []) (by kernel_rfl) ⟨⟨sF70.up (by decide), trivial⟩, ⟨sF71.up (by decide), trivial⟩, ⟨sF88.up (by decide), trivial⟩, trivial⟩ trivial eF87 (fun h => absurd h (by rw [show env.nl 87 = false by kernel_rfl]; decide))
def B67_0 (a0 : Int) (a1 : (List (Int × ByteArray))) (a2 : Int) (a3 : (List (Int × (Bool × (Bool × (Int × (Int × (ByteArray × (Int × Int))))))))) (a4 : (List Int)) (a5 : Int) (a6 : Int) (a7 : Int) (a8 : Int) (a9 : (List (Int × (Bool × (Bool × (Int × (Int × (ByteArray × (Int × Int))))))))) (a10 : Int) (a11 : Int) : Option ((Int × (((List (Int × ByteArray)) × (Int × ((List (Int × (Bool × (Bool × (Int × (Int × (ByteArray × (Int × Int)))))))) × ((List Int) × (Int × (Int × Int)))))) × (Int × ((List (Int × (Bool × (Bool × (Int × (Int × (ByteArray × (Int × Int)))))))) × (Int × Int))))) ⊕ Int) :=
  sel (iLt a11 a10)
    (sel (oIn a11 (lLen a9)) (
    sel (bOr (oIn a8 (lLen a3)) (bNot (bAnd (iEq (lAt a9 a11).1 a0) (bNot (iLt a8 0))))) (
    sel (bOr (okS (F87 (lAt a9 a11) (lAt a3 a8))) (bNot (bAnd (iEq (lAt a9 a11).1 a0) (bNot (iLt a8 0))))) (
    letS (valS (F87 (lAt a9 a11) (lAt a3 a8)) false) fun y0 =>
    some (.inl (a0, ((a1, (a2, (a3, (a4, (a5, (a6, a7)))))), ((sel (bAnd (iEq (lAt a9 a11).1 a0) (bOr (iLt a8 0) y0)) a11 a8), (a9, (a10, (iAdd .i64 a11 1)))))))) none) none) none)
    (some (.inr a8))
def L67_0 (x : (Int × (((List (Int × ByteArray)) × (Int × ((List (Int × (Bool × (Bool × (Int × (Int × (ByteArray × (Int × Int)))))))) × ((List Int) × (Int × (Int × Int)))))) × (Int × ((List (Int × (Bool × (Bool × (Int × (Int × (ByteArray × (Int × Int)))))))) × (Int × Int)))))) : Option Int := iter (fun (x : (Int × (((List (Int × ByteArray)) × (Int × ((List (Int × (Bool × (Bool × (Int × (Int × (ByteArray × (Int × Int)))))))) × ((List Int) × (Int × (Int × Int)))))) × (Int × ((List (Int × (Bool × (Bool × (Int × (Int × (ByteArray × (Int × Int)))))))) × (Int × Int)))))) => (B67_0 x.1 x.2.1.1 x.2.1.2.1 x.2.1.2.2.1 x.2.1.2.2.2.1 x.2.1.2.2.2.2.1 x.2.1.2.2.2.2.2.1 x.2.1.2.2.2.2.2.2 x.2.2.1 x.2.2.2.1 x.2.2.2.2.1 x.2.2.2.2.2)) fuel x
def lsL67_0 : LS := ⟨(.one .normal ⟨.non, [1, 2, 5, 6, 10, 11, 12], (.seq (.dat (.int .i64)) (.seq (.box 0 (.seq (.dat (.sl (.pr (.int .i64) .str))) (.seq (.dat (.int .i64)) (.seq (.dat (.sl (.pr (.int .i64) (.pr .bool (.pr .bool (.pr (.int .i64) (.pr (.int .i64) (.pr .str (.pr (.int .i64) (.int .i64)))))))))) (.seq (.dat (.sl (.int .i64))) (.seq (.dat (.int .i64)) (.seq (.dat (.int .i64)) (.dat (.int .i64))))))))) (.seq (.dat (.int .i64)) (.seq (.fn 87 .non) (.seq (.dat (.sl (.pr (.int .i64) (.pr .bool (.pr .bool (.pr (.int .i64) (.pr (.int .i64) (.pr .str (.pr (.int .i64) (.int .i64)))))))))) (.seq (.dat (.int .i64)) (.dat (.int .i64)))))))), 1, 38, 0⟩), (.one (.exit 0) ⟨.non, [5], (.dat (.int .i64)), 0, 38, 0⟩), fun (x : (Int × (((List (Int × ByteArray)) × (Int × ((List (Int × (Bool × (Bool × (Int × (Int × (ByteArray × (Int × Int)))))))) × ((List Int) × (Int × (Int × Int)))))) × (Int × ((List (Int × (Bool × (Bool × (Int × (Int × (ByteArray × (Int × Int)))))))) × (Int × Int)))))) => (B67_0 x.1 x.2.1.1 x.2.1.2.1 x.2.1.2.2.1 x.2.1.2.2.2.1 x.2.1.2.2.2.2.1 x.2.1.2.2.2.2.2.1 x.2.1.2.2.2.2.2.2 x.2.2.1 x.2.2.2.1 x.2.2.2.2.1 x.2.2.2.2.2)⟩
/-- paging.victim -/
def F67 (a0 : (((List (Int × ByteArray)) × Int) × ((List (Int × (Bool × (Bool × (Int × (Int × (ByteArray × (Int × Int)))))))) × ((List Int) × (Int × (Int × Int)))))) (a1 : Int) : Option Int :=
  bndS (L67_0 (a1, ((a0.1.1, (a0.1.2, a0.2)), ((-1), (a0.2.1, ((lLen a0.2.1), 0)))))) fun y0 =>
  some y0
def gF67 : FS := ⟨(.seq (.agg (.dat (.pr (.pr (.sl (.pr (.int .i64) .str)) (.int .i64)) (.pr (.sl (.pr (.int .i64) (.pr .bool (.pr .bool (.pr (.int .i64) (.pr (.int .i64) (.pr .str (.pr (.int .i64) (.int .i64))))))))) (.pr (.sl (.int .i64)) (.pr (.int .i64) (.pr (.int .i64) (.int .i64)))))))) (.dat (.int .i64))), 0, (.one ⟨.non, (.dat (.int .i64)), 0, 0⟩), fun x => (F67 x.1 x.2)⟩
theorem rL67_0 (x : lsL67_0.hd.T) : kRound env (GofL [(87, [gF87])]) (LofL [(67, [(0, lsL67_0)])]) 67 0 (lpOf Tryz.prog 67 0).2 (lsL67_0.hd.st x) lsL67_0.rd = lsL67_0.B x := by kernel_rfl
theorem eF67 (x : gF67.a.T) : kF env (GofL [(87, [gF87])]) (LofL [(67, [(0, lsL67_0)])]) 67 (gF67.args x) (gF67.bs x) gF67.r.dec = gF67.F x := by kernel_rfl
theorem sF67 : SpecAt env 4 67 gF67 := mkSpec (r := 3) (gl := [(87, [gF87])]) (L0 := [(0, lsL67_0)]) (by kernel_rfl) ⟨⟨sF87.up (by decide), trivial⟩, trivial⟩ ⟨⟨0, by kernel_rfl, by kernel_rfl, rL67_0⟩, trivial⟩ eF67 (fun h => absurd h (by rw [show env.nl 67 = false by kernel_rfl]; decide))
/-- paging.accessErr -/
def F39 (a0 : (((List (Int × ByteArray)) × Int) × ((List (Int × (Bool × (Bool × (Int × (Int × (ByteArray × (Int × Int)))))))) × ((List Int) × (Int × (Int × Int)))))) (a1 : (Int × (Int × ((Int × Int) × (Int × ByteArray))))) : Option Int :=
  sel (iEq a1.1 0)
    (sel (bNot (bAnd (iEq a1.1 a1.1) (bAnd (iEq a1.2.1 a1.2.1) (bAnd (iEq a1.2.2.1.1 a1.2.2.1.1) (bAnd (iEq a1.2.2.1.2 a1.2.2.1.2) (bAnd (iEq a1.2.2.2.1 a1.2.2.2.1) (sEq a1.2.2.2.2 (bs []))))))))
      (some 5)
      (sel (iEq a1.1 3)
        (some 0)
        (sel (iEq a1.1 2)
          (bndS (F66 a0.1 (a1.2.2.1.1, 0) 0) fun y15 =>
          some y15.2)
          (letS (F32 a1.2.1 0 2) fun y12 =>
          sel (bNot y12)
            (some 3)
            (bndS (F66 a0.1 a1.2.2.1 (iAdd .i64 a1.2.2.2.1 (sLen a1.2.2.2.2))) fun y13 =>
            sel (bNot (iEq y13.2 0))
              (some y13.2)
              (bndS (F67 a0 a1.2.1) fun y14 =>
              sel (iLt y14 0)
                (some 40)
                (some 0)))))))
    (sel (iEq a1.1 1)
      (sel (bNot (bAnd (iEq a1.1 a1.1) (bAnd (iEq a1.2.1 a1.2.1) (bAnd (iEq a1.2.2.1.1 a1.2.2.1.1) (bAnd (iEq a1.2.2.1.2 a1.2.2.1.2) (bAnd (iEq a1.2.2.2.1 0) (sEq a1.2.2.2.2 a1.2.2.2.2)))))))
        (some 5)
        (sel (iEq a1.1 3)
          (some 0)
          (sel (iEq a1.1 2)
            (bndS (F66 a0.1 (a1.2.2.1.1, 0) 0) fun y11 =>
            some y11.2)
            (letS (F32 a1.2.1 0 2) fun y8 =>
            sel (bNot y8)
              (some 3)
              (bndS (F66 a0.1 a1.2.2.1 (iAdd .i64 a1.2.2.2.1 (sLen a1.2.2.2.2))) fun y9 =>
              sel (bNot (iEq y9.2 0))
                (some y9.2)
                (bndS (F67 a0 a1.2.1) fun y10 =>
                sel (iLt y10 0)
                  (some 40)
                  (some 0)))))))
      (sel (iEq a1.1 2)
        (sel (bNot (bAnd (iEq a1.1 a1.1) (bAnd (iEq a1.2.1 0) (bAnd (iEq a1.2.2.1.1 a1.2.2.1.1) (bAnd (iEq a1.2.2.1.2 0) (bAnd (iEq a1.2.2.2.1 0) (sEq a1.2.2.2.2 (bs []))))))))
          (some 5)
          (sel (iEq a1.1 3)
            (some 0)
            (sel (iEq a1.1 2)
              (bndS (F66 a0.1 (a1.2.2.1.1, 0) 0) fun y7 =>
              some y7.2)
              (letS (F32 a1.2.1 0 2) fun y4 =>
              sel (bNot y4)
                (some 3)
                (bndS (F66 a0.1 a1.2.2.1 (iAdd .i64 a1.2.2.2.1 (sLen a1.2.2.2.2))) fun y5 =>
                sel (bNot (iEq y5.2 0))
                  (some y5.2)
                  (bndS (F67 a0 a1.2.1) fun y6 =>
                  sel (iLt y6 0)
                    (some 40)
                    (some 0)))))))
        (sel (iEq a1.1 3)
          (sel (bNot (bAnd (iEq a1.1 a1.1) (bAnd (iEq a1.2.1 0) (bAnd (iEq a1.2.2.1.1 0) (bAnd (iEq a1.2.2.1.2 0) (bAnd (iEq a1.2.2.2.1 0) (sEq a1.2.2.2.2 (bs []))))))))
            (some 5)
            (sel (iEq a1.1 3)
              (some 0)
              (sel (iEq a1.1 2)
                (bndS (F66 a0.1 (a1.2.2.1.1, 0) 0) fun y3 =>
                some y3.2)
                (letS (F32 a1.2.1 0 2) fun y0 =>
                sel (bNot y0)
                  (some 3)
                  (bndS (F66 a0.1 a1.2.2.1 (iAdd .i64 a1.2.2.2.1 (sLen a1.2.2.2.2))) fun y1 =>
                  sel (bNot (iEq y1.2 0))
                    (some y1.2)
                    (bndS (F67 a0 a1.2.1) fun y2 =>
                    sel (iLt y2 0)
                      (some 40)
                      (some 0)))))))
          (some 4))))
def gF39 : FS := ⟨(.seq (.agg (.dat (.pr (.pr (.sl (.pr (.int .i64) .str)) (.int .i64)) (.pr (.sl (.pr (.int .i64) (.pr .bool (.pr .bool (.pr (.int .i64) (.pr (.int .i64) (.pr .str (.pr (.int .i64) (.int .i64))))))))) (.pr (.sl (.int .i64)) (.pr (.int .i64) (.pr (.int .i64) (.int .i64)))))))) (.agg (.dat (.pr (.int .i64) (.pr (.int .i64) (.pr (.pr (.int .i64) (.int .i64)) (.pr (.int .i64) .str))))))), 0, (.one ⟨.non, (.dat (.int .i64)), 0, 0⟩), fun x => (F39 x.1 x.2)⟩
theorem eF39 (x : gF39.a.T) : kF env (GofL [(66, [gF66]), (67, [gF67]), (32, [gF32])]) (LofL [(39, [])]) 39 (gF39.args x) (gF39.bs x) gF39.r.dec = gF39.F x := by kernel_rfl
theorem sF39 : SpecAt env 6 39 gF39 := mkSpec (r := 5) (gl := [(66, [gF66]), (67, [gF67]), (32, [gF32])]) (L0 := []) (by kernel_rfl) ⟨⟨sF66.up (by decide), trivial⟩, ⟨sF67.up (by decide), trivial⟩, ⟨sF32.up (by decide), trivial⟩, trivial⟩ trivial eF39 (fun h => absurd h (by rw [show env.nl 39 = false by kernel_rfl]; decide))
def B62_0 (a0 : (List (Int × ByteArray))) (a1 : Int) (a2 : (List (Int × (Bool × (Bool × (Int × (Int × (ByteArray × (Int × Int))))))))) (a3 : (List Int)) (a4 : Int) (a5 : Int) (a6 : Int) (a7 : (List Int)) (a8 : Int) : Option ((((List (Int × ByteArray)) × (Int × ((List (Int × (Bool × (Bool × (Int × (Int × (ByteArray × (Int × Int)))))))) × ((List Int) × (Int × (Int × Int)))))) × ((List Int) × Int)) ⊕ (List Int)) :=
  sel (bNot (iEq a8 (-1)))
    (sel (lCap 8 (lApp a7 [a8])) (
    sel (oIn a8 (lLen a2)) (
    some (.inl ((a0, (a1, (a2, (a3, (a4, (a5, a6)))))), ((lApp a7 [a8]), (lAt a2 a8).2.2.2.2.2.2.2)))) none) none)
    (some (.inr a7))
def L62_0 (x : (((List (Int × ByteArray)) × (Int × ((List (Int × (Bool × (Bool × (Int × (Int × (ByteArray × (Int × Int)))))))) × ((List Int) × (Int × (Int × Int)))))) × ((List Int) × Int))) : Option (List Int) := iter (fun (x : (((List (Int × ByteArray)) × (Int × ((List (Int × (Bool × (Bool × (Int × (Int × (ByteArray × (Int × Int)))))))) × ((List Int) × (Int × (Int × Int)))))) × ((List Int) × Int))) => (B62_0 x.1.1 x.1.2.1 x.1.2.2.1 x.1.2.2.2.1 x.1.2.2.2.2.1 x.1.2.2.2.2.2.1 x.1.2.2.2.2.2.2 x.2.1 x.2.2)) fuel x
def lsL62_0 : LS := ⟨(.one .normal ⟨.non, [2, 5, 6], (.seq (.box 0 (.seq (.dat (.sl (.pr (.int .i64) .str))) (.seq (.dat (.int .i64)) (.seq (.dat (.sl (.pr (.int .i64) (.pr .bool (.pr .bool (.pr (.int .i64) (.pr (.int .i64) (.pr .str (.pr (.int .i64) (.int .i64)))))))))) (.seq (.dat (.sl (.int .i64))) (.seq (.dat (.int .i64)) (.seq (.dat (.int .i64)) (.dat (.int .i64))))))))) (.seq (.own 1 (.int .i64)) (.dat (.int .i64)))), 2, 25, 0⟩), (.one (.exit 0) ⟨.non, [5], (.own 0 (.int .i64)), 1, 25, 0⟩), fun (x : (((List (Int × ByteArray)) × (Int × ((List (Int × (Bool × (Bool × (Int × (Int × (ByteArray × (Int × Int)))))))) × ((List Int) × (Int × (Int × Int)))))) × ((List Int) × Int))) => (B62_0 x.1.1 x.1.2.1 x.1.2.2.1 x.1.2.2.2.1 x.1.2.2.2.2.1 x.1.2.2.2.2.2.1 x.1.2.2.2.2.2.2 x.2.1 x.2.2)⟩
/-- paging.chain -/
def F62 (a0 : (((List (Int × ByteArray)) × Int) × ((List (Int × (Bool × (Bool × (Int × (Int × (ByteArray × (Int × Int)))))))) × ((List Int) × (Int × (Int × Int)))))) (a1 : Int) : Option (List Int) :=
  sel (oIn a1 (lLen a0.2.2.1)) (
  bndS (L62_0 ((a0.1.1, (a0.1.2, a0.2)), (([] : List Int), (lAt a0.2.2.1 a1)))) fun y0 =>
  some y0) none
def gF62 : FS := ⟨(.seq (.agg (.dat (.pr (.pr (.sl (.pr (.int .i64) .str)) (.int .i64)) (.pr (.sl (.pr (.int .i64) (.pr .bool (.pr .bool (.pr (.int .i64) (.pr (.int .i64) (.pr .str (.pr (.int .i64) (.int .i64))))))))) (.pr (.sl (.int .i64)) (.pr (.int .i64) (.pr (.int .i64) (.int .i64)))))))) (.dat (.int .i64))), 0, (.one ⟨.non, (.own 0 (.int .i64)), 0, 1⟩), fun x => (F62 x.1 x.2)⟩
theorem rL62_0 (x : lsL62_0.hd.T) : kRound env (GofL []) (LofL [(62, [(0, lsL62_0)])]) 62 0 (lpOf Tryz.prog 62 0).2 (lsL62_0.hd.st x) lsL62_0.rd = lsL62_0.B x := by kernel_rfl
theorem eF62 (x : gF62.a.T) : kF env (GofL []) (LofL [(62, [(0, lsL62_0)])]) 62 (gF62.args x) (gF62.bs x) gF62.r.dec = gF62.F x := by kernel_rfl
theorem sF62 : SpecAt env 1 62 gF62 := mkSpec (r := 0) (gl := []) (L0 := [(0, lsL62_0)]) (by kernel_rfl) trivial ⟨⟨0, by kernel_rfl, by kernel_rfl, rL62_0⟩, trivial⟩ eF62 (fun h => absurd h (by rw [show env.nl 62 = false by kernel_rfl]; decide))
end
end Go.Proofs.YtagcodkkkebnhaaGreat.K
end
