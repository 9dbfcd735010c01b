/- A part of the proof: texts of the author, joined. -/
import Derived.Test.YtagcodkkkebnhaaKE6
import Derived.Deep.Slices
import Derived.ChangeShapes
import Derived.ChangeArms
import Derived.WideShapes
import Derived.Below
import Derived.Test.YtagcodkkkebnhaaProg
import Derived.KernelRfl
section
set_option linter.unusedVariables false
set_option linter.unusedSimpArgs false
set_option linter.unnecessarySimpa false
namespace Go.Ev
open Go Go.Deep Go.ChangeShapes

/-! ## Reading the arguments of a law -/
/-- What a reading holds to. -/
def Ty.wf : (t : Ty) → t.T → Prop
  | .int k, n => (Lit.int k n).wf = true
  | .bool, _ => True
  | .str, s => s.size ≤ 9223372036854775807
  | .sl e, l => l.length ≤ 9223372036854775807 ∧ ∀ x ∈ l, e.wf x
  | .pr a b, x => a.wf x.1 ∧ b.wf x.2
def fsB (P : Program) (g : TypeId → Ty → Bool) : List Field → Nat → Ty → Bool
  | [f], o, t => Nat.beq f.offset o && (Nat.beq (P.cellsOf f.type) t.size && g f.type t)
  | f :: r, o, .pr a b => Nat.beq f.offset o && (Nat.beq (P.cellsOf f.type) a.size && (g f.type a && fsB P g r (o + a.size) b))
  | _, _, _ => false
/-- The program's type is this type of plain data. -/
def tyB (P : Program) : Nat → TypeId → Ty → Bool
  | 0, _, _ => false
  | n + 1, t, s => match P.underlying t with
    | some (.int k) => (match s with | .int k' => Nat.beq (kindN k) (kindN k') | _ => false)
    | some .bool => (match s with | .bool => true | _ => false)
    | some .string => (match s with | .str => true | _ => false)
    | some (.slice e) => (match s with | .sl σ => Nat.beq (P.cellsOf e) σ.size && tyB P n e σ | _ => false)
    | some (.struct fs) => Nat.beq (P.cellsOf t) s.size && fsB P (tyB P n) fs.toList 0 s
    | _ => false

section
variable {H : Type} {enc' : TypeId × Value → H} {P : Program} {w : World} {base : Nat} {spare : Nat → Bool} {held : Bool}
/-- These cells read as0 this. -/
def RdC (w : World) (s : Ty) (cs : List Value) (x : s.T) : Prop := s.wf x ∧ ∃ vs, RCell s x vs ∧ ∀ K : Cx, K.w = w → (s.flat = false → ∀ q, q < w.heap.size → K.S q) → VRl K vs cs
theorem exl {α : Type} {Q : Nat → α → Prop} : ∀ n : Nat, (∀ i, i < n → ∃ a, Q i a) → ∃ l : List α, l.length = n ∧ ∀ i a, l[i]? = some a → Q i a
  | 0, _ => ⟨[], rfl, fun i a h => by simp at h⟩
  | n + 1, h => by
    obtain ⟨l, hl, hq⟩ := exl n (fun i hi => h i (by omega))
    obtain ⟨a, ha⟩ := h n (by omega)
    refine ⟨l ++ [a], by simp [hl], fun i b hb => ?_⟩
    rcases Nat.lt_or_ge i l.length with h1 | h1
    · rw [List.getElem?_append_left h1] at hb
      exact hq i b hb
    · rw [List.getElem?_append_right h1] at hb
      have : i - l.length = 0 := by
        rcases Nat.eq_zero_or_pos (i - l.length) with h2 | h2
        · exact h2
        · rw [List.getElem?_eq_none (by simp; omega)] at hb; cases hb
      rw [this] at hb
      obtain rfl : a = b := by simpa using hb
      obtain rfl : i = n := by omega
      exact ha
theorem fs_read {g : TypeId → Ty → Bool} {n : Nat} (ih : ∀ t s cs y, g t s = true → DataW.trod enc' P w base spare held n t cs = some y → ∃ x : s.T, RdC w s cs x) {cs : List Value} : ∀ (fs : List Field) (o : Nat) (s : Ty), fsB P g fs o s = true → cs.length = o + s.size →
    (∀ f ∈ fs, ∃ y, DataW.trod enc' P w base spare held n f.type ((cs.drop f.offset).take (P.cellsOf f.type)) = some y) → ∃ x : s.T, RdC w s (cs.drop o) x := by
  intro fs
  induction fs with
  | nil => intro o s h; cases s <;> cases h
  | cons f r ihr =>
    intro o s h hl hf
    have one : Nat.beq f.offset o = true → Nat.beq (P.cellsOf f.type) s.size = true → g f.type s = true → ∃ x : s.T, RdC w s (cs.drop o) x := by
      intro h1 h2 h3
      obtain ⟨y, hy⟩ := hf f (by simp)
      rw [beq_nat h1, beq_nat h2, List.take_of_length_le (by rw [List.length_drop]; omega)] at hy
      exact ih _ _ _ _ h3 hy
    have two : ∀ a b, s = .pr a b → Nat.beq f.offset o = true → Nat.beq (P.cellsOf f.type) a.size = true → g f.type a = true → fsB P g r (o + a.size) b = true → ∃ x : s.T, RdC w s (cs.drop o) x := by
      intro a b hs h1 h2 h3 h4
      subst hs
      have hsz : (Ty.pr a b).size = a.size + b.size := rfl
      obtain ⟨y, hy⟩ := hf f (by simp)
      rw [beq_nat h1, beq_nat h2] at hy
      obtain ⟨xa, wa, va, ra, ka⟩ := ih _ _ _ _ h3 hy
      obtain ⟨xb, wb, vb, rb, kb⟩ := ihr (o + a.size) b h4 (by omega) (fun f hf' => hf f (by simp [hf']))
      refine ⟨(xa, xb), ⟨wa, wb⟩, va ++ vb, ⟨va, vb, rfl, ra, rb⟩, fun K hw hS => ?_⟩
      have hS1 : a.flat = false → ∀ q, q < w.heap.size → K.S q := fun h => hS (by unfold Ty.flat; rw [h])
      have hS2 : b.flat = false → ∀ q, q < w.heap.size → K.S q := fun h => hS (by unfold Ty.flat; rw [h]; cases a.flat <;> rfl)
      have := (ka K hw hS1).append (kb K hw hS2)
      rwa [← List.drop_drop, List.take_append_drop] at this
    unfold fsB at h
    split at h
    · rename_i h0
      injection h0 with h0 h0'
      subst h0
      simp only [Bool.and_eq_true] at h
      exact one h.1 h.2.1 h.2.2
    · rename_i a b _ h0
      injection h0 with h0 h0'
      subst h0; subst h0'
      simp only [Bool.and_eq_true] at h
      exact two a b rfl h.1 h.2.1 h.2.2.1 h.2.2.2
    · cases h
theorem ty_read : ∀ (n : Nat) (t : TypeId) (s : Ty) (fuel : Nat) (cs : List Value) y, tyB P n t s = true → DataW.trod enc' P w base spare held fuel t cs = some y → ∃ x : s.T, RdC w s cs x := by
  intro n
  induction n with
  | zero => intro t s fuel cs y h; cases h
  | succ n ih =>
    intro t s fuel cs y h hy
    unfold tyB at h
    split at h
    · rename_i k ht
      split at h
      · rename_i k'
        obtain rfl := kindN_inj h
        obtain ⟨m, rfl, _, hw⟩ := DataW.trod_int ht hy
        exact ⟨m, hw, _, rfl, fun K _ _ => VRl.cons (.lit rfl) .nil⟩
      · cases h
    · rename_i ht
      split at h
      · obtain ⟨m, rfl, _⟩ := DataW.trod_bool ht hy
        exact ⟨m, trivial, _, rfl, fun K _ _ => VRl.cons (.lit rfl) .nil⟩
      · cases h
    · rename_i ht
      split at h
      · obtain ⟨m, rfl, _, hm⟩ := DataW.trod_string ht hy
        exact ⟨m, hm, _, rfl, fun K _ _ => VRl.cons (.lit rfl) .nil⟩
      · cases h
    · rename_i e ht
      split at h
      · rename_i s
        simp only [Bool.and_eq_true] at h
        have hC := beq_nat h.1
        rcases open_slice ht hy with ⟨rfl, _⟩ | ⟨a, len, cap, m, k, D, Pl, rfl, hb, hl, hm, hmm, hx, hi⟩
        · exact ⟨[], ⟨by simp, by simp⟩, [.con true s.size []], ⟨_, rfl, .inr ⟨true, [], rfl, fun _ => rfl, .nil⟩⟩, fun K _ _ => VRl.cons (.con0 fun _ => rfl) .nil⟩
        · have hlm : len ≤ m := by rw [hmm]; split <;> omega
          obtain ⟨l, hll, hq⟩ := exl (α := s.T × List V × List Value) (Q := fun i x => s.wf x.1 ∧ RCell s x.1 x.2.1 ∧ (∀ K : Cx, K.w = w → (s.flat = false → ∀ q, q < w.heap.size → K.S q) → VRl K x.2.1 x.2.2) ∧ x.2.2.length = s.size ∧ ∀ j, j < s.size → w.cell? ((a.add (i * s.size)).add j) = x.2.2[j]?) len (fun i hilt => by
            obtain ⟨cs', hc, ht'⟩ := hi i (by omega)
            rw [hC] at hc
            obtain ⟨x, hwf, vs, hr, hk⟩ := ih _ _ _ _ _ h.2 ht'
            obtain ⟨_, hcl, hat⟩ := World.cells?_some hc
            exact ⟨⟨x, vs, cs'⟩, hwf, hr, hk, hcl, hat⟩)
          subst hll
          have hm' : l.length ≤ 9223372036854775807 := Nat.le_trans hl hm
          refine ⟨l.map (·.1), ⟨by simpa using hm', fun x hx => ?_⟩, [.con s.flat s.size (l.map (·.2.1))], ⟨_, rfl, .inr ⟨s.flat, _, rfl, fun h => h, ⟨by simp, fun i x y h1 h2 => ?_⟩⟩⟩, fun K hw hS => ?_⟩
          · obtain ⟨p, hp, rfl⟩ := List.mem_map.1 hx
            obtain ⟨j, hj⟩ := List.mem_iff_getElem?.1 hp
            exact (hq j p hj).1
          · rw [List.getElem?_map] at h1 h2
            cases hp : l[i]? with
            | none => rw [hp] at h1; cases h1
            | some p =>
              rw [hp] at h1 h2
              cases h1; cases h2
              exact (hq i p hp).2.1
          · have hS' := hS rfl
            refine VRl.cons ?_ .nil
            cases l with
            | nil => exact .con0 fun h => by cases h
            | cons p0 r =>
              have hsp := s.size_pos
              obtain ⟨ab, ao, as0⟩ := a
              have h0 := (hq 0 p0 rfl).2.2.2
              have hc0 := h0.2 0 hsp
              have hsome : ∃ u, p0.2.2[0]? = some u := ⟨_, List.getElem?_eq_getElem (by omega)⟩
              obtain ⟨u, hu⟩ := hsome
              rw [hu] at hc0
              simp only [Nat.zero_mul, Addr.add, if_true] at hc0
              have has : as0 = none := by
                unfold World.cell? at hc0
                split at hc0
                · cases as0 with
                  | none => rfl
                  | some _ => cases hc0
                · cases hc0
              subst has
              have hbl : ab < w.heap.size := by
                unfold World.cell? at hc0
                split at hc0
                · rename_i hh
                  exact (Array.getElem?_eq_some_iff.1 hh).1
                · cases hc0
              have hadd : ∀ i j, (Addr.mk ab ao none |>.add (i * s.size)).add j = ⟨ab, ao + i * s.size + j, none⟩ := by
                intro i j
                unfold Addr.add
                split <;> split <;> simp_all
              have hat : ∀ (i j : Nat) (v : V), at2 (((p0 :: r).map (·.2.1))) i j = some v → ∃ p, (p0 :: r)[i]? = some p ∧ p.2.1[j]? = some v := by
                intro i j v hv
                unfold at2 at hv
                rw [List.getElem?_map] at hv
                cases hp : (p0 :: r)[i]? with
                | none => rw [hp] at hv; cases hv
                | some p => rw [hp] at hv; exact ⟨p, rfl, hv⟩
              have hcell : ∀ i j v p, (p0 :: r)[i]? = some p → p.2.1[j]? = some v → ∃ x, p.2.2[j]? = some x ∧ w.cell? ⟨ab, ao + i * s.size + j, none⟩ = some x := by
                intro i j v p hp hv
                obtain ⟨_, hr, _, hlen, hce⟩ := hq i p hp
                have hj : j < s.size := by rw [← (hr.facts).1]; exact get_lt hv
                have := hce j hj
                rw [hadd] at this
                exact ⟨_, List.getElem?_eq_getElem (by omega), this.trans (List.getElem?_eq_getElem (by omega))⟩
              have hlen' : (p0 :: r).length = ((p0 :: r).map (·.2.1)).length := by simp
              rw [hlen']
              refine .con (by simp) (by simpa using hl) (hS' ab hbl) (fun cs hcs => ?_) (fun cs hcs => ?_) (fun i j v hv => ?_) (fun i j v x hv hx => ?_)
              · obtain ⟨p, hp, rfl⟩ := List.mem_map.1 hcs
                obtain ⟨j, hj⟩ := List.mem_iff_getElem?.1 hp
                exact (RCell.facts _ _ _ (hq j p hj).2.1).1
              · obtain ⟨p, hp, rfl⟩ := List.mem_map.1 hcs
                obtain ⟨j, hj⟩ := List.mem_iff_getElem?.1 hp
                exact (RCell.facts _ _ _ (hq j p hj).2.1).2.1
              · obtain ⟨p, hp, hv⟩ := hat i j v hv
                obtain ⟨x, _, hx⟩ := hcell i j v p hp hv
                exact ⟨x, by rw [hw]; exact hx⟩
              · obtain ⟨p, hp, hv⟩ := hat i j v hv
                obtain ⟨x', hx1, hx2⟩ := hcell i j v p hp hv
                rw [hw, hx2] at hx
                cases hx
                exact ((hq i p hp).2.2.1 (K.clo s.flat) hw (fun hf q hq' => ⟨hf, hS' q hq'⟩)).2 j v _ hv hx1
      · cases h
    · rename_i fs ht
      simp only [Bool.and_eq_true] at h
      obtain ⟨xs, m, _, _, hl, hlen, hf⟩ := DataW.trod_struct ht hy
      have := fs_read (g := tyB P n) (n := m) (cs := cs) (fun t s cs y h1 h2 => ih t s m cs y h1 h2) fs.toList 0 s h.2 (by rw [hl, beq_nat h.1]; omega) (fun f hfm => by
        obtain ⟨i, hi⟩ := List.mem_iff_getElem?.1 hfm
        have hi' : fs[i]? = some f := by simpa using hi
        have hlt : i < xs.length := by rw [hlen]; exact (Array.getElem?_eq_some_iff.1 hi').1
        exact ⟨_, (hf i f hi').trans (List.getElem?_eq_getElem hlt)⟩)
      simpa using this
    · cases h
end
end Go.Ev
end

section
set_option linter.unusedVariables false
set_option linter.unusedSimpArgs false
set_option linter.unnecessarySimpa false
namespace Go.Ev
open Go Go.WideShapes Go.RowKit

def isSt (P : Program) (t : TypeId) : Bool := match P.underlying t with
  | some (.struct _) => true
  | _ => false
/-- A parameter's type, as0 the functions of the specs take it. -/
def Sh.par (P : Program) (t : TypeId) (s : Ty) : Sh := match isSt P t with
  | true => .agg (.dat s)
  | false => .dat s
/-- An argument reads as0 plain data. -/
def RdA (w : World) (s : Sh) (v : Value) (x : s.T) : Prop := ∃ u, (∀ ln, RL ln (s.enc x) [u]) ∧ ∀ K : Cx, K.w = w → (∀ q, q < w.heap.size → K.S q) → VR K u v

section
variable {H : Type} {enc' : TypeId × Value → H} {P : Program} {w : World} {base base' : Nat} {spare : Nat → Bool} {held : Bool}
theorem cells_one {t : TypeId} {s : Ty} {v : Value} {n : Nat} {r : Reach} (hty : tyB P n t s = true) (hst : isSt P t = false) (hv : Value.okWide P w r base t v) : v.cells.toList = [v] := by
  cases n with
  | zero => cases hty
  | succ n =>
    unfold tyB at hty
    unfold isSt at hst
    split at hty
    · rename_i ht; obtain ⟨m, rfl⟩ := okWide_int ht hv; rfl
    · rename_i ht; obtain ⟨m, rfl⟩ := okWide_bool ht hv; rfl
    · rename_i ht; obtain ⟨m, rfl⟩ := okWide_string ht hv; rfl
    · rename_i ht; obtain ⟨a, b, c, rfl⟩ := okWide_slice ht hv; rfl
    · rename_i ht; rw [ht] at hst; cases hst
    · cases hty
theorem one_of {s : Ty} {vs : List V} {v : Value} {x : s.T} (h : RCell s x vs) (k : ∀ K : Cx, K.w = w → (s.flat = false → ∀ q, q < w.heap.size → K.S q) → VRl K vs [v]) : ∃ u, vs = [u] := by
  have := (k ⟨fun _ => True, fun _ => none, fun _ => False, w⟩ rfl (fun _ _ _ => trivial)).1
  match vs, this with
  | [u], _ => exact ⟨u, rfl⟩
/-- An argument that is no struct. -/
theorem arg_dat {t : TypeId} {s : Ty} {v : Value} {d p} {n : Nat} {r : Reach} (hty : tyB P n t s = true) (hst : isSt P t = false) (hv : Value.okWide P w r base' t v) (h : DataW.Trod enc' P w base spare held t v d p) : ∃ x : s.T, s.wf x ∧ RdA w (.dat s) v x := by
  obtain ⟨fuel, h⟩ := h
  obtain ⟨x, hwf, vs, hr, hk⟩ := ty_read n t s fuel _ _ hty h
  rw [cells_one hty hst hv] at hk
  obtain ⟨u, rfl⟩ := one_of hr hk
  refine ⟨x, hwf, u, fun ln => hr.enc, fun K hw hS => ?_⟩
  exact (hk K hw fun _ => hS).2 0 _ _ rfl rfl
/-- A struct. -/
theorem arg_agg {t : TypeId} {s : Ty} {v : Value} {d p} {n : Nat} {r : Reach} (hty : tyB P n t s = true) (hst : isSt P t = true) (hv : Value.okWide P w r base' t v) (h : DataW.Trod enc' P w base spare held t v d p) : ∃ x : s.T, s.wf x ∧ RdA w (.agg (.dat s)) v x := by
  obtain ⟨fuel, h⟩ := h
  obtain ⟨x, hwf, vs, hr, hk⟩ := ty_read n t s fuel _ _ hty h
  unfold isSt at hst
  split at hst
  · rename_i fs ht
    obtain ⟨cs, rfl, _⟩ := okWide_struct ht hv
    refine ⟨x, hwf, .agg vs, fun ln => Rows.cons ?_ .nil, fun K hw hS => ?_⟩
    · exact .agg (hr.enc (ln := ln)).1 (hr.enc (ln := ln)).2
    · exact VRl.agg (hk K hw fun _ => hS)
  · cases hst
end

/-- A law that the specs prove. -/
theorem law_calls {E : Env} (hP : ProgOK E) {r f : Nat} {g : FS} (hs : SpecAt E r f g) {args : List V} {sp : Sp Ret} {y : sp.α} (h1 : g.g args [] = some sp) (h2 : sp.o = some y) (h3 : sp.alt.val y = (.lit (.bool true), [], [])) {W : World} {a2 : List V} {vals : List Value}
    (hr : RL (fun _ => none) args a2) (hv : ∀ K : Cx, K.w = W → (∀ q, q < W.heap.size → K.S q) → VRl K a2 vals) : Calls E.P f vals.toArray W fun e w' => e = .returned (.bool true) ∧ Below W.heap.size W w' := by
  obtain ⟨r', ln', h4, h5⟩ := hs 0 args [] sp y h1 h2 (fun _ => none) a2 [] hr ⟨rfl, fun _ _ _ h => by cases h⟩ (fun _ _ => rfl)
  rw [h3] at h5
  have hv5 := h5.v
  have e1 : r'.1 = .lit (.bool true) := by
    generalize r'.1 = z at hv5
    cases hv5
    rfl
  have hg : Good (baseOf ⟨fun q => q < W.heap.size, fun _ => none, fun _ => False, W⟩ (ofL (([] : List Blk).map some)) 0) (fun b => b < 0) ⟨fun q => q < W.heap.size, fun _ => none, fun _ => False, W⟩ (ofL (([] : List Blk).map some)) := by
    exact { blk := fun b x h => by (cases h), inj := fun b x b' x' q n n' h => by (cases h), apart := fun b x q n h => by (cases h), sz := fun q h => h, N := fun b h => False.elim h, grow := Nat.le_refl _, io := Io.refl _, frame := fun _ _ _ => rfl, inp := fun b h => absurd h (Nat.not_lt_zero _), own := fun b x q n h => by (cases h), S0 := fun q h => h, S1 := fun q h => .inl h }
  refine ((evF_sound hP _ f a2 [] r' h4).2 ⟨fun q => q < W.heap.size, fun _ => none, fun _ => False, W⟩ vals (hv _ rfl fun _ h => h) hg).mono fun e w' h => ?_
  obtain ⟨v, K', rfl, rfl, hv', _, hg'⟩ := h
  rw [e1] at hv'
  refine ⟨?_, hg'.io.1, hg'.io.2.1, hg'.io.2.2, hg'.grow, fun k hk => hg'.frame k hk ?_⟩
  · cases hv'; rfl
  · rintro ⟨b, x, n, h, _⟩
    cases h
/-- The same, with the spec's own words. -/
theorem law_true {E : Env} (hP : ProgOK E) {r f : Nat} {g : FS} (hs : SpecAt E r f g) {x : g.a.T} {y : g.r.T} (h1 : g.g (g.args x) [] = some ⟨g.r.T, g.F x, g.r.dflt, g.r.alt⟩) (h2 : g.F x = some y) (h3 : g.r.alt.val y = (.lit (.bool true), [], [])) {W : World} {a2 : List V} {vals : List Value}
    (hr : ∀ ln, RL ln (g.args x) a2) (hv : ∀ K : Cx, K.w = W → (∀ q, q < W.heap.size → K.S q) → VRl K a2 vals) : Calls E.P f vals.toArray W fun e w' => e = .returned (.bool true) ∧ Below W.heap.size W w' :=
  law_calls hP hs (y := y) h1 h2 h3 (hr _) hv
end Go.Ev
end

section
set_option linter.unusedVariables false
set_option linter.unusedSimpArgs false
set_option linter.unnecessarySimpa false
open Go Go.Ev Go.Proofs
namespace Go.Proofs.Ytagcodkkkebnhaa.K
def inl (l : List Nat) (f : Nat) : Bool := mem f l
def tab : List (Nat × List (Nat × List (Nat × Nat))) → Nat → Nat → List (Nat × Nat)
  | [], _, _ => []
  | (a, l) :: r, f, i => cond (Nat.beq a f) (T l i) (tab r f i)
  where T : List (Nat × List (Nat × Nat)) → Nat → List (Nat × Nat)
    | [], _ => []
    | (b, l) :: r, i => cond (Nat.beq b i) l (T r i)
def tel : List (Nat × List Nat) := [(45, [0, 0]), (47, [0, 0, 0, 0, 0, 2]), (60, [0, 1, 1, 0, 0, 2, 0, 0]), (90, [0, 2])]
def fsl : List Nat := [3, 4, 5, 6, 7, 8, 9, 10, 11, 12, 13, 14, 15, 16, 17, 18, 19, 20, 21, 22, 23, 24, 25, 26, 27, 28, 29, 30, 31, 32, 33, 34, 35, 36, 37, 38, 39, 40, 41, 42, 43, 44, 45, 46, 47, 48, 49, 50, 51, 52, 53, 54, 55, 56, 57, 58, 59, 60, 61, 62, 63, 64, 65, 66, 67, 68, 69, 70, 71, 72, 73, 74, 75, 76, 77, 78, 79, 80, 81, 82, 83, 84, 85, 86, 87, 88, 89, 90, 91, 92, 93, 94, 95, 96, 97, 98, 99, 100, 101, 102, 103, 104, 105, 106, 107, 108, 109, 110, 111, 112, 113, 114, 115, 116, 117, 118, 119, 120, 121, 122]
def unOf : List (Nat × Nat × List (Nat × List Nat)) → Nat → Nat → List (Nat × List Nat)
  | [], _, _ => []
  | (a, b, l) :: r, f, i => cond (Nat.beq a f && Nat.beq b i) l (unOf r f i)
def unl : List (Nat × Nat × List (Nat × List Nat)) := [(3, 5, [(1, [3]), (2, [3])]), (5, 5, [(0, [8]), (1, [2, 8]), (2, [8]), (3, [8])]), (5, 9, [(1, [4])]), (5, 12, [(0, [16]), (1, [3, 6, 16]), (3, [16]), (6, [16]), (11, [16])]), (6, 5, [(0, [3, 8]), (1, [3, 8]), (3, [8]), (4, [8])]), (6, 6, [(0, [4, 9]), (1, [4, 9]), (4, [9]), (5, [9])]), (6, 22, [(1, [3, 7, 9, 13])]), (7, 6, [(1, [3, 5])]), (7, 7, [(1, [3])]), (8, 10, [(7, [9])]), (10, 12, [(0, [11]), (1, [5, 11]), (5, [11]), (6, [11])]), (10, 16, [(1, [6, 11])]), (10, 20, [(0, [16]), (1, [6, 11, 16]), (6, [16]), (11, [16]), (12, [16])]), (17, 6, [(0, [1, 2, 4]), (1, [4]), (2, [4])]), (18, 1, [(2, [4])]), (20, 12, [(1, [7])]), (47, 17, [(5, [12])]), (55, 1, [(0, [3])]), (61, 1, [(0, [3])]), (61, 5, [(1, [8]), (5, [8]), (7, [8])]), (65, 3, [(1, [14])]), (68, 1, [(1, [6]), (2, [4, 6]), (4, [6])]), (74, 1, [(1, [4])]), (82, 11, [(4, [7])]), (85, 4, [(2, [3])]), (86, 2, [(2, [4, 8, 10]), (5, [8, 10]), (6, [8, 10])]), (93, 1, [(1, [10, 11]), (4, [10, 11]), (6, [10, 11, 12]), (9, [10, 11, 12]), (10, [11])]), (93, 2, [(4, [6, 8])]), (100, 1, [(4, [9])])]
def jnR : List (Nat × List Nat × Nat) → Nat → Option (List Nat × Nat)
  | [], _ => none
  | (a, l, n) :: r, t => cond (Nat.beq a t) (some (l, n)) (jnR r t)
def jnOf : List (Nat × List (Nat × List Nat × Nat)) → Nat → Nat → Option (List Nat × Nat)
  | [], _, _ => none
  | (a, l) :: r, f, t => cond (Nat.beq a f) (jnR l t) (jnOf r f t)
def jnl : List (Nat × List (Nat × List Nat × Nat)) := [(59, [(7, [1, 2, 5, 6, 10, 11, 12], 16)]), (62, [(10, [1, 2, 5, 6], 16)]), (105, [(6, [0, 1, 2, 8, 9, 10], 40)]), (109, [(9, [0, 1, 8, 9, 10, 11, 12], 32)]), (115, [(2, [0, 2], 32), (5, [0, 2], 48)]), (116, [(2, [0, 2], 32), (5, [0, 2], 48), (8, [0, 2], 48)]), (117, [(4, [0, 2, 3, 4, 10, 11], 24)])]
def anl : List (Nat × List (Nat × List (Nat × Nat))) := [(6, [(0, [(1, 0), (2, 0), (3, 0), (7, 0), (9, 0), (11, 0)]), (2, [(1, 0), (7, 0), (9, 0), (13, 0)]), (10000000, [(1, 0), (7, 0), (9, 0)]), (10000002, [(1, 0), (7, 0)]), (20000000, [(6, 0)])]), (10, [(0, [(1, 0), (5, 0), (7, 0), (8, 0)]), (10000000, [(5, 0), (7, 0)]), (20000000, [(4, 0)])]), (11, [(0, [(1, 0), (3, 0)]), (10000000, [(1, 0)]), (20000000, [(0, 0)])]), (12, [(0, [(1, 0), (3, 0)]), (10000000, []), (20000000, [(2, 0)])]), (13, [(0, [(1, 0), (35, 0), (36, 0), (37, 0)]), (2, [(1, 0), (47, 0), (48, 0)]), (10000000, [(1, 0)]), (10000002, [(1, 0)]), (20000000, [(2, 0)])]), (15, [(0, [(1, 0), (4, 0)]), (2, [(1, 0), (6, 0), (7, 0), (8, 0)]), (4, [(1, 0), (6, 0), (7, 0), (11, 0)]), (10000000, [(1, 0)]), (10000002, [(1, 0), (6, 0), (7, 0)]), (10000004, [(6, 0), (7, 0)]), (20000000, [(2, 0)])]), (16, [(0, [(1, 0), (3, 0)]), (10000000, []), (20000000, [(2, 0)])]), (17, [(0, [(4, 0), (8, 0), (29, 0), (30, 0), (31, 0)]), (10000000, [(4, 0), (8, 0)]), (20000000, [(4, 0), (5, 0)])]), (20, [(0, [(1, 0), (4, 0), (7, 0), (8, 0)]), (2, [(4, 0), (7, 0), (9, 0)]), (10000000, [(4, 0), (7, 0)]), (10000002, [(4, 0), (7, 0)]), (20000000, [(4, 0), (5, 0)])]), (21, [(0, [(2, 0), (3, 0), (5, 0)]), (10000000, []), (20000000, [(4, 0)])]), (29, [(0, [(0, 0), (1, 0), (5, 0)]), (10000000, []), (20000000, [(4, 0)])]), (33, [(0, [(2, 0), (5, 0), (19, 0), (20, 0), (21, 0)]), (10000000, [(2, 0), (5, 0)]), (20000000, [(2, 0), (3, 0)])]), (34, [(0, [(1, 0), (5, 53), (15, 0), (16, 0), (17, 0)]), (10000000, [(5, 0)]), (20000000, [(2, 0), (3, 0)])]), (35, [(0, [(2, 0), (3, 0), (5, 0)]), (10000000, []), (20000000, [(4, 0)])]), (36, [(0, [(1, 0), (2, 0), (3, 0), (4, 0)]), (10000000, [(2, 0), (3, 0)]), (20000000, [(2, 0)])]), (37, [(0, [(0, 0), (1, 0), (5, 0)]), (10000000, []), (20000000, [(4, 0)])]), (38, [(0, [(1, 0), (3, 53), (4, 0)]), (2, [(1, 0), (3, 53), (4, 0), (5, 0), (6, 0)]), (10000000, [(3, 0)]), (10000002, [(1, 0), (3, 0), (4, 0)]), (20000000, [(2, 0)])]), (39, [(0, [(0, 0), (3, 0)]), (10000000, []), (20000000, [(2, 0)])]), (43, [(0, [(1, 0), (16, 0), (17, 0), (18, 0)]), (10000000, []), (20000000, [(2, 0), (3, 0)])]), (46, [(0, [(1, 0), (3, 0), (13, 0), (14, 0), (15, 0)]), (2, [(1, 0), (3, 0), (4, 0), (5, 0), (13, 0), (14, 0), (15, 0)]), (4, [(3, 0), (73, 0), (74, 0), (75, 0)]), (10000000, [(1, 0), (3, 0)]), (10000002, [(1, 0), (3, 0), (13, 0), (14, 0), (15, 0)]), (10000004, []), (20000000, [(2, 0)])]), (47, [(0, [(1, 0), (2, 0), (5, 0), (6, 0)]), (10000000, [(2, 0), (5, 0)]), (20000000, [(4, 0)])]), (48, [(0, [(1, 0), (2, 0), (6, 26), (7, 0)]), (10000000, [(6, 0)]), (20000000, [(4, 0), (5, 0)])]), (50, [(0, [(7, 0), (8, 0)]), (10000000, [(7, 0)]), (20000000, [(4, 0)])]), (53, [(0, [(2, 0), (3, 0), (4, 0), (8, 0), (9, 0), (39, 0), (40, 0), (41, 0)]), (2, [(3, 0), (4, 0), (8, 0), (9, 0), (12, 0), (13, 0)]), (10000000, [(4, 0), (8, 0), (9, 0)]), (10000002, [(4, 0), (8, 0), (9, 0)]), (20000000, [(4, 0), (5, 0), (6, 0)])]), (55, [(0, [(1, 0), (2, 0), (3, 0), (14, 0), (15, 0), (16, 0)]), (10000000, []), (20000000, [(6, 0), (7, 0)])]), (56, [(0, [(1, 0), (4, 0)]), (10000000, []), (20000000, [(2, 0), (3, 0)])]), (58, [(0, [(2, 0), (5, 26), (6, 0)]), (10000000, [(5, 0)]), (20000000, [(4, 0)])]), (59, [(0, [(1, 0), (2, 0), (5, 0), (6, 0), (10, 0), (11, 0), (12, 0)]), (10000000, [(5, 0)]), (20000000, [(4, 0)])]), (61, [(0, [(1, 0), (2, 0), (3, 0), (8, 0), (9, 0)]), (10000000, [(8, 0)]), (20000000, [(6, 0), (7, 0)])]), (62, [(0, [(1, 0), (2, 0), (5, 0), (6, 0)]), (10000000, [(5, 0)]), (20000000, [(4, 0)])]), (63, [(0, [(1, 0), (3, 26), (7, 0), (8, 0), (9, 0)]), (10000000, [(1, 0), (3, 0)]), (20000000, [(2, 0)])]), (69, [(0, [(0, 0), (1, 0), (5, 141), (6, 0)]), (10000000, [(5, 0)]), (20000000, [(4, 0)])]), (75, [(0, [(0, 0), (1, 0), (5, 0)]), (10000000, []), (20000000, [(4, 0)])]), (83, [(0, [(0, 0), (1, 0), (7, 0), (8, 0)]), (10000000, []), (20000000, [(4, 0)])]), (88, [(0, [(3, 0), (6, 0), (7, 0), (8, 0)]), (10000000, [(3, 0)]), (20000000, [(2, 0)])]), (90, [(0, [(1, 0), (2, 0), (5, 0)]), (10000000, []), (20000000, [(4, 0)])]), (97, [(0, [(0, 0), (1, 0), (7, 0), (8, 0)]), (10000000, []), (20000000, [(4, 0)])]), (100, [(0, [(0, 0), (1, 0), (4, 0), (5, 0)]), (10000000, [(4, 0), (5, 0)]), (20000000, [])]), (103, [(0, [(0, 0), (1, 0), (2, 0), (3, 0), (4, 0), (10, 0), (11, 0)]), (10000000, []), (20000000, [])]), (105, [(0, [(0, 0), (1, 0), (2, 0), (8, 0), (9, 0), (10, 0)]), (10000000, [(0, 0), (1, 0), (2, 0), (8, 0), (9, 0)]), (20000000, [(6, 0), (7, 0)])]), (107, [(0, [(0, 0), (1, 0), (2, 0), (3, 0), (8, 0)]), (2, [(0, 0), (1, 0), (2, 0), (3, 0), (8, 0), (9, 0)]), (10000000, []), (10000002, [(0, 0), (1, 0), (2, 0), (3, 0), (8, 0)]), (20000000, [])]), (108, [(0, [(0, 0), (3, 0), (8, 0), (9, 0), (10, 0), (11, 0)]), (2, [(0, 0), (3, 0), (8, 0), (9, 0), (12, 0)]), (10000000, [(0, 0), (3, 0), (8, 0), (9, 0), (10, 0)]), (10000002, []), (20000000, [])]), (109, [(0, [(0, 0), (1, 0), (8, 0), (9, 0), (10, 0), (11, 0)]), (10000000, []), (20000000, [])]), (111, [(0, [(0, 0), (8, 0), (9, 0)]), (10000000, []), (20000000, [])]), (112, [(0, [(0, 0), (1, 0), (2, 0), (3, 0), (9, 0), (10, 0)]), (2, [(0, 0), (1, 0), (2, 0), (3, 0), (9, 0), (10, 0)]), (4, [(0, 0), (1, 0), (2, 0), (3, 0), (9, 0), (10, 0), (11, 0)]), (6, [(0, 0), (1, 0), (2, 0), (3, 0), (9, 0), (10, 0), (12, 0)]), (10000000, []), (10000002, [(0, 0), (1, 0), (2, 0), (3, 0), (9, 0), (10, 0)]), (10000004, [(0, 0), (1, 0), (2, 0), (3, 0), (9, 0), (10, 0)]), (10000006, [(0, 0), (1, 0), (2, 0), (3, 0), (9, 0), (10, 0)]), (20000000, [(8, 0)])]), (113, [(0, [(0, 0), (1, 0), (4, 0), (11, 0), (12, 0)]), (2, [(0, 0), (1, 0), (4, 0), (11, 0), (12, 0)]), (4, [(0, 0), (1, 0), (4, 0), (11, 0), (12, 0)]), (10000000, [(11, 0)]), (10000002, [(0, 0), (1, 0), (4, 0), (11, 0), (12, 0)]), (10000004, [(0, 0), (1, 0), (4, 0), (11, 0), (12, 0)]), (20000000, [(10, 0)])]), (114, [(0, [(0, 0), (1, 0), (4, 0), (12, 0), (13, 0)]), (2, [(0, 0), (1, 0), (4, 0), (12, 0), (13, 0)]), (4, [(0, 0), (1, 0), (4, 0), (12, 0), (13, 0)]), (6, [(0, 0), (1, 0), (4, 0), (12, 0), (13, 0)]), (8, [(0, 0), (1, 0), (4, 0), (12, 0), (13, 0)]), (10000000, [(0, 0), (1, 0), (4, 0), (12, 0), (13, 0)]), (10000002, [(0, 0), (1, 0), (4, 0), (12, 0), (13, 0)]), (10000004, [(0, 0), (1, 0), (13, 0)]), (10000006, [(0, 0), (1, 0), (4, 0), (12, 0), (13, 0)]), (10000008, [(0, 0), (1, 0), (4, 0), (12, 0), (13, 0)]), (20000000, [(10, 0), (11, 0)])]), (117, [(0, [(0, 0), (2, 0), (3, 0), (4, 0), (10, 0)]), (10000000, []), (20000000, [])])]
def onOf : List (Nat × List (List (Option Nat))) → Nat → List (List (Option Nat))
  | [], _ => []
  | (a, l) :: r, f => cond (Nat.beq a f) l (onOf r f)
def onl : List (Nat × List (List (Option Nat))) := [(14, [[some 90, none, some 60, some 3, none, none, none]]), (17, [[some 90, none, some 60, some 3, none, none, none], [none]]), (18, [[some 90, none]]), (19, [[some 3]]), (20, [[some 90, none, some 60, some 3, none, none, none], [none]]), (22, [[some 90, none, some 60, some 3, none, none, none], [none], [none]]), (26, [[some 90, none, none, none, none]]), (27, [[some 3], [none]]), (30, [[some 3]]), (33, [[some 90, none], [none]]), (34, [[some 45], [none]]), (36, [[some 90, none]]), (38, [[some 45]]), (41, [[some 90, none], [none]]), (48, [[some 3], [none]]), (50, [[some 3]]), (51, [[some 90, none, some 60, some 3, none, none, none]]), (53, [[some 90, none, some 60, some 3, none, none, none], [none], [none]]), (58, [[some 3]]), (63, [[some 3]]), (65, [[some 90, none]]), (68, [[some 90, none]]), (78, [[some 90]]), (79, [[some 60]]), (80, [[some 3]])]
noncomputable def env : Env where
  P := Try.prog
  mv := inl [64, 71, 72, 82, 83, 84, 92, 93, 94, 97, 100, 103, 105, 107, 108, 109, 110, 111, 112, 113, 114, 117, 119, 120, 121, 122]
  An := tab anl
  te := teOf tel
  fs := fun f => mem f fsl
  un := unOf unl
  Jn := jnOf jnl
  On := onOf onl
  nl := inl [78, 79, 80]
  G := fun _ => none
end Go.Proofs.Ytagcodkkkebnhaa.K
end

section
set_option linter.unusedVariables false
set_option linter.unusedSimpArgs false
set_option linter.unnecessarySimpa false
open Go Go.Ev Go.Proofs
namespace Go.Proofs.Ytagcodkkkebnhaa.K
theorem fsOK : funsB env fsl = true := by kernel_rfl
theorem teOK : teB env.P tel = true := by kernel_rfl
theorem mixed : env.P.follows .mixedOrders = true := by kernel_rfl
theorem gOK : GivenOK env := givenOK fun f g hf => by cases hf
theorem envOK : ProgOK env := progOK fsl tel rfl rfl mixed gOK fsOK teOK
end Go.Proofs.Ytagcodkkkebnhaa.K
end

section
set_option linter.unusedVariables false
set_option linter.unusedSimpArgs false
set_option linter.unnecessarySimpa false

end

section
set_option linter.unusedVariables false
set_option linter.unusedSimpArgs false
set_option linter.unnecessarySimpa false
open Go Go.Ev Go.Proofs
namespace Go.Proofs.Ytagcodkkkebnhaa.K
set_option linter.unusedVariables false
set_option maxRecDepth 100000
noncomputable section
def B69_0 (a0 : Int) (a1 : Int) (a2 : (List Int)) (a3 : Int) : Option ((Int × (Int × ((List Int) × Int))) ⊕ (List Int)) :=
  sel (iLt a3 a1)
    (sel (lCap 1 (lApp a2 [a0])) (
    some (.inl (a0, (a1, ((lApp a2 [a0]), (iAdd .i64 a3 1)))))) none)
    (some (.inr a2))
def L69_0 (x : (Int × (Int × ((List Int) × Int)))) : Option (List Int) := iter (fun (x : (Int × (Int × ((List Int) × Int)))) => (B69_0 x.1 x.2.1 x.2.2.1 x.2.2.2)) fuel x
def lsL69_0 : LS := ⟨(.one .normal ⟨.non, [0, 1, 5, 6], (.seq (.dat (.int .u8)) (.seq (.dat (.int .i64)) (.seq (.own 0 (.int .u8)) (.dat (.int .i64))))), 1, 18, 0⟩), (.one (.exit 0) ⟨.non, [5], (.own 0 (.int .u8)), 1, 18, 0⟩), fun (x : (Int × (Int × ((List Int) × Int)))) => (B69_0 x.1 x.2.1 x.2.2.1 x.2.2.2)⟩
/-- midrangebase.Repeat -/
def F69 (a0 : Int) (a1 : Int) : Option ByteArray :=
  bndS (L69_0 (a0, (a1, (([] : List Int), 0)))) fun y0 =>
  some (sOf y0)
def gF69 : FS := ⟨(.seq (.dat (.int .u8)) (.dat (.int .i64))), 0, (.one ⟨.non, (.dat .str), 0, 0⟩), fun x => (F69 x.1 x.2)⟩
theorem rL69_0 (x : lsL69_0.hd.T) : kRound env (GofL []) (LofL [(69, [(0, lsL69_0)])]) 69 0 (lpOf Try.prog 69 0).2 (lsL69_0.hd.st x) lsL69_0.rd = lsL69_0.B x := by kernel_rfl
theorem eF69 (x : gF69.a.T) : kF env (GofL []) (LofL [(69, [(0, lsL69_0)])]) 69 (gF69.args x) (gF69.bs x) gF69.r.dec = gF69.F x := by kernel_rfl
theorem sF69 : SpecAt env 1 69 gF69 := mkSpec (r := 0) (gl := []) (L0 := [(0, lsL69_0)]) (by kernel_rfl) trivial ⟨⟨0, by kernel_rfl, by kernel_rfl, rL69_0⟩, trivial⟩ eF69 (fun h => absurd h (by rw [show env.nl 69 = false by kernel_rfl]; decide))
/-- midrangeref04.Zeros -/
def F42 (a0 : Int) : Option ByteArray :=
  bndS (F69 0 a0) fun y0 =>
  some y0
def gF42 : FS := ⟨(.dat (.int .i64)), 0, (.one ⟨.non, (.dat .str), 0, 0⟩), fun x => (F42 x)⟩
theorem eF42 (x : gF42.a.T) : kF env (GofL [(69, [gF69])]) (LofL [(42, [])]) 42 (gF42.args x) (gF42.bs x) gF42.r.dec = gF42.F x := by kernel_rfl
theorem sF42 : SpecAt env 2 42 gF42 := mkSpec (r := 1) (gl := [(69, [gF69])]) (L0 := []) (by kernel_rfl) ⟨⟨sF69.up (by decide), trivial⟩, trivial⟩ trivial eF42 (fun h => absurd h (by rw [show env.nl 42 = false by kernel_rfl]; decide))
/-- segment.within -/
def F70 (a0 : Int) (a1 : Int) (a2 : Int) : Bool :=
  (bAnd (iLe a1 a0) (iLe a0 a2))
def gF70 : FS := ⟨(.seq (.dat (.int .i64)) (.seq (.dat (.int .i64)) (.dat (.int .i64)))), 0, (.one ⟨.non, (.dat .bool), 0, 0⟩), fun x => some (F70 x.1 x.2.1 x.2.2)⟩
theorem eF70 (x : gF70.a.T) : kF env (GofL []) (LofL [(70, [])]) 70 (gF70.args x) (gF70.bs x) gF70.r.dec = gF70.F x := by kernel_rfl
theorem sF70 : SpecAt env 1 70 gF70 := mkSpec (r := 0) (gl := []) (L0 := []) (by kernel_rfl) trivial trivial eF70 (fun h => absurd h (by rw [show env.nl 70 = false by kernel_rfl]; decide))
def B43_0 (a0 : (List (Int × ByteArray))) (a1 : Int) (a2 : (List (Int × ByteArray))) (a3 : Int) (a4 : Int) : Option ((((List (Int × ByteArray)) × Int) × ((List (Int × ByteArray)) × (Int × Int))) ⊕ (Unit ⊕ (Int × Int))) :=
  sel (iLt a4 a3)
    (sel (oIn a4 (lLen a2)) (
    letS (F70 (lAt a2 a4).1 1 (iSub .i64 a1 1)) fun y0 =>
    sel (bNot y0)
      (some (.inr (.inr (a4, 3))))
      (sel (bOr (oIn (iSub .i64 a4 1) (lLen a0)) (bNot (iLt 0 a4))) (
      sel (bAnd (iLt 0 a4) (iLe (lAt a2 a4).1 (lAt a0 (iSub .i64 a4 1)).1))
        (some (.inr (.inr (a4, 14))))
        (sel (oNz 32) (
        sel (bOr (oNz 32) (bNot (bNot (bNot (iEq (iRem (sLen (lAt a2 a4).2) 32) 0))))) (
        letS (F70 (iQuo .i64 (sLen (lAt a2 a4).2) 32) 1 8) fun y1 =>
        sel (bOr (bNot (iEq (iRem (sLen (lAt a2 a4).2) 32) 0)) (bNot y1))
          (some (.inr (.inr (a4, 18))))
          (some (.inl ((a0, a1), (a2, (a3, (iAdd .i64 a4 1))))))) none) none)) none)) none)
    (some (.inr (.inl ())))
def L43_0 (x : (((List (Int × ByteArray)) × Int) × ((List (Int × ByteArray)) × (Int × Int)))) : Option (Unit ⊕ (Int × Int)) := iter (fun (x : (((List (Int × ByteArray)) × Int) × ((List (Int × ByteArray)) × (Int × Int)))) => (B43_0 x.1.1 x.1.2 x.2.1 x.2.2.1 x.2.2.2)) fuel x
def lsL43_0 : LS := ⟨(.one .normal ⟨.non, [1, 16, 17, 18], (.seq (.box 0 (.seq (.dat (.sl (.pr (.int .i64) .str))) (.dat (.int .i64)))) (.seq (.dat (.sl (.pr (.int .i64) .str))) (.seq (.dat (.int .i64)) (.dat (.int .i64))))), 1, 63, 0⟩), (.two (.one (.exit 0) ⟨.non, [], .non, 0, 63, 0⟩) (.one .ret ⟨.non, [2, 3], (.seq (.dat (.int .i64)) (.dat (.int .i64))), 0, 63, 0⟩)), fun (x : (((List (Int × ByteArray)) × Int) × ((List (Int × ByteArray)) × (Int × Int)))) => (B43_0 x.1.1 x.1.2 x.2.1 x.2.2.1 x.2.2.2)⟩
/-- segment.CheckStore -/
def F43 (a0 : ((List (Int × ByteArray)) × Int)) : Option (Int × Int) :=
  sel (iLt 10 (lLen a0.1))
    (some (0, 2))
    (letS (F70 a0.2 1 1001) fun y0 =>
    sel (bNot y0)
      (some (0, 3))
      (bndS (L43_0 (a0, (a0.1, ((lLen a0.1), 0)))) fun y1 =>
      sumS y1 (fun y1a =>
        some (0, 0)) fun y1b =>
        some y1b))
def gF43 : FS := ⟨(.agg (.dat (.pr (.sl (.pr (.int .i64) .str)) (.int .i64)))), 0, (.one ⟨.non, (.tup (.seq (.dat (.int .i64)) (.dat (.int .i64)))), 0, 0⟩), fun x => (F43 x)⟩
theorem rL43_0 (x : lsL43_0.hd.T) : kRound env (GofL [(70, [gF70])]) (LofL [(43, [(0, lsL43_0)])]) 43 0 (lpOf Try.prog 43 0).2 (lsL43_0.hd.st x) lsL43_0.rd = lsL43_0.B x := by kernel_rfl
theorem eF43 (x : gF43.a.T) : kF env (GofL [(70, [gF70])]) (LofL [(43, [(0, lsL43_0)])]) 43 (gF43.args x) (gF43.bs x) gF43.r.dec = gF43.F x := by kernel_rfl
theorem sF43 : SpecAt env 2 43 gF43 := mkSpec (r := 1) (gl := [(70, [gF70])]) (L0 := [(0, lsL43_0)]) (by kernel_rfl) ⟨⟨sF70.up (by decide), trivial⟩, trivial⟩ ⟨⟨0, by kernel_rfl, by kernel_rfl, rL43_0⟩, trivial⟩ eF43 (fun h => absurd h (by rw [show env.nl 43 = false by kernel_rfl]; decide))
/-- paging.within -/
def F44 (a0 : Int) (a1 : Int) (a2 : Int) : Bool :=
  (bAnd (iLe a1 a0) (iLe a0 a2))
def gF44 : FS := ⟨(.seq (.dat (.int .i64)) (.seq (.dat (.int .i64)) (.dat (.int .i64)))), 0, (.one ⟨.non, (.dat .bool), 0, 0⟩), fun x => some (F44 x.1 x.2.1 x.2.2)⟩
theorem eF44 (x : gF44.a.T) : kF env (GofL []) (LofL [(44, [])]) 44 (gF44.args x) (gF44.bs x) gF44.r.dec = gF44.F x := by kernel_rfl
theorem sF44 : SpecAt env 1 44 gF44 := mkSpec (r := 0) (gl := []) (L0 := []) (by kernel_rfl) trivial trivial eF44 (fun h => absurd h (by rw [show env.nl 44 = false by kernel_rfl]; decide))
/-- math/bits.Mul64 -/
def F99 (a0 : Int) (a1 : Int) : (Int × Int) :=
  ((iAdd .u64 (iAdd .u64 (iMul .u64 (iShr .u64 a0 32) (iShr .u64 a1 32)) (iShr .u64 (iAdd .u64 (iMul .u64 (iShr .u64 a0 32) (iAnd .u64 a1 4294967295)) (iShr .u64 (iMul .u64 (iAnd .u64 a0 4294967295) (iAnd .u64 a1 4294967295)) 32)) 32)) (iShr .u64 (iAdd .u64 (iAnd .u64 (iAdd .u64 (iMul .u64 (iShr .u64 a0 32) (iAnd .u64 a1 4294967295)) (iShr .u64 (iMul .u64 (iAnd .u64 a0 4294967295) (iAnd .u64 a1 4294967295)) 32)) 4294967295) (iMul .u64 (iAnd .u64 a0 4294967295) (iShr .u64 a1 32))) 32)), (iMul .u64 a0 a1))
def gF99 : FS := ⟨(.seq (.dat (.int .u64)) (.dat (.int .u64))), 0, (.one ⟨.non, (.tup (.seq (.dat (.int .u64)) (.dat (.int .u64)))), 0, 0⟩), fun x => some (F99 x.1 x.2)⟩
theorem eF99 (x : gF99.a.T) : kF env (GofL []) (LofL [(99, [])]) 99 (gF99.args x) (gF99.bs x) gF99.r.dec = gF99.F x := by kernel_rfl
theorem sF99 : SpecAt env 1 99 gF99 := mkSpec (r := 0) (gl := []) (L0 := []) (by kernel_rfl) trivial trivial eF99 (fun h => absurd h (by rw [show env.nl 99 = false by kernel_rfl]; decide))
/-- math/bits.Mul -/
def F77 (a0 : Int) (a1 : Int) : (Int × Int) :=
  letS (F99 a0 a1) fun y0 =>
  y0
def gF77 : FS := ⟨(.seq (.dat (.int .u64)) (.dat (.int .u64))), 0, (.one ⟨.non, (.tup (.seq (.dat (.int .u64)) (.dat (.int .u64)))), 0, 0⟩), fun x => some (F77 x.1 x.2)⟩
theorem eF77 (x : gF77.a.T) : kF env (GofL [(99, [gF99])]) (LofL [(77, [])]) 77 (gF77.args x) (gF77.bs x) gF77.r.dec = gF77.F x := by kernel_rfl
theorem sF77 : SpecAt env 2 77 gF77 := mkSpec (r := 1) (gl := [(99, [gF99])]) (L0 := []) (by kernel_rfl) ⟨⟨sF99.up (by decide), trivial⟩, trivial⟩ trivial eF77 (fun h => absurd h (by rw [show env.nl 77 = false by kernel_rfl]; decide))
def B50_0 (a0 : (List Int)) (a1 : Int) : Option (((List Int) × Int) ⊕ (List Int)) :=
  sel (iLt a1 (lLen a0))
    (sel (oCut a1 (lLen a0) (lLen a0)) (
    sel (oCut 0 a1 (lLen a0)) (
    some (.inl ((lCpy a0 a1 (lLen a0) (lCut a0 0 a1)), (iAdd .i64 a1 (lCpN (pSub (lLen a0) a1) (lCut a0 0 a1)))))) none) none)
    (some (.inr a0))
def L50_0 (x : ((List Int) × Int)) : Option (List Int) := iter (fun (x : ((List Int) × Int)) => (B50_0 x.1 x.2)) fuel x
def lsL50_0 : LS := ⟨(.one .normal ⟨.non, [7, 8], (.seq (.own 0 (.int .i64)) (.dat (.int .i64))), 1, 48, 0⟩), (.one (.exit 0) ⟨.non, [7], (.own 0 (.int .i64)), 1, 48, 0⟩), fun (x : ((List Int) × Int)) => (B50_0 x.1 x.2)⟩
/-- slices.Repeat[[]int,int] -/
def F50 (a0 : (List Int)) (a1 : Int) : Option (List Int) :=
  sel (iLt a1 0)
    (none)
    (letS (F77 (iCv .u64 (lLen a0)) (iCv .u64 a1)) fun y0 =>
    sel (bOr (iLt 0 y0.1) (iLt 9223372036854775807 y0.2))
      (none)
      (sel (nCap 8 (iCv .i64 y0.2)) (
      bndS (L50_0 ((lCpy (lRep (iCv .i64 y0.2) (0 : Int)) 0 (lLen (lRep (iCv .i64 y0.2) (0 : Int))) a0), (lCpN (lLen (lRep (iCv .i64 y0.2) (0 : Int))) a0))) fun y1 =>
      some y1) none))
def gF50 : FS := ⟨(.seq (.dat (.sl (.int .i64))) (.dat (.int .i64))), 0, (.one ⟨.non, (.own 0 (.int .i64)), 0, 1⟩), fun x => (F50 x.1 x.2)⟩
theorem rL50_0 (x : lsL50_0.hd.T) : kRound env (GofL [(77, [gF77])]) (LofL [(50, [(0, lsL50_0)])]) 50 0 (lpOf Try.prog 50 0).2 (lsL50_0.hd.st x) lsL50_0.rd = lsL50_0.B x := by kernel_rfl
theorem eF50 (x : gF50.a.T) : kF env (GofL [(77, [gF77])]) (LofL [(50, [(0, lsL50_0)])]) 50 (gF50.args x) (gF50.bs x) gF50.r.dec = gF50.F x := by kernel_rfl
theorem sF50 : SpecAt env 3 50 gF50 := mkSpec (r := 2) (gl := [(77, [gF77])]) (L0 := [(0, lsL50_0)]) (by kernel_rfl) ⟨⟨sF77.up (by decide), trivial⟩, trivial⟩ ⟨⟨0, by kernel_rfl, by kernel_rfl, rL50_0⟩, trivial⟩ eF50 (fun h => absurd h (by rw [show env.nl 50 = false by kernel_rfl]; decide))
def B17_0h0 (a0 : Int) (a1 : Int) (a2 : Int) (a3 : Int) (a4 : (List (Int × ByteArray))) (a5 : Int) (a6 : (List Int)) (a7 : Int) (a8 : Int) (a9 : Int) (a10 : (List Int)) (a11 : Int) (a12 : Int) : Option ((((Int × (Int × (Int × Int))) × (((List (Int × ByteArray)) × (Int × ((List Int) × (Int × (Int × Int))))) × ((List Int) × (Int × Int)))) ⊕ ((Int × (Int × (Int × Int))) × (((List (Int × ByteArray)) × (Int × ((List (Int × (Bool × (Bool × (Int × (Int × (ByteArray × (Int × Int)))))))) × ((List Int) × (Int × (Int × Int)))))) × ((List Int) × (Int × Int))))) ⊕ (((Int × (Int × (Int × Int))) × ((List (Int × ByteArray)) × (Int × ((List Int) × (Int × (Int × Int)))))) ⊕ (((Int × (Int × (Int × Int))) × Int) ⊕ ((Int × (Int × (Int × Int))) × ((List (Int × ByteArray)) × (Int × ((List (Int × (Bool × (Bool × (Int × (Int × (ByteArray × (Int × Int)))))))) × ((List Int) × (Int × (Int × Int)))))))))) :=
  sel (iLt a12 a11)
    (sel (oIn a12 (lLen a10)) (
    letS (F44 (lAt a10 a12) 0 2) fun y0 =>
    sel (bNot y0)
      (some (.inr (.inr (.inl ((0, (0, (0, 0))), 3)))))
      (sel (lCap 64 [((lAt a10 a12), (false, (false, (0, (0, ((bs []), (0, (-1))))))))]) (
      some (.inl (.inr ((a0, (a1, (a2, a3))), ((a4, (a5, ([((lAt a10 a12), (false, (false, (0, (0, ((bs []), (0, (-1))))))))], (a6, (a7, (a8, a9)))))), (a10, (a11, (iAdd .i64 a12 1)))))))) none)) none)
    (some (.inr (.inl ((a0, (a1, (a2, a3))), (a4, (a5, (a6, (a7, (a8, a9)))))))))
def B17_0h1 (a0 : Int) (a1 : Int) (a2 : Int) (a3 : Int) (a4 : (List (Int × ByteArray))) (a5 : Int) (a6 : (List (Int × (Bool × (Bool × (Int × (Int × (ByteArray × (Int × Int))))))))) (a7 : (List Int)) (a8 : Int) (a9 : Int) (a10 : Int) (a11 : (List Int)) (a12 : Int) (a13 : Int) : Option ((((Int × (Int × (Int × Int))) × (((List (Int × ByteArray)) × (Int × ((List Int) × (Int × (Int × Int))))) × ((List Int) × (Int × Int)))) ⊕ ((Int × (Int × (Int × Int))) × (((List (Int × ByteArray)) × (Int × ((List (Int × (Bool × (Bool × (Int × (Int × (ByteArray × (Int × Int)))))))) × ((List Int) × (Int × (Int × Int)))))) × ((List Int) × (Int × Int))))) ⊕ (((Int × (Int × (Int × Int))) × ((List (Int × ByteArray)) × (Int × ((List Int) × (Int × (Int × Int)))))) ⊕ (((Int × (Int × (Int × Int))) × Int) ⊕ ((Int × (Int × (Int × Int))) × ((List (Int × ByteArray)) × (Int × ((List (Int × (Bool × (Bool × (Int × (Int × (ByteArray × (Int × Int)))))))) × ((List Int) × (Int × (Int × Int)))))))))) :=
  sel (iLt a13 a12)
    (sel (oIn a13 (lLen a11)) (
    letS (F44 (lAt a11 a13) 0 2) fun y0 =>
    sel (bNot y0)
      (some (.inr (.inr (.inl ((0, (0, (0, 0))), 3)))))
      (sel (lCap 64 (lApp a6 [((lAt a11 a13), (false, (false, (0, (0, ((bs []), (0, (-1))))))))])) (
      some (.inl (.inr ((a0, (a1, (a2, a3))), ((a4, (a5, ((lApp a6 [((lAt a11 a13), (false, (false, (0, (0, ((bs []), (0, (-1))))))))]), (a7, (a8, (a9, a10)))))), (a11, (a12, (iAdd .i64 a13 1)))))))) none)) none)
    (some (.inr (.inr (.inr ((a0, (a1, (a2, a3))), (a4, (a5, (a6, (a7, (a8, (a9, a10)))))))))))
def L17_0 (x : (((Int × (Int × (Int × Int))) × (((List (Int × ByteArray)) × (Int × ((List Int) × (Int × (Int × Int))))) × ((List Int) × (Int × Int)))) ⊕ ((Int × (Int × (Int × Int))) × (((List (Int × ByteArray)) × (Int × ((List (Int × (Bool × (Bool × (Int × (Int × (ByteArray × (Int × Int)))))))) × ((List Int) × (Int × (Int × Int)))))) × ((List Int) × (Int × Int)))))) : Option (((Int × (Int × (Int × Int))) × ((List (Int × ByteArray)) × (Int × ((List Int) × (Int × (Int × Int)))))) ⊕ (((Int × (Int × (Int × Int))) × Int) ⊕ ((Int × (Int × (Int × Int))) × ((List (Int × ByteArray)) × (Int × ((List (Int × (Bool × (Bool × (Int × (Int × (ByteArray × (Int × Int)))))))) × ((List Int) × (Int × (Int × Int))))))))) := iter (fun (x : (((Int × (Int × (Int × Int))) × (((List (Int × ByteArray)) × (Int × ((List Int) × (Int × (Int × Int))))) × ((List Int) × (Int × Int)))) ⊕ ((Int × (Int × (Int × Int))) × (((List (Int × ByteArray)) × (Int × ((List (Int × (Bool × (Bool × (Int × (Int × (ByteArray × (Int × Int)))))))) × ((List Int) × (Int × (Int × Int)))))) × ((List Int) × (Int × Int)))))) => (sumS x (fun x => (B17_0h0 x.1.1 x.1.2.1 x.1.2.2.1 x.1.2.2.2 x.2.1.1 x.2.1.2.1 x.2.1.2.2.1 x.2.1.2.2.2.1 x.2.1.2.2.2.2.1 x.2.1.2.2.2.2.2 x.2.2.1 x.2.2.2.1 x.2.2.2.2)) fun x => (B17_0h1 x.1.1 x.1.2.1 x.1.2.2.1 x.1.2.2.2 x.2.1.1 x.2.1.2.1 x.2.1.2.2.1 x.2.1.2.2.2.1 x.2.1.2.2.2.2.1 x.2.1.2.2.2.2.2.1 x.2.1.2.2.2.2.2.2 x.2.2.1 x.2.2.2.1 x.2.2.2.2))) fuel x
def lsL17_0 : LS := ⟨(.two (.one .normal ⟨.non, [4, 8, 29, 30, 31], (.seq (.box 0 (.seq (.lit (.slice none 0 0)) (.seq (.dat (.int .i64)) (.seq (.lit (.slice none 0 0)) (.seq (.lit (.slice none 0 0)) (.seq (.dat (.int .i64)) (.seq (.dat (.int .i64)) (.dat (.int .i64))))))))) (.seq (.box 1 (.seq (.dat (.sl (.pr (.int .i64) .str))) (.seq (.dat (.int .i64)) (.seq (.lit (.slice none 0 0)) (.seq (.own 2 (.int .i64)) (.seq (.dat (.int .i64)) (.seq (.dat (.int .i64)) (.dat (.int .i64))))))))) (.seq (.dat (.sl (.int .i64))) (.seq (.dat (.int .i64)) (.dat (.int .i64)))))), 3, 49, 0⟩) (.one .normal ⟨.non, [4, 8, 29, 30, 31], (.seq (.box 0 (.seq (.lit (.slice none 0 0)) (.seq (.dat (.int .i64)) (.seq (.lit (.slice none 0 0)) (.seq (.lit (.slice none 0 0)) (.seq (.dat (.int .i64)) (.seq (.dat (.int .i64)) (.dat (.int .i64))))))))) (.seq (.box 1 (.seq (.dat (.sl (.pr (.int .i64) .str))) (.seq (.dat (.int .i64)) (.seq (.own 2 (.pr (.int .i64) (.pr .bool (.pr .bool (.pr (.int .i64) (.pr (.int .i64) (.pr .str (.pr (.int .i64) (.int .i64))))))))) (.seq (.own 3 (.int .i64)) (.seq (.dat (.int .i64)) (.seq (.dat (.int .i64)) (.dat (.int .i64))))))))) (.seq (.dat (.sl (.int .i64))) (.seq (.dat (.int .i64)) (.dat (.int .i64)))))), 4, 49, 0⟩)), (.two (.one (.exit 0) ⟨.non, [4, 8], (.seq (.box 0 (.seq (.lit (.slice none 0 0)) (.seq (.dat (.int .i64)) (.seq (.lit (.slice none 0 0)) (.seq (.lit (.slice none 0 0)) (.seq (.dat (.int .i64)) (.seq (.dat (.int .i64)) (.dat (.int .i64))))))))) (.box 1 (.seq (.dat (.sl (.pr (.int .i64) .str))) (.seq (.dat (.int .i64)) (.seq (.lit (.slice none 0 0)) (.seq (.own 2 (.int .i64)) (.seq (.dat (.int .i64)) (.seq (.dat (.int .i64)) (.dat (.int .i64)))))))))), 3, 49, 0⟩) (.two (.one .ret ⟨.non, [4, 5], (.seq (.box 0 (.seq (.lit (.slice none 0 0)) (.seq (.dat (.int .i64)) (.seq (.lit (.slice none 0 0)) (.seq (.lit (.slice none 0 0)) (.seq (.dat (.int .i64)) (.seq (.dat (.int .i64)) (.dat (.int .i64))))))))) (.dat (.int .i64))), 1, 49, 0⟩) (.one (.exit 0) ⟨.non, [4, 8], (.seq (.box 0 (.seq (.lit (.slice none 0 0)) (.seq (.dat (.int .i64)) (.seq (.lit (.slice none 0 0)) (.seq (.lit (.slice none 0 0)) (.seq (.dat (.int .i64)) (.seq (.dat (.int .i64)) (.dat (.int .i64))))))))) (.box 1 (.seq (.dat (.sl (.pr (.int .i64) .str))) (.seq (.dat (.int .i64)) (.seq (.own 2 (.pr (.int .i64) (.pr .bool (.pr .bool (.pr (.int .i64) (.pr (.int .i64) (.pr .str (.pr (.int .i64) (.int .i64))))))))) (.seq (.own 3 (.int .i64)) (.seq (.dat (.int .i64)) (.seq (.dat (.int .i64)) (.dat (.int .i64)))))))))), 4, 49, 0⟩))), fun (x : (((Int × (Int × (Int × Int))) × (((List (Int × ByteArray)) × (Int × ((List Int) × (Int × (Int × Int))))) × ((List Int) × (Int × Int)))) ⊕ ((Int × (Int × (Int × Int))) × (((List (Int × ByteArray)) × (Int × ((List (Int × (Bool × (Bool × (Int × (Int × (ByteArray × (Int × Int)))))))) × ((List Int) × (Int × (Int × Int)))))) × ((List Int) × (Int × Int)))))) => (sumS x (fun x => (B17_0h0 x.1.1 x.1.2.1 x.1.2.2.1 x.1.2.2.2 x.2.1.1 x.2.1.2.1 x.2.1.2.2.1 x.2.1.2.2.2.1 x.2.1.2.2.2.2.1 x.2.1.2.2.2.2.2 x.2.2.1 x.2.2.2.1 x.2.2.2.2)) fun x => (B17_0h1 x.1.1 x.1.2.1 x.1.2.2.1 x.1.2.2.2 x.2.1.1 x.2.1.2.1 x.2.1.2.2.1 x.2.1.2.2.2.1 x.2.1.2.2.2.2.1 x.2.1.2.2.2.2.2.1 x.2.1.2.2.2.2.2.2 x.2.2.1 x.2.2.2.1 x.2.2.2.2))⟩
/-- slices.Clone[[]api.Segment,api.Segment] -/
def F78 (a0 : (List (Int × ByteArray))) : Option (List (Int × ByteArray)) :=
  sel (iLt 0 (lLen a0))
    (sel (iLt 0 (lLen a0)) (
    sel (lCap 24 (lApp ([] : List (Int × ByteArray)) a0)) (
    some (lApp ([] : List (Int × ByteArray)) a0)) none) none)
    (bothS (some ([] : List (Int × ByteArray))) (sel (lCap 24 (lApp ([] : List (Int × ByteArray)) ([] : List (Int × ByteArray)))) (
      some (lApp ([] : List (Int × ByteArray)) ([] : List (Int × ByteArray)))) none))
def gF78 : FS := ⟨(.dat (.sl (.pr (.int .i64) .str))), 0, (.one ⟨.non, (.own 0 (.pr (.int .i64) .str)), 0, 1⟩), fun x => (F78 x)⟩
theorem eF78 (x : gF78.a.T) : kF env (GofL []) (LofL [(78, [])]) 78 (gF78.args x) (gF78.bs x) gF78.r.dec = gF78.F x := by kernel_rfl
theorem sF78 : SpecAt env 1 78 gF78 := mkSpec (r := 0) (gl := []) (L0 := []) (by kernel_rfl) trivial trivial eF78 (fun _ => ⟨rfl, fun _ => by kernel_rfl⟩)
/-- slices.Clone[[]api.PageFrame,api.PageFrame] -/
def F79 (a0 : (List (Int × (Bool × (Bool × (Int × (Int × (ByteArray × (Int × Int))))))))) : Option (List (Int × (Bool × (Bool × (Int × (Int × (ByteArray × (Int × Int)))))))) :=
  sel (iLt 0 (lLen a0))
    (sel (iLt 0 (lLen a0)) (
    sel (lCap 64 (lApp ([] : List (Int × (Bool × (Bool × (Int × (Int × (ByteArray × (Int × Int)))))))) a0)) (
    some (lApp ([] : List (Int × (Bool × (Bool × (Int × (Int × (ByteArray × (Int × Int)))))))) a0)) none) none)
    (bothS (some ([] : List (Int × (Bool × (Bool × (Int × (Int × (ByteArray × (Int × Int))))))))) (sel (lCap 64 (lApp ([] : List (Int × (Bool × (Bool × (Int × (Int × (ByteArray × (Int × Int)))))))) ([] : List (Int × (Bool × (Bool × (Int × (Int × (ByteArray × (Int × Int)))))))))) (
      some (lApp ([] : List (Int × (Bool × (Bool × (Int × (Int × (ByteArray × (Int × Int)))))))) ([] : List (Int × (Bool × (Bool × (Int × (Int × (ByteArray × (Int × Int)))))))))) none))
def gF79 : FS := ⟨(.dat (.sl (.pr (.int .i64) (.pr .bool (.pr .bool (.pr (.int .i64) (.pr (.int .i64) (.pr .str (.pr (.int .i64) (.int .i64)))))))))), 0, (.one ⟨.non, (.own 0 (.pr (.int .i64) (.pr .bool (.pr .bool (.pr (.int .i64) (.pr (.int .i64) (.pr .str (.pr (.int .i64) (.int .i64))))))))), 0, 1⟩), fun x => (F79 x)⟩
theorem eF79 (x : gF79.a.T) : kF env (GofL []) (LofL [(79, [])]) 79 (gF79.args x) (gF79.bs x) gF79.r.dec = gF79.F x := by kernel_rfl
theorem sF79 : SpecAt env 1 79 gF79 := mkSpec (r := 0) (gl := []) (L0 := []) (by kernel_rfl) trivial trivial eF79 (fun _ => ⟨rfl, fun _ => by kernel_rfl⟩)
/-- slices.Clone[[]int,int] -/
def F80 (a0 : (List Int)) : Option (List Int) :=
  sel (iLt 0 (lLen a0))
    (sel (iLt 0 (lLen a0)) (
    sel (lCap 8 (lApp ([] : List Int) a0)) (
    some (lApp ([] : List Int) a0)) none) none)
    (bothS (some ([] : List Int)) (sel (lCap 8 (lApp ([] : List Int) ([] : List Int))) (
      some (lApp ([] : List Int) ([] : List Int))) none))
def gF80 : FS := ⟨(.dat (.sl (.int .i64))), 0, (.one ⟨.non, (.own 0 (.int .i64)), 0, 1⟩), fun x => (F80 x)⟩
theorem eF80 (x : gF80.a.T) : kF env (GofL []) (LofL [(80, [])]) 80 (gF80.args x) (gF80.bs x) gF80.r.dec = gF80.F x := by kernel_rfl
theorem sF80 : SpecAt env 1 80 gF80 := mkSpec (r := 0) (gl := []) (L0 := []) (by kernel_rfl) trivial trivial eF80 (fun _ => ⟨rfl, fun _ => by kernel_rfl⟩)
/-- paging.owned -/
def F51 (a0 : (((List (Int × ByteArray)) × Int) × ((List (Int × (Bool × (Bool × (Int × (Int × (ByteArray × (Int × Int)))))))) × ((List Int) × (Int × (Int × Int)))))) : Option ((List (Int × ByteArray)) × (Int × ((List (Int × (Bool × (Bool × (Int × (Int × (ByteArray × (Int × Int)))))))) × ((List Int) × (Int × (Int × Int)))))) :=
  bndS (F78 a0.1.1) fun y0 =>
  bndS (F79 a0.2.1) fun y1 =>
  bndS (F80 a0.2.2.1) fun y2 =>
  some (y0, (a0.1.2, (y1, (y2, a0.2.2.2))))
def gF51 : FS := ⟨(.agg (.dat (.pr (.pr (.sl (.pr (.int .i64) .str)) (.int .i64)) (.pr (.sl (.pr (.int .i64) (.pr .bool (.pr .bool (.pr (.int .i64) (.pr (.int .i64) (.pr .str (.pr (.int .i64) (.int .i64))))))))) (.pr (.sl (.int .i64)) (.pr (.int .i64) (.pr (.int .i64) (.int .i64)))))))), 0, (.one ⟨.non, (.agg (.seq (.own 0 (.pr (.int .i64) .str)) (.seq (.dat (.int .i64)) (.seq (.own 1 (.pr (.int .i64) (.pr .bool (.pr .bool (.pr (.int .i64) (.pr (.int .i64) (.pr .str (.pr (.int .i64) (.int .i64))))))))) (.seq (.own 2 (.int .i64)) (.seq (.dat (.int .i64)) (.seq (.dat (.int .i64)) (.dat (.int .i64))))))))), 0, 3⟩), fun x => (F51 x)⟩
theorem eF51 (x : gF51.a.T) : kF env (GofL [(80, [gF80]), (79, [gF79]), (78, [gF78])]) (LofL [(51, [])]) 51 (gF51.args x) (gF51.bs x) gF51.r.dec = gF51.F x := by kernel_rfl
theorem sF51 : SpecAt env 2 51 gF51 := mkSpec (r := 1) (gl := [(80, [gF80]), (79, [gF79]), (78, [gF78])]) (L0 := []) (by kernel_rfl) ⟨⟨sF80.up (by decide), trivial⟩, ⟨sF79.up (by decide), trivial⟩, ⟨sF78.up (by decide), trivial⟩, trivial⟩ trivial eF51 (fun h => absurd h (by rw [show env.nl 51 = false by kernel_rfl]; decide))
/-- paging.Begin -/
def F17 (a0 : ((List (Int × ByteArray)) × Int)) (a1 : (List Int)) : Option (((List (Int × ByteArray)) × (Int × ((List (Int × (Bool × (Bool × (Int × (Int × (ByteArray × (Int × Int)))))))) × ((List Int) × (Int × (Int × Int)))))) × Int) :=
  bndS (F43 a0) fun y0 =>
  sel (bNot (iEq y0.2 0))
    (some ((([] : List (Int × ByteArray)), (0, (([] : List (Int × (Bool × (Bool × (Int × (Int × (ByteArray × (Int × Int)))))))), (([] : List Int), (0, (0, 0)))))), y0.2))
    (letS (F44 (lLen a1) 1 8) fun y1 =>
    sel (bNot y1)
      (some ((([] : List (Int × ByteArray)), (0, (([] : List (Int × (Bool × (Bool × (Int × (Int × (ByteArray × (Int × Int)))))))), (([] : List Int), (0, (0, 0)))))), 6))
      (bndS (F50 [(-1)] 5) fun y2 =>
      bndS (L17_0 (.inl ((0, (0, (0, 0))), ((a0.1, (a0.2, (y2, (0, (0, 0))))), (a1, ((lLen a1), 0)))))) fun y3 =>
      sumS y3 (fun y3a =>
        bndS (F51 ((y3a.2.1, y3a.2.2.1), ([], y3a.2.2.2))) fun y4 =>
        some (y4, 0)) fun y3ar =>
        sumS y3ar (fun y3aa =>
        some ((([] : List (Int × ByteArray)), (y3aa.1.1, (([] : List (Int × (Bool × (Bool × (Int × (Int × (ByteArray × (Int × Int)))))))), (([] : List Int), y3aa.1.2)))), y3aa.2)) fun y3ab =>
        bndS (F51 ((y3ab.2.1, y3ab.2.2.1), y3ab.2.2.2)) fun y5 =>
        some (y5, 0)))
def gF17 : FS := ⟨(.seq (.agg (.dat (.pr (.sl (.pr (.int .i64) .str)) (.int .i64)))) (.dat (.sl (.int .i64)))), 0, (.one ⟨.non, (.tup (.seq (.agg (.seq (.own 0 (.pr (.int .i64) .str)) (.seq (.dat (.int .i64)) (.seq (.own 1 (.pr (.int .i64) (.pr .bool (.pr .bool (.pr (.int .i64) (.pr (.int .i64) (.pr .str (.pr (.int .i64) (.int .i64))))))))) (.seq (.own 2 (.int .i64)) (.seq (.dat (.int .i64)) (.seq (.dat (.int .i64)) (.dat (.int .i64))))))))) (.dat (.int .i64)))), 0, 3⟩), fun x => (F17 x.1 x.2)⟩
theorem rL17_0 (x : lsL17_0.hd.T) : kRound env (GofL [(51, [gF51]), (44, [gF44]), (50, [gF50]), (43, [gF43])]) (LofL [(17, [(0, lsL17_0)])]) 17 0 (lpOf Try.prog 17 0).2 (lsL17_0.hd.st x) lsL17_0.rd = lsL17_0.B x := by rcases x with x | x <;> kernel_rfl
theorem eF17 (x : gF17.a.T) : kF env (GofL [(51, [gF51]), (44, [gF44]), (50, [gF50]), (43, [gF43])]) (LofL [(17, [(0, lsL17_0)])]) 17 (gF17.args x) (gF17.bs x) gF17.r.dec = gF17.F x := by kernel_rfl
theorem sF17 : SpecAt env 4 17 gF17 := mkSpec (r := 3) (gl := [(51, [gF51]), (44, [gF44]), (50, [gF50]), (43, [gF43])]) (L0 := [(0, lsL17_0)]) (by kernel_rfl) ⟨⟨sF51.up (by decide), trivial⟩, ⟨sF44.up (by decide), trivial⟩, ⟨sF50.up (by decide), trivial⟩, ⟨sF43.up (by decide), trivial⟩, trivial⟩ ⟨⟨0, by kernel_rfl, by kernel_rfl, rL17_0⟩, trivial⟩ eF17 (fun h => absurd h (by rw [show env.nl 17 = false by kernel_rfl]; decide))
def B13_0 (a0 : (List (Int × ByteArray))) (a1 : Int) (a2 : (List (Int × (Bool × (Bool × (Int × (Int × (ByteArray × (Int × Int))))))))) (a3 : (List Int)) (a4 : Int) (a5 : Int) (a6 : Int) (a7 : (List Int)) (a8 : Int) (a9 : Int) : Option ((((List (Int × ByteArray)) × (Int × ((List (Int × (Bool × (Bool × (Int × (Int × (ByteArray × (Int × Int)))))))) × ((List Int) × (Int × (Int × Int)))))) × ((List Int) × (Int × Int))) ⊕ (((List (Int × ByteArray)) × (Int × ((List (Int × (Bool × (Bool × (Int × (Int × (ByteArray × (Int × Int)))))))) × ((List Int) × (Int × (Int × Int)))))) ⊕ Int)) :=
  sel (iLt a9 a8)
    (sel (oIn a9 (lLen a7)) (
    letS (F44 (lAt a7 a9) 0 999999999999999) fun y0 =>
    sel (bNot y0)
      (some (.inr (.inr 3)))
      (some (.inl ((a0, (a1, (a2, (a3, (a4, (a5, a6)))))), (a7, (a8, (iAdd .i64 a9 1))))))) none)
    (some (.inr (.inl (a0, (a1, (a2, (a3, (a4, (a5, a6)))))))))
def L13_0 (x : (((List (Int × ByteArray)) × (Int × ((List (Int × (Bool × (Bool × (Int × (Int × (ByteArray × (Int × Int)))))))) × ((List Int) × (Int × (Int × Int)))))) × ((List Int) × (Int × Int)))) : Option (((List (Int × ByteArray)) × (Int × ((List (Int × (Bool × (Bool × (Int × (Int × (ByteArray × (Int × Int)))))))) × ((List Int) × (Int × (Int × Int)))))) ⊕ Int) := iter (fun (x : (((List (Int × ByteArray)) × (Int × ((List (Int × (Bool × (Bool × (Int × (Int × (ByteArray × (Int × Int)))))))) × ((List Int) × (Int × (Int × Int)))))) × ((List Int) × (Int × Int)))) => (B13_0 x.1.1 x.1.2.1 x.1.2.2.1 x.1.2.2.2.1 x.1.2.2.2.2.1 x.1.2.2.2.2.2.1 x.1.2.2.2.2.2.2 x.2.1 x.2.2.1 x.2.2.2)) fuel x
def lsL13_0 : LS := ⟨(.one .normal ⟨.non, [1, 35, 36, 37], (.seq (.box 0 (.seq (.dat (.sl (.pr (.int .i64) .str))) (.seq (.dat (.int .i64)) (.seq (.dat (.sl (.pr (.int .i64) (.pr .bool (.pr .bool (.pr (.int .i64) (.pr (.int .i64) (.pr .str (.pr (.int .i64) (.int .i64)))))))))) (.seq (.dat (.sl (.int .i64))) (.seq (.dat (.int .i64)) (.seq (.dat (.int .i64)) (.dat (.int .i64))))))))) (.seq (.own 1 (.int .i64)) (.seq (.dat (.int .i64)) (.dat (.int .i64))))), 2, 61, 0⟩), (.two (.one (.exit 0) ⟨.non, [1], (.box 0 (.seq (.dat (.sl (.pr (.int .i64) .str))) (.seq (.dat (.int .i64)) (.seq (.dat (.sl (.pr (.int .i64) (.pr .bool (.pr .bool (.pr (.int .i64) (.pr (.int .i64) (.pr .str (.pr (.int .i64) (.int .i64)))))))))) (.seq (.dat (.sl (.int .i64))) (.seq (.dat (.int .i64)) (.seq (.dat (.int .i64)) (.dat (.int .i64))))))))), 1, 61, 0⟩) (.one .ret ⟨.non, [2], (.dat (.int .i64)), 0, 61, 0⟩)), fun (x : (((List (Int × ByteArray)) × (Int × ((List (Int × (Bool × (Bool × (Int × (Int × (ByteArray × (Int × Int)))))))) × ((List Int) × (Int × (Int × Int)))))) × ((List Int) × (Int × Int)))) => (B13_0 x.1.1 x.1.2.1 x.1.2.2.1 x.1.2.2.2.1 x.1.2.2.2.2.1 x.1.2.2.2.2.2.1 x.1.2.2.2.2.2.2 x.2.1 x.2.2.1 x.2.2.2)⟩
/-- paging.onDisk$1 -/
def F84 (a0 : (Int × ByteArray)) (a1 : Int) : (Int × Bool) :=
  (a1, (iEq a0.1 a1))
def gF84 : FS := ⟨(.seq (.agg (.dat (.pr (.int .i64) .str))) (.box 0 (.dat (.int .i64)))), 1, (.one ⟨(.box 0 (.dat (.int .i64))), (.dat .bool), 1, 0⟩), fun x => some (F84 x.1 x.2)⟩
theorem eF84 (x : gF84.a.T) : kF env (GofL []) (LofL [(84, [])]) 84 (gF84.args x) (gF84.bs x) gF84.r.dec = gF84.F x := by kernel_rfl
theorem sF84 : SpecAt env 1 84 gF84 := mkSpec (r := 0) (gl := []) (L0 := []) (by kernel_rfl) trivial trivial eF84 (fun h => absurd h (by rw [show env.nl 84 = false by kernel_rfl]; decide))
def B83_0 (a0 : Int) (a1 : (List (Int × ByteArray))) (a2 : Int) (a3 : Int) : Option ((Int × ((List (Int × ByteArray)) × (Int × Int))) ⊕ (Int ⊕ (Int × Int))) :=
  sel (iLt a3 a2)
    (sel (oIn a3 (lLen a1)) (
    letS (F84 (lAt a1 a3) a0) fun y0 =>
    sel y0.2
      (some (.inr (.inr (y0.1, a3))))
      (some (.inl (y0.1, (a1, (a2, (iAdd .i64 a3 1))))))) none)
    (some (.inr (.inl a0)))
def L83_0 (x : (Int × ((List (Int × ByteArray)) × (Int × Int)))) : Option (Int ⊕ (Int × Int)) := iter (fun (x : (Int × ((List (Int × ByteArray)) × (Int × Int)))) => (B83_0 x.1 x.2.1 x.2.2.1 x.2.2.2)) fuel x
def lsL83_0 : LS := ⟨(.one .normal ⟨(.box 0 (.dat (.int .i64))), [0, 1, 7, 8], (.seq (.dat (.sl (.pr (.int .i64) .str))) (.seq (.fn 84 (.ptr 0 1 0)) (.seq (.dat (.int .i64)) (.dat (.int .i64))))), 1, 19, 1⟩), (.two (.one (.exit 0) ⟨(.box 0 (.dat (.int .i64))), [], .non, 1, 19, 1⟩) (.one .ret ⟨(.box 0 (.dat (.int .i64))), [4], (.dat (.int .i64)), 1, 19, 1⟩)), fun (x : (Int × ((List (Int × ByteArray)) × (Int × Int)))) => (B83_0 x.1 x.2.1 x.2.2.1 x.2.2.2)⟩
/-- slices.IndexFunc[[]api.Segment,api.Segment] -/
def F83 (a0 : (List (Int × ByteArray))) (a1 : Int) : Option (Int × Int) :=
  bndS (L83_0 (a1, (a0, ((lLen a0), 0)))) fun y0 =>
  sumS y0 (fun y0a =>
    some (y0a, (-1))) fun y0b =>
    some y0b
def gF83 : FS := ⟨(.seq (.dat (.sl (.pr (.int .i64) .str))) (.fn 84 (.box 0 (.dat (.int .i64))))), 1, (.one ⟨(.box 0 (.dat (.int .i64))), (.dat (.int .i64)), 1, 0⟩), fun x => (F83 x.1 x.2)⟩
theorem rL83_0 (x : lsL83_0.hd.T) : kRound env (GofL [(84, [gF84])]) (LofL [(83, [(0, lsL83_0)])]) 83 0 (lpOf Try.prog 83 0).2 (lsL83_0.hd.st x) lsL83_0.rd = lsL83_0.B x := by kernel_rfl
theorem eF83 (x : gF83.a.T) : kF env (GofL [(84, [gF84])]) (LofL [(83, [(0, lsL83_0)])]) 83 (gF83.args x) (gF83.bs x) gF83.r.dec = gF83.F x := by kernel_rfl
theorem sF83 : SpecAt env 2 83 gF83 := mkSpec (r := 1) (gl := [(84, [gF84])]) (L0 := [(0, lsL83_0)]) (by kernel_rfl) ⟨⟨sF84.up (by decide), trivial⟩, trivial⟩ ⟨⟨0, by kernel_rfl, by kernel_rfl, rL83_0⟩, trivial⟩ eF83 (fun h => absurd h (by rw [show env.nl 83 = false by kernel_rfl]; decide))
/-- paging.onDisk -/
def F54 (a0 : ((List (Int × ByteArray)) × Int)) (a1 : Int) (a2 : Int) : Option (ByteArray × Bool) :=
  bndS (F83 a0.1 a1) fun y0 =>
  sel (bOr (oIn y0.2 (lLen a0.1)) (bNot (bNot (bOr (iLt y0.2 0) (iLt a2 0))))) (
  sel (bOr (oNz 32) (bNot (bNot (bOr (iLt y0.2 0) (iLt a2 0))))) (
  sel (bOr (bOr (iLt y0.2 0) (iLt a2 0)) (iLe (iQuo .i64 (sLen (lAt a0.1 y0.2).2) 32) a2))
    (some ((bs []), false))
    (sel (oIn y0.2 (lLen a0.1)) (
    sel (oCut (iMul .i64 a2 32) (iMul .i64 (iAdd .i64 a2 1) 32) (sLen (lAt a0.1 y0.2).2)) (
    some ((sCut (lAt a0.1 y0.2).2 (iMul .i64 a2 32) (iMul .i64 (iAdd .i64 a2 1) 32)), true)) none) none)) none) none
def gF54 : FS := ⟨(.seq (.agg (.dat (.pr (.sl (.pr (.int .i64) .str)) (.int .i64)))) (.seq (.dat (.int .i64)) (.dat (.int .i64)))), 0, (.one ⟨.non, (.tup (.seq (.dat .str) (.dat .bool))), 0, 0⟩), fun x => (F54 x.1 x.2.1 x.2.2)⟩
theorem eF54 (x : gF54.a.T) : kF env (GofL [(83, [gF83])]) (LofL [(54, [])]) 54 (gF54.args x) (gF54.bs x) gF54.r.dec = gF54.F x := by kernel_rfl
theorem sF54 : SpecAt env 3 54 gF54 := mkSpec (r := 2) (gl := [(83, [gF83])]) (L0 := []) (by kernel_rfl) ⟨⟨sF83.up (by decide), trivial⟩, trivial⟩ trivial eF54 (fun h => absurd h (by rw [show env.nl 54 = false by kernel_rfl]; decide))
/-- paging.frameErr$1 -/
def F72 (a0 : (Int × (Bool × (Bool × (Int × (Int × (ByteArray × (Int × Int)))))))) (a1 : Int) (a2 : Bool) (a3 : Bool) (a4 : Int) (a5 : Int) (a6 : ByteArray) (a7 : Int) (a8 : Int) : ((Int × (Bool × (Bool × (Int × (Int × (ByteArray × (Int × Int))))))) × Bool) :=
  ((a1, (a2, (a3, (a4, (a5, (a6, (a7, a8))))))), (bAnd (bAnd a0.2.1 (iEq a0.2.2.2.1 a4)) (iEq a0.2.2.2.2.1 a5)))
def gF72 : FS := ⟨(.seq (.agg (.dat (.pr (.int .i64) (.pr .bool (.pr .bool (.pr (.int .i64) (.pr (.int .i64) (.pr .str (.pr (.int .i64) (.int .i64)))))))))) (.box 0 (.seq (.dat (.int .i64)) (.seq (.dat .bool) (.seq (.dat .bool) (.seq (.dat (.int .i64)) (.seq (.dat (.int .i64)) (.seq (.dat .str) (.seq (.dat (.int .i64)) (.dat (.int .i64))))))))))), 1, (.one ⟨(.box 0 (.seq (.dat (.int .i64)) (.seq (.dat .bool) (.seq (.dat .bool) (.seq (.dat (.int .i64)) (.seq (.dat (.int .i64)) (.seq (.dat .str) (.seq (.dat (.int .i64)) (.dat (.int .i64)))))))))), (.dat .bool), 1, 0⟩), fun x => some (F72 x.1 x.2.1 x.2.2.1 x.2.2.2.1 x.2.2.2.2.1 x.2.2.2.2.2.1 x.2.2.2.2.2.2.1 x.2.2.2.2.2.2.2.1 x.2.2.2.2.2.2.2.2)⟩
theorem eF72 (x : gF72.a.T) : kF env (GofL []) (LofL [(72, [])]) 72 (gF72.args x) (gF72.bs x) gF72.r.dec = gF72.F x := by kernel_rfl
theorem sF72 : SpecAt env 1 72 gF72 := mkSpec (r := 0) (gl := []) (L0 := []) (by kernel_rfl) trivial trivial eF72 (fun h => absurd h (by rw [show env.nl 72 = false by kernel_rfl]; decide))
def B97_0 (a0 : Int) (a1 : Bool) (a2 : Bool) (a3 : Int) (a4 : Int) (a5 : ByteArray) (a6 : Int) (a7 : Int) (a8 : (List (Int × (Bool × (Bool × (Int × (Int × (ByteArray × (Int × Int))))))))) (a9 : Int) (a10 : Int) : Option (((Int × (Bool × (Bool × (Int × (Int × (ByteArray × (Int × Int))))))) × ((List (Int × (Bool × (Bool × (Int × (Int × (ByteArray × (Int × Int)))))))) × (Int × Int))) ⊕ ((Int × (Bool × (Bool × (Int × (Int × (ByteArray × (Int × Int))))))) ⊕ ((Int × (Bool × (Bool × (Int × (Int × (ByteArray × (Int × Int))))))) × Int))) :=
  sel (iLt a10 a9)
    (sel (oIn a10 (lLen a8)) (
    letS (F72 (lAt a8 a10) a0 a1 a2 a3 a4 a5 a6 a7) fun y0 =>
    sel y0.2
      (some (.inr (.inr (y0.1, a10))))
      (some (.inl (y0.1, (a8, (a9, (iAdd .i64 a10 1))))))) none)
    (some (.inr (.inl (a0, (a1, (a2, (a3, (a4, (a5, (a6, a7))))))))))
def L97_0 (x : ((Int × (Bool × (Bool × (Int × (Int × (ByteArray × (Int × Int))))))) × ((List (Int × (Bool × (Bool × (Int × (Int × (ByteArray × (Int × Int)))))))) × (Int × Int)))) : Option ((Int × (Bool × (Bool × (Int × (Int × (ByteArray × (Int × Int))))))) ⊕ ((Int × (Bool × (Bool × (Int × (Int × (ByteArray × (Int × Int))))))) × Int)) := iter (fun (x : ((Int × (Bool × (Bool × (Int × (Int × (ByteArray × (Int × Int))))))) × ((List (Int × (Bool × (Bool × (Int × (Int × (ByteArray × (Int × Int)))))))) × (Int × Int)))) => (B97_0 x.1.1 x.1.2.1 x.1.2.2.1 x.1.2.2.2.1 x.1.2.2.2.2.1 x.1.2.2.2.2.2.1 x.1.2.2.2.2.2.2.1 x.1.2.2.2.2.2.2.2 x.2.1 x.2.2.1 x.2.2.2)) fuel x
def lsL97_0 : LS := ⟨(.one .normal ⟨(.box 0 (.seq (.dat (.int .i64)) (.seq (.dat .bool) (.seq (.dat .bool) (.seq (.dat (.int .i64)) (.seq (.dat (.int .i64)) (.seq (.dat .str) (.seq (.dat (.int .i64)) (.dat (.int .i64)))))))))), [0, 1, 7, 8], (.seq (.dat (.sl (.pr (.int .i64) (.pr .bool (.pr .bool (.pr (.int .i64) (.pr (.int .i64) (.pr .str (.pr (.int .i64) (.int .i64)))))))))) (.seq (.fn 72 (.ptr 0 8 0)) (.seq (.dat (.int .i64)) (.dat (.int .i64))))), 1, 19, 1⟩), (.two (.one (.exit 0) ⟨(.box 0 (.seq (.dat (.int .i64)) (.seq (.dat .bool) (.seq (.dat .bool) (.seq (.dat (.int .i64)) (.seq (.dat (.int .i64)) (.seq (.dat .str) (.seq (.dat (.int .i64)) (.dat (.int .i64)))))))))), [], .non, 1, 19, 1⟩) (.one .ret ⟨(.box 0 (.seq (.dat (.int .i64)) (.seq (.dat .bool) (.seq (.dat .bool) (.seq (.dat (.int .i64)) (.seq (.dat (.int .i64)) (.seq (.dat .str) (.seq (.dat (.int .i64)) (.dat (.int .i64)))))))))), [4], (.dat (.int .i64)), 1, 19, 1⟩)), fun (x : ((Int × (Bool × (Bool × (Int × (Int × (ByteArray × (Int × Int))))))) × ((List (Int × (Bool × (Bool × (Int × (Int × (ByteArray × (Int × Int)))))))) × (Int × Int)))) => (B97_0 x.1.1 x.1.2.1 x.1.2.2.1 x.1.2.2.2.1 x.1.2.2.2.2.1 x.1.2.2.2.2.2.1 x.1.2.2.2.2.2.2.1 x.1.2.2.2.2.2.2.2 x.2.1 x.2.2.1 x.2.2.2)⟩
/-- slices.IndexFunc[[]api.PageFrame,api.PageFrame] -/
def F97 (a0 : (List (Int × (Bool × (Bool × (Int × (Int × (ByteArray × (Int × Int))))))))) (a1 : Int) (a2 : Bool) (a3 : Bool) (a4 : Int) (a5 : Int) (a6 : ByteArray) (a7 : Int) (a8 : Int) : Option ((Int × (Bool × (Bool × (Int × (Int × (ByteArray × (Int × Int))))))) × Int) :=
  bndS (L97_0 ((a1, (a2, (a3, (a4, (a5, (a6, (a7, a8))))))), (a0, ((lLen a0), 0)))) fun y0 =>
  sumS y0 (fun y0a =>
    some (y0a, (-1))) fun y0b =>
    some y0b
def gF97 : FS := ⟨(.seq (.dat (.sl (.pr (.int .i64) (.pr .bool (.pr .bool (.pr (.int .i64) (.pr (.int .i64) (.pr .str (.pr (.int .i64) (.int .i64)))))))))) (.fn 72 (.box 0 (.seq (.dat (.int .i64)) (.seq (.dat .bool) (.seq (.dat .bool) (.seq (.dat (.int .i64)) (.seq (.dat (.int .i64)) (.seq (.dat .str) (.seq (.dat (.int .i64)) (.dat (.int .i64)))))))))))), 1, (.one ⟨(.box 0 (.seq (.dat (.int .i64)) (.seq (.dat .bool) (.seq (.dat .bool) (.seq (.dat (.int .i64)) (.seq (.dat (.int .i64)) (.seq (.dat .str) (.seq (.dat (.int .i64)) (.dat (.int .i64)))))))))), (.dat (.int .i64)), 1, 0⟩), fun x => (F97 x.1 x.2.1 x.2.2.1 x.2.2.2.1 x.2.2.2.2.1 x.2.2.2.2.2.1 x.2.2.2.2.2.2.1 x.2.2.2.2.2.2.2.1 x.2.2.2.2.2.2.2.2)⟩
theorem rL97_0 (x : lsL97_0.hd.T) : kRound env (GofL [(72, [gF72])]) (LofL [(97, [(0, lsL97_0)])]) 97 0 (lpOf Try.prog 97 0).2 (lsL97_0.hd.st x) lsL97_0.rd = lsL97_0.B x := by kernel_rfl
theorem eF97 (x : gF97.a.T) : kF env (GofL [(72, [gF72])]) (LofL [(97, [(0, lsL97_0)])]) 97 (gF97.args x) (gF97.bs x) gF97.r.dec = gF97.F x := by kernel_rfl
theorem sF97 : SpecAt env 2 97 gF97 := mkSpec (r := 1) (gl := [(72, [gF72])]) (L0 := [(0, lsL97_0)]) (by kernel_rfl) ⟨⟨sF72.up (by decide), trivial⟩, trivial⟩ ⟨⟨0, by kernel_rfl, by kernel_rfl, rL97_0⟩, trivial⟩ eF97 (fun h => absurd h (by rw [show env.nl 97 = false by kernel_rfl]; decide))
/-- slices.ContainsFunc[[]api.PageFrame,api.PageFrame] -/
def F71 (a0 : (List (Int × (Bool × (Bool × (Int × (Int × (ByteArray × (Int × Int))))))))) (a1 : Int) (a2 : Bool) (a3 : Bool) (a4 : Int) (a5 : Int) (a6 : ByteArray) (a7 : Int) (a8 : Int) : Option ((Int × (Bool × (Bool × (Int × (Int × (ByteArray × (Int × Int))))))) × Bool) :=
  bndS (F97 a0 a1 a2 a3 a4 a5 a6 a7 a8) fun y0 =>
  some (y0.1, (iLe 0 y0.2))
def gF71 : FS := ⟨(.seq (.dat (.sl (.pr (.int .i64) (.pr .bool (.pr .bool (.pr (.int .i64) (.pr (.int .i64) (.pr .str (.pr (.int .i64) (.int .i64)))))))))) (.fn 72 (.box 0 (.seq (.dat (.int .i64)) (.seq (.dat .bool) (.seq (.dat .bool) (.seq (.dat (.int .i64)) (.seq (.dat (.int .i64)) (.seq (.dat .str) (.seq (.dat (.int .i64)) (.dat (.int .i64)))))))))))), 1, (.one ⟨(.box 0 (.seq (.dat (.int .i64)) (.seq (.dat .bool) (.seq (.dat .bool) (.seq (.dat (.int .i64)) (.seq (.dat (.int .i64)) (.seq (.dat .str) (.seq (.dat (.int .i64)) (.dat (.int .i64)))))))))), (.dat .bool), 1, 0⟩), fun x => (F71 x.1 x.2.1 x.2.2.1 x.2.2.2.1 x.2.2.2.2.1 x.2.2.2.2.2.1 x.2.2.2.2.2.2.1 x.2.2.2.2.2.2.2.1 x.2.2.2.2.2.2.2.2)⟩
theorem eF71 (x : gF71.a.T) : kF env (GofL [(97, [gF97])]) (LofL [(71, [])]) 71 (gF71.args x) (gF71.bs x) gF71.r.dec = gF71.F x := by kernel_rfl
theorem sF71 : SpecAt env 3 71 gF71 := mkSpec (r := 2) (gl := [(97, [gF97])]) (L0 := []) (by kernel_rfl) ⟨⟨sF97.up (by decide), trivial⟩, trivial⟩ trivial eF71 (fun h => absurd h (by rw [show env.nl 71 = false by kernel_rfl]; decide))
/-- paging.frameErr -/
def F45 (a0 : (((List (Int × ByteArray)) × Int) × ((List (Int × (Bool × (Bool × (Int × (Int × (ByteArray × (Int × Int)))))))) × ((List Int) × (Int × (Int × Int)))))) (a1 : Int) : Option Int :=
  sel (oIn a1 (lLen a0.2.1)) (
  letS (F44 (lAt a0.2.1 a1).1 0 2) fun y0 =>
  sel (bNot y0)
    (some 3)
    (sel (bNot (lAt a0.2.1 a1).2.1)
      (sel (bNot (bAnd (iEq (lAt a0.2.1 a1).1 (lAt a0.2.1 a1).1) (bAnd (bEq (lAt a0.2.1 a1).2.1 false) (bAnd (bEq (lAt a0.2.1 a1).2.2.1 false) (bAnd (iEq (lAt a0.2.1 a1).2.2.2.1 0) (bAnd (iEq (lAt a0.2.1 a1).2.2.2.2.1 0) (bAnd (sEq (lAt a0.2.1 a1).2.2.2.2.2.1 (bs [])) (bAnd (iEq (lAt a0.2.1 a1).2.2.2.2.2.2.1 0) (iEq (lAt a0.2.1 a1).2.2.2.2.2.2.2 (-1))))))))))
        (some 5)
        (some 0))
      (bndS (F54 a0.1 (lAt a0.2.1 a1).2.2.2.1 (lAt a0.2.1 a1).2.2.2.2.1) fun y1 =>
      sel (bNot y1.2)
        (some 11)
        (sel (bNot (iEq (sLen (lAt a0.2.1 a1).2.2.2.2.2.1) 32))
          (some 18)
          (sel (oCut 0 a1 (lLen a0.2.1)) (
          bndS (F71 (lCut a0.2.1 0 a1) (lAt a0.2.1 a1).1 (lAt a0.2.1 a1).2.1 (lAt a0.2.1 a1).2.2.1 (lAt a0.2.1 a1).2.2.2.1 (lAt a0.2.1 a1).2.2.2.2.1 (lAt a0.2.1 a1).2.2.2.2.2.1 (lAt a0.2.1 a1).2.2.2.2.2.2.1 (lAt a0.2.1 a1).2.2.2.2.2.2.2) fun y2 =>
          sel y2.2
            (some 13)
            (letS (F44 y2.1.2.2.2.2.2.2.1 1 a0.2.2.2.1) fun y3 =>
            sel (bNot y3)
              (some 3)
              (sel (bAnd (bNot y2.1.2.2.1) (bNot (sEq y2.1.2.2.2.2.2.1 y1.1)))
                (some 15)
                (some 0)))) none))))) none
def gF45 : FS := ⟨(.seq (.agg (.dat (.pr (.pr (.sl (.pr (.int .i64) .str)) (.int .i64)) (.pr (.sl (.pr (.int .i64) (.pr .bool (.pr .bool (.pr (.int .i64) (.pr (.int .i64) (.pr .str (.pr (.int .i64) (.int .i64))))))))) (.pr (.sl (.int .i64)) (.pr (.int .i64) (.pr (.int .i64) (.int .i64)))))))) (.dat (.int .i64))), 0, (.one ⟨.non, (.dat (.int .i64)), 0, 0⟩), fun x => (F45 x.1 x.2)⟩
theorem eF45 (x : gF45.a.T) : kF env (GofL [(44, [gF44]), (71, [gF71]), (54, [gF54])]) (LofL [(45, [])]) 45 (gF45.args x) (gF45.bs x) gF45.r.dec = gF45.F x := by kernel_rfl
theorem sF45 : SpecAt env 4 45 gF45 := mkSpec (r := 3) (gl := [(44, [gF44]), (71, [gF71]), (54, [gF54])]) (L0 := []) (by kernel_rfl) ⟨⟨sF44.up (by decide), trivial⟩, ⟨sF71.up (by decide), trivial⟩, ⟨sF54.up (by decide), trivial⟩, trivial⟩ trivial eF45 (fun h => absurd h (by rw [show env.nl 45 = false by kernel_rfl]; decide))
end
end Go.Proofs.Ytagcodkkkebnhaa.K
end

section
set_option linter.unusedVariables false
set_option linter.unusedSimpArgs false
set_option linter.unnecessarySimpa false
open Go Go.Ev Go.Proofs
namespace Go.Proofs.Ytagcodkkkebnhaa.K
set_option linter.unusedVariables false
set_option maxRecDepth 100000
noncomputable section
def B13_2 (a0 : (List (Int × ByteArray))) (a1 : Int) (a2 : (List (Int × (Bool × (Bool × (Int × (Int × (ByteArray × (Int × Int))))))))) (a3 : (List Int)) (a4 : Int) (a5 : Int) (a6 : Int) (a7 : Int) (a8 : Int) : Option ((((List (Int × ByteArray)) × (Int × ((List (Int × (Bool × (Bool × (Int × (Int × (ByteArray × (Int × Int)))))))) × ((List Int) × (Int × (Int × Int)))))) × (Int × Int)) ⊕ (((List (Int × ByteArray)) × (Int × ((List (Int × (Bool × (Bool × (Int × (Int × (ByteArray × (Int × Int)))))))) × ((List Int) × (Int × (Int × Int)))))) ⊕ Int)) :=
  sel (iLt a8 a7)
    (bndS (F45 ((a0, a1), (a2, (a3, (a4, (a5, a6))))) a8) fun y0 =>
    sel (bNot (iEq y0 0))
      (some (.inr (.inr y0)))
      (some (.inl ((a0, (a1, (a2, (a3, (a4, (a5, a6)))))), (a7, (iAdd .i64 a8 1))))))
    (some (.inr (.inl (a0, (a1, (a2, (a3, (a4, (a5, a6)))))))))
def L13_2 (x : (((List (Int × ByteArray)) × (Int × ((List (Int × (Bool × (Bool × (Int × (Int × (ByteArray × (Int × Int)))))))) × ((List Int) × (Int × (Int × Int)))))) × (Int × Int))) : Option (((List (Int × ByteArray)) × (Int × ((List (Int × (Bool × (Bool × (Int × (Int × (ByteArray × (Int × Int)))))))) × ((List Int) × (Int × (Int × Int)))))) ⊕ Int) := iter (fun (x : (((List (Int × ByteArray)) × (Int × ((List (Int × (Bool × (Bool × (Int × (Int × (ByteArray × (Int × Int)))))))) × ((List Int) × (Int × (Int × Int)))))) × (Int × Int))) => (B13_2 x.1.1 x.1.2.1 x.1.2.2.1 x.1.2.2.2.1 x.1.2.2.2.2.1 x.1.2.2.2.2.2.1 x.1.2.2.2.2.2.2 x.2.1 x.2.2)) fuel x
def lsL13_2 : LS := ⟨(.one .normal ⟨.non, [1, 47, 48], (.seq (.box 0 (.seq (.dat (.sl (.pr (.int .i64) .str))) (.seq (.dat (.int .i64)) (.seq (.dat (.sl (.pr (.int .i64) (.pr .bool (.pr .bool (.pr (.int .i64) (.pr (.int .i64) (.pr .str (.pr (.int .i64) (.int .i64)))))))))) (.seq (.dat (.sl (.int .i64))) (.seq (.dat (.int .i64)) (.seq (.dat (.int .i64)) (.dat (.int .i64))))))))) (.seq (.dat (.int .i64)) (.dat (.int .i64)))), 1, 61, 0⟩), (.two (.one (.exit 2) ⟨.non, [1], (.box 0 (.seq (.dat (.sl (.pr (.int .i64) .str))) (.seq (.dat (.int .i64)) (.seq (.dat (.sl (.pr (.int .i64) (.pr .bool (.pr .bool (.pr (.int .i64) (.pr (.int .i64) (.pr .str (.pr (.int .i64) (.int .i64)))))))))) (.seq (.dat (.sl (.int .i64))) (.seq (.dat (.int .i64)) (.seq (.dat (.int .i64)) (.dat (.int .i64))))))))), 1, 61, 0⟩) (.one .ret ⟨.non, [2], (.dat (.int .i64)), 0, 61, 0⟩)), fun (x : (((List (Int × ByteArray)) × (Int × ((List (Int × (Bool × (Bool × (Int × (Int × (ByteArray × (Int × Int)))))))) × ((List Int) × (Int × (Int × Int)))))) × (Int × Int))) => (B13_2 x.1.1 x.1.2.1 x.1.2.2.1 x.1.2.2.2.1 x.1.2.2.2.2.1 x.1.2.2.2.2.2.1 x.1.2.2.2.2.2.2 x.2.1 x.2.2)⟩
/-- paging.bucket -/
def F73 (a0 : Int) (a1 : Int) : Option Int :=
  sel (oNz 5) (
  some (iRem (iAdd .i64 (iMul .i64 7 a0) a1) 5)) none
def gF73 : FS := ⟨(.seq (.dat (.int .i64)) (.dat (.int .i64))), 0, (.one ⟨.non, (.dat (.int .i64)), 0, 0⟩), fun x => (F73 x.1 x.2)⟩
theorem eF73 (x : gF73.a.T) : kF env (GofL []) (LofL [(73, [])]) 73 (gF73.args x) (gF73.bs x) gF73.r.dec = gF73.F x := by kernel_rfl
theorem sF73 : SpecAt env 1 73 gF73 := mkSpec (r := 0) (gl := []) (L0 := []) (by kernel_rfl) trivial trivial eF73 (fun h => absurd h (by rw [show env.nl 73 = false by kernel_rfl]; decide))
def B46_2 (a0 : (List (Int × ByteArray))) (a1 : Int) (a2 : (List (Int × (Bool × (Bool × (Int × (Int × (ByteArray × (Int × Int))))))))) (a3 : (List Int)) (a4 : Int) (a5 : Int) (a6 : Int) (a7 : (List Bool)) (a8 : Int) (a9 : Int) (a10 : (List Int)) (a11 : Int) (a12 : Int) : Option ((((List (Int × ByteArray)) × (Int × ((List (Int × (Bool × (Bool × (Int × (Int × (ByteArray × (Int × Int)))))))) × ((List Int) × (Int × (Int × Int)))))) × ((List Bool) × (Int × (Int × ((List Int) × (Int × Int)))))) ⊕ ((((List (Int × ByteArray)) × (Int × ((List (Int × (Bool × (Bool × (Int × (Int × (ByteArray × (Int × Int)))))))) × ((List Int) × (Int × (Int × Int)))))) × ((List Bool) × ((List Int) × (Int × Int)))) ⊕ Bool)) :=
  sel (bNot (iEq a9 (-1)))
    (sel (bOr (oIn a9 (lLen a7)) (bNot (bNot (bOr (iLt a9 0) (iLe (lLen a7) a9))))) (
    sel (bOr (oIn a9 (lLen a2)) (bNot (bNot (bOr (bOr (iLt a9 0) (iLe (lLen a7) a9)) (lAt a7 a9))))) (
    sel (bOr (oIn a9 (lLen a2)) (bNot (bNot (bOr (bOr (bOr (iLt a9 0) (iLe (lLen a7) a9)) (lAt a7 a9)) (bNot (lAt a2 a9).2.1))))) (
    sel (bOr (oIn a9 (lLen a2)) (bNot (bNot (bOr (bOr (bOr (iLt a9 0) (iLe (lLen a7) a9)) (lAt a7 a9)) (bNot (lAt a2 a9).2.1))))) (
    sel (bOr (okS (F73 (lAt a2 a9).2.2.2.1 (lAt a2 a9).2.2.2.2.1)) (bNot (bNot (bOr (bOr (bOr (iLt a9 0) (iLe (lLen a7) a9)) (lAt a7 a9)) (bNot (lAt a2 a9).2.1))))) (
    letS (valS (F73 (lAt a2 a9).2.2.2.1 (lAt a2 a9).2.2.2.2.1) 0) fun y0 =>
    sel (bOr (bOr (bOr (bOr (iLt a9 0) (iLe (lLen a7) a9)) (lAt a7 a9)) (bNot (lAt a2 a9).2.1)) (bNot (iEq y0 a8)))
      (some (.inr (.inr false)))
      (sel (oIn a9 (lLen a7)) (
      sel (oIn a9 (lLen a2)) (
      some (.inl ((a0, (a1, (a2, (a3, (a4, (a5, a6)))))), ((lSet a7 a9 true), (a8, ((lAt a2 a9).2.2.2.2.2.2.2, (a10, (a11, a12)))))))) none) none)) none) none) none) none) none)
    (some (.inr (.inl ((a0, (a1, (a2, (a3, (a4, (a5, a6)))))), (a7, (a10, (a11, a12)))))))
def L46_2 (x : (((List (Int × ByteArray)) × (Int × ((List (Int × (Bool × (Bool × (Int × (Int × (ByteArray × (Int × Int)))))))) × ((List Int) × (Int × (Int × Int)))))) × ((List Bool) × (Int × (Int × ((List Int) × (Int × Int))))))) : Option ((((List (Int × ByteArray)) × (Int × ((List (Int × (Bool × (Bool × (Int × (Int × (ByteArray × (Int × Int)))))))) × ((List Int) × (Int × (Int × Int)))))) × ((List Bool) × ((List Int) × (Int × Int)))) ⊕ Bool) := iter (fun (x : (((List (Int × ByteArray)) × (Int × ((List (Int × (Bool × (Bool × (Int × (Int × (ByteArray × (Int × Int)))))))) × ((List Int) × (Int × (Int × Int)))))) × ((List Bool) × (Int × (Int × ((List Int) × (Int × Int))))))) => (B46_2 x.1.1 x.1.2.1 x.1.2.2.1 x.1.2.2.2.1 x.1.2.2.2.2.1 x.1.2.2.2.2.2.1 x.1.2.2.2.2.2.2 x.2.1 x.2.2.1 x.2.2.2.1 x.2.2.2.2.1 x.2.2.2.2.2.1 x.2.2.2.2.2.2)) fuel x
def lsL46_2 : LS := ⟨(.one .normal ⟨.non, [1, 3, 4, 5, 13, 14, 15], (.seq (.box 0 (.seq (.dat (.sl (.pr (.int .i64) .str))) (.seq (.dat (.int .i64)) (.seq (.dat (.sl (.pr (.int .i64) (.pr .bool (.pr .bool (.pr (.int .i64) (.pr (.int .i64) (.pr .str (.pr (.int .i64) (.int .i64)))))))))) (.seq (.dat (.sl (.int .i64))) (.seq (.dat (.int .i64)) (.seq (.dat (.int .i64)) (.dat (.int .i64))))))))) (.seq (.own 1 .bool) (.seq (.dat (.int .i64)) (.seq (.dat (.int .i64)) (.seq (.dat (.sl (.int .i64))) (.seq (.dat (.int .i64)) (.dat (.int .i64)))))))), 2, 88, 0⟩), (.two (.one (.exit 2) ⟨.non, [1, 3, 13, 14, 15], (.seq (.box 0 (.seq (.dat (.sl (.pr (.int .i64) .str))) (.seq (.dat (.int .i64)) (.seq (.dat (.sl (.pr (.int .i64) (.pr .bool (.pr .bool (.pr (.int .i64) (.pr (.int .i64) (.pr .str (.pr (.int .i64) (.int .i64)))))))))) (.seq (.dat (.sl (.int .i64))) (.seq (.dat (.int .i64)) (.seq (.dat (.int .i64)) (.dat (.int .i64))))))))) (.seq (.own 1 .bool) (.seq (.dat (.sl (.int .i64))) (.seq (.dat (.int .i64)) (.dat (.int .i64)))))), 2, 88, 0⟩) (.one .ret ⟨.non, [2], (.dat .bool), 0, 88, 0⟩)), fun (x : (((List (Int × ByteArray)) × (Int × ((List (Int × (Bool × (Bool × (Int × (Int × (ByteArray × (Int × Int)))))))) × ((List Int) × (Int × (Int × Int)))))) × ((List Bool) × (Int × (Int × ((List Int) × (Int × Int))))))) => (B46_2 x.1.1 x.1.2.1 x.1.2.2.1 x.1.2.2.2.1 x.1.2.2.2.2.1 x.1.2.2.2.2.2.1 x.1.2.2.2.2.2.2 x.2.1 x.2.2.1 x.2.2.2.1 x.2.2.2.2.1 x.2.2.2.2.2.1 x.2.2.2.2.2.2)⟩
def B46_0 (a0 : (List (Int × ByteArray))) (a1 : Int) (a2 : (List (Int × (Bool × (Bool × (Int × (Int × (ByteArray × (Int × Int))))))))) (a3 : (List Int)) (a4 : Int) (a5 : Int) (a6 : Int) (a7 : (List Bool)) (a8 : (List Int)) (a9 : Int) (a10 : Int) : Option ((((List (Int × ByteArray)) × (Int × ((List (Int × (Bool × (Bool × (Int × (Int × (ByteArray × (Int × Int)))))))) × ((List Int) × (Int × (Int × Int)))))) × ((List Bool) × ((List Int) × (Int × Int)))) ⊕ ((((List (Int × ByteArray)) × (Int × ((List (Int × (Bool × (Bool × (Int × (Int × (ByteArray × (Int × Int)))))))) × ((List Int) × (Int × (Int × Int)))))) × (List Bool)) ⊕ Bool)) :=
  sel (iLt a10 a9)
    (sel (oIn a10 (lLen a8)) (
    bndS (L46_2 ((a0, (a1, (a2, (a3, (a4, (a5, a6)))))), (a7, (a10, ((lAt a8 a10), (a8, (a9, a10))))))) fun y0 =>
    sumS y0 (fun y0a =>
      some (.inl (y0a.1, (y0a.2.1, (y0a.2.2.1, (y0a.2.2.2.1, (iAdd .i64 y0a.2.2.2.2 1))))))) fun y0b =>
      some (.inr (.inr y0b))) none)
    (some (.inr (.inl ((a0, (a1, (a2, (a3, (a4, (a5, a6)))))), a7))))
def L46_0 (x : (((List (Int × ByteArray)) × (Int × ((List (Int × (Bool × (Bool × (Int × (Int × (ByteArray × (Int × Int)))))))) × ((List Int) × (Int × (Int × Int)))))) × ((List Bool) × ((List Int) × (Int × Int))))) : Option ((((List (Int × ByteArray)) × (Int × ((List (Int × (Bool × (Bool × (Int × (Int × (ByteArray × (Int × Int)))))))) × ((List Int) × (Int × (Int × Int)))))) × (List Bool)) ⊕ Bool) := iter (fun (x : (((List (Int × ByteArray)) × (Int × ((List (Int × (Bool × (Bool × (Int × (Int × (ByteArray × (Int × Int)))))))) × ((List Int) × (Int × (Int × Int)))))) × ((List Bool) × ((List Int) × (Int × Int))))) => (B46_0 x.1.1 x.1.2.1 x.1.2.2.1 x.1.2.2.2.1 x.1.2.2.2.2.1 x.1.2.2.2.2.2.1 x.1.2.2.2.2.2.2 x.2.1 x.2.2.1 x.2.2.2.1 x.2.2.2.2)) fuel x
def lsL46_0 : LS := ⟨(.one .normal ⟨.non, [1, 3, 13, 14, 15], (.seq (.box 0 (.seq (.dat (.sl (.pr (.int .i64) .str))) (.seq (.dat (.int .i64)) (.seq (.dat (.sl (.pr (.int .i64) (.pr .bool (.pr .bool (.pr (.int .i64) (.pr (.int .i64) (.pr .str (.pr (.int .i64) (.int .i64)))))))))) (.seq (.dat (.sl (.int .i64))) (.seq (.dat (.int .i64)) (.seq (.dat (.int .i64)) (.dat (.int .i64))))))))) (.seq (.own 1 .bool) (.seq (.dat (.sl (.int .i64))) (.seq (.dat (.int .i64)) (.dat (.int .i64)))))), 2, 88, 0⟩), (.two (.one (.exit 0) ⟨.non, [1, 3], (.seq (.box 0 (.seq (.dat (.sl (.pr (.int .i64) .str))) (.seq (.dat (.int .i64)) (.seq (.dat (.sl (.pr (.int .i64) (.pr .bool (.pr .bool (.pr (.int .i64) (.pr (.int .i64) (.pr .str (.pr (.int .i64) (.int .i64)))))))))) (.seq (.dat (.sl (.int .i64))) (.seq (.dat (.int .i64)) (.seq (.dat (.int .i64)) (.dat (.int .i64))))))))) (.own 1 .bool)), 2, 88, 0⟩) (.one .ret ⟨.non, [2], (.dat .bool), 0, 88, 0⟩)), fun (x : (((List (Int × ByteArray)) × (Int × ((List (Int × (Bool × (Bool × (Int × (Int × (ByteArray × (Int × Int)))))))) × ((List Int) × (Int × (Int × Int)))))) × ((List Bool) × ((List Int) × (Int × Int))))) => (B46_0 x.1.1 x.1.2.1 x.1.2.2.1 x.1.2.2.2.1 x.1.2.2.2.2.1 x.1.2.2.2.2.2.1 x.1.2.2.2.2.2.2 x.2.1 x.2.2.1 x.2.2.2.1 x.2.2.2.2)⟩
def B46_4 (a0 : (List Bool)) (a1 : (List (Int × (Bool × (Bool × (Int × (Int × (ByteArray × (Int × Int))))))))) (a2 : Int) (a3 : Int) : Option (((List Bool) × ((List (Int × (Bool × (Bool × (Int × (Int × (ByteArray × (Int × Int)))))))) × (Int × Int))) ⊕ (Unit ⊕ Bool)) :=
  sel (iLt a3 a2)
    (sel (oIn a3 (lLen a1)) (
    sel (oIn a3 (lLen a0)) (
    sel (bNot (bEq (lAt a1 a3).2.1 (lAt a0 a3)))
      (some (.inr (.inr false)))
      (some (.inl (a0, (a1, (a2, (iAdd .i64 a3 1))))))) none) none)
    (some (.inr (.inl ())))
def L46_4 (x : ((List Bool) × ((List (Int × (Bool × (Bool × (Int × (Int × (ByteArray × (Int × Int)))))))) × (Int × Int)))) : Option (Unit ⊕ Bool) := iter (fun (x : ((List Bool) × ((List (Int × (Bool × (Bool × (Int × (Int × (ByteArray × (Int × Int)))))))) × (Int × Int)))) => (B46_4 x.1 x.2.1 x.2.2.1 x.2.2.2)) fuel x
def lsL46_4 : LS := ⟨(.one .normal ⟨.non, [3, 73, 74, 75], (.seq (.own 0 .bool) (.seq (.dat (.sl (.pr (.int .i64) (.pr .bool (.pr .bool (.pr (.int .i64) (.pr (.int .i64) (.pr .str (.pr (.int .i64) (.int .i64)))))))))) (.seq (.dat (.int .i64)) (.dat (.int .i64))))), 1, 88, 0⟩), (.two (.one (.exit 4) ⟨.non, [], .non, 0, 88, 0⟩) (.one .ret ⟨.non, [2], (.dat .bool), 0, 88, 0⟩)), fun (x : ((List Bool) × ((List (Int × (Bool × (Bool × (Int × (Int × (ByteArray × (Int × Int)))))))) × (Int × Int)))) => (B46_4 x.1 x.2.1 x.2.2.1 x.2.2.2)⟩
/-- paging.isTable -/
def F46 (a0 : (((List (Int × ByteArray)) × Int) × ((List (Int × (Bool × (Bool × (Int × (Int × (ByteArray × (Int × Int)))))))) × ((List Int) × (Int × (Int × Int)))))) : Option Bool :=
  sel (nCap 1 (lLen a0.2.1)) (
  bndS (L46_0 ((a0.1.1, (a0.1.2, a0.2)), ((lRep (lLen a0.2.1) (false : Bool)), (a0.2.2.1, ((lLen a0.2.2.1), 0))))) fun y0 =>
  sumS y0 (fun y0a =>
    bndS (L46_4 (y0a.2, (y0a.1.2.2.1, ((lLen y0a.1.2.2.1), 0)))) fun y1 =>
    sumS y1 (fun y1a =>
      some true) fun y1b =>
      some y1b) fun y0b =>
    some y0b) none
def gF46 : FS := ⟨(.agg (.dat (.pr (.pr (.sl (.pr (.int .i64) .str)) (.int .i64)) (.pr (.sl (.pr (.int .i64) (.pr .bool (.pr .bool (.pr (.int .i64) (.pr (.int .i64) (.pr .str (.pr (.int .i64) (.int .i64))))))))) (.pr (.sl (.int .i64)) (.pr (.int .i64) (.pr (.int .i64) (.int .i64)))))))), 0, (.one ⟨.non, (.dat .bool), 0, 0⟩), fun x => (F46 x)⟩
theorem rL46_2 (x : lsL46_2.hd.T) : kRound env (GofL [(73, [gF73])]) (LofL [(46, [(2, lsL46_2), (0, lsL46_0), (4, lsL46_4)])]) 46 2 (lpOf Try.prog 46 1).2 (lsL46_2.hd.st x) lsL46_2.rd = lsL46_2.B x := by kernel_rfl
theorem rL46_0 (x : lsL46_0.hd.T) : kRound env (GofL [(73, [gF73])]) (LofL [(46, [(2, lsL46_2), (0, lsL46_0), (4, lsL46_4)])]) 46 0 (lpOf Try.prog 46 0).2 (lsL46_0.hd.st x) lsL46_0.rd = lsL46_0.B x := by kernel_rfl
theorem rL46_4 (x : lsL46_4.hd.T) : kRound env (GofL [(73, [gF73])]) (LofL [(46, [(2, lsL46_2), (0, lsL46_0), (4, lsL46_4)])]) 46 4 (lpOf Try.prog 46 2).2 (lsL46_4.hd.st x) lsL46_4.rd = lsL46_4.B x := by kernel_rfl
theorem eF46 (x : gF46.a.T) : kF env (GofL [(73, [gF73])]) (LofL [(46, [(2, lsL46_2), (0, lsL46_0), (4, lsL46_4)])]) 46 (gF46.args x) (gF46.bs x) gF46.r.dec = gF46.F x := by kernel_rfl
theorem sF46 : SpecAt env 2 46 gF46 := mkSpec (r := 1) (gl := [(73, [gF73])]) (L0 := [(2, lsL46_2), (0, lsL46_0), (4, lsL46_4)]) (by kernel_rfl) ⟨⟨sF73.up (by decide), trivial⟩, trivial⟩ ⟨⟨1, by kernel_rfl, by kernel_rfl, rL46_2⟩, ⟨0, by kernel_rfl, by kernel_rfl, rL46_0⟩, ⟨2, by kernel_rfl, by kernel_rfl, rL46_4⟩, trivial⟩ eF46 (fun h => absurd h (by rw [show env.nl 46 = false by kernel_rfl]; decide))
/-- paging.CheckPaging -/
def F13 (a0 : (((List (Int × ByteArray)) × Int) × ((List (Int × (Bool × (Bool × (Int × (Int × (ByteArray × (Int × Int)))))))) × ((List Int) × (Int × (Int × Int)))))) : Option Int :=
  bndS (F43 a0.1) fun y0 =>
  sel (bNot (iEq y0.2 0))
    (some y0.2)
    (letS (F44 (lLen a0.2.1) 1 8) fun y1 =>
    sel (bOr (bNot y1) (bNot (iEq (lLen a0.2.2.1) 5)))
      (some 6)
      (bndS (L13_0 ((a0.1.1, (a0.1.2, a0.2)), ([a0.2.2.2.1, a0.2.2.2.2.1, a0.2.2.2.2.2], ((lLen [a0.2.2.2.1, a0.2.2.2.2.1, a0.2.2.2.2.2]), 0)))) fun y2 =>
      sumS y2 (fun y2a =>
        bndS (L13_2 (y2a, ((lLen y2a.2.2.1), 0))) fun y3 =>
        sumS y3 (fun y3a =>
          bndS (F46 ((y3a.1, y3a.2.1), y3a.2.2)) fun y4 =>
          sel (bNot y4)
            (some 41)
            (some 0)) fun y3b =>
          some y3b) fun y2b =>
        some y2b))
def gF13 : FS := ⟨(.agg (.dat (.pr (.pr (.sl (.pr (.int .i64) .str)) (.int .i64)) (.pr (.sl (.pr (.int .i64) (.pr .bool (.pr .bool (.pr (.int .i64) (.pr (.int .i64) (.pr .str (.pr (.int .i64) (.int .i64))))))))) (.pr (.sl (.int .i64)) (.pr (.int .i64) (.pr (.int .i64) (.int .i64)))))))), 0, (.one ⟨.non, (.dat (.int .i64)), 0, 0⟩), fun x => (F13 x)⟩
theorem rL13_0 (x : lsL13_0.hd.T) : kRound env (GofL [(46, [gF46]), (45, [gF45]), (44, [gF44]), (43, [gF43])]) (LofL [(13, [(0, lsL13_0), (2, lsL13_2)])]) 13 0 (lpOf Try.prog 13 0).2 (lsL13_0.hd.st x) lsL13_0.rd = lsL13_0.B x := by kernel_rfl
theorem rL13_2 (x : lsL13_2.hd.T) : kRound env (GofL [(46, [gF46]), (45, [gF45]), (44, [gF44]), (43, [gF43])]) (LofL [(13, [(0, lsL13_0), (2, lsL13_2)])]) 13 2 (lpOf Try.prog 13 1).2 (lsL13_2.hd.st x) lsL13_2.rd = lsL13_2.B x := by kernel_rfl
theorem eF13 (x : gF13.a.T) : kF env (GofL [(46, [gF46]), (45, [gF45]), (44, [gF44]), (43, [gF43])]) (LofL [(13, [(0, lsL13_0), (2, lsL13_2)])]) 13 (gF13.args x) (gF13.bs x) gF13.r.dec = gF13.F x := by kernel_rfl
theorem sF13 : SpecAt env 5 13 gF13 := mkSpec (r := 4) (gl := [(46, [gF46]), (45, [gF45]), (44, [gF44]), (43, [gF43])]) (L0 := [(0, lsL13_0), (2, lsL13_2)]) (by kernel_rfl) ⟨⟨sF46.up (by decide), trivial⟩, ⟨sF45.up (by decide), trivial⟩, ⟨sF44.up (by decide), trivial⟩, ⟨sF43.up (by decide), trivial⟩, trivial⟩ ⟨⟨0, by kernel_rfl, by kernel_rfl, rL13_0⟩, ⟨1, by kernel_rfl, by kernel_rfl, rL13_2⟩, trivial⟩ eF13 (fun h => absurd h (by rw [show env.nl 13 = false by kernel_rfl]; decide))
/-- segment.find$1 -/
def F106 (a0 : (Int × ByteArray)) (a1 : Int) : Int :=
  (iSub .i64 a0.1 a1)
def gF106 : FS := ⟨(.seq (.agg (.dat (.pr (.int .i64) .str))) (.dat (.int .i64))), 0, (.one ⟨.non, (.dat (.int .i64)), 0, 0⟩), fun x => some (F106 x.1 x.2)⟩
theorem eF106 (x : gF106.a.T) : kF env (GofL []) (LofL [(106, [])]) 106 (gF106.args x) (gF106.bs x) gF106.r.dec = gF106.F x := by kernel_rfl
theorem sF106 : SpecAt env 1 106 gF106 := mkSpec (r := 0) (gl := []) (L0 := []) (by kernel_rfl) trivial trivial eF106 (fun h => absurd h (by rw [show env.nl 106 = false by kernel_rfl]; decide))
def B105_0 (a0 : (List (Int × ByteArray))) (a1 : Int) (a2 : Int) (a3 : Int) (a4 : Int) : Option (((List (Int × ByteArray)) × (Int × (Int × (Int × Int)))) ⊕ ((List (Int × ByteArray)) × (Int × (Int × Int)))) :=
  sel (iLt a3 a4)
    (sel (oIn (iCv .i64 (iShr .u64 (iCv .u64 (iAdd .i64 a3 a4)) 1)) (lLen a0)) (
    letS (F106 (lAt a0 (iCv .i64 (iShr .u64 (iCv .u64 (iAdd .i64 a3 a4)) 1))) a1) fun y0 =>
    some (.inl (a0, (a1, (a2, ((sel (iLt y0 0) (iAdd .i64 (iCv .i64 (iShr .u64 (iCv .u64 (iAdd .i64 a3 a4)) 1)) 1) a3), (sel (iLt y0 0) a4 (iCv .i64 (iShr .u64 (iCv .u64 (iAdd .i64 a3 a4)) 1))))))))) none)
    (some (.inr (a0, (a1, (a2, a3)))))
def L105_0 (x : ((List (Int × ByteArray)) × (Int × (Int × (Int × Int))))) : Option ((List (Int × ByteArray)) × (Int × (Int × Int))) := iter (fun (x : ((List (Int × ByteArray)) × (Int × (Int × (Int × Int))))) => (B105_0 x.1 x.2.1 x.2.2.1 x.2.2.2.1 x.2.2.2.2)) fuel x
def lsL105_0 : LS := ⟨(.one .normal ⟨.non, [0, 1, 2, 8, 9, 10], (.seq (.dat (.sl (.pr (.int .i64) .str))) (.seq (.dat (.int .i64)) (.seq (.fn 106 .non) (.seq (.dat (.int .i64)) (.seq (.dat (.int .i64)) (.dat (.int .i64))))))), 0, 49, 0⟩), (.one (.exit 0) ⟨.non, [0, 1, 2, 8, 9], (.seq (.dat (.sl (.pr (.int .i64) .str))) (.seq (.dat (.int .i64)) (.seq (.fn 106 .non) (.seq (.dat (.int .i64)) (.dat (.int .i64)))))), 0, 49, 0⟩), fun (x : ((List (Int × ByteArray)) × (Int × (Int × (Int × Int))))) => (B105_0 x.1 x.2.1 x.2.2.1 x.2.2.2.1 x.2.2.2.2)⟩
/-- slices.BinarySearchFunc[[]api.Segment,api.Segment,int] -/
def F105 (a0 : (List (Int × ByteArray))) (a1 : Int) : Option (Int × Bool) :=
  bndS (L105_0 (a0, (a1, ((lLen a0), (0, (lLen a0)))))) fun y0 =>
  sel (bOr (oIn y0.2.2.2 (lLen y0.1)) (bNot (iLt y0.2.2.2 y0.2.2.1))) (
  letS (F106 (lAt y0.1 y0.2.2.2) y0.2.1) fun y1 =>
  some (y0.2.2.2, (bAnd (iLt y0.2.2.2 y0.2.2.1) (iEq y1 0)))) none
def gF105 : FS := ⟨(.seq (.dat (.sl (.pr (.int .i64) .str))) (.seq (.dat (.int .i64)) (.fn 106 .non))), 0, (.one ⟨.non, (.tup (.seq (.dat (.int .i64)) (.dat .bool))), 0, 0⟩), fun x => (F105 x.1 x.2)⟩
theorem rL105_0 (x : lsL105_0.hd.T) : kRound env (GofL [(106, [gF106])]) (LofL [(105, [(0, lsL105_0)])]) 105 0 (lpOf Try.prog 105 0).2 (lsL105_0.hd.st x) lsL105_0.rd = lsL105_0.B x := by kernel_rfl
theorem eF105 (x : gF105.a.T) : kF env (GofL [(106, [gF106])]) (LofL [(105, [(0, lsL105_0)])]) 105 (gF105.args x) (gF105.bs x) gF105.r.dec = gF105.F x := by kernel_rfl
theorem sF105 : SpecAt env 2 105 gF105 := mkSpec (r := 1) (gl := [(106, [gF106])]) (L0 := [(0, lsL105_0)]) (by kernel_rfl) ⟨⟨sF106.up (by decide), trivial⟩, trivial⟩ ⟨⟨0, by kernel_rfl, by kernel_rfl, rL105_0⟩, trivial⟩ eF105 (fun h => absurd h (by rw [show env.nl 105 = false by kernel_rfl]; decide))
/-- segment.find -/
def F96 (a0 : ((List (Int × ByteArray)) × Int)) (a1 : Int) : Option (Int × Int) :=
  bndS (F43 a0) fun y0 =>
  sel (bNot (iEq y0.2 0))
    (some (0, y0.2))
    (bndS (F105 a0.1 a1) fun y1 =>
    sel y1.2
      (some (y1.1, 0))
      (letS (F70 a1 1 (iSub .i64 a0.2 1)) fun y2 =>
      sel y2
        (some (0, 24))
        (some (0, 11))))
def gF96 : FS := ⟨(.seq (.agg (.dat (.pr (.sl (.pr (.int .i64) .str)) (.int .i64)))) (.dat (.int .i64))), 0, (.one ⟨.non, (.tup (.seq (.dat (.int .i64)) (.dat (.int .i64)))), 0, 0⟩), fun x => (F96 x.1 x.2)⟩
theorem eF96 (x : gF96.a.T) : kF env (GofL [(70, [gF70]), (105, [gF105]), (43, [gF43])]) (LofL [(96, [])]) 96 (gF96.args x) (gF96.bs x) gF96.r.dec = gF96.F x := by kernel_rfl
theorem sF96 : SpecAt env 3 96 gF96 := mkSpec (r := 2) (gl := [(70, [gF70]), (105, [gF105]), (43, [gF43])]) (L0 := []) (by kernel_rfl) ⟨⟨sF70.up (by decide), trivial⟩, ⟨sF105.up (by decide), trivial⟩, ⟨sF43.up (by decide), trivial⟩, trivial⟩ trivial eF96 (fun h => absurd h (by rw [show env.nl 96 = false by kernel_rfl]; decide))
/-- segment.bytesAt -/
def F67 (a0 : ((List (Int × ByteArray)) × Int)) (a1 : (Int × Int)) (a2 : Int) : Option (Int × Int) :=
  bndS (F96 a0 a1.1) fun y0 =>
  sel (bNot (iEq y0.2 0))
    (some (0, y0.2))
    (sel (oIn y0.1 (lLen a0.1)) (
    letS (F70 a1.2 0 (sLen (lAt a0.1 y0.1).2)) fun y1 =>
    letS (F70 a2 0 (iSub .i64 (sLen (lAt a0.1 y0.1).2) a1.2)) fun y2 =>
    sel (bOr (bNot y1) (bNot y2))
      (some (0, 3))
      (some (y0.1, 0))) none)
def gF67 : FS := ⟨(.seq (.agg (.dat (.pr (.sl (.pr (.int .i64) .str)) (.int .i64)))) (.seq (.agg (.dat (.pr (.int .i64) (.int .i64)))) (.dat (.int .i64)))), 0, (.one ⟨.non, (.tup (.seq (.dat (.int .i64)) (.dat (.int .i64)))), 0, 0⟩), fun x => (F67 x.1 x.2.1 x.2.2)⟩
theorem eF67 (x : gF67.a.T) : kF env (GofL [(70, [gF70]), (96, [gF96])]) (LofL [(67, [])]) 67 (gF67.args x) (gF67.bs x) gF67.r.dec = gF67.F x := by kernel_rfl
theorem sF67 : SpecAt env 4 67 gF67 := mkSpec (r := 3) (gl := [(70, [gF70]), (96, [gF96])]) (L0 := []) (by kernel_rfl) ⟨⟨sF70.up (by decide), trivial⟩, ⟨sF96.up (by decide), trivial⟩, trivial⟩ trivial eF67 (fun h => absurd h (by rw [show env.nl 67 = false by kernel_rfl]; decide))
/-- segment.ReadAt -/
def F40 (a0 : ((List (Int × ByteArray)) × Int)) (a1 : (Int × Int)) (a2 : Int) : Option (ByteArray × Int) :=
  bndS (F67 a0 a1 a2) fun y0 =>
  sel (bNot (iEq y0.2 0))
    (some ((bs []), y0.2))
    (sel (oIn y0.1 (lLen a0.1)) (
    sel (oCut a1.2 (iAdd .i64 a1.2 a2) (sLen (lAt a0.1 y0.1).2)) (
    some ((sCut (lAt a0.1 y0.1).2 a1.2 (iAdd .i64 a1.2 a2)), 0)) none) none)
def gF40 : FS := ⟨(.seq (.agg (.dat (.pr (.sl (.pr (.int .i64) .str)) (.int .i64)))) (.seq (.agg (.dat (.pr (.int .i64) (.int .i64)))) (.dat (.int .i64)))), 0, (.one ⟨.non, (.tup (.seq (.dat .str) (.dat (.int .i64)))), 0, 0⟩), fun x => (F40 x.1 x.2.1 x.2.2)⟩
theorem eF40 (x : gF40.a.T) : kF env (GofL [(67, [gF67])]) (LofL [(40, [])]) 40 (gF40.args x) (gF40.bs x) gF40.r.dec = gF40.F x := by kernel_rfl
theorem sF40 : SpecAt env 5 40 gF40 := mkSpec (r := 4) (gl := [(67, [gF67])]) (L0 := []) (by kernel_rfl) ⟨⟨sF67.up (by decide), trivial⟩, trivial⟩ trivial eF40 (fun h => absurd h (by rw [show env.nl 40 = false by kernel_rfl]; decide))
/-- paging.victim$1$1 -/
def F87 (a0 : (Int × (Bool × (Bool × (Int × (Int × (ByteArray × (Int × Int)))))))) : Option Int :=
  sel (bNot a0.2.1)
    (some 0)
    (sel (bNot a0.2.2.1)
      (some 1)
      (some 2))
def gF87 : FS := ⟨(.agg (.dat (.pr (.int .i64) (.pr .bool (.pr .bool (.pr (.int .i64) (.pr (.int .i64) (.pr .str (.pr (.int .i64) (.int .i64)))))))))), 0, (.one ⟨.non, (.dat (.int .i64)), 0, 0⟩), fun x => (F87 x)⟩
theorem eF87 (x : gF87.a.T) : kF env (GofL []) (LofL [(87, [])]) 87 (gF87.args x) (gF87.bs x) gF87.r.dec = gF87.F x := by kernel_rfl
theorem sF87 : SpecAt env 1 87 gF87 := mkSpec (r := 0) (gl := []) (L0 := []) (by kernel_rfl) trivial trivial eF87 (fun h => absurd h (by rw [show env.nl 87 = false by kernel_rfl]; decide))
/-- cmp.isNaN[int] -/
def F102 (a0 : Int) : Bool :=
  (bNot (iEq a0 a0))
def gF102 : FS := ⟨(.dat (.int .i64)), 0, (.one ⟨.non, (.dat .bool), 0, 0⟩), fun x => some (F102 x)⟩
theorem eF102 (x : gF102.a.T) : kF env (GofL []) (LofL [(102, [])]) 102 (gF102.args x) (gF102.bs x) gF102.r.dec = gF102.F x := by kernel_rfl
theorem sF102 : SpecAt env 1 102 gF102 := mkSpec (r := 0) (gl := []) (L0 := []) (by kernel_rfl) trivial trivial eF102 (fun h => absurd h (by rw [show env.nl 102 = false by kernel_rfl]; decide))
/-- cmp.Compare[int] -/
def F89 (a0 : Int) (a1 : Int) : Option Int :=
  letS (F102 a0) fun y0 =>
  letS (F102 a1) fun y1 =>
  sel y0
    (sel y1
      (some 0)
      (some (-1)))
    (sel y1
      (some 1)
      (sel (iLt a0 a1)
        (some (-1))
        (sel (iLt a1 a0)
          (some 1)
          (some 0))))
def gF89 : FS := ⟨(.seq (.dat (.int .i64)) (.dat (.int .i64))), 0, (.one ⟨.non, (.dat (.int .i64)), 0, 0⟩), fun x => (F89 x.1 x.2)⟩
theorem eF89 (x : gF89.a.T) : kF env (GofL [(102, [gF102])]) (LofL [(89, [])]) 89 (gF89.args x) (gF89.bs x) gF89.r.dec = gF89.F x := by kernel_rfl
theorem sF89 : SpecAt env 2 89 gF89 := mkSpec (r := 1) (gl := [(102, [gF102])]) (L0 := []) (by kernel_rfl) ⟨⟨sF102.up (by decide), trivial⟩, trivial⟩ trivial eF89 (fun h => absurd h (by rw [show env.nl 89 = false by kernel_rfl]; decide))
def B88_0 (a0 : Int) (a1 : (List Int)) (a2 : Int) (a3 : Int) : Option ((Int × ((List Int) × (Int × Int))) ⊕ (Int ⊕ Int)) :=
  sel (iLt a3 a2)
    (sel (oIn a3 (lLen a1)) (
    sel (bNot (iEq (lAt a1 a3) a0))
      (some (.inr (.inr (lAt a1 a3))))
      (some (.inl (a0, (a1, (a2, (iAdd .i64 a3 1))))))) none)
    (some (.inr (.inl a0)))
def L88_0 (x : (Int × ((List Int) × (Int × Int)))) : Option (Int ⊕ Int) := iter (fun (x : (Int × ((List Int) × (Int × Int)))) => (B88_0 x.1 x.2.1 x.2.2.1 x.2.2.2)) fuel x
def lsL88_0 : LS := ⟨(.one .normal ⟨.non, [3, 6, 7, 8], (.seq (.dat (.int .i64)) (.seq (.dat (.sl (.int .i64))) (.seq (.dat (.int .i64)) (.dat (.int .i64))))), 0, 18, 0⟩), (.two (.one (.exit 0) ⟨.non, [3], (.dat (.int .i64)), 0, 18, 0⟩) (.one .ret ⟨.non, [2], (.dat (.int .i64)), 0, 18, 0⟩)), fun (x : (Int × ((List Int) × (Int × Int)))) => (B88_0 x.1 x.2.1 x.2.2.1 x.2.2.2)⟩
/-- cmp.Or[int] -/
def F88 (a0 : (List Int)) : Option Int :=
  bndS (L88_0 (0, (a0, ((lLen a0), 0)))) fun y0 =>
  sumS y0 (fun y0a =>
    some y0a) fun y0b =>
    some y0b
def gF88 : FS := ⟨(.dat (.sl (.int .i64))), 0, (.one ⟨.non, (.dat (.int .i64)), 0, 0⟩), fun x => (F88 x)⟩
theorem rL88_0 (x : lsL88_0.hd.T) : kRound env (GofL []) (LofL [(88, [(0, lsL88_0)])]) 88 0 (lpOf Try.prog 88 0).2 (lsL88_0.hd.st x) lsL88_0.rd = lsL88_0.B x := by kernel_rfl
theorem eF88 (x : gF88.a.T) : kF env (GofL []) (LofL [(88, [(0, lsL88_0)])]) 88 (gF88.args x) (gF88.bs x) gF88.r.dec = gF88.F x := by kernel_rfl
theorem sF88 : SpecAt env 1 88 gF88 := mkSpec (r := 0) (gl := []) (L0 := [(0, lsL88_0)]) (by kernel_rfl) trivial ⟨⟨0, by kernel_rfl, by kernel_rfl, rL88_0⟩, trivial⟩ eF88 (fun h => absurd h (by rw [show env.nl 88 = false by kernel_rfl]; decide))
/-- paging.victim$1 -/
def F86 (a0 : (Int × (Bool × (Bool × (Int × (Int × (ByteArray × (Int × Int)))))))) (a1 : (Int × (Bool × (Bool × (Int × (Int × (ByteArray × (Int × Int)))))))) : Option Bool :=
  bndS (F87 a0) fun y0 =>
  bndS (F87 a1) fun y1 =>
  bndS (F89 y0 y1) fun y2 =>
  bndS (F89 a0.2.2.2.2.2.2.1 a1.2.2.2.2.2.2.1) fun y3 =>
  bndS (F88 [y2, y3]) fun y4 =>
  some (iLt y4 0)
def gF86 : FS := ⟨(.seq (.agg (.dat (.pr (.int .i64) (.pr .bool (.pr .bool (.pr (.int .i64) (.pr (.int .i64) (.pr .str (.pr (.int .i64) (.int .i64)))))))))) (.agg (.dat (.pr (.int .i64) (.pr .bool (.pr .bool (.pr (.int .i64) (.pr (.int .i64) (.pr .str (.pr (.int .i64) (.int .i64))))))))))), 0, (.one ⟨.non, (.dat .bool), 0, 0⟩), fun x => (F86 x.1 x.2)⟩
theorem eF86 (x : gF86.a.T) : kF env (GofL [(88, [gF88]), (89, [gF89]), (87, [gF87])]) (LofL [(86, [])]) 86 (gF86.args x) (gF86.bs x) gF86.r.dec = gF86.F x := by kernel_rfl
theorem sF86 : SpecAt env 3 86 gF86 := mkSpec (r := 2) (gl := [(88, [gF88]), (89, [gF89]), (87, [gF87])]) (L0 := []) (by kernel_rfl) ⟨⟨sF88.up (by decide), trivial⟩, ⟨sF89.up (by decide), trivial⟩, ⟨sF87.up (by decide), trivial⟩, trivial⟩ trivial eF86 (fun h => absurd h (by rw [show env.nl 86 = false by kernel_rfl]; decide))
def B59_0 (a0 : Int) (a1 : (List (Int × ByteArray))) (a2 : Int) (a3 : (List (Int × (Bool × (Bool × (Int × (Int × (ByteArray × (Int × Int))))))))) (a4 : (List Int)) (a5 : Int) (a6 : Int) (a7 : Int) (a8 : Int) (a9 : (List (Int × (Bool × (Bool × (Int × (Int × (ByteArray × (Int × Int))))))))) (a10 : Int) (a11 : Int) : Option ((Int × (((List (Int × ByteArray)) × (Int × ((List (Int × (Bool × (Bool × (Int × (Int × (ByteArray × (Int × Int)))))))) × ((List Int) × (Int × (Int × Int)))))) × (Int × ((List (Int × (Bool × (Bool × (Int × (Int × (ByteArray × (Int × Int)))))))) × (Int × Int))))) ⊕ Int) :=
  sel (iLt a11 a10)
    (sel (oIn a11 (lLen a9)) (
    sel (bOr (oIn a8 (lLen a3)) (bNot (bAnd (iEq (lAt a9 a11).1 a0) (bNot (iLt a8 0))))) (
    sel (bOr (okS (F86 (lAt a9 a11) (lAt a3 a8))) (bNot (bAnd (iEq (lAt a9 a11).1 a0) (bNot (iLt a8 0))))) (
    letS (valS (F86 (lAt a9 a11) (lAt a3 a8)) false) fun y0 =>
    some (.inl (a0, ((a1, (a2, (a3, (a4, (a5, (a6, a7)))))), ((sel (bAnd (iEq (lAt a9 a11).1 a0) (bOr (iLt a8 0) y0)) a11 a8), (a9, (a10, (iAdd .i64 a11 1)))))))) none) none) none)
    (some (.inr a8))
def L59_0 (x : (Int × (((List (Int × ByteArray)) × (Int × ((List (Int × (Bool × (Bool × (Int × (Int × (ByteArray × (Int × Int)))))))) × ((List Int) × (Int × (Int × Int)))))) × (Int × ((List (Int × (Bool × (Bool × (Int × (Int × (ByteArray × (Int × Int)))))))) × (Int × Int)))))) : Option Int := iter (fun (x : (Int × (((List (Int × ByteArray)) × (Int × ((List (Int × (Bool × (Bool × (Int × (Int × (ByteArray × (Int × Int)))))))) × ((List Int) × (Int × (Int × Int)))))) × (Int × ((List (Int × (Bool × (Bool × (Int × (Int × (ByteArray × (Int × Int)))))))) × (Int × Int)))))) => (B59_0 x.1 x.2.1.1 x.2.1.2.1 x.2.1.2.2.1 x.2.1.2.2.2.1 x.2.1.2.2.2.2.1 x.2.1.2.2.2.2.2.1 x.2.1.2.2.2.2.2.2 x.2.2.1 x.2.2.2.1 x.2.2.2.2.1 x.2.2.2.2.2)) fuel x
def lsL59_0 : LS := ⟨(.one .normal ⟨.non, [1, 2, 5, 6, 10, 11, 12], (.seq (.dat (.int .i64)) (.seq (.box 0 (.seq (.dat (.sl (.pr (.int .i64) .str))) (.seq (.dat (.int .i64)) (.seq (.dat (.sl (.pr (.int .i64) (.pr .bool (.pr .bool (.pr (.int .i64) (.pr (.int .i64) (.pr .str (.pr (.int .i64) (.int .i64)))))))))) (.seq (.dat (.sl (.int .i64))) (.seq (.dat (.int .i64)) (.seq (.dat (.int .i64)) (.dat (.int .i64))))))))) (.seq (.dat (.int .i64)) (.seq (.fn 86 .non) (.seq (.dat (.sl (.pr (.int .i64) (.pr .bool (.pr .bool (.pr (.int .i64) (.pr (.int .i64) (.pr .str (.pr (.int .i64) (.int .i64)))))))))) (.seq (.dat (.int .i64)) (.dat (.int .i64)))))))), 1, 38, 0⟩), (.one (.exit 0) ⟨.non, [5], (.dat (.int .i64)), 0, 38, 0⟩), fun (x : (Int × (((List (Int × ByteArray)) × (Int × ((List (Int × (Bool × (Bool × (Int × (Int × (ByteArray × (Int × Int)))))))) × ((List Int) × (Int × (Int × Int)))))) × (Int × ((List (Int × (Bool × (Bool × (Int × (Int × (ByteArray × (Int × Int)))))))) × (Int × Int)))))) => (B59_0 x.1 x.2.1.1 x.2.1.2.1 x.2.1.2.2.1 x.2.1.2.2.2.1 x.2.1.2.2.2.2.1 x.2.1.2.2.2.2.2.1 x.2.1.2.2.2.2.2.2 x.2.2.1 x.2.2.2.1 x.2.2.2.2.1 x.2.2.2.2.2)⟩
/-- paging.victim -/
def F59 (a0 : (((List (Int × ByteArray)) × Int) × ((List (Int × (Bool × (Bool × (Int × (Int × (ByteArray × (Int × Int)))))))) × ((List Int) × (Int × (Int × Int)))))) (a1 : Int) : Option Int :=
  bndS (L59_0 (a1, ((a0.1.1, (a0.1.2, a0.2)), ((-1), (a0.2.1, ((lLen a0.2.1), 0)))))) fun y0 =>
  some y0
def gF59 : FS := ⟨(.seq (.agg (.dat (.pr (.pr (.sl (.pr (.int .i64) .str)) (.int .i64)) (.pr (.sl (.pr (.int .i64) (.pr .bool (.pr .bool (.pr (.int .i64) (.pr (.int .i64) (.pr .str (.pr (.int .i64) (.int .i64))))))))) (.pr (.sl (.int .i64)) (.pr (.int .i64) (.pr (.int .i64) (.int .i64)))))))) (.dat (.int .i64))), 0, (.one ⟨.non, (.dat (.int .i64)), 0, 0⟩), fun x => (F59 x.1 x.2)⟩
theorem rL59_0 (x : lsL59_0.hd.T) : kRound env (GofL [(86, [gF86])]) (LofL [(59, [(0, lsL59_0)])]) 59 0 (lpOf Try.prog 59 0).2 (lsL59_0.hd.st x) lsL59_0.rd = lsL59_0.B x := by kernel_rfl
theorem eF59 (x : gF59.a.T) : kF env (GofL [(86, [gF86])]) (LofL [(59, [(0, lsL59_0)])]) 59 (gF59.args x) (gF59.bs x) gF59.r.dec = gF59.F x := by kernel_rfl
theorem sF59 : SpecAt env 4 59 gF59 := mkSpec (r := 3) (gl := [(86, [gF86])]) (L0 := [(0, lsL59_0)]) (by kernel_rfl) ⟨⟨sF86.up (by decide), trivial⟩, trivial⟩ ⟨⟨0, by kernel_rfl, by kernel_rfl, rL59_0⟩, trivial⟩ eF59 (fun h => absurd h (by rw [show env.nl 59 = false by kernel_rfl]; decide))
/-- paging.accessErr -/
def F81 (a0 : (((List (Int × ByteArray)) × Int) × ((List (Int × (Bool × (Bool × (Int × (Int × (ByteArray × (Int × Int)))))))) × ((List Int) × (Int × (Int × Int)))))) (a1 : (Int × (Int × ((Int × Int) × (Int × ByteArray))))) : Option Int :=
  sel (iEq a1.1 0)
    (sel (bNot (bAnd (iEq a1.1 a1.1) (bAnd (iEq a1.2.1 a1.2.1) (bAnd (iEq a1.2.2.1.1 a1.2.2.1.1) (bAnd (iEq a1.2.2.1.2 a1.2.2.1.2) (bAnd (iEq a1.2.2.2.1 a1.2.2.2.1) (sEq a1.2.2.2.2 (bs []))))))))
      (some 5)
      (sel (iEq a1.1 3)
        (some 0)
        (sel (iEq a1.1 2)
          (bndS (F40 a0.1 (a1.2.2.1.1, 0) 0) fun y15 =>
          some y15.2)
          (letS (F44 a1.2.1 0 2) fun y12 =>
          sel (bNot y12)
            (some 3)
            (bndS (F40 a0.1 a1.2.2.1 (iAdd .i64 a1.2.2.2.1 (sLen a1.2.2.2.2))) fun y13 =>
            sel (bNot (iEq y13.2 0))
              (some y13.2)
              (bndS (F59 a0 a1.2.1) fun y14 =>
              sel (iLt y14 0)
                (some 40)
                (some 0)))))))
    (sel (iEq a1.1 1)
      (sel (bNot (bAnd (iEq a1.1 a1.1) (bAnd (iEq a1.2.1 a1.2.1) (bAnd (iEq a1.2.2.1.1 a1.2.2.1.1) (bAnd (iEq a1.2.2.1.2 a1.2.2.1.2) (bAnd (iEq a1.2.2.2.1 0) (sEq a1.2.2.2.2 a1.2.2.2.2)))))))
        (some 5)
        (sel (iEq a1.1 3)
          (some 0)
          (sel (iEq a1.1 2)
            (bndS (F40 a0.1 (a1.2.2.1.1, 0) 0) fun y11 =>
            some y11.2)
            (letS (F44 a1.2.1 0 2) fun y8 =>
            sel (bNot y8)
              (some 3)
              (bndS (F40 a0.1 a1.2.2.1 (iAdd .i64 a1.2.2.2.1 (sLen a1.2.2.2.2))) fun y9 =>
              sel (bNot (iEq y9.2 0))
                (some y9.2)
                (bndS (F59 a0 a1.2.1) fun y10 =>
                sel (iLt y10 0)
                  (some 40)
                  (some 0)))))))
      (sel (iEq a1.1 2)
        (sel (bNot (bAnd (iEq a1.1 a1.1) (bAnd (iEq a1.2.1 0) (bAnd (iEq a1.2.2.1.1 a1.2.2.1.1) (bAnd (iEq a1.2.2.1.2 0) (bAnd (iEq a1.2.2.2.1 0) (sEq a1.2.2.2.2 (bs []))))))))
          (some 5)
          (sel (iEq a1.1 3)
            (some 0)
            (sel (iEq a1.1 2)
              (bndS (F40 a0.1 (a1.2.2.1.1, 0) 0) fun y7 =>
              some y7.2)
              (letS (F44 a1.2.1 0 2) fun y4 =>
              sel (bNot y4)
                (some 3)
                (bndS (F40 a0.1 a1.2.2.1 (iAdd .i64 a1.2.2.2.1 (sLen a1.2.2.2.2))) fun y5 =>
                sel (bNot (iEq y5.2 0))
                  (some y5.2)
                  (bndS (F59 a0 a1.2.1) fun y6 =>
                  sel (iLt y6 0)
                    (some 40)
                    (some 0)))))))
        (sel (iEq a1.1 3)
          (sel (bNot (bAnd (iEq a1.1 a1.1) (bAnd (iEq a1.2.1 0) (bAnd (iEq a1.2.2.1.1 0) (bAnd (iEq a1.2.2.1.2 0) (bAnd (iEq a1.2.2.2.1 0) (sEq a1.2.2.2.2 (bs []))))))))
            (some 5)
            (sel (iEq a1.1 3)
              (some 0)
              (sel (iEq a1.1 2)
                (bndS (F40 a0.1 (a1.2.2.1.1, 0) 0) fun y3 =>
                some y3.2)
                (letS (F44 a1.2.1 0 2) fun y0 =>
                sel (bNot y0)
                  (some 3)
                  (bndS (F40 a0.1 a1.2.2.1 (iAdd .i64 a1.2.2.2.1 (sLen a1.2.2.2.2))) fun y1 =>
                  sel (bNot (iEq y1.2 0))
                    (some y1.2)
                    (bndS (F59 a0 a1.2.1) fun y2 =>
                    sel (iLt y2 0)
                      (some 40)
                      (some 0)))))))
          (some 4))))
def gF81 : FS := ⟨(.seq (.agg (.dat (.pr (.pr (.sl (.pr (.int .i64) .str)) (.int .i64)) (.pr (.sl (.pr (.int .i64) (.pr .bool (.pr .bool (.pr (.int .i64) (.pr (.int .i64) (.pr .str (.pr (.int .i64) (.int .i64))))))))) (.pr (.sl (.int .i64)) (.pr (.int .i64) (.pr (.int .i64) (.int .i64)))))))) (.agg (.dat (.pr (.int .i64) (.pr (.int .i64) (.pr (.pr (.int .i64) (.int .i64)) (.pr (.int .i64) .str))))))), 0, (.one ⟨.non, (.dat (.int .i64)), 0, 0⟩), fun x => (F81 x.1 x.2)⟩
theorem eF81 (x : gF81.a.T) : kF env (GofL [(40, [gF40]), (59, [gF59]), (44, [gF44])]) (LofL [(81, [])]) 81 (gF81.args x) (gF81.bs x) gF81.r.dec = gF81.F x := by kernel_rfl
theorem sF81 : SpecAt env 6 81 gF81 := mkSpec (r := 5) (gl := [(40, [gF40]), (59, [gF59]), (44, [gF44])]) (L0 := []) (by kernel_rfl) ⟨⟨sF40.up (by decide), trivial⟩, ⟨sF59.up (by decide), trivial⟩, ⟨sF44.up (by decide), trivial⟩, trivial⟩ trivial eF81 (fun h => absurd h (by rw [show env.nl 81 = false by kernel_rfl]; decide))
def B58_0 (a0 : (List (Int × ByteArray))) (a1 : Int) (a2 : (List (Int × (Bool × (Bool × (Int × (Int × (ByteArray × (Int × Int))))))))) (a3 : (List Int)) (a4 : Int) (a5 : Int) (a6 : Int) (a7 : (List Int)) (a8 : Int) : Option ((((List (Int × ByteArray)) × (Int × ((List (Int × (Bool × (Bool × (Int × (Int × (ByteArray × (Int × Int)))))))) × ((List Int) × (Int × (Int × Int)))))) × ((List Int) × Int)) ⊕ (List Int)) :=
  sel (bNot (iEq a8 (-1)))
    (sel (lCap 8 (lApp a7 [a8])) (
    sel (oIn a8 (lLen a2)) (
    some (.inl ((a0, (a1, (a2, (a3, (a4, (a5, a6)))))), ((lApp a7 [a8]), (lAt a2 a8).2.2.2.2.2.2.2)))) none) none)
    (some (.inr a7))
def L58_0 (x : (((List (Int × ByteArray)) × (Int × ((List (Int × (Bool × (Bool × (Int × (Int × (ByteArray × (Int × Int)))))))) × ((List Int) × (Int × (Int × Int)))))) × ((List Int) × Int))) : Option (List Int) := iter (fun (x : (((List (Int × ByteArray)) × (Int × ((List (Int × (Bool × (Bool × (Int × (Int × (ByteArray × (Int × Int)))))))) × ((List Int) × (Int × (Int × Int)))))) × ((List Int) × Int))) => (B58_0 x.1.1 x.1.2.1 x.1.2.2.1 x.1.2.2.2.1 x.1.2.2.2.2.1 x.1.2.2.2.2.2.1 x.1.2.2.2.2.2.2 x.2.1 x.2.2)) fuel x
def lsL58_0 : LS := ⟨(.one .normal ⟨.non, [2, 5, 6], (.seq (.box 0 (.seq (.dat (.sl (.pr (.int .i64) .str))) (.seq (.dat (.int .i64)) (.seq (.dat (.sl (.pr (.int .i64) (.pr .bool (.pr .bool (.pr (.int .i64) (.pr (.int .i64) (.pr .str (.pr (.int .i64) (.int .i64)))))))))) (.seq (.dat (.sl (.int .i64))) (.seq (.dat (.int .i64)) (.seq (.dat (.int .i64)) (.dat (.int .i64))))))))) (.seq (.own 1 (.int .i64)) (.dat (.int .i64)))), 2, 25, 0⟩), (.one (.exit 0) ⟨.non, [5], (.own 0 (.int .i64)), 1, 25, 0⟩), fun (x : (((List (Int × ByteArray)) × (Int × ((List (Int × (Bool × (Bool × (Int × (Int × (ByteArray × (Int × Int)))))))) × ((List Int) × (Int × (Int × Int)))))) × ((List Int) × Int))) => (B58_0 x.1.1 x.1.2.1 x.1.2.2.1 x.1.2.2.2.1 x.1.2.2.2.2.1 x.1.2.2.2.2.2.1 x.1.2.2.2.2.2.2 x.2.1 x.2.2)⟩
/-- paging.chain -/
def F58 (a0 : (((List (Int × ByteArray)) × Int) × ((List (Int × (Bool × (Bool × (Int × (Int × (ByteArray × (Int × Int)))))))) × ((List Int) × (Int × (Int × Int)))))) (a1 : Int) : Option (List Int) :=
  sel (oIn a1 (lLen a0.2.2.1)) (
  bndS (L58_0 ((a0.1.1, (a0.1.2, a0.2)), (([] : List Int), (lAt a0.2.2.1 a1)))) fun y0 =>
  some y0) none
def gF58 : FS := ⟨(.seq (.agg (.dat (.pr (.pr (.sl (.pr (.int .i64) .str)) (.int .i64)) (.pr (.sl (.pr (.int .i64) (.pr .bool (.pr .bool (.pr (.int .i64) (.pr (.int .i64) (.pr .str (.pr (.int .i64) (.int .i64))))))))) (.pr (.sl (.int .i64)) (.pr (.int .i64) (.pr (.int .i64) (.int .i64)))))))) (.dat (.int .i64))), 0, (.one ⟨.non, (.own 0 (.int .i64)), 0, 1⟩), fun x => (F58 x.1 x.2)⟩
theorem rL58_0 (x : lsL58_0.hd.T) : kRound env (GofL []) (LofL [(58, [(0, lsL58_0)])]) 58 0 (lpOf Try.prog 58 0).2 (lsL58_0.hd.st x) lsL58_0.rd = lsL58_0.B x := by kernel_rfl
theorem eF58 (x : gF58.a.T) : kF env (GofL []) (LofL [(58, [(0, lsL58_0)])]) 58 (gF58.args x) (gF58.bs x) gF58.r.dec = gF58.F x := by kernel_rfl
theorem sF58 : SpecAt env 1 58 gF58 := mkSpec (r := 0) (gl := []) (L0 := [(0, lsL58_0)]) (by kernel_rfl) trivial ⟨⟨0, by kernel_rfl, by kernel_rfl, rL58_0⟩, trivial⟩ eF58 (fun h => absurd h (by rw [show env.nl 58 = false by kernel_rfl]; decide))
end
end Go.Proofs.Ytagcodkkkebnhaa.K
end
