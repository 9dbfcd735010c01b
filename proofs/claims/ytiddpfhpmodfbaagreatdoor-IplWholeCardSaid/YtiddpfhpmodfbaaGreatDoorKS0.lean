/- A part of the proof: texts of the author, joined. -/
import Derived.Test.YtiddpfhpmodfbaaGreatDoorKE6
import Derived.Deep.Slices
import Derived.ChangeShapes
import Derived.ChangeArms
import Derived.WideShapes
import Derived.Below
import Derived.Test.YtiddpfhpmodfbaaGreatDoorProg
import Derived.KernelRfl
import Derived.Shelf.Strings.BuilderF
import Derived.Shelf.Strings.Search3
import Derived.Shelf.Bits.Mul64
import Derived.Shelf.Strings.Repeat
section
set_option linter.unusedVariables false
set_option linter.unusedSimpArgs false
set_option linter.unnecessarySimpa false
namespace Go.Ev
open Go Go.Deep Go.ChangeShapes

def Ty.wf : (t : Ty) → t.T → Prop
  | .int k, n => (Lit.int k n).wf = true
  | .bool, _ => True
  | .str, s => s.size ≤ 9223372036854775807
  | .sl e, l => l.length ≤ 9223372036854775807 ∧ ∀ x ∈ l, e.wf x
  | .pr a b, x => a.wf x.1 ∧ b.wf x.2
def fsB (P : Program) (g : TypeId → Ty → Bool) : List Field → Nat → Ty → Bool
  | [f], o, t => Nat.beq f.offset o && (Nat.beq (P.cellsOf f.type) t.size && g f.type t)
  | f :: r, o, .pr a b => Nat.beq f.offset o && (Nat.beq (P.cellsOf f.type) a.size && (g f.type a && fsB P g r (o + a.size) b))
  | _, _, _ => false
def tyB (P : Program) : Nat → TypeId → Ty → Bool
  | 0, _, _ => false
  | n + 1, t, s => match P.underlying t with
    | some (.int k) => (match s with | .int k' => Nat.beq (kindN k) (kindN k') | _ => false)
    | some .bool => (match s with | .bool => true | _ => false)
    | some .string => (match s with | .str => true | _ => false)
    | some (.slice e) => (match s with | .sl σ => Nat.beq (P.cellsOf e) σ.size && tyB P n e σ | _ => false)
    | some (.struct fs) => Nat.beq (P.cellsOf t) s.size && fsB P (tyB P n) fs.toList 0 s
    | _ => false

section
variable {H : Type} {enc' : TypeId × Value → H} {P : Program} {w : World} {base : Nat} {spare : Nat → Bool} {held : Bool}
def RdC (w : World) (s : Ty) (cs : List Value) (x : s.T) : Prop := s.wf x ∧ ∃ vs, RCell s x vs ∧ ∀ K : Cx, K.w = w → (s.flat = false → ∀ q, q < w.heap.size → K.S q) → VRl K vs cs
theorem exl {α : Type} {Q : Nat → α → Prop} : ∀ n : Nat, (∀ i, i < n → ∃ a, Q i a) → ∃ l : List α, l.length = n ∧ ∀ i a, l[i]? = some a → Q i a
  | 0, _ => ⟨[], rfl, fun i a h => by simp at h⟩
  | n + 1, h => by
    obtain ⟨l, hl, hq⟩ := exl n (fun i hi => h i (by omega))
    obtain ⟨a, ha⟩ := h n (by omega)
    refine ⟨l ++ [a], by simp [hl], fun i b hb => ?_⟩
    rcases Nat.lt_or_ge i l.length with h1 | h1
    · rw [List.getElem?_append_left h1] at hb
      exact hq i b hb
    · rw [List.getElem?_append_right h1] at hb
      have : i - l.length = 0 := by
        rcases Nat.eq_zero_or_pos (i - l.length) with h2 | h2
        · exact h2
        · rw [List.getElem?_eq_none (by simp; omega)] at hb; cases hb
      rw [this] at hb
      obtain rfl : a = b := by simpa using hb
      obtain rfl : i = n := by omega
      exact ha
theorem fs_read {g : TypeId → Ty → Bool} {n : Nat} (ih : ∀ t s cs y, g t s = true → DataW.trod enc' P w base spare held n t cs = some y → ∃ x : s.T, RdC w s cs x) {cs : List Value} : ∀ (fs : List Field) (o : Nat) (s : Ty), fsB P g fs o s = true → cs.length = o + s.size →
    (∀ f ∈ fs, ∃ y, DataW.trod enc' P w base spare held n f.type ((cs.drop f.offset).take (P.cellsOf f.type)) = some y) → ∃ x : s.T, RdC w s (cs.drop o) x := by
  intro fs
  induction fs with
  | nil => intro o s h; cases s <;> cases h
  | cons f r ihr =>
    intro o s h hl hf
    have one : Nat.beq f.offset o = true → Nat.beq (P.cellsOf f.type) s.size = true → g f.type s = true → ∃ x : s.T, RdC w s (cs.drop o) x := by
      intro h1 h2 h3
      obtain ⟨y, hy⟩ := hf f (by simp)
      rw [beq_nat h1, beq_nat h2, List.take_of_length_le (by rw [List.length_drop]; omega)] at hy
      exact ih _ _ _ _ h3 hy
    have two : ∀ a b, s = .pr a b → Nat.beq f.offset o = true → Nat.beq (P.cellsOf f.type) a.size = true → g f.type a = true → fsB P g r (o + a.size) b = true → ∃ x : s.T, RdC w s (cs.drop o) x := by
      intro a b hs h1 h2 h3 h4
      subst hs
      have hsz : (Ty.pr a b).size = a.size + b.size := rfl
      obtain ⟨y, hy⟩ := hf f (by simp)
      rw [beq_nat h1, beq_nat h2] at hy
      obtain ⟨xa, wa, va, ra, ka⟩ := ih _ _ _ _ h3 hy
      obtain ⟨xb, wb, vb, rb, kb⟩ := ihr (o + a.size) b h4 (by omega) (fun f hf' => hf f (by simp [hf']))
      refine ⟨(xa, xb), ⟨wa, wb⟩, va ++ vb, ⟨va, vb, rfl, ra, rb⟩, fun K hw hS => ?_⟩
      have hS1 : a.flat = false → ∀ q, q < w.heap.size → K.S q := fun h => hS (by unfold Ty.flat; rw [h])
      have hS2 : b.flat = false → ∀ q, q < w.heap.size → K.S q := fun h => hS (by unfold Ty.flat; rw [h]; cases a.flat <;> rfl)
      have := (ka K hw hS1).append (kb K hw hS2)
      rwa [← List.drop_drop, List.take_append_drop] at this
    unfold fsB at h
    split at h
    · rename_i h0
      injection h0 with h0 h0'
      subst h0
      simp only [Bool.and_eq_true] at h
      exact one h.1 h.2.1 h.2.2
    · rename_i a b _ h0
      injection h0 with h0 h0'
      subst h0; subst h0'
      simp only [Bool.and_eq_true] at h
      exact two a b rfl h.1 h.2.1 h.2.2.1 h.2.2.2
    · cases h
theorem ty_read : ∀ (n : Nat) (t : TypeId) (s : Ty) (fuel : Nat) (cs : List Value) y, tyB P n t s = true → DataW.trod enc' P w base spare held fuel t cs = some y → ∃ x : s.T, RdC w s cs x := by
  intro n
  induction n with
  | zero => intro t s fuel cs y h; cases h
  | succ n ih =>
    intro t s fuel cs y h hy
    unfold tyB at h
    split at h
    · rename_i k ht
      split at h
      · rename_i k'
        obtain rfl := kindN_inj h
        obtain ⟨m, rfl, _, hw⟩ := DataW.trod_int ht hy
        exact ⟨m, hw, _, rfl, fun K _ _ => VRl.cons (.lit rfl) .nil⟩
      · cases h
    · rename_i ht
      split at h
      · obtain ⟨m, rfl, _⟩ := DataW.trod_bool ht hy
        exact ⟨m, trivial, _, rfl, fun K _ _ => VRl.cons (.lit rfl) .nil⟩
      · cases h
    · rename_i ht
      split at h
      · obtain ⟨m, rfl, _, hm⟩ := DataW.trod_string ht hy
        exact ⟨m, hm, _, rfl, fun K _ _ => VRl.cons (.lit rfl) .nil⟩
      · cases h
    · rename_i e ht
      split at h
      · rename_i s
        simp only [Bool.and_eq_true] at h
        have hC := beq_nat h.1
        rcases open_slice ht hy with ⟨rfl, _⟩ | ⟨a, len, cap, m, k, D, Pl, rfl, hb, hl, hm, hmm, hx, hi⟩
        · exact ⟨[], ⟨by simp, by simp⟩, [.con true s.size []], ⟨_, rfl, .inr ⟨true, [], rfl, fun _ => rfl, .nil⟩⟩, fun K _ _ => VRl.cons (.con0 fun _ => rfl) .nil⟩
        · have hlm : len ≤ m := by rw [hmm]; split <;> omega
          obtain ⟨l, hll, hq⟩ := exl (α := s.T × List V × List Value) (Q := fun i x => s.wf x.1 ∧ RCell s x.1 x.2.1 ∧ (∀ K : Cx, K.w = w → (s.flat = false → ∀ q, q < w.heap.size → K.S q) → VRl K x.2.1 x.2.2) ∧ x.2.2.length = s.size ∧ ∀ j, j < s.size → w.cell? ((a.add (i * s.size)).add j) = x.2.2[j]?) len (fun i hilt => by
            obtain ⟨cs', hc, ht'⟩ := hi i (by omega)
            rw [hC] at hc
            obtain ⟨x, hwf, vs, hr, hk⟩ := ih _ _ _ _ _ h.2 ht'
            obtain ⟨_, hcl, hat⟩ := World.cells?_some hc
            exact ⟨⟨x, vs, cs'⟩, hwf, hr, hk, hcl, hat⟩)
          subst hll
          have hm' : l.length ≤ 9223372036854775807 := Nat.le_trans hl hm
          refine ⟨l.map (·.1), ⟨by simpa using hm', fun x hx => ?_⟩, [.con s.flat s.size (l.map (·.2.1))], ⟨_, rfl, .inr ⟨s.flat, _, rfl, fun h => h, ⟨by simp, fun i x y h1 h2 => ?_⟩⟩⟩, fun K hw hS => ?_⟩
          · obtain ⟨p, hp, rfl⟩ := List.mem_map.1 hx
            obtain ⟨j, hj⟩ := List.mem_iff_getElem?.1 hp
            exact (hq j p hj).1
          · rw [List.getElem?_map] at h1 h2
            cases hp : l[i]? with
            | none => rw [hp] at h1; cases h1
            | some p =>
              rw [hp] at h1 h2
              cases h1; cases h2
              exact (hq i p hp).2.1
          · have hS' := hS rfl
            refine VRl.cons ?_ .nil
            cases l with
            | nil => exact .con0 fun h => by cases h
            | cons p0 r =>
              have hsp := s.size_pos
              obtain ⟨ab, ao, as0⟩ := a
              have h0 := (hq 0 p0 rfl).2.2.2
              have hc0 := h0.2 0 hsp
              have hsome : ∃ u, p0.2.2[0]? = some u := ⟨_, List.getElem?_eq_getElem (by omega)⟩
              obtain ⟨u, hu⟩ := hsome
              rw [hu] at hc0
              simp only [Nat.zero_mul, Addr.add, if_true] at hc0
              have has : as0 = none := by
                unfold World.cell? at hc0
                split at hc0
                · cases as0 with
                  | none => rfl
                  | some _ => cases hc0
                · cases hc0
              subst has
              have hbl : ab < w.heap.size := by
                unfold World.cell? at hc0
                split at hc0
                · rename_i hh
                  exact (Array.getElem?_eq_some_iff.1 hh).1
                · cases hc0
              have hadd : ∀ i j, (Addr.mk ab ao none |>.add (i * s.size)).add j = ⟨ab, ao + i * s.size + j, none⟩ := by
                intro i j
                unfold Addr.add
                split <;> split <;> simp_all
              have hat : ∀ (i j : Nat) (v : V), at2 (((p0 :: r).map (·.2.1))) i j = some v → ∃ p, (p0 :: r)[i]? = some p ∧ p.2.1[j]? = some v := by
                intro i j v hv
                unfold at2 at hv
                rw [List.getElem?_map] at hv
                cases hp : (p0 :: r)[i]? with
                | none => rw [hp] at hv; cases hv
                | some p => rw [hp] at hv; exact ⟨p, rfl, hv⟩
              have hcell : ∀ i j v p, (p0 :: r)[i]? = some p → p.2.1[j]? = some v → ∃ x, p.2.2[j]? = some x ∧ w.cell? ⟨ab, ao + i * s.size + j, none⟩ = some x := by
                intro i j v p hp hv
                obtain ⟨_, hr, _, hlen, hce⟩ := hq i p hp
                have hj : j < s.size := by rw [← (hr.facts).1]; exact get_lt hv
                have := hce j hj
                rw [hadd] at this
                exact ⟨_, List.getElem?_eq_getElem (by omega), this.trans (List.getElem?_eq_getElem (by omega))⟩
              have hlen' : (p0 :: r).length = ((p0 :: r).map (·.2.1)).length := by simp
              rw [hlen']
              refine .con (by simp) (by simpa using hl) (hS' ab hbl) (fun cs hcs => ?_) (fun cs hcs => ?_) (fun i j v hv => ?_) (fun i j v x hv hx => ?_)
              · obtain ⟨p, hp, rfl⟩ := List.mem_map.1 hcs
                obtain ⟨j, hj⟩ := List.mem_iff_getElem?.1 hp
                exact (RCell.facts _ _ _ (hq j p hj).2.1).1
              · obtain ⟨p, hp, rfl⟩ := List.mem_map.1 hcs
                obtain ⟨j, hj⟩ := List.mem_iff_getElem?.1 hp
                exact (RCell.facts _ _ _ (hq j p hj).2.1).2.1
              · obtain ⟨p, hp, hv⟩ := hat i j v hv
                obtain ⟨x, _, hx⟩ := hcell i j v p hp hv
                exact ⟨x, by rw [hw]; exact hx⟩
              · obtain ⟨p, hp, hv⟩ := hat i j v hv
                obtain ⟨x', hx1, hx2⟩ := hcell i j v p hp hv
                rw [hw, hx2] at hx
                cases hx
                exact ((hq i p hp).2.2.1 (K.clo s.flat) hw (fun hf q hq' => ⟨hf, hS' q hq'⟩)).2 j v _ hv hx1
      · cases h
    · rename_i fs ht
      simp only [Bool.and_eq_true] at h
      obtain ⟨xs, m, _, _, hl, hlen, hf⟩ := DataW.trod_struct ht hy
      have := fs_read (g := tyB P n) (n := m) (cs := cs) (fun t s cs y h1 h2 => ih t s m cs y h1 h2) fs.toList 0 s h.2 (by rw [hl, beq_nat h.1]; omega) (fun f hfm => by
        obtain ⟨i, hi⟩ := List.mem_iff_getElem?.1 hfm
        have hi' : fs[i]? = some f := by simpa using hi
        have hlt : i < xs.length := by rw [hlen]; exact (Array.getElem?_eq_some_iff.1 hi').1
        exact ⟨_, (hf i f hi').trans (List.getElem?_eq_getElem hlt)⟩)
      simpa using this
    · cases h
end
end Go.Ev
end

section
set_option linter.unusedVariables false
set_option linter.unusedSimpArgs false
set_option linter.unnecessarySimpa false
namespace Go.Ev
open Go Go.WideShapes Go.RowKit

def isSt (P : Program) (t : TypeId) : Bool := match P.underlying t with
  | some (.struct _) => true
  | _ => false
def Sh.par (P : Program) (t : TypeId) (s : Ty) : Sh := match isSt P t with
  | true => .agg (.dat s)
  | false => .dat s
def RdA (w : World) (s : Sh) (v : Value) (x : s.T) : Prop := ∃ u, (∀ ln, RL ln (s.enc x) [u]) ∧ ∀ K : Cx, K.w = w → (∀ q, q < w.heap.size → K.S q) → VR K u v

section
variable {H : Type} {enc' : TypeId × Value → H} {P : Program} {w : World} {base base' : Nat} {spare : Nat → Bool} {held : Bool}
theorem cells_one {t : TypeId} {s : Ty} {v : Value} {n : Nat} {r : Reach} (hty : tyB P n t s = true) (hst : isSt P t = false) (hv : Value.okWide P w r base t v) : v.cells.toList = [v] := by
  cases n with
  | zero => cases hty
  | succ n =>
    unfold tyB at hty
    unfold isSt at hst
    split at hty
    · rename_i ht; obtain ⟨m, rfl⟩ := okWide_int ht hv; rfl
    · rename_i ht; obtain ⟨m, rfl⟩ := okWide_bool ht hv; rfl
    · rename_i ht; obtain ⟨m, rfl⟩ := okWide_string ht hv; rfl
    · rename_i ht; obtain ⟨a, b, c, rfl⟩ := okWide_slice ht hv; rfl
    · rename_i ht; rw [ht] at hst; cases hst
    · cases hty
theorem one_of {s : Ty} {vs : List V} {v : Value} {x : s.T} (h : RCell s x vs) (k : ∀ K : Cx, K.w = w → (s.flat = false → ∀ q, q < w.heap.size → K.S q) → VRl K vs [v]) : ∃ u, vs = [u] := by
  have := (k ⟨fun _ => True, fun _ => none, fun _ => False, w⟩ rfl (fun _ _ _ => trivial)).1
  match vs, this with
  | [u], _ => exact ⟨u, rfl⟩
theorem arg_dat {t : TypeId} {s : Ty} {v : Value} {d p} {n : Nat} {r : Reach} (hty : tyB P n t s = true) (hst : isSt P t = false) (hv : Value.okWide P w r base' t v) (h : DataW.Trod enc' P w base spare held t v d p) : ∃ x : s.T, s.wf x ∧ RdA w (.dat s) v x := by
  obtain ⟨fuel, h⟩ := h
  obtain ⟨x, hwf, vs, hr, hk⟩ := ty_read n t s fuel _ _ hty h
  rw [cells_one hty hst hv] at hk
  obtain ⟨u, rfl⟩ := one_of hr hk
  refine ⟨x, hwf, u, fun ln => hr.enc, fun K hw hS => ?_⟩
  exact (hk K hw fun _ => hS).2 0 _ _ rfl rfl
theorem arg_agg {t : TypeId} {s : Ty} {v : Value} {d p} {n : Nat} {r : Reach} (hty : tyB P n t s = true) (hst : isSt P t = true) (hv : Value.okWide P w r base' t v) (h : DataW.Trod enc' P w base spare held t v d p) : ∃ x : s.T, s.wf x ∧ RdA w (.agg (.dat s)) v x := by
  obtain ⟨fuel, h⟩ := h
  obtain ⟨x, hwf, vs, hr, hk⟩ := ty_read n t s fuel _ _ hty h
  unfold isSt at hst
  split at hst
  · rename_i fs ht
    obtain ⟨cs, rfl, _⟩ := okWide_struct ht hv
    refine ⟨x, hwf, .agg vs, fun ln => Rows.cons ?_ .nil, fun K hw hS => ?_⟩
    · exact .agg (hr.enc (ln := ln)).1 (hr.enc (ln := ln)).2
    · exact VRl.agg (hk K hw fun _ => hS)
  · cases hst
end

theorem law_calls {E : Env} (hP : ProgOK E) {r f : Nat} {g : FS} (hs : SpecAt E r f g) {args : List V} {sp : Sp Ret} {y : sp.α} (h1 : g.g args [] = some sp) (h2 : sp.o = some y) (h3 : sp.alt.val y = (.lit (.bool true), [], [])) {W : World} {a2 : List V} {vals : List Value}
    (hr : RL (fun _ => none) args a2) (hv : ∀ K : Cx, K.w = W → (∀ q, q < W.heap.size → K.S q) → VRl K a2 vals) : Calls E.P f vals.toArray W fun e w' => e = .returned (.bool true) ∧ Below W.heap.size W w' := by
  obtain ⟨r', ln', h4, h5⟩ := hs 0 args [] sp y h1 h2 (fun _ => none) a2 [] hr ⟨rfl, fun _ _ _ h => by cases h⟩ (fun _ _ => rfl)
  rw [h3] at h5
  have hv5 := h5.v
  have e1 : r'.1 = .lit (.bool true) := by
    generalize r'.1 = z at hv5
    cases hv5
    rfl
  have hg : Good (baseOf ⟨fun q => q < W.heap.size, fun _ => none, fun _ => False, W⟩ (ofL (([] : List Blk).map some)) 0) (fun b => b < 0) ⟨fun q => q < W.heap.size, fun _ => none, fun _ => False, W⟩ (ofL (([] : List Blk).map some)) := by
    exact { blk := fun b x h => by (cases h), inj := fun b x b' x' q n n' h => by (cases h), apart := fun b x q n h => by (cases h), sz := fun q h => h, N := fun b h => False.elim h, grow := Nat.le_refl _, io := Io.refl _, frame := fun _ _ _ => rfl, inp := fun b h => absurd h (Nat.not_lt_zero _), own := fun b x q n h => by (cases h), S0 := fun q h => h, S1 := fun q h => .inl h }
  refine ((evF_sound hP _ f a2 [] r' h4).2 ⟨fun q => q < W.heap.size, fun _ => none, fun _ => False, W⟩ vals (hv _ rfl fun _ h => h) hg).mono fun e w' h => ?_
  obtain ⟨v, K', rfl, rfl, hv', _, hg'⟩ := h
  rw [e1] at hv'
  refine ⟨?_, hg'.io.1, hg'.io.2.1, hg'.io.2.2, hg'.grow, fun k hk => hg'.frame k hk ?_⟩
  · cases hv'; rfl
  · rintro ⟨b, x, n, h, _⟩
    cases h
theorem law_true {E : Env} (hP : ProgOK E) {r f : Nat} {g : FS} (hs : SpecAt E r f g) {x : g.a.T} {y : g.r.T} (h1 : g.g (g.args x) [] = some ⟨g.r.T, g.F x, g.r.dflt, g.r.alt⟩) (h2 : g.F x = some y) (h3 : g.r.alt.val y = (.lit (.bool true), [], [])) {W : World} {a2 : List V} {vals : List Value}
    (hr : ∀ ln, RL ln (g.args x) a2) (hv : ∀ K : Cx, K.w = W → (∀ q, q < W.heap.size → K.S q) → VRl K a2 vals) : Calls E.P f vals.toArray W fun e w' => e = .returned (.bool true) ∧ Below W.heap.size W w' :=
  law_calls hP hs (y := y) h1 h2 h3 (hr _) hv
end Go.Ev
end

section
set_option linter.unusedVariables false
set_option linter.unusedSimpArgs false
set_option linter.unnecessarySimpa false
open Go Go.Ev Go.Proofs
namespace Go.Proofs.YtiddpfhpmodfbaaGreatDoor.K
def inl (l : List Nat) (f : Nat) : Bool := mem f l
def tab : List (Nat × List (Nat × List (Nat × Nat))) → Nat → Nat → List (Nat × Nat)
  | [], _, _ => []
  | (a, l) :: r, f, i => cond (Nat.beq a f) (T l i) (tab r f i)
  where T : List (Nat × List (Nat × Nat)) → Nat → List (Nat × Nat)
    | [], _ => []
    | (b, l) :: r, i => cond (Nat.beq b i) l (T r i)
def tel : List (Nat × List Nat) := [(24, [2, 2, 0]), (58, [2, 2, 0, 0, 0]), (61, [0, 2]), (63, [0, 0]), (87, [0, 0, 0, 2, 2, 0])]
def fsl : List Nat := [3, 4, 5, 6, 7, 8, 9, 10, 11, 12, 13, 14, 15, 16, 17, 18, 19, 20, 21, 22, 23, 24, 25, 26, 27, 28, 29, 30, 31, 32, 33, 34, 35, 36, 37, 38, 39, 40, 41, 42, 43, 44, 45, 46, 47, 48, 49, 50, 51, 52, 53, 54, 55, 56, 57, 58, 59, 60, 61, 62, 63, 64, 65, 66, 67, 68, 69, 70, 71, 72, 73, 74, 75, 76, 77, 78, 79, 80, 81, 82, 83, 84, 85, 86, 87, 88, 89, 90, 91, 92, 93, 94, 95, 96, 97, 98, 99, 100, 101, 102, 103, 104, 105, 106, 107, 108, 109, 110, 111, 112, 113, 114, 115, 116, 117, 118, 119, 120, 121, 122, 123, 124, 125, 126, 127, 128, 129, 130, 131, 132, 133, 134, 135, 136, 137, 138, 139, 140, 141, 142, 143, 144, 145, 146, 147, 148, 149, 150, 151, 152, 153, 154, 155, 156, 157, 158, 159, 160, 161, 162, 163, 164, 165, 166, 167, 168, 169, 170, 171, 172, 173, 174, 175, 176, 177, 178, 179, 180, 181, 182, 183, 184, 186, 187, 190, 191, 192, 193, 194, 195, 196, 197, 198, 199, 200, 201, 202, 203, 204, 205, 206, 208, 209, 210, 211, 212, 213, 214, 215, 216, 217, 218, 219, 220, 221, 222, 223]
def unOf : List (Nat × Nat × List (Nat × List Nat)) → Nat → Nat → List (Nat × List Nat)
  | [], _, _ => []
  | (a, b, l) :: r, f, i => cond (Nat.beq a f && Nat.beq b i) l (unOf r f i)
def unl : List (Nat × Nat × List (Nat × List Nat)) := [(5, 6, [(0, [4])]), (7, 16, [(4, [6, 8])]), (9, 5, [(1, [2])]), (10, 5, [(0, [9]), (1, [2, 9]), (2, [9]), (4, [9])]), (10, 6, [(0, [7]), (1, [2, 7]), (2, [7]), (3, [7])]), (10, 8, [(11, [15])]), (13, 21, [(3, [5, 7])]), (14, 16, [(1, [7])]), (14, 25, [(2, [4])]), (14, 32, [(2, [6]), (6, [12, 16])]), (16, 4, [(1, [8, 10]), (2, [4, 8, 10]), (4, [8, 10]), (5, [8, 10]), (8, [10])]), (16, 13, [(1, [4])]), (20, 1, [(2, [4, 7]), (5, [7])]), (22, 18, [(4, [7]), (7, [12])]), (24, 12, [(1, [12]), (6, [12]), (11, [12])]), (26, 11, [(1, [16])]), (36, 1, [(2, [4, 8])]), (37, 12, [(0, [5])]), (39, 15, [(1, [7]), (3, [7])]), (39, 16, [(5, [7])]), (40, 14, [(1, [7])]), (41, 28, [(1, [10]), (3, [10])]), (42, 25, [(2, [9, 10]), (4, [9, 10]), (6, [9])]), (59, 1, [(4, [6, 8, 11, 13]), (9, [11, 13])]), (63, 1, [(4, [6, 8])]), (64, 1, [(2, [4])]), (73, 3, [(1, [14])]), (78, 11, [(1, [3])]), (79, 1, [(1, [8, 12, 15, 16, 17]), (2, [7, 8, 11, 12, 15, 16, 17]), (3, [7, 8, 11, 12, 15, 16, 17]), (4, [7, 8, 11, 12, 15, 16, 17]), (7, [15, 16, 17]), (8, [11, 15, 16, 17]), (11, [15, 16, 17]), (12, [15, 16, 17])]), (80, 1, [(2, [5, 9]), (6, [9])]), (83, 9, [(2, [4]), (4, [6])]), (83, 10, [(6, [7])]), (85, 1, [(4, [6])]), (91, 9, [(1, [6, 8]), (3, [6])]), (92, 4, [(0, [11])]), (94, 1, [(4, [6])]), (98, 4, [(2, [8]), (6, [8])]), (139, 1, [(1, [6]), (2, [4, 6]), (4, [6])]), (147, 4, [(2, [3])]), (152, 7, [(2, [6, 7, 8])]), (165, 0, [(8, [12])])]
def jnR : List (Nat × List Nat × Nat) → Nat → Option (List Nat × Nat)
  | [], _ => none
  | (a, l, n) :: r, t => cond (Nat.beq a t) (some (l, n)) (jnR r t)
def jnOf : List (Nat × List (Nat × List Nat × Nat)) → Nat → Nat → Option (List Nat × Nat)
  | [], _, _ => none
  | (a, l) :: r, f, t => cond (Nat.beq a f) (jnR l t) (jnOf r f t)
def jnl : List (Nat × List (Nat × List Nat × Nat)) := [(19, [(14, [1, 6, 7, 8, 25, 26, 27, 53], 40), (17, [1, 6, 8, 25, 26, 27], 8)]), (50, [(2, [1, 3], 40)]), (70, [(16, [0, 7, 43], 64), (17, [0, 7, 43], 48), (18, [0, 7, 43], 32), (19, [0, 7, 43], 16), (32, [0, 7, 8], 96), (34, [0, 7, 8], 24)]), (77, [(10, [3, 7], 56), (12, [3, 7], 8)]), (83, [(7, [1, 2, 4, 25], 32)]), (105, [(4, [0, 1, 5, 6], 56)]), (154, [(14, [0, 4, 5], 8)]), (168, [(9, [0, 1, 8, 9, 10, 11, 12], 32)]), (174, [(2, [0, 2], 32), (5, [0, 2], 48)]), (175, [(2, [0, 2], 32), (5, [0, 2], 48), (8, [0, 2], 48)]), (178, [(6, [0, 1, 2, 8, 9, 10], 40)]), (190, [(4, [0, 2, 3, 4, 10, 11], 24)]), (197, [(9, [0, 1, 8, 9, 10, 11, 12], 32)]), (203, [(7, [0, 5, 6], 24)]), (208, [(11, [4, 6, 7, 8], 32)]), (210, [(4, [0, 2, 3, 4, 10, 11], 24)]), (216, [(6, [0, 1, 2, 3, 4, 10, 11, 12, 13], 24)])]
def anl : List (Nat × List (Nat × List (Nat × Nat))) := [(7, [(0, [(1, 0), (2, 0), (7, 0), (9, 0)]), (2, [(1, 0), (2, 0), (7, 0), (9, 0), (10, 0), (13, 0)]), (10000000, []), (10000002, [(1, 0), (2, 0), (7, 0), (9, 0)]), (20000000, [(4, 0)])]), (13, [(0, [(1, 0), (3, 0), (6, 0)]), (2, [(1, 0), (3, 0), (7, 0)]), (10000000, [(1, 0), (3, 0)]), (10000002, []), (20000000, [(2, 0)])]), (14, [(0, [(1, 0), (2, 0), (5, 0), (6, 0)]), (2, [(1, 0), (2, 0), (9, 0), (10, 0), (12, 0)]), (4, [(1, 0), (2, 0), (9, 0), (10, 0), (12, 0), (13, 0), (14, 0), (15, 0), (16, 0), (17, 0)]), (10000000, [(1, 0), (2, 0), (5, 0)]), (10000002, []), (10000004, [(1, 0), (2, 0), (9, 0), (10, 0), (12, 0), (13, 0), (14, 0), (15, 0), (16, 0)]), (20000000, [(4, 0)])]), (18, [(0, [(1, 0), (3, 0)]), (10000000, []), (20000000, [(2, 0)])]), (19, [(0, [(1, 0), (25, 0), (26, 0), (27, 0)]), (3, [(1, 0), (79, 0), (80, 0), (81, 0)]), (10000000, [(1, 0)]), (10000003, []), (20000000, [(2, 0), (3, 0)])]), (21, [(0, [(1, 0), (5, 0)]), (2, [(1, 0), (7, 0)]), (10000000, [(1, 0)]), (10000002, []), (20000000, [(2, 0), (3, 0)])]), (22, [(0, [(2, 0), (4, 0), (8, 0), (29, 0), (30, 0), (31, 0)]), (2, [(2, 0), (4, 0), (8, 0), (10, 0), (29, 0), (30, 0), (31, 0), (44, 0), (45, 0)]), (10000000, [(4, 0), (8, 0)]), (10000002, [(2, 0), (4, 0), (8, 0), (10, 0), (29, 0), (30, 0), (31, 0)]), (20000000, [(4, 0), (5, 0)])]), (24, [(0, [(1, 0), (2, 0), (4, 0), (6, 0), (7, 0)]), (2, [(1, 0), (2, 0), (4, 0), (6, 0), (8, 0)]), (4, [(1, 0), (2, 0), (4, 0), (6, 0), (8, 0), (9, 0), (10, 0)]), (10000000, [(1, 0), (2, 0), (4, 0), (6, 0)]), (10000002, [(4, 0), (6, 0)]), (10000004, [(1, 0), (2, 0), (4, 0), (6, 0), (8, 0)]), (20000000, [(4, 0)])]), (25, [(0, [(1, 0), (2, 0), (7, 0), (8, 48), (24, 0), (25, 0), (26, 0)]), (10000000, [(2, 0), (7, 0), (8, 0)]), (20000000, [(2, 0), (3, 0), (4, 0)])]), (26, [(0, [(1, 0), (2, 0), (4, 0), (5, 0)]), (10000000, [(2, 0), (4, 0)]), (20000000, [(2, 0)])]), (27, [(0, [(0, 0), (1, 0), (5, 0)]), (10000000, []), (20000000, [(4, 0)])]), (28, [(0, [(1, 0), (2, 0), (5, 0)]), (10000000, []), (20000000, [(4, 0)])]), (40, [(0, [(2, 0), (4, 0), (7, 0), (8, 0), (9, 0)]), (10000000, [(4, 0), (7, 0)]), (20000000, [(4, 0)])]), (41, [(0, [(1, 0), (2, 0), (7, 0), (8, 48), (36, 0), (37, 0), (38, 0)]), (2, [(2, 0), (7, 0), (8, 48), (68, 0), (69, 0), (70, 0)]), (10000000, [(1, 0), (2, 0), (7, 0), (8, 0)]), (10000002, [(2, 0), (7, 0), (8, 0)]), (20000000, [(2, 0), (3, 0), (4, 0)])]), (42, [(0, [(1, 0), (2, 0), (4, 0), (5, 0)]), (2, [(1, 0), (2, 0), (4, 0), (7, 0)]), (10000000, [(1, 0), (2, 0), (4, 0)]), (10000002, [(2, 0), (4, 0)]), (20000000, [(2, 0)])]), (43, [(0, [(2, 0), (3, 0), (5, 0)]), (2, [(2, 0), (3, 0), (6, 0)]), (10000000, [(2, 0), (3, 0)]), (10000002, []), (20000000, [(4, 0)])]), (44, [(0, [(1, 0), (2, 0), (5, 0)]), (10000000, []), (20000000, [(4, 0)])]), (45, [(0, [(2, 0), (3, 0), (5, 0)]), (10000000, []), (20000000, [(4, 0)])]), (46, [(0, [(0, 0), (1, 0), (5, 0)]), (10000000, []), (20000000, [(4, 0)])]), (52, [(0, [(0, 0), (3, 0), (6, 0), (7, 0)]), (10000000, [(3, 0)]), (20000000, [(2, 0)])]), (53, [(0, [(0, 0)]), (2, [(0, 0), (4, 0)]), (10000000, [(0, 0)]), (10000002, [(0, 0)]), (20000000, [(2, 0), (3, 0)])]), (54, [(0, [(0, 0), (1, 0), (5, 153), (6, 0)]), (10000000, [(5, 0)]), (20000000, [(4, 0)])]), (55, [(0, [(0, 0), (1, 0), (2, 0), (7, 0), (8, 0)]), (10000000, [(7, 0)]), (20000000, [(6, 0)])]), (57, [(0, [(0, 0), (3, 0), (4, 0)]), (10000000, [(3, 0)]), (20000000, [(2, 0)])]), (58, [(0, [(1, 0), (16, 0), (17, 0), (18, 0)]), (10000000, []), (20000000, [(2, 0), (3, 0)])]), (66, [(0, [(1, 0), (5, 0), (7, 0)]), (10000000, []), (20000000, [(4, 0)])]), (70, [(3, [(7, 0), (8, 0), (9, 0)]), (10000003, [(9, 0)]), (20000000, [(4, 0)])]), (72, [(0, [(0, 0), (3, 0)]), (2, [(0, 0), (3, 0), (4, 0), (5, 0)]), (10000000, [(0, 0)]), (10000002, [(0, 0), (3, 0)]), (20000000, [(2, 0)])]), (76, [(0, [(0, 0), (3, 0), (5, 0)]), (10000000, []), (20000000, [(4, 0)])]), (87, [(0, [(0, 0), (1, 0), (5, 0), (6, 0)]), (10000000, [(0, 0), (5, 0)]), (20000000, [(4, 0)])]), (89, [(0, [(0, 0), (1, 0), (5, 0), (6, 0)]), (10000000, [(0, 0), (5, 0)]), (20000000, [(4, 0)])]), (93, [(0, [(2, 0), (3, 0), (4, 0), (5, 35), (6, 0), (7, 0)]), (10000000, [(2, 0), (3, 0), (4, 0), (5, 0), (6, 0)]), (20000000, [(4, 0)])]), (99, [(0, [(2, 0), (3, 0), (4, 0), (5, 0), (6, 0)]), (10000000, [(3, 0), (4, 0)]), (20000000, [(4, 0)])]), (100, [(0, [(2, 0), (3, 0), (4, 0), (5, 0), (6, 0)]), (10000000, [(3, 0), (4, 0)]), (20000000, [(4, 0)])]), (101, [(0, [(2, 0), (3, 0), (5, 0)]), (10000000, []), (20000000, [(4, 0)])]), (102, [(0, [(0, 0), (1, 0)]), (10000000, [(0, 0)]), (20000000, [(4, 0)])]), (103, [(0, [(0, 0), (2, 0), (4, 0)]), (10000000, [(2, 0)]), (20000000, [(2, 0), (3, 0)])]), (104, [(0, [(0, 0), (1, 0)]), (10000000, [(0, 0)]), (20000000, [(4, 0)])]), (105, [(0, [(0, 0), (1, 0)]), (10000000, [(0, 0)]), (20000000, [(4, 0)])]), (107, [(0, [(0, 0), (14, 0), (15, 0)]), (10000000, []), (20000000, [(2, 0)])]), (108, [(0, [(0, 0), (3, 0)]), (10000000, []), (20000000, [(2, 0)])]), (110, [(0, [(3, 0), (6, 0), (7, 0), (8, 0)]), (10000000, [(3, 0)]), (20000000, [(2, 0)])]), (113, [(0, [(0, 0), (1, 0), (7, 0), (8, 0)]), (10000000, []), (20000000, [(4, 0)])]), (114, [(0, [(1, 0), (4, 0)]), (10000000, []), (20000000, [(2, 0), (3, 0)])]), (125, [(0, [(0, 0), (1, 0), (2, 0), (3, 0), (4, 0), (10, 0), (11, 0)]), (10000000, []), (20000000, [])]), (131, [(0, [(1, 0), (2, 0), (3, 0), (4, 0), (9, 0)]), (10000000, []), (20000000, [(8, 0)])]), (133, [(0, [(0, 0), (1, 0), (5, 0), (6, 0)]), (10000000, [(5, 0)]), (20000000, [(4, 0)])]), (142, [(0, [(0, 0), (1, 0), (7, 0), (8, 0)]), (10000000, []), (20000000, [(4, 0)])]), (143, [(0, [(0, 0), (1, 0), (7, 0), (8, 0)]), (10000000, []), (20000000, [(4, 0)])]), (154, [(0, [(0, 0), (4, 0), (5, 0), (6, 0)]), (10000000, [(0, 0), (4, 0), (5, 0)]), (20000000, [(2, 0), (3, 0)])]), (156, [(1, [(0, 0), (1, 0), (5, 0), (6, 0), (7, 0), (8, 0), (9, 0), (10, 0)]), (10000001, []), (20000000, [(4, 0)])]), (166, [(0, [(0, 0), (1, 0), (2, 0), (3, 0), (8, 0)]), (2, [(0, 0), (1, 0), (2, 0), (3, 0), (8, 0), (9, 0)]), (10000000, []), (10000002, [(0, 0), (1, 0), (2, 0), (3, 0), (8, 0)]), (20000000, [])]), (167, [(0, [(0, 0), (3, 0), (8, 0), (9, 0), (10, 0), (11, 0)]), (2, [(0, 0), (3, 0), (8, 0), (9, 0), (12, 0)]), (10000000, [(0, 0), (3, 0), (8, 0), (9, 0), (10, 0)]), (10000002, []), (20000000, [])]), (168, [(0, [(0, 0), (1, 0), (8, 0), (9, 0), (10, 0), (11, 0)]), (10000000, []), (20000000, [])]), (170, [(0, [(0, 0), (8, 0), (9, 0)]), (10000000, []), (20000000, [])]), (171, [(0, [(0, 0), (1, 0), (2, 0), (3, 0), (9, 0), (10, 0)]), (2, [(0, 0), (1, 0), (2, 0), (3, 0), (9, 0), (10, 0)]), (4, [(0, 0), (1, 0), (2, 0), (3, 0), (9, 0), (10, 0), (11, 0)]), (6, [(0, 0), (1, 0), (2, 0), (3, 0), (9, 0), (10, 0), (12, 0)]), (10000000, []), (10000002, [(0, 0), (1, 0), (2, 0), (3, 0), (9, 0), (10, 0)]), (10000004, [(0, 0), (1, 0), (2, 0), (3, 0), (9, 0), (10, 0)]), (10000006, [(0, 0), (1, 0), (2, 0), (3, 0), (9, 0), (10, 0)]), (20000000, [(8, 0)])]), (172, [(0, [(0, 0), (1, 0), (4, 0), (11, 0), (12, 0)]), (2, [(0, 0), (1, 0), (4, 0), (11, 0), (12, 0)]), (4, [(0, 0), (1, 0), (4, 0), (11, 0), (12, 0)]), (10000000, [(11, 0)]), (10000002, [(0, 0), (1, 0), (4, 0), (11, 0), (12, 0)]), (10000004, [(0, 0), (1, 0), (4, 0), (11, 0), (12, 0)]), (20000000, [(10, 0)])]), (173, [(0, [(0, 0), (1, 0), (4, 0), (12, 0), (13, 0)]), (2, [(0, 0), (1, 0), (4, 0), (12, 0), (13, 0)]), (4, [(0, 0), (1, 0), (4, 0), (12, 0), (13, 0)]), (6, [(0, 0), (1, 0), (4, 0), (12, 0), (13, 0)]), (8, [(0, 0), (1, 0), (4, 0), (12, 0), (13, 0)]), (10000000, [(0, 0), (1, 0), (4, 0), (12, 0), (13, 0)]), (10000002, [(0, 0), (1, 0), (4, 0), (12, 0), (13, 0)]), (10000004, [(0, 0), (1, 0), (13, 0)]), (10000006, [(0, 0), (1, 0), (4, 0), (12, 0), (13, 0)]), (10000008, [(0, 0), (1, 0), (4, 0), (12, 0), (13, 0)]), (20000000, [(10, 0), (11, 0)])]), (176, [(0, [(0, 0), (1, 0), (2, 0), (3, 0), (4, 0), (10, 0), (11, 0)]), (10000000, []), (20000000, [])]), (178, [(0, [(0, 0), (1, 0), (2, 0), (8, 0), (9, 0), (10, 0)]), (10000000, [(0, 0), (1, 0), (2, 0), (8, 0), (9, 0)]), (20000000, [(6, 0), (7, 0)])]), (183, [(1, [(0, 0), (7, 0), (8, 0), (9, 0)]), (3, [(0, 0), (7, 0), (8, 0), (9, 0), (12, 0)]), (5, [(0, 0), (7, 0), (8, 0), (9, 0), (14, 0), (15, 0)]), (7, [(0, 0), (7, 0), (8, 0), (9, 0), (14, 0), (15, 0), (16, 0)]), (9, [(175, 0)]), (10000001, []), (10000003, [(8, 0), (9, 0)]), (10000005, []), (10000007, [(0, 0), (7, 0), (8, 0), (9, 0), (14, 0), (15, 0)]), (10000009, []), (20000000, [(4, 0)])]), (187, [(0, [(0, 0), (1, 0), (5, 0), (6, 0), (7, 0), (8, 0), (9, 0)]), (2, [(0, 0), (1, 0), (5, 0), (6, 0), (7, 0), (8, 0), (10, 0)]), (10000000, [(0, 0), (1, 0), (5, 0), (6, 0), (7, 0), (8, 0)]), (10000002, []), (20000000, [(4, 0)])]), (190, [(0, [(0, 0), (2, 0), (3, 0), (4, 0), (10, 0)]), (10000000, []), (20000000, [])]), (195, [(0, [(0, 0), (1, 0), (2, 0), (3, 0), (8, 0)]), (2, [(0, 0), (1, 0), (2, 0), (3, 0), (8, 0), (9, 0)]), (10000000, []), (10000002, [(0, 0), (1, 0), (2, 0), (3, 0), (8, 0)]), (20000000, [])]), (196, [(0, [(0, 0), (3, 0), (8, 0), (9, 0), (10, 0), (11, 0)]), (2, [(0, 0), (3, 0), (8, 0), (9, 0), (12, 0)]), (10000000, [(0, 0), (3, 0), (8, 0), (9, 0), (10, 0)]), (10000002, []), (20000000, [])]), (197, [(0, [(0, 0), (1, 0), (8, 0), (9, 0), (10, 0), (11, 0)]), (10000000, []), (20000000, [])]), (199, [(0, [(0, 0), (8, 0), (9, 0)]), (10000000, []), (20000000, [])]), (200, [(0, [(0, 0), (1, 0), (2, 0), (3, 0), (9, 0), (10, 0)]), (2, [(0, 0), (1, 0), (2, 0), (3, 0), (9, 0), (10, 0)]), (4, [(0, 0), (1, 0), (2, 0), (3, 0), (9, 0), (10, 0), (11, 0)]), (6, [(0, 0), (1, 0), (2, 0), (3, 0), (9, 0), (10, 0), (12, 0)]), (10000000, []), (10000002, [(0, 0), (1, 0), (2, 0), (3, 0), (9, 0), (10, 0)]), (10000004, [(0, 0), (1, 0), (2, 0), (3, 0), (9, 0), (10, 0)]), (10000006, [(0, 0), (1, 0), (2, 0), (3, 0), (9, 0), (10, 0)]), (20000000, [(8, 0)])]), (201, [(0, [(0, 0), (1, 0), (4, 0), (11, 0), (12, 0)]), (2, [(0, 0), (1, 0), (4, 0), (11, 0), (12, 0)]), (4, [(0, 0), (1, 0), (4, 0), (11, 0), (12, 0)]), (10000000, [(11, 0)]), (10000002, [(0, 0), (1, 0), (4, 0), (11, 0), (12, 0)]), (10000004, [(0, 0), (1, 0), (4, 0), (11, 0), (12, 0)]), (20000000, [(10, 0)])]), (202, [(0, [(0, 0), (1, 0), (4, 0), (12, 0), (13, 0)]), (2, [(0, 0), (1, 0), (4, 0), (12, 0), (13, 0)]), (4, [(0, 0), (1, 0), (4, 0), (12, 0), (13, 0)]), (6, [(0, 0), (1, 0), (4, 0), (12, 0), (13, 0)]), (8, [(0, 0), (1, 0), (4, 0), (12, 0), (13, 0)]), (10000000, [(0, 0), (1, 0), (4, 0), (12, 0), (13, 0)]), (10000002, [(0, 0), (1, 0), (4, 0), (12, 0), (13, 0)]), (10000004, [(0, 0), (1, 0), (13, 0)]), (10000006, [(0, 0), (1, 0), (4, 0), (12, 0), (13, 0)]), (10000008, [(0, 0), (1, 0), (4, 0), (12, 0), (13, 0)]), (20000000, [(10, 0), (11, 0)])]), (208, [(0, [(0, 0), (4, 0), (5, 0)]), (2, [(4, 0), (6, 0), (7, 0), (8, 0)]), (10000000, [(0, 0), (4, 0)]), (10000002, [(4, 0), (6, 0)]), (20000000, [(2, 0), (3, 0)])]), (210, [(0, [(0, 0), (2, 0), (3, 0), (4, 0), (10, 0)]), (10000000, []), (20000000, [])]), (215, [(0, [(0, 0), (1, 0), (4, 0)]), (10000000, [(0, 0), (1, 0), (4, 0)]), (20000000, [])]), (216, [(0, [(0, 0), (1, 0), (3, 0), (4, 0), (10, 0), (11, 0), (12, 0), (13, 0), (14, 0), (15, 0), (16, 0)]), (2, [(0, 0), (1, 0), (3, 0), (4, 0), (10, 0), (11, 0), (12, 0), (13, 0), (17, 0)]), (10000000, [(0, 0), (1, 0), (3, 0), (4, 0), (10, 0), (11, 0), (12, 0), (13, 0)]), (10000002, [(0, 0), (1, 0), (3, 0), (4, 0), (10, 0), (11, 0), (12, 0), (13, 0)]), (20000000, [(10, 0), (11, 0)])])]
def onOf : List (Nat × List (List (Option Nat))) → Nat → List (List (Option Nat))
  | [], _ => []
  | (a, l) :: r, f => cond (Nat.beq a f) l (onOf r f)
def onl : List (Nat × List (List (Option Nat))) := [(20, [[some 61, none, some 58, some 63]]), (22, [[some 61, none, some 58, some 63], [none]]), (24, [[some 61, none, some 58, some 63, some 87, none, none]]), (25, [[some 61, none, some 58, some 63], [some 87], [none]]), (26, [[some 61, none, some 58, some 63, some 87, none, none]]), (37, [[some 61, none, some 58, some 63], [none], [none]]), (38, [[some 61, none, some 58, some 63], [none]]), (39, [[some 61, none, some 58, some 63, some 87, none, none]]), (40, [[some 61, none, some 58, some 63, some 87, none, none]]), (41, [[some 61, none, some 58, some 63], [some 87], [none]]), (42, [[some 61, none, some 58, some 63, some 87, none, none]]), (64, [[some 61, none]]), (69, [[some 61, none, some 58, some 63]]), (72, [[some 63]]), (73, [[some 61, none]]), (83, [[some 61, none], [none], [none]]), (84, [[some 61, none], [none]]), (86, [[some 1000058]]), (87, [[some 1000061]]), (89, [[some 1000063]]), (91, [[some 61, none, none, none, none]]), (92, [[some 61, none, none, none, none]]), (93, [[some 61, none, some 58, some 63]]), (94, [[some 61, none, some 58, some 63]]), (95, [[some 1000061, none, none, none, none]]), (98, [[some 61, none], [none]]), (116, [[some 61]]), (117, [[some 58]]), (118, [[some 63]]), (139, [[some 61, none]]), (144, [[some 61, none, none, none, none]]), (146, [[some 61, none]]), (150, [[some 1000061]]), (216, [[some 5], [none]])]
noncomputable def env : Env where
  P := Tryz.prog
  mv := inl [60, 61, 71, 72, 85, 86, 87, 88, 89, 90, 93, 94, 97, 104, 113, 121, 122, 123, 124, 125, 128, 129, 130, 136, 140, 142, 143, 148, 150, 153, 164, 165, 166, 167, 168, 169, 170, 171, 172, 173, 176, 178, 190, 192, 193, 194, 195, 196, 197, 198, 199, 200, 201, 202, 209, 210, 211, 212, 215, 216, 217]
  An := tab anl
  te := teOf tel
  fs := fun f => mem f fsl
  un := unOf unl
  Jn := jnOf jnl
  On := onOf onl
  nl := inl [116, 117, 118]
  G := fun f => match f with | 70 => some gRepeat | 49 => some gContains | _ => none
end Go.Proofs.YtiddpfhpmodfbaaGreatDoor.K
end

section
set_option linter.unusedVariables false
set_option linter.unusedSimpArgs false
set_option linter.unnecessarySimpa false
/-
  DERIVED: THE SHELF's CONTRACTS AT THIS DUMP, IN PLAIN WORDS (tools/lay-plain.mjs out of 'TryzShelf.lean', which tools/lay-shelf.mjs wrote): THE SAME DECLARATIONS UNDER THE SAME NAMES: 'import', 'namespace', 'open', 'def', 'theorem' AND NOTHING ELSE: no command of the shelf's: FOR A HAND-IN. Each laying: the table of numbers ('.._ren') and one theorem, a field a fact of the dump's own or the kernel's comparison; each contract: ONE APPLICATION.
-/
namespace Go.Proofs
open Go.Shelf
def Tryz.lays144_ren : Go.Shelf.Ren := ⟨fun | 144 => 49 | 143 => 106 | 219 => 156 | 217 => 184 | 225 => 185 | 224 => 186 | 267 => 187 | 266 => 207 | 314 => 208 | n => n, fun | 9 => 9 | 4 => 4 | 3 => 3 | 5 => 5 | 46 => 152 | 146 => 197 | 51 => 196 | n => n, fun | 1 => 0 | n => n⟩
theorem Tryz.lays144 : Go.Proofs.Lays.n144 Tryz.prog Tryz.lays144_ren := {
  mixed := by kernel_rfl
  f143 := Tryz.func106.trans (congrArg some (by kernel_rfl))
  f144 := Tryz.func49.trans (congrArg some (by kernel_rfl))
  f217 := Tryz.func184.trans (congrArg some (by kernel_rfl))
  f219 := Tryz.func156.trans (congrArg some (by kernel_rfl))
  f224 := Tryz.func186.trans (congrArg some (by kernel_rfl))
  f225 := Tryz.func185.trans (congrArg some (by kernel_rfl))
  f266 := Tryz.func207.trans (congrArg some (by kernel_rfl))
  f267 := Tryz.func187.trans (congrArg some (by kernel_rfl))
  f314 := Tryz.func208.trans (congrArg some (by kernel_rfl))
  t3 := Tryz.underlying3
  a3 := Tryz.isAgg3
  z3 := Tryz.sizeOf3
  v3 := Tryz.zeroValue3
  t4 := Tryz.underlying4
  a4 := Tryz.isAgg4
  z4 := Tryz.sizeOf4
  v4 := Tryz.zeroValue4
  t5 := Tryz.underlying5
  a5 := Tryz.isAgg5
  z5 := Tryz.sizeOf5
  v5 := Tryz.zeroValue5
  t9 := Tryz.underlying9
  a9 := Tryz.isAgg9
  z9 := Tryz.sizeOf9
  v9 := Tryz.zeroValue9
  t46 := Tryz.underlying152
  a46 := Tryz.isAgg152
  z46 := Tryz.sizeOf152
  v46 := Tryz.zeroValue152
  t51 := Tryz.underlying196
  a51 := Tryz.isAgg196
  z51 := Tryz.sizeOf196
  v51 := Tryz.zeroValue196
  t146 := Tryz.underlying197
  a146 := Tryz.isAgg197
  z146 := Tryz.sizeOf197
  v146 := Tryz.zeroValue197
  g1 := by kernel_rfl }
open Go.RowKit Go.Lib in
theorem Tryz.strings_Contains_one (s : ByteArray) (c : UInt8) (w : World) :
    Calls Tryz.prog 49 #[.string s, .string ⟨#[c]⟩] w fun e w' => e = .returned (.bool (decide (0 ≤ Lib.indexByte s.data.toList c))) ∧ w' = w := Any.strings_Contains_one Tryz.lays144 s c w
open Go.RowKit Go.Lib in
def Tryz.lays105_ren : Go.Shelf.Ren := ⟨fun | 105 => 70 | 212 => 119 | 99 => 120 | 165 => 121 | 166 => 122 | 170 => 123 | 169 => 124 | 263 => 161 | 264 => 162 | 206 => 163 | 240 => 164 | 241 => 165 | 276 => 188 | 277 => 189 | n => n, fun | 9 => 9 | 3 => 3 | 4 => 4 | 20 => 20 | 0 => 0 | 46 => 152 | 109 => 161 | 5 => 5 | 72 => 165 | 76 => 169 | 51 => 196 | 146 => 197 | 53 => 199 | 148 => 200 | 70 => 163 | 37 => 153 | 75 => 168 | 127 => 202 | 164 => 219 | 80 => 172 | n => n, fun | n => n⟩
theorem Tryz.lays105 : Go.Proofs.Lays.n105 Tryz.prog Tryz.lays105_ren := {
  mixed := by kernel_rfl
  f99 := Tryz.func120.trans (congrArg some (by kernel_rfl))
  f105 := Tryz.func70.trans (congrArg some (by kernel_rfl))
  f165 := Tryz.func121.trans (congrArg some (by kernel_rfl))
  f166 := Tryz.func122.trans (congrArg some (by kernel_rfl))
  f169 := Tryz.func124.trans (congrArg some (by kernel_rfl))
  f170 := Tryz.func123.trans (congrArg some (by kernel_rfl))
  f206 := Tryz.func163.trans (congrArg some (by kernel_rfl))
  f212 := Tryz.func119.trans (congrArg some (by kernel_rfl))
  f240 := Tryz.func164.trans (congrArg some (by kernel_rfl))
  f241 := Tryz.func165.trans (congrArg some (by kernel_rfl))
  f263 := Tryz.func161.trans (congrArg some (by kernel_rfl))
  f264 := Tryz.func162.trans (congrArg some (by kernel_rfl))
  f276 := Tryz.func188.trans (congrArg some (by kernel_rfl))
  f277 := Tryz.func189.trans (congrArg some (by kernel_rfl))
  t0 := Tryz.underlying0
  a0 := Tryz.isAgg0
  z0 := Tryz.sizeOf0
  v0 := Tryz.zeroValue0
  t3 := Tryz.underlying3
  a3 := Tryz.isAgg3
  z3 := Tryz.sizeOf3
  v3 := Tryz.zeroValue3
  t4 := Tryz.underlying4
  a4 := Tryz.isAgg4
  z4 := Tryz.sizeOf4
  v4 := Tryz.zeroValue4
  t5 := Tryz.underlying5
  a5 := Tryz.isAgg5
  z5 := Tryz.sizeOf5
  v5 := Tryz.zeroValue5
  t9 := Tryz.underlying9
  a9 := Tryz.isAgg9
  z9 := Tryz.sizeOf9
  v9 := Tryz.zeroValue9
  t20 := Tryz.underlying20
  a20 := Tryz.isAgg20
  z20 := Tryz.sizeOf20
  v20 := Tryz.zeroValue20
  t37 := Tryz.underlying153
  a37 := Tryz.isAgg153
  z37 := Tryz.sizeOf153
  v37 := Tryz.zeroValue153
  t46 := Tryz.underlying152
  a46 := Tryz.isAgg152
  z46 := Tryz.sizeOf152
  v46 := Tryz.zeroValue152
  t51 := Tryz.underlying196
  a51 := Tryz.isAgg196
  z51 := Tryz.sizeOf196
  v51 := Tryz.zeroValue196
  t53 := Tryz.underlying199
  a53 := Tryz.isAgg199
  z53 := Tryz.sizeOf199
  v53 := Tryz.zeroValue199
  t70 := Tryz.underlying163
  a70 := Tryz.isAgg163
  z70 := Tryz.sizeOf163
  v70 := Tryz.zeroValue163
  t72 := Tryz.underlying165
  a72 := Tryz.isAgg165
  z72 := Tryz.sizeOf165
  v72 := Tryz.zeroValue165
  t75 := Tryz.underlying168
  a75 := Tryz.isAgg168
  z75 := Tryz.sizeOf168
  v75 := Tryz.zeroValue168
  t76 := Tryz.underlying169
  a76 := Tryz.isAgg169
  z76 := Tryz.sizeOf169
  v76 := Tryz.zeroValue169
  t109 := Tryz.underlying161
  a109 := Tryz.isAgg161
  z109 := Tryz.sizeOf161
  v109 := Tryz.zeroValue161
  t127 := Tryz.underlying202
  a127 := Tryz.isAgg202
  z127 := Tryz.sizeOf202
  v127 := Tryz.zeroValue202
  t146 := Tryz.underlying197
  a146 := Tryz.isAgg197
  z146 := Tryz.sizeOf197
  v146 := Tryz.zeroValue197
  t148 := Tryz.underlying200
  a148 := Tryz.isAgg200
  z148 := Tryz.sizeOf200
  v148 := Tryz.zeroValue200
  t164 := Tryz.underlying219
  a164 := Tryz.isAgg219
  z164 := Tryz.sizeOf219
  v164 := Tryz.zeroValue219 }
theorem Tryz.Builder_Extra_105 : Builder.Extra Tryz.prog Tryz.lays105_ren := {
  sizeBuilder := by kernel_rfl
  liesBuilder := by kernel_rfl
  t5 := Tryz.underlying5
  a5 := Tryz.isAgg5
  z5 := Tryz.sizeOf5
  v5 := Tryz.zeroValue5
  infoByte := by kernel_rfl
  cellsByte := by kernel_rfl
  sizeByte := by kernel_rfl
  neB5 := by decide }
open Go.RowKit Go.Lib in
theorem Tryz.strings_Repeat (s : ByteArray) (c : Nat) (w : World) (hc : c ≤ 9223372036854775807) (hlen : s.size * c ≤ 140737488355328) :
    Calls Tryz.prog 70 #[.string s, .int .i64 c] w fun e w' => e = .returned (.string ⟨(Lib.repeatL s.data.toList c).toArray⟩) ∧ Below w.heap.size w w' := Any.strings_Repeat Tryz.lays105 Tryz.Builder_Extra_105 s c w hc hlen
end Go.Proofs
end

section
set_option linter.unusedVariables false
set_option linter.unusedSimpArgs false
set_option linter.unnecessarySimpa false
open Go Go.Ev Go.Proofs
namespace Go.Proofs.YtiddpfhpmodfbaaGreatDoor.K
theorem fsOK : funsB env fsl = true := by kernel_rfl
theorem teOK : teB env.P tel = true := by kernel_rfl
theorem mixed : env.P.follows .mixedOrders = true := by kernel_rfl
theorem gOK : GivenOK env := givenOK fun f g hf => by
  by_cases h : f = 70
  · subst h
    cases hf
    exact ⟨⟨_, _, Tryz.func70, rfl, by kernel_rfl⟩, repeat_given fun s c w h1 h2 => Tryz.strings_Repeat s c w h1 h2⟩
  · by_cases h' : f = 49
    · subst h'
      cases hf
      exact ⟨⟨_, _, Tryz.func49, rfl, by kernel_rfl⟩, contains_given fun s c w => Tryz.strings_Contains_one s c w⟩
    · have : env.G f = none := by
        show (match f with | 70 => some gRepeat | 49 => some gContains | _ => none) = none
        split
        · exact absurd rfl h
        · exact absurd rfl h'
        · rfl
      rw [this] at hf
      cases hf
theorem envOK : ProgOK env := progOK fsl tel rfl rfl mixed gOK fsOK teOK
end Go.Proofs.YtiddpfhpmodfbaaGreatDoor.K
end

section
set_option linter.unusedVariables false
set_option linter.unusedSimpArgs false
set_option linter.unnecessarySimpa false
open Go Go.Ev Go.Proofs
namespace Go.Proofs.YtiddpfhpmodfbaaGreatDoor.K
noncomputable section
def FRepeat (a0 : ByteArray) (a1 : Int) : Option ByteArray := sel (decide (0 ≤ a1) && (decide (a1 ≤ 1000000) && decide (a0.size ≤ 1000))) (some ⟨(Lib.repeatL a0.data.toList a1.toNat).toArray⟩) none
def gFRepeat : FS := ⟨(.seq (.dat .str) (.dat (.int .i64))), 0, (.one ⟨.non, (.dat .str), 0, 0⟩), fun x => FRepeat x.1 x.2⟩
theorem sFRepeat : SpecAt env 1 70 gFRepeat := by
  intro d a1 b1 sp y hg ho ln a2 b2 hr hb hf
  unfold FS.g at hg
  split at hg
  · rename_i hnb
    split at hg
    · rename_i x hcov hx
      cases hg
      have hb0 : b1 = [] := List.length_eq_zero_iff.1 (beq_nat hnb)
      subst hb0
      have hb2 : b2 = [] := List.length_eq_zero_iff.1 hb.1.symm
      subst hb2
      obtain ⟨w1, w2, hw, g1, g2, _⟩ := Sh.dec_R (ln := ln) (h := ofL []) (h' := ofL []) (fun b => .none) gFRepeat.a hx hr
      have hw2 := g2.inv0
      subst hw2
      rw [List.append_nil] at hw
      subst hw
      obtain ⟨s, n⟩ := x
      have g1 : RL ln [.lit (.string s), .lit (.int .i64 n)] a2 := g1
      obtain ⟨u, q, rfl, h1, h2⟩ := g1.inv
      obtain ⟨v, q, rfl, h3, h4⟩ := h2.inv
      obtain rfl := h4.inv0
      cases h1
      cases h3
      have ho : FRepeat s n = some y := ho
      unfold FRepeat at ho
      obtain ⟨h5, h6⟩ := sel_some ho
      cases h6
      simp only [Bool.and_eq_true, decide_eq_true_eq] at h5
      refine ⟨(.lit (.string ⟨(Lib.repeatL s.data.toList n.toNat).toArray⟩), [], []), ln, ?_, ⟨fun _ _ => rfl, hf, .lit, rfl, rfl, rfl, fun b => .none⟩⟩
      have hE : ∀ w, evF env (d + 1) 70 w [] = gRepeat w [] := fun w => rfl
      rw [hE]
      show grd _ _ = _
      exact grd_intro ⟨h5.1, h5.2.1, h5.2.2⟩
    · cases hg
  · cases hg
def FContains (a0 : ByteArray) (a1 : ByteArray) : Option Bool := sel (decide (a1.size = 1)) (some (decide (0 ≤ Lib.indexByte a0.data.toList (a1.data.toList.headD 0)))) none
def gFContains : FS := ⟨(.seq (.dat .str) (.dat .str)), 0, (.one ⟨.non, (.dat .bool), 0, 0⟩), fun x => FContains x.1 x.2⟩
theorem sFContains : SpecAt env 1 49 gFContains := by
  intro d a1 b1 sp y hg ho ln a2 b2 hr hb hf
  unfold FS.g at hg
  split at hg
  · rename_i hnb
    split at hg
    · rename_i x hcov hx
      cases hg
      have hb0 : b1 = [] := List.length_eq_zero_iff.1 (beq_nat hnb)
      subst hb0
      have hb2 : b2 = [] := List.length_eq_zero_iff.1 hb.1.symm
      subst hb2
      obtain ⟨w1, w2, hw, g1, g2, _⟩ := Sh.dec_R (ln := ln) (h := ofL []) (h' := ofL []) (fun b => .none) gFContains.a hx hr
      have hw2 := g2.inv0
      subst hw2
      rw [List.append_nil] at hw
      subst hw
      obtain ⟨s, n⟩ := x
      have g1 : RL ln [.lit (.string s), .lit (.string n)] a2 := g1
      obtain ⟨u, q, rfl, h1, h2⟩ := g1.inv
      obtain ⟨v, q, rfl, h3, h4⟩ := h2.inv
      obtain rfl := h4.inv0
      cases h1
      cases h3
      have ho : FContains s n = some y := ho
      unfold FContains at ho
      obtain ⟨h5, h6⟩ := sel_some ho
      cases h6
      simp only [decide_eq_true_eq] at h5
      refine ⟨(.lit (.bool (decide (0 ≤ Lib.indexByte s.data.toList (n.data.toList.headD 0)))), [], []), ln, ?_, ⟨fun _ _ => rfl, hf, .lit, rfl, rfl, rfl, fun b => .none⟩⟩
      have hE : ∀ w, evF env (d + 1) 49 w [] = gContains w [] := fun w => rfl
      rw [hE]
      show grd _ _ = _
      exact grd_intro h5
    · cases hg
  · cases hg
end
end Go.Proofs.YtiddpfhpmodfbaaGreatDoor.K
end

section
set_option linter.unusedVariables false
set_option linter.unusedSimpArgs false
set_option linter.unnecessarySimpa false
namespace Go.Ev
open Go
abbrev Tq0 : Type := ((List (Int × ByteArray)) × (Int × ((List ((ByteArray × (ByteArray × Int)) × (Int × Int))) × (List (Int × Int)))))
abbrev Tq1 : Type := ((ByteArray × (ByteArray × Int)) × (Int × Int))
abbrev Tq2 : Type := (List (Int × Int))
abbrev Yq3 : Ty := (.pr (.int .i64) (.int .i64))
abbrev Tq4 : Type := (Int × (Int × Int))
abbrev Tq5 : Type := (List (Int × ByteArray))
abbrev Yq6 : Ty := (.pr (.pr .str (.pr .str (.int .i64))) Yq3)
abbrev Tq7 : Type := (ByteArray × (ByteArray × Int))
abbrev Yq8 : Ty := (.pr (.int .i64) .str)
abbrev Tq9 : Type := (Tq2 × (Int × (Int × (Int × (Bool × Bool)))))
abbrev Tq10 : Type := ((Tq5 × Int) × ((List Tq1) × Tq2))
abbrev Tq11 : Type := (ByteArray × (ByteArray × Tq4))
abbrev Tq12 : Type := (Int × (Int × (Int × Tq7)))
abbrev Tq13 : Type := (Int × ByteArray)
abbrev Yq14 : Ty := (.pr (.pr (.sl Yq8) (.int .i64)) (.pr (.sl Yq6) (.sl Yq3)))
abbrev Yq15 : Ty := (.pr (.int .i64) (.pr (.int .i64) (.pr (.int .i64) (.pr .str (.pr .str (.int .i64))))))
abbrev Tq16 : Type := (Tq2 × (Int × Tq4))
abbrev Tq17 : Type := (Tq2 × (Int × Int))
abbrev Tq18 : Type := ((List Tq1) × (Int × Int))
abbrev Tq19 : Type := (Tq2 × (Tq0 × (Tq4 × ((Tq5 × (Int × (List Tq1))) × Int))))
abbrev Tq20 : Type := (Tq2 × (Tq0 × (Tq4 × (Tq0 × Int))))
abbrev Tq21 : Type := (Int × (Int × ((List Int) × Int)))
abbrev Tq22 : Type := (Tq2 × (Int × (Int × Tq4)))
abbrev Tq23 : Type := (ByteArray × Int)
abbrev Tq24 : Type := (Tq2 × (Tq0 × (Tq4 × ((Tq5 × (Int × (List Tq1))) × (Int × (Tq13 × Int))))))
end Go.Ev
open Go Go.Ev Go.Proofs
namespace Go.Proofs.YtiddpfhpmodfbaaGreatDoor.K
set_option linter.unusedVariables false
set_option maxRecDepth 100000
noncomputable section
def F109 (a0 : Int) (a1 : Int) (a2 : Int) : Bool :=
  (bAnd (iLe a1 a0) (iLe a0 a2))
def gF109 : FS := ⟨(.seq (.dat (.int .i64)) (.seq (.dat (.int .i64)) (.dat (.int .i64)))), 0, (.one ⟨.non, (.dat .bool), 0, 0⟩), fun x => some (F109 x.1 x.2.1 x.2.2)⟩
theorem eF109 (x : gF109.a.T) : kF env (GofL []) (LofL [(109, [])]) 109 (gF109.args x) (gF109.bs x) gF109.r.dec = gF109.F x := by kernel_rfl
theorem sF109 : SpecAt env 1 109 gF109 := mkSpec (r := 0) (gl := []) (L0 := []) (by kernel_rfl) trivial trivial eF109 (fun h => absurd h (by rw [show env.nl 109 = false by kernel_rfl]; decide))
def B58_0 (a0 : Tq5) (a1 : Int) (a2 : Tq5) (a3 : Int) (a4 : Int) : Option (((Tq5 × Int) × (Tq5 × (Int × Int))) ⊕ (Unit ⊕ (Int × Int))) :=
  sel (iLt a4 a3)
    (sel (oIn a4 (lLen a2)) (
    letS (F109 (lAt a2 a4).1 1 (iSub .i64 a1 1)) fun y0 =>
    sel (bNot y0)
      (some (.inr (.inr (a4, 3))))
      (sel (bOr (oIn (iSub .i64 a4 1) (lLen a0)) (bNot (iLt 0 a4))) (
      sel (bAnd (iLt 0 a4) (iLe (lAt a2 a4).1 (lAt a0 (iSub .i64 a4 1)).1))
        (some (.inr (.inr (a4, 14))))
        (sel (oNz 32) (
        sel (bOr (oNz 32) (bNot (bNot (bNot (iEq (iRem (sLen (lAt a2 a4).2) 32) 0))))) (
        letS (F109 (iQuo .i64 (sLen (lAt a2 a4).2) 32) 1 8) fun y1 =>
        sel (bOr (bNot (iEq (iRem (sLen (lAt a2 a4).2) 32) 0)) (bNot y1))
          (some (.inr (.inr (a4, 18))))
          (some (.inl ((a0, a1), (a2, (a3, (iAdd .i64 a4 1))))))) none) none)) none)) none)
    (some (.inr (.inl ())))
def L58_0 (x : ((Tq5 × Int) × (Tq5 × (Int × Int)))) : Option (Unit ⊕ (Int × Int)) := iter (fun (x : ((Tq5 × Int) × (Tq5 × (Int × Int)))) => (B58_0 x.1.1 x.1.2 x.2.1 x.2.2.1 x.2.2.2)) fuel x
def lsL58_0 : LS := ⟨(.one .normal ⟨.non, [1, 16, 17, 18], (.seq (.box 0 (.seq (.dat (.sl Yq8)) (.dat (.int .i64)))) (.seq (.dat (.sl Yq8)) (.seq (.dat (.int .i64)) (.dat (.int .i64))))), 1, 63, 0⟩), (.two (.one (.exit 0) ⟨.non, [], .non, 0, 63, 0⟩) (.one .ret ⟨.non, [2, 3], (.seq (.dat (.int .i64)) (.dat (.int .i64))), 0, 63, 0⟩)), fun (x : ((Tq5 × Int) × (Tq5 × (Int × Int)))) => (B58_0 x.1.1 x.1.2 x.2.1 x.2.2.1 x.2.2.2)⟩
def F58 (a0 : (Tq5 × Int)) : Option (Int × Int) :=
  sel (iLt 10 (lLen a0.1))
    (some (0, 2))
    (letS (F109 a0.2 1 1001) fun y0 =>
    sel (bNot y0)
      (some (0, 3))
      (bndS (L58_0 (a0, (a0.1, ((lLen a0.1), 0)))) fun y1 =>
      sumS y1 (fun y1a =>
        some (0, 0)) fun y1b =>
        some y1b))
def gF58 : FS := ⟨(.agg (.dat (.pr (.sl Yq8) (.int .i64)))), 0, (.one ⟨.non, (.tup (.seq (.dat (.int .i64)) (.dat (.int .i64)))), 0, 0⟩), fun x => (F58 x)⟩
theorem rL58_0 (x : lsL58_0.hd.T) : kRound env (GofL [(109, [gF109])]) (LofL [(58, [(0, lsL58_0)])]) 58 0 (lpOf Tryz.prog 58 0).2 (lsL58_0.hd.st x) lsL58_0.rd = lsL58_0.B x := by kernel_rfl
theorem eF58 (x : gF58.a.T) : kF env (GofL [(109, [gF109])]) (LofL [(58, [(0, lsL58_0)])]) 58 (gF58.args x) (gF58.bs x) gF58.r.dec = gF58.F x := by kernel_rfl
theorem sF58 : SpecAt env 2 58 gF58 := mkSpec (r := 1) (gl := [(109, [gF109])]) (L0 := [(0, lsL58_0)]) (by kernel_rfl) ⟨⟨sF109.up (by decide), trivial⟩, trivial⟩ ⟨⟨0, by kernel_rfl, by kernel_rfl, rL58_0⟩, trivial⟩ eF58 (fun h => absurd h (by rw [show env.nl 58 = false by kernel_rfl]; decide))
def B107_0 (a0 : ByteArray) (a1 : Int) (a2 : Int) : Option ((ByteArray × (Int × Int)) ⊕ (Unit ⊕ Bool)) :=
  sel (iLt a2 a1)
    (sel (oIn a2 (sLen a0)) (
    sel (bAnd (bNot (bOr (bOr (bOr (bAnd (iLe 65 (sAt a0 a2)) (iLe (sAt a0 a2) 90)) (iEq (sAt a0 a2) 35)) (iEq (sAt a0 a2) 36)) (iEq (sAt a0 a2) 64))) (bOr (iEq a2 0) (bAnd (bAnd (bNot (iEq (sAt a0 a2) 95)) (bNot (iEq (sAt a0 a2) 46))) (bOr (iLt (sAt a0 a2) 48) (iLt 57 (sAt a0 a2))))))
      (some (.inr (.inr false)))
      (some (.inl (a0, (a1, (iAdd .i64 a2 1)))))) none)
    (some (.inr (.inl ())))
def L107_0 (x : (ByteArray × (Int × Int))) : Option (Unit ⊕ Bool) := iter (fun (x : (ByteArray × (Int × Int))) => (B107_0 x.1 x.2.1 x.2.2)) fuel x
def lsL107_0 : LS := ⟨(.one .normal ⟨.non, [0, 14, 15], (.seq (.dat .str) (.seq (.dat (.int .i64)) (.dat (.int .i64)))), 0, 62, 0⟩), (.two (.one (.exit 0) ⟨.non, [], .non, 0, 62, 0⟩) (.one .ret ⟨.non, [2], (.dat .bool), 0, 62, 0⟩)), fun (x : (ByteArray × (Int × Int))) => (B107_0 x.1 x.2.1 x.2.2)⟩
def F107 (a0 : ByteArray) : Option Bool :=
  sel (bOr (sEq a0 (bs [])) (iLt 10 (sLen a0)))
    (some false)
    (bndS (L107_0 (a0, ((sLen a0), 0))) fun y0 =>
    sumS y0 (fun y0a =>
      some true) fun y0b =>
      some y0b)
def gF107 : FS := ⟨(.dat .str), 0, (.one ⟨.non, (.dat .bool), 0, 0⟩), fun x => (F107 x)⟩
theorem rL107_0 (x : lsL107_0.hd.T) : kRound env (GofL []) (LofL [(107, [(0, lsL107_0)])]) 107 0 (lpOf Tryz.prog 107 0).2 (lsL107_0.hd.st x) lsL107_0.rd = lsL107_0.B x := by kernel_rfl
theorem eF107 (x : gF107.a.T) : kF env (GofL []) (LofL [(107, [(0, lsL107_0)])]) 107 (gF107.args x) (gF107.bs x) gF107.r.dec = gF107.F x := by kernel_rfl
theorem sF107 : SpecAt env 1 107 gF107 := mkSpec (r := 0) (gl := []) (L0 := [(0, lsL107_0)]) (by kernel_rfl) trivial ⟨⟨0, by kernel_rfl, by kernel_rfl, rL107_0⟩, trivial⟩ eF107 (fun h => absurd h (by rw [show env.nl 107 = false by kernel_rfl]; decide))
def F51 (a0 : Int) (a1 : Int) (a2 : Int) : Bool :=
  (bAnd (iLe a1 a0) (iLe a0 a2))
def gF51 : FS := ⟨(.seq (.dat (.int .i64)) (.seq (.dat (.int .i64)) (.dat (.int .i64)))), 0, (.one ⟨.non, (.dat .bool), 0, 0⟩), fun x => some (F51 x.1 x.2.1 x.2.2)⟩
theorem eF51 (x : gF51.a.T) : kF env (GofL []) (LofL [(51, [])]) 51 (gF51.args x) (gF51.bs x) gF51.r.dec = gF51.F x := by kernel_rfl
theorem sF51 : SpecAt env 1 51 gF51 := mkSpec (r := 0) (gl := []) (L0 := []) (by kernel_rfl) trivial trivial eF51 (fun h => absurd h (by rw [show env.nl 51 = false by kernel_rfl]; decide))
def F50 (a0 : Tq7) : Option Int :=
  bndS (F107 a0.1) fun y0 =>
  sel (bOr (okS (F107 a0.2.1)) (bNot (bNot (bNot y0)))) (
  letS (valS (F107 a0.2.1) false) fun y1 =>
  sel (sel (bNot y0) (bNot y0) (bNot y1))
    (some 7)
    (letS (F51 a0.2.2 0 29) fun y2 =>
    sel (bNot y2)
      (some 17)
      (some 0))) none
def gF50 : FS := ⟨(.agg (.dat (.pr .str (.pr .str (.int .i64))))), 0, (.one ⟨.non, (.dat (.int .i64)), 0, 0⟩), fun x => (F50 x)⟩
theorem eF50 (x : gF50.a.T) : kF env (GofL [(51, [gF51]), (107, [gF107])]) (LofL [(50, [])]) 50 (gF50.args x) (gF50.bs x) gF50.r.dec = gF50.F x := by kernel_rfl
theorem sF50 : SpecAt env 2 50 gF50 := mkSpec (r := 1) (gl := [(51, [gF51]), (107, [gF107])]) (L0 := []) (by kernel_rfl) ⟨⟨sF51.up (by decide), trivial⟩, ⟨sF107.up (by decide), trivial⟩, trivial⟩ trivial eF50 (fun h => absurd h (by rw [show env.nl 50 = false by kernel_rfl]; decide))
def F159 (a0 : ByteArray) : Bool :=
  (bNot (sEq a0 a0))
def gF159 : FS := ⟨(.dat .str), 0, (.one ⟨.non, (.dat .bool), 0, 0⟩), fun x => some (F159 x)⟩
theorem eF159 (x : gF159.a.T) : kF env (GofL []) (LofL [(159, [])]) 159 (gF159.args x) (gF159.bs x) gF159.r.dec = gF159.F x := by kernel_rfl
theorem sF159 : SpecAt env 1 159 gF159 := mkSpec (r := 0) (gl := []) (L0 := []) (by kernel_rfl) trivial trivial eF159 (fun h => absurd h (by rw [show env.nl 159 = false by kernel_rfl]; decide))
def F111 (a0 : ByteArray) (a1 : ByteArray) : Option Int :=
  letS (F159 a0) fun y0 =>
  letS (F159 a1) fun y1 =>
  sel y0
    (sel y1
      (some 0)
      (some (-1)))
    (sel y1
      (some 1)
      (sel (sLt a0 a1)
        (some (-1))
        (sel (bNot (bOr (sLt a0 a1) (sEq a0 a1)))
          (some 1)
          (some 0))))
def gF111 : FS := ⟨(.seq (.dat .str) (.dat .str)), 0, (.one ⟨.non, (.dat (.int .i64)), 0, 0⟩), fun x => (F111 x.1 x.2)⟩
theorem eF111 (x : gF111.a.T) : kF env (GofL [(159, [gF159])]) (LofL [(111, [])]) 111 (gF111.args x) (gF111.bs x) gF111.r.dec = gF111.F x := by kernel_rfl
theorem sF111 : SpecAt env 2 111 gF111 := mkSpec (r := 1) (gl := [(159, [gF159])]) (L0 := []) (by kernel_rfl) ⟨⟨sF159.up (by decide), trivial⟩, trivial⟩ trivial eF111 (fun h => absurd h (by rw [show env.nl 111 = false by kernel_rfl]; decide))
def F160 (a0 : Int) : Bool :=
  (bNot (iEq a0 a0))
def gF160 : FS := ⟨(.dat (.int .i64)), 0, (.one ⟨.non, (.dat .bool), 0, 0⟩), fun x => some (F160 x)⟩
theorem eF160 (x : gF160.a.T) : kF env (GofL []) (LofL [(160, [])]) 160 (gF160.args x) (gF160.bs x) gF160.r.dec = gF160.F x := by kernel_rfl
theorem sF160 : SpecAt env 1 160 gF160 := mkSpec (r := 0) (gl := []) (L0 := []) (by kernel_rfl) trivial trivial eF160 (fun h => absurd h (by rw [show env.nl 160 = false by kernel_rfl]; decide))
def F112 (a0 : Int) (a1 : Int) : Option Int :=
  letS (F160 a0) fun y0 =>
  letS (F160 a1) fun y1 =>
  sel y0
    (sel y1
      (some 0)
      (some (-1)))
    (sel y1
      (some 1)
      (sel (iLt a0 a1)
        (some (-1))
        (sel (iLt a1 a0)
          (some 1)
          (some 0))))
def gF112 : FS := ⟨(.seq (.dat (.int .i64)) (.dat (.int .i64))), 0, (.one ⟨.non, (.dat (.int .i64)), 0, 0⟩), fun x => (F112 x.1 x.2)⟩
theorem eF112 (x : gF112.a.T) : kF env (GofL [(160, [gF160])]) (LofL [(112, [])]) 112 (gF112.args x) (gF112.bs x) gF112.r.dec = gF112.F x := by kernel_rfl
theorem sF112 : SpecAt env 2 112 gF112 := mkSpec (r := 1) (gl := [(160, [gF160])]) (L0 := []) (by kernel_rfl) ⟨⟨sF160.up (by decide), trivial⟩, trivial⟩ trivial eF112 (fun h => absurd h (by rw [show env.nl 112 = false by kernel_rfl]; decide))
def B110_0 (a0 : Int) (a1 : (List Int)) (a2 : Int) (a3 : Int) : Option ((Int × ((List Int) × (Int × Int))) ⊕ (Int ⊕ Int)) :=
  sel (iLt a3 a2)
    (sel (oIn a3 (lLen a1)) (
    sel (bNot (iEq (lAt a1 a3) a0))
      (some (.inr (.inr (lAt a1 a3))))
      (some (.inl (a0, (a1, (a2, (iAdd .i64 a3 1))))))) none)
    (some (.inr (.inl a0)))
def L110_0 (x : (Int × ((List Int) × (Int × Int)))) : Option (Int ⊕ Int) := iter (fun (x : (Int × ((List Int) × (Int × Int)))) => (B110_0 x.1 x.2.1 x.2.2.1 x.2.2.2)) fuel x
def lsL110_0 : LS := ⟨(.one .normal ⟨.non, [3, 6, 7, 8], (.seq (.dat (.int .i64)) (.seq (.dat (.sl (.int .i64))) (.seq (.dat (.int .i64)) (.dat (.int .i64))))), 0, 18, 0⟩), (.two (.one (.exit 0) ⟨.non, [3], (.dat (.int .i64)), 0, 18, 0⟩) (.one .ret ⟨.non, [2], (.dat (.int .i64)), 0, 18, 0⟩)), fun (x : (Int × ((List Int) × (Int × Int)))) => (B110_0 x.1 x.2.1 x.2.2.1 x.2.2.2)⟩
def F110 (a0 : (List Int)) : Option Int :=
  bndS (L110_0 (0, (a0, ((lLen a0), 0)))) fun y0 =>
  sumS y0 (fun y0a =>
    some y0a) fun y0b =>
    some y0b
def gF110 : FS := ⟨(.dat (.sl (.int .i64))), 0, (.one ⟨.non, (.dat (.int .i64)), 0, 0⟩), fun x => (F110 x)⟩
theorem rL110_0 (x : lsL110_0.hd.T) : kRound env (GofL []) (LofL [(110, [(0, lsL110_0)])]) 110 0 (lpOf Tryz.prog 110 0).2 (lsL110_0.hd.st x) lsL110_0.rd = lsL110_0.B x := by kernel_rfl
theorem eF110 (x : gF110.a.T) : kF env (GofL []) (LofL [(110, [(0, lsL110_0)])]) 110 (gF110.args x) (gF110.bs x) gF110.r.dec = gF110.F x := by kernel_rfl
theorem sF110 : SpecAt env 1 110 gF110 := mkSpec (r := 0) (gl := []) (L0 := [(0, lsL110_0)]) (by kernel_rfl) trivial ⟨⟨0, by kernel_rfl, by kernel_rfl, rL110_0⟩, trivial⟩ eF110 (fun h => absurd h (by rw [show env.nl 110 = false by kernel_rfl]; decide))
def F59 (a0 : Tq7) (a1 : Tq7) : Option Int :=
  bndS (F111 a0.1 a1.1) fun y0 =>
  bndS (F111 a0.2.1 a1.2.1) fun y1 =>
  bndS (F112 a0.2.2 a1.2.2) fun y2 =>
  bndS (F110 [y0, y1, y2]) fun y3 =>
  some y3
def gF59 : FS := ⟨(.seq (.agg (.dat (.pr .str (.pr .str (.int .i64))))) (.agg (.dat (.pr .str (.pr .str (.int .i64)))))), 0, (.one ⟨.non, (.dat (.int .i64)), 0, 0⟩), fun x => (F59 x.1 x.2)⟩
theorem eF59 (x : gF59.a.T) : kF env (GofL [(110, [gF110]), (112, [gF112]), (111, [gF111])]) (LofL [(59, [])]) 59 (gF59.args x) (gF59.bs x) gF59.r.dec = gF59.F x := by kernel_rfl
theorem sF59 : SpecAt env 3 59 gF59 := mkSpec (r := 2) (gl := [(110, [gF110]), (112, [gF112]), (111, [gF111])]) (L0 := []) (by kernel_rfl) ⟨⟨sF110.up (by decide), trivial⟩, ⟨sF112.up (by decide), trivial⟩, ⟨sF111.up (by decide), trivial⟩, trivial⟩ trivial eF59 (fun h => absurd h (by rw [show env.nl 59 = false by kernel_rfl]; decide))
def F61 (a0 : Tq1) (a1 : ByteArray) (a2 : ByteArray) (a3 : Int) (a4 : Int) (a5 : Int) : (Tq11 × Bool) :=
  ((a1, (a2, (a3, (a4, a5)))), (iEq a0.2.1 a4))
def gF61 : FS := ⟨(.seq (.agg (.dat Yq6)) (.box 0 (.seq (.dat .str) (.seq (.dat .str) (.seq (.dat (.int .i64)) (.seq (.dat (.int .i64)) (.dat (.int .i64)))))))), 1, (.one ⟨(.box 0 (.seq (.dat .str) (.seq (.dat .str) (.seq (.dat (.int .i64)) (.seq (.dat (.int .i64)) (.dat (.int .i64))))))), (.dat .bool), 1, 0⟩), fun x => some (F61 x.1 x.2.1 x.2.2.1 x.2.2.2.1 x.2.2.2.2.1 x.2.2.2.2.2)⟩
theorem eF61 (x : gF61.a.T) : kF env (GofL []) (LofL [(61, [])]) 61 (gF61.args x) (gF61.bs x) gF61.r.dec = gF61.F x := by kernel_rfl
theorem sF61 : SpecAt env 1 61 gF61 := mkSpec (r := 0) (gl := []) (L0 := []) (by kernel_rfl) trivial trivial eF61 (fun h => absurd h (by rw [show env.nl 61 = false by kernel_rfl]; decide))
def B113_0 (a0 : ByteArray) (a1 : ByteArray) (a2 : Int) (a3 : Int) (a4 : Int) (a5 : (List Tq1)) (a6 : Int) (a7 : Int) : Option ((Tq11 × Tq18) ⊕ (Tq11 ⊕ (Tq11 × Int))) :=
  sel (iLt a7 a6)
    (sel (oIn a7 (lLen a5)) (
    letS (F61 (lAt a5 a7) a0 a1 a2 a3 a4) fun y0 =>
    sel y0.2
      (some (.inr (.inr (y0.1, a7))))
      (some (.inl (y0.1, (a5, (a6, (iAdd .i64 a7 1))))))) none)
    (some (.inr (.inl (a0, (a1, (a2, (a3, a4)))))))
def L113_0 (x : (Tq11 × Tq18)) : Option (Tq11 ⊕ (Tq11 × Int)) := iter (fun (x : (Tq11 × Tq18)) => (B113_0 x.1.1 x.1.2.1 x.1.2.2.1 x.1.2.2.2.1 x.1.2.2.2.2 x.2.1 x.2.2.1 x.2.2.2)) fuel x
def lsL113_0 : LS := ⟨(.one .normal ⟨(.box 0 (.seq (.dat .str) (.seq (.dat .str) (.seq (.dat (.int .i64)) (.seq (.dat (.int .i64)) (.dat (.int .i64))))))), [0, 1, 7, 8], (.seq (.dat (.sl Yq6)) (.seq (.fn 61 (.ptr 0 5 0)) (.seq (.dat (.int .i64)) (.dat (.int .i64))))), 1, 19, 1⟩), (.two (.one (.exit 0) ⟨(.box 0 (.seq (.dat .str) (.seq (.dat .str) (.seq (.dat (.int .i64)) (.seq (.dat (.int .i64)) (.dat (.int .i64))))))), [], .non, 1, 19, 1⟩) (.one .ret ⟨(.box 0 (.seq (.dat .str) (.seq (.dat .str) (.seq (.dat (.int .i64)) (.seq (.dat (.int .i64)) (.dat (.int .i64))))))), [4], (.dat (.int .i64)), 1, 19, 1⟩)), fun (x : (Tq11 × Tq18)) => (B113_0 x.1.1 x.1.2.1 x.1.2.2.1 x.1.2.2.2.1 x.1.2.2.2.2 x.2.1 x.2.2.1 x.2.2.2)⟩
def F113 (a0 : (List Tq1)) (a1 : ByteArray) (a2 : ByteArray) (a3 : Int) (a4 : Int) (a5 : Int) : Option (Tq11 × Int) :=
  bndS (L113_0 ((a1, (a2, (a3, (a4, a5)))), (a0, ((lLen a0), 0)))) fun y0 =>
  sumS y0 (fun y0a =>
    some (y0a, (-1))) fun y0b =>
    some y0b
def gF113 : FS := ⟨(.seq (.dat (.sl Yq6)) (.fn 61 (.box 0 (.seq (.dat .str) (.seq (.dat .str) (.seq (.dat (.int .i64)) (.seq (.dat (.int .i64)) (.dat (.int .i64))))))))), 1, (.one ⟨(.box 0 (.seq (.dat .str) (.seq (.dat .str) (.seq (.dat (.int .i64)) (.seq (.dat (.int .i64)) (.dat (.int .i64))))))), (.dat (.int .i64)), 1, 0⟩), fun x => (F113 x.1 x.2.1 x.2.2.1 x.2.2.2.1 x.2.2.2.2.1 x.2.2.2.2.2)⟩
theorem rL113_0 (x : lsL113_0.hd.T) : kRound env (GofL [(61, [gF61])]) (LofL [(113, [(0, lsL113_0)])]) 113 0 (lpOf Tryz.prog 113 0).2 (lsL113_0.hd.st x) lsL113_0.rd = lsL113_0.B x := by kernel_rfl
theorem eF113 (x : gF113.a.T) : kF env (GofL [(61, [gF61])]) (LofL [(113, [(0, lsL113_0)])]) 113 (gF113.args x) (gF113.bs x) gF113.r.dec = gF113.F x := by kernel_rfl
theorem sF113 : SpecAt env 2 113 gF113 := mkSpec (r := 1) (gl := [(61, [gF61])]) (L0 := [(0, lsL113_0)]) (by kernel_rfl) ⟨⟨sF61.up (by decide), trivial⟩, trivial⟩ ⟨⟨0, by kernel_rfl, by kernel_rfl, rL113_0⟩, trivial⟩ eF113 (fun h => absurd h (by rw [show env.nl 113 = false by kernel_rfl]; decide))
def F60 (a0 : (List Tq1)) (a1 : ByteArray) (a2 : ByteArray) (a3 : Int) (a4 : Int) (a5 : Int) : Option (Tq11 × Bool) :=
  bndS (F113 a0 a1 a2 a3 a4 a5) fun y0 =>
  some (y0.1, (iLe 0 y0.2))
def gF60 : FS := ⟨(.seq (.dat (.sl Yq6)) (.fn 61 (.box 0 (.seq (.dat .str) (.seq (.dat .str) (.seq (.dat (.int .i64)) (.seq (.dat (.int .i64)) (.dat (.int .i64))))))))), 1, (.one ⟨(.box 0 (.seq (.dat .str) (.seq (.dat .str) (.seq (.dat (.int .i64)) (.seq (.dat (.int .i64)) (.dat (.int .i64))))))), (.dat .bool), 1, 0⟩), fun x => (F60 x.1 x.2.1 x.2.2.1 x.2.2.2.1 x.2.2.2.2.1 x.2.2.2.2.2)⟩
theorem eF60 (x : gF60.a.T) : kF env (GofL [(113, [gF113])]) (LofL [(60, [])]) 60 (gF60.args x) (gF60.bs x) gF60.r.dec = gF60.F x := by kernel_rfl
theorem sF60 : SpecAt env 3 60 gF60 := mkSpec (r := 2) (gl := [(113, [gF113])]) (L0 := []) (by kernel_rfl) ⟨⟨sF113.up (by decide), trivial⟩, trivial⟩ trivial eF60 (fun h => absurd h (by rw [show env.nl 60 = false by kernel_rfl]; decide))
def B19_0 (a0 : Tq5) (a1 : Int) (a2 : (List Tq1)) (a3 : Tq2) (a4 : (List Tq1)) (a5 : Int) (a6 : Int) : Option ((Tq0 × Tq18) ⊕ (Tq0 ⊕ (Int × Int))) :=
  sel (iLt a6 a5)
    (sel (oIn a6 (lLen a4)) (
    bndS (F50 (lAt a4 a6).1) fun y0 =>
    sel (iEq y0 0)
      (sel (bOr (oIn (iSub .i64 a6 1) (lLen a2)) (bNot (iLt 0 a6))) (
      sel (bOr (okS (F59 (lAt a2 (iSub .i64 a6 1)).1 (lAt a4 a6).1)) (bNot (iLt 0 a6))) (
      letS (valS (F59 (lAt a2 (iSub .i64 a6 1)).1 (lAt a4 a6).1) 0) fun y1 =>
      sel (bAnd (iLt 0 a6) (iLe 0 y1))
        (some (.inr (.inr (a6, 14))))
        (letS (F51 (lAt a4 a6).2.1 1 (iSub .i64 a1 1)) fun y2 =>
        letS (F51 (lAt a4 a6).2.2 0 3) fun y3 =>
        sel (sel (bNot y2) (bNot y2) (bNot y3))
          (some (.inr (.inr (a6, 3))))
          (sel (oCut 0 a6 (lLen a2)) (
          bndS (F60 (lCut a2 0 a6) (lAt a4 a6).1.1 (lAt a4 a6).1.2.1 (lAt a4 a6).1.2.2 (lAt a4 a6).2.1 (lAt a4 a6).2.2) fun y4 =>
          sel (bNot (iEq (sel y4.2 13 y0) 0))
            (some (.inr (.inr (a6, (sel y4.2 13 y0)))))
            (some (.inl ((a0, (a1, (a2, a3))), (a4, (a5, (iAdd .i64 a6 1))))))) none))) none) none)
      (sel (bNot (iEq y0 0))
        (some (.inr (.inr (a6, y0))))
        (some (.inl ((a0, (a1, (a2, a3))), (a4, (a5, (iAdd .i64 a6 1)))))))) none)
    (some (.inr (.inl (a0, (a1, (a2, a3))))))
def L19_0 (x : (Tq0 × Tq18)) : Option (Tq0 ⊕ (Int × Int)) := iter (fun (x : (Tq0 × Tq18)) => (B19_0 x.1.1 x.1.2.1 x.1.2.2.1 x.1.2.2.2 x.2.1 x.2.2.1 x.2.2.2)) fuel x
def lsL19_0 : LS := ⟨(.one .normal ⟨.non, [1, 25, 26, 27], (.seq (.box 0 (.seq (.dat (.sl Yq8)) (.seq (.dat (.int .i64)) (.seq (.dat (.sl Yq6)) (.dat (.sl Yq3)))))) (.seq (.dat (.sl Yq6)) (.seq (.dat (.int .i64)) (.dat (.int .i64))))), 1, 107, 0⟩), (.two (.one (.exit 0) ⟨.non, [1], (.box 0 (.seq (.dat (.sl Yq8)) (.seq (.dat (.int .i64)) (.seq (.dat (.sl Yq6)) (.dat (.sl Yq3)))))), 1, 107, 0⟩) (.one .ret ⟨.non, [2, 3], (.seq (.dat (.int .i64)) (.dat (.int .i64))), 0, 107, 0⟩)), fun (x : (Tq0 × Tq18)) => (B19_0 x.1.1 x.1.2.1 x.1.2.2.1 x.1.2.2.2 x.2.1 x.2.2.1 x.2.2.2)⟩
def F148 (a0 : Tq13) (a1 : Int) : (Int × Bool) :=
  (a1, (iEq a0.1 a1))
def gF148 : FS := ⟨(.seq (.agg (.dat Yq8)) (.box 0 (.dat (.int .i64)))), 1, (.one ⟨(.box 0 (.dat (.int .i64))), (.dat .bool), 1, 0⟩), fun x => some (F148 x.1 x.2)⟩
theorem eF148 (x : gF148.a.T) : kF env (GofL []) (LofL [(148, [])]) 148 (gF148.args x) (gF148.bs x) gF148.r.dec = gF148.F x := by kernel_rfl
theorem sF148 : SpecAt env 1 148 gF148 := mkSpec (r := 0) (gl := []) (L0 := []) (by kernel_rfl) trivial trivial eF148 (fun h => absurd h (by rw [show env.nl 148 = false by kernel_rfl]; decide))
def B142_0 (a0 : Int) (a1 : Tq5) (a2 : Int) (a3 : Int) : Option ((Int × (Tq5 × (Int × Int))) ⊕ (Int ⊕ (Int × Int))) :=
  sel (iLt a3 a2)
    (sel (oIn a3 (lLen a1)) (
    letS (F148 (lAt a1 a3) a0) fun y0 =>
    sel y0.2
      (some (.inr (.inr (y0.1, a3))))
      (some (.inl (y0.1, (a1, (a2, (iAdd .i64 a3 1))))))) none)
    (some (.inr (.inl a0)))
def L142_0 (x : (Int × (Tq5 × (Int × Int)))) : Option (Int ⊕ (Int × Int)) := iter (fun (x : (Int × (Tq5 × (Int × Int)))) => (B142_0 x.1 x.2.1 x.2.2.1 x.2.2.2)) fuel x
def lsL142_0 : LS := ⟨(.one .normal ⟨(.box 0 (.dat (.int .i64))), [0, 1, 7, 8], (.seq (.dat (.sl Yq8)) (.seq (.fn 148 (.ptr 0 1 0)) (.seq (.dat (.int .i64)) (.dat (.int .i64))))), 1, 19, 1⟩), (.two (.one (.exit 0) ⟨(.box 0 (.dat (.int .i64))), [], .non, 1, 19, 1⟩) (.one .ret ⟨(.box 0 (.dat (.int .i64))), [4], (.dat (.int .i64)), 1, 19, 1⟩)), fun (x : (Int × (Tq5 × (Int × Int)))) => (B142_0 x.1 x.2.1 x.2.2.1 x.2.2.2)⟩
def F142 (a0 : Tq5) (a1 : Int) : Option (Int × Int) :=
  bndS (L142_0 (a1, (a0, ((lLen a0), 0)))) fun y0 =>
  sumS y0 (fun y0a =>
    some (y0a, (-1))) fun y0b =>
    some y0b
def gF142 : FS := ⟨(.seq (.dat (.sl Yq8)) (.fn 148 (.box 0 (.dat (.int .i64))))), 1, (.one ⟨(.box 0 (.dat (.int .i64))), (.dat (.int .i64)), 1, 0⟩), fun x => (F142 x.1 x.2)⟩
theorem rL142_0 (x : lsL142_0.hd.T) : kRound env (GofL [(148, [gF148])]) (LofL [(142, [(0, lsL142_0)])]) 142 0 (lpOf Tryz.prog 142 0).2 (lsL142_0.hd.st x) lsL142_0.rd = lsL142_0.B x := by kernel_rfl
theorem eF142 (x : gF142.a.T) : kF env (GofL [(148, [gF148])]) (LofL [(142, [(0, lsL142_0)])]) 142 (gF142.args x) (gF142.bs x) gF142.r.dec = gF142.F x := by kernel_rfl
theorem sF142 : SpecAt env 2 142 gF142 := mkSpec (r := 1) (gl := [(148, [gF148])]) (L0 := [(0, lsL142_0)]) (by kernel_rfl) ⟨⟨sF148.up (by decide), trivial⟩, trivial⟩ ⟨⟨0, by kernel_rfl, by kernel_rfl, rL142_0⟩, trivial⟩ eF142 (fun h => absurd h (by rw [show env.nl 142 = false by kernel_rfl]; decide))
def F96 (a0 : (Tq5 × Int)) (a1 : Int) : Option (ByteArray × Bool) :=
  bndS (F142 a0.1 a1) fun y0 =>
  sel (iLt y0.2 0)
    (some ((bs []), false))
    (sel (oIn y0.2 (lLen a0.1)) (
    some ((lAt a0.1 y0.2).2, true)) none)
def gF96 : FS := ⟨(.seq (.agg (.dat (.pr (.sl Yq8) (.int .i64)))) (.dat (.int .i64))), 0, (.one ⟨.non, (.tup (.seq (.dat .str) (.dat .bool))), 0, 0⟩), fun x => (F96 x.1 x.2)⟩
theorem eF96 (x : gF96.a.T) : kF env (GofL [(142, [gF142])]) (LofL [(96, [])]) 96 (gF96.args x) (gF96.bs x) gF96.r.dec = gF96.F x := by kernel_rfl
theorem sF96 : SpecAt env 3 96 gF96 := mkSpec (r := 2) (gl := [(142, [gF142])]) (L0 := []) (by kernel_rfl) ⟨⟨sF142.up (by decide), trivial⟩, trivial⟩ trivial eF96 (fun h => absurd h (by rw [show env.nl 96 = false by kernel_rfl]; decide))
def F62 (a0 : (Tq5 × Int)) (a1 : (Int × Int)) : Option Bool :=
  bndS (F96 a0 a1.1) fun y0 =>
  sel (bOr (oNz 32) (bNot y0.2)) (
  letS (F51 a1.2 0 (iSub .i64 (iQuo .i64 (sLen y0.1) 32) 1)) fun y1 =>
  some (bAnd y0.2 y1)) none
def gF62 : FS := ⟨(.seq (.agg (.dat (.pr (.sl Yq8) (.int .i64)))) (.agg (.dat Yq3))), 0, (.one ⟨.non, (.dat .bool), 0, 0⟩), fun x => (F62 x.1 x.2)⟩
theorem eF62 (x : gF62.a.T) : kF env (GofL [(51, [gF51]), (96, [gF96])]) (LofL [(62, [])]) 62 (gF62.args x) (gF62.bs x) gF62.r.dec = gF62.F x := by kernel_rfl
theorem sF62 : SpecAt env 4 62 gF62 := mkSpec (r := 3) (gl := [(51, [gF51]), (96, [gF96])]) (L0 := []) (by kernel_rfl) ⟨⟨sF51.up (by decide), trivial⟩, ⟨sF96.up (by decide), trivial⟩, trivial⟩ trivial eF62 (fun h => absurd h (by rw [show env.nl 62 = false by kernel_rfl]; decide))
def F63 (a0 : (Int × Int)) (a1 : (Int × Int)) : Option Int :=
  bndS (F112 a0.1 a1.1) fun y0 =>
  bndS (F112 a0.2 a1.2) fun y1 =>
  bndS (F110 [y0, y1]) fun y2 =>
  some y2
def gF63 : FS := ⟨(.seq (.agg (.dat Yq3)) (.agg (.dat Yq3))), 0, (.one ⟨.non, (.dat (.int .i64)), 0, 0⟩), fun x => (F63 x.1 x.2)⟩
theorem eF63 (x : gF63.a.T) : kF env (GofL [(110, [gF110]), (112, [gF112])]) (LofL [(63, [])]) 63 (gF63.args x) (gF63.bs x) gF63.r.dec = gF63.F x := by kernel_rfl
theorem sF63 : SpecAt env 3 63 gF63 := mkSpec (r := 2) (gl := [(110, [gF110]), (112, [gF112])]) (L0 := []) (by kernel_rfl) ⟨⟨sF110.up (by decide), trivial⟩, ⟨sF112.up (by decide), trivial⟩, trivial⟩ trivial eF63 (fun h => absurd h (by rw [show env.nl 63 = false by kernel_rfl]; decide))
def B19_3 (a0 : Tq5) (a1 : Int) (a2 : (List Tq1)) (a3 : Tq2) (a4 : Tq2) (a5 : Int) (a6 : Int) : Option ((Tq0 × Tq17) ⊕ (Unit ⊕ (Int × Int))) :=
  sel (iLt a6 a5)
    (sel (oIn a6 (lLen a4)) (
    bndS (F62 (a0, a1) (lAt a4 a6)) fun y0 =>
    sel (bNot y0)
      (some (.inr (.inr (a6, 11))))
      (sel (bOr (oIn (iSub .i64 a6 1) (lLen a3)) (bNot (iLt 0 a6))) (
      sel (bOr (okS (F63 (lAt a3 (iSub .i64 a6 1)) (lAt a4 a6))) (bNot (iLt 0 a6))) (
      letS (valS (F63 (lAt a3 (iSub .i64 a6 1)) (lAt a4 a6)) 0) fun y1 =>
      sel (bAnd (iLt 0 a6) (iLe 0 y1))
        (some (.inr (.inr (a6, 14))))
        (some (.inl ((a0, (a1, (a2, a3))), (a4, (a5, (iAdd .i64 a6 1))))))) none) none)) none)
    (some (.inr (.inl ())))
def L19_3 (x : (Tq0 × Tq17)) : Option (Unit ⊕ (Int × Int)) := iter (fun (x : (Tq0 × Tq17)) => (B19_3 x.1.1 x.1.2.1 x.1.2.2.1 x.1.2.2.2 x.2.1 x.2.2.1 x.2.2.2)) fuel x
def lsL19_3 : LS := ⟨(.one .normal ⟨.non, [1, 79, 80, 81], (.seq (.box 0 (.seq (.dat (.sl Yq8)) (.seq (.dat (.int .i64)) (.seq (.dat (.sl Yq6)) (.dat (.sl Yq3)))))) (.seq (.dat (.sl Yq3)) (.seq (.dat (.int .i64)) (.dat (.int .i64))))), 1, 107, 0⟩), (.two (.one (.exit 3) ⟨.non, [], .non, 0, 107, 0⟩) (.one .ret ⟨.non, [2, 3], (.seq (.dat (.int .i64)) (.dat (.int .i64))), 0, 107, 0⟩)), fun (x : (Tq0 × Tq17)) => (B19_3 x.1.1 x.1.2.1 x.1.2.2.1 x.1.2.2.2 x.2.1 x.2.2.1 x.2.2.2)⟩
def F19 (a0 : Tq10) : Option (Int × Int) :=
  bndS (F58 a0.1) fun y0 =>
  sel (bNot (iEq y0.2 0))
    (some (0, y0.2))
    (sel (iLt 12 (lLen a0.2.1))
      (some (0, 2))
      (bndS (L19_0 ((a0.1.1, (a0.1.2, a0.2)), (a0.2.1, ((lLen a0.2.1), 0)))) fun y1 =>
      sumS y1 (fun y1a =>
        bndS (L19_3 (y1a, (y1a.2.2.2, ((lLen y1a.2.2.2), 0)))) fun y2 =>
        sumS y2 (fun y2a =>
          some (0, 0)) fun y2b =>
          some y2b) fun y1b =>
        some y1b))
def gF19 : FS := ⟨(.agg (.dat Yq14)), 0, (.one ⟨.non, (.tup (.seq (.dat (.int .i64)) (.dat (.int .i64)))), 0, 0⟩), fun x => (F19 x)⟩
theorem rL19_0 (x : lsL19_0.hd.T) : kRound env (GofL [(63, [gF63]), (62, [gF62]), (60, [gF60]), (51, [gF51]), (59, [gF59]), (50, [gF50]), (58, [gF58])]) (LofL [(19, [(0, lsL19_0), (3, lsL19_3)])]) 19 0 (lpOf Tryz.prog 19 0).2 (lsL19_0.hd.st x) lsL19_0.rd = lsL19_0.B x := by kernel_rfl
theorem rL19_3 (x : lsL19_3.hd.T) : kRound env (GofL [(63, [gF63]), (62, [gF62]), (60, [gF60]), (51, [gF51]), (59, [gF59]), (50, [gF50]), (58, [gF58])]) (LofL [(19, [(0, lsL19_0), (3, lsL19_3)])]) 19 3 (lpOf Tryz.prog 19 1).2 (lsL19_3.hd.st x) lsL19_3.rd = lsL19_3.B x := by kernel_rfl
theorem eF19 (x : gF19.a.T) : kF env (GofL [(63, [gF63]), (62, [gF62]), (60, [gF60]), (51, [gF51]), (59, [gF59]), (50, [gF50]), (58, [gF58])]) (LofL [(19, [(0, lsL19_0), (3, lsL19_3)])]) 19 (gF19.args x) (gF19.bs x) gF19.r.dec = gF19.F x := by kernel_rfl
theorem sF19 : SpecAt env 5 19 gF19 := mkSpec (r := 4) (gl := [(63, [gF63]), (62, [gF62]), (60, [gF60]), (51, [gF51]), (59, [gF59]), (50, [gF50]), (58, [gF58])]) (L0 := [(0, lsL19_0), (3, lsL19_3)]) (by kernel_rfl) ⟨⟨sF63.up (by decide), trivial⟩, ⟨sF62.up (by decide), trivial⟩, ⟨sF60.up (by decide), trivial⟩, ⟨sF51.up (by decide), trivial⟩, ⟨sF59.up (by decide), trivial⟩, ⟨sF50.up (by decide), trivial⟩, ⟨sF58.up (by decide), trivial⟩, trivial⟩ ⟨⟨0, by kernel_rfl, by kernel_rfl, rL19_0⟩, ⟨1, by kernel_rfl, by kernel_rfl, rL19_3⟩, trivial⟩ eF19 (fun h => absurd h (by rw [show env.nl 19 = false by kernel_rfl]; decide))
def F81 (a0 : Tq10) (a1 : Tq7) : Option Int :=
  bndS (F19 a0) fun y0 =>
  sel (bNot (iEq y0.2 0))
    (some y0.2)
    (bndS (F50 a1) fun y1 =>
    some y1)
def gF81 : FS := ⟨(.seq (.agg (.dat Yq14)) (.agg (.dat (.pr .str (.pr .str (.int .i64)))))), 0, (.one ⟨.non, (.dat (.int .i64)), 0, 0⟩), fun x => (F81 x.1 x.2)⟩
theorem eF81 (x : gF81.a.T) : kF env (GofL [(50, [gF50]), (19, [gF19])]) (LofL [(81, [])]) 81 (gF81.args x) (gF81.bs x) gF81.r.dec = gF81.F x := by kernel_rfl
theorem sF81 : SpecAt env 6 81 gF81 := mkSpec (r := 5) (gl := [(50, [gF50]), (19, [gF19])]) (L0 := []) (by kernel_rfl) ⟨⟨sF50.up (by decide), trivial⟩, ⟨sF19.up (by decide), trivial⟩, trivial⟩ trivial eF81 (fun h => absurd h (by rw [show env.nl 81 = false by kernel_rfl]; decide))
def F136 (a0 : Tq1) (a1 : ByteArray) (a2 : ByteArray) (a3 : Int) : (Tq7 × Bool) :=
  ((a1, (a2, a3)), (bAnd (sEq a0.1.1 a1) (bAnd (sEq a0.1.2.1 a2) (iEq a0.1.2.2 a3))))
def gF136 : FS := ⟨(.seq (.agg (.dat Yq6)) (.box 0 (.seq (.dat .str) (.seq (.dat .str) (.dat (.int .i64)))))), 1, (.one ⟨(.box 0 (.seq (.dat .str) (.seq (.dat .str) (.dat (.int .i64))))), (.dat .bool), 1, 0⟩), fun x => some (F136 x.1 x.2.1 x.2.2.1 x.2.2.2)⟩
theorem eF136 (x : gF136.a.T) : kF env (GofL []) (LofL [(136, [])]) 136 (gF136.args x) (gF136.bs x) gF136.r.dec = gF136.F x := by kernel_rfl
theorem sF136 : SpecAt env 1 136 gF136 := mkSpec (r := 0) (gl := []) (L0 := []) (by kernel_rfl) trivial trivial eF136 (fun h => absurd h (by rw [show env.nl 136 = false by kernel_rfl]; decide))
def B113_0_1 (a0 : ByteArray) (a1 : ByteArray) (a2 : Int) (a3 : (List Tq1)) (a4 : Int) (a5 : Int) : Option ((Tq7 × Tq18) ⊕ (Tq7 ⊕ (Tq7 × Int))) :=
  sel (iLt a5 a4)
    (sel (oIn a5 (lLen a3)) (
    letS (F136 (lAt a3 a5) a0 a1 a2) fun y0 =>
    sel y0.2
      (some (.inr (.inr (y0.1, a5))))
      (some (.inl (y0.1, (a3, (a4, (iAdd .i64 a5 1))))))) none)
    (some (.inr (.inl (a0, (a1, a2)))))
def L113_0_1 (x : (Tq7 × Tq18)) : Option (Tq7 ⊕ (Tq7 × Int)) := iter (fun (x : (Tq7 × Tq18)) => (B113_0_1 x.1.1 x.1.2.1 x.1.2.2 x.2.1 x.2.2.1 x.2.2.2)) fuel x
def lsL113_0_1 : LS := ⟨(.one .normal ⟨(.box 0 (.seq (.dat .str) (.seq (.dat .str) (.dat (.int .i64))))), [0, 1, 7, 8], (.seq (.dat (.sl Yq6)) (.seq (.fn 136 (.ptr 0 3 0)) (.seq (.dat (.int .i64)) (.dat (.int .i64))))), 1, 19, 1⟩), (.two (.one (.exit 0) ⟨(.box 0 (.seq (.dat .str) (.seq (.dat .str) (.dat (.int .i64))))), [], .non, 1, 19, 1⟩) (.one .ret ⟨(.box 0 (.seq (.dat .str) (.seq (.dat .str) (.dat (.int .i64))))), [4], (.dat (.int .i64)), 1, 19, 1⟩)), fun (x : (Tq7 × Tq18)) => (B113_0_1 x.1.1 x.1.2.1 x.1.2.2 x.2.1 x.2.2.1 x.2.2.2)⟩
def F113_1 (a0 : (List Tq1)) (a1 : ByteArray) (a2 : ByteArray) (a3 : Int) : Option (Tq7 × Int) :=
  bndS (L113_0_1 ((a1, (a2, a3)), (a0, ((lLen a0), 0)))) fun y0 =>
  sumS y0 (fun y0a =>
    some (y0a, (-1))) fun y0b =>
    some y0b
def gF113_1 : FS := ⟨(.seq (.dat (.sl Yq6)) (.fn 136 (.box 0 (.seq (.dat .str) (.seq (.dat .str) (.dat (.int .i64))))))), 1, (.one ⟨(.box 0 (.seq (.dat .str) (.seq (.dat .str) (.dat (.int .i64))))), (.dat (.int .i64)), 1, 0⟩), fun x => (F113_1 x.1 x.2.1 x.2.2.1 x.2.2.2)⟩
theorem rL113_0_1 (x : lsL113_0_1.hd.T) : kRound env (GofL [(136, [gF136])]) (LofL [(113, [(0, lsL113_0_1)])]) 113 0 (lpOf Tryz.prog 113 0).2 (lsL113_0_1.hd.st x) lsL113_0_1.rd = lsL113_0_1.B x := by kernel_rfl
theorem eF113_1 (x : gF113_1.a.T) : kF env (GofL [(136, [gF136])]) (LofL [(113, [(0, lsL113_0_1)])]) 113 (gF113_1.args x) (gF113_1.bs x) gF113_1.r.dec = gF113_1.F x := by kernel_rfl
theorem sF113_1 : SpecAt env 2 113 gF113_1 := mkSpec (r := 1) (gl := [(136, [gF136])]) (L0 := [(0, lsL113_0_1)]) (by kernel_rfl) ⟨⟨sF136.up (by decide), trivial⟩, trivial⟩ ⟨⟨0, by kernel_rfl, by kernel_rfl, rL113_0_1⟩, trivial⟩ eF113_1 (fun h => absurd h (by rw [show env.nl 113 = false by kernel_rfl]; decide))
def F82 (a0 : Tq10) (a1 : Tq7) : Option Int :=
  bndS (F113_1 a0.2.1 a1.1 a1.2.1 a1.2.2) fun y0 =>
  some y0.2
def gF82 : FS := ⟨(.seq (.agg (.dat Yq14)) (.agg (.dat (.pr .str (.pr .str (.int .i64)))))), 0, (.one ⟨.non, (.dat (.int .i64)), 0, 0⟩), fun x => (F82 x.1 x.2)⟩
theorem eF82 (x : gF82.a.T) : kF env (GofL [(113, [gF113_1])]) (LofL [(82, [])]) 82 (gF82.args x) (gF82.bs x) gF82.r.dec = gF82.F x := by kernel_rfl
theorem sF82 : SpecAt env 3 82 gF82 := mkSpec (r := 2) (gl := [(113, [gF113_1])]) (L0 := []) (by kernel_rfl) ⟨⟨sF113_1.up (by decide), trivial⟩, trivial⟩ trivial eF82 (fun h => absurd h (by rw [show env.nl 82 = false by kernel_rfl]; decide))
def F116 (a0 : Tq5) : Option Tq5 :=
  sel (iLt 0 (lLen a0))
    (sel (iLt 0 (lLen a0)) (
    sel (lCap 24 (lApp ([] : List Tq13) a0)) (
    some (lApp ([] : List Tq13) a0)) none) none)
    (bothS (some ([] : List Tq13)) (sel (lCap 24 (lApp ([] : List Tq13) ([] : List Tq13))) (
      some (lApp ([] : List Tq13) ([] : List Tq13))) none))
def gF116 : FS := ⟨(.dat (.sl Yq8)), 0, (.one ⟨.non, (.own 0 Yq8), 0, 1⟩), fun x => (F116 x)⟩
theorem eF116 (x : gF116.a.T) : kF env (GofL []) (LofL [(116, [])]) 116 (gF116.args x) (gF116.bs x) gF116.r.dec = gF116.F x := by kernel_rfl
theorem sF116 : SpecAt env 1 116 gF116 := mkSpec (r := 0) (gl := []) (L0 := []) (by kernel_rfl) trivial trivial eF116 (fun _ => ⟨rfl, fun _ => by kernel_rfl⟩)
def F137 (a0 : Int) : Option ByteArray :=
  bndS (FRepeat (bs [0]) (iMul .i64 a0 32)) fun y0 =>
  some y0
def gF137 : FS := ⟨(.dat (.int .i64)), 0, (.one ⟨.non, (.dat .str), 0, 0⟩), fun x => (F137 x)⟩
theorem eF137 (x : gF137.a.T) : kF env (GofL [(70, [gFRepeat])]) (LofL [(137, [])]) 137 (gF137.args x) (gF137.bs x) gF137.r.dec = gF137.F x := by kernel_rfl
theorem sF137 : SpecAt env 2 137 gF137 := mkSpec (r := 1) (gl := [(70, [gFRepeat])]) (L0 := []) (by kernel_rfl) ⟨⟨sFRepeat.up (by decide), trivial⟩, trivial⟩ trivial eF137 (fun h => absurd h (by rw [show env.nl 137 = false by kernel_rfl]; decide))
def F83 (a0 : (Tq5 × Int)) (a1 : Int) : Option ((Tq5 × Int) × (Int × Int)) :=
  bndS (F58 a0) fun y0 =>
  sel (bNot (iEq y0.2 0))
    (some ((([] : List Tq13), 0), (0, y0.2)))
    (letS (F109 a1 1 8) fun y1 =>
    sel (bNot y1)
      (some ((([] : List Tq13), 0), (0, 3)))
      (sel (sel (iEq (lLen a0.1) 10) (iEq (lLen a0.1) 10) (iLt 1000 a0.2))
        (some ((([] : List Tq13), 0), (0, 30)))
        (bndS (F116 a0.1) fun y2 =>
        bndS (F137 a1) fun y3 =>
        sel (lCap 24 (lApp y2 [(a0.2, y3)])) (
        some (((lApp y2 [(a0.2, y3)]), (iAdd .i64 a0.2 1)), (a0.2, 0))) none)))
def gF83 : FS := ⟨(.seq (.agg (.dat (.pr (.sl Yq8) (.int .i64)))) (.dat (.int .i64))), 0, (.one ⟨.non, (.tup (.seq (.agg (.seq (.own 0 Yq8) (.dat (.int .i64)))) (.seq (.dat (.int .i64)) (.dat (.int .i64))))), 0, 1⟩), fun x => (F83 x.1 x.2)⟩
theorem eF83 (x : gF83.a.T) : kF env (GofL [(137, [gF137]), (116, [gF116]), (109, [gF109]), (58, [gF58])]) (LofL [(83, [])]) 83 (gF83.args x) (gF83.bs x) gF83.r.dec = gF83.F x := by kernel_rfl
theorem sF83 : SpecAt env 3 83 gF83 := mkSpec (r := 2) (gl := [(137, [gF137]), (116, [gF116]), (109, [gF109]), (58, [gF58])]) (L0 := []) (by kernel_rfl) ⟨⟨sF137.up (by decide), trivial⟩, ⟨sF116.up (by decide), trivial⟩, ⟨sF109.up (by decide), trivial⟩, ⟨sF58.up (by decide), trivial⟩, trivial⟩ trivial eF83 (fun h => absurd h (by rw [show env.nl 83 = false by kernel_rfl]; decide))
end
end Go.Proofs.YtiddpfhpmodfbaaGreatDoor.K
end

section
set_option linter.unusedVariables false
set_option linter.unusedSimpArgs false
set_option linter.unnecessarySimpa false
open Go Go.Ev Go.Proofs
namespace Go.Proofs.YtiddpfhpmodfbaaGreatDoor.K
set_option linter.unusedVariables false
set_option maxRecDepth 100000
noncomputable section
def F117 (a0 : (List Tq1)) : Option (List Tq1) :=
  sel (iLt 0 (lLen a0))
    (sel (iLt 0 (lLen a0)) (
    sel (lCap 56 (lApp ([] : List Tq1) a0)) (
    some (lApp ([] : List Tq1) a0)) none) none)
    (bothS (some ([] : List Tq1)) (sel (lCap 56 (lApp ([] : List Tq1) ([] : List Tq1))) (
      some (lApp ([] : List Tq1) ([] : List Tq1))) none))
def gF117 : FS := ⟨(.dat (.sl Yq6)), 0, (.one ⟨.non, (.own 0 Yq6), 0, 1⟩), fun x => (F117 x)⟩
theorem eF117 (x : gF117.a.T) : kF env (GofL []) (LofL [(117, [])]) 117 (gF117.args x) (gF117.bs x) gF117.r.dec = gF117.F x := by kernel_rfl
theorem sF117 : SpecAt env 1 117 gF117 := mkSpec (r := 0) (gl := []) (L0 := []) (by kernel_rfl) trivial trivial eF117 (fun _ => ⟨rfl, fun _ => by kernel_rfl⟩)
def F118 (a0 : Tq2) : Option Tq2 :=
  sel (iLt 0 (lLen a0))
    (sel (iLt 0 (lLen a0)) (
    sel (lCap 16 (lApp ([] : List (Int × Int)) a0)) (
    some (lApp ([] : List (Int × Int)) a0)) none) none)
    (bothS (some ([] : List (Int × Int))) (sel (lCap 16 (lApp ([] : List (Int × Int)) ([] : List (Int × Int)))) (
      some (lApp ([] : List (Int × Int)) ([] : List (Int × Int)))) none))
def gF118 : FS := ⟨(.dat (.sl Yq3)), 0, (.one ⟨.non, (.own 0 Yq3), 0, 1⟩), fun x => (F118 x)⟩
theorem eF118 (x : gF118.a.T) : kF env (GofL []) (LofL [(118, [])]) 118 (gF118.args x) (gF118.bs x) gF118.r.dec = gF118.F x := by kernel_rfl
theorem sF118 : SpecAt env 1 118 gF118 := mkSpec (r := 0) (gl := []) (L0 := []) (by kernel_rfl) trivial trivial eF118 (fun _ => ⟨rfl, fun _ => by kernel_rfl⟩)
def F69 (a0 : Tq10) : Option Tq0 :=
  bndS (F116 a0.1.1) fun y0 =>
  bndS (F117 a0.2.1) fun y1 =>
  bndS (F118 a0.2.2) fun y2 =>
  some (y0, (a0.1.2, (y1, y2)))
def gF69 : FS := ⟨(.agg (.dat Yq14)), 0, (.one ⟨.non, (.agg (.seq (.own 0 Yq8) (.seq (.dat (.int .i64)) (.seq (.own 1 Yq6) (.own 2 Yq3))))), 0, 3⟩), fun x => (F69 x)⟩
theorem eF69 (x : gF69.a.T) : kF env (GofL [(118, [gF118]), (117, [gF117]), (116, [gF116])]) (LofL [(69, [])]) 69 (gF69.args x) (gF69.bs x) gF69.r.dec = gF69.F x := by kernel_rfl
theorem sF69 : SpecAt env 2 69 gF69 := mkSpec (r := 1) (gl := [(118, [gF118]), (117, [gF117]), (116, [gF116])]) (L0 := []) (by kernel_rfl) ⟨⟨sF118.up (by decide), trivial⟩, ⟨sF117.up (by decide), trivial⟩, ⟨sF116.up (by decide), trivial⟩, trivial⟩ trivial eF69 (fun h => absurd h (by rw [show env.nl 69 = false by kernel_rfl]; decide))
def F132 (a0 : ByteArray) : Option ByteArray :=
  bndS (FRepeat (bs [32]) (iSub .i64 10 (sLen a0))) fun y0 =>
  sel (sOk a0 y0) (
  some (sAdd a0 y0)) none
def gF132 : FS := ⟨(.dat .str), 0, (.one ⟨.non, (.dat .str), 0, 0⟩), fun x => (F132 x)⟩
theorem eF132 (x : gF132.a.T) : kF env (GofL [(70, [gFRepeat])]) (LofL [(132, [])]) 132 (gF132.args x) (gF132.bs x) gF132.r.dec = gF132.F x := by kernel_rfl
theorem sF132 : SpecAt env 2 132 gF132 := mkSpec (r := 1) (gl := [(70, [gFRepeat])]) (L0 := []) (by kernel_rfl) ⟨⟨sFRepeat.up (by decide), trivial⟩, trivial⟩ trivial eF132 (fun h => absurd h (by rw [show env.nl 132 = false by kernel_rfl]; decide))
def B52_0 (a0 : ByteArray) (a1 : Int) (a2 : Int) (a3 : Int) : Option ((ByteArray × Tq4) ⊕ Int) :=
  sel (iLt a3 a2)
    (sel (oIn a3 (sLen a0)) (
    sel (oNz 4294967291) (
    some (.inl (a0, ((iRem (iAdd .i64 (iAdd .i64 (iMul .i64 257 a1) (iCv .i64 (sAt a0 a3))) 1) 4294967291), (a2, (iAdd .i64 a3 1)))))) none) none)
    (some (.inr a1))
def L52_0 (x : (ByteArray × Tq4)) : Option Int := iter (fun (x : (ByteArray × Tq4)) => (B52_0 x.1 x.2.1 x.2.2.1 x.2.2.2)) fuel x
def lsL52_0 : LS := ⟨(.one .normal ⟨.non, [0, 3, 6, 7], (.seq (.dat .str) (.seq (.dat (.int .i64)) (.seq (.dat (.int .i64)) (.dat (.int .i64))))), 0, 33, 0⟩), (.one (.exit 0) ⟨.non, [3], (.dat (.int .i64)), 0, 33, 0⟩), fun (x : (ByteArray × Tq4)) => (B52_0 x.1 x.2.1 x.2.2.1 x.2.2.2)⟩
def F52 (a0 : ByteArray) : Option ByteArray :=
  bndS (L52_0 (a0, (1, ((sLen a0), 0)))) fun y0 =>
  some (sOf [(iCv .u8 (iShr .i64 y0 24)), (iCv .u8 (iShr .i64 y0 16)), (iCv .u8 (iShr .i64 y0 8)), (iCv .u8 y0)])
def gF52 : FS := ⟨(.dat .str), 0, (.one ⟨.non, (.dat .str), 0, 0⟩), fun x => (F52 x)⟩
theorem rL52_0 (x : lsL52_0.hd.T) : kRound env (GofL []) (LofL [(52, [(0, lsL52_0)])]) 52 0 (lpOf Tryz.prog 52 0).2 (lsL52_0.hd.st x) lsL52_0.rd = lsL52_0.B x := by kernel_rfl
theorem eF52 (x : gF52.a.T) : kF env (GofL []) (LofL [(52, [(0, lsL52_0)])]) 52 (gF52.args x) (gF52.bs x) gF52.r.dec = gF52.F x := by kernel_rfl
theorem sF52 : SpecAt env 1 52 gF52 := mkSpec (r := 0) (gl := []) (L0 := [(0, lsL52_0)]) (by kernel_rfl) trivial ⟨⟨0, by kernel_rfl, by kernel_rfl, rL52_0⟩, trivial⟩ eF52 (fun h => absurd h (by rw [show env.nl 52 = false by kernel_rfl]; decide))
def F79 (a0 : Tq7) (a1 : Int) : Option ByteArray :=
  sel (sOk (bs [42, 79, 66, 74]) (sOf [(iCv .u8 a0.2.2)])) (
  bndS (F132 a0.1) fun y0 =>
  sel (sOk (sAdd (bs [42, 79, 66, 74]) (sOf [(iCv .u8 a0.2.2)])) y0) (
  bndS (F132 a0.2.1) fun y1 =>
  sel (sOk (sAdd (sAdd (bs [42, 79, 66, 74]) (sOf [(iCv .u8 a0.2.2)])) y0) y1) (
  sel (sOk (sAdd (sAdd (sAdd (bs [42, 79, 66, 74]) (sOf [(iCv .u8 a0.2.2)])) y0) y1) (sOf [(iCv .u8 a1)])) (
  bndS (F52 (sAdd (sAdd (sAdd (sAdd (bs [42, 79, 66, 74]) (sOf [(iCv .u8 a0.2.2)])) y0) y1) (sOf [(iCv .u8 a1)]))) fun y2 =>
  sel (sOk (sAdd (sAdd (sAdd (sAdd (bs [42, 79, 66, 74]) (sOf [(iCv .u8 a0.2.2)])) y0) y1) (sOf [(iCv .u8 a1)])) y2) (
  sel (sOk (sAdd (sAdd (sAdd (sAdd (sAdd (bs [42, 79, 66, 74]) (sOf [(iCv .u8 a0.2.2)])) y0) y1) (sOf [(iCv .u8 a1)])) y2) (bs [0, 0])) (
  some (sAdd (sAdd (sAdd (sAdd (sAdd (sAdd (bs [42, 79, 66, 74]) (sOf [(iCv .u8 a0.2.2)])) y0) y1) (sOf [(iCv .u8 a1)])) y2) (bs [0, 0]))) none) none) none) none) none) none
def gF79 : FS := ⟨(.seq (.agg (.dat (.pr .str (.pr .str (.int .i64))))) (.dat (.int .i64))), 0, (.one ⟨.non, (.dat .str), 0, 0⟩), fun x => (F79 x.1 x.2)⟩
theorem eF79 (x : gF79.a.T) : kF env (GofL [(52, [gF52]), (132, [gF132])]) (LofL [(79, [])]) 79 (gF79.args x) (gF79.bs x) gF79.r.dec = gF79.F x := by kernel_rfl
theorem sF79 : SpecAt env 3 79 gF79 := mkSpec (r := 2) (gl := [(52, [gF52]), (132, [gF132])]) (L0 := []) (by kernel_rfl) ⟨⟨sF52.up (by decide), trivial⟩, ⟨sF132.up (by decide), trivial⟩, trivial⟩ trivial eF79 (fun h => absurd h (by rw [show env.nl 79 = false by kernel_rfl]; decide))
def F179 (a0 : Tq13) (a1 : Int) : Int :=
  (iSub .i64 a0.1 a1)
def gF179 : FS := ⟨(.seq (.agg (.dat Yq8)) (.dat (.int .i64))), 0, (.one ⟨.non, (.dat (.int .i64)), 0, 0⟩), fun x => some (F179 x.1 x.2)⟩
theorem eF179 (x : gF179.a.T) : kF env (GofL []) (LofL [(179, [])]) 179 (gF179.args x) (gF179.bs x) gF179.r.dec = gF179.F x := by kernel_rfl
theorem sF179 : SpecAt env 1 179 gF179 := mkSpec (r := 0) (gl := []) (L0 := []) (by kernel_rfl) trivial trivial eF179 (fun h => absurd h (by rw [show env.nl 179 = false by kernel_rfl]; decide))
def B178_0 (a0 : Tq5) (a1 : Int) (a2 : Int) (a3 : Int) (a4 : Int) : Option ((Tq5 × (Int × Tq4)) ⊕ (Tq5 × Tq4)) :=
  sel (iLt a3 a4)
    (sel (oIn (iCv .i64 (iShr .u64 (iCv .u64 (iAdd .i64 a3 a4)) 1)) (lLen a0)) (
    letS (F179 (lAt a0 (iCv .i64 (iShr .u64 (iCv .u64 (iAdd .i64 a3 a4)) 1))) a1) fun y0 =>
    some (.inl (a0, (a1, (a2, ((sel (iLt y0 0) (iAdd .i64 (iCv .i64 (iShr .u64 (iCv .u64 (iAdd .i64 a3 a4)) 1)) 1) a3), (sel (iLt y0 0) a4 (iCv .i64 (iShr .u64 (iCv .u64 (iAdd .i64 a3 a4)) 1))))))))) none)
    (some (.inr (a0, (a1, (a2, a3)))))
def L178_0 (x : (Tq5 × (Int × Tq4))) : Option (Tq5 × Tq4) := iter (fun (x : (Tq5 × (Int × Tq4))) => (B178_0 x.1 x.2.1 x.2.2.1 x.2.2.2.1 x.2.2.2.2)) fuel x
def lsL178_0 : LS := ⟨(.one .normal ⟨.non, [0, 1, 2, 8, 9, 10], (.seq (.dat (.sl Yq8)) (.seq (.dat (.int .i64)) (.seq (.fn 179 .non) (.seq (.dat (.int .i64)) (.seq (.dat (.int .i64)) (.dat (.int .i64))))))), 0, 49, 0⟩), (.one (.exit 0) ⟨.non, [0, 1, 2, 8, 9], (.seq (.dat (.sl Yq8)) (.seq (.dat (.int .i64)) (.seq (.fn 179 .non) (.seq (.dat (.int .i64)) (.dat (.int .i64)))))), 0, 49, 0⟩), fun (x : (Tq5 × (Int × Tq4))) => (B178_0 x.1 x.2.1 x.2.2.1 x.2.2.2.1 x.2.2.2.2)⟩
def F178 (a0 : Tq5) (a1 : Int) : Option (Int × Bool) :=
  bndS (L178_0 (a0, (a1, ((lLen a0), (0, (lLen a0)))))) fun y0 =>
  sel (bOr (oIn y0.2.2.2 (lLen y0.1)) (bNot (iLt y0.2.2.2 y0.2.2.1))) (
  letS (F179 (lAt y0.1 y0.2.2.2) y0.2.1) fun y1 =>
  some (y0.2.2.2, (bAnd (iLt y0.2.2.2 y0.2.2.1) (iEq y1 0)))) none
def gF178 : FS := ⟨(.seq (.dat (.sl Yq8)) (.seq (.dat (.int .i64)) (.fn 179 .non))), 0, (.one ⟨.non, (.tup (.seq (.dat (.int .i64)) (.dat .bool))), 0, 0⟩), fun x => (F178 x.1 x.2)⟩
theorem rL178_0 (x : lsL178_0.hd.T) : kRound env (GofL [(179, [gF179])]) (LofL [(178, [(0, lsL178_0)])]) 178 0 (lpOf Tryz.prog 178 0).2 (lsL178_0.hd.st x) lsL178_0.rd = lsL178_0.B x := by kernel_rfl
theorem eF178 (x : gF178.a.T) : kF env (GofL [(179, [gF179])]) (LofL [(178, [(0, lsL178_0)])]) 178 (gF178.args x) (gF178.bs x) gF178.r.dec = gF178.F x := by kernel_rfl
theorem sF178 : SpecAt env 2 178 gF178 := mkSpec (r := 1) (gl := [(179, [gF179])]) (L0 := [(0, lsL178_0)]) (by kernel_rfl) ⟨⟨sF179.up (by decide), trivial⟩, trivial⟩ ⟨⟨0, by kernel_rfl, by kernel_rfl, rL178_0⟩, trivial⟩ eF178 (fun h => absurd h (by rw [show env.nl 178 = false by kernel_rfl]; decide))
def F149 (a0 : (Tq5 × Int)) (a1 : Int) : Option (Int × Int) :=
  bndS (F58 a0) fun y0 =>
  sel (bNot (iEq y0.2 0))
    (some (0, y0.2))
    (bndS (F178 a0.1 a1) fun y1 =>
    sel y1.2
      (some (y1.1, 0))
      (letS (F109 a1 1 (iSub .i64 a0.2 1)) fun y2 =>
      sel y2
        (some (0, 24))
        (some (0, 11))))
def gF149 : FS := ⟨(.seq (.agg (.dat (.pr (.sl Yq8) (.int .i64)))) (.dat (.int .i64))), 0, (.one ⟨.non, (.tup (.seq (.dat (.int .i64)) (.dat (.int .i64)))), 0, 0⟩), fun x => (F149 x.1 x.2)⟩
theorem eF149 (x : gF149.a.T) : kF env (GofL [(109, [gF109]), (178, [gF178]), (58, [gF58])]) (LofL [(149, [])]) 149 (gF149.args x) (gF149.bs x) gF149.r.dec = gF149.F x := by kernel_rfl
theorem sF149 : SpecAt env 3 149 gF149 := mkSpec (r := 2) (gl := [(109, [gF109]), (178, [gF178]), (58, [gF58])]) (L0 := []) (by kernel_rfl) ⟨⟨sF109.up (by decide), trivial⟩, ⟨sF178.up (by decide), trivial⟩, ⟨sF58.up (by decide), trivial⟩, trivial⟩ trivial eF149 (fun h => absurd h (by rw [show env.nl 149 = false by kernel_rfl]; decide))
def F138 (a0 : (Tq5 × Int)) (a1 : (Int × Int)) (a2 : Int) : Option (Int × Int) :=
  bndS (F149 a0 a1.1) fun y0 =>
  sel (bNot (iEq y0.2 0))
    (some (0, y0.2))
    (sel (oIn y0.1 (lLen a0.1)) (
    letS (F109 a1.2 0 (sLen (lAt a0.1 y0.1).2)) fun y1 =>
    letS (F109 a2 0 (iSub .i64 (sLen (lAt a0.1 y0.1).2) a1.2)) fun y2 =>
    sel (bOr (bNot y1) (bNot y2))
      (some (0, 3))
      (some (y0.1, 0))) none)
def gF138 : FS := ⟨(.seq (.agg (.dat (.pr (.sl Yq8) (.int .i64)))) (.seq (.agg (.dat Yq3)) (.dat (.int .i64)))), 0, (.one ⟨.non, (.tup (.seq (.dat (.int .i64)) (.dat (.int .i64)))), 0, 0⟩), fun x => (F138 x.1 x.2.1 x.2.2)⟩
theorem eF138 (x : gF138.a.T) : kF env (GofL [(109, [gF109]), (149, [gF149])]) (LofL [(138, [])]) 138 (gF138.args x) (gF138.bs x) gF138.r.dec = gF138.F x := by kernel_rfl
theorem sF138 : SpecAt env 4 138 gF138 := mkSpec (r := 3) (gl := [(109, [gF109]), (149, [gF149])]) (L0 := []) (by kernel_rfl) ⟨⟨sF109.up (by decide), trivial⟩, ⟨sF149.up (by decide), trivial⟩, trivial⟩ trivial eF138 (fun h => absurd h (by rw [show env.nl 138 = false by kernel_rfl]; decide))
def F139 (a0 : (Tq5 × Int)) (a1 : Int) (a2 : ByteArray) : Option (Tq5 × Int) :=
  bndS (F116 a0.1) fun y0 =>
  sel (oIn a1 (lLen y0)) (
  some ((lSet y0 a1 ((lAt y0 a1).1, a2)), a0.2)) none
def gF139 : FS := ⟨(.seq (.agg (.dat (.pr (.sl Yq8) (.int .i64)))) (.seq (.dat (.int .i64)) (.dat .str))), 0, (.one ⟨.non, (.agg (.seq (.own 0 Yq8) (.dat (.int .i64)))), 0, 1⟩), fun x => (F139 x.1 x.2.1 x.2.2)⟩
theorem eF139 (x : gF139.a.T) : kF env (GofL [(116, [gF116])]) (LofL [(139, [])]) 139 (gF139.args x) (gF139.bs x) gF139.r.dec = gF139.F x := by kernel_rfl
theorem sF139 : SpecAt env 2 139 gF139 := mkSpec (r := 1) (gl := [(116, [gF116])]) (L0 := []) (by kernel_rfl) ⟨⟨sF116.up (by decide), trivial⟩, trivial⟩ trivial eF139 (fun h => absurd h (by rw [show env.nl 139 = false by kernel_rfl]; decide))
def F84 (a0 : (Tq5 × Int)) (a1 : (Int × Int)) (a2 : ByteArray) : Option ((Tq5 × Int) × Int) :=
  bndS (F138 a0 a1 (sLen a2)) fun y0 =>
  sel (bNot (iEq y0.2 0))
    (some ((([] : List Tq13), 0), y0.2))
    (sel (oIn y0.1 (lLen a0.1)) (
    sel (oCut 0 a1.2 (sLen (lAt a0.1 y0.1).2)) (
    sel (sOk (sCut (lAt a0.1 y0.1).2 0 a1.2) a2) (
    sel (oCut (iAdd .i64 a1.2 (sLen a2)) (sLen (lAt a0.1 y0.1).2) (sLen (lAt a0.1 y0.1).2)) (
    sel (sOk (sAdd (sCut (lAt a0.1 y0.1).2 0 a1.2) a2) (sCut (lAt a0.1 y0.1).2 (iAdd .i64 a1.2 (sLen a2)) (sLen (lAt a0.1 y0.1).2))) (
    bndS (F139 a0 y0.1 (sAdd (sAdd (sCut (lAt a0.1 y0.1).2 0 a1.2) a2) (sCut (lAt a0.1 y0.1).2 (iAdd .i64 a1.2 (sLen a2)) (sLen (lAt a0.1 y0.1).2)))) fun y1 =>
    some (y1, 0)) none) none) none) none) none)
def gF84 : FS := ⟨(.seq (.agg (.dat (.pr (.sl Yq8) (.int .i64)))) (.seq (.agg (.dat Yq3)) (.dat .str))), 0, (.one ⟨.non, (.tup (.seq (.agg (.seq (.own 0 Yq8) (.dat (.int .i64)))) (.dat (.int .i64)))), 0, 1⟩), fun x => (F84 x.1 x.2.1 x.2.2)⟩
theorem eF84 (x : gF84.a.T) : kF env (GofL [(139, [gF139]), (138, [gF138])]) (LofL [(84, [])]) 84 (gF84.args x) (gF84.bs x) gF84.r.dec = gF84.F x := by kernel_rfl
theorem sF84 : SpecAt env 5 84 gF84 := mkSpec (r := 4) (gl := [(139, [gF139]), (138, [gF138])]) (L0 := []) (by kernel_rfl) ⟨⟨sF139.up (by decide), trivial⟩, ⟨sF138.up (by decide), trivial⟩, trivial⟩ trivial eF84 (fun h => absurd h (by rw [show env.nl 84 = false by kernel_rfl]; decide))
def F175 (a0 : Int) : Option Int :=
  sel (oIn (iCv .u8 (sel (iLe 256 (sel (iLe 65536 (sel (iLe 4294967296 a0) (iShr .u64 a0 32) a0)) (iShr .u64 (sel (iLe 4294967296 a0) (iShr .u64 a0 32) a0) 16) (sel (iLe 4294967296 a0) (iShr .u64 a0 32) a0))) (iShr .u64 (sel (iLe 65536 (sel (iLe 4294967296 a0) (iShr .u64 a0 32) a0)) (iShr .u64 (sel (iLe 4294967296 a0) (iShr .u64 a0 32) a0) 16) (sel (iLe 4294967296 a0) (iShr .u64 a0 32) a0)) 8) (sel (iLe 65536 (sel (iLe 4294967296 a0) (iShr .u64 a0 32) a0)) (iShr .u64 (sel (iLe 4294967296 a0) (iShr .u64 a0 32) a0) 16) (sel (iLe 4294967296 a0) (iShr .u64 a0 32) a0)))) 256) (
  some (iAdd .i64 (sel (iLe 256 (sel (iLe 65536 (sel (iLe 4294967296 a0) (iShr .u64 a0 32) a0)) (iShr .u64 (sel (iLe 4294967296 a0) (iShr .u64 a0 32) a0) 16) (sel (iLe 4294967296 a0) (iShr .u64 a0 32) a0))) (iAdd .i64 (sel (iLe 65536 (sel (iLe 4294967296 a0) (iShr .u64 a0 32) a0)) (iAdd .i64 (sel (iLe 4294967296 a0) 32 0) 16) (sel (iLe 4294967296 a0) 32 0)) 8) (sel (iLe 65536 (sel (iLe 4294967296 a0) (iShr .u64 a0 32) a0)) (iAdd .i64 (sel (iLe 4294967296 a0) 32 0) 16) (sel (iLe 4294967296 a0) 32 0))) (iCv .i64 (sAt (bs [0, 1, 2, 2, 3, 3, 3, 3, 4, 4, 4, 4, 4, 4, 4, 4, 5, 5, 5, 5, 5, 5, 5, 5, 5, 5, 5, 5, 5, 5, 5, 5, 6, 6, 6, 6, 6, 6, 6, 6, 6, 6, 6, 6, 6, 6, 6, 6, 6, 6, 6, 6, 6, 6, 6, 6, 6, 6, 6, 6, 6, 6, 6, 6, 7, 7, 7, 7, 7, 7, 7, 7, 7, 7, 7, 7, 7, 7, 7, 7, 7, 7, 7, 7, 7, 7, 7, 7, 7, 7, 7, 7, 7, 7, 7, 7, 7, 7, 7, 7, 7, 7, 7, 7, 7, 7, 7, 7, 7, 7, 7, 7, 7, 7, 7, 7, 7, 7, 7, 7, 7, 7, 7, 7, 7, 7, 7, 7, 8, 8, 8, 8, 8, 8, 8, 8, 8, 8, 8, 8, 8, 8, 8, 8, 8, 8, 8, 8, 8, 8, 8, 8, 8, 8, 8, 8, 8, 8, 8, 8, 8, 8, 8, 8, 8, 8, 8, 8, 8, 8, 8, 8, 8, 8, 8, 8, 8, 8, 8, 8, 8, 8, 8, 8, 8, 8, 8, 8, 8, 8, 8, 8, 8, 8, 8, 8, 8, 8, 8, 8, 8, 8, 8, 8, 8, 8, 8, 8, 8, 8, 8, 8, 8, 8, 8, 8, 8, 8, 8, 8, 8, 8, 8, 8, 8, 8, 8, 8, 8, 8, 8, 8, 8, 8, 8, 8, 8, 8, 8, 8, 8, 8, 8, 8, 8, 8, 8, 8, 8, 8, 8, 8, 8, 8, 8, 8]) (iCv .u8 (sel (iLe 256 (sel (iLe 65536 (sel (iLe 4294967296 a0) (iShr .u64 a0 32) a0)) (iShr .u64 (sel (iLe 4294967296 a0) (iShr .u64 a0 32) a0) 16) (sel (iLe 4294967296 a0) (iShr .u64 a0 32) a0))) (iShr .u64 (sel (iLe 65536 (sel (iLe 4294967296 a0) (iShr .u64 a0 32) a0)) (iShr .u64 (sel (iLe 4294967296 a0) (iShr .u64 a0 32) a0) 16) (sel (iLe 4294967296 a0) (iShr .u64 a0 32) a0)) 8) (sel (iLe 65536 (sel (iLe 4294967296 a0) (iShr .u64 a0 32) a0)) (iShr .u64 (sel (iLe 4294967296 a0) (iShr .u64 a0 32) a0) 16) (sel (iLe 4294967296 a0) (iShr .u64 a0 32) a0)))))))) none
def gF175 : FS := ⟨(.dat (.int .u64)), 0, (.one ⟨.non, (.dat (.int .i64)), 0, 0⟩), fun x => (F175 x)⟩
theorem eF175 (x : gF175.a.T) : kF env (GofL []) (LofL [(175, [])]) 175 (gF175.args x) (gF175.bs x) gF175.r.dec = gF175.F x := by kernel_rfl
theorem sF175 : SpecAt env 1 175 gF175 := mkSpec (r := 0) (gl := []) (L0 := []) (by kernel_rfl) trivial trivial eF175 (fun h => absurd h (by rw [show env.nl 175 = false by kernel_rfl]; decide))
def F126 (a0 : Int) : Option Int :=
  bndS (F175 a0) fun y0 =>
  some y0
def gF126 : FS := ⟨(.dat (.int .u64)), 0, (.one ⟨.non, (.dat (.int .i64)), 0, 0⟩), fun x => (F126 x)⟩
theorem eF126 (x : gF126.a.T) : kF env (GofL [(175, [gF175])]) (LofL [(126, [])]) 126 (gF126.args x) (gF126.bs x) gF126.r.dec = gF126.F x := by kernel_rfl
theorem sF126 : SpecAt env 2 126 gF126 := mkSpec (r := 1) (gl := [(175, [gF175])]) (L0 := []) (by kernel_rfl) ⟨⟨sF175.up (by decide), trivial⟩, trivial⟩ trivial eF126 (fun h => absurd h (by rw [show env.nl 126 = false by kernel_rfl]; decide))
def F141 (a0 : Tq1) (a1 : Tq1) : Option Int :=
  bndS (F59 a0.1 a1.1) fun y0 =>
  some y0
def gF141 : FS := ⟨(.seq (.agg (.dat Yq6)) (.agg (.dat Yq6))), 0, (.one ⟨.non, (.dat (.int .i64)), 0, 0⟩), fun x => (F141 x.1 x.2)⟩
theorem eF141 (x : gF141.a.T) : kF env (GofL [(59, [gF59])]) (LofL [(141, [])]) 141 (gF141.args x) (gF141.bs x) gF141.r.dec = gF141.F x := by kernel_rfl
theorem sF141 : SpecAt env 4 141 gF141 := mkSpec (r := 3) (gl := [(59, [gF59])]) (L0 := []) (by kernel_rfl) ⟨⟨sF59.up (by decide), trivial⟩, trivial⟩ trivial eF141 (fun h => absurd h (by rw [show env.nl 141 = false by kernel_rfl]; decide))
def B195_2 (a0 : (List Tq1)) (a1 : Int) (a2 : Int) (a3 : Int) (a4 : Int) : Option (((List Tq1) × (Int × Tq4)) ⊕ ((List Tq1) × Tq4)) :=
  sel (bOr (oIn a4 (lLen a0)) (bNot (iLt a1 a4))) (
  sel (bOr (oIn (iSub .i64 a4 1) (lLen a0)) (bNot (iLt a1 a4))) (
  sel (bOr (okS (F141 (lAt a0 a4) (lAt a0 (iSub .i64 a4 1)))) (bNot (iLt a1 a4))) (
  letS (valS (F141 (lAt a0 a4) (lAt a0 (iSub .i64 a4 1))) 0) fun y0 =>
  sel (bAnd (iLt a1 a4) (iLt y0 0))
    (sel (oIn (iSub .i64 a4 1) (lLen a0)) (
    sel (oIn a4 (lLen a0)) (
    sel (oIn a4 (lLen a0)) (
    sel (oIn (iSub .i64 a4 1) (lLen (lSet a0 a4 (lAt a0 (iSub .i64 a4 1))))) (
    some (.inl ((lSet (lSet a0 a4 (lAt a0 (iSub .i64 a4 1))) (iSub .i64 a4 1) (lAt a0 a4)), (a1, (a2, (a3, (iSub .i64 a4 1))))))) none) none) none) none)
    (some (.inr (a0, (a1, (a2, a3)))))) none) none) none
def L195_2 (x : ((List Tq1) × (Int × Tq4))) : Option ((List Tq1) × Tq4) := iter (fun (x : ((List Tq1) × (Int × Tq4))) => (B195_2 x.1 x.2.1 x.2.2.1 x.2.2.2.1 x.2.2.2.2)) fuel x
def lsL195_2 : LS := ⟨(.one .normal ⟨(.own 0 Yq6), [0, 1, 2, 3, 8, 9], (.seq (.alo 0) (.seq (.dat (.int .i64)) (.seq (.dat (.int .i64)) (.seq (.fn 141 .non) (.seq (.dat (.int .i64)) (.dat (.int .i64))))))), 1, 53, 1⟩), (.one (.exit 2) ⟨(.own 0 Yq6), [0, 1, 2, 3, 8], (.seq (.alo 0) (.seq (.dat (.int .i64)) (.seq (.dat (.int .i64)) (.seq (.fn 141 .non) (.dat (.int .i64)))))), 1, 53, 1⟩), fun (x : ((List Tq1) × (Int × Tq4))) => (B195_2 x.1 x.2.1 x.2.2.1 x.2.2.2.1 x.2.2.2.2)⟩
def B195_0 (a0 : (List Tq1)) (a1 : Int) (a2 : Int) (a3 : Int) : Option (((List Tq1) × Tq4) ⊕ (List Tq1)) :=
  sel (iLt a3 a2)
    (bndS (L195_2 (a0, (a1, (a2, (a3, a3))))) fun y0 =>
    some (.inl (y0.1, (y0.2.1, (y0.2.2.1, (iAdd .i64 y0.2.2.2 1))))))
    (some (.inr a0))
def L195_0 (x : ((List Tq1) × Tq4)) : Option (List Tq1) := iter (fun (x : ((List Tq1) × Tq4)) => (B195_0 x.1 x.2.1 x.2.2.1 x.2.2.2)) fuel x
def lsL195_0 : LS := ⟨(.one .normal ⟨(.own 0 Yq6), [0, 1, 2, 3, 8], (.seq (.alo 0) (.seq (.dat (.int .i64)) (.seq (.dat (.int .i64)) (.seq (.fn 141 .non) (.dat (.int .i64)))))), 1, 53, 1⟩), (.one (.exit 0) ⟨(.own 0 Yq6), [], .non, 1, 53, 1⟩), fun (x : ((List Tq1) × Tq4)) => (B195_0 x.1 x.2.1 x.2.2.1 x.2.2.2)⟩
def F195 (a0 : (List Tq1)) (a1 : Int) (a2 : Int) : Option (List Tq1) :=
  bndS (L195_0 (a0, (a1, (a2, (iAdd .i64 a1 1))))) fun y0 =>
  some y0
def gF195 : FS := ⟨(.seq (.own 0 Yq6) (.seq (.dat (.int .i64)) (.seq (.dat (.int .i64)) (.fn 141 .non)))), 1, (.one ⟨(.own 0 Yq6), (.tup .non), 1, 0⟩), fun x => (F195 x.1 x.2.1 x.2.2)⟩
theorem rL195_2 (x : lsL195_2.hd.T) : kRound env (GofL [(141, [gF141])]) (LofL [(195, [(2, lsL195_2), (0, lsL195_0)])]) 195 2 (lpOf Tryz.prog 195 1).2 (lsL195_2.hd.st x) lsL195_2.rd = lsL195_2.B x := by kernel_rfl
theorem rL195_0 (x : lsL195_0.hd.T) : kRound env (GofL [(141, [gF141])]) (LofL [(195, [(2, lsL195_2), (0, lsL195_0)])]) 195 0 (lpOf Tryz.prog 195 0).2 (lsL195_0.hd.st x) lsL195_0.rd = lsL195_0.B x := by kernel_rfl
theorem eF195 (x : gF195.a.T) : kF env (GofL [(141, [gF141])]) (LofL [(195, [(2, lsL195_2), (0, lsL195_0)])]) 195 (gF195.args x) (gF195.bs x) gF195.r.dec = gF195.F x := by kernel_rfl
theorem sF195 : SpecAt env 5 195 gF195 := mkSpec (r := 4) (gl := [(141, [gF141])]) (L0 := [(2, lsL195_2), (0, lsL195_0)]) (by kernel_rfl) ⟨⟨sF141.up (by decide), trivial⟩, trivial⟩ ⟨⟨1, by kernel_rfl, by kernel_rfl, rL195_2⟩, ⟨0, by kernel_rfl, by kernel_rfl, rL195_0⟩, trivial⟩ eF195 (fun h => absurd h (by rw [show env.nl 195 = false by kernel_rfl]; decide))
def B176_0 (a0 : (List Tq1)) (a1 : Int) (a2 : Int) (a3 : Int) (a4 : Bool) (a5 : Bool) : Option (((List Tq1) × (Int × (Int × (Int × (Bool × Bool))))) ⊕ (List Tq1)) :=
  sel (iLe (iSub .i64 a2 a1) 12)
    (bndS (F195 a0 a1 a2) fun y0 =>
    some (.inr y0))
    (sel (iEq a3 0)
      (none)
      (sel (bNot a4) (
      none) none))
def L176_0 (x : ((List Tq1) × (Int × (Int × (Int × (Bool × Bool)))))) : Option (List Tq1) := iter (fun (x : ((List Tq1) × (Int × (Int × (Int × (Bool × Bool)))))) => (B176_0 x.1 x.2.1 x.2.2.1 x.2.2.2.1 x.2.2.2.2.1 x.2.2.2.2.2)) fuel x
def lsL176_0 : LS := ⟨(.one .normal ⟨(.own 0 Yq6), [0, 1, 2, 3, 4, 10, 11], (.seq (.alo 0) (.seq (.dat (.int .i64)) (.seq (.dat (.int .i64)) (.seq (.dat (.int .i64)) (.seq (.fn 141 .non) (.seq (.dat .bool) (.dat .bool))))))), 1, 148, 1⟩), (.one .ret ⟨(.own 0 Yq6), [], .non, 1, 148, 1⟩), fun (x : ((List Tq1) × (Int × (Int × (Int × (Bool × Bool)))))) => (B176_0 x.1 x.2.1 x.2.2.1 x.2.2.2.1 x.2.2.2.2.1 x.2.2.2.2.2)⟩
def F176 (a0 : (List Tq1)) (a1 : Int) (a2 : Int) (a3 : Int) : Option (List Tq1) :=
  bndS (L176_0 (a0, (a1, (a2, (a3, (true, true)))))) fun y0 =>
  some y0
def gF176 : FS := ⟨(.seq (.own 0 Yq6) (.seq (.dat (.int .i64)) (.seq (.dat (.int .i64)) (.seq (.dat (.int .i64)) (.fn 141 .non))))), 1, (.one ⟨(.own 0 Yq6), (.tup .non), 1, 0⟩), fun x => (F176 x.1 x.2.1 x.2.2.1 x.2.2.2)⟩
theorem rL176_0 (x : lsL176_0.hd.T) : kRound env (GofL [(195, [gF195])]) (LofL [(176, [(0, lsL176_0)])]) 176 0 (lpOf Tryz.prog 176 0).2 (lsL176_0.hd.st x) lsL176_0.rd = lsL176_0.B x := by kernel_rfl
theorem eF176 (x : gF176.a.T) : kF env (GofL [(195, [gF195])]) (LofL [(176, [(0, lsL176_0)])]) 176 (gF176.args x) (gF176.bs x) gF176.r.dec = gF176.F x := by kernel_rfl
theorem sF176 : SpecAt env 6 176 gF176 := mkSpec (r := 5) (gl := [(195, [gF195])]) (L0 := [(0, lsL176_0)]) (by kernel_rfl) ⟨⟨sF195.up (by decide), trivial⟩, trivial⟩ ⟨⟨0, by kernel_rfl, by kernel_rfl, rL176_0⟩, trivial⟩ eF176 (fun h => absurd h (by rw [show env.nl 176 = false by kernel_rfl]; decide))
def F140 (a0 : (List Tq1)) : Option (List Tq1) :=
  bndS (F126 (iCv .u64 (lLen a0))) fun y0 =>
  bndS (F176 a0 0 (lLen a0) y0) fun y1 =>
  some y1
def gF140 : FS := ⟨(.seq (.own 0 Yq6) (.fn 141 .non)), 1, (.one ⟨(.own 0 Yq6), (.tup .non), 1, 0⟩), fun x => (F140 x)⟩
theorem eF140 (x : gF140.a.T) : kF env (GofL [(176, [gF176]), (126, [gF126])]) (LofL [(140, [])]) 140 (gF140.args x) (gF140.bs x) gF140.r.dec = gF140.F x := by kernel_rfl
theorem sF140 : SpecAt env 7 140 gF140 := mkSpec (r := 6) (gl := [(176, [gF176]), (126, [gF126])]) (L0 := []) (by kernel_rfl) ⟨⟨sF176.up (by decide), trivial⟩, ⟨sF126.up (by decide), trivial⟩, trivial⟩ trivial eF140 (fun h => absurd h (by rw [show env.nl 140 = false by kernel_rfl]; decide))
def F85 (a0 : Tq5) (a1 : Int) (a2 : (List Tq1)) (a3 : Tq2) (a4 : Tq1) : Option Tq0 :=
  sel (lCap 56 (lApp a2 [a4])) (
  bndS (F140 (lApp a2 [a4])) fun y0 =>
  some (a0, (a1, (y0, a3)))) none
def gF85 : FS := ⟨(.seq (.box 0 (.seq (.own 1 Yq8) (.seq (.dat (.int .i64)) (.seq (.own 2 Yq6) (.own 3 Yq3))))) (.agg (.dat Yq6))), 4, (.one ⟨(.box 0 (.seq (.own 1 Yq8) (.seq (.dat (.int .i64)) (.seq (.own 4 Yq6) (.own 3 Yq3))))), (.tup .non), 4, 1⟩), fun x => (F85 x.1.1 x.1.2.1 x.1.2.2.1 x.1.2.2.2 x.2)⟩
theorem eF85 (x : gF85.a.T) : kF env (GofL [(140, [gF140])]) (LofL [(85, [])]) 85 (gF85.args x) (gF85.bs x) gF85.r.dec = gF85.F x := by kernel_rfl
theorem sF85 : SpecAt env 8 85 gF85 := mkSpec (r := 7) (gl := [(140, [gF140])]) (L0 := []) (by kernel_rfl) ⟨⟨sF140.up (by decide), trivial⟩, trivial⟩ trivial eF85 (fun h => absurd h (by rw [show env.nl 85 = false by kernel_rfl]; decide))
def F37 (a0 : Tq10) (a1 : Tq7) (a2 : Int) : Option (Tq0 × (Int × Int)) :=
  bndS (F81 a0 a1) fun y0 =>
  sel (bNot (iEq y0 0))
    (some ((([] : List Tq13), (0, (([] : List Tq1), ([] : List (Int × Int))))), (0, y0)))
    (bndS (F82 a0 a1) fun y1 =>
    sel (iLe 0 y1)
      (some ((([] : List Tq13), (0, (([] : List Tq1), ([] : List (Int × Int))))), (0, 12)))
      (sel (iEq (lLen a0.2.1) 12)
        (some ((([] : List Tq13), (0, (([] : List Tq1), ([] : List (Int × Int))))), (0, 2)))
        (bndS (F83 a0.1 a2) fun y2 =>
        sel (bNot (iEq y2.2.2 0))
          (some ((([] : List Tq13), (0, (([] : List Tq1), ([] : List (Int × Int))))), (0, y2.2.2)))
          (bndS (F69 a0) fun y3 =>
          bndS (F79 a1 a2) fun y4 =>
          bndS (F84 y2.1 (y2.2.1, 0) y4) fun y5 =>
          bndS (F85 y5.1.1 y5.1.2 y3.2.2.1 y3.2.2.2 (a1, (y2.2.1, 0))) fun y6 =>
          some (y6, (y2.2.1, 0))))))
def gF37 : FS := ⟨(.seq (.agg (.dat Yq14)) (.seq (.agg (.dat (.pr .str (.pr .str (.int .i64))))) (.dat (.int .i64)))), 0, (.one ⟨.non, (.tup (.seq (.agg (.seq (.own 0 Yq8) (.seq (.dat (.int .i64)) (.seq (.own 1 Yq6) (.own 2 Yq3))))) (.seq (.dat (.int .i64)) (.dat (.int .i64))))), 0, 3⟩), fun x => (F37 x.1 x.2.1 x.2.2)⟩
theorem eF37 (x : gF37.a.T) : kF env (GofL [(85, [gF85]), (84, [gF84]), (79, [gF79]), (69, [gF69]), (83, [gF83]), (82, [gF82]), (81, [gF81])]) (LofL [(37, [])]) 37 (gF37.args x) (gF37.bs x) gF37.r.dec = gF37.F x := by kernel_rfl
theorem sF37 : SpecAt env 9 37 gF37 := mkSpec (r := 8) (gl := [(85, [gF85]), (84, [gF84]), (79, [gF79]), (69, [gF69]), (83, [gF83]), (82, [gF82]), (81, [gF81])]) (L0 := []) (by kernel_rfl) ⟨⟨sF85.up (by decide), trivial⟩, ⟨sF84.up (by decide), trivial⟩, ⟨sF79.up (by decide), trivial⟩, ⟨sF69.up (by decide), trivial⟩, ⟨sF83.up (by decide), trivial⟩, ⟨sF82.up (by decide), trivial⟩, ⟨sF81.up (by decide), trivial⟩, trivial⟩ trivial eF37 (fun h => absurd h (by rw [show env.nl 37 = false by kernel_rfl]; decide))
def B22_2 (a0 : Tq5) (a1 : Int) (a2 : (List Tq1)) (a3 : Tq2) (a4 : Int) (a5 : Tq5) (a6 : Int) (a7 : (List Tq1)) (a8 : Tq2) (a9 : Int) (a10 : Int) (a11 : Tq2) (a12 : Int) (a13 : Int) (a14 : Int) (a15 : Int) : Option ((Tq0 × (Int × (Tq0 × ((Int × Int) × Tq16)))) ⊕ (Tq0 × (Int × (Tq0 × ((Int × Int) × Tq17))))) :=
  sel (iLt a15 a14)
    (sel (oIn a15 (lLen a5)) (
    sel (iEq (lAt a5 a15).1 a9)
      (sel (oCut 0 (iMul .i64 a10 32) (sLen (lAt a5 a15).2)) (
      bndS (FRepeat (bs [0]) 32) fun y0 =>
      sel (sOk (sCut (lAt a5 a15).2 0 (iMul .i64 a10 32)) y0) (
      sel (oCut (iAdd .i64 (iMul .i64 a10 32) 32) (sLen (lAt a5 a15).2) (sLen (lAt a5 a15).2)) (
      sel (sOk (sAdd (sCut (lAt a5 a15).2 0 (iMul .i64 a10 32)) y0) (sCut (lAt a5 a15).2 (iAdd .i64 (iMul .i64 a10 32) 32) (sLen (lAt a5 a15).2))) (
      some (.inl ((a0, (a1, (a2, a3))), (a4, (((lSet a5 a15 ((lAt a5 a15).1, (sAdd (sAdd (sCut (lAt a5 a15).2 0 (iMul .i64 a10 32)) y0) (sCut (lAt a5 a15).2 (iAdd .i64 (iMul .i64 a10 32) 32) (sLen (lAt a5 a15).2))))), (a6, (a7, a8))), ((a9, a10), (a11, (a12, (a13, (a14, (iAdd .i64 a15 1))))))))))) none) none) none) none)
      (some (.inl ((a0, (a1, (a2, a3))), (a4, ((a5, (a6, (a7, a8))), ((a9, a10), (a11, (a12, (a13, (a14, (iAdd .i64 a15 1)))))))))))) none)
    (some (.inr ((a0, (a1, (a2, a3))), (a4, ((a5, (a6, (a7, a8))), ((a9, a10), (a11, (a12, a13))))))))
def L22_2 (x : (Tq0 × (Int × (Tq0 × ((Int × Int) × Tq16))))) : Option (Tq0 × (Int × (Tq0 × ((Int × Int) × Tq17)))) := iter (fun (x : (Tq0 × (Int × (Tq0 × ((Int × Int) × Tq16))))) => (B22_2 x.1.1 x.1.2.1 x.1.2.2.1 x.1.2.2.2 x.2.1 x.2.2.1.1 x.2.2.1.2.1 x.2.2.1.2.2.1 x.2.2.1.2.2.2 x.2.2.2.1.1 x.2.2.2.1.2 x.2.2.2.2.1 x.2.2.2.2.2.1 x.2.2.2.2.2.2.1 x.2.2.2.2.2.2.2.1 x.2.2.2.2.2.2.2.2)) fuel x
def lsL22_2 : LS := ⟨(.one .normal ⟨.non, [2, 4, 8, 10, 29, 30, 31, 44, 45], (.seq (.box 0 (.seq (.dat (.sl Yq8)) (.seq (.dat (.int .i64)) (.seq (.dat (.sl Yq6)) (.dat (.sl Yq3)))))) (.seq (.box 1 (.seq (.lit (.slice none 0 0)) (.seq (.dat (.int .i64)) (.seq (.lit (.slice none 0 0)) (.lit (.slice none 0 0)))))) (.seq (.box 2 (.seq (.own 3 Yq8) (.seq (.dat (.int .i64)) (.seq (.own 4 Yq6) (.own 5 Yq3))))) (.seq (.box 6 (.seq (.dat (.int .i64)) (.dat (.int .i64)))) (.seq (.dat (.sl Yq3)) (.seq (.dat (.int .i64)) (.seq (.dat (.int .i64)) (.seq (.dat (.int .i64)) (.dat (.int .i64)))))))))), 7, 98, 0⟩), (.one (.exit 2) ⟨.non, [2, 4, 8, 10, 29, 30, 31], (.seq (.box 0 (.seq (.dat (.sl Yq8)) (.seq (.dat (.int .i64)) (.seq (.dat (.sl Yq6)) (.dat (.sl Yq3)))))) (.seq (.box 1 (.seq (.lit (.slice none 0 0)) (.seq (.dat (.int .i64)) (.seq (.lit (.slice none 0 0)) (.lit (.slice none 0 0)))))) (.seq (.box 2 (.seq (.own 3 Yq8) (.seq (.dat (.int .i64)) (.seq (.own 4 Yq6) (.own 5 Yq3))))) (.seq (.box 6 (.seq (.dat (.int .i64)) (.dat (.int .i64)))) (.seq (.dat (.sl Yq3)) (.seq (.dat (.int .i64)) (.dat (.int .i64)))))))), 7, 98, 0⟩), fun (x : (Tq0 × (Int × (Tq0 × ((Int × Int) × Tq16))))) => (B22_2 x.1.1 x.1.2.1 x.1.2.2.1 x.1.2.2.2 x.2.1 x.2.2.1.1 x.2.2.1.2.1 x.2.2.1.2.2.1 x.2.2.1.2.2.2 x.2.2.2.1.1 x.2.2.2.1.2 x.2.2.2.2.1 x.2.2.2.2.2.1 x.2.2.2.2.2.2.1 x.2.2.2.2.2.2.2.1 x.2.2.2.2.2.2.2.2)⟩
def B22_0 (a0 : Tq5) (a1 : Int) (a2 : (List Tq1)) (a3 : Tq2) (a4 : Int) (a5 : Tq5) (a6 : Int) (a7 : (List Tq1)) (a8 : Tq2) (a9 : Tq2) (a10 : Int) (a11 : Int) : Option ((Tq0 × (Int × (Tq0 × Tq17))) ⊕ ((Int × Tq0) ⊕ (Int × Int))) :=
  sel (iLt a11 a10)
    (sel (oIn a11 (lLen a9)) (
    bndS (F62 (a0, a1) (lAt a9 a11)) fun y0 =>
    sel (bNot y0)
      (some (.inr (.inr (0, 11))))
      (bndS (L22_2 ((a0, (a1, (a2, a3))), (a4, ((a5, (a6, (a7, a8))), ((lAt a9 a11), (a9, (a10, (a11, ((lLen a5), 0))))))))) fun y1 =>
      sel (lCap 16 (lApp y1.2.2.1.2.2.2 [y1.2.2.2.1])) (
      some (.inl (y1.1, (y1.2.1, ((y1.2.2.1.1, (y1.2.2.1.2.1, (y1.2.2.1.2.2.1, (lApp y1.2.2.1.2.2.2 [y1.2.2.2.1])))), (y1.2.2.2.2.1, (y1.2.2.2.2.2.1, (iAdd .i64 y1.2.2.2.2.2.2 1)))))))) none)) none)
    (some (.inr (.inl (a4, (a5, (a6, (a7, a8)))))))
def L22_0 (x : (Tq0 × (Int × (Tq0 × Tq17)))) : Option ((Int × Tq0) ⊕ (Int × Int)) := iter (fun (x : (Tq0 × (Int × (Tq0 × Tq17)))) => (B22_0 x.1.1 x.1.2.1 x.1.2.2.1 x.1.2.2.2 x.2.1 x.2.2.1.1 x.2.2.1.2.1 x.2.2.1.2.2.1 x.2.2.1.2.2.2 x.2.2.2.1 x.2.2.2.2.1 x.2.2.2.2.2)) fuel x
def lsL22_0 : LS := ⟨(.one .normal ⟨.non, [2, 4, 8, 29, 30, 31], (.seq (.box 0 (.seq (.dat (.sl Yq8)) (.seq (.dat (.int .i64)) (.seq (.dat (.sl Yq6)) (.dat (.sl Yq3)))))) (.seq (.box 1 (.seq (.lit (.slice none 0 0)) (.seq (.dat (.int .i64)) (.seq (.lit (.slice none 0 0)) (.lit (.slice none 0 0)))))) (.seq (.box 2 (.seq (.own 3 Yq8) (.seq (.dat (.int .i64)) (.seq (.own 4 Yq6) (.own 5 Yq3))))) (.seq (.dat (.sl Yq3)) (.seq (.dat (.int .i64)) (.dat (.int .i64))))))), 6, 98, 0⟩), (.two (.one (.exit 0) ⟨.non, [4, 8], (.seq (.box 0 (.seq (.lit (.slice none 0 0)) (.seq (.dat (.int .i64)) (.seq (.lit (.slice none 0 0)) (.lit (.slice none 0 0)))))) (.box 1 (.seq (.own 2 Yq8) (.seq (.dat (.int .i64)) (.seq (.own 3 Yq6) (.own 4 Yq3)))))), 5, 98, 0⟩) (.one .ret ⟨.non, [4, 5], (.seq (.box 0 (.seq (.lit (.slice none 0 0)) (.seq (.dat (.int .i64)) (.seq (.lit (.slice none 0 0)) (.lit (.slice none 0 0)))))) (.dat (.int .i64))), 1, 98, 0⟩)), fun (x : (Tq0 × (Int × (Tq0 × Tq17)))) => (B22_0 x.1.1 x.1.2.1 x.1.2.2.1 x.1.2.2.2 x.2.1 x.2.2.1.1 x.2.2.1.2.1 x.2.2.1.2.2.1 x.2.2.1.2.2.2 x.2.2.2.1 x.2.2.2.2.1 x.2.2.2.2.2)⟩
def F209 (a0 : Tq2) (a1 : Int) (a2 : Int) (a3 : Int) : Option ((Tq2 × Int) × (Int × Int)) :=
  sel (oIn a2 (lLen a0)) (
  sel (oIn a1 (lLen a0)) (
  bndS (F63 (lAt a0 a2) (lAt a0 a1)) fun y0 =>
  sel (iLt y0 0)
    (some ((a0, (iAdd .i64 a3 1)), (a2, a1)))
    (some ((a0, a3), (a1, a2)))) none) none
def gF209 : FS := ⟨(.seq (.own 0 Yq3) (.seq (.dat (.int .i64)) (.seq (.dat (.int .i64)) (.seq (.box 1 (.dat (.int .i64))) (.fn 63 .non))))), 2, (.one ⟨(.seq (.own 0 Yq3) (.box 1 (.dat (.int .i64)))), (.tup (.seq (.dat (.int .i64)) (.dat (.int .i64)))), 2, 0⟩), fun x => (F209 x.1 x.2.1 x.2.2.1 x.2.2.2)⟩
theorem eF209 (x : gF209.a.T) : kF env (GofL [(63, [gF63])]) (LofL [(209, [])]) 209 (gF209.args x) (gF209.bs x) gF209.r.dec = gF209.F x := by kernel_rfl
theorem sF209 : SpecAt env 4 209 gF209 := mkSpec (r := 3) (gl := [(63, [gF63])]) (L0 := []) (by kernel_rfl) ⟨⟨sF63.up (by decide), trivial⟩, trivial⟩ trivial eF209 (fun h => absurd h (by rw [show env.nl 209 = false by kernel_rfl]; decide))
end
end Go.Proofs.YtiddpfhpmodfbaaGreatDoor.K
end
