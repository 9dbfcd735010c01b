/- A part of the proof: texts of the author, joined. -/
import Derived.Test.YtiddpfhpmodfbaaGreatDoorKE1
import Derived.Laws.BytesString
import Derived.Lib.ConvBytes
import Derived.Laws.Slices
import Derived.Laws.MakeOwn
section
set_option linter.unusedVariables false
set_option linter.unusedSimpArgs false
set_option linter.unnecessarySimpa false
namespace Go.Ev
open Go

def Ran (P : Program) (B : Bs) (U : Nat → Prop) (K : Cx) (h : Nat → Option Blk) (k : Nat) (o : Oper) (a : Act) (d : Dl) : Prop :=
  ∃ (K' : Cx) (n : Next) (x : Value), (execOp a.eval o).run P K.w = .ok n K'.w ∧ (n = .value x ∨ (n = .skip ∧ x = undef)) ∧ Le K K' ∧
    Good B (fun b => U b ∨ (k ≤ b ∧ b < k + maxNew)) K' (putN (putU h d.up) k d.nb) ∧ ∀ v, d.v = some v → VR K' v x

section
variable {P : Program} {B : Bs} {U : Nat → Prop} {K : Cx} {h : Nat → Option Blk} {k : Nat} {o : Oper} {a : Act}

theorem ran_pure (g : Good B U K h) {d : Dl} {v : V} {x : Value} (hr : (execOp a.eval o).run P K.w = .ok (.value x) K.w) (hv : VR K v x) (hd : pureD v = some d) : Ran P B U K h k o a d := by
  cases hd
  exact ⟨K, _, x, hr, .inl rfl, Le.refl K, g.mono_U fun _ h => .inl h, fun v' h' => by cases h'; exact hv⟩
theorem ran_new {K' : Cx} {d : Dl} {v : V} {x : Value} {b : Blk} {up : List (Nat × Option Blk)} (hr : (execOp a.eval o).run P K.w = .ok (.value x) K'.w) (hle : Le K K') (g : Good B (fun b => U b ∨ b = k) K' (putN (putU h up) k [b])) (hv : VR K' v x) (hd : d = ⟨some v, [b], up⟩) : Ran P B U K h k o a d := by
  subst hd
  exact ⟨K', _, x, hr, .inl rfl, hle, g.mono_U fun b h => h.imp id (fun e => by subst e; exact ⟨Nat.le_refl _, by unfold maxNew; omega⟩), fun v' h' => by cases h'; exact hv⟩

theorem underlying_of_telem {t e : Nat} (h : telem P t = some e) : P.underlying t = some (.slice e) := by
  unfold telem at h
  split at h
  · cases h; assumption
  · cases h
theorem underlying_of_tstr {t : Nat} (h : tstr P t = true) : P.underlying t = some .string := by
  unfold tstr at h
  split at h
  · assumption
  · cases h
theorem underlying_of_tint {t : Nat} {i : IntKind} (h : tint P t = some i) : P.underlying t = some (.int i) := by
  unfold tint at h
  split at h
  · cases h; assumption
  · cases h
theorem run_sizeOf_pos {e : Nat} (h : 0 < tsz P e) (w : World) : (sizeOf e).run P w = .ok (tsz P e) w := by
  cases hi : P.info? e with
  | none => simp [tsz, hi] at h
  | some i => exact run_sizeOf' hi w
theorem tsz_pos {f : Nat} (h : tsz P f ≠ 0) : 0 < tsz P f := Nat.pos_of_ne_zero h

theorem run_zero {t : Nat} {z : V} (h : tzero P t = some z) (w : World) : ∃ x, (zeroValue t).run P w = .ok x w ∧ VR K z x := by
  obtain ⟨x, hx, hz⟩ := bnd_eq h
  cases hi : P.info? t with
  | none => rw [hi] at hx; cases hx
  | some i =>
    rw [hi] at hx
    replace hx : i.zero = some x := hx
    exact ⟨x, by simp [zeroValue, typeInfo, hi, hx], ofVal_sound hz⟩

theorem tfld_spec {t f : Nat} {q : Nat × Nat} (h : tfld P t f = some q) : ∃ fs fd, P.underlying t = some (.struct fs) ∧ fs[f]? = some fd ∧ q = (fd.offset, fd.type) := by
  unfold tfld at h
  split at h
  · rename_i fs hu
    obtain ⟨fd, h1, h2⟩ := Option.map_eq_some_iff.1 h
    exact ⟨fs, fd, hu, h1, h2.symm⟩
  · cases h
theorem run_fieldAt' {t f : Nat} {q : Nat × Nat} (h : tfld P t f = some q) (hz : tsz P q.2 ≠ 0) (b c : Nat) (w : World) : (Instr.fieldAt t (.pointer (some ⟨b, c, none⟩)) f).run P w = .ok (.pointer (some ⟨b, c + q.1, none⟩)) w := by
  obtain ⟨fs, fd, hu, hf, rfl⟩ := tfld_spec h
  have hs := run_sizeOf_pos (P := P) (tsz_pos hz) w
  simp only at hz hs
  simp [Instr.fieldAt, run_underlying hu, hf, Instr.sureAddr, fieldPlace, hs, hz, add_at]

/-! ### Cuts -/
theorem bnds_run {n cap : Nat} {lo hi : Option V} {LO HI : Option Value} {q : Nat × Nat} (hb : bnds n lo hi = some q) (hlo : ∀ v, lo = some v → ∃ x, LO = some x ∧ VR K v x) (hlo0 : lo = none → LO = none)
    (hhi : ∀ v, hi = some v → ∃ x, HI = some x ∧ VR K v x) (hhi0 : hi = none → HI = none) (hc : n ≤ cap) (isS : Bool) (w : World) :
    (Instr.sliceBounds isS n cap LO HI none).run P w = .ok (q.1, q.2, cap) w ∧ q.1 ≤ q.2 ∧ q.2 ≤ n := by
  unfold bnds at hb
  obtain ⟨H, h1, hb⟩ := bnd_eq hb
  obtain ⟨L, h2, hb⟩ := bnd_eq hb
  obtain ⟨⟨h3, h4, h5⟩, hb⟩ := grd_eq hb
  cases hb
  refine ⟨?_, by show L.toNat ≤ H.toNat; omega, by show H.toNat ≤ n; omega⟩
  have key : ∀ (x : Option V) (X : Option Value) (D r : Int), bndOf x D = some r → (∀ v, x = some v → ∃ y, X = some y ∧ VR K v y) → (x = none → X = none) → (X = none ∧ r = D) ∨ ∃ kk, X = some (.int kk r) := fun x X D r hx hX hX0 => by
    cases x with
    | none => cases hx; exact .inl ⟨hX0 rfl, rfl⟩
    | some v =>
      obtain ⟨y, rfl, hv⟩ := hX v rfl
      unfold bndOf at hx
      split at hx
      · rename_i hq; cases hq
      · rename_i hq; cases hq; cases hx; cases hv; exact .inr ⟨_, rfl⟩
      · cases hx
  have e1 : (H.toNat : Int) = H := Int.toNat_of_nonneg (by omega)
  rcases key hi HI _ H h1 hhi hhi0 with ⟨rfl, rfl⟩ | ⟨kh, rfl⟩
  · rcases key lo LO _ L h2 hlo hlo0 with ⟨rfl, rfl⟩ | ⟨kl, rfl⟩
    · simp [Instr.sliceBounds]
    · simp [Instr.sliceBounds, run_sliceBound, h3, h4]
  · have hH : H ≤ (cap : Int) := by omega
    have hH0 : 0 ≤ H := by omega
    rcases key lo LO _ L h2 hlo hlo0 with ⟨rfl, rfl⟩ | ⟨kl, rfl⟩
    · simp [Instr.sliceBounds, run_sliceBound, hH0, hH]
    · simp [Instr.sliceBounds, run_sliceBound, hH0, hH, h3, h4, e1]

theorem run_sliceAt_row {t e sz l u len cap : Nat} {A : Option Addr} {LO HI : Option Value} {w : World} (hu : P.underlying t = some (.slice e)) (hsize : (sizeOf e).run P w = .ok sz w) (h1 : (Instr.sliceBounds true len cap LO HI none).run P w = .ok (l, u, cap) w) :
    (Instr.sliceAt t (.slice A len cap) LO HI none).run P w = .ok (.slice (if cap = l then A else A.map (·.add (l * sz))) (u - l) (cap - l)) w := by
  simp [Instr.sliceAt, run_underlying hu, Instr.slice, h1, hsize]
theorem slice_sound {t : Nat} {x v : V} {X : Value} {lo hi : Option V} {LO HI : Option Value} (hx : VR K x X) (hs : sliceV P t x lo hi = some v) (hlo : ∀ v, lo = some v → ∃ x, LO = some x ∧ VR K v x) (hlo0 : lo = none → LO = none)
    (hhi : ∀ v, hi = some v → ∃ x, HI = some x ∧ VR K v x) (hhi0 : hi = none → HI = none) : ∃ y, (Instr.sliceAt t X LO HI none).run P K.w = .ok y K.w ∧ VR K v y := by
  unfold sliceV at hs
  split at hs
  · rename_i s
    obtain ⟨hst, hs⟩ := (cnd_eq hs).resolve_right (fun h => by cases h.2)
    obtain ⟨q, hq, hs⟩ := bnd_eq hs
    cases hs
    cases hx
    have hu := underlying_of_tstr hst
    obtain ⟨h1, _, _⟩ := bnds_run (P := P) hq hlo hlo0 hhi hhi0 (Nat.le_refl _) false K.w
    refine ⟨.string (s.extract q.1 q.2), ?_, .lit rfl⟩
    simp [Instr.sliceAt, run_underlying hu, Instr.slice, h1]
  · rename_i fl sz es
    obtain ⟨e, he, hs⟩ := bnd_eq hs
    obtain ⟨⟨hsz, hpos⟩, hs2⟩ := grd_eq hs
    obtain ⟨q, hq, hs⟩ := bnd_eq hs2
    cases hs
    have hu := underlying_of_telem he
    have hsize := run_sizeOf_pos (P := P) (e := e) (hsz ▸ hpos) K.w
    rw [← hsz] at hsize
    cases hx with
    | @con0 _ _ _ cap A hz =>
      obtain ⟨h1, h2, h3⟩ := bnds_run (P := P) (cap := cap) hq hlo hlo0 hhi hhi0 (Nat.zero_le _) true K.w
      simp only [List.length_nil, Nat.le_zero] at h3
      have h4 : q.1 = 0 := by omega
      refine ⟨_, run_sliceAt_row hu hsize h1, ?_⟩
      rw [h3, h4]
      refine .con0 fun hq => ?_
      split at hq
      · omega
      · cases A with
        | none => have := hz rfl; omega
        | some A => cases hq
    | @con _ _ _ b oo cap _ hp hcap hS hss h1' hc hr =>
      obtain ⟨h1, h2, h3⟩ := bnds_run (P := P) (cap := cap) hq hlo hlo0 hhi hhi0 hcap true K.w
      refine ⟨_, run_sliceAt_row hu hsize h1, ?_⟩
      have hlen : ((es.take q.2).drop q.1).length = q.2 - q.1 := by simp; omega
      by_cases he0 : q.2 = q.1
      · have : (es.take q.2).drop q.1 = [] := List.length_eq_zero_iff.1 (by omega)
        rw [this, he0, Nat.sub_self]
        refine .con0 fun hq => ?_
        split at hq
        · omega
        · cases hq
      · have hne : cap ≠ q.1 := by omega
        rw [if_neg hne, Option.map_some, add_at, ← hlen]
        have hat : ∀ i j v, at2 ((es.take q.2).drop q.1) i j = some v → at2 es (q.1 + i) j = some v := fun i j v hv => by
          obtain ⟨c, h5, h6⟩ := at2_inv hv
          rw [List.getElem?_drop, List.getElem?_take] at h5
          split at h5
          · exact at2_of h5 h6
          · cases h5
        have hmem : ∀ c, c ∈ (es.take q.2).drop q.1 → c ∈ es := fun c hc => List.mem_of_mem_take (List.mem_of_mem_drop hc)
        have hadr : ∀ i j, oo + q.1 * sz + i * sz + j = oo + (q.1 + i) * sz + j := fun i j => by rw [Nat.add_mul]; omega
        exact .con (by omega) (by omega) hS (fun c hc => hss c (hmem c hc)) (fun c hc => h1' c (hmem c hc)) (fun i j v hv => by rw [hadr]; exact hc _ j v (hat i j v hv)) (fun i j v x hv hx => hr _ j v x (hat i j v hv) (by rw [← hadr]; exact hx))
  · rename_i b sz off n
    obtain ⟨e, he, hs⟩ := bnd_eq hs
    obtain ⟨⟨hsz, hpos⟩, hs2⟩ := grd_eq hs
    obtain ⟨q, hq, hs⟩ := bnd_eq hs2
    cases hs
    have hu := underlying_of_telem he
    have hsize := run_sizeOf_pos (P := P) (e := e) (hsz ▸ hpos) K.w
    rw [← hsz] at hsize
    cases hx with
    | @refE _ _ _ _ A hN hE =>
      obtain ⟨h1, h2, h3⟩ := bnds_run (P := P) (cap := 0) hq hlo hlo0 hhi hhi0 (Nat.zero_le _) true K.w
      have h4 : q.1 = 0 := by omega
      have h5 : q.2 = 0 := by omega
      refine ⟨_, run_sliceAt_row hu hsize h1, ?_⟩
      rw [h4, h5, Nat.sub_self]
      exact .refE hN hE
    | @ref _ _ _ _ _ p m cap hN hβ hl hm =>
      obtain ⟨h1, h2, h3⟩ := bnds_run (P := P) (cap := cap) hq hlo hlo0 hhi hhi0 hl true K.w
      refine ⟨_, run_sliceAt_row hu hsize h1, ?_⟩
      by_cases hc0 : cap = q.1
      · have : q.2 - q.1 = 0 := by omega
        rw [if_pos hc0, this, hc0, Nat.sub_self]
        exact .refE hN (fun p' m' h' => by rw [hβ] at h'; cases h'; exact Nat.le_of_eq (by rw [← hm, hc0]))
      · rw [if_neg hc0, Option.map_some, add_at, ← Nat.add_mul]
        exact .ref hN hβ (by omega) (by rw [show off + q.1 + (cap - q.1) = off + cap by omega]; exact hm)
  · rename_i c
    obtain ⟨e, he, hs⟩ := bnd_eq hs
    obtain ⟨hpos, hs2⟩ := grd_eq hs
    obtain ⟨q, hq, hs⟩ := bnd_eq hs2
    cases hs
    cases hx
    have hu := underlying_of_telem he
    have hsize := run_sizeOf_pos (P := P) (e := e) hpos K.w
    obtain ⟨h1, h2, h3⟩ := bnds_run (P := P) (cap := c) hq hlo hlo0 hhi hhi0 (Nat.zero_le _) true K.w
    have h4 : q.1 = 0 := by omega
    have h5 : q.2 = 0 := by omega
    refine ⟨_, run_sliceAt_row hu hsize h1, ?_⟩
    rw [h4, h5]
    split <;> exact .lit rfl
  · cases hs

/-! ### Elements -/
theorem idx_sound {t : Nat} {x v : V} {X : Value} {n : Int} {kk : IntKind} (hx : VR K x X) (hs : idxV P t x n = some v) : ∃ y, (Instr.indexAt t X (.int kk n)).run P K.w = .ok y K.w ∧ VR K v y := by
  unfold idxV at hs
  obtain ⟨e, he, hs⟩ := bnd_eq hs
  have hu := underlying_of_telem he
  cases x with
  | con fl sz es =>
    obtain ⟨⟨hsz, hpos, h0, hlt⟩, hs2⟩ := grd_eq hs
    cases hs2
    have hsize := run_sizeOf_pos (P := P) (e := e) (hsz ▸ hpos) K.w
    rw [← hsz] at hsize
    cases hx with
    | con0 _ => simp at hlt; omega
    | @con _ _ _ b oo cap _ hp hcap hS hss h1' hc hr =>
      refine ⟨.pointer (some ⟨b, oo + n.toNat * sz, none⟩), ?_, ?_⟩
      · simp [Instr.indexAt, asIntOf, run_underlying hu, h0, hlt, hsize, add_at]
      · have := VR.cel (K := K) (fl := fl) (sz := sz) (i := n.toNat) (c := 0) hS hss h1' hc hr
        simpa using this
  | ref b sz off m =>
    obtain ⟨⟨hsz, hpos, h0, hlt⟩, hs2⟩ := grd_eq hs
    cases hs2
    have hsize := run_sizeOf_pos (P := P) (e := e) (hsz ▸ hpos) K.w
    rw [← hsz] at hsize
    cases hx with
    | refE => omega
    | @ref _ _ _ _ _ p q cap hN hβ hl hm =>
      refine ⟨.pointer (some ⟨p, off * sz + n.toNat * sz, none⟩), ?_, ?_⟩
      · simp [Instr.indexAt, asIntOf, run_underlying hu, h0, hlt, hsize, add_at]
      · rw [← Nat.add_mul]
        exact VR.ptr (K := K) (sz := sz) (i := off + n.toNat) (c := 0) hN hβ
  | _ => cases hs
end
end Go.Ev
end

section
set_option linter.unusedVariables false
set_option linter.unusedSimpArgs false
set_option linter.unnecessarySimpa false
namespace Go.Ev
open Go

section
variable {P : Program} {B : Bs} {U : Nat → Prop} {K : Cx} {h : Nat → Option Blk} {k : Nat} {o : Oper} {a : Act}

/-! ### Slices that are written out -/
theorem flatten_at2 {sz : Nat} : ∀ {es : List (List V)}, (∀ c ∈ es, c.length = sz) → ∀ {i j : Nat} {v : V}, at2 es i j = some v → es.flatten[i * sz + j]? = some v
  | [], _, i, j, v, h => by simp [at2] at h
  | c :: r, hs, i, j, v, h => by
    have hc := hs c (List.mem_cons_self ..)
    obtain ⟨d, h1, h2⟩ := at2_inv h
    rw [List.flatten_cons]
    cases i with
    | zero =>
      simp at h1; subst h1
      rw [Nat.zero_mul, Nat.zero_add, List.getElem?_append_left (get_lt h2)]; exact h2
    | succ i =>
      simp at h1
      rw [Nat.succ_mul, List.getElem?_append_right (by omega)]
      rw [show i * sz + sz + j - c.length = i * sz + j by omega]
      exact flatten_at2 (fun d hd => hs d (List.mem_cons_of_mem _ hd)) (at2_of h1 h2)
theorem flatten_len {sz : Nat} : ∀ {es : List (List V)}, (∀ c ∈ es, c.length = sz) → es.flatten.length = es.length * sz
  | [], _ => by simp
  | c :: r, hs => by
    rw [List.flatten_cons, List.length_append, flatten_len (fun d hd => hs d (List.mem_cons_of_mem _ hd)), hs c (List.mem_cons_self ..), List.length_cons, Nat.succ_mul]
    omega
theorem flatten_set {sz : Nat} {c' : List V} (hc' : c'.length = sz) : ∀ {es : List (List V)} {i : Nat}, (∀ c ∈ es, c.length = sz) → i < es.length → (es.set i c').flatten = spl es.flatten (i * sz) c'
  | [], i, _, h => by simp at h
  | c :: r, 0, hs, _ => by
    have hc := hs c (List.mem_cons_self ..)
    simp only [List.set_cons_zero, List.flatten_cons, spl, Nat.zero_mul, List.take_zero, List.nil_append, Nat.zero_add, hc']
    rw [List.drop_append_of_le_length (by omega), List.drop_of_length_le (by omega)]; rfl
  | c :: r, i + 1, hs, h => by
    have hc := hs c (List.mem_cons_self ..)
    simp only [List.set_cons_succ, List.flatten_cons]
    rw [flatten_set hc' (fun d hd => hs d (List.mem_cons_of_mem _ hd)) (by simpa using h)]
    have e : (i + 1) * sz = c.length + i * sz := by rw [Nat.succ_mul, hc]; omega
    simp only [spl, e]
    rw [List.take_length_add_append, Nat.add_assoc, List.drop_length_add_append]
    simp
theorem rows_of_flat {sz : Nat} {es : List (List V)} {xs : List Value} (hs : ∀ c ∈ es, c.length = sz) (h1 : ∀ c ∈ es, ones c = true) (h : VRl K es.flatten xs) : RowsR K sz es xs :=
  ⟨hs, h1, by rw [← h.1, flatten_len hs], fun i j v x hv hx => h.2 _ v x (flatten_at2 hs hv) hx⟩
theorem closL_flat : ∀ {es : List (List V)}, closL es = true → clos es.flatten = true
  | [], _ => rfl
  | c :: r, h => by
    simp only [closL, Bool.and_eq_true] at h
    have h2 := closL_flat h.2
    rw [List.flatten_cons]
    have : ∀ l : List V, clos l = true → clos (l ++ r.flatten) = true := fun l hl => by
      induction l with
      | nil => exact h2
      | cons v l ih => simp only [clos, Bool.and_eq_true] at hl; simp only [List.cons_append, clos, Bool.and_eq_true]; exact ⟨hl.1, ih hl.2⟩
    exact this c h.1
theorem fltsL_flat : ∀ {es : List (List V)}, fltsL es = true → flts es.flatten = true
  | [], _ => rfl
  | c :: r, h => by
    simp only [fltsL, Bool.and_eq_true] at h
    have h2 := fltsL_flat h.2
    rw [List.flatten_cons]
    have : ∀ l : List V, flts l = true → flts (l ++ r.flatten) = true := fun l hl => by
      induction l with
      | nil => exact h2
      | cons v l ih => simp only [flts, Bool.and_eq_true] at hl; simp only [List.cons_append, flts, Bool.and_eq_true]; exact ⟨hl.1, ih hl.2⟩
    exact this c h.1
theorem onesL_mem : ∀ {es : List (List V)}, onesL es = true → ∀ c ∈ es, ones c = true
  | [], _, c, hc => by cases hc
  | d :: r, h, c, hc => by
    simp only [onesL, Bool.and_eq_true] at h
    cases hc with
    | head => exact h.1
    | tail _ hc => exact onesL_mem h.2 c hc
theorem fillE_sound {tm : Nat → Option V} (hT : TR K tm a) (sz : Nat) : ∀ (parts : List (Nat × Operand)) (es : List (List V)) (cur : Array Value) (out : List (List V)), (∀ c ∈ es, c.length = sz) → VRl K es.flatten cur.toList → fillE tm sz parts es = some out →
    ∃ res, Instr.fill (fun i => some (i * sz, sz)) cur (parts.map fun (i, x) => (i, a.eval x)) = some res ∧ (∀ c ∈ out, c.length = sz) ∧ VRl K out.flatten res.toList ∧ out.length = es.length
  | [], es, cur, out, hs, hc, h => by cases h; exact ⟨cur, rfl, hs, hc, rfl⟩
  | (i, x) :: r, es, cur, out, hs, hc, h => by
    obtain ⟨v, hv, h⟩ := bnd_eq h
    obtain ⟨⟨h1, h2⟩, h⟩ := grd_eq h
    have hx := (opd_sound hT hv).cells
    have hl : es.flatten.length = cur.size := by simpa using hc.1
    have hxs : v.cells.length = (a.eval x).cells.size := by simpa using hx.1
    have hfl := flatten_len hs
    have hle : i * sz + v.cells.length ≤ es.flatten.length := by
      rw [h1, hfl, ← Nat.succ_mul]; exact Nat.mul_le_mul_right _ h2
    have hset := flatten_set h1 hs h2
    obtain ⟨res, h3, h4, h5, h6⟩ := fillE_sound hT sz r (es.set i v.cells) (wr cur (i * sz) (a.eval x).cells.toList) out (fun c hc => by
      rcases List.mem_or_eq_of_mem_set hc with h' | rfl
      · exact hs c h'
      · exact h1) (by rw [hset]; exact spl_wr hc hx hle) h
    refine ⟨res, ?_, h4, h5, by rw [h6]; simp⟩
    simp only [List.map_cons, Instr.fill]
    rw [if_neg (by simp only [Bool.or_eq_true, decide_eq_true_eq, not_or]; simp only [ne_eq] at *; exact ⟨by rw [← hxs, h1]; simp, by rw [← hxs, ← hl]; simpa using hle⟩)]
    rw [← h3]
    congr 1
    have := fill_wr (a.eval x).cells.toList cur (i * sz) 0
    rw [Nat.add_zero] at this
    rw [← this, ← Array.foldl_toList]
    simp
theorem zeros_flat {zc : List V} {zs : Array Value} {sz : Nat} (hz : VRl K zc zs.toList) (hl : zc.length = sz) (hp : 0 < sz) (n : Nat) : VRl K (List.replicate n zc).flatten ((Array.range (n * sz)).map (zs[· % zs.size]!)).toList := by
  have hzs : zs.size = sz := by rw [← hl]; simpa using hz.1.symm
  have hs : ∀ c ∈ List.replicate n zc, c.length = sz := fun c hc => by rw [List.eq_of_mem_replicate hc]; exact hl
  refine ⟨by rw [flatten_len hs]; simp, fun j v x hv hx => ?_⟩
  have hj := get_lt hv
  rw [flatten_len hs, List.length_replicate] at hj
  have hi : j / sz < n := Nat.div_lt_of_lt_mul (by rw [Nat.mul_comm]; exact hj)
  have hm : j % sz < sz := Nat.mod_lt _ hp
  have h1 : at2 (List.replicate n zc) (j / sz) (j % sz) = some (zc[j % sz]'(by omega)) := at2_of (by rw [List.getElem?_replicate, if_pos hi]) (List.getElem?_eq_getElem (by omega))
  have h2 := flatten_at2 hs h1
  rw [show j / sz * sz + j % sz = j by rw [Nat.mul_comm]; exact Nat.div_add_mod j sz] at h2
  rw [h2] at hv
  cases hv
  have h3 : x = zs[j % sz]'(by omega) := by
    have this := hx
    rw [Array.getElem?_toList, Array.getElem?_map] at this
    have hr : (Array.range (n * sz))[j]? = some j := by simp [hj]
    rw [hr] at this
    simp only [Option.map_some, Option.some.injEq] at this
    rw [← this]
    have e : j % zs.size = j % sz := by rw [hzs]
    rw [getElem!_pos zs (j % zs.size) (by omega)]
    simp only [e]
  refine hz.2 (j % sz) _ x (List.getElem?_eq_getElem (by omega)) ?_
  rw [h3]; simp

/-! ### Bytes -/
theorem intsOf_rows {sz : Nat} : ∀ {es : List (List V)} {ns : List Int} {xs : List Value}, intsOf es = some ns → RowsR K 1 es xs → xs = ns.map (Value.int .u8)
  | [], ns, xs, h, hR => by cases h; have := hR.l; simp at this; simp [this]
  | c :: r, ns, xs, h, hR => by
    have key : ∃ n l, c = [.lit (.int .u8 n)] ∧ intsOf r = some l ∧ ns = n :: l := by
      unfold intsOf at h
      split at h
      · rename_i hq; cases hq
      · rename_i n r' hq
        cases hq
        obtain ⟨l, hl, h⟩ := bnd_eq h
        cases h
        exact ⟨_, _, rfl, hl, rfl⟩
      · cases h
    obtain ⟨n, l, rfl, hl, rfl⟩ := key
    have hlen := hR.l
    cases xs with
    | nil => simp at hlen
    | cons x xs =>
      have h0 := hR.v 0 0 (.lit (.int .u8 n)) x rfl rfl
      cases h0
      have hR' := hR.drop 1
      simp only [List.drop_succ_cons, List.drop_zero, Nat.one_mul] at hR'
      rw [intsOf_rows (sz := sz) hl hR']
      rfl
theorem tu8_spec {t : Nat} (h : tu8 P t = true) : ∃ e, P.underlying t = some (.slice e) ∧ P.underlying e = some (.int .u8) := by
  unfold tu8 at h
  split at h
  · rename_i e hu
    split at h
    · rename_i he; exact ⟨e, hu, he⟩
    · cases h
  · cases h
theorem bytes_rows (s : ByteArray) (K : Cx) : RowsR K 1 (byteCells s) (s.data.toList.map fun b => Value.int .u8 (b.toNat : Int)) := by
  refine ⟨fun c hc => ?_, fun c hc => ?_, by simp [byteCells], fun i j v x hv hx => ?_⟩
  · simp only [byteCells, List.mem_map] at hc
    obtain ⟨b, _, rfl⟩ := hc; rfl
  · simp only [byteCells, List.mem_map] at hc
    obtain ⟨b, _, rfl⟩ := hc; rfl
  · obtain ⟨c, h1, h2⟩ := at2_inv hv
    simp only [byteCells, List.getElem?_map, Option.map_eq_some_iff] at h1
    obtain ⟨b, hb, rfl⟩ := h1
    cases j with
    | zero =>
      cases h2
      simp only [Nat.mul_one, Nat.add_zero, List.getElem?_map, hb, Option.map_some] at hx
      cases hx
      exact .lit rfl
    | succ j => simp at h2

/-! ### Parts of a block: cuts up to its end, append within, clear -/
theorem room_ref {b p m off cap sz : Nat} {blk : Blk} (g : Good B U K h) (hb : h b = some blk) (hβ : K.β b = some (p, m)) (hs : blk.sz = sz) (hpos : 0 < sz) (hm : (off + cap) * sz = m) : blk.es.length ≤ off + cap := by
  have hB := (g.blk b blk hb).2
  rw [hβ] at hB
  obtain ⟨cs, e, lo, hi, hB⟩ := hB
  have := hB.hl
  rw [hs, ← hm] at this
  exact Nat.le_of_mul_le_mul_right this hpos
theorem room_refE {b off sz : Nat} {blk : Blk} (g : Good B U K h) (hb : h b = some blk) (hE : ∀ q n, K.β b = some (q, n) → n ≤ off * sz) (hs : blk.sz = sz) (hpos : 0 < sz) : blk.es.length ≤ off := by
  have hB := (g.blk b blk hb).2
  cases hβ : K.β b with
  | none =>
    rw [hβ] at hB
    have := hB.1
    rw [this]; exact Nat.zero_le _
  | some qn =>
    obtain ⟨q, n⟩ := qn
    have h1 := hE q n hβ
    rw [hβ] at hB
    obtain ⟨cs, e, lo, hi, hB⟩ := hB
    have := hB.hl
    rw [hs] at this
    exact Nat.le_of_mul_le_mul_right (Nat.le_trans this h1) hpos
theorem bounds_len {len len' cap : Nat} {LO : Option Value} {x : Value} : Instr.sliceBounds true len cap LO (some x) none = Instr.sliceBounds true len' cap LO (some x) none := rfl
theorem sliceW_sound (g : Good B U K h) {t : Nat} {x v : V} {X : Value} {lo hi : Option V} {LO HI : Option Value} (hx : VR K x X) (hs : sliceW P h t x lo hi = some v) (hlo : ∀ v, lo = some v → ∃ x, LO = some x ∧ VR K v x) (hlo0 : lo = none → LO = none)
    (hhi : ∀ v, hi = some v → ∃ x, HI = some x ∧ VR K v x) (hhi0 : hi = none → HI = none) : ∃ y, (Instr.sliceAt t X LO HI none).run P K.w = .ok y K.w ∧ VR K v y := by
  unfold sliceW at hs
  split at hs
  · rename_i b sz off n l u
    replace hs := bnd_eq hs
    obtain ⟨e, he, hs⟩ := hs
    replace hs := bnd_eq hs
    obtain ⟨blk, hb, hs⟩ := hs
    replace hs := grd_eq hs
    obtain ⟨⟨hbox, hsz, hs2, hpos, hoff⟩, hs⟩ := hs
    replace hs := bnd_eq hs
    obtain ⟨q, hq, hs⟩ := hs
    cases hs
    have hu := underlying_of_telem he
    have hsize := run_sizeOf_pos (P := P) (e := e) (hsz ▸ hpos) K.w
    rw [← hsz] at hsize
    obtain ⟨HX, hHX, _⟩ := hhi u rfl
    subst hHX
    cases hx with
    | @refE _ _ _ _ A hN hE =>
      have hl := room_refE g hb hE hs2 hpos
      obtain ⟨h1, h2, h3⟩ := bnds_run (P := P) (cap := 0) hq hlo hlo0 hhi hhi0 (by omega) true K.w
      have h4 : q.1 = 0 := by omega
      have h5 : q.2 = 0 := by omega
      rw [bounds_len (len' := 0)] at h1
      refine ⟨_, run_sliceAt_row hu hsize h1, ?_⟩
      rw [h4, h5, Nat.sub_self]
      exact .refE hN hE
    | @ref _ _ _ _ _ p m cap hN hβ hl hm =>
      have hr := room_ref g hb hβ hs2 hpos hm
      obtain ⟨h1, h2, h3⟩ := bnds_run (P := P) (cap := cap) hq hlo hlo0 hhi hhi0 (by omega) true K.w
      rw [bounds_len (len' := n)] at h1
      refine ⟨_, run_sliceAt_row hu hsize h1, ?_⟩
      by_cases hc0 : cap = q.1
      · have : q.2 - q.1 = 0 := by omega
        rw [if_pos hc0, this, hc0, Nat.sub_self]
        exact .refE hN (fun p' m' h' => by rw [hβ] at h'; cases h'; exact Nat.le_of_eq (by rw [← hm, hc0]))
      · rw [if_neg hc0, Option.map_some, add_at, ← Nat.add_mul]
        exact .ref hN hβ (by omega) (by rw [show off + q.1 + (cap - q.1) = off + cap by omega]; exact hm)
  · cases hs
theorem run_slice3 {t e sz n cap m l u : Nat} {A : Option Addr} {LO : Option Value} {HX MX : Value} {w : World} (hu : P.underlying t = some (.slice e)) (hsize : (sizeOf e).run P w = .ok sz w) (h1 : (Instr.sliceBounds true n cap LO (some HX) (some MX)).run P w = .ok (l, u, m) w) :
    ∃ y, (Instr.sliceAt t (.slice A n cap) LO (some HX) (some MX)).run P w = .ok y w := by
  refine ⟨.slice (if m = l then A else A.map (·.add (l * sz))) (u - l) (m - l), ?_⟩
  simp [Instr.sliceAt, run_underlying hu, Instr.slice, h1, hsize]
theorem bnds_run3 {m n cap : Nat} {lo : Option V} {hi : V} {LO : Option Value} {HX : Value} {km : IntKind} {M : Int} {q : Nat × Nat} (hM : 0 ≤ M ∧ M ≤ n) (hm : m = M.toNat) (hb : bnds m lo (some hi) = some q) (hlo : ∀ v, lo = some v → ∃ x, LO = some x ∧ VR K v x) (hlo0 : lo = none → LO = none)
    (hhi : VR K hi HX) (hc : n ≤ cap) (w : World) : (Instr.sliceBounds true n cap LO (some HX) (some (.int km M))).run P w = .ok (q.1, q.2, m) w := by
  unfold bnds at hb
  obtain ⟨H, h1, hb⟩ := bnd_eq hb
  obtain ⟨L, h2, hb⟩ := bnd_eq hb
  obtain ⟨⟨h3, h4, h5⟩, hb⟩ := grd_eq hb
  cases hb
  have hh : ∃ kh, HX = .int kh H := by
    unfold bndOf at h1
    split at h1
    · rename_i hq; cases hq
    · rename_i hq; cases hq; cases h1; cases hhi; exact ⟨_, rfl⟩
    · cases h1
  obtain ⟨kh, rfl⟩ := hh
  obtain rfl : M = (m : Int) := by omega
  clear hm
  have hMc : (m : Int) ≤ (cap : Int) := by omega
  have hHm : H ≤ (m : Int) := h5
  have hH0 : 0 ≤ H := by omega
  have e1 : (H.toNat : Int) = H := Int.toNat_of_nonneg hH0
  have hM0 : (0 : Int) ≤ (m : Int) := by omega
  cases lo with
  | none =>
    cases hlo0 rfl
    unfold bndOf at h2
    cases h2
    simp [Instr.sliceBounds, run_sliceBound, hH0, hHm, hM0, hMc]
  | some v =>
    obtain ⟨y, rfl, hv⟩ := hlo v rfl
    unfold bndOf at h2
    split at h2
    · rename_i hq; cases hq
    · rename_i hq
      cases hq
      cases h2
      cases hv
      simp [Instr.sliceBounds, run_sliceBound, hH0, hHm, hM0, hMc, h3, h4, e1]
    · cases h2
theorem sliceM_sound {t : Nat} {x hi mx : V} {X HX MX : Value} {lo : Option V} {LO : Option Value} {r : Option V} (hx : VR K x X) (hs : sliceM P t x lo hi mx = some r) (hlo : ∀ v, lo = some v → ∃ x, LO = some x ∧ VR K v x) (hlo0 : lo = none → LO = none)
    (hhi : VR K hi HX) (hmx : VR K mx MX) : r = none ∧ ∃ y, (Instr.sliceAt t X LO (some HX) (some MX)).run P K.w = .ok y K.w := by
  unfold sliceM at hs
  replace hs := bnd_eq hs
  obtain ⟨e, he, hs⟩ := hs
  replace hs := grd_eq hs
  obtain ⟨hpos, hs⟩ := hs
  replace hs := bnd_eq hs
  obtain ⟨n, hn, hs⟩ := hs
  split at hs
  · rename_i km M
    replace hs := grd_eq hs
    obtain ⟨hM, hs⟩ := hs
    replace hs := bnd_eq hs
    obtain ⟨q, hq, hs⟩ := hs
    cases hs
    cases hmx
    have hu := underlying_of_telem he
    have hsize := run_sizeOf_pos (P := P) (e := e) hpos K.w
    refine ⟨rfl, ?_⟩
    have key : ∃ A cap, X = .slice A n cap ∧ n ≤ cap := by
      unfold slen3 at hn
      split at hn
      · cases hn
        cases hx with
        | refE => exact ⟨_, _, rfl, Nat.le_refl _⟩
        | ref _ _ hl _ => exact ⟨_, _, rfl, hl⟩
      · cases hn
        cases hx with
        | con0 hz => exact ⟨_, _, rfl, Nat.zero_le _⟩
        | con _ hcap => exact ⟨_, _, rfl, hcap⟩
      · cases hn
        cases hx
        exact ⟨_, _, rfl, Nat.le_refl _⟩
      · cases hn
    obtain ⟨A, cap, rfl, hc⟩ := key
    exact run_slice3 hu hsize (bnds_run3 hM rfl hq hlo hlo0 hhi hc K.w)
  · cases hs
theorem appendW_sound (g : Good B U K h) {t u ty : Nat} (hu : tnint P u = true) {x y : V} {X Y : Value} {d : Dl} (hx : VR K x X) (hy : VR K y Y) (hd : appendW P h t x y = some d) :
    ∃ (K' : Cx) (z : Value), (Builtin.append_ #[t, u] ty #[X, Y]).run P K.w = .ok z K'.w ∧ Le K K' ∧ Good B U K' (putU h d.up) ∧ d.nb = [] ∧ ∀ v, d.v = some v → VR K' v z := by
  unfold appendW at hd
  replace hd := bnd_eq hd
  obtain ⟨e, he, hd⟩ := hd
  replace hd := grd_eq hd
  obtain ⟨hpos, hd⟩ := hd
  replace hd := bnd_eq hd
  obtain ⟨q, hq, hd⟩ := hd
  have ht := underlying_of_telem he
  cases hi : P.info? e with
  | none => simp [tsz, hi] at hpos
  | some i =>
  have hsz : tsz P e = i.size := by simp [tsz, hi]
  obtain ⟨news, hR, hlo, hfc⟩ := elems_part (P := P) g hy hq
  have hfc := hfc _ (Nat.le_refl _)
  rw [← hR.l, List.take_length] at hfc
  rw [hsz] at hR hfc
  cases x with
  | ref b sz off n =>
    replace hd := bnd_eq hd
    obtain ⟨blk, hb, hd⟩ := hd
    replace hd := grd_eq hd
    obtain ⟨⟨hbox, hs1, hs2, hfit, hfl⟩, hd⟩ := hd
    cases hd
    rw [hsz] at hs1 hpos
    subst hs1
    cases hx with
    | @refE _ _ _ _ a hN hE =>
      have hr := room_refE g hb hE hs2 hpos
      have hq0 : q.2.length = 0 := by omega
      have hq1 : q.2 = [] := List.length_eq_zero_iff.1 hq0
      have hnl : news = [] := List.length_eq_zero_iff.1 (by rw [hR.l, hq0, Nat.zero_mul])
      refine ⟨K, .slice a 0 0, ?_, Le.refl K, ?_, rfl, fun v hv => ?_⟩
      · rw [run_append_fits ht hi hu hlo hfc (by omega)]
        cases a with
        | none => simp [hq0]
        | some a => simp [hq0, hnl, storeCells]
      · show Good B U K (set h b (some { blk with es := blk.es.take (off + 0) ++ (q.2 ++ blk.es.drop (off + 0 + q.2.length)) }))
        have : ({ blk with es := blk.es.take (off + 0) ++ (q.2 ++ blk.es.drop (off + 0 + q.2.length)) } : Blk) = blk := by
          rw [hq1]
          simp
        rw [this, set_self hb]
        exact g
      · cases hv; rw [hq0]; exact .refE hN hE
    | @ref _ _ _ _ _ p mm cap hN hβ hl hm =>
      have hr := room_ref g hb hβ hs2 hpos hm
      have hB := (g.blk b blk hb).2
      rw [hβ] at hB
      obtain ⟨cs, et, lo, hi0, hB⟩ := hB
      have hxl := hR.l
      have hfits : (off + n) * blk.sz + news.length ≤ cs.size := by
        rw [hs2, hxl, ← Nat.add_mul, hB.hn, ← hm]
        exact Nat.mul_le_mul_right _ (by omega)
      have hst := run_storeCells_own P p ((off + n) * i.size) et lo hi0 news 0 cs K.w hB.hw (by rw [hB.hn]; exact hB.hf) (by rw [hs2] at hfits; simpa using hfits) hR.one
      rw [Nat.add_zero] at hst
      let K' : Cx := { K with w := rowW K.w p (wr cs ((off + n) * blk.sz) news) et (lo, hi0) }
      have hnS := g.apart b blk p mm hb hβ
      have hLe0 : Le K K' := ⟨fun _ h => h, fun _ h => h, fun _ _ => rfl, fun q o hq => cell_congr (rowW_other (fun he => hnS (by rw [← he]; exact hq))) o⟩
      have hRb : RowsR (K.clo q.1) blk.sz q.2 news := by rw [hs2]; exact hR
      have hB' := hB.splice hbox hRb (by intro hf; rw [hf] at hfl; simpa using hfl) (off := off + n) hfit (K' := K') rfl hLe0
      obtain ⟨hLe, hg⟩ := g.rewrite hb hβ hB.hw (K' := K') rfl hB'
      refine ⟨K', .slice (some ⟨p, off * i.size, none⟩) (n + q.2.length) cap, ?_, hLe, hg, rfl, fun v hv => ?_⟩
      · rw [run_append_fits ht hi hu hlo hfc (by omega)]
        simp only [add_at, ← Nat.add_mul]
        rw [hst]
        show Result.ok _ _ = Result.ok _ (rowW K.w p (wr cs ((off + n) * blk.sz) news) et (lo, hi0))
        rw [hs2]
      · cases hv
        exact .ref (K := K') hN hβ (by omega) hm
  | _ => cases hd
theorem clear_sound (g : Good B U K h) {t ty : Nat} {x : V} {X : Value} {d : Dl} (hx : VR K x X) (hd : clearV P h t x = some d) :
    ∃ (K' : Cx), (Builtin.clear_ #[t] ty #[X]).run P K.w = .ok (.tuple #[]) K'.w ∧ Le K K' ∧ Good B U K' (putU h d.up) ∧ d.nb = [] ∧ d.v = none := by
  unfold clearV at hd
  replace hd := bnd_eq hd
  obtain ⟨e, he, hd⟩ := hd
  replace hd := bnd_eq hd
  obtain ⟨z, hz, hd⟩ := hd
  replace hd := grd_eq hd
  obtain ⟨⟨hzl, hz1, hzf, hpos⟩, hd⟩ := hd
  have ht := underlying_of_telem he
  obtain ⟨zx, hzx, hzv⟩ := run_zero (K := K) hz K.w
  cases x with
  | ref b sz off n =>
    replace hd := bnd_eq hd
    obtain ⟨blk, hb, hd⟩ := hd
    replace hd := grd_eq hd
    obtain ⟨⟨hbox, hs1, hs2, hfit⟩, hd⟩ := hd
    cases hd
    have same : n = 0 → Good B U K (set h b (some { blk with es := blk.es.take off ++ (List.replicate n z.cells ++ blk.es.drop (off + n)) })) := fun hn => by
      have : ({ blk with es := blk.es.take off ++ (List.replicate n z.cells ++ blk.es.drop (off + n)) } : Blk) = blk := by
        rw [hn]; simp
      rw [this, set_self hb]
      exact g
    cases hx with
    | @refE _ _ _ _ a hN hE =>
      refine ⟨K, ?_, Le.refl K, same rfl, rfl, rfl⟩
      cases a <;> simp [Builtin.clear_, run_underlying ht]
    | @ref _ _ _ _ _ p mm cap hN hβ hl hm =>
      by_cases hn0 : n = 0
      · refine ⟨K, ?_, Le.refl K, same hn0, rfl, rfl⟩
        subst hn0
        simp [Builtin.clear_, run_underlying ht]
      have hB := (g.blk b blk hb).2
      rw [hβ] at hB
      obtain ⟨cs, et, lo, hi0, hB⟩ := hB
      have hzs : zx.cells.size = tsz P e := by rw [← hzl]; simpa using hzv.cells.1.symm
      have hR : RowsR (K.clo true) blk.sz (List.replicate n z.cells) (Builtin.zeroCells zx.cells n).toList := by
        rw [hs2, hs1]
        refine rows_of_flat (fun c hc => by rw [List.eq_of_mem_replicate hc]; exact hzl) (fun c hc => by rw [List.eq_of_mem_replicate hc]; exact hz1) ?_
        unfold Builtin.zeroCells
        rw [show n * zx.cells.size = n * tsz P e by rw [hzs]]
        exact zeros_flat (flts_sound true hzv.cells hzf) hzl hpos n
      have hxl := hR.l
      rw [List.length_replicate] at hxl
      have hlen : off + (List.replicate n z.cells).length ≤ blk.es.length := by rw [List.length_replicate]; exact hfit
      have hfits : off * blk.sz + (Builtin.zeroCells zx.cells n).toList.length ≤ cs.size := by
        rw [hxl, ← Nat.add_mul, hB.hn]
        exact Nat.le_trans (Nat.mul_le_mul_right _ hfit) hB.hl
      have hst := run_storeCells_own P p (off * sz) et lo hi0 (Builtin.zeroCells zx.cells n).toList 0 cs K.w hB.hw (by rw [hB.hn]; exact hB.hf) (by rw [hs2] at hfits; simpa using hfits) hR.one
      rw [Nat.add_zero] at hst
      let K' : Cx := { K with w := rowW K.w p (wr cs (off * blk.sz) (Builtin.zeroCells zx.cells n).toList) et (lo, hi0) }
      have hnS := g.apart b blk p mm hb hβ
      have hLe0 : Le K K' := ⟨fun _ h => h, fun _ h => h, fun _ _ => rfl, fun q o hq => cell_congr (rowW_other (fun he => hnS (by rw [← he]; exact hq))) o⟩
      have hB' := hB.splice hbox hR (fun _ => rfl) hlen (K' := K') rfl hLe0
      obtain ⟨hLe, hg⟩ := g.rewrite hb hβ hB.hw (K' := K') rfl hB'
      rw [List.length_replicate] at hg
      refine ⟨K', ?_, hLe, hg, rfl, rfl⟩
      cases n with
      | zero => exact absurd rfl hn0
      | succ n =>
        simp only [Builtin.clear_, run_underlying ht, Sem.run_bind, Result.andThen_ok, List.getElem?_toArray, List.getElem?_cons_zero, hzx]
        show ((storeCells _ _ 0).run P K.w).andThen _ = _
        rw [hst]
        show Result.ok _ _ = Result.ok _ (rowW K.w p (wr cs (off * blk.sz) (Builtin.zeroCells zx.cells (n + 1)).toList) et (lo, hi0))
        rw [hs2]
  | _ => cases hd
/-! ### Every operation but the calls of functions -/
theorem op_ran {E : Env} (hP : E.P = P) (hte : ∀ t ks, E.te t = some ks → eqK P t = some ks) {call : CallF} {tm : Nat → Option V} (g : Good B U K h) (hT : TR K tm a) (hk : ¬ U k) {d : Dl} (hd : evOp E call tm h k o.op = some d) (hcall : ∀ c f, o.op = .call c → c.callee ≠ .value f) : Ran P B U K h k o a d := by
  subst hP
  obtain ⟨dst, op, ty, pos, after, guard⟩ := o
  cases op <;> first | (cases hd; done) | skip
  case move x =>
    replace hd := bnd_eq hd
    obtain ⟨v, hv, hd⟩ := hd
    exact ran_pure g rfl (opd_sound hT hv) hd
  case assign x =>
    replace hd := bnd_eq hd
    obtain ⟨v, hv, hd⟩ := hd
    exact ran_pure g rfl (opd_sound hT hv) hd
  case pick c x y =>
    replace hd := bnd_eq hd
    obtain ⟨v, hv, hd⟩ := hd
    have hc := opd_sound hT hv
    cases v <;> first | (cases hd; done) | skip
    rename_i v
    cases v <;> first | (cases hd; done) | skip
    rename_i b0
    cases hcv : a.eval c <;> rw [hcv] at hc <;> first | (cases hc; done) | skip
    cases hc
    rcases cnd_eq hd with ⟨rfl, hd⟩ | ⟨rfl, hd⟩
    · obtain ⟨u, hu, hd⟩ := bnd_eq hd
      exact ran_pure g (by simp [execOp, hcv, asBool]) (opd_sound hT hu) hd
    · obtain ⟨u, hu, hd⟩ := bnd_eq hd
      exact ran_pure g (by simp [execOp, hcv, asBool]) (opd_sound hT hu) hd
  case alloc t =>
    replace hd := bnd_eq hd
    obtain ⟨z, hz, hd⟩ := hd
    replace hd := grd_eq hd
    obtain ⟨⟨hl, h1⟩, hd⟩ := hd
    cases hd
    obtain ⟨x, hx, hv⟩ := run_zero hz K.w
    obtain ⟨K', y, hr, hle, hg, hy⟩ := newVar_sound (P := E.P) g hk (t := t) hv h1
    rw [hl] at hg hy
    exact ran_new (b := ⟨true, false, tsz E.P t, [z.cells]⟩) (up := []) (by simp only [execOp, Instr.alloc, Sem.run_bind, hx, Result.andThen_ok] at hr ⊢; rw [hr]; rfl) hle hg hy rfl
  case box t x =>
    replace hd := bnd_eq hd
    obtain ⟨v, hv, hd⟩ := hd
    replace hd := grd_eq hd
    obtain ⟨⟨hl, h1⟩, hd⟩ := hd
    cases hd
    obtain ⟨K', y, hr, hle, hg, hy⟩ := newVar_sound (P := E.P) g hk (t := t) (opd_sound hT hv) h1
    rw [hl] at hg hy
    exact ran_new (b := ⟨true, false, tsz E.P t, [v.cells]⟩) (up := []) (by simp only [execOp, Instr.box, Sem.run_bind] at hr ⊢; rw [hr]; rfl) hle hg hy rfl
  case build t parts =>
    replace hd := bnd_eq hd
    obtain ⟨pl, hpl, hd⟩ := hd
    replace hd := bnd_eq hd
    obtain ⟨z, hz, hd⟩ := hd
    replace hd := bnd_eq hd
    obtain ⟨cs, hcs, hd⟩ := hd
    obtain ⟨y, hr, hv⟩ := build_sound (P := E.P) hT hpl hz hcs
    exact ran_pure g (by simp only [execOp, Sem.run_bind]; rw [hr]; rfl) hv hd
  case buildSlice t len parts =>
    replace hd := bnd_eq hd
    obtain ⟨e, he, hd⟩ := hd
    replace hd := bnd_eq hd
    obtain ⟨z, hz, hd⟩ := hd
    replace hd := cnd_eq hd
    rcases hd with ⟨hl0, hd⟩ | ⟨_, hd⟩
    · replace hd := (cnd_eq hd).resolve_right (fun h => by cases h.2)
      obtain ⟨hpe, hd⟩ := hd
      cases hd
      have hl0 : len = 0 := Nat.eq_of_beq_eq_true hl0
      subst hl0
      have hu := underlying_of_telem he
      obtain ⟨zx, hzx, hz2⟩ := bnd_eq hz
      cases hi : E.P.info? e with
      | none => rw [hi] at hzx; cases hzx
      | some i =>
        have hh : (K.w.alloc (.cells #[] e)).heap = (pushW K.w #[] e).heap := rfl
        obtain ⟨hle1, g1⟩ := g.world (w' := K.w.alloc (.cells #[] e)) (by rw [hh, pushW_size]; omega) (fun q hq => by rw [hh]; exact pushW_old hq) ⟨rfl, rfl, rfl⟩
        obtain ⟨K', hw, hle, hg, hN, hβ0⟩ := g1.new0 hk (fl := true) (sz := tsz E.P e)
        refine ran_new (b := ⟨false, true, tsz E.P e, []⟩) (up := []) (K' := K') (x := .slice (some ⟨K.w.heap.size, 0, none⟩) 0 0) ?_ (hle1.trans hle) hg (.refE hN (fun q n hq => by rw [hβ0] at hq; cases hq)) rfl
        rw [hw]
        have hp0 : parts = #[] := by
          apply Array.ext'
          simpa using hpe
        subst hp0
        simp only [execOp, Sem.run_bind]
        simp [Instr.buildSlice, run_underlying hu, sizeOf, typeInfo, hi, newRow, Instr.fill]
        have h0 : Array.range 0 = #[] := Array.size_eq_zero_iff.1 (by simp)
        rw [h0]
        simp only [List.map_toArray, List.map_nil]
    replace hd := grd_eq hd
    obtain ⟨⟨hzl, hpos, hlen, hsm⟩, hd⟩ := hd
    replace hd := bnd_eq hd
    obtain ⟨es, hes, hd⟩ := hd
    replace hd := (cnd_eq hd).resolve_right (fun h => by cases h.2)
    obtain ⟨hcl, hd⟩ := hd
    simp only [Bool.and_eq_true] at hcl
    cases hd
    have hu := underlying_of_telem he
    obtain ⟨zx, hzx, hz2⟩ := bnd_eq hz
    cases hi : E.P.info? e with
    | none => rw [hi] at hzx; cases hzx
    | some i =>
      rw [hi] at hzx
      replace hzx : i.zero = some zx := hzx
      have hsz : tsz E.P e = i.size := by simp [tsz, hi]
      have hz3 : VRl K z.cells zx.cells.toList := (ofVal_sound hz2).cells
      obtain ⟨res, h1, h2, h3, h4⟩ := fillE_sound hT (tsz E.P e) parts.toList _ ((Array.range (len * tsz E.P e)).map (zx.cells[· % zx.cells.size]!)) es (fun c hc => by rw [List.eq_of_mem_replicate hc]; exact hzl) (zeros_flat hz3 hzl hpos len) hes
      have hR : RowsR (K.clo (fltsL es)) (tsz E.P e) es res.toList := by
        refine rows_of_flat h2 (onesL_mem hcl.2) ?_
        cases hf : fltsL es with
        | false => exact clos_sound h3 (closL_flat hcl.1)
        | true => exact flts_sound true h3 (fltsL_flat hf)
      have hel : es.length = len := by rw [h4]; simp
      obtain ⟨K', hw, hle, hg, hN, hβ⟩ := g.push hk (x := ⟨false, fltsL es, tsz E.P e, es⟩) res e (K.w.alloc (.cells res e)) rfl ⟨rfl, rfl, rfl⟩ hR.s hR.o (by rw [← hR.l]; simp) (fun i j v y hv hy => hR.v i j v y hv (by simpa using hy))
      have hrs : res.size = len * tsz E.P e := by have := hR.l; rw [hel] at this; simpa using this
      refine ran_new (b := ⟨false, fltsL es, tsz E.P e, es⟩) (up := []) (K' := K') (x := .slice (some ⟨K.w.heap.size, 0, none⟩) len len) ?_ hle hg ?_ rfl
      · rw [hw]
        have e1 : (parts.map fun (i, x) => (i, a.eval x)).toList = parts.toList.map fun (i, x) => (i, a.eval x) := Array.toList_map ..
        rw [hsz] at hpos hsm h1
        have := run_buildSlice (P := E.P) K.w t e len (parts.map fun (i, x) => (i, a.eval x)) res i zx hu hi hzx (by omega) (by have := Nat.mul_pos hlen hpos; omega) (by rw [e1]; exact h1)
        simp only [execOp, Sem.run_bind]
        rw [this]; rfl
      · have := VR.ref (K := K') (sz := tsz E.P e) (off := 0) (len := len) (cap := len) hN hβ (Nat.le_refl _) (by rw [hrs]; simp)
        simpa using this
  case makeSlice t len cap =>
    replace hd := bnd_eq hd
    obtain ⟨e, he, hd⟩ := hd
    replace hd := bnd_eq hd
    obtain ⟨z, hz, hd⟩ := hd
    replace hd := bnd_eq hd
    obtain ⟨x, hx, hd⟩ := hd
    replace hd := bnd_eq hd
    obtain ⟨y, hy, hd⟩ := hd
    split at hd <;> first | (cases hd; done) | skip
    rename_i k1 n k2 m
    replace hd := grd_eq hd
    obtain ⟨⟨hzl, hz1, hzc, hpos, hn0, hnm, hcap⟩, hd⟩ := hd
    subst hnm
    cases hd
    obtain ⟨c, rfl⟩ := Int.eq_ofNat_of_zero_le hn0
    have hu := underlying_of_telem he
    obtain ⟨zx, hzx, hz2⟩ := bnd_eq hz
    cases hi : E.P.info? e with
    | none => rw [hi] at hzx; cases hzx
    | some i =>
      rw [hi] at hzx
      replace hzx : i.zero = some zx := hzx
      have hsz : tsz E.P e = i.size := by simp [tsz, hi]
      have hbs : tbytes E.P e = i.bytes := by simp [tbytes, hi]
      unfold capLim at hcap
      rw [hbs, Int.toNat_natCast] at hcap
      have hcap1 : c * i.bytes + c ≤ 140737488355328 := by rw [Nat.mul_add] at hcap; omega
      have hcb : i.bytes * c ≤ 140737488355328 := by rw [Nat.mul_comm]; omega
      have hz3 : VRl K z.cells zx.cells.toList := (ofVal_sound hz2).cells
      have hfl := zeros_flat hz3 hzl hpos c
      have hR : RowsR (K.clo (flts z.cells)) (tsz E.P e) (List.replicate c z.cells) ((Array.range (c * tsz E.P e)).map (zx.cells[· % zx.cells.size]!)).toList := by
        refine rows_of_flat (fun q hq => by rw [List.eq_of_mem_replicate hq]; exact hzl) (fun q hq => by rw [List.eq_of_mem_replicate hq]; exact hz1) ?_
        have hcl : closL (List.replicate c z.cells) = true := by
          clear hfl hcap hcap1 hcb hx hy hn0
          induction c with
          | zero => rfl
          | succ c ih => rw [List.replicate_succ]; simp only [closL, hzc, ih, Bool.and_self]
        cases hf : flts z.cells with
        | false => exact clos_sound hfl (closL_flat hcl)
        | true =>
          have hfl2 : fltsL (List.replicate c z.cells) = true := by
            clear hfl hcap hcap1 hcb hx hy hn0 hcl
            induction c with
            | zero => rfl
            | succ c ih => rw [List.replicate_succ]; simp only [fltsL, hf, ih, Bool.and_self]
          exact flts_sound true hfl (fltsL_flat hfl2)
      obtain ⟨K', hw, hle, hg, hN, hβ⟩ := g.push hk (x := ⟨false, flts z.cells, tsz E.P e, List.replicate c z.cells⟩) ((Array.range (c * tsz E.P e)).map (zx.cells[· % zx.cells.size]!)) e (K.w.alloc (.cells ((Array.range (c * tsz E.P e)).map (zx.cells[· % zx.cells.size]!)) e)) rfl ⟨rfl, rfl, rfl⟩ hR.s hR.o (by rw [← hR.l]; simp) (fun i j v y hv hy => hR.v i j v y hv (by rw [Array.getElem?_toList]; exact hy))
      refine ran_new (b := ⟨false, flts z.cells, tsz E.P e, List.replicate c z.cells⟩) (up := []) (K' := K') (x := .slice (some ⟨K.w.heap.size, 0, none⟩) c c) ?_ hle hg ?_ rfl
      · rw [hw]
        have hxv := opd_sound hT hx
        have hyv := opd_sound hT hy
        have e1 : a.eval len = .int k1 (c : Int) := by cases hxe : a.eval len <;> rw [hxe] at hxv <;> first | (cases hxv; done) | (cases hxv; rfl)
        have e2 : a.eval cap = .int k2 (c : Int) := by cases hye : a.eval cap <;> rw [hye] at hyv <;> first | (cases hyv; done) | (cases hyv; rfl)
        have hb3 : (i.bytes : Int) * (c : Int) ≤ 281474976710656 := by
          have h : ((i.bytes * c : Nat) : Int) ≤ 281474976710656 := by omega
          rwa [Int.natCast_mul] at h
        have hr := run_make (P := E.P) K.w t e i zx hu hi hzx k1 k2 c c (by omega) (Int.le_refl _) hb3 (by omega)
        simp only [Int.toNat_natCast] at hr
        rw [hsz]
        simp only [execOp, Sem.run_bind]
        rw [e1, e2, hr]; rfl
      · have := VR.ref (K := K') (sz := tsz E.P e) (off := 0) (len := c) (cap := c) hN hβ (Nat.le_refl _) (by simp)
        simpa using this
  case load t p =>
    replace hd := bnd_eq hd
    obtain ⟨pv, hp, hd⟩ := hd
    replace hd := bnd_eq hd
    obtain ⟨v, hv, hd⟩ := hd
    obtain ⟨y, hr, hy⟩ := load_sound (P := E.P) g (opd_sound hT hp) hv
    exact ran_pure g (by simp only [execOp, Sem.run_bind, hr]; rfl) hy hd
  case store t p x =>
    replace hd := bnd_eq hd
    obtain ⟨pv, hp, hd⟩ := hd
    replace hd := bnd_eq hd
    obtain ⟨v, hv, hd⟩ := hd
    obtain ⟨K', hr, hle, hg, hnb, hdv⟩ := store_sound (P := E.P) g (opd_sound hT hp) (opd_sound hT hv) hd
    refine ⟨K', .skip, undef, by simp only [execOp, Sem.run_bind, hr]; rfl, .inr ⟨rfl, rfl⟩, hle, ?_, fun v' h' => by rw [hdv] at h'; cases h'⟩
    rw [hnb]
    exact hg.mono_U fun _ h => .inl h
  case nilCheck x =>
    replace hd := bnd_eq hd
    obtain ⟨v, hv, hd⟩ := hd
    have hx := opd_sound hT hv
    cases v <;> first | (cases hd; done) | skip
    all_goals
      refine ran_pure (v := _) (x := a.eval x) g ?_ hx hd
      cases hxe : a.eval x <;> rw [hxe] at hx <;> first | (cases hx; done) | skip
      cases hx
      simp [execOp, hxe]
  case binOp op t x y yt =>
    replace hd := bnd_eq hd
    obtain ⟨u, hu, hd⟩ := hd
    replace hd := bnd_eq hd
    obtain ⟨v, hv, hd⟩ := hd
    replace hd := bnd_eq hd
    obtain ⟨r, hr, hd⟩ := hd
    obtain ⟨z, hz, hzv⟩ := binV_sound (P := E.P) (K2 := K) (w := K.w) (ox := x) (oy := y) (fun ks h => hte t ks h) (opd_sound hT hu) (opd_sound hT hv) hr
    exact ran_pure g (by simp only [execOp, Sem.run_bind] at hz ⊢; rw [hz]; rfl) hzv hd
  case unOp op t x =>
    replace hd := bnd_eq hd
    obtain ⟨v, hv, hd⟩ := hd
    have hx := opd_sound hT hv
    cases v <;> first | (cases hd; done) | skip
    rename_i v
    cases v <;> first | (cases hd; done) | skip
    · rename_i b
      cases op <;> first | (cases hd; done) | skip
      cases hxe : a.eval x <;> rw [hxe] at hx <;> first | (cases hx; done) | skip
      cases hx
      exact ran_pure g (by simp [execOp, hxe, Op.unary]) (.lit rfl) hd
    · rename_i i n
      cases op <;> first | (cases hd; done) | skip
      cases hxe : a.eval x <;> rw [hxe] at hx <;> first | (cases hx; done) | skip
      cases hx
      exact ran_pure g (by simp [execOp, hxe, Op.unary, Op.intArith]) (.lit rfl) hd
  case convert s t x =>
    replace hd := bnd_eq hd
    obtain ⟨v, hv, hd⟩ := hd
    have hx := opd_sound hT hv
    unfold convV at hd
    replace hd := bnd_eq hd
    obtain ⟨ag, hag, hd⟩ := hd
    have hsrc : ∃ ds, E.P.underlying s = some ds := by
      unfold tagg at hag
      cases hs : E.P.underlying s with
      | none => rw [hs] at hag; cases hag
      | some ds => exact ⟨ds, rfl⟩
    obtain ⟨ds, hs⟩ := hsrc
    have bytes : ∀ y, VR K y (a.eval x) → (∀ s', y = .lit (.string s') → VR K (.lit (.string s')) (a.eval x) → False) → cnd (tu8 E.P s && tstr E.P t) (bnd (elems h 1 y) fun q => bnd (intsOf q.2) fun ns => pureD (.lit (.string (mkBytes ns)))) none = some d → Ran E.P B U K h k ⟨dst, .convert s t x, ty, pos, after, guard⟩ a d := fun y hy hnot hd => by
      replace hd := (cnd_eq hd).resolve_right (fun h => by cases h.2)
      obtain ⟨htt, hd⟩ := hd
      simp only [Bool.and_eq_true] at htt
      obtain ⟨e, hus, hue⟩ := tu8_spec htt.1
      have hut := underlying_of_tstr htt.2
      replace hd := bnd_eq hd
      obtain ⟨q, hq, hd⟩ := hd
      replace hd := bnd_eq hd
      obtain ⟨ns, hns, hd⟩ := hd
      obtain ⟨news, hR, hrun⟩ := elems_sound (P := E.P) g hy hq
      obtain ⟨hln, hfc⟩ := hrun K.w rfl
      have hnews := intsOf_rows (sz := 1) hns hR
      have hstr : ∀ X, VR K y X → ∃ A l c, X = .slice A l c ∨ ∃ s', y = .lit (.string s') := fun X hX => by
        cases y <;> first | (cases hq; done) | skip
        case lit v => cases v <;> first | (cases hq; done) | (exact ⟨none, 0, 0, .inr ⟨_, rfl⟩⟩) | (cases hX; exact ⟨_, _, _, .inl rfl⟩)
        case con => cases hX <;> exact ⟨_, _, _, .inl rfl⟩
        case emp => cases hX <;> exact ⟨_, _, _, .inl rfl⟩
        case ref => cases hX <;> exact ⟨_, _, _, .inl rfl⟩
      obtain ⟨A, l, c, hsl⟩ := hstr _ hy
      have hsl' : a.eval x = .slice A l c := hsl.resolve_right (fun ⟨s', hs'⟩ => hnot s' hs' (by subst hs'; exact hy))
      rw [hsl'] at hln hfc
      simp only [Builtin.lenOf, Sem.run_pure, Result.ok.injEq, and_true] at hln
      refine ran_pure g ?_ (.lit rfl) hd
      simp only [execOp, Sem.run_bind, hsl']
      rw [run_convert_bytes_string K.w s t e A l c hus hue hut]
      cases A with
      | none =>
        simp only [Builtin.firstCells, Sem.run_pure, Result.ok.injEq, and_true] at hfc
        have : ns = [] := by
          have h1 : news = [] := by have := congrArg Array.toList hfc; simpa using this.symm
          rw [h1] at hnews
          simpa using hnews.symm
        subst this
        rfl
      | some A =>
        simp only [Builtin.firstCells, Nat.mul_one, ← hln] at hfc
        rw [hnews] at hfc
        rw [run_bytesToString K.w A l c ns hfc]
        rfl
    split at hd
    · rename_i i n
      replace hd := bnd_eq hd
      obtain ⟨j, hj, hd⟩ := hd
      have hu := underlying_of_tint hj
      cases hxe : a.eval x <;> rw [hxe] at hx <;> first | (cases hx; done) | skip
      cases hx
      exact ran_pure g (by simp [execOp, hxe, convert, run_underlying hs, run_underlying hu, Conv.intToInt]) (.lit rfl) hd
    · rename_i str
      cases hxe : a.eval x <;> rw [hxe] at hx <;> first | (cases hx; done) | skip
      cases hx
      rcases cnd_eq hd with ⟨hst, hd⟩ | ⟨_, hd⟩
      · have hu := underlying_of_tstr hst
        exact ran_pure g (by simp [execOp, hxe, convert, run_underlying hs, run_underlying hu]) (.lit rfl) hd
      · obtain ⟨hu8, hd⟩ := (cnd_eq hd).resolve_right (fun h => by cases h.2)
        cases hd
        obtain ⟨e, hut, hue⟩ := tu8_spec hu8
        have hrun := Lib.run_convert_string_bytes (P := E.P) K.w s t e str hs hut hue
        have hge := grownCap_ge K.w str.size 0 e
        have hcs : (Lib.bytesCells K.w e str).size = grownCap K.w str.size 0 e := by
          have hss : str.data.size = str.size := rfl
          simp [Lib.bytesCells, hss]; omega
        have hR := bytes_rows str (K.clo true)
        have hlen : (byteCells str).length = str.size := by simp [byteCells]
        obtain ⟨K', hw, hle, hg, hN, hβ⟩ := g.pushG hk (x := ⟨false, true, 1, byteCells str⟩) (Lib.bytesCells K.w e str) e (Lib.bytesCells K.w e str).size ((Lib.bytesCells K.w e str).size + 1) (Lib.bytesWorld K.w e str) (Lib.bytesWorld_size _ _ _) (fun q hq => Lib.bytesWorld_at_old K.w e str q hq) (Lib.bytesWorld_at_new K.w e str) (fun j hj hh => by omega) ⟨rfl, rfl, rfl⟩ hR.s hR.o (by simp only [hlen, Nat.mul_one, hcs]; exact hge) (fun i j v y hv hy => by
          refine hR.cs (rest := Array.replicate (grownCap K.w str.size 0 e - str.size) (.int .u8 0)) i j v y hv ?_
          replace hy : (Lib.bytesCells K.w e str)[i * 1 + j]? = some y := hy
          rw [← hy]
          congr 1
          unfold Lib.bytesCells
          congr 1
          apply Array.ext'
          simp)
        refine ran_new (b := ⟨false, true, 1, byteCells str⟩) (up := []) (K' := K') (x := .slice (some ⟨K.w.heap.size, 0, none⟩) str.size (grownCap K.w str.size 0 e)) ?_ hle hg ?_ rfl
        · rw [hw]; simp only [execOp, Sem.run_bind, hxe, hrun]; rfl
        · have := VR.ref (K := K') (sz := 1) (off := 0) (len := str.size) hN hβ hge (by rw [hcs]; simp)
          simpa using this
    · rename_i hno1 hno2
      exact bytes _ hx (fun s' hs' _ => hno2 s' hs') hd
  case slice t x lo hi mx =>
    have hop : ∀ (z : Option Operand) (q : Option V), (match z with | none => some none | some l => bnd (opd tm l) fun q => some (some q)) = some q → (∀ v, q = some v → ∃ x, z.map a.eval = some x ∧ VR K v x) ∧ (q = none → z.map a.eval = none) := fun z q hz => by
        cases z with
        | none => cases hz; exact ⟨fun _ h => (by cases h), fun _ => rfl⟩
        | some z =>
          obtain ⟨w, hw, hz⟩ := bnd_eq hz
          cases hz
          exact ⟨fun _ h => (by cases h; exact ⟨_, rfl, opd_sound hT hw⟩), fun h => (by cases h)⟩
    cases mx with
    | some m =>
      cases hi with
      | none => cases lo <;> cases hd
      | some hi =>
      replace hd := bnd_eq hd
      obtain ⟨v, hv, hd⟩ := hd
      replace hd := bnd_eq hd
      obtain ⟨l, hl, hd⟩ := hd
      replace hd := bnd_eq hd
      obtain ⟨u, hu, hd⟩ := hd
      replace hd := bnd_eq hd
      obtain ⟨m', hm, hd⟩ := hd
      replace hd := bnd_eq hd
      obtain ⟨r, hr, hd⟩ := hd
      cases hd
      obtain ⟨h1, h2⟩ := hop lo l hl
      obtain ⟨hr0, y, hy⟩ := sliceM_sound (P := E.P) (opd_sound hT hv) hr h1 h2 (opd_sound hT hu) (opd_sound hT hm)
      subst hr0
      refine ⟨K, .value y, y, ?_, .inl rfl, Le.refl K, g.mono_U fun b h => .inl h, fun v hv => by cases hv⟩
      simp only [execOp, Sem.run_bind, Option.map_some]
      rw [hy]; rfl
    | none =>
      replace hd := bnd_eq hd
      obtain ⟨v, hv, hd⟩ := hd
      replace hd := bnd_eq hd
      obtain ⟨l, hl, hd⟩ := hd
      replace hd := bnd_eq hd
      obtain ⟨u, hu, hd⟩ := hd
      replace hd := bnd_eq hd
      obtain ⟨r, hr, hd⟩ := hd
      obtain ⟨h1, h2⟩ := hop lo l hl
      obtain ⟨h3, h4⟩ := hop hi u hu
      have key : ∃ y, (Instr.sliceAt t (a.eval x) (lo.map a.eval) (hi.map a.eval) none).run E.P K.w = .ok y K.w ∧ VR K r y := by
        unfold orE at hr
        split at hr
        · rename_i hs; cases hr; exact slice_sound (P := E.P) (opd_sound hT hv) hs h1 h2 h3 h4
        · exact sliceW_sound (P := E.P) g (opd_sound hT hv) hr h1 h2 h3 h4
      obtain ⟨y, hy, hyv⟩ := key
      exact ran_pure g (by simp only [execOp, Sem.run_bind, Option.map_none]; rw [hy]; rfl) hyv hd
  case fieldAddr t x f =>
    replace hd := bnd_eq hd
    obtain ⟨v, hv, hd⟩ := hd
    replace hd := bnd_eq hd
    obtain ⟨q, hq, hd⟩ := hd
    replace hd := grd_eq hd
    obtain ⟨hz, hd⟩ := hd
    have hx := opd_sound hT hv
    cases v <;> first | (cases hd; done) | skip
    · cases hxe : a.eval x <;> rw [hxe] at hx <;> first | (cases hx; done) | skip
      cases hx with
      | ptr hN hβ => exact ran_pure g (by simp only [execOp, Sem.run_bind, hxe]; rw [run_fieldAt' hq hz]; rfl) (by rw [Nat.add_assoc]; exact .ptr hN hβ) hd
    · cases hxe : a.eval x <;> rw [hxe] at hx <;> first | (cases hx; done) | skip
      cases hx with
      | cel hS hsz h1 hc hr => exact ran_pure g (by simp only [execOp, Sem.run_bind, hxe]; rw [run_fieldAt' hq hz]; rfl) (by rw [Nat.add_assoc]; exact .cel hS hsz h1 hc hr) hd
  case field t x f =>
    replace hd := bnd_eq hd
    obtain ⟨v, hv, hd⟩ := hd
    have hx := opd_sound hT hv
    cases v <;> first | (cases hd; done) | skip
    rename_i cs
    replace hd := bnd_eq hd
    obtain ⟨⟨qo, qt⟩, hq, hd⟩ := hd
    replace hd := bnd_eq hd
    obtain ⟨ag, hag, hd⟩ := hd
    replace hd := grd_eq hd
    obtain ⟨hle, hd⟩ := hd
    replace hd := bnd_eq hd
    obtain ⟨r, hr, hd⟩ := hd
    obtain ⟨fs, fd, hu, hf, hqe⟩ := tfld_spec hq
    injection hqe with hqe1 hqe2
    subst hqe1; subst hqe2
    dsimp only at hag hle hr
    cases hxe : a.eval x <;> rw [hxe] at hx <;> first | (cases hx; done) | skip
    rename_i xs
    cases hx with
    | agg hl hc =>
      have hvl : VRl K cs xs.toList := ⟨hl, hc⟩
      have hsub := (hvl.drop fd.offset).take (tsz E.P fd.type)
      have hrun := run_part (P := E.P) hag xs fd.offset K.w
      rcases mkV_sound hr hsub with ⟨rfl, hy⟩ | ⟨rfl, y, hy, hyv⟩
      · refine ran_pure (x := .agg (xs.extract fd.offset (fd.offset + tsz E.P fd.type))) g ?_ ?_ hd
        · simp only [execOp, Sem.run_bind, hxe, Instr.field, run_underlying hu, Result.andThen_ok, hf, asAgg, Sem.run_pure, hrun, if_true]
        · have : (xs.extract fd.offset (fd.offset + tsz E.P fd.type)) = (List.take (tsz E.P fd.type) (List.drop fd.offset xs.toList)).toArray := by
            apply Array.ext'; simp
          rw [this]; exact hy
      · refine ran_pure (x := y) g ?_ hyv hd
        have h0 : xs[fd.offset]? = some y := by
          have h0 : ((xs.toList.drop fd.offset).take (tsz E.P fd.type))[0]? = some y := by rw [hy]; rfl
          rw [List.getElem?_take] at h0
          split at h0
          · rw [List.getElem?_drop] at h0; simpa using h0
          · cases h0
        simp only [execOp, Sem.run_bind, hxe, Instr.field, run_underlying hu, Result.andThen_ok, hf, asAgg, Sem.run_pure, hrun, Bool.false_eq_true, if_false, h0]
  case indexAddr t x i =>
    replace hd := bnd_eq hd
    obtain ⟨v, hv, hd⟩ := hd
    replace hd := bnd_eq hd
    obtain ⟨j, hj, hd⟩ := hd
    have hi := opd_sound hT hj
    cases j <;> first | (cases hd; done) | skip
    rename_i j
    cases j <;> first | (cases hd; done) | skip
    rename_i kk n
    replace hd := bnd_eq hd
    obtain ⟨r, hr, hd⟩ := hd
    cases hie : a.eval i <;> rw [hie] at hi <;> first | (cases hi; done) | skip
    cases hi
    obtain ⟨y, hy, hyv⟩ := idx_sound (P := E.P) (kk := kk) (opd_sound hT hv) hr
    exact ran_pure g (by simp only [execOp, Sem.run_bind, hie, hy]; rfl) hyv hd
  case index t x i =>
    replace hd := bnd_eq hd
    obtain ⟨v, hv, hd⟩ := hd
    replace hd := bnd_eq hd
    obtain ⟨j, hj, hd⟩ := hd
    have hx := opd_sound hT hv
    have hi := opd_sound hT hj
    cases v <;> first | (cases hd; done) | skip
    rename_i v
    cases v <;> first | (cases hd; done) | skip
    rename_i s
    cases j <;> first | (cases hd; done) | skip
    rename_i j
    cases j <;> first | (cases hd; done) | skip
    rename_i kk n
    replace hd := (cnd_eq hd).resolve_right (fun h => by cases h.2)
    obtain ⟨hst, hd⟩ := hd
    replace hd := grd_eq hd
    obtain ⟨hb, hd⟩ := hd
    have hu := underlying_of_tstr hst
    cases hie : a.eval i <;> rw [hie] at hi <;> first | (cases hi; done) | skip
    cases hi
    cases hxe : a.eval x <;> rw [hxe] at hx <;> first | (cases hx; done) | skip
    cases hx
    have hn : n.toNat < s.size := by omega
    refine ran_pure g ?_ (.lit rfl) hd
    simp only [execOp, Sem.run_bind, hxe, hie]
    rw [run_index_string K.w t s kk n hu, dif_pos hb, ByteArray.getElem?_lt' s _ hn]
    rfl
  case extract x i =>
    replace hd := bnd_eq hd
    obtain ⟨v, hv, hd⟩ := hd
    have hx := opd_sound hT hv
    cases v <;> first | (cases hd; done) | skip
    rename_i vs
    replace hd := bnd_eq hd
    obtain ⟨r, hr, hd⟩ := hd
    cases hxe : a.eval x <;> rw [hxe] at hx <;> first | (cases hx; done) | skip
    rename_i xs
    cases hx with
    | tup hl hc =>
      have hlt := get_lt hr
      have hlt2 : i < xs.size := by rw [hl] at hlt; simpa using hlt
      refine ran_pure (x := xs[i]) g ?_ (hc i r _ hr (by simp [hlt2])) hd
      simp [execOp, hxe, Instr.extract, hlt2]
  case makeFunc fn first caps =>
    cases fn <;> first | (cases hd; done) | skip
    rename_i f
    cases he : first.isEmpty with
    | false => simp [evOp, he] at hd
    | true =>
      simp only [evOp, he, cond_true] at hd
      replace hd := bnd_eq hd
      obtain ⟨vs, hvs, hd⟩ := hd
      have hc := opds_sound hT hvs
      have hf : first = #[] := by simpa using he
      subst hf
      refine ran_pure (x := .func (.func f) #[] (caps.map a.eval)) g ?_ ?_ hd
      · simp [execOp, Instr.makeFunc]
      · rw [← Array.toList_map] at hc
        exact .fn hc.1 hc.2
  case call c =>
    obtain ⟨callee, args, argTypes⟩ := c
    cases callee with
    | value f => exact absurd rfl (hcall _ f rfl)
    | invoke r m => cases hd
    | builtin b =>
      have hexec : ∀ f : Sem Value, (∀ consts, builtin b argTypes ty consts (args.map a.eval) = (do pure (.value (← f)))) → execOp a.eval ⟨dst, .call ⟨.builtin b, args, argTypes⟩, ty, pos, after, guard⟩ = (do pure (.value (← f))) := fun f hf => by
        simp only [execOp, resolve, pure_bind, invoke, hf]
      have hargs : ∀ vs, opds tm args.toList = some vs → VRl K vs (args.map a.eval).toList := fun vs hvs => by
        rw [Array.toList_map]; exact opds_sound hT hvs
      cases b <;> first | (cases hd; done) | skip
      case append =>
        replace hd := bnd_eq hd
        obtain ⟨vs, hvs, hd⟩ := hd
        have hv := hargs vs hvs
        split at hd
        · rename_i x y
          split at hd
          · rename_i t u hat
            replace hd := (cnd_eq hd).resolve_right (fun h => by cases h.2)
            obtain ⟨hu, hd⟩ := hd
            obtain ⟨X, r1, hX, hvx, hv1⟩ := hv.inv
            obtain ⟨Y, r2, rfl, hvy, hv2⟩ := hv1.inv
            have := hv2.inv0
            subst this
            have hXY : args.map a.eval = #[X, Y] := by apply Array.ext'; rw [hX]
            have hAT : argTypes = #[t, u] := by apply Array.ext'; rw [hat]
            replace hd := cnd_eq hd
            rcases hd with ⟨_, hd⟩ | ⟨_, hd⟩
            · obtain ⟨K', z, hr, hle, hg, hnb, hz⟩ := appendW_sound (P := E.P) (ty := ty) g hu hvx hvy hd
              refine ⟨K', .value z, z, ?_, .inl rfl, hle, ?_, hz⟩
              · rw [hexec _ (fun consts => rfl), Sem.run_bind, hXY, hAT, hr]
                rfl
              · rw [hnb]
                exact hg.mono_U fun b h => .inl h
            obtain ⟨K', z, hr, hle, hg, hz⟩ := append_sound (P := E.P) (ty := ty) g hk hu hvx hvy hd
            refine ⟨K', .value z, z, ?_, .inl rfl, hle, hg.mono_U fun b h => h.imp id (fun e => by subst e; exact ⟨Nat.le_refl _, by unfold maxNew; omega⟩), hz⟩
            rw [hexec _ (fun consts => rfl), Sem.run_bind, hXY, hAT, hr]
            rfl
          · cases hd
        · cases hd
      case clear =>
        replace hd := bnd_eq hd
        obtain ⟨vs, hvs, hd⟩ := hd
        have hv := hargs vs hvs
        split at hd
        · rename_i x
          split at hd
          · rename_i t hat
            obtain ⟨X, r1, hX, hvx, hv1⟩ := hv.inv
            have := hv1.inv0
            subst this
            have hXY : args.map a.eval = #[X] := by apply Array.ext'; rw [hX]
            have hAT : argTypes = #[t] := by apply Array.ext'; rw [hat]
            obtain ⟨K', hr, hle, hg, hnb, hz⟩ := clear_sound (P := E.P) (ty := ty) g hvx hd
            refine ⟨K', .value (.tuple #[]), .tuple #[], ?_, .inl rfl, hle, ?_, fun v hv => by rw [hz] at hv; cases hv⟩
            · rw [hexec _ (fun consts => rfl), Sem.run_bind, hXY, hAT, hr]
              rfl
            · rw [hnb]
              exact hg.mono_U fun b h => .inl h
          · cases hd
        · cases hd
      case copy =>
        replace hd := bnd_eq hd
        obtain ⟨vs, hvs, hd⟩ := hd
        have hv := hargs vs hvs
        split at hd
        · rename_i x y
          split at hd
          · rename_i t u hat
            obtain ⟨X, r1, hX, hvx, hv1⟩ := hv.inv
            obtain ⟨Y, r2, rfl, hvy, hv2⟩ := hv1.inv
            have := hv2.inv0
            subst this
            have hXY : args.map a.eval = #[X, Y] := by apply Array.ext'; rw [hX]
            have hAT : argTypes = #[t, u] := by apply Array.ext'; rw [hat]
            obtain ⟨K', z, hr, hle, hg, hnb, hz⟩ := copy_sound (P := E.P) (u := u) (ty := ty) g hvx hvy hd
            refine ⟨K', .value z, z, ?_, .inl rfl, hle, ?_, hz⟩
            · rw [hexec _ (fun consts => rfl), Sem.run_bind, hXY, hAT, hr]
              rfl
            · rw [hnb]
              exact hg.mono_U fun b h => .inl h
          · cases hd
        · cases hd
      case len =>
        replace hd := bnd_eq hd
        obtain ⟨vs, hvs, hd⟩ := hd
        have hv := hargs vs hvs
        split at hd
        · rename_i x
          split at hd
          · rename_i t hat
            replace hd := bnd_eq hd
            obtain ⟨n, hn, hd⟩ := hd
            obtain ⟨X, r1, hX, hvx, hv1⟩ := hv.inv
            have := hv1.inv0
            subst this
            have hXY : args.map a.eval = #[X] := by apply Array.ext'; rw [hX]
            have hAT : argTypes = #[t] := by apply Array.ext'; rw [hat]
            refine ran_pure g ?_ (.lit rfl) hd
            rw [hexec _ (fun consts => rfl), Sem.run_bind, hXY, hAT]
            unfold lenV at hn
            split at hn
            · replace hn := (cnd_eq hn).resolve_right (fun h => by cases h.2)
              obtain ⟨hst, hn⟩ := hn
              cases hn
              cases hvx
              simp [Builtin.len_, run_underlying (underlying_of_tstr hst), goInt]
            · replace hn := bnd_eq hn
              obtain ⟨e, he, hn⟩ := hn
              cases hn
              cases hvx
              simp [Builtin.len_, run_underlying (underlying_of_telem he), goInt]
            · replace hn := bnd_eq hn
              obtain ⟨e, he, hn⟩ := hn
              cases hn
              cases hvx <;> simp [Builtin.len_, run_underlying (underlying_of_telem he), goInt]
            · replace hn := bnd_eq hn
              obtain ⟨e, he, hn⟩ := hn
              cases hn
              cases hvx <;> simp [Builtin.len_, run_underlying (underlying_of_telem he), goInt]
            · cases hn
          · cases hd
        · cases hd
      case max =>
        replace hd := bnd_eq hd
        obtain ⟨vs, hvs, hd⟩ := hd
        have hv := hargs vs hvs
        split at hd
        · rename_i i x j y
          obtain ⟨r, hX, hv1⟩ := hv.lit1
          obtain ⟨r2, rfl, hv2⟩ := hv1.lit1
          have := hv2.inv0
          subst this
          have hXY : args.map a.eval = #[.int i x, .int j y] := by apply Array.ext'; rw [hX]
          refine ran_pure g ?_ (.lit rfl) hd
          rw [hexec _ (fun consts => rfl), Sem.run_bind, hXY, run_max_int2]
          rfl
        · cases hd
      case min =>
        replace hd := bnd_eq hd
        obtain ⟨vs, hvs, hd⟩ := hd
        have hv := hargs vs hvs
        split at hd
        · rename_i i x j y
          obtain ⟨r, hX, hv1⟩ := hv.lit1
          obtain ⟨r2, rfl, hv2⟩ := hv1.lit1
          have := hv2.inv0
          subst this
          have hXY : args.map a.eval = #[.int i x, .int j y] := by apply Array.ext'; rw [hX]
          refine ran_pure g ?_ (.lit rfl) hd
          rw [hexec _ (fun consts => rfl), Sem.run_bind, hXY, run_min_int2]
          rfl
        · cases hd
end
end Go.Ev
end

section
set_option linter.unusedVariables false
set_option linter.unusedSimpArgs false
set_option linter.unnecessarySimpa false
namespace Go.Ev
open Go

/-! ## Other numbers -/
theorem renL_spec {f : Nat → Option Nat} : ∀ {cs l : List V}, V.ren.L f cs = some l → l.length = cs.length ∧ ∀ (j : Nat) (v' : V), l[j]? = some v' → ∃ v, cs[j]? = some v ∧ v.ren f = some v'
  | [], l, h => by
    unfold V.ren.L at h; cases h
    exact ⟨rfl, fun j v' h => by simp at h⟩
  | c :: r, l, h => by
    unfold V.ren.L at h
    obtain ⟨w, hw, h⟩ := bnd_eq h
    obtain ⟨l', hl, h⟩ := bnd_eq h
    cases h
    obtain ⟨h1, h2⟩ := renL_spec hl
    refine ⟨by simp [h1], fun j v' hj => ?_⟩
    cases j with
    | zero => simp at hj; subst hj; exact ⟨c, rfl, hw⟩
    | succ j => simp at hj; obtain ⟨v, h3, h4⟩ := h2 j v' hj; exact ⟨v, by simpa using h3, h4⟩
theorem nocL_get : ∀ {cs : List V} {j : Nat} {v : V}, V.noc.L cs = true → cs[j]? = some v → v.noc = true
  | [], j, v, _, h => by simp at h
  | c :: r, j, v, hn, h => by
    unfold V.noc.L at hn
    simp only [Bool.and_eq_true] at hn
    cases j with
    | zero => simp at h; subst h; exact hn.1
    | succ j => simp at h; exact nocL_get hn.2 h

/-- The same value under other numbers (c: nothing of S is asked where no slice of others is inside). -/
theorem VR.ren {K K' : Cx} {f : Nat → Option Nat} (hN : ∀ b c, K.N b → f b = some c → K'.N c ∧ K'.β c = K.β b) (hw : ∀ q o, K.S q → K'.w.cell? ⟨q, o, none⟩ = K.w.cell? ⟨q, o, none⟩) {v v' : V} {x : Value} (hv : VR K v x) (hr : v.ren f = some v')
    (hS : v.noc = true ∨ ∀ q, K.S q → K'.S q) : VR K' v' x := by
  induction hv generalizing v' with
  | lit h => unfold V.ren at hr; cases hr; exact .lit h
  | con0 hz => unfold V.ren at hr; cases hr; exact .con0 hz
  | emp => unfold V.ren at hr; cases hr; exact .emp
  | con hp hcap hSb hsz h1 hc hrr ih =>
    unfold V.ren at hr; cases hr
    rcases hS with hS | hS
    · unfold V.noc at hS; cases hS
    · exact .con hp hcap (hS _ hSb) hsz h1 (fun i j v hv => by rw [hw _ _ hSb]; exact hc i j v hv) (fun i j v x hv hx => (hrr i j v x hv (by rw [← hw _ _ hSb]; exact hx)).mono ⟨fun q hq => ⟨hq.1, hS q hq.2⟩, fun _ h => h.elim, fun _ h => h.elim, fun q o hq => hw q o hq.2⟩)
  | refE hb hE =>
    unfold V.ren at hr
    obtain ⟨c, hc, hr⟩ := bnd_eq hr
    cases hr
    exact .refE (hN _ _ hb hc).1 (by rw [(hN _ _ hb hc).2]; exact hE)
  | ref hb hβ hl hn =>
    unfold V.ren at hr
    obtain ⟨c, hc, hr⟩ := bnd_eq hr
    cases hr
    obtain ⟨h1, h2⟩ := hN _ _ hb hc
    exact .ref h1 (h2.trans hβ) hl hn
  | ptr hb hβ =>
    unfold V.ren at hr
    obtain ⟨c, hc, hr⟩ := bnd_eq hr
    cases hr
    obtain ⟨h1, h2⟩ := hN _ _ hb hc
    exact .ptr h1 (h2.trans hβ)
  | cel => unfold V.ren at hr; cases hr
  | agg hl h ih =>
    unfold V.ren at hr
    obtain ⟨l, hl', hr⟩ := bnd_eq hr
    cases hr
    obtain ⟨h1, h2⟩ := renL_spec hl'
    refine .agg (by rw [h1, hl]) fun j v' x hv' hx => ?_
    obtain ⟨v, h3, h4⟩ := h2 j v' hv'
    exact ih j v x h3 hx hN hw h4 (hS.imp (fun hS => by unfold V.noc at hS; exact nocL_get hS h3) id)
  | tup hl h ih =>
    unfold V.ren at hr
    obtain ⟨l, hl', hr⟩ := bnd_eq hr
    cases hr
    obtain ⟨h1, h2⟩ := renL_spec hl'
    refine .tup (by rw [h1, hl]) fun j v' x hv' hx => ?_
    obtain ⟨v, h3, h4⟩ := h2 j v' hv'
    exact ih j v x h3 hx hN hw h4 (hS.imp (fun hS => by unfold V.noc at hS; exact nocL_get hS h3) id)
  | fn hl h ih =>
    unfold V.ren at hr
    obtain ⟨l, hl', hr⟩ := bnd_eq hr
    cases hr
    obtain ⟨h1, h2⟩ := renL_spec hl'
    refine .fn (by rw [h1, hl]) fun j v' x hv' hx => ?_
    obtain ⟨v, h3, h4⟩ := h2 j v' hv'
    exact ih j v x h3 hx hN hw h4 (hS.imp (fun hS => by unfold V.noc at hS; exact nocL_get hS h3) id)

theorem one_ren {f : Nat → Option Nat} {v v' : V} (h : v.ren f = some v') (h1 : v.one = true) : v'.one = true := by
  cases v <;> unfold V.ren at h <;> first
    | (cases h; done)
    | (cases h; exact h1)
    | (obtain ⟨c, _, h⟩ := bnd_eq h; cases h; first | rfl | exact h1)
theorem ones_ren {f : Nat → Option Nat} : ∀ {cs l : List V}, V.ren.L f cs = some l → ones cs = true → ones l = true
  | [], l, h, _ => by unfold V.ren.L at h; cases h; rfl
  | c :: r, l, h, h1 => by
    unfold V.ren.L at h
    obtain ⟨w, hw, h⟩ := bnd_eq h
    obtain ⟨l', hl, h⟩ := bnd_eq h
    cases h
    simp only [ones, Bool.and_eq_true] at h1 ⊢
    exact ⟨one_ren hw h1.1, ones_ren hl h1.2⟩

/-- A block under other numbers. -/
theorem BR.ren {K K' : Cx} {f : Nat → Option Nat} (hN : ∀ b c, K.N b → f b = some c → K'.N c ∧ K'.β c = K.β b) (hw : ∀ q o, K.S q → K'.w.cell? ⟨q, o, none⟩ = K.w.cell? ⟨q, o, none⟩) {b b' : Blk} {z : Option (Nat × Nat)} (hb : BR K b z) (hr : b.ren f = some b')
    (hS : b.noc = true ∨ ∀ q, K.S q → K'.S q) (hq : ∀ q n, z = some (q, n) → K'.w.heap[q]? = K.w.heap[q]?) : BR K' b' z := by
  unfold Blk.ren at hr
  cases hbox : b.box with
  | true =>
    rw [hbox, if_pos rfl] at hr
    split at hr
    · rename_i cs hes
      obtain ⟨l, hl, hr⟩ := bnd_eq hr
      cases hr
      cases z with
      | none => rw [hb.2] at hbox; cases hbox
      | some z =>
        obtain ⟨q, n⟩ := z
        obtain ⟨cs0, e, lo, hi, hb⟩ := hb
        obtain ⟨h1, h2⟩ := renL_spec hl
        have hkk : ∀ K : Cx, b.K K = K := fun K => by unfold Blk.K; rw [hbox]; rfl
        refine ⟨cs0, e, lo, hi, { hw := by rw [hq q n rfl]; exact hb.hw, hn := hb.hn, hf := hb.hf, hs := fun c hc => ?_, h1 := fun c hc => ?_, hl := ?_, hv := fun i j v' x hv' hx => ?_ }⟩
        · have hc : c = l := by simpa using hc
          rw [hc, h1]; exact hb.hs cs (by rw [hes]; simp)
        · have hc : c = l := by simpa using hc
          rw [hc]; exact ones_ren hl (hb.h1 cs (by rw [hes]; simp))
        · have := hb.hl; rw [hes] at this; simpa using this
        · obtain ⟨rfl, h3⟩ := at2_one hv'
          obtain ⟨v, h4, h5⟩ := h2 j v' h3
          have h6 := hb.hv 0 j v x (by rw [hes]; exact at2_of rfl h4) hx
          rw [hkk] at h6
          have : ∀ bb : Blk, bb.box = true → Blk.K K' bb = K' := fun bb h => by unfold Blk.K; rw [if_pos h]
          rw [this _ (by first | exact hbox | rfl)]
          refine h6.ren hN hw h5 (hS.imp (fun hS => ?_) id)
          unfold Blk.noc at hS
          rw [hbox, if_pos rfl, hes] at hS
          exact nocL_get hS h4
    · cases hr
  | false =>
    rw [hbox, if_neg (by simp)] at hr
    cases hr
    cases z with
    | none => exact hb
    | some z =>
      obtain ⟨q, n⟩ := z
      obtain ⟨cs0, e, lo, hi, hb⟩ := hb
      refine ⟨cs0, e, lo, hi, { hb with hw := by rw [hq q n rfl]; exact hb.hw, hv := fun i j v x hv hx => ?_ }⟩
      have h6 := hb.hv i j v x hv hx
      rw [Blk.K_slice hbox] at h6 ⊢
      refine h6.mono ⟨fun q hq => ⟨hq.1, ?_⟩, fun _ h => h.elim, fun _ h => h.elim, fun q o hq => hw q o hq.2⟩
      rcases hS with hS | hS
      · unfold Blk.noc at hS
        rw [hbox, if_neg (by simp)] at hS
        exact absurd hq.1 (by rw [hS]; simp)
      · exact hS q hq.2

theorem BR.lt {K : Cx} {b : Blk} {q n : Nat} (h : BR K b (some (q, n))) : q < K.w.heap.size := by
  obtain ⟨_, _, _, _, hb⟩ := h
  exact hb.lt

/-- Fewer blocks. -/
theorem Good.sub {B : Bs} {U : Nat → Prop} {K : Cx} {h h' : Nat → Option Blk} (g : Good B U K h) (hk : ∀ c x, h' c = some x → h c = some x) : Good B U K h' :=
  { g with
    blk := fun c x hx => g.blk c x (hk c x hx)
    inj := fun c x c' x' q n n' h1 h2 => g.inj c x c' x' q n n' (hk _ _ h1) (hk _ _ h2)
    apart := fun c x q n h1 => g.apart c x q n (hk _ _ h1)
    own := fun c x q n h1 => g.own c x q n (hk _ _ h1) }

/-- The world changes, but at blocks that are given away (Q) alone; some blocks are known to stay as0 they are from now on. -/
theorem Good.away {B : Bs} {U : Nat → Prop} {K : Cx} {h : Nat → Option Blk} (g : Good B U K h) {w' : World} {Q S' : Nat → Prop} (hs : K.w.heap.size ≤ w'.heap.size) (hh : ∀ q, q < K.w.heap.size → ¬ Q q → w'.heap[q]? = K.w.heap[q]?)
    (hQ : ∀ q, Q q → ¬ K.S q ∧ (B.own q ∨ B.w0.heap.size ≤ q) ∧ ∀ b x n, h b = some x → K.β b ≠ some (q, n))
    (hio : Io K.w w') (hS : ∀ q, K.S q → S' q) (hS' : ∀ q, S' q → K.S q ∨ (q < w'.heap.size ∧ (B.own q ∨ B.w0.heap.size ≤ q) ∧ ∀ b x n, h b = some x → K.β b ≠ some (q, n))) :
    Le K { K with w := w', S := S' } ∧ Good B U { K with w := w', S := S' } h := by
  have hSame : ∀ q, K.S q → w'.heap[q]? = K.w.heap[q]? := fun q hq => hh q (g.sz q hq) fun h => (hQ q h).1 hq
  have hle : Le K { K with w := w', S := S' } := ⟨hS, fun _ h => h, fun _ _ => rfl, fun q o hq => cell_congr (hSame q hq) o⟩
  refine ⟨hle, { g with
    blk := fun b x hx => ⟨(g.blk b x hx).1, (g.blk b x hx).2.mono hle fun q n hz => ?_⟩
    apart := fun b x q n hb hβ h1 => ?_
    sz := fun q hq => ?_
    grow := Nat.le_trans g.grow hs
    io := g.io.trans hio
    frame := fun q hq hn => ?_
    S0 := fun q hq => hS q (g.S0 q hq)
    S1 := fun q hq => ?_ }⟩
  · have := (g.blk b x hx).2
    rw [hz] at this
    exact hh q this.lt fun h => (hQ q h).2.2 b x n hx hz
  · rcases hS' q h1 with h2 | h2
    · exact g.apart b x q n hb hβ h2
    · exact h2.2.2 b x n hb hβ
  · rcases hS' q hq with h2 | h2
    · exact Nat.lt_of_lt_of_le (g.sz q h2) hs
    · exact h2.1
  · show w'.heap[q]? = _
    rw [hh q (Nat.lt_of_lt_of_le hq g.grow) fun h => ?_]
    · exact g.frame q hq hn
    · rcases (hQ q h).2.1 with h2 | h2
      · exact hn h2
      · omega
  · rcases hS' q hq with h2 | h2
    · exact g.S1 q h2
    · exact h2.2.1.elim (fun h => .inr (.inl h)) (fun h => .inr (.inr h))

/-- Blocks of a callee come in under new numbers. -/
theorem Good.merge {B : Bs} {U U' : Nat → Prop} {K Kc : Cx} {h h' hc : Nat → Option Blk} (g : Good B U K h) (hw : Kc.w = K.w) (f inv : Nat → Option Nat) (hinv : ∀ b c, Kc.N b → f b = some c → inv c = some b) (hinv' : ∀ c b, inv c = some b → Kc.N b ∧ f b = some c)
    (hcb : ∀ b x, hc b = some x → Kc.N b ∧ BR Kc x (Kc.β b)) (hci : ∀ b x b' x' q n n', hc b = some x → hc b' = some x' → Kc.β b = some (q, n) → Kc.β b' = some (q, n') → b = b')
    (hca : ∀ b x q n, hc b = some x → Kc.β b = some (q, n) → ¬ K.S q ∧ (B.own q ∨ B.w0.heap.size ≤ q) ∧ ∀ b' x' n', h b' = some x' → K.β b' ≠ some (q, n'))
    (hS : (∀ b x, hc b = some x → x.noc = true) ∨ ∀ q, Kc.S q → K.S q)
    (hold : ∀ c b, inv c = some b → (¬ K.N c) ∨ K.β c = Kc.β b) (hU : ∀ b, U b → U' b) (hU' : ∀ c b, inv c = some b → U' c)
    (hh' : ∀ c x, h' c = some x → (h c = some x ∧ inv c = none) ∨ ∃ b x0, inv c = some b ∧ hc b = some x0 ∧ x0.ren f = some x) :
    ∃ K' : Cx, K'.w = K.w ∧ K'.S = K.S ∧ Le K K' ∧ Good B U' K' h' ∧ (∀ b c, Kc.N b → f b = some c → K'.N c ∧ K'.β c = Kc.β b) := by
  let K' : Cx := { K with β := fun c => match inv c with | some b => Kc.β b | none => K.β c, N := fun c => K.N c ∨ ∃ b, inv c = some b }
  have hβo : ∀ c, inv c = none → K'.β c = K.β c := fun c h => by simp only [K', h]
  have hβn : ∀ c b, inv c = some b → K'.β c = Kc.β b := fun c b h => by simp only [K', h]
  have hN' : ∀ b c, Kc.N b → f b = some c → K'.N c ∧ K'.β c = Kc.β b := fun b c hb hf => by
    have := hinv b c hb hf
    exact ⟨.inr ⟨b, this⟩, hβn c b this⟩
  have hle : Le K K' := ⟨fun _ h => h, fun _ h => .inl h, fun c hN => by
    cases hi : inv c with
    | none => exact hβo c hi
    | some b =>
      rcases hold c b hi with h1 | h1
      · exact absurd hN h1
      · rw [hβn c b hi, h1], fun _ _ _ => rfl⟩
  refine ⟨K', rfl, rfl, hle, ?_, hN'⟩
  have split : ∀ c x, h' c = some x → (h c = some x ∧ K'.β c = K.β c) ∨ ∃ b x0, inv c = some b ∧ hc b = some x0 ∧ x0.ren f = some x ∧ K'.β c = Kc.β b := fun c x hx => by
    rcases hh' c x hx with ⟨h1, h2⟩ | ⟨b, x0, h1, h2, h3⟩
    · exact .inl ⟨h1, hβo c h2⟩
    · exact .inr ⟨b, x0, h1, h2, h3, hβn c b h1⟩
  exact {
    blk := fun c x hx => by
      rcases split c x hx with ⟨h1, h2⟩ | ⟨b, x0, h1, h2, h3, h4⟩
      · rw [h2]; exact ⟨.inl (g.blk c x h1).1, (g.blk c x h1).2.mono hle fun _ _ _ => rfl⟩
      · rw [h4]
        exact ⟨.inr ⟨b, h1⟩, (hcb b x0 h2).2.ren hN' (fun q o _ => by show K.w.cell? _ = _; rw [hw]) h3 (hS.imp (fun h => h b x0 h2) id) (fun q n _ => by show K.w.heap[q]? = _; rw [hw])⟩
    inj := fun c x c' x' q n n' h1 h2 h3 h4 => by
      rcases split c x h1 with ⟨a1, a2⟩ | ⟨b, x0, a1, a2, a3, a4⟩
      · rcases split c' x' h2 with ⟨b1, b2⟩ | ⟨b', x0', b1, b2, b3, b4⟩
        · rw [a2] at h3; rw [b2] at h4; exact g.inj c x c' x' q n n' a1 b1 h3 h4
        · rw [a2] at h3; rw [b4] at h4
          exact absurd h3 ((hca b' x0' q n' b2 h4).2.2 c x n a1)
      · rcases split c' x' h2 with ⟨b1, b2⟩ | ⟨b', x0', b1, b2, b3, b4⟩
        · rw [a4] at h3; rw [b2] at h4
          exact absurd h4 ((hca b x0 q n a2 h3).2.2 c' x' n' b1)
        · rw [a4] at h3; rw [b4] at h4
          have := hci b x0 b' x0' q n n' a2 b2 h3 h4
          subst this
          have e1 := (hinv' c b a1).2
          have e2 := (hinv' c' b b1).2
          rw [e1] at e2; exact Option.some.inj e2
    apart := fun c x q n h1 h2 => by
      rcases split c x h1 with ⟨a1, a2⟩ | ⟨b, x0, a1, a2, a3, a4⟩
      · rw [a2] at h2; exact g.apart c x q n a1 h2
      · rw [a4] at h2; exact (hca b x0 q n a2 h2).1
    sz := g.sz
    N := fun c hc => by
      rcases hc with hc | ⟨b, hb⟩
      · exact hU c (g.N c hc)
      · exact hU' c b hb
    grow := g.grow
    io := g.io
    frame := g.frame
    inp := fun b hb => ⟨.inl (g.inp b hb).1, by rw [hle.β b (g.inp b hb).1]; exact (g.inp b hb).2⟩
    own := fun c x q n h1 h2 => by
      rcases split c x h1 with ⟨a1, a2⟩ | ⟨b, x0, a1, a2, a3, a4⟩
      · rw [a2] at h2; exact g.own c x q n a1 h2
      · rw [a4] at h2; exact (hca b x0 q n a2 h2).2.1
    S0 := g.S0
    S1 := g.S1 }
end Go.Ev
end

section
set_option linter.unusedVariables false
set_option linter.unusedSimpArgs false
set_option linter.unnecessarySimpa false
namespace Go.Ev
open Go

theorem putN_get : ∀ (nb : List Blk) (h : Nat → Option Blk) (k c : Nat), putN h k nb c = if k ≤ c ∧ c < k + nb.length then nb[c - k]? else h c
  | [], h, k, c => by rw [putN, if_neg (by simp)]
  | b :: r, h, k, c => by
    rw [putN, putN_get r (set h k (some b)) (k + 1) c]
    simp only [List.length_cons]
    by_cases h1 : k + 1 ≤ c ∧ c < k + 1 + r.length
    · rw [if_pos h1, if_pos (by omega)]
      obtain ⟨d, hd⟩ : ∃ d, c - k = d + 1 := ⟨c - k - 1, by omega⟩
      rw [hd, List.getElem?_cons_succ]; congr 1; omega
    · rw [if_neg h1]
      by_cases h2 : c = k
      · subst h2; rw [set_same, if_pos (by omega), Nat.sub_self]; rfl
      · rw [set_ne h2, if_neg (by omega)]
theorem putU_dels : ∀ (l : List Nat) (h : Nat → Option Blk) (c : Nat), putU h (dels l) c = if c ∈ l then none else h c
  | [], h, c => by simp [dels, putU]
  | b :: r, h, c => by
    rw [dels, putU, putU_dels r]
    by_cases h1 : c ∈ r
    · rw [if_pos h1, if_pos (List.mem_cons_of_mem _ h1)]
    · rw [if_neg h1]
      by_cases h2 : c = b
      · subst h2; rw [set_same, if_pos (List.mem_cons_self ..)]
      · rw [set_ne h2, if_neg (by simp [h1, h2])]
theorem idx_spec : ∀ (l : List Nat) (b o i : Nat), idx b l o = some i → o ≤ i ∧ l[i - o]? = some b
  | [], b, o, i, h => by simp [idx] at h
  | x :: r, b, o, i, h => by
    unfold idx at h
    split at h
    · rename_i hx; cases h; subst hx; exact ⟨Nat.le_refl _, by simp⟩
    · obtain ⟨h1, h2⟩ := idx_spec r b (o + 1) i h
      refine ⟨by omega, ?_⟩
      obtain ⟨d, hd⟩ : ∃ d, i - o = d + 1 := ⟨i - o - 1, by omega⟩
      rw [hd, List.getElem?_cons_succ, ← h2]; congr 1; omega
theorem mem_spec : ∀ (l : List Nat) (b : Nat), mem b l = true ↔ b ∈ l
  | [], b => by simp [mem]
  | x :: r, b => by
    unfold mem
    split
    · rename_i h; simp [h]
    · rename_i h; rw [mem_spec r b]; simp [Ne.symm h]
theorem nodup_spec : ∀ (l : List Nat), nodup l = true → l.Nodup
  | [], _ => by simp
  | x :: r, h => by
    simp only [nodup, Bool.and_eq_true, Bool.not_eq_true'] at h
    refine List.nodup_cons.2 ⟨fun hm => ?_, nodup_spec r h.2⟩
    rw [(mem_spec r x).2 hm] at h
    cases h.1
theorem idx_of_mem : ∀ (l : List Nat) (b o : Nat), b ∈ l → ∃ i, idx b l o = some i
  | [], b, o, h => by cases h
  | x :: r, b, o, h => by
    unfold idx
    split
    · exact ⟨o, rfl⟩
    · rename_i hx
      cases h with
      | head => exact absurd rfl hx
      | tail _ h => exact idx_of_mem r b (o + 1) h
theorem nodup_get : ∀ {l : List Nat}, l.Nodup → ∀ {i j b : Nat}, l[i]? = some b → l[j]? = some b → i = j
  | [], _, i, j, b, hi, _ => by simp at hi
  | x :: r, h, i, j, b, hi, hj => by
    obtain ⟨h1, h2⟩ := List.nodup_cons.1 h
    cases i with
    | zero =>
      cases j with
      | zero => rfl
      | succ j =>
        simp at hi hj
        subst hi
        exact absurd (List.mem_of_getElem? hj) h1
    | succ i =>
      cases j with
      | zero =>
        simp at hi hj
        subst hj
        exact absurd (List.mem_of_getElem? hi) h1
      | succ j =>
        simp at hi hj
        rw [nodup_get h2 hi hj]
theorem idx_get {l : List Nat} (h : l.Nodup) {i b : Nat} (hi : l[i]? = some b) : idx b l 0 = some i := by
  obtain ⟨j, hj⟩ := idx_of_mem l b 0 (List.mem_of_getElem? hi)
  have := (idx_spec l b 0 j hj).2
  rw [Nat.sub_zero] at this
  rw [hj, nodup_get h this hi]

theorem renBs_spec {h : Nat → Option Blk} {f : Nat → Option Nat} : ∀ {l : List Nat} {hs : List (Option Blk)}, renBs h f l = some hs → hs.length = l.length ∧ ∀ (i : Nat) (x : Blk), hs[i]? = some (some x) → ∃ b x0, l[i]? = some b ∧ h b = some x0 ∧ x0.ren f = some x
  | [], hs, hr => by cases hr; exact ⟨rfl, fun i x h => by simp at h⟩
  | b :: r, hs, hr => by
    unfold renBs at hr
    obtain ⟨y, hy, hr⟩ := bnd_eq hr
    obtain ⟨l', hl, hr⟩ := bnd_eq hr
    cases hr
    obtain ⟨h1, h2⟩ := renBs_spec hl
    refine ⟨by simp [h1], fun i x hx => ?_⟩
    cases i with
    | zero =>
      simp at hx
      subst hx
      split at hy
      · rename_i blk hb
        obtain ⟨c, hc, hy⟩ := bnd_eq hy
        cases hy
        exact ⟨b, blk, rfl, hb, hc⟩
      · cases hy
    | succ i => simp at hx; obtain ⟨b', x0, h3, h4, h5⟩ := h2 i x hx; exact ⟨b', x0, by simpa using h3, h4, h5⟩
theorem renBs_none {h : Nat → Option Blk} {f : Nat → Option Nat} : ∀ {l : List Nat} {hs : List (Option Blk)}, renBs h f l = some hs → ∀ (i b : Nat) (x0 : Blk), l[i]? = some b → h b = some x0 → ∃ x, hs[i]? = some (some x) ∧ x0.ren f = some x
  | [], hs, hr, i, b, x0, h1, _ => by simp at h1
  | b0 :: r, hs, hr, i, b, x0, h1, h2 => by
    unfold renBs at hr
    obtain ⟨y, hy, hr⟩ := bnd_eq hr
    obtain ⟨l', hl, hr⟩ := bnd_eq hr
    cases hr
    cases i with
    | zero =>
      simp at h1; subst h1
      rw [h2] at hy
      obtain ⟨c, hc, hy⟩ := bnd_eq hy
      cases hy
      exact ⟨c, by simp, hc⟩
    | succ i => simp at h1; obtain ⟨x, h3, h4⟩ := renBs_none hl i b x0 h1 h2; exact ⟨x, by simpa using h3, h4⟩
theorem somes_spec : ∀ {l : List (Option Blk)} {bs : List Blk}, somes l = some bs → l = bs.map some
  | [], bs, h => by cases h; rfl
  | none :: r, bs, h => by cases h
  | some b :: r, bs, h => by
    obtain ⟨l, hl, h⟩ := bnd_eq h
    cases h
    rw [somes_spec hl]; rfl
theorem renNews_spec {f : Nat → Option Nat} : ∀ {l nb : List Blk}, renNews f l = some nb → nb.length = l.length ∧ ∀ (i : Nat) (x : Blk), nb[i]? = some x → ∃ x0, l[i]? = some x0 ∧ x0.ren f = some x
  | [], nb, h => by cases h; exact ⟨rfl, fun i x h => by simp at h⟩
  | b :: r, nb, h => by
    obtain ⟨c, hc, h⟩ := bnd_eq h
    obtain ⟨l', hl, h⟩ := bnd_eq h
    cases h
    obtain ⟨h1, h2⟩ := renNews_spec hl
    refine ⟨by simp [h1], fun i x hx => ?_⟩
    cases i with
    | zero => simp at hx; subst hx; exact ⟨b, rfl, hc⟩
    | succ i => simp at hx; obtain ⟨x0, h3, h4⟩ := h2 i x hx; exact ⟨x0, by simpa using h3, h4⟩
theorem zipUp_spec {f : Nat → Option Nat} : ∀ {l : List Nat} {outs : List (Option Blk)} {up : List (Nat × Option Blk)}, l.Nodup → zipUp f l outs = some up → ∀ (h : Nat → Option Blk) (c : Nat),
    (∀ (i : Nat), l[i]? = some c → ∀ x, putU h up c = some x → ∃ x0, outs[i]? = some (some x0) ∧ x0.ren f = some x) ∧ (c ∉ l → putU h up c = h c)
  | [], outs, up, _, hz, h, c => by
    cases outs with
    | nil => cases hz; exact ⟨fun i hi => by simp at hi, fun _ => rfl⟩
    | cons o r => cases hz
  | b :: l, outs, up, hn, hz, h, c => by
    obtain ⟨hb, hn⟩ := List.nodup_cons.1 hn
    cases outs with
    | nil => cases hz
    | cons o r =>
      have key : ∃ y u, up = (b, y) :: u ∧ zipUp f l r = some u ∧ (∀ x, y = some x → ∃ x0, o = some x0 ∧ x0.ren f = some x) := by
        cases o with
        | none =>
          obtain ⟨u, hu, hz⟩ := bnd_eq hz
          cases hz
          exact ⟨none, u, rfl, hu, fun x h => by cases h⟩
        | some x0 =>
          obtain ⟨cx, hc, hz⟩ := bnd_eq hz
          obtain ⟨u, hu, hz⟩ := bnd_eq hz
          cases hz
          exact ⟨some cx, u, rfl, hu, fun x h => by cases h; exact ⟨x0, rfl, hc⟩⟩
      obtain ⟨y, u, rfl, hu, hy⟩ := key
      have ih := zipUp_spec hn hu (set h b y) c
      refine ⟨fun i hi x hx => ?_, fun hc => ?_⟩
      · cases i with
        | zero =>
          simp at hi; subst hi
          rw [putU, ih.2 hb, set_same] at hx
          obtain ⟨x0, h1, h2⟩ := hy x hx
          exact ⟨x0, by simp [h1], h2⟩
        | succ i =>
          simp at hi
          obtain ⟨x0, h1, h2⟩ := ih.1 i hi x hx
          exact ⟨x0, by simpa using h1, h2⟩
      · rw [putU, ih.2 (fun h => hc (List.mem_cons_of_mem _ h)), set_ne (fun h => hc (by rw [h]; exact List.mem_cons_self ..))]
theorem nocBs_get : ∀ {l : List Blk} {i : Nat} {x : Blk}, nocBs l = true → l[i]? = some x → x.noc = true
  | [], i, x, _, h => by simp at h
  | b :: r, i, x, hn, h => by
    simp only [nocBs, Bool.and_eq_true] at hn
    cases i with
    | zero => simp at h; subst h; exact hn.1
    | succ i => simp at h; exact nocBs_get hn.2 h

/-! ## Functions -/
def baseOf (K : Cx) (h : Nat → Option Blk) (m : Nat) : Bs := ⟨K.w, K.S, K.β, fun q => ∃ b x n, h b = some x ∧ K.β b = some (q, n), m⟩

/-- What a call hands back is what the evaluator says. -/
def FnOK (P : Program) (call : CallF) : Prop := ∀ (f : Nat) (args : List V) (bs : List Blk) (r : Ret), call f args bs = some r → (∃ fn c, P.funcs[f]? = some fn ∧ fn.body = some c ∧ (fn.name == "runtime.NumGoroutine") = false) ∧ ∀ (K : Cx) (vals : List Value), VRl K args vals → Good (baseOf K (ofL (bs.map some)) bs.length) (fun b => b < bs.length) K (ofL (bs.map some)) →
  Calls P f vals.toArray K.w fun e w' => ∃ (v : Value) (K' : Cx), e = .returned v ∧ K'.w = w' ∧ VR K' r.1 v ∧ r.2.1.length = bs.length ∧ Good (baseOf K (ofL (bs.map some)) bs.length) (fun b => b < bs.length + r.2.2.length) K' (ofL (r.2.1 ++ r.2.2.map some))

theorem ofL_get {l : List (Option Blk)} {i : Nat} {x : Blk} : ofL l i = some x ↔ l[i]? = some (some x) := by
  unfold ofL
  cases l[i]? with
  | none => simp
  | some y => simp

section
variable {P : Program} {B : Bs} {U : Nat → Prop} {K : Cx} {h : Nat → Option Blk}

theorem toCon_sound (g : Good B U K h) {Kc : Cx} (hw : Kc.w = K.w) (hS : ∀ q, K.S q → Kc.S q) {v c : V} {X : Value} (hv : VR K v X) (hc : toCon h v = some c) (hb : ∀ b ∈ v.ids, ∀ x q n, h b = some x → K.β b = some (q, n) → Kc.S q) : VR Kc c X := by
  have hclo : ∀ fl, Le (K.clo fl) (Kc.clo fl) := fun fl => ⟨fun q hq => ⟨hq.1, hS q hq.2⟩, fun _ h => h.elim, fun _ h => h.elim, fun q o _ => by show Kc.w.cell? _ = K.w.cell? _; rw [hw]⟩
  cases v <;> first | (cases hc; done) | skip
  case lit v => cases hc; cases hv; exact .lit ‹_›
  case con fl sz es =>
    cases hc
    exact (hv.of_clo rfl).mono ((hclo false).trans (Kc.clo_le _))
  case ref b sz off n =>
    obtain ⟨blk, hblk, hc⟩ := bnd_eq hc
    obtain ⟨⟨hbox, hsz, hlen⟩, hc⟩ := grd_eq hc
    cases hc
    have hl' : ((blk.es.drop off).take n).length = n := by simp; omega
    cases hv with
    | refE hN _ =>
      rw [List.take_zero]; exact .con0 fun _ => rfl
    | @ref _ _ _ _ _ q m cap hN hβ hl hm =>
      by_cases hn : n = 0
      · subst hn; rw [List.take_zero]; exact .con0 fun h => by cases h
      · have hSq := hb b (by simp [V.ids]) blk q m hblk hβ
        have hB := (g.blk b blk hblk).2
        rw [hβ] at hB
        obtain ⟨cs, e, lo, hi, hB⟩ := hB
        have hat : ∀ i j v, at2 ((blk.es.drop off).take n) i j = some v → at2 blk.es (off + i) j = some v := fun i j v hv => by
          obtain ⟨c, h5, h6⟩ := at2_inv hv
          rw [List.getElem?_take] at h5
          split at h5
          · rw [List.getElem?_drop] at h5; exact at2_of h5 h6
          · cases h5
        have hmem : ∀ c, c ∈ (blk.es.drop off).take n → c ∈ blk.es := fun c hc => List.mem_of_mem_drop (List.mem_of_mem_take hc)
        have hadr : ∀ i j, off * sz + i * sz + j = (off + i) * blk.sz + j := fun i j => by rw [hsz, Nat.add_mul]
        have hcell : ∀ i j, Kc.w.cell? ⟨q, off * sz + i * sz + j, none⟩ = cs[(off + i) * blk.sz + j]? := fun i j => by rw [hw, cell_of_row hB.hw, hadr]
        have := VR.con (K := Kc) (fl := blk.fl) (sz := sz) (es := (blk.es.drop off).take n) (b := q) (o := off * sz) (cap := cap) (by omega) (by omega) hSq (fun c hc => by rw [← hsz]; exact hB.hs c (hmem c hc)) (fun c hc => hB.h1 c (hmem c hc))
          (fun i j v hv => by
            rw [hcell]
            obtain ⟨c, h5, h6⟩ := at2_inv (hat i j v hv)
            have h7 := get_lt h6
            rw [hB.hs c (get_mem h5)] at h7
            have h8 := Ev.cell_lt (sz := blk.sz) (c := j) (m := 1) (get_lt h5) (by omega)
            have h9 := hB.hl
            have h10 := hB.hn
            exact ⟨_, Array.getElem?_eq_getElem (by omega)⟩)
          (fun i j v x hv hx => by
            rw [hcell] at hx
            have := hB.hv (off + i) j v x (hat i j v hv) hx
            rw [Blk.K_slice hbox] at this
            exact this.mono (hclo _))
        rw [hl'] at this
        exact this
theorem toConl_sound (g : Good B U K h) {Kc : Cx} (hw : Kc.w = K.w) (hS : ∀ q, K.S q → Kc.S q) : ∀ {vs cs : List V} {Xs : List Value}, VRl K vs Xs → toConl h vs = some cs → (∀ b ∈ V.ids.L vs, ∀ x q n, h b = some x → K.β b = some (q, n) → Kc.S q) → VRl Kc cs Xs
  | [], cs, Xs, hv, hc, _ => by cases hc; rw [hv.inv0]; exact .nil
  | v :: r, cs, Xs, hv, hc, hb => by
    obtain ⟨X, Xr, rfl, h1, h2⟩ := hv.inv
    obtain ⟨c, hc1, hc⟩ := bnd_eq hc
    obtain ⟨cr, hc2, hc⟩ := bnd_eq hc
    cases hc
    exact .cons (toCon_sound g hw hS h1 hc1 fun b hbm => hb b (by simp [V.ids.L, hbm])) (toConl_sound g hw hS h2 hc2 fun b hbm => hb b (by simp [V.ids.L, hbm]))
theorem toCons_sound (g : Good B U K h) {Kc : Cx} (hw : Kc.w = K.w) (hS : ∀ q, K.S q → Kc.S q) : ∀ {vs cs : List V} {Xs : List Value}, VRl K vs Xs → toCons h vs = some cs → (∀ b ∈ V.ids.L vs, ∀ x q n, h b = some x → K.β b = some (q, n) → Kc.S q) → VRl Kc cs Xs
  | [], cs, Xs, hv, hc, _ => by cases hc; rw [hv.inv0]; exact .nil
  | v :: r, cs, Xs, hv, hc, hb => by
    obtain ⟨X, Xr, rfl, h1, h2⟩ := hv.inv
    have ih : ∀ cr, toCons h r = some cr → VRl Kc cr Xr := fun cr hcr => toCons_sound g hw hS h2 hcr fun b hbm => hb b (by simp [V.ids.L, hbm])
    have hplain : ∀ c cr, toCon h v = some c → toCons h r = some cr → VRl Kc (c :: cr) (X :: Xr) := fun c cr hc1 hc2 => .cons (toCon_sound g hw hS h1 hc1 fun b hbm => hb b (by simp [V.ids.L, hbm])) (ih cr hc2)
    cases v
    case agg as0 =>
      obtain ⟨c, hc1, hc⟩ := bnd_eq hc
      obtain ⟨cr, hc2, hc⟩ := bnd_eq hc
      cases hc
      cases h1 with
      | agg hl hh =>
        have := toConl_sound g hw hS ⟨hl, hh⟩ hc1 fun b hbm => hb b (by simp [V.ids.L, V.ids, hbm])
        exact .cons this.agg (ih cr hc2)
    all_goals
      obtain ⟨c, hc1, hc⟩ := bnd_eq hc
      obtain ⟨cr, hc2, hc⟩ := bnd_eq hc
      cases hc
      exact hplain _ _ hc1 hc2

theorem back_nil (k i : Nat) : back [] k i = some (k + i) := by simp [back]

theorem call_sound {call : CallF} (hF : FnOK P call) (g : Good B U K h) {k : Nat} (hk : ∀ i, i < maxNew → ¬ U (k + i)) {mv : Bool} {f : Nat} {vs : List V} {Xs : List Value} {d : Dl} (hv : VRl K vs Xs) (hd : callV call mv h k f vs = some d) :
    Calls P f Xs.toArray K.w fun e w' => ∃ (v : Value) (K' : Cx), e = .returned v ∧ K'.w = w' ∧ Le K K' ∧ Good B (fun b => U b ∨ (k ≤ b ∧ b < k + maxNew)) K' (putN (putU h d.up) k d.nb) ∧ ∀ u, d.v = some u → VR K' u v := by
  have hlt : ∀ b x q n, h b = some x → K.β b = some (q, n) → q < K.w.heap.size := fun b x q n hb hβ => by
    have := (g.blk b x hb).2
    rw [hβ] at this
    exact this.lt
  have hkU : ∀ c, k ≤ c → c < k + maxNew → ¬ U c := fun c h1 h2 => by
    have := hk (c - k) (by omega)
    rwa [show k + (c - k) = c by omega] at this
  cases mv with
  | false =>
    obtain ⟨as0, has, hd⟩ := bnd_eq hd
    obtain ⟨r, hr, hd⟩ := bnd_eq hd
    obtain ⟨v', hv', hd⟩ := bnd_eq hd
    obtain ⟨nb, hnb, hd⟩ := bnd_eq hd
    obtain ⟨hmax, hd⟩ := grd_eq hd
    cases hd
    let Kc : Cx := { S := fun q => K.S q ∨ ∃ b x n, b ∈ V.ids.L vs ∧ h b = some x ∧ K.β b = some (q, n), β := fun _ => none, N := fun _ => False, w := K.w }
    have hvc : VRl Kc as0 Xs := toCons_sound (Kc := Kc) g rfl (fun q hq => .inl hq) hv has fun b hb x q n h1 h2 => .inr ⟨b, x, n, hb, h1, h2⟩
    have hof : ∀ b x, ofL (([] : List Blk).map some) b = some x → False := fun b x hx => by simp [ofL] at hx
    have hst : Good (baseOf Kc (ofL (([] : List Blk).map some)) 0) (fun b => b < 0) Kc (ofL (([] : List Blk).map some)) := {
      blk := fun b x hx => (hof b x hx).elim
      inj := fun b x b' x' q n n' hx => (hof b x hx).elim
      apart := fun b x q n hx => (hof b x hx).elim
      sz := fun q hq => by
        rcases hq with hq | ⟨b, x, n, _, h1, h2⟩
        · exact g.sz q hq
        · exact hlt b x q n h1 h2
      N := fun b hb => hb.elim
      grow := Nat.le_refl _
      io := Io.refl _
      frame := fun q _ _ => rfl
      inp := fun b hb => (by simp [baseOf] at hb)
      own := fun b x q n hx => (hof b x hx).elim
      S0 := fun q hq => hq
      S1 := fun q hq => .inl hq }
    refine ((hF f as0 [] r hr).2 Kc Xs hvc hst).mono fun e w' ⟨v, Kc', he, hw', hvr, hol, gc⟩ => ?_
    have hout : r.2.1 = [] := List.length_eq_zero_iff.1 hol
    rw [hout] at gc
    simp only [List.nil_append, List.length_nil, Nat.zero_add] at gc
    obtain ⟨hnl, hng⟩ := renNews_spec hnb
    have hhc : ∀ b x, ofL (r.2.2.map some) b = some x → r.2.2[b]? = some x := fun b x hx => by
      rw [ofL_get, List.getElem?_map] at hx
      cases hh : r.2.2[b]? with
      | none => rw [hh] at hx; cases hx
      | some y => rw [hh] at hx; simpa using hx
    have hNb : ∀ b, b < r.2.2.length → Kc'.N b := fun b hb => (gc.blk b r.2.2[b] (by rw [ofL_get, List.getElem?_map, List.getElem?_eq_getElem hb]; rfl)).1
    have hsize : K.w.heap.size ≤ w'.heap.size := by rw [← hw']; exact gc.grow
    have hframe : ∀ q, q < K.w.heap.size → w'.heap[q]? = K.w.heap[q]? := fun q hq => by
      rw [← hw']
      exact gc.frame q hq fun ⟨b, x, n, hx, _⟩ => hof b x hx
    have hSc : ∀ q, Kc'.S q → (K.S q ∨ ∃ b x n, b ∈ V.ids.L vs ∧ h b = some x ∧ K.β b = some (q, n)) ∨ K.w.heap.size ≤ q := fun q hq => by
      rcases gc.S1 q hq with h1 | ⟨b, x, n, hx, _⟩ | h1
      · exact .inl h1
      · exact (hof b x hx).elim
      · exact .inr h1
    have hown : ∀ b x q n, ofL (r.2.2.map some) b = some x → Kc'.β b = some (q, n) → K.w.heap.size ≤ q := fun b x q n h1 h2 => by
      rcases gc.own b x q n h1 h2 with ⟨b, x, n, hx, _⟩ | h1
      · exact (hof b x hx).elim
      · exact h1
    let inv : Nat → Option Nat := fun c => if k ≤ c ∧ c < k + r.2.2.length then some (c - k) else none
    -- the two cases: lent blocks stay, or are given up
    have fin : ∀ (h1 : Nat → Option Blk) (S' : Nat → Prop), (∀ c x, h1 c = some x → h c = some x) → (∀ q, K.S q → S' q) →
        (∀ q, S' q → K.S q ∨ (q < w'.heap.size ∧ (B.own q ∨ B.w0.heap.size ≤ q) ∧ ∀ b x n, h1 b = some x → K.β b ≠ some (q, n))) → (∀ q, S' q → Kc'.S q) →
        ((r.1.noc = true ∧ ∀ b x, ofL (r.2.2.map some) b = some x → x.noc = true) ∨ ∀ q, Kc'.S q → S' q) →
        ∃ (v : Value) (K' : Cx), e = .returned v ∧ K'.w = w' ∧ Le K K' ∧ Good B (fun b => U b ∨ (k ≤ b ∧ b < k + maxNew)) K' (putN h1 k nb) ∧ ∀ u, some v' = some u → VR K' u v := by
      intro h1 S' hsub hS1 hS2 hS3 hno
      obtain ⟨hle1, g1⟩ := (g.sub hsub).away (w' := w') (Q := fun _ => False) (S' := S') hsize (fun q hq _ => hframe q hq) (fun _ h => h.elim) (by rw [← hw']; exact gc.io) hS1 hS2
      obtain ⟨K', hK'w, hK'S, hle2, g2, hN2⟩ := g1.merge (Kc := Kc') (hc := ofL (r.2.2.map some)) (h' := putN h1 k nb) (U' := fun b => U b ∨ (k ≤ b ∧ b < k + maxNew)) hw' (back [] k) inv
        (fun b c hb hf => by
          have hb' := gc.N b hb
          rw [back_nil] at hf
          cases hf
          simp only [inv]
          rw [if_pos (by omega)]; congr 1; omega)
        (fun c b hc => by
          simp only [inv] at hc
          split at hc
          · cases hc; exact ⟨hNb _ (by omega), by rw [back_nil]; congr 1; omega⟩
          · cases hc)
        gc.blk gc.inj
        (fun b x q n hx hβ => ⟨fun hs => gc.apart b x q n hx hβ (hS3 q hs), .inr (Nat.le_trans g.grow (hown b x q n hx hβ)), fun b' x' n' hb' hβ' => by
          have h1' := hlt b' x' q n' (hsub _ _ hb') hβ'
          have h2' := hown b x q n hx hβ
          omega⟩)
        (hno.imp (fun h => h.2) id)
        (fun c b hc => .inl fun hN => by
          simp only [inv] at hc
          split at hc
          · rename_i hr
            exact hkU c hr.1 (by omega) (g.N c hN)
          · cases hc)
        (fun b hb => .inl hb)
        (fun c b hc => by
          simp only [inv] at hc
          split at hc
          · rename_i hr
            exact .inr ⟨hr.1, by omega⟩
          · cases hc)
        (fun c x hx => by
          rw [putN_get] at hx
          split at hx
          · rename_i hr
            obtain ⟨x0, hx0, hren⟩ := hng _ x hx
            refine .inr ⟨c - k, x0, ?_, ?_, hren⟩
            · simp only [inv]; rw [if_pos (by omega)]
            · rw [ofL_get, List.getElem?_map, hx0]; rfl
          · rename_i hr
            refine .inl ⟨hx, ?_⟩
            simp only [inv]; rw [if_neg (by omega)])
      refine ⟨v, K', he, hK'w, hle1.trans hle2, g2, fun u hu => ?_⟩
      cases hu
      exact hvr.ren hN2 (fun q o _ => by rw [hK'w, hw']) hv' (hno.imp (fun h => h.1) (fun h q hq => by rw [hK'S]; exact h q hq))
    show ∃ (v : Value) (K' : Cx), e = .returned v ∧ K'.w = w' ∧ Le K K' ∧ Good B _ K' (putN (putU h (cond (r.1.noc && nocBs r.2.2) [] (dels (V.ids.L vs)))) k nb) ∧ ∀ u, some v' = some u → VR K' u v
    cases hnc : (r.1.noc && nocBs r.2.2) with
    | true =>
      simp only [Bool.and_eq_true] at hnc
      exact fin h K.S (fun _ _ h => h) (fun _ h => h) (fun q hq => .inl hq) (fun q hq => gc.S0 q (.inl hq)) (.inl ⟨hnc.1, fun b x hx => nocBs_get hnc.2 (hhc b x hx)⟩)
    | false =>
      refine fin (putU h (dels (V.ids.L vs))) (fun q => K.S q ∨ Kc'.S q) (fun c x hx => ?_) (fun q hq => .inl hq) (fun q hq => ?_) (fun q hq => ?_) (.inr fun q hq => .inr hq)
      · rw [putU_dels] at hx
        split at hx
        · cases hx
        · exact hx
      · rcases hq with hq | hq
        · exact .inl hq
        · have hqs : q < w'.heap.size := by rw [← hw']; exact gc.sz q hq
          rcases hSc q hq with (h1 | ⟨b, x, n, hb, h1, h2⟩) | h1
          · exact .inl h1
          · refine .inr ⟨hqs, g.own b x q n h1 h2, fun b' x' n' hb' hβ' => ?_⟩
            rw [putU_dels] at hb'
            split at hb'
            · cases hb'
            · rename_i hnm
              exact hnm (by rw [g.inj b' x' b x q n' n hb' h1 hβ' h2]; exact hb)
          · refine .inr ⟨hqs, .inr (Nat.le_trans g.grow h1), fun b' x' n' hb' hβ' => ?_⟩
            rw [putU_dels] at hb'
            split at hb'
            · cases hb'
            · have := hlt b' x' q n' hb' hβ'
              omega
      · rcases hq with hq | hq
        · exact gc.S0 q (.inl hq)
        · exact hq
  | true =>
    unfold callV at hd
    simp only at hd
    obtain ⟨l, hl, hd⟩ := bnd_eq hd
    clear hl
    obtain ⟨as0, has, hd⟩ := bnd_eq hd
    obtain ⟨hs, hhs, hd⟩ := bnd_eq hd
    obtain ⟨bs, hbs, hd⟩ := bnd_eq hd
    obtain ⟨hnd, hd⟩ := grd_eq hd
    obtain ⟨r, hr, hd⟩ := bnd_eq hd
    obtain ⟨v', hv', hd⟩ := bnd_eq hd
    obtain ⟨up, hup, hd⟩ := bnd_eq hd
    obtain ⟨nb, hnb, hd⟩ := bnd_eq hd
    obtain ⟨hmax, hd⟩ := grd_eq hd
    cases hd
    have hnd := nodup_spec l hnd
    have hbs' := somes_spec hbs
    obtain ⟨hlen, hget⟩ := renBs_spec hhs
    have hbl : bs.length = l.length := by rw [← hlen, hbs']; simp
    have hin : ∀ i x, ofL (bs.map some) i = some x → ∃ b x0, l[i]? = some b ∧ h b = some x0 ∧ x0.ren (fun b => idx b l 0) = some x := fun i x hx => by
      rw [ofL_get] at hx
      exact hget i x (by rw [hbs']; exact hx)
    have hlive : ∀ i b, l[i]? = some b → ∃ x0, h b = some x0 := fun i b hi => by
      have h1 := get_lt hi
      have h2 : i < bs.length := by omega
      obtain ⟨b', x0, h3, h4, _⟩ := hin i bs[i] (by rw [ofL_get, List.getElem?_map, List.getElem?_eq_getElem h2]; rfl)
      rw [hi] at h3; cases h3
      exact ⟨x0, h4⟩
    let Kc : Cx := { S := K.S, β := fun i => (l[i]?).bind K.β, N := fun i => i < l.length, w := K.w }
    have hβc : ∀ i b, l[i]? = some b → Kc.β i = K.β b := fun i b hi => by simp only [Kc, hi]; rfl
    have hNc : ∀ b c, K.N b → idx b l 0 = some c → Kc.N c ∧ Kc.β c = K.β b := fun b c _ hc => by
      have h1 := (idx_spec l b 0 c hc).2
      rw [Nat.sub_zero] at h1
      exact ⟨get_lt h1, hβc c b h1⟩
    have hvc : VRl Kc as0 Xs := by
      obtain ⟨h1, h2⟩ := renL_spec has
      refine ⟨by rw [h1, hv.1], fun j c x hc hx => ?_⟩
      obtain ⟨v0, h3, h4⟩ := h2 j c hc
      exact (hv.2 j v0 x h3 hx).ren (K' := Kc) hNc (fun _ _ _ => rfl) h4 (.inr fun q hq => hq)
    have hst : Good (baseOf Kc (ofL (bs.map some)) bs.length) (fun b => b < bs.length) Kc (ofL (bs.map some)) := {
      blk := fun i x hx => by
        obtain ⟨b, x0, h1, h2, h3⟩ := hin i x hx
        refine ⟨get_lt h1, ?_⟩
        rw [hβc i b h1]
        exact (g.blk b x0 h2).2.ren (K' := Kc) hNc (fun _ _ _ => rfl) h3 (.inr fun q hq => hq) (fun _ _ _ => rfl)
      inj := fun i x i' x' q n n' hx hx' h3 h4 => by
        obtain ⟨b, x0, h1, h2, _⟩ := hin i x hx
        obtain ⟨b', x0', h1', h2', _⟩ := hin i' x' hx'
        rw [hβc i b h1] at h3
        rw [hβc i' b' h1'] at h4
        have := g.inj b x0 b' x0' q n n' h2 h2' h3 h4
        subst this
        exact nodup_get hnd h1 h1'
      apart := fun i x q n hx h3 => by
        obtain ⟨b, x0, h1, h2, _⟩ := hin i x hx
        rw [hβc i b h1] at h3
        exact g.apart b x0 q n h2 h3
      sz := g.sz
      N := fun i hi => by rw [hbl]; exact hi
      grow := Nat.le_refl _
      io := Io.refl _
      frame := fun q _ _ => rfl
      inp := fun i hi => ⟨by rw [hbl] at hi; exact hi, rfl⟩
      own := fun i x q n hx h3 => .inl ⟨i, x, n, hx, h3⟩
      S0 := fun q hq => hq
      S1 := fun q hq => .inl hq }
    refine ((hF f as0 bs r hr).2 Kc Xs hvc hst).mono fun e w' ⟨v, Kc', he, hw', hvr, hol, gc⟩ => ?_
    obtain ⟨hnl, hng⟩ := renNews_spec hnb
    have hback1 : ∀ i b, l[i]? = some b → back l k i = some b := fun i b hi => by simp [back, hi]
    have hback2 : ∀ i, l.length ≤ i → back l k i = some (k + (i - l.length)) := fun i hi => by simp [back, List.getElem?_eq_none hi]
    have hlU : ∀ b, b ∈ l → U b := fun b hb => by
      obtain ⟨i, hi⟩ := List.getElem?_of_mem hb
      obtain ⟨x0, h1⟩ := hlive i b hi
      exact g.N b (g.blk b x0 h1).1
    have hfresh : ∀ c, k ≤ c → c < k + r.2.2.length → c ∉ l := fun c h1 h2 hm => hkU c h1 (by omega) (hlU c hm)
    have hidx0 : ∀ c, c ∉ l → idx c l 0 = none := fun c hc => by
      cases hh : idx c l 0 with
      | none => rfl
      | some i => exact absurd (List.mem_of_getElem? (idx_spec l c 0 i hh).2) hc
    let inv : Nat → Option Nat := fun c => match idx c l 0 with
      | some i => some i
      | none => if k ≤ c ∧ c < k + r.2.2.length then some (l.length + (c - k)) else none
    have hinvIn : ∀ i b, l[i]? = some b → inv b = some i := fun i b hi => by simp only [inv, idx_get hnd hi]
    have hinvCases : ∀ c b, inv c = some b → (l[b]? = some c ∧ b < l.length) ∨ (k ≤ c ∧ c < k + r.2.2.length ∧ b = l.length + (c - k) ∧ c ∉ l) := fun c b hc => by
      simp only [inv] at hc
      split at hc
      · rename_i i hi
        cases hc
        have := (idx_spec l c 0 _ hi).2
        rw [Nat.sub_zero] at this
        exact .inl ⟨this, get_lt this⟩
      · rename_i hi
        split at hc
        · rename_i hr
          cases hc
          exact .inr ⟨hr.1, hr.2, rfl, hfresh c hr.1 hr.2⟩
        · cases hc
    have hNin : ∀ i, i < l.length → Kc'.N i ∧ Kc'.β i = Kc.β i := fun i hi => gc.inp i (by show i < bs.length; omega)
    have hNnew : ∀ j, j < r.2.2.length → Kc'.N (l.length + j) := fun j hj => (gc.blk (l.length + j) r.2.2[j] (by
      rw [ofL_get, List.getElem?_append_right (by omega), List.getElem?_map]
      rw [show l.length + j - r.2.1.length = j by omega, List.getElem?_eq_getElem hj]; rfl)).1
    have hsize : K.w.heap.size ≤ w'.heap.size := by rw [← hw']; exact gc.grow
    let h1 : Nat → Option Blk := fun c => if c ∈ l then none else h c
    have hsub : ∀ c x, h1 c = some x → h c = some x ∧ c ∉ l := fun c x hx => by
      simp only [h1] at hx
      split at hx
      · cases hx
      · exact ⟨hx, ‹_›⟩
    let Q : Nat → Prop := fun q => ∃ b x n, b ∈ l ∧ h b = some x ∧ K.β b = some (q, n)
    have hBown : ∀ q, (baseOf Kc (ofL (bs.map some)) bs.length).own q → Q q := fun q ⟨i, x, n, hx, h3⟩ => by
      obtain ⟨b, x0, a1, a2, _⟩ := hin i x hx
      rw [hβc i b a1] at h3
      exact ⟨b, x0, n, List.mem_of_getElem? a1, a2, h3⟩
    have hQh1 : ∀ q, Q q → ∀ b x n, h1 b = some x → K.β b ≠ some (q, n) := fun q ⟨b0, x0, n0, a1, a2, a3⟩ b x n hb hβ => by
      obtain ⟨b1, b2⟩ := hsub b x hb
      exact b2 (by rw [g.inj b x b0 x0 q n n0 b1 a2 hβ a3]; exact a1)
    obtain ⟨hle1, g1⟩ := (g.sub (h' := h1) (fun c x hx => (hsub c x hx).1)).away (w' := w') (Q := Q) (S' := Kc'.S) hsize
      (fun q hq hnQ => by rw [← hw']; exact gc.frame q hq fun ho => hnQ (hBown q ho))
      (fun q hQ => by
        obtain ⟨b0, x0, n0, a1, a2, a3⟩ := id hQ
        exact ⟨g.apart b0 x0 q n0 a2 a3, g.own b0 x0 q n0 a2 a3, hQh1 q hQ⟩)
      (by rw [← hw']; exact gc.io) (fun q hq => gc.S0 q hq)
      (fun q hq => by
        have hqs : q < w'.heap.size := by rw [← hw']; exact gc.sz q hq
        rcases gc.S1 q hq with a1 | a1 | a1
        · exact .inl a1
        · have hQ := hBown q a1
          obtain ⟨b0, x0, n0, _, a2, a3⟩ := id hQ
          exact .inr ⟨hqs, g.own b0 x0 q n0 a2 a3, hQh1 q hQ⟩
        · refine .inr ⟨hqs, .inr (Nat.le_trans g.grow a1), fun b x n hb hβ => ?_⟩
          have := hlt b x q n (hsub b x hb).1 hβ
          have a1' : K.w.heap.size ≤ q := a1
          omega)
    obtain ⟨K', hK'w, hK'S, hle2, g2, hN2⟩ := g1.merge (Kc := Kc') (hc := ofL (r.2.1 ++ r.2.2.map some)) (h' := putN (putU h up) k nb) (U' := fun b => U b ∨ (k ≤ b ∧ b < k + maxNew)) hw' (back l k) inv
      (fun b c hb hf => by
        have hb' := gc.N b hb
        rcases Nat.lt_or_ge b l.length with hbl' | hbl'
        · rw [hback1 b l[b] (List.getElem?_eq_getElem hbl')] at hf
          cases hf
          exact hinvIn b _ (List.getElem?_eq_getElem hbl')
        · rw [hback2 b hbl'] at hf
          cases hf
          have hc1 : k ≤ k + (b - l.length) := by omega
          have hc2 : k + (b - l.length) < k + r.2.2.length := by omega
          simp only [inv, hidx0 _ (hfresh _ hc1 hc2)]
          rw [if_pos ⟨hc1, hc2⟩]; congr 1; omega)
      (fun c b hc => by
        rcases hinvCases c b hc with ⟨a1, a2⟩ | ⟨a1, a2, rfl, _⟩
        · exact ⟨(hNin b a2).1, hback1 b c a1⟩
        · refine ⟨hNnew _ (by omega), ?_⟩
          rw [hback2 _ (by omega)]; congr 1; omega)
      gc.blk gc.inj
      (fun b x q n hx hβ => ⟨gc.apart b x q n hx hβ, by
        rcases gc.own b x q n hx hβ with a1 | a1
        · obtain ⟨b0, x0, n0, _, a2, a3⟩ := hBown q a1
          exact g.own b0 x0 q n0 a2 a3
        · exact .inr (Nat.le_trans g.grow a1), fun b' x' n' hb' hβ' => by
        rcases gc.own b x q n hx hβ with a1 | a1
        · exact hQh1 q (hBown q a1) b' x' n' hb' hβ'
        · have := hlt b' x' q n' (hsub _ _ hb').1 hβ'
          have a1' : K.w.heap.size ≤ q := a1
          omega⟩)
      (.inr fun q hq => hq)
      (fun c b hc => by
        rcases hinvCases c b hc with ⟨a1, a2⟩ | ⟨a1, a2, _, _⟩
        · exact .inr (by show K.β c = Kc'.β b; rw [(hNin b a2).2, hβc b c a1])
        · exact .inl fun hN => hkU c a1 (by omega) (g.N c hN))
      (fun b hb => .inl hb)
      (fun c b hc => by
        rcases hinvCases c b hc with ⟨a1, a2⟩ | ⟨a1, a2, _, _⟩
        · exact .inl (hlU c (List.mem_of_getElem? a1))
        · exact .inr ⟨a1, by omega⟩)
      (fun c x hx => by
        rw [putN_get] at hx
        have hz := zipUp_spec hnd hup h c
        split at hx
        · rename_i hrr
          obtain ⟨x0, hx0, hren⟩ := hng _ x hx
          refine .inr ⟨l.length + (c - k), x0, ?_, ?_, hren⟩
          · simp only [inv, hidx0 c (hfresh c hrr.1 (by omega))]; rw [if_pos (by omega)]
          · rw [ofL_get, List.getElem?_append_right (by omega), List.getElem?_map, show l.length + (c - k) - r.2.1.length = c - k by omega, hx0]; rfl
        · rename_i hrr
          by_cases hm : c ∈ l
          · obtain ⟨i, hi⟩ := List.getElem?_of_mem hm
            obtain ⟨x0, a1, a2⟩ := hz.1 i hi x hx
            refine .inr ⟨i, x0, hinvIn i c hi, ?_, a2⟩
            rw [ofL_get, List.getElem?_append_left (by have := get_lt hi; omega)]; exact a1
          · rw [hz.2 hm] at hx
            refine .inl ⟨by simp only [h1, if_neg hm]; exact hx, ?_⟩
            simp only [inv, hidx0 c hm]; rw [if_neg (by omega)])
    refine ⟨v, K', he, hK'w, hle1.trans hle2, g2, fun u hu => ?_⟩
    cases hu
    exact hvr.ren hN2 (fun q o _ => by rw [hK'w, hw']) hv' (.inr fun q hq => by rw [hK'S]; exact hq)
end
end Go.Ev
end
