/- A part of the proof: texts of the author, joined. -/
import Derived.Test.YtagcodkkkebnhaaKPPagingMore2
section
set_option linter.unusedVariables false
set_option linter.unusedSimpArgs false
set_option linter.unnecessarySimpa false
open Go Go.Ev
namespace Go.Proofs.Ytagcodkkkebnhaa.K
/-- A memory at its beginning. -/
def beg (s : STO) (l : List Int) : PAG := (s, (l.map fr, (hd5, z3)))
theorem beg_at {s : STO} {l : List Int} {k : Nat} (hk : k < l.length) : fAt (beg s l) k = fr (lAt l (k : Int)) := by
  show lAt (l.map fr) (k : Int) = _
  rw [lAt_lt (by simpa using hk), List.getElem_map, lAt_lt hk]
theorem F17_ok {s : STO} {l : List Int} (hf : fewS s) (hs : okS0 s) (h1 : 1 ≤ l.length) (h8 : l.length ≤ 8) (hp : ∀ i, i < l.length → poolOK l i) : F17 s l = some (opg (beg s l), 0) := by
  have w1 : F44 (lLen l) 1 8 = true := by unfold F44 lLen; rw [and_t, iLe_t, iLe_t]; omega
  unfold F17
  rw [(F43_ok hf hs).1, bnd_s, iEq_y rfl, nt, sel_f, let_s, w1, nt, sel_f, heads, bnd_s]
  rcases L17_eq s l (by omega) h1 with ⟨i, hi, hq, _⟩ | ⟨_, e⟩
  · exact absurd (hp i hi) hq
  · rw [e]
    show bndS (F51 (beg s l)) _ = _
    rw [F51_eq _ (by have := hf.1; show s.1.length ≤ _; omega) (by show (l.map fr).length ≤ _; simp; omega) (by show hd5.length ≤ _; decide)]
    rfl
theorem beg_RT {s : STO} {l : List Int} (hf : fewS s) (hs : okS0 s) (h1 : 1 ≤ l.length) (h8 : l.length ≤ 8) (hp : ∀ i, i < l.length → poolOK l i) : RT (beg s l) := by
  have hl : (beg s l).2.1.length = l.length := by show (l.map fr).length = _; simp
  have hu : ∀ k, k < (beg s l).2.1.length → (fAt (beg s l) k).2.1 = false := fun k hk => by rw [beg_at (by omega)]; rfl
  have hch : ∀ c : Nat, c < 5 → CH (beg s l) (c : Int) [] := by
    intro c hc
    refine ⟨?_, by simp, by simp⟩
    show lAt hd5 (c : Int) = -1
    rcases c with _ | _ | _ | _ | _ | c
    · rfl
    · rfl
    · rfl
    · rfl
    · rfl
    · omega
  refine ⟨hs, hf, by omega, by omega, rfl, fun i hi => ?_, fun n p k j hk hj a b => ?_, fun c hc => ⟨[], hch c hc⟩, fun k hk => ?_⟩
  · rw [beg_at (by omega)]
    exact ⟨hp i (by omega), .inl ⟨rfl, rfl⟩⟩
  · have h := hu k hk
    unfold fAt at h
    rw [a.1] at h
    cases h
  · rw [hu k hk]
    constructor
    · intro h; cases h
    · rintro ⟨c, hc, m, hm, hi⟩
      rw [CH_uniq hm (hch c hc)] at hi
      cases hi
theorem F26_eq {s : STO} (hf : fewS s) (hs : okS0 s) {seg off : Int} (h1 : fits seg) (h2 : fits off) : (rdOK s seg off 1 ∧ ∃ q, F26 s (seg, off) 1 = some q ∧ q.2.2.2.2 = 0) ∨ (∃ q, F26 s (seg, off) 1 = some q ∧ q.2.2.2.2 ≠ 0) := by
  have hn := hs.2
  have hl := hf.1
  unfold F26 F57 F85 F101
  rw [(F43_ok hf hs).2, bnd_s, iEq_y rfl, nt, sel_f]
  dsimp only
  rw [F90_eq s seg (by omega), bnd_s, bnd_s]
  rcases place_cases seg s.1 with ⟨i, hi, _, _, ep⟩ | ⟨_, ep⟩
  · have hpg := ok_pages hs (n := seg) (by rw [ep]; omega)
    have esg : sgB s seg = (lAt s.1 (i : Int)).2 := by unfold sgB; rw [ep]
    rw [ep, iEq_f (by omega), nf, sel_t, bnd_s, bnd_s]
    dsimp only
    rw [iEq_y (a := (0 : Int)) rfl, nt, sel_f, oIn_y (by unfold lLen; omega), sel_t, let_s, let_s, ← esg]
    by_cases hb : 0 ≤ off ∧ off + 1 ≤ sLen (sgB s seg)
    · have w1 : F24 off 0 (sLen (sgB s seg)) = true := by unfold F24; rw [and_t, iLe_t, iLe_t]; omega
      have w2 : F24 1 0 (iSub .i64 (sLen (sgB s seg)) off) = true := by unfold F24; rw [sub_n (by omega) (by omega), and_t, iLe_t, iLe_t]; omega
      rw [w1, w2, nt, or_ff, sel_f, bnd_s]
      dsimp only
      rw [iEq_y (a := (0 : Int)) rfl, nt, sel_f, oIn_y (by unfold lLen; omega), sel_t, ← esg, add_n (by omega) (by omega), oCut_y (by omega), sel_t]
      exact .inl ⟨⟨by rw [ep]; omega, hb.1, by omega, hb.2⟩, _, rfl, rfl⟩
    · have w : bOr (bNot (F24 off 0 (sLen (sgB s seg)))) (bNot (F24 1 0 (iSub .i64 (sLen (sgB s seg)) off))) = true := by
        rw [or_t, not_t, not_t, bf_t, bf_t (F24 1 _ _)]
        by_cases h4 : 0 ≤ off ∧ off ≤ sLen (sgB s seg)
        · right
          unfold F24
          rw [sub_n (by omega) (by omega), and_t, iLe_t, iLe_t]
          omega
        · left
          unfold F24
          rw [and_t, iLe_t, iLe_t]
          omega
      rw [w, sel_t, bnd_s]
      exact .inr ⟨_, rfl, by show (3 : Int) ≠ 0; decide⟩
  · rw [ep, iEq_y rfl, nt, sel_f, let_s]
    cases F24 seg 1 (iSub .i64 s.2 1)
    · exact .inr ⟨_, rfl, by decide⟩
    · exact .inr ⟨_, rfl, by decide⟩
/-- One byte is read. -/
theorem read1 {x : PAG} {seg off : Int} (hx : RT x) (ht : 0 ≤ x.2.2.2.1 ∧ x.2.2.2.1 ≤ 1000) (hr : 0 ≤ x.2.2.2.2.1 ∧ x.2.2.2.2.1 ≤ 1000) (hw : 0 ≤ x.2.2.2.2.2 ∧ x.2.2.2.2.2 ≤ 1000) (h1 : fits seg) (h2 : fits off) (hrd : rdOK x.1 seg off 1) (hb : bst x 0 x.2.1.length ≠ -1) : ∃ (x' : PAG) (k : Nat) (b : ByteArray), USE x x' seg (off / 32) 0 k ∧ F22 x (0, (0, ((seg, off), (1, bs [])))) = some (opg x', (b, 0)) := by
  have hs : SML x := by unfold SML inN; omega
  have ha : accE x 0 0 seg off 1 (bs []) = 0 := by
    unfold accE movE
    rw [if_pos rfl, if_pos rfl, if_neg (fun h => h (by decide)), if_neg (fun h => h (rdE_ok.2 hrd)), if_neg hb]
  obtain ⟨_, _, _, _, _, f1, _⟩ := acc_mv hx hs (.inl rfl) h1 h2 (fits_s (by decide) (by decide)) (by rw [sLen_nil]; decide) ha
  have hone : movM 0 0 seg off (mvN 0 1 (bs [])) (bs []) 20 x off (bs []) = (stp 0 0 seg off (mvN 0 1 (bs [])) (bs []) x off, outM 0 0 seg off (mvN 0 1 (bs [])) x off (bs [])) := movM_one (by decide) (by show off % 32 + 1 ≤ 32; omega)
  rw [hone] at f1
  have hst : stp 0 0 seg off (mvN 0 1 (bs [])) (bs []) x off = (useM x seg (off / 32) 0).1 := by unfold stp; rw [if_pos rfl]
  rw [hst] at f1
  dsimp only at f1
  obtain ⟨_, _, k, _, hu⟩ := stp_use (BI_0 hx) ht.1 hrd (pool := 0) (by decide) hb (a := off) (by omega)
  have hB := hu.BI (BI_0 hx)
  have htm := hB.tm
  have hrd' := hB.rd
  have hwr := hB.wr
  refine ⟨_, k, _, hu, f1 ?_⟩
  unfold SML inN
  omega
/-- PagingMore. -/
theorem more (s : STO) (m : Int) (l : List (Int × Int)) (h2 : fits s.2) (hl : ∀ a ∈ l, fits a.1 ∧ fits a.2) : F6 s m l = some true := by
  have hll : lLen l = (l.length : Int) := rfl
  unfold F6
  rw [awake, bnd_s, nt, sel_f]
  have hbad : ∀ (g : Bool) (z : Int → Option Bool), g = true → sel (bOr (okS (F25 s)) (bNot (bNot g))) (letS (valS (F25 s) 0) fun y3 => sel (bOr g (bNot (iEq y3 0))) (some true) (z y3)) none = some true := by
    rintro g z rfl
    have : bOr (okS (F25 s)) (bNot (bNot true)) = true := by rw [or_t]; exact .inr rfl
    rw [this, sel_t, let_s, or_tt, sel_t]
  rcases F16_eq s with ⟨hf, e⟩ | e
  rotate_left
  · rw [e, bnd_s, let_s]
    exact hbad _ _ (by rw [nf, or_tt, or_tt])
  rw [e, bnd_s, let_s]
  by_cases hg : (1 ≤ m ∧ m ≤ 7) ∧ l.length ≤ 40
  rotate_left
  · refine hbad _ _ ?_
    rw [or_t, or_t, not_t, not_t, bf_t (F24 m 1 7), iLt_t]
    unfold F24
    rw [and_t, iLe_t, iLe_t]
    omega
  have w : F24 m 1 7 = true := by unfold F24; rw [and_t, iLe_t, iLe_t]; exact hg.1
  rw [w, iLt_f (by omega), nt, or_ff, or_ff]
  rcases F43_eq s hf h2 with ⟨hs, e1, e2⟩ | ⟨a, c, hc, e1, e2⟩
  rotate_left
  · rw [e2, okS_s, or_tt, sel_t, valS_s, let_s, or_ff, iEq_f hc, nf, sel_t]
  rw [e2, okS_s, or_tt, sel_t, valS_s, let_s, or_ff, iEq_y rfl, nt, sel_f, F18_eq s (by have := hf.1; omega), bnd_s]
  obtain ⟨n, rfl⟩ := Int.eq_ofNat_of_zero_le (show 0 ≤ m by omega)
  have c1 : nCap 8 (n : Int) = true := by rw [nCap_t]; omega
  have c2 : nCap 8 (((n + 1 : Nat)) : Int) = true := by rw [nCap_t]; omega
  have r1 : lRep (n : Int) (0 : Int) = List.replicate n 0 := by unfold lRep; rw [Int.toNat_natCast]
  have r2 : lRep ((n + 1 : Nat) : Int) (0 : Int) = List.replicate (n + 1) 0 := by unfold lRep; rw [Int.toNat_natCast]
  have hz : ∀ q i : Nat, i < q → lAt (List.replicate q (0 : Int)) (i : Int) = 0 := by
    intro q i h
    rw [lAt_lt (by simpa using h), List.getElem_replicate]
  have hp : ∀ q i, i < (List.replicate q (0 : Int)).length → poolOK (List.replicate q (0 : Int)) i := by
    intro q i h
    have := hz q i (by simpa using h)
    unfold poolOK
    omega
  have b1 : RT (beg s (List.replicate n 0)) := beg_RT hf hs (by simp; omega) (by simp; omega) (hp n)
  have b2 : RT (beg s (List.replicate (n + 1) 0)) := beg_RT hf hs (by simp) (by simp; omega) (hp (n + 1))
  have l1 : (beg s (List.replicate n 0)).2.1.length = n := by show (List.map _ _).length = _; simp
  have l2 : (beg s (List.replicate (n + 1) 0)).2.1.length = n + 1 := by show (List.map _ _).length = _; simp
  have p1 : ∀ k, k < n → fAt (beg s (List.replicate n 0)) k = fr 0 := fun k hk => by rw [beg_at (by simpa using hk), hz n k hk]
  have p2 : ∀ k, k < n + 1 → fAt (beg s (List.replicate (n + 1) 0)) k = fr 0 := fun k hk => by rw [beg_at (by simpa using hk), hz (n + 1) k hk]
  rw [c1, sel_t, r1, F17_ok hf hs (by simp; omega) (by simp; omega) (hp n), bnd_s, bnd_s, add_n (by omega) (by omega), show (n : Int) + 1 = ((n + 1 : Nat) : Int) by omega, c2, sel_t, r2, F17_ok hf hs (by simp) (by simp; omega) (hp (n + 1)), bnd_s]
  dsimp only
  rw [iEq_y (a := (0 : Int)) rfl, nt, or_ff, sel_f]
  have hb1 : bst (beg s (List.replicate n 0)) 0 (beg s (List.replicate n 0)).2.1.length ≠ -1 := by
    rw [bst_ex, l1]; exact ⟨0, by omega, by rw [p1 0 (by omega)]; rfl⟩
  have hb2 : bst (beg s (List.replicate (n + 1) 0)) 0 (beg s (List.replicate (n + 1) 0)).2.1.length ≠ -1 := by
    rw [bst_ex, l2]; exact ⟨0, by omega, by rw [p2 0 (by omega)]; rfl⟩
  have hI : INV (beg s (List.replicate n 0)) (beg s (List.replicate (n + 1) 0)) := by
    refine ⟨b1, b2, by rw [l1, l2], rfl, fun k hk => ?_, fun k hk => ?_, fun k hk => ?_, fun k hk => ?_, fun k a b hk h => ?_, fun k a b hk h => ?_, fun k k' hk _ h => ?_⟩
    · rw [p1 k (by omega)]; rfl
    · rw [p2 k (by omega)]; rfl
    · rw [p1 k (by omega)]; rfl
    · rw [p2 k (by omega)]; rfl
    · rw [p1 k (by omega)] at h; cases h.1
    · rw [p2 k (by omega)] at h; cases h.1
    · rw [p1 k (by omega)] at h; cases h
  have hL : Ok (L6_0 ((n : Int), (l, (s, (opg (beg s (List.replicate n 0)), (opg (beg s (List.replicate (n + 1) 0)), 0)))))) (fun r => ∃ (x y : PAG) (t : Nat), t ≤ 40 ∧ r = .inl ((n : Int), (opg x, opg y)) ∧ INV x y ∧ BI (beg s (List.replicate n 0)) x t ∧ BI (beg s (List.replicate (n + 1) 0)) y t) := by
    refine loop_inv (fun q st => ∃ (i t : Nat) (x y : PAG), i ≤ l.length ∧ t ≤ i ∧ INV x y ∧ BI (beg s (List.replicate n 0)) x t ∧ BI (beg s (List.replicate (n + 1) 0)) y t ∧ st = ((n : Int), (l, (s, (opg x, (opg y, (i : Int)))))) ∧ q = l.length - i) l.length ⟨0, 0, _, _, by omega, by omega, hI, BI_0 b1, BI_0 b2, rfl, rfl⟩ (by omega) ?_
    rintro q st ⟨i, t, x, y, hi, hti, hxy, bx, bY, rfl, rfl⟩
    show Ok (B6_0 (n : Int) l s.1 s.2 x.1.1 x.1.2 x.2.1 x.2.2.1 x.2.2.2.1 x.2.2.2.2.1 x.2.2.2.2.2 y.1.1 y.1.2 y.2.1 y.2.2.1 y.2.2.2.1 y.2.2.2.2.1 y.2.2.2.2.2 i) _
    unfold B6_0
    by_cases hlt : i < l.length
    rotate_left
    · rw [iLt_f (by omega), sel_f, ok_some]
      exact ⟨x, y, t, by omega, rfl, hxy, bx, bY⟩
    obtain ⟨f1, f2⟩ := hl _ (lAt_in hlt)
    rw [iLt_y (by omega), sel_t, oIn_y (by omega), sel_t, sel_t, add_n (by omega) (by omega)]
    have hea : lAt l (i : Int) = ((lAt l (i : Int)).1, (lAt l (i : Int)).2) := rfl
    rcases F26_eq hf hs f1 f2 with ⟨hrd, q, eq, hq⟩ | ⟨q, eq, hq⟩
    rotate_left
    · have eq' : F26 (s.1, s.2) (lAt l (i : Int)) 1 = some q := eq
      rw [eq', bnd_s, iEq_f hq, nf, sel_t, ok_some]
      exact ⟨l.length - (i + 1), by omega, i + 1, t, x, y, by omega, by omega, hxy, bx, bY, rfl, rfl⟩
    have eq' : F26 (s.1, s.2) (lAt l (i : Int)) 1 = some q := eq
    rw [eq', bnd_s, iEq_y hq, nt, sel_f]
    have z1 : (beg s (List.replicate n 0)).2.2.2 = z3 := rfl
    have z2 : (beg s (List.replicate (n + 1) 0)).2.2.2 = z3 := rfl
    have t1 := bx.tm
    have t2 := bx.rd
    have t3 := bx.wr
    have t4 := bY.tm
    have t5 := bY.rd
    have t6 := bY.wr
    rw [z1] at t1 t2 t3
    rw [z2] at t4 t5 t6
    dsimp only [z3] at t1 t2 t3 t4 t5 t6
    have rdx : rdOK x.1 (lAt l (i : Int)).1 (lAt l (i : Int)).2 1 := by
      have hsh : shp x.1 = shp s := bx.sh
      refine ⟨by rw [shp_place hsh]; exact hrd.1, hrd.2.1, hrd.2.2.1, ?_⟩
      rw [shp_sg hsh (by rw [shp_place hsh]; exact hrd.1)]
      exact hrd.2.2.2
    have rdy' : rdOK y.1 (lAt l (i : Int)).1 (lAt l (i : Int)).2 1 := by
      have hsh : shp y.1 = shp s := bY.sh
      refine ⟨by rw [shp_place hsh]; exact hrd.1, hrd.2.1, hrd.2.2.1, ?_⟩
      rw [shp_sg hsh (by rw [shp_place hsh]; exact hrd.1)]
      exact hrd.2.2.2
    obtain ⟨x', kx, ox, ux, e22x⟩ := read1 hxy.rx (by omega) (by omega) (by omega) f1 f2 rdx (bx.bst hb1)
    obtain ⟨y', ky, oy, uy, e22y⟩ := read1 hxy.ry (by omega) (by omega) (by omega) f1 f2 rdy' (bY.bst hb2)
    show Ok (bndS (F22 x (0, (0, (((lAt l (i : Int)).1, (lAt l (i : Int)).2), (1, bs []))))) fun y1 => bndS (F22 y (0, (0, (((lAt l (i : Int)).1, (lAt l (i : Int)).2), (1, bs []))))) fun y2 => _) _
    rw [e22x, e22y, bnd_s, bnd_s]
    dsimp only
    rw [iEq_y (a := (0 : Int)) rfl, nt, or_ff, sel_f, ok_some]
    exact ⟨l.length - (i + 1), by omega, i + 1, t + 1, x', y', by omega, by omega, inv_step hxy ux uy, ux.BI bx, uy.BI bY, rfl, rfl⟩
  obtain ⟨r, eL, x, y, t, ht, rfl, hxy, bx, bY⟩ := hL
  rw [eL, bnd_s]
  dsimp only [sumS]
  have hy : SML y := by
    have t4 := bY.tm
    have t5 := bY.rd
    have t6 := bY.wr
    have z2 : (beg s (List.replicate (n + 1) 0)).2.2.2 = z3 := rfl
    rw [z2] at t4 t5 t6
    dsimp only [z3] at t4 t5 t6
    unfold SML inN
    omega
  have hxn : x.2.1.length = n := by rw [bx.ln, l1]
  have hxl : lLen x.2.1 = (n : Int) := by unfold lLen; rw [hxn]
  have hL2 : L6_2 ((n : Int), (opg x, (opg y, 0))) = some (.inl ((n : Int), opg x)) := by
    refine iter_run (fun i => ((n : Int), (opg x, (opg y, (i : Int))))) n (by omega) ?_ ?_
    · intro i hi
      show B6_2 (n : Int) x.1.1 x.1.2 x.2.1 x.2.2.1 x.2.2.2.1 x.2.2.2.2.1 x.2.2.2.2.2 y.1.1 y.1.2 y.2.1 y.2.2.1 y.2.2.2.1 y.2.2.2.2.1 y.2.2.2.2.2 i = _
      unfold B6_2
      rw [iLt_y (by omega), sel_t, oIn_y (by omega), sel_t, add_n (by omega) (by omega)]
      cases hu : (lAt x.2.1 (i : Int)).2.1 with
      | false => rw [sel_f]; rfl
      | true =>
        have hu' : (fAt x i).2.1 = true := hu
        obtain ⟨j, j1, j2, _⟩ := hxy.i1 i _ _ (by omega) ⟨hu', rfl, rfl⟩
        obtain ⟨g1, _⟩ := rf_used (hxy.rx.fs i (by omega)) hu'
        have hP : hasP y.1 (fAt x i).2.2.2.1 (fAt x i).2.2.2.2.1 := by rw [shp_hasP (bY.sh.trans (show shp s = shp x.1 from bx.sh.symm))]; exact g1
        obtain ⟨q, e23⟩ := F23_eq hxy.ry hy hP
        rw [fidx_y hxy.ry.un j1 j2, if_neg (by omega)] at e23
        have h14 : F14 ((y.1.1, y.1.2), (y.2.1, (y.2.2.1, (y.2.2.2.1, (y.2.2.2.2.1, y.2.2.2.2.2))))) = some (opg y) := F14_RT hxy.ry
        rw [sel_t, h14, bnd_s, sel_t, sel_t]
        show bndS (F23 y (fAt x i).2.2.2.1 (fAt x i).2.2.2.2.1) _ = _
        rw [e23, bnd_s]
        dsimp only
        rw [iEq_y (a := (0 : Int)) rfl, nt, sel_f]
        rfl
    · show B6_2 (n : Int) x.1.1 x.1.2 x.2.1 x.2.2.1 x.2.2.2.1 x.2.2.2.2.1 x.2.2.2.2.2 y.1.1 y.1.2 y.2.1 y.2.2.1 y.2.2.2.1 y.2.2.2.2.1 y.2.2.2.2.2 n = _
      unfold B6_2
      rw [iLt_f (by omega), sel_f]
  rw [hL2, bnd_s]
  show some (iEq (lLen x.2.1) (n : Int)) = some true
  rw [iEq_y hxl]
end Go.Proofs.Ytagcodkkkebnhaa.K
end

section
set_option linter.unusedVariables false
set_option linter.unusedSimpArgs false
set_option linter.unnecessarySimpa false
open Go.Ev
namespace Go.Proofs.Ytagcodkkkebnhaa.Pure
open Go.Proofs.Ytagcodkkkebnhaa.K
set_option maxRecDepth 100000 in
theorem PagingMore (x0 : ((.pr (.sl (.pr (.int .i64) .str)) (.int .i64)) : Ty).T) (x1 : ((.int .i64) : Ty).T) (x2 : ((.sl (.pr (.int .i64) (.int .i64))) : Ty).T) (h0 : ((.pr (.sl (.pr (.int .i64) .str)) (.int .i64)) : Ty).wf x0) (h1 : ((.int .i64) : Ty).wf x1) (h2 : ((.sl (.pr (.int .i64) (.int .i64))) : Ty).wf x2) : K.gF6.F (x0, x1, x2) = some true :=
  more x0 x1 x2 (wf_fits h0.2) (fun a ha => ⟨wf_fits (h2.2 a ha).1, wf_fits (h2.2 a ha).2⟩)
end Go.Proofs.Ytagcodkkkebnhaa.Pure
end
