/- A part of the proof: texts of the author, joined. -/
import Derived.Test.YtagcodkkkebnhaaGreatKPPagingRuns1
section
set_option linter.unusedVariables false
set_option linter.unusedSimpArgs false
set_option linter.unnecessarySimpa false
open Go Go.Ev
namespace Go.Proofs.YtagcodkkkebnhaaGreat.K
theorem half_eq : ∀ m : Nat, m ≤ 24 → iCv .i64 (iShr .u64 (iCv .u64 (m : Int)) 1) = ((m / 2 : Nat) : Int) := by
  have h : ∀ m : Fin 25, iCv .i64 (iShr .u64 (iCv .u64 ((m : Nat) : Int)) 1) = (((m : Nat) / 2 : Nat) : Int) := by decide
  exact fun m hm => h ⟨m, by omega⟩
theorem sub_zero {a b : Int} (ha : fits a) (hb : fits b) (h : iSub .i64 a b = 0) : a = b := by
  obtain ⟨a1, a2⟩ := ha
  obtain ⟨b1, b2⟩ := hb
  unfold iSub IntKind.wrap at h
  simp [IntKind.bits, IntKind.signed] at h
  omega
/-- The program's search for a segment. -/
theorem F105_eq {s : STO} (hs : okS0 s) (n : Int) (hn : fits n) : ∃ a : Int, F109 s.1 n = some (a, decide (0 ≤ place s.1 n)) ∧ (0 ≤ place s.1 n → a = place s.1 n) := by
  have hl := hs.1
  have hll : lLen s.1 = s.1.length := rfl
  have num : ∀ i : Nat, i < s.1.length → 1 ≤ (lAt s.1 (i : Int)).1 ∧ (lAt s.1 (i : Int)).1 ≤ 1000 := by
    intro i hi
    have := ok_pages hs (n := (lAt s.1 (i : Int)).1) (by rw [ok_place hs i hi]; omega)
    omega
  have h : Ok (L109_0 (s.1, (n, (lLen s.1, (0, lLen s.1))))) (fun r => ∃ i : Nat, i ≤ s.1.length ∧ r = (s.1, (n, (lLen s.1, (i : Int)))) ∧ (0 ≤ place s.1 n → (i : Int) = place s.1 n)) := by
    refine loop_inv (fun m y => ∃ i j : Nat, i ≤ j ∧ j ≤ s.1.length ∧ y = (s.1, (n, (lLen s.1, ((i : Int), (j : Int))))) ∧ m = j - i ∧ (0 ≤ place s.1 n → (i : Int) ≤ place s.1 n ∧ place s.1 n ≤ j)) s.1.length ⟨0, s.1.length, by omega, by omega, rfl, by omega, fun h => ?_⟩ (by omega) ?_
    · obtain ⟨p, hp, _, _, e⟩ := place_in h
      rw [e]; omega
    rintro m y ⟨i, j, hij, hj, rfl, rfl, hpl⟩
    show Ok (B109_0 s.1 n (lLen s.1) i j) _
    unfold B109_0
    by_cases hlt : i < j
    · have eh : iCv .i64 (iShr .u64 (iCv .u64 (iAdd .i64 (i : Int) (j : Int))) 1) = (((i + j) / 2 : Nat) : Int) := by
        rw [add_n (by omega) (by omega), ← Int.natCast_add, half_eq _ (by omega)]
      rw [iLt_y (by omega), sel_t, eh, oIn_y (by omega), sel_t, let_s, ok_some]
      have hm : (i + j) / 2 < s.1.length := by omega
      have hb := num _ hm
      have key : 0 ≤ place s.1 n → F110 (lAt s.1 (((i + j) / 2 : Nat) : Int)) n = (lAt s.1 (((i + j) / 2 : Nat) : Int)).1 - n := by
        intro h
        obtain ⟨p, hp, hp2, _, _⟩ := place_in h
        have := num p hp
        unfold F110
        rw [sub_n (by omega) (by omega)]
      by_cases hc : F110 (lAt s.1 (((i + j) / 2 : Nat) : Int)) n < 0
      · rw [iLt_y hc, sel_t, sel_t, add_n (by omega) (by omega)]
        refine ⟨j - ((i + j) / 2 + 1), by omega, (i + j) / 2 + 1, j, by omega, hj, rfl, rfl, fun h => ?_⟩
        obtain ⟨p, hp, hp2, _, e⟩ := place_in h
        rw [key h] at hc
        refine ⟨?_, (hpl h).2⟩
        rw [e]
        by_cases hle : p ≤ (i + j) / 2
        · rcases Nat.lt_or_ge p ((i + j) / 2) with h3 | h3
          · have := ok_asc hs _ _ h3 hm; omega
          · obtain rfl : p = (i + j) / 2 := by omega
            omega
        · omega
      · rw [iLt_f hc, sel_f, sel_f]
        refine ⟨(i + j) / 2 - i, by omega, i, (i + j) / 2, by omega, by omega, rfl, rfl, fun h => ?_⟩
        obtain ⟨p, hp, hp2, _, e⟩ := place_in h
        rw [key h] at hc
        refine ⟨(hpl h).1, ?_⟩
        rw [e]
        rcases Nat.lt_or_ge ((i + j) / 2) p with h3 | h3
        · have := ok_asc hs _ _ h3 hp; omega
        · omega
    · rw [iLt_f (by omega), sel_f, ok_some]
      exact ⟨i, by omega, rfl, fun h => by have := hpl h; omega⟩
  obtain ⟨r, e, i, hi, rfl, hp⟩ := h
  refine ⟨(i : Int), ?_, hp⟩
  unfold F109
  rw [e, bnd_s]
  dsimp only
  have hc : bOr (oIn (i : Int) (lLen s.1)) (bNot (iLt (i : Int) (lLen s.1))) = true := by
    rw [or_t, oIn_t, not_t, bf_t, iLt_t]; omega
  rw [hc, sel_t, let_s]
  congr 2
  rw [Bool.eq_iff_iff, decide_eq_true_eq, and_t, iLt_t, iEq_t]
  constructor
  · rintro ⟨h1, h2⟩
    have hi' : i < s.1.length := by omega
    have h3 := num i hi'
    have := sub_zero (by unfold fits; omega) hn h2
    rw [← this, ok_place hs i hi']
    omega
  · intro h
    obtain ⟨p, hp1, hp2, _, e⟩ := place_in h
    have := hp h
    rw [e] at this
    obtain rfl : i = p := by omega
    refine ⟨by omega, ?_⟩
    unfold F110
    rw [hp2, sub_n (by omega) (by omega)]
    omega
/-- The error of reading. -/
def rdE (s : STO) (seg off n : Int) : Int := if 0 ≤ place s.1 seg then (if 0 ≤ off ∧ 0 ≤ n ∧ off + n ≤ sLen (sgB s seg) then 0 else 3) else if 1 ≤ seg ∧ seg ≤ s.2 - 1 then 24 else 11
theorem rdE_ok {s : STO} {seg off n : Int} : rdE s seg off n = 0 ↔ rdOK s seg off n := by
  unfold rdE rdOK
  split
  · split
    · rename_i h1 h2; exact ⟨fun _ => ⟨h1, h2⟩, fun _ => rfl⟩
    · rename_i h1 h2; exact ⟨fun h => (by cases h), fun h => absurd h.2 h2⟩
  · rename_i h1
    split
    · exact ⟨fun h => (by cases h), fun h => absurd h.1 h1⟩
    · exact ⟨fun h => (by cases h), fun h => absurd h.1 h1⟩
theorem F67_eq {s : STO} (hf : fewS s) (hs : okS0 s) {seg off n : Int} (h1 : fits seg) (h2 : fits off) (h3 : fits n) : (rdOK s seg off n ∧ F86 s (seg, off) n = some (place s.1 seg, 0)) ∨ (rdE s seg off n ≠ 0 ∧ F86 s (seg, off) n = some (0, rdE s seg off n)) := by
  obtain ⟨a, e, ha⟩ := F105_eq hs seg h1
  have hn := hs.2
  unfold F86 F97
  rw [(F43_ok hf hs).1, bnd_s, iEq_y rfl, nt, sel_f, e, bnd_s]
  dsimp only
  unfold rdE rdOK
  by_cases hp : 0 ≤ place s.1 seg
  · have hpg := ok_pages hs hp
    obtain ⟨i, hi, _, _, ep⟩ := place_in hp
    have := ha hp
    subst this
    have esg : sgB s seg = (lAt s.1 (i : Int)).2 := by unfold sgB; rw [ep]
    rw [decide_eq_true hp, sel_t, bnd_s, iEq_y rfl, nt, sel_f]
    dsimp only
    rw [if_pos hp, ep, oIn_y (by unfold lLen; omega), sel_t, let_s, let_s, ← esg]
    by_cases hb : 0 ≤ off ∧ 0 ≤ n ∧ off + n ≤ sLen (sgB s seg)
    · have w1 : F58 off 0 (sLen (sgB s seg)) = true := by unfold F58; rw [and_t, iLe_t, iLe_t]; omega
      have w2 : F58 n 0 (iSub .i64 (sLen (sgB s seg)) off) = true := by unfold F58; rw [sub_n (by omega) (by omega), and_t, iLe_t, iLe_t]; omega
      rw [w1, w2]
      exact .inl ⟨⟨by omega, hb⟩, rfl⟩
    · have w : bOr (bNot (F58 off 0 (sLen (sgB s seg)))) (bNot (F58 n 0 (iSub .i64 (sLen (sgB s seg)) off))) = true := by
        rw [or_t, not_t, not_t, bf_t, bf_t (F58 n _ _)]
        by_cases h4 : 0 ≤ off ∧ off ≤ sLen (sgB s seg)
        · right
          unfold F58
          rw [sub_n (by omega) (by omega), and_t, iLe_t, iLe_t]
          omega
        · left
          unfold F58
          rw [and_t, iLe_t, iLe_t]
          omega
      rw [w, sel_t, if_neg hb]
      exact .inr ⟨by decide, rfl⟩
  · rw [decide_eq_false hp, sel_f, let_s, if_neg hp]
    have w : F58 seg 1 (iSub .i64 s.2 1) = decide (1 ≤ seg ∧ seg ≤ s.2 - 1) := by
      rw [Bool.eq_iff_iff, decide_eq_true_eq]
      unfold F58
      rw [sub_n (by omega) (by omega), and_t, iLe_t, iLe_t]
    rw [w]
    by_cases h4 : 1 ≤ seg ∧ seg ≤ s.2 - 1
    · rw [decide_eq_true h4, if_pos h4]
      exact .inr ⟨by decide, rfl⟩
    · rw [decide_eq_false h4, if_neg h4]
      exact .inr ⟨by decide, rfl⟩
theorem F40_eq {s : STO} (hf : fewS s) (hs : okS0 s) {seg off n : Int} (h1 : fits seg) (h2 : fits off) (h3 : fits n) : (rdOK s seg off n ∧ F66 s (seg, off) n = some (sCut (sgB s seg) off (off + n), 0)) ∨ (rdE s seg off n ≠ 0 ∧ F66 s (seg, off) n = some (bs [], rdE s seg off n)) := by
  unfold F66
  rcases F67_eq hf hs h1 h2 h3 with ⟨hr, e⟩ | ⟨hr, e⟩
  · have hr' := hr
    obtain ⟨p1, p2, p3, p4⟩ := hr
    have hpg := ok_pages hs p1
    obtain ⟨i, hi, _, _, ep⟩ := place_in p1
    have esg : sgB s seg = (lAt s.1 (i : Int)).2 := by unfold sgB; rw [ep]
    rw [e, bnd_s, iEq_y rfl, nt, sel_f]
    dsimp only
    rw [ep, oIn_y (by unfold lLen; omega), sel_t, ← esg, add_n (by omega) (by omega), oCut_y (by omega)]
    exact .inl ⟨hr', rfl⟩
  · rw [e, bnd_s, iEq_f hr, nf, sel_t]
    exact .inr ⟨hr, rfl⟩
/-- The error of moving bytes. -/
noncomputable def movE (x : PAG) (pool seg off n : Int) : Int := if ¬ (0 ≤ pool ∧ pool ≤ 2) then 3 else if rdE x.1 seg off n ≠ 0 then rdE x.1 seg off n else if bst x pool x.2.1.length = -1 then 40 else 0
/-- The error of an access. -/
noncomputable def accE (x : PAG) (kind pool seg off len : Int) (b : ByteArray) : Int :=
  if kind = 0 then (if b = bs [] then movE x pool seg off len else 5)
  else if kind = 1 then (if len = 0 then movE x pool seg off (sLen b) else 5)
  else if kind = 2 then (if pool = 0 ∧ off = 0 ∧ len = 0 ∧ b = bs [] then rdE x.1 seg 0 0 else 5)
  else if kind = 3 then (if pool = 0 ∧ seg = 0 ∧ off = 0 ∧ len = 0 ∧ b = bs [] then 0 else 5)
  else 4
theorem movE_eq {x : PAG} (hx : RT x) {pool seg off n : Int} (h1 : fits seg) (h2 : fits off) (h3 : fits n) :
    (letS (F32 pool 0 2) fun y12 =>
          sel (bNot y12)
            (some 3)
            (bndS (F66 x.1 (seg, off) n) fun y13 =>
            sel (bNot (iEq y13.2 0))
              (some y13.2)
              (bndS (F67 x pool) fun y14 =>
              sel (iLt y14 0)
                (some (40 : Int))
                (some 0)))) = some (movE x pool seg off n) := by
  unfold movE
  rw [let_s]
  by_cases hp : 0 ≤ pool ∧ pool ≤ 2
  · have w : F32 pool 0 2 = true := by unfold F32; rw [and_t, iLe_t, iLe_t]; exact hp
    rw [w, nt, sel_f, if_neg (fun h => h hp)]
    rcases F40_eq hx.few hx.sto h1 h2 h3 with ⟨hr, e⟩ | ⟨hr, e⟩
    · rw [e, bnd_s, iEq_y rfl, nt, sel_f, if_neg (fun h => h (rdE_ok.2 hr)), F59_eq x pool (by have := hx.n8; omega), bnd_s]
      rcases bst_in x pool x.2.1.length with h | ⟨h, _⟩
      · rw [h, iLt_y (by decide), if_pos rfl]; rfl
      · rw [iLt_f (by omega), if_neg (by omega)]; rfl
    · rw [e, bnd_s, iEq_f hr, nf, sel_t, if_pos hr]
  · have w : F32 pool 0 2 = false := by rw [bf_t]; unfold F32; rw [and_t, iLe_t, iLe_t]; exact hp
    rw [w, nf, sel_t, if_pos hp]
theorem sLen_nil : sLen (bs []) = 0 := by kernel_rfl
/-- The program's answer: the error of an access. -/
theorem F81_eq {x : PAG} (hx : RT x) {kind pool seg off len : Int} {b : ByteArray} (h1 : fits seg) (h2 : fits off) (h3 : fits len) (h4 : sLen b ≤ 400) : F39 x (kind, (pool, ((seg, off), (len, b)))) = some (accE x kind pool seg off len b) := by
  have hb := sLen_nn b
  unfold F39 accE
  dsimp only
  by_cases k0 : kind = 0
  · rw [iEq_y k0, sel_t, if_pos k0]
    by_cases hc : b = bs []
    · have : bAnd (iEq kind kind) (bAnd (iEq pool pool) (bAnd (iEq seg seg) (bAnd (iEq off off) (bAnd (iEq len len) (sEq b (bs [])))))) = true := by
        simp only [and_t, iEq_t, sEq_t]; exact ⟨trivial, trivial, trivial, trivial, trivial, hc⟩
      have e : iAdd .i64 len (sLen b) = len := by rw [hc, sLen_nil]; unfold fits at h3; rw [add_n (by omega) (by omega)]; omega
      rw [this, nt, sel_f, iEq_f (by omega), sel_f, iEq_f (by omega), sel_f, if_pos hc, e]
      exact movE_eq hx h1 h2 h3
    · have : bAnd (iEq kind kind) (bAnd (iEq pool pool) (bAnd (iEq seg seg) (bAnd (iEq off off) (bAnd (iEq len len) (sEq b (bs [])))))) = false := by
        rw [bf_t]; simp only [and_t, iEq_t, sEq_t]; rintro ⟨_, _, _, _, _, h⟩; exact hc h
      rw [this, nf, sel_t, if_neg hc]
  rw [iEq_f k0, sel_f, if_neg k0]
  by_cases k1 : kind = 1
  · rw [iEq_y k1, sel_t, if_pos k1]
    by_cases hc : len = 0
    · have : bAnd (iEq kind kind) (bAnd (iEq pool pool) (bAnd (iEq seg seg) (bAnd (iEq off off) (bAnd (iEq len 0) (sEq b b))))) = true := by
        simp only [and_t, iEq_t, sEq_t]; exact ⟨trivial, trivial, trivial, trivial, hc, trivial⟩
      have e : iAdd .i64 len (sLen b) = sLen b := by rw [hc, add_n (by omega) (by omega)]; omega
      rw [this, nt, sel_f, iEq_f (by omega), sel_f, iEq_f (by omega), sel_f, if_pos hc, e]
      exact movE_eq hx h1 h2 (by unfold fits; omega)
    · have : bAnd (iEq kind kind) (bAnd (iEq pool pool) (bAnd (iEq seg seg) (bAnd (iEq off off) (bAnd (iEq len 0) (sEq b b))))) = false := by
        rw [bf_t]; simp only [and_t, iEq_t, sEq_t]; rintro ⟨_, _, _, _, h, _⟩; exact hc h
      rw [this, nf, sel_t, if_neg hc]
  rw [iEq_f k1, sel_f, if_neg k1]
  by_cases k2 : kind = 2
  · rw [iEq_y k2, sel_t, if_pos k2]
    by_cases hc : pool = 0 ∧ off = 0 ∧ len = 0 ∧ b = bs []
    · have : bAnd (iEq kind kind) (bAnd (iEq pool 0) (bAnd (iEq seg seg) (bAnd (iEq off 0) (bAnd (iEq len 0) (sEq b (bs [])))))) = true := by
        simp only [and_t, iEq_t, sEq_t]; exact ⟨trivial, hc.1, trivial, hc.2⟩
      rw [this, nt, sel_f, iEq_f (by omega), sel_f, sel_t, if_pos hc]
      rcases F40_eq hx.few hx.sto (off := 0) (n := 0) h1 (by unfold fits; omega) (by unfold fits; omega) with ⟨hr, e⟩ | ⟨hr, e⟩
      · rw [e, bnd_s, rdE_ok.2 hr]
      · rw [e, bnd_s]
    · have : bAnd (iEq kind kind) (bAnd (iEq pool 0) (bAnd (iEq seg seg) (bAnd (iEq off 0) (bAnd (iEq len 0) (sEq b (bs [])))))) = false := by
        rw [bf_t]; simp only [and_t, iEq_t, sEq_t]; rintro ⟨_, a, _, c⟩; exact hc ⟨a, c⟩
      rw [this, nf, sel_t, if_neg hc]
  rw [iEq_f k2, sel_f, if_neg k2]
  by_cases k3 : kind = 3
  · rw [iEq_y k3, sel_t, if_pos k3]
    by_cases hc : pool = 0 ∧ seg = 0 ∧ off = 0 ∧ len = 0 ∧ b = bs []
    · have : bAnd (iEq kind kind) (bAnd (iEq pool 0) (bAnd (iEq seg 0) (bAnd (iEq off 0) (bAnd (iEq len 0) (sEq b (bs [])))))) = true := by
        simp only [and_t, iEq_t, sEq_t]; exact ⟨trivial, hc⟩
      rw [this, nt, sel_f, sel_t, if_pos hc]
    · have : bAnd (iEq kind kind) (bAnd (iEq pool 0) (bAnd (iEq seg 0) (bAnd (iEq off 0) (bAnd (iEq len 0) (sEq b (bs [])))))) = false := by
        rw [bf_t]; simp only [and_t, iEq_t, sEq_t]; rintro ⟨_, c⟩; exact hc c
      rw [this, nf, sel_t, if_neg hc]
  · rw [iEq_f k3, sel_f, if_neg k3]
end Go.Proofs.YtagcodkkkebnhaaGreat.K
end

section
set_option linter.unusedVariables false
set_option linter.unusedSimpArgs false
set_option linter.unnecessarySimpa false
open Go Go.Ev
namespace Go.Proofs.YtagcodkkkebnhaaGreat.K
abbrev z4' : Int × (Int × (Int × Int)) := (0, (0, (0, 0)))
def NB (x : PAG) : Prop := (0 ≤ x.2.2.2.1 ∧ x.2.2.2.1 ≤ 1200000000000000) ∧ (0 ≤ x.2.2.2.2.1 ∧ x.2.2.2.2.1 ≤ 1200000000000000) ∧ (0 ≤ x.2.2.2.2.2 ∧ x.2.2.2.2.2 ≤ 1200000000000000)
theorem SML_NB {x : PAG} (h : SML x) : NB x := by
  obtain ⟨h1, h2, h3⟩ := h
  unfold inN at h1 h2 h3
  unfold NB
  omega
theorem rem_nn {a : Int} (h : 0 ≤ a) : iRem a 32 = a % 32 := by unfold iRem; rw [Int.tmod_eq_emod_of_nonneg h]
theorem quo_nn {a : Int} (h : 0 ≤ a) (h2 : a ≤ 100000) : iQuo .i64 a 32 = a / 32 := by
  unfold iQuo; rw [Int.tdiv_eq_ediv_of_nonneg h]; exact wrap_fits (by unfold fits; omega)
/-- A round of the program's loop. -/
theorem B53_y {x y : PAG} {t : Nat} {kind pool seg off len n : Int} {b out : ByteArray} (h : BI x y t) (hN : NB x) (ht : t ≤ 1000) (hr : rdOK x.1 seg off n) (hx : RT x) (hpo : 0 ≤ pool ∧ pool ≤ 2) (hb : bst x pool x.2.1.length ≠ -1) (hk : kind = 0 ∨ sLen b = n) (ho : sLen out ≤ 1000) {a : Int} (ha : off ≤ a ∧ a < off + n) :
    B21_2 kind pool seg off len b 0 0 0 0 y.1.1 y.1.2 y.2.1 y.2.2.1 y.2.2.2.1 y.2.2.2.2.1 y.2.2.2.2.2 out n a = some (.inl ((kind, (pool, (seg, (off, (len, b))))), (z4', (opg (stp kind pool seg off n b y a), (outM kind pool seg off n y a out, (n, a + siz off n a)))))) := by
  obtain ⟨hN1, hN2, hN3⟩ := hN
  obtain ⟨hp, hb', k, ek, hu⟩ := stp_use h hN1.1 hr hpo hb ha
  obtain ⟨s1, s2, s3, s4⟩ := siz_pos ha hr.2.1
  obtain ⟨r1, r2, r3, r4⟩ := hr
  have hlen : sLen (sgB x.1 seg) ≤ 400 := by
    obtain ⟨i, hi, _, _, ep⟩ := place_in r1
    unfold sgB
    rw [ep]
    have := hx.few.2 i hi
    omega
  have htm := h.tm
  have hrd := h.rd
  have hwr := h.wr
  have e82 := F82_eq h.rt (by omega) (by omega) (by omega) hp hb'
  have hfl : sLen (fAt (useM y seg (a / 32) pool).1 k).2.2.2.2.2.1 = 32 := by
    obtain ⟨_, f, _⟩ := rf_used (hu.rt.fs k (by rw [hu.up.ln]; exact hu.kl)) hu.isk.1
    exact f
  have e6 : sel (iLt (off + n - a) (32 - a % 32)) (off + n - a) (32 - a % 32) = siz off n a := by
    unfold siz
    by_cases hc : off + n - a < 32 - a % 32
    · rw [iLt_y hc, if_pos hc]; rfl
    · rw [iLt_f hc, if_neg hc]; rfl
  unfold B21_2
  rw [add_n (a := off) (b := n) (by omega) (by omega), iLt_y ha.2, sel_t, show oNz 32 = true from rfl, sel_t, sel_t, rem_nn (by omega), quo_nn (by omega) (by omega), sub_n (a := off + n) (b := a) (by omega) (by omega), sub_n (a := 32) (b := a % 32) (by omega) (by omega), e6, add_n (a := a % 32) (b := siz off n a) (by omega) (by omega), add_n (a := a) (b := siz off n a) (by omega) (by omega), sub_n (a := a) (b := off) (by omega) (by omega), add_n (a := a - off) (b := siz off n a) (by omega) (by omega), e82, bnd_s]
  dsimp only [opg]
  unfold stp outM
  rw [ek]
  have hfl' : sLen (lAt (useM y seg (a / 32) pool).1.2.1 (k : Int)).2.2.2.2.2.1 = 32 := hfl
  have hkl : k < (useM y seg (a / 32) pool).1.2.1.length := by rw [hu.up.ln]; exact hu.kl
  by_cases hk0 : kind = 0
  · rw [iEq_y hk0, sel_t, if_pos hk0, if_pos hk0, hfl', oCut_y (by omega), sel_t, sOk_n (by rw [scut_len _ (by omega) (by omega) (by omega)]; omega), sel_t]
  · have hbn : sLen b = n := hk.resolve_left hk0
    have hc : sLen (sCut b (a - off) (a - off + siz off n a)) = siz off n a := by rw [scut_len _ (by omega) (by omega) (by omega)]; omega
    have hc0 : sLen (sCut (lAt (useM y seg (a / 32) pool).1.2.1 (k : Int)).2.2.2.2.2.1 0 (a % 32)) = a % 32 := by rw [scut_len _ (by omega) (by omega) (by omega)]; omega
    have hc1 : sLen (sCut (lAt (useM y seg (a / 32) pool).1.2.1 (k : Int)).2.2.2.2.2.1 (a % 32 + siz off n a) 32) ≤ 32 := by rw [scut_len _ (by omega) (by omega) (by omega)]; omega
    have ep : put (lAt (useM y seg (a / 32) pool).1.2.1 (k : Int)).2.2.2.2.2.1 (a % 32) (sCut b (a - off) (a - off + siz off n a)) = sAdd (sAdd (sCut (lAt (useM y seg (a / 32) pool).1.2.1 (k : Int)).2.2.2.2.2.1 0 (a % 32)) (sCut b (a - off) (a - off + siz off n a))) (sCut (lAt (useM y seg (a / 32) pool).1.2.1 (k : Int)).2.2.2.2.2.1 (a % 32 + siz off n a) 32) := by
      unfold put; rw [hc, hfl']
    rw [iEq_f hk0, sel_f, if_neg hk0, if_neg hk0, hfl', oCut_y (by omega), sel_t, oCut_y (by omega), sel_t, sOk_n (by rw [hc0, hc]; omega), sel_t, oCut_y (by omega), sel_t, sOk_n (by rw [sadd_len, hc0, hc]; omega), sel_t, ← ep, lSet_own _ _ _ hkl, lSet_two]
    rfl
theorem scut_all (b : ByteArray) : sCut b 0 (sLen b) = b := by
  refine by_inj ?_
  rw [by_cut, by_len]
  simp
theorem movM_end {kind pool seg off n : Int} {b : ByteArray} {y : PAG} {a : Int} {out : ByteArray} (h : ¬ a < off + n) : ∀ f, movM kind pool seg off n b f y a out = (y, out)
  | 0 => rfl
  | f + 1 => by unfold movM; rw [if_neg h]
theorem outM_len {x y : PAG} {t : Nat} {kind pool seg off n : Int} {out : ByteArray} (h : BI x y t) (ht : 0 ≤ x.2.2.2.1) (hr : rdOK x.1 seg off n) (hpo : 0 ≤ pool ∧ pool ≤ 2) (hb : bst x pool x.2.1.length ≠ -1) {a : Int} (ha : off ≤ a ∧ a < off + n) : sLen (outM kind pool seg off n y a out) ≤ sLen out + 32 := by
  obtain ⟨hp, hb', k, ek, hu⟩ := stp_use h ht hr hpo hb ha
  obtain ⟨s1, s2, s3, s4⟩ := siz_pos ha hr.2.1
  have hr2 := hr.2.1
  unfold outM
  split
  · have hfl : sLen (lAt (useM y seg (a / 32) pool).1.2.1 (k : Int)).2.2.2.2.2.1 = 32 := by
      obtain ⟨_, f, _⟩ := rf_used (hu.rt.fs k (by rw [hu.up.ln]; exact hu.kl)) hu.isk.1
      exact f
    rw [ek, sadd_len, scut_len _ (by omega) (by omega) (by omega)]
    omega
  · omega
theorem BI_0 {x : PAG} (hx : RT x) : BI x x 0 := ⟨hx, rfl, rfl, fun _ _ => rfl, by simp, by simp, by simp⟩
/-- The program's loop over the pages of an access. -/
theorem L53_eq {x : PAG} {kind pool seg off len n : Int} {b : ByteArray} (hx : RT x) (hN : NB x) (hr : rdOK x.1 seg off n) (hpo : 0 ≤ pool ∧ pool ≤ 2) (hb : bst x pool x.2.1.length ≠ -1) (hk : kind = 0 ∨ sLen b = n) : (∃ t, t ≤ 20 ∧ BI x (movM kind pool seg off n b 20 x off (bs [])).1 t) ∧ L21_2 ((kind, (pool, (seg, (off, (len, b))))), (z4', (opg x, (bs [], (n, off))))) = some (z4', (opg (movM kind pool seg off n b 20 x off (bs [])).1, (movM kind pool seg off n b 20 x off (bs [])).2)) := by
  have hlen : sLen (sgB x.1 seg) ≤ 400 := by
    obtain ⟨i, hi, _, _, ep⟩ := place_in hr.1
    unfold sgB
    rw [ep]
    have := hx.few.2 i hi
    omega
  have hr' := hr
  obtain ⟨r1, r2, r3, r4⟩ := hr
  have h : Ok (L21_2 ((kind, (pool, (seg, (off, (len, b))))), (z4', (opg x, (bs [], (n, off)))))) (fun r => (∃ t, t ≤ 20 ∧ BI x (movM kind pool seg off n b 20 x off (bs [])).1 t) ∧ r = (z4', (opg (movM kind pool seg off n b 20 x off (bs [])).1, (movM kind pool seg off n b 20 x off (bs [])).2))) := by
    refine loop_inv (fun m st => ∃ (f t : Nat) (y : PAG) (a : Int) (out : ByteArray), BI x y t ∧ off ≤ a ∧ a ≤ off + n ∧ sLen out ≤ 32 * t ∧ f + t = 20 ∧ (a < off + n → off + n - a + (if a % 32 = 0 then 0 else a % 32) ≤ 32 * f - 32 ∧ (t ≠ 0 → a % 32 = 0)) ∧ movM kind pool seg off n b f y a out = movM kind pool seg off n b 20 x off (bs []) ∧ st = ((kind, (pool, (seg, (off, (len, b))))), (z4', (opg y, (out, (n, a))))) ∧ m = f) 20 ⟨20, 0, x, off, bs [], BI_0 hx, by omega, by omega, by rw [sLen_nil]; simp, rfl, fun _ => ⟨by split <;> omega, fun h => absurd rfl h⟩, rfl, rfl, rfl⟩ (by omega) ?_
    rintro m st ⟨f, t, y, a, out, hB, ha1, ha2, ho, hft, hf, hm, rfl, rfl⟩
    show Ok (B21_2 kind pool seg off len b 0 0 0 0 y.1.1 y.1.2 y.2.1 y.2.2.1 y.2.2.2.1 y.2.2.2.2.1 y.2.2.2.2.2 out n a) _
    by_cases hlt : a < off + n
    · obtain ⟨hf1, hf2⟩ := hf hlt
      obtain ⟨g, rfl⟩ : ∃ g, m = g + 1 := ⟨m - 1, by split at hf1 <;> omega⟩
      obtain ⟨s1, s2, s3, s4⟩ := siz_pos ⟨ha1, hlt⟩ hr'.2.1
      have hB' := stp_BI hB hN.1.1 hr' hpo hb hk ⟨ha1, hlt⟩
      have hol := outM_len (kind := kind) (out := out) hB hN.1.1 hr' hpo hb ⟨ha1, hlt⟩
      rw [B53_y hB hN (by omega) hr' hx hpo hb hk (by omega) ⟨ha1, hlt⟩, ok_some]
      refine ⟨g, by omega, g, t + 1, stp kind pool seg off n b y a, a + siz off n a, outM kind pool seg off n y a out, hB', by omega, by omega, by omega, by omega, fun h => ?_, ?_, rfl, rfl⟩
      · have h32 : (a + siz off n a) % 32 = 0 := s4.resolve_left (by omega)
        rw [if_pos h32]
        refine ⟨?_, fun _ => h32⟩
        have hsz : a % 32 + siz off n a = 32 ∨ a + siz off n a = off + n := by unfold siz; split <;> omega
        split at hf1 <;> omega
      · rw [← hm]
        conv => rhs; unfold movM
        rw [if_pos hlt]
    · unfold B21_2
      rw [add_n (by omega) (by omega), iLt_f hlt, sel_f, ok_some, ← hm, movM_end hlt]
      exact ⟨⟨t, by omega, hB⟩, rfl⟩
  obtain ⟨r, e, h1, h2⟩ := h
  exact ⟨h1, by rw [e, h2]⟩
end Go.Proofs.YtagcodkkkebnhaaGreat.K
end

section
set_option linter.unusedVariables false
set_option linter.unusedSimpArgs false
set_option linter.unnecessarySimpa false
open Go Go.Ev
namespace Go.Proofs.YtagcodkkkebnhaaGreat.K
open Classical in
/-- The changed frames that are forced. -/
noncomputable def frc (x : PAG) (kind seg : Int) (L : List Int) : List Int := L.filter fun a => decide (kind = 3 ∨ (lAt x.2.1 a).2.2.2.1 = seg)
theorem frc_sub (x : PAG) (kind seg : Int) (L : List Int) : (frc x kind seg L).Sublist L := by unfold frc; exact List.filter_sublist
theorem frc_app (x : PAG) (kind seg : Int) (D : List Int) (a : Int) : frc x kind seg (D ++ [a]) = frc x kind seg D ++ (if kind = 3 ∨ (lAt x.2.1 a).2.2.2.1 = seg then [a] else []) := by
  unfold frc
  rw [List.filter_append]
  congr 1
  by_cases h : kind = 3 ∨ (lAt x.2.1 a).2.2.2.1 = seg
  · rw [if_pos h]; simp [h]
  · rw [if_neg h]; simp [h]
theorem usedIn_sub {x : PAG} {L M : List Int} (h : usedIn x L) (hs : M.Sublist L) : usedIn x M := fun a ha => h a (hs.subset ha)
theorem L53a_eq {x : PAG} (hx : RT x) (hN : NB x) {kind pool seg off : Int} {S : SEG} {L : List Int} (hL : L.Perm (chg x)) : L21_0 (opg x, ((kind, (pool, (seg, (off, S)))), (z4', (opg x, (bs [], (L, (lLen L, 0))))))) = some (z4', (opg ((frc x kind seg L).foldl sav x), bs [])) := by
  obtain ⟨h1, h2⟩ := chg_perm_used hx hL
  have h3 : L.length ≤ 8 := by have := hL.length_eq; have := chg_len hx; omega
  have hw : 0 ≤ x.2.2.2.2.2 ∧ x.2.2.2.2.2 ≤ 1200000000000000 := hN.2.2
  have h : Ok (L21_0 (opg x, ((kind, (pool, (seg, (off, S)))), (z4', (opg x, (bs [], (L, (lLen L, 0)))))))) (fun r => r = (z4', (opg ((frc x kind seg L).foldl sav x), bs []))) := by
    refine loop_inv (fun m y => ∃ D R : List Int, D ++ R = L ∧ y = (opg x, ((kind, (pool, (seg, (off, S)))), (z4', (opg ((frc x kind seg D).foldl sav x), (bs [], (L, (lLen L, (D.length : Int)))))))) ∧ m = R.length) L.length ⟨[], L, rfl, rfl, rfl⟩ (by omega) ?_
    rintro m y ⟨D, R, e, rfl, rfl⟩
    generalize hz : (frc x kind seg D).foldl sav x = z
    show Ok (B21_0 x.1.1 x.1.2 x.2.1 x.2.2.1 x.2.2.2.1 x.2.2.2.2.1 x.2.2.2.2.2 kind pool seg off S.1 S.2 0 0 0 0 z.1.1 z.1.2 z.2.1 z.2.2.1 z.2.2.2.1 z.2.2.2.2.1 z.2.2.2.2.2 (bs []) L (lLen L) (D.length : Int)) _
    unfold B21_0
    have hll : lLen L = (D.length : Int) + R.length := by unfold lLen; rw [← e]; simp
    cases R with
    | nil =>
      simp at e hll
      subst e
      rw [iLt_f (by omega), sel_f, ok_some, hz]
    | cons a R =>
      have hD : D.length ≤ 8 := by rw [← e] at h3; simp at h3; omega
      have e1 : lAt L (D.length : Int) = a := by rw [← e]; exact lAt_mid _ _ _
      obtain ⟨k, hk, rfl, hk2⟩ := h2 a (by rw [← e]; simp)
      rw [List.length_cons] at hll
      rw [iLt_y (by omega), sel_t, oIn_y (by omega), sel_t, e1, oIn_fr hk, or_tt, sel_t, add_n (by omega) (by omega)]
      have hfa := frc_app x kind seg D (k : Int)
      by_cases hc : kind = 3 ∨ (lAt x.2.1 (k : Int)).2.2.2.1 = seg
      · have w : bOr (iEq kind 3) (iEq (lAt x.2.1 (k : Int)).2.2.2.1 seg) = true := by rw [or_t, iEq_t, iEq_t]; exact hc
        rw [if_pos hc] at hfa
        have hsub : (frc x kind seg D ++ (k : Int) :: []).Sublist L := by
          rw [← e]
          refine List.Sublist.append (frc_sub _ _ _ _) ?_
          simp
        have hlen : (frc x kind seg D).length ≤ 8 := Nat.le_trans (frc_sub _ _ _ _).length_le hD
        rw [w, sel_t]
        have hv := savs_ok (L := frc x kind seg D) hx ((h1.sublist hsub).sublist (List.sublist_append_left _ _)) (fun b hb => usedIn_sub h2 hsub b (by simp [hb]))
        have hnm : ¬ (k : Int) ∈ frc x kind seg D := by
          intro h
          have := h1.sublist hsub
          rw [List.nodup_append] at this
          exact this.2.2 _ h _ (by simp) rfl
        rw [hz] at hv
        rw [F64_eq hv.rt (by rw [hv.ln]; exact hk) (by rw [hv.fs k hk, if_neg hnm]; exact hk2) (by rw [hv.wr]; omega), bnd_s, ok_some]
        refine ⟨R.length, by simp, D ++ [(k : Int)], R, by rw [← e]; simp, ?_, rfl⟩
        rw [hfa, List.foldl_append, hz]
        simp
      · have w : bOr (iEq kind 3) (iEq (lAt x.2.1 (k : Int)).2.2.2.1 seg) = false := by rw [bf_t, or_t, iEq_t, iEq_t]; exact hc
        rw [if_neg hc, List.append_nil] at hfa
        rw [w, sel_f, ok_some]
        refine ⟨R.length, by simp, D ++ [(k : Int)], R, by rw [← e]; simp, ?_, rfl⟩
        rw [hfa, hz]
        simp
  rw [ok_is] at h
  exact h
/-- The numbers of a memory are too large, as0 the program asks it. -/
theorem full_eq {z : PAG} (h : 0 ≤ z.2.2.2.1 ∧ 0 ≤ z.2.2.2.2.1 ∧ 0 ≤ z.2.2.2.2.2) : (SML z ∧ bOr (bOr (iLt 999999999999999 z.2.2.2.1) (iLt 999999999999999 z.2.2.2.2.1)) (iLt 999999999999999 z.2.2.2.2.2) = false) ∨ (¬ SML z ∧ bOr (bOr (iLt 999999999999999 z.2.2.2.1) (iLt 999999999999999 z.2.2.2.2.1)) (iLt 999999999999999 z.2.2.2.2.2) = true) := by
  by_cases hc : SML z
  · refine .inl ⟨hc, ?_⟩
    obtain ⟨a, b, c⟩ := hc
    unfold inN at *
    rw [bf_t, or_t, or_t, iLt_t, iLt_t, iLt_t]
    omega
  · refine .inr ⟨hc, ?_⟩
    unfold SML inN at hc
    rw [or_t, or_t, iLt_t, iLt_t, iLt_t]
    omega
def mvN (kind len : Int) (b : ByteArray) : Int := if kind = 0 then len else sLen b
theorem acc_bad {x : PAG} (hx : RT x) (hs : SML x) {kind pool seg off len : Int} {b : ByteArray} (h1 : fits seg) (h2 : fits off) (h3 : fits len) (h4 : sLen b ≤ 400) (he : accE x kind pool seg off len b ≠ 0) : F7 x (kind, (pool, ((seg, off), (len, b)))) = some (noP, (bs [], accE x kind pool seg off len b)) := by
  unfold F7 F21
  rw [(RT_check hx hs).1, bnd_s, iEq_y rfl, nt, sel_f, F81_eq hx h1 h2 h3 h4, bnd_s, iEq_f he, nf, sel_t, bnd_s]
  rfl
theorem movE_ok {x : PAG} {pool seg off n : Int} (h : movE x pool seg off n = 0) : (0 ≤ pool ∧ pool ≤ 2) ∧ rdOK x.1 seg off n ∧ bst x pool x.2.1.length ≠ -1 := by
  unfold movE at h
  split at h
  · cases h
  · rename_i h1
    split at h
    · rename_i h2; exact absurd h h2
    · rename_i h2
      split at h
      · cases h
      · rename_i h3
        exact ⟨Classical.not_not.1 h1, rdE_ok.1 (Classical.not_not.1 h2), h3⟩
theorem acc_mv {x : PAG} (hx : RT x) (hs : SML x) {kind pool seg off len : Int} {b : ByteArray} (hk : kind = 0 ∨ kind = 1) (h1 : fits seg) (h2 : fits off) (h3 : fits len) (h4 : sLen b ≤ 400) (he : accE x kind pool seg off len b = 0) :
    (0 ≤ pool ∧ pool ≤ 2) ∧ rdOK x.1 seg off (mvN kind len b) ∧ bst x pool x.2.1.length ≠ -1 ∧ (kind = 0 ∧ b = bs [] ∨ kind = 1 ∧ len = 0) ∧ (∃ t, t ≤ 20 ∧ BI x (movM kind pool seg off (mvN kind len b) b 20 x off (bs [])).1 t) ∧
    (SML (movM kind pool seg off (mvN kind len b) b 20 x off (bs [])).1 → F7 x (kind, (pool, ((seg, off), (len, b)))) = some (opg (movM kind pool seg off (mvN kind len b) b 20 x off (bs [])).1, ((movM kind pool seg off (mvN kind len b) b 20 x off (bs [])).2, 0))) ∧
    (¬ SML (movM kind pool seg off (mvN kind len b) b 20 x off (bs [])).1 → F7 x (kind, (pool, ((seg, off), (len, b)))) = some (noP, (bs [], 30))) := by
  have hbn := sLen_nn b
  have hN := SML_NB hs
  have e81 := F81_eq hx (kind := kind) (pool := pool) (b := b) h1 h2 h3 h4
  rw [he] at e81
  have key : movE x pool seg off (mvN kind len b) = 0 ∧ (kind = 0 ∧ b = bs [] ∨ kind = 1 ∧ len = 0) ∧ iAdd .i64 len (sLen b) = mvN kind len b := by
    unfold accE at he
    unfold mvN
    rcases hk with rfl | rfl
    · rw [if_pos rfl] at he ⊢
      split at he
      · rename_i hb
        refine ⟨he, .inl ⟨rfl, hb⟩, ?_⟩
        rw [hb, sLen_nil]; unfold fits at h3; rw [add_n (by omega) (by omega)]; omega
      · cases he
    · rw [if_neg (by decide), if_pos rfl] at he
      rw [if_neg (by decide)]
      split at he
      · rename_i hl
        refine ⟨he, .inr ⟨rfl, hl⟩, ?_⟩
        rw [hl, add_n (by omega) (by omega)]; omega
      · cases he
  obtain ⟨k1, k2, k3⟩ := key
  obtain ⟨p1, p2, p3⟩ := movE_ok k1
  have hkb : kind = 0 ∨ sLen b = mvN kind len b := by
    rcases hk with h | h
    · exact .inl h
    · right; unfold mvN; rw [if_neg (by omega)]
  obtain ⟨⟨t, ht, hB⟩, hL⟩ := L53_eq (len := len) hx hN p2 p1 p3 hkb
  refine ⟨p1, p2, p3, k2, ⟨t, ht, hB⟩, ?_⟩
  have hko : bOr (iEq kind 2) (iEq kind 3) = false := by rw [bf_t, or_t, iEq_t, iEq_t]; omega
  have e22 : F7 x (kind, (pool, ((seg, off), (len, b)))) = sel (bOr (bOr (iLt 999999999999999 (movM kind pool seg off (mvN kind len b) b 20 x off (bs [])).1.2.2.2.1) (iLt 999999999999999 (movM kind pool seg off (mvN kind len b) b 20 x off (bs [])).1.2.2.2.2.1)) (iLt 999999999999999 (movM kind pool seg off (mvN kind len b) b 20 x off (bs [])).1.2.2.2.2.2)) (some (noP, (bs [], 30))) (some (opg (movM kind pool seg off (mvN kind len b) b 20 x off (bs [])).1, ((movM kind pool seg off (mvN kind len b) b 20 x off (bs [])).2, 0))) := by
    unfold F7 F21
    rw [(RT_check hx hs).1, bnd_s, iEq_y rfl, nt, sel_f, e81, bnd_s, F51_RT hx, bnd_s]
    dsimp only
    rw [iEq_y rfl, nt, sel_f, hko, sel_f, k3, hL, bnd_s]
    generalize bOr (bOr _ _) _ = c
    cases c <;> rfl
  have hn1 : 0 ≤ x.2.2.2.1 := hN.1.1
  have hn2 : 0 ≤ x.2.2.2.2.1 := hN.2.1.1
  have hn3 : 0 ≤ x.2.2.2.2.2 := hN.2.2.1
  have htm := hB.tm
  have hrd := hB.rd
  have hwr := hB.wr
  rcases full_eq (z := (movM kind pool seg off (mvN kind len b) b 20 x off (bs [])).1) ⟨by omega, by omega, by omega⟩ with ⟨g1, g2⟩ | ⟨g1, g2⟩
  · exact ⟨fun _ => by rw [e22, g2, sel_f], fun h => absurd g1 h⟩
  · exact ⟨fun h => absurd h g1, fun _ => by rw [e22, g2, sel_t]⟩
theorem acc_fl {x : PAG} (hx : RT x) (hs : SML x) {kind pool seg off len : Int} {b : ByteArray} (hk : kind = 2 ∨ kind = 3) (h1 : fits seg) (h2 : fits off) (h3 : fits len) (h4 : sLen b ≤ 400) (he : accE x kind pool seg off len b = 0) :
    ∃ L, L.Perm (chg x) ∧ SV x ((frc x kind seg L).foldl sav x) (frc x kind seg L) ∧
    (SML ((frc x kind seg L).foldl sav x) → F7 x (kind, (pool, ((seg, off), (len, b)))) = some (opg ((frc x kind seg L).foldl sav x), (bs [], 0))) ∧
    (¬ SML ((frc x kind seg L).foldl sav x) → F7 x (kind, (pool, ((seg, off), (len, b)))) = some (noP, (bs [], 30))) := by
  have hN := SML_NB hs
  have e81 := F81_eq hx (kind := kind) (pool := pool) (b := b) h1 h2 h3 h4
  rw [he] at e81
  obtain ⟨L, e63, hL, _⟩ := F63_eq hx
  obtain ⟨g1, g2⟩ := chg_perm_used hx hL
  have hv := savs_ok hx (g1.sublist (frc_sub x kind seg L)) (usedIn_sub g2 (frc_sub x kind seg L))
  refine ⟨L, hL, hv, ?_⟩
  have hko : bOr (iEq kind 2) (iEq kind 3) = true := by rw [or_t, iEq_t, iEq_t]; exact hk
  generalize hz : (frc x kind seg L).foldl sav x = z at *
  have e22 : F7 x (kind, (pool, ((seg, off), (len, b)))) = sel (bOr (bOr (iLt 999999999999999 z.2.2.2.1) (iLt 999999999999999 z.2.2.2.2.1)) (iLt 999999999999999 z.2.2.2.2.2)) (some (noP, (bs [], 30))) (some (opg z, (bs [], 0))) := by
    have eL := L53a_eq hx hN (kind := kind) (pool := pool) (seg := seg) (off := off) (S := (len, b)) hL
    rw [hz] at eL
    unfold F7 F21
    rw [(RT_check hx hs).1, bnd_s, iEq_y rfl, nt, sel_f, e81, bnd_s, F51_RT hx, bnd_s]
    dsimp only
    rw [iEq_y rfl, nt, sel_f, hko, sel_t, e63, bnd_s, eL, bnd_s]
    generalize bOr (bOr _ _) _ = c
    cases c <;> rfl
  have hn1 : 0 ≤ x.2.2.2.1 := hN.1.1
  have hn2 : 0 ≤ x.2.2.2.2.1 := hN.2.1.1
  have hn3 : 0 ≤ x.2.2.2.2.2 := hN.2.2.1
  have htm := hv.tm
  have hrd := hv.rd
  have hwr := hv.wr
  rcases full_eq (z := z) ⟨by omega, by omega, by omega⟩ with ⟨g1, g2⟩ | ⟨g1, g2⟩
  · exact ⟨fun _ => by rw [e22, g2, sel_f], fun h => absurd g1 h⟩
  · exact ⟨fun h => absurd h g1, fun _ => by rw [e22, g2, sel_t]⟩
end Go.Proofs.YtagcodkkkebnhaaGreat.K
end

section
set_option linter.unusedVariables false
set_option linter.unusedSimpArgs false
set_option linter.unnecessarySimpa false
open Go Go.Ev
namespace Go.Proofs.YtagcodkkkebnhaaGreat.K
theorem isS_VW {x z : PAG} {t : STO} (hs : shp z.1 = shp x.1) (hv : VW x z) (h : isS z t) : isS x t :=
  ⟨h.1.trans hs, fun n j hp => by rw [h.2 n j (by rw [shp_place hs]; exact hp), hv n j hp]⟩
theorem isS_len {x : PAG} (hx : RT x) {t : STO} (h : isS x t) : t.1.length ≤ 1000000 := by
  have := shp_len h.1
  have := hx.few.1
  omega
theorem fits_s {n : Int} (h1 : -1000000 ≤ n) (h2 : n ≤ 1000000) : fits n := by unfold fits; omega
end Go.Proofs.YtagcodkkkebnhaaGreat.K
end

section
set_option linter.unusedVariables false
set_option linter.unusedSimpArgs false
set_option linter.unnecessarySimpa false
open Go Go.Ev
namespace Go.Proofs.YtagcodkkkebnhaaGreat.K
/-- What the steps of an access keep holds at its end. -/
theorem movM_ind {x : PAG} {kind pool seg off n : Int} {b : ByteArray} (ht : 0 ≤ x.2.2.2.1) (hr : rdOK x.1 seg off n) (hpo : 0 ≤ pool ∧ pool ≤ 2) (hb : bst x pool x.2.1.length ≠ -1) (hk : kind = 0 ∨ sLen b = n) (P : PAG → Int → ByteArray → Prop)
    (hs : ∀ t y a out, BI x y t → off ≤ a → a < off + n → P y a out → P (stp kind pool seg off n b y a) (a + siz off n a) (outM kind pool seg off n y a out)) :
    ∀ (f t : Nat) (y : PAG) (a : Int) (out : ByteArray), BI x y t → off ≤ a → a ≤ off + n → (a < off + n → off + n - a + a % 32 ≤ 32 * f - 32) → P y a out → P (movM kind pool seg off n b f y a out).1 (off + n) (movM kind pool seg off n b f y a out).2
  | 0, t, y, a, out, hB, h1, h2, hf, hP => by
    have : a = off + n := by
      rcases Int.lt_or_le a (off + n) with h | h
      · have := hf h; omega
      · omega
    subst this
    exact hP
  | f + 1, t, y, a, out, hB, h1, h2, hf, hP => by
    unfold movM
    split
    · rename_i hlt
      have hf' := hf hlt
      obtain ⟨s1, s2, s3, s4⟩ := siz_pos ⟨h1, hlt⟩ hr.2.1
      have hsz : a % 32 + siz off n a = 32 ∨ a + siz off n a = off + n := by unfold siz; split <;> omega
      refine movM_ind ht hr hpo hb hk P hs f (t + 1) _ _ _ (stp_BI hB ht hr hpo hb hk ⟨h1, hlt⟩) (by omega) (by omega) (fun h => ?_) (hs t y a out hB h1 hlt hP)
      have := s4.resolve_left (by omega)
      have := hsz.resolve_right (by omega)
      omega
    · rename_i hlt
      have : a = off + n := by omega
      subst this
      exact hP
theorem mov_len {x : PAG} (hx : RT x) {seg off n : Int} (hr : rdOK x.1 seg off n) : off + n ≤ 400 := by
  obtain ⟨i, hi, _, _, ep⟩ := place_in hr.1
  have h4 := hr.2.2.2
  unfold sgB at h4
  rw [ep] at h4
  have := hx.few.2 i hi
  omega
theorem movM_all {x : PAG} {kind pool seg off n : Int} {b : ByteArray} (hx : RT x) (ht : 0 ≤ x.2.2.2.1) (hr : rdOK x.1 seg off n) (hpo : 0 ≤ pool ∧ pool ≤ 2) (hb : bst x pool x.2.1.length ≠ -1) (hk : kind = 0 ∨ sLen b = n) (P : PAG → Int → ByteArray → Prop)
    (h0 : P x off (bs []))
    (hs : ∀ t y a out, BI x y t → off ≤ a → a < off + n → P y a out → P (stp kind pool seg off n b y a) (a + siz off n a) (outM kind pool seg off n y a out)) :
    P (movM kind pool seg off n b 20 x off (bs [])).1 (off + n) (movM kind pool seg off n b 20 x off (bs [])).2 := by
  have := mov_len hx hr
  have h2 := hr.2.1
  have h3 := hr.2.2.1
  exact movM_ind ht hr hpo hb hk P hs 20 0 x off (bs []) (BI_0 hx) (by omega) (by omega) (fun _ => by omega) h0
theorem movM_one {x : PAG} {kind pool seg off n : Int} {b out : ByteArray} (hn : 0 < n) (h : off % 32 + n ≤ 32) : movM kind pool seg off n b 20 x off out = (stp kind pool seg off n b x off, outM kind pool seg off n x off out) := by
  have e : siz off n off = n := by unfold siz; split <;> omega
  unfold movM
  rw [if_pos (by omega), e, movM_end (by omega)]
/-- A step of an access leaves its page in memory. -/
theorem stp_in {x y : PAG} {t : Nat} {kind pool seg off n : Int} {b : ByteArray} (h : BI x y t) (ht : 0 ≤ x.2.2.2.1) (hr : rdOK x.1 seg off n) (hpo : 0 ≤ pool ∧ pool ≤ 2) (hb : bst x pool x.2.1.length ≠ -1) (hk : kind = 0 ∨ sLen b = n) {a : Int} (ha : off ≤ a ∧ a < off + n) : ∃ k, k < (stp kind pool seg off n b y a).2.1.length ∧ isK (fAt (stp kind pool seg off n b y a) k) seg (a / 32) := by
  obtain ⟨hp, hb', k, e, hu⟩ := stp_use h ht hr hpo hb ha
  obtain ⟨s1, s2, s3, s4⟩ := siz_pos ha hr.2.1
  have hkl : k < (useM y seg (a / 32) pool).1.2.1.length := by rw [hu.up.ln]; exact hu.kl
  unfold stp
  split
  · exact ⟨k, hkl, hu.isk⟩
  · rename_i hk0
    have hbn : sLen b = n := hk.resolve_left hk0
    have h0 := hr.2.1
    obtain ⟨q, hq⟩ := Int.eq_ofNat_of_zero_le (show 0 ≤ a / 32 by omega)
    obtain ⟨r, hr'⟩ := Int.eq_ofNat_of_zero_le (show 0 ≤ a % 32 by omega)
    have hc : sLen (sCut b (a - off) (a - off + siz off n a)) = siz off n a := by rw [scut_len _ (by omega) (by omega) (by omega)]; omega
    have hK : isK (fAt (useM y seg (a / 32) pool).1 k) seg (q : Int) := by rw [← hq]; exact hu.isk
    rw [e, hr']
    obtain ⟨w1, w2, w3, w4, _⟩ := wrt_ok (v := sCut b (a - off) (a - off + siz off n a)) (a := r) hu.rt hkl hK (by rw [hc]; omega)
    exact ⟨k, by rw [w2.ln]; exact hkl, by rw [hq]; rw [hq] at w3; exact w3⟩
theorem F23_eq {x : PAG} (hx : RT x) (hs : SML x) {n p : Int} (hp : hasP x.1 n p) : ∃ m, F18 x n p = some (if fidx n p x.2.1 = -1 then (0, (0, 40)) else (fidx n p x.2.1, (m, 0))) := by
  obtain ⟨m, e⟩ := F55_eq hx hp
  refine ⟨m, ?_⟩
  unfold F18
  rw [(RT_check hx hs).1, bnd_s, iEq_y rfl, nt, sel_f, F54_y hx.few hp, bnd_s, nt, sel_f, e, bnd_s]
  dsimp only
  rcases fidx_cases n p x.2.1 with ⟨k, _, _, e⟩ | ⟨_, e⟩
  · rw [e, iLt_f (by omega), if_neg (by omega)]; rfl
  · rw [e, iLt_y (by decide), if_pos rfl]; rfl
end Go.Proofs.YtagcodkkkebnhaaGreat.K
end

section
set_option linter.unusedVariables false
set_option linter.unusedSimpArgs false
set_option linter.unnecessarySimpa false
open Go Go.Ev
namespace Go.Proofs.YtagcodkkkebnhaaGreat.K
theorem byt_add (a b : ByteArray) (j : Nat) : byt (sAdd a b) j = if (j : Int) < sLen a then byt a j else byt b (j - (sLen a).toNat) := by
  unfold byt
  rw [by_add, by_len]
  split
  · rw [List.getElem?_append_left (by omega)]
  · rw [List.getElem?_append_right (by omega)]
    congr 1
/-- What an access that reads gives. -/
theorem mv_read {x : PAG} {pool seg n : Int} {o : Nat} {b : ByteArray} (hx : RT x) (ht : 0 ≤ x.2.2.2.1) (hr : rdOK x.1 seg (o : Int) n) (hpo : 0 ≤ pool ∧ pool ≤ 2) (hb : bst x pool x.2.1.length ≠ -1) : VW x (movM 0 pool seg o n b 20 x o (bs [])).1 ∧ sLen (movM 0 pool seg o n b 20 x o (bs [])).2 = n ∧ ∀ j : Nat, (j : Int) < n → byt (movM 0 pool seg o n b 20 x o (bs [])).2 j = vb x seg (o + j) := by
  have h := movM_all (b := b) hx ht hr hpo hb (.inl rfl) (fun y a out => VW x y ∧ sLen out = a - o ∧ ∀ j : Nat, (j : Int) < a - o → byt out j = vb x seg (o + j)) ⟨fun _ _ _ => rfl, by rw [sLen_nil]; omega, fun j h => by omega⟩ ?_
  · obtain ⟨h1, h2, h3⟩ := h
    exact ⟨h1, by rw [h2]; omega, fun j hj => h3 j (by omega)⟩
  · rintro t y a out hB ha1 ha2 ⟨hv, hl, hj⟩
    obtain ⟨hp, hb', k, ek, hu⟩ := stp_use hB ht hr hpo hb ⟨ha1, ha2⟩
    obtain ⟨s1, s2, s3, s4⟩ := siz_pos ⟨ha1, ha2⟩ hr.2.1
    have hkl : k < (useM y seg (a / 32) pool).1.2.1.length := by rw [hu.up.ln]; exact hu.kl
    obtain ⟨_, hfl, _⟩ := rf_used (hu.rt.fs k hkl) hu.isk.1
    have es : stp 0 pool seg o n b y a = (useM y seg (a / 32) pool).1 := by unfold stp; rw [if_pos rfl]
    have eo : outM 0 pool seg o n y a out = sAdd out (sCut (fAt (useM y seg (a / 32) pool).1 k).2.2.2.2.2.1 (a % 32) (a % 32 + siz o n a)) := by unfold outM; rw [if_pos rfl, ek]
    rw [es, eo]
    have hV : VW x (useM y seg (a / 32) pool).1 := hv.trans hu.vw hB.sh
    obtain ⟨r, er⟩ := Int.eq_ofNat_of_zero_le (show 0 ≤ a % 32 by omega)
    obtain ⟨z, ez⟩ := Int.eq_ofNat_of_zero_le (show 0 ≤ siz o n a by omega)
    refine ⟨hV, ?_, fun j hj2 => ?_⟩
    · rw [sadd_len, scut_len _ (by omega) (by omega) (by omega)]; omega
    · rw [byt_add]
      split
      · exact hj j (by omega)
      · rename_i hnl
        rw [er, ez, show (r : Int) + (z : Int) = ((r + z : Nat) : Int) by omega, byt_cut, if_pos (by omega), ← hV seg (o + j) hr.1]
        have hK : isK (fAt (useM y seg (a / 32) pool).1 k) seg (((o + j : Nat) : Int) / 32) := by
          rw [show ((o + j : Nat) : Int) / 32 = a / 32 by omega]; exact hu.isk
        rw [vb_y hu.rt.un hkl hK]
        congr 1
        omega
/-- What an access that writes leaves. -/
theorem mv_write {x : PAG} {pool seg : Int} {o : Nat} {b : ByteArray} (hx : RT x) (ht : 0 ≤ x.2.2.2.1) (hr : rdOK x.1 seg (o : Int) (sLen b)) (hpo : 0 ≤ pool ∧ pool ≤ 2) (hb : bst x pool x.2.1.length ≠ -1) (m : Int) (j : Nat) (hm : 0 ≤ place x.1.1 m) : vb (movM 1 pool seg o (sLen b) b 20 x o (bs [])).1 m j = if m = seg ∧ o ≤ j ∧ j < o + sLen b then byt b (j - o) else vb x m j := by
  have h := movM_all (b := b) (kind := 1) hx ht hr hpo hb (.inr rfl) (fun y a _ => ∀ (m : Int) (j : Nat), 0 ≤ place x.1.1 m → vb y m j = if m = seg ∧ o ≤ j ∧ j < a then byt b (j - o) else vb x m j) (fun m j _ => by rw [if_neg (by omega)]) ?_
  · exact h m j hm
  · rintro t y a out hB ha1 ha2 hj m j hm
    obtain ⟨hp, hb', k, ek, hu⟩ := stp_use hB ht hr hpo hb ⟨ha1, ha2⟩
    obtain ⟨s1, s2, s3, s4⟩ := siz_pos ⟨ha1, ha2⟩ hr.2.1
    have hkl : k < (useM y seg (a / 32) pool).1.2.1.length := by rw [hu.up.ln]; exact hu.kl
    obtain ⟨r, er⟩ := Int.eq_ofNat_of_zero_le (show 0 ≤ a % 32 by omega)
    obtain ⟨q, eq⟩ := Int.eq_ofNat_of_zero_le (show 0 ≤ a / 32 by omega)
    obtain ⟨w, ew⟩ := Int.eq_ofNat_of_zero_le (show 0 ≤ a - (o : Int) by omega)
    obtain ⟨z, ez⟩ := Int.eq_ofNat_of_zero_le (show 0 ≤ siz o (sLen b) a by omega)
    have es : stp 1 pool seg o (sLen b) b y a = wrt (useM y seg (a / 32) pool).1 k r (sCut b w ((w + z : Nat) : Int)) := by
      unfold stp
      rw [if_neg (by decide), ek, er, ew, ez]
      congr 1
    have hc : sLen (sCut b w ((w + z : Nat) : Int)) = z := by rw [scut_len _ (by omega) (by omega) (by omega)]; omega
    have hK : isK (fAt (useM y seg (a / 32) pool).1 k) seg (q : Int) := by rw [← eq]; exact hu.isk
    obtain ⟨_, _, _, _, hv⟩ := wrt_ok (v := sCut b w ((w + z : Nat) : Int)) (a := r) hu.rt hkl hK (by rw [hc]; omega)
    have hmy : 0 ≤ place y.1.1 m := by rw [shp_place hB.sh]; exact hm
    rw [es, hv m j (by rw [shp_place hu.up.sh]; exact hmy), hc, hu.vw m j hmy, hj m j hm]
    by_cases h1 : m = seg ∧ q * 32 + r ≤ j ∧ (j : Int) < q * 32 + r + z
    · rw [if_pos h1, if_pos ⟨h1.1, by omega, by omega⟩, byt_cut, if_pos (by omega)]
      congr 1
      omega
    · rw [if_neg h1]
      by_cases h2 : m = seg ∧ o ≤ j ∧ (j : Int) < a
      · rw [if_pos h2, if_pos ⟨h2.1, h2.2.1, by omega⟩]
      · rw [if_neg h2, if_neg]
        rintro ⟨h3, h4, h5⟩
        have : ¬ (j : Int) < a := fun h => h2 ⟨h3, h4, h⟩
        exact h1 ⟨h3, by omega, by omega⟩
end Go.Proofs.YtagcodkkkebnhaaGreat.K
end

section
set_option linter.unusedVariables false
set_option linter.unusedSimpArgs false
set_option linter.unnecessarySimpa false
open Go Go.Ev
namespace Go.Proofs.YtagcodkkkebnhaaGreat.K
abbrev ACC := Int × (Int × ((Int × Int) × (Int × ByteArray)))
def lightA (l : List ACC) (i : Nat) : Prop := i ≤ 41 ∧ sLen (lAt l (i : Int)).2.2.2.2 ≤ 400
theorem F39_eq (l : List ACC) : (F11 l = some true ∧ ∀ i, i < l.length → lightA l i) ∨ F11 l = some false := by
  have hll : lLen l = (l.length : Int) := rfl
  have h : Ok (L11_0 (l, 0)) (fun r => (r = .inl () ∧ ∀ i, i < l.length → lightA l i) ∨ r = .inr false) := by
    refine loop_inv (fun m y => ∃ i : Nat, i ≤ 42 ∧ i ≤ l.length ∧ (∀ k, k < i → lightA l k) ∧ y = (l, (i : Int)) ∧ m = 43 - i) 43 ⟨0, by omega, by omega, fun k h => by omega, rfl, rfl⟩ (by omega) ?_
    rintro m y ⟨i, h1, h2, h3, rfl, rfl⟩
    show Ok (B11_0 l i) _
    unfold B11_0
    by_cases hi : i < l.length
    · rw [iLt_y (a := (i : Int)) (b := lLen l) (by omega), sel_t, oIn_y (by omega), or_tt, sel_t]
      by_cases hc : lightA l i
      · obtain ⟨c1, c2⟩ := hc
        rw [iLt_f (by omega), or_ff, iLt_f (by omega), sel_f, add_n (by omega) (by omega), ok_some]
        refine ⟨43 - (i + 1), by omega, i + 1, by omega, by omega, fun k hk => ?_, rfl, rfl⟩
        rcases Nat.lt_or_ge k i with h | h
        · exact h3 k h
        · obtain rfl : k = i := by omega
          exact ⟨c1, c2⟩
      · have w : bOr (iLt 41 (i : Int)) (iLt 400 (sLen (lAt l (i : Int)).2.2.2.2)) = true := by
          rw [or_t, iLt_t, iLt_t]
          unfold lightA at hc
          omega
        rw [w, sel_t, ok_some]
        exact .inr rfl
    · rw [iLt_f (by omega), sel_f, ok_some]
      exact .inl ⟨rfl, fun k hk => h3 k (by omega)⟩
  unfold F11
  obtain ⟨r, e, ⟨rfl, h⟩ | rfl⟩ := h
  · rw [e]; exact .inl ⟨rfl, h⟩
  · rw [e]; exact .inr rfl
theorem isS_rd {x : PAG} {S : STO} (h : isS x S) {seg off n : Int} (hr : rdOK x.1 seg off n) : rdOK S seg off n := by
  have e := shp_place h.1 seg
  refine ⟨by rw [e]; exact hr.1, hr.2.1, hr.2.2.1, ?_⟩
  rw [shp_sg h.1 (by rw [e]; exact hr.1)]
  exact hr.2.2.2
theorem lAt_in {α : Type} [Inhabited α] {l : List α} {i : Nat} (h : i < l.length) : lAt l (i : Int) ∈ l := by rw [lAt_lt h]; exact List.getElem_mem h
end Go.Proofs.YtagcodkkkebnhaaGreat.K
end

section
set_option linter.unusedVariables false
set_option linter.unusedSimpArgs false
set_option linter.unnecessarySimpa false
open Go Go.Ev
namespace Go.Proofs.YtagcodkkkebnhaaGreat.K
theorem RT_rightF {x : PAG} (h : RT x) (i : Nat) (hi : i < x.2.1.length) : rightF x i := by
  obtain ⟨⟨a, b⟩, c⟩ := h.fs i hi
  refine ⟨a, b, ?_⟩
  rcases c with c | ⟨c1, c2, c3, ⟨c5, c6⟩, c7⟩
  · exact .inl c
  · refine .inr ⟨c1, c2, c3, fun k hk ht => ?_, c5, c6, c7⟩
    have := h.un _ _ k i (by omega) hi ⟨ht.1, ht.2.1, ht.2.2⟩ ⟨c1, rfl, rfl⟩
    omega
/-- The specification's taking a frame out of its chain. -/
theorem out_eq {x : PAG} {i : Nat} (hx : RT x) (hi : i < x.2.1.length) (hu : (fAt x i).2.1 = true) : F96 x.1.1 x.1.2 x.2.1 x.2.2.1 x.2.2.2.1 x.2.2.2.2.1 x.2.2.2.2.2 i = some (opg (cutF x i)) := by
  obtain ⟨c, hc, hb, l1, l2, hl, hcs⟩ := cutF_cases hx hi hu
  have hn' : x.2.1.length ≤ 1000 := by have := hx.n8; omega
  have hn : ¬ (i : Int) ∈ l1 := by
    intro h
    have := hl.2.1
    rw [List.nodup_append] at this
    exact this.2.2 _ h _ (by simp) rfl
  have hch : oIn (c : Int) (lLen x.2.2.1) = true := oIn_y (by unfold lLen; rw [hx.h5]; omega)
  unfold F96
  have e78 : F78 (lAt x.2.1 (i : Int)).2.2.2.1 (lAt x.2.1 (i : Int)).2.2.2.2.1 = some (c : Int) := (F76_eq (fAt x i)).trans (by rw [hb])
  rw [oIn_fr hi, sel_t, e78, bnd_s, hch, sel_t]
  rcases hcs with ⟨rfl, e⟩ | ⟨l0, b, rfl, b1, b2, b3, b4, b5, e⟩
  · have h0 : lAt x.2.2.1 (c : Int) = (i : Int) := hl.1.1
    rw [iEq_y h0, sel_t, sel_t, e]
    rfl
  · have hlen := CH_len hl hn'
    have h0 : ¬ lAt x.2.2.1 (c : Int) = (i : Int) := by
      intro h0
      have hp := hl.1
      cases l0 with
      | nil => exact hn (by rw [← h0, hp.1]; simp)
      | cons d r => exact hn (by rw [← h0, hp.1]; simp)
    have e94 : F94 x (c : Int) = some (l0 ++ [(b : Int)] ++ (i : Int) :: l2) := by
      unfold F94
      rw [F48_eq hl hn' hch]
      rfl
    have hl1 : lAt (l0 ++ [(b : Int)] ++ (i : Int) :: l2) ((l0 ++ [(b : Int)]).length : Int) = (i : Int) := lAt_mid _ _ _
    have hl2 : lAt (l0 ++ [(b : Int)] ++ (i : Int) :: l2) (l0.length : Int) = (b : Int) := by
      rw [List.append_assoc]; exact lAt_mid _ _ _
    have e77 : F77 (l0 ++ [(b : Int)] ++ (i : Int) :: l2) (i : Int) = some ((l0 ++ [(b : Int)]).length : Int) := by
      rcases F75_eq (l0 ++ [(b : Int)] ++ (i : Int) :: l2) (i : Int) (by omega) with ⟨j, j1, j2, j3, e⟩ | ⟨j1, _⟩
      · rw [e]
        have hle : ¬ (l0 ++ [(b : Int)]).length < j := fun h => j3 _ h hl1
        have hge : ¬ j < (l0 ++ [(b : Int)]).length := by
          intro h
          apply hn
          rw [← j2]
          have : lAt (l0 ++ [(b : Int)] ++ (i : Int) :: l2) (j : Int) = lAt (l0 ++ [(b : Int)]) (j : Int) := by
            rw [lAt_n, lAt_n, List.getElem?_append_left h]
          rw [this]
          exact lAt_in h
        congr 2
        omega
      · exact absurd hl1 (j1 _ (by simp))
    rw [iEq_f h0, sel_f]
    show bndS (F94 x (c : Int)) _ = _
    rw [e94, bnd_s, e77, bnd_s]
    have e1 : iSub .i64 ((l0 ++ [(b : Int)]).length : Int) 1 = (l0.length : Int) := by
      simp at hlen
      have : ((l0 ++ [(b : Int)]).length : Int) = (l0.length : Int) + 1 := by simp
      rw [this, sub_n (by omega) (by omega)]
      omega
    rw [e1, oIn_y (by unfold lLen; simp; omega), sel_t, hl2, oIn_fr b1, sel_t, e]
    rfl
/-- Only the frame's own place in the table matters when it is freed. -/
theorem fre_cut {x : PAG} {v : Nat} {g : FRM} (hx : RT x) (hv : v < x.2.1.length) (hu : (fAt x v).2.1 = true) (hf : fk g = fk (fAt x v)) (hn : g.2.2.2.2.2.2.2 = (fAt x v).2.2.2.2.2.2.2) (hp : g.1 = (fAt x v).1) : fre (cutF (frS x v g) v) v = fre (cutF x v) v := by
  have ek := frS_at hv g
  have ei : fAt (frS x v g) v = g := by rw [ek, if_pos rfl]
  have hln : (frS x v g).2.1.length = x.2.1.length := by show (lSet _ _ _).length = _; unfold lSet; simp
  have hfk : ∀ k, k < x.2.1.length → fk (fAt (frS x v g) k) = fk (fAt x k) ∧ nxt (frS x v g) (k : Int) = nxt x (k : Int) := by
    intro k hk
    show fk (fAt (frS x v g) k) = _ ∧ (fAt (frS x v g) k).2.2.2.2.2.2.2 = (fAt x k).2.2.2.2.2.2.2
    rw [ek]
    split
    · rename_i h; subst h; exact ⟨hf, hn⟩
    · exact ⟨rfl, rfl⟩
  obtain ⟨c, hc, hb, l1, l2, hl, hcs⟩ := cutF_cases hx hv hu
  have hb' : bk (lAt (frS x v g).2.1 (v : Int)) = (c : Int) := by
    have : bk (fAt (frS x v g) v) = bk (fAt x v) := fk_bk (by rw [ei]; exact hf)
    exact this.trans hb
  have hl' : CH (frS x v g) (c : Int) (l1 ++ (v : Int) :: l2) := by
    refine ⟨path_congr (fun b hb => ?_) hl.1, hl.2.1, fun b hb => ?_⟩
    · obtain ⟨k, k1, rfl, _⟩ := gd_nat (hl.2.2 b hb)
      exact (hfk k k1).2
    · obtain ⟨k, k1, rfl, _⟩ := gd_nat (hl.2.2 b hb)
      exact gd_congr hln (hfk k k1).1 (hl.2.2 _ hb)
  have hnm : ¬ (v : Int) ∈ l1 := by
    intro h
    have := hl.2.1
    rw [List.nodup_append] at this
    exact this.2.2 _ h _ (by simp) rfl
  have hnv : nxt (frS x v g) (v : Int) = nxt x (v : Int) := (hfk v hv).2
  have e : (chn (frS x v g) (bk (lAt (frS x v g).2.1 (v : Int)))).takeWhile (fun b => decide (b ≠ (v : Int))) = l1 := by
    rw [hb', chn_eq hl', take_to hnm]
  have hc2 : cutF (frS x v g) v = match l1.getLast? with
      | none => (x.1, (lSet x.2.1 (v : Int) g, (lSet x.2.2.1 (c : Int) (nxt x v), x.2.2.2)))
      | some b => (x.1, (lSet (lSet x.2.1 (v : Int) g) b (setN (lAt (lSet x.2.1 (v : Int) g) b) (nxt x v)), x.2.2)) := by
    unfold cutF
    rw [e, hb', hnv]
    rfl
  rw [hc2]
  rcases hcs with ⟨rfl, e2⟩ | ⟨l0, b, rfl, b1, b2, b3, b4, b5, e2⟩
  · rw [e2]
    unfold fre
    dsimp only [List.getLast?_nil]
    rw [lSet_two, lSet_own _ _ _ hv, hp]
  · rw [e2]
    have : (l0 ++ [(b : Int)]).getLast? = some (b : Int) := by simp
    rw [this]
    unfold fre
    dsimp only
    have hbv : (b : Int) ≠ (v : Int) := by omega
    have e3 : lAt (lSet x.2.1 (v : Int) g) (b : Int) = lAt x.2.1 (b : Int) := by rw [set_at _ _ _ _ hv, if_neg b2]
    have hv2 : v < (lSet x.2.1 (b : Int) (setN (lAt x.2.1 (b : Int)) (nxt x v))).length := by unfold lSet; simp; exact hv
    have e4 : lAt (lSet (lSet x.2.1 (v : Int) g) (b : Int) (setN (lAt x.2.1 (b : Int)) (nxt x v))) (v : Int) = g := by
      rw [set_at _ _ _ _ (by unfold lSet; simp; exact b1), if_neg (Ne.symm b2), lSet_own _ _ _ hv]
    have e5 : lAt (lSet x.2.1 (b : Int) (setN (lAt x.2.1 (b : Int)) (nxt x v))) (v : Int) = fAt x v := by
      rw [set_at _ _ _ _ b1, if_neg (Ne.symm b2)]
    rw [e3, e4, e5, hp]
    have e6 : ∀ f : FRM, lSet (lSet (lSet x.2.1 (v : Int) g) (b : Int) f) (v : Int) (fr (fAt x v).1) = lSet (lSet x.2.1 (b : Int) f) (v : Int) (fr (fAt x v).1) := by
      intro f
      unfold lSet
      rw [List.set_comm _ _ (by omega : (v : Int).toNat ≠ (b : Int).toNat), List.set_set]
    rw [e6]
/-- A page is written, its frame not yet told so. -/
def savC (x : PAG) (i : Int) : PAG := ((sav x i).1, (x.2.1, (x.2.2.1, (x.2.2.2.1, (x.2.2.2.2.1, x.2.2.2.2.2 + 1)))))
theorem savC_eq {x : PAG} {i : Nat} (hi : i < x.2.1.length) : savC x i = frS (sav x i) i (fAt x i) := by
  unfold savC frS sav
  dsimp only
  rw [lSet_two]
  have : lSet x.2.1 (i : Int) (fAt x i) = x.2.1 := by
    unfold lSet fAt
    rw [lAt_lt hi, Int.toNat_natCast, List.set_getElem_self]
  rw [this]
theorem savC_RT {x : PAG} {i : Nat} (hx : RT x) (hi : i < x.2.1.length) (hu : (fAt x i).2.1 = true) (hc : (fAt x i).2.2.1 = true) : RT (savC x i) ∧ fre (cutF (savC x i) i) i = fre (cutF (sav x i) i) i := by
  have u := sav_up hx hi hu
  have r := (sav_RT hx hi hu).1
  have ea := sav_at (x := x) hi
  have hi' : i < (sav x i).2.1.length := by rw [u.ln]; exact hi
  obtain ⟨f1, f2, f3, f4⟩ := rf_used (hx.fs i hi) hu
  rw [savC_eq hi]
  refine ⟨frS_RT r hi' (by rw [ea]) (by rw [ea]) ⟨(hx.fs i hi).1, .inr ⟨hu, ?_, f2, f3, fun h => ?_⟩⟩, fre_cut r hi' (by rw [ea]; exact hu) (by rw [ea]) (by rw [ea]) (by rw [ea])⟩
  · rw [shp_hasP u.sh]; exact f1
  · rw [hc] at h; cases h
/-- A result in one of the two forms of the specification. -/
def uR {α : Type} (y : PAG) (k : α) (r : ((List SEG × (Int × REST)) × α) ⊕ (((List SEG × (Int × REST)) × List SEG) × α)) : Prop := r = .inl (opg y, k) ∨ ∃ s, r = .inr ((opg y, s), k)
theorem load_eq {x : PAG} {n p pool : Int} (rt : RT x) (hr : 0 ≤ x.2.2.2.2.1 ∧ x.2.2.2.2.1 ≤ 1500000000000000) (hw : 0 ≤ x.2.2.2.2.2 ∧ x.2.2.2.2.2 ≤ 1500000000000000) (hp : hasP x.1 n p) {v c : Nat} (hv : v < x.2.1.length) (ev : bst x pool x.2.1.length = (v : Int)) (hc : c < 5) (ec : bkk n p = (c : Int)) :
    ∃ (z : PAG) (r : ((List SEG × (Int × REST)) × Int) ⊕ (((List SEG × (Int × REST)) × List SEG) × Int)), v < z.2.1.length ∧ z.2.2.2.1 = x.2.2.2.1 ∧ lod (rdy x v) v n p pool = lod (fre z v) v n p pool ∧
      F82 x.1.1 x.1.2 x.2.1 x.2.2.1 x.2.2.2.1 x.2.2.2.2.1 x.2.2.2.2.2 (n, (p, pool)) = some r ∧
      uR (z.1, (lSet z.2.1 (v : Int) (pool, (true, (false, (n, (p, (pageAt z.1 n p, (0, lAt z.2.2.1 (c : Int)))))))), (lSet z.2.2.1 (c : Int) (v : Int), (z.2.2.2.1, (z.2.2.2.2.1 + 1, z.2.2.2.2.2))))) (v : Int) r := by
  have e78 : F78 n p = some (c : Int) := by rw [← ec]; rfl
  have hch : oIn (c : Int) (lLen x.2.2.1) = true := oIn_y (by unfold lLen; rw [rt.h5]; omega)
  have e95 : F95 x pool = some (v : Int) := by rw [F62_eq x pool (by have := rt.n8; omega) (RT_rightF rt), ev]
  have fin : ∀ z : PAG, v < z.2.1.length → z.2.2.1.length = 5 → fewS z.1 → hasP z.1 n p → z.2.2.2.2.1 = x.2.2.2.2.1 → F76 (z.1.1, z.1.2) n p = some (pageAt z.1 n p) ∧ oIn (c : Int) (lLen z.2.2.1) = true ∧ oIn (v : Int) (lLen z.2.1) = true ∧ iAdd .i64 z.2.2.2.2.1 1 = z.2.2.2.2.1 + 1 := by
    intro z h1 h2 h3 h4 h5
    exact ⟨F74_y h3 h4, oIn_y (by unfold lLen; rw [h2]; omega), oIn_fr h1, add_n (by omega) (by omega)⟩
  have frl : ∀ z : PAG, (fre z v).2.1.length = z.2.1.length := fun z => by show (lSet _ _ _).length = _; unfold lSet; simp
  unfold F82
  dsimp only
  show ∃ (z : PAG) (r : _), _ ∧ _ ∧ _ ∧ bndS (F95 x pool) _ = some r ∧ _
  rw [e95, bnd_s, oIn_fr hv, sel_t]
  unfold rdy
  by_cases hu : (lAt x.2.1 (v : Int)).2.1 = true
  · rw [hu, sel_t, if_pos rfl]
    by_cases hcg : (lAt x.2.1 (v : Int)).2.2.1 = true
    · rw [hcg, sel_t, if_pos rfl]
      obtain ⟨f1, f2, _⟩ := rf_used (rt.fs v hv) hu
      have e52 : F52 (x.1.1, x.1.2) (lAt x.2.1 (v : Int)) = some (sav x v).1 := F65_eq rt.few f1 f2
      obtain ⟨rC, eC⟩ := savC_RT rt hv hu hcg
      have hvC : v < (savC x v).2.1.length := hv
      have eo := out_eq rC hvC hu
      have u1 := sav_up rt hv hu
      have e1 := sav_at (x := x) hv
      have hv1 : v < (sav x v).2.1.length := by rw [u1.ln]; exact hv
      obtain ⟨u2, _, r2, _, s2, n2⟩ := ev_RT (sav_RT rt hv hu).1 hv1 (by rw [e1]; exact hu) (by rw [e1])
      rw [e52, bnd_s, add_n (a := x.2.2.2.2.2) (by omega) (by omega)]
      show ∃ (z : PAG) (r : _), _ ∧ _ ∧ _ ∧ bndS (F96 (savC x v).1.1 (savC x v).1.2 (savC x v).2.1 (savC x v).2.2.1 (savC x v).2.2.2.1 (savC x v).2.2.2.2.1 (savC x v).2.2.2.2.2 v) _ = some r ∧ _
      rw [eo, bnd_s, e78, bnd_s]
      dsimp only [opg]
      rw [← eC] at u2 r2 s2 n2
      generalize cutF (savC x v) v = z at *
      have hf : fewS z.1 := r2.few
      have hp2 : hasP z.1 n p := by
        have : (fre z v).1 = z.1 := rfl
        rw [← this, shp_hasP u2.sh, shp_hasP u1.sh]; exact hp
      have hzn : v < z.2.1.length := by
        have h := u2.ln
        rw [frl] at h
        omega
      have hz2 : z.2.2.2 = (sav x v).2.2.2 := n2
      obtain ⟨k1, k2, k3, k4⟩ := fin z hzn r2.h5 hf hp2 (by rw [hz2]; rfl)
      rw [k1, bnd_s, k2, sel_t, k3, sel_t, sel_t, k4]
      exact ⟨z, _, hzn, by rw [hz2]; rfl, by rw [eC], rfl, .inr ⟨_, rfl⟩⟩
    · have hcf : (lAt x.2.1 (v : Int)).2.2.1 = false := by simpa using hcg
      rw [hcf, sel_f, if_neg (by decide)]
      have eo := out_eq rt hv hu
      obtain ⟨u2, _, r2, _, s2, n2⟩ := ev_RT rt hv hu hcf
      rw [eo, bnd_s, e78, bnd_s]
      dsimp only [opg]
      generalize cutF x v = z at *
      have hf : fewS z.1 := r2.few
      have hp2 : hasP z.1 n p := by
        have : (fre z v).1 = z.1 := rfl
        rw [← this, shp_hasP u2.sh]; exact hp
      have hzn : v < z.2.1.length := by
        have h := u2.ln
        rw [frl] at h
        omega
      have hz2 : z.2.2.2 = x.2.2.2 := n2
      obtain ⟨k1, k2, k3, k4⟩ := fin z hzn r2.h5 hf hp2 (by rw [hz2])
      rw [k1, bnd_s, k2, sel_t, k3, sel_t, sel_t, k4]
      exact ⟨z, _, hzn, by rw [hz2], rfl, rfl, .inl rfl⟩
  · have huf : (lAt x.2.1 (v : Int)).2.1 = false := by simpa using hu
    rw [huf, sel_f, if_neg (by decide), e78, bnd_s]
    obtain ⟨k1, k2, k3, k4⟩ := fin x hv rt.h5 rt.few hp rfl
    rw [k1, bnd_s, k2, sel_t, sel_t, sel_t, k4]
    refine ⟨x, _, hv, rfl, ?_, rfl, .inl rfl⟩
    rw [lod_fre]
    rfl
/-- The specification's use of a page. -/
theorem use_eq {x : PAG} {n p pool : Int} (hx : RT x) (ht : 0 ≤ x.2.2.2.1 ∧ x.2.2.2.1 ≤ 1500000000000000) (hr : 0 ≤ x.2.2.2.2.1 ∧ x.2.2.2.2.1 ≤ 1500000000000000) (hw : 0 ≤ x.2.2.2.2.2 ∧ x.2.2.2.2.2 ≤ 1500000000000000) (hp : hasP x.1 n p) (hb : bst x pool x.2.1.length ≠ -1) :
    ∃ r, F53 x.1.1 x.1.2 x.2.1 x.2.2.1 x.2.2.2.1 x.2.2.2.2.1 x.2.2.2.2.2 (n, (p, pool)) = some r ∧ uR (useM x n p pool).1 (useM x n p pool).2 r := by
  have rt := (tick_RT hx).1
  obtain ⟨c, hc, ec⟩ := bkk_in hx.sto hx.few hp
  unfold F53
  dsimp only
  rw [add_n (a := x.2.2.2.1) (by omega) (by omega)]
  obtain ⟨m, em⟩ := F61_eq rt hp
  show ∃ r, bndS (F81 (tick x) n p) _ = some r ∧ _
  rw [em, bnd_s]
  unfold useM
  dsimp only
  show ∃ r, sel (iEq (fidx n p x.2.1) (-1)) _ _ = some r ∧ _
  rcases fidx_cases n p x.2.1 with ⟨k, k1, k2, e⟩ | ⟨k1, e⟩
  · have e2 : fidx n p (tick x).2.1 = (k : Int) := e
    rw [e2, e, iEq_f (by omega), sel_f, oIn_fr k1, sel_t, if_neg (by omega)]
    exact ⟨_, rfl, .inl rfl⟩
  · rw [e, iEq_y rfl, sel_t, if_pos rfl]
    rcases bst_in x pool x.2.1.length with h | ⟨h1, h2, h3⟩
    · exact absurd h hb
    · obtain ⟨v, ev⟩ := Int.eq_ofNat_of_zero_le h1
      rw [ev] at h2 h3 ⊢
      have hv : v < x.2.1.length := by omega
      have ev' : bst (tick x) pool (tick x).2.1.length = (v : Int) := (bst_congr (x := tick x) (y := x) rfl pool _).trans ev
      obtain ⟨z, r, z1, z2, z3, z4, z5⟩ := load_eq rt hr hw hp (v := v) hv ev' hc ec
      show ∃ r, bndS (F82 (tick x).1.1 (tick x).1.2 (tick x).2.1 (tick x).2.2.1 (tick x).2.2.2.1 (tick x).2.2.2.2.1 (tick x).2.2.2.2.2 (n, (p, pool))) _ = some r ∧ _
      rw [z4, bnd_s, z3, lod_fre, ec]
      have hl : (lSet z.2.1 (v : Int) (pool, (true, (false, (n, (p, (pageAt z.1 n p, (0, lAt z.2.2.1 (c : Int))))))))).length = z.2.1.length := by unfold lSet; simp
      have ho : oIn (v : Int) (lLen (lSet z.2.1 (v : Int) (pool, (true, (false, (n, (p, (pageAt z.1 n p, (0, lAt z.2.2.1 (c : Int)))))))))) = true := oIn_y (by unfold lLen; rw [hl]; omega)
      rcases z5 with rfl | ⟨s, rfl⟩
      · dsimp only [sumS, opg]
        rw [ho, sel_t, lSet_own _ _ _ z1, lSet_two]
        exact ⟨_, rfl, .inl rfl⟩
      · dsimp only [sumS, opg]
        rw [ho, sel_t, lSet_own _ _ _ z1, lSet_two]
        exact ⟨_, rfl, .inr ⟨s, rfl⟩⟩
end Go.Proofs.YtagcodkkkebnhaaGreat.K
end

section
set_option linter.unusedVariables false
set_option linter.unusedSimpArgs false
set_option linter.unnecessarySimpa false
open Go Go.Ev
namespace Go.Proofs.YtagcodkkkebnhaaGreat.K
theorem seg_len {x : PAG} (hx : RT x) {seg : Int} (h : 0 ≤ place x.1.1 seg) : sLen (sgB x.1 seg) ≤ 400 := by
  obtain ⟨i, hi, _, _, ep⟩ := place_in h
  unfold sgB
  rw [ep]
  have := hx.few.2 i hi
  omega
abbrev OPG := List SEG × (Int × REST)
abbrev TL := (Int × (Int × (Int × (Int × (Int × ByteArray))))) × (Int × (ByteArray × Int))
/-- A state of the specification's loop, in one of its two forms. -/
def uS (y : PAG) (k : TL) (r : ((OPG × TL) ⊕ ((OPG × List SEG) × TL)) ⊕ ((OPG × ByteArray) ⊕ ((OPG × List SEG) × ByteArray))) : Prop := r = .inl (.inl (opg y, k)) ∨ ∃ s, r = .inl (.inr ((opg y, s), k))
/-- A round of the specification's loop. -/
theorem B27_h0 {x y : PAG} {t : Nat} {kind pool seg off len n : Int} {b out : ByteArray} (h : BI x y t) (hN : NB x) (ht : t ≤ 1000) (hr : rdOK x.1 seg off n) (hx : RT x) (hpo : 0 ≤ pool ∧ pool ≤ 2) (hb : bst x pool x.2.1.length ≠ -1) (hk : kind = 0 ∨ sLen b = n) (ho : sLen out ≤ 1000) {d : Int} (hd : 0 ≤ d ∧ d < n) :
    ∃ r, B27_0h0 y.1.1 y.1.2 y.2.1 y.2.2.1 y.2.2.2.1 y.2.2.2.2.1 y.2.2.2.2.2 kind pool seg off len b n out d = some r ∧ uS (stp kind pool seg off n b y (off + d)) ((kind, (pool, (seg, (off, (len, b))))), (n, (outM kind pool seg off n y (off + d) out, d + siz off n (off + d)))) r := by
  obtain ⟨hN1, hN2, hN3⟩ := hN
  have ha : off ≤ off + d ∧ off + d < off + n := by omega
  obtain ⟨hp, hb', k, ek, hu⟩ := stp_use h hN1.1 hr hpo hb ha
  obtain ⟨s1, s2, s3, s4⟩ := siz_pos ha hr.2.1
  obtain ⟨r1, r2, r3, r4⟩ := hr
  have hlen := seg_len hx r1
  have htm := h.tm
  have hrd := h.rd
  have hwr := h.wr
  obtain ⟨rr, e53, hrr⟩ := use_eq h.rt (by omega) (by omega) (by omega) hp hb'
  have hfl : sLen (fAt (useM y seg ((off + d) / 32) pool).1 k).2.2.2.2.2.1 = 32 := by
    obtain ⟨_, f, _⟩ := rf_used (hu.rt.fs k (by rw [hu.up.ln]; exact hu.kl)) hu.isk.1
    exact f
  have e6 : sel (iLt (n - d) (32 - (off + d) % 32)) (n - d) (32 - (off + d) % 32) = siz off n (off + d) := by
    unfold siz
    by_cases hc : n - d < 32 - (off + d) % 32
    · rw [iLt_y hc, if_pos (by omega), sel_t]; omega
    · rw [iLt_f hc, if_neg (by omega)]; rfl
  unfold B27_0h0
  rw [iLt_y hd.2, sel_t, show oNz 32 = true from rfl, sel_t, sel_t, add_n (a := off) (b := d) (by omega) (by omega), rem_nn (by omega), quo_nn (by omega) (by omega), sub_n (a := n) (b := d) (by omega) (by omega), sub_n (a := 32) (b := (off + d) % 32) (by omega) (by omega), e6, add_n (a := (off + d) % 32) (b := siz off n (off + d)) (by omega) (by omega), add_n (a := d) (b := siz off n (off + d)) (by omega) (by omega), e53, bnd_s]
  unfold stp outM
  rw [ek]
  rw [ek] at hrr
  have hfl' : sLen (lAt (useM y seg ((off + d) / 32) pool).1.2.1 (k : Int)).2.2.2.2.2.1 = 32 := hfl
  have hkl : k < (useM y seg ((off + d) / 32) pool).1.2.1.length := by rw [hu.up.ln]; exact hu.kl
  have hc0 : kind ≠ 0 → sLen (sCut b (off + d - off) (off + d - off + siz off n (off + d))) = siz off n (off + d) := fun hk0 => by
    have hbn := hk.resolve_left hk0
    rw [scut_len _ (by omega) (by omega) (by omega)]; omega
  have ed : off + d - off = d := by omega
  rw [ed] at hc0 ⊢
  by_cases hk0 : kind = 0
  · rcases hrr with rfl | ⟨s, rfl⟩
    · dsimp only [sumS, opg]
      rw [iEq_y hk0, sel_t, if_pos hk0, if_pos hk0, oIn_fr hkl, sel_t, hfl', oCut_y (by omega), sel_t, sOk_n (by rw [scut_len _ (by omega) (by omega) (by omega)]; omega), sel_t]
      exact ⟨_, rfl, .inl rfl⟩
    · dsimp only [sumS, opg]
      rw [iEq_y hk0, sel_t, if_pos hk0, if_pos hk0, oIn_fr hkl, sel_t, hfl', oCut_y (by omega), sel_t, sOk_n (by rw [scut_len _ (by omega) (by omega) (by omega)]; omega), sel_t]
      exact ⟨_, rfl, .inr ⟨_, rfl⟩⟩
  · have hbn := hk.resolve_left hk0
    have hc := hc0 hk0
    have e54 : F54 (lAt (useM y seg ((off + d) / 32) pool).1.2.1 (k : Int)).2.2.2.2.2.1 ((off + d) % 32) (sCut b d (d + siz off n (off + d))) = some _ := F95_eq (by omega) (by rw [hc, hfl']; omega) (by rw [hfl']; omega)
    rcases hrr with rfl | ⟨s, rfl⟩
    · dsimp only [sumS, opg]
      rw [iEq_f hk0, sel_f, if_neg hk0, if_neg hk0, oIn_fr hkl, sel_t, oCut_y (by omega), sel_t, e54, bnd_s, sel_t, set_len, oIn_fr hkl, sel_t, lSet_own _ _ _ hkl, lSet_two]
      exact ⟨_, rfl, .inl rfl⟩
    · dsimp only [sumS, opg]
      rw [iEq_f hk0, sel_f, if_neg hk0, if_neg hk0, oIn_fr hkl, sel_t, oCut_y (by omega), sel_t, e54, bnd_s, sel_t, set_len, oIn_fr hkl, sel_t, lSet_own _ _ _ hkl, lSet_two]
      exact ⟨_, rfl, .inr ⟨_, rfl⟩⟩
/-- A round of the specification's loop. -/
theorem B27_h1 {x y : PAG} {t : Nat} {kind pool seg off len n : Int} {b out : ByteArray} {s0 : List SEG} (h : BI x y t) (hN : NB x) (ht : t ≤ 1000) (hr : rdOK x.1 seg off n) (hx : RT x) (hpo : 0 ≤ pool ∧ pool ≤ 2) (hb : bst x pool x.2.1.length ≠ -1) (hk : kind = 0 ∨ sLen b = n) (ho : sLen out ≤ 1000) {d : Int} (hd : 0 ≤ d ∧ d < n) :
    ∃ r, B27_0h1 y.1.1 y.1.2 y.2.1 y.2.2.1 y.2.2.2.1 y.2.2.2.2.1 y.2.2.2.2.2 s0 kind pool seg off len b n out d = some r ∧ uS (stp kind pool seg off n b y (off + d)) ((kind, (pool, (seg, (off, (len, b))))), (n, (outM kind pool seg off n y (off + d) out, d + siz off n (off + d)))) r := by
  obtain ⟨hN1, hN2, hN3⟩ := hN
  have ha : off ≤ off + d ∧ off + d < off + n := by omega
  obtain ⟨hp, hb', k, ek, hu⟩ := stp_use h hN1.1 hr hpo hb ha
  obtain ⟨s1, s2, s3, s4⟩ := siz_pos ha hr.2.1
  obtain ⟨r1, r2, r3, r4⟩ := hr
  have hlen := seg_len hx r1
  have htm := h.tm
  have hrd := h.rd
  have hwr := h.wr
  obtain ⟨rr, e53, hrr⟩ := use_eq h.rt (by omega) (by omega) (by omega) hp hb'
  have hfl : sLen (fAt (useM y seg ((off + d) / 32) pool).1 k).2.2.2.2.2.1 = 32 := by
    obtain ⟨_, f, _⟩ := rf_used (hu.rt.fs k (by rw [hu.up.ln]; exact hu.kl)) hu.isk.1
    exact f
  have e6 : sel (iLt (n - d) (32 - (off + d) % 32)) (n - d) (32 - (off + d) % 32) = siz off n (off + d) := by
    unfold siz
    by_cases hc : n - d < 32 - (off + d) % 32
    · rw [iLt_y hc, if_pos (by omega), sel_t]; omega
    · rw [iLt_f hc, if_neg (by omega)]; rfl
  unfold B27_0h1
  rw [iLt_y hd.2, sel_t, show oNz 32 = true from rfl, sel_t, sel_t, add_n (a := off) (b := d) (by omega) (by omega), rem_nn (by omega), quo_nn (by omega) (by omega), sub_n (a := n) (b := d) (by omega) (by omega), sub_n (a := 32) (b := (off + d) % 32) (by omega) (by omega), e6, add_n (a := (off + d) % 32) (b := siz off n (off + d)) (by omega) (by omega), add_n (a := d) (b := siz off n (off + d)) (by omega) (by omega), e53, bnd_s]
  unfold stp outM
  rw [ek]
  rw [ek] at hrr
  have hfl' : sLen (lAt (useM y seg ((off + d) / 32) pool).1.2.1 (k : Int)).2.2.2.2.2.1 = 32 := hfl
  have hkl : k < (useM y seg ((off + d) / 32) pool).1.2.1.length := by rw [hu.up.ln]; exact hu.kl
  have hc0 : kind ≠ 0 → sLen (sCut b (off + d - off) (off + d - off + siz off n (off + d))) = siz off n (off + d) := fun hk0 => by
    have hbn := hk.resolve_left hk0
    rw [scut_len _ (by omega) (by omega) (by omega)]; omega
  have ed : off + d - off = d := by omega
  rw [ed] at hc0 ⊢
  by_cases hk0 : kind = 0
  · rcases hrr with rfl | ⟨s, rfl⟩
    · dsimp only [sumS, opg]
      rw [iEq_y hk0, sel_t, if_pos hk0, if_pos hk0, oIn_fr hkl, sel_t, hfl', oCut_y (by omega), sel_t, sOk_n (by rw [scut_len _ (by omega) (by omega) (by omega)]; omega), sel_t]
      exact ⟨_, rfl, .inr ⟨_, rfl⟩⟩
    · dsimp only [sumS, opg]
      rw [iEq_y hk0, sel_t, if_pos hk0, if_pos hk0, oIn_fr hkl, sel_t, hfl', oCut_y (by omega), sel_t, sOk_n (by rw [scut_len _ (by omega) (by omega) (by omega)]; omega), sel_t]
      exact ⟨_, rfl, .inr ⟨_, rfl⟩⟩
  · have hbn := hk.resolve_left hk0
    have hc := hc0 hk0
    have e54 : F54 (lAt (useM y seg ((off + d) / 32) pool).1.2.1 (k : Int)).2.2.2.2.2.1 ((off + d) % 32) (sCut b d (d + siz off n (off + d))) = some _ := F95_eq (by omega) (by rw [hc, hfl']; omega) (by rw [hfl']; omega)
    rcases hrr with rfl | ⟨s, rfl⟩
    · dsimp only [sumS, opg]
      rw [iEq_f hk0, sel_f, if_neg hk0, if_neg hk0, oIn_fr hkl, sel_t, oCut_y (by omega), sel_t, e54, bnd_s, sel_t, set_len, oIn_fr hkl, sel_t, lSet_own _ _ _ hkl, lSet_two]
      exact ⟨_, rfl, .inr ⟨_, rfl⟩⟩
    · dsimp only [sumS, opg]
      rw [iEq_f hk0, sel_f, if_neg hk0, if_neg hk0, oIn_fr hkl, sel_t, oCut_y (by omega), sel_t, e54, bnd_s, sel_t, set_len, oIn_fr hkl, sel_t, lSet_own _ _ _ hkl, lSet_two]
      exact ⟨_, rfl, .inr ⟨_, rfl⟩⟩
/-- The specification's loop over the pages of an access. -/
theorem L27_eq {x : PAG} {kind pool seg off len n : Int} {b : ByteArray} (hx : RT x) (hN : NB x) (hr : rdOK x.1 seg off n) (hpo : 0 ≤ pool ∧ pool ≤ 2) (hb : bst x pool x.2.1.length ≠ -1) (hk : kind = 0 ∨ sLen b = n) : ∃ r, L27_0 (.inl (opg x, ((kind, (pool, (seg, (off, (len, b))))), (n, (bs [], 0))))) = some r ∧ uR (movM kind pool seg off n b 20 x off (bs [])).1 (movM kind pool seg off n b 20 x off (bs [])).2 r := by
  have hlen := seg_len hx hr.1
  have hr' := hr
  obtain ⟨r1, r2, r3, r4⟩ := hr
  have h : Ok (L27_0 (.inl (opg x, ((kind, (pool, (seg, (off, (len, b))))), (n, (bs [], 0)))))) (fun r => uR (movM kind pool seg off n b 20 x off (bs [])).1 (movM kind pool seg off n b 20 x off (bs [])).2 r) := by
    refine loop_inv (fun m st => ∃ (f t : Nat) (y : PAG) (d : Int) (out : ByteArray), BI x y t ∧ 0 ≤ d ∧ d ≤ n ∧ sLen out ≤ 32 * t ∧ f + t = 20 ∧ (d < n → n - d + (if (off + d) % 32 = 0 then 0 else (off + d) % 32) ≤ 32 * f - 32 ∧ (t ≠ 0 → (off + d) % 32 = 0)) ∧ movM kind pool seg off n b f y (off + d) out = movM kind pool seg off n b 20 x off (bs []) ∧ (st = .inl (opg y, ((kind, (pool, (seg, (off, (len, b))))), (n, (out, d)))) ∨ ∃ s, st = .inr ((opg y, s), ((kind, (pool, (seg, (off, (len, b))))), (n, (out, d))))) ∧ m = f) 20 ⟨20, 0, x, 0, bs [], BI_0 hx, by omega, by omega, by rw [sLen_nil]; simp, rfl, fun _ => ⟨by split <;> omega, fun h => absurd rfl h⟩, by rw [Int.add_zero], .inl rfl, rfl⟩ (by omega) ?_
    rintro m st ⟨f, t, y, d, out, hB, ha1, ha2, ho, hft, hf, hm, hst, rfl⟩
    by_cases hlt : d < n
    · obtain ⟨hf1, hf2⟩ := hf hlt
      obtain ⟨g, rfl⟩ : ∃ g, m = g + 1 := ⟨m - 1, by split at hf1 <;> omega⟩
      have hao : off ≤ off + d ∧ off + d < off + n := by omega
      obtain ⟨s1, s2, s3, s4⟩ := siz_pos hao hr'.2.1
      have hB' := stp_BI hB hN.1.1 hr' hpo hb hk hao
      have hol := outM_len (kind := kind) (out := out) hB hN.1.1 hr' hpo hb hao
      have inv : ∃ (f t' : Nat) (y' : PAG) (d' : Int) (out' : ByteArray), f = g ∧ y' = stp kind pool seg off n b y (off + d) ∧ d' = d + siz off n (off + d) ∧ out' = outM kind pool seg off n y (off + d) out ∧ BI x y' t' ∧ 0 ≤ d' ∧ d' ≤ n ∧ sLen out' ≤ 32 * t' ∧ f + t' = 20 ∧ (d' < n → n - d' + (if (off + d') % 32 = 0 then 0 else (off + d') % 32) ≤ 32 * f - 32 ∧ (t' ≠ 0 → (off + d') % 32 = 0)) ∧ movM kind pool seg off n b f y' (off + d') out' = movM kind pool seg off n b 20 x off (bs []) := by
        refine ⟨g, t + 1, _, _, _, rfl, rfl, rfl, rfl, hB', by omega, by omega, by omega, by omega, fun h => ?_, ?_⟩
        · have h32 : (off + (d + siz off n (off + d))) % 32 = 0 := by have := s4.resolve_left (by omega); rw [← Int.add_assoc]; exact this
          rw [if_pos h32]
          refine ⟨?_, fun _ => h32⟩
          have hsz : (off + d) % 32 + siz off n (off + d) = 32 ∨ off + d + siz off n (off + d) = off + n := by unfold siz; split <;> omega
          split at hf1 <;> omega
        · rw [← hm]
          conv => rhs; unfold movM
          rw [if_pos (by omega), Int.add_assoc]
      obtain ⟨f', t', y', d', out', rfl, e1, e2, e3, inv⟩ := inv
      rcases hst with rfl | ⟨s, rfl⟩
      · show Ok (B27_0h0 y.1.1 y.1.2 y.2.1 y.2.2.1 y.2.2.2.1 y.2.2.2.2.1 y.2.2.2.2.2 kind pool seg off len b n out d) _
        obtain ⟨r, e, hS⟩ := B27_h0 (len := len) (out := out) hB hN (by omega) hr' hx hpo hb hk (by omega) ⟨ha1, hlt⟩
        rw [e, ok_some]
        rcases hS with rfl | ⟨s', rfl⟩
        · exact ⟨f', by omega, f', t', y', d', out', inv.1, inv.2.1, inv.2.2.1, inv.2.2.2.1, inv.2.2.2.2.1, inv.2.2.2.2.2.1, inv.2.2.2.2.2.2, .inl (by rw [e1, e2, e3]), rfl⟩
        · exact ⟨f', by omega, f', t', y', d', out', inv.1, inv.2.1, inv.2.2.1, inv.2.2.2.1, inv.2.2.2.2.1, inv.2.2.2.2.2.1, inv.2.2.2.2.2.2, .inr ⟨s', by rw [e1, e2, e3]⟩, rfl⟩
      · show Ok (B27_0h1 y.1.1 y.1.2 y.2.1 y.2.2.1 y.2.2.2.1 y.2.2.2.2.1 y.2.2.2.2.2 s kind pool seg off len b n out d) _
        obtain ⟨r, e, hS⟩ := B27_h1 (len := len) (s0 := s) (out := out) hB hN (by omega) hr' hx hpo hb hk (by omega) ⟨ha1, hlt⟩
        rw [e, ok_some]
        rcases hS with rfl | ⟨s', rfl⟩
        · exact ⟨f', by omega, f', t', y', d', out', inv.1, inv.2.1, inv.2.2.1, inv.2.2.2.1, inv.2.2.2.2.1, inv.2.2.2.2.2.1, inv.2.2.2.2.2.2, .inl (by rw [e1, e2, e3]), rfl⟩
        · exact ⟨f', by omega, f', t', y', d', out', inv.1, inv.2.1, inv.2.2.1, inv.2.2.2.1, inv.2.2.2.2.1, inv.2.2.2.2.2.1, inv.2.2.2.2.2.2, .inr ⟨s', by rw [e1, e2, e3]⟩, rfl⟩
    · have hend : ¬ off + d < off + n := by omega
      rw [← hm, movM_end hend]
      rcases hst with rfl | ⟨s, rfl⟩
      · show Ok (B27_0h0 y.1.1 y.1.2 y.2.1 y.2.2.1 y.2.2.2.1 y.2.2.2.2.1 y.2.2.2.2.2 kind pool seg off len b n out d) _
        unfold B27_0h0
        rw [iLt_f hlt, sel_f, ok_some]
        exact .inl rfl
      · show Ok (B27_0h1 y.1.1 y.1.2 y.2.1 y.2.2.1 y.2.2.2.1 y.2.2.2.2.1 y.2.2.2.2.2 s kind pool seg off len b n out d) _
        unfold B27_0h1
        rw [iLt_f hlt, sel_f, ok_some]
        exact .inr ⟨s, rfl⟩
  obtain ⟨r, e, h⟩ := h
  exact ⟨r, e, h⟩
end Go.Proofs.YtagcodkkkebnhaaGreat.K
end

section
set_option linter.unusedVariables false
set_option linter.unusedSimpArgs false
set_option linter.unnecessarySimpa false
open Go Go.Ev
namespace Go.Proofs.YtagcodkkkebnhaaGreat.K
/-- The bytes on disk behind pages that are written. -/
theorem savs_sb : ∀ {L : List Int} {x : PAG}, RT x → L.Nodup → usedIn x L → ∀ (n : Int) (j : Nat), 0 ≤ place x.1.1 n → ((∃ a ∈ L, isK (lAt x.2.1 a) n ((j : Int) / 32)) → sb (L.foldl sav x).1 n j = vb x n j) ∧ ((∀ a ∈ L, ¬ isK (lAt x.2.1 a) n ((j : Int) / 32)) → sb (L.foldl sav x).1 n j = sb x.1 n j)
  | [], x, _, _, _, n, j, _ => ⟨fun ⟨a, h, _⟩ => by simp at h, fun _ => rfl⟩
  | a :: L, x, hx, hd, hu, n, j, hp => by
    obtain ⟨h1, h2⟩ := List.nodup_cons.1 hd
    obtain ⟨i, hi, rfl, hui⟩ := hu a (by simp)
    obtain ⟨r1, w1⟩ := sav_RT hx hi hui
    have u1 := sav_up hx hi hui
    have fa : ∀ k, k < x.2.1.length → k ≠ i → fAt (sav x i) k = fAt x k := by
      intro k hk e
      show lAt (lSet x.2.1 (i : Int) _) (k : Int) = _
      rw [set_at _ _ _ _ hi, if_neg e]
    have hu' : usedIn (sav x i) L := by
      intro b hb
      obtain ⟨k, hk, rfl, hk2⟩ := hu b (by simp [hb])
      refine ⟨k, by rw [u1.ln]; exact hk, rfl, ?_⟩
      rw [fa k hk (fun e => by subst e; exact h1 hb)]
      exact hk2
    have hfL : ∀ b ∈ L, lAt (sav x i).2.1 b = lAt x.2.1 b := by
      intro b hb
      obtain ⟨k, hk, rfl, _⟩ := hu b (by simp [hb])
      exact fa k hk (fun e => by subst e; exact h1 hb)
    have hp' : 0 ≤ place (sav x i).1.1 n := by rw [shp_place u1.sh]; exact hp
    obtain ⟨g1, g2⟩ := savs_sb r1 h2 hu' n j hp'
    have hsb := sav_sb hx hi hui hp j
    rw [List.foldl_cons]
    constructor
    · rintro ⟨b, hb, hK⟩
      by_cases hin : ∃ a ∈ L, isK (lAt (sav x i).2.1 a) n ((j : Int) / 32)
      · rw [g1 hin, w1 n j hp]
      · rw [g2 (fun a ha h => hin ⟨a, ha, h⟩), hsb]
        rcases List.mem_cons.1 hb with rfl | hb
        · rw [if_pos hK, vb_y hx.un hi hK]
        · exact absurd ⟨b, hb, by rw [hfL b hb]; exact hK⟩ hin
    · intro hno
      rw [g2 (fun a ha h => hno a (by simp [ha]) (by rw [← hfL a ha]; exact h)), hsb, if_neg (hno _ (by simp))]
/-- The order in which pages are written does not matter. -/
theorem savs_perm {x : PAG} {L M : List Int} (hx : RT x) (hd : L.Nodup) (hu : usedIn x L) (hp : L.Perm M) : L.foldl sav x = M.foldl sav x := by
  have hd' : M.Nodup := hp.nodup hd
  have hu' : usedIn x M := fun a ha => hu a (hp.mem_iff.2 ha)
  have s1 := savs_ok hx hd hu
  have s2 := savs_ok hx hd' hu'
  have e1 : (L.foldl sav x).1 = (M.foldl sav x).1 := by
    refine sto_ext (s1.sh.trans s2.sh.symm) s1.rt.sto fun n j hpl => ?_
    rw [shp_place s1.sh] at hpl
    obtain ⟨a1, a2⟩ := savs_sb hx hd hu n j hpl
    obtain ⟨b1, b2⟩ := savs_sb hx hd' hu' n j hpl
    by_cases h : ∃ a ∈ L, isK (lAt x.2.1 a) n ((j : Int) / 32)
    · rw [a1 h, b1]
      obtain ⟨a, ha, hk⟩ := h
      exact ⟨a, hp.mem_iff.1 ha, hk⟩
    · have h' : ∀ a ∈ L, ¬ isK (lAt x.2.1 a) n ((j : Int) / 32) := fun a ha hk => h ⟨a, ha, hk⟩
      rw [a2 h', b2 fun a ha => h' a (hp.mem_iff.2 ha)]
  have e2 : (L.foldl sav x).2.1 = (M.foldl sav x).2.1 := by
    refine List.ext_getElem (s1.ln.trans s2.ln.symm) fun k hk hk' => ?_
    have h1 := s1.fs k (by rw [← s1.ln]; exact hk)
    have h2 := s2.fs k (by rw [← s1.ln]; exact hk)
    unfold fAt at h1 h2
    rw [lAt_lt hk] at h1
    rw [lAt_lt hk'] at h2
    rw [h1, h2]
    simp only [hp.mem_iff]
  have e6 : (L.foldl sav x).2.2.2.2.2 = (M.foldl sav x).2.2.2.2.2 := by rw [s1.wr, s2.wr, hp.length_eq]
  refine Prod.ext e1 (Prod.ext e2 (Prod.ext ?_ (Prod.ext ?_ (Prod.ext ?_ e6))))
  · exact s1.hd.trans s2.hd.symm
  · exact s1.tm.trans s2.tm.symm
  · exact s1.rd.trans s2.rd.symm
theorem frc_perm {x : PAG} {kind seg : Int} {L M : List Int} (h : L.Perm M) : (frc x kind seg L).Perm (frc x kind seg M) := by unfold frc; exact h.filter _
/-- The specification's forcing of pages. -/
theorem L26_eq {x : PAG} (hx : RT x) (hN : NB x) {kind seg a : Int} (ha : (a = -1 ↔ kind = 3) ∧ (kind ≠ 3 → a = seg)) : ∃ r, L26_0 (.inl (opg x, (a, 0))) = some r ∧ (r = .inl (opg ((frc x kind seg (chg x)).foldl sav x)) ∨ ∃ s, r = .inr (opg ((frc x kind seg (chg x)).foldl sav x), s)) := by
  have h8 := hx.n8
  have hw := hN.2.2
  have h : Ok (L26_0 (.inl (opg x, (a, 0)))) (fun r => r = .inl (opg ((frc x kind seg (chg x)).foldl sav x)) ∨ ∃ s, r = .inr (opg ((frc x kind seg (chg x)).foldl sav x), s)) := by
    refine loop_inv (fun m st => ∃ i : Nat, i ≤ x.2.1.length ∧ (st = .inl (opg ((frc x kind seg (chgT x i)).foldl sav x), (a, (i : Int))) ∨ ∃ s, st = .inr ((opg ((frc x kind seg (chgT x i)).foldl sav x), s), (a, (i : Int)))) ∧ m = x.2.1.length - i) x.2.1.length ⟨0, by omega, .inl rfl, rfl⟩ (by omega) ?_
    rintro m st ⟨i, hi, hst, rfl⟩
    have hu : usedIn x (frc x kind seg (chgT x i)) := fun b hb => by
      obtain ⟨k, hk, e, h2⟩ := chgT_mem.1 ((frc_sub x kind seg _).subset hb)
      exact ⟨k, by omega, e, chg_used hx (by omega) h2⟩
    have hv := savs_ok hx ((chgT_nodup x i).sublist (frc_sub x kind seg _)) hu
    have hlen : (frc x kind seg (chgT x i)).length ≤ 8 := by
      have := (frc_sub x kind seg (chgT x i)).length_le
      have := chgT_len x i
      omega
    by_cases hlt : i < x.2.1.length
    · have hnm : ¬ (i : Int) ∈ frc x kind seg (chgT x i) := by
        intro hm
        obtain ⟨k, hk, e, _⟩ := chgT_mem.1 ((frc_sub x kind seg _).subset hm)
        omega
      have hfi := hv.fs i hlt
      rw [if_neg hnm] at hfi
      have hstep := chgT_s x i
      have hwz := hv.wr
      have hnext : ∀ z : PAG, z = (frc x kind seg (chgT x i)).foldl sav x → (((fAt x i).2.1 = true ∧ (fAt x i).2.2.1 = true) ∧ (a = -1 ∨ (fAt x i).2.2.2.1 = a) → (frc x kind seg (chgT x (i + 1))).foldl sav x = sav z i) ∧ (¬ (((fAt x i).2.1 = true ∧ (fAt x i).2.2.1 = true) ∧ (a = -1 ∨ (fAt x i).2.2.2.1 = a)) → (frc x kind seg (chgT x (i + 1))).foldl sav x = z) := by
        rintro z rfl
        rw [hstep]
        constructor
        · rintro ⟨⟨_, h2⟩, h3⟩
          rw [if_pos h2, frc_app, if_pos, List.foldl_append]
          · rfl
          · rcases h3 with h3 | h3
            · exact .inl (ha.1.1 h3)
            · by_cases hk3 : kind = 3
              · exact .inl hk3
              · right; rw [← ha.2 hk3]; exact h3
        · intro hn
          by_cases h2 : (fAt x i).2.2.1 = true
          · rw [if_pos h2, frc_app, if_neg, List.append_nil]
            intro hc
            refine hn ⟨⟨chg_used hx hlt h2, h2⟩, ?_⟩
            rcases hc with hc | hc
            · exact .inl (ha.1.2 hc)
            · by_cases hk3 : kind = 3
              · exact .inl (ha.1.2 hk3)
              · right; rw [ha.2 hk3]; exact hc
          · rw [if_neg h2, List.append_nil]
      obtain ⟨n1, n2⟩ := hnext _ rfl
      generalize hz : (frc x kind seg (chgT x i)).foldl sav x = z at *
      have hzi : i < z.2.1.length := by rw [hv.ln]; exact hlt
      have hfi' : lAt z.2.1 (i : Int) = fAt x i := hfi
      have hcond : (bAnd (bAnd (lAt z.2.1 (i : Int)).2.1 (lAt z.2.1 (i : Int)).2.2.1) (bOr (iEq a (-1)) (iEq (lAt z.2.1 (i : Int)).2.2.2.1 a)) = true) = (((fAt x i).2.1 = true ∧ (fAt x i).2.2.1 = true) ∧ (a = -1 ∨ (fAt x i).2.2.2.1 = a)) := by
        rw [and_t, and_t, or_t, iEq_t, iEq_t, hfi']
      have e52 : (fAt x i).2.1 = true → F52 (z.1.1, z.1.2) (lAt z.2.1 (i : Int)) = some (sav z i).1 := by
        intro hui
        obtain ⟨f1, f2, _⟩ := rf_used (hx.fs i hlt) hui
        refine F65_eq hv.rt.few ?_ ?_
        · rw [hfi', shp_hasP hv.sh]; exact f1
        · rw [hfi']; exact f2
      have goal : ∀ r : ((OPG × (Int × Int)) ⊕ ((OPG × List SEG) × (Int × Int))) ⊕ (OPG ⊕ (OPG × List SEG)), (r = .inl (.inl (opg ((frc x kind seg (chgT x (i + 1))).foldl sav x), (a, ((i + 1 : Nat) : Int)))) ∨ ∃ s, r = .inl (.inr ((opg ((frc x kind seg (chgT x (i + 1))).foldl sav x), s), (a, ((i + 1 : Nat) : Int))))) → (match r with | .inl y => ∃ k, k < x.2.1.length - i ∧ ∃ i : Nat, i ≤ x.2.1.length ∧ (y = .inl (opg ((frc x kind seg (chgT x i)).foldl sav x), (a, (i : Int))) ∨ ∃ s, y = .inr ((opg ((frc x kind seg (chgT x i)).foldl sav x), s), (a, (i : Int)))) ∧ k = x.2.1.length - i | .inr r => r = .inl (opg ((frc x kind seg (chg x)).foldl sav x)) ∨ ∃ s, r = .inr (opg ((frc x kind seg (chg x)).foldl sav x), s)) := by
        rintro r (rfl | ⟨s, rfl⟩)
        · exact ⟨x.2.1.length - (i + 1), by omega, i + 1, by omega, .inl rfl, rfl⟩
        · exact ⟨x.2.1.length - (i + 1), by omega, i + 1, by omega, .inr ⟨s, rfl⟩, rfl⟩
      by_cases hc : ((fAt x i).2.1 = true ∧ (fAt x i).2.2.1 = true) ∧ (a = -1 ∨ (fAt x i).2.2.2.1 = a)
      · have e52' := e52 hc.1.1
        have hb := hcond.mpr hc
        rcases hst with rfl | ⟨s, rfl⟩
        · show Ok (B26_0h0 z.1.1 z.1.2 z.2.1 z.2.2.1 z.2.2.2.1 z.2.2.2.2.1 z.2.2.2.2.2 a i) _
          unfold B26_0h0
          rw [iLt_y (by unfold lLen; omega), sel_t, oIn_fr hzi, sel_t, hb, sel_t, e52', bnd_s, sel_t, add_n (by omega) (by omega), add_n (by omega) (by omega), ok_some]
          exact goal _ (.inr ⟨_, by rw [n1 hc]⟩)
        · show Ok (B26_0h1 z.1.1 z.1.2 z.2.1 z.2.2.1 z.2.2.2.1 z.2.2.2.2.1 z.2.2.2.2.2 s a i) _
          unfold B26_0h1
          rw [iLt_y (by unfold lLen; omega), sel_t, oIn_fr hzi, sel_t, hb, sel_t, e52', bnd_s, sel_t, add_n (by omega) (by omega), add_n (by omega) (by omega), ok_some]
          exact goal _ (.inr ⟨_, by rw [n1 hc]⟩)
      · have hb : bAnd (bAnd (lAt z.2.1 (i : Int)).2.1 (lAt z.2.1 (i : Int)).2.2.1) (bOr (iEq a (-1)) (iEq (lAt z.2.1 (i : Int)).2.2.2.1 a)) = false := by rw [bf_t, hcond]; exact hc
        rcases hst with rfl | ⟨s, rfl⟩
        · show Ok (B26_0h0 z.1.1 z.1.2 z.2.1 z.2.2.1 z.2.2.2.1 z.2.2.2.2.1 z.2.2.2.2.2 a i) _
          unfold B26_0h0
          rw [iLt_y (by unfold lLen; omega), sel_t, oIn_fr hzi, sel_t, hb, sel_f, add_n (by omega) (by omega), ok_some]
          exact goal _ (.inl (by rw [n2 hc]))
        · show Ok (B26_0h1 z.1.1 z.1.2 z.2.1 z.2.2.1 z.2.2.2.1 z.2.2.2.2.1 z.2.2.2.2.2 s a i) _
          unfold B26_0h1
          rw [iLt_y (by unfold lLen; omega), sel_t, oIn_fr hzi, sel_t, hb, sel_f, add_n (by omega) (by omega), ok_some]
          exact goal _ (.inr ⟨_, by rw [n2 hc]⟩)
    · obtain rfl : i = x.2.1.length := by omega
      generalize hz : (frc x kind seg (chgT x x.2.1.length)).foldl sav x = z at *
      have hzl := hv.ln
      rcases hst with rfl | ⟨s, rfl⟩
      · show Ok (B26_0h0 z.1.1 z.1.2 z.2.1 z.2.2.1 z.2.2.2.1 z.2.2.2.2.1 z.2.2.2.2.2 a x.2.1.length) _
        unfold B26_0h0
        rw [iLt_f (by unfold lLen; omega), sel_f, ok_some]
        exact .inl rfl
      · show Ok (B26_0h1 z.1.1 z.1.2 z.2.1 z.2.2.1 z.2.2.2.1 z.2.2.2.2.1 z.2.2.2.2.2 s a x.2.1.length) _
        unfold B26_0h1
        rw [iLt_f (by unfold lLen; omega), sel_f, ok_some]
        exact .inr ⟨s, rfl⟩
  obtain ⟨r, e, h⟩ := h
  exact ⟨r, e, h⟩
end Go.Proofs.YtagcodkkkebnhaaGreat.K
end

section
set_option linter.unusedVariables false
set_option linter.unusedSimpArgs false
set_option linter.unnecessarySimpa false
open Go Go.Ev
namespace Go.Proofs.YtagcodkkkebnhaaGreat.K
theorem F48_num {s : STO} (hf : fewS s) (hs : okS0 s) (seg : Int) : F48 s seg = some (rdE s seg 0 0) := by
  have hn := hs.2
  have hl := hf.1
  unfold F48 rdE
  rw [F90_eq s seg (by omega), bnd_s]
  rcases place_cases seg s.1 with ⟨i, hi, _, _, ep⟩ | ⟨_, ep⟩
  · have hpg := ok_pages hs (n := seg) (by rw [ep]; omega)
    rw [ep, iEq_f (by omega), nf, sel_t, if_pos (by omega), if_pos ⟨by omega, by omega, by omega⟩]
  · rw [ep, iEq_y rfl, nt, sel_f, let_s, if_neg (by decide)]
    by_cases h : 1 ≤ seg ∧ seg ≤ s.2 - 1
    · have w : F44 seg 1 (iSub .i64 s.2 1) = true := by unfold F44; rw [sub_n (by omega) (by omega), and_t, iLe_t, iLe_t]; exact h
      rw [w, if_pos h]; rfl
    · have w : F44 seg 1 (iSub .i64 s.2 1) = false := by rw [bf_t]; unfold F44; rw [sub_n (by omega) (by omega), and_t, iLe_t, iLe_t]; exact h
      rw [w, if_neg h]; rfl
theorem F50_eq {s : STO} (hf : fewS s) (hs : okS0 s) {seg off n : Int} (h2 : fits off) (h3 : fits n) : ∃ q, F50 s (seg, off) n = some q ∧ q.2.2.2.2 = rdE s seg off n := by
  have hn := hs.2
  have hl := hf.1
  unfold fits at h2 h3
  unfold F50 F80 F93
  rw [(F43_ok hf hs).2, bnd_s, iEq_y rfl, nt, sel_f]
  dsimp only
  rw [F90_eq s seg (by omega), bnd_s, F48_num hf hs, bnd_s, bnd_s]
  rcases place_cases seg s.1 with ⟨i, hi, _, _, ep⟩ | ⟨_, ep⟩
  · have hpg := ok_pages hs (n := seg) (by rw [ep]; omega)
    have esg : sgB s seg = (lAt s.1 (i : Int)).2 := by unfold sgB; rw [ep]
    have e0 : rdE s seg 0 0 = 0 := rdE_ok.2 ⟨by rw [ep]; omega, by omega, by omega, by omega⟩
    rw [e0, ep]
    dsimp only
    rw [iEq_y (a := (0 : Int)) rfl, nt, sel_f, oIn_y (by unfold lLen; omega), sel_t, let_s, let_s, ← esg]
    unfold rdE
    rw [ep, if_pos (by omega)]
    by_cases hb : 0 ≤ off ∧ 0 ≤ n ∧ off + n ≤ sLen (sgB s seg)
    · have w1 : F44 off 0 (sLen (sgB s seg)) = true := by unfold F44; rw [and_t, iLe_t, iLe_t]; omega
      have w2 : F44 n 0 (iSub .i64 (sLen (sgB s seg)) off) = true := by unfold F44; rw [sub_n (by omega) (by omega), and_t, iLe_t, iLe_t]; omega
      rw [w1, w2, nt, or_ff, sel_f, bnd_s]
      dsimp only
      rw [iEq_y (a := (0 : Int)) rfl, nt, sel_f, oIn_y (by unfold lLen; omega), sel_t, ← esg, add_n (by omega) (by omega), oCut_y (by omega), sel_t, if_pos hb]
      exact ⟨_, rfl, rfl⟩
    · have w : bOr (bNot (F44 off 0 (sLen (sgB s seg)))) (bNot (F44 n 0 (iSub .i64 (sLen (sgB s seg)) off))) = true := by
        rw [or_t, not_t, not_t, bf_t, bf_t (F44 n _ _)]
        by_cases h4 : 0 ≤ off ∧ off ≤ sLen (sgB s seg)
        · right
          unfold F44
          rw [sub_n (by omega) (by omega), and_t, iLe_t, iLe_t]
          omega
        · left
          unfold F44
          rw [and_t, iLe_t, iLe_t]
          omega
      rw [w, sel_t, bnd_s, if_neg hb]
      exact ⟨_, rfl, rfl⟩
  · have hne : rdE s seg 0 0 ≠ 0 := fun h => by have := (rdE_ok.1 h).1; rw [ep] at this; omega
    have hm1 : ¬ (0 : Int) ≤ -1 := by decide
    have e1 : rdE s seg off n = rdE s seg 0 0 := by unfold rdE; rw [ep, if_neg hm1, if_neg hm1]
    dsimp only
    rw [iEq_f hne, nf, sel_t, bnd_s, iEq_f hne, nf, sel_t, e1]
    exact ⟨_, rfl, rfl⟩
theorem hasPool_eq {x : PAG} (hx : RT x) (pool : Int) : F51 x pool = some (decide (bst x pool x.2.1.length ≠ -1)) := by
  have hn := hx.n8
  have hl : lLen x.2.1 = (x.2.1.length : Int) := rfl
  have hL : (∃ i, i < x.2.1.length ∧ (fAt x i).1 = pool ∧ (∀ k, k < i → ¬ (fAt x k).1 = pool) ∧ L51_0 (pool, (opg x, 0)) = some (.inr true)) ∨ ((∀ i, i < x.2.1.length → ¬ (fAt x i).1 = pool) ∧ L51_0 (pool, (opg x, 0)) = some (Sum.inl ())) := by
    refine iter_first (fun i => (pool, (opg x, (i : Int)))) (fun i => (fAt x i).1 = pool) x.2.1.length (fun _ => Sum.inr true) (Sum.inl ()) (by omega) ?_ ?_ ?_
    · intro i hi hp
      show B51_0 pool x.1.1 x.1.2 x.2.1 x.2.2.1 x.2.2.2.1 x.2.2.2.2.1 x.2.2.2.2.2 i = some (.inl (pool, (opg x, ((i + 1 : Nat) : Int))))
      unfold B51_0
      rw [iLt_y (by omega), sel_t, oIn_fr hi, sel_t, iEq_f hp, sel_f, add_n (by omega) (by omega)]
      rfl
    · intro i hi hp
      show B51_0 pool x.1.1 x.1.2 x.2.1 x.2.2.1 x.2.2.2.1 x.2.2.2.2.1 x.2.2.2.2.2 i = _
      unfold B51_0
      rw [iLt_y (by omega), sel_t, oIn_fr hi, sel_t, iEq_y hp, sel_t]
    · show B51_0 pool x.1.1 x.1.2 x.2.1 x.2.2.1 x.2.2.2.1 x.2.2.2.2.1 x.2.2.2.2.2 x.2.1.length = _
      unfold B51_0
      rw [iLt_f (by omega), sel_f]
  unfold F51
  show bndS (L51_0 (pool, (opg x, 0))) _ = _
  rcases hL with ⟨i, h1, h2, _, e⟩ | ⟨h1, e⟩
  · rw [e, decide_eq_true (bst_ex _ |>.2 ⟨i, h1, h2⟩)]; rfl
  · rw [e, decide_eq_false (fun h => by obtain ⟨k, k1, k2⟩ := (bst_ex _).1 h; exact h1 k k1 k2)]; rfl
theorem movR_eq {x : PAG} (hx : RT x) {kind pool seg off len n : Int} {b : ByteArray} (h2 : fits off) (h3 : fits n) (hn : sel (iEq kind 1) (sLen b) len = n) :
    (letS (F49 pool) fun y16 =>
            sel (bNot y16)
              (some 3)
              (bndS (F50 x.1 (seg, off) (sel (iEq kind 1) (sLen b) len)) fun y17 =>
              sel (bNot (iEq y17.2.2.2.2 0))
                (some y17.2.2.2.2)
                (bndS (F51 x pool) fun y18 =>
                bndS (F47 (bNot y18)) fun y19 =>
                some (iMul .i64 40 y19)))) = some (movE x pool seg off n) := by
  unfold movE
  rw [hn, let_s]
  by_cases hp : 0 ≤ pool ∧ pool ≤ 2
  · have w : F49 pool = true := by unfold F49 F44; rw [let_s, and_t, iLe_t, iLe_t]; exact hp
    rw [w, nt, sel_f, if_neg (fun h => h hp)]
    obtain ⟨q, e, hq⟩ := F50_eq hx.few hx.sto (seg := seg) h2 h3
    rw [e, bnd_s, hq]
    by_cases hr : rdE x.1 seg off n = 0
    · rw [iEq_y hr, nt, sel_f, if_neg (fun h => h hr), hasPool_eq hx, bnd_s]
      by_cases hb : bst x pool x.2.1.length = -1
      · rw [decide_eq_false (fun h => h hb), if_pos hb]; rfl
      · rw [decide_eq_true hb, if_neg hb]; rfl
    · rw [iEq_f hr, nf, sel_t, if_pos hr]
  · have w : F49 pool = false := by rw [bf_t]; unfold F49 F44; rw [let_s, and_t, iLe_t, iLe_t]; exact hp
    rw [w, nf, sel_t, if_pos hp]
/-- The specification's answer: the error of an access. -/
theorem F25_eq {x : PAG} (hx : RT x) {kind pool seg off len : Int} {b : ByteArray} (h2 : fits off) (h3 : fits len) (h4 : sLen b ≤ 400) : F25 x (kind, (pool, ((seg, off), (len, b)))) = some (accE x kind pool seg off len b) := by
  have hb := sLen_nn b
  unfold F25 accE
  rw [let_s]
  dsimp only
  by_cases hk : 0 ≤ kind ∧ kind ≤ 3
  rotate_left
  · have w : F44 kind 0 3 = false := by rw [bf_t]; unfold F44; rw [and_t, iLe_t, iLe_t]; exact hk
    rw [w, nf, sel_t, if_neg (by omega), if_neg (by omega), if_neg (by omega), if_neg (by omega)]
  have w : F44 kind 0 3 = true := by unfold F44; rw [and_t, iLe_t, iLe_t]; exact hk
  rw [w, nt, sel_f]
  by_cases k0 : kind = 0
  · rw [iEq_y k0, sel_t, if_pos k0]
    by_cases hc : b = bs []
    · have : bAnd (iEq kind kind) (bAnd (iEq pool pool) (bAnd (iEq seg seg) (bAnd (iEq off off) (bAnd (iEq len len) (sEq (bs []) b))))) = true := by
        simp only [and_t, iEq_t, sEq_t]; exact ⟨trivial, trivial, trivial, trivial, trivial, hc.symm⟩
      rw [this, nt, sel_f, iEq_f (a := kind) (b := 2) (by omega), sel_f, iEq_f (a := kind) (b := 3) (by omega), sel_f, if_pos hc]
      exact movR_eq hx h2 h3 (by rw [iEq_f (by omega), sel_f])
    · have : bAnd (iEq kind kind) (bAnd (iEq pool pool) (bAnd (iEq seg seg) (bAnd (iEq off off) (bAnd (iEq len len) (sEq (bs []) b))))) = false := by
        rw [bf_t]; simp only [and_t, iEq_t, sEq_t]; rintro ⟨_, _, _, _, _, h⟩; exact hc h.symm
      rw [this, nf, sel_t, if_neg hc]
  rw [iEq_f k0, sel_f, if_neg k0]
  by_cases k1 : kind = 1
  · rw [iEq_y k1, sel_t, if_pos k1]
    by_cases hc : len = 0
    · have : bAnd (iEq kind kind) (bAnd (iEq pool pool) (bAnd (iEq seg seg) (bAnd (iEq off off) (bAnd (iEq 0 len) (sEq b b))))) = true := by
        simp only [and_t, iEq_t, sEq_t]; exact ⟨trivial, trivial, trivial, trivial, hc.symm, trivial⟩
      rw [this, nt, sel_f, iEq_f (a := kind) (b := 2) (by omega), sel_f, iEq_f (a := kind) (b := 3) (by omega), sel_f, if_pos hc]
      have := movR_eq (kind := kind) (pool := pool) (seg := seg) (len := len) (b := b) hx h2 (n := sLen b) (by unfold fits; omega) (by rw [iEq_y k1, sel_t])
      rw [iEq_y k1] at this
      exact this
    · have : bAnd (iEq kind kind) (bAnd (iEq pool pool) (bAnd (iEq seg seg) (bAnd (iEq off off) (bAnd (iEq 0 len) (sEq b b))))) = false := by
        rw [bf_t]; simp only [and_t, iEq_t, sEq_t]; rintro ⟨_, _, _, _, h, _⟩; exact hc h.symm
      rw [this, nf, sel_t, if_neg hc]
  rw [iEq_f k1, sel_f, if_neg k1]
  by_cases k2 : kind = 2
  · rw [iEq_y k2, sel_t, if_pos k2]
    by_cases hc : pool = 0 ∧ off = 0 ∧ len = 0 ∧ b = bs []
    · have : bAnd (iEq kind kind) (bAnd (iEq 0 pool) (bAnd (iEq seg seg) (bAnd (iEq 0 off) (bAnd (iEq 0 len) (sEq (bs []) b))))) = true := by
        simp only [and_t, iEq_t, sEq_t]; exact ⟨trivial, hc.1.symm, trivial, hc.2.1.symm, hc.2.2.1.symm, hc.2.2.2.symm⟩
      rw [this, nt, sel_f, sel_t, if_pos hc, F48_num hx.few hx.sto]
      rfl
    · have : bAnd (iEq kind kind) (bAnd (iEq 0 pool) (bAnd (iEq seg seg) (bAnd (iEq 0 off) (bAnd (iEq 0 len) (sEq (bs []) b))))) = false := by
        rw [bf_t]; simp only [and_t, iEq_t, sEq_t]; rintro ⟨_, a, _, c, d, e⟩; exact hc ⟨a.symm, c.symm, d.symm, e.symm⟩
      rw [this, nf, sel_t, if_neg hc]
  rw [iEq_f k2, sel_f, if_neg k2]
  have k3 : kind = 3 := by omega
  rw [if_pos k3]
  by_cases hc : pool = 0 ∧ seg = 0 ∧ off = 0 ∧ len = 0 ∧ b = bs []
  · have : bAnd (iEq kind kind) (bAnd (iEq 0 pool) (bAnd (iEq 0 seg) (bAnd (iEq 0 off) (bAnd (iEq 0 len) (sEq (bs []) b))))) = true := by
      simp only [and_t, iEq_t, sEq_t]; exact ⟨trivial, hc.1.symm, hc.2.1.symm, hc.2.2.1.symm, hc.2.2.2.1.symm, hc.2.2.2.2.symm⟩
    rw [this, nt, sel_f, sel_f, iEq_y k3, sel_t, if_pos hc]
  · have : bAnd (iEq kind kind) (bAnd (iEq 0 pool) (bAnd (iEq 0 seg) (bAnd (iEq 0 off) (bAnd (iEq 0 len) (sEq (bs []) b))))) = false := by
      rw [bf_t]; simp only [and_t, iEq_t, sEq_t]; rintro ⟨_, a, g, c, d, e⟩; exact hc ⟨a.symm, g.symm, c.symm, d.symm, e.symm⟩
    rw [this, nf, sel_t, if_neg hc]
def flt (y : OPG) (s : ByteArray) (e : Int) : List SEG × (Int × (List FRM × (List Int × (Int × (Int × (Int × (ByteArray × Int))))))) := (y.1, (y.2.1, (y.2.2.1, (y.2.2.2.1, (y.2.2.2.2.1, (y.2.2.2.2.2.1, (y.2.2.2.2.2.2, (s, e))))))))
/-- An access, by the program and by the specification. -/
theorem acc_two {x : PAG} (hx : RT x) (hs : SML x) {kind pool seg off len : Int} {b : ByteArray} (h1 : fits seg) (h2 : fits off) (h3 : fits len) (h4 : sLen b ≤ 400) :
    (∃ e, e ≠ 0 ∧ F7 x (kind, (pool, ((seg, off), (len, b)))) = some (noP, (bs [], e)) ∧ F9 x (kind, (pool, ((seg, off), (len, b)))) = some (flt noP (bs []) e)) ∨
    (∃ y s, RT y ∧ SML y ∧ F7 x (kind, (pool, ((seg, off), (len, b)))) = some (opg y, (s, 0)) ∧ F9 x (kind, (pool, ((seg, off), (len, b)))) = some (flt (opg y) s 0)) := by
  have e24 := (RT_check hx hs).2
  have e25 := F25_eq hx (kind := kind) (pool := pool) (seg := seg) (b := b) h2 h3 h4
  by_cases ha : accE x kind pool seg off len b = 0
  rotate_left
  · refine .inl ⟨_, ha, acc_bad hx hs h1 h2 h3 h4 ha, ?_⟩
    unfold F9
    rw [e24, bnd_s, iEq_y rfl, nt, sel_f, e25, bnd_s, iEq_f ha, nf, sel_t]
    rfl
  rw [ha] at e25
  have hN := SML_NB hs
  have e8 : F8 x = some (opg x) := F14_RT hx
  by_cases hk : kind = 0 ∨ kind = 1
  · obtain ⟨p1, p2, p3, p4, ⟨t, ht, hB⟩, g1, g2⟩ := acc_mv hx hs hk h1 h2 h3 h4 ha
    have hkb : kind = 0 ∨ sLen b = mvN kind len b := by
      rcases hk with h | h
      · exact .inl h
      · right; unfold mvN; rw [if_neg (by omega)]
    obtain ⟨r, eL, hr⟩ := L27_eq (len := len) hx hN p2 p1 p3 hkb
    have hbn := sLen_nn b
    have hsum : iAdd .i64 len (sLen b) = mvN kind len b := by
      unfold fits at h3
      unfold mvN
      rcases p4 with ⟨k0, kb⟩ | ⟨k0, kb⟩
      · rw [if_pos k0, kb, sLen_nil, add_n (by omega) (by omega)]; omega
      · rw [if_neg (by omega), kb, add_n (by omega) (by omega)]; omega
    have e27 : F27 x.1.1 x.1.2 x.2.1 x.2.2.1 x.2.2.2.1 x.2.2.2.2.1 x.2.2.2.2.2 (kind, (pool, ((seg, off), (len, b)))) = bndS (L27_0 (.inl (opg x, ((kind, (pool, (seg, (off, (len, b))))), (mvN kind len b, (bs [], 0)))))) (fun y0 => sumS y0 (fun y0a => some (.inl y0a)) fun y0b => some (.inr y0b)) := by
      unfold F27
      dsimp only
      rw [hsum]
    have htm := hB.tm
    have hrd := hB.rd
    have hwr := hB.wr
    have hn1 : 0 ≤ x.2.2.2.1 := hN.1.1
    have hn2 : 0 ≤ x.2.2.2.2.1 := hN.2.1.1
    have hn3 : 0 ≤ x.2.2.2.2.2 := hN.2.2.1
    generalize movM kind pool seg off (mvN kind len b) b 20 x off (bs []) = M at *
    have e9 : F9 x (kind, (pool, ((seg, off), (len, b)))) = sel (bOr (bOr (iLt 999999999999999 M.1.2.2.2.1) (iLt 999999999999999 M.1.2.2.2.2.1)) (iLt 999999999999999 M.1.2.2.2.2.2)) (some (flt noP (bs []) 30)) (some (flt (opg M.1) M.2 0)) := by
      unfold F9
      rw [e24, bnd_s, iEq_y rfl, nt, sel_f, e25, bnd_s, iEq_y rfl, nt, sel_f, e8, bnd_s]
      dsimp only
      rw [iEq_f (a := kind) (b := 2) (by omega), sel_f, iEq_f (a := kind) (b := 3) (by omega), sel_f]
      show bndS (F27 x.1.1 x.1.2 x.2.1 x.2.2.1 x.2.2.2.1 x.2.2.2.2.1 x.2.2.2.2.2 (kind, (pool, ((seg, off), (len, b))))) _ = _
      rw [e27, eL, bnd_s]
      rcases hr with rfl | ⟨s, rfl⟩ <;> rfl
    rcases full_eq (z := M.1) ⟨by omega, by omega, by omega⟩ with ⟨q1, q2⟩ | ⟨q1, q2⟩
    · exact .inr ⟨M.1, M.2, hB.rt, q1, g1 q1, by rw [e9, q2, sel_f]⟩
    · exact .inl ⟨30, by decide, g2 q1, by rw [e9, q2, sel_t]⟩
  · have hk' : kind = 2 ∨ kind = 3 := by
      unfold accE at ha
      rw [if_neg (by omega), if_neg (by omega)] at ha
      split at ha
      · exact .inl (by assumption)
      · split at ha
        · exact .inr (by assumption)
        · cases ha
    obtain ⟨L, hL, hv, g1, g2⟩ := acc_fl hx hs hk' h1 h2 h3 h4 ha
    have hseg : kind = 2 → seg ≠ -1 := by
      intro k2
      unfold accE at ha
      rw [if_neg (by omega), if_neg (by omega), if_pos k2] at ha
      split at ha
      · have := ok_pages hx.sto (rdE_ok.1 ha).1
        omega
      · cases ha
    obtain ⟨q1, q2⟩ := chg_perm_used hx hL
    have hperm : (frc x kind seg L).foldl sav x = (frc x kind seg (chg x)).foldl sav x := savs_perm hx (q1.sublist (frc_sub x kind seg L)) (usedIn_sub q2 (frc_sub x kind seg L)) (frc_perm hL)
    obtain ⟨r, eL, hr⟩ := L26_eq hx hN (kind := kind) (seg := seg) (a := if kind = 3 then -1 else seg) (by
      by_cases k3 : kind = 3
      · rw [if_pos k3]; exact ⟨⟨fun _ => k3, fun _ => rfl⟩, fun h => absurd k3 h⟩
      · rw [if_neg k3]; exact ⟨⟨fun h => absurd h (hseg (by omega)), fun h => absurd h k3⟩, fun _ => rfl⟩)
    rw [← hperm] at hr
    have htm := hv.tm
    have hrd := hv.rd
    have hwr := hv.wr
    have hn1 : 0 ≤ x.2.2.2.1 := hN.1.1
    have hn2 : 0 ≤ x.2.2.2.2.1 := hN.2.1.1
    have hn3 : 0 ≤ x.2.2.2.2.2 := hN.2.2.1
    generalize (frc x kind seg L).foldl sav x = z at *
    have e26 : F26 x.1.1 x.1.2 x.2.1 x.2.2.1 x.2.2.2.1 x.2.2.2.2.1 x.2.2.2.2.2 (if kind = 3 then -1 else seg) = some r := by
      unfold F26
      show bndS (L26_0 (.inl (opg x, ((if kind = 3 then -1 else seg), 0)))) _ = _
      rw [eL, bnd_s]
      cases r <;> rfl
    have e9 : F9 x (kind, (pool, ((seg, off), (len, b)))) = sel (bOr (bOr (iLt 999999999999999 z.2.2.2.1) (iLt 999999999999999 z.2.2.2.2.1)) (iLt 999999999999999 z.2.2.2.2.2)) (some (flt noP (bs []) 30)) (some (flt (opg z) (bs []) 0)) := by
      unfold F9
      rw [e24, bnd_s, iEq_y rfl, nt, sel_f, e25, bnd_s, iEq_y rfl, nt, sel_f, e8, bnd_s]
      dsimp only
      rcases hk' with k2 | k3
      · rw [if_neg (by omega)] at e26
        rw [iEq_y k2, sel_t]
        show bndS (F26 x.1.1 x.1.2 x.2.1 x.2.2.1 x.2.2.2.1 x.2.2.2.2.1 x.2.2.2.2.2 seg) _ = _
        rw [e26, bnd_s]
        rcases hr with rfl | ⟨s, rfl⟩ <;> rfl
      · rw [if_pos k3] at e26
        rw [iEq_f (by omega), sel_f, iEq_y k3, sel_t]
        show bndS (F26 x.1.1 x.1.2 x.2.1 x.2.2.1 x.2.2.2.1 x.2.2.2.2.1 x.2.2.2.2.2 (-1)) _ = _
        rw [e26, bnd_s]
        rcases hr with rfl | ⟨s, rfl⟩ <;> rfl
    rcases full_eq (z := z) ⟨by omega, by omega, by omega⟩ with ⟨q1, q2⟩ | ⟨q1, q2⟩
    · exact .inr ⟨z, bs [], hv.rt, q1, g1 q1, by rw [e9, q2, sel_f]⟩
    · exact .inl ⟨30, by decide, g2 q1, by rw [e9, q2, sel_t]⟩
theorem same_RT {y : PAG} (h : RT y) : F10 y y = some true := F21_self y (by have := h.few.1; omega) (by have := h.n8; omega) (by have := h.h5; omega)
theorem same_no : F10 ((noP.1, noP.2.1), noP.2.2) ((noP.1, noP.2.1), noP.2.2) = some true := F21_self _ (by show 0 ≤ _; decide) (by show 0 ≤ _; decide) (by show 0 ≤ _; decide)
/-- PagingAccesses. -/
theorem accesses (x : PAG) (kind pool seg off len : Int) (b : ByteArray) (h : fits x.1.2) (h1 : fits seg) (h2 : fits off) (h3 : fits len) : F3 x (kind, (pool, ((seg, off), (len, b)))) = some true := by
  unfold F3
  rw [awake, bnd_s, nt, sel_f]
  rcases F12_eq x with ⟨hf, e⟩ | e
  rotate_left
  · rw [e, bnd_s, nf, or_tt, sel_t]
  rw [e, bnd_s, nt, or_ff]
  dsimp only
  by_cases hb4 : 400 < sLen b
  · rw [iLt_y hb4, sel_t]
  rw [iLt_f hb4, sel_f, F14_eq x (by have := hf.1.1; omega) (by have := hf.2.1; omega) (by have := hf.2.2.1; omega), bnd_s]
  show bndS (F7 x (kind, (pool, ((seg, off), (len, b))))) _ = _
  have two : (∃ e, e ≠ 0 ∧ F7 x (kind, (pool, ((seg, off), (len, b)))) = some (noP, (bs [], e)) ∧ F9 x (kind, (pool, ((seg, off), (len, b)))) = some (flt noP (bs []) e)) ∨
    (∃ y s, RT y ∧ SML y ∧ F7 x (kind, (pool, ((seg, off), (len, b)))) = some (opg y, (s, 0)) ∧ F9 x (kind, (pool, ((seg, off), (len, b)))) = some (flt (opg y) s 0)) := by
    rcases check_eq x hf.1 h (by have := hf.2.1; omega) with ⟨hr, _, _⟩ | ⟨c, hc, e1, e2⟩
    · obtain ⟨hx, hs⟩ := RT_of hr hf.1
      exact acc_two hx hs h1 h2 h3 (by omega)
    · refine .inl ⟨c, hc, ?_, ?_⟩
      · unfold F7; rw [e1, bnd_s, iEq_f hc, nf, sel_t]; rfl
      · unfold F9; rw [e2, bnd_s, iEq_f hc, nf, sel_t]; rfl
  rcases two with ⟨c, hc, e1, e2⟩ | ⟨y, s, hy, _, e1, e2⟩
  · rw [e1, e2, bnd_s, bnd_s]
    have w : bAnd (iEq c c) (sEq (bs []) (bs [])) = true := by rw [and_t, iEq_t, sEq_t]; exact ⟨rfl, rfl⟩
    show sel (bOr (okS (F10 ((noP.1, noP.2.1), noP.2.2) ((noP.1, noP.2.1), noP.2.2))) _) (letS (valS (F10 ((noP.1, noP.2.1), noP.2.2) ((noP.1, noP.2.1), noP.2.2)) false) fun y5 => some (bAnd (bAnd (iEq c c) (sEq (bs []) (bs []))) y5)) _ = _
    rw [same_no, okS_s, or_tt, sel_t, valS_s, let_s, w]
    rfl
  · rw [e1, e2, bnd_s, bnd_s]
    have w : bAnd (iEq 0 0) (sEq s s) = true := by rw [and_t, iEq_t, sEq_t]; exact ⟨rfl, rfl⟩
    show sel (bOr (okS (F10 y y)) _) (letS (valS (F10 y y) false) fun y5 => some (bAnd (bAnd (iEq 0 0) (sEq s s)) y5)) _ = _
    rw [same_RT hy, okS_s, or_tt, sel_t, valS_s, let_s, w]
    rfl
end Go.Proofs.YtagcodkkkebnhaaGreat.K
end

section
set_option linter.unusedVariables false
set_option linter.unusedSimpArgs false
set_option linter.unnecessarySimpa false
open Go Go.Ev
namespace Go.Proofs.YtagcodkkkebnhaaGreat.K
theorem F15_self (l : List ByteArray) (hl : l.length ≤ 1000000) : F15 l l = some true := by
  have h : L15_0 (l, (l, 0)) = some (Sum.inl ()) := by
    refine iter_run (fun i => (l, (l, (i : Int)))) l.length (by omega) ?_ ?_
    · intro i hi
      show B15_0 l l i = _
      unfold B15_0
      rw [iLt_y (by unfold lLen; omega), oIn_y (by unfold lLen; omega), sel_t, sel_t, sel_t, sEq_y rfl, nt, sel_f, add_n (by omega) (by omega)]
      rfl
    · show B15_0 l l l.length = _
      unfold B15_0
      rw [iLt_f (by unfold lLen; omega), sel_f]
  unfold F15
  rw [iEq_y rfl, nt, sel_f, h]
  rfl
abbrev z6 : Int × (Int × (Int × (Int × (Int × Int)))) := (0, (0, (0, (0, (0, 0)))))
abbrev RS0 := List SEG × (Int × (List FRM × (List Int × (Int × (Int × (Int × (Int × Int)))))))
abbrev RS1 := List SEG × (Int × (List FRM × (List Int × (Int × (Int × (Int × (List ByteArray × (Int × Int))))))))
def rs0 (y : PAG) : RS0 := (y.1.1, (y.1.2, (y.2.1, (y.2.2.1, (y.2.2.2.1, (y.2.2.2.2.1, (y.2.2.2.2.2, (0, 0))))))))
def rs1 (y : PAG) (out : List ByteArray) : RS1 := (y.1.1, (y.1.2, (y.2.1, (y.2.2.1, (y.2.2.2.1, (y.2.2.2.2.1, (y.2.2.2.2.2, (out, (0, 0)))))))))
def rst (l : List ACC) (y : PAG) (out : List ByteArray) (i : Int) : (List ACC × ((Int × (Int × (Int × (Int × (Int × Int))))) × (RS0 × Int))) ⊕ (List ACC × ((Int × (Int × (Int × (Int × (Int × Int))))) × (RS1 × Int))) :=
  match out with
  | [] => .inl (l, (z6, (rs0 y, i)))
  | a :: r => .inr (l, (z6, (rs1 y (a :: r), i)))
def ren (l : List ACC) (y : PAG) (out : List ByteArray) : (List ACC × ((Int × (Int × (Int × (Int × (Int × Int))))) × RS0)) ⊕ ((Int × (Int × (Int × (Int × (Int × Int))))) ⊕ (List ACC × ((Int × (Int × (Int × (Int × (Int × Int))))) × RS1))) :=
  match out with
  | [] => .inl (l, (z6, rs0 y))
  | a :: r => .inr (.inr (l, (z6, rs1 y (a :: r))))
theorem F7_21 {x : PAG} (hx : RT x) (hs : SML x) (a : ACC) : F21 x a = F7 x a := by
  unfold F7
  rw [(RT_check hx hs).1, bnd_s, iEq_y rfl, nt, sel_f]
  cases F21 x a <;> rfl
/-- Both walks over a list of accesses. -/
theorem run_two {x : PAG} (hx : RT x) (hs : SML x) (l : List ACC) (hl40 : l.length ≤ 40) (hw : ∀ i, i < l.length → fits (lAt l (i : Int)).2.2.1.1 ∧ fits (lAt l (i : Int)).2.2.1.2 ∧ fits (lAt l (i : Int)).2.2.2.1 ∧ sLen (lAt l (i : Int)).2.2.2.2 ≤ 400) :
    ∃ r s, L12_0 (l, (z4', (opg x, (([] : List ByteArray), (l, (lLen l, 0)))))) = some r ∧ L14_0 (.inl (l, (z6, (rs0 x, 0)))) = some s ∧
      ((∃ y out, RT y ∧ out.length ≤ 40 ∧ r = .inl (l, (z4', (opg y, out))) ∧ s = ren l y out) ∨ ∃ (i : Int) (e : Int), r = .inr (z4', (i, e)) ∧ s = .inr (.inl (0, (0, (0, (0, (i, e))))))) := by
  have hll : lLen l = (l.length : Int) := rfl
  refine loop_two (fun m a c => ∃ (i : Nat) (y : PAG) (out : List ByteArray), i ≤ l.length ∧ RT y ∧ SML y ∧ out.length = i ∧ a = (l, (z4', (opg y, (out, (l, (lLen l, (i : Int))))))) ∧ c = rst l y out i ∧ m = l.length - i) l.length ⟨0, x, [], by omega, hx, hs, rfl, rfl, rfl, rfl⟩ (by omega) ?_
  rintro m a c ⟨i, y, out, hi, hy, hys, hout, rfl, rfl, rfl⟩
  by_cases hlt : i < l.length
  rotate_left
  · refine .inr ⟨.inl (l, (z4', (opg y, out))), ren l y out, ?_, ?_, .inl ⟨y, out, hy, by omega, rfl, rfl⟩⟩
    · show B12_0 l 0 0 0 0 y.1.1 y.1.2 y.2.1 y.2.2.1 y.2.2.2.1 y.2.2.2.2.1 y.2.2.2.2.2 out l (lLen l) i = _
      unfold B12_0
      rw [iLt_f (by omega), sel_f]
    · cases out with
      | nil =>
        show B14_0h0 l 0 0 0 0 0 0 y.1.1 y.1.2 y.2.1 y.2.2.1 y.2.2.2.1 y.2.2.2.2.1 y.2.2.2.2.2 0 0 i = _
        unfold B14_0h0
        rw [iLt_f (by omega), sel_f]
        rfl
      | cons o r =>
        show B14_0h1 l 0 0 0 0 0 0 y.1.1 y.1.2 y.2.1 y.2.2.1 y.2.2.2.1 y.2.2.2.2.1 y.2.2.2.2.2 (o :: r) 0 0 i = _
        unfold B14_0h1
        rw [iLt_f (by omega), sel_f]
        rfl
  obtain ⟨f1, f2, f3, f4⟩ := hw i hlt
  have hP : B12_0 l 0 0 0 0 y.1.1 y.1.2 y.2.1 y.2.2.1 y.2.2.2.1 y.2.2.2.2.1 y.2.2.2.2.2 out l (lLen l) i = bndS (F7 y (lAt l (i : Int))) fun y0 => sel (bNot (iEq y0.2.2 0)) (some (.inr (.inr ((0, (0, (0, 0))), ((i : Int), y0.2.2))))) (sel (lCap 16 (lApp out [y0.2.1])) (some (.inl (l, ((0, (0, (0, 0))), (y0.1, ((lApp out [y0.2.1]), (l, (lLen l, (iAdd .i64 i 1))))))))) none) := by
    unfold B12_0
    rw [iLt_y (by omega), sel_t, oIn_y (by omega), sel_t]
    show bndS (F21 y (lAt l (i : Int))) _ = _
    rw [F7_21 hy hys]
  have hR0 : B14_0h0 l 0 0 0 0 0 0 y.1.1 y.1.2 y.2.1 y.2.2.1 y.2.2.2.1 y.2.2.2.2.1 y.2.2.2.2.2 0 0 i = bndS (F9 y (lAt l (i : Int))) fun y0 => sel (bNot (iEq y0.2.2.2.2.2.2.2.2 0)) (some (.inr (.inr (.inl (0, (0, (0, (0, ((i : Int), y0.2.2.2.2.2.2.2.2))))))))) (sel (lCap 16 [y0.2.2.2.2.2.2.2.1]) (some (.inl (.inr (l, (z6, ((y0.1, (y0.2.1, (y0.2.2.1, (y0.2.2.2.1, (y0.2.2.2.2.1, (y0.2.2.2.2.2.1, (y0.2.2.2.2.2.2.1, ([y0.2.2.2.2.2.2.2.1], (0, 0))))))))), (iAdd .i64 i 1))))))) none) := by
    unfold B14_0h0
    rw [iLt_y (by omega), sel_t, oIn_y (by omega), sel_t]
  have hR1 : ∀ o : List ByteArray, B14_0h1 l 0 0 0 0 0 0 y.1.1 y.1.2 y.2.1 y.2.2.1 y.2.2.2.1 y.2.2.2.2.1 y.2.2.2.2.2 o 0 0 i = bndS (F9 y (lAt l (i : Int))) fun y0 => sel (bNot (iEq y0.2.2.2.2.2.2.2.2 0)) (some (.inr (.inr (.inl (0, (0, (0, (0, ((i : Int), y0.2.2.2.2.2.2.2.2))))))))) (sel (lCap 16 (lApp o [y0.2.2.2.2.2.2.2.1])) (some (.inl (.inr (l, (z6, ((y0.1, (y0.2.1, (y0.2.2.1, (y0.2.2.2.1, (y0.2.2.2.2.1, (y0.2.2.2.2.2.1, (y0.2.2.2.2.2.2.1, ((lApp o [y0.2.2.2.2.2.2.2.1]), (0, 0))))))))), (iAdd .i64 i 1))))))) none) := by
    intro o
    unfold B14_0h1
    rw [iLt_y (by omega), sel_t, oIn_y (by omega), sel_t]
  have two : (∃ e, e ≠ 0 ∧ F7 y (lAt l (i : Int)) = some (noP, (bs [], e)) ∧ F9 y (lAt l (i : Int)) = some (flt noP (bs []) e)) ∨
    (∃ y' s, RT y' ∧ SML y' ∧ F7 y (lAt l (i : Int)) = some (opg y', (s, 0)) ∧ F9 y (lAt l (i : Int)) = some (flt (opg y') s 0)) := acc_two hy hys f1 f2 f3 f4
  rcases two with ⟨c, hc, e1, e2⟩ | ⟨y', s, hy', hys', e1, e2⟩
  · refine .inr ⟨.inr (z4', ((i : Int), c)), .inr (.inl (0, (0, (0, (0, ((i : Int), c)))))), ?_, ?_, .inr ⟨_, _, rfl, rfl⟩⟩
    · show B12_0 l 0 0 0 0 y.1.1 y.1.2 y.2.1 y.2.2.1 y.2.2.2.1 y.2.2.2.2.1 y.2.2.2.2.2 out l (lLen l) i = _
      rw [hP, e1, bnd_s, iEq_f hc, nf, sel_t]
    · cases out with
      | nil =>
        show B14_0h0 l 0 0 0 0 0 0 y.1.1 y.1.2 y.2.1 y.2.2.1 y.2.2.2.1 y.2.2.2.2.1 y.2.2.2.2.2 0 0 i = _
        rw [hR0, e2, bnd_s]
        dsimp only [flt]
        rw [iEq_f hc, nf, sel_t]
      | cons o r =>
        show B14_0h1 l 0 0 0 0 0 0 y.1.1 y.1.2 y.2.1 y.2.2.1 y.2.2.2.1 y.2.2.2.2.1 y.2.2.2.2.2 (o :: r) 0 0 i = _
        rw [hR1, e2, bnd_s]
        dsimp only [flt]
        rw [iEq_f hc, nf, sel_t]
  · refine .inl ⟨l.length - (i + 1), (l, (z4', (opg y', (out ++ [s], (l, (lLen l, ((i + 1 : Nat) : Int))))))), rst l y' (out ++ [s]) ((i + 1 : Nat) : Int), by omega, ?_, ?_, i + 1, y', out ++ [s], by omega, hy', hys', by simp; omega, rfl, rfl, rfl⟩
    · show B12_0 l 0 0 0 0 y.1.1 y.1.2 y.2.1 y.2.2.1 y.2.2.2.1 y.2.2.2.2.1 y.2.2.2.2.2 out l (lLen l) i = _
      rw [hP, e1, bnd_s]
      dsimp only
      rw [iEq_y (a := (0 : Int)) rfl, nt, sel_f, lCap_y (by decide) (by decide) (by simp [lApp]; omega), sel_t, add_n (by omega) (by omega)]
      rfl
    · cases out with
      | nil =>
        show B14_0h0 l 0 0 0 0 0 0 y.1.1 y.1.2 y.2.1 y.2.2.1 y.2.2.2.1 y.2.2.2.2.1 y.2.2.2.2.2 0 0 i = _
        rw [hR0, e2, bnd_s]
        dsimp only [flt]
        rw [iEq_y (a := (0 : Int)) rfl, nt, sel_f, lCap_y (by decide) (by decide) (by simp), sel_t, add_n (by omega) (by omega)]
        rfl
      | cons o r =>
        show B14_0h1 l 0 0 0 0 0 0 y.1.1 y.1.2 y.2.1 y.2.2.1 y.2.2.2.1 y.2.2.2.2.1 y.2.2.2.2.2 (o :: r) 0 0 i = _
        rw [hR1, e2, bnd_s]
        dsimp only [flt]
        rw [iEq_y (a := (0 : Int)) rfl, nt, sel_f, lCap_y (by decide) (by decide) (by simp [lApp] at hout ⊢; omega), sel_t, add_n (by omega) (by omega)]
        rfl
/-- PagingRuns. -/
theorem runs (x : PAG) (l : List ACC) (h : fits x.1.2) (hl : ∀ a ∈ l, fits a.2.2.1.1 ∧ fits a.2.2.1.2 ∧ fits a.2.2.2.1) : F4 x l = some true := by
  have hll : lLen l = (l.length : Int) := rfl
  unfold F4
  rw [awake, bnd_s, nt, sel_f]
  rcases F12_eq x with ⟨hf, e⟩ | e
  rotate_left
  · rw [e, bnd_s, nf]
    have : bOr (okS (F11 l)) (bNot (bNot true)) = true := by rw [or_t]; exact .inr rfl
    rw [this, sel_t, let_s, or_tt, sel_t]
  rw [e, bnd_s, nt]
  rcases F39_eq l with ⟨e39, hlt⟩ | e39
  rotate_left
  · rw [e39, okS_s, or_tt, sel_t, valS_s, let_s, nf, or_ff, sel_t]
  have hlen : l.length ≤ 42 := by
    rcases Nat.lt_or_ge 42 l.length with h | h
    · have := (hlt 42 h).1; omega
    · exact h
  have e13 : F13 l = some l := by unfold F13; rw [lCap_y (by decide) (by decide) (by omega), sel_t]
  have e15 : F15 [] [] = some true := F15_self [] (by simp)
  rw [e39, okS_s, or_tt, sel_t, valS_s, let_s, nt, or_ff, sel_f, F14_eq x (by have := hf.1.1; omega) (by have := hf.2.1; omega) (by have := hf.2.2.1; omega), bnd_s, e13, bnd_s]
  show bndS (F12 x l) _ = _
  have bad : ∀ (i e : Int), F12 x l = some (noP, ([], (i, e))) → F14 x l = some ([], (0, ([], ([], (0, (0, (0, ([], (i, e))))))))) → bndS (F12 x l) (fun y5 =>
      bndS (F14 x l) fun y6 =>
      sel (bOr (okS (F15 y5.2.1 y6.2.2.2.2.2.2.2.1)) (bNot (bAnd (iEq y5.2.2.2 y6.2.2.2.2.2.2.2.2.2) (iEq y5.2.2.1 y6.2.2.2.2.2.2.2.2.1)))) (
      letS (valS (F15 y5.2.1 y6.2.2.2.2.2.2.2.1) false) fun y7 =>
      sel (bOr (okS (F10 ((y5.1.1, y5.1.2.1), y5.1.2.2) ((y6.1, y6.2.1), (y6.2.2.1, (y6.2.2.2.1, (y6.2.2.2.2.1, (y6.2.2.2.2.2.1, y6.2.2.2.2.2.2.1))))))) (bNot (bAnd (bAnd (iEq y5.2.2.2 y6.2.2.2.2.2.2.2.2.2) (iEq y5.2.2.1 y6.2.2.2.2.2.2.2.2.1)) y7))) (
      letS (valS (F10 ((y5.1.1, y5.1.2.1), y5.1.2.2) ((y6.1, y6.2.1), (y6.2.2.1, (y6.2.2.2.1, (y6.2.2.2.2.1, (y6.2.2.2.2.2.1, y6.2.2.2.2.2.2.1)))))) false) fun y8 =>
      some (bAnd (bAnd (bAnd (iEq y5.2.2.2 y6.2.2.2.2.2.2.2.2.2) (iEq y5.2.2.1 y6.2.2.2.2.2.2.2.2.1)) y7) y8)) none) none) = some true := by
    intro i e h1 h2
    rw [h1, h2, bnd_s, bnd_s]
    dsimp only
    rw [e15, okS_s, or_tt, sel_t, valS_s, let_s]
    show sel (bOr (okS (F10 ((noP.1, noP.2.1), noP.2.2) ((noP.1, noP.2.1), noP.2.2))) _) (letS (valS (F10 ((noP.1, noP.2.1), noP.2.2) ((noP.1, noP.2.1), noP.2.2)) false) _) _ = _
    rw [same_no, okS_s, or_tt, sel_t, valS_s, let_s, iEq_y rfl, iEq_y rfl]
    rfl
  rcases check_eq x hf.1 h (by have := hf.2.1; omega) with ⟨hr, e1, e2⟩ | ⟨c, hc, e1, e2⟩
  rotate_left
  · refine bad 0 c ?_ ?_
    · unfold F12; rw [e1, bnd_s, iEq_f hc, nf, sel_t]; rfl
    · unfold F14; rw [e2, bnd_s, iEq_f hc, nf, sel_t]
  by_cases h40 : 40 < l.length
  · refine bad 0 2 ?_ ?_
    · unfold F12; rw [e1, bnd_s, iEq_y rfl, nt, sel_f, iLt_y (by omega), sel_t]; rfl
    · unfold F14; rw [e2, bnd_s, iEq_y rfl, nt, sel_f, iLt_y (by omega), sel_t]
  obtain ⟨hx, hs⟩ := RT_of hr hf.1
  obtain ⟨r, s, g1, g2, hq⟩ := run_two hx hs l (by omega) (fun i hi => by
    obtain ⟨a, b, c⟩ := hl _ (lAt_in hi)
    exact ⟨a, b, c, (hlt i hi).2⟩)
  have e12 : F12 x l = bndS (some r) fun y2 => sumS y2 (fun y2a => some (y2a.2.2.1, (y2a.2.2.2, ((lLen y2a.1), 0)))) fun y2b => some ((([] : List SEG), (y2b.1.1, (([] : List FRM), (([] : List Int), y2b.1.2)))), (([] : List ByteArray), y2b.2)) := by
    unfold F12
    rw [e1, bnd_s, iEq_y rfl, nt, sel_f, iLt_f (by omega), sel_f, F51_RT hx, bnd_s]
    show bndS (L12_0 (l, (z4', (opg x, (([] : List ByteArray), (l, (lLen l, 0))))))) _ = _
    rw [g1]
  have e8 : F8 x = some (opg x) := F14_RT hx
  rcases hq with ⟨y, out, hy, ho, rfl, rfl⟩ | ⟨i, e, rfl, rfl⟩
  rotate_left
  · refine bad i e (by rw [e12]; rfl) ?_
    unfold F14
    rw [e2, bnd_s, iEq_y rfl, nt, sel_f, iLt_f (by omega), sel_f, e8, bnd_s]
    show bndS (L14_0 (.inl (l, (z6, (rs0 x, 0))))) _ = _
    rw [g2]
    rfl
  have e14 : F14 x l = some (y.1.1, (y.1.2, (y.2.1, (y.2.2.1, (y.2.2.2.1, (y.2.2.2.2.1, (y.2.2.2.2.2, (out, (lLen l, 0))))))))) := by
    unfold F14
    rw [e2, bnd_s, iEq_y rfl, nt, sel_f, iLt_f (by omega), sel_f, e8, bnd_s]
    show bndS (L14_0 (.inl (l, (z6, (rs0 x, 0))))) _ = _
    rw [g2]
    cases out <;> rfl
  rw [e12, e14, bnd_s]
  dsimp only [sumS]
  rw [bnd_s, bnd_s]
  dsimp only
  rw [F15_self out (by omega), okS_s, or_tt, sel_t, valS_s, let_s]
  show sel (bOr (okS (F10 y y)) _) (letS (valS (F10 y y) false) _) _ = _
  rw [same_RT hy, okS_s, or_tt, sel_t, valS_s, let_s, iEq_y rfl, iEq_y rfl]
  rfl
end Go.Proofs.YtagcodkkkebnhaaGreat.K
end
