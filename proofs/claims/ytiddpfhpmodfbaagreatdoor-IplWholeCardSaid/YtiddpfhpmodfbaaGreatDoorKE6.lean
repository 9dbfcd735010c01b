/- A part of the proof: texts of the author, joined. -/
import Derived.Test.YtiddpfhpmodfbaaGreatDoorKE5
import Derived.Orders
import Derived.Eval
import Derived.Shelf.Strings.Repeat
import Derived.Shelf.Strings.Search3
section
set_option linter.unusedVariables false
set_option linter.unusedSimpArgs false
set_option linter.unnecessarySimpa false
namespace Go.Ev
open Go

section
variable {ln ln' : Nat → Option (Nat × Nat)} {E : Env} {C : CallF} {G : GT} {L : LT}

/-! ### Functions -/
theorem resl_R {P : Program} {s s' : St} (hS : SC ln s s') : ∀ {rs : List ResultVar} {vs : List V}, kResl P s rs = some vs → ∃ ws, resl P s' rs = some ws ∧ RL ln vs ws
  | [], vs, h => by cases h; exact ⟨[], rfl, .nil⟩
  | .tmp t :: r, vs, h => by
    unfold kResl at h
    obtain ⟨v, hv, h⟩ := bnd_eq h
    obtain ⟨q, hq, h⟩ := bnd_eq h
    cases h
    obtain ⟨w, hw, hr⟩ := kO_R hS.r (cur := none) trivial (.tmp t) v hv
    obtain ⟨ws, h1, h2⟩ := resl_R hS hq
    exact ⟨w :: ws, by unfold resl; rw [show s'.tm t = some w from hw, bnd_intro rfl, h1, bnd_intro rfl], Rows.cons hr h2⟩
  | .cell a t :: r, vs, h => by
    unfold kResl at h
    obtain ⟨p, hp, h⟩ := bnd_eq h
    obtain ⟨d, hd, h⟩ := bnd_eq h
    obtain ⟨v, hv, h⟩ := bnd_eq h
    obtain ⟨q, hq, h⟩ := bnd_eq h
    cases h
    obtain ⟨w, hw, hr⟩ := kO_R hS.r (cur := none) trivial (.tmp a) p hp
    obtain ⟨u, hu, hD⟩ := load_R (k := 0) hd hr hS.r.h
    obtain ⟨ws, h1, h2⟩ := resl_R hS hq
    have hvu : R ln v u := by
      rcases hD.v with ⟨h3, _⟩ | ⟨x, y, h3, h4, h5⟩
      · rw [h3] at hv; cases hv
      · rw [h3] at hv; cases hv; cases h4; exact h5
    exact ⟨u :: ws, by unfold resl; rw [show s'.tm a = some w from hw, bnd_intro rfl, hu, bnd_intro rfl, h1, bnd_intro rfl], Rows.cons hvu h2⟩
theorem SC.grow {s s' : St} (hS : SC ln s s') {ln1 : Nat → Option (Nat × Nat)} (hle : ∀ c q, ln c = some q → ln1 c = some q) {h1 h1' : Nat → Option Blk} (hH : HR ln1 h1 h1') (hf : FreeB ln1 (s'.nx + 1) h1 h1') :
    SC ln1 { s with h := h1, nx := s.nx + 1 } { s' with h := h1', nx := s'.nx + 1 } := by
  refine ⟨⟨fun u x hx => ?_, hH, hS.r.nt, hS.r.ni⟩, hf, by show s.nx + 1 = s'.nx + 1; rw [hS.nx], by show s'.ni ≤ s'.nx + 1; have := hS.le; omega⟩
  obtain ⟨w', h1, h2⟩ := hS.r.tm u x hx
  exact ⟨w', h1, h2.mono hle fun _ _ _ _ _ h => h⟩
theorem RL.mono {cs vs : List V} (h : RL ln cs vs) (hle : ∀ b p, ln b = some p → ln' b = some p) : RL ln' cs vs := Rows.mono h fun _ _ h => h.mono hle
structure Own (ln : Nat → Option (Nat × Nat)) (s' : St) (q : List V × St) (q' : List V × St) (ln1 : Nat → Option (Nat × Nat)) : Prop where
  old : ∀ b p, ln b = some p → ln1 b = some p
  same : ∀ b, b < s'.nx → ln1 b = ln b
  v : RL ln1 q.1 q'.1
  s : SC ln1 q.2 q'.2
  ni : q'.2.ni = s'.ni
  nx : s'.nx ≤ q'.2.nx
theorem tr_core {s s' : St} {b n : Nat} {t : Ty} {l : List t.T} (hS : SC ln s s') (hb : blkT s.h b = some ⟨t, l⟩) (hn : n ≤ l.length) {e : Nat} (he : Nat.ble 1000000 e = true) :
    ∃ h1', trB e s' (.ref b t.size 0 n) = some (.ref s'.nx t.size 0 n, { s' with h := h1', nx := s'.nx + 1 }) ∧ ∃ ln1, (∀ c q, ln c = some q → ln1 c = some q) ∧ (∀ c, c < s'.nx → ln1 c = ln c) ∧ ln1 s.nx = some (t.size, n) ∧ HR ln1 (set (set s.h b none) s.nx (some (mkArr t (l.take n)))) h1' ∧ FreeB ln1 (s'.nx + 1) (set (set s.h b none) s.nx (some (mkArr t (l.take n)))) h1' := by
  have hnx := hS.nx
  obtain ⟨fl, sz, fl', es, hbk, hbv, hln, hf, _, hr⟩ := blkT_inv hb hS.r.h
  refine ⟨set (set s'.h b none) s'.nx (some ⟨false, fl', t.size, es.take n⟩), ?_, lnS ln s.nx (t.size, n), lnS_old (hS.f.l _ (by omega)), fun c hc => by unfold lnS; rw [if_neg (by omega)], by simp [lnS], fun c => ?_, ⟨fun c hc => ?_, fun c hc => ?_, fun c hc => ?_⟩⟩
  · simp only [trB, he, hbv, bnd]
    exact grd_intro ⟨by first | trivial | rfl, by first | trivial | rfl, by rw [← hr.1]; exact hn⟩
  · rw [hnx]
    by_cases hc : c = s'.nx
    · subst hc
      rw [set_same, set_same]
      have h1 : (l.take n).length = n := by rw [List.length_take]; omega
      exact mkArr_OB (by simp [lnS, h1]) hf (hr.take n)
    · rw [set_ne hc, set_ne hc]
      by_cases hcb : c = b
      · subst hcb; rw [set_same, set_same]; exact .none
      · rw [set_ne hcb, set_ne hcb]
        have := lnS_old (ln := ln) (k := s.nx) (p := (t.size, n)) (hS.f.l _ (by omega))
        rw [hnx] at this
        exact (hS.r.h c).mono this
  · unfold lnS
    rw [if_neg (by omega)]; exact hS.f.l c (by omega)
  · rw [set_ne (by omega)]
    by_cases hcb : c = b
    · subst hcb; exact set_same _ _ _
    · rw [set_ne hcb]; exact hS.f.K c (by omega)
  · rw [set_ne (by omega)]
    by_cases hcb : c = b
    · subst hcb; exact set_same _ _ _
    · rw [set_ne hcb]; exact hS.f.V c (by omega)
theorem trK_R {s s' : St} {v w : V} {p : V × St} (h : trK s v = some p) (hr : R ln v w) (hS : SC ln s s') {e : Nat} (he : Nat.ble 1000000 e = true) :
    ∃ h1 h1' w1, p = (.own s.nx, { s with h := h1, nx := s.nx + 1 }) ∧ trB e s' w = some (w1, { s' with h := h1', nx := s'.nx + 1 }) ∧ ∃ ln1, (∀ c q, ln c = some q → ln1 c = some q) ∧ (∀ c, c < s'.nx → ln1 c = ln c) ∧ R ln1 (.own s.nx) w1 ∧ HR ln1 h1 h1' ∧ FreeB ln1 (s'.nx + 1) h1 h1' := by
  have hnx := hS.nx
  unfold trK at h
  split at h
  · split at h
    · rename_i b t l hb
      cases h
      obtain ⟨_, _, _, es, _, _, hln, _, _, hrr⟩ := blkT_inv hb hS.r.h
      cases hr with
      | own h2 =>
        rw [hln] at h2
        cases h2
        obtain ⟨h1', h3, ln1, h4, h5, h6, h7, h8⟩ := tr_core hS hb (n := l.length) (Nat.le_refl _) he
        rw [List.take_length] at h7 h8
        exact ⟨_, h1', _, rfl, h3, ln1, h4, h5, by rw [hnx]; rw [hnx] at h6; exact .own h6, h7, h8⟩
    · cases h
  · split at h
    · split at h
      · rename_i b hi _ _ t l hb
        cases h
        obtain ⟨_, _, _, es, _, _, hln, _, _, hrr⟩ := blkT_inv hb hS.r.h
        cases hr with
        | sub h2 g0 g1 g2 =>
          rw [hln] at h2
          cases h2
          have e0 : (Int.ofNat 0).toNat = 0 := rfl
          have e1 : (hi - Int.ofNat 0).toNat = hi.toNat := by simp
          rw [e0, e1]
          have hle : hi.toNat ≤ l.length := by omega
          obtain ⟨h1', h3, ln1, h4, h5, h6, h7, h8⟩ := tr_core hS hb (n := hi.toNat) hle he
          have e2 : lCut l 0 hi = l.take hi.toNat := by unfold lCut; simp
          rw [e2]
          exact ⟨_, h1', _, rfl, h3, ln1, h4, h5, by rw [hnx]; rw [hnx] at h6; exact .own h6, h7, h8⟩
      · cases h
    · cases h
  · cases h
theorem ownL_R {P : Program} : ∀ {sl : List (Option Nat)} {cs ws : List V} {s s' : St} {q : List V × St} {ln : Nat → Option (Nat × Nat)}, kOwnL P sl cs s = some q → RL ln cs ws → SC ln s s' → ∃ ln1, Own ln s' q (ownL P sl ws s') ln1
  | [], cs, ws, s, s', q, ln, h, hr, hS => by cases h; exact ⟨ln, ⟨fun _ _ h => h, fun _ _ => rfl, hr, hS, rfl, Nat.le_refl _⟩⟩
  | o :: sl, [], ws, s, s', q, ln, h, hr, hS => by
    rw [hr.inv0]
    cases o <;> (cases h; exact ⟨ln, ⟨fun _ _ h => h, fun _ _ => rfl, .nil, hS, rfl, Nat.le_refl _⟩⟩)
  | none :: sl, v :: cs, ws, s, s', q, ln, h, hr, hS => by
    obtain ⟨w, r, rfl, h1, h2⟩ := hr.inv
    unfold kOwnL at h
    obtain ⟨p, hp, h⟩ := bnd_eq h
    cases h
    obtain ⟨ln1, hO⟩ := ownL_R hp h2 hS
    exact ⟨ln1, ⟨hO.old, hO.same, Rows.cons (h1.mono hO.old) hO.v, hO.s, hO.ni, hO.nx⟩⟩
  | some e :: sl, v :: cs, ws, s, s', q, ln, h, hr, hS => by
    obtain ⟨w, r, rfl, h1, h2⟩ := hr.inv
    have hnx := hS.nx
    unfold kOwnL at h
    have nilc : ∀ {ty : Ty} {p : List V × St}, v = .lit (.slice none 0 0) → tyOf P 9 (e % 1000000) = some ty → Nat.beq ty.size (tsz P (e % 1000000)) = true → kOwnL P sl cs { s with h := set s.h s.nx (some (mkArr ty [])), nx := s.nx + 1 } = some p → ∃ ln1, Own ln s' (.own s.nx :: p.1, p.2) (ownL P (some e :: sl) (w :: r) s') ln1 := fun {ty p} hv hty hs hp => by
      subst hv
      have hs := beq_nat hs
      cases h1
      obtain ⟨g1, g1b, g2, g3⟩ := newArr_free hS hs
      obtain ⟨ln1, hO⟩ := ownL_R hp (RL.mono h2 g1) (hS.grow g1 g2 g3)
      refine ⟨ln1, ⟨fun b p h => hO.old b p (g1 b p h), fun b hb => by rw [hO.same b (by show b < s'.nx + 1; omega), g1b b hb], ?_, hO.s, hO.ni, Nat.le_trans (Nat.le_succ _) hO.nx⟩⟩
      refine Rows.cons ?_ hO.v
      show R ln1 (.own s.nx) (.ref s'.nx (tsz P (e % 1000000)) 0 0)
      rw [← hnx]
      exact .own (hO.old _ _ (by simp [lnS]))
    split at h
    · rename_i he
      split at h
      · obtain ⟨ty, hty, h⟩ := bnd_eq h
        obtain ⟨hs, h⟩ := ck_eq h
        obtain ⟨p, hp, h⟩ := bnd_eq h
        cases h
        exact nilc rfl hty hs hp
      obtain ⟨p, hp, h⟩ := bnd_eq h
      obtain ⟨q', hq', h⟩ := bnd_eq h
      cases h
      obtain ⟨g, g', w1, rfl, ht, ln1, b1, b2, b3, b4, b5⟩ := trK_R hp h1 hS he
      obtain ⟨ln2, hO⟩ := ownL_R hq' (RL.mono h2 b1) (hS.grow b1 b4 b5)
      refine ⟨ln2, ⟨fun b p h => hO.old b p (b1 b p h), fun b hb => by rw [hO.same b (by show b < s'.nx + 1; omega), b2 b hb], ?_, ?_, ?_, ?_⟩⟩ <;> unfold ownL <;> simp only [ht]
      · exact Rows.cons (b3.mono hO.old) hO.v
      · exact hO.s
      · exact hO.ni
      · have := hO.nx; simp only at this; omega
    rename_i he
    have htn : ∀ w, trB e s' w = none := fun w => by
      unfold trB
      split
      · rw [he]
      · rfl
    have plain : ∀ {p : List V × St}, kOwnL P sl cs s = some p → ownL P (some e :: sl) (w :: r) s' = (w :: (ownL P sl r s').1, (ownL P sl r s').2) → ∃ ln1, Own ln s' (v :: p.1, p.2) (ownL P (some e :: sl) (w :: r) s') ln1 := fun hp he => by
      obtain ⟨ln1, hO⟩ := ownL_R hp h2 hS
      rw [he]
      exact ⟨ln1, ⟨hO.old, hO.same, Rows.cons (h1.mono hO.old) hO.v, hO.s, hO.ni, hO.nx⟩⟩
    split at h
    · obtain ⟨ty, hty, h⟩ := bnd_eq h
      obtain ⟨hs, h⟩ := ck_eq h
      obtain ⟨p, hp, h⟩ := bnd_eq h
      cases h
      have hs := beq_nat hs
      cases h1
      obtain ⟨g1, g1b, g2, g3⟩ := newArr_free hS hs
      obtain ⟨ln1, hO⟩ := ownL_R hp (RL.mono h2 g1) (hS.grow g1 g2 g3)
      refine ⟨ln1, ⟨fun b p h => hO.old b p (g1 b p h), fun b hb => by rw [hO.same b (by show b < s'.nx + 1; omega), g1b b hb], ?_, hO.s, hO.ni, Nat.le_trans (Nat.le_succ _) hO.nx⟩⟩
      refine Rows.cons ?_ hO.v
      show R ln1 (.own s.nx) (.ref s'.nx (tsz P (e % 1000000)) 0 0)
      rw [← hnx]
      exact .own (hO.old _ _ (by simp [lnS]))
    · rename_i b
      cases h1 with
      | own hb =>
        split at h
        · obtain ⟨s2, hs2, h⟩ := bnd_eq h
          obtain ⟨p, hp, h⟩ := bnd_eq h
          cases h
          obtain ⟨x, z, hx, hz, rfl, hmv, hln⟩ := mvB_R hs2 hS
          obtain ⟨ln1, g1, g1b, g2, g3, g4⟩ := hln _ hb
          obtain ⟨ln2, hO⟩ := ownL_R hp (RL.mono h2 g1) (hS.grow g1 g3 g4)
          refine ⟨ln2, ⟨fun b p h => hO.old b p (g1 b p h), fun b hb => by rw [hO.same b (by show b < s'.nx + 1; omega), g1b b hb], ?_, ?_, ?_, ?_⟩⟩ <;> unfold ownL <;> simp only [htn, hmv]
          · refine Rows.cons ?_ hO.v
            rw [← hnx]
            exact .own (hO.old _ _ g2)
          · exact hO.s
          · exact hO.ni
          · have := hO.nx; simp only at this; omega
        · rename_i hbn
          obtain ⟨p, hp, h⟩ := bnd_eq h
          cases h
          refine plain hp ?_
          have := mvB_off (s := s') (b := b) (by rw [← hS.r.ni]; exact hbn)
          conv => lhs; unfold ownL
          simp only [htn, this]
    · rename_i b lo hi
      cases h1 with
      | sub hb a1 a2 a3 =>
        split at h
        · obtain ⟨s2, hs2, h⟩ := bnd_eq h
          obtain ⟨p, hp, h⟩ := bnd_eq h
          cases h
          obtain ⟨x, z, hx, hz, rfl, hmv, hln⟩ := mvB_R hs2 hS
          obtain ⟨ln1, g1, g1b, g2, g3, g4⟩ := hln _ hb
          obtain ⟨ln2, hO⟩ := ownL_R hp (RL.mono h2 g1) (hS.grow g1 g3 g4)
          refine ⟨ln2, ⟨fun b p h => hO.old b p (g1 b p h), fun b hb => by rw [hO.same b (by show b < s'.nx + 1; omega), g1b b hb], ?_, ?_, ?_, ?_⟩⟩ <;> unfold ownL <;> simp only [htn, hmv]
          · refine Rows.cons ?_ hO.v
            rw [← hnx]
            exact .sub (hO.old _ _ g2) a1 a2 a3
          · exact hO.s
          · exact hO.ni
          · have := hO.nx; simp only at this; omega
        · rename_i hbn
          obtain ⟨p, hp, h⟩ := bnd_eq h
          cases h
          refine plain hp ?_
          have := mvB_off (s := s') (b := b) (by rw [← hS.r.ni]; exact hbn)
          conv => lhs; unfold ownL
          simp only [htn, this]
    · cases h
    · rename_i n1 n2 n3 n4
      obtain ⟨p, hp, h⟩ := bnd_eq h
      cases h
      refine plain hp ?_
      conv => lhs; unfold ownL
      simp only [htn]
      cases h1 <;> first
        | rfl
        | (exact absurd rfl (n4 _ _))
        | (exact absurd rfl (n2 _))
        | (exact absurd rfl (n3 _ _ _))
        | (split <;> first | rfl | (exfalso; simp_all; done))
theorem ownVs_R {P : Program} : ∀ {sl : List (List (Option Nat))} {vs ws : List V} {s s' : St} {q : List V × St} {ln : Nat → Option (Nat × Nat)}, kOwnVs P sl vs s = some q → RL ln vs ws → SC ln s s' → ∃ ln1, Own ln s' q (ownVs P sl ws s') ln1
  | [], vs, ws, s, s', q, ln, h, hr, hS => by cases h; exact ⟨ln, ⟨fun _ _ h => h, fun _ _ => rfl, hr, hS, rfl, Nat.le_refl _⟩⟩
  | o :: sl, [], ws, s, s', q, ln, h, hr, hS => by
    rw [hr.inv0]
    cases h; exact ⟨ln, ⟨fun _ _ h => h, fun _ _ => rfl, .nil, hS, rfl, Nat.le_refl _⟩⟩
  | o :: sl, v :: vs, ws, s, s', q, ln, h, hr, hS => by
    obtain ⟨w, r, rfl, h1, h2⟩ := hr.inv
    unfold kOwnVs at h
    split at h
    · obtain ⟨p, hp, h⟩ := bnd_eq h
      obtain ⟨u, hu, h⟩ := bnd_eq h
      cases h
      cases h1 with
      | agg hl hcs =>
        obtain ⟨ln1, hO⟩ := ownL_R hp ⟨hl, hcs⟩ hS
        obtain ⟨ln2, hQ⟩ := ownVs_R hu (RL.mono h2 hO.old) hO.s
        refine ⟨ln2, ⟨fun b p h => hQ.old b p (hO.old b p h), fun b hb => by rw [hQ.same b (by have := hO.nx; omega), hO.same b hb], ?_, ?_, ?_, ?_⟩⟩ <;> unfold ownVs <;> simp only
        · have := RL.mono hO.v hQ.old
          exact Rows.cons (.agg this.1 this.2) hQ.v
        · exact hQ.s
        · exact hQ.ni.trans hO.ni
        · have := hO.nx; have := hQ.nx; omega
    · rename_i hna
      obtain ⟨p, hp, h⟩ := bnd_eq h
      obtain ⟨u, hu, h⟩ := bnd_eq h
      cases h
      obtain ⟨ln1, hO⟩ := ownL_R hp (Rows.cons h1 .nil) hS
      obtain ⟨ln2, hQ⟩ := ownVs_R hu (RL.mono h2 hO.old) hO.s
      have hw : ∀ cs, w ≠ .agg cs := fun cs hw => by
        subst hw
        cases h1 with
        | agg => exact absurd rfl (hna _)
        | arr h => rcases h with ⟨_, c, h⟩ | ⟨f, es, h, _⟩ <;> cases h
      have e : ownVs P (o :: sl) (w :: r) s' = ((ownL P o [w] s').1 ++ (ownVs P sl r (ownL P o [w] s').2).1, (ownVs P sl r (ownL P o [w] s').2).2) := by
        conv => lhs; unfold ownVs
        split
        · exact absurd rfl (hw _)
        · rfl
      rw [e]
      exact ⟨ln2, ⟨fun b p h => hQ.old b p (hO.old b p h), fun b hb => by rw [hQ.same b (by have := hO.nx; omega), hO.same b hb], (RL.mono hO.v hQ.old).append hQ.v, hQ.s, hQ.ni.trans hO.ni, Nat.le_trans hO.nx hQ.nx⟩⟩
theorem pack_R {vs ws : List V} (h : RL ln vs ws) : R ln (pack vs) (pack ws) := by
  cases vs with
  | nil => rw [h.inv0]; exact .tup rfl fun j v w h => by cases h
  | cons v r =>
    obtain ⟨w, q, rfl, h1, h2⟩ := h.inv
    cases r with
    | nil => rw [h2.inv0]; exact h1
    | cons a b =>
      obtain ⟨w2, q2, rfl, h3, h4⟩ := h2.inv
      exact .tup h.1 h.2
theorem fin_R {s s' : St} {v w : V} {r : Ret} (h : kFin s v = some r) (hr : R ln v w) (hS : SC ln s s') : ∃ r' ln1, fin s' w = some r' ∧ RetR ln s'.ni r r' ln1 := by
  unfold kFin at h
  obtain ⟨hnd, h⟩ := ck_eq h
  obtain ⟨v1, hv1, h⟩ := bnd_eq h
  obtain ⟨hs, hhs, h⟩ := bnd_eq h
  obtain ⟨nb, hnb, h⟩ := bnd_eq h
  cases h
  have hh := hS.r.h
  generalize hq : reach s.h 100 (idsI s.h (rngL 0 s.ni) ++ v.ids) (rngL 0 s.ni) = q at *
  let ln1 : Nat → Option (Nat × Nat) := fun i => (q[i]?).bind ln
  have hren : ∀ b c p, idx b q 0 = some c → ln b = some p → ln1 c = some p := fun b c p hc hp => by
    have := (idx_spec q b 0 c hc).2
    rw [Nat.sub_zero] at this
    show (q[c]?).bind ln = _
    rw [this]; exact hp
  obtain ⟨w1, hw1, hrw⟩ := hr.ren hren v1 hv1
  have hq' : reach s'.h 100 (idsI s'.h (rngL 0 s'.ni) ++ w.ids) (rngL 0 s'.ni) = q := by
    rw [← hq, ← hS.r.ni, ← idsI_R hh, ← hr.ids, reach_R hh]
  obtain ⟨hs', h4, h5, h6, h7⟩ := renBs_R hren hh (a := 0) (l := q) (fun i b hb p hp => by
    rw [Nat.zero_add]
    show (q[i]?).bind ln = _
    rw [hb]; exact hp) hhs
  have htk : q.take s'.ni = rngL 0 s'.ni := by
    obtain ⟨r, hr2⟩ := reach_pre (h := s'.h) 100 (idsI s'.h (rngL 0 s'.ni) ++ w.ids) (rngL 0 s'.ni)
    rw [hq'] at hr2
    rw [hr2, List.take_append_of_le_length (by rw [rngL_length]; omega), List.take_of_length_le (by rw [rngL_length]; omega)]
  have hni := hS.r.ni
  have hqn : s'.ni ≤ q.length := by
    have := congrArg List.length htk
    rw [rngL_length, List.length_take] at this
    omega
  obtain ⟨nb', g1, g2, g3, g4⟩ := somes_R (ln := ln1) (a := s'.ni) (xs := hs.drop s.ni) (ys := hs'.drop s'.ni) (by simp [h5, h6, hni]) (fun i x y hx hy => by
    rw [List.getElem?_drop] at hx hy
    have := h7 (s'.ni + i) x y (by rw [← hni]; exact hx) hy
    rwa [Nat.zero_add] at this) hnb
  have hsm := somes_spec hnb
  have hsm' := somes_spec g1
  refine ⟨(w1, hs'.take s'.ni, nb'), ln1, ?_, ⟨fun b hb => ?_, fun b hb => ?_, hrw, ?_, ?_, g2, fun b => ?_⟩⟩
  · unfold fin
    rw [hq', bnd_intro rfl, hw1, bnd_intro rfl, h4, bnd_intro rfl, grd_intro ⟨hnd, htk⟩, g1, bnd_intro rfl]
  · show (q[b]?).bind ln = ln b
    have : q[b]? = some b := by
      have h8 : (q.take s'.ni)[b]? = some b := by rw [htk, rngL_get s'.ni 0 b hb]; simp
      rw [List.getElem?_take, if_pos hb] at h8
      exact h8
    rw [this]; rfl
  · show (q[b]?).bind ln = none
    have : nb.length = q.length - s'.ni := by rw [g3]; simp [h5, hni]
    simp only at hb
    rw [List.getElem?_eq_none (by omega)]; rfl
  · simp only [List.length_take, h5, hni]; omega
  · simp only [List.length_take, h6]; omega
  · show OB ln1 b (ofL (hs.take s.ni ++ nb.map some) b) (ofL (hs'.take s'.ni ++ nb'.map some) b)
    rw [← hsm, ← hsm', hni, List.take_append_drop, List.take_append_drop]
    unfold ofL
    by_cases hb : b < q.length
    · have hb1 : b < hs.length := by omega
      have hb2 : b < hs'.length := by omega
      have := h7 b _ _ (List.getElem?_eq_getElem hb1) (List.getElem?_eq_getElem hb2)
      rw [Nat.zero_add] at this
      rw [List.getElem?_eq_getElem hb1, List.getElem?_eq_getElem hb2]
      exact this
    · rw [List.getElem?_eq_none (by omega), List.getElem?_eq_none (by omega)]
      exact .none
theorem pars_R : ∀ {vs ws : List V} {i : Nat}, RL ln vs ws → ∀ t v, ofT (pars i vs) t = some v → ∃ w, ofT (pars i ws) t = some w ∧ R ln v w
  | [], ws, i, h, t, v, hv => by cases hv
  | x :: vs, ws, i, h, t, v, hv => by
    obtain ⟨w, q, rfl, h1, h2⟩ := h.inv
    unfold pars ofT at hv ⊢
    by_cases ht : t = i
    · subst ht
      rw [set_same] at hv ⊢
      cases hv
      exact ⟨w, rfl, h1⟩
    · rw [set_ne ht] at hv ⊢
      exact pars_R h2 t v hv
/-- What a function is, checked once. -/
structure FnS (E : Env) (f : Nat) (fn : Func) (c : Code) : Prop where
  hfn : E.P.funcs[f]? = some fn
  hbody : fn.body = some c
  hnd : NdC c
theorem kB_R {S : Type} (hG : GOK C G) {f : Nat} {fn : Func} {c : Code} (hF : FnS E f fn c) (hl : ∀ p ∈ loopsOf c 1000000, LOK E C L f p.1 p.2) {as0 as' : List V} {bs bs' : List Blk} {κ : Ret → Option S} {res : S} (h : kB E G L f bs κ as0 = some res)
    (hr : RL ln as0 as') (hb : BL ln bs bs') (hf : ∀ b, bs.length ≤ b → ln b = none) : ∃ r r' ln1, evB E C f bs' as' = some r' ∧ RetR ln bs.length r r' ln1 ∧ κ r = some res := by
  unfold kB at h
  unfold evB
  rw [hF.hfn] at h ⊢
  simp only [hF.hbody] at h ⊢
  have hS : SC ln ⟨ofT (pars 0 as0), ofL (bs.map some), bs.length, as0.length + (fn.ntmps - as0.length), bs.length⟩ ⟨ofT (pars 0 as'), ofL (bs'.map some), bs'.length, as'.length + (fn.ntmps - as'.length), bs'.length⟩ := by
    refine ⟨⟨fun t v ht => ?_, fun b => ?_, by show _ = _; rw [hr.1], hb.1⟩, ⟨fun b hb2 => hf b (by have := hb.1; have : bs'.length ≤ b := hb2; omega), fun b hb2 => ?_, fun b hb2 => ?_⟩, hb.1, Nat.le_refl _⟩
    · obtain ⟨w, h1, h2⟩ := pars_R hr t v ht
      exact ⟨w, h1, .val h2⟩
    · show OB ln b (ofL (bs.map some) b) (ofL (bs'.map some) b)
      unfold ofL
      by_cases hbb : b < bs.length
      · have hb2 : b < bs'.length := by have := hb.1; omega
        rw [List.getElem?_map, List.getElem?_map, List.getElem?_eq_getElem hbb, List.getElem?_eq_getElem hb2]
        exact hb.2 b _ _ (List.getElem?_eq_getElem hbb) (List.getElem?_eq_getElem hb2)
      · rw [List.getElem?_eq_none (by simp; omega), List.getElem?_eq_none (by have := hb.1; simp; omega)]
        exact .none
    · have : bs'.length ≤ b := hb2
      show ofL (bs.map some) b = none
      unfold ofL
      rw [List.getElem?_eq_none (by have := hb.1; simp; omega)]; rfl
    · have : bs'.length ≤ b := hb2
      show ofL (bs'.map some) b = none
      unfold ofL
      rw [List.getElem?_eq_none (by simp; omega)]; rfl
  obtain ⟨e, s1, s1', ln1, h1, h2, h3, hk, _⟩ := code_R hG c hF.hnd 1000000 hl none _ _ ln _ res (.inl rfl) h hS
  rw [h1, bnd_intro rfl]
  have fin : ∀ {r : Option S}, (bndF 1300000001 (kResl E.P s1 fn.results.toList) fun vs => bndF 1300000002 (kOwnVs E.P (E.On f) vs s1) fun q => bndF 1300000003 (kFin q.2 (pack q.1)) κ) = some res →
      ∃ r r' ln1, (bnd (resl E.P s1' fn.results.toList) fun vs => Ev.fin (ownVs E.P (E.On f) vs s1').2 (pack (ownVs E.P (E.On f) vs s1').1)) = some r' ∧ RetR ln bs.length r r' ln1 ∧ κ r = some res := fun h3 => by
    obtain ⟨vs, hvs, h3⟩ := bndF_eq h3
    obtain ⟨q, hq, h3⟩ := bndF_eq h3
    obtain ⟨r, hr1, h3⟩ := bndF_eq h3
    obtain ⟨ws, g1, g2⟩ := resl_R h2 hvs
    obtain ⟨ln2, hO⟩ := ownVs_R hq g2 h2
    obtain ⟨r', ln3, g3, g4⟩ := fin_R hr1 (pack_R hO.v) hO.s
    refine ⟨r, r', ln3, by rw [g1, bnd_intro rfl]; exact g3, ?_, h3⟩
    have e1 : (ownVs E.P (E.On f) ws s1').2.ni = bs.length := by
      rw [hO.ni, hk.2]; exact hb.1.symm
    rw [e1] at g4
    refine ⟨fun b hb2 => ?_, g4.new, g4.v, g4.lu, g4.lu', g4.ln, g4.h⟩
    have e2 : s1'.ni = bs.length := by rw [hk.2]; exact hb.1.symm
    rw [g4.old b hb2, hO.same b (by have := h2.le; omega), hk.1 b (by show b < bs'.length; have := hb.1; omega)]
  cases e with
  | normal => exact fin (r := none) h3
  | ret => exact fin (r := none) h3
  | _ => cases h3
theorem bothS_inv {α : Type} {x y : Option α} {r : α} (h : bothS x y = some r) : x = some r ∧ y = some r := both_eq h
/-- What is said of a function is so. -/
theorem fn_ok {d : Nat} (hG : GOK (evF E d) G) {f : Nat} {fn : Func} {c : Code} (hF : FnS E f fn c) (hfs : E.fs f = true) (hEG : E.G f = none) (hl : ∀ p ∈ loopsOf c 1000000, LOK E (evF E d) L f p.1 p.2) {g : FS} (hrun : ∀ x, kF E G L f (g.args x) (g.bs x) g.r.dec = g.F x) (hnl : E.nl f = true → g.nb = 0 ∧ evB E (evF E d) f [] [.lit (.slice none 0 0)] = evB E (evF E d) f [] [.emp]) :
    ∀ as0 bs sp y, g.g as0 bs = some sp → sp.o = some y → SpOK (evF E (d + 1)) f as0 bs (sp.alt.val y) := by
  intro as0 bs sp y hg ho ln as' bs' hr hb hf
  unfold FS.g at hg
  split at hg
  · rename_i hnb
    split at hg
    · rename_i x hcov hx
      cases hg
      have hnb := beq_nat hnb
      have hh : HR ln (ofL (bs.map some)) (ofL (bs'.map some)) := fun b => by
        unfold ofL
        by_cases hbb : b < bs.length
        · have hb2 : b < bs'.length := by have := hb.1; omega
          rw [List.getElem?_map, List.getElem?_map, List.getElem?_eq_getElem hbb, List.getElem?_eq_getElem hb2]
          exact hb.2 b _ _ (List.getElem?_eq_getElem hbb) (List.getElem?_eq_getElem hb2)
        · rw [List.getElem?_eq_none (by simp; omega), List.getElem?_eq_none (by have := hb.1; simp; omega)]
          exact .none
      obtain ⟨w1, w2, hw, g1, g2, g3⟩ := Sh.dec_R hh g.a hx hr
      have hw2 := g2.inv0
      subst hw2
      rw [List.append_nil] at hw
      subst hw
      have hbl : (g.bs x).length = bs.length := by unfold FS.bs; rw [newsOf_len, rngL_length, hnb]
      have hb2 : BL ln (g.bs x) bs' := by
        refine ⟨hbl.trans hb.1, fun i u v hu hv => ?_⟩
        have hi : i < g.nb := by have := get_lt hu; rw [hbl] at this; omega
        rcases cov_spec hcov i (rngL_mem (Nat.zero_le _) (by omega)) with h5 | ⟨h5, _⟩
        · obtain ⟨blk, h6⟩ := Sh.nums_blks g.a x i h5
          rcases hof_get (l := g.a.blks x) (b := i) with ⟨_, h8⟩ | ⟨blk', h7, h9⟩
          · exact absurd h6 (h8 blk)
          · have e1 : (g.bs x)[i]? = some blk' := newsOf_get (by rw [rngL_get g.nb 0 i hi]; simp) h7
            rw [e1] at hu
            cases hu
            have := g3 _ h9
            have e2 : ofL (bs'.map some) i = some v := by unfold ofL; rw [List.getElem?_map, hv]; rfl
            rw [e2] at this
            exact this
        · cases h5
      have hrx := hrun x
      rw [show g.F x = some y from ho] at hrx
      have hf2 : ∀ b, (g.bs x).length ≤ b → ln b = none := fun b hb3 => hf b (by omega)
      have one : ∀ {cs cs' : List V}, RL ln cs cs' → kB E G L f (g.bs x) g.r.dec cs = some y → ∃ r' ln1, evB E (evF E d) f bs' cs' = some r' ∧ RetR ln bs.length (g.r.alt.val y) r' ln1 := fun hcs hk => by
        obtain ⟨r, r', ln1, k1, k2, k3⟩ := kB_R hG hF hl hk hcs hb2 hf2
        rw [hbl] at k2
        exact ⟨r', ln1, k1, RCs.dec_R k3 k2⟩
      unfold evF
      rw [hEG]
      simp only [hfs, cond_true]
      unfold kF at hrx
      cases hn : E.nl f with
      | false =>
        rw [hn] at hrx
        exact one g1 hrx
      | true =>
        rw [hn] at hrx
        simp only at hrx
        unfold kNl at hrx
        split at hrx
        · rename_i t l heq
          rw [show g.a.enc x = [.arr t l] from heq] at g1
          obtain ⟨w, q, rfl, h1, h2⟩ := g1.inv
          obtain rfl := h2.inv0
          simp only [cond_true]
          cases h1 with
          | arr h1 =>
            cases hl0 : l with
            | cons a b =>
              subst hl0
              have hlt : iLt 0 (lLen (a :: b)) = true := by
                unfold iLt lLen
                exact decide_eq_true (by simp <;> omega)
              rw [hlt] at hrx
              rcases h1 with ⟨h0, _⟩ | ⟨f1, es, rfl, hf1, hrr⟩
              · cases h0
              · have he : nlF (evB E (evF E d) f bs') [V.con f1 t.size es] = evB E (evF E d) f bs' [V.con f1 t.size es] := by
                  obtain ⟨c0, r0, rfl, _, _⟩ := hrr.inv
                  rfl
                rw [he]
                exact one (Rows.cons (.arr (.inr ⟨f1, es, rfl, hf1, hrr⟩)) .nil) hrx
            | nil =>
              subst hl0
              have hrx : bothS (kB E G L f (g.bs x) g.r.dec [.lit (.slice none 0 0)]) (kB E G L f (g.bs x) g.r.dec [.emp]) = some y := hrx
              obtain ⟨r1, r2⟩ := bothS_inv hrx
              obtain ⟨hnb0, hev⟩ := hnl hn
              have hbs' : bs' = [] := List.length_eq_zero_iff.1 (by rw [← hb.1, hnb, hnb0])
              rcases h1 with ⟨_, c0, rfl⟩ | ⟨f1, es, rfl, hf1, hrr⟩
              · exact one (Rows.cons .lit .nil) r1
              · rw [hrr.inv0]
                obtain ⟨r1', ln1, k1, k2⟩ := one (Rows.cons .lit .nil) r1
                subst hbs'
                refine ⟨r1', ln1, ?_, k2⟩
                show both (evB E (evF E d) f [] [.lit (.slice none 0 0)]) (evB E (evF E d) f [] [.emp]) = some r1'
                rw [← hev]
                unfold both
                rw [if_pos rfl]; exact k1
        · cases hrx
    · cases hg
  · cases hg
end
end Go.Ev
end

section
set_option linter.unusedVariables false
set_option linter.unusedSimpArgs false
set_option linter.unnecessarySimpa false
namespace Go.Ev
open Go

/-! ## What an operation looks at -/
section tm
variable {tm tm' : Nat → Option V}
theorem opds_congr : ∀ {l : List Operand}, (∀ x ∈ l, opd tm x = opd tm' x) → opds tm l = opds tm' l
  | [], _ => rfl
  | x :: r, h => by rw [opds, opds, h x (by simp), opds_congr fun y hy => h y (by simp [hy])]
theorem fill_congr {pl : List (Nat × Nat)} : ∀ {ps : List (Nat × Operand)} {cs : List V}, (∀ p ∈ ps, opd tm p.2 = opd tm' p.2) → fill tm pl ps cs = fill tm' pl ps cs
  | [], _, _ => rfl
  | (i, x) :: r, cs, h => by
    have h1 := h (i, x) (by simp)
    simp only at h1
    rw [fill, fill, h1]
    congr 1; funext fo; congr 1; funext v; rw [fill_congr fun p hp => h p (by simp [hp])]
theorem fillE_congr {sz : Nat} : ∀ {ps : List (Nat × Operand)} {cs : List (List V)}, (∀ p ∈ ps, opd tm p.2 = opd tm' p.2) → fillE tm sz ps cs = fillE tm' sz ps cs
  | [], _, _ => rfl
  | (i, x) :: r, cs, h => by
    have h1 := h (i, x) (by simp)
    simp only at h1
    rw [fillE, fillE, h1]
    congr 1; funext v; rw [fillE_congr fun p hp => h p (by simp [hp])]

theorem evCall_tm {E : Env} {call : CallF} {h : Nat → Option Blk} {k : Nat} {c : Call} (hx : ∀ x ∈ c.operands, opd tm x = opd tm' x) : evCall E call tm h k c = evCall E call tm' h k c := by
  have ha : opds tm c.args.toList = opds tm' c.args.toList := opds_congr fun x hm => hx x (by simp [Call.operands]; exact .inr (by simpa using hm))
  unfold evCall
  cases hc : c.callee with
  | value f =>
    have hf := hx f (by simp [Call.operands, hc])
    simp only [hf, ha]
  | invoke r m => rfl
  | builtin b => cases b <;> simp only [ha]

theorem evOp_tm {E : Env} {call : CallF} {h : Nat → Option Blk} {k : Nat} {op : Op} (hx : ∀ x ∈ op.operands, opd tm x = opd tm' x) : evOp E call tm h k op = evOp E call tm' h k op := by
  cases op <;> simp only [Op.operands] at hx <;> simp only [evOp]
  case build t ps =>
    congr 1; funext pl; congr 1; funext z
    rw [fill_congr fun p hp => hx p.2 (by simp; exact ⟨p.1, by simpa using hp⟩)]
  case buildSlice t n ps =>
    congr 1; funext e; congr 1; funext z
    rw [fillE_congr fun p hp => hx p.2 (by simp; exact ⟨p.1, by simpa using hp⟩)]
  case makeFunc fn first captured =>
    cases fn <;> first
      | rfl
      | (simp only [evOp]; rw [opds_congr (tm := tm) (tm' := tm') fun x hm => hx x (by simp; exact .inr (by simpa using hm))])
  case call c => exact evCall_tm hx
  case slice t x lo hi mx =>
    have h0 := hx x (by simp)
    cases mx with
    | some m => cases lo <;> cases hi <;> simp_all [evOp]
    | none => cases lo <;> cases hi <;> simp_all [evOp]
  all_goals (first | rfl | (simp_all; done))

theorem rdV_tm {E : Env} {h : Nat → Option Blk} {op : Op} (hx : ∀ x ∈ op.operands, opd tm x = opd tm' x) : rdV h E tm op = rdV h E tm' op := by
  cases op <;> simp only [Op.operands] at hx <;> simp only [rdV]
  case call c =>
    have ha : opds tm c.args.toList = opds tm' c.args.toList := opds_congr fun x hm => hx x (by simp [Call.operands]; exact .inr (by simpa using hm))
    cases hc : c.callee with
    | value f =>
      have hf := hx f (by simp [Call.operands, hc])
      simp only [hf, ha]
    | invoke r m => rfl
    | builtin b => cases b <;> simp only [ha]
  case slice t x lo hi mx =>
    have h0 := hx x (by simp)
    cases lo <;> cases hi <;> cases mx <;> simp only [h0]
  all_goals (first | rfl | (simp_all; done))

theorem want_tm {ops : List Oper} {o : Oper} (h : ∀ j w t, o.guard = some (j, w) → gdst ops j = some t → tm t = tm' t) : want tm ops o = want tm' ops o := by
  unfold want
  cases hg : o.guard with
  | none => rfl
  | some q =>
    obtain ⟨j, w⟩ := q
    simp only
    cases ht : gdst ops j with
    | none => rfl
    | some t => simp only [bnd]; rw [h j w t hg ht]
end tm

/-! ## The blocks that an operation looks at -/
section heap
variable {h h' : Nat → Option Blk}
theorem reach_mono (h : Nat → Option Blk) : ∀ (n : Nat) (l seen : List Nat) (b : Nat), b ∈ seen → b ∈ reach h n l seen
  | 0, _, _, _, hb => hb
  | _ + 1, [], _, _, hb => hb
  | n + 1, x :: r, seen, b, hb => by
    unfold reach
    cases mem x seen with
    | true => exact reach_mono h n r seen b hb
    | false => exact reach_mono h n _ _ b (by unfold snoc; simp [hb])
theorem reach_congr : ∀ (n : Nat) (l seen : List Nat), (∀ b ∈ reach h n l seen, h b = h' b) → reach h' n l seen = reach h n l seen
  | 0, _, _, _ => rfl
  | _ + 1, [], _, _ => rfl
  | n + 1, x :: r, seen, hb => by
    unfold reach at hb ⊢
    cases hm : mem x seen with
    | true => rw [hm] at hb; exact reach_congr n r seen hb
    | false =>
      rw [hm] at hb
      have hx : h x = h' x := hb x (reach_mono h n _ _ x (by unfold snoc; simp))
      have hi : idsB h' x = idsB h x := by unfold idsB; rw [hx]
      simp only [cond_false, hi]
      exact reach_congr n _ _ hb
theorem renBs_congr {f : Nat → Option Nat} : ∀ {l : List Nat}, (∀ b ∈ l, h b = h' b) → renBs h f l = renBs h' f l
  | [], _ => rfl
  | b :: r, hb => by rw [renBs, renBs, hb b (by simp), renBs_congr fun c hc => hb c (by simp [hc])]
theorem toCon_congr {v : V} (hb : ∀ b ∈ v.ids, h b = h' b) : toCon h v = toCon h' v := by
  cases v <;> first | rfl | (simp only [toCon]; rw [hb _ (by simp [V.ids])])
theorem toConl_congr : ∀ {l : List V}, (∀ b ∈ V.ids.L l, h b = h' b) → toConl h l = toConl h' l
  | [], _ => rfl
  | v :: r, hb => by rw [toConl, toConl, toCon_congr fun b hm => hb b (by simp [V.ids.L, hm]), toConl_congr fun b hm => hb b (by simp [V.ids.L, hm])]
theorem toCons_congr : ∀ {l : List V}, (∀ b ∈ V.ids.L l, h b = h' b) → toCons h l = toCons h' l
  | [], _ => rfl
  | v :: r, hb => by
    have hr : toCons h r = toCons h' r := toCons_congr fun b hm => hb b (by simp [V.ids.L, hm])
    cases v <;> simp only [toCons, hr] <;> first
      | rw [toConl_congr fun b hm => hb b (by simp [V.ids.L, V.ids, hm])]
      | rw [toCon_congr fun b hm => hb b (by simp [V.ids.L, hm])]
theorem elems_congr {sz : Nat} {v : V} (hb : ∀ b ∈ v.ids, h b = h' b) : elems h sz v = elems h' sz v := by
  cases v with
  | ref b z o n => simp only [elems]; rw [hb _ (by simp [V.ids])]
  | lit x =>
    cases x with
    | slice a n c => cases a <;> cases n <;> rfl
    | _ => rfl
  | _ => rfl
theorem loadV_congr {P : Program} {t : Nat} {v : V} (hb : ∀ b ∈ v.ids, h b = h' b) : loadV P h t v = loadV P h' t v := by
  cases v <;> first | rfl | (simp only [loadV]; rw [hb _ (by simp [V.ids])])
theorem storeV_congr {P : Program} {t : Nat} {v x : V} (hb : ∀ b ∈ v.ids, h b = h' b) : storeV P h t v x = storeV P h' t v x := by
  cases v <;> first | rfl | (simp only [storeV]; rw [hb _ (by simp [V.ids])])
theorem appendV_congr {P : Program} {k t : Nat} {x y : V} (hb : ∀ b ∈ V.ids.L [x, y], h b = h' b) : appendV P h k t x y = appendV P h' k t x y := by
  unfold appendV
  congr 1; funext e; congr 1; funext z
  rw [elems_congr (h := h) (h' := h') fun b hm => hb b (by simp [V.ids.L, hm])]
  congr 1; congr 1; funext q
  cases x with
  | ref b z o n => simp only; rw [hb b (by simp [V.ids.L, V.ids])]
  | lit x =>
    cases x with
    | slice a n c => cases a <;> cases n <;> cases c <;> rfl
    | _ => rfl
  | _ => rfl
theorem copyV_congr {P : Program} {t : Nat} {x y : V} (hb : ∀ b ∈ V.ids.L [x, y], h b = h' b) : copyV P h t x y = copyV P h' t x y := by
  unfold copyV
  congr 1; funext e; congr 1
  rw [elems_congr (h := h) (h' := h') fun b hm => hb b (by simp [V.ids.L, hm])]
  congr 1; funext q
  cases x with
  | ref b z o n => simp only; rw [hb b (by simp [V.ids.L, V.ids])]
  | _ => rfl
theorem appendW_congr {P : Program} {t : Nat} {x y : V} (hb : ∀ b ∈ V.ids.L [x, y], h b = h' b) : appendW P h t x y = appendW P h' t x y := by
  unfold appendW
  congr 1; funext e; congr 1
  rw [elems_congr (h := h) (h' := h') fun b hm => hb b (by simp [V.ids.L, hm])]
  congr 1; funext q
  cases x with
  | ref b z o n => simp only; rw [hb b (by simp [V.ids.L, V.ids])]
  | _ => rfl
theorem clearV_congr {P : Program} {t : Nat} {x : V} (hb : ∀ b ∈ V.ids.L [x], h b = h' b) : clearV P h t x = clearV P h' t x := by
  unfold clearV
  congr 1; funext e; congr 1; funext z; congr 1
  cases x with
  | ref b z o n => simp only; rw [hb b (by simp [V.ids.L, V.ids])]
  | _ => rfl
theorem sliceW_congr {P : Program} {t : Nat} {x : V} {lo hi : Option V} (hb : ∀ b ∈ x.ids, h b = h' b) : sliceW P h t x lo hi = sliceW P h' t x lo hi := by
  cases x with
  | ref b z o n =>
    cases lo <;> cases hi <;> first | rfl | skip
    unfold sliceW
    simp only
    rw [hb b (by simp [V.ids])]
  | _ => rfl
theorem convV_congr {P : Program} {k s t : Nat} {v : V} (hb : ∀ b ∈ v.ids, h b = h' b) : convV P h k s t v = convV P h' k s t v := by
  unfold convV
  congr 1; funext g
  cases v with
  | lit x => cases x <;> first | rfl | (simp only; rw [elems_congr hb])
  | _ => simp only; rw [elems_congr hb]
theorem callV_congr {call : CallF} {mv : Bool} {k f : Nat} {args : List V} (hb : ∀ b ∈ cond mv (reach h 100 (V.ids.L args) []) (V.ids.L args), h b = h' b) : callV call mv h k f args = callV call mv h' k f args := by
  cases mv with
  | true =>
    simp only [cond_true] at hb
    simp only [callV]
    rw [reach_congr _ _ _ hb]
    simp only [bnd]
    rw [renBs_congr hb]
  | false =>
    simp only [cond_false] at hb
    simp only [callV]
    rw [toCons_congr hb]
theorem evOp_h {E : Env} {call : CallF} {tm : Nat → Option V} {k : Nat} {op : Op} (hb : ∀ b ∈ rdV h E tm op, h b = h' b) : evOp E call tm h k op = evOp E call tm h' k op := by
  cases op <;> simp only [rdV] at hb <;> simp only [evOp]
  case load t x =>
    cases hv : opd tm x with
    | none => rfl
    | some v => rw [hv] at hb; simp only [bnd]; rw [loadV_congr hb]
  case store t x y =>
    cases hv : opd tm x with
    | none => rfl
    | some v =>
      rw [hv] at hb; simp only [bnd]
      cases opd tm y with
      | none => rfl
      | some y => exact storeV_congr hb
  case convert s t x =>
    cases hv : opd tm x with
    | none => rfl
    | some v => rw [hv] at hb; simp only [bnd]; rw [convV_congr hb]
  case call c =>
    unfold evCall
    cases hc : c.callee with
    | value f =>
      simp only [hc] at hb
      simp only
      cases hf : opd tm f with
      | none => rfl
      | some fv =>
        simp only [hf] at hb
        cases fv <;> first | rfl | skip
        simp only [bnd]
        cases hvs : opds tm c.args.toList with
        | none => rfl
        | some vs =>
          simp only [hvs] at hb
          simp only
          exact callV_congr hb
    | invoke r m => rfl
    | builtin b =>
      cases b <;> first | rfl | skip
      case append =>
        simp only [hc] at hb
        simp only
        cases hvs : opds tm c.args.toList with
        | none => rfl
        | some vs =>
          simp only [hvs] at hb
          simp only [bnd]
          rcases vs with _ | ⟨x, _ | ⟨y, _ | ⟨z, r⟩⟩⟩ <;> first | rfl | skip
          rcases c.argTypes.toList with _ | ⟨t, _ | ⟨u, _ | ⟨z, r⟩⟩⟩ <;> first | rfl | skip
          simp only
          rw [appendV_congr hb, appendW_congr hb]
      case clear =>
        simp only [hc] at hb
        simp only
        cases hvs : opds tm c.args.toList with
        | none => rfl
        | some vs =>
          simp only [hvs] at hb
          simp only [bnd]
          rcases vs with _ | ⟨x, _ | ⟨y, r⟩⟩ <;> first | rfl | skip
          rcases c.argTypes.toList with _ | ⟨t, _ | ⟨u, r⟩⟩ <;> first | rfl | skip
          simp only
          rw [clearV_congr hb]
      case copy =>
        simp only [hc] at hb
        simp only
        cases hvs : opds tm c.args.toList with
        | none => rfl
        | some vs =>
          simp only [hvs] at hb
          simp only [bnd]
          rcases vs with _ | ⟨x, _ | ⟨y, _ | ⟨z, r⟩⟩⟩ <;> first | rfl | skip
          rcases c.argTypes.toList with _ | ⟨t, _ | ⟨u, _ | ⟨z, r⟩⟩⟩ <;> first | rfl | skip
          simp only
          rw [copyV_congr hb]
  case makeFunc fn first captured => cases fn <;> rfl
  case slice t x lo hi mx =>
    cases mx with
    | some m => cases lo <;> cases hi <;> rfl
    | none =>
      cases lo with
      | none =>
        cases hi with
        | none =>
          simp only [evOp]
          congr 1; funext v
          cases v <;> rfl
        | some hi =>
          show bnd (opd tm x) (fun v => bnd (bnd (opd tm hi) fun q => some (some q)) fun u => bnd (orE (sliceV E.P t v none u) (sliceW E.P h t v none u)) pureD) = bnd (opd tm x) (fun v => bnd (bnd (opd tm hi) fun q => some (some q)) fun u => bnd (orE (sliceV E.P t v none u) (sliceW E.P h' t v none u)) pureD)
          congr 1; funext v
          congr 1; funext u
          cases v <;> cases u <;> rfl
      | some lo =>
        cases hi with
        | none =>
          show bnd (opd tm x) (fun v => bnd (bnd (opd tm lo) fun q => some (some q)) fun l => bnd (orE (sliceV E.P t v l none) (sliceW E.P h t v l none)) pureD) = bnd (opd tm x) (fun v => bnd (bnd (opd tm lo) fun q => some (some q)) fun l => bnd (orE (sliceV E.P t v l none) (sliceW E.P h' t v l none)) pureD)
          congr 1; funext v
          congr 1; funext l
          cases v <;> cases l <;> rfl
        | some hi =>
          cases hv : opd tm x with
          | none => simp only [evOp, hv]; rfl
          | some v =>
            simp only [hv] at hb
            simp only [evOp, hv, bnd]
            cases opd tm lo with
            | none => rfl
            | some l =>
              cases opd tm hi with
              | none => rfl
              | some u => simp only [sliceW_congr hb]
  all_goals rfl
theorem rdV_h {E : Env} {tm : Nat → Option V} {op : Op} (hb : ∀ b ∈ rdV h E tm op, h b = h' b) : rdV h E tm op = rdV h' E tm op := by
  cases op <;> simp only [rdV] at hb ⊢
  case slice t x lo hi mx => cases lo <;> cases hi <;> cases mx <;> rfl
  case call c =>
    cases hc : c.callee with
    | value f =>
      simp only [hc] at hb
      simp only
      cases hf : opd tm f with
      | none => rfl
      | some fv =>
        simp only [hf] at hb
        cases fv <;> first | rfl | skip
        simp only
        cases hvs : opds tm c.args.toList with
        | none => rfl
        | some vs =>
          simp only [hvs] at hb
          simp only
          cases hmv : E.mv _ with
          | true => rw [hmv] at hb; simp only [cond_true] at hb ⊢; exact (reach_congr _ _ _ hb).symm
          | false => rfl
    | invoke r m => rfl
    | builtin b => cases b <;> rfl
end heap
end Go.Ev
end

section
set_option linter.unusedVariables false
set_option linter.unusedSimpArgs false
set_option linter.unnecessarySimpa false
namespace Go.Ev
open Go

/-! ## Regions that draw their order -/
theorem putU_over : ∀ (up : List (Nat × Option Blk)), ∃ g : Nat → Option (Option Blk), (∀ h b, putU h up b = (g b).getD (h b)) ∧ ∀ b, (g b).isSome = true → b ∈ keysU up
  | [] => ⟨fun _ => none, fun _ _ => rfl, fun _ h => by cases h⟩
  | (b0, x) :: r => by
    obtain ⟨g, h1, h2⟩ := putU_over r
    refine ⟨fun b => match g b with | some y => some y | none => if b = b0 then some x else none, fun h b => ?_, fun b hb => ?_⟩
    · rw [putU, h1]
      cases hg : g b with
      | some y => simp only [hg, Option.getD_some]
      | none =>
        simp only [hg, Option.getD_none]
        by_cases hb : b = b0
        · subst hb; rw [set_same, if_pos rfl]; rfl
        · rw [set_ne hb, if_neg hb]; rfl
    · simp only at hb
      cases hg : g b with
      | some y => exact List.mem_cons_of_mem _ (h2 b (by rw [hg]; rfl))
      | none =>
        rw [hg] at hb
        simp only at hb
        by_cases hbb : b = b0
        · subst hbb; exact List.mem_cons_self
        · rw [if_neg hbb] at hb; cases hb
theorem putN_over : ∀ (nb : List Blk) (k : Nat), ∃ g : Nat → Option (Option Blk), (∀ h b, putN h k nb b = (g b).getD (h b)) ∧ ∀ b, (g b).isSome = true → b ∈ rngL k nb.length
  | [], _ => ⟨fun _ => none, fun _ _ => rfl, fun _ h => by cases h⟩
  | x :: r, k => by
    obtain ⟨g, h1, h2⟩ := putN_over r (k + 1)
    refine ⟨fun b => match g b with | some y => some y | none => if b = k then some (some x) else none, fun h b => ?_, fun b hb => ?_⟩
    · rw [putN, h1]
      cases hg : g b with
      | some y => simp only [hg, Option.getD_some]
      | none =>
        simp only [hg, Option.getD_none]
        by_cases hb : b = k
        · subst hb; rw [set_same, if_pos rfl]; rfl
        · rw [set_ne hb, if_neg hb]; rfl
    · simp only at hb
      rw [List.length_cons, rngL]
      cases hg : g b with
      | some y => exact List.mem_cons_of_mem _ (h2 b (by rw [hg]; rfl))
      | none =>
        rw [hg] at hb
        simp only at hb
        by_cases hbb : b = k
        · subst hbb; exact List.mem_cons_self
        · rw [if_neg hbb] at hb; cases hb
theorem put_over (up : List (Nat × Option Blk)) (nb : List Blk) (k : Nat) : ∃ g : Nat → Option (Option Blk), (∀ h b, putN (putU h up) k nb b = (g b).getD (h b)) ∧ ∀ b, (g b).isSome = true → b ∈ keysU up ++ rngL k nb.length := by
  obtain ⟨g1, h1, h2⟩ := putU_over up
  obtain ⟨g2, h3, h4⟩ := putN_over nb k
  refine ⟨fun b => match g2 b with | some y => some y | none => g1 b, fun h b => ?_, fun b hb => ?_⟩
  · rw [h3, h1]
    cases hg : g2 b with
    | some y => simp only [hg, Option.getD_some]
    | none => simp only [hg, Option.getD_none]
  · simp only at hb
    cases hg : g2 b with
    | some y => exact List.mem_append_right _ (h4 b (by rw [hg]; rfl))
    | none => rw [hg] at hb; exact List.mem_append_left _ (h2 b hb)

theorem disj_spec : ∀ {a b : List Nat}, disj a b = true → ∀ x, x ∈ a → x ∈ b → False
  | [], _, _, _, hx, _ => by cases hx
  | y :: r, b, h, x, hx, hb => by
    simp only [disj, Bool.and_eq_true, Bool.not_eq_true'] at h
    rcases List.mem_cons.1 hx with rfl | hx
    · have := (mem_spec b x).2 hb
      rw [h.1] at this; cases this
    · exact disj_spec h.2 x hx hb
theorem disj_nil : ∀ a : List Nat, disj a [] = true
  | [] => rfl
  | x :: r => by simp [disj, mem, disj_nil r]

section
variable (E : Env) (call : CallF) (ops : List Oper) (k0 : Nat) (lg : Log)
def Does (i : Nat) (o : Oper) (tm : Nat → Option V) (h : Nat → Option Blk) (d : Dl) : Prop :=
  ∃ w, want tm ops o = some w ∧ ((w = true ∧ evOp E call tm h (k0 + maxNew * i) o.op = some d ∧ lg i = some (rdV h E tm o.op, keysU d.up ++ rngL (k0 + maxNew * i) d.nb.length)) ∨
    (w = false ∧ d = ⟨some (.tup []), [], []⟩ ∧ lg i = some ([], [])))
def StepD (i : Nat) (o : Oper) (s s' : St) : Prop := ltO o.dst s.nt ∧ ∃ d, Does E call ops k0 lg i o s.tm s.h d ∧ s' = app s (k0 + maxNew * i) o d
def RunD : List Nat → St → St → Prop
  | [], s, q => s = q
  | i :: l, s, q => ∃ o s', ops[i]? = some o ∧ StepD E call ops k0 lg i o s s' ∧ RunD l s' q
end

section
variable {E : Env} {call : CallF} {ops : List Oper} {k0 : Nat} {lg : Log}

theorem Does.local {i : Nat} {o : Oper} {tm tm' : Nat → Option V} {h h' : Nat → Option Blk} {d : Dl} {rd ch : List Nat} (hd : Does E call ops k0 lg i o tm h d)
    (h1 : ∀ x ∈ o.op.operands, opd tm x = opd tm' x) (h2 : ∀ j w t, o.guard = some (j, w) → gdst ops j = some t → tm t = tm' t) (hl : lg i = some (rd, ch)) (h3 : ∀ b ∈ rd, h b = h' b) : Does E call ops k0 lg i o tm' h' d := by
  obtain ⟨w, hw, hh⟩ := hd
  refine ⟨w, by rw [← want_tm h2]; exact hw, ?_⟩
  rcases hh with ⟨e1, e2, e3⟩ | ⟨e1, e2, e3⟩
  · refine .inl ⟨e1, ?_, ?_⟩
    · rw [e3] at hl
      cases hl
      rw [← evOp_tm h1, ← evOp_h h3]
      exact e2
    · rw [e3] at hl
      cases hl
      rw [← rdV_tm h1, ← rdV_h h3]
      exact e3
  · exact .inr ⟨e1, e2, e3⟩

theorem opd_put {tm : Nat → Option V} {dst : Option Nat} {v : Option V} {o : Oper} (h : ∀ d, dst = some d → d ∉ o.looksAt ops.toArray) : (∀ x ∈ o.op.operands, opd (putT tm dst v) x = opd tm x) ∧ (∀ j w t, o.guard = some (j, w) → gdst ops j = some t → putT tm dst v t = tm t) := by
  constructor
  · intro x hx
    cases x with
    | tmp t =>
      cases dst with
      | none => rfl
      | some d =>
        have : t ≠ d := fun he => h d rfl (by
          subst he
          exact List.mem_append_left _ (List.mem_filterMap.2 ⟨.tmp t, by simpa using hx, rfl⟩))
        simp only [opd, putT, set_ne this]
    | _ => rfl
  · intro j w t hg ht
    cases dst with
    | none => rfl
    | some d =>
      have : t ≠ d := fun he => h d rfl (by
        subst he
        rw [gdst_eq] at ht
        have ht' : (ops.toArray[j]?).bind (·.dst) = some t := by simpa using ht
        unfold Oper.looksAt
        refine List.mem_append_right _ ?_
        rw [hg]
        simp only [ht', Option.toList_some, List.mem_singleton])
      simp only [putT, set_ne this]

def Pl (x : Option Dl) : Prop := ∀ d, x = some d → d.up = [] ∧ d.nb = []
theorem Pl.none' : Pl none := fun _ h => by cases h
theorem Pl.pure (v : V) : Pl (pureD v) := fun _ h => by cases h; exact ⟨rfl, rfl⟩
theorem Pl.bnd {α : Type} {x : Option α} {f : α → Option Dl} (h : ∀ a, Pl (f a)) : Pl (bnd x f) := fun d hd => by obtain ⟨a, _, h1⟩ := bnd_eq hd; exact h a d h1
theorem Pl.grd {p : Prop} [Decidable p] {x : Option Dl} (h : Pl x) : Pl (grd p x) := fun d hd => h d (grd_eq hd).2
theorem Pl.cnd {b : Bool} {x y : Option Dl} (h : Pl x) (h' : Pl y) : Pl (cnd b x y) := fun d hd => by rcases cnd_eq hd with ⟨_, h1⟩ | ⟨_, h1⟩; exact h d h1; exact h' d h1
theorem plain_ev {tm : Nat → Option V} {h : Nat → Option Blk} {k : Nat} {op : Op} (hp : plain op = true) : Pl (evOp E call tm h k op) := by
  cases op <;> first | (cases hp; done) | skip
  case makeFunc fn first captured =>
    cases fn <;> first
      | exact Pl.none'
      | (simp only [evOp]; cases first.isEmpty; exact Pl.none'; exact Pl.bnd fun _ => Pl.pure _)
  case slice t x lo hi mx =>
    cases mx with
    | some m =>
      cases hi with
      | none => cases lo <;> exact Pl.none'
      | some hi =>
        refine Pl.bnd fun _ => Pl.bnd fun _ => Pl.bnd fun _ => Pl.bnd fun _ => Pl.bnd fun _ => ?_
        exact fun _ h => by cases h; exact ⟨rfl, rfl⟩
    | none => exact Pl.bnd fun _ => Pl.bnd fun _ => Pl.bnd fun _ => Pl.bnd fun _ => Pl.pure _
  case call c =>
    obtain ⟨callee, args, tys⟩ := c
    show Pl (evCall E call tm h k _)
    cases callee with
    | value f => cases hp
    | invoke r m => exact Pl.none'
    | builtin b =>
      cases b <;> first
        | (cases hp; done)
        | exact Pl.none'
        | (simp only [evCall]; repeat (first | exact Pl.none' | exact Pl.pure _ | (refine Pl.bnd fun _ => ?_) | split))
  all_goals
    unfold evOp
    repeat (first | exact Pl.none' | exact Pl.pure _ | (refine Pl.bnd fun _ => ?_) | refine Pl.grd ?_ | refine Pl.cnd ?_ ?_ | split)
theorem plain_rd {tm : Nat → Option V} {h : Nat → Option Blk} {op : Op} (hp : plain op = true) : rdV h E tm op = [] := by
  cases op <;> first | (cases hp; done) | rfl | skip
  case slice t x lo hi mx => cases lo <;> cases hi <;> cases mx <;> first | rfl | cases hp
  rename_i c
  obtain ⟨callee, args, tys⟩ := c
  cases callee with
  | value f => cases hp
  | invoke r m => rfl
  | builtin b => cases b <;> first | (cases hp; done) | rfl
theorem plain_does {i : Nat} {o : Oper} {tm : Nat → Option V} {h : Nat → Option Blk} {d : Dl} (hp : plain o.op = true) (hd : Does E call ops k0 lg i o tm h d) : lg i = some ([], []) := by
  obtain ⟨w, hw, ⟨e1, e2, e3⟩ | ⟨e1, e2, e3⟩⟩ := hd
  · have key : rdV h E tm o.op = [] ∧ d.up = [] ∧ d.nb = [] := ⟨plain_rd hp, plain_ev hp d e2⟩
    rw [e3, key.1, key.2.1, key.2.2]; rfl
  · exact e3
theorem reads_does {i : Nat} {o : Oper} {tm : Nat → Option V} {h : Nat → Option Blk} {d : Dl} (hp : reads o.op = true) (hd : Does E call ops k0 lg i o tm h d) : ∃ rd, lg i = some (rd, []) := by
  have hpl : plain o.op = true ∨ Pl (evOp E call tm h (k0 + maxNew * i) o.op) := by
    cases hop : o.op <;> rw [hop] at hp <;> first
      | exact .inl hp
      | skip
    · right
      unfold evOp
      repeat (first | exact Pl.none' | exact Pl.pure _ | (refine Pl.bnd fun _ => ?_))
    · rename_i t x lo hi mx
      right
      cases mx with
      | none => exact Pl.bnd fun _ => Pl.bnd fun _ => Pl.bnd fun _ => Pl.bnd fun _ => Pl.pure _
      | some m =>
        cases hi with
        | none => cases lo <;> exact Pl.none'
        | some hi =>
          refine Pl.bnd fun _ => Pl.bnd fun _ => Pl.bnd fun _ => Pl.bnd fun _ => Pl.bnd fun _ => ?_
          exact fun _ h => by cases h; exact ⟨rfl, rfl⟩
  rcases hpl with hpl | hpl
  · exact ⟨_, plain_does hpl hd⟩
  obtain ⟨w, hw, ⟨e1, e2, e3⟩ | ⟨e1, e2, e3⟩⟩ := hd
  · obtain ⟨a1, a2⟩ := hpl d e2
    rw [a1, a2] at e3
    exact ⟨_, e3⟩
  · exact ⟨_, e3⟩

/-- These two may change places. -/
def Free (un : List (Nat × List Nat)) (i : Nat) (oi : Oper) (j : Nat) (oj : Oper) : Prop :=
  oi.apart ops.toArray oj = true ∧ (plain oi.op = true ∨ plain oj.op = true ∨ (reads oi.op = true ∧ reads oj.op = true) ∨ ∃ l, (i, l) ∈ un ∧ j ∈ l)

theorem chkRow_spec {j : Nat} : ∀ {l : List Nat}, chkRow lg j l = true → ∀ i, i ∈ l → ∃ a b, lg j = some a ∧ lg i = some b ∧ entD a b = true
  | [], _, _, hi => by cases hi
  | x :: r, h, i, hi => by
    simp only [chkRow, Bool.and_eq_true] at h
    rcases List.mem_cons.1 hi with rfl | hi
    · have h1 := h.1
      cases ha : lg j with
      | none => rw [ha] at h1; cases h1
      | some a =>
        cases hb : lg i with
        | none => rw [ha, hb] at h1; cases h1
        | some b => rw [ha, hb] at h1; exact ⟨a, b, rfl, rfl, h1⟩
    · exact chkRow_spec h.2 i hi
theorem chkLog_spec : ∀ {un : List (Nat × List Nat)}, chkLog lg un = true → ∀ j l, (j, l) ∈ un → chkRow lg j l = true
  | [], _, _, _, hi => by cases hi
  | (j0, l0) :: r, h, j, l, hi => by
    simp only [chkLog, Bool.and_eq_true] at h
    rcases List.mem_cons.1 hi with he | hi
    · cases he; exact h.1
    · exact chkLog_spec h.2 j l hi

theorem StepD.comm {un : List (Nat × List Nat)} {i j : Nat} {oi oj : Oper} {s s1 s2 : St} (hun : chkLog lg un = true) (hf : Free (ops := ops) un i oi j oj) (h1 : StepD E call ops k0 lg i oi s s1) (h2 : StepD E call ops k0 lg j oj s1 s2) :
    ∃ s1', StepD E call ops k0 lg j oj s s1' ∧ StepD E call ops k0 lg i oi s1' s2 := by
  obtain ⟨hap, hf⟩ := hf
  obtain ⟨l1, di, hdi, rfl⟩ := h1
  obtain ⟨l2, dj, hdj, rfl⟩ := h2
  have hdj : Does E call ops k0 lg j oj (putT s.tm oi.dst di.v) (putN (putU s.h di.up) (k0 + maxNew * i) di.nb) dj := hdj
  have hent : ∃ a b, lg i = some a ∧ lg j = some b ∧ entD a b = true := by
    rcases hf with h | h | ⟨h, h'⟩ | ⟨l, h, h'⟩
    · have e1 := plain_does h hdi
      have : ∃ b, lg j = some b := by obtain ⟨w, hw, ⟨_, _, e3⟩ | ⟨_, _, e3⟩⟩ := hdj <;> exact ⟨_, e3⟩
      obtain ⟨b, hb⟩ := this
      exact ⟨_, b, e1, hb, by simp [entD, disj, disj_nil]⟩
    · have e1 := plain_does h hdj
      have : ∃ b, lg i = some b := by obtain ⟨w, hw, ⟨_, _, e3⟩ | ⟨_, _, e3⟩⟩ := hdi <;> exact ⟨_, e3⟩
      obtain ⟨b, hb⟩ := this
      exact ⟨b, _, hb, e1, by simp [entD, disj, disj_nil]⟩
    · obtain ⟨r1, e1⟩ := reads_does h hdi
      obtain ⟨r2, e2⟩ := reads_does h' hdj
      exact ⟨_, _, e1, e2, by simp [entD, disj]⟩
    · exact chkRow_spec (chkLog_spec hun i l h) j h'
  obtain ⟨⟨ri, ci⟩, ⟨rj, cj⟩, hli, hlj, he⟩ := hent
  simp only [entD, Bool.and_eq_true] at he
  obtain ⟨e1, e2, e3⟩ := he
  have hci : ∀ b, b ∈ keysU di.up ++ rngL (k0 + maxNew * i) di.nb.length → b ∈ ci := by
    obtain ⟨w, hw, ⟨_, _, e⟩ | ⟨_, e, e'⟩⟩ := hdi
    · rw [hli] at e; cases e; exact fun _ h => h
    · subst e; intro b hb; cases hb
  have hcj : ∀ b, b ∈ keysU dj.up ++ rngL (k0 + maxNew * j) dj.nb.length → b ∈ cj := by
    obtain ⟨w, hw, ⟨_, _, e⟩ | ⟨_, e, e'⟩⟩ := hdj
    · rw [hlj] at e; cases e; exact fun _ h => h
    · subst e; intro b hb; cases hb
  obtain ⟨gi, hgi, hgi'⟩ := put_over di.up di.nb (k0 + maxNew * i)
  obtain ⟨gj, hgj, hgj'⟩ := put_over dj.up dj.nb (k0 + maxNew * j)
  obtain ⟨a1, a2, a3⟩ := Oper.apart_spec hap
  obtain ⟨p1, p2⟩ := opd_put (ops := ops) (tm := s.tm) (v := di.v) a1
  have hdj' : Does E call ops k0 lg j oj s.tm s.h dj := hdj.local (fun x hx => p1 x hx) p2 hlj (fun b hb => by
    rw [hgi]
    cases hg : gi b with
    | none => rfl
    | some y => exact (disj_spec e1 b (hci b (hgi' b (by rw [hg]; rfl))) hb).elim)
  obtain ⟨p3, p4⟩ := opd_put (ops := ops) (tm := s.tm) (v := dj.v) a3
  have hdi' : Does E call ops k0 lg i oi (putT s.tm oj.dst dj.v) (putN (putU s.h dj.up) (k0 + maxNew * j) dj.nb) di := hdi.local (fun x hx => (p3 x hx).symm) (fun a b c d e => (p4 a b c d e).symm) hli (fun b hb => by
    rw [hgj]
    cases hg : gj b with
    | none => rfl
    | some y => exact (disj_spec e2 b (hcj b (hgj' b (by rw [hg]; rfl))) hb).elim)
  refine ⟨app s (k0 + maxNew * j) oj dj, ⟨l2, dj, hdj', rfl⟩, l1, di, hdi', ?_⟩
  have ht : putT (putT s.tm oi.dst di.v) oj.dst dj.v = putT (putT s.tm oj.dst dj.v) oi.dst di.v := by
    cases hx : oi.dst with
    | none => rfl
    | some x =>
      cases hy : oj.dst with
      | none => rfl
      | some y =>
        have hne : y ≠ x := fun he => a2 x hx (by rw [hy, he])
        funext t
        simp only [putT]
        by_cases h1 : t = y
        · subst h1; rw [set_same, set_ne hne, set_same]
        · rw [set_ne h1]
          by_cases h2 : t = x
          · subst h2; rw [set_same, set_same]
          · rw [set_ne h2, set_ne h2, set_ne h1]
  have hh : putN (putU (putN (putU s.h di.up) (k0 + maxNew * i) di.nb) dj.up) (k0 + maxNew * j) dj.nb = putN (putU (putN (putU s.h dj.up) (k0 + maxNew * j) dj.nb) di.up) (k0 + maxNew * i) di.nb := by
    funext b
    rw [hgj, hgi, hgi, hgj]
    cases h1 : gi b with
    | none => rfl
    | some x =>
      cases h2 : gj b with
      | none => rfl
      | some y => exact (disj_spec e3 b (hci b (hgi' b (by rw [h1]; rfl))) (hcj b (hgj' b (by rw [h2]; rfl)))).elim
  show app (app s (k0 + maxNew * i) oi di) (k0 + maxNew * j) oj dj = app (app s (k0 + maxNew * j) oj dj) (k0 + maxNew * i) oi di
  unfold app
  simp only [ht, hh]

theorem RunD.front {un : List (Nat × List Nat)} (hun : chkLog lg un = true) {i : Nat} {l2 : List Nat} {q : St} : ∀ {l1 : List Nat} {s : St}, (∀ m ∈ l1, ∀ om oi, ops[m]? = some om → ops[i]? = some oi → Free (ops := ops) un m om i oi) → RunD E call ops k0 lg (l1 ++ i :: l2) s q →
    ∃ o s', ops[i]? = some o ∧ StepD E call ops k0 lg i o s s' ∧ RunD E call ops k0 lg (l1 ++ l2) s' q
  | [], s, _, h => h
  | m :: l1, s, hf, h => by
    obtain ⟨om, s1, hm, hs, h⟩ := h
    obtain ⟨o, s', ho, hs', h⟩ := RunD.front hun (fun m hm => hf m (List.mem_cons_of_mem _ hm)) h
    obtain ⟨s1', h1, h2⟩ := hs.comm hun (hf m List.mem_cons_self om o hm ho) hs'
    exact ⟨o, s1', ho, h1, om, s', hm, h2, h⟩

theorem evOpsD_run : ∀ (l : List Oper) (i : Nat) (lg0 lg : Log) (s q : St), (∀ j, l[j]? = ops[i + j]?) → evOpsD E call ops l i (k0 + maxNew * i) lg0 s = some (lg, q) →
    (∀ j, j < i → lg j = lg0 j) ∧ q.nx = k0 + maxNew * (i + l.length) ∧ RunD E call ops k0 lg (rngL i l.length) s { q with nx := s.nx }
  | [], i, lg0, lg, s, q, _, h => by cases h; exact ⟨fun _ _ => rfl, rfl, rfl⟩
  | o :: r, i, lg0, lg, s, q, hl, h => by
    have ho : ops[i]? = some o := by simpa using (hl 0).symm
    have hl' : ∀ j, r[j]? = ops[i + 1 + j]? := fun j => by have := hl (j + 1); rw [List.getElem?_cons_succ] at this; rw [this]; congr 1; omega
    unfold evOpsD at h
    obtain ⟨w, hw, h⟩ := bnd_eq h
    have hk : k0 + maxNew * i + maxNew = k0 + maxNew * (i + 1) := by rw [Nat.mul_add, Nat.mul_one]; omega
    rw [hk] at h
    rcases cnd_eq h with ⟨rfl, h⟩ | ⟨rfl, h⟩
    · obtain ⟨d, hd, h⟩ := bnd_eq h
      obtain ⟨hlt, h⟩ := grd_eq h
      obtain ⟨h1, h2, h3⟩ := evOpsD_run r (i + 1) _ lg _ q hl' h
      have hi := h1 i (by omega)
      rw [set_same] at hi
      refine ⟨fun j hj => by rw [h1 j (by omega), set_ne (by omega)], by rw [h2, List.length_cons]; congr 2; omega, ?_⟩
      exact ⟨o, app s (k0 + maxNew * i) o d, ho, ⟨hlt, d, ⟨true, hw, .inl ⟨rfl, hd, hi⟩⟩, rfl⟩, h3⟩
    · obtain ⟨hlt, h⟩ := grd_eq h
      obtain ⟨h1, h2, h3⟩ := evOpsD_run r (i + 1) _ lg _ q hl' h
      have hi := h1 i (by omega)
      rw [set_same] at hi
      refine ⟨fun j hj => by rw [h1 j (by omega), set_ne (by omega)], by rw [h2, List.length_cons]; congr 2; omega, ?_⟩
      exact ⟨o, app s (k0 + maxNew * i) o ⟨some (.tup []), [], []⟩, ho, ⟨hlt, _, ⟨false, hw, .inr ⟨rfl, rfl, hi⟩⟩, rfl⟩, h3⟩
end
end Go.Ev
end

section
set_option linter.unusedVariables false
set_option linter.unusedSimpArgs false
set_option linter.unnecessarySimpa false
namespace Go.Ev
open Go

def predsO (o : Oper) : List Nat := (o.after.toList.filter (Region.binds .any)).map (·.on)
def uni : List Nat → List Nat → List Nat
  | [], l => l
  | x :: r, l => cond (mem x l) (uni r l) (uni r (x :: l))
def ancAll (acc : List (List Nat)) : List Nat → List Nat → List Nat
  | [], l => l
  | p :: r, l => ancAll acc r (uni (p :: (acc[p]?).getD []) l)
/-- Behind which others each operation stands. -/
def ancs : List Oper → List (List Nat) → List (List Nat)
  | [], acc => acc
  | o :: r, acc => ancs r (acc ++ [ancAll acc (predsO o) []])
def lt? (a b : Nat) : Bool := Nat.blt a b
def unHas (un : List (Nat × List Nat)) (i j : Nat) : Bool := un.any fun q => q.1 == i && mem j q.2
def freeB (ops : List Oper) (un : List (Nat × List Nat)) (i : Nat) (oi : Oper) (j : Nat) (oj : Oper) : Bool :=
  oi.apart ops.toArray oj && (plain oi.op || (plain oj.op || ((reads oi.op && reads oj.op) || unHas un i j)))
/-- The pairs (m, i), m < i. -/
def rowB (ops : List Oper) (un : List (Nat × List Nat)) (anc : List Nat) (i : Nat) (oi : Oper) : List Oper → Nat → Bool
  | [], _ => true
  | om :: r, m => cond (Nat.blt m i) ((mem m anc || freeB ops un m om i oi) && rowB ops un anc i oi r (m + 1)) true
def noSel (o : Oper) : Bool := match o.op with | .select .. => false | _ => true
def rowsB (ops : List Oper) (un : List (Nat × List Nat)) (T : List (List Nat)) : List Oper → Nat → Bool
  | [], _ => true
  | o :: r, i => (predsO o).all (fun p => Nat.blt p i) &&
      ((T.getD i []).all (fun m => Nat.blt m i && (mem m (predsO o) || (predsO o).any fun p => mem m (T.getD p []))) &&
      (rowB ops un (T.getD i []) i o ops 0 && rowsB ops un T r (i + 1)))
def drawB (ops : List Oper) (un : List (Nat × List Nat)) : Bool := rowsB ops un (ancs ops []) ops 0

theorem rowB_spec {ops : List Oper} {un : List (Nat × List Nat)} {anc : List Nat} {i : Nat} {oi : Oper} : ∀ {l : List Oper} {m0 : Nat}, rowB ops un anc i oi l m0 = true → ∀ j om, l[j]? = some om → m0 + j < i → (m0 + j ∈ anc ∨ Free (ops := ops) un (m0 + j) om i oi)
  | [], _, _, j, om, hj, _ => by cases hj
  | o :: r, m0, h, j, om, hj, hlt => by
    unfold rowB at h
    have hb : Nat.blt m0 i = true := by rw [Nat.blt_eq]; omega
    rw [hb] at h
    simp only [cond_true, Bool.and_eq_true, Bool.or_eq_true] at h
    cases j with
    | zero =>
      cases hj
      rcases h.1 with h1 | h1
      · exact .inl ((mem_spec _ _).1 h1)
      · refine .inr ?_
        simp only [freeB, Bool.and_eq_true, Bool.or_eq_true, unHas, List.any_eq_true, beq_iff_eq] at h1
        refine ⟨h1.1, ?_⟩
        rcases h1.2 with h2 | h2 | h2 | ⟨⟨a, l⟩, h3, h4, h5⟩
        · exact .inl h2
        · exact .inr (.inl h2)
        · exact .inr (.inr (.inl h2))
        · exact .inr (.inr (.inr ⟨l, by simp only at h4; subst h4; exact h3, (mem_spec _ _).1 h5⟩))
    | succ j =>
      have := rowB_spec h.2 j om (by simpa using hj) (by omega)
      rwa [show m0 + 1 + j = m0 + (j + 1) by omega] at this

structure DrawGood (ops : List Oper) (un : List (Nat × List Nat)) (T : Nat → List Nat) : Prop where
  lt : ∀ i o, ops[i]? = some o → ∀ e ∈ o.after, Region.binds .any e = true → e.on < i
  anc : ∀ i o, ops[i]? = some o → ∀ m ∈ T i, m < i ∧ ∃ e ∈ o.after, Region.binds .any e = true ∧ (e.on = m ∨ m ∈ T e.on)
  free : ∀ i oi m om, ops[i]? = some oi → ops[m]? = some om → m < i → m ∈ T i ∨ Free (ops := ops) un m om i oi

theorem mem_predsO {o : Oper} {p : Nat} : p ∈ predsO o ↔ ∃ e ∈ o.after, Region.binds .any e = true ∧ e.on = p := by
  simp [predsO, List.mem_map, List.mem_filter, and_assoc]

theorem rowsB_spec {ops : List Oper} {un : List (Nat × List Nat)} {T : List (List Nat)} : ∀ {l : List Oper} {i0 : Nat}, rowsB ops un T l i0 = true → ∀ j o, l[j]? = some o →
    (∀ e ∈ o.after, Region.binds .any e = true → e.on < i0 + j) ∧ (∀ m ∈ T.getD (i0 + j) [], m < i0 + j ∧ ∃ e ∈ o.after, Region.binds .any e = true ∧ (e.on = m ∨ m ∈ T.getD e.on [])) ∧
    (∀ m om, ops[m]? = some om → m < i0 + j → m ∈ T.getD (i0 + j) [] ∨ Free (ops := ops) un m om (i0 + j) o)
  | [], _, _, j, o, hj => by cases hj
  | o0 :: r, i0, h, j, o, hj => by
    unfold rowsB at h
    simp only [Bool.and_eq_true] at h
    obtain ⟨h1, h2, h3, h4⟩ := h
    cases j with
    | zero =>
      cases hj
      refine ⟨fun e he hb => ?_, fun m hm => ?_, fun m om hm hlt => ?_⟩
      · have := List.all_eq_true.1 h1 e.on (mem_predsO.2 ⟨e, he, hb, rfl⟩)
        rw [Nat.blt_eq] at this; exact this
      · have := List.all_eq_true.1 h2 m hm
        simp only [Bool.and_eq_true, Bool.or_eq_true, Nat.blt_eq, List.any_eq_true] at this
        refine ⟨this.1, ?_⟩
        rcases this.2 with h5 | ⟨p, hp, h5⟩
        · obtain ⟨e, he, hb, hh⟩ := mem_predsO.1 ((mem_spec _ _).1 h5)
          exact ⟨e, he, hb, .inl hh⟩
        · obtain ⟨e, he, hb, hh⟩ := mem_predsO.1 hp
          subst hh
          exact ⟨e, he, hb, .inr ((mem_spec _ _).1 h5)⟩
      · have := rowB_spec h3 m om hm (by omega)
        simpa using this
    | succ j =>
      have := rowsB_spec h4 j o (by simpa using hj)
      rwa [show i0 + 1 + j = i0 + (j + 1) by omega] at this

theorem drawB_spec {ops : List Oper} {un : List (Nat × List Nat)} (h : drawB ops un = true) : ∃ T, DrawGood ops un T := by
  refine ⟨fun i => (ancs ops []).getD i [], ⟨fun i o ho => ?_, fun i o ho => ?_, fun i oi m om hi hm hlt => ?_⟩⟩
  · have := (rowsB_spec h i o ho).1; rwa [Nat.zero_add] at this
  · have := (rowsB_spec h i o ho).2.1; rwa [Nat.zero_add] at this
  · have := (rowsB_spec h i oi hi).2.2 m om hm (by rwa [Nat.zero_add]); rwa [Nat.zero_add] at this

section
variable {E : Env} {call : CallF} {ops : List Oper} {k0 : Nat} {lg : Log} {B : Bs} {un : List (Nat × List Nat)} {T : Nat → List Nat}

theorem any_sound (hE : EnvOK E call) (hun : chkLog lg un = true) (hT : DrawGood ops un T) {q : St} {Q : Exit → Act → World → Prop} (hQ : ∀ a' w', RR B (fun b => b < k0 + maxNew * ops.length) q a' w' → Q .normal a' w') :
    ∀ (n : Nat) (l : List Nat) (listed : Array Bool) (s : St) (a : Act) (w : World), l.length = n → l.Pairwise (· < ·) → (∀ i, listed.getD i true = false ↔ i ∈ l) → listed.size = ops.length →
    (∀ i k, i < ops.length → i ∉ l → k ∈ T i → k ∉ l) → RunD E call ops k0 lg l s q → RR B (fun b => b < k0 ∨ ∃ i, i < ops.length ∧ i ∉ l ∧ rng (k0 + maxNew * i) b) s a w → wpAny E.P .any ops.toArray Q n listed a w := by
  intro n
  have hlt : ∀ {l : List Nat} {listed : Array Bool}, (∀ i, listed.getD i true = false ↔ i ∈ l) → listed.size = ops.length → ∀ i ∈ l, i < ops.length := fun {l listed} hl hsz i hi => by
    have h1 := (hl i).2 hi
    rcases Nat.lt_or_ge i listed.size with h | h
    · omega
    · simp [Array.getD, Nat.not_lt.2 h] at h1
  have hon : ∀ {l : List Nat} {listed : Array Bool}, (∀ i, listed.getD i true = false ↔ i ∈ l) → listed.size = ops.length → ∀ i, i < ops.length → (listed.getD i false = true ↔ i ∉ l) := fun {l listed} hl hsz i hi => by
    have h1 : listed.getD i false = listed.getD i true := by simp [Array.getD, hsz, hi]
    rw [h1]
    constructor
    · intro h hm; rw [(hl i).2 hm] at h; cases h
    · intro h
      cases hg : listed.getD i true with
      | true => rfl
      | false => exact absurd ((hl i).1 hg) h
  induction n with
  | zero =>
    intro l listed s a w hn hp hl hsz hdc hr hR
    have : l = [] := List.length_eq_zero_iff.1 hn
    subst this
    refine ⟨?_, ?_⟩
    · cases hrd : Region.ready .any ops.toArray listed with
      | nil => rfl
      | cons x xs =>
        have : x ∈ Region.ready .any ops.toArray listed := by rw [hrd]; exact List.mem_cons_self
        have := (hl x).1 (mem_ready.1 this).1
        cases this
    · cases hr
      refine hQ a w (hR.mono_U fun b hb => ?_)
      rcases hb with hb | ⟨i, hi, _, h1, h2⟩
      · omega
      · have := Nat.mul_le_mul_left maxNew (show i + 1 ≤ ops.length from hi)
        rw [Nat.mul_add, Nat.mul_one] at this
        omega
  | succ n ih =>
    intro l listed s a w hn hp hl hsz hdc hr hR
    refine ⟨fun h0 => ?_, fun i hi => ?_⟩
    · exfalso
      cases l with
      | nil => cases hn
      | cons x xs =>
        have hx := hlt hl hsz x List.mem_cons_self
        have hox : ops[x]? = some ops[x] := List.getElem?_eq_getElem hx
        have : x ∈ Region.ready .any ops.toArray listed := by
          refine mem_ready.2 ⟨(hl x).2 List.mem_cons_self, ops[x], by simpa using hox, fun e he hb => ?_⟩
          have h1 := hT.lt x _ hox e he hb
          refine (hon hl hsz e.on (by omega)).2 fun hm => ?_
          rcases List.mem_cons.1 hm with h2 | h2
          · omega
          · have := (List.pairwise_cons.1 hp).1 _ h2; omega
        rw [h0] at this
        cases this
    · obtain ⟨h0, oi, hoi, hall⟩ := mem_ready.1 hi
      have hil := (hl i).1 h0
      have hoi' : ops[i]? = some oi := by simpa using hoi
      have hilt := hlt hl hsz i hil
      obtain ⟨l1, l2, rfl⟩ := List.append_of_mem hil
      have hp' := List.pairwise_append.1 hp
      have hTi : ∀ m ∈ T i, m ∉ l1 ++ i :: l2 := fun m hm => by
        obtain ⟨h1, e, he, hb, h2⟩ := hT.anc i oi hoi' m hm
        have h3 := (hon hl hsz e.on (by have := hT.lt i oi hoi' e he hb; omega)).1 (hall e he hb)
        rcases h2 with h2 | h2
        · rwa [← h2]
        · exact hdc e.on m (by have := hT.lt i oi hoi' e he hb; omega) h3 h2
      obtain ⟨o, s', ho, hst, hr'⟩ := hr.front hun (fun m hm om oi' hom hoi2 => by
        rw [hoi'] at hoi2; cases hoi2
        have hmi : m < i := hp'.2.2 m hm i List.mem_cons_self
        rcases hT.free i oi m om hoi' hom hmi with h | h
        · exact absurd (List.mem_append_left _ hm) (hTi m h)
        · exact h)
      rw [hoi'] at ho
      cases ho
      obtain ⟨hlto, d, hd, rfl⟩ := hst
      have hni : i ∉ l1 ++ l2 := fun hm => by
        rcases List.mem_append.1 hm with h | h
        · have := hp'.2.2 i h i List.mem_cons_self; omega
        · have := (List.pairwise_cons.1 hp'.2.1).1 i h; omega
      have hmem : ∀ j, j ∈ l1 ++ i :: l2 ↔ j = i ∨ j ∈ l1 ++ l2 := fun j => by simp only [List.mem_append, List.mem_cons]; constructor <;> (intro h; rcases h with h | h | h <;> simp [h])
      have next : ∀ a' w', RR B (fun b => (b < k0 ∨ ∃ i', i' < ops.length ∧ i' ∉ l1 ++ i :: l2 ∧ rng (k0 + maxNew * i') b) ∨ rng (k0 + maxNew * i) b) (app s (k0 + maxNew * i) oi d) a' w' → wpAny E.P .any ops.toArray Q n (listed.setIfInBounds i true) a' w' := fun a' w' hR' => by
        refine ih (l1 ++ l2) _ _ a' w' (by simp at hn ⊢; omega) ?_ (fun j => ?_) (by simpa using hsz) (fun j k hj hnj hk => ?_) hr' (hR'.mono_U fun b hb => ?_)
        · exact List.pairwise_append.2 ⟨hp'.1, (List.pairwise_cons.1 hp'.2.1).2, fun x hx y hy => hp'.2.2 x hx y (List.mem_cons_of_mem _ hy)⟩
        · by_cases hji : j = i
          · subst hji
            have : (listed.setIfInBounds j true).getD j true = true := by simp [Array.getD, hsz, hilt]
            rw [this]
            exact ⟨fun h => (by cases h), fun h => absurd h hni⟩
          · rw [getD_set_ne true (Ne.symm hji), hl j, hmem j]
            exact ⟨fun h => h.resolve_left hji, .inr⟩
        · by_cases hji : j = i
          · subst hji
            exact fun hm => hTi k hk ((hmem k).2 (.inr hm))
          · exact fun hm => hdc j k hj (fun h => ((hmem j).1 h).elim hji hnj) hk ((hmem k).2 (.inr hm))
        · rcases hb with (hb | ⟨i', h1, h2, h3⟩) | hb
          · exact .inl hb
          · exact .inr ⟨i', h1, fun h => h2 ((hmem i').2 (.inr h)), h3⟩
          · exact .inr ⟨i, hilt, hni, hb⟩
      unfold wpOp
      rw [hoi]
      simp only
      obtain ⟨wv, hw, hh⟩ := hd
      have hwt := want_sound (ops := ops.toArray) hR (by simpa using hw)
      rw [hwt]
      rcases hh with ⟨rfl, hev, _⟩ | ⟨rfl, rfl, _⟩
      · rw [if_pos rfl]
        refine .inl (Oper.wp_mono' next (op_step hE hR (fun j hj hU => ?_) hev hlto Q))
        rcases hU with hU | ⟨i', h1, h2, h3, h4⟩
        · omega
        · have hne : i' ≠ i := fun h => h2 (by rw [h]; exact hil)
          rcases Nat.lt_or_gt_of_ne hne with h5 | h5
          · have := Nat.mul_le_mul_left maxNew (show i' + 1 ≤ i from h5)
            rw [Nat.mul_add, Nat.mul_one] at this
            omega
          · have := Nat.mul_le_mul_left maxNew (show i + 1 ≤ i' from h5)
            rw [Nat.mul_add, Nat.mul_one] at this
            omega
      · rw [if_neg (by simp)]
        exact next _ _ ((skp_sound hR oi hlto).mono_U fun b hb => .inl hb)

theorem drawOK {E : Env} {f id : Nat} {ops : Array Oper} (hm : E.P.follows .mixedOrders = true) (h : drawB ops.toList (E.un f id) = true) : DrawOK E f id ops := by
  intro call hE B s q a w hq hchk hR
  obtain ⟨T, hT⟩ := drawB_spec h
  obtain ⟨lg, q⟩ := q
  have hrun := evOpsD_run (k0 := s.nx) (ops := ops.toList) ops.toList 0 (fun _ => none) lg s q (fun j => by rw [Nat.zero_add]) (by rw [Nat.mul_zero, Nat.add_zero]; exact hq)
  obtain ⟨_, hnx, hr⟩ := hrun
  have hlen : (rngL 0 ops.toList.length).length = ops.size := by rw [rngL_length]; simp
  have hmem : ∀ i, i ∈ rngL 0 ops.toList.length ↔ i < ops.size := fun i => by
    constructor
    · intro h
      obtain ⟨j, hj⟩ := List.mem_iff_getElem?.1 h
      have h1 : j < (rngL 0 ops.toList.length).length := (List.getElem?_eq_some_iff.1 hj).1
      rw [rngL_length] at h1
      rw [rngL_get _ _ _ h1] at hj
      cases hj
      simpa using h1
    · intro h
      have := rngL_get ops.toList.length 0 i (by simpa using h)
      rw [Nat.zero_add] at this
      exact List.mem_of_getElem? this
  refine wp_region_any hm ?_
  have hpw : ∀ n o, (rngL o n).Pairwise (· < ·) ∧ ∀ x ∈ rngL o n, o ≤ x := by
    intro n
    induction n with
    | zero => intro o; exact ⟨.nil, fun _ h => by cases h⟩
    | succ n ih =>
      intro o
      refine ⟨List.pairwise_cons.2 ⟨fun x hx => by have := (ih (o + 1)).2 x hx; omega, (ih (o + 1)).1⟩, fun x hx => ?_⟩
      rcases List.mem_cons.1 hx with rfl | hx
      · exact Nat.le_refl _
      · have := (ih (o + 1)).2 x hx; omega
  have key := any_sound (E := E) (call := call) (ops := ops.toList) (k0 := s.nx) (lg := lg) (B := B) hE hchk hT (q := { q with nx := s.nx }) (Q := fun e' a' w' => e' = .normal ∧ RR B (fun b => b < q.nx) q a' w')
    (fun a' w' h => ⟨rfl, by rw [hnx, Nat.zero_add]; exact h⟩) ops.size (rngL 0 ops.toList.length) (Array.replicate ops.size false) s a { w with drawn := w.drawn + 1 } hlen (hpw _ _).1 (fun i => by
      rw [hmem i]
      by_cases hi : i < ops.size <;> simp [Array.getD, hi]) (by simp) (fun i k hi hn _ => absurd ((hmem i).2 (by simpa using hi)) hn) hr (hR.drew.mono_U fun b hb => .inl hb)
  simpa using key
end
end Go.Ev
end

section
set_option linter.unusedVariables false
set_option linter.unusedSimpArgs false
set_option linter.unnecessarySimpa false
namespace Go.Ev
open Go

def codeB (E : Env) (f : Nat) : Code → Bool
  | .region id ops draw => cond draw (drawB ops.toList (E.un f id)) true
  | .seq a b => codeB E f a && codeB E f b
  | .cond _ a b => codeB E f a && codeB E f b
  | .block _ a => codeB E f a
  | .loop a => codeB E f a
  | _ => true
def funB (E : Env) (f : Nat) : Bool := match E.P.funcs[f]? with
  | some fn => !(fn.name == "runtime.NumGoroutine") && (match fn.body with | some c => codeB E f c | none => true)
  | none => true
def funsB (E : Env) : List Nat → Bool
  | [] => true
  | f :: r => funB E f && funsB E r
def teB (P : Program) : List (Nat × List Nat) → Bool
  | [] => true
  | (t, ks) :: r => (match eqK P t with | some l => l == ks | none => false) && teB P r
def teOf : List (Nat × List Nat) → Nat → Option (List Nat)
  | [], _ => none
  | (a, ks) :: r, t => if a = t then some ks else teOf r t

theorem codeB_spec {E : Env} {f : Nat} (hm : E.P.follows .mixedOrders = true) : ∀ (c : Code), codeB E f c = true → CodeOK E f c := by
  intro c
  induction c with
  | region id ops draw =>
    intro h
    cases draw with
    | true => exact drawOK hm h
    | false => trivial
  | seq a b iha ihb => intro h; simp only [codeB, Bool.and_eq_true] at h; exact ⟨iha h.1, ihb h.2⟩
  | cond c a b iha ihb => intro h; simp only [codeB, Bool.and_eq_true] at h; exact ⟨iha h.1, ihb h.2⟩
  | block id a iha => intro h; exact iha h
  | loop a iha => intro h; exact iha h
  | _ => intro _; trivial
theorem funsB_spec {E : Env} : ∀ {l : List Nat}, funsB E l = true → ∀ f ∈ l, funB E f = true
  | [], _, _, hf => by cases hf
  | x :: r, h, f, hf => by
    simp only [funsB, Bool.and_eq_true] at h
    rcases List.mem_cons.1 hf with rfl | hf
    · exact h.1
    · exact funsB_spec h.2 f hf
theorem teB_spec {P : Program} : ∀ {l : List (Nat × List Nat)}, teB P l = true → ∀ t ks, teOf l t = some ks → eqK P t = some ks
  | [], _, _, _, hf => by cases hf
  | (a, k) :: r, h, t, ks, ht => by
    simp only [teB, Bool.and_eq_true] at h
    unfold teOf at ht
    by_cases hat : a = t
    · rw [if_pos hat] at ht
      cases ht
      subst hat
      have h1 := h.1
      cases he : eqK P a with
      | none => rw [he] at h1; cases h1
      | some l => rw [he] at h1; simp only [beq_iff_eq] at h1; rw [h1]
    · rw [if_neg hat] at ht
      exact teB_spec h.2 t ks ht

theorem progOK {E : Env} (fsl : List Nat) (tel : List (Nat × List Nat)) (hfs : E.fs = fun f => mem f fsl) (hte : E.te = teOf tel) (hm : E.P.follows .mixedOrders = true) (hG : GivenOK E)
    (h1 : funsB E fsl = true) (h2 : teB E.P tel = true) : ProgOK E := by
  refine ⟨by rw [hte]; exact teB_spec h2, hG, fun f fn c hf hfn hb => ?_⟩
  rw [hfs] at hf
  have h3 := funsB_spec h1 f ((mem_spec _ _).1 hf)
  unfold funB at h3
  rw [hfn] at h3
  simp only [hb, Bool.and_eq_true, Bool.not_eq_true'] at h3
  exact ⟨h3.1, codeB_spec hm c h3.2⟩
end Go.Ev
end

section
set_option linter.unusedVariables false
set_option linter.unusedSimpArgs false
set_option linter.unnecessarySimpa false
namespace Go.Ev
open Go

/-! ### Tables -/
def SpecAt (E : Env) (r f : Nat) (g : FS) : Prop := ∀ d as0 bs sp y, g.g as0 bs = some sp → sp.o = some y → SpOK (evF E (d + r)) f as0 bs (sp.alt.val y)
theorem SpecAt.up {E : Env} {r r' f : Nat} {g : FS} (h : SpecAt E r f g) (hle : Nat.ble r r' = true) : SpecAt E r' f g := fun d as0 bs sp y h1 h2 => by
  have := h (d + (r' - r)) as0 bs sp y h1 h2
  rwa [show d + (r' - r) + r = d + r' by have := ble_nat hle; omega] at this
def AllF (E : Env) (r f : Nat) : List FS → Prop
  | [] => True
  | g :: q => SpecAt E r f g ∧ AllF E r f q
def AllS (E : Env) (r : Nat) : List (Nat × List FS) → Prop
  | [] => True
  | (f, l) :: q => AllF E r f l ∧ AllS E r q
theorem FSs_ok {E : Env} {r f d : Nat} : ∀ {l : List FS}, AllF E r f l → ∀ as0 bs sp y, FSs l as0 bs = some sp → sp.o = some y → SpOK (evF E (d + r)) f as0 bs (sp.alt.val y)
  | [], _, as0, bs, sp, y, h, _ => by cases h
  | g :: q, hA, as0, bs, sp, y, h, ho => by
    unfold FSs at h
    split at h
    · rename_i sp' hsp
      cases h
      exact hA.1 d as0 bs sp y hsp ho
    · exact FSs_ok hA.2 as0 bs sp y h ho
theorem GofL_ok {E : Env} {r d : Nat} : ∀ {l : List (Nat × List FS)}, AllS E r l → GOK (evF E (d + r)) (GofL l)
  | [], _, f, as0, bs, sp, y, h, _ => by cases h
  | (g, l) :: q, hA, f, as0, bs, sp, y, h, ho => by
    unfold GofL at h
    split at h
    · rename_i hg
      rw [← beq_nat hg]
      exact FSs_ok hA.1 as0 bs sp y h ho
    · exact GofL_ok hA.2 f as0 bs sp y h ho
def ndB : Code → Bool
  | .region _ ops _ => nodup (dsts ops.toList)
  | .seq a b => ndB a && ndB b
  | .cond _ a b => ndB a && ndB b
  | .block _ a => ndB a
  | .loop a => ndB a
  | _ => true
theorem ndB_spec : ∀ {c : Code}, ndB c = true → NdC c := by
  intro c
  induction c with
  | region id ops draw => intro h; exact nodup_spec _ h
  | seq a b iha ihb => intro h; simp only [ndB, Bool.and_eq_true] at h; exact ⟨iha h.1, ihb h.2⟩
  | cond c a b iha ihb => intro h; simp only [ndB, Bool.and_eq_true] at h; exact ⟨iha h.1, ihb h.2⟩
  | block id a ih => intro h; exact ih h
  | loop a ih => intro h; exact ih h
  | _ => intro _; trivial
/-- What is asked of a function's text. -/
def stB (E : Env) (f : Nat) : Bool := match E.P.funcs[f]? with
  | some fn => (match fn.body with
    | some c => ndB c && (nodup ((loopsOf c 1000000).map Prod.fst) && (E.fs f && (match E.G f with | some _ => false | none => true)))
    | none => false)
  | none => false
def isLp (P : Program) (f k : Nat) : Bool := match P.funcs[f]? with
  | some fn => (match fn.body with
    | some c => Nat.blt k (loopsOf c 1000000).length
    | none => false)
  | none => false
def LRd (E : Env) (G : GT) (L : LT) (f : Nat) (q : Nat × LS) : Prop := ∃ k, isLp E.P f k = true ∧ (lpOf E.P f k).1 = q.1 ∧ ∀ x, kRound E G L f q.1 (lpOf E.P f k).2 (q.2.hd.st x) q.2.rd = q.2.B x
def AllL (E : Env) (G : GT) (L : LT) (f : Nat) : List (Nat × LS) → Prop
  | [] => True
  | q :: r => LRd E G L f q ∧ AllL E G L f r
theorem AllL.mem {E : Env} {G : GT} {L : LT} {f : Nat} : ∀ {l : List (Nat × LS)}, AllL E G L f l → ∀ q ∈ l, LRd E G L f q
  | [], _, q, h => by cases h
  | p :: r, hA, q, h => by
    rcases List.mem_cons.1 h with rfl | h
    · exact hA.1
    · exact AllL.mem hA.2 q h
theorem loops_all {E : Env} {C : CallF} {G : GT} (hG : GOK C G) {f : Nat} {L0 : List (Nat × LS)} : ∀ (c : Code), NdC c → ∀ i, (∀ p ∈ loopsOf c i, ∀ q ∈ L0, q.1 = p.1 → ∀ x, kRound E G (LofL [(f, L0)]) f p.1 p.2 (q.2.hd.st x) q.2.rd = q.2.B x) → ∀ p ∈ loopsOf c i, LOK E C (LofL [(f, L0)]) f p.1 p.2 := by
  intro c
  induction c with
  | seq a b iha ihb =>
    intro hn i h p hp
    unfold loopsOf at hp
    rcases List.mem_append.1 hp with hp | hp
    · exact iha hn.1 i (fun p hp => h p (by unfold loopsOf; simp [hp])) p hp
    · exact ihb hn.2 i (fun p hp => h p (by unfold loopsOf; simp [hp])) p hp
  | cond c a b iha ihb =>
    intro hn i h p hp
    unfold loopsOf at hp
    rcases List.mem_append.1 hp with hp | hp
    · exact iha hn.1 i (fun p hp => h p (by unfold loopsOf; simp [hp])) p hp
    · exact ihb hn.2 i (fun p hp => h p (by unfold loopsOf; simp [hp])) p hp
  | block id a ih => intro hn i h p hp; exact ih hn id h p hp
  | loop a ih =>
    intro hn i h p hp
    have inner := ih hn i (fun p hp => h p (by unfold loopsOf; simp [hp]))
    unfold loopsOf at hp
    rcases List.mem_cons.1 hp with rfl | hp
    · exact LofL_ok fun q hq he => loop_ok (a := a) hG hn inner (h (i, a) (by unfold loopsOf; simp) q hq he)
    · exact inner p hp
  | _ => intro _ i _ p hp; cases hp
theorem mkSpec {E : Env} {r f : Nat} {g : FS} {gl : List (Nat × List FS)} {L0 : List (Nat × LS)} (hst : stB E f = true) (hgl : AllS E r gl) (hL : AllL E (GofL gl) (LofL [(f, L0)]) f L0)
    (hrun : ∀ x, kF E (GofL gl) (LofL [(f, L0)]) f (g.args x) (g.bs x) g.r.dec = g.F x) (hnl : E.nl f = true → g.nb = 0 ∧ ∀ C, evB E C f [] [.lit (.slice none 0 0)] = evB E C f [] [.emp]) : SpecAt E (r + 1) f g := by
  intro d as0 bs sp y h1 h2
  unfold stB at hst
  split at hst
  · rename_i fn hfn
    split at hst
    · rename_i c hc
      simp only [Bool.and_eq_true] at hst
      obtain ⟨a1, a2, a3, a4⟩ := hst
      have hEG : E.G f = none := by
        cases hg : E.G f with
        | none => rfl
        | some g => rw [hg] at a4; cases a4
      have hnd := ndB_spec a1
      have hids := nodup_spec _ a2
      have hG : GOK (evF E (d + r)) (GofL gl) := GofL_ok hgl
      have hlp : ∀ k p, (loopsOf c 1000000)[k]? = some p → lpOf E.P f k = p := fun k p hk => by
        unfold lpOf
        rw [hfn]
        simp only [hc, hk]
      have hloops := loops_all (E := E) hG (f := f) (L0 := L0) c hnd 1000000 (fun p hp q hq he x => by
        obtain ⟨k, hk0, hk1, hk2⟩ := hL.mem q hq
        have hkl : k < (loopsOf c 1000000).length := by
          unfold isLp at hk0
          rw [hfn] at hk0
          simp only [hc] at hk0
          exact blt_nat hk0
        obtain ⟨j, hj, hpj⟩ := List.getElem_of_mem hp
        have hjp : (loopsOf c 1000000)[j]? = some p := by rw [← hpj]; exact List.getElem?_eq_getElem hj
        cases hkk : (loopsOf c 1000000)[k]? with
        | none => rw [List.getElem?_eq_none_iff] at hkk; omega
        | some p' =>
          have e1 := hlp k p' hkk
          rw [e1] at hk1 hk2
          have e2 : k = j := by
            have h3 : ((loopsOf c 1000000).map Prod.fst)[k]? = some q.1 := by rw [List.getElem?_map, hkk]; simp [hk1]
            have h4 : ((loopsOf c 1000000).map Prod.fst)[j]? = some q.1 := by rw [List.getElem?_map, hjp]; simp [he]
            exact nodup_get hids h3 h4
          subst e2
          rw [hjp] at hkk
          cases hkk
          rw [← he]; exact hk2 x)
      have := fn_ok (d := d + r) hG ⟨hfn, hc, hnd⟩ a3 hEG hloops hrun (fun h => ⟨(hnl h).1, (hnl h).2 _⟩) as0 bs sp y h1 h2
      exact this
    · cases hst
  · cases hst
end Go.Ev
end

section
set_option linter.unusedVariables false
set_option linter.unusedSimpArgs false
set_option linter.unnecessarySimpa false
namespace Go.Ev
open Go Go.Proofs Go.Lib Go.RowKit

def gRepeat : List V → List Blk → Option Ret
  | [.lit (.string s), .lit (.int .i64 n)], [] => grd (0 ≤ n ∧ n ≤ 1000000 ∧ s.size ≤ 1000) (some (.lit (.string ⟨(Lib.repeatL s.data.toList n.toNat).toArray⟩), [], []))
  | _, _ => none

/-- What is said of a given function. -/
def GivenAt (P : Program) (f : Nat) (g : List V → List Blk → Option Ret) : Prop := ∀ (args : List V) (bs : List Blk) (r : Ret), g args bs = some r → ∀ (K : Cx) (vals : List Value), VRl K args vals → Good (baseOf K (ofL (bs.map some)) bs.length) (fun b => b < bs.length) K (ofL (bs.map some)) →
  Calls P f vals.toArray K.w fun e w' => ∃ (v : Value) (K' : Cx), e = .returned v ∧ K'.w = w' ∧ VR K' r.1 v ∧ r.2.1.length = bs.length ∧ Good (baseOf K (ofL (bs.map some)) bs.length) (fun b => b < bs.length + r.2.2.length) K' (ofL (r.2.1 ++ r.2.2.map some))

theorem repeat_given {P : Program} {f : Nat} (h : ∀ (s : ByteArray) (c : Nat) (w : World), c ≤ 9223372036854775807 → s.size * c ≤ 140737488355328 → Calls P f #[.string s, .int .i64 c] w fun e w' => e = .returned (.string ⟨(Lib.repeatL s.data.toList c).toArray⟩) ∧ Below w.heap.size w w') : GivenAt P f gRepeat := by
  intro args bs r hr K vals hv g
  unfold gRepeat at hr
  split at hr
  · rename_i s n
    obtain ⟨⟨h1, h2, h3⟩, hr⟩ := grd_eq hr
    cases hr
    obtain ⟨hl, hh⟩ := hv
    rcases vals with _ | ⟨x, _ | ⟨y, _ | ⟨z, q⟩⟩⟩ <;> first | (simp at hl; done) | skip
    have hx := hh 0 _ x rfl rfl
    have hy := hh 1 _ y rfl rfl
    cases hx
    cases hy
    obtain ⟨c, rfl⟩ := Int.eq_ofNat_of_zero_le h1
    have hc : c ≤ 1000000 := by omega
    refine (h s c K.w (by omega) (by have := Nat.mul_le_mul h3 hc; omega)).mono fun e w' ⟨he, hw⟩ => ?_
    obtain ⟨hle, g'⟩ := g.world (w' := w') hw.size hw.block ⟨hw.os, hw.tape, hw.output⟩
    exact ⟨_, { K with w := w' }, he, rfl, .lit rfl, rfl, g'⟩
  · cases hr

theorem givenOK {E : Env} (h : ∀ f g, E.G f = some g → (∃ fn c, E.P.funcs[f]? = some fn ∧ fn.body = some c ∧ (fn.name == "runtime.NumGoroutine") = false) ∧ GivenAt E.P f g) : GivenOK E :=
  fun f g hf args bs r hr => ⟨(h f g hf).1, fun K vals hv hg => (h f g hf).2 args bs r hr K vals hv hg⟩
end Go.Ev
end

section
set_option linter.unusedVariables false
set_option linter.unusedSimpArgs false
set_option linter.unnecessarySimpa false
namespace Go.Ev
open Go Go.Proofs Go.Lib Go.RowKit
/-- strings.Contains at a substring of one byte. -/
def gContains : List V → List Blk → Option Ret
  | [.lit (.string s), .lit (.string t)], [] => grd (t.size = 1) (some (.lit (.bool (decide (0 ≤ Lib.indexByte s.data.toList (t.data.toList.headD 0)))), [], []))
  | _, _ => none
theorem one_byte {t : ByteArray} (h : t.size = 1) : t = ⟨#[t.data.toList.headD 0]⟩ := by
  obtain ⟨⟨l⟩⟩ := t
  have h : l.length = 1 := h
  obtain ⟨c, rfl⟩ := List.length_eq_one_iff.1 h
  rfl
theorem contains_given {P : Program} {f : Nat} (h : ∀ (s : ByteArray) (c : UInt8) (w : World), Calls P f #[.string s, .string ⟨#[c]⟩] w fun e w' => e = .returned (.bool (decide (0 ≤ Lib.indexByte s.data.toList c))) ∧ w' = w) : GivenAt P f gContains := by
  intro args bs r hr K vals hv g
  unfold gContains at hr
  split at hr
  · rename_i s t
    obtain ⟨h1, hr⟩ := grd_eq hr
    cases hr
    obtain ⟨hl, hh⟩ := hv
    rcases vals with _ | ⟨x, _ | ⟨y, _ | ⟨z, q⟩⟩⟩ <;> first | (simp at hl; done) | skip
    have hx := hh 0 _ x rfl rfl
    have hy := hh 1 _ y rfl rfl
    cases hx
    cases hy
    have ht := one_byte h1
    have := h s (t.data.toList.headD 0) K.w
    rw [← ht] at this
    refine this.mono fun e w' ⟨he, hw⟩ => ?_
    subst hw
    exact ⟨_, K, he, rfl, .lit rfl, rfl, by simpa using g⟩
  · cases hr
end Go.Ev
end
