/- A part of the proof: texts of the author, joined. -/
import Derived.Test.YtiddpfhpmodfbaaGreatDoorKE4
section
set_option linter.unusedVariables false
set_option linter.unusedSimpArgs false
set_option linter.unnecessarySimpa false
namespace Go.Ev
open Go

section
variable {ln ln' : Nat → Option (Nat × Nat)} {E : Env} {C : CallF} {G : GT}

theorem want_dst {dst : Option Nat} {n : Nat} (h : ltOB dst n = true) : ltO dst n := by
  cases dst with
  | none => trivial
  | some t => exact blt_nat h
theorem kCall_skip {S : Type} {h : Nat → Option Blk} {k g : Nat} {args : List V} {κ : KD → Option S} {r : S} (hk : kCall E (callG G false) h k g args κ = some r) : ∃ d, κ d = some r := by
  have hG : ∀ {f : Nat} {as0 : List V} {bs : List Blk} {κ : Ret → Option S} {r : S}, callG G false f as0 bs κ = some r → ∃ q, κ q = some r := fun {f as0 bs κ r} h => by
    unfold callG at h
    split at h
    · split at h
      · obtain ⟨_, h⟩ := sel_some h
        exact ⟨_, h⟩
      · cases h
    · cases h
  unfold kCall at hk
  split at hk
  · split at hk
    · obtain ⟨_, _, hk⟩ := bndF_eq hk
      obtain ⟨_, _, hk⟩ := bndF_eq hk
      obtain ⟨_, _, hk⟩ := bndF_eq hk
      obtain ⟨_, hk⟩ := hG hk
      obtain ⟨_, _, hk⟩ := bndF_eq hk
      obtain ⟨_, _, hk⟩ := bndF_eq hk
      obtain ⟨_, _, hk⟩ := bndF_eq hk
      obtain ⟨_, hk⟩ := ckF_eq hk
      exact ⟨_, hk⟩
    · cases hk
  · obtain ⟨_, _, hk⟩ := bndF_eq hk
    obtain ⟨_, hk⟩ := hG hk
    obtain ⟨_, _, hk⟩ := bndF_eq hk
    obtain ⟨_, _, hk⟩ := bndF_eq hk
    obtain ⟨_, hk⟩ := ckF_eq hk
    exact ⟨_, hk⟩
theorem grdz_skip {S : Type} : ∀ {ob : List Bool} {x : Option S} {r : S}, grdz false ob x = some r → x = some r
  | [], x, r, h => h
  | b :: q, x, r, h => by
    obtain ⟨_, h⟩ := sel_some h
    exact grdz_skip h
/-- Under a condition that is not so nothing is asked. -/
theorem kEx_skip {S : Type} {n : Nat} {ops : List Oper} {cur : Option (Nat × Bool)} {s : St} {k : Nat} {op : Op} {κ : KD → Option S} {r : S} (h : kEx E G n ops (some false) cur s k op κ = some r) : ∃ d, κ d = some r := by
  have gen : bndF n (kOp E (kO s.tm cur) s.h k op) (fun d => grdm (some false) d.ob (κ d)) = some r → ∃ d, κ d = some r := fun h => by
    obtain ⟨d, hd, h⟩ := bndF_eq h
    exact ⟨d, grdz_skip h⟩
  unfold kEx at h
  split at h
  · split at h
    · split at h
      · obtain ⟨_, _, h⟩ := bndF_eq h
        exact ⟨_, h⟩
      · obtain ⟨_, _, h⟩ := bndF_eq h
        exact ⟨_, h⟩
    · obtain ⟨_, _, h⟩ := bndF_eq h
      split at h
      · obtain ⟨_, _, h⟩ := bndF_eq h
        obtain ⟨_, _, h⟩ := bndF_eq h
        obtain ⟨_, _, h⟩ := bndF_eq h
        exact ⟨_, h⟩
      · cases h
  · split at h
    · obtain ⟨_, _, h⟩ := bndF_eq h
      split at h
      · obtain ⟨_, _, h⟩ := bndF_eq h
        exact kCall_skip h
      · cases h
    · exact gen h
  · exact gen h
/-- All of a region's operations. -/
theorem ops_R {S : Type} (hG : GOK C G) {id : Nat} {m : Option Bool} (hm : mOK m) {ops : List Oper} (hn : (dsts ops).Nodup) : ∀ (r pre : List Oper), ops = pre ++ r → ∀ (k : Nat) (lg lg' : Log) (s s' : St) (ln : Nat → Option (Nat × Nat)) (κ : Log → St → Option S) (res : S),
    kOps E G id m ops r pre.length k lg s κ = some res → SRel ln (wantJ s'.tm ops) s s' → INV pre s → FreeB ln k s.h s'.h → LR lg lg' →
    ∃ lgK lgV s1 s1' ln1, evOpsD E C ops r pre.length k lg' s' = some (lgV, s1') ∧ LR lgK lgV ∧ SRel ln1 (wantJ s1'.tm ops) s1 s1' ∧ INV ops s1 ∧ FreeB ln1 s1'.nx s1.h s1'.h ∧ s1.nx = s1'.nx ∧ κ lgK s1 = some res ∧
      (∀ b p, ln b = some p → ln1 b = some p) ∧ (∀ t, t ∉ dsts ops → s1.tm t = s.tm t) ∧ (m = some true → s1'.h = s'.h ∧ s1.h = s.h) ∧ k ≤ s1'.nx ∧ s1.nt = s.nt ∧ s1.ni = s.ni ∧ (∀ b, b < k → ln1 b = ln b)
  | [], pre, hops, k, lg, lg', s, s', ln, κ, res, h, hS, hI, hf, hL => by
    rw [List.append_nil] at hops
    subst hops
    refine ⟨lg, lg', { s with nx := k }, { s' with nx := k }, ln, rfl, hL, ⟨hS.tm, hS.h, hS.nt, hS.ni⟩, hI, hf, rfl, h, fun _ _ h => h, fun _ _ => rfl, fun _ => ⟨rfl, rfl⟩, Nat.le_refl k, rfl, rfl, fun _ _ => rfl⟩
  | o :: r, pre, hops, k, lg, lg', s, s', ln, κ, res, h, hS, hI, hf, hL => by
    have hops2 : ops = (pre ++ [o]) ++ r := by rw [hops]; simp
    have hplen : (pre ++ [o]).length = pre.length + 1 := by simp
    have hdmem : ∀ t, o.dst = some t → t ∈ dsts ops := fun t ht => dsts_mem (i := pre.length) (by rw [hops]; simp) ht
    have hgmem : ∀ j t, gdst ops j = some t → t ∈ dsts ops := fun j t ht => by
      obtain ⟨o', h1, h2⟩ := gdst_mem ht
      exact dsts_mem h1 h2
    unfold kOps at h
    obtain ⟨hlt, h⟩ := ckF_eq h
    have hlt' : ltO o.dst s'.nt := by rw [← hS.nt]; exact want_dst hlt
    -- an operation that is carried out, with its value as0 it is
    have exec : ∀ (cur : Option (Nat × Bool)) (mm : Option Bool) (hmm : mOK mm) (hmm2 : mm = m ∨ (mm = none ∧ m = none)) (tmK : Nat → Option V) (stl : Bool) (hstl : m = some true → stl = true), curOK (wantJ s'.tm ops) cur → want s'.tm ops o = some true →
        (∀ t v, tmK t = some v → s.tm t = some v ∨ ∃ b, v = .kb b ∧ s'.tm t = some (.lit (.bool b))) → (∀ t, t ∉ dsts ops → tmK t = s.tm t) →
        (kEx E G (id * 1000 + pre.length) ops mm cur s k o.op fun d => ckF (id * 1000 + pre.length) (match stl with | true => still d | false => true)
          (kOps E G id m ops r (pre.length + 1) (k + maxNew) (set lg pre.length (some (kRd E s.h (kO s.tm cur) o.op, keysU d.up ++ rngL k d.nb.length))) { s with tm := putT tmK o.dst d.v, h := putN (putU s.h d.up) k d.nb } κ)) = some res →
        ∃ lgK lgV s1 s1' ln1, evOpsD E C ops (o :: r) pre.length k lg' s' = some (lgV, s1') ∧ LR lgK lgV ∧ SRel ln1 (wantJ s1'.tm ops) s1 s1' ∧ INV ops s1 ∧ FreeB ln1 s1'.nx s1.h s1'.h ∧ s1.nx = s1'.nx ∧ κ lgK s1 = some res ∧
          (∀ b p, ln b = some p → ln1 b = some p) ∧ (∀ t, t ∉ dsts ops → s1.tm t = s.tm t) ∧ (m = some true → s1'.h = s'.h ∧ s1.h = s.h) ∧ k ≤ s1'.nx ∧ s1.nt = s.nt ∧ s1.ni = s.ni ∧ (∀ b, b < k → ln1 b = ln b) := by
      intro cur mm hmm hmm2 tmK stl hstl hcur hw htK htK2 h
      have hrd := rd_R hS hcur h
      obtain ⟨d, d', ln1, h1, hD, h⟩ := kEx_R hG hmm hS hcur hf h
      obtain ⟨hst, h⟩ := ckF_eq h
      rw [← hplen] at h
      have hnbl : d.nb.length ≤ maxNew ∨ True := .inr trivial
      have hS1 : SRel ln1 (wantJ (putT s'.tm o.dst d'.v) ops) { s with tm := putT tmK o.dst d.v, h := putN (putU s.h d.up) k d.nb } { s' with tm := putT s'.tm o.dst d'.v, h := putN (putU s'.h d'.up) k d'.nb } := by
        refine hS.step hops hn hI (x := d.v) hD.old hD.h (fun t v ht => ?_) (fun v hv => ?_)
        · rw [putT_get] at ht
          by_cases hd : o.dst = some t
          · rw [if_pos hd] at ht; exact .inl ⟨hd, ht⟩
          · rw [if_neg hd] at ht; exact .inr ⟨hd, htK t v ht⟩
        · rcases hD.v with ⟨h2, _⟩ | ⟨u, w, h2, h3, h4⟩
          · rw [h2] at hv; cases hv
          · rw [h2] at hv; cases hv
            exact ⟨w, h3, .val h4⟩
      have hvgd : ∀ j w g v, d.v ≠ some (.gd j w g v) := fun j w g v hv => by
        rcases hD.v with ⟨h2, _⟩ | ⟨u, w', h2, h3, h4⟩
        · rw [h2] at hv; cases hv
        · rw [h2] at hv; cases hv; cases h4
      have hI1 : INV (pre ++ [o]) { s with tm := putT tmK o.dst d.v, h := putN (putU s.h d.up) k d.nb } := fun t j w g v ht => by
        change putT tmK o.dst d.v t = _ at ht
        rw [putT_get] at ht
        by_cases hd : o.dst = some t
        · rw [if_pos hd] at ht; exact absurd ht (hvgd _ _ _ _)
        · rw [if_neg hd] at ht
          rcases htK t _ ht with h2 | ⟨b, h2, _⟩
          · obtain ⟨h3, o', h4, h5⟩ := hI t j w g v h2
            exact ⟨by rw [hplen]; omega, o', by simp [h4], h5⟩
          · cases h2
      have hnb8 : d.nb.length ≤ 8 := hD.nb8
      have hf1 : FreeB ln1 (k + maxNew) (putN (putU s.h d.up) k d.nb) (putN (putU s'.h d'.up) k d'.nb) :=
        ⟨fun b hb => hD.new b (by unfold maxNew at hb; omega), fun b hb => hD.fK b (by unfold maxNew at hb; omega), fun b hb => hD.fV b (by unfold maxNew at hb; omega)⟩
      have hL1 : LR (set lg pre.length (some (kRd E s.h (kO s.tm cur) o.op, keysU d.up ++ rngL k d.nb.length))) (set lg' pre.length (some (rdV s'.h E s'.tm o.op, keysU d'.up ++ rngL k d'.nb.length))) :=
        hL.set (fun x hx => by rw [hrd] at hx; exact hx) (fun x hx => by
          simp only [List.mem_append] at hx ⊢
          rw [← hD.nbl] at hx
          exact hx.imp (hD.keys x) (fun h => h))
      obtain ⟨lgK, lgV, s1, s1', ln2, g1, g2, g3, g4, g5, g6, g7, g8, g9, g10, g11, g12, g13, g14⟩ := ops_R hG hm hn r (pre ++ [o]) hops2 (k + maxNew) _ _ _ { s' with tm := putT s'.tm o.dst d'.v, h := putN (putU s'.h d'.up) k d'.nb } ln1 κ res h hS1 hI1 hf1 hL1
      refine ⟨lgK, lgV, s1, s1', ln2, ?_, g2, g3, g4, g5, g6, g7, fun b p hb => g8 b p (hD.old b p hb), fun t ht => ?_, fun hmt => ?_, by unfold maxNew at g11; omega, g12, g13, fun b hb => by rw [g14 b (by omega), hD.same b hb]⟩
      · unfold evOpsD
        rw [hw, bnd_intro rfl]
        simp only [cnd, if_true, h1, bnd]
        rw [grd_intro hlt']
        rw [hplen] at g1
        exact g1
      · rw [g9 t ht]
        show putT tmK o.dst d.v t = _
        rw [putT_get, if_neg (fun hd => ht (hdmem t hd)), htK2 t ht]
      · obtain ⟨a1, a2⟩ := g10 hmt
        have hstt := hstl hmt
        subst hstt
        obtain ⟨e1, e2⟩ := still_inv hst
        have e3 : d'.nb = [] := List.length_eq_zero_iff.1 (by rw [← hD.nbl, e1]; rfl)
        have e4 : d'.up = [] := keys_nil fun b hb => by have := hD.keys b hb; rw [e2] at this; exact this
        refine ⟨?_, ?_⟩
        · rw [a1]; show putN (putU s'.h d'.up) k d'.nb = _; rw [e3, e4]; rfl
        · rw [a2]; show putN (putU s.h d.up) k d.nb = _; rw [e1, e2]; rfl
    -- one that is not
    have skip : ∀ (tmK : Nat → Option V) (x : V) (a : List Nat × List Nat), want s'.tm ops o = some false →
        (∀ t v, tmK t = some v → s.tm t = some v ∨ ∃ b, v = .kb b ∧ s'.tm t = some (.lit (.bool b))) → (∀ t, t ∉ dsts ops → tmK t = s.tm t) →
        (x = .jnk ∨ ∃ j w v, x = .gd j w false v ∧ wantJ s'.tm ops j w = some false ∧ j < pre.length ∧ o.guard.isSome = true) →
        kOps E G id m ops r (pre.length + 1) (k + maxNew) (set lg pre.length (some a)) { s with tm := putT tmK o.dst (some x) } κ = some res →
        ∃ lgK lgV s1 s1' ln1, evOpsD E C ops (o :: r) pre.length k lg' s' = some (lgV, s1') ∧ LR lgK lgV ∧ SRel ln1 (wantJ s1'.tm ops) s1 s1' ∧ INV ops s1 ∧ FreeB ln1 s1'.nx s1.h s1'.h ∧ s1.nx = s1'.nx ∧ κ lgK s1 = some res ∧
          (∀ b p, ln b = some p → ln1 b = some p) ∧ (∀ t, t ∉ dsts ops → s1.tm t = s.tm t) ∧ (m = some true → s1'.h = s'.h ∧ s1.h = s.h) ∧ k ≤ s1'.nx ∧ s1.nt = s.nt ∧ s1.ni = s.ni ∧ (∀ b, b < k → ln1 b = ln b) := by
      intro tmK x a hw htK htK2 hx h
      rw [← hplen] at h
      have hS1 : SRel ln (wantJ (putT s'.tm o.dst (some (.tup []))) ops) { s with tm := putT tmK o.dst (some x) } { s' with tm := putT s'.tm o.dst (some (.tup [])) } := by
        refine hS.step hops hn hI (x := some x) (fun _ _ h => h) hS.h (fun t v ht => ?_) (fun v hv => ?_)
        · rw [putT_get] at ht
          by_cases hd : o.dst = some t
          · rw [if_pos hd] at ht; exact .inl ⟨hd, ht⟩
          · rw [if_neg hd] at ht; exact .inr ⟨hd, htK t v ht⟩
        · cases hv
          refine ⟨_, rfl, ?_⟩
          rcases hx with rfl | ⟨j, w, v, rfl, hj, hjl, _⟩
          · exact .jnk
          · exact .gd (by rw [wantJ_put hops hn hjl]; exact hj) (fun h => by cases h) (fun _ => rfl)
      have hI1 : INV (pre ++ [o]) { s with tm := putT tmK o.dst (some x) } := fun t j w g v ht => by
        change putT tmK o.dst (some x) t = _ at ht
        rw [putT_get] at ht
        by_cases hd : o.dst = some t
        · rw [if_pos hd] at ht
          cases ht
          rcases hx with hx | ⟨j', w', v', hx, hj, hjl, hgs⟩
          · cases hx
          · cases hx
            exact ⟨by rw [hplen]; omega, o, by simp, hgs, hd⟩
        · rw [if_neg hd] at ht
          rcases htK t _ ht with h2 | ⟨b, h2, _⟩
          · obtain ⟨h3, o', h4, h5⟩ := hI t j w g v h2
            exact ⟨by rw [hplen]; omega, o', by simp [h4], h5⟩
          · cases h2
      have hf1 : FreeB ln (k + maxNew) s.h s'.h := ⟨fun b hb => hf.l b (by omega), fun b hb => hf.K b (by omega), fun b hb => hf.V b (by omega)⟩
      have hL1 : LR (set lg pre.length (some a)) (set lg' pre.length (some ([], []))) := hL.set (fun x hx => by cases hx) (fun x hx => by cases hx)
      obtain ⟨lgK, lgV, s1, s1', ln2, g1, g2, g3, g4, g5, g6, g7, g8, g9, g10, g11, g12, g13, g14⟩ := ops_R hG hm hn r (pre ++ [o]) hops2 (k + maxNew) _ _ _ { s' with tm := putT s'.tm o.dst (some (.tup [])) } ln κ res h hS1 hI1 hf1 hL1
      refine ⟨lgK, lgV, s1, s1', ln2, ?_, g2, g3, g4, g5, g6, g7, g8, fun t ht => ?_, g10, by omega, g12, g13, fun b hb => g14 b (by omega)⟩
      · unfold evOpsD
        rw [hw, bnd_intro rfl]
        simp only [cnd, Bool.false_eq_true, if_false]
        rw [grd_intro hlt']
        rw [hplen] at g1
        exact g1
      · rw [g9 t ht]
        show putT tmK o.dst (some x) t = _
        rw [putT_get, if_neg (fun hd => ht (hdmem t hd)), htK2 t ht]
    cases hg : o.guard with
    | none =>
      rw [hg] at h
      simp only at h
      refine exec none m hm (.inl rfl) s.tm (match m with | none => false | some _ => true) (fun e => by subst e; rfl) trivial (want_none hg) (fun t v h => .inl h) (fun _ _ => rfl) ?_
      rcases hm with rfl | rfl
      · exact h
      · exact h
    | some jw =>
      obtain ⟨j, w⟩ := jw
      rw [hg] at h
      simp only at h
      obtain ⟨hj, h⟩ := ckF_eq h
      have hj := blt_nat hj
      have hwj := want_J (tm := s'.tm) (ops := ops) hg
      split at h
      · rename_i b hb
        have hkb := kbOf_R (w := w) hS hb
        split at h
        · rename_i hbw
          have hbw := beqB_eq hbw
          subst hbw
          have ht : wantJ s'.tm ops j b = some true := by rw [hkb]; cases b <;> rfl
          refine exec (some (j, b)) m hm (.inl rfl) s.tm (match m with | none => false | some _ => true) (fun e => by subst e; rfl) ht (hwj.trans ht) (fun t v h => .inl h) (fun _ _ => rfl) ?_
          rcases hm with rfl | rfl
          · exact h
          · exact h
        · rename_i hbw
          have ht : wantJ s'.tm ops j w = some false := by
            rw [hkb]
            cases b <;> cases w <;> first | rfl | cases hbw
          exact skip s.tm .jnk ([], []) (hwj.trans ht) (fun t v h => .inl h) (fun _ _ => rfl) (.inl rfl) h
      · split at h
        · rename_i hmm
          have hm0 : m = none := by
            rcases hm with rfl | rfl
            · rfl
            · cases hmm
          subst hm0
          obtain ⟨b, hb, h⟩ := bndF_eq h
          obtain ⟨t0, ht0, htb⟩ := gLit_R hS hb
          have hwt : wantJ s'.tm ops j w = some (b == w) := by
            unfold wantJ
            rw [ht0, bnd_intro rfl, htb, bnd_intro rfl]; rfl
          by_cases hbw : b = w
          · subst hbw
            have ht : wantJ s'.tm ops j b = some true := by rw [hwt]; cases b <;> rfl
            have h' : (kEx E G (id * 1000 + pre.length) ops none (some (j, b)) s k o.op fun d => kOps E G id none ops r (pre.length + 1) (k + maxNew) (set lg pre.length (some (kRd E s.h (kO s.tm (some (j, b))) o.op, keysU d.up ++ rngL k d.nb.length))) { s with tm := putT (putT s.tm (gdst ops j) (some (.kb b))) o.dst d.v, h := putN (putU s.h d.up) k d.nb } κ) = some res := by
              cases b <;> exact h
            refine exec (some (j, b)) none (.inl rfl) (.inr ⟨rfl, rfl⟩) (putT s.tm (gdst ops j) (some (.kb b))) false (fun e => by cases e) ht (hwj.trans ht) (fun t v hv => ?_) (fun t ht2 => ?_) h'
            · rw [putT_get, ht0] at hv
              by_cases e : t0 = t
              · subst e
                rw [if_pos rfl] at hv
                cases hv
                exact .inr ⟨b, rfl, htb⟩
              · rw [if_neg (fun e2 => e (Option.some.inj e2))] at hv
                exact .inl hv
            · rw [putT_get, if_neg (fun e => ht2 (hgmem j t e))]
          · have ht : wantJ s'.tm ops j w = some false := by
              rw [hwt]
              cases b <;> cases w <;> first | rfl | exact absurd rfl hbw
            have h' : kOps E G id none ops r (pre.length + 1) (k + maxNew) (set lg pre.length (some ([], []))) { s with tm := putT (putT s.tm (gdst ops j) (some (.kb (notB w)))) o.dst (some .jnk) } κ = some res := by
              cases b <;> cases w <;> first | exact absurd rfl hbw | exact h
            refine skip (putT s.tm (gdst ops j) (some (.kb (notB w)))) .jnk ([], []) (hwj.trans ht) (fun t v hv => ?_) (fun t ht2 => ?_) (.inl rfl) h'
            · rw [putT_get, ht0] at hv
              by_cases e : t0 = t
              · subst e
                rw [if_pos rfl] at hv
                cases hv
                refine .inr ⟨_, rfl, ?_⟩
                rw [htb]
                cases b <;> cases w <;> first | rfl | exact absurd rfl hbw
              · rw [if_neg (fun e2 => e (Option.some.inj e2))] at hv
                exact .inl hv
            · rw [putT_get, if_neg (fun e => ht2 (hgmem j t e))]
        · obtain ⟨g, hgv, h⟩ := bndF_eq h
          have hwt := gval_R hS hgv
          cases g with
          | false =>
            have hsk : ∃ d, ckF (id * 1000 + pre.length) (still d) (bndF (id * 1000 + pre.length) d.v fun v => kOps E G id m ops r (pre.length + 1) (k + maxNew) (set lg pre.length (some (kRd E s.h (kO s.tm (some (j, w))) o.op, []))) { s with tm := putT s.tm o.dst (some (.gd j w false v)) } κ) = some res := by
              rcases hm with rfl | rfl
              · exact kEx_skip h
              · exact kEx_skip h
            obtain ⟨d, h⟩ := hsk
            obtain ⟨_, h⟩ := ckF_eq h
            obtain ⟨v, _, h⟩ := bndF_eq h
            exact skip s.tm (.gd j w false v) _ (hwj.trans hwt) (fun t v h => .inl h) (fun _ _ => rfl) (.inr ⟨j, w, v, rfl, hwt, hj, by rw [hg]; rfl⟩) h
          | true =>
            have hm2 : mOK (andM m true) := by rcases hm with rfl | rfl <;> exact .inr rfl
            have hrd := rd_R hS (cur := some (j, w)) hwt h
            obtain ⟨d, d', ln1, h1, hD, h⟩ := kEx_R hG hm2 hS (cur := some (j, w)) hwt hf h
            obtain ⟨hst, h⟩ := ckF_eq h
            obtain ⟨v, hv, h⟩ := bndF_eq h
            obtain ⟨e1, e2⟩ := still_inv hst
            have e3 : d'.nb = [] := List.length_eq_zero_iff.1 (by rw [← hD.nbl, e1]; rfl)
            have e4 : d'.up = [] := keys_nil fun b hb => by have := hD.keys b hb; rw [e2] at this; exact this
            rw [← hplen] at h
            have hDh := hD.h
            have hDK := hD.fK
            have hDV := hD.fV
            rw [e1, e2, e3, e4] at hDh
            rw [e1, e2] at hDK
            rw [e1, e3, e4] at hDV
            have hnw := hD.new
            rw [e1] at hnw
            have hS1 : SRel ln1 (wantJ (putT s'.tm o.dst d'.v) ops) { s with tm := putT s.tm o.dst (some (.gd j w true v)) } { s' with tm := putT s'.tm o.dst d'.v } := by
              refine hS.step hops hn hI (x := some (.gd j w true v)) hD.old hDh (fun t u ht => ?_) (fun u hu => ?_)
              · rw [putT_get] at ht
                by_cases hd : o.dst = some t
                · rw [if_pos hd] at ht; exact .inl ⟨hd, ht⟩
                · rw [if_neg hd] at ht; exact .inr ⟨hd, .inl ht⟩
              · cases hu
                rcases hD.v with ⟨h2, _⟩ | ⟨u, w', h2, h3, h4⟩
                · rw [h2] at hv; cases hv
                · rw [h2] at hv; cases hv
                  exact ⟨w', h3, .gd (by rw [wantJ_put hops hn hj]; exact hwt) (fun _ => h4) (fun h => by cases h)⟩
            have hI1 : INV (pre ++ [o]) { s with tm := putT s.tm o.dst (some (.gd j w true v)) } := fun t j2 w2 g2 v2 ht => by
              change putT s.tm o.dst _ t = _ at ht
              rw [putT_get] at ht
              by_cases hd : o.dst = some t
              · rw [if_pos hd] at ht
                cases ht
                exact ⟨by rw [hplen]; omega, o, by simp, by rw [hg]; rfl, hd⟩
              · rw [if_neg hd] at ht
                obtain ⟨h3, o', h4, h5⟩ := hI t _ _ _ _ ht
                exact ⟨by rw [hplen]; omega, o', by simp [h4], h5⟩
            have hf1 : FreeB ln1 (k + maxNew) s.h s'.h := ⟨fun b hb => hnw b (by simp only [List.length_nil]; omega), fun b hb => hf.K b (by omega), fun b hb => hf.V b (by omega)⟩
            have hL1 : LR (set lg pre.length (some (kRd E s.h (kO s.tm (some (j, w))) o.op, []))) (set lg' pre.length (some (rdV s'.h E s'.tm o.op, keysU d'.up ++ rngL k d'.nb.length))) :=
              hL.set (fun x hx => by rw [hrd] at hx; exact hx) (fun x hx => by rw [e3, e4] at hx; exact hx)
            obtain ⟨lgK, lgV, s1, s1', ln2, g1, g2, g3, g4, g5, g6, g7, g8, g9, g10, g11, g12, g13, g14⟩ := ops_R hG hm hn r (pre ++ [o]) hops2 (k + maxNew) _ _ _ { s' with tm := putT s'.tm o.dst d'.v } ln1 κ res h hS1 hI1 hf1 hL1
            refine ⟨lgK, lgV, s1, s1', ln2, ?_, g2, g3, g4, g5, g6, g7, fun b p hb => g8 b p (hD.old b p hb), fun t ht => ?_, g10, by omega, g12, g13, fun b hb => by rw [g14 b (by omega), hD.same b hb]⟩
            · unfold evOpsD
              rw [hwj.trans hwt, bnd_intro rfl]
              simp only [cnd, if_true, h1, bnd]
              rw [grd_intro hlt']
              rw [hplen, e3, e4] at g1
              rw [e3, e4]
              exact g1
            · rw [g9 t ht]
              show putT s.tm o.dst _ t = _
              rw [putT_get, if_neg (fun hd => ht (hdmem t hd))]
end
end Go.Ev
end

section
set_option linter.unusedVariables false
set_option linter.unusedSimpArgs false
set_option linter.unnecessarySimpa false
namespace Go.Ev
open Go

section
variable {ln ln' : Nat → Option (Nat × Nat)} {E : Env} {C : CallF} {G : GT}

def wn : Nat → Bool → Option Bool := fun _ _ => none
structure SC (ln : Nat → Option (Nat × Nat)) (s s' : St) : Prop where
  r : SRel ln wn s s'
  f : FreeB ln s'.nx s.h s'.h
  nx : s.nx = s'.nx
  le : s'.ni ≤ s'.nx
theorem endR_none {r : List Oper} {o : Oper} {tm : Nat → Option V} (h : o.guard = none) : endR (o :: r) tm = endR r tm := by
  rw [endR.eq_2, h]
theorem endR_nodst {r : List Oper} {o : Oper} {tm : Nat → Option V} {g : Nat × Bool} (h : o.guard = some g) (hd : o.dst = none) : endR (o :: r) tm = endR r tm := by
  rw [endR.eq_2, h, hd]
theorem endR_set {r : List Oper} {o : Oper} {tm : Nat → Option V} {g : Nat × Bool} {t : Nat} {v : V} (h : o.guard = some g) (hd : o.dst = some t) (hv : tm t = some v) : endR (o :: r) tm = endR r (set tm t (some .jnk)) := by
  rw [endR.eq_2, h, hd]
  simp only [hv]
theorem endR_not {r : List Oper} {o : Oper} {tm : Nat → Option V} {g : Nat × Bool} {t : Nat} (h : o.guard = some g) (hd : o.dst = some t) (hv : tm t = none) : endR (o :: r) tm = endR r tm := by
  rw [endR.eq_2, h, hd]
  simp only [hv]
theorem endR_get : ∀ {r : List Oper} {tm : Nat → Option V} {t : Nat}, (endR r tm t = some .jnk ∧ t ∈ dsts r ∧ ∃ v, tm t = some v) ∨ (endR r tm t = tm t ∧ ((∀ o ∈ r, o.guard.isSome = true → o.dst ≠ some t) ∨ tm t = none))
  | [], tm, t => .inr ⟨rfl, .inl fun o ho => by cases ho⟩
  | o :: r, tm, t => by
    have mem : ∀ {t}, t ∈ dsts r → t ∈ dsts (o :: r) := fun h => by
      unfold dsts; split
      · exact List.mem_cons_of_mem _ h
      · exact h
    have keep : endR (o :: r) tm = endR r tm → (o.guard.isSome = true → o.dst = some t → tm t = none) → (endR (o :: r) tm t = some .jnk ∧ t ∈ dsts (o :: r) ∧ ∃ v, tm t = some v) ∨ (endR (o :: r) tm t = tm t ∧ ((∀ o' ∈ o :: r, o'.guard.isSome = true → o'.dst ≠ some t) ∨ tm t = none)) := fun e hk => by
      rw [e]
      rcases endR_get (r := r) (tm := tm) (t := t) with ⟨h1, h2, h3⟩ | ⟨h1, h2⟩
      · exact .inl ⟨h1, mem h2, h3⟩
      · refine .inr ⟨h1, ?_⟩
        rcases h2 with h2 | h2
        · by_cases hq : o.guard.isSome = true ∧ o.dst = some t
          · exact .inr (hk hq.1 hq.2)
          · refine .inl fun o' ho' => ?_
            rcases List.mem_cons.1 ho' with rfl | ho'
            · intro ha hb; exact hq ⟨ha, hb⟩
            · exact h2 o' ho'
        · exact .inr h2
    cases hg : o.guard with
    | none => exact keep (endR_none hg) (fun h => by rw [hg] at h; cases h)
    | some jw =>
      cases hd : o.dst with
      | none => exact keep (endR_nodst hg hd) (fun _ h => by rw [hd] at h; cases h)
      | some d =>
        cases hv : tm d with
        | none => exact keep (endR_not hg hd hv) (fun _ h => by rw [hd] at h; cases h; exact hv)
        | some v =>
          rw [endR_set hg hd hv]
          rcases endR_get (r := r) (tm := set tm d (some .jnk)) (t := t) with ⟨h1, h2, h3⟩ | ⟨h1, h2⟩
          · refine .inl ⟨h1, mem h2, ?_⟩
            by_cases ht : t = d
            · subst ht; exact ⟨v, hv⟩
            · rw [set_ne ht] at h3; exact h3
          · by_cases ht : t = d
            · subst ht
              rw [set_same] at h1
              exact .inl ⟨h1, by unfold dsts; rw [hd]; simp, v, hv⟩
            · rw [set_ne ht] at h1 h2
              refine .inr ⟨h1, ?_⟩
              rcases h2 with h2 | h2
              · refine .inl fun o' ho' => ?_
                rcases List.mem_cons.1 ho' with rfl | ho'
                · intro _ hb; rw [hd] at hb; cases hb; exact ht rfl
                · exact h2 o' ho'
              · exact .inr h2
theorem evOps_of_D {ops : List Oper} : ∀ {r : List Oper} {i k : Nat} {lg lg1 : Log} {s s1 : St}, evOpsD E C ops r i k lg s = some (lg1, s1) → evOps E C ops r k s = some s1
  | [], i, k, lg, lg1, s, s1, h => by cases h; rfl
  | o :: r, i, k, lg, lg1, s, s1, h => by
    unfold evOpsD at h
    unfold evOps
    obtain ⟨w, hw, h⟩ := bnd_eq h
    rw [hw, bnd_intro rfl]
    rcases cnd_eq h with ⟨rfl, h⟩ | ⟨rfl, h⟩
    · obtain ⟨d, hd, h⟩ := bnd_eq h
      obtain ⟨hl, h⟩ := grd_eq h
      simp only [cnd, if_true, hd, bnd]
      rw [grd_intro hl]
      exact evOps_of_D h
    · obtain ⟨hl, h⟩ := grd_eq h
      simp only [cnd, Bool.false_eq_true, if_false]
      rw [grd_intro hl]
      exact evOps_of_D h
theorem region_R {S : Type} (hG : GOK C G) {id : Nat} {m : Option Bool} (hm : mOK m) {ops : List Oper} (hn : (dsts ops).Nodup) {s s' : St} {κ : Log → St → Option S} {res : S} (h : kOps E G id m ops ops 0 s.nx (fun _ => none) s κ = some res) (hS : SC ln s s') :
    ∃ lgK lgV s1 s1' ln1, evOpsD E C ops ops 0 s'.nx (fun _ => none) s' = some (lgV, s1') ∧ LR lgK lgV ∧ κ lgK s1 = some res ∧ SC ln1 { s1 with tm := endR ops s1.tm } s1' ∧ (∀ t, t ∉ dsts ops → endR ops s1.tm t = s.tm t) ∧ (m = some true → s1'.h = s'.h ∧ s1.h = s.h) ∧ s1.nt = s.nt ∧ s1.ni = s.ni ∧ ∀ b, b < s'.ni → ln1 b = ln b := by
  have hng : ∀ t j w g v, s.tm t ≠ some (.gd j w g v) := fun t j w g v ht => by
    obtain ⟨u, hu, hr⟩ := hS.r.tm t _ ht
    cases hr with
    | val h => cases h
    | gd hw => cases hw
  have hS1 : SRel ln (wantJ s'.tm ops) s s' := ⟨fun t v ht => by
    obtain ⟨u, hu, hr⟩ := hS.r.tm t v ht
    exact ⟨u, hu, hr.mono (fun _ _ h => h) fun j w0 g q hv hw => by cases hw⟩, hS.r.h, hS.r.nt, hS.r.ni⟩
  obtain ⟨lgK, lgV, s1, s1', ln1, g1, g2, g3, g4, g5, g6, g7, g8, g9, g10, g11, g12, g13, g14⟩ := ops_R hG hm hn ops [] rfl s.nx (fun _ => none) (fun _ => none) s s' ln κ res h hS1 (fun t j w g v ht => absurd ht (hng t j w g v)) (by rw [hS.nx]; exact hS.f) (fun i => .inl ⟨rfl, rfl⟩)
  refine ⟨lgK, lgV, s1, s1', ln1, by rw [← hS.nx]; exact g1, g2, g7, ⟨⟨fun t v ht => ?_, g3.h, g3.nt, g3.ni⟩, g5, g6, by have := hS.le; have := hS.r.ni; have := g3.ni; have := hS.nx; omega⟩, fun t ht => ?_, g10, g12, g13, fun b hb => g14 b (by have := hS.le; have := hS.nx; omega)⟩
  · change endR ops s1.tm t = _ at ht
    rcases endR_get (r := ops) (tm := s1.tm) (t := t) with ⟨h1, h2, u, hu⟩ | ⟨h1, h2⟩
    · rw [h1] at ht
      cases ht
      obtain ⟨w, hw, _⟩ := g3.tm t u hu
      exact ⟨w, hw, .jnk⟩
    · rw [h1] at ht
      obtain ⟨w, hw, hr⟩ := g3.tm t v ht
      refine ⟨w, hw, ?_⟩
      cases hr with
      | val h => exact .val h
      | jnk => exact .jnk
      | gd =>
        obtain ⟨_, o, ho, hgs, hd⟩ := g4 t _ _ _ _ ht
        rcases h2 with h2 | h2
        · exact absurd hd (h2 o ho hgs)
        · rw [h2] at ht; cases ht
  · rcases endR_get (r := ops) (tm := s1.tm) (t := t) with ⟨h1, h2, _⟩ | ⟨h1, h2⟩
    · exact absurd h2 ht
    · rw [h1, g9 t ht]
end
end Go.Ev
end

section
set_option linter.unusedVariables false
set_option linter.unusedSimpArgs false
set_option linter.unnecessarySimpa false
namespace Go.Ev
open Go

section
variable {ln ln' : Nat → Option (Nat × Nat)} {E : Env} {C : CallF} {G : GT}

/-! ### What is carried on -/
theorem reach_pre {h : Nat → Option Blk} : ∀ (n : Nat) (l seen : List Nat), ∃ r, reach h n l seen = seen ++ r
  | 0, l, seen => ⟨[], by cases l <;> simp [reach]⟩
  | n + 1, [], seen => ⟨[], by simp [reach]⟩
  | n + 1, b :: r, seen => by
    unfold reach
    cases mem b seen with
    | true => exact reach_pre n r seen
    | false =>
      obtain ⟨q, hq⟩ := reach_pre (h := h) n (idsB h b ++ r) (snoc seen b)
      exact ⟨b :: q, by rw [cond_false, hq]; simp [snoc]⟩
theorem idsI_R {hK hV : Nat → Option Blk} (hh : HR ln hK hV) : ∀ l : List Nat, idsI hK l = idsI hV l
  | [] => rfl
  | b :: r => by unfold idsI; rw [idsB_R hh b, idsI_R hh r]
theorem tms_R {s s' : St} (hS : SRel ln wn s s') {f : Nat → Option Nat} (hf : ∀ b c p, f b = some c → ln b = some p → ln' c = some p) : ∀ {l : List Nat} {vs : List V} {ts : List (Nat × V)}, tmsS s.tm l = some vs → renT f s.tm l = some ts →
    RL ln vs (tms s'.tm l) ∧ ∃ ts', renT f s'.tm l = some ts' ∧ ∀ t v, ofT ts t = some v → ∃ w, ofT ts' t = some w ∧ R ln' v w
  | [], vs, ts, h, hr => by cases h; cases hr; exact ⟨.nil, [], rfl, fun t v h => by cases h⟩
  | t :: r, vs, ts, h, hr => by
    unfold tmsS at h
    obtain ⟨v, hv, h⟩ := bnd_eq h
    obtain ⟨q, hq, h⟩ := bnd_eq h
    cases h
    unfold renT at hr
    rw [hv] at hr
    simp only at hr
    obtain ⟨v1, hv1, hr⟩ := bnd_eq hr
    obtain ⟨l1, hl1, hr⟩ := bnd_eq hr
    cases hr
    obtain ⟨w, hw, hrt⟩ := hS.tm t v hv
    have hrv : R ln v w := by
      cases hrt with
      | val h => exact h
      | jnk => cases hv1
      | gd => cases hv1
    obtain ⟨w1, hw1, hrw⟩ := hrv.ren hf v1 hv1
    obtain ⟨g1, ts', g2, g3⟩ := tms_R hS hf hq hl1
    refine ⟨?_, (t, w1) :: ts', ?_, fun u x hx => ?_⟩
    · unfold tms; rw [hw]; exact Rows.cons hrv g1
    · unfold renT; rw [hw]; simp only [hw1, bnd, g2]
    · unfold ofT at hx ⊢
      by_cases hu : u = t
      · subst hu
        rw [set_same] at hx ⊢
        cases hx
        exact ⟨w1, rfl, hrw⟩
      · rw [set_ne hu] at hx ⊢
        exact g3 u x hx
theorem nrmT_R {l : List Nat} {s s1 s' : St} (h : kNrmT l s = some s1) (hS : SC ln s s') : ∃ s1' ln1, nrmT l s' = some s1' ∧ SC ln1 s1 s1' ∧ (∀ b, b < s'.ni → ln1 b = ln b) ∧ s1'.ni = s'.ni := by
  obtain ⟨vs, hvs, h⟩ := bnd_eq h
  obtain ⟨hnd, h⟩ := ck_eq h
  obtain ⟨ts, hts, h⟩ := bnd_eq h
  obtain ⟨hs, hhs, h⟩ := bnd_eq h
  cases h
  have hh := hS.r.h
  generalize hq : reach s.h 100 (idsI s.h (rngL 0 s.ni) ++ V.ids.L vs) (rngL 0 s.ni) = q at *
  let ln1 : Nat → Option (Nat × Nat) := fun i => (q[i]?).bind ln
  have hren : ∀ b c p, idx b q 0 = some c → ln b = some p → ln1 c = some p := fun b c p hc hp => by
    have := (idx_spec q b 0 c hc).2
    rw [Nat.sub_zero] at this
    show (q[c]?).bind ln = _
    rw [this]; exact hp
  obtain ⟨h1, ts', h2, h3⟩ := tms_R hS.r hren hvs hts
  have hq' : reach s'.h 100 (idsI s'.h (rngL 0 s'.ni) ++ V.ids.L (tms s'.tm l)) (rngL 0 s'.ni) = q := by
    rw [← hq, ← hS.r.ni, ← idsI_R hh, ← h1.ids, reach_R hh]
  obtain ⟨hs', h4, h5, h6, h7⟩ := renBs_R hren hh (a := 0) (l := q) (fun i b hb p hp => by
    rw [Nat.zero_add]
    show (q[i]?).bind ln = _
    rw [hb]; exact hp) hhs
  have htk : q.take s'.ni = rngL 0 s'.ni := by
    obtain ⟨r, hr⟩ := reach_pre (h := s'.h) 100 (idsI s'.h (rngL 0 s'.ni) ++ V.ids.L (tms s'.tm l)) (rngL 0 s'.ni)
    rw [hq'] at hr
    rw [hr, List.take_append_of_le_length (by rw [rngL_length]; omega), List.take_of_length_le (by rw [rngL_length]; omega)]
  refine ⟨{ tm := ofT ts', h := ofL hs', nx := hs'.length, nt := s'.nt, ni := s'.ni }, ln1, ?_, ⟨⟨fun t v ht => ?_, fun b => ?_, hS.r.nt, hS.r.ni⟩, ⟨fun b hb => ?_, fun b hb => ?_, fun b hb => ?_⟩, ?_, ?_⟩, fun b hb => ?_, rfl⟩
  · unfold nrmT
    rw [hq', bnd_intro rfl, h2, bnd_intro rfl, h4, bnd_intro rfl]
    exact grd_intro ⟨hnd, htk⟩
  · obtain ⟨w, hw, hr⟩ := h3 t v ht
    exact ⟨w, hw, .val hr⟩
  · show OB ln1 b (ofL hs b) (ofL hs' b)
    by_cases hb : b < hs.length
    · have hb' : b < hs'.length := by rw [h6, ← h5]; exact hb
      have := h7 b _ _ (List.getElem?_eq_getElem hb) (List.getElem?_eq_getElem hb')
      rw [Nat.zero_add] at this
      unfold ofL
      rw [List.getElem?_eq_getElem hb, List.getElem?_eq_getElem hb']
      exact this
    · unfold ofL
      rw [List.getElem?_eq_none (by omega), List.getElem?_eq_none (by rw [h6, ← h5]; omega)]
      exact .none
  · show (q[b]?).bind ln = none
    have hb : hs'.length ≤ b := hb
    rw [List.getElem?_eq_none (by rw [← h6]; exact hb)]; rfl
  · have hb : hs'.length ≤ b := hb
    show ofL hs b = none
    unfold ofL
    rw [List.getElem?_eq_none (by rw [h5, ← h6]; exact hb)]; rfl
  · have hb : hs'.length ≤ b := hb
    show ofL hs' b = none
    unfold ofL
    rw [List.getElem?_eq_none hb]; rfl
  · show hs.length = hs'.length
    rw [h5, h6]
  · show s'.ni ≤ hs'.length
    rw [h6]
    have := congrArg List.length htk
    rw [rngL_length, List.length_take] at this
    omega
  · show (q[b]?).bind ln = ln b
    have : q[b]? = some b := by
      have h8 : (q.take s'.ni)[b]? = some b := by rw [htk, rngL_get s'.ni 0 b hb]; simp
      rw [List.getElem?_take, if_pos hb] at h8
      exact h8
    rw [this]; rfl
/-- A block goes on under a new number. -/
theorem mvB_R {s s1 s' : St} {b : Nat} (h : mvB s b = some s1) (hS : SC ln s s') : ∃ x y, s.h b = some x ∧ s'.h b = some y ∧ s1 = { s with h := set (set s.h b none) s.nx (some x), nx := s.nx + 1 } ∧ mvB s' b = some { s' with h := set (set s'.h b none) s'.nx (some y), nx := s'.nx + 1 } ∧
    ∀ p, ln b = some p → ∃ ln1, (∀ c q, ln c = some q → ln1 c = some q) ∧ (∀ c, c < s'.nx → ln1 c = ln c) ∧ ln1 s.nx = some p ∧ HR ln1 (set (set s.h b none) s.nx (some x)) (set (set s'.h b none) s'.nx (some y)) ∧ FreeB ln1 (s'.nx + 1) (set (set s.h b none) s.nx (some x)) (set (set s'.h b none) s'.nx (some y)) := by
  have hnx := hS.nx
  unfold mvB at h ⊢
  rw [← hS.r.ni]
  split at h
  · split at h
    · rename_i x hx
      split at h
      · rename_i hbox
        cases h
        have hob := hS.r.h b
        rw [hx] at hob
        cases hy : s'.h b with
        | none => rw [hy] at hob; cases hob
        | some y =>
          rw [hy] at hob
          have hyb : y.box = false := by
            cases hob with
            | box => cases hbox
            | arr => rfl
          refine ⟨x, y, hx, by first | exact hy | rfl, rfl, by simp only [hyb], fun p hp => ⟨lnS ln s.nx p, lnS_old (hS.f.l _ (by omega)), fun c hc => by unfold lnS; rw [if_neg (by omega)], by simp [lnS], fun c => ?_, ⟨fun c hc => ?_, fun c hc => ?_, fun c hc => ?_⟩⟩⟩
          · rw [hnx]
            by_cases hc : c = s'.nx
            · subst hc
              rw [set_same, set_same]
              cases hob with
              | box => cases hbox
              | arr hl hf hfl h =>
                rw [hp] at hl
                cases hl
                exact .arr (by simp [lnS]) hf hfl h
            · rw [set_ne hc, set_ne hc]
              by_cases hcb : c = b
              · subst hcb; rw [set_same, set_same]; exact .none
              · rw [set_ne hcb, set_ne hcb]
                exact (hS.r.h c).mono (lnS_old (hS.f.l _ (Nat.le_refl _)))
          · unfold lnS
            rw [if_neg (by omega)]; exact hS.f.l c (by omega)
          · rw [set_ne (by omega)]
            by_cases hcb : c = b
            · subst hcb; exact set_same _ _ _
            · rw [set_ne hcb]; exact hS.f.K c (by omega)
          · rw [set_ne (by omega)]
            by_cases hcb : c = b
            · subst hcb; exact set_same _ _ _
            · rw [set_ne hcb]; exact hS.f.V c (by omega)
      · cases h
    · cases h
  · cases h
theorem mvB_off {s : St} {b : Nat} (h : Nat.blt b s.ni = false) : mvB s b = none := by
  unfold mvB; rw [h]
theorem SC.put {s s' : St} (hS : SC ln s s') {ln1 : Nat → Option (Nat × Nat)} (hle : ∀ c q, ln c = some q → ln1 c = some q) {h1 h1' : Nat → Option Blk} (hH : HR ln1 h1 h1') (hf : FreeB ln1 (s'.nx + 1) h1 h1') {t : Nat} {v w : V} (hv : R ln1 v w) :
    SC ln1 { s with tm := set s.tm t (some v), h := h1, nx := s.nx + 1 } { s' with tm := set s'.tm t (some w), h := h1', nx := s'.nx + 1 } := by
  refine ⟨⟨fun u x hx => ?_, hH, hS.r.nt, hS.r.ni⟩, hf, by show s.nx + 1 = s'.nx + 1; rw [hS.nx], by show s'.ni ≤ s'.nx + 1; have := hS.le; omega⟩
  change set s.tm t (some v) u = _ at hx
  show ∃ w', set s'.tm t (some w) u = some w' ∧ _
  by_cases hu : u = t
  · subst hu
    rw [set_same] at hx ⊢
    cases hx
    exact ⟨w, rfl, .val hv⟩
  · rw [set_ne hu] at hx ⊢
    obtain ⟨w', h1, h2⟩ := hS.r.tm u x hx
    exact ⟨w', h1, h2.mono hle fun _ _ _ _ _ h => h⟩
theorem newArr_free {s s' : St} (hS : SC ln s s') {ty : Ty} {sz : Nat} (hs : ty.size = sz) : (∀ c q, ln c = some q → lnS ln s.nx (sz, 0) c = some q) ∧ (∀ c, c < s'.nx → lnS ln s.nx (sz, 0) c = ln c) ∧ HR (lnS ln s.nx (sz, 0)) (set s.h s.nx (some (mkArr ty []))) (set s'.h s'.nx (some ⟨false, true, sz, []⟩)) ∧ FreeB (lnS ln s.nx (sz, 0)) (s'.nx + 1) (set s.h s.nx (some (mkArr ty []))) (set s'.h s'.nx (some ⟨false, true, sz, []⟩)) := by
  have hnx := hS.nx
  have hold := lnS_old (ln := ln) (k := s.nx) (p := (sz, 0)) (hS.f.l _ (by omega))
  subst hs
  refine ⟨hold, fun c hc => by unfold lnS; rw [if_neg (by omega)], fun c => ?_, ⟨fun c hc => ?_, fun c hc => ?_, fun c hc => ?_⟩⟩
  · by_cases hc : c = s'.nx
    · subst hc
      rw [hnx, set_same, set_same]
      exact mkArr_OB (by simp [lnS]) (fun _ => rfl) .nil
    · rw [hnx, set_ne hc, set_ne hc]
      exact (hS.r.h c).mono (by rw [hnx] at hold; exact hold)
  · unfold lnS; rw [if_neg (by omega)]; exact hS.f.l c (by omega)
  · rw [set_ne (by omega)]; exact hS.f.K c (by omega)
  · rw [set_ne (by omega)]; exact hS.f.V c (by omega)
theorem ownN_R {P : Program} : ∀ {l : List (Nat × Nat)} {s s1 s' : St} {ln : Nat → Option (Nat × Nat)}, kOwnN P l s = some s1 → SC ln s s' → ∃ s1' ln1, ownN P l s' = some s1' ∧ SC ln1 s1 s1' ∧ (∀ b, b < s'.nx → ln1 b = ln b) ∧ s1'.ni = s'.ni
  | [], s, s1, s', ln, h, hS => by cases h; exact ⟨s', ln, rfl, hS, fun _ _ => rfl, rfl⟩
  | (t, 0) :: r, s, s1, s', ln, h, hS => ownN_R (l := r) h hS
  | (t, y + 1) :: r, s, s1, s', ln, h, hS => by
    unfold kOwnN at h
    simp only at h
    split at h
    · rename_i v hv
      obtain ⟨w, hw, hrt⟩ := hS.r.tm t v hv
      have hnx := hS.nx
      have rest : (∀ a b c d, v ≠ .gd a b c d) → v ≠ .jnk → (∀ t l, v ≠ .arr t l) → (∀ b, v = .own b → Nat.blt b s.ni = false) → (∀ b lo hi, v = .sub b lo hi → Nat.blt b s.ni = false) → v ≠ .lit (.slice none 0 0) → kOwnN P r s = some s1 → ∃ s1' ln1, ownN P ((t, y + 1) :: r) s' = some s1' ∧ SC ln1 s1 s1' ∧ (∀ b, b < s'.nx → ln1 b = ln b) ∧ s1'.ni = s'.ni := fun n1 n2 n3 n4 n5 n6 h => by
        obtain ⟨s1', ln1, h1, h2, h2b, h2c⟩ := ownN_R (l := r) h hS
        refine ⟨s1', ln1, ?_, h2, h2b, h2c⟩
        have hr : R ln v w := by
          cases hrt with
          | val h => exact h
          | jnk => exact absurd rfl n2
          | gd => exact absurd rfl (n1 _ _ _ _)
        unfold ownN
        simp only [hw]
        cases hr <;> first
          | exact h1
          | (split <;> first | exact h1 | (exfalso; simp_all; done))
          | (exact absurd rfl (n3 _ _))
          | (have hoff := mvB_off (s := s') (by rw [← hS.r.ni]; exact n4 _ rfl); simp only [hoff]; exact h1)
          | (have hoff := mvB_off (s := s') (by rw [← hS.r.ni]; exact n5 _ _ _ rfl); simp only [hoff]; exact h1)
      split at h
      · obtain ⟨e, he, h⟩ := bnd_eq h
        obtain ⟨ty, hty, h⟩ := bnd_eq h
        obtain ⟨hs, h⟩ := ck_eq h
        have hs := beq_nat hs
        cases hrt with
        | val hr =>
          cases hr
          obtain ⟨h1, h1b, h2, h3⟩ := newArr_free hS hs
          obtain ⟨s1', ln1, h4, h5, h5b, h5c⟩ := ownN_R (l := r) h (hS.put h1 h2 h3 (t := t) (v := .own s.nx) (w := .ref s'.nx (tsz P e) 0 0) (by rw [← hnx]; exact .own (by simp [lnS])))
          exact ⟨s1', ln1, by unfold ownN; simp only [hw, he, bnd]; exact h4, h5, fun b hb => by rw [h5b b (by show b < s'.nx + 1; omega), h1b b hb], h5c⟩
      · rename_i b
        split at h
        · obtain ⟨s2, hs2, h⟩ := bnd_eq h
          obtain ⟨x, z, hx, hz, rfl, hmv, hln⟩ := mvB_R hs2 hS
          cases hrt with
          | val hr =>
            cases hr with
            | own hb =>
              obtain ⟨ln1, h1, h1b, h2, h3, h4⟩ := hln _ hb
              obtain ⟨s1', ln2, h5, h6, h6b, h6c⟩ := ownN_R (l := r) h (hS.put h1 h3 h4 (t := t) (v := .own s.nx) (.own h2))
              exact ⟨s1', ln2, by unfold ownN; simp only [hw, hmv]; rw [← hnx]; rw [hnx] at h5 ⊢; exact h5, h6, fun b hb => by rw [h6b b (by show b < s'.nx + 1; omega), h1b b hb], h6c⟩
        · rename_i hb
          exact rest (fun _ _ _ _ h => by cases h) (fun h => by cases h) (fun _ _ h => by cases h) (fun b' h => by cases h; exact hb) (fun _ _ _ h => by cases h) (fun h => by cases h) h
      · rename_i b lo hi
        split at h
        · obtain ⟨s2, hs2, h⟩ := bnd_eq h
          obtain ⟨x, z, hx, hz, rfl, hmv, hln⟩ := mvB_R hs2 hS
          cases hrt with
          | val hr =>
            cases hr with
            | sub hb a1 a2 a3 =>
              obtain ⟨ln1, h1, h1b, h2, h3, h4⟩ := hln _ hb
              obtain ⟨s1', ln2, h5, h6, h6b, h6c⟩ := ownN_R (l := r) h (hS.put h1 h3 h4 (t := t) (v := .sub s.nx lo hi) (.sub h2 a1 a2 a3))
              exact ⟨s1', ln2, by unfold ownN; simp only [hw, hmv]; rw [hnx] at h5; exact h5, h6, fun b hb => by rw [h6b b (by show b < s'.nx + 1; omega), h1b b hb], h6c⟩
        · rename_i hb
          exact rest (fun _ _ _ _ h => by cases h) (fun h => by cases h) (fun _ _ h => by cases h) (fun b' h => by cases h) (fun _ _ _ h => by cases h; exact hb) (fun h => by cases h) h
      · cases h
      · cases h
      · cases h
      · rename_i n1 n2 n3 n4 n5 n6
        exact rest (fun a b c d h => n6 a b c d h) n5 (fun t l h => n4 t l h) (fun b h => absurd h (n2 b)) (fun b lo hi h => absurd h (n3 b lo hi)) n1 h
    · cases h
theorem nrm_R {P : Program} {l : List (Nat × Nat)} {s s1 s' : St} (h : kNrm P l s = some s1) (hS : SC ln s s') : ∃ s1' ln1, nrm P l s' = some s1' ∧ SC ln1 s1 s1' ∧ (∀ b, b < s'.ni → ln1 b = ln b) ∧ s1'.ni = s'.ni := by
  obtain ⟨s2, h2, h⟩ := bnd_eq h
  obtain ⟨s2', ln2, h3, h4, h4b, h4c⟩ := ownN_R h2 hS
  obtain ⟨s1', ln1, h5, h6, h6b, h6c⟩ := nrmT_R h h4
  exact ⟨s1', ln1, by unfold nrm; rw [h3, bnd_intro rfl]; exact h5, h6, fun b hb => by rw [h6b b (by omega), h4b b (by have := hS.le; omega)], h6c.trans h4c⟩
end
end Go.Ev
end

section
set_option linter.unusedVariables false
set_option linter.unusedSimpArgs false
set_option linter.unnecessarySimpa false
namespace Go.Ev
open Go

section
variable {ln ln' : Nat → Option (Nat × Nat)} {E : Env} {C : CallF} {G : GT} {L : LT}

/-! ### Code -/
def NdC : Code → Prop
  | .region _ ops _ => (dsts ops.toList).Nodup
  | .seq a b => NdC a ∧ NdC b
  | .cond _ a b => NdC a ∧ NdC b
  | .block _ a => NdC a
  | .loop a => NdC a
  | _ => True
/-- What is said of a loop is so. -/
def LpOK (E : Env) (C : CallF) (f i : Nat) (a : Code) (s : St) (r : Exit × St) : Prop := ∀ (ln : Nat → Option (Nat × Nat)) (s' : St), SC ln s s' → ∃ s1' ln1, bnd (loop (evC E C f a i) (nrm E.P (E.An f i)) fuel s') (nrmX E f i) = some (r.1, s1') ∧ SC ln1 r.2 s1' ∧ (∀ b, b < s'.ni → ln1 b = ln b) ∧ s1'.ni = s'.ni
def LOK (E : Env) (C : CallF) (L : LT) (f i : Nat) (a : Code) : Prop := ∀ s sp y, L f i s = some sp → sp.o = some y → LpOK E C f i a s (sp.alt.val y)
theorem loopS_inv {S : Type} {f i : Nat} {a : Code} {s : St} {κ : Exit × St → Option S} {r : S} (hL : LOK E C L f i a) (h : loopS L f i s κ = some r) : ∃ q, LpOK E C f i a s q ∧ κ q = some r := by
  unfold loopS at h
  split at h
  · rename_i sp hsp
    unfold bndS at h
    split at h
    · rename_i y hy
      simp only [Alt.run_eq] at h
      exact ⟨_, hL s sp y hsp hy, h⟩
    · cases h
  · cases h
theorem mrg_get {z : Bool} {q : List Nat} {tA tB : Nat → Option V} : ∀ {l : List Nat} {T : List (Nat × V)}, kMrg z q tA tB l = some T → ∀ t, (t ∉ l ∧ ofT T t = none) ∨ (t ∈ l ∧ ∃ a b v, tA t = some a ∧ tB t = some b ∧ ofT T t = some v ∧ ((mem t q = true ∧ mrgJ z a b = some v) ∨ (mem t q = false ∧ v = a)))
  | [], T, h, t => by cases h; exact .inl ⟨by simp, rfl⟩
  | u :: r, T, h, t => by
    unfold kMrg at h
    split at h
    · rename_i a b ha hb
      split at h
      · rename_i hm
        obtain ⟨v, hv, h⟩ := bnd_eq h
        obtain ⟨l, hl, h⟩ := bnd_eq h
        cases h
        by_cases ht : t = u
        · subst ht
          exact .inr ⟨by simp, a, b, v, ha, hb, by unfold ofT; rw [set_same], .inl ⟨hm, hv⟩⟩
        · have e : ofT ((u, v) :: l) t = ofT l t := by conv => lhs; unfold ofT; rw [set_ne ht]
          rw [e]
          rcases mrg_get hl t with ⟨h1, h2⟩ | ⟨h1, h2⟩
          · exact .inl ⟨by simp [ht, h1], h2⟩
          · exact .inr ⟨by simp [h1], h2⟩
      · rename_i hm
        obtain ⟨l, hl, h⟩ := bnd_eq h
        cases h
        by_cases ht : t = u
        · subst ht
          exact .inr ⟨by simp, a, b, a, ha, hb, by unfold ofT; rw [set_same], .inr ⟨hm, rfl⟩⟩
        · have e : ofT ((u, a) :: l) t = ofT l t := by conv => lhs; unfold ofT; rw [set_ne ht]
          rw [e]
          rcases mrg_get hl t with ⟨h1, h2⟩ | ⟨h1, h2⟩
          · exact .inl ⟨by simp [ht, h1], h2⟩
          · exact .inr ⟨by simp [h1], h2⟩
    · cases h
theorem pick_get {tm : Nat → Option V} : ∀ {l : List Nat} {t : Nat}, t ∈ l → ofT (pickT tm l) t = tm t
  | [], t, h => by cases h
  | u :: r, t, h => by
    unfold pickT
    by_cases ht : t = u
    · subst ht
      cases hv : tm t with
      | some v => simp only; unfold ofT; rw [set_same]
      | none =>
        simp only
        by_cases hr : t ∈ r
        · rw [pick_get hr, hv]
        · have : ∀ l : List Nat, t ∉ l → ofT (pickT tm l) t = none := fun l => by
            induction l with
            | nil => intro _; rfl
            | cons a l ih =>
              intro hl
              simp only [List.mem_cons, not_or] at hl
              unfold pickT
              split
              · unfold ofT; rw [set_ne hl.1]; exact ih hl.2
              · exact ih hl.2
          exact this r hr
    · have hr : t ∈ r := by
        rcases List.mem_cons.1 h with h | h
        · exact absurd h ht
        · exact h
      cases hv : tm u with
      | some v => simp only; unfold ofT; rw [set_ne ht]; exact pick_get hr
      | none => exact pick_get hr
theorem ops_skip {S : Type} {id : Nat} {ops : List Oper} : ∀ {r : List Oper} {i k : Nat} {lg : Log} {s : St} {κ : Log → St → Option S} {res : S}, (∀ o ∈ r, o ∈ ops) → kOps E G id (some false) ops r i k lg s κ = some res → ∃ lg1 s1, κ lg1 s1 = some res ∧ (∀ t, t ∉ dsts ops → s1.tm t = s.tm t)
  | [], i, k, lg, s, κ, res, _, h => ⟨lg, _, h, fun _ _ => rfl⟩
  | o :: r, i, k, lg, s, κ, res, ho, h => by
    have hd : ∀ t, t ∉ dsts ops → o.dst ≠ some t := fun t ht hd => by
      obtain ⟨j, hj, he⟩ := List.getElem_of_mem (ho o (by simp))
      exact ht (dsts_mem (i := j) (by rw [List.getElem?_eq_getElem hj, he]) hd)
    have put : ∀ {tm : Nat → Option V} {x : Option V} {t : Nat}, t ∉ dsts ops → putT tm o.dst x t = tm t := fun ht => by rw [putT_get, if_neg (hd _ ht)]
    have fin : ∀ {i k : Nat} {lg : Log} {s2 : St}, (∀ t, t ∉ dsts ops → s2.tm t = s.tm t) → kOps E G id (some false) ops r i k lg s2 κ = some res → ∃ lg1 s1, κ lg1 s1 = some res ∧ (∀ t, t ∉ dsts ops → s1.tm t = s.tm t) := fun hs h => by
      obtain ⟨lg1, s1, h1, h2⟩ := ops_skip (fun o ho' => ho o (by simp [ho'])) h
      exact ⟨lg1, s1, h1, fun t ht => (h2 t ht).trans (hs t ht)⟩
    unfold kOps at h
    obtain ⟨_, h⟩ := ckF_eq h
    split at h
    · obtain ⟨d, h⟩ := kEx_skip h
      obtain ⟨_, h⟩ := ckF_eq h
      exact fin (fun t ht => put ht) h
    · obtain ⟨_, h⟩ := ckF_eq h
      split at h
      · split at h
        · obtain ⟨d, h⟩ := kEx_skip h
          obtain ⟨_, h⟩ := ckF_eq h
          exact fin (fun t ht => put ht) h
        · exact fin (fun t ht => put ht) h
      · simp only at h
        obtain ⟨g, _, h⟩ := bndF_eq h
        obtain ⟨d, h⟩ := kEx_skip h
        obtain ⟨_, h⟩ := ckF_eq h
        obtain ⟨v, _, h⟩ := bndF_eq h
        exact fin (fun t ht => put ht) h
def keeps (c : Code) (s s1 : St) : Prop := ∀ t, t ∉ asg c → s1.tm t = s.tm t ∨ s1.tm t = none
theorem code_skip {S : Type} {f : Nat} : ∀ (c : Code), calm c = true → ∀ (i : Nat) (s : St) (κ : Exit → St → Option S) (res : S), kC E G L f c i (some false) s κ = some res → ∃ s1, κ .normal s1 = some res ∧ keeps c s s1 := by
  intro c
  induction c with
  | skip => intro _ i s κ res h; exact ⟨s, h, fun _ _ => .inl rfl⟩
  | region id ops draw =>
    intro _ i s κ res h
    obtain ⟨lg1, s1, h, hk⟩ := ops_skip (fun o ho => ho) h
    have hk2 : keeps (.region id ops draw) s { s1 with tm := endR ops.toList s1.tm } := fun t ht => by
      rcases endR_get (r := ops.toList) (tm := s1.tm) (t := t) with ⟨_, h2, _⟩ | ⟨h1, _⟩
      · exact absurd h2 ht
      · exact .inl (h1.trans (hk t ht))
    split at h
    · obtain ⟨_, h⟩ := ckF_eq h
      exact ⟨_, h, hk2⟩
    · exact ⟨_, h, hk2⟩
  | seq a b iha ihb =>
    intro hc i s κ res h
    unfold calm at hc
    simp only [Bool.and_eq_true] at hc
    obtain ⟨s1, h, h1⟩ := iha hc.1 i s _ res h
    obtain ⟨s2, h, h2⟩ := ihb hc.2 i s1 _ res h
    refine ⟨s2, h, fun t ht => ?_⟩
    simp only [asg, List.mem_append, not_or] at ht
    rcases h2 t ht.2 with e | e
    · rw [e]; exact h1 t ht.1
    · exact .inr e
  | cond c a b iha ihb =>
    intro hc i s κ res h
    unfold calm at hc
    simp only [Bool.and_eq_true] at hc
    obtain ⟨v, _, h⟩ := bndF_eq h
    split at h
    · rename_i z
      split at h
      · rename_i q hq
        obtain ⟨_, h⟩ := ckF_eq h
        obtain ⟨sA, h, hA⟩ := iha hc.1 i s _ res h
        simp only at h
        obtain ⟨sB, h, hB⟩ := ihb hc.2 i s _ res h
        simp only at h
        obtain ⟨_, h⟩ := ckF_eq h
        obtain ⟨T, hT, h⟩ := bndF_eq h
        refine ⟨_, h, fun t ht => ?_⟩
        simp only [asg, List.mem_append, not_or] at ht
        rcases mrg_get hT t with ⟨_, h2⟩ | ⟨_, x, y, v, hx, hy, hv, h2⟩
        · exact .inr h2
        · refine .inl ?_
          show ofT T t = s.tm t
          rw [hv]
          rcases h2 with ⟨hm, _⟩ | ⟨_, rfl⟩
          · have := (mem_spec _ _).1 hm
            simp only [List.mem_append] at this
            exact absurd this (by simp [ht.1, ht.2])
          · rcases hA t ht.1 with e | e
            · rw [hx] at e; exact e
            · rw [hx] at e; cases e
      · cases h
    · cases h
  | _ => intro hc; cases hc

theorem mrgJ_R {z : Bool} {a b v : V} (h : mrgJ z a b = some v) {w : V} (ht : z = true → RT ln wn a w) (hf : z = false → RT ln wn b w) : RT ln wn v w := by
  unfold mrgJ at h
  split at h
  · cases h; exact .jnk
  · cases h; exact .jnk
  · rename_i n1 n2
    split at h
    · cases h; exact .jnk
    · cases h; exact .jnk
    · rename_i n3 n4
      cases z with
      | true =>
        cases ht rfl with
        | val hr => exact .val (mrg_t hr _ _ h)
        | jnk => exact absurd rfl n1
        | gd => exact absurd rfl (n2 _ _ _ _)
      | false =>
        cases hf rfl with
        | val hr => exact .val (mrg_f hr _ _ h)
        | jnk => exact absurd rfl n3
        | gd => exact absurd rfl (n4 _ _ _ _)
theorem code_R {S : Type} (hG : GOK C G) {f : Nat} : ∀ (c : Code), NdC c → ∀ (i : Nat), (∀ p ∈ loopsOf c i, LOK E C L f p.1 p.2) → ∀ (m : Option Bool) (s s' : St) (ln : Nat → Option (Nat × Nat)) (κ : Exit → St → Option S) (res : S), mOK m → kC E G L f c i m s κ = some res → SC ln s s' →
    ∃ e s1 s1' ln1, evC E C f c i s' = some (e, s1') ∧ SC ln1 s1 s1' ∧ κ e s1 = some res ∧ ((∀ b, b < s'.ni → ln1 b = ln b) ∧ s1'.ni = s'.ni) ∧ (calm c = true → e = .normal ∧ keeps c s s1 ∧ s1.nt = s.nt ∧ s1.ni = s.ni ∧ (m = some true → s1'.h = s'.h ∧ s1.h = s.h)) := by
  intro c
  induction c with
  | skip =>
    intro _ i _ m s s' ln κ res _ h hS
    exact ⟨.normal, s, s', ln, rfl, hS, h, ⟨fun _ _ => rfl, rfl⟩, fun _ => ⟨rfl, fun _ _ => .inl rfl, rfl, rfl, fun _ => ⟨rfl, rfl⟩⟩⟩
  | region id ops draw =>
    intro hn i _ m s s' ln κ res hm h hS
    obtain ⟨lgK, lgV, s1, s1', ln1, h1, h2, h3, h4, h5, h6, h7, h8, h9⟩ := region_R hG hm hn h hS
    have h10 : s1'.ni = s'.ni := by have := h4.r.ni; have := hS.r.ni; simp only at *; omega
    cases draw with
    | true =>
      obtain ⟨hc, h3⟩ := ckF_eq h3
      exact ⟨.normal, _, s1', ln1, by unfold evC; simp only [cond_true, cnd, if_true, h1, bnd, chkLog_mono h2 hc], h4, h3, ⟨h9, h10⟩, fun _ => ⟨rfl, fun t ht => .inl (h5 t ht), h7, h8, fun hmt => h6 hmt⟩⟩
    | false =>
      exact ⟨.normal, _, s1', ln1, by unfold evC; simp only [cond_false, evOps_of_D h1, bnd], h4, h3, ⟨h9, h10⟩, fun _ => ⟨rfl, fun t ht => .inl (h5 t ht), h7, h8, fun hmt => h6 hmt⟩⟩
  | seq a b iha ihb =>
    intro hn i hl m s s' ln κ res hm h hS
    obtain ⟨e, s1, s1', ln1, h1, h2, h3, hk, h4⟩ := iha hn.1 i (fun p hp => hl p (by unfold loopsOf; simp [hp])) m s s' ln _ res hm h hS
    by_cases he : e = .normal
    · subst he
      simp only at h3
      obtain ⟨e2, s2, s2', ln2, g1, g2, g3, gk, g4⟩ := ihb hn.2 i (fun p hp => hl p (by unfold loopsOf; simp [hp])) m s1 s1' ln1 κ res hm h3 h2
      refine ⟨e2, s2, s2', ln2, by unfold evC; rw [h1, bnd_intro rfl]; exact g1, g2, g3, ⟨fun b hb => by rw [gk.1 b (by rw [hk.2]; exact hb), hk.1 b hb], gk.2.trans hk.2⟩, fun hc => ?_⟩
      unfold calm at hc
      simp only [Bool.and_eq_true] at hc
      obtain ⟨_, k1, k2, k3, k4⟩ := h4 hc.1
      obtain ⟨j0, j1, j2, j3, j4⟩ := g4 hc.2
      refine ⟨j0, fun t ht => ?_, j2.trans k2, j3.trans k3, fun hmt => ⟨(j4 hmt).1.trans (k4 hmt).1, (j4 hmt).2.trans (k4 hmt).2⟩⟩
      simp only [asg, List.mem_append, not_or] at ht
      rcases j1 t ht.2 with e | e
      · rw [e]; exact k1 t ht.1
      · exact .inr e
    · refine ⟨e, s1, s1', ln1, ?_, h2, ?_, hk, fun hc => ?_⟩
      · unfold evC; rw [h1, bnd_intro rfl]
        cases e <;> first | rfl | exact absurd rfl he
      · cases e <;> first | exact h3 | exact absurd rfl he
      · unfold calm at hc
        simp only [Bool.and_eq_true] at hc
        exact absurd (h4 hc.1).1 he
  | cond c a b iha ihb =>
    intro hn i hl m s s' ln κ res hm h hS
    obtain ⟨v, hv, h⟩ := bndF_eq h
    obtain ⟨w, hw, hr⟩ := kO_R hS.r (cur := none) trivial c v hv
    split at h
    · rename_i z
      cases hr
      have hla : ∀ p ∈ loopsOf a i, LOK E C L f p.1 p.2 := fun p hp => hl p (by unfold loopsOf; simp [hp])
      have hlb : ∀ p ∈ loopsOf b i, LOK E C L f p.1 p.2 := fun p hp => hl p (by unfold loopsOf; simp [hp])
      split at h
      · rename_i q hq
        obtain ⟨hcalm, h⟩ := ckF_eq h
        simp only [Bool.and_eq_true] at hcalm
        -- what comes out of the way that is taken, and of the other one
        have key : ∃ sA sB s1 s1' ln1, (if z then evC E C f a i s' else evC E C f b i s') = some (.normal, s1') ∧ SC ln1 s1 s1' ∧ (z = true → s1 = sA) ∧ (z = false → s1 = sB) ∧ keeps a s sA ∧ keeps b s sB ∧ s1.nt = s.nt ∧ s1.ni = s.ni ∧ s1'.h = s'.h ∧ s1.h = s.h ∧ ((∀ b, b < s'.ni → ln1 b = ln b) ∧ s1'.ni = s'.ni) ∧
            (ckF 1000000003 (Nat.ble sA.nx (s.nx + q.2) && Nat.ble sB.nx (s.nx + q.2)) (bndF 1000000004 (kMrg z (asg a ++ asg b) sA.tm sB.tm q.1) fun T => κ .normal { s with tm := ofT T, nx := s.nx + q.2 })) = some res := by
          cases z with
          | true =>
            have hm2 : mOK (andM m true) := by rcases hm with rfl | rfl <;> exact .inr rfl
            have hm3 : andM m true = some true := by rcases hm with rfl | rfl <;> rfl
            obtain ⟨e, s1, s1', ln1, h1, h2, h3, hk, h4⟩ := iha hn.1 i hla _ s s' ln _ res hm2 h hS
            obtain ⟨rfl, k1, k2, k3, k4⟩ := h4 hcalm.1
            simp only at h3
            have hm4 : andM m (bNot true) = some false := by rcases hm with rfl | rfl <;> rfl
            rw [hm4] at h3
            obtain ⟨sB, h3, hB⟩ := code_skip b hcalm.2 i s _ res h3
            exact ⟨s1, sB, s1, s1', ln1, h1, h2, fun _ => rfl, (fun h => by cases h), k1, hB, k2, k3, (k4 hm3).1, (k4 hm3).2, hk, h3⟩
          | false =>
            have hm4 : andM m false = some false := by rcases hm with rfl | rfl <;> rfl
            rw [hm4] at h
            obtain ⟨sA, h, hA⟩ := code_skip a hcalm.1 i s _ res h
            simp only at h
            have hm2 : mOK (andM m (bNot false)) := by rcases hm with rfl | rfl <;> exact .inr rfl
            have hm3 : andM m (bNot false) = some true := by rcases hm with rfl | rfl <;> rfl
            obtain ⟨e, s1, s1', ln1, h1, h2, h3, hk, h4⟩ := ihb hn.2 i hlb _ s s' ln _ res hm2 h hS
            obtain ⟨rfl, k1, k2, k3, k4⟩ := h4 hcalm.2
            simp only at h3
            exact ⟨sA, s1, s1, s1', ln1, h1, h2, (fun h => by cases h), fun _ => rfl, hA, k1, k2, k3, (k4 hm3).1, (k4 hm3).2, hk, h3⟩
        obtain ⟨sA, sB, s1, s1', ln1, h1, h2, e1, e2, kA, kB, k2, k3, k4, k5, hk, h3⟩ := key
        obtain ⟨hnx, h3⟩ := ckF_eq h3
        obtain ⟨T, hT, h3⟩ := bndF_eq h3
        simp only [Bool.and_eq_true] at hnx
        have hnx1 : s1'.nx ≤ s'.nx + q.2 := by
          rw [← h2.nx, ← hS.nx]
          cases z with
          | true => rw [e1 rfl]; exact ble_nat hnx.1
          | false => rw [e2 rfl]; exact ble_nat hnx.2
        refine ⟨.normal, _, { s1' with tm := ofT (pickT s1'.tm q.1), nx := s'.nx + q.2 }, ln1, ?_, ⟨⟨fun t v ht => ?_, ?_, ?_, ?_⟩, ?_, ?_, ?_⟩, h3, hk, fun _ => ⟨rfl, fun t ht => ?_, rfl, rfl, fun _ => ⟨k4, rfl⟩⟩⟩
        · have hev : evC E C f (.cond c a b) i s' = bnd (if z then evC E C f a i s' else evC E C f b i s') (jnS (jof E f (.seq a b)) s'.nx) := by
            conv => lhs; unfold evC
            rw [hw, bnd_intro rfl]
            rfl
          rw [hev, h1, bnd_intro rfl, hq]
          show grd (s1'.nx ≤ s'.nx + q.2) _ = _
          exact grd_intro hnx1
        · change ofT T t = some v at ht
          show ∃ w, ofT (pickT s1'.tm q.1) t = some w ∧ _
          rcases mrg_get hT t with ⟨_, h5⟩ | ⟨hmem, x, y, u, hx, hy, hu, h5⟩
          · rw [h5] at ht; cases ht
          · rw [hu] at ht
            cases ht
            rw [pick_get hmem]
            have hA : z = true → ∃ w, s1'.tm t = some w ∧ RT ln1 wn x w := fun hz => by
              have := h2.r.tm t x (by rw [e1 hz]; exact hx)
              exact this
            have hB : z = false → ∃ w, s1'.tm t = some w ∧ RT ln1 wn y w := fun hz => h2.r.tm t y (by rw [e2 hz]; exact hy)
            have hw1 : ∃ w, s1'.tm t = some w := by
              cases z with
              | true => obtain ⟨w, h6, _⟩ := hA rfl; exact ⟨w, h6⟩
              | false => obtain ⟨w, h6, _⟩ := hB rfl; exact ⟨w, h6⟩
            obtain ⟨w1, hw1⟩ := hw1
            refine ⟨w1, hw1, ?_⟩
            rcases h5 with ⟨hm5, h5⟩ | ⟨hm5, rfl⟩
            · refine mrgJ_R h5 (fun hz => ?_) (fun hz => ?_)
              · obtain ⟨w2, h6, h7⟩ := hA hz
                rw [hw1] at h6; cases h6; exact h7
              · obtain ⟨w2, h6, h7⟩ := hB hz
                rw [hw1] at h6; cases h6; exact h7
            · have hnm : t ∉ asg a ∧ t ∉ asg b := by
                constructor <;> intro hmm <;> rw [(mem_spec _ _).2 (by simp [hmm])] at hm5 <;> cases hm5
              cases z with
              | true =>
                obtain ⟨w2, h6, h7⟩ := hA rfl
                rw [hw1] at h6; cases h6; exact h7
              | false =>
                obtain ⟨w2, h6, h7⟩ := hB rfl
                rw [hw1] at h6; cases h6
                have ea := kA t hnm.1
                have eb := kB t hnm.2
                rw [hx] at ea
                rw [hy] at eb
                rcases ea with ea | ea
                · rcases eb with eb | eb
                  · rw [← ea] at eb
                    cases eb
                    exact h7
                  · cases eb
                · cases ea
        · show HR ln1 s.h s1'.h
          rw [← k5]; exact h2.r.h
        · show s.nt = s1'.nt
          rw [← k2]; exact h2.r.nt
        · show s.ni = s1'.ni
          rw [← k3]; exact h2.r.ni
        · refine ⟨fun b hb => h2.f.l b (by have : s'.nx + q.2 ≤ b := hb; omega), fun b hb => ?_, fun b hb => ?_⟩
          · show s.h b = none
            rw [← k5]; exact h2.f.K b (by have : s'.nx + q.2 ≤ b := hb; omega)
          · exact h2.f.V b (by have : s'.nx + q.2 ≤ b := hb; omega)
        · show s.nx + q.2 = s'.nx + q.2
          rw [hS.nx]
        · show s1'.ni ≤ s'.nx + q.2
          have := hS.le
          omega
        · simp only [asg, List.mem_append, not_or] at ht
          rcases mrg_get hT t with ⟨_, h5⟩ | ⟨_, x, y, v, hx, hy, hv, h5⟩
          · exact .inr h5
          · refine .inl ?_
            show ofT T t = s.tm t
            rw [hv]
            rcases h5 with ⟨hm5, _⟩ | ⟨_, rfl⟩
            · have := (mem_spec _ _).1 hm5
              simp only [List.mem_append] at this
              exact absurd this (by simp [ht.1, ht.2])
            · rcases kA t ht.1 with e | e
              · rw [hx] at e; exact e
              · rw [hx] at e; cases e
      · rename_i hq
        split at h
        · have hev : evC E C f (.cond c a b) i s' = bnd (if z then evC E C f a i s' else evC E C f b i s') (jnS (jof E f (.seq a b)) s'.nx) := by
            conv => lhs; unfold evC
            rw [hw, bnd_intro rfl]
            rfl
          rw [hq] at hev
          have hcm : calm (.cond c a b) = true → calm a = true ∧ calm b = true := fun hc => by
            unfold calm at hc
            simpa using hc
          cases z with
          | true =>
            obtain ⟨e, s1, s1', ln1, h1, h2, h3, hk, h4⟩ := iha hn.1 i hla none s s' ln κ res (.inl rfl) h hS
            refine ⟨e, s1, s1', ln1, by rw [hev, if_pos rfl, h1]; rfl, h2, h3, hk, fun hc => ?_⟩
            obtain ⟨k0, k1, k2, k3, k4⟩ := h4 (hcm hc).1
            exact ⟨k0, fun t ht => k1 t (by simp only [asg, List.mem_append, not_or] at ht; exact ht.1), k2, k3, fun h => by cases h⟩
          | false =>
            obtain ⟨e, s1, s1', ln1, h1, h2, h3, hk, h4⟩ := ihb hn.2 i hlb none s s' ln κ res (.inl rfl) h hS
            refine ⟨e, s1, s1', ln1, by rw [hev, if_neg (by simp), h1]; rfl, h2, h3, hk, fun hc => ?_⟩
            obtain ⟨k0, k1, k2, k3, k4⟩ := h4 (hcm hc).2
            exact ⟨k0, fun t ht => k1 t (by simp only [asg, List.mem_append, not_or] at ht; exact ht.2), k2, k3, fun h => by cases h⟩
        · cases h
    · cases h
  | block id a ih =>
    intro hn i hl m s s' ln κ res hm h hS
    obtain ⟨e, s1, s1', ln1, h1, h2, h3, hk, h4⟩ := ih hn id hl m s s' ln _ res hm h hS
    cases e with
    | exit j =>
      simp only at h3
      split at h3
      · rename_i hj
        exact ⟨.normal, s1, s1', ln1, by unfold evC; rw [h1, bnd_intro rfl]; simp only [beq_nat hj, if_true], h2, h3, hk, fun hc => by cases hc⟩
      · rename_i hj
        have hne : j ≠ id := fun e => by rw [e, Nat.beq_refl] at hj; cases hj
        exact ⟨.exit j, s1, s1', ln1, by unfold evC; rw [h1, bnd_intro rfl]; simp only [if_neg hne], h2, h3, hk, fun hc => by cases hc⟩
    | _ => exact ⟨_, s1, s1', ln1, by unfold evC; rw [h1, bnd_intro rfl], h2, h3, hk, fun hc => by cases hc⟩
  | loop a ih =>
    intro hn i hl m s s' ln κ res hm h hS
    unfold kC at h
    split at h
    · obtain ⟨s1, hs1, h⟩ := bndF_eq h
      obtain ⟨s1', ln1, h1, h2, h2b, h2c⟩ := nrm_R hs1 hS
      obtain ⟨q, hq, h⟩ := loopS_inv (hl (i, a) (by unfold loopsOf; simp)) h
      obtain ⟨s2', ln2, h3, h4, h4b, h4c⟩ := hq ln1 s1' h2
      exact ⟨q.1, q.2, s2', ln2, by unfold evC; rw [h1, bnd_intro rfl]; exact h3, h4, h, ⟨fun b hb => by rw [h4b b (by rw [h2c]; exact hb), h2b b hb], h4c.trans h2c⟩, fun hc => by cases hc⟩
    · cases h
  | exit id =>
    intro _ i _ m s s' ln κ res _ h hS
    exact ⟨.exit id, s, s', ln, rfl, hS, h, ⟨fun _ _ => rfl, rfl⟩, fun hc => by cases hc⟩
  | ret =>
    intro _ i _ m s s' ln κ res _ h hS
    exact ⟨.ret, s, s', ln, rfl, hS, h, ⟨fun _ _ => rfl, rfl⟩, fun hc => by cases hc⟩
  | _ => intro _ i _ m s s' ln κ res _ h; cases h
end
end Go.Ev
end

section
set_option linter.unusedVariables false
set_option linter.unusedSimpArgs false
set_option linter.unnecessarySimpa false
namespace Go.Ev
open Go

section
variable {ln ln' : Nat → Option (Nat × Nat)} {h h' : Nat → Option Blk}

/-! ### Codes -/
theorem PT.fst_mk {A B : Type} : ∀ {ua ub : Bool} {da : A} {x : A} {y : B}, (ua = true → x = da) → PT.fst ua ub da (PT.mk ua ub x y) = x
  | true, _, _, _, _, h => (h rfl).symm
  | false, true, _, _, _, _ => rfl
  | false, false, _, _, _, _ => rfl
theorem PT.snd_mk {A B : Type} : ∀ {ua ub : Bool} {db : B} {x : A} {y : B}, (ub = true → y = db) → PT.snd ua ub db (PT.mk ua ub x y) = y
  | true, _, _, _, _, _ => rfl
  | false, true, _, _, _, h => (h rfl).symm
  | false, false, _, _, _, _ => rfl
theorem PT.sub {A B : Type} (ha : ∀ x y : A, x = y) (hb : ∀ x y : B, x = y) : ∀ {ua ub : Bool} (x y : PT ua ub A B), x = y
  | true, _, x, y => hb x y
  | false, true, x, y => ha x y
  | false, false, x, y => by
    obtain ⟨a, b⟩ := x
    obtain ⟨c, d⟩ := y
    rw [ha a c, hb b d]
theorem Sh.u_sub : ∀ (s : Sh), s.u = true → ∀ x y : s.T, x = y
  | .dat _, h, _, _ => by cases h
  | .own _ _, h, _, _ => by cases h
  | .sub _ _, h, _, _ => by cases h
  | .alo _, _, _, _ => rfl
  | .box _ s, h, x, y => Sh.u_sub s h x y
  | .ptr .., _, _, _ => rfl
  | .pto .., h, _, _ => by cases h
  | .ptw .., h, _, _ => by cases h
  | .sbo .., h, _, _ => by cases h
  | .lit _, _, _, _ => rfl
  | .fn _ s, h, x, y => Sh.u_sub s h x y
  | .non, _, _, _ => rfl
  | .seq a b, h, x, y => by
    unfold Sh.u at h
    split at h
    · rename_i ha
      exact PT.sub (Sh.u_sub a ha) (Sh.u_sub b h) x y
    · cases h
  | .agg s, h, x, y => Sh.u_sub s h x y
  | .tup s, h, x, y => Sh.u_sub s h x y
theorem Sh.fst {a b : Sh} {x : a.T} {y : b.T} : PT.fst a.u b.u a.dflt (PT.mk a.u b.u x y) = x := PT.fst_mk fun hu => Sh.u_sub a hu _ _
theorem Sh.snd {a b : Sh} {x : a.T} {y : b.T} : PT.snd a.u b.u b.dflt (PT.mk a.u b.u x y) = y := PT.snd_mk fun hu => Sh.u_sub b hu _ _
theorem bytesB_eq : ∀ {a b : List UInt8}, bytesB a b = true → a = b
  | [], [], _ => rfl
  | [], _ :: _, h => by cases h
  | _ :: _, [], h => by cases h
  | a :: r, b :: q, h => by
    unfold bytesB at h
    split at h
    · rename_i hab
      have e1 : a = b := UInt8.toNat_inj.1 (beq_nat hab)
      rw [e1, bytesB_eq h]
    · cases h
theorem litB_eq {v v' : Value} (h : litB v v' = true) : v = v' := by
  unfold litB at h
  split at h
  · rfl
  · rfl
  · rename_i a b
    have := bytesB_eq h
    obtain ⟨⟨a⟩⟩ := a
    obtain ⟨⟨b⟩⟩ := b
    simp only at this
    subst this; rfl
  · rw [beqB_eq h]
  · cases h
def BR2 (ln : Nat → Option (Nat × Nat)) (h' : Nat → Option Blk) (l : List (Nat × Blk)) : Prop := ∀ p ∈ l, OB ln p.1 (some p.2) (h' p.1)
theorem BR2.append {l m : List (Nat × Blk)} (a : BR2 ln h' l) (b : BR2 ln h' m) : BR2 ln h' (l ++ m) := fun p hp => (List.mem_append.1 hp).elim (a p) (b p)
theorem decB_R {b : Nat} {t : Ty} {l : List t.T} (hd : decB h b t = some l) (hh : HR ln h h') : ln b = some (t.size, l.length) ∧ OB ln b (some (mkArr t l)) (h' b) := by
  unfold decB at hd
  split at hd
  · rename_i t' l' hb
    obtain ⟨e, hq⟩ := cast_sl hd
    subst e
    subst hq
    obtain ⟨fl, sz, fl', es, _, hbv, hln, hf, _, hr⟩ := blkT_inv hb hh
    rw [hbv]
    exact ⟨hln, mkArr_OB hln hf hr⟩
  · cases hd
theorem Sh.dec_R (hh : HR ln h h') : ∀ (s : Sh) {vs ws r : List V} {x : s.T}, s.dec h vs = some (x, r) → RL ln vs ws → ∃ w1 w2, ws = w1 ++ w2 ∧ RL ln (s.enc x) w1 ∧ RL ln r w2 ∧ BR2 ln h' (s.blks x)
  | .dat t, vs, ws, r, x, hd, hr => by
    obtain ⟨c1, c2, h1, h2, h3⟩ := dec_sound hd hr
    exact ⟨c1, c2, h1, h2.enc, h3, fun p hp => by cases hp⟩
  | .own b t, vs, ws, r, x, hd, hr => by
    unfold Sh.dec at hd
    split at hd
    · obtain ⟨hb, hd⟩ := ck_eq hd
      obtain ⟨l, hl, hd⟩ := bnd_eq hd
      cases hd
      rw [← beq_nat hb] at hr
      obtain ⟨w, q, rfl, h1, h2⟩ := hr.inv
      obtain ⟨_, h3⟩ := decB_R hl hh
      exact ⟨[w], q, rfl, Rows.cons h1 .nil, h2, fun p hp => by simp only [Sh.blks, List.mem_singleton] at hp; subst hp; exact h3⟩
    · cases hd
  | .sub b t, vs, ws, r, x, hd, hr => by
    unfold Sh.dec at hd
    split at hd
    · obtain ⟨hb, hd⟩ := ck_eq hd
      obtain ⟨l, hl, hd⟩ := bnd_eq hd
      cases hd
      rw [← beq_nat hb] at hr
      obtain ⟨w, q, rfl, h1, h2⟩ := hr.inv
      obtain ⟨hln, h3⟩ := decB_R hl hh
      refine ⟨[w], q, rfl, Rows.cons ?_ .nil, h2, fun p hp => by simp only [Sh.blks, List.mem_singleton] at hp; subst hp; exact h3⟩
      cases h1 with
      | own h4 =>
        rw [hln] at h4
        cases h4
        have := R.sub (ln := ln) (lo := 0) (hi := lLen l) hln (Int.le_refl _) (by unfold lLen; omega) (by unfold lLen; omega)
        have e : (lLen l - 0).toNat = l.length := by unfold lLen; omega
        rw [e] at this
        exact this
    · obtain ⟨hb, hd⟩ := ck_eq hd
      obtain ⟨l, hl, hd⟩ := bnd_eq hd
      cases hd
      rw [← beq_nat hb] at hr
      obtain ⟨w, q, rfl, h1, h2⟩ := hr.inv
      obtain ⟨_, h3⟩ := decB_R hl hh
      exact ⟨[w], q, rfl, Rows.cons h1 .nil, h2, fun p hp => by simp only [Sh.blks, List.mem_singleton] at hp; subst hp; exact h3⟩
    · cases hd
  | .alo b, vs, ws, r, x, hd, hr => by
    unfold Sh.dec at hd
    split at hd
    · obtain ⟨hb, hd⟩ := ck_eq hd
      cases hd
      rw [← beq_nat hb] at hr
      obtain ⟨w, q, rfl, h1, h2⟩ := hr.inv
      exact ⟨[w], q, rfl, Rows.cons h1 .nil, h2, fun p hp => by cases hp⟩
    · cases hd
  | .box b s, vs, ws, r, x, hd, hr => by
    unfold Sh.dec at hd
    split at hd
    · obtain ⟨hc, hd⟩ := ck_eq hd
      simp only [Bool.and_eq_true] at hc
      split at hd
      · rename_i fl sz' ds hb
        obtain ⟨hs, hd⟩ := ck_eq hd
        split at hd
        · rename_i y hy
          cases hd
          have e1 := beq_nat hc.1
          have e2 := beq_nat hc.2.1
          have e3 := beq_nat hc.2.2.1
          have e4 := beq_nat hc.2.2.2
          have e5 := beq_nat hs
          subst e1 e2 e3 e4 e5
          obtain ⟨w, q, rfl, h1, h2⟩ := hr.inv
          have hob := hh b
          rw [hb] at hob
          generalize hq : h' b = u at hob
          cases hob with
          | box hrl =>
            obtain ⟨w1, w2, rfl, g1, g2, g3⟩ := Sh.dec_R hh s hy hrl
            rw [g2.inv0, List.append_nil] at hq
            refine ⟨[w], q, rfl, Rows.cons h1 .nil, h2, fun p hp => ?_⟩
            simp only [Sh.blks, List.mem_cons] at hp
            rcases hp with rfl | hp
            · rw [hq]; exact .box g1
            · exact g3 p hp
        · cases hd
      · cases hd
    · cases hd
  | .ptr b sz c, vs, ws, r, x, hd, hr => by
    unfold Sh.dec at hd
    split at hd
    · obtain ⟨hc, hd⟩ := ck_eq hd
      simp only [Bool.and_eq_true] at hc
      cases hd
      have e1 := beq_nat hc.1
      have e2 := beq_nat hc.2.1
      have e3 := beq_nat hc.2.2.1
      have e4 := beq_nat hc.2.2.2
      subst e1 e2 e3 e4
      obtain ⟨w, q, rfl, h1, h2⟩ := hr.inv
      exact ⟨[w], q, rfl, Rows.cons h1 .nil, h2, fun p hp => by cases hp⟩
    · cases hd
  | .pto b c, vs, ws, r, x, hd, hr => by
    unfold Sh.dec at hd
    split at hd
    · obtain ⟨hc, hd⟩ := ck_eq hd
      simp only [Bool.and_eq_true] at hc
      cases hd
      have e1 := beq_nat hc.1
      have e2 := beq_nat hc.2
      subst e1 e2
      obtain ⟨w, q, rfl, h1, h2⟩ := hr.inv
      exact ⟨[w], q, rfl, Rows.cons h1 .nil, h2, fun p hp => by cases hp⟩
    · cases hd
  | .ptw b t c, vs, ws, r, x, hd, hr => by
    unfold Sh.dec at hd
    split at hd
    · obtain ⟨hc, hd⟩ := ck_eq hd
      simp only [Bool.and_eq_true] at hc
      obtain ⟨l, hl, hd⟩ := bnd_eq hd
      cases hd
      have e1 := beq_nat hc.1
      have e2 := beq_nat hc.2
      subst e1 e2
      obtain ⟨w, q, rfl, h1, h2⟩ := hr.inv
      obtain ⟨_, h3⟩ := decB_R hl hh
      exact ⟨[w], q, rfl, Rows.cons h1 .nil, h2, fun p hp => by simp only [Sh.blks, List.mem_singleton] at hp; subst hp; exact h3⟩
    · cases hd
  | .sbo b, vs, ws, r, x, hd, hr => by
    unfold Sh.dec at hd
    split at hd
    · obtain ⟨hc, hd⟩ := ck_eq hd
      cases hd
      have e1 := beq_nat hc
      subst e1
      obtain ⟨w, q, rfl, h1, h2⟩ := hr.inv
      exact ⟨[w], q, rfl, Rows.cons h1 .nil, h2, fun p hp => by cases hp⟩
    · cases hd
  | .lit v, vs, ws, r, x, hd, hr => by
    unfold Sh.dec at hd
    split at hd
    · obtain ⟨hc, hd⟩ := ck_eq hd
      cases hd
      have e1 := litB_eq hc
      subst e1
      obtain ⟨w, q, rfl, h1, h2⟩ := hr.inv
      exact ⟨[w], q, rfl, Rows.cons h1 .nil, h2, fun p hp => by cases hp⟩
    · cases hd
  | .fn f s, vs, ws, r, x, hd, hr => by
    unfold Sh.dec at hd
    split at hd
    · obtain ⟨hc, hd⟩ := ck_eq hd
      split at hd
      · rename_i y hy
        cases hd
        have e1 := beq_nat hc
        subst e1
        obtain ⟨w, q, rfl, h1, h2⟩ := hr.inv
        cases h1 with
        | fn hl hcs =>
          obtain ⟨w1, w2, rfl, g1, g2, g3⟩ := Sh.dec_R hh s hy ⟨hl, hcs⟩
          rw [g2.inv0, List.append_nil]
          exact ⟨[_], q, rfl, Rows.cons (.fn g1.1 g1.2) .nil, h2, g3⟩
      · cases hd
    · cases hd
  | .non, vs, ws, r, x, hd, hr => by
    cases hd
    exact ⟨[], ws, rfl, .nil, hr, fun p hp => by cases hp⟩
  | .seq a b, vs, ws, r, x, hd, hr => by
    unfold Sh.dec at hd
    split at hd
    · rename_i y q hy
      split at hd
      · rename_i z q' hz
        cases hd
        obtain ⟨w1, w2, rfl, g1, g2, g3⟩ := Sh.dec_R hh a hy hr
        obtain ⟨u1, u2, rfl, k1, k2, k3⟩ := Sh.dec_R hh b hz g2
        refine ⟨w1 ++ u1, u2, by rw [List.append_assoc], ?_, k2, ?_⟩
        · show RL ln (a.enc (PT.fst a.u b.u a.dflt _) ++ b.enc (PT.snd a.u b.u b.dflt _)) _
          rw [Sh.fst, Sh.snd]
          exact g1.append k1
        · show BR2 ln h' (a.blks (PT.fst a.u b.u a.dflt _) ++ b.blks (PT.snd a.u b.u b.dflt _))
          rw [Sh.fst, Sh.snd]
          exact g3.append k3
      · cases hd
    · cases hd
  | .agg s, vs, ws, r, x, hd, hr => by
    unfold Sh.dec at hd
    split at hd
    · split at hd
      · rename_i y hy
        cases hd
        obtain ⟨w, q, rfl, h1, h2⟩ := hr.inv
        cases h1 with
        | agg hl hcs =>
          obtain ⟨w1, w2, rfl, g1, g2, g3⟩ := Sh.dec_R hh s hy ⟨hl, hcs⟩
          rw [g2.inv0, List.append_nil]
          exact ⟨[_], q, rfl, Rows.cons (.agg g1.1 g1.2) .nil, h2, g3⟩
      · cases hd
    · cases hd
  | .tup s, vs, ws, r, x, hd, hr => by
    unfold Sh.dec at hd
    split at hd
    · split at hd
      · rename_i y hy
        cases hd
        obtain ⟨w, q, rfl, h1, h2⟩ := hr.inv
        cases h1 with
        | tup hl hcs =>
          obtain ⟨w1, w2, rfl, g1, g2, g3⟩ := Sh.dec_R hh s hy ⟨hl, hcs⟩
          rw [g2.inv0, List.append_nil]
          exact ⟨[_], q, rfl, Rows.cons (.tup g1.1 g1.2) .nil, h2, g3⟩
      · cases hd
    · cases hd
/-- The blocks that a code tells have their numbers. -/
theorem Sh.nums_blks : ∀ (s : Sh) (x : s.T) (b : Nat), b ∈ s.nums → ∃ blk, (b, blk) ∈ s.blks x
  | .own b t, x, c, h => by simp only [Sh.nums, List.mem_singleton] at h; subst h; exact ⟨_, List.mem_singleton.2 rfl⟩
  | .sub b t, x, c, h => by simp only [Sh.nums, List.mem_singleton] at h; subst h; exact ⟨_, List.mem_singleton.2 rfl⟩
  | .ptw b t _, x, c, h => by simp only [Sh.nums, List.mem_singleton] at h; subst h; exact ⟨_, List.mem_singleton.2 rfl⟩
  | .box b s, x, c, h => by
    simp only [Sh.nums, List.mem_cons] at h
    rcases h with rfl | h
    · exact ⟨_, by unfold Sh.blks; exact List.mem_cons_self⟩
    · obtain ⟨blk, hb⟩ := Sh.nums_blks s x c h
      exact ⟨blk, by unfold Sh.blks; exact List.mem_cons_of_mem _ hb⟩
  | .fn _ s, x, c, h => Sh.nums_blks s x c h
  | .seq a b, x, c, h => by
    simp only [Sh.nums, List.mem_append] at h
    rcases h with h | h
    · obtain ⟨blk, hb⟩ := Sh.nums_blks a _ c h
      exact ⟨blk, by unfold Sh.blks; exact List.mem_append_left _ hb⟩
    · obtain ⟨blk, hb⟩ := Sh.nums_blks b _ c h
      exact ⟨blk, by unfold Sh.blks; exact List.mem_append_right _ hb⟩
  | .agg s, x, c, h => Sh.nums_blks s x c h
  | .tup s, x, c, h => Sh.nums_blks s x c h
  | .dat _, _, _, h => by cases h
  | .alo _, _, _, h => by cases h
  | .ptr .., _, _, h => by cases h
  | .pto .., _, _, h => by cases h
  | .sbo .., _, _, h => by cases h
  | .lit _, _, _, h => by cases h
  | .non, _, _, h => by cases h
theorem hof_get : ∀ {l : List (Nat × Blk)} {b : Nat}, (hof l b = none ∧ ∀ blk, (b, blk) ∉ l) ∨ ∃ blk, hof l b = some blk ∧ (b, blk) ∈ l
  | [], b => .inl ⟨rfl, fun _ h => by cases h⟩
  | (a, x) :: r, b => by
    unfold hof
    cases hab : Nat.beq a b with
    | true => exact .inr ⟨x, rfl, by rw [beq_nat hab]; exact List.mem_cons_self⟩
    | false =>
      simp only
      rcases hof_get (l := r) (b := b) with ⟨h1, h2⟩ | ⟨blk, h1, h2⟩
      · refine .inl ⟨h1, fun blk hm => ?_⟩
        rcases List.mem_cons.1 hm with hm | hm
        · cases hm
          rw [Nat.beq_refl] at hab
          cases hab
        · exact h2 blk hm
      · exact .inr ⟨blk, h1, List.mem_cons_of_mem _ h2⟩
theorem cov_spec {m : Bool} {ns : List Nat} : ∀ {l : List Nat}, covB m h ns l = true → ∀ b ∈ l, b ∈ ns ∨ (m = true ∧ ∀ x, h b = some x → x.box = false)
  | [], _, b, hb => by cases hb
  | a :: r, hc, b, hb => by
    unfold covB at hc
    rcases List.mem_cons.1 hb with rfl | hb'
    · split at hc
      · rename_i hm; exact .inl ((mem_spec _ _).1 hm)
      · split at hc
        · cases hc
        · split at hc
          · cases hc
          · rename_i hn
            refine .inr ⟨rfl, fun x hx => ?_⟩
            cases hbx : x.box with
            | false => rfl
            | true =>
              obtain ⟨bx, f1, f2, f3⟩ := x
              simp only at hbx
              subst hbx
              exact absurd hx (hn _ _ _)
    · split at hc
      · exact cov_spec hc b hb'
      · split at hc
        · cases hc
        · split at hc
          · cases hc
          · exact cov_spec hc b hb'
/-- The addresses of what came in. -/
theorem root_R (hh : HR ln h h') : ∀ (s : Sh), s.isRoot = true → ∀ {rest r : List V} {x : s.T}, s.dec h (rootV h s ++ rest) = some (x, r) → r = rest ∧ BR2 ln h' (s.blks x)
  | .own b t, _, rest, r, x, hd => by
    obtain ⟨hb, hd⟩ := ck_eq (show ck (Nat.beq b b) (bnd (decB h b t) fun l => some (l, rest)) = some (x, r) from hd)
    obtain ⟨l, hl, hd⟩ := bnd_eq hd
    cases hd
    exact ⟨rfl, fun p hp => by simp only [Sh.blks, List.mem_singleton] at hp; subst hp; exact (decB_R hl hh).2⟩
  | .box b s, _, rest, r, x, hd => by
    have hd2 : ck (Nat.beq b b && (Nat.beq s.len s.len && (Nat.beq 0 0 && Nat.beq 0 0))) (match h b with
      | some ⟨true, _, sz', [ds]⟩ => ck (Nat.beq sz' s.len) (match s.dec h ds with
        | some (x, []) => some (x, rest)
        | _ => none)
      | _ => none) = some (x, r) := hd
    obtain ⟨_, hd2⟩ := ck_eq hd2
    split at hd2
    · rename_i fl sz' ds hb
      obtain ⟨hs, hd2⟩ := ck_eq hd2
      split at hd2
      · rename_i y hy
        cases hd2
        have e5 := beq_nat hs
        subst e5
        have hob := hh b
        rw [hb] at hob
        generalize hq : h' b = u at hob
        cases hob with
        | box hrl =>
          obtain ⟨w1, w2, rfl, g1, g2, g3⟩ := Sh.dec_R hh s hy hrl
          rw [g2.inv0, List.append_nil] at hq
          refine ⟨rfl, fun p hp => ?_⟩
          simp only [Sh.blks, List.mem_cons] at hp
          rcases hp with rfl | hp
          · rw [hq]; exact .box g1
          · exact g3 p hp
      · cases hd2
    · cases hd2
  | .non, _, rest, r, x, hd => by cases hd; exact ⟨rfl, fun p hp => by cases hp⟩
  | .seq a b, hro, rest, r, x, hd => by
    unfold Sh.isRoot at hro
    split at hro
    · rename_i ha
      unfold Sh.dec at hd
      split at hd
      · rename_i y q hy
        split at hd
        · rename_i z q' hz
          cases hd
          have hy' : a.dec h (rootV h a ++ (rootV h b ++ rest)) = some (y, q) := by rw [← List.append_assoc]; exact hy
          obtain ⟨rfl, g1⟩ := root_R hh a ha hy'
          obtain ⟨rfl, g2⟩ := root_R hh b hro hz
          refine ⟨rfl, ?_⟩
          show BR2 ln h' (a.blks (PT.fst a.u b.u a.dflt _) ++ b.blks (PT.snd a.u b.u b.dflt _))
          rw [Sh.fst, Sh.snd]
          exact g1.append g2
        · cases hd
      · cases hd
    · cases hro
  | .dat _, h, _, _, _, _ => by cases h
  | .sub _ _, h, _, _, _, _ => by cases h
  | .alo _, h, _, _, _, _ => by cases h
  | .ptr .., h, _, _, _, _ => by cases h
  | .pto .., h, _, _, _, _ => by cases h
  | .ptw .., h, _, _, _, _ => by cases h
  | .sbo .., h, _, _, _, _ => by cases h
  | .lit _, h, _, _, _, _ => by cases h
  | .fn _ _, h, _, _, _, _ => by cases h
  | .agg _, h, _, _, _, _ => by cases h
  | .tup _, h, _, _, _, _ => by cases h
end
end Go.Ev
end

section
set_option linter.unusedVariables false
set_option linter.unusedSimpArgs false
set_option linter.unnecessarySimpa false
namespace Go.Ev
open Go

section
variable {ln ln' : Nat → Option (Nat × Nat)} {E : Env} {C : CallF} {G : GT} {L : LT}

/-! ### Results and states by codes -/
theorem hp_OB {h h' : Nat → Option Blk} (hh : HR ln h h') {l : List (Nat × Blk)} {ns : List Nat} (hb : BR2 ln h' l) (hn : ∀ b ∈ ns, ∃ blk, (b, blk) ∈ l) {m : Bool} {r : List Nat} (hc : covB m h ns r = true) : ∀ b ∈ r, OB ln b (hof l b) (h' b) := by
  intro b hbr
  rcases hof_get (l := l) (b := b) with ⟨h1, h2⟩ | ⟨blk, h1, h2⟩
  · rw [h1]
    rcases cov_spec hc b hbr with h3 | ⟨_, h3⟩
    · obtain ⟨blk, h4⟩ := hn b h3
      exact absurd h4 (h2 blk)
    · have hob := hh b
      cases hV : h' b with
      | none => exact .none
      | some y =>
        rw [hV] at hob
        refine .dead ?_
        generalize hq : h b = u at hob
        cases hob with
        | dead hd => exact hd
        | box _ => exact absurd (h3 _ hq) (by simp)
        | arr => rfl
  · rw [h1]; exact hb _ h2
theorem rngL_mem : ∀ {n o i : Nat}, o ≤ i → i < o + n → i ∈ rngL o n
  | 0, o, i, h1, h2 => by omega
  | n + 1, o, i, h1, h2 => by
    unfold rngL
    by_cases h : i = o
    · subst h; simp
    · exact List.mem_cons_of_mem _ (rngL_mem (by omega) (by omega))
theorem upsOf_get {h : Nat → Option Blk} : ∀ {l : List Nat} {i : Nat}, (upsOf h l)[i]? = (l[i]?).map h
  | [], i => by simp [upsOf]
  | b :: r, 0 => rfl
  | b :: r, i + 1 => by simpa [upsOf] using upsOf_get (l := r) (i := i)
theorem newsOf_get {h : Nat → Option Blk} : ∀ {l : List Nat} {i b : Nat} {x : Blk}, l[i]? = some b → h b = some x → (newsOf h l)[i]? = some x
  | [], i, b, x, h1, _ => by simp at h1
  | c :: r, 0, b, x, h1, h2 => by
    simp at h1; subst h1
    simp [newsOf, h2]
  | c :: r, i + 1, b, x, h1, h2 => by
    simpa [newsOf] using newsOf_get (l := r) (i := i) (by simpa using h1) h2
theorem upsOf_len {h : Nat → Option Blk} : ∀ {l : List Nat}, (upsOf h l).length = l.length
  | [] => rfl
  | b :: r => by simp [upsOf, upsOf_len (l := r)]
theorem newsOf_len {h : Nat → Option Blk} : ∀ {l : List Nat}, (newsOf h l).length = l.length
  | [] => rfl
  | b :: r => by simp [newsOf, newsOf_len (l := r)]
theorem RC.dec_R {c : RC} {r r' : Ret} {x : c.T} {m : Nat} {ln0 : Nat → Option (Nat × Nat)} (hd : c.dec r = some x) (hr : RetR ln0 m r r' ln) : RetR ln0 m (c.ret x) r' ln := by
  unfold RC.dec at hd
  obtain ⟨hc, hd⟩ := ck_eq hd
  simp only [Bool.and_eq_true] at hc
  obtain ⟨hro, h1, h2, h3, h4⟩ := hc
  have e1 := beq_nat h1
  have e2 := beq_nat h2
  have hh : HR ln (ofL (r.2.1 ++ r.2.2.map some)) (ofL (r'.2.1 ++ r'.2.2.map some)) := hr.h
  split at hd
  · rename_i y hy
    split at hd
    · rename_i z hz
      cases hd
      obtain ⟨_, g1⟩ := root_R hh c.root hro (rest := []) (by rw [List.append_nil]; exact hy)
      obtain ⟨w1, w2, hw, g2, g3, g4⟩ := Sh.dec_R hh c.v hz (Rows.cons hr.v .nil)
      have hw2 := g3.inv0
      subst hw2
      rw [List.append_nil] at hw
      subst hw
      have hm : c.m = m := e1.symm.trans hr.lu
      have hn : c.n = r.2.2.length := e2.symm
      have hpe : c.hp (PT.mk c.root.u c.v.u y z) = hof (c.root.blks y ++ c.v.blks z) := by
        unfold RC.hp
        rw [Sh.fst, Sh.snd]
      have hb := g1.append g4
      have hnum : ∀ b ∈ c.root.nums ++ c.v.nums, ∃ blk, (b, blk) ∈ c.root.blks y ++ c.v.blks z := fun b hb => by
        rcases List.mem_append.1 hb with hb | hb
        · obtain ⟨blk, h⟩ := Sh.nums_blks c.root y b hb; exact ⟨blk, List.mem_append_left _ h⟩
        · obtain ⟨blk, h⟩ := Sh.nums_blks c.v z b hb; exact ⟨blk, List.mem_append_right _ h⟩
      have o1 := hp_OB hh hb hnum h3
      have o2 := hp_OB hh hb hnum h4
      have hnew : ∀ i, i < c.n → ∃ blk, hof (c.root.blks y ++ c.v.blks z) (c.m + i) = some blk := fun i hi => by
        rcases cov_spec h4 (c.m + i) (rngL_mem (by omega) (by omega)) with h5 | ⟨h5, _⟩
        · obtain ⟨blk, h6⟩ := hnum _ h5
          rcases hof_get (l := c.root.blks y ++ c.v.blks z) (b := c.m + i) with ⟨_, h8⟩ | ⟨blk', h7, _⟩
          · exact absurd h6 (h8 blk)
          · exact ⟨blk', h7⟩
        · cases h5
      have hret : c.ret (PT.mk c.root.u c.v.u y z) = (oneV (c.v.enc z), upsOf (hof (c.root.blks y ++ c.v.blks z)) (rngL 0 c.m), newsOf (hof (c.root.blks y ++ c.v.blks z)) (rngL c.m c.n)) := by
        unfold RC.ret
        rw [hpe, Sh.snd]
      rw [show (PT.mk c.root.u c.v.u y z : c.T) = PT.mk c.root.u c.v.u y z from rfl, hret]
      refine ⟨hr.old, fun b hb => hr.new b ?_, ?_, ?_, hr.lu', ?_, fun b => ?_⟩
      · simp only [newsOf_len, rngL_length] at hb
        omega
      · show R ln (oneV (c.v.enc z)) r'.1
        have hlen := g2.1
        cases he : c.v.enc z with
        | nil => rw [he] at hlen; cases hlen
        | cons v q =>
          rw [he] at g2
          obtain ⟨y', q', h5, h6, h7⟩ := g2.inv
          cases h5
          cases q with
          | nil => exact h6
          | cons a b => have := h7.1; simp at this
      · simp only [upsOf_len, rngL_length]; exact hm
      · simp only [newsOf_len, rngL_length]; rw [hn]; exact hr.ln
      · show OB ln b (ofL (upsOf (hof (c.root.blks y ++ c.v.blks z)) (rngL 0 c.m) ++ (newsOf (hof (c.root.blks y ++ c.v.blks z)) (rngL c.m c.n)).map some) b) _
        by_cases hb1 : b < c.m
        · have : ofL (upsOf (hof (c.root.blks y ++ c.v.blks z)) (rngL 0 c.m) ++ (newsOf (hof (c.root.blks y ++ c.v.blks z)) (rngL c.m c.n)).map some) b = hof (c.root.blks y ++ c.v.blks z) b := by
            unfold ofL
            rw [List.getElem?_append_left (by rw [upsOf_len, rngL_length]; exact hb1), upsOf_get, rngL_get c.m 0 b hb1, Nat.zero_add]; rfl
          rw [this]
          exact o1 b (rngL_mem (by omega) (by omega))
        · by_cases hb2 : b < c.m + c.n
          · obtain ⟨i, rfl⟩ : ∃ i, b = c.m + i := ⟨b - c.m, by omega⟩
            obtain ⟨blk, hbk⟩ := hnew i (by omega)
            have : ofL (upsOf (hof (c.root.blks y ++ c.v.blks z)) (rngL 0 c.m) ++ (newsOf (hof (c.root.blks y ++ c.v.blks z)) (rngL c.m c.n)).map some) (c.m + i) = some blk := by
              unfold ofL
              rw [List.getElem?_append_right (by rw [upsOf_len, rngL_length]; omega), upsOf_len, rngL_length, Nat.add_sub_cancel_left, List.getElem?_map, newsOf_get (rngL_get c.n c.m i (by omega)) hbk]; rfl
            rw [this, ← hbk]
            exact o2 _ (rngL_mem (by omega) (by omega))
          · have e3 : ofL (upsOf (hof (c.root.blks y ++ c.v.blks z)) (rngL 0 c.m) ++ (newsOf (hof (c.root.blks y ++ c.v.blks z)) (rngL c.m c.n)).map some) b = none := by
              unfold ofL
              rw [List.getElem?_eq_none (by simp [upsOf_len, newsOf_len, rngL_length]; omega)]; rfl
            have e4 : ofL (r'.2.1 ++ r'.2.2.map some) b = none := by
              unfold ofL
              rw [List.getElem?_eq_none (by simp [hr.lu', ← hr.ln]; omega)]; rfl
            rw [e3, e4]; exact .none
    · cases hd
  · cases hd
theorem RCs.dec_R : ∀ {c : RCs} {r r' : Ret} {x : c.T} {m : Nat} {ln0 : Nat → Option (Nat × Nat)}, c.dec r = some x → RetR ln0 m r r' ln → RetR ln0 m (c.alt.val x) r' ln
  | .one c, r, r', x, m, ln0, hd, hr => RC.dec_R (c := c) hd hr
  | .two a b, r, r', x, m, ln0, hd, hr => by
    unfold RCs.dec at hd
    split at hd
    · rename_i y hy
      cases hd
      exact RCs.dec_R (c := a) hy hr
    · split at hd
      · rename_i y hy
        cases hd
        exact RCs.dec_R (c := b) hy hr
      · cases hd
theorem tmsS_R {s s' : St} (hS : SRel ln wn s s') : ∀ {ts : List Nat} {vs : List V}, tmsS s.tm ts = some vs → noJ vs = true → ∃ ws, tmsS s'.tm ts = some ws ∧ RL ln vs ws
  | [], vs, h, _ => by cases h; exact ⟨[], rfl, .nil⟩
  | t :: r, vs, h, hj => by
    unfold tmsS at h
    obtain ⟨v, hv, h⟩ := bnd_eq h
    obtain ⟨q, hq, h⟩ := bnd_eq h
    cases h
    obtain ⟨w, hw, hr⟩ := hS.tm t v hv
    have hrv : R ln v w ∧ noJ q = true := by
      cases hr with
      | val h =>
        refine ⟨h, ?_⟩
        cases h <;> exact hj
      | jnk => cases hj
      | gd => cases hj
    obtain ⟨ws, h1, h2⟩ := tmsS_R hS hq hrv.2
    exact ⟨w :: ws, by unfold tmsS; rw [hw, bnd_intro rfl, h1, bnd_intro rfl], Rows.cons hrv.1 h2⟩
theorem zipT_R {tm' : Nat → Option V} : ∀ {ts : List Nat} {vs ws : List V}, tmsS tm' ts = some ws → RL ln vs ws → ∀ t v, ofT (zipT ts vs) t = some v → ∃ w, tm' t = some w ∧ R ln v w
  | [], vs, ws, h, hr, t, v, hv => by cases vs <;> cases hv
  | u :: r, vs, ws, h, hr, t, v, hv => by
    unfold tmsS at h
    obtain ⟨w, hw, h⟩ := bnd_eq h
    obtain ⟨q, hq, h⟩ := bnd_eq h
    cases h
    cases vs with
    | nil => cases hv
    | cons x vs =>
      obtain ⟨w', q', e, h1, h2⟩ := hr.inv
      cases e
      unfold zipT ofT at hv
      by_cases ht : t = u
      · subst ht
        rw [set_same] at hv
        cases hv
        exact ⟨w, hw, h1⟩
      · rw [set_ne ht] at hv
        exact zipT_R hq h2 t v hv
theorem LC.dec_R {c : LC} {s s' : St} {x : c.T} (hd : c.dec s = some x) (hS : SC ln s s') : SC ln (c.st x) s' := by
  unfold LC.dec at hd
  obtain ⟨hc, hd⟩ := ck_eq hd
  simp only [Bool.and_eq_true] at hc
  obtain ⟨hro, h1, h2, h3, h4⟩ := hc
  have hh := hS.r.h
  split at hd
  · rename_i y hy
    obtain ⟨vs, hvs, hd⟩ := bnd_eq hd
    obtain ⟨hj, hd⟩ := ck_eq hd
    split at hd
    · rename_i z hz
      cases hd
      obtain ⟨ws, hws, hrl⟩ := tmsS_R hS.r hvs hj
      obtain ⟨_, g1⟩ := root_R hh c.root hro (rest := []) (by rw [List.append_nil]; exact hy)
      obtain ⟨w1, w2, hw, g2, g3, g4⟩ := Sh.dec_R hh c.v hz hrl
      have hw2 := g3.inv0
      subst hw2
      rw [List.append_nil] at hw
      subst hw
      have hb := g1.append g4
      have hnum : ∀ b ∈ c.root.nums ++ c.v.nums, ∃ blk, (b, blk) ∈ c.root.blks y ++ c.v.blks z := fun b hb => by
        rcases List.mem_append.1 hb with hb | hb
        · obtain ⟨blk, h⟩ := Sh.nums_blks c.root y b hb; exact ⟨blk, List.mem_append_left _ h⟩
        · obtain ⟨blk, h⟩ := Sh.nums_blks c.v z b hb; exact ⟨blk, List.mem_append_right _ h⟩
      have o1 := hp_OB hh hb hnum h4
      have hst : c.st (PT.mk c.root.u c.v.u y z) = ⟨ofT (zipT c.ts (c.v.enc z)), hof (c.root.blks y ++ c.v.blks z), c.nx, c.nt, c.ni⟩ := by
        unfold LC.st LC.hp
        rw [Sh.fst, Sh.snd]
      rw [show (PT.mk c.root.u c.v.u y z : c.T) = PT.mk c.root.u c.v.u y z from rfl, hst]
      have hfree : ∀ b, s'.nx ≤ b → hof (c.root.blks y ++ c.v.blks z) b = none := fun b hb2 => by
        rcases hof_get (l := c.root.blks y ++ c.v.blks z) (b := b) with ⟨h5, _⟩ | ⟨blk, h5, h6⟩
        · exact h5
        · have := hb _ h6
          simp only at this
          rw [hS.f.V b hb2] at this
          cases this
      refine ⟨⟨fun t v ht => ?_, fun b => ?_, ?_, ?_⟩, ⟨hS.f.l, hfree, hS.f.V⟩, ?_, hS.le⟩
      · obtain ⟨w, h5, h6⟩ := zipT_R hws g2 t v ht
        exact ⟨w, h5, .val h6⟩
      · show OB ln b (hof (c.root.blks y ++ c.v.blks z) b) (s'.h b)
        by_cases hbn : b < s'.nx
        · exact o1 b (rngL_mem (by omega) (by rw [hS.nx]; omega))
        · rw [hfree b (by omega), hS.f.V b (by omega)]; exact .none
      · exact (beq_nat h2).symm.trans hS.r.nt
      · exact (beq_nat h3).symm.trans hS.r.ni
      · exact (beq_nat h1).symm.trans hS.nx
    · cases hd
  · cases hd
theorem exB_eq {e e' : Exit} (h : exB e e' = true) : e = e' := by
  unfold exB at h
  split at h
  · rfl
  · rfl
  · rw [beq_nat h]
  · cases h
theorem LCs.dec_R : ∀ {c : LCs} {e : Exit} {s s' : St} {x : c.T}, c.dec e s = some x → SC ln s s' → SC ln (c.alt.val x).2 s' ∧ (c.alt.val x).1 = e
  | .one e c, e', s, s', x, hd, hS => by
    obtain ⟨he, hd⟩ := ck_eq hd
    exact ⟨LC.dec_R (c := c) hd hS, exB_eq he⟩
  | .two a b, e, s, s', x, hd, hS => by
    unfold LCs.dec at hd
    split at hd
    · rename_i y hy
      cases hd
      exact LCs.dec_R (c := a) hy hS
    · split at hd
      · rename_i y hy
        cases hd
        exact LCs.dec_R (c := b) hy hS
      · cases hd
theorem LCs.st_val : ∀ {c : LCs} {x : c.T}, (c.alt.val x).2 = c.st x
  | .one e c, x => rfl
  | .two a b, x => by
    cases x with
    | inl y => exact LCs.st_val (c := a) (x := y)
    | inr y => exact LCs.st_val (c := b) (x := y)

/-! ### Loops -/
theorem nrmX_R {f i : Nat} {e : Exit} {s s1 s' : St} (h : kNrmX E f i e s = some s1) (hS : SC ln s s') (he : e ≠ .normal) : ∃ s1' ln1, nrmX E f i (e, s') = some (e, s1') ∧ SC ln1 s1 s1' ∧ (∀ b, b < s'.ni → ln1 b = ln b) ∧ s1'.ni = s'.ni := by
  cases e with
  | normal => exact absurd rfl he
  | exit j =>
    obtain ⟨s1', ln1, h1, h2, h3⟩ := nrm_R h hS
    exact ⟨s1', ln1, by unfold nrmX; simp only [h1, bnd], h2, h3⟩
  | ret =>
    obtain ⟨s1', ln1, h1, h2, h3⟩ := nrm_R h hS
    exact ⟨s1', ln1, by unfold nrmX; simp only [h1, bnd], h2, h3⟩
  | _ => cases h
theorem iter_R (hG : GOK C G) {f i : Nat} {a : Code} (hn : NdC a) (hl : ∀ p ∈ loopsOf a i, LOK E C L f p.1 p.2) {l : LS} (hB : ∀ x : l.hd.T, kRound E G L f i a (l.hd.st x) l.rd = l.B x) :
    ∀ (n : Nat) (x : l.hd.T) (y : l.ou.T), iter l.B n x = some y → ∀ (ln : Nat → Option (Nat × Nat)) (s' : St), SC ln (l.hd.st x) s' → ∃ s1' ln1, bnd (loop (evC E C f a i) (nrm E.P (E.An f i)) n s') (nrmX E f i) = some ((l.ou.alt.val y).1, s1') ∧ SC ln1 (l.ou.alt.val y).2 s1' ∧ (∀ b, b < s'.ni → ln1 b = ln b) ∧ s1'.ni = s'.ni
  | 0, x, y, h => by cases h
  | n + 1, x, y, h => by
    intro ln s' hS
    unfold iter at h
    have hb := hB x
    have step : ∀ res, l.B x = some res → ∃ e s1 s2 s1' ln1, evC E C f a i s' = some (e, s1') ∧ SC ln1 s1 s1' ∧ kNrmX E f i e s1 = some s2 ∧ l.rd e s2 = some res ∧ (∀ b, b < s'.ni → ln1 b = ln b) ∧ s1'.ni = s'.ni := fun res hr => by
      rw [hr] at hb
      unfold kRound at hb
      obtain ⟨e, s1, s1', ln1, h1, h2, h3, hk, _⟩ := code_R hG a hn i hl none _ s' ln _ res (.inl rfl) hb hS
      obtain ⟨s2, h4, h5⟩ := bndF_eq h3
      exact ⟨e, s1, s2, s1', ln1, h1, h2, h4, h5, hk⟩
    split at h
    · rename_i x2 hx2
      obtain ⟨e, s1, s2, s1', ln1, h1, h2, h3, h4, hk1, hk2⟩ := step _ hx2
      have he : e = .normal := by
        cases e <;> first | rfl | (unfold LS.rd at h4; simp only at h4; split at h4 <;> cases h4)
      subst he
      unfold LS.rd at h4
      simp only at h4
      split at h4
      · rename_i x3 hx3
        cases h4
        obtain ⟨s2', ln2, h5, h6, h6b, h6c⟩ := nrm_R h3 h2
        have h7 := (LCs.dec_R hx3 h6).1
        rw [LCs.st_val] at h7
        obtain ⟨s3', ln3, h8, h9, h9b, h9c⟩ := iter_R hG hn hl hB n _ y h ln2 s2' h7
        refine ⟨s3', ln3, ?_, h9, fun b hb => by rw [h9b b (by omega), h6b b (by omega), hk1 b hb], by omega⟩
        have : loop (evC E C f a i) (nrm E.P (E.An f i)) (n + 1) s' = loop (evC E C f a i) (nrm E.P (E.An f i)) n s2' := by
          conv => lhs; unfold loop
          rw [h1, bnd_intro rfl]
          simp only [h5, bnd]
        rw [this]
        exact h8
      · cases h4
    · rename_i y2 hy2
      cases h
      obtain ⟨e, s1, s2, s1', ln1, h1, h2, h3, h4, hk1, hk2⟩ := step _ hy2
      have he : e ≠ .normal := fun he => by
        subst he
        unfold LS.rd at h4
        simp only at h4
        split at h4 <;> cases h4
      have h5 : l.ou.dec e s2 = some y := by
        unfold LS.rd at h4
        split at h4
        · exact absurd rfl he
        · split at h4
          · rename_i hq; cases h4; exact hq
          · cases h4
      obtain ⟨s2', ln2, h6, h7, h7b, h7c⟩ := nrmX_R h3 h2 he
      obtain ⟨h8, h9⟩ := LCs.dec_R h5 h7
      refine ⟨s2', ln2, ?_, h8, fun b hb => by rw [h7b b (by omega), hk1 b hb], by omega⟩
      have : loop (evC E C f a i) (nrm E.P (E.An f i)) (n + 1) s' = some (e, s1') := by
        unfold loop
        rw [h1, bnd_intro rfl]
        cases e <;> first | rfl | exact absurd rfl he
      rw [this, bnd_intro rfl, h6, h9]
    · cases h
/-- What is said of a loop is so, if it is so of a round. -/
def LSok (E : Env) (C : CallF) (f i : Nat) (a : Code) (l : LS) : Prop := ∀ s sp y, l.g s = some sp → sp.o = some y → LpOK E C f i a s (sp.alt.val y)
theorem loop_ok (hG : GOK C G) {f i : Nat} {a : Code} (hn : NdC a) (hl : ∀ p ∈ loopsOf a i, LOK E C L f p.1 p.2) {l : LS} (hB : ∀ x : l.hd.T, kRound E G L f i a (l.hd.st x) l.rd = l.B x) : LSok E C f i a l := by
  intro s sp y hg ho ln s' hS
  unfold LS.g at hg
  split at hg
  · rename_i x hx
    cases hg
    have h1 := (LCs.dec_R hx hS).1
    rw [LCs.st_val] at h1
    exact iter_R hG hn hl hB fuel x y ho ln s' h1
  · cases hg
theorem LofL_ok {f : Nat} {l : List (Nat × LS)} {i : Nat} {a : Code} (h : ∀ p ∈ l, p.1 = i → LSok E C f i a p.2) : LOK E C (LofL [(f, l)]) f i a := by
  intro s sp y hg ho
  unfold LofL at hg
  rw [Nat.beq_refl] at hg
  simp only at hg
  induction l with
  | nil => cases hg
  | cons p r ih =>
    obtain ⟨j, ls⟩ := p
    unfold LofL.A at hg
    split at hg
    · rename_i hj
      have hji := beq_nat hj
      split at hg
      · rename_i sp' hsp
        cases hg
        exact h _ List.mem_cons_self hji s sp y hsp ho
      · exact ih (fun p hp => h p (List.mem_cons_of_mem _ hp)) hg
    · exact ih (fun p hp => h p (List.mem_cons_of_mem _ hp)) hg
end
end Go.Ev
end
