/- A part of the proof: texts of the author, joined. -/
import Derived.Test.YtiddpfhpmodfbaaGreatDoorKE3
section
set_option linter.unusedVariables false
set_option linter.unusedSimpArgs false
set_option linter.unnecessarySimpa false
namespace Go.Ev
open Go

section
variable {ln : Nat → Option (Nat × Nat)} {k : Nat} {hK hV : Nat → Option Blk} {o : Operand → Option V} {tm : Nat → Option V} {E : Env} {call : CallF}

theorem FR.opt (ho : FR ln o tm) {x : Option Operand} {v : Option V} (h : kOpt o x = some v) : (x = none ∧ v = none) ∨ ∃ a q w, x = some a ∧ v = some q ∧ opd tm a = some w ∧ R ln q w := by
  cases x with
  | none => cases h; exact .inl ⟨rfl, rfl⟩
  | some l =>
    obtain ⟨q, hq, h⟩ := bnd_eq h
    cases h
    obtain ⟨w, hw, hr⟩ := ho l q hq
    exact .inr ⟨l, q, w, rfl, rfl, hw, hr⟩
theorem DR.newBox {sz : Nat} {cs vs : List V} {ob : List Bool} (h : RL ln cs vs) : DR ln k ⟨some (.ptr k sz 0 0), [⟨true, false, sz, [cs]⟩], [], ob⟩ ⟨some (.ptr k sz 0 0), [⟨true, false, sz, [vs]⟩], []⟩ ln := by
  refine ⟨fun _ _ h => h, fun _ _ => rfl, .inr ⟨_, _, rfl, rfl, .ptr⟩, ⟨rfl, fun i x y h1 h2 => ?_⟩, .nil⟩
  cases i with
  | zero => simp at h1 h2; subst h1; subst h2; exact .box h
  | succ i => simp at h1
theorem nCap_spec {P : Program} {e : Nat} {n : Int} (h : nCap (tbytes P e) n = true) : 0 ≤ n ∧ capLim P e n.toNat := by
  unfold nCap at h
  simp only [Bool.and_eq_true, decide_eq_true_eq] at h
  obtain ⟨h1, h2⟩ := h
  refine ⟨h1, ?_⟩
  unfold capLim
  obtain ⟨m, rfl⟩ := Int.eq_ofNat_of_zero_le h1
  have e1 : ((m * (tbytes P e + 1) : Nat) : Int) = (m : Int) * ((tbytes P e : Int) + 1) := by rw [Int.natCast_mul, Int.natCast_add]; rfl
  rw [Int.toNat_natCast]
  omega
/-- Every operation but `pick` and the calls of functions. -/
theorem op_R {op : Op} {d : KD} (h : kOp E o hK k op = some d) (hob : obs d) (hk : ln k = none) (ho : FR ln o tm) (hh : HR ln hK hV) : ∃ d' ln', evOp E call tm hV k op = some d' ∧ DR ln k d d' ln' := by
  have pr : ∀ {x : Option V}, PR ln k d x → ∀ {y : Option Dl}, (∀ w, x = some w → y = pureD w) → ∃ d' ln', y = some d' ∧ DR ln k d d' ln' := fun ⟨w, hw, hd⟩ y hy => ⟨_, ln, hy w hw, hd⟩
  cases op <;> first | (cases h; done) | skip
  case move x =>
    obtain ⟨v, hv, h⟩ := bnd_eq h
    have hd := kp_inv h; subst hd
    obtain ⟨w, hw, hr⟩ := ho x v hv
    exact ⟨_, ln, by simp only [evOp, hw, bnd]; rfl, .pure hr⟩
  case assign x =>
    obtain ⟨v, hv, h⟩ := bnd_eq h
    have hd := kp_inv h; subst hd
    obtain ⟨w, hw, hr⟩ := ho x v hv
    exact ⟨_, ln, by simp only [evOp, hw, bnd]; rfl, .pure hr⟩
  case alloc t =>
    obtain ⟨z, hz, h⟩ := bnd_eq h
    obtain ⟨h1, h⟩ := ck_eq h
    obtain ⟨h2, h⟩ := ck_eq h
    cases h
    exact ⟨_, ln, by simp only [evOp, hz, bnd]; rw [grd_intro ⟨beq_nat h1, h2⟩], .newBox (tzero_R hz).cells⟩
  case box t x =>
    obtain ⟨v, hv, h⟩ := bnd_eq h
    obtain ⟨h1, h⟩ := ck_eq h
    obtain ⟨h2, h⟩ := ck_eq h
    cases h
    obtain ⟨w, hw, hr⟩ := ho x v hv
    have e1 := beq_nat h1
    rw [hr.cells_len] at e1
    rw [hr.cells.ones] at h2
    exact ⟨_, ln, by simp only [evOp, hw, bnd]; rw [grd_intro ⟨e1, h2⟩], .newBox hr.cells⟩
  case build t parts =>
    obtain ⟨pl, hpl, h⟩ := bnd_eq h
    obtain ⟨z, hz, h⟩ := bnd_eq h
    obtain ⟨cs, hcs, h⟩ := bnd_eq h
    have hd := kp_inv h; subst hd
    obtain ⟨vs, h1, h2⟩ := fillC_R ho hcs (tzero_R hz).cells
    exact ⟨_, ln, by simp only [evOp, hpl, hz, h1, bnd]; rfl, .pure (.agg h2.1 h2.2)⟩
  case buildSlice t len parts =>
    obtain ⟨e, he, h⟩ := bnd_eq h
    obtain ⟨ty, hty, h⟩ := bnd_eq h
    obtain ⟨hs, h⟩ := ck_eq h
    obtain ⟨x0, hx0, h⟩ := bnd_eq h
    have hs := beq_nat hs
    obtain ⟨z, hz, hzl, hzc⟩ := kZero_R hx0
    split at h
    · rename_i hl0
      obtain ⟨hp, h⟩ := ck_eq h
      cases h
      refine ⟨⟨some (.ref k (tsz E.P e) 0 0), [⟨false, true, tsz E.P e, []⟩], []⟩, lnS ln k (tsz E.P e, 0), by simp only [evOp, he, hz, bnd, hl0, hp, cnd, if_true], ?_⟩
      have := DR.newArr (k := k) (ob := []) (up := []) (up' := []) hk (t := ty) (l := []) (fl := true) (fun _ => rfl) .nil .nil
      rw [hs] at this
      exact this
    · rename_i hl0
      obtain ⟨h1, h⟩ := ck_eq h
      obtain ⟨h2, h⟩ := ck_eq h
      obtain ⟨l, hl, h⟩ := bnd_eq h
      cases h
      obtain ⟨es, h3, h4⟩ := fill_R hs ho hl (Rows.replicate hzc len)
      obtain ⟨f1, f2, f3⟩ := allRows h4
      have hll : l.length = len := by
        have : ∀ (parts : List (Nat × Operand)) (l l' : List ty.T), kFill o ty parts l = some l' → l'.length = l.length := by
          intro parts
          induction parts with
          | nil => intro l l' h; cases h; rfl
          | cons p r ih =>
            intro l l' h
            obtain ⟨i, x⟩ := p
            unfold kFill at h
            obtain ⟨v, hv, h⟩ := bnd_eq h
            obtain ⟨y, hy, h⟩ := bnd_eq h
            obtain ⟨hi, h⟩ := ck_eq h
            rw [ih _ _ h, List.length_set]
        rw [this _ _ _ hl, List.length_replicate]
      have hpos : 0 < len := by
        cases len with
        | zero => cases hl0
        | succ n => exact Nat.succ_pos n
      refine ⟨⟨some (.ref k (tsz E.P e) 0 len), [⟨false, fltsL es, tsz E.P e, es⟩], []⟩, lnS ln k (tsz E.P e, len), ?_, ?_⟩
      · simp only [evOp, he, hz, bnd, hl0, cnd, Bool.false_eq_true, if_false]
        rw [grd_intro ⟨hzl, blt_nat h1, hpos, ble_nat h2⟩]
        simp only [h3, f1, f2, Bool.and_self, if_true]
      · have := DR.newArr (k := k) (ob := []) (up := []) (up' := []) hk f3 h4 .nil
        rw [hs, hll] at this
        exact this
  case makeSlice t len cap =>
    obtain ⟨e, he, h⟩ := bnd_eq h
    obtain ⟨ty, hty, h⟩ := bnd_eq h
    obtain ⟨hs, h⟩ := ck_eq h
    obtain ⟨x0, hx0, h⟩ := bnd_eq h
    obtain ⟨h1, h⟩ := ck_eq h
    obtain ⟨x, hx, h⟩ := bnd_eq h
    obtain ⟨y, hy, h⟩ := bnd_eq h
    have hs := beq_nat hs
    obtain ⟨z, hz, hzl, hzc⟩ := kZero_R hx0
    have hxy : ∃ k1 n k2 m, x = .lit (.int k1 n) ∧ y = .lit (.int k2 m) := by
      split at h <;> first | exact ⟨_, _, _, _, rfl, rfl⟩ | cases h
    · obtain ⟨k1, n, k2, m, rfl, rfl⟩ := hxy
      cases h
      obtain ⟨x', hx', hrx⟩ := ho len _ hx
      obtain ⟨y', hy', hry⟩ := ho cap _ hy
      cases hrx
      cases hry
      have hnm : n = m := by
        cases hsm : sameTmp len cap with
        | true =>
          unfold sameTmp at hsm
          split at hsm
          · have := beq_nat hsm
            subst this
            rw [hx] at hy
            cases hy; rfl
          · cases hsm
        | false =>
          have := hob (iEq n m) (by simp [hsm])
          simpa [iEq] using this
      have hcap : nCap (tbytes E.P e) n = true := by
        cases hsm : sameTmp len cap with
        | true => exact hob _ (by simp [hsm])
        | false => exact hob _ (by simp [hsm])
      obtain ⟨c1, c2⟩ := nCap_spec hcap
      subst hnm
      obtain ⟨f1, f2, f3, f4⟩ := RCell.facts _ _ _ hzc
      refine ⟨⟨some (.ref k (tsz E.P e) 0 n.toNat), [⟨false, flts z.cells, tsz E.P e, List.replicate n.toNat z.cells⟩], []⟩, lnS ln k (tsz E.P e, n.toNat), ?_, ?_⟩
      · simp only [evOp, he, hz, bnd, hx', hy']
        exact grd_intro ⟨hzl, f2, f3, blt_nat h1, c1, by first | trivial | rfl, c2⟩
      · have := DR.newArr (k := k) (ob := match sameTmp len cap with | true => [nCap (tbytes E.P e) n] | false => [iEq n n, nCap (tbytes E.P e) n]) (up := []) (up' := []) hk f4 (Rows.replicate hzc n.toNat) .nil
        rw [hs, List.length_replicate] at this
        exact this
  case load t a =>
    obtain ⟨p, hp, h⟩ := bnd_eq h
    obtain ⟨w, hw, hr⟩ := ho a p hp
    exact pr (load_R h hr hh) fun v hv => by simp only [evOp, hw, bnd, hv]
  case store t a x =>
    obtain ⟨p, hp, h⟩ := bnd_eq h
    obtain ⟨v, hv, h⟩ := bnd_eq h
    obtain ⟨w, hw, hr⟩ := ho a p hp
    obtain ⟨u, hu, hq⟩ := ho x v hv
    obtain ⟨d', h1, h2⟩ := store_R (k := k) h hr hq hh
    exact ⟨d', ln, by simp only [evOp, hw, hu, bnd, h1], h2⟩
  case nilCheck x =>
    obtain ⟨v, hv, h⟩ := bnd_eq h
    obtain ⟨w, hw, hr⟩ := ho x v hv
    split at h <;> first | (cases h; done) | skip
    all_goals
      have hd := kp_inv h; subst hd
      refine ⟨⟨some w, [], []⟩, ln, ?_, .pure hr⟩
      cases hr
      simp only [evOp, hw, bnd]; rfl
  case binOp op t x y yt =>
    obtain ⟨a, ha, h⟩ := bnd_eq h
    obtain ⟨b, hb, h⟩ := bnd_eq h
    obtain ⟨w, hw, hr⟩ := ho x a ha
    obtain ⟨u, hu, hq⟩ := ho y b hb
    exact pr (bin_R h hob hr hq) fun v hv => by simp only [evOp, hw, hu, bnd, hv]
  case unOp op t x =>
    obtain ⟨v, hv, h⟩ := bnd_eq h
    obtain ⟨w, hw, hr⟩ := ho x v hv
    split at h
    · cases hr
      cases op <;> first | (cases h; done) | skip
      have hd := kp_inv h; subst hd
      refine ⟨_, ln, by simp only [evOp, hw, bnd]; rfl, .pure ?_⟩
      rw [bNot_eq]; exact .lit
    · cases hr
      cases op <;> first | (cases h; done) | skip
      have hd := kp_inv h; subst hd
      exact ⟨_, ln, by simp only [evOp, hw, bnd]; rfl, .pure .lit⟩
    · cases h
  case convert s t x =>
    obtain ⟨v, hv, h⟩ := bnd_eq h
    obtain ⟨w, hw, hr⟩ := ho x v hv
    obtain ⟨d', ln', h1, h2⟩ := conv_R h hk hr hh
    exact ⟨d', ln', by simp only [evOp, hw, bnd, h1], h2⟩
  case fieldAddr t x f =>
    obtain ⟨v, hv, h⟩ := bnd_eq h
    obtain ⟨q, hq, h⟩ := bnd_eq h
    obtain ⟨h1, h⟩ := ck_eq h
    obtain ⟨w, hw, hr⟩ := ho x v hv
    have h1 : tsz E.P q.2 ≠ 0 := by have := blt_nat h1; omega
    split at h
    · have hd := kp_inv h; subst hd
      cases hr
      exact ⟨_, ln, by simp only [evOp, hw, hq, bnd]; rw [grd_intro h1]; rfl, .pure .ptr⟩
    · have hd := kp_inv h; subst hd
      cases hr with
      | pto a b c => exact ⟨_, ln, by simp only [evOp, hw, hq, bnd]; rw [grd_intro h1]; rfl, .pure (.pto a b c)⟩
    · have hd := kp_inv h; subst hd
      cases hr with
      | cur a b c e => exact ⟨_, ln, by simp only [evOp, hw, hq, bnd]; rw [grd_intro h1]; rfl, .pure (.cur a b c e)⟩
    · cases h
  case field t x f =>
    obtain ⟨v, hv, h⟩ := bnd_eq h
    obtain ⟨w, hw, hr⟩ := ho x v hv
    split at h
    · obtain ⟨q, hq, h⟩ := bnd_eq h
      obtain ⟨ag, hag, h⟩ := bnd_eq h
      obtain ⟨h1, h⟩ := ck_eq h
      obtain ⟨v, hv, h⟩ := bnd_eq h
      have hd := kp_inv h; subst hd
      cases hr with
      | agg hl hh2 =>
        have hrl : RL ln _ _ := ⟨hl, hh2⟩
        obtain ⟨u, h3, h4⟩ := mkV_R hv ((hrl.drop q.1).take (tsz E.P q.2))
        have h1 := ble_nat h1
        rw [hl] at h1
        exact ⟨_, ln, by simp only [evOp, hw, hq, hag, bnd]; rw [grd_intro h1, h3]; rfl, .pure h4⟩
    · cases h
  case indexAddr t x i =>
    obtain ⟨v, hv, h⟩ := bnd_eq h
    obtain ⟨j, hj, h⟩ := bnd_eq h
    obtain ⟨w, hw, hr⟩ := ho x v hv
    obtain ⟨u, hu, hq⟩ := ho i j hj
    split at h
    · cases hq
      exact pr (idx_R h hob hr hh) fun v hv => by simp only [evOp, hw, hu, bnd, hv]
    · cases h
  case index t x i =>
    obtain ⟨v, hv, h⟩ := bnd_eq h
    obtain ⟨j, hj, h⟩ := bnd_eq h
    obtain ⟨w, hw, hr⟩ := ho x v hv
    obtain ⟨u, hu, hq⟩ := ho i j hj
    split at h
    · cases hr
      cases hq
      obtain ⟨h1, h⟩ := ck_eq h
      have hd := kpo_inv h; subst hd
      have hin := oIn_spec (hob _ (List.mem_singleton.2 rfl))
      exact ⟨_, ln, by simp only [evOp, hw, hu, bnd, h1, cnd, if_true]; exact grd_intro hin, .pure .lit⟩
    · cases h
  case slice t x lo hi mx =>
    cases mx with
    | some m =>
      cases hi with
      | none => cases lo <;> cases h
      | some hi =>
      obtain ⟨v, hv, h⟩ := bnd_eq h
      obtain ⟨l, hl, h⟩ := bnd_eq h
      obtain ⟨u, hu, h⟩ := bnd_eq h
      obtain ⟨m', hm, h⟩ := bnd_eq h
      obtain ⟨w, hw, hr⟩ := ho x v hv
      obtain ⟨uw, huw, hur⟩ := ho hi u hu
      obtain ⟨mw, hmw, hmr⟩ := ho m m' hm
      rcases ho.opt hl with ⟨rfl, rfl⟩ | ⟨la, lq, lw, rfl, rfl, hlw, hlr⟩
      · obtain ⟨h1, h2⟩ := sliceM_R h hob hr (.inl ⟨rfl, rfl⟩) hur hmr hh
        exact ⟨_, ln, by simp only [evOp, hw, huw, hmw, bnd, h1], h2⟩
      · obtain ⟨h1, h2⟩ := sliceM_R h hob hr (.inr ⟨_, _, rfl, rfl, hlr⟩) hur hmr hh
        exact ⟨_, ln, by simp only [evOp, hw, hlw, huw, hmw, bnd, h1], h2⟩
    | none =>
      obtain ⟨v, hv, h⟩ := bnd_eq h
      obtain ⟨l, hl, h⟩ := bnd_eq h
      obtain ⟨u, hu, h⟩ := bnd_eq h
      obtain ⟨w, hw, hr⟩ := ho x v hv
      rcases ho.opt hl with ⟨rfl, rfl⟩ | ⟨la, lq, lw, rfl, rfl, hlw, hlr⟩ <;> rcases ho.opt hu with ⟨rfl, rfl⟩ | ⟨ua, uq, uw, rfl, rfl, huw, hur⟩
      · exact pr (slice_R h hob hr (.inl ⟨rfl, rfl⟩) (.inl ⟨rfl, rfl⟩) hh) fun v hv => by simp only [evOp, hw, bnd, hv]
      · exact pr (slice_R h hob hr (.inl ⟨rfl, rfl⟩) (.inr ⟨_, _, rfl, rfl, hur⟩) hh) fun v hv => by simp only [evOp, hw, huw, bnd, hv]
      · exact pr (slice_R h hob hr (.inr ⟨_, _, rfl, rfl, hlr⟩) (.inl ⟨rfl, rfl⟩) hh) fun v hv => by simp only [evOp, hw, hlw, bnd, hv]
      · exact pr (slice_R h hob hr (.inr ⟨_, _, rfl, rfl, hlr⟩) (.inr ⟨_, _, rfl, rfl, hur⟩) hh) fun v hv => by simp only [evOp, hw, hlw, huw, bnd, hv]
  case extract x i =>
    obtain ⟨v, hv, h⟩ := bnd_eq h
    obtain ⟨w, hw, hr⟩ := ho x v hv
    split at h
    · obtain ⟨v, hv, h⟩ := bnd_eq h
      have hd := kp_inv h; subst hd
      cases hr with
      | tup hl hh2 =>
        obtain ⟨u, h3, h4⟩ := Rows.at (P := R ln) ⟨hl, hh2⟩ hv
        exact ⟨_, ln, by simp only [evOp, hw, h3, bnd]; rfl, .pure h4⟩
    · cases h
  case makeFunc f first caps =>
    cases f <;> first | (cases h; done) | skip
    obtain ⟨h1, h⟩ := ck_eq h
    obtain ⟨vs, hvs, h⟩ := bnd_eq h
    have hd := kp_inv h; subst hd
    obtain ⟨ws, h3, h4⟩ := opds_R ho hvs
    exact ⟨_, ln, by simp only [evOp, h1, cnd, if_true, h3, bnd]; rfl, .pure (.fn h4.1 h4.2)⟩
  case call c =>
    obtain ⟨callee, args, ts⟩ := c
    cases callee <;> first | (cases h; done) | skip
    rename_i b
    cases b <;> first | (cases h; done) | skip
    case append =>
      obtain ⟨vs, hvs, h⟩ := bnd_eq h
      obtain ⟨ws, hws, hrl⟩ := opds_R ho hvs
      have hsh : ∃ x y t u, vs = [x, y] ∧ ts.toList = [t, u] := by
        split at h <;> first | (cases h; done) | skip
        rename_i heq
        exact ⟨_, _, _, _, rfl, heq⟩
      obtain ⟨x, y, t, u, rfl, hts⟩ := hsh
      simp only [hts] at h
      obtain ⟨h1, h⟩ := ck_eq h
      obtain ⟨x', r, rfl, hx, hr⟩ := hrl.inv
      obtain ⟨y', r, rfl, hy, hr⟩ := hr.inv
      obtain rfl := hr.inv0
      obtain ⟨d', ln', h2, h3⟩ := append_R h hob hk hx hy hh
      exact ⟨d', ln', by simp only [evOp, evCall, hws, hts, bnd, h1]; rw [cnd_t]; exact h2, h3⟩
    case clear =>
      obtain ⟨vs, hvs, h⟩ := bnd_eq h
      obtain ⟨ws, hws, hrl⟩ := opds_R ho hvs
      have hsh : ∃ x t, vs = [x] ∧ ts.toList = [t] := by
        split at h <;> first | (cases h; done) | skip
        rename_i heq
        exact ⟨_, _, rfl, heq⟩
      obtain ⟨x, t, rfl, hts⟩ := hsh
      simp only [hts] at h
      obtain ⟨x', r, rfl, hx, hr⟩ := hrl.inv
      obtain rfl := hr.inv0
      obtain ⟨d', h2, h3⟩ := clear_R (k := k) h hx hh tzero_R
      exact ⟨d', ln, by simp only [evOp, evCall, hws, hts, bnd, h2], h3⟩
    case copy =>
      obtain ⟨vs, hvs, h⟩ := bnd_eq h
      obtain ⟨ws, hws, hrl⟩ := opds_R ho hvs
      have hsh : ∃ x y t u, vs = [x, y] ∧ ts.toList = [t, u] := by
        split at h <;> first | (cases h; done) | skip
        rename_i heq
        exact ⟨_, _, _, _, rfl, heq⟩
      obtain ⟨x, y, t, u, rfl, hts⟩ := hsh
      simp only [hts] at h
      obtain ⟨x', r, rfl, hx, hr⟩ := hrl.inv
      obtain ⟨y', r, rfl, hy, hr⟩ := hr.inv
      obtain rfl := hr.inv0
      obtain ⟨d', h2, h3⟩ := copy_R h hx hy hh
      exact ⟨d', ln, by simp only [evOp, evCall, hws, hts, bnd, h2], h3⟩
    case len =>
      obtain ⟨vs, hvs, h⟩ := bnd_eq h
      obtain ⟨ws, hws, hrl⟩ := opds_R ho hvs
      have hsh : ∃ x t, vs = [x] ∧ ts.toList = [t] := by
        split at h <;> first | (cases h; done) | skip
        rename_i heq
        exact ⟨_, _, rfl, heq⟩
      obtain ⟨x, t, rfl, hts⟩ := hsh
      simp only [hts] at h
      obtain ⟨n, hn, h⟩ := bnd_eq h
      have hd := kp_inv h; subst hd
      obtain ⟨x', r, rfl, hx, hr⟩ := hrl.inv
      obtain rfl := hr.inv0
      exact ⟨_, ln, by simp only [evOp, evCall, hws, hts, bnd, len_R hn hx hh]; rfl, .pure .lit⟩
    case max =>
      obtain ⟨vs, hvs, h⟩ := bnd_eq h
      obtain ⟨ws, hws, hrl⟩ := opds_R ho hvs
      have hsh : ∃ i a j b, vs = [.lit (.int i a), .lit (.int j b)] := by
        split at h <;> first | (cases h; done) | skip
        exact ⟨_, _, _, _, rfl⟩
      obtain ⟨i, a, j, b, rfl⟩ := hsh
      have hd := kp_inv h; subst hd
      obtain ⟨x', r, rfl, hx, hr⟩ := hrl.inv
      obtain ⟨y', r, rfl, hy, hr⟩ := hr.inv
      obtain rfl := hr.inv0
      cases hx
      cases hy
      refine ⟨_, ln, by simp only [evOp, evCall, hws, bnd]; rfl, .pure ?_⟩
      have : sel (iLt a b) b a = if b > a then b else a := by
        unfold iLt
        by_cases hab : a < b
        · rw [if_pos hab, decide_eq_true hab]; rfl
        · rw [if_neg hab, decide_eq_false hab]; rfl
      rw [this]; exact .lit
    case min =>
      obtain ⟨vs, hvs, h⟩ := bnd_eq h
      obtain ⟨ws, hws, hrl⟩ := opds_R ho hvs
      have hsh : ∃ i a j b, vs = [.lit (.int i a), .lit (.int j b)] := by
        split at h <;> first | (cases h; done) | skip
        exact ⟨_, _, _, _, rfl⟩
      obtain ⟨i, a, j, b, rfl⟩ := hsh
      have hd := kp_inv h; subst hd
      obtain ⟨x', r, rfl, hx, hr⟩ := hrl.inv
      obtain ⟨y', r, rfl, hy, hr⟩ := hr.inv
      obtain rfl := hr.inv0
      cases hx
      cases hy
      refine ⟨_, ln, by simp only [evOp, evCall, hws, bnd]; rfl, .pure ?_⟩
      have : sel (iLt b a) b a = if b < a then b else a := by
        unfold iLt
        by_cases hab : b < a
        · rw [if_pos hab, decide_eq_true hab]; rfl
        · rw [if_neg hab, decide_eq_false hab]; rfl
      rw [this]; exact .lit
end
end Go.Ev
end

section
set_option linter.unusedVariables false
set_option linter.unusedSimpArgs false
set_option linter.unnecessarySimpa false
namespace Go.Ev
open Go

/-! ## Calls -/
section
variable {ln ln' : Nat → Option (Nat × Nat)} {k : Nat} {hK hV : Nat → Option Blk} {E : Env} {C : CallF} {G : GT}

theorem Alt.run_val {X S : Type} : ∀ {α : Type} (a : Alt X α), ∀ (y : α), ∃ x, ∀ (κ : X → Option S), a.run y κ = κ x
  | _, .one f, y => ⟨f y, fun _ => rfl⟩
  | _, .two a b, .inl u => let ⟨x, hx⟩ := Alt.run_val a u; ⟨x, fun κ => hx κ⟩
  | _, .two a b, .inr u => let ⟨x, hx⟩ := Alt.run_val b u; ⟨x, fun κ => hx κ⟩
/-- What is told. -/
def Alt.val {X : Type} : {α : Type} → Alt X α → α → X
  | _, .one f, y => f y
  | _, .two a b, y => match y with | .inl u => a.val u | .inr u => b.val u
theorem Alt.run_eq {X S : Type} : ∀ {α : Type} (a : Alt X α) (y : α) (κ : X → Option S), a.run y κ = κ (a.val y)
  | _, .one f, y, κ => rfl
  | _, .two a b, .inl u, κ => Alt.run_eq a u κ
  | _, .two a b, .inr u, κ => Alt.run_eq b u κ

def BL (ln : Nat → Option (Nat × Nat)) (bs bs' : List Blk) : Prop := bs.length = bs'.length ∧ ∀ i x y, bs[i]? = some x → bs'[i]? = some y → OB ln i (some x) (some y)
structure RetR (ln : Nat → Option (Nat × Nat)) (m : Nat) (r r' : Ret) (ln' : Nat → Option (Nat × Nat)) : Prop where
  old : ∀ b, b < m → ln' b = ln b
  new : ∀ b, m + r.2.2.length ≤ b → ln' b = none
  v : R ln' r.1 r'.1
  lu : r.2.1.length = m
  lu' : r'.2.1.length = m
  ln : r.2.2.length = r'.2.2.length
  h : ∀ b, OB ln' b (ofL (r.2.1 ++ r.2.2.map some) b) (ofL (r'.2.1 ++ r'.2.2.map some) b)
/-- What is said of a function is so. -/
def SpOK (C : CallF) (f : Nat) (as0 : List V) (bs : List Blk) (r : Ret) : Prop := ∀ (ln : Nat → Option (Nat × Nat)) (as' : List V) (bs' : List Blk), RL ln as0 as' → BL ln bs bs' → (∀ b, bs.length ≤ b → ln b = none) → ∃ r' ln', C f as' bs' = some r' ∧ RetR ln bs.length r r' ln'
def GOK (C : CallF) (G : GT) : Prop := ∀ f as0 bs sp y, G f as0 bs = some sp → sp.o = some y → SpOK C f as0 bs (sp.alt.val y)
theorem callS_inv {S : Type} {f : Nat} {as0 : List V} {bs : List Blk} {κ : Ret → Option S} {r : S} (hG : GOK C G) (h : callS G f as0 bs κ = some r) : ∃ q, SpOK C f as0 bs q ∧ κ q = some r := by
  unfold callS at h
  split at h
  · rename_i sp hsp
    unfold bndS at h
    split at h
    · rename_i y hy
      simp only [Alt.run_eq] at h
      exact ⟨_, hG f as0 bs sp y hsp hy, h⟩
    · cases h
  · cases h
theorem callG_inv {S : Type} {f : Nat} {as0 : List V} {bs : List Blk} {κ : Ret → Option S} {r : S} (hG : GOK C G) (h : callG G true f as0 bs κ = some r) : ∃ q, SpOK C f as0 bs q ∧ κ q = some r := by
  unfold callG at h
  split at h
  · rename_i sp hsp
    split at h
    · rename_i α o d w
      obtain ⟨h1, h⟩ := sel_some h
      have h1 : okS o = true := by
        unfold bOr bNot sel at h1
        cases hq : okS o with
        | true => rfl
        | false => rw [hq] at h1; cases h1
      cases o with
      | none => cases h1
      | some y =>
        have := hG f as0 bs _ y hsp rfl
        exact ⟨w y, this, h⟩
    · cases h
  · cases h

/-! ### Names of blocks -/
theorem ids_L {cs vs : List V} (hl : cs.length = vs.length) (h : ∀ (j : Nat) (v w : V), cs[j]? = some v → vs[j]? = some w → v.ids = w.ids) : V.ids.L cs = V.ids.L vs := by
  induction cs generalizing vs with
  | nil => cases vs with
    | nil => rfl
    | cons v vs => cases hl
  | cons c cs ih => cases vs with
    | nil => cases hl
    | cons v vs =>
      have h1 := h 0 c v rfl rfl
      have h2 := ih (by simpa using hl) fun j v w a b => h (j + 1) v w a b
      simp only [V.ids.L, h1, h2]
theorem R.ids {v w : V} (h : R ln v w) : v.ids = w.ids := by
  induction h with
  | arr h => rcases h with ⟨_, c, rfl⟩ | ⟨f, es, rfl, _⟩ <;> rfl
  | agg hl _ ih => exact ids_L hl ih
  | tup hl _ ih => exact ids_L hl ih
  | fn hl _ ih => exact ids_L hl ih
  | _ => rfl
theorem RL.ids {cs vs : List V} (h : RL ln cs vs) : V.ids.L cs = V.ids.L vs := ids_L h.1 fun j v w a b => (h.2 j v w a b).ids
theorem idsB_R (hh : HR ln hK hV) (b : Nat) : idsB hK b = idsB hV b := by
  have := hh b
  unfold idsB
  generalize hK b = x at *
  generalize hV b = y at *
  cases this with
  | none => rfl
  | dead h =>
    rename_i q
    obtain ⟨bx, fl, sz, es⟩ := q
    simp only at h
    subst h
    simp
  | box h => exact h.ids
  | arr => rfl
theorem reach_R (hh : HR ln hK hV) : ∀ (n : Nat) (l seen : List Nat), reach hK n l seen = reach hV n l seen
  | 0, _, _ => rfl
  | n + 1, [], _ => rfl
  | n + 1, b :: r, seen => by
    unfold reach
    rw [reach_R hh n r seen, idsB_R hh b, reach_R hh n (idsB hV b ++ r) (snoc seen b)]
theorem ren_L {f : Nat → Option Nat} {cs vs : List V} (hl : cs.length = vs.length) (h : ∀ (j : Nat) (v w : V), cs[j]? = some v → vs[j]? = some w → ∀ v1, v.ren f = some v1 → ∃ w1, w.ren f = some w1 ∧ R ln' v1 w1) {cs1 : List V} (hr : V.ren.L f cs = some cs1) : ∃ vs1, V.ren.L f vs = some vs1 ∧ RL ln' cs1 vs1 := by
  induction cs generalizing vs cs1 with
  | nil => cases vs with
    | nil => cases hr; exact ⟨[], rfl, .nil⟩
    | cons v vs => cases hl
  | cons c cs ih => cases vs with
    | nil => cases hl
    | cons v vs =>
      unfold V.ren.L at hr
      obtain ⟨c1, hc1, hr⟩ := bnd_eq hr
      obtain ⟨l1, hl1, hr⟩ := bnd_eq hr
      cases hr
      obtain ⟨w1, h1, h2⟩ := h 0 c v rfl rfl c1 hc1
      obtain ⟨vs1, h3, h4⟩ := ih (by simpa using hl) (fun j v w a b => h (j + 1) v w a b) hl1
      exact ⟨w1 :: vs1, by unfold V.ren.L; rw [h1, bnd_intro rfl, h3, bnd_intro rfl], Rows.cons h2 h4⟩
/-- Other names for the blocks. -/
theorem R.ren {v w : V} (h : R ln v w) {f : Nat → Option Nat} (hf : ∀ b c p, f b = some c → ln b = some p → ln' c = some p) : ∀ v1, v.ren f = some v1 → ∃ w1, w.ren f = some w1 ∧ R ln' v1 w1 := by
  induction h with
  | lit => intro v1 h1; cases h1; exact ⟨_, rfl, .lit⟩
  | arr h =>
    intro v1 h1
    cases h1
    rcases h with ⟨h0, c, rfl⟩ | ⟨f, es, rfl, hq⟩
    · exact ⟨_, rfl, .arr (.inl ⟨h0, c, rfl⟩)⟩
    · exact ⟨_, rfl, .arr (.inr ⟨f, es, rfl, hq⟩)⟩
  | emp => intro v1 h1; cases h1; exact ⟨_, rfl, .emp⟩
  | cur => intro v1 h1; cases h1
  | own h =>
    intro v1 h1
    obtain ⟨c, hc, h1⟩ := bnd_eq h1
    cases h1
    exact ⟨_, by unfold V.ren; rw [hc, bnd_intro rfl], .own (hf _ _ _ hc h)⟩
  | sub h h0 h2 h3 =>
    intro v1 h1
    obtain ⟨c, hc, h1⟩ := bnd_eq h1
    cases h1
    exact ⟨_, by unfold V.ren; rw [hc, bnd_intro rfl], .sub (hf _ _ _ hc h) h0 h2 h3⟩
  | ptr =>
    intro v1 h1
    obtain ⟨c, hc, h1⟩ := bnd_eq h1
    cases h1
    exact ⟨_, by unfold V.ren; rw [hc, bnd_intro rfl], .ptr⟩
  | pto h h0 h2 =>
    intro v1 h1
    obtain ⟨c, hc, h1⟩ := bnd_eq h1
    cases h1
    exact ⟨_, by unfold V.ren; rw [hc, bnd_intro rfl], .pto (hf _ _ _ hc h) h0 h2⟩
  | agg hl _ ih =>
    intro v1 h1
    obtain ⟨l, hl1, h1⟩ := bnd_eq h1
    cases h1
    obtain ⟨vs1, h3, h4⟩ := ren_L hl ih hl1
    exact ⟨_, by unfold V.ren; rw [h3, bnd_intro rfl], .agg h4.1 h4.2⟩
  | tup hl _ ih =>
    intro v1 h1
    obtain ⟨l, hl1, h1⟩ := bnd_eq h1
    cases h1
    obtain ⟨vs1, h3, h4⟩ := ren_L hl ih hl1
    exact ⟨_, by unfold V.ren; rw [h3, bnd_intro rfl], .tup h4.1 h4.2⟩
  | fn hl _ ih =>
    intro v1 h1
    obtain ⟨l, hl1, h1⟩ := bnd_eq h1
    cases h1
    obtain ⟨vs1, h3, h4⟩ := ren_L hl ih hl1
    exact ⟨_, by unfold V.ren; rw [h3, bnd_intro rfl], .fn h4.1 h4.2⟩
  | kb => intro v1 h1; cases h1; exact ⟨_, rfl, .kb⟩
theorem RL.ren {cs vs cs1 : List V} (h : RL ln cs vs) {f : Nat → Option Nat} (hf : ∀ b c p, f b = some c → ln b = some p → ln' c = some p) (hr : V.ren.L f cs = some cs1) : ∃ vs1, V.ren.L f vs = some vs1 ∧ RL ln' cs1 vs1 :=
  ren_L h.1 (fun j v w a b => (h.2 j v w a b).ren hf) hr
theorem OB.ren {b c : Nat} {x y x1 : Blk} (h : OB ln b (some x) (some y)) {f : Nat → Option Nat} (hf : ∀ b c p, f b = some c → ln b = some p → ln' c = some p) (hb : ∀ p, ln b = some p → ln' c = some p) (hr : x.ren f = some x1) : ∃ y1, y.ren f = some y1 ∧ OB ln' c (some x1) (some y1) := by
  cases h with
  | box h =>
    unfold Blk.ren at hr ⊢
    simp only [if_true] at hr ⊢
    obtain ⟨l, hl, hr⟩ := bnd_eq hr
    cases hr
    obtain ⟨vs1, h3, h4⟩ := h.ren hf hl
    exact ⟨_, by rw [h3, bnd_intro rfl], .box h4⟩
  | arr hl hfl h1 h =>
    unfold Blk.ren at hr ⊢
    simp only [Bool.false_eq_true, if_false] at hr ⊢
    cases hr
    exact ⟨_, rfl, .arr (hb _ hl) hfl h1 h⟩
theorem blk_ren_arr {x : Blk} {f : Nat → Option Nat} (h : x.box = false) : x.ren f = some x := by
  unfold Blk.ren; rw [h]; rfl

/-! ### What an operation leaves -/
structure DH (ln : Nat → Option (Nat × Nat)) (k : Nat) (hK hV : Nat → Option Blk) (d : KD) (d' : Dl) (ln' : Nat → Option (Nat × Nat)) : Prop where
  old : ∀ b p, ln b = some p → ln' b = some p
  new : ∀ b, k + d.nb.length ≤ b → ln' b = none
  v : (d.v = none ∧ d'.v = none) ∨ ∃ v w, d.v = some v ∧ d'.v = some w ∧ R ln' v w
  nbl : d.nb.length = d'.nb.length
  h : HR ln' (putN (putU hK d.up) k d.nb) (putN (putU hV d'.up) k d'.nb)
  fK : ∀ b, k + d.nb.length ≤ b → putN (putU hK d.up) k d.nb b = none
  fV : ∀ b, k + d.nb.length ≤ b → putN (putU hV d'.up) k d'.nb b = none
  keys : ∀ b, b ∈ keysU d'.up → b ∈ keysU d.up
  nb8 : d.nb.length ≤ maxNew
  same : ∀ b, b < k → ln' b = ln b
theorem putU_other : ∀ {up : List (Nat × Option Blk)} {h : Nat → Option Blk} {b : Nat}, b ∉ keysU up → putU h up b = h b
  | [], h, b, _ => rfl
  | (a, x) :: r, h, b, hb => by
    simp only [keysU, List.mem_cons, not_or] at hb
    unfold putU
    rw [putU_other hb.2, set_ne hb.1]
theorem putN_other : ∀ {nb : List Blk} {h : Nat → Option Blk} {k b : Nat}, (b < k ∨ k + nb.length ≤ b) → putN h k nb b = h b
  | [], h, k, b, _ => rfl
  | x :: r, h, k, b, hb => by
    unfold putN
    simp only [List.length_cons] at hb
    rw [putN_other (by omega), set_ne (by omega)]
theorem kPutN_get : ∀ {nb : List Blk} {h : Nat → Option Blk} {k i : Nat}, i < nb.length → putN h k nb (k + i) = nb[i]?
  | [], h, k, i, hi => by cases hi
  | x :: r, h, k, 0, _ => by
    unfold putN
    rw [putN_other (by omega), Nat.add_zero, set_same]; rfl
  | x :: r, h, k, i + 1, hi => by
    unfold putN
    rw [show k + (i + 1) = (k + 1) + i by omega, kPutN_get (by simpa using hi)]; rfl
theorem putU_HR : ∀ {up up' : List (Nat × Option Blk)} {hK hV : Nat → Option Blk}, Rows (fun (p q : Nat × Option Blk) => p.1 = q.1 ∧ OB ln p.1 p.2 q.2) up up' → HR ln hK hV → HR ln (putU hK up) (putU hV up')
  | [], up', hK, hV, h, hh => by rw [h.inv0]; exact hh
  | (a, x) :: r, up', hK, hV, h, hh => by
    obtain ⟨⟨a', y⟩, r', rfl, ⟨h1, h2⟩, h3⟩ := h.inv
    simp only at h1 h2
    subst h1
    unfold putU
    refine putU_HR h3 fun b => ?_
    by_cases hb : b = a
    · subst hb; rw [set_same, set_same]; exact h2
    · rw [set_ne hb, set_ne hb]; exact hh b
theorem keysU_Rows : ∀ {up up' : List (Nat × Option Blk)}, Rows (fun (p q : Nat × Option Blk) => p.1 = q.1 ∧ OB ln p.1 p.2 q.2) up up' → keysU up = keysU up'
  | [], up', h => by rw [h.inv0]
  | (a, x) :: r, up', h => by
    obtain ⟨⟨a', y⟩, r', rfl, ⟨h1, h2⟩, h3⟩ := h.inv
    simp only at h1
    subst h1
    simp only [keysU, keysU_Rows h3]
theorem putN_HR {nb nb' : List Blk} (hl : nb.length = nb'.length) (hn : ∀ i x y, nb[i]? = some x → nb'[i]? = some y → OB ln (k + i) (some x) (some y)) (hh : HR ln hK hV) : HR ln (putN hK k nb) (putN hV k nb') := by
  intro b
  by_cases hb : b < k ∨ k + nb.length ≤ b
  · rw [putN_other hb, putN_other (by rw [← hl]; exact hb)]; exact hh b
  · obtain ⟨i, rfl⟩ : ∃ i, b = k + i := ⟨b - k, by omega⟩
    have hi : i < nb.length := by omega
    rw [kPutN_get hi, kPutN_get (by rw [← hl]; exact hi), List.getElem?_eq_getElem hi, List.getElem?_eq_getElem (by rw [← hl]; exact hi)]
    exact hn i _ _ (List.getElem?_eq_getElem hi) (List.getElem?_eq_getElem (by rw [← hl]; exact hi))
/-- The blocks from k on are free. -/
structure FreeB (ln : Nat → Option (Nat × Nat)) (k : Nat) (hK hV : Nat → Option Blk) : Prop where
  l : ∀ b, k ≤ b → ln b = none
  K : ∀ b, k ≤ b → hK b = none
  V : ∀ b, k ≤ b → hV b = none
theorem HR.mono (h : HR ln hK hV) (hle : ∀ b p, ln b = some p → ln' b = some p) : HR ln' hK hV := fun b => (h b).mono hle
theorem DR.dh {d : KD} {d' : Dl} (h : DR ln k d d' ln') (hh : HR ln hK hV) (hf : FreeB ln k hK hV) (hk : ∀ b, b ∈ keysU d.up → b < k) (h8 : d.nb.length ≤ maxNew) : DH ln k hK hV d d' ln' := by
  have hku := keysU_Rows h.up
  exact {
    old := h.old
    new := fun b hb => by rw [h.new b (.inr hb)]; exact hf.l b (by omega)
    v := h.v
    nbl := h.nb.1
    h := putN_HR h.nb.1 h.nb.2 (putU_HR h.up (hh.mono h.old))
    fK := fun b hb => by
      rw [putN_other (.inr hb), putU_other (fun hm => by have := hk b hm; omega)]
      exact hf.K b (by omega)
    fV := fun b hb => by
      rw [putN_other (.inr (by rw [← h.nb.1]; exact hb)), putU_other (fun hm => by rw [← hku] at hm; have := hk b hm; omega)]
      exact hf.V b (by omega)
    keys := fun b hb => by rw [hku]; exact hb
    nb8 := h8
    same := fun b hb => h.new b (.inl hb) }
end
end Go.Ev
end

section
set_option linter.unusedVariables false
set_option linter.unusedSimpArgs false
set_option linter.unnecessarySimpa false
namespace Go.Ev
open Go

section
variable {ln ln' : Nat → Option (Nat × Nat)} {k : Nat} {hK hV : Nat → Option Blk} {E : Env} {C : CallF} {G : GT}

theorem op_keys {o : Operand → Option V} {op : Op} {d : KD} (h : kOp E o hK k op = some d) : (∀ b, b ∈ keysU d.up → ∃ x, hK b = some x) ∧ d.nb.length ≤ 1 := by
  have nil : ∀ {d : KD}, d.up = [] ∧ d.nb.length ≤ 1 → (∀ b, b ∈ keysU d.up → ∃ x, hK b = some x) ∧ d.nb.length ≤ 1 := fun hd => ⟨fun b hb => (by rw [hd.1] at hb; cases hb), hd.2⟩
  have kpn : ∀ {v : V} {d : KD}, kp v = some d → d.up = [] ∧ d.nb.length ≤ 1 := fun h => by cases h; exact ⟨rfl, Nat.zero_le _⟩
  have kpon : ∀ {v : V} {ob : List Bool} {d : KD}, kpo v ob = some d → d.up = [] ∧ d.nb.length ≤ 1 := fun h => by cases h; exact ⟨rfl, Nat.zero_le _⟩
  have blk : ∀ {b : Nat} {t : Ty} {l : List t.T}, blkT hK b = some ⟨t, l⟩ → ∃ x, hK b = some x := fun h => by
    unfold blkT at h
    split at h
    · rename_i hb; exact ⟨_, hb⟩
    · cases h
  cases op <;> first | (cases h; done) | skip
  case move x => obtain ⟨v, hv, h⟩ := bnd_eq h; exact nil (kpn h)
  case assign x => obtain ⟨v, hv, h⟩ := bnd_eq h; exact nil (kpn h)
  case alloc t =>
    obtain ⟨z, hz, h⟩ := bnd_eq h
    obtain ⟨h1, h⟩ := ck_eq h
    obtain ⟨h2, h⟩ := ck_eq h
    cases h; exact nil ⟨rfl, Nat.le_refl 1⟩
  case box t x =>
    obtain ⟨v, hv, h⟩ := bnd_eq h
    obtain ⟨h1, h⟩ := ck_eq h
    obtain ⟨h2, h⟩ := ck_eq h
    cases h; exact nil ⟨rfl, Nat.le_refl 1⟩
  case build t parts =>
    obtain ⟨pl, hpl, h⟩ := bnd_eq h
    obtain ⟨z, hz, h⟩ := bnd_eq h
    obtain ⟨cs, hcs, h⟩ := bnd_eq h
    exact nil (kpn h)
  case buildSlice t len parts =>
    obtain ⟨e, he, h⟩ := bnd_eq h
    obtain ⟨ty, hty, h⟩ := bnd_eq h
    obtain ⟨hs, h⟩ := ck_eq h
    obtain ⟨x0, hx0, h⟩ := bnd_eq h
    split at h
    · obtain ⟨hp, h⟩ := ck_eq h
      cases h; exact nil ⟨rfl, Nat.le_refl 1⟩
    · obtain ⟨h1, h⟩ := ck_eq h
      obtain ⟨h2, h⟩ := ck_eq h
      obtain ⟨l, hl, h⟩ := bnd_eq h
      cases h; exact nil ⟨rfl, Nat.le_refl 1⟩
  case makeSlice t len cap =>
    obtain ⟨e, he, h⟩ := bnd_eq h
    obtain ⟨ty, hty, h⟩ := bnd_eq h
    obtain ⟨hs, h⟩ := ck_eq h
    obtain ⟨x0, hx0, h⟩ := bnd_eq h
    obtain ⟨h1, h⟩ := ck_eq h
    obtain ⟨x, hx, h⟩ := bnd_eq h
    obtain ⟨y, hy, h⟩ := bnd_eq h
    split at h <;> first | (cases h; done) | (cases h; exact nil ⟨rfl, Nat.le_refl 1⟩)
  case load t a =>
    obtain ⟨p, hp, h⟩ := bnd_eq h
    unfold kLoad at h
    split at h
    · obtain ⟨blk, hb, h⟩ := bnd_eq h
      obtain ⟨hbox, h⟩ := ck_eq h
      obtain ⟨cs, hcs, h⟩ := bnd_eq h
      obtain ⟨ag, hag, h⟩ := bnd_eq h
      obtain ⟨hsz, h⟩ := ck_eq h
      obtain ⟨hle, h⟩ := ck_eq h
      obtain ⟨v, hv, h⟩ := bnd_eq h
      exact nil (kpn h)
    · split at h
      · obtain ⟨ag, hag, h⟩ := bnd_eq h
        obtain ⟨hle, h⟩ := ck_eq h
        obtain ⟨v, hv, h⟩ := bnd_eq h
        exact nil (kpn h)
      · cases h
    · obtain ⟨ag, hag, h⟩ := bnd_eq h
      obtain ⟨hle, h⟩ := ck_eq h
      obtain ⟨v, hv, h⟩ := bnd_eq h
      exact nil (kpn h)
    · cases h
  case store t a x =>
    obtain ⟨p, hp, h⟩ := bnd_eq h
    obtain ⟨v, hv, h⟩ := bnd_eq h
    unfold kStore at h
    split at h
    · obtain ⟨blk, hb, h⟩ := bnd_eq h
      obtain ⟨hbox, h⟩ := ck_eq h
      obtain ⟨cs, hcs, h⟩ := bnd_eq h
      obtain ⟨ag, hag, h⟩ := bnd_eq h
      obtain ⟨hsz, h⟩ := ck_eq h
      obtain ⟨hl, h⟩ := ck_eq h
      obtain ⟨hle, h⟩ := ck_eq h
      obtain ⟨ho, h⟩ := ck_eq h
      cases h
      refine ⟨?_, Nat.zero_le _⟩
      intro b hb2
      simp only [keysU, List.mem_singleton] at hb2
      subst hb2
      exact ⟨_, hb⟩
    · split at h
      · rename_i hb
        obtain ⟨ag, hag, h⟩ := bnd_eq h
        obtain ⟨hflat, h⟩ := ck_eq h
        obtain ⟨hl, h⟩ := ck_eq h
        obtain ⟨hle, h⟩ := ck_eq h
        obtain ⟨x, hx, h⟩ := bnd_eq h
        cases h
        refine ⟨?_, Nat.zero_le _⟩
        intro b hb2
        simp only [keysU, List.mem_singleton] at hb2
        subst hb2
        exact blk hb
      · cases h
    · cases h
  case nilCheck x =>
    obtain ⟨v, hv, h⟩ := bnd_eq h
    split at h <;> first | (cases h; done) | exact nil (kpn h)
  case binOp op t x y yt =>
    obtain ⟨a, ha, h⟩ := bnd_eq h
    obtain ⟨b, hb, h⟩ := bnd_eq h
    unfold kBin at h
    split at h
    · split at h
      · cases op <;> first | (cases h; done) | exact nil (kpon h)
      · obtain ⟨_, h⟩ := ck_eq h
        cases op <;> first | (cases h; done) | exact nil (kpn h) | exact nil (kpon h)
    · cases op <;> first | (cases h; done) | exact nil (kpn h) | exact nil (kpon h)
    · obtain ⟨_, h⟩ := ck_eq h
      cases op <;> first | (cases h; done) | exact nil (kpn h)
    · obtain ⟨ks, hks, h⟩ := bnd_eq h
      obtain ⟨b, hb, h⟩ := bnd_eq h
      split at h
      · cases op <;> first | (cases h; done) | exact nil (kpn h)
      · cases h
    · obtain ⟨e, he, h⟩ := bnd_eq h
      obtain ⟨v, hv, h⟩ := bnd_eq h
      exact nil (kpn h)
    · obtain ⟨e, he, h⟩ := bnd_eq h
      obtain ⟨v, hv, h⟩ := bnd_eq h
      exact nil (kpn h)
    · obtain ⟨e, he, h⟩ := bnd_eq h
      obtain ⟨v, hv, h⟩ := bnd_eq h
      exact nil (kpon h)
    · cases h
  case unOp op t x =>
    obtain ⟨v, hv, h⟩ := bnd_eq h
    split at h
    · cases op <;> first | (cases h; done) | exact nil (kpn h)
    · cases op <;> first | (cases h; done) | exact nil (kpn h)
    · cases h
  case convert s t x =>
    obtain ⟨v, hv, h⟩ := bnd_eq h
    obtain ⟨ag, hag, h⟩ := bnd_eq h
    split at h
    · obtain ⟨j, hj, h⟩ := bnd_eq h
      exact nil (kpn h)
    · split at h
      · exact nil (kpn h)
      · obtain ⟨_, h⟩ := ck_eq h
        cases h; exact nil ⟨rfl, Nat.le_refl 1⟩
    · split at h
      · split at h
        · exact nil (kpn h)
        · obtain ⟨q, hq, h⟩ := bnd_eq h
          exact nil (kpn h)
        · split at h
          · obtain ⟨q, hq, h⟩ := bnd_eq h
            exact nil (kpn h)
          · cases h
        · split at h
          · obtain ⟨q, hq, h⟩ := bnd_eq h
            exact nil (kpn h)
          · cases h
        · cases h
      · cases h
  case fieldAddr t x f =>
    obtain ⟨v, hv, h⟩ := bnd_eq h
    obtain ⟨q, hq, h⟩ := bnd_eq h
    obtain ⟨h1, h⟩ := ck_eq h
    split at h <;> first | (cases h; done) | exact nil (kpn h)
  case field t x f =>
    obtain ⟨v, hv, h⟩ := bnd_eq h
    split at h
    · obtain ⟨q, hq, h⟩ := bnd_eq h
      obtain ⟨ag, hag, h⟩ := bnd_eq h
      obtain ⟨h1, h⟩ := ck_eq h
      obtain ⟨v, hv, h⟩ := bnd_eq h
      exact nil (kpn h)
    · cases h
  case indexAddr t x i =>
    obtain ⟨v, hv, h⟩ := bnd_eq h
    obtain ⟨j, hj, h⟩ := bnd_eq h
    split at h
    · obtain ⟨e, he, h⟩ := bnd_eq h
      split at h
      · obtain ⟨_, h⟩ := ck_eq h
        exact nil (kpon h)
      · split at h
        · obtain ⟨_, h⟩ := ck_eq h
          exact nil (kpon h)
        · cases h
      · split at h
        · obtain ⟨_, h⟩ := ck_eq h
          exact nil (kpon h)
        · cases h
      · cases h
    · cases h
  case index t x i =>
    obtain ⟨v, hv, h⟩ := bnd_eq h
    obtain ⟨j, hj, h⟩ := bnd_eq h
    split at h
    · obtain ⟨_, h⟩ := ck_eq h
      exact nil (kpon h)
    · cases h
  case slice t x lo hi mx =>
    cases mx with
    | some m =>
      cases hi with
      | none => cases lo <;> cases h
      | some hi =>
      obtain ⟨v, hv, h⟩ := bnd_eq h
      obtain ⟨l, hl, h⟩ := bnd_eq h
      obtain ⟨u, hu, h⟩ := bnd_eq h
      obtain ⟨m', hm, h⟩ := bnd_eq h
      unfold kSliceM at h
      obtain ⟨_, _, h⟩ := bnd_eq h
      obtain ⟨_, h⟩ := ck_eq h
      obtain ⟨_, _, h⟩ := bnd_eq h
      split at h
      · obtain ⟨_, _, h⟩ := bnd_eq h
        obtain ⟨_, _, h⟩ := bnd_eq h
        cases h
        exact nil ⟨rfl, Nat.zero_le _⟩
      · cases h
    | none =>
      obtain ⟨v, hv, h⟩ := bnd_eq h
      obtain ⟨l, hl, h⟩ := bnd_eq h
      obtain ⟨u, hu, h⟩ := bnd_eq h
      unfold kSlice at h
      split at h
      · split at h
        · obtain ⟨_, _, h⟩ := bnd_eq h
          obtain ⟨_, h⟩ := ck_eq h
          obtain ⟨_, _, h⟩ := bnd_eq h
          obtain ⟨_, _, h⟩ := bnd_eq h
          exact nil (kpon h)
        · cases h
      unfold kSlice0 at h
      split at h
      · obtain ⟨_, h⟩ := ck_eq h
        obtain ⟨_, _, h⟩ := bnd_eq h
        obtain ⟨_, _, h⟩ := bnd_eq h
        exact nil (kpon h)
      · obtain ⟨_, _, h⟩ := bnd_eq h
        obtain ⟨_, h⟩ := ck_eq h
        obtain ⟨_, _, h⟩ := bnd_eq h
        obtain ⟨_, _, h⟩ := bnd_eq h
        exact nil (kpon h)
      · obtain ⟨_, _, h⟩ := bnd_eq h
        obtain ⟨_, h⟩ := ck_eq h
        obtain ⟨_, _, h⟩ := bnd_eq h
        obtain ⟨_, _, h⟩ := bnd_eq h
        exact nil (kpon h)
      · split at h
        · obtain ⟨_, _, h⟩ := bnd_eq h
          obtain ⟨_, h⟩ := ck_eq h
          obtain ⟨_, _, h⟩ := bnd_eq h
          obtain ⟨_, _, h⟩ := bnd_eq h
          exact nil (kpon h)
        · cases h
      · split at h
        · obtain ⟨_, _, h⟩ := bnd_eq h
          obtain ⟨_, h⟩ := ck_eq h
          obtain ⟨_, _, h⟩ := bnd_eq h
          obtain ⟨_, _, h⟩ := bnd_eq h
          exact nil (kpon h)
        · cases h
      · cases h
  case extract x i =>
    obtain ⟨v, hv, h⟩ := bnd_eq h
    split at h
    · obtain ⟨v, hv, h⟩ := bnd_eq h
      exact nil (kpn h)
    · cases h
  case makeFunc f first caps =>
    cases f <;> first | (cases h; done) | skip
    obtain ⟨h1, h⟩ := ck_eq h
    obtain ⟨vs, hvs, h⟩ := bnd_eq h
    exact nil (kpn h)
  case call c =>
    obtain ⟨callee, args, ts⟩ := c
    cases callee <;> first | (cases h; done) | skip
    rename_i b
    cases b <;> first | (cases h; done) | skip
    case append =>
      obtain ⟨vs, hvs, h⟩ := bnd_eq h
      split at h
      · obtain ⟨_, h⟩ := ck_eq h
        unfold kAppend at h
        obtain ⟨e, he, h⟩ := bnd_eq h
        obtain ⟨z, hz, h⟩ := bnd_eq h
        obtain ⟨hzl, h⟩ := ck_eq h
        split at h
        · obtain ⟨_, h⟩ := ck_eq h
          split at h
          · cases h; exact nil ⟨rfl, Nat.le_refl 1⟩
          · obtain ⟨_, h⟩ := ck_eq h
            split at h
            · rename_i hb
              obtain ⟨_, h⟩ := ck_eq h
              obtain ⟨_, _, h⟩ := bnd_eq h
              cases h
              refine ⟨?_, Nat.le_refl 1⟩
              intro b hb2
              simp only [keysU, List.mem_singleton] at hb2
              subst hb2
              exact blk hb
            · cases h
          · obtain ⟨_, h⟩ := ck_eq h
            split at h
            · rename_i hb
              obtain ⟨_, h⟩ := ck_eq h
              obtain ⟨_, h⟩ := ck_eq h
              obtain ⟨_, _, h⟩ := bnd_eq h
              cases h
              refine ⟨?_, Nat.zero_le _⟩
              intro b hb2
              simp only [keysU, List.mem_singleton] at hb2
              subst hb2
              exact blk hb
            · cases h
          · cases h
        · cases h
      · cases h
    case clear =>
      obtain ⟨vs, hvs, h⟩ := bnd_eq h
      split at h
      · unfold kClear at h
        obtain ⟨_, _, h⟩ := bnd_eq h
        obtain ⟨_, _, h⟩ := bnd_eq h
        obtain ⟨_, h⟩ := ck_eq h
        obtain ⟨_, h⟩ := ck_eq h
        obtain ⟨_, h⟩ := ck_eq h
        split at h
        · split at h
          · rename_i hb
            obtain ⟨_, h⟩ := ck_eq h
            obtain ⟨_, _, h⟩ := bnd_eq h
            cases h
            refine ⟨?_, Nat.zero_le _⟩
            intro b hb2
            simp only [keysU, List.mem_singleton] at hb2
            subst hb2
            exact blk hb
          · cases h
        · split at h
          · rename_i hb
            obtain ⟨_, h⟩ := ck_eq h
            obtain ⟨_, _, h⟩ := bnd_eq h
            cases h
            refine ⟨?_, Nat.zero_le _⟩
            intro b hb2
            simp only [keysU, List.mem_singleton] at hb2
            subst hb2
            exact blk hb
          · cases h
        · cases h
      · cases h
    case copy =>
      obtain ⟨vs, hvs, h⟩ := bnd_eq h
      split at h
      · unfold kCopy at h
        obtain ⟨e, he, h⟩ := bnd_eq h
        split at h
        · obtain ⟨_, h⟩ := ck_eq h
          split at h
          · split at h
            · rename_i hb
              obtain ⟨_, h⟩ := ck_eq h
              obtain ⟨_, h⟩ := ck_eq h
              obtain ⟨_, _, h⟩ := bnd_eq h
              cases h
              refine ⟨?_, Nat.zero_le _⟩
              intro b hb2
              simp only [keysU, List.mem_singleton] at hb2
              subst hb2
              exact blk hb
            · cases h
          · split at h
            · rename_i hb
              obtain ⟨_, h⟩ := ck_eq h
              obtain ⟨_, h⟩ := ck_eq h
              obtain ⟨_, _, h⟩ := bnd_eq h
              cases h
              refine ⟨?_, Nat.zero_le _⟩
              intro b hb2
              simp only [keysU, List.mem_singleton] at hb2
              subst hb2
              exact blk hb
            · cases h
          · cases h
        · cases h
      · cases h
    case len =>
      obtain ⟨vs, hvs, h⟩ := bnd_eq h
      split at h
      · obtain ⟨_, _, h⟩ := bnd_eq h
        exact nil (kpn h)
      · cases h
    case max =>
      obtain ⟨vs, hvs, h⟩ := bnd_eq h
      split at h <;> first | (cases h; done) | exact nil (kpn h)
    case min =>
      obtain ⟨vs, hvs, h⟩ := bnd_eq h
      split at h <;> first | (cases h; done) | exact nil (kpn h)
theorem op_DH {o : Operand → Option V} {tm : Nat → Option V} {op : Op} {d : KD} {call : CallF} (h : kOp E o hK k op = some d) (hob : obs d) (hf : FreeB ln k hK hV) (ho : FR ln o tm) (hh : HR ln hK hV) : ∃ d' ln', evOp E call tm hV k op = some d' ∧ DH ln k hK hV d d' ln' := by
  obtain ⟨d', ln', h1, h2⟩ := op_R (call := call) h hob (hf.l k (Nat.le_refl _)) ho hh
  obtain ⟨k1, k2⟩ := op_keys h
  refine ⟨d', ln', h1, h2.dh hh hf (fun b hb => ?_) (by unfold maxNew; omega)⟩
  obtain ⟨x, hx⟩ := k1 b hb
  apply Nat.lt_of_not_le
  intro hle
  rw [hf.K b hle] at hx
  cases hx
end
end Go.Ev
end

section
set_option linter.unusedVariables false
set_option linter.unusedSimpArgs false
set_option linter.unnecessarySimpa false
namespace Go.Ev
open Go

section
variable {ln ln' : Nat → Option (Nat × Nat)} {k : Nat} {hK hV : Nat → Option Blk} {E : Env} {C : CallF} {G : GT}

/-! ### Handing on plain data -/
theorem con_R {v w c : V} (h : kCon hK v = some c) (hr : R ln v w) (hh : HR ln hK hV) : (∃ u, toCon hV w = some u ∧ R (fun _ => none) c u) ∧ ∀ b ∈ v.ids, ∃ t l, blkT hK b = some ⟨t, l⟩ := by
  unfold kCon at h
  split at h
  · cases h; cases hr; exact ⟨⟨_, rfl, .lit⟩, fun b hb => by cases hb⟩
  · cases h
    cases hr with
    | arr hx =>
      refine ⟨?_, fun b hb => by cases hb⟩
      rcases hx with ⟨rfl, c, rfl⟩ | ⟨f, es, rfl, hf, hr⟩
      · exact ⟨_, rfl, .arr (.inl ⟨rfl, c, rfl⟩)⟩
      · exact ⟨_, rfl, .arr (.inr ⟨f, es, rfl, hf, hr⟩)⟩
  · split at h
    · rename_i t l hb
      cases h
      obtain ⟨_, _, fl', es, _, hbv, hln, hf, _, hr2⟩ := blkT_inv hb hh
      cases hr with
      | own h2 =>
        rw [hln] at h2
        cases h2
        refine ⟨⟨.con fl' t.size es, ?_, .arr (.inr ⟨fl', es, rfl, hf, hr2⟩)⟩, fun b hb2 => ?_⟩
        · simp only [toCon, hbv, bnd]
          rw [grd_intro ⟨by first | trivial | rfl, by first | trivial | rfl, by rw [hr2.1]; omega⟩, List.drop_zero, hr2.1, List.take_length]
        · simp only [V.ids, List.mem_singleton] at hb2
          subst hb2
          exact ⟨t, l, hb⟩
    · cases h
  · split at h
    · rename_i lo hi _ t l hb
      cases h
      obtain ⟨_, _, fl', es, _, hbv, hln, hf, _, hr2⟩ := blkT_inv hb hh
      cases hr with
      | sub h2 h0 h1 h3 =>
        rw [hln] at h2
        cases h2
        refine ⟨⟨.con fl' t.size _, ?_, .arr (.inr ⟨fl', _, rfl, hf, (hr2.take _).drop _⟩)⟩, fun b hb2 => ?_⟩
        · simp only [toCon, hbv, bnd]
          rw [grd_intro ⟨by first | trivial | rfl, by first | trivial | rfl, by rw [← hr2.1]; omega⟩]
          congr 2
          rw [List.drop_take]
          congr 1
          omega
        · simp only [V.ids, List.mem_singleton] at hb2
          subst hb2
          exact ⟨t, l, hb⟩
    · cases h
  · cases h
theorem conl_R : ∀ {vs ws cs : List V}, kConl hK vs = some cs → RL ln vs ws → HR ln hK hV → (∃ us, toConl hV ws = some us ∧ RL (fun _ => none) cs us) ∧ ∀ b ∈ V.ids.L vs, ∃ t l, blkT hK b = some ⟨t, l⟩
  | [], ws, cs, h, hr, hh => by cases h; rw [hr.inv0]; exact ⟨⟨[], rfl, .nil⟩, fun b hb => by cases hb⟩
  | v :: r, ws, cs, h, hr, hh => by
    unfold kConl at h
    obtain ⟨c, hc, h⟩ := bnd_eq h
    obtain ⟨l, hl, h⟩ := bnd_eq h
    cases h
    obtain ⟨w, q, rfl, h1, h2⟩ := hr.inv
    obtain ⟨⟨u, h3, h4⟩, h5⟩ := con_R hc h1 hh
    obtain ⟨⟨us, h6, h7⟩, h8⟩ := conl_R hl h2 hh
    refine ⟨⟨u :: us, by unfold toConl; rw [h3, bnd_intro rfl, h6, bnd_intro rfl], Rows.cons h4 h7⟩, fun b hb => ?_⟩
    simp only [V.ids.L, List.mem_append] at hb
    exact hb.elim (h5 b) (h8 b)
theorem cons_R : ∀ {vs ws cs : List V}, kCons hK vs = some cs → RL ln vs ws → HR ln hK hV → (∃ us, toCons hV ws = some us ∧ RL (fun _ => none) cs us) ∧ ∀ b ∈ V.ids.L vs, ∃ t l, blkT hK b = some ⟨t, l⟩
  | [], ws, cs, h, hr, hh => by cases h; rw [hr.inv0]; exact ⟨⟨[], rfl, .nil⟩, fun b hb => by cases hb⟩
  | v :: r, ws, cs, h, hr, hh => by
    unfold kCons at h
    obtain ⟨w, q, rfl, h1, h2⟩ := hr.inv
    split at h
    · obtain ⟨c, hc, h⟩ := bnd_eq h
      obtain ⟨l, hl, h⟩ := bnd_eq h
      cases h
      cases h1 with
      | agg hla hha =>
        obtain ⟨⟨u, h3, h4⟩, h5⟩ := conl_R hc ⟨hla, hha⟩ hh
        obtain ⟨⟨us, h6, h7⟩, h8⟩ := cons_R hl h2 hh
        refine ⟨⟨.agg u :: us, by unfold toCons; rw [h3, bnd_intro rfl, h6, bnd_intro rfl], Rows.cons (.agg h4.1 h4.2) h7⟩, fun b hb => ?_⟩
        simp only [V.ids.L, V.ids, List.mem_append] at hb
        exact hb.elim (h5 b) (h8 b)
    · rename_i hna
      obtain ⟨c, hc, h⟩ := bnd_eq h
      obtain ⟨l, hl, h⟩ := bnd_eq h
      cases h
      obtain ⟨⟨u, h3, h4⟩, h5⟩ := con_R hc h1 hh
      obtain ⟨⟨us, h6, h7⟩, h8⟩ := cons_R hl h2 hh
      refine ⟨⟨u :: us, ?_, Rows.cons h4 h7⟩, fun b hb => ?_⟩
      · have hw : ∀ cs, w ≠ .agg cs := fun cs hw => by
          subst hw
          cases h3
        unfold toCons
        split
        · rename_i hq; cases hq
        · rename_i hq; cases hq; exact absurd rfl (hw _)
        · rename_i hq; cases hq; rw [h3, bnd_intro rfl, h6, bnd_intro rfl]
      · simp only [V.ids.L, List.mem_append] at hb
        exact hb.elim (h5 b) (h8 b)

/-! ### What comes back -/
theorem news_R {f : Nat → Option Nat} (hf : ∀ b c p, f b = some c → ln b = some p → ln' c = some p) : ∀ {xs ys xs1 : List Blk} {a b : Nat}, xs.length = ys.length → (∀ i x y, xs[i]? = some x → ys[i]? = some y → OB ln (a + i) (some x) (some y)) → (∀ i p, ln (a + i) = some p → ln' (b + i) = some p) → renNews f xs = some xs1 →
    ∃ ys1, renNews f ys = some ys1 ∧ xs1.length = ys1.length ∧ xs1.length = xs.length ∧ ∀ i x y, xs1[i]? = some x → ys1[i]? = some y → OB ln' (b + i) (some x) (some y)
  | [], ys, xs1, a, b, hl, h, hb, hr => by
    cases ys with
    | nil => cases hr; exact ⟨[], rfl, rfl, rfl, fun i x y h => by cases h⟩
    | cons y ys => cases hl
  | x :: xs, ys, xs1, a, b, hl, h, hb, hr => by
    cases ys with
    | nil => cases hl
    | cons y ys =>
      unfold renNews at hr
      obtain ⟨x1, hx1, hr⟩ := bnd_eq hr
      obtain ⟨l1, hl1, hr⟩ := bnd_eq hr
      cases hr
      obtain ⟨y1, h1, h2⟩ := (h 0 x y rfl rfl).ren (c := b) hf (fun p hp => hb 0 p hp) hx1
      obtain ⟨ys1, h3, h4, h5, h6⟩ := news_R hf (a := a + 1) (b := b + 1) (by simpa using hl) (fun i x y h7 h8 => by rw [show a + 1 + i = a + (i + 1) by omega]; exact h (i + 1) x y h7 h8) (fun i p hp => by rw [show b + 1 + i = b + (i + 1) by omega]; exact hb (i + 1) p (by rw [show a + (i + 1) = a + 1 + i by omega]; exact hp)) hl1
      refine ⟨y1 :: ys1, by unfold renNews; rw [h1, bnd_intro rfl, h3, bnd_intro rfl], by simp [h4], by simp [h5], fun i u v hu hv => ?_⟩
      cases i with
      | zero => simp at hu hv; subst hu; subst hv; exact h2
      | succ i =>
        rw [show b + (i + 1) = b + 1 + i by omega]
        exact h6 i u v (by simpa using hu) (by simpa using hv)
theorem RetR.news {m : Nat} {r r' : Ret} {ln1 : Nat → Option (Nat × Nat)} (h : RetR ln m r r' ln1) : ∀ i x y, r.2.2[i]? = some x → r'.2.2[i]? = some y → OB ln1 (m + i) (some x) (some y) := fun i x y hx hy => by
  have := h.h (m + i)
  have e1 : ofL (r.2.1 ++ r.2.2.map some) (m + i) = some x := by
    unfold ofL
    rw [List.getElem?_append_right (by rw [h.lu]; omega), h.lu, Nat.add_sub_cancel_left, List.getElem?_map, hx]; rfl
  have e2 : ofL (r'.2.1 ++ r'.2.2.map some) (m + i) = some y := by
    unfold ofL
    rw [List.getElem?_append_right (by rw [h.lu']; omega), h.lu', Nat.add_sub_cancel_left, List.getElem?_map, hy]; rfl
  rw [e1, e2] at this
  exact this
theorem RetR.ups {m : Nat} {r r' : Ret} {ln1 : Nat → Option (Nat × Nat)} (h : RetR ln m r r' ln1) : ∀ i x y, r.2.1[i]? = some x → r'.2.1[i]? = some y → OB ln1 i x y := fun i x y hx hy => by
  have := h.h i
  have e1 : ofL (r.2.1 ++ r.2.2.map some) i = x := by
    unfold ofL
    rw [List.getElem?_append_left (get_lt hx), hx]; rfl
  have e2 : ofL (r'.2.1 ++ r'.2.2.map some) i = y := by
    unfold ofL
    rw [List.getElem?_append_left (get_lt hy), hy]; rfl
  rw [e1, e2] at this
  exact this
theorem noc_L : ∀ {cs vs : List V}, RL ln cs vs → (∀ c v, R ln c v → c.noc = true → v.noc = true) → V.noc.L cs = true → V.noc.L vs = true := by
  intro cs
  induction cs with
  | nil => intro vs h _ _; rw [h.inv0]; rfl
  | cons c cs ih =>
    intro vs h hn hc
    obtain ⟨v, r, rfl, h1, h2⟩ := h.inv
    unfold V.noc.L at hc ⊢
    simp only [Bool.and_eq_true] at hc ⊢
    exact ⟨hn c v h1 hc.1, ih h2 hn hc.2⟩
theorem noc_L' : ∀ {cs vs : List V}, cs.length = vs.length → (∀ (j : Nat) (v w : V), cs[j]? = some v → vs[j]? = some w → v.noc = true → w.noc = true) → V.noc.L cs = true → V.noc.L vs = true := by
  intro cs
  induction cs with
  | nil => intro vs h _ _; cases vs with
    | nil => rfl
    | cons v vs => cases h
  | cons c cs ih =>
    intro vs h hn hc
    cases vs with
    | nil => cases h
    | cons v vs =>
      unfold V.noc.L at hc ⊢
      simp only [Bool.and_eq_true] at hc ⊢
      exact ⟨hn 0 c v rfl rfl hc.1, ih (by simpa using h) (fun j a b h1 h2 => hn (j + 1) a b h1 h2) hc.2⟩
theorem R.noc {v w : V} (h : R ln v w) : v.noc = true → w.noc = true := by
  induction h with
  | arr => intro h; cases h
  | agg hl _ ih => intro h; exact noc_L' hl ih h
  | tup hl _ ih => intro h; exact noc_L' hl ih h
  | fn hl _ ih => intro h; exact noc_L' hl ih h
  | emp => intro h; exact h
  | cur => intro h; cases h
  | _ => intro _; rfl
theorem nocBs_R : ∀ {xs ys : List Blk} {a : Nat}, xs.length = ys.length → (∀ i x y, xs[i]? = some x → ys[i]? = some y → OB ln (a + i) (some x) (some y)) → nocBs xs = true → nocBs ys = true
  | [], ys, a, hl, h, hn => by
    cases ys with
    | nil => rfl
    | cons y ys => cases hl
  | x :: xs, ys, a, hl, h, hn => by
    cases ys with
    | nil => cases hl
    | cons y ys =>
      unfold nocBs at hn ⊢
      simp only [Bool.and_eq_true] at hn ⊢
      refine ⟨?_, nocBs_R (a := a + 1) (by simpa using hl) (fun i x y h7 h8 => by rw [show a + 1 + i = a + (i + 1) by omega]; exact h (i + 1) x y h7 h8) hn.2⟩
      have h0 := h 0 x y rfl rfl
      have hx := hn.1
      cases h0 with
      | box hbx => exact noc_L hbx (fun c v hr => hr.noc) hx
      | arr hl hf hfl _ =>
        subst hfl
        exact hf hx
theorem dels_none : ∀ {l : List Nat} {h : Nat → Option Blk} {b : Nat}, h b = none → putU h (dels l) b = none
  | [], h, b, hb => hb
  | a :: r, h, b, hb => by
    unfold dels putU
    apply dels_none
    by_cases hab : b = a
    · subst hab; exact set_same _ _ _
    · rw [set_ne hab]; exact hb
theorem dels_HR : ∀ {l : List Nat} {hK hV : Nat → Option Blk}, (∀ b ∈ l, ∀ x, hV b = some x → x.box = false) → HR ln hK hV → HR ln (putU hK (dels l)) hV
  | [], hK, hV, _, hh => hh
  | a :: r, hK, hV, hb, hh => by
    unfold dels putU
    refine dels_HR (fun b hb2 => hb b (by simp [hb2])) fun b => ?_
    by_cases hab : b = a
    · subst hab
      rw [set_same]
      cases hq : hV b with
      | none => exact .none
      | some x => exact .dead (hb b (by simp) x hq)
    · rw [set_ne hab]; exact hh b
theorem dels_both : ∀ {l : List Nat} {hK hV : Nat → Option Blk}, HR ln hK hV → HR ln (putU hK (dels l)) (putU hV (dels l))
  | [], hK, hV, hh => hh
  | a :: r, hK, hV, hh => by
    unfold dels putU
    refine dels_both fun b => ?_
    by_cases hab : b = a
    · subst hab; rw [set_same, set_same]; exact .none
    · rw [set_ne hab, set_ne hab]; exact hh b
end
end Go.Ev
end

section
set_option linter.unusedVariables false
set_option linter.unusedSimpArgs false
set_option linter.unnecessarySimpa false
namespace Go.Ev
open Go

section
variable {ln ln' : Nat → Option (Nat × Nat)} {k : Nat} {hK hV : Nat → Option Blk} {E : Env} {C : CallF} {G : GT}

theorem renBs_R {f : Nat → Option Nat} (hf : ∀ b c p, f b = some c → ln b = some p → ln' c = some p) (hh : HR ln hK hV) : ∀ {l : List Nat} {a : Nat} {hs : List (Option Blk)}, (∀ i b, l[i]? = some b → ∀ p, ln b = some p → ln' (a + i) = some p) → renBs hK f l = some hs →
    ∃ hs', renBs hV f l = some hs' ∧ hs.length = l.length ∧ hs'.length = l.length ∧ ∀ i x y, hs[i]? = some x → hs'[i]? = some y → OB ln' (a + i) x y
  | [], a, hs, _, hr => by cases hr; exact ⟨[], rfl, rfl, rfl, fun i x y h => by cases h⟩
  | b :: r, a, hs, hp, hr => by
    unfold renBs at hr
    obtain ⟨x, hx, hr⟩ := bnd_eq hr
    obtain ⟨l1, hl1, hr⟩ := bnd_eq hr
    cases hr
    obtain ⟨hs', h1, h2, h3, h4⟩ := renBs_R hf hh (a := a + 1) (l := r) (fun i c hc p hq => by rw [show a + 1 + i = a + (i + 1) by omega]; exact hp (i + 1) c hc p hq) hl1
    have key : ∃ y, OB ln' a x y ∧ ((hV b = none ∧ y = none) ∨ ∃ w w1, hV b = some w ∧ w.ren f = some w1 ∧ y = some w1) := by
      have hb := hh b
      cases hKb : hK b with
      | none =>
        rw [hKb] at hb hx
        cases hx
        generalize hV b = q at *
        cases hb with
        | none => exact ⟨none, .none, .inl ⟨rfl, rfl⟩⟩
        | dead h => exact ⟨_, .dead h, .inr ⟨_, _, rfl, blk_ren_arr h, rfl⟩⟩
      | some u =>
        rw [hKb] at hb hx
        obtain ⟨u1, hu1, hx⟩ := bnd_eq hx
        cases hx
        cases hVb : hV b with
        | none => rw [hVb] at hb; cases hb
        | some w =>
          rw [hVb] at hb
          obtain ⟨w1, h5, h6⟩ := hb.ren (c := a) hf (fun p hq => hp 0 b rfl p hq) hu1
          exact ⟨some w1, h6, .inr ⟨w, w1, rfl, h5, rfl⟩⟩
    obtain ⟨y, hob, hy⟩ := key
    refine ⟨y :: hs', by
      unfold renBs
      rcases hy with ⟨hy, rfl⟩ | ⟨w, w1, hy, hw, rfl⟩
      · simp only [hy, bnd, h1]
      · simp only [hy, hw, bnd, h1], by simp [h2], by simp [h3], fun i u v hu hv => ?_⟩
    cases i with
    | zero => simp at hu hv; subst hu; subst hv; exact hob
    | succ i =>
      rw [show a + (i + 1) = a + 1 + i by omega]
      exact h4 i u v (by simpa using hu) (by simpa using hv)
theorem somes_R : ∀ {xs ys : List (Option Blk)} {a : Nat} {bs : List Blk}, xs.length = ys.length → (∀ i x y, xs[i]? = some x → ys[i]? = some y → OB ln (a + i) x y) → somes xs = some bs →
    ∃ bs', somes ys = some bs' ∧ bs.length = bs'.length ∧ bs.length = xs.length ∧ ∀ i x y, bs[i]? = some x → bs'[i]? = some y → OB ln (a + i) (some x) (some y)
  | [], ys, a, bs, hl, h, hs => by
    cases ys with
    | nil => cases hs; exact ⟨[], rfl, rfl, rfl, fun i x y h => by cases h⟩
    | cons y ys => cases hl
  | x :: xs, ys, a, bs, hl, h, hs => by
    cases ys with
    | nil => cases hl
    | cons y ys =>
      cases x with
      | none => cases hs
      | some x =>
        unfold somes at hs
        obtain ⟨l, hl1, hs⟩ := bnd_eq hs
        cases hs
        have h0 := h 0 _ y rfl rfl
        obtain ⟨bs', h1, h2, h3, h4⟩ := somes_R (a := a + 1) (by simpa using hl) (fun i u v h7 h8 => by rw [show a + 1 + i = a + (i + 1) by omega]; exact h (i + 1) u v h7 h8) hl1
        cases y with
        | none => cases h0
        | some y =>
          refine ⟨y :: bs', by unfold somes; rw [h1, bnd_intro rfl], by simp [h2], by simp [h3], fun i u v hu hv => ?_⟩
          cases i with
          | zero => simp at hu hv; subst hu; subst hv; exact h0
          | succ i =>
            rw [show a + (i + 1) = a + 1 + i by omega]
            exact h4 i u v (by simpa using hu) (by simpa using hv)
theorem zipUp_R {f : Nat → Option Nat} (hf : ∀ b c p, f b = some c → ln b = some p → ln' c = some p) : ∀ {l : List Nat} {xs ys : List (Option Blk)} {a : Nat} {up : List (Nat × Option Blk)}, xs.length = ys.length → (∀ i x y, xs[i]? = some x → ys[i]? = some y → OB ln (a + i) x y) → (∀ i b, l[i]? = some b → ∀ p, ln (a + i) = some p → ln' b = some p) → zipUp f l xs = some up →
    (∃ up', zipUp f l ys = some up' ∧ Rows (fun (p q : Nat × Option Blk) => p.1 = q.1 ∧ OB ln' p.1 p.2 q.2) up up') ∧ ∀ b ∈ keysU up, b ∈ l
  | [], xs, ys, a, up, hl, h, hp, hz => by
    cases xs with
    | nil =>
      cases ys with
      | nil => cases hz; exact ⟨⟨[], rfl, .nil⟩, fun b hb => by cases hb⟩
      | cons y ys => cases hl
    | cons x xs => cases x <;> cases hz
  | b :: r, xs, ys, a, up, hl, h, hp, hz => by
    cases xs with
    | nil => cases hz
    | cons x xs =>
      cases ys with
      | nil => cases hl
      | cons y ys =>
        have h0 := h 0 x y rfl rfl
        have hl' : xs.length = ys.length := by simpa using hl
        have hn : ∀ i u v, xs[i]? = some u → ys[i]? = some v → OB ln (a + 1 + i) u v := fun i u v h7 h8 => by rw [show a + 1 + i = a + (i + 1) by omega]; exact h (i + 1) u v h7 h8
        have hp' : ∀ i c, r[i]? = some c → ∀ p, ln (a + 1 + i) = some p → ln' c = some p := fun i c hc p hq => hp (i + 1) c hc p (by rw [show a + (i + 1) = a + 1 + i by omega]; exact hq)
        cases x with
        | none =>
          unfold zipUp at hz
          obtain ⟨u, hu, hz⟩ := bnd_eq hz
          cases hz
          obtain ⟨⟨up', h1, h2⟩, h3⟩ := zipUp_R hf (a := a + 1) hl' hn hp' hu
          refine ⟨?_, fun c hc => ?_⟩
          · cases y with
            | none => exact ⟨(b, none) :: up', by unfold zipUp; rw [h1, bnd_intro rfl], Rows.cons ⟨rfl, .none⟩ h2⟩
            | some y =>
              cases h0 with
              | dead hd => exact ⟨(b, some y) :: up', by unfold zipUp; rw [blk_ren_arr hd, bnd_intro rfl, h1, bnd_intro rfl], Rows.cons ⟨rfl, .dead hd⟩ h2⟩
          · simp only [keysU, List.mem_cons] at hc
            rcases hc with rfl | hc
            · simp
            · exact List.mem_cons_of_mem _ (h3 c hc)
        | some x =>
          unfold zipUp at hz
          obtain ⟨x1, hx1, hz⟩ := bnd_eq hz
          obtain ⟨u, hu, hz⟩ := bnd_eq hz
          cases hz
          obtain ⟨⟨up', h1, h2⟩, h3⟩ := zipUp_R hf (a := a + 1) hl' hn hp' hu
          refine ⟨?_, fun c hc => ?_⟩
          · cases y with
            | none => cases h0
            | some y =>
              obtain ⟨y1, h5, h6⟩ := h0.ren (c := b) hf (fun p hq => hp 0 b rfl p hq) hx1
              exact ⟨(b, some y1) :: up', by unfold zipUp; rw [h5, bnd_intro rfl, h1, bnd_intro rfl], Rows.cons ⟨rfl, h6⟩ h2⟩
          · simp only [keysU, List.mem_cons] at hc
            rcases hc with rfl | hc
            · simp
            · exact List.mem_cons_of_mem _ (h3 c hc)

/-- A call, both ways. -/
theorem call_DH {S : Type} {cs : CallH S} (hcs : ∀ f as0 bs (κ : Ret → Option S) r, cs f as0 bs κ = some r → ∃ q, SpOK C f as0 bs q ∧ κ q = some r) {g : Nat} {args args' : List V} {κ : KD → Option S} {r : S} (h : kCall E cs hK k g args κ = some r) (hr : RL ln args args') (hh : HR ln hK hV) (hf : FreeB ln k hK hV) :
    ∃ d d' ln', callV C (E.mv g) hV k g args' = some d' ∧ DH ln k hK hV d d' ln' ∧ κ d = some r := by
  unfold kCall at h
  cases hmv : E.mv g with
  | false =>
    rw [hmv] at h
    simp only at h
    obtain ⟨as0, has, h⟩ := bndF_eq h
    obtain ⟨⟨as', h1, h2⟩, harr⟩ := cons_R has hr hh
    obtain ⟨q, hq, h⟩ := hcs _ _ _ _ _ h
    obtain ⟨v, hv, h⟩ := bndF_eq h
    obtain ⟨nb, hnb, h⟩ := bndF_eq h
    obtain ⟨hmx, hfin⟩ := ckF_eq h
    obtain ⟨r', ln1, h3, h4⟩ := hq (fun _ => none) as' [] h2 ⟨rfl, fun i x y h => by cases h⟩ (fun _ _ => rfl)
    let ln2 : Nat → Option (Nat × Nat) := fun c => if k ≤ c then ln1 (c - k) else ln c
    have hback : ∀ b c, back [] k b = some c → c = k + b := fun b c hc => by
      unfold back at hc
      simp at hc
      omega
    have hren : ∀ b c p, back [] k b = some c → ln1 b = some p → ln2 c = some p := fun b c p hc hp => by
      rw [hback b c hc]
      show (if k ≤ k + b then ln1 (k + b - k) else _) = _
      rw [if_pos (by omega), Nat.add_sub_cancel_left]; exact hp
    obtain ⟨w, hw, hrw⟩ := h4.v.ren hren v hv
    obtain ⟨nb', h5, h6, h7, h8⟩ := news_R (a := 0) (b := k) hren h4.ln (by have := h4.news; simpa using this) (fun i p hp => by
      rw [Nat.zero_add] at hp
      show (if k ≤ k + i then ln1 (k + i - k) else _) = _
      rw [if_pos (by omega), Nat.add_sub_cancel_left]; exact hp) hnb
    have hold : ∀ b p, ln b = some p → ln2 b = some p := fun b p hb => by
      show (if k ≤ b then ln1 (b - k) else ln b) = _
      split
      · rename_i hkb; rw [hf.l b hkb] at hb; cases hb
      · exact hb
    have hbox : ∀ b ∈ V.ids.L args, ∀ x, hV b = some x → x.box = false := fun b hb x hx => by
      obtain ⟨t, l, hbt⟩ := harr b hb
      obtain ⟨_, _, fl', es, _, hbv, _⟩ := blkT_inv hbt hh
      rw [hx] at hbv
      cases hbv; rfl
    have hids : V.ids.L args = V.ids.L args' := hr.ids
    have hlt : ∀ b ∈ V.ids.L args, b < k := fun b hb => by
      obtain ⟨t, l, hbt⟩ := harr b hb
      obtain ⟨fl, sz, _, _, hbk, _⟩ := blkT_inv hbt hh
      apply Nat.lt_of_not_le
      intro hle
      rw [hf.K b hle] at hbk
      cases hbk
    have keysd : ∀ l : List Nat, keysU (dels l) = l := fun l => by
      induction l with
      | nil => rfl
      | cons a r ih => simp only [dels, keysU, ih]
    refine ⟨_, ⟨some w, nb', cond (r'.1.noc && nocBs r'.2.2) [] (dels (V.ids.L args'))⟩, ln2, ?_, ?_, hfin⟩
    · unfold callV
      simp only [h1, bnd, h3, hw, h5]
      exact grd_intro (by rw [← h6]; exact ble_nat hmx)
    · have hks : ∀ b, b ∈ keysU (match q.1.noc && nocBs q.2.2 with | true => [] | false => dels (V.ids.L args)) → b ∈ V.ids.L args := fun b hb => by
        split at hb
        · cases hb
        · rwa [keysd] at hb
      exact {
        old := hold
        new := fun b hb => by
          show (if k ≤ b then ln1 (b - k) else ln b) = none
          rw [if_pos (by omega)]
          refine h4.new _ ?_
          simp only [List.length_nil]
          have : nb.length = q.2.2.length := h7
          simp only at hb
          omega
        v := .inr ⟨_, _, rfl, rfl, hrw⟩
        nbl := h6
        h := by
          refine putN_HR h6 h8 ?_
          have hh2 := hh.mono hold
          cases hn : q.1.noc && nocBs q.2.2 with
          | true =>
            simp only [Bool.and_eq_true] at hn
            have e1 : (r'.1.noc && nocBs r'.2.2) = true := by
              rw [h4.v.noc hn.1, nocBs_R (a := 0) h4.ln (by have := h4.news; simpa using this) hn.2]; rfl
            rw [e1]
            exact hh2
          | false =>
            cases (r'.1.noc && nocBs r'.2.2) with
            | true => exact dels_HR hbox hh2
            | false => rw [← hids]; exact dels_both hh2
        fK := fun b hb => by
          rw [putN_other (.inr hb)]
          have := hf.K b (by omega)
          split
          · exact this
          · exact dels_none this
        fV := fun b hb => by
          rw [putN_other (.inr (by rw [← h6]; exact hb))]
          have := hf.V b (by omega)
          cases (r'.1.noc && nocBs r'.2.2) with
          | true => exact this
          | false => exact dels_none this
        keys := fun b hb => by
          have : b ∈ V.ids.L args' ∧ (q.1.noc && nocBs q.2.2) = false := by
            cases hn : q.1.noc && nocBs q.2.2 with
            | true =>
              simp only [Bool.and_eq_true] at hn
              have e1 : (r'.1.noc && nocBs r'.2.2) = true := by
                rw [h4.v.noc hn.1, nocBs_R (a := 0) h4.ln (by have := h4.news; simpa using this) hn.2]; rfl
              rw [e1] at hb
              cases hb
            | false =>
              refine ⟨?_, rfl⟩
              cases hz : (r'.1.noc && nocBs r'.2.2) with
              | true => rw [hz] at hb; cases hb
              | false => rw [hz] at hb; rwa [cond_false, keysd] at hb
          rw [this.2]
          rw [keysd, hids]; exact this.1
        nb8 := ble_nat hmx
        same := fun b hb => by
          show (if k ≤ b then ln1 (b - k) else ln b) = ln b
          rw [if_neg (by omega)] }
  | true =>
    rw [hmv] at h
    simp only at h
    split at h
    · rename_i hnd
      obtain ⟨as0, has, h⟩ := bndF_eq h
      obtain ⟨hs, hhs, h⟩ := bndF_eq h
      obtain ⟨bs, hbs, h⟩ := bndF_eq h
      obtain ⟨q, hq, h⟩ := hcs _ _ _ _ _ h
      obtain ⟨v, hv, h⟩ := bndF_eq h
      obtain ⟨up, hup, h⟩ := bndF_eq h
      obtain ⟨nb, hnb, h⟩ := bndF_eq h
      obtain ⟨hmx, hfin⟩ := ckF_eq h
      have hl2 : reach hK 100 (V.ids.L args) [] = reach hV 100 (V.ids.L args') [] := by rw [hr.ids]; exact reach_R hh _ _ _
      generalize hL : reach hK 100 (V.ids.L args) [] = l at *
      have hndl := nodup_spec l hnd
      let ln1 : Nat → Option (Nat × Nat) := fun i => (l[i]?).bind ln
      have hren1 : ∀ b c p, idx b l 0 = some c → ln b = some p → ln1 c = some p := fun b c p hc hp => by
        have := (idx_spec l b 0 c hc).2
        rw [Nat.sub_zero] at this
        show (l[c]?).bind ln = _
        rw [this]; exact hp
      obtain ⟨as', h1, h2⟩ := hr.ren hren1 has
      obtain ⟨hs', h3, h4, h5, h6⟩ := renBs_R hren1 hh (a := 0) (l := l) (fun i b hb p hp => by
        rw [Nat.zero_add]
        show (l[i]?).bind ln = _
        rw [hb]; exact hp) hhs
      obtain ⟨bs', h7, h8, h9, h10⟩ := somes_R (a := 0) (h4.trans h5.symm) h6 hbs
      have hbl : bs.length = l.length := h9.trans h4
      obtain ⟨r', ln3, h11, h12⟩ := hq ln1 as' bs' h2 ⟨h8, fun i x y a b => by have := h10 i x y a b; rwa [Nat.zero_add] at this⟩ (fun b hb => by
        show (l[b]?).bind ln = none
        rw [List.getElem?_eq_none (by omega)]; rfl)
      have hlt : ∀ (i b : Nat), l[i]? = some b → b < k := fun i b hb => by
        have hbs2 := somes_spec hbs
        have hi : i < hs.length := by rw [h4]; exact get_lt hb
        have hi2 : i < bs.length := by rw [h9]; exact hi
        have e1 : hs[i]? = some (some (bs[i])) := by
          rw [hbs2, List.getElem?_map, List.getElem?_eq_getElem hi2]; rfl
        obtain ⟨b', x0, h13, h14, _⟩ := (renBs_spec hhs).2 i _ e1
        rw [hb] at h13
        cases h13
        apply Nat.lt_of_not_le
        intro hle
        rw [hf.K b hle] at h14
        cases h14
      let ln2 : Nat → Option (Nat × Nat) := fun c => if k ≤ c then ln3 (c - k + l.length) else ln c
      have hren : ∀ b c p, back l k b = some c → ln3 b = some p → ln2 c = some p := fun b c p hc hp => by
        unfold back at hc
        cases hb : l[b]? with
        | some b' =>
          rw [hb] at hc
          cases hc
          have hk' := hlt b c hb
          show (if k ≤ c then ln3 (c - k + l.length) else ln c) = some p
          rw [if_neg (by omega)]
          have := h12.old b (by rw [hbl]; exact get_lt hb)
          rw [hp] at this
          have e2 : ln1 b = ln c := by show (l[b]?).bind ln = _; rw [hb]; rfl
          rw [← e2, ← this]
        | none =>
          rw [hb] at hc
          cases hc
          have : l.length ≤ b := by simpa using hb
          show (if k ≤ k + (b - l.length) then ln3 (k + (b - l.length) - k + l.length) else _) = some p
          rw [if_pos (by omega), show k + (b - l.length) - k + l.length = b by omega]; exact hp
      obtain ⟨w, hw, hrw⟩ := h12.v.ren hren v hv
      obtain ⟨nb', h13, h14, h15, h16⟩ := news_R (a := l.length) (b := k) hren h12.ln (by have := h12.news; rwa [hbl] at this) (fun i p hp => by
        show (if k ≤ k + i then ln3 (k + i - k + l.length) else _) = _
        rw [if_pos (by omega), show k + i - k + l.length = l.length + i by omega]; exact hp) hnb
      obtain ⟨⟨up', h17, h18⟩, h19⟩ := zipUp_R hren (a := 0) (h12.lu.trans h12.lu'.symm) (fun i x y a b => by rw [Nat.zero_add]; exact h12.ups i x y a b) (fun i b hb p hp => hren i b p (by unfold back; rw [hb]) (by rw [Nat.zero_add] at hp; exact hp)) hup
      have hold : ∀ b p, ln b = some p → ln2 b = some p := fun b p hb => by
        show (if k ≤ b then _ else ln b) = _
        split
        · rename_i hkb; rw [hf.l b hkb] at hb; cases hb
        · exact hb
      have hku : ∀ b ∈ keysU up, b < k := fun b hb => by
        obtain ⟨i, hi, he⟩ := List.getElem_of_mem (h19 b hb)
        exact hlt i b (by rw [← he]; exact List.getElem?_eq_getElem hi)
      refine ⟨_, ⟨some w, nb', up'⟩, ln2, ?_, ?_, hfin⟩
      · unfold callV
        simp only [← hl2, bnd, h1, h3, h7, h11, hw, h17, h13]
        rw [grd_intro hnd, grd_intro (by rw [← h14]; exact ble_nat hmx)]
      · have hkr := keysU_Rows h18
        exact {
          old := hold
          new := fun b hb => by
            show (if k ≤ b then ln3 (b - k + l.length) else ln b) = none
            rw [if_pos (by omega)]
            refine h12.new _ ?_
            have : nb.length = q.2.2.length := h15
            simp only at hb
            omega
          v := .inr ⟨_, _, rfl, rfl, hrw⟩
          nbl := h14
          h := putN_HR h14 h16 (putU_HR h18 (hh.mono hold))
          fK := fun b hb => by
            rw [putN_other (.inr hb), putU_other (fun hm => by have := hku b hm; omega)]
            exact hf.K b (by omega)
          fV := fun b hb => by
            rw [putN_other (.inr (by rw [← h14]; exact hb)), putU_other (fun hm => by rw [← hkr] at hm; have := hku b hm; omega)]
            exact hf.V b (by omega)
          keys := fun b hb => by rw [hkr]; exact hb
          nb8 := ble_nat hmx
          same := fun b hb => by
            show (if k ≤ b then ln3 (b - k + l.length) else ln b) = ln b
            rw [if_neg (by omega)] }
    · cases h
end
end Go.Ev
end

section
set_option linter.unusedVariables false
set_option linter.unusedSimpArgs false
set_option linter.unnecessarySimpa false
namespace Go.Ev
open Go

section
variable {ln ln' : Nat → Option (Nat × Nat)} {k : Nat} {hK hV : Nat → Option Blk} {E : Env} {C : CallF} {G : GT}

def wV (w : Bool) : V → Option Bool
  | .lit (.bool b) => some (b == w)
  | .tup [] => some false
  | _ => none
def wantJ (tm : Nat → Option V) (ops : List Oper) (j : Nat) (w : Bool) : Option Bool := bnd (gdst ops j) fun t => bnd (tm t) (wV w)
theorem want_J {tm : Nat → Option V} {ops : List Oper} {o : Oper} {j : Nat} {w : Bool} (h : o.guard = some (j, w)) : want tm ops o = wantJ tm ops j w := by
  unfold want
  rw [h]
  rfl
theorem want_none {tm : Nat → Option V} {ops : List Oper} {o : Oper} (h : o.guard = none) : want tm ops o = some true := by
  unfold want
  rw [h]
/-- A temporary. -/
inductive RT (ln : Nat → Option (Nat × Nat)) (wj : Nat → Bool → Option Bool) : V → V → Prop
  | val {v w : V} (h : R ln v w) : RT ln wj v w
  | jnk {w : V} : RT ln wj .jnk w
  | gd {j : Nat} {w0 g : Bool} {v w : V} (hw : wj j w0 = some g) (h1 : g = true → R ln v w) (h0 : g = false → w = .tup []) : RT ln wj (.gd j w0 g v) w
theorem RT.mono {wj wj' : Nat → Bool → Option Bool} {v w : V} (h : RT ln wj v w) (hle : ∀ b p, ln b = some p → ln' b = some p) (hw : ∀ j w0 g u, v = .gd j w0 g u → wj j w0 = some g → wj' j w0 = some g) : RT ln' wj' v w := by
  cases h with
  | val h => exact .val (h.mono hle)
  | jnk => exact .jnk
  | gd h h1 h0 => exact .gd (hw _ _ _ _ rfl h) (fun hg => (h1 hg).mono hle) h0
structure SRel (ln : Nat → Option (Nat × Nat)) (wj : Nat → Bool → Option Bool) (s s' : St) : Prop where
  tm : ∀ t v, s.tm t = some v → ∃ w, s'.tm t = some w ∧ RT ln wj v w
  h : HR ln s.h s'.h
  nt : s.nt = s'.nt
  ni : s.ni = s'.ni
def curOK (wj : Nat → Bool → Option Bool) (cur : Option (Nat × Bool)) : Prop := match cur with
  | none => True
  | some (j, w) => wj j w = some true
theorem kO_R {wj : Nat → Bool → Option Bool} {s s' : St} (hS : SRel ln wj s s') {cur : Option (Nat × Bool)} (hc : curOK wj cur) : FR ln (kO s.tm cur) s'.tm := by
  intro x v hv
  cases x with
  | tmp t =>
    obtain ⟨u, hu, hv⟩ := bnd_eq hv
    obtain ⟨w, hw, hr⟩ := hS.tm t u hu
    refine ⟨w, hw, ?_⟩
    unfold ungd at hv
    split at hv
    · split at hv
      · obtain ⟨h1, hv⟩ := ck_eq hv
        obtain ⟨h2, hv⟩ := ck_eq hv
        cases hv
        have e1 := beq_nat h1
        have e2 := beqB_eq h2
        subst e1
        subst e2
        cases hr with
        | val h => cases h
        | gd hw2 h1 h0 =>
          rw [show wj _ _ = some true from hc] at hw2
          cases hw2
          exact h1 rfl
      · cases hv
    · cases hv
    · cases hv
      cases hr with
      | val h => cases h; exact .lit
    · rename_i hn1 hn2 hn3
      cases hv
      cases hr with
      | val h => exact h
      | jnk => exact absurd rfl hn2
      | gd => exact absurd rfl (hn1 _ _ _ _)
  | const c => exact ⟨v, hv, ofVal_R hv⟩
  | func f => cases hv; exact ⟨_, rfl, .fn rfl fun j v w h => by cases h⟩
  | global g => cases hv
theorem gval_R {s s' : St} {ops : List Oper} {wj : Nat → Bool → Option Bool} (hS : SRel ln wj s s') {j : Nat} {w g : Bool} (h : gval s.tm ops j w = some g) : wantJ s'.tm ops j w = some g := by
  unfold gval at h
  split at h
  · rename_i t ht
    unfold wantJ
    rw [ht, bnd_intro rfl]
    split at h
    · rename_i b hb
      obtain ⟨u, hu, hr⟩ := hS.tm t _ hb
      rw [hu, bnd_intro rfl]
      cases hr with
      | val hr =>
        cases hr
        cases h
        unfold wV
        cases w <;> cases b <;> rfl
    · rename_i b hb
      obtain ⟨u, hu, hr⟩ := hS.tm t _ hb
      rw [hu, bnd_intro rfl]
      cases hr with
      | val hr => cases hr
      | gd hw h1 h0 =>
        rename_i g0
        cases h
        cases g0 with
        | true => have := h1 rfl; cases this; unfold wV; cases w <;> cases b <;> rfl
        | false => rw [h0 rfl]; rfl
    · cases h
  · cases h
theorem kbOf_R {s s' : St} {ops : List Oper} {wj : Nat → Bool → Option Bool} (hS : SRel ln wj s s') {j : Nat} {w b : Bool} (h : kbOf s.tm ops j = some b) : wantJ s'.tm ops j w = some (b == w) := by
  unfold kbOf at h
  split at h
  · rename_i t ht
    unfold wantJ
    rw [ht, bnd_intro rfl]
    split at h
    · rename_i b hb
      cases h
      obtain ⟨u, hu, hr⟩ := hS.tm t _ hb
      rw [hu, bnd_intro rfl]
      cases hr with
      | val hr => cases hr; rfl
    · cases h
  · cases h
theorem gLit_R {s s' : St} {ops : List Oper} {wj : Nat → Bool → Option Bool} (hS : SRel ln wj s s') {j : Nat} {b : Bool} (h : gLit s.tm ops j = some b) : ∃ t, gdst ops j = some t ∧ s'.tm t = some (.lit (.bool b)) := by
  unfold gLit at h
  split at h
  · rename_i t ht
    split at h
    · rename_i b hb
      cases h
      obtain ⟨u, hu, hr⟩ := hS.tm t _ hb
      cases hr with
      | val hr => cases hr; exact ⟨t, ht, hu⟩
    · cases h
  · cases h

/-! ### Two ways that meet -/
theorem mrgL_t {a b v : Value} (h : mrgL true a b = some v) : v = a := by
  unfold mrgL at h
  split at h
  · split at h
    · cases h; rfl
    · cases h
  · cases h; rfl
  · cases h; rfl
  · cases h; rfl
  · cases h
theorem mrgL_f {a b v : Value} (h : mrgL false a b = some v) : v = b := by
  unfold mrgL at h
  split at h
  · split at h
    · rename_i hk
      obtain rfl := kindN_inj hk
      cases h; rfl
    · cases h
  · cases h; rfl
  · cases h; rfl
  · cases h; rfl
  · cases h
theorem mrgs_t {cs vs ds l : List V} (hl : cs.length = vs.length) (ih : ∀ (j : Nat) (v w : V), cs[j]? = some v → vs[j]? = some w → ∀ (y u : V), mrg true v y = some u → R ln u w) (h : mrg.L true cs ds = some l) : RL ln l vs := by
  induction cs generalizing vs ds l with
  | nil =>
    cases vs with
    | nil => cases ds <;> first | (cases h; exact .nil) | cases h
    | cons v vs => cases hl
  | cons c cs ih2 =>
    cases vs with
    | nil => cases hl
    | cons v vs =>
      cases ds with
      | nil => cases h
      | cons d ds =>
        unfold mrg.L at h
        obtain ⟨u, hu, h⟩ := bnd_eq h
        obtain ⟨l', hl', h⟩ := bnd_eq h
        cases h
        exact Rows.cons (ih 0 c v rfl rfl d u hu) (ih2 (by simpa using hl) (fun j a b h1 h2 => ih (j + 1) a b h1 h2) hl')
theorem mrg_t {x w : V} (hr : R ln x w) : ∀ (y v : V), mrg true x y = some v → R ln v w := by
  induction hr with
  | lit =>
    intro y v h
    unfold mrg at h
    split at h
    · obtain ⟨u, hu, h⟩ := bnd_eq h
      cases h
      rw [mrgL_t hu]; exact .lit
    · split at h
      · cases h; exact .arr (.inl ⟨rfl, 0, rfl⟩)
      · cases h
    · obtain ⟨u, hu, h⟩ := bnd_eq h
      cases h
      rw [mrgL_t hu]; exact .lit
    · cases h
  | arr hx =>
    intro y v h
    unfold mrg at h
    split at h
    · obtain ⟨q, hq, h⟩ := bnd_eq h
      cases h
      exact .arr hx
    · cases h; exact .arr hx
    · cases h
  | own h1 =>
    intro y v h
    unfold mrg at h
    split at h
    · split at h
      · cases h; exact .own h1
      · cases h
    · cases h
  | sub h1 h0 h2 h3 =>
    intro y v h
    unfold mrg at h
    split at h
    · split at h
      · cases h; exact .sub h1 h0 h2 h3
      · cases h
    · cases h
  | ptr =>
    intro y v h
    unfold mrg at h
    split at h
    · split at h
      · cases h; exact .ptr
      · cases h
    · cases h
  | pto h1 h0 h2 =>
    intro y v h
    unfold mrg at h
    split at h
    · split at h
      · cases h; exact .pto h1 h0 h2
      · cases h
    · cases h
  | agg hl _ ih =>
    intro y v h
    unfold mrg at h
    split at h
    · obtain ⟨l, hl2, h⟩ := bnd_eq h
      cases h
      have := mrgs_t hl ih hl2
      exact .agg this.1 this.2
    · cases h
  | kb =>
    intro y v h
    unfold mrg at h
    split at h
    · cases h; exact .lit
    · cases h; exact .lit
    · cases h
  | _ => intro y v h; cases h
theorem mrgs_f {cs vs ds l : List V} (hl : ds.length = vs.length) (ih : ∀ (j : Nat) (v w : V), ds[j]? = some v → vs[j]? = some w → ∀ (y u : V), mrg false y v = some u → R ln u w) (h : mrg.L false cs ds = some l) : RL ln l vs := by
  induction cs generalizing vs ds l with
  | nil =>
    cases ds with
    | nil => cases h; cases vs with
      | nil => exact .nil
      | cons v vs => cases hl
    | cons d ds => cases h
  | cons c cs ih2 =>
    cases ds with
    | nil => cases h
    | cons d ds =>
      cases vs with
      | nil => cases hl
      | cons v vs =>
        unfold mrg.L at h
        obtain ⟨u, hu, h⟩ := bnd_eq h
        obtain ⟨l', hl', h⟩ := bnd_eq h
        cases h
        exact Rows.cons (ih 0 d v rfl rfl c u hu) (ih2 (by simpa using hl) (fun j a b h1 h2 => ih (j + 1) a b h1 h2) hl')
theorem mrg_f {y w : V} (hr : R ln y w) : ∀ (x v : V), mrg false x y = some v → R ln v w := by
  induction hr with
  | lit =>
    intro x v h
    cases x <;> first | (cases h; done) | skip
    case lit a =>
      obtain ⟨u, hu, h⟩ := bnd_eq h
      cases h
      rw [mrgL_f hu]; exact .lit
    case arr t l =>
      unfold mrg at h
      split at h
      · rename_i hq; cases hq
      · rename_i hq; cases hq; cases h; exact .arr (.inl ⟨rfl, 0, rfl⟩)
      · cases h
    case kb a =>
      unfold mrg at h
      split at h
      · rename_i hq; cases hq; cases h; exact .lit
      · rename_i hq; cases hq
      · cases h
  | arr hx =>
    intro x v h
    cases x <;> first | (cases h; done) | skip
    case lit a =>
      unfold mrg at h
      split at h
      · rename_i hq; cases hq
      · rename_i hq
        cases hq
        split at h <;> first | (cases h; done) | (cases h; exact .arr hx)
      · rename_i hq; cases hq
      · first
          | (cases h; done)
          | (split at h <;> first | (cases h; done) | (cases h; exact .arr hx))
    case arr t l =>
      obtain ⟨q, hq, h⟩ := bnd_eq h
      cases h
      obtain ⟨e, hq⟩ := cast_sl hq
      subst e
      subst hq
      exact .arr hx
  | own h1 =>
    intro x v h
    cases x <;> first | (cases h; done) | skip
    unfold mrg at h
    simp only at h
    split at h
    · rename_i hb
      cases h
      rw [beq_nat hb]; exact .own h1
    · cases h
  | sub h1 h0 h2 h3 =>
    intro x v h
    cases x <;> first | (cases h; done) | skip
    unfold mrg at h
    simp only at h
    split at h
    · rename_i hb
      cases h
      rw [beq_nat hb]; exact .sub h1 h0 h2 h3
    · cases h
  | ptr =>
    intro x v h
    cases x <;> first | (cases h; done) | skip
    unfold mrg at h
    simp only at h
    split at h
    · rename_i h1 h2 h3 h4
      cases h
      rw [beq_nat h1, beq_nat h2, beq_nat h3, beq_nat h4]; exact .ptr
    · cases h
  | pto h1 h0 h2 =>
    intro x v h
    cases x <;> first | (cases h; done) | skip
    unfold mrg at h
    simp only at h
    split at h
    · rename_i hb hc
      cases h
      rw [beq_nat hb, beq_nat hc]; exact .pto h1 h0 h2
    · cases h
  | agg hl _ ih =>
    intro x v h
    cases x <;> first | (cases h; done) | skip
    obtain ⟨l, hl2, h⟩ := bnd_eq h
    cases h
    have := mrgs_f hl ih hl2
    exact .agg this.1 this.2
  | kb =>
    intro x v h
    cases x <;> first | (cases h; done) | skip
    case lit a =>
      obtain ⟨u, hu, h⟩ := bnd_eq h
      cases h
      rw [mrgL_f hu]; exact .lit
    case kb a => cases h; exact .lit
  | _ => intro x v h; cases x <;> first | (cases h; done) | (unfold mrg at h; split at h <;> first | (cases h; done) | (rename_i hq; cases hq))

/-! ### One operation -/
theorem kPickO_R {ops : List Oper} {s s' : St} (hS : SRel ln (wantJ s'.tm ops) s s') {cur : Option (Nat × Bool)} (hc : curOK (wantJ s'.tm ops) cur) {c x : Operand} {z : Bool} {v : V} (hz : opd s'.tm c = some (.lit (.bool z))) (h : kPickO ops s.tm cur c z x = some v) : ∃ u, opd s'.tm x = some u ∧ R ln v u := by
  have plain : kO s.tm cur x = some v → ∃ u, opd s'.tm x = some u ∧ R ln v u := fun h => kO_R hS hc x v h
  unfold kPickO at h
  split at h
  · split at h
    · rename_i j w' g u ht
      split at h
      · rename_i d hd
        split at h
        · rename_i h1 h2
          cases h
          have e1 := beq_nat h1
          have e2 := beqB_eq h2
          subst e1
          subst e2
          obtain ⟨w, hw, hr⟩ := hS.tm _ _ ht
          cases hr with
          | val h => cases h
          | gd hw2 h3 h0 =>
            have : wantJ s'.tm ops j z = some true := by
              unfold wantJ
              rw [hd, bnd_intro rfl]
              rw [show s'.tm d = some (.lit (.bool z)) from hz, bnd_intro rfl]
              unfold wV
              cases z <;> rfl
            rw [this] at hw2
            cases hw2
            exact ⟨w, hw, h3 rfl⟩
        · exact plain h
      · cases h
    · exact plain h
  · exact plain h
theorem grds_inv {S : Type} : ∀ {ob : List Bool} {x : Option S} {r : S}, grds ob x = some r → (∀ b ∈ ob, b = true) ∧ x = some r
  | [], x, r, h => ⟨fun b hb => (by cases hb), h⟩
  | b :: q, x, r, h => by
    obtain ⟨h1, h⟩ := sel_some h
    obtain ⟨h2, h3⟩ := grds_inv h
    exact ⟨fun c hc => by rcases List.mem_cons.1 hc with rfl | hc; exact h1; exact h2 c hc, h3⟩
theorem grdz_inv {S : Type} : ∀ {ob : List Bool} {x : Option S} {r : S}, grdz true ob x = some r → (∀ b ∈ ob, b = true) ∧ x = some r
  | [], x, r, h => ⟨fun b hb => (by cases hb), h⟩
  | b :: q, x, r, h => by
    obtain ⟨h1, h⟩ := sel_some h
    obtain ⟨h2, h3⟩ := grdz_inv h
    refine ⟨fun c hc => ?_, h3⟩
    rcases List.mem_cons.1 hc with rfl | hc
    · cases c with
      | true => rfl
      | false => cases h1
    · exact h2 c hc
def mOK (m : Option Bool) : Prop := m = none ∨ m = some true
theorem grdm_inv {S : Type} {m : Option Bool} (hm : mOK m) {ob : List Bool} {x : Option S} {r : S} (h : grdm m ob x = some r) : (∀ b ∈ ob, b = true) ∧ x = some r := by
  rcases hm with rfl | rfl
  · exact grds_inv h
  · exact grdz_inv h
theorem pureDH {v w : V} (h : R ln v w) (hh : HR ln hK hV) (hf : FreeB ln k hK hV) : DH ln k hK hV ⟨some v, [], [], []⟩ ⟨some w, [], []⟩ ln :=
  (DR.pure h).dh hh hf (fun b hb => by cases hb) (Nat.zero_le _)
theorem kEx_R {S : Type} (hG : GOK C G) {n : Nat} {ops : List Oper} {m : Option Bool} (hm : mOK m) {cur : Option (Nat × Bool)} {s s' : St} (hS : SRel ln (wantJ s'.tm ops) s s') (hc : curOK (wantJ s'.tm ops) cur) (hf : FreeB ln k s.h s'.h) {op : Op} {κ : KD → Option S} {r : S} (h : kEx E G n ops m cur s k op κ = some r) :
    ∃ d d' ln', evOp E C s'.tm s'.h k op = some d' ∧ DH ln k s.h s'.h d d' ln' ∧ κ d = some r := by
  have hF := kO_R hS hc
  have gen : bndF n (kOp E (kO s.tm cur) s.h k op) (fun d => grdm m d.ob (κ d)) = some r → ∃ d d' ln', evOp E C s'.tm s'.h k op = some d' ∧ DH ln k s.h s'.h d d' ln' ∧ κ d = some r := fun h => by
    obtain ⟨d, hd, h⟩ := bndF_eq h
    obtain ⟨h1, h⟩ := grdm_inv hm h
    obtain ⟨d', ln', h2, h3⟩ := op_DH (call := C) hd h1 hf hF hS.h
    exact ⟨d, d', ln', h2, h3, h⟩
  unfold kEx at h
  split at h
  · rename_i c a b
    split at h
    · rename_i z hz
      have hcz : opd s'.tm c = some (.lit (.bool z)) := by
        unfold kPickB at hz
        split at hz
        · split at hz
          · rename_i hb
            cases hz
            obtain ⟨u, hu, hr⟩ := hS.tm _ _ hb
            cases hr with
            | val hr => cases hr; exact hu
          · cases hz
        · cases hz
      have kn : ∀ {x : Operand} {v w : V}, opd s'.tm x = some w → R ln v w → R ln (knownB x v) w := fun {x v w} hx hr => by
        unfold knownB
        split
        · cases hx; exact .kb
        · exact hr
      split at h
      · obtain ⟨x, hx, h⟩ := bndF_eq h
        obtain ⟨u, hu, hr⟩ := kPickO_R hS hc hcz hx
        exact ⟨_, _, ln, by simp only [evOp, hcz, hu, bnd, cnd, if_true]; rfl, pureDH (kn hu hr) hS.h hf, h⟩
      · obtain ⟨x, hx, h⟩ := bndF_eq h
        obtain ⟨u, hu, hr⟩ := kPickO_R hS hc hcz hx
        exact ⟨_, _, ln, by simp only [evOp, hcz, hu, bnd, cnd, Bool.false_eq_true, if_false]; rfl, pureDH (kn hu hr) hS.h hf, h⟩
    · obtain ⟨zc, hzc, h⟩ := bndF_eq h
      obtain ⟨cw, hcw, hcr⟩ := hF c zc hzc
      split at h
      · rename_i z
        cases hcr
        obtain ⟨x, hx, h⟩ := bndF_eq h
        obtain ⟨y, hy, h⟩ := bndF_eq h
        obtain ⟨v, hv, hfin⟩ := bndF_eq h
        cases z with
        | true =>
          obtain ⟨u, hu, hr⟩ := kPickO_R hS hc hcw hx
          exact ⟨_, _, ln, by simp only [evOp, hcw, hu, bnd, cnd, if_true]; rfl, pureDH (mrg_t hr _ _ hv) hS.h hf, hfin⟩
        | false =>
          obtain ⟨u, hu, hr⟩ := kPickO_R hS hc hcw hy
          exact ⟨_, _, ln, by simp only [evOp, hcw, hu, bnd, cnd, Bool.false_eq_true, if_false]; rfl, pureDH (mrg_f hr _ _ hv) hS.h hf, hfin⟩
      · cases h
  · rename_i c
    split at h
    · rename_i f hcal
      obtain ⟨fv, hfv, h⟩ := bndF_eq h
      obtain ⟨fw, hfw, hfr⟩ := hF f fv hfv
      split at h
      · rename_i g caps
        obtain ⟨vs, hvs, h⟩ := bndF_eq h
        obtain ⟨ws, hws, hrl⟩ := opds_R hF hvs
        cases hfr with
        | fn hl hcaps =>
          rename_i caps'
          have hargs : RL ln (vs ++ caps) (ws ++ caps') := hrl.append ⟨hl, hcaps⟩
          have key : ∃ d d' ln', callV C (E.mv g) s'.h k g (ws ++ caps') = some d' ∧ DH ln k s.h s'.h d d' ln' ∧ κ d = some r := by
            rcases hm with rfl | rfl
            · exact call_DH (fun f as0 bs κ r h => callS_inv hG h) h hargs hS.h hf
            · exact call_DH (fun f as0 bs κ r h => callG_inv hG h) h hargs hS.h hf
          obtain ⟨d, d', ln', h1, h2, h3⟩ := key
          refine ⟨d, d', ln', ?_, h2, h3⟩
          unfold evOp evCall
          simp only [hcal, hfw, bnd, hws, h1]
      · cases h
    · exact gen h
  · exact gen h
end
end Go.Ev
end

section
set_option linter.unusedVariables false
set_option linter.unusedSimpArgs false
set_option linter.unnecessarySimpa false
namespace Go.Ev
open Go

section
variable {ln ln' : Nat → Option (Nat × Nat)} {k : Nat} {E : Env} {C : CallF} {G : GT}

/-! ### Regions -/
def INV (pre : List Oper) (s : St) : Prop := ∀ t j w g v, s.tm t = some (.gd j w g v) → j < pre.length ∧ ∃ o ∈ pre, o.guard.isSome = true ∧ o.dst = some t
def LR (lg lg' : Log) : Prop := ∀ i, (lg i = none ∧ lg' i = none) ∨ ∃ a b, lg i = some a ∧ lg' i = some b ∧ (∀ x ∈ b.1, x ∈ a.1) ∧ (∀ x ∈ b.2, x ∈ a.2)
theorem LR.set {lg lg' : Log} (h : LR lg lg') {i : Nat} {a b : List Nat × List Nat} (h1 : ∀ x ∈ b.1, x ∈ a.1) (h2 : ∀ x ∈ b.2, x ∈ a.2) : LR (Ev.set lg i (some a)) (Ev.set lg' i (some b)) := fun j => by
  by_cases hj : j = i
  · subst hj
    rw [set_same, set_same]
    exact .inr ⟨a, b, rfl, rfl, h1, h2⟩
  · rw [set_ne hj, set_ne hj]; exact h j
theorem disj_mono : ∀ {a a' b b' : List Nat}, (∀ x ∈ a', x ∈ a) → (∀ x ∈ b', x ∈ b) → disj a b = true → disj a' b' = true := by
  intro a a' b b' h1 h2 h
  have spec : ∀ l m : List Nat, disj l m = true ↔ ∀ x ∈ l, x ∉ m := fun l m => by
    induction l with
    | nil => simp [disj]
    | cons c r ih =>
      simp only [disj, Bool.and_eq_true, Bool.not_eq_true', ih, List.mem_cons, forall_eq_or_imp]
      constructor
      · rintro ⟨h3, h4⟩
        exact ⟨fun hc => (by rw [(mem_spec m c).2 hc] at h3; cases h3), h4⟩
      · rintro ⟨h3, h4⟩
        refine ⟨?_, h4⟩
        cases hm : mem c m with
        | false => rfl
        | true => exact absurd ((mem_spec m c).1 hm) h3
  rw [spec] at h ⊢
  exact fun x hx hb => h x (h1 x hx) (h2 x hb)
theorem chkLog_mono {lg lg' : Log} (h : LR lg lg') : ∀ {u : List (Nat × List Nat)}, chkLog lg u = true → chkLog lg' u = true
  | [], _ => rfl
  | (j, l) :: r, hc => by
    unfold chkLog at hc ⊢
    simp only [Bool.and_eq_true] at hc ⊢
    refine ⟨?_, chkLog_mono h hc.2⟩
    have hr := hc.1
    clear hc
    induction l with
    | nil => rfl
    | cons i l ih =>
      unfold chkRow at hr ⊢
      simp only [Bool.and_eq_true] at hr ⊢
      refine ⟨?_, ih hr.2⟩
      have hr1 := hr.1
      rcases h j with ⟨a1, a2⟩ | ⟨a, b, a1, a2, a3, a4⟩
      · rw [a1] at hr1; cases hr1
      · rcases h i with ⟨c1, c2⟩ | ⟨c, d, c1, c2, c3, c4⟩
        · rw [a1, c1] at hr1; cases hr1
        · rw [a1, c1] at hr1
          rw [a2, c2]
          simp only [entD, Bool.and_eq_true] at hr1 ⊢
          exact ⟨disj_mono a4 c3 hr1.1, disj_mono c4 a3 hr1.2.1, disj_mono a4 c4 hr1.2.2⟩

theorem FR.ids {o : Operand → Option V} {tm : Nat → Option V} (ho : FR ln o tm) {x : Operand} {v : V} (h : o x = some v) : (match opd tm x with | some v => v.ids | none => []) = v.ids := by
  obtain ⟨w, hw, hr⟩ := ho x v h
  rw [hw]; exact hr.ids.symm
/-- What it looks at. -/
theorem rd_R {S : Type} {n : Nat} {ops : List Oper} {m : Option Bool} {cur : Option (Nat × Bool)} {s s' : St} (hS : SRel ln (wantJ s'.tm ops) s s') (hc : curOK (wantJ s'.tm ops) cur) {op : Op} {κ : KD → Option S} {r : S} (h : kEx E G n ops m cur s k op κ = some r) : rdV s'.h E s'.tm op = kRd E s.h (kO s.tm cur) op := by
  have hF := kO_R hS hc
  have one : ∀ {x : Operand} {f : V → Option KD} {κ : KD → Option S}, bndF n (bnd (kO s.tm cur x) f) κ = some r → ∃ v, kO s.tm cur x = some v := fun h => by
    obtain ⟨d, hd, h⟩ := bndF_eq h
    obtain ⟨v, hv, _⟩ := bnd_eq hd
    exact ⟨v, hv⟩
  cases op <;> first | rfl | skip
  case load t a =>
    obtain ⟨v, hv⟩ := one h
    simp only [rdV, kRd, hv]; exact hF.ids hv
  case store t a x =>
    obtain ⟨v, hv⟩ := one h
    simp only [rdV, kRd, hv]; exact hF.ids hv
  case convert a b x =>
    obtain ⟨v, hv⟩ := one h
    simp only [rdV, kRd, hv]; exact hF.ids hv
  case slice t x lo hi mx =>
    cases lo <;> cases hi <;> cases mx <;> first | rfl | skip
    obtain ⟨v, hv⟩ := one h
    simp only [rdV, kRd, hv]; exact hF.ids hv
  case call c =>
    obtain ⟨callee, args, ts⟩ := c
    cases callee <;> first | rfl | skip
    case value f =>
      simp only [kEx] at h
      obtain ⟨fv, hfv, h⟩ := bndF_eq h
      obtain ⟨fw, hfw, hfr⟩ := hF f fv hfv
      split at h
      · rename_i g caps
        obtain ⟨vs, hvs, h⟩ := bndF_eq h
        obtain ⟨ws, hws, hrl⟩ := opds_R hF hvs
        cases hfr with
        | fn hl hcaps =>
          have hargs : RL ln (vs ++ caps) (ws ++ _) := hrl.append ⟨hl, hcaps⟩
          simp only [rdV, kRd, hfv, hfw, hvs, hws]
          rw [hargs.ids, reach_R hS.h]
      · cases h
    case builtin b =>
      cases b <;> first | rfl | skip
      case append =>
        simp only [kEx] at h
        obtain ⟨d, hd, h⟩ := bndF_eq h
        simp only [kOp] at hd
        obtain ⟨vs, hvs, _⟩ := bnd_eq hd
        obtain ⟨ws, hws, hrl⟩ := opds_R hF hvs
        simp only [rdV, kRd, hvs, hws]
        rw [hrl.ids]
      case clear =>
        simp only [kEx] at h
        obtain ⟨d, hd, h⟩ := bndF_eq h
        simp only [kOp] at hd
        obtain ⟨vs, hvs, _⟩ := bnd_eq hd
        obtain ⟨ws, hws, hrl⟩ := opds_R hF hvs
        simp only [rdV, kRd, hvs, hws]
        rw [hrl.ids]
      case copy =>
        simp only [kEx] at h
        obtain ⟨d, hd, h⟩ := bndF_eq h
        simp only [kOp] at hd
        obtain ⟨vs, hvs, _⟩ := bnd_eq hd
        obtain ⟨ws, hws, hrl⟩ := opds_R hF hvs
        simp only [rdV, kRd, hvs, hws]
        rw [hrl.ids]

theorem gdst_mem : ∀ {ops : List Oper} {j t : Nat}, gdst ops j = some t → ∃ o, ops[j]? = some o ∧ o.dst = some t
  | [], _, _, h => by cases h
  | o :: _, 0, t, h => ⟨o, rfl, h⟩
  | o :: r, j + 1, t, h => by
    obtain ⟨o', h1, h2⟩ := gdst_mem (ops := r) h
    exact ⟨o', by simpa using h1, h2⟩
theorem dsts_mem : ∀ {ops : List Oper} {i t : Nat} {o : Oper}, ops[i]? = some o → o.dst = some t → t ∈ dsts ops
  | [], i, t, o, h, _ => by simp at h
  | x :: r, 0, t, o, h, hd => by
    simp at h; subst h
    simp [dsts, hd]
  | x :: r, i + 1, t, o, h, hd => by
    have := dsts_mem (ops := r) (by simpa using h) hd
    unfold dsts
    split
    · exact List.mem_cons_of_mem _ this
    · exact this
theorem dsts_inj : ∀ {ops : List Oper} {i j t : Nat} {o o' : Oper}, (dsts ops).Nodup → ops[i]? = some o → ops[j]? = some o' → o.dst = some t → o'.dst = some t → i = j
  | [], i, j, t, o, o', _, h, _, _, _ => by simp at h
  | x :: r, i, j, t, o, o', hn, h1, h2, h3, h4 => by
    have hn' : (dsts r).Nodup := by
      unfold dsts at hn
      split at hn
      · exact (List.nodup_cons.1 hn).2
      · exact hn
    have key : ∀ {i : Nat} {o : Oper}, x.dst = some t → r[i]? = some o → o.dst = some t → False := fun {i o} hx hi ho => by
      unfold dsts at hn
      rw [hx] at hn
      exact (List.nodup_cons.1 hn).1 (dsts_mem hi ho)
    cases i with
    | zero =>
      simp at h1; subst h1
      cases j with
      | zero => rfl
      | succ j => exact (key h3 (by simpa using h2) h4).elim
    | succ i =>
      cases j with
      | zero => simp at h2; subst h2; exact (key h4 (by simpa using h1) h3).elim
      | succ j => exact congrArg (· + 1) (dsts_inj hn' (by simpa using h1) (by simpa using h2) h3 h4)
theorem wantJ_put {ops pre r : List Oper} {o : Oper} (hops : ops = pre ++ o :: r) (hn : (dsts ops).Nodup) {tm : Nat → Option V} {x : Option V} {j : Nat} {w : Bool} (hj : j < pre.length) : wantJ (putT tm o.dst x) ops j w = wantJ tm ops j w := by
  unfold wantJ
  cases hg : gdst ops j with
  | none => rfl
  | some t =>
    simp only [bnd]
    cases hd : o.dst with
    | none => rfl
    | some d =>
      have hne : t ≠ d := fun e => by
        subst e
        obtain ⟨o', h1, h2⟩ := gdst_mem hg
        have h3 : ops[pre.length]? = some o := by rw [hops]; simp
        have := dsts_inj hn h1 h3 h2 hd
        omega
      simp only [putT, set_ne hne]
theorem putT_get {tm : Nat → Option V} {d : Option Nat} {x : Option V} {t : Nat} : putT tm d x t = if d = some t then x else tm t := by
  cases d with
  | none => simp [putT]
  | some d =>
    simp only [putT, set, Option.some.injEq]
    by_cases h : t = d
    · subst h; simp
    · rw [if_neg h, if_neg (fun e => h e.symm)]

/-- Behind an operation. -/
theorem SRel.step {ops pre r : List Oper} {o : Oper} (hops : ops = pre ++ o :: r) (hn : (dsts ops).Nodup) {s s' : St} (hS : SRel ln (wantJ s'.tm ops) s s') (hI : INV pre s) {x : Option V} {x' : Option V} {h1 h1' : Nat → Option Blk} {tmK : Nat → Option V}
    (hle : ∀ b p, ln b = some p → ln' b = some p) (hH : HR ln' h1 h1') (htm : ∀ t v, tmK t = some v → (o.dst = some t ∧ x = some v) ∨ (o.dst ≠ some t ∧ (s.tm t = some v ∨ ∃ b, v = .kb b ∧ s'.tm t = some (.lit (.bool b)))))
    (hx : ∀ v, x = some v → ∃ w, x' = some w ∧ RT ln' (wantJ (putT s'.tm o.dst x') ops) v w) :
    SRel ln' (wantJ (putT s'.tm o.dst x') ops) { s with tm := tmK, h := h1 } { s' with tm := putT s'.tm o.dst x', h := h1' } := by
  refine ⟨fun t v ht => ?_, hH, hS.nt, hS.ni⟩
  show ∃ w, putT s'.tm o.dst x' t = some w ∧ _
  rw [putT_get]
  rcases htm t v ht with ⟨h2, h3⟩ | ⟨h2, h3⟩
  · rw [if_pos h2]
    exact hx v h3
  · rw [if_neg h2]
    rcases h3 with h3 | ⟨b, rfl, h3⟩
    · obtain ⟨w, hw, hr⟩ := hS.tm t v h3
      refine ⟨w, hw, hr.mono hle fun j w0 g u hv hwj => ?_⟩
      subst hv
      rw [wantJ_put hops hn (hI t j w0 g u h3).1]; exact hwj
    · exact ⟨_, h3, .val .kb⟩
theorem still_inv {d : KD} (h : still d = true) : d.nb = [] ∧ d.up = [] := by
  obtain ⟨v, nb, up, ob⟩ := d
  unfold still at h
  simp only at h
  split at h
  · exact ⟨rfl, rfl⟩
  · cases h
theorem keys_nil {up : List (Nat × Option Blk)} (h : ∀ b, b ∈ keysU up → b ∈ ([] : List Nat)) : up = [] := by
  cases up with
  | nil => rfl
  | cons p r => have := h p.1 (by unfold keysU; simp); cases this
end
end Go.Ev
end
