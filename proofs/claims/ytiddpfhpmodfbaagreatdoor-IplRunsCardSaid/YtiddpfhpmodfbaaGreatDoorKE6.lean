/- A part of the proof: texts of the author, joined. -/
import Derived.Test.YtiddpfhpmodfbaaGreatDoorKE5
import Derived.Eval
import Derived.Shelf.Strings.Repeat
import Derived.Shelf.Strings.Search3
section
set_option linter.unusedVariables false
set_option linter.unusedSimpArgs false
set_option linter.unnecessarySimpa false
namespace Go.Ev
open Go

/-! ## Regions that draw their order -/
theorem putU_over : ∀ (up : List (Nat × Option Blk)), ∃ g : Nat → Option (Option Blk), (∀ h b, putU h up b = (g b).getD (h b)) ∧ ∀ b, (g b).isSome = true → b ∈ keysU up
  | [] => ⟨fun _ => none, fun _ _ => rfl, fun _ h => by cases h⟩
  | (b0, x) :: r => by
    obtain ⟨g, h1, h2⟩ := putU_over r
    refine ⟨fun b => match g b with | some y => some y | none => if b = b0 then some x else none, fun h b => ?_, fun b hb => ?_⟩
    · rw [putU, h1]
      cases hg : g b with
      | some y => simp only [hg, Option.getD_some]
      | none =>
        simp only [hg, Option.getD_none]
        by_cases hb : b = b0
        · subst hb; rw [set_same, if_pos rfl]; rfl
        · rw [set_ne hb, if_neg hb]; rfl
    · simp only at hb
      cases hg : g b with
      | some y => exact List.mem_cons_of_mem _ (h2 b (by rw [hg]; rfl))
      | none =>
        rw [hg] at hb
        simp only at hb
        by_cases hbb : b = b0
        · subst hbb; exact List.mem_cons_self
        · rw [if_neg hbb] at hb; cases hb
theorem putN_over : ∀ (nb : List Blk) (k : Nat), ∃ g : Nat → Option (Option Blk), (∀ h b, putN h k nb b = (g b).getD (h b)) ∧ ∀ b, (g b).isSome = true → b ∈ rngL k nb.length
  | [], _ => ⟨fun _ => none, fun _ _ => rfl, fun _ h => by cases h⟩
  | x :: r, k => by
    obtain ⟨g, h1, h2⟩ := putN_over r (k + 1)
    refine ⟨fun b => match g b with | some y => some y | none => if b = k then some (some x) else none, fun h b => ?_, fun b hb => ?_⟩
    · rw [putN, h1]
      cases hg : g b with
      | some y => simp only [hg, Option.getD_some]
      | none =>
        simp only [hg, Option.getD_none]
        by_cases hb : b = k
        · subst hb; rw [set_same, if_pos rfl]; rfl
        · rw [set_ne hb, if_neg hb]; rfl
    · simp only at hb
      rw [List.length_cons, rngL]
      cases hg : g b with
      | some y => exact List.mem_cons_of_mem _ (h2 b (by rw [hg]; rfl))
      | none =>
        rw [hg] at hb
        simp only at hb
        by_cases hbb : b = k
        · subst hbb; exact List.mem_cons_self
        · rw [if_neg hbb] at hb; cases hb
theorem put_over (up : List (Nat × Option Blk)) (nb : List Blk) (k : Nat) : ∃ g : Nat → Option (Option Blk), (∀ h b, putN (putU h up) k nb b = (g b).getD (h b)) ∧ ∀ b, (g b).isSome = true → b ∈ keysU up ++ rngL k nb.length := by
  obtain ⟨g1, h1, h2⟩ := putU_over up
  obtain ⟨g2, h3, h4⟩ := putN_over nb k
  refine ⟨fun b => match g2 b with | some y => some y | none => g1 b, fun h b => ?_, fun b hb => ?_⟩
  · rw [h3, h1]
    cases hg : g2 b with
    | some y => simp only [hg, Option.getD_some]
    | none => simp only [hg, Option.getD_none]
  · simp only at hb
    cases hg : g2 b with
    | some y => exact List.mem_append_right _ (h4 b (by rw [hg]; rfl))
    | none => rw [hg] at hb; exact List.mem_append_left _ (h2 b hb)

theorem disj_spec : ∀ {a b : List Nat}, disj a b = true → ∀ x, x ∈ a → x ∈ b → False
  | [], _, _, _, hx, _ => by cases hx
  | y :: r, b, h, x, hx, hb => by
    simp only [disj, Bool.and_eq_true, Bool.not_eq_true'] at h
    rcases List.mem_cons.1 hx with rfl | hx
    · have := (mem_spec b x).2 hb
      rw [h.1] at this; cases this
    · exact disj_spec h.2 x hx hb
theorem disj_nil : ∀ a : List Nat, disj a [] = true
  | [] => rfl
  | x :: r => by simp [disj, mem, disj_nil r]

section
variable (E : Env) (call : CallF) (ops : List Oper) (k0 : Nat) (lg : Log)
def Does (i : Nat) (o : Oper) (tm : Nat → Option V) (h : Nat → Option Blk) (d : Dl) : Prop :=
  ∃ w, want tm ops o = some w ∧ ((w = true ∧ evOp E call tm h (k0 + maxNew * i) o.op = some d ∧ lg i = some (rdV h E tm o.op, keysU d.up ++ rngL (k0 + maxNew * i) d.nb.length)) ∨
    (w = false ∧ d = ⟨some (.tup []), [], []⟩ ∧ lg i = some ([], [])))
def StepD (i : Nat) (o : Oper) (s s' : St) : Prop := ltO o.dst s.nt ∧ ∃ d, Does E call ops k0 lg i o s.tm s.h d ∧ s' = app s (k0 + maxNew * i) o d
def RunD : List Nat → St → St → Prop
  | [], s, q => s = q
  | i :: l, s, q => ∃ o s', ops[i]? = some o ∧ StepD E call ops k0 lg i o s s' ∧ RunD l s' q
end

section
variable {E : Env} {call : CallF} {ops : List Oper} {k0 : Nat} {lg : Log}

theorem Does.local {i : Nat} {o : Oper} {tm tm' : Nat → Option V} {h h' : Nat → Option Blk} {d : Dl} {rd ch : List Nat} (hd : Does E call ops k0 lg i o tm h d)
    (h1 : ∀ x ∈ o.op.operands, opd tm x = opd tm' x) (h2 : ∀ j w t, o.guard = some (j, w) → gdst ops j = some t → tm t = tm' t) (hl : lg i = some (rd, ch)) (h3 : ∀ b ∈ rd, h b = h' b) : Does E call ops k0 lg i o tm' h' d := by
  obtain ⟨w, hw, hh⟩ := hd
  refine ⟨w, by rw [← want_tm h2]; exact hw, ?_⟩
  rcases hh with ⟨e1, e2, e3⟩ | ⟨e1, e2, e3⟩
  · refine .inl ⟨e1, ?_, ?_⟩
    · rw [e3] at hl
      cases hl
      rw [← evOp_tm h1, ← evOp_h h3]
      exact e2
    · rw [e3] at hl
      cases hl
      rw [← rdV_tm h1, ← rdV_h h3]
      exact e3
  · exact .inr ⟨e1, e2, e3⟩

theorem opd_put {tm : Nat → Option V} {dst : Option Nat} {v : Option V} {o : Oper} (h : ∀ d, dst = some d → d ∉ o.looksAt ops.toArray) : (∀ x ∈ o.op.operands, opd (putT tm dst v) x = opd tm x) ∧ (∀ j w t, o.guard = some (j, w) → gdst ops j = some t → putT tm dst v t = tm t) := by
  constructor
  · intro x hx
    cases x with
    | tmp t =>
      cases dst with
      | none => rfl
      | some d =>
        have : t ≠ d := fun he => h d rfl (by
          subst he
          exact List.mem_append_left _ (List.mem_filterMap.2 ⟨.tmp t, by simpa using hx, rfl⟩))
        simp only [opd, putT, set_ne this]
    | _ => rfl
  · intro j w t hg ht
    cases dst with
    | none => rfl
    | some d =>
      have : t ≠ d := fun he => h d rfl (by
        subst he
        rw [gdst_eq] at ht
        have ht' : (ops.toArray[j]?).bind (·.dst) = some t := by simpa using ht
        unfold Oper.looksAt
        refine List.mem_append_right _ ?_
        rw [hg]
        simp only [ht', Option.toList_some, List.mem_singleton])
      simp only [putT, set_ne this]

def Pl (x : Option Dl) : Prop := ∀ d, x = some d → d.up = [] ∧ d.nb = []
theorem Pl.none' : Pl none := fun _ h => by cases h
theorem Pl.pure (v : V) : Pl (pureD v) := fun _ h => by cases h; exact ⟨rfl, rfl⟩
theorem Pl.bnd {α : Type} {x : Option α} {f : α → Option Dl} (h : ∀ a, Pl (f a)) : Pl (bnd x f) := fun d hd => by obtain ⟨a, _, h1⟩ := bnd_eq hd; exact h a d h1
theorem Pl.grd {p : Prop} [Decidable p] {x : Option Dl} (h : Pl x) : Pl (grd p x) := fun d hd => h d (grd_eq hd).2
theorem Pl.cnd {b : Bool} {x y : Option Dl} (h : Pl x) (h' : Pl y) : Pl (cnd b x y) := fun d hd => by rcases cnd_eq hd with ⟨_, h1⟩ | ⟨_, h1⟩; exact h d h1; exact h' d h1
theorem plain_ev {tm : Nat → Option V} {h : Nat → Option Blk} {k : Nat} {op : Op} (hp : plain op = true) : Pl (evOp E call tm h k op) := by
  cases op <;> first | (cases hp; done) | skip
  case makeFunc fn first captured =>
    cases fn <;> first
      | exact Pl.none'
      | (simp only [evOp]; cases first.isEmpty; exact Pl.none'; exact Pl.bnd fun _ => Pl.pure _)
  case slice t x lo hi mx =>
    cases mx with
    | some m => exact Pl.none'
    | none => exact Pl.bnd fun _ => Pl.bnd fun _ => Pl.bnd fun _ => Pl.bnd fun _ => Pl.pure _
  case call c =>
    obtain ⟨callee, args, tys⟩ := c
    show Pl (evCall E call tm h k _)
    cases callee with
    | value f => cases hp
    | invoke r m => exact Pl.none'
    | builtin b =>
      cases b <;> first
        | (cases hp; done)
        | exact Pl.none'
        | (simp only [evCall]; repeat (first | exact Pl.none' | exact Pl.pure _ | (refine Pl.bnd fun _ => ?_) | split))
  all_goals
    unfold evOp
    repeat (first | exact Pl.none' | exact Pl.pure _ | (refine Pl.bnd fun _ => ?_) | refine Pl.grd ?_ | refine Pl.cnd ?_ ?_ | split)
theorem plain_rd {tm : Nat → Option V} {h : Nat → Option Blk} {op : Op} (hp : plain op = true) : rdV h E tm op = [] := by
  cases op <;> first | (cases hp; done) | rfl | skip
  rename_i c
  obtain ⟨callee, args, tys⟩ := c
  cases callee with
  | value f => cases hp
  | invoke r m => rfl
  | builtin b => cases b <;> first | (cases hp; done) | rfl
theorem plain_does {i : Nat} {o : Oper} {tm : Nat → Option V} {h : Nat → Option Blk} {d : Dl} (hp : plain o.op = true) (hd : Does E call ops k0 lg i o tm h d) : lg i = some ([], []) := by
  obtain ⟨w, hw, ⟨e1, e2, e3⟩ | ⟨e1, e2, e3⟩⟩ := hd
  · have key : rdV h E tm o.op = [] ∧ d.up = [] ∧ d.nb = [] := ⟨plain_rd hp, plain_ev hp d e2⟩
    rw [e3, key.1, key.2.1, key.2.2]; rfl
  · exact e3
theorem reads_does {i : Nat} {o : Oper} {tm : Nat → Option V} {h : Nat → Option Blk} {d : Dl} (hp : reads o.op = true) (hd : Does E call ops k0 lg i o tm h d) : ∃ rd, lg i = some (rd, []) := by
  cases hop : o.op <;> rw [hop] at hp <;> first
    | exact ⟨_, plain_does (o := o) (by rw [hop]; exact hp) hd⟩
    | skip
  obtain ⟨w, hw, ⟨e1, e2, e3⟩ | ⟨e1, e2, e3⟩⟩ := hd
  · rw [hop] at e2
    unfold evOp at e2
    obtain ⟨p, _, e2⟩ := bnd_eq e2
    obtain ⟨q, _, e2⟩ := bnd_eq e2
    cases e2
    exact ⟨_, e3⟩
  · exact ⟨_, e3⟩

/-- These two may change places. -/
def Free (un : List (Nat × List Nat)) (i : Nat) (oi : Oper) (j : Nat) (oj : Oper) : Prop :=
  oi.apart ops.toArray oj = true ∧ (plain oi.op = true ∨ plain oj.op = true ∨ (reads oi.op = true ∧ reads oj.op = true) ∨ ∃ l, (i, l) ∈ un ∧ j ∈ l)

theorem chkRow_spec {j : Nat} : ∀ {l : List Nat}, chkRow lg j l = true → ∀ i, i ∈ l → ∃ a b, lg j = some a ∧ lg i = some b ∧ entD a b = true
  | [], _, _, hi => by cases hi
  | x :: r, h, i, hi => by
    simp only [chkRow, Bool.and_eq_true] at h
    rcases List.mem_cons.1 hi with rfl | hi
    · have h1 := h.1
      cases ha : lg j with
      | none => rw [ha] at h1; cases h1
      | some a =>
        cases hb : lg i with
        | none => rw [ha, hb] at h1; cases h1
        | some b => rw [ha, hb] at h1; exact ⟨a, b, rfl, rfl, h1⟩
    · exact chkRow_spec h.2 i hi
theorem chkLog_spec : ∀ {un : List (Nat × List Nat)}, chkLog lg un = true → ∀ j l, (j, l) ∈ un → chkRow lg j l = true
  | [], _, _, _, hi => by cases hi
  | (j0, l0) :: r, h, j, l, hi => by
    simp only [chkLog, Bool.and_eq_true] at h
    rcases List.mem_cons.1 hi with he | hi
    · cases he; exact h.1
    · exact chkLog_spec h.2 j l hi

theorem StepD.comm {un : List (Nat × List Nat)} {i j : Nat} {oi oj : Oper} {s s1 s2 : St} (hun : chkLog lg un = true) (hf : Free (ops := ops) un i oi j oj) (h1 : StepD E call ops k0 lg i oi s s1) (h2 : StepD E call ops k0 lg j oj s1 s2) :
    ∃ s1', StepD E call ops k0 lg j oj s s1' ∧ StepD E call ops k0 lg i oi s1' s2 := by
  obtain ⟨hap, hf⟩ := hf
  obtain ⟨l1, di, hdi, rfl⟩ := h1
  obtain ⟨l2, dj, hdj, rfl⟩ := h2
  have hdj : Does E call ops k0 lg j oj (putT s.tm oi.dst di.v) (putN (putU s.h di.up) (k0 + maxNew * i) di.nb) dj := hdj
  have hent : ∃ a b, lg i = some a ∧ lg j = some b ∧ entD a b = true := by
    rcases hf with h | h | ⟨h, h'⟩ | ⟨l, h, h'⟩
    · have e1 := plain_does h hdi
      have : ∃ b, lg j = some b := by obtain ⟨w, hw, ⟨_, _, e3⟩ | ⟨_, _, e3⟩⟩ := hdj <;> exact ⟨_, e3⟩
      obtain ⟨b, hb⟩ := this
      exact ⟨_, b, e1, hb, by simp [entD, disj, disj_nil]⟩
    · have e1 := plain_does h hdj
      have : ∃ b, lg i = some b := by obtain ⟨w, hw, ⟨_, _, e3⟩ | ⟨_, _, e3⟩⟩ := hdi <;> exact ⟨_, e3⟩
      obtain ⟨b, hb⟩ := this
      exact ⟨b, _, hb, e1, by simp [entD, disj, disj_nil]⟩
    · obtain ⟨r1, e1⟩ := reads_does h hdi
      obtain ⟨r2, e2⟩ := reads_does h' hdj
      exact ⟨_, _, e1, e2, by simp [entD, disj]⟩
    · exact chkRow_spec (chkLog_spec hun i l h) j h'
  obtain ⟨⟨ri, ci⟩, ⟨rj, cj⟩, hli, hlj, he⟩ := hent
  simp only [entD, Bool.and_eq_true] at he
  obtain ⟨e1, e2, e3⟩ := he
  have hci : ∀ b, b ∈ keysU di.up ++ rngL (k0 + maxNew * i) di.nb.length → b ∈ ci := by
    obtain ⟨w, hw, ⟨_, _, e⟩ | ⟨_, e, e'⟩⟩ := hdi
    · rw [hli] at e; cases e; exact fun _ h => h
    · subst e; intro b hb; cases hb
  have hcj : ∀ b, b ∈ keysU dj.up ++ rngL (k0 + maxNew * j) dj.nb.length → b ∈ cj := by
    obtain ⟨w, hw, ⟨_, _, e⟩ | ⟨_, e, e'⟩⟩ := hdj
    · rw [hlj] at e; cases e; exact fun _ h => h
    · subst e; intro b hb; cases hb
  obtain ⟨gi, hgi, hgi'⟩ := put_over di.up di.nb (k0 + maxNew * i)
  obtain ⟨gj, hgj, hgj'⟩ := put_over dj.up dj.nb (k0 + maxNew * j)
  obtain ⟨a1, a2, a3⟩ := Oper.apart_spec hap
  obtain ⟨p1, p2⟩ := opd_put (ops := ops) (tm := s.tm) (v := di.v) a1
  have hdj' : Does E call ops k0 lg j oj s.tm s.h dj := hdj.local (fun x hx => p1 x hx) p2 hlj (fun b hb => by
    rw [hgi]
    cases hg : gi b with
    | none => rfl
    | some y => exact (disj_spec e1 b (hci b (hgi' b (by rw [hg]; rfl))) hb).elim)
  obtain ⟨p3, p4⟩ := opd_put (ops := ops) (tm := s.tm) (v := dj.v) a3
  have hdi' : Does E call ops k0 lg i oi (putT s.tm oj.dst dj.v) (putN (putU s.h dj.up) (k0 + maxNew * j) dj.nb) di := hdi.local (fun x hx => (p3 x hx).symm) (fun a b c d e => (p4 a b c d e).symm) hli (fun b hb => by
    rw [hgj]
    cases hg : gj b with
    | none => rfl
    | some y => exact (disj_spec e2 b (hcj b (hgj' b (by rw [hg]; rfl))) hb).elim)
  refine ⟨app s (k0 + maxNew * j) oj dj, ⟨l2, dj, hdj', rfl⟩, l1, di, hdi', ?_⟩
  have ht : putT (putT s.tm oi.dst di.v) oj.dst dj.v = putT (putT s.tm oj.dst dj.v) oi.dst di.v := by
    cases hx : oi.dst with
    | none => rfl
    | some x =>
      cases hy : oj.dst with
      | none => rfl
      | some y =>
        have hne : y ≠ x := fun he => a2 x hx (by rw [hy, he])
        funext t
        simp only [putT]
        by_cases h1 : t = y
        · subst h1; rw [set_same, set_ne hne, set_same]
        · rw [set_ne h1]
          by_cases h2 : t = x
          · subst h2; rw [set_same, set_same]
          · rw [set_ne h2, set_ne h2, set_ne h1]
  have hh : putN (putU (putN (putU s.h di.up) (k0 + maxNew * i) di.nb) dj.up) (k0 + maxNew * j) dj.nb = putN (putU (putN (putU s.h dj.up) (k0 + maxNew * j) dj.nb) di.up) (k0 + maxNew * i) di.nb := by
    funext b
    rw [hgj, hgi, hgi, hgj]
    cases h1 : gi b with
    | none => rfl
    | some x =>
      cases h2 : gj b with
      | none => rfl
      | some y => exact (disj_spec e3 b (hci b (hgi' b (by rw [h1]; rfl))) (hcj b (hgj' b (by rw [h2]; rfl)))).elim
  show app (app s (k0 + maxNew * i) oi di) (k0 + maxNew * j) oj dj = app (app s (k0 + maxNew * j) oj dj) (k0 + maxNew * i) oi di
  unfold app
  simp only [ht, hh]

theorem RunD.front {un : List (Nat × List Nat)} (hun : chkLog lg un = true) {i : Nat} {l2 : List Nat} {q : St} : ∀ {l1 : List Nat} {s : St}, (∀ m ∈ l1, ∀ om oi, ops[m]? = some om → ops[i]? = some oi → Free (ops := ops) un m om i oi) → RunD E call ops k0 lg (l1 ++ i :: l2) s q →
    ∃ o s', ops[i]? = some o ∧ StepD E call ops k0 lg i o s s' ∧ RunD E call ops k0 lg (l1 ++ l2) s' q
  | [], s, _, h => h
  | m :: l1, s, hf, h => by
    obtain ⟨om, s1, hm, hs, h⟩ := h
    obtain ⟨o, s', ho, hs', h⟩ := RunD.front hun (fun m hm => hf m (List.mem_cons_of_mem _ hm)) h
    obtain ⟨s1', h1, h2⟩ := hs.comm hun (hf m List.mem_cons_self om o hm ho) hs'
    exact ⟨o, s1', ho, h1, om, s', hm, h2, h⟩

theorem evOpsD_run : ∀ (l : List Oper) (i : Nat) (lg0 lg : Log) (s q : St), (∀ j, l[j]? = ops[i + j]?) → evOpsD E call ops l i (k0 + maxNew * i) lg0 s = some (lg, q) →
    (∀ j, j < i → lg j = lg0 j) ∧ q.nx = k0 + maxNew * (i + l.length) ∧ RunD E call ops k0 lg (rngL i l.length) s { q with nx := s.nx }
  | [], i, lg0, lg, s, q, _, h => by cases h; exact ⟨fun _ _ => rfl, rfl, rfl⟩
  | o :: r, i, lg0, lg, s, q, hl, h => by
    have ho : ops[i]? = some o := by simpa using (hl 0).symm
    have hl' : ∀ j, r[j]? = ops[i + 1 + j]? := fun j => by have := hl (j + 1); rw [List.getElem?_cons_succ] at this; rw [this]; congr 1; omega
    unfold evOpsD at h
    obtain ⟨w, hw, h⟩ := bnd_eq h
    have hk : k0 + maxNew * i + maxNew = k0 + maxNew * (i + 1) := by rw [Nat.mul_add, Nat.mul_one]; omega
    rw [hk] at h
    rcases cnd_eq h with ⟨rfl, h⟩ | ⟨rfl, h⟩
    · obtain ⟨d, hd, h⟩ := bnd_eq h
      obtain ⟨hlt, h⟩ := grd_eq h
      obtain ⟨h1, h2, h3⟩ := evOpsD_run r (i + 1) _ lg _ q hl' h
      have hi := h1 i (by omega)
      rw [set_same] at hi
      refine ⟨fun j hj => by rw [h1 j (by omega), set_ne (by omega)], by rw [h2, List.length_cons]; congr 2; omega, ?_⟩
      exact ⟨o, app s (k0 + maxNew * i) o d, ho, ⟨hlt, d, ⟨true, hw, .inl ⟨rfl, hd, hi⟩⟩, rfl⟩, h3⟩
    · obtain ⟨hlt, h⟩ := grd_eq h
      obtain ⟨h1, h2, h3⟩ := evOpsD_run r (i + 1) _ lg _ q hl' h
      have hi := h1 i (by omega)
      rw [set_same] at hi
      refine ⟨fun j hj => by rw [h1 j (by omega), set_ne (by omega)], by rw [h2, List.length_cons]; congr 2; omega, ?_⟩
      exact ⟨o, app s (k0 + maxNew * i) o ⟨some (.tup []), [], []⟩, ho, ⟨hlt, _, ⟨false, hw, .inr ⟨rfl, rfl, hi⟩⟩, rfl⟩, h3⟩
end
end Go.Ev
end

section
set_option linter.unusedVariables false
set_option linter.unusedSimpArgs false
set_option linter.unnecessarySimpa false
namespace Go.Ev
open Go

def predsO (o : Oper) : List Nat := (o.after.toList.filter (Region.binds .any)).map (·.on)
def uni : List Nat → List Nat → List Nat
  | [], l => l
  | x :: r, l => cond (mem x l) (uni r l) (uni r (x :: l))
def ancAll (acc : List (List Nat)) : List Nat → List Nat → List Nat
  | [], l => l
  | p :: r, l => ancAll acc r (uni (p :: (acc[p]?).getD []) l)
/-- Behind which others each operation stands. -/
def ancs : List Oper → List (List Nat) → List (List Nat)
  | [], acc => acc
  | o :: r, acc => ancs r (acc ++ [ancAll acc (predsO o) []])
def lt? (a b : Nat) : Bool := Nat.blt a b
def unHas (un : List (Nat × List Nat)) (i j : Nat) : Bool := un.any fun q => q.1 == i && mem j q.2
def freeB (ops : List Oper) (un : List (Nat × List Nat)) (i : Nat) (oi : Oper) (j : Nat) (oj : Oper) : Bool :=
  oi.apart ops.toArray oj && (plain oi.op || (plain oj.op || ((reads oi.op && reads oj.op) || unHas un i j)))
/-- The pairs (m, i), m < i. -/
def rowB (ops : List Oper) (un : List (Nat × List Nat)) (anc : List Nat) (i : Nat) (oi : Oper) : List Oper → Nat → Bool
  | [], _ => true
  | om :: r, m => cond (Nat.blt m i) ((mem m anc || freeB ops un m om i oi) && rowB ops un anc i oi r (m + 1)) true
def noSel (o : Oper) : Bool := match o.op with | .select .. => false | _ => true
def rowsB (ops : List Oper) (un : List (Nat × List Nat)) (T : List (List Nat)) : List Oper → Nat → Bool
  | [], _ => true
  | o :: r, i => (predsO o).all (fun p => Nat.blt p i) &&
      ((T.getD i []).all (fun m => Nat.blt m i && (mem m (predsO o) || (predsO o).any fun p => mem m (T.getD p []))) &&
      (rowB ops un (T.getD i []) i o ops 0 && rowsB ops un T r (i + 1)))
def drawB (ops : List Oper) (un : List (Nat × List Nat)) : Bool := rowsB ops un (ancs ops []) ops 0

theorem rowB_spec {ops : List Oper} {un : List (Nat × List Nat)} {anc : List Nat} {i : Nat} {oi : Oper} : ∀ {l : List Oper} {m0 : Nat}, rowB ops un anc i oi l m0 = true → ∀ j om, l[j]? = some om → m0 + j < i → (m0 + j ∈ anc ∨ Free (ops := ops) un (m0 + j) om i oi)
  | [], _, _, j, om, hj, _ => by cases hj
  | o :: r, m0, h, j, om, hj, hlt => by
    unfold rowB at h
    have hb : Nat.blt m0 i = true := by rw [Nat.blt_eq]; omega
    rw [hb] at h
    simp only [cond_true, Bool.and_eq_true, Bool.or_eq_true] at h
    cases j with
    | zero =>
      cases hj
      rcases h.1 with h1 | h1
      · exact .inl ((mem_spec _ _).1 h1)
      · refine .inr ?_
        simp only [freeB, Bool.and_eq_true, Bool.or_eq_true, unHas, List.any_eq_true, beq_iff_eq] at h1
        refine ⟨h1.1, ?_⟩
        rcases h1.2 with h2 | h2 | h2 | ⟨⟨a, l⟩, h3, h4, h5⟩
        · exact .inl h2
        · exact .inr (.inl h2)
        · exact .inr (.inr (.inl h2))
        · exact .inr (.inr (.inr ⟨l, by simp only at h4; subst h4; exact h3, (mem_spec _ _).1 h5⟩))
    | succ j =>
      have := rowB_spec h.2 j om (by simpa using hj) (by omega)
      rwa [show m0 + 1 + j = m0 + (j + 1) by omega] at this

structure DrawGood (ops : List Oper) (un : List (Nat × List Nat)) (T : Nat → List Nat) : Prop where
  lt : ∀ i o, ops[i]? = some o → ∀ e ∈ o.after, Region.binds .any e = true → e.on < i
  anc : ∀ i o, ops[i]? = some o → ∀ m ∈ T i, m < i ∧ ∃ e ∈ o.after, Region.binds .any e = true ∧ (e.on = m ∨ m ∈ T e.on)
  free : ∀ i oi m om, ops[i]? = some oi → ops[m]? = some om → m < i → m ∈ T i ∨ Free (ops := ops) un m om i oi

theorem mem_predsO {o : Oper} {p : Nat} : p ∈ predsO o ↔ ∃ e ∈ o.after, Region.binds .any e = true ∧ e.on = p := by
  simp [predsO, List.mem_map, List.mem_filter, and_assoc]

theorem rowsB_spec {ops : List Oper} {un : List (Nat × List Nat)} {T : List (List Nat)} : ∀ {l : List Oper} {i0 : Nat}, rowsB ops un T l i0 = true → ∀ j o, l[j]? = some o →
    (∀ e ∈ o.after, Region.binds .any e = true → e.on < i0 + j) ∧ (∀ m ∈ T.getD (i0 + j) [], m < i0 + j ∧ ∃ e ∈ o.after, Region.binds .any e = true ∧ (e.on = m ∨ m ∈ T.getD e.on [])) ∧
    (∀ m om, ops[m]? = some om → m < i0 + j → m ∈ T.getD (i0 + j) [] ∨ Free (ops := ops) un m om (i0 + j) o)
  | [], _, _, j, o, hj => by cases hj
  | o0 :: r, i0, h, j, o, hj => by
    unfold rowsB at h
    simp only [Bool.and_eq_true] at h
    obtain ⟨h1, h2, h3, h4⟩ := h
    cases j with
    | zero =>
      cases hj
      refine ⟨fun e he hb => ?_, fun m hm => ?_, fun m om hm hlt => ?_⟩
      · have := List.all_eq_true.1 h1 e.on (mem_predsO.2 ⟨e, he, hb, rfl⟩)
        rw [Nat.blt_eq] at this; exact this
      · have := List.all_eq_true.1 h2 m hm
        simp only [Bool.and_eq_true, Bool.or_eq_true, Nat.blt_eq, List.any_eq_true] at this
        refine ⟨this.1, ?_⟩
        rcases this.2 with h5 | ⟨p, hp, h5⟩
        · obtain ⟨e, he, hb, hh⟩ := mem_predsO.1 ((mem_spec _ _).1 h5)
          exact ⟨e, he, hb, .inl hh⟩
        · obtain ⟨e, he, hb, hh⟩ := mem_predsO.1 hp
          subst hh
          exact ⟨e, he, hb, .inr ((mem_spec _ _).1 h5)⟩
      · have := rowB_spec h3 m om hm (by omega)
        simpa using this
    | succ j =>
      have := rowsB_spec h4 j o (by simpa using hj)
      rwa [show i0 + 1 + j = i0 + (j + 1) by omega] at this

theorem drawB_spec {ops : List Oper} {un : List (Nat × List Nat)} (h : drawB ops un = true) : ∃ T, DrawGood ops un T := by
  refine ⟨fun i => (ancs ops []).getD i [], ⟨fun i o ho => ?_, fun i o ho => ?_, fun i oi m om hi hm hlt => ?_⟩⟩
  · have := (rowsB_spec h i o ho).1; rwa [Nat.zero_add] at this
  · have := (rowsB_spec h i o ho).2.1; rwa [Nat.zero_add] at this
  · have := (rowsB_spec h i oi hi).2.2 m om hm (by rwa [Nat.zero_add]); rwa [Nat.zero_add] at this

section
variable {E : Env} {call : CallF} {ops : List Oper} {k0 : Nat} {lg : Log} {B : Bs} {un : List (Nat × List Nat)} {T : Nat → List Nat}

theorem any_sound (hE : EnvOK E call) (hun : chkLog lg un = true) (hT : DrawGood ops un T) {q : St} {Q : Exit → Act → World → Prop} (hQ : ∀ a' w', RR B (fun b => b < k0 + maxNew * ops.length) q a' w' → Q .normal a' w') :
    ∀ (n : Nat) (l : List Nat) (listed : Array Bool) (s : St) (a : Act) (w : World), l.length = n → l.Pairwise (· < ·) → (∀ i, listed.getD i true = false ↔ i ∈ l) → listed.size = ops.length →
    (∀ i k, i < ops.length → i ∉ l → k ∈ T i → k ∉ l) → RunD E call ops k0 lg l s q → RR B (fun b => b < k0 ∨ ∃ i, i < ops.length ∧ i ∉ l ∧ rng (k0 + maxNew * i) b) s a w → wpAny E.P .any ops.toArray Q n listed a w := by
  intro n
  have hlt : ∀ {l : List Nat} {listed : Array Bool}, (∀ i, listed.getD i true = false ↔ i ∈ l) → listed.size = ops.length → ∀ i ∈ l, i < ops.length := fun {l listed} hl hsz i hi => by
    have h1 := (hl i).2 hi
    rcases Nat.lt_or_ge i listed.size with h | h
    · omega
    · simp [Array.getD, Nat.not_lt.2 h] at h1
  have hon : ∀ {l : List Nat} {listed : Array Bool}, (∀ i, listed.getD i true = false ↔ i ∈ l) → listed.size = ops.length → ∀ i, i < ops.length → (listed.getD i false = true ↔ i ∉ l) := fun {l listed} hl hsz i hi => by
    have h1 : listed.getD i false = listed.getD i true := by simp [Array.getD, hsz, hi]
    rw [h1]
    constructor
    · intro h hm; rw [(hl i).2 hm] at h; cases h
    · intro h
      cases hg : listed.getD i true with
      | true => rfl
      | false => exact absurd ((hl i).1 hg) h
  induction n with
  | zero =>
    intro l listed s a w hn hp hl hsz hdc hr hR
    have : l = [] := List.length_eq_zero_iff.1 hn
    subst this
    refine ⟨?_, ?_⟩
    · cases hrd : Region.ready .any ops.toArray listed with
      | nil => rfl
      | cons x xs =>
        have : x ∈ Region.ready .any ops.toArray listed := by rw [hrd]; exact List.mem_cons_self
        have := (hl x).1 (mem_ready.1 this).1
        cases this
    · cases hr
      refine hQ a w (hR.mono_U fun b hb => ?_)
      rcases hb with hb | ⟨i, hi, _, h1, h2⟩
      · omega
      · have := Nat.mul_le_mul_left maxNew (show i + 1 ≤ ops.length from hi)
        rw [Nat.mul_add, Nat.mul_one] at this
        omega
  | succ n ih =>
    intro l listed s a w hn hp hl hsz hdc hr hR
    refine ⟨fun h0 => ?_, fun i hi => ?_⟩
    · exfalso
      cases l with
      | nil => cases hn
      | cons x xs =>
        have hx := hlt hl hsz x List.mem_cons_self
        have hox : ops[x]? = some ops[x] := List.getElem?_eq_getElem hx
        have : x ∈ Region.ready .any ops.toArray listed := by
          refine mem_ready.2 ⟨(hl x).2 List.mem_cons_self, ops[x], by simpa using hox, fun e he hb => ?_⟩
          have h1 := hT.lt x _ hox e he hb
          refine (hon hl hsz e.on (by omega)).2 fun hm => ?_
          rcases List.mem_cons.1 hm with h2 | h2
          · omega
          · have := (List.pairwise_cons.1 hp).1 _ h2; omega
        rw [h0] at this
        cases this
    · obtain ⟨h0, oi, hoi, hall⟩ := mem_ready.1 hi
      have hil := (hl i).1 h0
      have hoi' : ops[i]? = some oi := by simpa using hoi
      have hilt := hlt hl hsz i hil
      obtain ⟨l1, l2, rfl⟩ := List.append_of_mem hil
      have hp' := List.pairwise_append.1 hp
      have hTi : ∀ m ∈ T i, m ∉ l1 ++ i :: l2 := fun m hm => by
        obtain ⟨h1, e, he, hb, h2⟩ := hT.anc i oi hoi' m hm
        have h3 := (hon hl hsz e.on (by have := hT.lt i oi hoi' e he hb; omega)).1 (hall e he hb)
        rcases h2 with h2 | h2
        · rwa [← h2]
        · exact hdc e.on m (by have := hT.lt i oi hoi' e he hb; omega) h3 h2
      obtain ⟨o, s', ho, hst, hr'⟩ := hr.front hun (fun m hm om oi' hom hoi2 => by
        rw [hoi'] at hoi2; cases hoi2
        have hmi : m < i := hp'.2.2 m hm i List.mem_cons_self
        rcases hT.free i oi m om hoi' hom hmi with h | h
        · exact absurd (List.mem_append_left _ hm) (hTi m h)
        · exact h)
      rw [hoi'] at ho
      cases ho
      obtain ⟨hlto, d, hd, rfl⟩ := hst
      have hni : i ∉ l1 ++ l2 := fun hm => by
        rcases List.mem_append.1 hm with h | h
        · have := hp'.2.2 i h i List.mem_cons_self; omega
        · have := (List.pairwise_cons.1 hp'.2.1).1 i h; omega
      have hmem : ∀ j, j ∈ l1 ++ i :: l2 ↔ j = i ∨ j ∈ l1 ++ l2 := fun j => by simp only [List.mem_append, List.mem_cons]; constructor <;> (intro h; rcases h with h | h | h <;> simp [h])
      have next : ∀ a' w', RR B (fun b => (b < k0 ∨ ∃ i', i' < ops.length ∧ i' ∉ l1 ++ i :: l2 ∧ rng (k0 + maxNew * i') b) ∨ rng (k0 + maxNew * i) b) (app s (k0 + maxNew * i) oi d) a' w' → wpAny E.P .any ops.toArray Q n (listed.setIfInBounds i true) a' w' := fun a' w' hR' => by
        refine ih (l1 ++ l2) _ _ a' w' (by simp at hn ⊢; omega) ?_ (fun j => ?_) (by simpa using hsz) (fun j k hj hnj hk => ?_) hr' (hR'.mono_U fun b hb => ?_)
        · exact List.pairwise_append.2 ⟨hp'.1, (List.pairwise_cons.1 hp'.2.1).2, fun x hx y hy => hp'.2.2 x hx y (List.mem_cons_of_mem _ hy)⟩
        · by_cases hji : j = i
          · subst hji
            have : (listed.setIfInBounds j true).getD j true = true := by simp [Array.getD, hsz, hilt]
            rw [this]
            exact ⟨fun h => (by cases h), fun h => absurd h hni⟩
          · rw [getD_set_ne true (Ne.symm hji), hl j, hmem j]
            exact ⟨fun h => h.resolve_left hji, .inr⟩
        · by_cases hji : j = i
          · subst hji
            exact fun hm => hTi k hk ((hmem k).2 (.inr hm))
          · exact fun hm => hdc j k hj (fun h => ((hmem j).1 h).elim hji hnj) hk ((hmem k).2 (.inr hm))
        · rcases hb with (hb | ⟨i', h1, h2, h3⟩) | hb
          · exact .inl hb
          · exact .inr ⟨i', h1, fun h => h2 ((hmem i').2 (.inr h)), h3⟩
          · exact .inr ⟨i, hilt, hni, hb⟩
      unfold wpOp
      rw [hoi]
      simp only
      obtain ⟨wv, hw, hh⟩ := hd
      have hwt := want_sound (ops := ops.toArray) hR (by simpa using hw)
      rw [hwt]
      rcases hh with ⟨rfl, hev, _⟩ | ⟨rfl, rfl, _⟩
      · rw [if_pos rfl]
        refine .inl (Oper.wp_mono' next (op_step hE hR (fun j hj hU => ?_) hev hlto Q))
        rcases hU with hU | ⟨i', h1, h2, h3, h4⟩
        · omega
        · have hne : i' ≠ i := fun h => h2 (by rw [h]; exact hil)
          rcases Nat.lt_or_gt_of_ne hne with h5 | h5
          · have := Nat.mul_le_mul_left maxNew (show i' + 1 ≤ i from h5)
            rw [Nat.mul_add, Nat.mul_one] at this
            omega
          · have := Nat.mul_le_mul_left maxNew (show i + 1 ≤ i' from h5)
            rw [Nat.mul_add, Nat.mul_one] at this
            omega
      · rw [if_neg (by simp)]
        exact next _ _ ((skp_sound hR oi hlto).mono_U fun b hb => .inl hb)

theorem drawOK {E : Env} {f id : Nat} {ops : Array Oper} (hm : E.P.follows .mixedOrders = true) (h : drawB ops.toList (E.un f id) = true) : DrawOK E f id ops := by
  intro call hE B s q a w hq hchk hR
  obtain ⟨T, hT⟩ := drawB_spec h
  obtain ⟨lg, q⟩ := q
  have hrun := evOpsD_run (k0 := s.nx) (ops := ops.toList) ops.toList 0 (fun _ => none) lg s q (fun j => by rw [Nat.zero_add]) (by rw [Nat.mul_zero, Nat.add_zero]; exact hq)
  obtain ⟨_, hnx, hr⟩ := hrun
  have hlen : (rngL 0 ops.toList.length).length = ops.size := by rw [rngL_length]; simp
  have hmem : ∀ i, i ∈ rngL 0 ops.toList.length ↔ i < ops.size := fun i => by
    constructor
    · intro h
      obtain ⟨j, hj⟩ := List.mem_iff_getElem?.1 h
      have h1 : j < (rngL 0 ops.toList.length).length := (List.getElem?_eq_some_iff.1 hj).1
      rw [rngL_length] at h1
      rw [rngL_get _ _ _ h1] at hj
      cases hj
      simpa using h1
    · intro h
      have := rngL_get ops.toList.length 0 i (by simpa using h)
      rw [Nat.zero_add] at this
      exact List.mem_of_getElem? this
  refine wp_region_any hm ?_
  have hpw : ∀ n o, (rngL o n).Pairwise (· < ·) ∧ ∀ x ∈ rngL o n, o ≤ x := by
    intro n
    induction n with
    | zero => intro o; exact ⟨.nil, fun _ h => by cases h⟩
    | succ n ih =>
      intro o
      refine ⟨List.pairwise_cons.2 ⟨fun x hx => by have := (ih (o + 1)).2 x hx; omega, (ih (o + 1)).1⟩, fun x hx => ?_⟩
      rcases List.mem_cons.1 hx with rfl | hx
      · exact Nat.le_refl _
      · have := (ih (o + 1)).2 x hx; omega
  have key := any_sound (E := E) (call := call) (ops := ops.toList) (k0 := s.nx) (lg := lg) (B := B) hE hchk hT (q := { q with nx := s.nx }) (Q := fun e' a' w' => e' = .normal ∧ RR B (fun b => b < q.nx) q a' w')
    (fun a' w' h => ⟨rfl, by rw [hnx, Nat.zero_add]; exact h⟩) ops.size (rngL 0 ops.toList.length) (Array.replicate ops.size false) s a { w with drawn := w.drawn + 1 } hlen (hpw _ _).1 (fun i => by
      rw [hmem i]
      by_cases hi : i < ops.size <;> simp [Array.getD, hi]) (by simp) (fun i k hi hn _ => absurd ((hmem i).2 (by simpa using hi)) hn) hr (hR.drew.mono_U fun b hb => .inl hb)
  simpa using key
end
end Go.Ev
end

section
set_option linter.unusedVariables false
set_option linter.unusedSimpArgs false
set_option linter.unnecessarySimpa false
namespace Go.Ev
open Go

def codeB (E : Env) (f : Nat) : Code → Bool
  | .region id ops draw => cond draw (drawB ops.toList (E.un f id)) true
  | .seq a b => codeB E f a && codeB E f b
  | .cond _ a b => codeB E f a && codeB E f b
  | .block _ a => codeB E f a
  | .loop a => codeB E f a
  | _ => true
def funB (E : Env) (f : Nat) : Bool := match E.P.funcs[f]? with
  | some fn => !(fn.name == "runtime.NumGoroutine") && (match fn.body with | some c => codeB E f c | none => true)
  | none => true
def funsB (E : Env) : List Nat → Bool
  | [] => true
  | f :: r => funB E f && funsB E r
def teB (P : Program) : List (Nat × List Nat) → Bool
  | [] => true
  | (t, ks) :: r => (match eqK P t with | some l => l == ks | none => false) && teB P r
def teOf : List (Nat × List Nat) → Nat → Option (List Nat)
  | [], _ => none
  | (a, ks) :: r, t => if a = t then some ks else teOf r t

theorem codeB_spec {E : Env} {f : Nat} (hm : E.P.follows .mixedOrders = true) : ∀ (c : Code), codeB E f c = true → CodeOK E f c := by
  intro c
  induction c with
  | region id ops draw =>
    intro h
    cases draw with
    | true => exact drawOK hm h
    | false => trivial
  | seq a b iha ihb => intro h; simp only [codeB, Bool.and_eq_true] at h; exact ⟨iha h.1, ihb h.2⟩
  | cond c a b iha ihb => intro h; simp only [codeB, Bool.and_eq_true] at h; exact ⟨iha h.1, ihb h.2⟩
  | block id a iha => intro h; exact iha h
  | loop a iha => intro h; exact iha h
  | _ => intro _; trivial
theorem funsB_spec {E : Env} : ∀ {l : List Nat}, funsB E l = true → ∀ f ∈ l, funB E f = true
  | [], _, _, hf => by cases hf
  | x :: r, h, f, hf => by
    simp only [funsB, Bool.and_eq_true] at h
    rcases List.mem_cons.1 hf with rfl | hf
    · exact h.1
    · exact funsB_spec h.2 f hf
theorem teB_spec {P : Program} : ∀ {l : List (Nat × List Nat)}, teB P l = true → ∀ t ks, teOf l t = some ks → eqK P t = some ks
  | [], _, _, _, hf => by cases hf
  | (a, k) :: r, h, t, ks, ht => by
    simp only [teB, Bool.and_eq_true] at h
    unfold teOf at ht
    by_cases hat : a = t
    · rw [if_pos hat] at ht
      cases ht
      subst hat
      have h1 := h.1
      cases he : eqK P a with
      | none => rw [he] at h1; cases h1
      | some l => rw [he] at h1; simp only [beq_iff_eq] at h1; rw [h1]
    · rw [if_neg hat] at ht
      exact teB_spec h.2 t ks ht

theorem progOK {E : Env} (fsl : List Nat) (tel : List (Nat × List Nat)) (hfs : E.fs = fun f => mem f fsl) (hte : E.te = teOf tel) (hm : E.P.follows .mixedOrders = true) (hG : GivenOK E)
    (h1 : funsB E fsl = true) (h2 : teB E.P tel = true) : ProgOK E := by
  refine ⟨by rw [hte]; exact teB_spec h2, hG, fun f fn c hf hfn hb => ?_⟩
  rw [hfs] at hf
  have h3 := funsB_spec h1 f ((mem_spec _ _).1 hf)
  unfold funB at h3
  rw [hfn] at h3
  simp only [hb, Bool.and_eq_true, Bool.not_eq_true'] at h3
  exact ⟨h3.1, codeB_spec hm c h3.2⟩
end Go.Ev
end

section
set_option linter.unusedVariables false
set_option linter.unusedSimpArgs false
set_option linter.unnecessarySimpa false
namespace Go.Ev
open Go

/-! ### Tables -/
def SpecAt (E : Env) (r f : Nat) (g : FS) : Prop := ∀ d as0 bs sp y, g.g as0 bs = some sp → sp.o = some y → SpOK (evF E (d + r)) f as0 bs (sp.alt.val y)
theorem SpecAt.up {E : Env} {r r' f : Nat} {g : FS} (h : SpecAt E r f g) (hle : Nat.ble r r' = true) : SpecAt E r' f g := fun d as0 bs sp y h1 h2 => by
  have := h (d + (r' - r)) as0 bs sp y h1 h2
  rwa [show d + (r' - r) + r = d + r' by have := ble_nat hle; omega] at this
def AllF (E : Env) (r f : Nat) : List FS → Prop
  | [] => True
  | g :: q => SpecAt E r f g ∧ AllF E r f q
def AllS (E : Env) (r : Nat) : List (Nat × List FS) → Prop
  | [] => True
  | (f, l) :: q => AllF E r f l ∧ AllS E r q
theorem FSs_ok {E : Env} {r f d : Nat} : ∀ {l : List FS}, AllF E r f l → ∀ as0 bs sp y, FSs l as0 bs = some sp → sp.o = some y → SpOK (evF E (d + r)) f as0 bs (sp.alt.val y)
  | [], _, as0, bs, sp, y, h, _ => by cases h
  | g :: q, hA, as0, bs, sp, y, h, ho => by
    unfold FSs at h
    split at h
    · rename_i sp' hsp
      cases h
      exact hA.1 d as0 bs sp y hsp ho
    · exact FSs_ok hA.2 as0 bs sp y h ho
theorem GofL_ok {E : Env} {r d : Nat} : ∀ {l : List (Nat × List FS)}, AllS E r l → GOK (evF E (d + r)) (GofL l)
  | [], _, f, as0, bs, sp, y, h, _ => by cases h
  | (g, l) :: q, hA, f, as0, bs, sp, y, h, ho => by
    unfold GofL at h
    split at h
    · rename_i hg
      rw [← beq_nat hg]
      exact FSs_ok hA.1 as0 bs sp y h ho
    · exact GofL_ok hA.2 f as0 bs sp y h ho
def ndB : Code → Bool
  | .region _ ops _ => nodup (dsts ops.toList)
  | .seq a b => ndB a && ndB b
  | .cond _ a b => ndB a && ndB b
  | .block _ a => ndB a
  | .loop a => ndB a
  | _ => true
theorem ndB_spec : ∀ {c : Code}, ndB c = true → NdC c := by
  intro c
  induction c with
  | region id ops draw => intro h; exact nodup_spec _ h
  | seq a b iha ihb => intro h; simp only [ndB, Bool.and_eq_true] at h; exact ⟨iha h.1, ihb h.2⟩
  | cond c a b iha ihb => intro h; simp only [ndB, Bool.and_eq_true] at h; exact ⟨iha h.1, ihb h.2⟩
  | block id a ih => intro h; exact ih h
  | loop a ih => intro h; exact ih h
  | _ => intro _; trivial
/-- What is asked of a function's text. -/
def stB (E : Env) (f : Nat) : Bool := match E.P.funcs[f]? with
  | some fn => (match fn.body with
    | some c => ndB c && (nodup ((loopsOf c 1000000).map Prod.fst) && (E.fs f && (match E.G f with | some _ => false | none => true)))
    | none => false)
  | none => false
def isLp (P : Program) (f k : Nat) : Bool := match P.funcs[f]? with
  | some fn => (match fn.body with
    | some c => Nat.blt k (loopsOf c 1000000).length
    | none => false)
  | none => false
def LRd (E : Env) (G : GT) (L : LT) (f : Nat) (q : Nat × LS) : Prop := ∃ k, isLp E.P f k = true ∧ (lpOf E.P f k).1 = q.1 ∧ ∀ x, kRound E G L f q.1 (lpOf E.P f k).2 (q.2.hd.st x) q.2.rd = q.2.B x
def AllL (E : Env) (G : GT) (L : LT) (f : Nat) : List (Nat × LS) → Prop
  | [] => True
  | q :: r => LRd E G L f q ∧ AllL E G L f r
theorem AllL.mem {E : Env} {G : GT} {L : LT} {f : Nat} : ∀ {l : List (Nat × LS)}, AllL E G L f l → ∀ q ∈ l, LRd E G L f q
  | [], _, q, h => by cases h
  | p :: r, hA, q, h => by
    rcases List.mem_cons.1 h with rfl | h
    · exact hA.1
    · exact AllL.mem hA.2 q h
theorem loops_all {E : Env} {C : CallF} {G : GT} (hG : GOK C G) {f : Nat} {L0 : List (Nat × LS)} : ∀ (c : Code), NdC c → ∀ i, (∀ p ∈ loopsOf c i, ∀ q ∈ L0, q.1 = p.1 → ∀ x, kRound E G (LofL [(f, L0)]) f p.1 p.2 (q.2.hd.st x) q.2.rd = q.2.B x) → ∀ p ∈ loopsOf c i, LOK E C (LofL [(f, L0)]) f p.1 p.2 := by
  intro c
  induction c with
  | seq a b iha ihb =>
    intro hn i h p hp
    unfold loopsOf at hp
    rcases List.mem_append.1 hp with hp | hp
    · exact iha hn.1 i (fun p hp => h p (by unfold loopsOf; simp [hp])) p hp
    · exact ihb hn.2 i (fun p hp => h p (by unfold loopsOf; simp [hp])) p hp
  | cond c a b iha ihb =>
    intro hn i h p hp
    unfold loopsOf at hp
    rcases List.mem_append.1 hp with hp | hp
    · exact iha hn.1 i (fun p hp => h p (by unfold loopsOf; simp [hp])) p hp
    · exact ihb hn.2 i (fun p hp => h p (by unfold loopsOf; simp [hp])) p hp
  | block id a ih => intro hn i h p hp; exact ih hn id h p hp
  | loop a ih =>
    intro hn i h p hp
    have inner := ih hn i (fun p hp => h p (by unfold loopsOf; simp [hp]))
    unfold loopsOf at hp
    rcases List.mem_cons.1 hp with rfl | hp
    · exact LofL_ok fun q hq he => loop_ok (a := a) hG hn inner (h (i, a) (by unfold loopsOf; simp) q hq he)
    · exact inner p hp
  | _ => intro _ i _ p hp; cases hp
theorem mkSpec {E : Env} {r f : Nat} {g : FS} {gl : List (Nat × List FS)} {L0 : List (Nat × LS)} (hst : stB E f = true) (hgl : AllS E r gl) (hL : AllL E (GofL gl) (LofL [(f, L0)]) f L0)
    (hrun : ∀ x, kF E (GofL gl) (LofL [(f, L0)]) f (g.args x) (g.bs x) g.r.dec = g.F x) (hnl : E.nl f = true → g.nb = 0 ∧ ∀ C, evB E C f [] [.lit (.slice none 0 0)] = evB E C f [] [.emp]) : SpecAt E (r + 1) f g := by
  intro d as0 bs sp y h1 h2
  unfold stB at hst
  split at hst
  · rename_i fn hfn
    split at hst
    · rename_i c hc
      simp only [Bool.and_eq_true] at hst
      obtain ⟨a1, a2, a3, a4⟩ := hst
      have hEG : E.G f = none := by
        cases hg : E.G f with
        | none => rfl
        | some g => rw [hg] at a4; cases a4
      have hnd := ndB_spec a1
      have hids := nodup_spec _ a2
      have hG : GOK (evF E (d + r)) (GofL gl) := GofL_ok hgl
      have hlp : ∀ k p, (loopsOf c 1000000)[k]? = some p → lpOf E.P f k = p := fun k p hk => by
        unfold lpOf
        rw [hfn]
        simp only [hc, hk]
      have hloops := loops_all (E := E) hG (f := f) (L0 := L0) c hnd 1000000 (fun p hp q hq he x => by
        obtain ⟨k, hk0, hk1, hk2⟩ := hL.mem q hq
        have hkl : k < (loopsOf c 1000000).length := by
          unfold isLp at hk0
          rw [hfn] at hk0
          simp only [hc] at hk0
          exact blt_nat hk0
        obtain ⟨j, hj, hpj⟩ := List.getElem_of_mem hp
        have hjp : (loopsOf c 1000000)[j]? = some p := by rw [← hpj]; exact List.getElem?_eq_getElem hj
        cases hkk : (loopsOf c 1000000)[k]? with
        | none => rw [List.getElem?_eq_none_iff] at hkk; omega
        | some p' =>
          have e1 := hlp k p' hkk
          rw [e1] at hk1 hk2
          have e2 : k = j := by
            have h3 : ((loopsOf c 1000000).map Prod.fst)[k]? = some q.1 := by rw [List.getElem?_map, hkk]; simp [hk1]
            have h4 : ((loopsOf c 1000000).map Prod.fst)[j]? = some q.1 := by rw [List.getElem?_map, hjp]; simp [he]
            exact nodup_get hids h3 h4
          subst e2
          rw [hjp] at hkk
          cases hkk
          rw [← he]; exact hk2 x)
      have := fn_ok (d := d + r) hG ⟨hfn, hc, hnd⟩ a3 hEG hloops hrun (fun h => ⟨(hnl h).1, (hnl h).2 _⟩) as0 bs sp y h1 h2
      exact this
    · cases hst
  · cases hst
end Go.Ev
end

section
set_option linter.unusedVariables false
set_option linter.unusedSimpArgs false
set_option linter.unnecessarySimpa false
namespace Go.Ev
open Go Go.Proofs Go.Lib Go.RowKit

def gRepeat : List V → List Blk → Option Ret
  | [.lit (.string s), .lit (.int .i64 n)], [] => grd (0 ≤ n ∧ n ≤ 1000000 ∧ s.size ≤ 1000) (some (.lit (.string ⟨(Lib.repeatL s.data.toList n.toNat).toArray⟩), [], []))
  | _, _ => none

/-- What is said of a given function. -/
def GivenAt (P : Program) (f : Nat) (g : List V → List Blk → Option Ret) : Prop := ∀ (args : List V) (bs : List Blk) (r : Ret), g args bs = some r → ∀ (K : Cx) (vals : List Value), VRl K args vals → Good (baseOf K (ofL (bs.map some)) bs.length) (fun b => b < bs.length) K (ofL (bs.map some)) →
  Calls P f vals.toArray K.w fun e w' => ∃ (v : Value) (K' : Cx), e = .returned v ∧ K'.w = w' ∧ VR K' r.1 v ∧ r.2.1.length = bs.length ∧ Good (baseOf K (ofL (bs.map some)) bs.length) (fun b => b < bs.length + r.2.2.length) K' (ofL (r.2.1 ++ r.2.2.map some))

theorem repeat_given {P : Program} {f : Nat} (h : ∀ (s : ByteArray) (c : Nat) (w : World), c ≤ 9223372036854775807 → s.size * c ≤ 140737488355328 → Calls P f #[.string s, .int .i64 c] w fun e w' => e = .returned (.string ⟨(Lib.repeatL s.data.toList c).toArray⟩) ∧ Below w.heap.size w w') : GivenAt P f gRepeat := by
  intro args bs r hr K vals hv g
  unfold gRepeat at hr
  split at hr
  · rename_i s n
    obtain ⟨⟨h1, h2, h3⟩, hr⟩ := grd_eq hr
    cases hr
    obtain ⟨hl, hh⟩ := hv
    rcases vals with _ | ⟨x, _ | ⟨y, _ | ⟨z, q⟩⟩⟩ <;> first | (simp at hl; done) | skip
    have hx := hh 0 _ x rfl rfl
    have hy := hh 1 _ y rfl rfl
    cases hx
    cases hy
    obtain ⟨c, rfl⟩ := Int.eq_ofNat_of_zero_le h1
    have hc : c ≤ 1000000 := by omega
    refine (h s c K.w (by omega) (by have := Nat.mul_le_mul h3 hc; omega)).mono fun e w' ⟨he, hw⟩ => ?_
    obtain ⟨hle, g'⟩ := g.world (w' := w') hw.size hw.block ⟨hw.os, hw.tape, hw.output⟩
    exact ⟨_, { K with w := w' }, he, rfl, .lit rfl, rfl, g'⟩
  · cases hr

theorem givenOK {E : Env} (h : ∀ f g, E.G f = some g → (∃ fn c, E.P.funcs[f]? = some fn ∧ fn.body = some c ∧ (fn.name == "runtime.NumGoroutine") = false) ∧ GivenAt E.P f g) : GivenOK E :=
  fun f g hf args bs r hr => ⟨(h f g hf).1, fun K vals hv hg => (h f g hf).2 args bs r hr K vals hv hg⟩
end Go.Ev
end

section
set_option linter.unusedVariables false
set_option linter.unusedSimpArgs false
set_option linter.unnecessarySimpa false
namespace Go.Ev
open Go Go.Proofs Go.Lib Go.RowKit
/-- strings.Contains at a substring of one byte. -/
def gContains : List V → List Blk → Option Ret
  | [.lit (.string s), .lit (.string t)], [] => grd (t.size = 1) (some (.lit (.bool (decide (0 ≤ Lib.indexByte s.data.toList (t.data.toList.headD 0)))), [], []))
  | _, _ => none
theorem one_byte {t : ByteArray} (h : t.size = 1) : t = ⟨#[t.data.toList.headD 0]⟩ := by
  obtain ⟨⟨l⟩⟩ := t
  have h : l.length = 1 := h
  obtain ⟨c, rfl⟩ := List.length_eq_one_iff.1 h
  rfl
theorem contains_given {P : Program} {f : Nat} (h : ∀ (s : ByteArray) (c : UInt8) (w : World), Calls P f #[.string s, .string ⟨#[c]⟩] w fun e w' => e = .returned (.bool (decide (0 ≤ Lib.indexByte s.data.toList c))) ∧ w' = w) : GivenAt P f gContains := by
  intro args bs r hr K vals hv g
  unfold gContains at hr
  split at hr
  · rename_i s t
    obtain ⟨h1, hr⟩ := grd_eq hr
    cases hr
    obtain ⟨hl, hh⟩ := hv
    rcases vals with _ | ⟨x, _ | ⟨y, _ | ⟨z, q⟩⟩⟩ <;> first | (simp at hl; done) | skip
    have hx := hh 0 _ x rfl rfl
    have hy := hh 1 _ y rfl rfl
    cases hx
    cases hy
    have ht := one_byte h1
    have := h s (t.data.toList.headD 0) K.w
    rw [← ht] at this
    refine this.mono fun e w' ⟨he, hw⟩ => ?_
    subst hw
    exact ⟨_, K, he, rfl, .lit rfl, rfl, by simpa using g⟩
  · cases hr
end Go.Ev
end
