/- A part of the proof: texts of the author, joined. -/
import Derived.Test.YtiddpfhpmodfbaaGreatDoorKS0
section
set_option linter.unusedVariables false
set_option linter.unusedSimpArgs false
set_option linter.unnecessarySimpa false
open Go Go.Ev Go.Proofs
namespace Go.Proofs.YtiddpfhpmodfbaaGreatDoor.K
set_option linter.unusedVariables false
set_option maxRecDepth 100000
noncomputable section
def F194 (a0 : Tq2) (a1 : Int) (a2 : Int) (a3 : Int) (a4 : Int) : Option ((Tq2 × Int) × Int) :=
  bndS (F209 a0 a1 a2 a4) fun y0 =>
  bndS (F209 y0.1.1 y0.2.2 a3 y0.1.2) fun y1 =>
  bndS (F209 y1.1.1 y0.2.1 y1.2.1 y1.1.2) fun y2 =>
  some (y2.1, y2.2.2)
def gF194 : FS := ⟨(.seq (.own 0 Yq3) (.seq (.dat (.int .i64)) (.seq (.dat (.int .i64)) (.seq (.dat (.int .i64)) (.seq (.box 1 (.dat (.int .i64))) (.fn 63 .non)))))), 2, (.one ⟨(.seq (.own 0 Yq3) (.box 1 (.dat (.int .i64)))), (.dat (.int .i64)), 2, 0⟩), fun x => (F194 x.1 x.2.1 x.2.2.1 x.2.2.2.1 x.2.2.2.2)⟩
theorem eF194 (x : gF194.a.T) : kF env (GofL [(209, [gF209])]) (LofL [(194, [])]) 194 (gF194.args x) (gF194.bs x) gF194.r.dec = gF194.F x := by kernel_rfl
theorem sF194 : SpecAt env 5 194 gF194 := mkSpec (r := 4) (gl := [(209, [gF209])]) (L0 := []) (by kernel_rfl) ⟨⟨sF209.up (by decide), trivial⟩, trivial⟩ trivial eF194 (fun h => absurd h (by rw [show env.nl 194 = false by kernel_rfl]; decide))
def F193 (a0 : Tq2) (a1 : Int) (a2 : Int) : Option ((Tq2 × Int) × Int) :=
  bndS (F194 a0 (iSub .i64 a1 1) a1 (iAdd .i64 a1 1) a2) fun y0 =>
  some y0
def gF193 : FS := ⟨(.seq (.own 0 Yq3) (.seq (.dat (.int .i64)) (.seq (.box 1 (.dat (.int .i64))) (.fn 63 .non)))), 2, (.one ⟨(.seq (.own 0 Yq3) (.box 1 (.dat (.int .i64)))), (.dat (.int .i64)), 2, 0⟩), fun x => (F193 x.1 x.2.1 x.2.2)⟩
theorem eF193 (x : gF193.a.T) : kF env (GofL [(194, [gF194])]) (LofL [(193, [])]) 193 (gF193.args x) (gF193.bs x) gF193.r.dec = gF193.F x := by kernel_rfl
theorem sF193 : SpecAt env 6 193 gF193 := mkSpec (r := 5) (gl := [(194, [gF194])]) (L0 := []) (by kernel_rfl) ⟨⟨sF194.up (by decide), trivial⟩, trivial⟩ trivial eF193 (fun h => absurd h (by rw [show env.nl 193 = false by kernel_rfl]; decide))
def F169 (a0 : Tq2) (a1 : Int) (a2 : Int) : Option Tq17 :=
  sel (oNz 4) (
  sel (oNz 4) (
  sel (oNz 4) (
  sel (iLe 8 (iSub .i64 a2 a1))
    (sel (iLe 50 (iSub .i64 a2 a1))
      (bndS (F193 a0 (iAdd .i64 a1 (iMul .i64 (iQuo .i64 (iSub .i64 a2 a1) 4) 1)) 0) fun y1 =>
      bndS (F193 y1.1.1 (iAdd .i64 a1 (iMul .i64 (iQuo .i64 (iSub .i64 a2 a1) 4) 2)) y1.1.2) fun y2 =>
      bndS (F193 y2.1.1 (iAdd .i64 a1 (iMul .i64 (iQuo .i64 (iSub .i64 a2 a1) 4) 3)) y2.1.2) fun y3 =>
      bndS (F194 y3.1.1 y1.2 y2.2 y3.2 y3.1.2) fun y4 =>
      sel (iEq y4.1.2 0)
        (some (y4.1.1, (y4.2, 1)))
        (sel (iEq y4.1.2 12)
          (some (y4.1.1, (y4.2, 2)))
          (some (y4.1.1, (y4.2, 0)))))
      (bndS (F194 a0 (iAdd .i64 a1 (iMul .i64 (iQuo .i64 (iSub .i64 a2 a1) 4) 1)) (iAdd .i64 a1 (iMul .i64 (iQuo .i64 (iSub .i64 a2 a1) 4) 2)) (iAdd .i64 a1 (iMul .i64 (iQuo .i64 (iSub .i64 a2 a1) 4) 3)) 0) fun y0 =>
      sel (iEq y0.1.2 0)
        (some (y0.1.1, (y0.2, 1)))
        (sel (iEq y0.1.2 12)
          (some (y0.1.1, (y0.2, 2)))
          (some (y0.1.1, (y0.2, 0))))))
    (some (a0, ((iAdd .i64 a1 (iMul .i64 (iQuo .i64 (iSub .i64 a2 a1) 4) 2)), 1)))) none) none) none
def gF169 : FS := ⟨(.seq (.own 0 Yq3) (.seq (.dat (.int .i64)) (.seq (.dat (.int .i64)) (.fn 63 .non)))), 1, (.one ⟨(.own 0 Yq3), (.tup (.seq (.dat (.int .i64)) (.dat (.int .i64)))), 1, 0⟩), fun x => (F169 x.1 x.2.1 x.2.2)⟩
theorem eF169 (x : gF169.a.T) : kF env (GofL [(194, [gF194]), (193, [gF193])]) (LofL [(169, [])]) 169 (gF169.args x) (gF169.bs x) gF169.r.dec = gF169.F x := by kernel_rfl
theorem sF169 : SpecAt env 7 169 gF169 := mkSpec (r := 6) (gl := [(194, [gF194]), (193, [gF193])]) (L0 := []) (by kernel_rfl) ⟨⟨sF194.up (by decide), trivial⟩, ⟨sF193.up (by decide), trivial⟩, trivial⟩ trivial eF169 (fun h => absurd h (by rw [show env.nl 169 = false by kernel_rfl]; decide))
def B173_0 (a0 : Tq2) (a1 : Int) (a2 : Int) (a3 : Int) : Option ((Tq2 × Tq4) ⊕ (Tq2 × Tq4)) :=
  sel (bOr (oIn a2 (lLen a0)) (bNot (iLe a2 a3))) (
  sel (bOr (oIn a1 (lLen a0)) (bNot (iLe a2 a3))) (
  sel (bOr (okS (F63 (lAt a0 a2) (lAt a0 a1))) (bNot (iLe a2 a3))) (
  letS (valS (F63 (lAt a0 a2) (lAt a0 a1)) 0) fun y0 =>
  sel (bAnd (iLe a2 a3) (iLt y0 0))
    (some (.inl (a0, (a1, ((iAdd .i64 a2 1), a3)))))
    (some (.inr (a0, (a1, (a2, a3)))))) none) none) none
def L173_0 (x : (Tq2 × Tq4)) : Option (Tq2 × Tq4) := iter (fun (x : (Tq2 × Tq4)) => (B173_0 x.1 x.2.1 x.2.2.1 x.2.2.2)) fuel x
def lsL173_0 : LS := ⟨(.one .normal ⟨(.own 0 Yq3), [0, 1, 4, 12, 13], (.seq (.alo 0) (.seq (.dat (.int .i64)) (.seq (.fn 63 .non) (.seq (.dat (.int .i64)) (.dat (.int .i64)))))), 1, 178, 1⟩), (.one (.exit 0) ⟨(.own 0 Yq3), [0, 1, 4, 12, 13], (.seq (.alo 0) (.seq (.dat (.int .i64)) (.seq (.fn 63 .non) (.seq (.dat (.int .i64)) (.dat (.int .i64)))))), 1, 178, 1⟩), fun (x : (Tq2 × Tq4)) => (B173_0 x.1 x.2.1 x.2.2.1 x.2.2.2)⟩
def B173_2 (a0 : Tq2) (a1 : Int) (a2 : Int) (a3 : Int) : Option ((Tq2 × Tq4) ⊕ (Tq2 × Tq4)) :=
  sel (bOr (oIn a3 (lLen a0)) (bNot (iLe a2 a3))) (
  sel (bOr (oIn a1 (lLen a0)) (bNot (iLe a2 a3))) (
  sel (bOr (okS (F63 (lAt a0 a3) (lAt a0 a1))) (bNot (iLe a2 a3))) (
  letS (valS (F63 (lAt a0 a3) (lAt a0 a1)) 0) fun y0 =>
  sel (bAnd (iLe a2 a3) (bNot (iLt y0 0)))
    (some (.inl (a0, (a1, (a2, (iSub .i64 a3 1))))))
    (some (.inr (a0, (a1, (a2, a3)))))) none) none) none
def L173_2 (x : (Tq2 × Tq4)) : Option (Tq2 × Tq4) := iter (fun (x : (Tq2 × Tq4)) => (B173_2 x.1 x.2.1 x.2.2.1 x.2.2.2)) fuel x
def lsL173_2 : LS := ⟨(.one .normal ⟨(.own 0 Yq3), [0, 1, 4, 12, 13], (.seq (.alo 0) (.seq (.dat (.int .i64)) (.seq (.fn 63 .non) (.seq (.dat (.int .i64)) (.dat (.int .i64)))))), 1, 178, 1⟩), (.one (.exit 2) ⟨(.own 0 Yq3), [0, 1, 4, 12, 13], (.seq (.alo 0) (.seq (.dat (.int .i64)) (.seq (.fn 63 .non) (.seq (.dat (.int .i64)) (.dat (.int .i64)))))), 1, 178, 1⟩), fun (x : (Tq2 × Tq4)) => (B173_2 x.1 x.2.1 x.2.2.1 x.2.2.2)⟩
def B173_6 (a0 : Tq2) (a1 : Int) (a2 : Int) (a3 : Int) : Option ((Tq2 × Tq4) ⊕ (Tq2 × Tq4)) :=
  sel (bOr (oIn a2 (lLen a0)) (bNot (iLe a2 a3))) (
  sel (bOr (oIn a1 (lLen a0)) (bNot (iLe a2 a3))) (
  sel (bOr (okS (F63 (lAt a0 a2) (lAt a0 a1))) (bNot (iLe a2 a3))) (
  letS (valS (F63 (lAt a0 a2) (lAt a0 a1)) 0) fun y0 =>
  sel (bAnd (iLe a2 a3) (iLt y0 0))
    (some (.inl (a0, (a1, ((iAdd .i64 a2 1), a3)))))
    (some (.inr (a0, (a1, (a2, a3)))))) none) none) none
def L173_6 (x : (Tq2 × Tq4)) : Option (Tq2 × Tq4) := iter (fun (x : (Tq2 × Tq4)) => (B173_6 x.1 x.2.1 x.2.2.1 x.2.2.2)) fuel x
def lsL173_6 : LS := ⟨(.one .normal ⟨(.own 0 Yq3), [0, 1, 4, 12, 13], (.seq (.alo 0) (.seq (.dat (.int .i64)) (.seq (.fn 63 .non) (.seq (.dat (.int .i64)) (.dat (.int .i64)))))), 1, 178, 1⟩), (.one (.exit 6) ⟨(.own 0 Yq3), [0, 1, 4, 12, 13], (.seq (.alo 0) (.seq (.dat (.int .i64)) (.seq (.fn 63 .non) (.seq (.dat (.int .i64)) (.dat (.int .i64)))))), 1, 178, 1⟩), fun (x : (Tq2 × Tq4)) => (B173_6 x.1 x.2.1 x.2.2.1 x.2.2.2)⟩
def B173_8 (a0 : Tq2) (a1 : Int) (a2 : Int) (a3 : Int) : Option ((Tq2 × Tq4) ⊕ (Tq2 × Tq4)) :=
  sel (bOr (oIn a3 (lLen a0)) (bNot (iLe a2 a3))) (
  sel (bOr (oIn a1 (lLen a0)) (bNot (iLe a2 a3))) (
  sel (bOr (okS (F63 (lAt a0 a3) (lAt a0 a1))) (bNot (iLe a2 a3))) (
  letS (valS (F63 (lAt a0 a3) (lAt a0 a1)) 0) fun y0 =>
  sel (bAnd (iLe a2 a3) (bNot (iLt y0 0)))
    (some (.inl (a0, (a1, (a2, (iSub .i64 a3 1))))))
    (some (.inr (a0, (a1, (a2, a3)))))) none) none) none
def L173_8 (x : (Tq2 × Tq4)) : Option (Tq2 × Tq4) := iter (fun (x : (Tq2 × Tq4)) => (B173_8 x.1 x.2.1 x.2.2.1 x.2.2.2)) fuel x
def lsL173_8 : LS := ⟨(.one .normal ⟨(.own 0 Yq3), [0, 1, 4, 12, 13], (.seq (.alo 0) (.seq (.dat (.int .i64)) (.seq (.fn 63 .non) (.seq (.dat (.int .i64)) (.dat (.int .i64)))))), 1, 178, 1⟩), (.one (.exit 8) ⟨(.own 0 Yq3), [0, 1, 4, 12, 13], (.seq (.alo 0) (.seq (.dat (.int .i64)) (.seq (.fn 63 .non) (.seq (.dat (.int .i64)) (.dat (.int .i64)))))), 1, 178, 1⟩), fun (x : (Tq2 × Tq4)) => (B173_8 x.1 x.2.1 x.2.2.1 x.2.2.2)⟩
def B173_4 (a0 : Tq2) (a1 : Int) (a2 : Int) (a3 : Int) : Option ((Tq2 × Tq4) ⊕ Tq17) :=
  bndS (L173_6 (a0, (a1, (a2, a3)))) fun y0 =>
  bndS (L173_8 y0) fun y1 =>
  sel (iLt y1.2.2.2 y1.2.2.1)
    (some (.inr (y1.1, (y1.2.1, y1.2.2.2))))
    (sel (oIn y1.2.2.2 (lLen y1.1)) (
    sel (oIn y1.2.2.1 (lLen y1.1)) (
    sel (oIn y1.2.2.1 (lLen y1.1)) (
    sel (oIn y1.2.2.2 (lLen (lSet y1.1 y1.2.2.1 (lAt y1.1 y1.2.2.2)))) (
    some (.inl ((lSet (lSet y1.1 y1.2.2.1 (lAt y1.1 y1.2.2.2)) y1.2.2.2 (lAt y1.1 y1.2.2.1)), (y1.2.1, ((iAdd .i64 y1.2.2.1 1), (iSub .i64 y1.2.2.2 1)))))) none) none) none) none)
def L173_4 (x : (Tq2 × Tq4)) : Option Tq17 := iter (fun (x : (Tq2 × Tq4)) => (B173_4 x.1 x.2.1 x.2.2.1 x.2.2.2)) fuel x
def lsL173_4 : LS := ⟨(.one .normal ⟨(.own 0 Yq3), [0, 1, 4, 12, 13], (.seq (.alo 0) (.seq (.dat (.int .i64)) (.seq (.fn 63 .non) (.seq (.dat (.int .i64)) (.dat (.int .i64)))))), 1, 178, 1⟩), (.one (.exit 4) ⟨(.own 0 Yq3), [0, 1, 13], (.seq (.alo 0) (.seq (.dat (.int .i64)) (.dat (.int .i64)))), 1, 178, 1⟩), fun (x : (Tq2 × Tq4)) => (B173_4 x.1 x.2.1 x.2.2.1 x.2.2.2)⟩
def F173 (a0 : Tq2) (a1 : Int) (a2 : Int) (a3 : Int) : Option (Tq2 × (Int × Bool)) :=
  sel (oIn a3 (lLen a0)) (
  sel (oIn a1 (lLen a0)) (
  sel (oIn a1 (lLen a0)) (
  sel (oIn a3 (lLen (lSet a0 a1 (lAt a0 a3)))) (
  bndS (L173_0 ((lSet (lSet a0 a1 (lAt a0 a3)) a3 (lAt a0 a1)), (a1, ((iAdd .i64 a1 1), (iSub .i64 a2 1))))) fun y0 =>
  bndS (L173_2 y0) fun y1 =>
  sel (iLt y1.2.2.2 y1.2.2.1)
    (sel (oIn y1.2.1 (lLen y1.1)) (
    sel (oIn y1.2.2.2 (lLen y1.1)) (
    sel (oIn y1.2.2.2 (lLen y1.1)) (
    sel (oIn y1.2.1 (lLen (lSet y1.1 y1.2.2.2 (lAt y1.1 y1.2.1)))) (
    some ((lSet (lSet y1.1 y1.2.2.2 (lAt y1.1 y1.2.1)) y1.2.1 (lAt y1.1 y1.2.2.2)), (y1.2.2.2, true))) none) none) none) none)
    (sel (oIn y1.2.2.2 (lLen y1.1)) (
    sel (oIn y1.2.2.1 (lLen y1.1)) (
    sel (oIn y1.2.2.1 (lLen y1.1)) (
    sel (oIn y1.2.2.2 (lLen (lSet y1.1 y1.2.2.1 (lAt y1.1 y1.2.2.2)))) (
    bndS (L173_4 ((lSet (lSet y1.1 y1.2.2.1 (lAt y1.1 y1.2.2.2)) y1.2.2.2 (lAt y1.1 y1.2.2.1)), (y1.2.1, ((iAdd .i64 y1.2.2.1 1), (iSub .i64 y1.2.2.2 1))))) fun y2 =>
    sel (oIn y2.2.1 (lLen y2.1)) (
    sel (oIn y2.2.2 (lLen y2.1)) (
    sel (oIn y2.2.2 (lLen y2.1)) (
    sel (oIn y2.2.1 (lLen (lSet y2.1 y2.2.2 (lAt y2.1 y2.2.1)))) (
    some ((lSet (lSet y2.1 y2.2.2 (lAt y2.1 y2.2.1)) y2.2.1 (lAt y2.1 y2.2.2)), (y2.2.2, false))) none) none) none) none) none) none) none) none)) none) none) none) none
def gF173 : FS := ⟨(.seq (.own 0 Yq3) (.seq (.dat (.int .i64)) (.seq (.dat (.int .i64)) (.seq (.dat (.int .i64)) (.fn 63 .non))))), 1, (.one ⟨(.own 0 Yq3), (.tup (.seq (.dat (.int .i64)) (.dat .bool))), 1, 0⟩), fun x => (F173 x.1 x.2.1 x.2.2.1 x.2.2.2)⟩
theorem rL173_0 (x : lsL173_0.hd.T) : kRound env (GofL [(63, [gF63])]) (LofL [(173, [(0, lsL173_0), (2, lsL173_2), (6, lsL173_6), (8, lsL173_8), (4, lsL173_4)])]) 173 0 (lpOf Tryz.prog 173 0).2 (lsL173_0.hd.st x) lsL173_0.rd = lsL173_0.B x := by kernel_rfl
theorem rL173_2 (x : lsL173_2.hd.T) : kRound env (GofL [(63, [gF63])]) (LofL [(173, [(0, lsL173_0), (2, lsL173_2), (6, lsL173_6), (8, lsL173_8), (4, lsL173_4)])]) 173 2 (lpOf Tryz.prog 173 1).2 (lsL173_2.hd.st x) lsL173_2.rd = lsL173_2.B x := by kernel_rfl
theorem rL173_6 (x : lsL173_6.hd.T) : kRound env (GofL [(63, [gF63])]) (LofL [(173, [(0, lsL173_0), (2, lsL173_2), (6, lsL173_6), (8, lsL173_8), (4, lsL173_4)])]) 173 6 (lpOf Tryz.prog 173 3).2 (lsL173_6.hd.st x) lsL173_6.rd = lsL173_6.B x := by kernel_rfl
theorem rL173_8 (x : lsL173_8.hd.T) : kRound env (GofL [(63, [gF63])]) (LofL [(173, [(0, lsL173_0), (2, lsL173_2), (6, lsL173_6), (8, lsL173_8), (4, lsL173_4)])]) 173 8 (lpOf Tryz.prog 173 4).2 (lsL173_8.hd.st x) lsL173_8.rd = lsL173_8.B x := by kernel_rfl
theorem rL173_4 (x : lsL173_4.hd.T) : kRound env (GofL [(63, [gF63])]) (LofL [(173, [(0, lsL173_0), (2, lsL173_2), (6, lsL173_6), (8, lsL173_8), (4, lsL173_4)])]) 173 4 (lpOf Tryz.prog 173 2).2 (lsL173_4.hd.st x) lsL173_4.rd = lsL173_4.B x := by kernel_rfl
theorem eF173 (x : gF173.a.T) : kF env (GofL [(63, [gF63])]) (LofL [(173, [(0, lsL173_0), (2, lsL173_2), (6, lsL173_6), (8, lsL173_8), (4, lsL173_4)])]) 173 (gF173.args x) (gF173.bs x) gF173.r.dec = gF173.F x := by kernel_rfl
theorem sF173 : SpecAt env 4 173 gF173 := mkSpec (r := 3) (gl := [(63, [gF63])]) (L0 := [(0, lsL173_0), (2, lsL173_2), (6, lsL173_6), (8, lsL173_8), (4, lsL173_4)]) (by kernel_rfl) ⟨⟨sF63.up (by decide), trivial⟩, trivial⟩ ⟨⟨0, by kernel_rfl, by kernel_rfl, rL173_0⟩, ⟨1, by kernel_rfl, by kernel_rfl, rL173_2⟩, ⟨3, by kernel_rfl, by kernel_rfl, rL173_6⟩, ⟨4, by kernel_rfl, by kernel_rfl, rL173_8⟩, ⟨2, by kernel_rfl, by kernel_rfl, rL173_4⟩, trivial⟩ eF173 (fun h => absurd h (by rw [show env.nl 173 = false by kernel_rfl]; decide))
def B172_2 (a0 : Tq2) (a1 : Int) (a2 : Int) (a3 : Int) : Option ((Tq2 × Tq4) ⊕ (Tq2 × Tq4)) :=
  sel (bOr (oIn a1 (lLen a0)) (bNot (iLe a2 a3))) (
  sel (bOr (oIn a2 (lLen a0)) (bNot (iLe a2 a3))) (
  sel (bOr (okS (F63 (lAt a0 a1) (lAt a0 a2))) (bNot (iLe a2 a3))) (
  letS (valS (F63 (lAt a0 a1) (lAt a0 a2)) 0) fun y0 =>
  sel (bAnd (iLe a2 a3) (bNot (iLt y0 0)))
    (some (.inl (a0, (a1, ((iAdd .i64 a2 1), a3)))))
    (some (.inr (a0, (a1, (a2, a3)))))) none) none) none
def L172_2 (x : (Tq2 × Tq4)) : Option (Tq2 × Tq4) := iter (fun (x : (Tq2 × Tq4)) => (B172_2 x.1 x.2.1 x.2.2.1 x.2.2.2)) fuel x
def lsL172_2 : LS := ⟨(.one .normal ⟨(.own 0 Yq3), [0, 1, 4, 11, 12], (.seq (.alo 0) (.seq (.dat (.int .i64)) (.seq (.fn 63 .non) (.seq (.dat (.int .i64)) (.dat (.int .i64)))))), 1, 90, 1⟩), (.one (.exit 2) ⟨(.own 0 Yq3), [0, 1, 4, 11, 12], (.seq (.alo 0) (.seq (.dat (.int .i64)) (.seq (.fn 63 .non) (.seq (.dat (.int .i64)) (.dat (.int .i64)))))), 1, 90, 1⟩), fun (x : (Tq2 × Tq4)) => (B172_2 x.1 x.2.1 x.2.2.1 x.2.2.2)⟩
def B172_4 (a0 : Tq2) (a1 : Int) (a2 : Int) (a3 : Int) : Option ((Tq2 × Tq4) ⊕ (Tq2 × Tq4)) :=
  sel (bOr (oIn a1 (lLen a0)) (bNot (iLe a2 a3))) (
  sel (bOr (oIn a3 (lLen a0)) (bNot (iLe a2 a3))) (
  sel (bOr (okS (F63 (lAt a0 a1) (lAt a0 a3))) (bNot (iLe a2 a3))) (
  letS (valS (F63 (lAt a0 a1) (lAt a0 a3)) 0) fun y0 =>
  sel (bAnd (iLe a2 a3) (iLt y0 0))
    (some (.inl (a0, (a1, (a2, (iSub .i64 a3 1))))))
    (some (.inr (a0, (a1, (a2, a3)))))) none) none) none
def L172_4 (x : (Tq2 × Tq4)) : Option (Tq2 × Tq4) := iter (fun (x : (Tq2 × Tq4)) => (B172_4 x.1 x.2.1 x.2.2.1 x.2.2.2)) fuel x
def lsL172_4 : LS := ⟨(.one .normal ⟨(.own 0 Yq3), [0, 1, 4, 11, 12], (.seq (.alo 0) (.seq (.dat (.int .i64)) (.seq (.fn 63 .non) (.seq (.dat (.int .i64)) (.dat (.int .i64)))))), 1, 90, 1⟩), (.one (.exit 4) ⟨(.own 0 Yq3), [0, 1, 4, 11, 12], (.seq (.alo 0) (.seq (.dat (.int .i64)) (.seq (.fn 63 .non) (.seq (.dat (.int .i64)) (.dat (.int .i64)))))), 1, 90, 1⟩), fun (x : (Tq2 × Tq4)) => (B172_4 x.1 x.2.1 x.2.2.1 x.2.2.2)⟩
def B172_0 (a0 : Tq2) (a1 : Int) (a2 : Int) (a3 : Int) : Option ((Tq2 × Tq4) ⊕ (Tq2 × Int)) :=
  bndS (L172_2 (a0, (a1, (a2, a3)))) fun y0 =>
  bndS (L172_4 y0) fun y1 =>
  sel (iLt y1.2.2.2 y1.2.2.1)
    (some (.inr (y1.1, y1.2.2.1)))
    (sel (oIn y1.2.2.2 (lLen y1.1)) (
    sel (oIn y1.2.2.1 (lLen y1.1)) (
    sel (oIn y1.2.2.1 (lLen y1.1)) (
    sel (oIn y1.2.2.2 (lLen (lSet y1.1 y1.2.2.1 (lAt y1.1 y1.2.2.2)))) (
    some (.inl ((lSet (lSet y1.1 y1.2.2.1 (lAt y1.1 y1.2.2.2)) y1.2.2.2 (lAt y1.1 y1.2.2.1)), (y1.2.1, ((iAdd .i64 y1.2.2.1 1), (iSub .i64 y1.2.2.2 1)))))) none) none) none) none)
def L172_0 (x : (Tq2 × Tq4)) : Option (Tq2 × Int) := iter (fun (x : (Tq2 × Tq4)) => (B172_0 x.1 x.2.1 x.2.2.1 x.2.2.2)) fuel x
def lsL172_0 : LS := ⟨(.one .normal ⟨(.own 0 Yq3), [0, 1, 4, 11, 12], (.seq (.alo 0) (.seq (.dat (.int .i64)) (.seq (.fn 63 .non) (.seq (.dat (.int .i64)) (.dat (.int .i64)))))), 1, 90, 1⟩), (.one (.exit 0) ⟨(.own 0 Yq3), [11], (.dat (.int .i64)), 1, 90, 1⟩), fun (x : (Tq2 × Tq4)) => (B172_0 x.1 x.2.1 x.2.2.1 x.2.2.2)⟩
def F172 (a0 : Tq2) (a1 : Int) (a2 : Int) (a3 : Int) : Option (Tq2 × Int) :=
  sel (oIn a3 (lLen a0)) (
  sel (oIn a1 (lLen a0)) (
  sel (oIn a1 (lLen a0)) (
  sel (oIn a3 (lLen (lSet a0 a1 (lAt a0 a3)))) (
  bndS (L172_0 ((lSet (lSet a0 a1 (lAt a0 a3)) a3 (lAt a0 a1)), (a1, ((iAdd .i64 a1 1), (iSub .i64 a2 1))))) fun y0 =>
  some y0) none) none) none) none
def gF172 : FS := ⟨(.seq (.own 0 Yq3) (.seq (.dat (.int .i64)) (.seq (.dat (.int .i64)) (.seq (.dat (.int .i64)) (.fn 63 .non))))), 1, (.one ⟨(.own 0 Yq3), (.dat (.int .i64)), 1, 0⟩), fun x => (F172 x.1 x.2.1 x.2.2.1 x.2.2.2)⟩
theorem rL172_2 (x : lsL172_2.hd.T) : kRound env (GofL [(63, [gF63])]) (LofL [(172, [(2, lsL172_2), (4, lsL172_4), (0, lsL172_0)])]) 172 2 (lpOf Tryz.prog 172 1).2 (lsL172_2.hd.st x) lsL172_2.rd = lsL172_2.B x := by kernel_rfl
theorem rL172_4 (x : lsL172_4.hd.T) : kRound env (GofL [(63, [gF63])]) (LofL [(172, [(2, lsL172_2), (4, lsL172_4), (0, lsL172_0)])]) 172 4 (lpOf Tryz.prog 172 2).2 (lsL172_4.hd.st x) lsL172_4.rd = lsL172_4.B x := by kernel_rfl
theorem rL172_0 (x : lsL172_0.hd.T) : kRound env (GofL [(63, [gF63])]) (LofL [(172, [(2, lsL172_2), (4, lsL172_4), (0, lsL172_0)])]) 172 0 (lpOf Tryz.prog 172 0).2 (lsL172_0.hd.st x) lsL172_0.rd = lsL172_0.B x := by kernel_rfl
theorem eF172 (x : gF172.a.T) : kF env (GofL [(63, [gF63])]) (LofL [(172, [(2, lsL172_2), (4, lsL172_4), (0, lsL172_0)])]) 172 (gF172.args x) (gF172.bs x) gF172.r.dec = gF172.F x := by kernel_rfl
theorem sF172 : SpecAt env 4 172 gF172 := mkSpec (r := 3) (gl := [(63, [gF63])]) (L0 := [(2, lsL172_2), (4, lsL172_4), (0, lsL172_0)]) (by kernel_rfl) ⟨⟨sF63.up (by decide), trivial⟩, trivial⟩ ⟨⟨1, by kernel_rfl, by kernel_rfl, rL172_2⟩, ⟨2, by kernel_rfl, by kernel_rfl, rL172_4⟩, ⟨0, by kernel_rfl, by kernel_rfl, rL172_0⟩, trivial⟩ eF172 (fun h => absurd h (by rw [show env.nl 172 = false by kernel_rfl]; decide))
def B171_2 (a0 : Tq2) (a1 : Int) (a2 : Int) (a3 : Int) (a4 : Int) : Option (Tq16 ⊕ Tq16) :=
  sel (bOr (oIn a3 (lLen a0)) (bNot (iLt a3 a2))) (
  sel (bOr (oIn (iSub .i64 a3 1) (lLen a0)) (bNot (iLt a3 a2))) (
  sel (bOr (okS (F63 (lAt a0 a3) (lAt a0 (iSub .i64 a3 1)))) (bNot (iLt a3 a2))) (
  letS (valS (F63 (lAt a0 a3) (lAt a0 (iSub .i64 a3 1))) 0) fun y0 =>
  sel (bAnd (iLt a3 a2) (bNot (iLt y0 0)))
    (some (.inl (a0, (a1, (a2, ((iAdd .i64 a3 1), a4))))))
    (some (.inr (a0, (a1, (a2, (a3, a4))))))) none) none) none
def L171_2 (x : Tq16) : Option Tq16 := iter (fun (x : Tq16) => (B171_2 x.1 x.2.1 x.2.2.1 x.2.2.2.1 x.2.2.2.2)) fuel x
def lsL171_2 : LS := ⟨(.one .normal ⟨(.own 0 Yq3), [0, 1, 2, 3, 9, 10], (.seq (.alo 0) (.seq (.dat (.int .i64)) (.seq (.dat (.int .i64)) (.seq (.fn 63 .non) (.seq (.dat (.int .i64)) (.dat (.int .i64))))))), 1, 141, 1⟩), (.one (.exit 2) ⟨(.own 0 Yq3), [0, 1, 2, 3, 9, 10], (.seq (.alo 0) (.seq (.dat (.int .i64)) (.seq (.dat (.int .i64)) (.seq (.fn 63 .non) (.seq (.dat (.int .i64)) (.dat (.int .i64))))))), 1, 141, 1⟩), fun (x : Tq16) => (B171_2 x.1 x.2.1 x.2.2.1 x.2.2.2.1 x.2.2.2.2)⟩
def B171_6 (a0 : Tq2) (a1 : Int) (a2 : Int) (a3 : Int) (a4 : Int) (a5 : Int) : Option (Tq22 ⊕ Tq16) :=
  sel (iLt a5 a2)
    (sel (oIn a5 (lLen a0)) (
    sel (oIn (iSub .i64 a5 1) (lLen a0)) (
    bndS (F63 (lAt a0 a5) (lAt a0 (iSub .i64 a5 1))) fun y0 =>
    sel (bNot (iLt y0 0))
      (some (.inr (a0, (a1, (a2, (a3, a4))))))
      (sel (oIn (iSub .i64 a5 1) (lLen a0)) (
      sel (oIn a5 (lLen a0)) (
      sel (oIn a5 (lLen a0)) (
      sel (oIn (iSub .i64 a5 1) (lLen (lSet a0 a5 (lAt a0 (iSub .i64 a5 1))))) (
      some (.inl ((lSet (lSet a0 a5 (lAt a0 (iSub .i64 a5 1))) (iSub .i64 a5 1) (lAt a0 a5)), (a1, (a2, (a3, (a4, (iAdd .i64 a5 1)))))))) none) none) none) none)) none) none)
    (some (.inr (a0, (a1, (a2, (a3, a4))))))
def L171_6 (x : Tq22) : Option Tq16 := iter (fun (x : Tq22) => (B171_6 x.1 x.2.1 x.2.2.1 x.2.2.2.1 x.2.2.2.2.1 x.2.2.2.2.2)) fuel x
def lsL171_6 : LS := ⟨(.one .normal ⟨(.own 0 Yq3), [0, 1, 2, 3, 9, 10, 12], (.seq (.alo 0) (.seq (.dat (.int .i64)) (.seq (.dat (.int .i64)) (.seq (.fn 63 .non) (.seq (.dat (.int .i64)) (.seq (.dat (.int .i64)) (.dat (.int .i64)))))))), 1, 141, 1⟩), (.one (.exit 6) ⟨(.own 0 Yq3), [0, 1, 2, 3, 9, 10], (.seq (.alo 0) (.seq (.dat (.int .i64)) (.seq (.dat (.int .i64)) (.seq (.fn 63 .non) (.seq (.dat (.int .i64)) (.dat (.int .i64))))))), 1, 141, 1⟩), fun (x : Tq22) => (B171_6 x.1 x.2.1 x.2.2.1 x.2.2.2.1 x.2.2.2.2.1 x.2.2.2.2.2)⟩
def B171_4 (a0 : Tq2) (a1 : Int) (a2 : Int) (a3 : Int) (a4 : Int) (a5 : Int) : Option (Tq22 ⊕ Tq16) :=
  sel (iLe 1 a5)
    (sel (oIn a5 (lLen a0)) (
    sel (oIn (iSub .i64 a5 1) (lLen a0)) (
    bndS (F63 (lAt a0 a5) (lAt a0 (iSub .i64 a5 1))) fun y0 =>
    sel (bNot (iLt y0 0))
      (some (.inr (a0, (a1, (a2, (a3, a4))))))
      (sel (oIn (iSub .i64 a5 1) (lLen a0)) (
      sel (oIn a5 (lLen a0)) (
      sel (oIn a5 (lLen a0)) (
      sel (oIn (iSub .i64 a5 1) (lLen (lSet a0 a5 (lAt a0 (iSub .i64 a5 1))))) (
      some (.inl ((lSet (lSet a0 a5 (lAt a0 (iSub .i64 a5 1))) (iSub .i64 a5 1) (lAt a0 a5)), (a1, (a2, (a3, (a4, (iSub .i64 a5 1)))))))) none) none) none) none)) none) none)
    (some (.inr (a0, (a1, (a2, (a3, a4))))))
def L171_4 (x : Tq22) : Option Tq16 := iter (fun (x : Tq22) => (B171_4 x.1 x.2.1 x.2.2.1 x.2.2.2.1 x.2.2.2.2.1 x.2.2.2.2.2)) fuel x
def lsL171_4 : LS := ⟨(.one .normal ⟨(.own 0 Yq3), [0, 1, 2, 3, 9, 10, 11], (.seq (.alo 0) (.seq (.dat (.int .i64)) (.seq (.dat (.int .i64)) (.seq (.fn 63 .non) (.seq (.dat (.int .i64)) (.seq (.dat (.int .i64)) (.dat (.int .i64)))))))), 1, 141, 1⟩), (.one (.exit 4) ⟨(.own 0 Yq3), [0, 1, 2, 3, 9, 10], (.seq (.alo 0) (.seq (.dat (.int .i64)) (.seq (.dat (.int .i64)) (.seq (.fn 63 .non) (.seq (.dat (.int .i64)) (.dat (.int .i64))))))), 1, 141, 1⟩), fun (x : Tq22) => (B171_4 x.1 x.2.1 x.2.2.1 x.2.2.2.1 x.2.2.2.2.1 x.2.2.2.2.2)⟩
def B171_0 (a0 : Tq2) (a1 : Int) (a2 : Int) (a3 : Int) (a4 : Int) : Option (Tq16 ⊕ (Tq2 ⊕ (Tq2 × Bool))) :=
  sel (iLt a4 5)
    (bndS (L171_2 (a0, (a1, (a2, (a3, a4))))) fun y0 =>
    sel (iEq y0.2.2.2.1 y0.2.2.1)
      (some (.inr (.inr (y0.1, true))))
      (sel (iLt (iSub .i64 y0.2.2.1 y0.2.1) 50)
        (some (.inr (.inr (y0.1, false))))
        (sel (oIn (iSub .i64 y0.2.2.2.1 1) (lLen y0.1)) (
        sel (oIn y0.2.2.2.1 (lLen y0.1)) (
        sel (oIn y0.2.2.2.1 (lLen y0.1)) (
        sel (oIn (iSub .i64 y0.2.2.2.1 1) (lLen (lSet y0.1 y0.2.2.2.1 (lAt y0.1 (iSub .i64 y0.2.2.2.1 1))))) (
        sel (iLe 2 (iSub .i64 y0.2.2.2.1 y0.2.1))
          (bndS (L171_4 ((lSet (lSet y0.1 y0.2.2.2.1 (lAt y0.1 (iSub .i64 y0.2.2.2.1 1))) (iSub .i64 y0.2.2.2.1 1) (lAt y0.1 y0.2.2.2.1)), (y0.2.1, (y0.2.2.1, (y0.2.2.2.1, (y0.2.2.2.2, (iSub .i64 y0.2.2.2.1 1))))))) fun y2 =>
          sel (iLe 2 (iSub .i64 y2.2.2.1 y2.2.2.2.1))
            (bndS (L171_6 (y2.1, (y2.2.1, (y2.2.2.1, (y2.2.2.2.1, (y2.2.2.2.2, (iAdd .i64 y2.2.2.2.1 1))))))) fun y3 =>
            some (.inl (y3.1, (y3.2.1, (y3.2.2.1, (y3.2.2.2.1, (iAdd .i64 y3.2.2.2.2 1)))))))
            (some (.inl (y2.1, (y2.2.1, (y2.2.2.1, (y2.2.2.2.1, (iAdd .i64 y2.2.2.2.2 1))))))))
          (sel (iLe 2 (iSub .i64 y0.2.2.1 y0.2.2.2.1))
            (bndS (L171_6 ((lSet (lSet y0.1 y0.2.2.2.1 (lAt y0.1 (iSub .i64 y0.2.2.2.1 1))) (iSub .i64 y0.2.2.2.1 1) (lAt y0.1 y0.2.2.2.1)), (y0.2.1, (y0.2.2.1, (y0.2.2.2.1, (y0.2.2.2.2, (iAdd .i64 y0.2.2.2.1 1))))))) fun y1 =>
            some (.inl (y1.1, (y1.2.1, (y1.2.2.1, (y1.2.2.2.1, (iAdd .i64 y1.2.2.2.2 1)))))))
            (some (.inl ((lSet (lSet y0.1 y0.2.2.2.1 (lAt y0.1 (iSub .i64 y0.2.2.2.1 1))) (iSub .i64 y0.2.2.2.1 1) (lAt y0.1 y0.2.2.2.1)), (y0.2.1, (y0.2.2.1, (y0.2.2.2.1, (iAdd .i64 y0.2.2.2.2 1))))))))) none) none) none) none)))
    (some (.inr (.inl a0)))
def L171_0 (x : Tq16) : Option (Tq2 ⊕ (Tq2 × Bool)) := iter (fun (x : Tq16) => (B171_0 x.1 x.2.1 x.2.2.1 x.2.2.2.1 x.2.2.2.2)) fuel x
def lsL171_0 : LS := ⟨(.one .normal ⟨(.own 0 Yq3), [0, 1, 2, 3, 9, 10], (.seq (.alo 0) (.seq (.dat (.int .i64)) (.seq (.dat (.int .i64)) (.seq (.fn 63 .non) (.seq (.dat (.int .i64)) (.dat (.int .i64))))))), 1, 141, 1⟩), (.two (.one (.exit 0) ⟨(.own 0 Yq3), [], .non, 1, 141, 1⟩) (.one .ret ⟨(.own 0 Yq3), [8], (.dat .bool), 1, 141, 1⟩)), fun (x : Tq16) => (B171_0 x.1 x.2.1 x.2.2.1 x.2.2.2.1 x.2.2.2.2)⟩
def F171 (a0 : Tq2) (a1 : Int) (a2 : Int) : Option (Tq2 × Bool) :=
  bndS (L171_0 (a0, (a1, (a2, ((iAdd .i64 a1 1), 0))))) fun y0 =>
  sumS y0 (fun y0a =>
    some (y0a, false)) fun y0b =>
    some y0b
def gF171 : FS := ⟨(.seq (.own 0 Yq3) (.seq (.dat (.int .i64)) (.seq (.dat (.int .i64)) (.fn 63 .non)))), 1, (.one ⟨(.own 0 Yq3), (.dat .bool), 1, 0⟩), fun x => (F171 x.1 x.2.1 x.2.2)⟩
theorem rL171_2 (x : lsL171_2.hd.T) : kRound env (GofL [(63, [gF63])]) (LofL [(171, [(2, lsL171_2), (6, lsL171_6), (4, lsL171_4), (0, lsL171_0)])]) 171 2 (lpOf Tryz.prog 171 1).2 (lsL171_2.hd.st x) lsL171_2.rd = lsL171_2.B x := by kernel_rfl
theorem rL171_6 (x : lsL171_6.hd.T) : kRound env (GofL [(63, [gF63])]) (LofL [(171, [(2, lsL171_2), (6, lsL171_6), (4, lsL171_4), (0, lsL171_0)])]) 171 6 (lpOf Tryz.prog 171 3).2 (lsL171_6.hd.st x) lsL171_6.rd = lsL171_6.B x := by kernel_rfl
theorem rL171_4 (x : lsL171_4.hd.T) : kRound env (GofL [(63, [gF63])]) (LofL [(171, [(2, lsL171_2), (6, lsL171_6), (4, lsL171_4), (0, lsL171_0)])]) 171 4 (lpOf Tryz.prog 171 2).2 (lsL171_4.hd.st x) lsL171_4.rd = lsL171_4.B x := by kernel_rfl
theorem rL171_0 (x : lsL171_0.hd.T) : kRound env (GofL [(63, [gF63])]) (LofL [(171, [(2, lsL171_2), (6, lsL171_6), (4, lsL171_4), (0, lsL171_0)])]) 171 0 (lpOf Tryz.prog 171 0).2 (lsL171_0.hd.st x) lsL171_0.rd = lsL171_0.B x := by kernel_rfl
theorem eF171 (x : gF171.a.T) : kF env (GofL [(63, [gF63])]) (LofL [(171, [(2, lsL171_2), (6, lsL171_6), (4, lsL171_4), (0, lsL171_0)])]) 171 (gF171.args x) (gF171.bs x) gF171.r.dec = gF171.F x := by kernel_rfl
theorem sF171 : SpecAt env 4 171 gF171 := mkSpec (r := 3) (gl := [(63, [gF63])]) (L0 := [(2, lsL171_2), (6, lsL171_6), (4, lsL171_4), (0, lsL171_0)]) (by kernel_rfl) ⟨⟨sF63.up (by decide), trivial⟩, trivial⟩ ⟨⟨1, by kernel_rfl, by kernel_rfl, rL171_2⟩, ⟨3, by kernel_rfl, by kernel_rfl, rL171_6⟩, ⟨2, by kernel_rfl, by kernel_rfl, rL171_4⟩, ⟨0, by kernel_rfl, by kernel_rfl, rL171_0⟩, trivial⟩ eF171 (fun h => absurd h (by rw [show env.nl 171 = false by kernel_rfl]; decide))
def B170_0 (a0 : Tq2) (a1 : Int) (a2 : Int) : Option (Tq17 ⊕ Tq2) :=
  sel (iLt a1 a2)
    (sel (oIn a2 (lLen a0)) (
    sel (oIn a1 (lLen a0)) (
    sel (oIn a1 (lLen a0)) (
    sel (oIn a2 (lLen (lSet a0 a1 (lAt a0 a2)))) (
    some (.inl ((lSet (lSet a0 a1 (lAt a0 a2)) a2 (lAt a0 a1)), ((iAdd .i64 a1 1), (iSub .i64 a2 1))))) none) none) none) none)
    (some (.inr a0))
def L170_0 (x : Tq17) : Option Tq2 := iter (fun (x : Tq17) => (B170_0 x.1 x.2.1 x.2.2)) fuel x
def lsL170_0 : LS := ⟨(.one .normal ⟨(.own 0 Yq3), [0, 8, 9], (.seq (.alo 0) (.seq (.dat (.int .i64)) (.dat (.int .i64)))), 1, 34, 1⟩), (.one (.exit 0) ⟨(.own 0 Yq3), [], .non, 1, 34, 1⟩), fun (x : Tq17) => (B170_0 x.1 x.2.1 x.2.2)⟩
def F170 (a0 : Tq2) (a1 : Int) (a2 : Int) : Option Tq2 :=
  bndS (L170_0 (a0, (a1, (iSub .i64 a2 1)))) fun y0 =>
  some y0
def gF170 : FS := ⟨(.seq (.own 0 Yq3) (.seq (.dat (.int .i64)) (.seq (.dat (.int .i64)) (.fn 63 .non)))), 1, (.one ⟨(.own 0 Yq3), (.tup .non), 1, 0⟩), fun x => (F170 x.1 x.2.1 x.2.2)⟩
theorem rL170_0 (x : lsL170_0.hd.T) : kRound env (GofL []) (LofL [(170, [(0, lsL170_0)])]) 170 0 (lpOf Tryz.prog 170 0).2 (lsL170_0.hd.st x) lsL170_0.rd = lsL170_0.B x := by kernel_rfl
theorem eF170 (x : gF170.a.T) : kF env (GofL []) (LofL [(170, [(0, lsL170_0)])]) 170 (gF170.args x) (gF170.bs x) gF170.r.dec = gF170.F x := by kernel_rfl
theorem sF170 : SpecAt env 1 170 gF170 := mkSpec (r := 0) (gl := []) (L0 := [(0, lsL170_0)]) (by kernel_rfl) trivial ⟨⟨0, by kernel_rfl, by kernel_rfl, rL170_0⟩, trivial⟩ eF170 (fun h => absurd h (by rw [show env.nl 170 = false by kernel_rfl]; decide))
def F191 (a0 : Int) : Option Int :=
  bndS (F126 (iCv .u64 a0)) fun y0 =>
  sel (iLe 0 y0) (
  some (iShl .u64 1 y0)) none
def gF191 : FS := ⟨(.dat (.int .i64)), 0, (.one ⟨.non, (.dat (.int .u64)), 0, 0⟩), fun x => (F191 x)⟩
theorem eF191 (x : gF191.a.T) : kF env (GofL [(126, [gF126])]) (LofL [(191, [])]) 191 (gF191.args x) (gF191.bs x) gF191.r.dec = gF191.F x := by kernel_rfl
theorem sF191 : SpecAt env 3 191 gF191 := mkSpec (r := 2) (gl := [(126, [gF126])]) (L0 := []) (by kernel_rfl) ⟨⟨sF126.up (by decide), trivial⟩, trivial⟩ trivial eF191 (fun h => absurd h (by rw [show env.nl 191 = false by kernel_rfl]; decide))
def F192 (a0 : Int) : (Int × Int) :=
  ((iXor .u64 (iXor .u64 (iXor .u64 a0 (iShl .u64 a0 13)) (iShr .u64 (iXor .u64 a0 (iShl .u64 a0 13)) 7)) (iShl .u64 (iXor .u64 (iXor .u64 a0 (iShl .u64 a0 13)) (iShr .u64 (iXor .u64 a0 (iShl .u64 a0 13)) 7)) 17)), (iXor .u64 (iXor .u64 (iXor .u64 a0 (iShl .u64 a0 13)) (iShr .u64 (iXor .u64 a0 (iShl .u64 a0 13)) 7)) (iShl .u64 (iXor .u64 (iXor .u64 a0 (iShl .u64 a0 13)) (iShr .u64 (iXor .u64 a0 (iShl .u64 a0 13)) 7)) 17)))
def gF192 : FS := ⟨(.box 0 (.dat (.int .u64))), 1, (.one ⟨(.box 0 (.dat (.int .u64))), (.dat (.int .u64)), 1, 0⟩), fun x => some (F192 x)⟩
theorem eF192 (x : gF192.a.T) : kF env (GofL []) (LofL [(192, [])]) 192 (gF192.args x) (gF192.bs x) gF192.r.dec = gF192.F x := by kernel_rfl
theorem sF192 : SpecAt env 1 192 gF192 := mkSpec (r := 0) (gl := []) (L0 := []) (by kernel_rfl) trivial trivial eF192 (fun h => absurd h (by rw [show env.nl 192 = false by kernel_rfl]; decide))
def B168_0 (a0 : Tq2) (a1 : Int) (a2 : Int) (a3 : Int) (a4 : Int) (a5 : Int) : Option (Tq22 ⊕ Tq2) :=
  sel (oNz 4) (
  sel (iLe a5 (iAdd .i64 (iAdd .i64 a1 (iMul .i64 (iQuo .i64 a2 4) 2)) 1))
    (letS (F192 a3) fun y0 =>
    sel (oIn (iAdd .i64 a1 (sel (iLe a2 (iCv .i64 (iAnd .u64 y0.2 (iSub .u64 a4 1)))) (iSub .i64 (iCv .i64 (iAnd .u64 y0.2 (iSub .u64 a4 1))) a2) (iCv .i64 (iAnd .u64 y0.2 (iSub .u64 a4 1))))) (lLen a0)) (
    sel (oIn a5 (lLen a0)) (
    sel (oIn a5 (lLen a0)) (
    sel (oIn (iAdd .i64 a1 (sel (iLe a2 (iCv .i64 (iAnd .u64 y0.2 (iSub .u64 a4 1)))) (iSub .i64 (iCv .i64 (iAnd .u64 y0.2 (iSub .u64 a4 1))) a2) (iCv .i64 (iAnd .u64 y0.2 (iSub .u64 a4 1))))) (lLen (lSet a0 a5 (lAt a0 (iAdd .i64 a1 (sel (iLe a2 (iCv .i64 (iAnd .u64 y0.2 (iSub .u64 a4 1)))) (iSub .i64 (iCv .i64 (iAnd .u64 y0.2 (iSub .u64 a4 1))) a2) (iCv .i64 (iAnd .u64 y0.2 (iSub .u64 a4 1))))))))) (
    some (.inl ((lSet (lSet a0 a5 (lAt a0 (iAdd .i64 a1 (sel (iLe a2 (iCv .i64 (iAnd .u64 y0.2 (iSub .u64 a4 1)))) (iSub .i64 (iCv .i64 (iAnd .u64 y0.2 (iSub .u64 a4 1))) a2) (iCv .i64 (iAnd .u64 y0.2 (iSub .u64 a4 1))))))) (iAdd .i64 a1 (sel (iLe a2 (iCv .i64 (iAnd .u64 y0.2 (iSub .u64 a4 1)))) (iSub .i64 (iCv .i64 (iAnd .u64 y0.2 (iSub .u64 a4 1))) a2) (iCv .i64 (iAnd .u64 y0.2 (iSub .u64 a4 1))))) (lAt a0 a5)), (a1, (a2, (y0.1, (a4, (iAdd .i64 a5 1)))))))) none) none) none) none)
    (some (.inr a0))) none
def L168_0 (x : Tq22) : Option Tq2 := iter (fun (x : Tq22) => (B168_0 x.1 x.2.1 x.2.2.1 x.2.2.2.1 x.2.2.2.2.1 x.2.2.2.2.2)) fuel x
def lsL168_0 : LS := ⟨(.one .normal ⟨(.own 0 Yq3), [0, 1, 8, 9, 10, 11], (.seq (.alo 0) (.seq (.dat (.int .i64)) (.seq (.dat (.int .i64)) (.seq (.box 1 (.dat (.int .u64))) (.seq (.dat (.int .u64)) (.dat (.int .i64))))))), 2, 67, 1⟩), (.one (.exit 0) ⟨(.own 0 Yq3), [], .non, 1, 67, 1⟩), fun (x : Tq22) => (B168_0 x.1 x.2.1 x.2.2.1 x.2.2.2.1 x.2.2.2.2.1 x.2.2.2.2.2)⟩
def F168 (a0 : Tq2) (a1 : Int) (a2 : Int) : Option Tq2 :=
  sel (iLe 8 (iSub .i64 a2 a1))
    (bndS (F191 (iSub .i64 a2 a1)) fun y0 =>
    sel (oNz 4) (
    bndS (L168_0 (a0, (a1, ((iSub .i64 a2 a1), ((iCv .u64 (iSub .i64 a2 a1)), (y0, (iSub .i64 (iAdd .i64 a1 (iMul .i64 (iQuo .i64 (iSub .i64 a2 a1) 4) 2)) 1))))))) fun y1 =>
    some y1) none)
    (some a0)
def gF168 : FS := ⟨(.seq (.own 0 Yq3) (.seq (.dat (.int .i64)) (.seq (.dat (.int .i64)) (.fn 63 .non)))), 1, (.one ⟨(.own 0 Yq3), (.tup .non), 1, 0⟩), fun x => (F168 x.1 x.2.1 x.2.2)⟩
theorem rL168_0 (x : lsL168_0.hd.T) : kRound env (GofL [(192, [gF192]), (191, [gF191])]) (LofL [(168, [(0, lsL168_0)])]) 168 0 (lpOf Tryz.prog 168 0).2 (lsL168_0.hd.st x) lsL168_0.rd = lsL168_0.B x := by kernel_rfl
theorem eF168 (x : gF168.a.T) : kF env (GofL [(192, [gF192]), (191, [gF191])]) (LofL [(168, [(0, lsL168_0)])]) 168 (gF168.args x) (gF168.bs x) gF168.r.dec = gF168.F x := by kernel_rfl
theorem sF168 : SpecAt env 4 168 gF168 := mkSpec (r := 3) (gl := [(192, [gF192]), (191, [gF191])]) (L0 := [(0, lsL168_0)]) (by kernel_rfl) ⟨⟨sF192.up (by decide), trivial⟩, ⟨sF191.up (by decide), trivial⟩, trivial⟩ ⟨⟨0, by kernel_rfl, by kernel_rfl, rL168_0⟩, trivial⟩ eF168 (fun h => absurd h (by rw [show env.nl 168 = false by kernel_rfl]; decide))
def B190_0 (a0 : Tq2) (a1 : Int) (a2 : Int) (a3 : Int) : Option ((Tq2 × Tq4) ⊕ (Tq2 ⊕ Tq2)) :=
  sel (iLe a1 (iAdd .i64 (iMul .i64 2 a3) 1))
    (some (.inr (.inr a0)))
    (sel (bOr (oIn (iAdd .i64 a2 (iAdd .i64 (iMul .i64 2 a3) 1)) (lLen a0)) (bNot (iLt (iAdd .i64 (iAdd .i64 (iMul .i64 2 a3) 1) 1) a1))) (
    sel (bOr (oIn (iAdd .i64 (iAdd .i64 a2 (iAdd .i64 (iMul .i64 2 a3) 1)) 1) (lLen a0)) (bNot (iLt (iAdd .i64 (iAdd .i64 (iMul .i64 2 a3) 1) 1) a1))) (
    sel (bOr (okS (F63 (lAt a0 (iAdd .i64 a2 (iAdd .i64 (iMul .i64 2 a3) 1))) (lAt a0 (iAdd .i64 (iAdd .i64 a2 (iAdd .i64 (iMul .i64 2 a3) 1)) 1)))) (bNot (iLt (iAdd .i64 (iAdd .i64 (iMul .i64 2 a3) 1) 1) a1))) (
    letS (valS (F63 (lAt a0 (iAdd .i64 a2 (iAdd .i64 (iMul .i64 2 a3) 1))) (lAt a0 (iAdd .i64 (iAdd .i64 a2 (iAdd .i64 (iMul .i64 2 a3) 1)) 1))) 0) fun y0 =>
    sel (oIn (iAdd .i64 a2 a3) (lLen a0)) (
    sel (oIn (iAdd .i64 a2 (sel (bAnd (iLt (iAdd .i64 (iAdd .i64 (iMul .i64 2 a3) 1) 1) a1) (iLt y0 0)) (iAdd .i64 (iAdd .i64 (iMul .i64 2 a3) 1) 1) (iAdd .i64 (iMul .i64 2 a3) 1))) (lLen a0)) (
    bndS (F63 (lAt a0 (iAdd .i64 a2 a3)) (lAt a0 (iAdd .i64 a2 (sel (bAnd (iLt (iAdd .i64 (iAdd .i64 (iMul .i64 2 a3) 1) 1) a1) (iLt y0 0)) (iAdd .i64 (iAdd .i64 (iMul .i64 2 a3) 1) 1) (iAdd .i64 (iMul .i64 2 a3) 1))))) fun y1 =>
    sel (bNot (iLt y1 0))
      (some (.inr (.inl a0)))
      (sel (oIn (iAdd .i64 a2 (sel (bAnd (iLt (iAdd .i64 (iAdd .i64 (iMul .i64 2 a3) 1) 1) a1) (iLt y0 0)) (iAdd .i64 (iAdd .i64 (iMul .i64 2 a3) 1) 1) (iAdd .i64 (iMul .i64 2 a3) 1))) (lLen a0)) (
      sel (oIn (iAdd .i64 a2 a3) (lLen a0)) (
      sel (oIn (iAdd .i64 a2 a3) (lLen a0)) (
      sel (oIn (iAdd .i64 a2 (sel (bAnd (iLt (iAdd .i64 (iAdd .i64 (iMul .i64 2 a3) 1) 1) a1) (iLt y0 0)) (iAdd .i64 (iAdd .i64 (iMul .i64 2 a3) 1) 1) (iAdd .i64 (iMul .i64 2 a3) 1))) (lLen (lSet a0 (iAdd .i64 a2 a3) (lAt a0 (iAdd .i64 a2 (sel (bAnd (iLt (iAdd .i64 (iAdd .i64 (iMul .i64 2 a3) 1) 1) a1) (iLt y0 0)) (iAdd .i64 (iAdd .i64 (iMul .i64 2 a3) 1) 1) (iAdd .i64 (iMul .i64 2 a3) 1))))))) (
      some (.inl ((lSet (lSet a0 (iAdd .i64 a2 a3) (lAt a0 (iAdd .i64 a2 (sel (bAnd (iLt (iAdd .i64 (iAdd .i64 (iMul .i64 2 a3) 1) 1) a1) (iLt y0 0)) (iAdd .i64 (iAdd .i64 (iMul .i64 2 a3) 1) 1) (iAdd .i64 (iMul .i64 2 a3) 1))))) (iAdd .i64 a2 (sel (bAnd (iLt (iAdd .i64 (iAdd .i64 (iMul .i64 2 a3) 1) 1) a1) (iLt y0 0)) (iAdd .i64 (iAdd .i64 (iMul .i64 2 a3) 1) 1) (iAdd .i64 (iMul .i64 2 a3) 1))) (lAt a0 (iAdd .i64 a2 a3))), (a1, (a2, (sel (bAnd (iLt (iAdd .i64 (iAdd .i64 (iMul .i64 2 a3) 1) 1) a1) (iLt y0 0)) (iAdd .i64 (iAdd .i64 (iMul .i64 2 a3) 1) 1) (iAdd .i64 (iMul .i64 2 a3) 1))))))) none) none) none) none)) none) none) none) none) none)
def L190_0 (x : (Tq2 × Tq4)) : Option (Tq2 ⊕ Tq2) := iter (fun (x : (Tq2 × Tq4)) => (B190_0 x.1 x.2.1 x.2.2.1 x.2.2.2)) fuel x
def lsL190_0 : LS := ⟨(.one .normal ⟨(.own 0 Yq3), [0, 2, 3, 4, 10], (.seq (.alo 0) (.seq (.dat (.int .i64)) (.seq (.dat (.int .i64)) (.seq (.fn 63 .non) (.dat (.int .i64)))))), 1, 82, 1⟩), (.two (.one .ret ⟨(.own 0 Yq3), [], .non, 1, 82, 1⟩) (.one (.exit 0) ⟨(.own 0 Yq3), [], .non, 1, 82, 1⟩)), fun (x : (Tq2 × Tq4)) => (B190_0 x.1 x.2.1 x.2.2.1 x.2.2.2)⟩
def F190 (a0 : Tq2) (a1 : Int) (a2 : Int) (a3 : Int) : Option Tq2 :=
  bndS (L190_0 (a0, (a2, (a3, a1)))) fun y0 =>
  sumS y0 (fun y0a =>
    some y0a) fun y0b =>
    some y0b
def gF190 : FS := ⟨(.seq (.own 0 Yq3) (.seq (.dat (.int .i64)) (.seq (.dat (.int .i64)) (.seq (.dat (.int .i64)) (.fn 63 .non))))), 1, (.one ⟨(.own 0 Yq3), (.tup .non), 1, 0⟩), fun x => (F190 x.1 x.2.1 x.2.2.1 x.2.2.2)⟩
theorem rL190_0 (x : lsL190_0.hd.T) : kRound env (GofL [(63, [gF63])]) (LofL [(190, [(0, lsL190_0)])]) 190 0 (lpOf Tryz.prog 190 0).2 (lsL190_0.hd.st x) lsL190_0.rd = lsL190_0.B x := by kernel_rfl
theorem eF190 (x : gF190.a.T) : kF env (GofL [(63, [gF63])]) (LofL [(190, [(0, lsL190_0)])]) 190 (gF190.args x) (gF190.bs x) gF190.r.dec = gF190.F x := by kernel_rfl
theorem sF190 : SpecAt env 4 190 gF190 := mkSpec (r := 3) (gl := [(63, [gF63])]) (L0 := [(0, lsL190_0)]) (by kernel_rfl) ⟨⟨sF63.up (by decide), trivial⟩, trivial⟩ ⟨⟨0, by kernel_rfl, by kernel_rfl, rL190_0⟩, trivial⟩ eF190 (fun h => absurd h (by rw [show env.nl 190 = false by kernel_rfl]; decide))
end
end Go.Proofs.YtiddpfhpmodfbaaGreatDoor.K
end

section
set_option linter.unusedVariables false
set_option linter.unusedSimpArgs false
set_option linter.unnecessarySimpa false
open Go Go.Ev Go.Proofs
namespace Go.Proofs.YtiddpfhpmodfbaaGreatDoor.K
set_option linter.unusedVariables false
set_option maxRecDepth 100000
noncomputable section
def B167_0 (a0 : Tq2) (a1 : Int) (a2 : Int) (a3 : Int) (a4 : Int) : Option (Tq16 ⊕ (Tq2 × Tq4)) :=
  sel (iLe 0 a4)
    (bndS (F190 a0 a4 a3 a1) fun y0 =>
    some (.inl (y0, (a1, (a2, (a3, (iSub .i64 a4 1)))))))
    (some (.inr (a0, (a1, (a2, a3)))))
def L167_0 (x : Tq16) : Option (Tq2 × Tq4) := iter (fun (x : Tq16) => (B167_0 x.1 x.2.1 x.2.2.1 x.2.2.2.1 x.2.2.2.2)) fuel x
def lsL167_0 : LS := ⟨(.one .normal ⟨(.own 0 Yq3), [0, 3, 8, 9, 10, 11], (.seq (.alo 0) (.seq (.fn 63 .non) (.seq (.dat (.int .i64)) (.seq (.dat (.int .i64)) (.seq (.dat (.int .i64)) (.dat (.int .i64))))))), 1, 60, 1⟩), (.one (.exit 0) ⟨(.own 0 Yq3), [0, 3, 8, 9, 10], (.seq (.alo 0) (.seq (.fn 63 .non) (.seq (.dat (.int .i64)) (.seq (.dat (.int .i64)) (.dat (.int .i64)))))), 1, 60, 1⟩), fun (x : Tq16) => (B167_0 x.1 x.2.1 x.2.2.1 x.2.2.2.1 x.2.2.2.2)⟩
def B167_2 (a0 : Tq2) (a1 : Int) (a2 : Int) (a3 : Int) : Option ((Tq2 × Tq4) ⊕ Tq2) :=
  sel (iLe 0 a3)
    (sel (oIn (iAdd .i64 a1 a3) (lLen a0)) (
    sel (oIn a1 (lLen a0)) (
    sel (oIn a1 (lLen a0)) (
    sel (oIn (iAdd .i64 a1 a3) (lLen (lSet a0 a1 (lAt a0 (iAdd .i64 a1 a3))))) (
    bndS (F190 (lSet (lSet a0 a1 (lAt a0 (iAdd .i64 a1 a3))) (iAdd .i64 a1 a3) (lAt a0 a1)) a2 a3 a1) fun y0 =>
    some (.inl (y0, (a1, (a2, (iSub .i64 a3 1)))))) none) none) none) none)
    (some (.inr a0))
def L167_2 (x : (Tq2 × Tq4)) : Option Tq2 := iter (fun (x : (Tq2 × Tq4)) => (B167_2 x.1 x.2.1 x.2.2.1 x.2.2.2)) fuel x
def lsL167_2 : LS := ⟨(.one .normal ⟨(.own 0 Yq3), [0, 3, 8, 9, 12], (.seq (.alo 0) (.seq (.fn 63 .non) (.seq (.dat (.int .i64)) (.seq (.dat (.int .i64)) (.dat (.int .i64)))))), 1, 60, 1⟩), (.one (.exit 2) ⟨(.own 0 Yq3), [], .non, 1, 60, 1⟩), fun (x : (Tq2 × Tq4)) => (B167_2 x.1 x.2.1 x.2.2.1 x.2.2.2)⟩
def F167 (a0 : Tq2) (a1 : Int) (a2 : Int) : Option Tq2 :=
  sel (oNz 2) (
  bndS (L167_0 (a0, (a1, (0, ((iSub .i64 a2 a1), (iQuo .i64 (iSub .i64 (iSub .i64 a2 a1) 1) 2)))))) fun y0 =>
  bndS (L167_2 (y0.1, (y0.2.1, (y0.2.2.1, (iSub .i64 y0.2.2.2 1))))) fun y1 =>
  some y1) none
def gF167 : FS := ⟨(.seq (.own 0 Yq3) (.seq (.dat (.int .i64)) (.seq (.dat (.int .i64)) (.fn 63 .non)))), 1, (.one ⟨(.own 0 Yq3), (.tup .non), 1, 0⟩), fun x => (F167 x.1 x.2.1 x.2.2)⟩
theorem rL167_0 (x : lsL167_0.hd.T) : kRound env (GofL [(190, [gF190])]) (LofL [(167, [(0, lsL167_0), (2, lsL167_2)])]) 167 0 (lpOf Tryz.prog 167 0).2 (lsL167_0.hd.st x) lsL167_0.rd = lsL167_0.B x := by kernel_rfl
theorem rL167_2 (x : lsL167_2.hd.T) : kRound env (GofL [(190, [gF190])]) (LofL [(167, [(0, lsL167_0), (2, lsL167_2)])]) 167 2 (lpOf Tryz.prog 167 1).2 (lsL167_2.hd.st x) lsL167_2.rd = lsL167_2.B x := by kernel_rfl
theorem eF167 (x : gF167.a.T) : kF env (GofL [(190, [gF190])]) (LofL [(167, [(0, lsL167_0), (2, lsL167_2)])]) 167 (gF167.args x) (gF167.bs x) gF167.r.dec = gF167.F x := by kernel_rfl
theorem sF167 : SpecAt env 5 167 gF167 := mkSpec (r := 4) (gl := [(190, [gF190])]) (L0 := [(0, lsL167_0), (2, lsL167_2)]) (by kernel_rfl) ⟨⟨sF190.up (by decide), trivial⟩, trivial⟩ ⟨⟨0, by kernel_rfl, by kernel_rfl, rL167_0⟩, ⟨1, by kernel_rfl, by kernel_rfl, rL167_2⟩, trivial⟩ eF167 (fun h => absurd h (by rw [show env.nl 167 = false by kernel_rfl]; decide))
def B166_2 (a0 : Tq2) (a1 : Int) (a2 : Int) (a3 : Int) (a4 : Int) : Option (Tq16 ⊕ (Tq2 × Tq4)) :=
  sel (bOr (oIn a4 (lLen a0)) (bNot (iLt a1 a4))) (
  sel (bOr (oIn (iSub .i64 a4 1) (lLen a0)) (bNot (iLt a1 a4))) (
  sel (bOr (okS (F63 (lAt a0 a4) (lAt a0 (iSub .i64 a4 1)))) (bNot (iLt a1 a4))) (
  letS (valS (F63 (lAt a0 a4) (lAt a0 (iSub .i64 a4 1))) 0) fun y0 =>
  sel (bAnd (iLt a1 a4) (iLt y0 0))
    (sel (oIn (iSub .i64 a4 1) (lLen a0)) (
    sel (oIn a4 (lLen a0)) (
    sel (oIn a4 (lLen a0)) (
    sel (oIn (iSub .i64 a4 1) (lLen (lSet a0 a4 (lAt a0 (iSub .i64 a4 1))))) (
    some (.inl ((lSet (lSet a0 a4 (lAt a0 (iSub .i64 a4 1))) (iSub .i64 a4 1) (lAt a0 a4)), (a1, (a2, (a3, (iSub .i64 a4 1))))))) none) none) none) none)
    (some (.inr (a0, (a1, (a2, a3)))))) none) none) none
def L166_2 (x : Tq16) : Option (Tq2 × Tq4) := iter (fun (x : Tq16) => (B166_2 x.1 x.2.1 x.2.2.1 x.2.2.2.1 x.2.2.2.2)) fuel x
def lsL166_2 : LS := ⟨(.one .normal ⟨(.own 0 Yq3), [0, 1, 2, 3, 8, 9], (.seq (.alo 0) (.seq (.dat (.int .i64)) (.seq (.dat (.int .i64)) (.seq (.fn 63 .non) (.seq (.dat (.int .i64)) (.dat (.int .i64))))))), 1, 53, 1⟩), (.one (.exit 2) ⟨(.own 0 Yq3), [0, 1, 2, 3, 8], (.seq (.alo 0) (.seq (.dat (.int .i64)) (.seq (.dat (.int .i64)) (.seq (.fn 63 .non) (.dat (.int .i64)))))), 1, 53, 1⟩), fun (x : Tq16) => (B166_2 x.1 x.2.1 x.2.2.1 x.2.2.2.1 x.2.2.2.2)⟩
def B166_0 (a0 : Tq2) (a1 : Int) (a2 : Int) (a3 : Int) : Option ((Tq2 × Tq4) ⊕ Tq2) :=
  sel (iLt a3 a2)
    (bndS (L166_2 (a0, (a1, (a2, (a3, a3))))) fun y0 =>
    some (.inl (y0.1, (y0.2.1, (y0.2.2.1, (iAdd .i64 y0.2.2.2 1))))))
    (some (.inr a0))
def L166_0 (x : (Tq2 × Tq4)) : Option Tq2 := iter (fun (x : (Tq2 × Tq4)) => (B166_0 x.1 x.2.1 x.2.2.1 x.2.2.2)) fuel x
def lsL166_0 : LS := ⟨(.one .normal ⟨(.own 0 Yq3), [0, 1, 2, 3, 8], (.seq (.alo 0) (.seq (.dat (.int .i64)) (.seq (.dat (.int .i64)) (.seq (.fn 63 .non) (.dat (.int .i64)))))), 1, 53, 1⟩), (.one (.exit 0) ⟨(.own 0 Yq3), [], .non, 1, 53, 1⟩), fun (x : (Tq2 × Tq4)) => (B166_0 x.1 x.2.1 x.2.2.1 x.2.2.2)⟩
def F166 (a0 : Tq2) (a1 : Int) (a2 : Int) : Option Tq2 :=
  bndS (L166_0 (a0, (a1, (a2, (iAdd .i64 a1 1))))) fun y0 =>
  some y0
def gF166 : FS := ⟨(.seq (.own 0 Yq3) (.seq (.dat (.int .i64)) (.seq (.dat (.int .i64)) (.fn 63 .non)))), 1, (.one ⟨(.own 0 Yq3), (.tup .non), 1, 0⟩), fun x => (F166 x.1 x.2.1 x.2.2)⟩
theorem rL166_2 (x : lsL166_2.hd.T) : kRound env (GofL [(63, [gF63])]) (LofL [(166, [(2, lsL166_2), (0, lsL166_0)])]) 166 2 (lpOf Tryz.prog 166 1).2 (lsL166_2.hd.st x) lsL166_2.rd = lsL166_2.B x := by kernel_rfl
theorem rL166_0 (x : lsL166_0.hd.T) : kRound env (GofL [(63, [gF63])]) (LofL [(166, [(2, lsL166_2), (0, lsL166_0)])]) 166 0 (lpOf Tryz.prog 166 0).2 (lsL166_0.hd.st x) lsL166_0.rd = lsL166_0.B x := by kernel_rfl
theorem eF166 (x : gF166.a.T) : kF env (GofL [(63, [gF63])]) (LofL [(166, [(2, lsL166_2), (0, lsL166_0)])]) 166 (gF166.args x) (gF166.bs x) gF166.r.dec = gF166.F x := by kernel_rfl
theorem sF166 : SpecAt env 4 166 gF166 := mkSpec (r := 3) (gl := [(63, [gF63])]) (L0 := [(2, lsL166_2), (0, lsL166_0)]) (by kernel_rfl) ⟨⟨sF63.up (by decide), trivial⟩, trivial⟩ ⟨⟨1, by kernel_rfl, by kernel_rfl, rL166_2⟩, ⟨0, by kernel_rfl, by kernel_rfl, rL166_0⟩, trivial⟩ eF166 (fun h => absurd h (by rw [show env.nl 166 = false by kernel_rfl]; decide))
def B125_0 (a0 : Tq2) (a1 : Int) (a2 : Int) (a3 : Int) (a4 : Bool) (a5 : Bool) : Option (Tq9 ⊕ Tq2) :=
  sel (iLe (iSub .i64 a2 a1) 12)
    (bndS (F166 a0 a1 a2) fun y34 =>
    some (.inr y34))
    (sel (iEq a3 0)
      (bndS (F167 a0 a1 a2) fun y33 =>
      some (.inr y33))
      (sel (bNot a4)
        (bndS (F168 a0 a1 a2) fun y16 =>
        bndS (F169 y16 a1 a2) fun y17 =>
        sel (iEq y17.2.2 2)
          (bndS (F170 y17.1 a1 a2) fun y25 =>
          sel (bAnd (bAnd a4 a5) true)
            (bndS (F171 y25 a1 a2) fun y29 =>
            sel y29.2
              (some (.inr y29.1))
              (sel (bOr (oIn (iSub .i64 a1 1) (lLen y29.1)) (bNot (iLt 0 a1))) (
              sel (bOr (oIn (iSub .i64 (iSub .i64 a2 1) (iSub .i64 y17.2.1 a1)) (lLen y29.1)) (bNot (iLt 0 a1))) (
              sel (bOr (okS (F63 (lAt y29.1 (iSub .i64 a1 1)) (lAt y29.1 (iSub .i64 (iSub .i64 a2 1) (iSub .i64 y17.2.1 a1))))) (bNot (iLt 0 a1))) (
              letS (valS (F63 (lAt y29.1 (iSub .i64 a1 1)) (lAt y29.1 (iSub .i64 (iSub .i64 a2 1) (iSub .i64 y17.2.1 a1)))) 0) fun y30 =>
              sel (bAnd (iLt 0 a1) (bNot (iLt y30 0)))
                (bndS (F172 y29.1 a1 a2 (iSub .i64 (iSub .i64 a2 1) (iSub .i64 y17.2.1 a1))) fun y32 =>
                some (.inl (y32.1, (y32.2, (a2, ((iSub .i64 a3 1), (a4, a5)))))))
                (bndS (F173 y29.1 a1 a2 (iSub .i64 (iSub .i64 a2 1) (iSub .i64 y17.2.1 a1))) fun y31 =>
                sel (oNz 8) (
                sel (iLt (iSub .i64 y31.2.1 a1) (iSub .i64 a2 y31.2.1)) (
                none) none) none)) none) none) none))
            (sel (bOr (oIn (iSub .i64 a1 1) (lLen y25)) (bNot (iLt 0 a1))) (
            sel (bOr (oIn (iSub .i64 (iSub .i64 a2 1) (iSub .i64 y17.2.1 a1)) (lLen y25)) (bNot (iLt 0 a1))) (
            sel (bOr (okS (F63 (lAt y25 (iSub .i64 a1 1)) (lAt y25 (iSub .i64 (iSub .i64 a2 1) (iSub .i64 y17.2.1 a1))))) (bNot (iLt 0 a1))) (
            letS (valS (F63 (lAt y25 (iSub .i64 a1 1)) (lAt y25 (iSub .i64 (iSub .i64 a2 1) (iSub .i64 y17.2.1 a1)))) 0) fun y26 =>
            sel (bAnd (iLt 0 a1) (bNot (iLt y26 0)))
              (bndS (F172 y25 a1 a2 (iSub .i64 (iSub .i64 a2 1) (iSub .i64 y17.2.1 a1))) fun y28 =>
              some (.inl (y28.1, (y28.2, (a2, ((iSub .i64 a3 1), (a4, a5)))))))
              (bndS (F173 y25 a1 a2 (iSub .i64 (iSub .i64 a2 1) (iSub .i64 y17.2.1 a1))) fun y27 =>
              sel (oNz 8) (
              sel (iLt (iSub .i64 y27.2.1 a1) (iSub .i64 a2 y27.2.1)) (
              none) none) none)) none) none) none))
          (sel (bAnd (bAnd a4 a5) (iEq y17.2.2 1))
            (bndS (F171 y17.1 a1 a2) fun y21 =>
            sel y21.2
              (some (.inr y21.1))
              (sel (bOr (oIn (iSub .i64 a1 1) (lLen y21.1)) (bNot (iLt 0 a1))) (
              sel (bOr (oIn y17.2.1 (lLen y21.1)) (bNot (iLt 0 a1))) (
              sel (bOr (okS (F63 (lAt y21.1 (iSub .i64 a1 1)) (lAt y21.1 y17.2.1))) (bNot (iLt 0 a1))) (
              letS (valS (F63 (lAt y21.1 (iSub .i64 a1 1)) (lAt y21.1 y17.2.1)) 0) fun y22 =>
              sel (bAnd (iLt 0 a1) (bNot (iLt y22 0)))
                (bndS (F172 y21.1 a1 a2 y17.2.1) fun y24 =>
                some (.inl (y24.1, (y24.2, (a2, ((iSub .i64 a3 1), (a4, a5)))))))
                (bndS (F173 y21.1 a1 a2 y17.2.1) fun y23 =>
                sel (oNz 8) (
                sel (iLt (iSub .i64 y23.2.1 a1) (iSub .i64 a2 y23.2.1)) (
                none) none) none)) none) none) none))
            (sel (bOr (oIn (iSub .i64 a1 1) (lLen y17.1)) (bNot (iLt 0 a1))) (
            sel (bOr (oIn y17.2.1 (lLen y17.1)) (bNot (iLt 0 a1))) (
            sel (bOr (okS (F63 (lAt y17.1 (iSub .i64 a1 1)) (lAt y17.1 y17.2.1))) (bNot (iLt 0 a1))) (
            letS (valS (F63 (lAt y17.1 (iSub .i64 a1 1)) (lAt y17.1 y17.2.1)) 0) fun y18 =>
            sel (bAnd (iLt 0 a1) (bNot (iLt y18 0)))
              (bndS (F172 y17.1 a1 a2 y17.2.1) fun y20 =>
              some (.inl (y20.1, (y20.2, (a2, ((iSub .i64 a3 1), (a4, a5)))))))
              (bndS (F173 y17.1 a1 a2 y17.2.1) fun y19 =>
              sel (oNz 8) (
              sel (iLt (iSub .i64 y19.2.1 a1) (iSub .i64 a2 y19.2.1)) (
              none) none) none)) none) none) none)))
        (bndS (F169 a0 a1 a2) fun y0 =>
        sel (iEq y0.2.2 2)
          (bndS (F170 y0.1 a1 a2) fun y8 =>
          sel (bAnd (bAnd a4 a5) true)
            (bndS (F171 y8 a1 a2) fun y12 =>
            sel y12.2
              (some (.inr y12.1))
              (sel (bOr (oIn (iSub .i64 a1 1) (lLen y12.1)) (bNot (iLt 0 a1))) (
              sel (bOr (oIn (iSub .i64 (iSub .i64 a2 1) (iSub .i64 y0.2.1 a1)) (lLen y12.1)) (bNot (iLt 0 a1))) (
              sel (bOr (okS (F63 (lAt y12.1 (iSub .i64 a1 1)) (lAt y12.1 (iSub .i64 (iSub .i64 a2 1) (iSub .i64 y0.2.1 a1))))) (bNot (iLt 0 a1))) (
              letS (valS (F63 (lAt y12.1 (iSub .i64 a1 1)) (lAt y12.1 (iSub .i64 (iSub .i64 a2 1) (iSub .i64 y0.2.1 a1)))) 0) fun y13 =>
              sel (bAnd (iLt 0 a1) (bNot (iLt y13 0)))
                (bndS (F172 y12.1 a1 a2 (iSub .i64 (iSub .i64 a2 1) (iSub .i64 y0.2.1 a1))) fun y15 =>
                some (.inl (y15.1, (y15.2, (a2, (a3, (a4, a5)))))))
                (bndS (F173 y12.1 a1 a2 (iSub .i64 (iSub .i64 a2 1) (iSub .i64 y0.2.1 a1))) fun y14 =>
                sel (oNz 8) (
                sel (iLt (iSub .i64 y14.2.1 a1) (iSub .i64 a2 y14.2.1)) (
                none) none) none)) none) none) none))
            (sel (bOr (oIn (iSub .i64 a1 1) (lLen y8)) (bNot (iLt 0 a1))) (
            sel (bOr (oIn (iSub .i64 (iSub .i64 a2 1) (iSub .i64 y0.2.1 a1)) (lLen y8)) (bNot (iLt 0 a1))) (
            sel (bOr (okS (F63 (lAt y8 (iSub .i64 a1 1)) (lAt y8 (iSub .i64 (iSub .i64 a2 1) (iSub .i64 y0.2.1 a1))))) (bNot (iLt 0 a1))) (
            letS (valS (F63 (lAt y8 (iSub .i64 a1 1)) (lAt y8 (iSub .i64 (iSub .i64 a2 1) (iSub .i64 y0.2.1 a1)))) 0) fun y9 =>
            sel (bAnd (iLt 0 a1) (bNot (iLt y9 0)))
              (bndS (F172 y8 a1 a2 (iSub .i64 (iSub .i64 a2 1) (iSub .i64 y0.2.1 a1))) fun y11 =>
              some (.inl (y11.1, (y11.2, (a2, (a3, (a4, a5)))))))
              (bndS (F173 y8 a1 a2 (iSub .i64 (iSub .i64 a2 1) (iSub .i64 y0.2.1 a1))) fun y10 =>
              sel (oNz 8) (
              sel (iLt (iSub .i64 y10.2.1 a1) (iSub .i64 a2 y10.2.1)) (
              none) none) none)) none) none) none))
          (sel (bAnd (bAnd a4 a5) (iEq y0.2.2 1))
            (bndS (F171 y0.1 a1 a2) fun y4 =>
            sel y4.2
              (some (.inr y4.1))
              (sel (bOr (oIn (iSub .i64 a1 1) (lLen y4.1)) (bNot (iLt 0 a1))) (
              sel (bOr (oIn y0.2.1 (lLen y4.1)) (bNot (iLt 0 a1))) (
              sel (bOr (okS (F63 (lAt y4.1 (iSub .i64 a1 1)) (lAt y4.1 y0.2.1))) (bNot (iLt 0 a1))) (
              letS (valS (F63 (lAt y4.1 (iSub .i64 a1 1)) (lAt y4.1 y0.2.1)) 0) fun y5 =>
              sel (bAnd (iLt 0 a1) (bNot (iLt y5 0)))
                (bndS (F172 y4.1 a1 a2 y0.2.1) fun y7 =>
                some (.inl (y7.1, (y7.2, (a2, (a3, (a4, a5)))))))
                (bndS (F173 y4.1 a1 a2 y0.2.1) fun y6 =>
                sel (oNz 8) (
                sel (iLt (iSub .i64 y6.2.1 a1) (iSub .i64 a2 y6.2.1)) (
                none) none) none)) none) none) none))
            (sel (bOr (oIn (iSub .i64 a1 1) (lLen y0.1)) (bNot (iLt 0 a1))) (
            sel (bOr (oIn y0.2.1 (lLen y0.1)) (bNot (iLt 0 a1))) (
            sel (bOr (okS (F63 (lAt y0.1 (iSub .i64 a1 1)) (lAt y0.1 y0.2.1))) (bNot (iLt 0 a1))) (
            letS (valS (F63 (lAt y0.1 (iSub .i64 a1 1)) (lAt y0.1 y0.2.1)) 0) fun y1 =>
            sel (bAnd (iLt 0 a1) (bNot (iLt y1 0)))
              (bndS (F172 y0.1 a1 a2 y0.2.1) fun y3 =>
              some (.inl (y3.1, (y3.2, (a2, (a3, (a4, a5)))))))
              (bndS (F173 y0.1 a1 a2 y0.2.1) fun y2 =>
              sel (oNz 8) (
              sel (iLt (iSub .i64 y2.2.1 a1) (iSub .i64 a2 y2.2.1)) (
              none) none) none)) none) none) none)))))
def L125_0 (x : Tq9) : Option Tq2 := iter (fun (x : Tq9) => (B125_0 x.1 x.2.1 x.2.2.1 x.2.2.2.1 x.2.2.2.2.1 x.2.2.2.2.2)) fuel x
def lsL125_0 : LS := ⟨(.one .normal ⟨(.own 0 Yq3), [0, 1, 2, 3, 4, 10, 11], (.seq (.alo 0) (.seq (.dat (.int .i64)) (.seq (.dat (.int .i64)) (.seq (.dat (.int .i64)) (.seq (.fn 63 .non) (.seq (.dat .bool) (.dat .bool))))))), 1, 148, 1⟩), (.one .ret ⟨(.own 0 Yq3), [], .non, 1, 148, 1⟩), fun (x : Tq9) => (B125_0 x.1 x.2.1 x.2.2.1 x.2.2.2.1 x.2.2.2.2.1 x.2.2.2.2.2)⟩
def F125r5 (a0 : Tq2) (a1 : Int) (a2 : Int) (a3 : Int) : Option Tq2 :=
  bndS (L125_0 (a0, (a1, (a2, (a3, (true, true)))))) fun y0 =>
  some y0
def gF125r5 : FS := ⟨(.seq (.own 0 Yq3) (.seq (.dat (.int .i64)) (.seq (.dat (.int .i64)) (.seq (.dat (.int .i64)) (.fn 63 .non))))), 1, (.one ⟨(.own 0 Yq3), (.tup .non), 1, 0⟩), fun x => (F125r5 x.1 x.2.1 x.2.2.1 x.2.2.2)⟩
theorem rL125_0 (x : lsL125_0.hd.T) : kRound env (GofL [(166, [gF166]), (167, [gF167]), (172, [gF172]), (173, [gF173]), (63, [gF63]), (171, [gF171]), (170, [gF170]), (169, [gF169]), (168, [gF168])]) (LofL [(125, [(0, lsL125_0)])]) 125 0 (lpOf Tryz.prog 125 0).2 (lsL125_0.hd.st x) lsL125_0.rd = lsL125_0.B x := by kernel_rfl
theorem eF125r5 (x : gF125r5.a.T) : kF env (GofL [(166, [gF166]), (167, [gF167]), (172, [gF172]), (173, [gF173]), (63, [gF63]), (171, [gF171]), (170, [gF170]), (169, [gF169]), (168, [gF168])]) (LofL [(125, [(0, lsL125_0)])]) 125 (gF125r5.args x) (gF125r5.bs x) gF125r5.r.dec = gF125r5.F x := by kernel_rfl
theorem sF125r5 : SpecAt env 8 125 gF125r5 := mkSpec (r := 7) (gl := [(166, [gF166]), (167, [gF167]), (172, [gF172]), (173, [gF173]), (63, [gF63]), (171, [gF171]), (170, [gF170]), (169, [gF169]), (168, [gF168])]) (L0 := [(0, lsL125_0)]) (by kernel_rfl) ⟨⟨sF166.up (by decide), trivial⟩, ⟨sF167.up (by decide), trivial⟩, ⟨sF172.up (by decide), trivial⟩, ⟨sF173.up (by decide), trivial⟩, ⟨sF63.up (by decide), trivial⟩, ⟨sF171.up (by decide), trivial⟩, ⟨sF170.up (by decide), trivial⟩, ⟨sF169.up (by decide), trivial⟩, ⟨sF168.up (by decide), trivial⟩, trivial⟩ ⟨⟨0, by kernel_rfl, by kernel_rfl, rL125_0⟩, trivial⟩ eF125r5 (fun h => absurd h (by rw [show env.nl 125 = false by kernel_rfl]; decide))
def B125_0_1 (a0 : Tq2) (a1 : Int) (a2 : Int) (a3 : Int) (a4 : Bool) (a5 : Bool) : Option (Tq9 ⊕ Tq2) :=
  sel (iLe (iSub .i64 a2 a1) 12)
    (bndS (F166 a0 a1 a2) fun y50 =>
    some (.inr y50))
    (sel (iEq a3 0)
      (bndS (F167 a0 a1 a2) fun y49 =>
      some (.inr y49))
      (sel (bNot a4)
        (bndS (F168 a0 a1 a2) fun y24 =>
        bndS (F169 y24 a1 a2) fun y25 =>
        sel (iEq y25.2.2 2)
          (bndS (F170 y25.1 a1 a2) fun y37 =>
          sel (bAnd (bAnd a4 a5) true)
            (bndS (F171 y37 a1 a2) fun y43 =>
            sel y43.2
              (some (.inr y43.1))
              (sel (bOr (oIn (iSub .i64 a1 1) (lLen y43.1)) (bNot (iLt 0 a1))) (
              sel (bOr (oIn (iSub .i64 (iSub .i64 a2 1) (iSub .i64 y25.2.1 a1)) (lLen y43.1)) (bNot (iLt 0 a1))) (
              sel (bOr (okS (F63 (lAt y43.1 (iSub .i64 a1 1)) (lAt y43.1 (iSub .i64 (iSub .i64 a2 1) (iSub .i64 y25.2.1 a1))))) (bNot (iLt 0 a1))) (
              letS (valS (F63 (lAt y43.1 (iSub .i64 a1 1)) (lAt y43.1 (iSub .i64 (iSub .i64 a2 1) (iSub .i64 y25.2.1 a1)))) 0) fun y44 =>
              sel (bAnd (iLt 0 a1) (bNot (iLt y44 0)))
                (bndS (F172 y43.1 a1 a2 (iSub .i64 (iSub .i64 a2 1) (iSub .i64 y25.2.1 a1))) fun y48 =>
                some (.inl (y48.1, (y48.2, (a2, ((iSub .i64 a3 1), (a4, a5)))))))
                (bndS (F173 y43.1 a1 a2 (iSub .i64 (iSub .i64 a2 1) (iSub .i64 y25.2.1 a1))) fun y45 =>
                sel (oNz 8) (
                sel (iLt (iSub .i64 y45.2.1 a1) (iSub .i64 a2 y45.2.1))
                  (bndS (F125r5 y45.1 a1 y45.2.1 (iSub .i64 a3 1)) fun y47 =>
                  some (.inl (y47, ((iAdd .i64 y45.2.1 1), (a2, ((iSub .i64 a3 1), ((iLe (iQuo .i64 (iSub .i64 a2 a1) 8) (iSub .i64 y45.2.1 a1)), y45.2.2)))))))
                  (bndS (F125r5 y45.1 (iAdd .i64 y45.2.1 1) a2 (iSub .i64 a3 1)) fun y46 =>
                  some (.inl (y46, (a1, (y45.2.1, ((iSub .i64 a3 1), ((iLe (iQuo .i64 (iSub .i64 a2 a1) 8) (iSub .i64 a2 y45.2.1)), y45.2.2)))))))) none)) none) none) none))
            (sel (bOr (oIn (iSub .i64 a1 1) (lLen y37)) (bNot (iLt 0 a1))) (
            sel (bOr (oIn (iSub .i64 (iSub .i64 a2 1) (iSub .i64 y25.2.1 a1)) (lLen y37)) (bNot (iLt 0 a1))) (
            sel (bOr (okS (F63 (lAt y37 (iSub .i64 a1 1)) (lAt y37 (iSub .i64 (iSub .i64 a2 1) (iSub .i64 y25.2.1 a1))))) (bNot (iLt 0 a1))) (
            letS (valS (F63 (lAt y37 (iSub .i64 a1 1)) (lAt y37 (iSub .i64 (iSub .i64 a2 1) (iSub .i64 y25.2.1 a1)))) 0) fun y38 =>
            sel (bAnd (iLt 0 a1) (bNot (iLt y38 0)))
              (bndS (F172 y37 a1 a2 (iSub .i64 (iSub .i64 a2 1) (iSub .i64 y25.2.1 a1))) fun y42 =>
              some (.inl (y42.1, (y42.2, (a2, ((iSub .i64 a3 1), (a4, a5)))))))
              (bndS (F173 y37 a1 a2 (iSub .i64 (iSub .i64 a2 1) (iSub .i64 y25.2.1 a1))) fun y39 =>
              sel (oNz 8) (
              sel (iLt (iSub .i64 y39.2.1 a1) (iSub .i64 a2 y39.2.1))
                (bndS (F125r5 y39.1 a1 y39.2.1 (iSub .i64 a3 1)) fun y41 =>
                some (.inl (y41, ((iAdd .i64 y39.2.1 1), (a2, ((iSub .i64 a3 1), ((iLe (iQuo .i64 (iSub .i64 a2 a1) 8) (iSub .i64 y39.2.1 a1)), y39.2.2)))))))
                (bndS (F125r5 y39.1 (iAdd .i64 y39.2.1 1) a2 (iSub .i64 a3 1)) fun y40 =>
                some (.inl (y40, (a1, (y39.2.1, ((iSub .i64 a3 1), ((iLe (iQuo .i64 (iSub .i64 a2 a1) 8) (iSub .i64 a2 y39.2.1)), y39.2.2)))))))) none)) none) none) none))
          (sel (bAnd (bAnd a4 a5) (iEq y25.2.2 1))
            (bndS (F171 y25.1 a1 a2) fun y31 =>
            sel y31.2
              (some (.inr y31.1))
              (sel (bOr (oIn (iSub .i64 a1 1) (lLen y31.1)) (bNot (iLt 0 a1))) (
              sel (bOr (oIn y25.2.1 (lLen y31.1)) (bNot (iLt 0 a1))) (
              sel (bOr (okS (F63 (lAt y31.1 (iSub .i64 a1 1)) (lAt y31.1 y25.2.1))) (bNot (iLt 0 a1))) (
              letS (valS (F63 (lAt y31.1 (iSub .i64 a1 1)) (lAt y31.1 y25.2.1)) 0) fun y32 =>
              sel (bAnd (iLt 0 a1) (bNot (iLt y32 0)))
                (bndS (F172 y31.1 a1 a2 y25.2.1) fun y36 =>
                some (.inl (y36.1, (y36.2, (a2, ((iSub .i64 a3 1), (a4, a5)))))))
                (bndS (F173 y31.1 a1 a2 y25.2.1) fun y33 =>
                sel (oNz 8) (
                sel (iLt (iSub .i64 y33.2.1 a1) (iSub .i64 a2 y33.2.1))
                  (bndS (F125r5 y33.1 a1 y33.2.1 (iSub .i64 a3 1)) fun y35 =>
                  some (.inl (y35, ((iAdd .i64 y33.2.1 1), (a2, ((iSub .i64 a3 1), ((iLe (iQuo .i64 (iSub .i64 a2 a1) 8) (iSub .i64 y33.2.1 a1)), y33.2.2)))))))
                  (bndS (F125r5 y33.1 (iAdd .i64 y33.2.1 1) a2 (iSub .i64 a3 1)) fun y34 =>
                  some (.inl (y34, (a1, (y33.2.1, ((iSub .i64 a3 1), ((iLe (iQuo .i64 (iSub .i64 a2 a1) 8) (iSub .i64 a2 y33.2.1)), y33.2.2)))))))) none)) none) none) none))
            (sel (bOr (oIn (iSub .i64 a1 1) (lLen y25.1)) (bNot (iLt 0 a1))) (
            sel (bOr (oIn y25.2.1 (lLen y25.1)) (bNot (iLt 0 a1))) (
            sel (bOr (okS (F63 (lAt y25.1 (iSub .i64 a1 1)) (lAt y25.1 y25.2.1))) (bNot (iLt 0 a1))) (
            letS (valS (F63 (lAt y25.1 (iSub .i64 a1 1)) (lAt y25.1 y25.2.1)) 0) fun y26 =>
            sel (bAnd (iLt 0 a1) (bNot (iLt y26 0)))
              (bndS (F172 y25.1 a1 a2 y25.2.1) fun y30 =>
              some (.inl (y30.1, (y30.2, (a2, ((iSub .i64 a3 1), (a4, a5)))))))
              (bndS (F173 y25.1 a1 a2 y25.2.1) fun y27 =>
              sel (oNz 8) (
              sel (iLt (iSub .i64 y27.2.1 a1) (iSub .i64 a2 y27.2.1))
                (bndS (F125r5 y27.1 a1 y27.2.1 (iSub .i64 a3 1)) fun y29 =>
                some (.inl (y29, ((iAdd .i64 y27.2.1 1), (a2, ((iSub .i64 a3 1), ((iLe (iQuo .i64 (iSub .i64 a2 a1) 8) (iSub .i64 y27.2.1 a1)), y27.2.2)))))))
                (bndS (F125r5 y27.1 (iAdd .i64 y27.2.1 1) a2 (iSub .i64 a3 1)) fun y28 =>
                some (.inl (y28, (a1, (y27.2.1, ((iSub .i64 a3 1), ((iLe (iQuo .i64 (iSub .i64 a2 a1) 8) (iSub .i64 a2 y27.2.1)), y27.2.2)))))))) none)) none) none) none)))
        (bndS (F169 a0 a1 a2) fun y0 =>
        sel (iEq y0.2.2 2)
          (bndS (F170 y0.1 a1 a2) fun y12 =>
          sel (bAnd (bAnd a4 a5) true)
            (bndS (F171 y12 a1 a2) fun y18 =>
            sel y18.2
              (some (.inr y18.1))
              (sel (bOr (oIn (iSub .i64 a1 1) (lLen y18.1)) (bNot (iLt 0 a1))) (
              sel (bOr (oIn (iSub .i64 (iSub .i64 a2 1) (iSub .i64 y0.2.1 a1)) (lLen y18.1)) (bNot (iLt 0 a1))) (
              sel (bOr (okS (F63 (lAt y18.1 (iSub .i64 a1 1)) (lAt y18.1 (iSub .i64 (iSub .i64 a2 1) (iSub .i64 y0.2.1 a1))))) (bNot (iLt 0 a1))) (
              letS (valS (F63 (lAt y18.1 (iSub .i64 a1 1)) (lAt y18.1 (iSub .i64 (iSub .i64 a2 1) (iSub .i64 y0.2.1 a1)))) 0) fun y19 =>
              sel (bAnd (iLt 0 a1) (bNot (iLt y19 0)))
                (bndS (F172 y18.1 a1 a2 (iSub .i64 (iSub .i64 a2 1) (iSub .i64 y0.2.1 a1))) fun y23 =>
                some (.inl (y23.1, (y23.2, (a2, (a3, (a4, a5)))))))
                (bndS (F173 y18.1 a1 a2 (iSub .i64 (iSub .i64 a2 1) (iSub .i64 y0.2.1 a1))) fun y20 =>
                sel (oNz 8) (
                sel (iLt (iSub .i64 y20.2.1 a1) (iSub .i64 a2 y20.2.1))
                  (bndS (F125r5 y20.1 a1 y20.2.1 a3) fun y22 =>
                  some (.inl (y22, ((iAdd .i64 y20.2.1 1), (a2, (a3, ((iLe (iQuo .i64 (iSub .i64 a2 a1) 8) (iSub .i64 y20.2.1 a1)), y20.2.2)))))))
                  (bndS (F125r5 y20.1 (iAdd .i64 y20.2.1 1) a2 a3) fun y21 =>
                  some (.inl (y21, (a1, (y20.2.1, (a3, ((iLe (iQuo .i64 (iSub .i64 a2 a1) 8) (iSub .i64 a2 y20.2.1)), y20.2.2)))))))) none)) none) none) none))
            (sel (bOr (oIn (iSub .i64 a1 1) (lLen y12)) (bNot (iLt 0 a1))) (
            sel (bOr (oIn (iSub .i64 (iSub .i64 a2 1) (iSub .i64 y0.2.1 a1)) (lLen y12)) (bNot (iLt 0 a1))) (
            sel (bOr (okS (F63 (lAt y12 (iSub .i64 a1 1)) (lAt y12 (iSub .i64 (iSub .i64 a2 1) (iSub .i64 y0.2.1 a1))))) (bNot (iLt 0 a1))) (
            letS (valS (F63 (lAt y12 (iSub .i64 a1 1)) (lAt y12 (iSub .i64 (iSub .i64 a2 1) (iSub .i64 y0.2.1 a1)))) 0) fun y13 =>
            sel (bAnd (iLt 0 a1) (bNot (iLt y13 0)))
              (bndS (F172 y12 a1 a2 (iSub .i64 (iSub .i64 a2 1) (iSub .i64 y0.2.1 a1))) fun y17 =>
              some (.inl (y17.1, (y17.2, (a2, (a3, (a4, a5)))))))
              (bndS (F173 y12 a1 a2 (iSub .i64 (iSub .i64 a2 1) (iSub .i64 y0.2.1 a1))) fun y14 =>
              sel (oNz 8) (
              sel (iLt (iSub .i64 y14.2.1 a1) (iSub .i64 a2 y14.2.1))
                (bndS (F125r5 y14.1 a1 y14.2.1 a3) fun y16 =>
                some (.inl (y16, ((iAdd .i64 y14.2.1 1), (a2, (a3, ((iLe (iQuo .i64 (iSub .i64 a2 a1) 8) (iSub .i64 y14.2.1 a1)), y14.2.2)))))))
                (bndS (F125r5 y14.1 (iAdd .i64 y14.2.1 1) a2 a3) fun y15 =>
                some (.inl (y15, (a1, (y14.2.1, (a3, ((iLe (iQuo .i64 (iSub .i64 a2 a1) 8) (iSub .i64 a2 y14.2.1)), y14.2.2)))))))) none)) none) none) none))
          (sel (bAnd (bAnd a4 a5) (iEq y0.2.2 1))
            (bndS (F171 y0.1 a1 a2) fun y6 =>
            sel y6.2
              (some (.inr y6.1))
              (sel (bOr (oIn (iSub .i64 a1 1) (lLen y6.1)) (bNot (iLt 0 a1))) (
              sel (bOr (oIn y0.2.1 (lLen y6.1)) (bNot (iLt 0 a1))) (
              sel (bOr (okS (F63 (lAt y6.1 (iSub .i64 a1 1)) (lAt y6.1 y0.2.1))) (bNot (iLt 0 a1))) (
              letS (valS (F63 (lAt y6.1 (iSub .i64 a1 1)) (lAt y6.1 y0.2.1)) 0) fun y7 =>
              sel (bAnd (iLt 0 a1) (bNot (iLt y7 0)))
                (bndS (F172 y6.1 a1 a2 y0.2.1) fun y11 =>
                some (.inl (y11.1, (y11.2, (a2, (a3, (a4, a5)))))))
                (bndS (F173 y6.1 a1 a2 y0.2.1) fun y8 =>
                sel (oNz 8) (
                sel (iLt (iSub .i64 y8.2.1 a1) (iSub .i64 a2 y8.2.1))
                  (bndS (F125r5 y8.1 a1 y8.2.1 a3) fun y10 =>
                  some (.inl (y10, ((iAdd .i64 y8.2.1 1), (a2, (a3, ((iLe (iQuo .i64 (iSub .i64 a2 a1) 8) (iSub .i64 y8.2.1 a1)), y8.2.2)))))))
                  (bndS (F125r5 y8.1 (iAdd .i64 y8.2.1 1) a2 a3) fun y9 =>
                  some (.inl (y9, (a1, (y8.2.1, (a3, ((iLe (iQuo .i64 (iSub .i64 a2 a1) 8) (iSub .i64 a2 y8.2.1)), y8.2.2)))))))) none)) none) none) none))
            (sel (bOr (oIn (iSub .i64 a1 1) (lLen y0.1)) (bNot (iLt 0 a1))) (
            sel (bOr (oIn y0.2.1 (lLen y0.1)) (bNot (iLt 0 a1))) (
            sel (bOr (okS (F63 (lAt y0.1 (iSub .i64 a1 1)) (lAt y0.1 y0.2.1))) (bNot (iLt 0 a1))) (
            letS (valS (F63 (lAt y0.1 (iSub .i64 a1 1)) (lAt y0.1 y0.2.1)) 0) fun y1 =>
            sel (bAnd (iLt 0 a1) (bNot (iLt y1 0)))
              (bndS (F172 y0.1 a1 a2 y0.2.1) fun y5 =>
              some (.inl (y5.1, (y5.2, (a2, (a3, (a4, a5)))))))
              (bndS (F173 y0.1 a1 a2 y0.2.1) fun y2 =>
              sel (oNz 8) (
              sel (iLt (iSub .i64 y2.2.1 a1) (iSub .i64 a2 y2.2.1))
                (bndS (F125r5 y2.1 a1 y2.2.1 a3) fun y4 =>
                some (.inl (y4, ((iAdd .i64 y2.2.1 1), (a2, (a3, ((iLe (iQuo .i64 (iSub .i64 a2 a1) 8) (iSub .i64 y2.2.1 a1)), y2.2.2)))))))
                (bndS (F125r5 y2.1 (iAdd .i64 y2.2.1 1) a2 a3) fun y3 =>
                some (.inl (y3, (a1, (y2.2.1, (a3, ((iLe (iQuo .i64 (iSub .i64 a2 a1) 8) (iSub .i64 a2 y2.2.1)), y2.2.2)))))))) none)) none) none) none)))))
def L125_0_1 (x : Tq9) : Option Tq2 := iter (fun (x : Tq9) => (B125_0_1 x.1 x.2.1 x.2.2.1 x.2.2.2.1 x.2.2.2.2.1 x.2.2.2.2.2)) fuel x
def lsL125_0_1 : LS := ⟨(.one .normal ⟨(.own 0 Yq3), [0, 1, 2, 3, 4, 10, 11], (.seq (.alo 0) (.seq (.dat (.int .i64)) (.seq (.dat (.int .i64)) (.seq (.dat (.int .i64)) (.seq (.fn 63 .non) (.seq (.dat .bool) (.dat .bool))))))), 1, 148, 1⟩), (.one .ret ⟨(.own 0 Yq3), [], .non, 1, 148, 1⟩), fun (x : Tq9) => (B125_0_1 x.1 x.2.1 x.2.2.1 x.2.2.2.1 x.2.2.2.2.1 x.2.2.2.2.2)⟩
def F125r4 (a0 : Tq2) (a1 : Int) (a2 : Int) (a3 : Int) : Option Tq2 :=
  bndS (L125_0_1 (a0, (a1, (a2, (a3, (true, true)))))) fun y0 =>
  some y0
def gF125r4 : FS := ⟨(.seq (.own 0 Yq3) (.seq (.dat (.int .i64)) (.seq (.dat (.int .i64)) (.seq (.dat (.int .i64)) (.fn 63 .non))))), 1, (.one ⟨(.own 0 Yq3), (.tup .non), 1, 0⟩), fun x => (F125r4 x.1 x.2.1 x.2.2.1 x.2.2.2)⟩
theorem rL125_0_1 (x : lsL125_0_1.hd.T) : kRound env (GofL [(166, [gF166]), (167, [gF167]), (172, [gF172]), (125, [gF125r5]), (173, [gF173]), (63, [gF63]), (171, [gF171]), (170, [gF170]), (169, [gF169]), (168, [gF168])]) (LofL [(125, [(0, lsL125_0_1)])]) 125 0 (lpOf Tryz.prog 125 0).2 (lsL125_0_1.hd.st x) lsL125_0_1.rd = lsL125_0_1.B x := by kernel_rfl
theorem eF125r4 (x : gF125r4.a.T) : kF env (GofL [(166, [gF166]), (167, [gF167]), (172, [gF172]), (125, [gF125r5]), (173, [gF173]), (63, [gF63]), (171, [gF171]), (170, [gF170]), (169, [gF169]), (168, [gF168])]) (LofL [(125, [(0, lsL125_0_1)])]) 125 (gF125r4.args x) (gF125r4.bs x) gF125r4.r.dec = gF125r4.F x := by kernel_rfl
theorem sF125r4 : SpecAt env 9 125 gF125r4 := mkSpec (r := 8) (gl := [(166, [gF166]), (167, [gF167]), (172, [gF172]), (125, [gF125r5]), (173, [gF173]), (63, [gF63]), (171, [gF171]), (170, [gF170]), (169, [gF169]), (168, [gF168])]) (L0 := [(0, lsL125_0_1)]) (by kernel_rfl) ⟨⟨sF166.up (by decide), trivial⟩, ⟨sF167.up (by decide), trivial⟩, ⟨sF172.up (by decide), trivial⟩, ⟨sF125r5.up (by decide), trivial⟩, ⟨sF173.up (by decide), trivial⟩, ⟨sF63.up (by decide), trivial⟩, ⟨sF171.up (by decide), trivial⟩, ⟨sF170.up (by decide), trivial⟩, ⟨sF169.up (by decide), trivial⟩, ⟨sF168.up (by decide), trivial⟩, trivial⟩ ⟨⟨0, by kernel_rfl, by kernel_rfl, rL125_0_1⟩, trivial⟩ eF125r4 (fun h => absurd h (by rw [show env.nl 125 = false by kernel_rfl]; decide))
def B125_0_2 (a0 : Tq2) (a1 : Int) (a2 : Int) (a3 : Int) (a4 : Bool) (a5 : Bool) : Option (Tq9 ⊕ Tq2) :=
  sel (iLe (iSub .i64 a2 a1) 12)
    (bndS (F166 a0 a1 a2) fun y50 =>
    some (.inr y50))
    (sel (iEq a3 0)
      (bndS (F167 a0 a1 a2) fun y49 =>
      some (.inr y49))
      (sel (bNot a4)
        (bndS (F168 a0 a1 a2) fun y24 =>
        bndS (F169 y24 a1 a2) fun y25 =>
        sel (iEq y25.2.2 2)
          (bndS (F170 y25.1 a1 a2) fun y37 =>
          sel (bAnd (bAnd a4 a5) true)
            (bndS (F171 y37 a1 a2) fun y43 =>
            sel y43.2
              (some (.inr y43.1))
              (sel (bOr (oIn (iSub .i64 a1 1) (lLen y43.1)) (bNot (iLt 0 a1))) (
              sel (bOr (oIn (iSub .i64 (iSub .i64 a2 1) (iSub .i64 y25.2.1 a1)) (lLen y43.1)) (bNot (iLt 0 a1))) (
              sel (bOr (okS (F63 (lAt y43.1 (iSub .i64 a1 1)) (lAt y43.1 (iSub .i64 (iSub .i64 a2 1) (iSub .i64 y25.2.1 a1))))) (bNot (iLt 0 a1))) (
              letS (valS (F63 (lAt y43.1 (iSub .i64 a1 1)) (lAt y43.1 (iSub .i64 (iSub .i64 a2 1) (iSub .i64 y25.2.1 a1)))) 0) fun y44 =>
              sel (bAnd (iLt 0 a1) (bNot (iLt y44 0)))
                (bndS (F172 y43.1 a1 a2 (iSub .i64 (iSub .i64 a2 1) (iSub .i64 y25.2.1 a1))) fun y48 =>
                some (.inl (y48.1, (y48.2, (a2, ((iSub .i64 a3 1), (a4, a5)))))))
                (bndS (F173 y43.1 a1 a2 (iSub .i64 (iSub .i64 a2 1) (iSub .i64 y25.2.1 a1))) fun y45 =>
                sel (oNz 8) (
                sel (iLt (iSub .i64 y45.2.1 a1) (iSub .i64 a2 y45.2.1))
                  (bndS (F125r4 y45.1 a1 y45.2.1 (iSub .i64 a3 1)) fun y47 =>
                  some (.inl (y47, ((iAdd .i64 y45.2.1 1), (a2, ((iSub .i64 a3 1), ((iLe (iQuo .i64 (iSub .i64 a2 a1) 8) (iSub .i64 y45.2.1 a1)), y45.2.2)))))))
                  (bndS (F125r4 y45.1 (iAdd .i64 y45.2.1 1) a2 (iSub .i64 a3 1)) fun y46 =>
                  some (.inl (y46, (a1, (y45.2.1, ((iSub .i64 a3 1), ((iLe (iQuo .i64 (iSub .i64 a2 a1) 8) (iSub .i64 a2 y45.2.1)), y45.2.2)))))))) none)) none) none) none))
            (sel (bOr (oIn (iSub .i64 a1 1) (lLen y37)) (bNot (iLt 0 a1))) (
            sel (bOr (oIn (iSub .i64 (iSub .i64 a2 1) (iSub .i64 y25.2.1 a1)) (lLen y37)) (bNot (iLt 0 a1))) (
            sel (bOr (okS (F63 (lAt y37 (iSub .i64 a1 1)) (lAt y37 (iSub .i64 (iSub .i64 a2 1) (iSub .i64 y25.2.1 a1))))) (bNot (iLt 0 a1))) (
            letS (valS (F63 (lAt y37 (iSub .i64 a1 1)) (lAt y37 (iSub .i64 (iSub .i64 a2 1) (iSub .i64 y25.2.1 a1)))) 0) fun y38 =>
            sel (bAnd (iLt 0 a1) (bNot (iLt y38 0)))
              (bndS (F172 y37 a1 a2 (iSub .i64 (iSub .i64 a2 1) (iSub .i64 y25.2.1 a1))) fun y42 =>
              some (.inl (y42.1, (y42.2, (a2, ((iSub .i64 a3 1), (a4, a5)))))))
              (bndS (F173 y37 a1 a2 (iSub .i64 (iSub .i64 a2 1) (iSub .i64 y25.2.1 a1))) fun y39 =>
              sel (oNz 8) (
              sel (iLt (iSub .i64 y39.2.1 a1) (iSub .i64 a2 y39.2.1))
                (bndS (F125r4 y39.1 a1 y39.2.1 (iSub .i64 a3 1)) fun y41 =>
                some (.inl (y41, ((iAdd .i64 y39.2.1 1), (a2, ((iSub .i64 a3 1), ((iLe (iQuo .i64 (iSub .i64 a2 a1) 8) (iSub .i64 y39.2.1 a1)), y39.2.2)))))))
                (bndS (F125r4 y39.1 (iAdd .i64 y39.2.1 1) a2 (iSub .i64 a3 1)) fun y40 =>
                some (.inl (y40, (a1, (y39.2.1, ((iSub .i64 a3 1), ((iLe (iQuo .i64 (iSub .i64 a2 a1) 8) (iSub .i64 a2 y39.2.1)), y39.2.2)))))))) none)) none) none) none))
          (sel (bAnd (bAnd a4 a5) (iEq y25.2.2 1))
            (bndS (F171 y25.1 a1 a2) fun y31 =>
            sel y31.2
              (some (.inr y31.1))
              (sel (bOr (oIn (iSub .i64 a1 1) (lLen y31.1)) (bNot (iLt 0 a1))) (
              sel (bOr (oIn y25.2.1 (lLen y31.1)) (bNot (iLt 0 a1))) (
              sel (bOr (okS (F63 (lAt y31.1 (iSub .i64 a1 1)) (lAt y31.1 y25.2.1))) (bNot (iLt 0 a1))) (
              letS (valS (F63 (lAt y31.1 (iSub .i64 a1 1)) (lAt y31.1 y25.2.1)) 0) fun y32 =>
              sel (bAnd (iLt 0 a1) (bNot (iLt y32 0)))
                (bndS (F172 y31.1 a1 a2 y25.2.1) fun y36 =>
                some (.inl (y36.1, (y36.2, (a2, ((iSub .i64 a3 1), (a4, a5)))))))
                (bndS (F173 y31.1 a1 a2 y25.2.1) fun y33 =>
                sel (oNz 8) (
                sel (iLt (iSub .i64 y33.2.1 a1) (iSub .i64 a2 y33.2.1))
                  (bndS (F125r4 y33.1 a1 y33.2.1 (iSub .i64 a3 1)) fun y35 =>
                  some (.inl (y35, ((iAdd .i64 y33.2.1 1), (a2, ((iSub .i64 a3 1), ((iLe (iQuo .i64 (iSub .i64 a2 a1) 8) (iSub .i64 y33.2.1 a1)), y33.2.2)))))))
                  (bndS (F125r4 y33.1 (iAdd .i64 y33.2.1 1) a2 (iSub .i64 a3 1)) fun y34 =>
                  some (.inl (y34, (a1, (y33.2.1, ((iSub .i64 a3 1), ((iLe (iQuo .i64 (iSub .i64 a2 a1) 8) (iSub .i64 a2 y33.2.1)), y33.2.2)))))))) none)) none) none) none))
            (sel (bOr (oIn (iSub .i64 a1 1) (lLen y25.1)) (bNot (iLt 0 a1))) (
            sel (bOr (oIn y25.2.1 (lLen y25.1)) (bNot (iLt 0 a1))) (
            sel (bOr (okS (F63 (lAt y25.1 (iSub .i64 a1 1)) (lAt y25.1 y25.2.1))) (bNot (iLt 0 a1))) (
            letS (valS (F63 (lAt y25.1 (iSub .i64 a1 1)) (lAt y25.1 y25.2.1)) 0) fun y26 =>
            sel (bAnd (iLt 0 a1) (bNot (iLt y26 0)))
              (bndS (F172 y25.1 a1 a2 y25.2.1) fun y30 =>
              some (.inl (y30.1, (y30.2, (a2, ((iSub .i64 a3 1), (a4, a5)))))))
              (bndS (F173 y25.1 a1 a2 y25.2.1) fun y27 =>
              sel (oNz 8) (
              sel (iLt (iSub .i64 y27.2.1 a1) (iSub .i64 a2 y27.2.1))
                (bndS (F125r4 y27.1 a1 y27.2.1 (iSub .i64 a3 1)) fun y29 =>
                some (.inl (y29, ((iAdd .i64 y27.2.1 1), (a2, ((iSub .i64 a3 1), ((iLe (iQuo .i64 (iSub .i64 a2 a1) 8) (iSub .i64 y27.2.1 a1)), y27.2.2)))))))
                (bndS (F125r4 y27.1 (iAdd .i64 y27.2.1 1) a2 (iSub .i64 a3 1)) fun y28 =>
                some (.inl (y28, (a1, (y27.2.1, ((iSub .i64 a3 1), ((iLe (iQuo .i64 (iSub .i64 a2 a1) 8) (iSub .i64 a2 y27.2.1)), y27.2.2)))))))) none)) none) none) none)))
        (bndS (F169 a0 a1 a2) fun y0 =>
        sel (iEq y0.2.2 2)
          (bndS (F170 y0.1 a1 a2) fun y12 =>
          sel (bAnd (bAnd a4 a5) true)
            (bndS (F171 y12 a1 a2) fun y18 =>
            sel y18.2
              (some (.inr y18.1))
              (sel (bOr (oIn (iSub .i64 a1 1) (lLen y18.1)) (bNot (iLt 0 a1))) (
              sel (bOr (oIn (iSub .i64 (iSub .i64 a2 1) (iSub .i64 y0.2.1 a1)) (lLen y18.1)) (bNot (iLt 0 a1))) (
              sel (bOr (okS (F63 (lAt y18.1 (iSub .i64 a1 1)) (lAt y18.1 (iSub .i64 (iSub .i64 a2 1) (iSub .i64 y0.2.1 a1))))) (bNot (iLt 0 a1))) (
              letS (valS (F63 (lAt y18.1 (iSub .i64 a1 1)) (lAt y18.1 (iSub .i64 (iSub .i64 a2 1) (iSub .i64 y0.2.1 a1)))) 0) fun y19 =>
              sel (bAnd (iLt 0 a1) (bNot (iLt y19 0)))
                (bndS (F172 y18.1 a1 a2 (iSub .i64 (iSub .i64 a2 1) (iSub .i64 y0.2.1 a1))) fun y23 =>
                some (.inl (y23.1, (y23.2, (a2, (a3, (a4, a5)))))))
                (bndS (F173 y18.1 a1 a2 (iSub .i64 (iSub .i64 a2 1) (iSub .i64 y0.2.1 a1))) fun y20 =>
                sel (oNz 8) (
                sel (iLt (iSub .i64 y20.2.1 a1) (iSub .i64 a2 y20.2.1))
                  (bndS (F125r4 y20.1 a1 y20.2.1 a3) fun y22 =>
                  some (.inl (y22, ((iAdd .i64 y20.2.1 1), (a2, (a3, ((iLe (iQuo .i64 (iSub .i64 a2 a1) 8) (iSub .i64 y20.2.1 a1)), y20.2.2)))))))
                  (bndS (F125r4 y20.1 (iAdd .i64 y20.2.1 1) a2 a3) fun y21 =>
                  some (.inl (y21, (a1, (y20.2.1, (a3, ((iLe (iQuo .i64 (iSub .i64 a2 a1) 8) (iSub .i64 a2 y20.2.1)), y20.2.2)))))))) none)) none) none) none))
            (sel (bOr (oIn (iSub .i64 a1 1) (lLen y12)) (bNot (iLt 0 a1))) (
            sel (bOr (oIn (iSub .i64 (iSub .i64 a2 1) (iSub .i64 y0.2.1 a1)) (lLen y12)) (bNot (iLt 0 a1))) (
            sel (bOr (okS (F63 (lAt y12 (iSub .i64 a1 1)) (lAt y12 (iSub .i64 (iSub .i64 a2 1) (iSub .i64 y0.2.1 a1))))) (bNot (iLt 0 a1))) (
            letS (valS (F63 (lAt y12 (iSub .i64 a1 1)) (lAt y12 (iSub .i64 (iSub .i64 a2 1) (iSub .i64 y0.2.1 a1)))) 0) fun y13 =>
            sel (bAnd (iLt 0 a1) (bNot (iLt y13 0)))
              (bndS (F172 y12 a1 a2 (iSub .i64 (iSub .i64 a2 1) (iSub .i64 y0.2.1 a1))) fun y17 =>
              some (.inl (y17.1, (y17.2, (a2, (a3, (a4, a5)))))))
              (bndS (F173 y12 a1 a2 (iSub .i64 (iSub .i64 a2 1) (iSub .i64 y0.2.1 a1))) fun y14 =>
              sel (oNz 8) (
              sel (iLt (iSub .i64 y14.2.1 a1) (iSub .i64 a2 y14.2.1))
                (bndS (F125r4 y14.1 a1 y14.2.1 a3) fun y16 =>
                some (.inl (y16, ((iAdd .i64 y14.2.1 1), (a2, (a3, ((iLe (iQuo .i64 (iSub .i64 a2 a1) 8) (iSub .i64 y14.2.1 a1)), y14.2.2)))))))
                (bndS (F125r4 y14.1 (iAdd .i64 y14.2.1 1) a2 a3) fun y15 =>
                some (.inl (y15, (a1, (y14.2.1, (a3, ((iLe (iQuo .i64 (iSub .i64 a2 a1) 8) (iSub .i64 a2 y14.2.1)), y14.2.2)))))))) none)) none) none) none))
          (sel (bAnd (bAnd a4 a5) (iEq y0.2.2 1))
            (bndS (F171 y0.1 a1 a2) fun y6 =>
            sel y6.2
              (some (.inr y6.1))
              (sel (bOr (oIn (iSub .i64 a1 1) (lLen y6.1)) (bNot (iLt 0 a1))) (
              sel (bOr (oIn y0.2.1 (lLen y6.1)) (bNot (iLt 0 a1))) (
              sel (bOr (okS (F63 (lAt y6.1 (iSub .i64 a1 1)) (lAt y6.1 y0.2.1))) (bNot (iLt 0 a1))) (
              letS (valS (F63 (lAt y6.1 (iSub .i64 a1 1)) (lAt y6.1 y0.2.1)) 0) fun y7 =>
              sel (bAnd (iLt 0 a1) (bNot (iLt y7 0)))
                (bndS (F172 y6.1 a1 a2 y0.2.1) fun y11 =>
                some (.inl (y11.1, (y11.2, (a2, (a3, (a4, a5)))))))
                (bndS (F173 y6.1 a1 a2 y0.2.1) fun y8 =>
                sel (oNz 8) (
                sel (iLt (iSub .i64 y8.2.1 a1) (iSub .i64 a2 y8.2.1))
                  (bndS (F125r4 y8.1 a1 y8.2.1 a3) fun y10 =>
                  some (.inl (y10, ((iAdd .i64 y8.2.1 1), (a2, (a3, ((iLe (iQuo .i64 (iSub .i64 a2 a1) 8) (iSub .i64 y8.2.1 a1)), y8.2.2)))))))
                  (bndS (F125r4 y8.1 (iAdd .i64 y8.2.1 1) a2 a3) fun y9 =>
                  some (.inl (y9, (a1, (y8.2.1, (a3, ((iLe (iQuo .i64 (iSub .i64 a2 a1) 8) (iSub .i64 a2 y8.2.1)), y8.2.2)))))))) none)) none) none) none))
            (sel (bOr (oIn (iSub .i64 a1 1) (lLen y0.1)) (bNot (iLt 0 a1))) (
            sel (bOr (oIn y0.2.1 (lLen y0.1)) (bNot (iLt 0 a1))) (
            sel (bOr (okS (F63 (lAt y0.1 (iSub .i64 a1 1)) (lAt y0.1 y0.2.1))) (bNot (iLt 0 a1))) (
            letS (valS (F63 (lAt y0.1 (iSub .i64 a1 1)) (lAt y0.1 y0.2.1)) 0) fun y1 =>
            sel (bAnd (iLt 0 a1) (bNot (iLt y1 0)))
              (bndS (F172 y0.1 a1 a2 y0.2.1) fun y5 =>
              some (.inl (y5.1, (y5.2, (a2, (a3, (a4, a5)))))))
              (bndS (F173 y0.1 a1 a2 y0.2.1) fun y2 =>
              sel (oNz 8) (
              sel (iLt (iSub .i64 y2.2.1 a1) (iSub .i64 a2 y2.2.1))
                (bndS (F125r4 y2.1 a1 y2.2.1 a3) fun y4 =>
                some (.inl (y4, ((iAdd .i64 y2.2.1 1), (a2, (a3, ((iLe (iQuo .i64 (iSub .i64 a2 a1) 8) (iSub .i64 y2.2.1 a1)), y2.2.2)))))))
                (bndS (F125r4 y2.1 (iAdd .i64 y2.2.1 1) a2 a3) fun y3 =>
                some (.inl (y3, (a1, (y2.2.1, (a3, ((iLe (iQuo .i64 (iSub .i64 a2 a1) 8) (iSub .i64 a2 y2.2.1)), y2.2.2)))))))) none)) none) none) none)))))
def L125_0_2 (x : Tq9) : Option Tq2 := iter (fun (x : Tq9) => (B125_0_2 x.1 x.2.1 x.2.2.1 x.2.2.2.1 x.2.2.2.2.1 x.2.2.2.2.2)) fuel x
def lsL125_0_2 : LS := ⟨(.one .normal ⟨(.own 0 Yq3), [0, 1, 2, 3, 4, 10, 11], (.seq (.alo 0) (.seq (.dat (.int .i64)) (.seq (.dat (.int .i64)) (.seq (.dat (.int .i64)) (.seq (.fn 63 .non) (.seq (.dat .bool) (.dat .bool))))))), 1, 148, 1⟩), (.one .ret ⟨(.own 0 Yq3), [], .non, 1, 148, 1⟩), fun (x : Tq9) => (B125_0_2 x.1 x.2.1 x.2.2.1 x.2.2.2.1 x.2.2.2.2.1 x.2.2.2.2.2)⟩
def F125r3 (a0 : Tq2) (a1 : Int) (a2 : Int) (a3 : Int) : Option Tq2 :=
  bndS (L125_0_2 (a0, (a1, (a2, (a3, (true, true)))))) fun y0 =>
  some y0
def gF125r3 : FS := ⟨(.seq (.own 0 Yq3) (.seq (.dat (.int .i64)) (.seq (.dat (.int .i64)) (.seq (.dat (.int .i64)) (.fn 63 .non))))), 1, (.one ⟨(.own 0 Yq3), (.tup .non), 1, 0⟩), fun x => (F125r3 x.1 x.2.1 x.2.2.1 x.2.2.2)⟩
theorem rL125_0_2 (x : lsL125_0_2.hd.T) : kRound env (GofL [(166, [gF166]), (167, [gF167]), (172, [gF172]), (125, [gF125r4]), (173, [gF173]), (63, [gF63]), (171, [gF171]), (170, [gF170]), (169, [gF169]), (168, [gF168])]) (LofL [(125, [(0, lsL125_0_2)])]) 125 0 (lpOf Tryz.prog 125 0).2 (lsL125_0_2.hd.st x) lsL125_0_2.rd = lsL125_0_2.B x := by kernel_rfl
theorem eF125r3 (x : gF125r3.a.T) : kF env (GofL [(166, [gF166]), (167, [gF167]), (172, [gF172]), (125, [gF125r4]), (173, [gF173]), (63, [gF63]), (171, [gF171]), (170, [gF170]), (169, [gF169]), (168, [gF168])]) (LofL [(125, [(0, lsL125_0_2)])]) 125 (gF125r3.args x) (gF125r3.bs x) gF125r3.r.dec = gF125r3.F x := by kernel_rfl
theorem sF125r3 : SpecAt env 10 125 gF125r3 := mkSpec (r := 9) (gl := [(166, [gF166]), (167, [gF167]), (172, [gF172]), (125, [gF125r4]), (173, [gF173]), (63, [gF63]), (171, [gF171]), (170, [gF170]), (169, [gF169]), (168, [gF168])]) (L0 := [(0, lsL125_0_2)]) (by kernel_rfl) ⟨⟨sF166.up (by decide), trivial⟩, ⟨sF167.up (by decide), trivial⟩, ⟨sF172.up (by decide), trivial⟩, ⟨sF125r4.up (by decide), trivial⟩, ⟨sF173.up (by decide), trivial⟩, ⟨sF63.up (by decide), trivial⟩, ⟨sF171.up (by decide), trivial⟩, ⟨sF170.up (by decide), trivial⟩, ⟨sF169.up (by decide), trivial⟩, ⟨sF168.up (by decide), trivial⟩, trivial⟩ ⟨⟨0, by kernel_rfl, by kernel_rfl, rL125_0_2⟩, trivial⟩ eF125r3 (fun h => absurd h (by rw [show env.nl 125 = false by kernel_rfl]; decide))
end
end Go.Proofs.YtiddpfhpmodfbaaGreatDoor.K
end
