/- A part of the proof: texts of the author, joined. -/
import Derived.Test.YtiddpfhpmodfbaaGreatDoorKS2
section
set_option linter.unusedVariables false
set_option linter.unusedSimpArgs false
set_option linter.unnecessarySimpa false
open Go Go.Ev Go.Proofs
namespace Go.Proofs.YtiddpfhpmodfbaaGreatDoor.K
set_option linter.unusedVariables false
set_option maxRecDepth 100000
noncomputable section
/-- midrangebase.Digits -/
def F152r4 (a0 : Int) : Option ByteArray :=
  sel (iLt a0 (-9))
    (sel (oNz 10) (
    none) none)
    (sel (iLt a0 0)
      (none)
      (sel (iLt a0 10)
        (some (sOf [(iCv .u8 (iAdd .i64 48 a0))]))
        (sel (oNz 10) (
        none) none)))
/-- midrangebase.Digits -/
def F152r3 (a0 : Int) : Option ByteArray :=
  sel (iLt a0 (-9))
    (sel (oNz 10) (
    bndS (F152r4 (iNeg .i64 (iQuo .i64 a0 10))) fun y2 =>
    sel (sOk (bs [45]) y2) (
    sel (oNz 10) (
    bndS (F152r4 (iNeg .i64 (iRem a0 10))) fun y3 =>
    sel (sOk (sAdd (bs [45]) y2) y3) (
    some (sAdd (sAdd (bs [45]) y2) y3)) none) none) none) none)
    (sel (iLt a0 0)
      (bndS (F152r4 (iNeg .i64 a0)) fun y1 =>
      sel (sOk (bs [45]) y1) (
      some (sAdd (bs [45]) y1)) none)
      (sel (iLt a0 10)
        (some (sOf [(iCv .u8 (iAdd .i64 48 a0))]))
        (sel (oNz 10) (
        bndS (F152r4 (iQuo .i64 a0 10)) fun y0 =>
        sel (oNz 10) (
        sel (sOk y0 (sOf [(iCv .u8 (iAdd .i64 48 (iRem a0 10)))])) (
        some (sAdd y0 (sOf [(iCv .u8 (iAdd .i64 48 (iRem a0 10)))]))) none) none) none)))
/-- midrangebase.Digits -/
def F152r2 (a0 : Int) : Option ByteArray :=
  sel (iLt a0 (-9))
    (sel (oNz 10) (
    bndS (F152r3 (iNeg .i64 (iQuo .i64 a0 10))) fun y2 =>
    sel (sOk (bs [45]) y2) (
    sel (oNz 10) (
    bndS (F152r3 (iNeg .i64 (iRem a0 10))) fun y3 =>
    sel (sOk (sAdd (bs [45]) y2) y3) (
    some (sAdd (sAdd (bs [45]) y2) y3)) none) none) none) none)
    (sel (iLt a0 0)
      (bndS (F152r3 (iNeg .i64 a0)) fun y1 =>
      sel (sOk (bs [45]) y1) (
      some (sAdd (bs [45]) y1)) none)
      (sel (iLt a0 10)
        (some (sOf [(iCv .u8 (iAdd .i64 48 a0))]))
        (sel (oNz 10) (
        bndS (F152r3 (iQuo .i64 a0 10)) fun y0 =>
        sel (oNz 10) (
        sel (sOk y0 (sOf [(iCv .u8 (iAdd .i64 48 (iRem a0 10)))])) (
        some (sAdd y0 (sOf [(iCv .u8 (iAdd .i64 48 (iRem a0 10)))]))) none) none) none)))
/-- midrangebase.Digits -/
def F152r1 (a0 : Int) : Option ByteArray :=
  sel (iLt a0 (-9))
    (sel (oNz 10) (
    bndS (F152r2 (iNeg .i64 (iQuo .i64 a0 10))) fun y2 =>
    sel (sOk (bs [45]) y2) (
    sel (oNz 10) (
    bndS (F152r2 (iNeg .i64 (iRem a0 10))) fun y3 =>
    sel (sOk (sAdd (bs [45]) y2) y3) (
    some (sAdd (sAdd (bs [45]) y2) y3)) none) none) none) none)
    (sel (iLt a0 0)
      (bndS (F152r2 (iNeg .i64 a0)) fun y1 =>
      sel (sOk (bs [45]) y1) (
      some (sAdd (bs [45]) y1)) none)
      (sel (iLt a0 10)
        (some (sOf [(iCv .u8 (iAdd .i64 48 a0))]))
        (sel (oNz 10) (
        bndS (F152r2 (iQuo .i64 a0 10)) fun y0 =>
        sel (oNz 10) (
        sel (sOk y0 (sOf [(iCv .u8 (iAdd .i64 48 (iRem a0 10)))])) (
        some (sAdd y0 (sOf [(iCv .u8 (iAdd .i64 48 (iRem a0 10)))]))) none) none) none)))
/-- midrangebase.Digits -/
def F152 (a0 : Int) : Option ByteArray :=
  sel (iLt a0 (-9))
    (sel (oNz 10) (
    bndS (F152r1 (iNeg .i64 (iQuo .i64 a0 10))) fun y2 =>
    sel (sOk (bs [45]) y2) (
    sel (oNz 10) (
    bndS (F152r1 (iNeg .i64 (iRem a0 10))) fun y3 =>
    sel (sOk (sAdd (bs [45]) y2) y3) (
    some (sAdd (sAdd (bs [45]) y2) y3)) none) none) none) none)
    (sel (iLt a0 0)
      (bndS (F152r1 (iNeg .i64 a0)) fun y1 =>
      sel (sOk (bs [45]) y1) (
      some (sAdd (bs [45]) y1)) none)
      (sel (iLt a0 10)
        (some (sOf [(iCv .u8 (iAdd .i64 48 a0))]))
        (sel (oNz 10) (
        bndS (F152r1 (iQuo .i64 a0 10)) fun y0 =>
        sel (oNz 10) (
        sel (sOk y0 (sOf [(iCv .u8 (iAdd .i64 48 (iRem a0 10)))])) (
        some (sAdd y0 (sOf [(iCv .u8 (iAdd .i64 48 (iRem a0 10)))]))) none) none) none)))
def B100_0 (a0 : Tq5) (a1 : Int) (a2 : (List Tq1)) (a3 : Tq3) (a4 : ByteArray) (a5 : ByteArray) (a6 : Int) (a7 : ByteArray) (a8 : ByteArray) (a9 : Int) (a10 : ByteArray) (a11 : Int) : Option ((Tq0 × (Tq7 × (Tq7 × Tq26))) ⊕ (Tq7 × Tq7)) :=
  bndS (F45 ((a0, a1), (a2, a3)) (a4, (a5, a6))) fun y0 =>
  sel (bNot (iEq y0 (-1)))
    (bndS (F152 (iAdd .i64 1000 a11)) fun y1 =>
    sel (oCut 0 (sel (iLt 7 (sLen a10)) 7 (sLen a10)) (sLen a10)) (
    sel (oCut 1 (sLen y1) (sLen y1)) (
    sel (sOk (sCut a10 0 (sel (iLt 7 (sLen a10)) 7 (sLen a10))) (sCut y1 1 (sLen y1))) (
    some (.inl ((a0, (a1, (a2, a3))), ((a4, ((sAdd (sCut a10 0 (sel (iLt 7 (sLen a10)) 7 (sLen a10))) (sCut y1 1 (sLen y1))), a6)), ((a7, (a8, a9)), (a10, (iAdd .i64 a11 1))))))) none) none) none)
    (some (.inr ((a4, (a5, a6)), (a7, (a8, a9)))))
def L100_0 (x : (Tq0 × (Tq7 × (Tq7 × Tq26)))) : Option (Tq7 × Tq7) := iter (fun (x : (Tq0 × (Tq7 × (Tq7 × Tq26)))) => (B100_0 x.1.1 x.1.2.1 x.1.2.2.1 x.1.2.2.2 x.2.1.1 x.2.1.2.1 x.2.1.2.2 x.2.2.1.1 x.2.2.1.2.1 x.2.2.1.2.2 x.2.2.2.1 x.2.2.2.2)) fuel x
/-- midrangeref11.free -/
def F100 (a0 : Tq11) (a1 : Tq7) : Option Tq7 :=
  bndS (L100_0 ((a0.1.1, (a0.1.2, a0.2)), (((bs [81, 82, 67, 76]), a1.2), (((bs []), ((bs []), 0)), (a1.2.1, 1))))) fun y0 =>
  some y0.1
end
end Go.Proofs.YtiddpfhpmodfbaaGreatDoor.K
end

section
set_option linter.unusedVariables false
set_option linter.unusedSimpArgs false
set_option linter.unnecessarySimpa false
open Go Go.Ev Go.Proofs
namespace Go.Proofs.YtiddpfhpmodfbaaGreatDoor.K
set_option linter.unusedVariables false
set_option maxRecDepth 100000
noncomputable section
end
end Go.Proofs.YtiddpfhpmodfbaaGreatDoor.K
end

section
set_option linter.unusedVariables false
set_option linter.unusedSimpArgs false
set_option linter.unnecessarySimpa false
open Go Go.Ev Go.Proofs
namespace Go.Proofs.YtiddpfhpmodfbaaGreatDoor.K
set_option linter.unusedVariables false
set_option maxRecDepth 100000
noncomputable section
/-- midrangeref05.WithPage -/
def F73 (a0 : (Tq5 × Int)) (a1 : (Int × (Bool × (Bool × (Int × (Int × (ByteArray × (Int × Int)))))))) : Option (Tq5 × Int) :=
  bndS (F64 a0) fun y0 =>
  bndS (F28 a0 a1.2.2.2.1) fun y1 =>
  sel (oIn y1 (lLen a0.1)) (
  bndS (F127 (lAt a0.1 y1).2 (iMul .i64 a1.2.2.2.2.1 32) a1.2.2.2.2.2.1) fun y2 =>
  sel (oIn y1 (lLen y0.1)) (
  some ((lSet y0.1 y1 ((lAt y0.1 y1).1, y2)), y0.2)) none) none
def gF73 : FS := ⟨(.seq (.agg (.dat Yq21)) (.agg (.dat (.pr (.int .i64) (.pr .bool (.pr .bool (.pr (.int .i64) (.pr (.int .i64) (.pr .str Yq2))))))))), 0, (.one ⟨.non, (.agg (.seq (.own 0 Yq8) (.dat (.int .i64)))), 0, 1⟩), fun x => (F73 x.1 x.2)⟩
theorem eF73 (x : gF73.a.T) : kF env (GofL [(127, [gF127]), (28, [gF28]), (64, [gF64])]) (LofL [(73, [])]) 73 (gF73.args x) (gF73.bs x) gF73.r.dec = gF73.F x := by kernel_rfl
theorem sF73 : SpecAt env 2 73 gF73 := mkSpec (r := 1) (gl := [(127, [gF127]), (28, [gF28]), (64, [gF64])]) (L0 := []) (by kernel_rfl) ⟨⟨sF127.up (by decide), trivial⟩, ⟨sF28.up (by decide), trivial⟩, ⟨sF64.up (by decide), trivial⟩, trivial⟩ trivial eF73 (fun h => absurd h (by rw [show env.nl 73 = false by kernel_rfl]; decide))
def B24_0 (a0 : Tq3) (a1 : Tq5) (a2 : Int) (a3 : (List Tq1)) (a4 : Tq3) (a5 : Int) (a6 : Int) (a7 : Int) (a8 : Tq5) (a9 : Int) (a10 : (List Tq1)) (a11 : Tq3) (a12 : Int) : Option (Tq18 ⊕ ((Tq3 × (Tq0 × (Tq6 × Tq0))) ⊕ Tq6)) :=
  sel (iLt a12 (lLen a0))
    (sel (oIn a12 (lLen a0)) (
    sel (oIn a12 (lLen a0)) (
    bndS (F67 (a1, a2) (lAt a0 a12).1 (lAt a0 a12).2) fun y0 =>
    sel (bNot y0)
      (some (.inr (.inr (0, (0, 11)))))
      (sel (oIn a12 (lLen a0)) (
      sel (oIn a12 (lLen a0)) (
      bndS (F74 32) fun y1 =>
      bndS (F73 (a8, a9) (0, (false, (false, ((lAt a0 a12).1, ((lAt a0 a12).2, (y1, (0, 0)))))))) fun y2 =>
      some (.inl (a0, ((a1, (a2, (a3, a4))), ((a5, (a6, a7)), ((y2.1, (y2.2, (a10, a11))), (iAdd .i64 a12 1))))))) none) none)) none) none)
    (some (.inr (.inl (a0, ((a1, (a2, (a3, a4))), ((a5, (a6, a7)), (a8, (a9, (a10, a11)))))))))
def L24_0 (x : Tq18) : Option ((Tq3 × (Tq0 × (Tq6 × Tq0))) ⊕ Tq6) := iter (fun (x : Tq18) => (B24_0 x.1 x.2.1.1 x.2.1.2.1 x.2.1.2.2.1 x.2.1.2.2.2 x.2.2.1.1 x.2.2.1.2.1 x.2.2.1.2.2 x.2.2.2.1.1 x.2.2.2.1.2.1 x.2.2.2.1.2.2.1 x.2.2.2.1.2.2.2 x.2.2.2.2)) fuel x
def lsL24_0 : LS := ⟨(.one .normal ⟨.non, [1, 2, 4, 6, 7], (.seq (.dat (.sl Yq2)) (.seq (.box 0 (.seq (.dat (.sl Yq8)) (.seq (.dat (.int .i64)) (.seq (.dat (.sl Yq4)) (.dat (.sl Yq2)))))) (.seq (.box 1 (.seq (.lit (.slice none 0 0)) (.seq (.dat (.int .i64)) (.seq (.lit (.slice none 0 0)) (.seq (.lit (.slice none 0 0)) (.seq (.lit (.slice none 0 0)) (.seq (.dat (.int .i64)) (.dat (.int .i64))))))))) (.seq (.box 2 (.seq (.own 3 Yq8) (.seq (.dat (.int .i64)) (.seq (.own 4 Yq4) (.own 5 Yq2))))) (.dat (.int .i64)))))), 6, 104, 0⟩), (.two (.one (.exit 0) ⟨.non, [1, 2, 4, 6], (.seq (.dat (.sl Yq2)) (.seq (.box 0 (.seq (.dat (.sl Yq8)) (.seq (.dat (.int .i64)) (.seq (.dat (.sl Yq4)) (.dat (.sl Yq2)))))) (.seq (.box 1 (.seq (.lit (.slice none 0 0)) (.seq (.dat (.int .i64)) (.seq (.lit (.slice none 0 0)) (.seq (.lit (.slice none 0 0)) (.seq (.lit (.slice none 0 0)) (.seq (.dat (.int .i64)) (.dat (.int .i64))))))))) (.box 2 (.seq (.own 3 Yq8) (.seq (.dat (.int .i64)) (.seq (.own 4 Yq4) (.own 5 Yq2)))))))), 6, 104, 0⟩) (.one .ret ⟨.non, [4], (.box 0 (.seq (.lit (.slice none 0 0)) (.seq (.dat (.int .i64)) (.seq (.lit (.slice none 0 0)) (.seq (.lit (.slice none 0 0)) (.seq (.lit (.slice none 0 0)) (.seq (.dat (.int .i64)) (.dat (.int .i64))))))))), 1, 104, 0⟩)), fun (x : Tq18) => (B24_0 x.1 x.2.1.1 x.2.1.2.1 x.2.1.2.2.1 x.2.1.2.2.2 x.2.2.1.1 x.2.2.1.2.1 x.2.2.1.2.2 x.2.2.2.1.1 x.2.2.2.1.2.1 x.2.2.2.1.2.2.1 x.2.2.2.1.2.2.2 x.2.2.2.2)⟩
def B76_0 (a0 : Tq3) (a1 : Int) (a2 : Int) (a3 : Int) : Option ((Tq3 × ((Int × Int) × Int)) ⊕ (Unit ⊕ Bool)) :=
  sel (iLt a3 (lLen a0))
    (sel (oIn a3 (lLen a0)) (
    sel (bAnd (iEq (lAt a0 a3).1 a1) (iEq (lAt a0 a3).2 a2))
      (some (.inr (.inr true)))
      (some (.inl (a0, ((a1, a2), (iAdd .i64 a3 1)))))) none)
    (some (.inr (.inl ())))
def L76_0 (x : (Tq3 × ((Int × Int) × Int))) : Option (Unit ⊕ Bool) := iter (fun (x : (Tq3 × ((Int × Int) × Int))) => (B76_0 x.1 x.2.1.1 x.2.1.2 x.2.2)) fuel x
def lsL76_0 : LS := ⟨(.one .normal ⟨.non, [0, 3, 5], (.seq (.dat (.sl Yq2)) (.seq (.box 0 (.seq (.dat (.int .i64)) (.dat (.int .i64)))) (.dat (.int .i64)))), 1, 18, 0⟩), (.two (.one (.exit 0) ⟨.non, [], .non, 0, 18, 0⟩) (.one .ret ⟨.non, [4], (.dat .bool), 0, 18, 0⟩)), fun (x : (Tq3 × ((Int × Int) × Int))) => (B76_0 x.1 x.2.1.1 x.2.1.2 x.2.2)⟩
/-- midrangeref11.has -/
def F76 (a0 : Tq3) (a1 : (Int × Int)) : Option Bool :=
  bndS (L76_0 (a0, (a1, 0))) fun y0 =>
  sumS y0 (fun y0a =>
    some false) fun y0b =>
    some y0b
def gF76 : FS := ⟨(.seq (.dat (.sl Yq2)) (.agg (.dat Yq2))), 0, (.one ⟨.non, (.dat .bool), 0, 0⟩), fun x => (F76 x.1 x.2)⟩
theorem rL76_0 (x : lsL76_0.hd.T) : kRound env (GofL []) (LofL [(76, [(0, lsL76_0)])]) 76 0 (lpOf Tryz.prog 76 0).2 (lsL76_0.hd.st x) lsL76_0.rd = lsL76_0.B x := by kernel_rfl
theorem eF76 (x : gF76.a.T) : kF env (GofL []) (LofL [(76, [(0, lsL76_0)])]) 76 (gF76.args x) (gF76.bs x) gF76.r.dec = gF76.F x := by kernel_rfl
theorem sF76 : SpecAt env 1 76 gF76 := mkSpec (r := 0) (gl := []) (L0 := [(0, lsL76_0)]) (by kernel_rfl) trivial ⟨⟨0, by kernel_rfl, by kernel_rfl, rL76_0⟩, trivial⟩ eF76 (fun h => absurd h (by rw [show env.nl 76 = false by kernel_rfl]; decide))
end
end Go.Proofs.YtiddpfhpmodfbaaGreatDoor.K
end

section
set_option linter.unusedVariables false
set_option linter.unusedSimpArgs false
set_option linter.unnecessarySimpa false
open Go Go.Ev Go.Proofs
namespace Go.Proofs.YtiddpfhpmodfbaaGreatDoor.K
set_option linter.unusedVariables false
set_option maxRecDepth 100000
noncomputable section
def B24_4h0 (a0 : Tq3) (a1 : Tq5) (a2 : Int) (a3 : (List Tq1)) (a4 : Tq3) (a5 : Int) (a6 : Int) (a7 : Int) (a8 : Tq5) (a9 : Int) (a10 : (List Tq1)) (a11 : Int) (a12 : Int) (a13 : ByteArray) (a14 : Int) : Option ((Tq23 ⊕ (Tq3 × (Tq0 × (Tq6 × (Tq0 × (Int × (Tq13 × Int))))))) ⊕ (Tq17 ⊕ Tq18)) :=
  bndS (F75 a13) fun y0 =>
  sel (iLt a14 y0)
    (bndS (F76 a4 (a12, a14)) fun y1 =>
    sel (bOr (okS (F76 a0 (a12, a14))) (bNot (bNot y1))) (
    letS (valS (F76 a0 (a12, a14)) false) fun y2 =>
    sel (bOr y1 y2)
      (sel (lCap 16 [(a12, a14)]) (
      some (.inl (.inr (a0, ((a1, (a2, (a3, a4))), ((a5, (a6, a7)), ((a8, (a9, (a10, [(a12, a14)]))), (a11, ((a12, a13), (iAdd .i64 a14 1)))))))))) none)
      (some (.inl (.inl (a0, ((a1, (a2, (a3, a4))), ((a5, (a6, a7)), ((a8, (a9, a10)), (a11, ((a12, a13), (iAdd .i64 a14 1))))))))))) none)
    (some (.inr (.inl (a0, ((a1, (a2, (a3, a4))), ((a5, (a6, a7)), ((a8, (a9, a10)), a11)))))))
def B24_4h1 (a0 : Tq3) (a1 : Tq5) (a2 : Int) (a3 : (List Tq1)) (a4 : Tq3) (a5 : Int) (a6 : Int) (a7 : Int) (a8 : Tq5) (a9 : Int) (a10 : (List Tq1)) (a11 : Tq3) (a12 : Int) (a13 : Int) (a14 : ByteArray) (a15 : Int) : Option ((Tq23 ⊕ (Tq3 × (Tq0 × (Tq6 × (Tq0 × (Int × (Tq13 × Int))))))) ⊕ (Tq17 ⊕ Tq18)) :=
  bndS (F75 a14) fun y0 =>
  sel (iLt a15 y0)
    (bndS (F76 a4 (a13, a15)) fun y1 =>
    sel (bOr (okS (F76 a0 (a13, a15))) (bNot (bNot y1))) (
    letS (valS (F76 a0 (a13, a15)) false) fun y2 =>
    sel (bOr y1 y2)
      (sel (lCap 16 (lApp a11 [(a13, a15)])) (
      some (.inl (.inr (a0, ((a1, (a2, (a3, a4))), ((a5, (a6, a7)), ((a8, (a9, (a10, (lApp a11 [(a13, a15)])))), (a12, ((a13, a14), (iAdd .i64 a15 1)))))))))) none)
      (some (.inl (.inr (a0, ((a1, (a2, (a3, a4))), ((a5, (a6, a7)), ((a8, (a9, (a10, a11))), (a12, ((a13, a14), (iAdd .i64 a15 1))))))))))) none)
    (some (.inr (.inr (a0, ((a1, (a2, (a3, a4))), ((a5, (a6, a7)), ((a8, (a9, (a10, a11))), a12)))))))
def L24_4 (x : (Tq23 ⊕ (Tq3 × (Tq0 × (Tq6 × (Tq0 × (Int × (Tq13 × Int)))))))) : Option (Tq17 ⊕ Tq18) := iter (fun (x : (Tq23 ⊕ (Tq3 × (Tq0 × (Tq6 × (Tq0 × (Int × (Tq13 × Int)))))))) => (sumS x (fun x => (B24_4h0 x.1 x.2.1.1 x.2.1.2.1 x.2.1.2.2.1 x.2.1.2.2.2 x.2.2.1.1 x.2.2.1.2.1 x.2.2.1.2.2 x.2.2.2.1.1 x.2.2.2.1.2.1 x.2.2.2.1.2.2 x.2.2.2.2.1 x.2.2.2.2.2.1.1 x.2.2.2.2.2.1.2 x.2.2.2.2.2.2)) fun x => (B24_4h1 x.1 x.2.1.1 x.2.1.2.1 x.2.1.2.2.1 x.2.1.2.2.2 x.2.2.1.1 x.2.2.1.2.1 x.2.2.1.2.2 x.2.2.2.1.1 x.2.2.2.1.2.1 x.2.2.2.1.2.2.1 x.2.2.2.1.2.2.2 x.2.2.2.2.1 x.2.2.2.2.2.1.1 x.2.2.2.2.2.1.2 x.2.2.2.2.2.2))) fuel x
def lsL24_4 : LS := ⟨(.two (.one .normal ⟨.non, [1, 2, 4, 6, 8, 9, 10], (.seq (.dat (.sl Yq2)) (.seq (.box 0 (.seq (.dat (.sl Yq8)) (.seq (.dat (.int .i64)) (.seq (.dat (.sl Yq4)) (.dat (.sl Yq2)))))) (.seq (.box 1 (.seq (.lit (.slice none 0 0)) (.seq (.dat (.int .i64)) (.seq (.lit (.slice none 0 0)) (.seq (.lit (.slice none 0 0)) (.seq (.lit (.slice none 0 0)) (.seq (.dat (.int .i64)) (.dat (.int .i64))))))))) (.seq (.box 2 (.seq (.own 3 Yq8) (.seq (.dat (.int .i64)) (.seq (.own 4 Yq4) (.lit (.slice none 0 0)))))) (.seq (.dat (.int .i64)) (.seq (.box 5 (.seq (.dat (.int .i64)) (.dat .str))) (.dat (.int .i64)))))))), 6, 104, 0⟩) (.one .normal ⟨.non, [1, 2, 4, 6, 8, 9, 10], (.seq (.dat (.sl Yq2)) (.seq (.box 0 (.seq (.dat (.sl Yq8)) (.seq (.dat (.int .i64)) (.seq (.dat (.sl Yq4)) (.dat (.sl Yq2)))))) (.seq (.box 1 (.seq (.lit (.slice none 0 0)) (.seq (.dat (.int .i64)) (.seq (.lit (.slice none 0 0)) (.seq (.lit (.slice none 0 0)) (.seq (.lit (.slice none 0 0)) (.seq (.dat (.int .i64)) (.dat (.int .i64))))))))) (.seq (.box 2 (.seq (.own 3 Yq8) (.seq (.dat (.int .i64)) (.seq (.own 4 Yq4) (.own 5 Yq2))))) (.seq (.dat (.int .i64)) (.seq (.box 6 (.seq (.dat (.int .i64)) (.dat .str))) (.dat (.int .i64)))))))), 7, 104, 0⟩)), (.two (.one (.exit 4) ⟨.non, [1, 2, 4, 6, 8], (.seq (.dat (.sl Yq2)) (.seq (.box 0 (.seq (.dat (.sl Yq8)) (.seq (.dat (.int .i64)) (.seq (.dat (.sl Yq4)) (.dat (.sl Yq2)))))) (.seq (.box 1 (.seq (.lit (.slice none 0 0)) (.seq (.dat (.int .i64)) (.seq (.lit (.slice none 0 0)) (.seq (.lit (.slice none 0 0)) (.seq (.lit (.slice none 0 0)) (.seq (.dat (.int .i64)) (.dat (.int .i64))))))))) (.seq (.box 2 (.seq (.own 3 Yq8) (.seq (.dat (.int .i64)) (.seq (.own 4 Yq4) (.lit (.slice none 0 0)))))) (.dat (.int .i64)))))), 5, 104, 0⟩) (.one (.exit 4) ⟨.non, [1, 2, 4, 6, 8], (.seq (.dat (.sl Yq2)) (.seq (.box 0 (.seq (.dat (.sl Yq8)) (.seq (.dat (.int .i64)) (.seq (.dat (.sl Yq4)) (.dat (.sl Yq2)))))) (.seq (.box 1 (.seq (.lit (.slice none 0 0)) (.seq (.dat (.int .i64)) (.seq (.lit (.slice none 0 0)) (.seq (.lit (.slice none 0 0)) (.seq (.lit (.slice none 0 0)) (.seq (.dat (.int .i64)) (.dat (.int .i64))))))))) (.seq (.box 2 (.seq (.own 3 Yq8) (.seq (.dat (.int .i64)) (.seq (.own 4 Yq4) (.own 5 Yq2))))) (.dat (.int .i64)))))), 6, 104, 0⟩)), fun (x : (Tq23 ⊕ (Tq3 × (Tq0 × (Tq6 × (Tq0 × (Int × (Tq13 × Int)))))))) => (sumS x (fun x => (B24_4h0 x.1 x.2.1.1 x.2.1.2.1 x.2.1.2.2.1 x.2.1.2.2.2 x.2.2.1.1 x.2.2.1.2.1 x.2.2.1.2.2 x.2.2.2.1.1 x.2.2.2.1.2.1 x.2.2.2.1.2.2 x.2.2.2.2.1 x.2.2.2.2.2.1.1 x.2.2.2.2.2.1.2 x.2.2.2.2.2.2)) fun x => (B24_4h1 x.1 x.2.1.1 x.2.1.2.1 x.2.1.2.2.1 x.2.1.2.2.2 x.2.2.1.1 x.2.2.1.2.1 x.2.2.1.2.2 x.2.2.2.1.1 x.2.2.2.1.2.1 x.2.2.2.1.2.2.1 x.2.2.2.1.2.2.2 x.2.2.2.2.1 x.2.2.2.2.2.1.1 x.2.2.2.2.2.1.2 x.2.2.2.2.2.2))⟩
def B24_2h0 (a0 : Tq3) (a1 : Tq5) (a2 : Int) (a3 : (List Tq1)) (a4 : Tq3) (a5 : Int) (a6 : Int) (a7 : Int) (a8 : Tq5) (a9 : Int) (a10 : (List Tq1)) (a11 : Int) : Option ((Tq17 ⊕ Tq18) ⊕ ((Tq6 × (Tq5 × (Int × (List Tq1)))) ⊕ (Tq6 × Tq0))) :=
  sel (iLt a11 (lLen a1))
    (sel (oIn a11 (lLen a1)) (
    bndS (L24_4 (.inl (a0, ((a1, (a2, (a3, a4))), ((a5, (a6, a7)), ((a8, (a9, a10)), (a11, ((lAt a1 a11), 0)))))))) fun y0 =>
    sumS y0 (fun y0a =>
      some (.inl (.inl (y0a.1, (y0a.2.1, (y0a.2.2.1, (y0a.2.2.2.1, (iAdd .i64 y0a.2.2.2.2 1)))))))) fun y0b =>
      some (.inl (.inr (y0b.1, (y0b.2.1, (y0b.2.2.1, (y0b.2.2.2.1, (iAdd .i64 y0b.2.2.2.2 1)))))))) none)
    (some (.inr (.inl ((a5, (a6, a7)), (a8, (a9, a10))))))
def B24_2h1 (a0 : Tq3) (a1 : Tq5) (a2 : Int) (a3 : (List Tq1)) (a4 : Tq3) (a5 : Int) (a6 : Int) (a7 : Int) (a8 : Tq5) (a9 : Int) (a10 : (List Tq1)) (a11 : Tq3) (a12 : Int) : Option ((Tq17 ⊕ Tq18) ⊕ ((Tq6 × (Tq5 × (Int × (List Tq1)))) ⊕ (Tq6 × Tq0))) :=
  sel (iLt a12 (lLen a1))
    (sel (oIn a12 (lLen a1)) (
    bndS (L24_4 (.inr (a0, ((a1, (a2, (a3, a4))), ((a5, (a6, a7)), ((a8, (a9, (a10, a11))), (a12, ((lAt a1 a12), 0)))))))) fun y0 =>
    sumS y0 (fun y0a =>
      some (.inl (.inl (y0a.1, (y0a.2.1, (y0a.2.2.1, (y0a.2.2.2.1, (iAdd .i64 y0a.2.2.2.2 1)))))))) fun y0b =>
      some (.inl (.inr (y0b.1, (y0b.2.1, (y0b.2.2.1, (y0b.2.2.2.1, (iAdd .i64 y0b.2.2.2.2 1)))))))) none)
    (some (.inr (.inr ((a5, (a6, a7)), (a8, (a9, (a10, a11)))))))
def L24_2 (x : (Tq17 ⊕ Tq18)) : Option ((Tq6 × (Tq5 × (Int × (List Tq1)))) ⊕ (Tq6 × Tq0)) := iter (fun (x : (Tq17 ⊕ Tq18)) => (sumS x (fun x => (B24_2h0 x.1 x.2.1.1 x.2.1.2.1 x.2.1.2.2.1 x.2.1.2.2.2 x.2.2.1.1 x.2.2.1.2.1 x.2.2.1.2.2 x.2.2.2.1.1 x.2.2.2.1.2.1 x.2.2.2.1.2.2 x.2.2.2.2)) fun x => (B24_2h1 x.1 x.2.1.1 x.2.1.2.1 x.2.1.2.2.1 x.2.1.2.2.2 x.2.2.1.1 x.2.2.1.2.1 x.2.2.1.2.2 x.2.2.2.1.1 x.2.2.2.1.2.1 x.2.2.2.1.2.2.1 x.2.2.2.1.2.2.2 x.2.2.2.2))) fuel x
def lsL24_2 : LS := ⟨(.two (.one .normal ⟨.non, [1, 2, 4, 6, 8], (.seq (.dat (.sl Yq2)) (.seq (.box 0 (.seq (.dat (.sl Yq8)) (.seq (.dat (.int .i64)) (.seq (.dat (.sl Yq4)) (.dat (.sl Yq2)))))) (.seq (.box 1 (.seq (.lit (.slice none 0 0)) (.seq (.dat (.int .i64)) (.seq (.lit (.slice none 0 0)) (.seq (.lit (.slice none 0 0)) (.seq (.lit (.slice none 0 0)) (.seq (.dat (.int .i64)) (.dat (.int .i64))))))))) (.seq (.box 2 (.seq (.own 3 Yq8) (.seq (.dat (.int .i64)) (.seq (.own 4 Yq4) (.lit (.slice none 0 0)))))) (.dat (.int .i64)))))), 5, 104, 0⟩) (.one .normal ⟨.non, [1, 2, 4, 6, 8], (.seq (.dat (.sl Yq2)) (.seq (.box 0 (.seq (.dat (.sl Yq8)) (.seq (.dat (.int .i64)) (.seq (.dat (.sl Yq4)) (.dat (.sl Yq2)))))) (.seq (.box 1 (.seq (.lit (.slice none 0 0)) (.seq (.dat (.int .i64)) (.seq (.lit (.slice none 0 0)) (.seq (.lit (.slice none 0 0)) (.seq (.lit (.slice none 0 0)) (.seq (.dat (.int .i64)) (.dat (.int .i64))))))))) (.seq (.box 2 (.seq (.own 3 Yq8) (.seq (.dat (.int .i64)) (.seq (.own 4 Yq4) (.own 5 Yq2))))) (.dat (.int .i64)))))), 6, 104, 0⟩)), (.two (.one (.exit 2) ⟨.non, [4, 6], (.seq (.box 0 (.seq (.lit (.slice none 0 0)) (.seq (.dat (.int .i64)) (.seq (.lit (.slice none 0 0)) (.seq (.lit (.slice none 0 0)) (.seq (.lit (.slice none 0 0)) (.seq (.dat (.int .i64)) (.dat (.int .i64))))))))) (.box 1 (.seq (.own 2 Yq8) (.seq (.dat (.int .i64)) (.seq (.own 3 Yq4) (.lit (.slice none 0 0))))))), 4, 104, 0⟩) (.one (.exit 2) ⟨.non, [4, 6], (.seq (.box 0 (.seq (.lit (.slice none 0 0)) (.seq (.dat (.int .i64)) (.seq (.lit (.slice none 0 0)) (.seq (.lit (.slice none 0 0)) (.seq (.lit (.slice none 0 0)) (.seq (.dat (.int .i64)) (.dat (.int .i64))))))))) (.box 1 (.seq (.own 2 Yq8) (.seq (.dat (.int .i64)) (.seq (.own 3 Yq4) (.own 4 Yq2)))))), 5, 104, 0⟩)), fun (x : (Tq17 ⊕ Tq18)) => (sumS x (fun x => (B24_2h0 x.1 x.2.1.1 x.2.1.2.1 x.2.1.2.2.1 x.2.1.2.2.2 x.2.2.1.1 x.2.2.1.2.1 x.2.2.1.2.2 x.2.2.2.1.1 x.2.2.2.1.2.1 x.2.2.2.1.2.2 x.2.2.2.2)) fun x => (B24_2h1 x.1 x.2.1.1 x.2.1.2.1 x.2.1.2.2.1 x.2.1.2.2.2 x.2.2.1.1 x.2.2.1.2.1 x.2.2.1.2.2 x.2.2.2.1.1 x.2.2.2.1.2.1 x.2.2.2.1.2.2.1 x.2.2.2.1.2.2.2 x.2.2.2.2))⟩
/-- midrangeref11.Lose -/
def F24 (a0 : Tq11) (a1 : Tq3) : Option (Tq5 × (Int × ((List Tq1) × (Tq3 × ((List Tq12) × (Int × Int)))))) :=
  bndS (F34 a0) fun y0 =>
  sel (bNot (iEq y0 0))
    (some (([] : List Tq13), (0, (([] : List Tq1), (([] : List (Int × Int)), (([] : List Tq12), (0, y0)))))))
    (sel (iLt 40 (lLen a1))
      (some (([] : List Tq13), (0, (([] : List Tq1), (([] : List (Int × Int)), (([] : List Tq12), (0, 2)))))))
      (bndS (F20 a0) fun y1 =>
      bndS (L24_0 (a1, ((a0.1.1, (a0.1.2, a0.2)), ((0, (0, 0)), (y1, 0))))) fun y2 =>
      sumS y2 (fun y2a =>
        bndS (L24_2 (.inl (y2a.1, (y2a.2.1, (y2a.2.2.1, ((y2a.2.2.2.1, (y2a.2.2.2.2.1, y2a.2.2.2.2.2.1)), 0)))))) fun y3 =>
        sumS y3 (fun y3a =>
          some (y3a.2.1, (y3a.2.2.1, (y3a.2.2.2, (([] : List (Int × Int)), (([] : List Tq12), (0, 0))))))) fun y3b =>
          some (y3b.2.1, (y3b.2.2.1, (y3b.2.2.2.1, (y3b.2.2.2.2, (([] : List Tq12), (0, 0))))))) fun y2b =>
        some (([] : List Tq13), (y2b.1, (([] : List Tq1), (([] : List (Int × Int)), (([] : List Tq12), y2b.2)))))))
def gF24 : FS := ⟨(.seq (.agg (.dat Yq10)) (.dat (.sl Yq2))), 0, (.one ⟨.non, (.agg (.seq (.own 0 Yq8) (.seq (.dat (.int .i64)) (.seq (.own 1 Yq4) (.seq (.own 2 Yq2) (.seq (.own 3 Yq14) (.seq (.dat (.int .i64)) (.dat (.int .i64))))))))), 0, 4⟩), fun x => (F24 x.1 x.2)⟩
theorem rL24_0 (x : lsL24_0.hd.T) : kRound env (GofL [(76, [gF76]), (75, [gF75]), (73, [gF73]), (74, [gF74]), (67, [gF67]), (20, [gF20]), (34, [gF34])]) (LofL [(24, [(0, lsL24_0), (4, lsL24_4), (2, lsL24_2)])]) 24 0 (lpOf Tryz.prog 24 0).2 (lsL24_0.hd.st x) lsL24_0.rd = lsL24_0.B x := by kernel_rfl
theorem rL24_4 (x : lsL24_4.hd.T) : kRound env (GofL [(76, [gF76]), (75, [gF75]), (73, [gF73]), (74, [gF74]), (67, [gF67]), (20, [gF20]), (34, [gF34])]) (LofL [(24, [(0, lsL24_0), (4, lsL24_4), (2, lsL24_2)])]) 24 4 (lpOf Tryz.prog 24 2).2 (lsL24_4.hd.st x) lsL24_4.rd = lsL24_4.B x := by rcases x with x | x <;> kernel_rfl
theorem rL24_2 (x : lsL24_2.hd.T) : kRound env (GofL [(76, [gF76]), (75, [gF75]), (73, [gF73]), (74, [gF74]), (67, [gF67]), (20, [gF20]), (34, [gF34])]) (LofL [(24, [(0, lsL24_0), (4, lsL24_4), (2, lsL24_2)])]) 24 2 (lpOf Tryz.prog 24 1).2 (lsL24_2.hd.st x) lsL24_2.rd = lsL24_2.B x := by rcases x with x | x <;> kernel_rfl
theorem eF24 (x : gF24.a.T) : kF env (GofL [(76, [gF76]), (75, [gF75]), (73, [gF73]), (74, [gF74]), (67, [gF67]), (20, [gF20]), (34, [gF34])]) (LofL [(24, [(0, lsL24_0), (4, lsL24_4), (2, lsL24_2)])]) 24 (gF24.args x) (gF24.bs x) gF24.r.dec = gF24.F x := by kernel_rfl
theorem sF24 : SpecAt env 7 24 gF24 := mkSpec (r := 6) (gl := [(76, [gF76]), (75, [gF75]), (73, [gF73]), (74, [gF74]), (67, [gF67]), (20, [gF20]), (34, [gF34])]) (L0 := [(0, lsL24_0), (4, lsL24_4), (2, lsL24_2)]) (by kernel_rfl) ⟨⟨sF76.up (by decide), trivial⟩, ⟨sF75.up (by decide), trivial⟩, ⟨sF73.up (by decide), trivial⟩, ⟨sF74.up (by decide), trivial⟩, ⟨sF67.up (by decide), trivial⟩, ⟨sF20.up (by decide), trivial⟩, ⟨sF34.up (by decide), trivial⟩, trivial⟩ ⟨⟨0, by kernel_rfl, by kernel_rfl, rL24_0⟩, ⟨2, by kernel_rfl, by kernel_rfl, rL24_4⟩, ⟨1, by kernel_rfl, by kernel_rfl, rL24_2⟩, trivial⟩ eF24 (fun h => absurd h (by rw [show env.nl 24 = false by kernel_rfl]; decide))
/-- midrangelaw11.IplLoses -/
def F5 (a0 : Tq11) (a1 : Tq3) : Option Bool :=
  bndS (F15) fun y0 =>
  sel (bNot y0)
    (some false)
    (bndS (F18 a0) fun y1 =>
    sel (bOr (bNot y1) (iLt 42 (lLen a1)))
      (some true)
      (bndS (F20 a0) fun y2 =>
      sel (lCap 16 a1) (
      bndS (F22 ((y2.1, y2.2.1), y2.2.2) a1) fun y3 =>
      bndS (F24 a0 a1) fun y4 =>
      bndS (F23 ((y3.1.1, y3.1.2.1), (y3.1.2.2.1, (lCut y3.1.2.2.2.1 y3.1.2.2.2.2.1 y3.1.2.2.2.2.2))) y3.2 (((y4.1, y4.2.1), (y4.2.2.1, y4.2.2.2.1)), y4.2.2.2.2)) fun y5 =>
      some y5) none))
def gF5 : FS := ⟨(.seq (.agg (.dat Yq10)) (.dat (.sl Yq2))), 0, (.one ⟨.non, (.dat .bool), 0, 0⟩), fun x => (F5 x.1 x.2)⟩
theorem eF5 (x : gF5.a.T) : kF env (GofL [(23, [gF23]), (24, [gF24]), (22, [gF22]), (20, [gF20]), (18, [gF18]), (15, [gF15])]) (LofL [(5, [])]) 5 (gF5.args x) (gF5.bs x) gF5.r.dec = gF5.F x := by kernel_rfl
theorem sF5 : SpecAt env 17 5 gF5 := mkSpec (r := 16) (gl := [(23, [gF23]), (24, [gF24]), (22, [gF22]), (20, [gF20]), (18, [gF18]), (15, [gF15])]) (L0 := []) (by kernel_rfl) ⟨⟨sF23.up (by decide), trivial⟩, ⟨sF24.up (by decide), trivial⟩, ⟨sF22.up (by decide), trivial⟩, ⟨sF20.up (by decide), trivial⟩, ⟨sF18.up (by decide), trivial⟩, ⟨sF15.up (by decide), trivial⟩, trivial⟩ trivial eF5 (fun h => absurd h (by rw [show env.nl 5 = false by kernel_rfl]; decide))
end
end Go.Proofs.YtiddpfhpmodfbaaGreatDoor.K
end
