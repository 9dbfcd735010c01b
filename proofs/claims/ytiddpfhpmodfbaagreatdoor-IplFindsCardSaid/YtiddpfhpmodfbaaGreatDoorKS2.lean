/- A part of the proof: texts of the author, joined. -/
import Derived.Test.YtiddpfhpmodfbaaGreatDoorKS1
section
set_option linter.unusedVariables false
set_option linter.unusedSimpArgs false
set_option linter.unnecessarySimpa false
open Go Go.Ev Go.Proofs
namespace Go.Proofs.YtiddpfhpmodfbaaGreatDoor.K
set_option linter.unusedVariables false
set_option maxRecDepth 100000
noncomputable section
/-- ipl.DamageOf -/
def F32 (a0 : (((List (Int × ByteArray)) × Int) × ((List ((ByteArray × (ByteArray × Int)) × (Int × Int))) × (List (Int × Int))))) (a1 : Int) : Option (Int × Int) :=
  bndS (F19 a0) fun y0 =>
  sel (bNot (iEq y0.2 0))
    (some (0, y0.2))
    (letS (F51 a1 0 (iSub .i64 (lLen a0.2.1) 1)) fun y1 =>
    sel (bNot y1)
      (some (0, 3))
      (sel (oIn a1 (lLen a0.2.1)) (
      bndS (F77 a0 (lAt a0.2.1 a1)) fun y2 =>
      some (y2, 0)) none))
def gF32 : FS := ⟨(.seq (.agg (.dat (.pr (.pr (.sl (.pr (.int .i64) .str)) (.int .i64)) (.pr (.sl (.pr (.pr .str (.pr .str (.int .i64))) (.pr (.int .i64) (.int .i64)))) (.sl (.pr (.int .i64) (.int .i64))))))) (.dat (.int .i64))), 0, (.one ⟨.non, (.tup (.seq (.dat (.int .i64)) (.dat (.int .i64)))), 0, 0⟩), fun x => (F32 x.1 x.2)⟩
theorem eF32 (x : gF32.a.T) : kF env (GofL [(77, [gF77]), (51, [gF51]), (19, [gF19])]) (LofL [(32, [])]) 32 (gF32.args x) (gF32.bs x) gF32.r.dec = gF32.F x := by kernel_rfl
theorem sF32 : SpecAt env 6 32 gF32 := mkSpec (r := 5) (gl := [(77, [gF77]), (51, [gF51]), (19, [gF19])]) (L0 := []) (by kernel_rfl) ⟨⟨sF77.up (by decide), trivial⟩, ⟨sF51.up (by decide), trivial⟩, ⟨sF19.up (by decide), trivial⟩, trivial⟩ trivial eF32 (fun h => absurd h (by rw [show env.nl 32 = false by kernel_rfl]; decide))
/-- midrangeref11.Err -/
def F34 (a0 : (((List (Int × ByteArray)) × Int) × ((List ((ByteArray × (ByteArray × Int)) × (Int × Int))) × (List (Int × Int))))) : Option Int :=
  bndS (F21 a0) fun y0 =>
  some y0.2
def gF34 : FS := ⟨(.agg (.dat (.pr (.pr (.sl (.pr (.int .i64) .str)) (.int .i64)) (.pr (.sl (.pr (.pr .str (.pr .str (.int .i64))) (.pr (.int .i64) (.int .i64)))) (.sl (.pr (.int .i64) (.int .i64))))))), 0, (.one ⟨.non, (.dat (.int .i64)), 0, 0⟩), fun x => (F34 x)⟩
theorem eF34 (x : gF34.a.T) : kF env (GofL [(21, [gF21])]) (LofL [(34, [])]) 34 (gF34.args x) (gF34.bs x) gF34.r.dec = gF34.F x := by kernel_rfl
theorem sF34 : SpecAt env 6 34 gF34 := mkSpec (r := 5) (gl := [(21, [gF21])]) (L0 := []) (by kernel_rfl) ⟨⟨sF21.up (by decide), trivial⟩, trivial⟩ trivial eF34 (fun h => absurd h (by rw [show env.nl 34 = false by kernel_rfl]; decide))
def B45_0 (a0 : (List (Int × ByteArray))) (a1 : Int) (a2 : (List ((ByteArray × (ByteArray × Int)) × (Int × Int)))) (a3 : (List (Int × Int))) (a4 : ByteArray) (a5 : ByteArray) (a6 : Int) (a7 : Int) : Option ((((List (Int × ByteArray)) × (Int × ((List ((ByteArray × (ByteArray × Int)) × (Int × Int))) × (List (Int × Int))))) × ((ByteArray × (ByteArray × Int)) × Int)) ⊕ (Unit ⊕ Int)) :=
  sel (iLt a7 (lLen a2))
    (sel (oIn a7 (lLen a2)) (
    sel (bAnd (sEq (lAt a2 a7).1.1 a4) (bAnd (sEq (lAt a2 a7).1.2.1 a5) (iEq (lAt a2 a7).1.2.2 a6)))
      (some (.inr (.inr a7)))
      (some (.inl ((a0, (a1, (a2, a3))), ((a4, (a5, a6)), (iAdd .i64 a7 1)))))) none)
    (some (.inr (.inl ())))
def L45_0 (x : (((List (Int × ByteArray)) × (Int × ((List ((ByteArray × (ByteArray × Int)) × (Int × Int))) × (List (Int × Int))))) × ((ByteArray × (ByteArray × Int)) × Int))) : Option (Unit ⊕ Int) := iter (fun (x : (((List (Int × ByteArray)) × (Int × ((List ((ByteArray × (ByteArray × Int)) × (Int × Int))) × (List (Int × Int))))) × ((ByteArray × (ByteArray × Int)) × Int))) => (B45_0 x.1.1 x.1.2.1 x.1.2.2.1 x.1.2.2.2 x.2.1.1 x.2.1.2.1 x.2.1.2.2 x.2.2)) fuel x
/-- midrangeref11.Place -/
def F45 (a0 : (((List (Int × ByteArray)) × Int) × ((List ((ByteArray × (ByteArray × Int)) × (Int × Int))) × (List (Int × Int))))) (a1 : (ByteArray × (ByteArray × Int))) : Option Int :=
  bndS (L45_0 ((a0.1.1, (a0.1.2, a0.2)), (a1, 0))) fun y0 =>
  sumS y0 (fun y0a =>
    some (-1)) fun y0b =>
    some y0b
def B131_0 (a0 : Int) (a1 : Int) (a2 : Int) (a3 : (List (Int × ByteArray))) (a4 : Int) (a5 : (List ((ByteArray × (ByteArray × Int)) × (Int × Int)))) (a6 : (List (Int × Int))) (a7 : Int) : Option ((Int × (Int × (Int × (((List (Int × ByteArray)) × (Int × ((List ((ByteArray × (ByteArray × Int)) × (Int × Int))) × (List (Int × Int))))) × Int)))) ⊕ (Unit ⊕ Bool)) :=
  sel (iLt a7 (lLen a6))
    (sel (oIn a7 (lLen a6)) (
    sel (bOr (oIn a7 (lLen a6)) (bNot (iEq (lAt a6 a7).1 a0))) (
    letS (F35 (lAt a6 a7).2 a1 a2) fun y0 =>
    sel (bAnd (iEq (lAt a6 a7).1 a0) y0)
      (some (.inr (.inr true)))
      (some (.inl (a0, (a1, (a2, ((a3, (a4, (a5, a6))), (iAdd .i64 a7 1)))))))) none) none)
    (some (.inr (.inl ())))
def L131_0 (x : (Int × (Int × (Int × (((List (Int × ByteArray)) × (Int × ((List ((ByteArray × (ByteArray × Int)) × (Int × Int))) × (List (Int × Int))))) × Int))))) : Option (Unit ⊕ Bool) := iter (fun (x : (Int × (Int × (Int × (((List (Int × ByteArray)) × (Int × ((List ((ByteArray × (ByteArray × Int)) × (Int × Int))) × (List (Int × Int))))) × Int))))) => (B131_0 x.1 x.2.1 x.2.2.1 x.2.2.2.1.1 x.2.2.2.1.2.1 x.2.2.2.1.2.2.1 x.2.2.2.1.2.2.2 x.2.2.2.2)) fuel x
/-- midrangeref11.lost -/
def F131 (a0 : (((List (Int × ByteArray)) × Int) × ((List ((ByteArray × (ByteArray × Int)) × (Int × Int))) × (List (Int × Int))))) (a1 : Int) (a2 : Int) (a3 : Int) : Option Bool :=
  bndS (L131_0 (a1, (a2, (a3, ((a0.1.1, (a0.1.2, a0.2)), 0))))) fun y0 =>
  sumS y0 (fun y0a =>
    some false) fun y0b =>
    some y0b
/-- midrangeref11.damage -/
def F78 (a0 : (((List (Int × ByteArray)) × Int) × ((List ((ByteArray × (ByteArray × Int)) × (Int × Int))) × (List (Int × Int))))) (a1 : Int) : Option Int :=
  sel (oIn a1 (lLen a0.2.1)) (
  bndS (F28 a0.1 (lAt a0.2.1 a1).2.1) fun y0 =>
  sel (bOr (okS (F131 a0 (lAt a0.2.1 a1).2.1 0 0)) (bNot (bNot (iEq y0 (-1))))) (
  letS (valS (F131 a0 (lAt a0.2.1 a1).2.1 0 0) false) fun y1 =>
  sel (bOr (iEq y0 (-1)) y1)
    (some 3)
    (sel (oIn y0 (lLen a0.1.1)) (
    sel (oCut 0 32 (sLen (lAt a0.1.1 y0).2)) (
    bndS (F17 (sCut (lAt a0.1.1 y0).2 0 32)) fun y2 =>
    sel (bOr (bNot (iEq y2.2.2 0)) (bNot (bAnd (sEq y2.1.1 (lAt a0.2.1 a1).1.1) (bAnd (sEq y2.1.2.1 (lAt a0.2.1 a1).1.2.1) (iEq y2.1.2.2 (lAt a0.2.1 a1).1.2.2)))))
      (some 3)
      (bndS (F131 a0 (lAt a0.2.1 a1).2.1 1 8) fun y3 =>
      sel y3
        (some 2)
        (bndS (F75 (lAt a0.1.1 y0).2) fun y4 =>
        bndS (F47 (bNot (iEq y2.2.1 y4))) fun y5 =>
        some (iMul .i64 1 y5)))) none) none)) none) none
end
end Go.Proofs.YtiddpfhpmodfbaaGreatDoor.K
end

section
set_option linter.unusedVariables false
set_option linter.unusedSimpArgs false
set_option linter.unnecessarySimpa false
open Go Go.Ev Go.Proofs
namespace Go.Proofs.YtiddpfhpmodfbaaGreatDoor.K
set_option linter.unusedVariables false
set_option maxRecDepth 100000
noncomputable section
/-- midrangeref04.NumberErr -/
def F177 (a0 : ((List (Int × ByteArray)) × Int)) (a1 : Int) : Option Int :=
  bndS (F28 a0 a1) fun y0 =>
  sel (bNot (iEq y0 (-1)))
    (some 0)
    (letS (F35 a1 1 (iSub .i64 a0.2 1)) fun y1 =>
    sel y1
      (some 24)
      (some 11))
/-- midrangeref04.known -/
def F147 (a0 : ((List (Int × ByteArray)) × Int)) (a1 : Int) : Option (Int × Int) :=
  bndS (F65 a0) fun y0 =>
  sel (bNot (iEq y0 0))
    (some ((-1), y0))
    (bndS (F28 a0 a1) fun y1 =>
    bndS (F177 a0 a1) fun y2 =>
    some (y1, y2))
/-- midrangeref04.reach -/
def F145 (a0 : ((List (Int × ByteArray)) × Int)) (a1 : (Int × Int)) (a2 : Int) : Option (Int × Int) :=
  bndS (F147 a0 a1.1) fun y0 =>
  sel (bNot (iEq y0.2 0))
    (some y0)
    (sel (oIn y0.1 (lLen a0.1)) (
    letS (F35 a1.2 0 (sLen (lAt a0.1 y0.1).2)) fun y1 =>
    letS (F35 a2 0 (iSub .i64 (sLen (lAt a0.1 y0.1).2) a1.2)) fun y2 =>
    sel (bOr (bNot y1) (bNot y2))
      (some (y0.1, 3))
      (some (y0.1, 0))) none)
/-- midrangebase.Patched -/
def F127 (a0 : ByteArray) (a1 : Int) (a2 : ByteArray) : Option ByteArray :=
  sel (oCut 0 a1 (sLen a0)) (
  sel (sOk (sCut a0 0 a1) a2) (
  sel (oCut (iAdd .i64 a1 (sLen a2)) (sLen a0) (sLen a0)) (
  sel (sOk (sAdd (sCut a0 0 a1) a2) (sCut a0 (iAdd .i64 a1 (sLen a2)) (sLen a0))) (
  some (sAdd (sAdd (sCut a0 0 a1) a2) (sCut a0 (iAdd .i64 a1 (sLen a2)) (sLen a0)))) none) none) none) none
/-- midrangeref04.with -/
def F146 (a0 : ((List (Int × ByteArray)) × Int)) (a1 : Int) (a2 : ByteArray) : Option ((List (Int × ByteArray)) × Int) :=
  bndS (F64 a0) fun y0 =>
  sel (oIn a1 (lLen y0.1)) (
  some ((lSet y0.1 a1 ((lAt y0.1 a1).1, a2)), y0.2)) none
/-- midrangeref04.Written -/
def F92 (a0 : ((List (Int × ByteArray)) × Int)) (a1 : (Int × Int)) (a2 : ByteArray) : Option ((List (Int × ByteArray)) × (Int × (Int × (ByteArray × Int)))) :=
  bndS (F145 a0 a1 (sLen a2)) fun y0 =>
  sel (bNot (iEq y0.2 0))
    (some (([] : List (Int × ByteArray)), (0, (0, ((bs []), y0.2)))))
    (sel (oIn y0.1 (lLen a0.1)) (
    bndS (F127 (lAt a0.1 y0.1).2 a1.2 a2) fun y1 =>
    bndS (F146 a0 y0.1 y1) fun y2 =>
    some (y2.1, (y2.2, (0, ((bs []), 0))))) none)
/-- midrangeref04.Destroyed -/
def F95 (a0 : ((List (Int × ByteArray)) × Int)) (a1 : Int) : Option ((List (Int × ByteArray)) × (Int × (Int × (ByteArray × Int)))) :=
  bndS (F147 a0 a1) fun y0 =>
  sel (bNot (iEq y0.2 0))
    (some (([] : List (Int × ByteArray)), (0, (0, ((bs []), y0.2)))))
    (bndS (F64 a0) fun y1 =>
    sel (oCut 0 y0.1 (lLen y1.1)) (
    sel (oCut (iAdd .i64 y0.1 1) (lLen y1.1) (lLen y1.1)) (
    sel (iLe (pAdd y0.1 (lLen (lCut y1.1 (iAdd .i64 y0.1 1) (lLen y1.1)))) (lLen y1.1)) (
    some ((lCut (lCpy y1.1 y0.1 (pAdd y0.1 (lLen (lCut y1.1 (iAdd .i64 y0.1 1) (lLen y1.1)))) (lCut y1.1 (iAdd .i64 y0.1 1) (lLen y1.1))) 0 (pAdd y0.1 (lLen (lCut y1.1 (iAdd .i64 y0.1 1) (lLen y1.1))))), (y1.2, (0, ((bs []), 0))))) none) none) none)
end
end Go.Proofs.YtiddpfhpmodfbaaGreatDoor.K
end

section
set_option linter.unusedVariables false
set_option linter.unusedSimpArgs false
set_option linter.unnecessarySimpa false
open Go Go.Ev Go.Proofs
namespace Go.Proofs.YtiddpfhpmodfbaaGreatDoor.K
set_option linter.unusedVariables false
set_option maxRecDepth 100000
noncomputable section
def B41_0h0 (a0 : (List (Int × ByteArray))) (a1 : Int) (a2 : (List ((ByteArray × (ByteArray × Int)) × (Int × Int)))) (a3 : (List (Int × Int))) (a4 : Int) (a5 : (List (Int × ByteArray))) (a6 : Int) (a7 : (List (Int × Int))) (a8 : (List (Int × (Int × (Int × (ByteArray × (ByteArray × Int))))))) (a9 : (List ((ByteArray × (ByteArray × Int)) × (Int × Int)))) (a10 : Int) (a11 : Int) : Option (((((List (Int × ByteArray)) × (Int × ((List ((ByteArray × (ByteArray × Int)) × (Int × Int))) × (List (Int × Int))))) × (Int × (((List (Int × ByteArray)) × (Int × (List (Int × Int)))) × ((List (Int × (Int × (Int × (ByteArray × (ByteArray × Int)))))) × ((List ((ByteArray × (ByteArray × Int)) × (Int × Int))) × (Int × Int)))))) ⊕ (((List (Int × ByteArray)) × (Int × ((List ((ByteArray × (ByteArray × Int)) × (Int × Int))) × (List (Int × Int))))) × (Int × (((List (Int × ByteArray)) × (Int × ((List ((ByteArray × (ByteArray × Int)) × (Int × Int))) × (List (Int × Int))))) × ((List (Int × (Int × (Int × (ByteArray × (ByteArray × Int)))))) × ((List ((ByteArray × (ByteArray × Int)) × (Int × Int))) × (Int × Int))))))) ⊕ ((((List (Int × ByteArray)) × (Int × ((List ((ByteArray × (ByteArray × Int)) × (Int × Int))) × (List (Int × Int))))) × (Int × (((List (Int × ByteArray)) × (Int × (List (Int × Int)))) × (List (Int × (Int × (Int × (ByteArray × (ByteArray × Int))))))))) ⊕ (((List (Int × ByteArray)) × (Int × ((List ((ByteArray × (ByteArray × Int)) × (Int × Int))) × (List (Int × Int))))) × (Int × (((List (Int × ByteArray)) × (Int × ((List ((ByteArray × (ByteArray × Int)) × (Int × Int))) × (List (Int × Int))))) × (List (Int × (Int × (Int × (ByteArray × (ByteArray × Int))))))))))) :=
  sel (iLt a11 a10)
    (sel (oIn a11 (lLen a9)) (
    bndS (F96 (a0, a1) (lAt a9 a11).2.1) fun y0 =>
    sel y0.2
      (sel (lCap 56 [(lAt a9 a11)]) (
      some (.inl (.inr ((a0, (a1, (a2, a3))), (a4, ((a5, (a6, ([(lAt a9 a11)], a7))), (a8, (a9, (a10, (iAdd .i64 a11 1)))))))))) none)
      (sel (lCap 64 (lApp a8 [(3, ((lAt a9 a11).2.1, (0, (lAt a9 a11).1)))])) (
      some (.inl (.inl ((a0, (a1, (a2, a3))), (a4, ((a5, (a6, a7)), ((lApp a8 [(3, ((lAt a9 a11).2.1, (0, (lAt a9 a11).1)))]), (a9, (a10, (iAdd .i64 a11 1)))))))))) none)) none)
    (some (.inr (.inl ((a0, (a1, (a2, a3))), (a4, ((a5, (a6, a7)), a8))))))
def B41_0h1 (a0 : (List (Int × ByteArray))) (a1 : Int) (a2 : (List ((ByteArray × (ByteArray × Int)) × (Int × Int)))) (a3 : (List (Int × Int))) (a4 : Int) (a5 : (List (Int × ByteArray))) (a6 : Int) (a7 : (List ((ByteArray × (ByteArray × Int)) × (Int × Int)))) (a8 : (List (Int × Int))) (a9 : (List (Int × (Int × (Int × (ByteArray × (ByteArray × Int))))))) (a10 : (List ((ByteArray × (ByteArray × Int)) × (Int × Int)))) (a11 : Int) (a12 : Int) : Option (((((List (Int × ByteArray)) × (Int × ((List ((ByteArray × (ByteArray × Int)) × (Int × Int))) × (List (Int × Int))))) × (Int × (((List (Int × ByteArray)) × (Int × (List (Int × Int)))) × ((List (Int × (Int × (Int × (ByteArray × (ByteArray × Int)))))) × ((List ((ByteArray × (ByteArray × Int)) × (Int × Int))) × (Int × Int)))))) ⊕ (((List (Int × ByteArray)) × (Int × ((List ((ByteArray × (ByteArray × Int)) × (Int × Int))) × (List (Int × Int))))) × (Int × (((List (Int × ByteArray)) × (Int × ((List ((ByteArray × (ByteArray × Int)) × (Int × Int))) × (List (Int × Int))))) × ((List (Int × (Int × (Int × (ByteArray × (ByteArray × Int)))))) × ((List ((ByteArray × (ByteArray × Int)) × (Int × Int))) × (Int × Int))))))) ⊕ ((((List (Int × ByteArray)) × (Int × ((List ((ByteArray × (ByteArray × Int)) × (Int × Int))) × (List (Int × Int))))) × (Int × (((List (Int × ByteArray)) × (Int × (List (Int × Int)))) × (List (Int × (Int × (Int × (ByteArray × (ByteArray × Int))))))))) ⊕ (((List (Int × ByteArray)) × (Int × ((List ((ByteArray × (ByteArray × Int)) × (Int × Int))) × (List (Int × Int))))) × (Int × (((List (Int × ByteArray)) × (Int × ((List ((ByteArray × (ByteArray × Int)) × (Int × Int))) × (List (Int × Int))))) × (List (Int × (Int × (Int × (ByteArray × (ByteArray × Int))))))))))) :=
  sel (iLt a12 a11)
    (sel (oIn a12 (lLen a10)) (
    bndS (F96 (a0, a1) (lAt a10 a12).2.1) fun y0 =>
    sel y0.2
      (sel (lCap 56 (lApp a7 [(lAt a10 a12)])) (
      some (.inl (.inr ((a0, (a1, (a2, a3))), (a4, ((a5, (a6, ((lApp a7 [(lAt a10 a12)]), a8))), (a9, (a10, (a11, (iAdd .i64 a12 1)))))))))) none)
      (sel (lCap 64 (lApp a9 [(3, ((lAt a10 a12).2.1, (0, (lAt a10 a12).1)))])) (
      some (.inl (.inr ((a0, (a1, (a2, a3))), (a4, ((a5, (a6, (a7, a8))), ((lApp a9 [(3, ((lAt a10 a12).2.1, (0, (lAt a10 a12).1)))]), (a10, (a11, (iAdd .i64 a12 1)))))))))) none)) none)
    (some (.inr (.inr ((a0, (a1, (a2, a3))), (a4, ((a5, (a6, (a7, a8))), a9))))))
def L41_0 (x : ((((List (Int × ByteArray)) × (Int × ((List ((ByteArray × (ByteArray × Int)) × (Int × Int))) × (List (Int × Int))))) × (Int × (((List (Int × ByteArray)) × (Int × (List (Int × Int)))) × ((List (Int × (Int × (Int × (ByteArray × (ByteArray × Int)))))) × ((List ((ByteArray × (ByteArray × Int)) × (Int × Int))) × (Int × Int)))))) ⊕ (((List (Int × ByteArray)) × (Int × ((List ((ByteArray × (ByteArray × Int)) × (Int × Int))) × (List (Int × Int))))) × (Int × (((List (Int × ByteArray)) × (Int × ((List ((ByteArray × (ByteArray × Int)) × (Int × Int))) × (List (Int × Int))))) × ((List (Int × (Int × (Int × (ByteArray × (ByteArray × Int)))))) × ((List ((ByteArray × (ByteArray × Int)) × (Int × Int))) × (Int × Int)))))))) : Option ((((List (Int × ByteArray)) × (Int × ((List ((ByteArray × (ByteArray × Int)) × (Int × Int))) × (List (Int × Int))))) × (Int × (((List (Int × ByteArray)) × (Int × (List (Int × Int)))) × (List (Int × (Int × (Int × (ByteArray × (ByteArray × Int))))))))) ⊕ (((List (Int × ByteArray)) × (Int × ((List ((ByteArray × (ByteArray × Int)) × (Int × Int))) × (List (Int × Int))))) × (Int × (((List (Int × ByteArray)) × (Int × ((List ((ByteArray × (ByteArray × Int)) × (Int × Int))) × (List (Int × Int))))) × (List (Int × (Int × (Int × (ByteArray × (ByteArray × Int)))))))))) := iter (fun (x : ((((List (Int × ByteArray)) × (Int × ((List ((ByteArray × (ByteArray × Int)) × (Int × Int))) × (List (Int × Int))))) × (Int × (((List (Int × ByteArray)) × (Int × (List (Int × Int)))) × ((List (Int × (Int × (Int × (ByteArray × (ByteArray × Int)))))) × ((List ((ByteArray × (ByteArray × Int)) × (Int × Int))) × (Int × Int)))))) ⊕ (((List (Int × ByteArray)) × (Int × ((List ((ByteArray × (ByteArray × Int)) × (Int × Int))) × (List (Int × Int))))) × (Int × (((List (Int × ByteArray)) × (Int × ((List ((ByteArray × (ByteArray × Int)) × (Int × Int))) × (List (Int × Int))))) × ((List (Int × (Int × (Int × (ByteArray × (ByteArray × Int)))))) × ((List ((ByteArray × (ByteArray × Int)) × (Int × Int))) × (Int × Int)))))))) => (sumS x (fun x => (B41_0h0 x.1.1 x.1.2.1 x.1.2.2.1 x.1.2.2.2 x.2.1 x.2.2.1.1 x.2.2.1.2.1 x.2.2.1.2.2 x.2.2.2.1 x.2.2.2.2.1 x.2.2.2.2.2.1 x.2.2.2.2.2.2)) fun x => (B41_0h1 x.1.1 x.1.2.1 x.1.2.2.1 x.1.2.2.2 x.2.1 x.2.2.1.1 x.2.2.1.2.1 x.2.2.1.2.2.1 x.2.2.1.2.2.2 x.2.2.2.1 x.2.2.2.2.1 x.2.2.2.2.2.1 x.2.2.2.2.2.2))) fuel x
def lsL41_0 : LS := ⟨(.two (.one .normal ⟨.non, [1, 2, 7, 8, 36, 37, 38], (.seq (.box 0 (.seq (.dat (.sl (.pr (.int .i64) .str))) (.seq (.dat (.int .i64)) (.seq (.dat (.sl (.pr (.pr .str (.pr .str (.int .i64))) (.pr (.int .i64) (.int .i64))))) (.dat (.sl (.pr (.int .i64) (.int .i64)))))))) (.seq (.box 1 (.seq (.lit (.slice none 0 0)) (.seq (.dat (.int .i64)) (.seq (.lit (.slice none 0 0)) (.lit (.slice none 0 0)))))) (.seq (.box 2 (.seq (.own 3 (.pr (.int .i64) .str)) (.seq (.dat (.int .i64)) (.seq (.lit (.slice none 0 0)) (.own 4 (.pr (.int .i64) (.int .i64))))))) (.seq (.own 5 (.pr (.int .i64) (.pr (.int .i64) (.pr (.int .i64) (.pr .str (.pr .str (.int .i64))))))) (.seq (.dat (.sl (.pr (.pr .str (.pr .str (.int .i64))) (.pr (.int .i64) (.int .i64))))) (.seq (.dat (.int .i64)) (.dat (.int .i64)))))))), 6, 142, 0⟩) (.one .normal ⟨.non, [1, 2, 7, 8, 36, 37, 38], (.seq (.box 0 (.seq (.dat (.sl (.pr (.int .i64) .str))) (.seq (.dat (.int .i64)) (.seq (.dat (.sl (.pr (.pr .str (.pr .str (.int .i64))) (.pr (.int .i64) (.int .i64))))) (.dat (.sl (.pr (.int .i64) (.int .i64)))))))) (.seq (.box 1 (.seq (.lit (.slice none 0 0)) (.seq (.dat (.int .i64)) (.seq (.lit (.slice none 0 0)) (.lit (.slice none 0 0)))))) (.seq (.box 2 (.seq (.own 3 (.pr (.int .i64) .str)) (.seq (.dat (.int .i64)) (.seq (.own 4 (.pr (.pr .str (.pr .str (.int .i64))) (.pr (.int .i64) (.int .i64)))) (.own 5 (.pr (.int .i64) (.int .i64))))))) (.seq (.own 6 (.pr (.int .i64) (.pr (.int .i64) (.pr (.int .i64) (.pr .str (.pr .str (.int .i64))))))) (.seq (.dat (.sl (.pr (.pr .str (.pr .str (.int .i64))) (.pr (.int .i64) (.int .i64))))) (.seq (.dat (.int .i64)) (.dat (.int .i64)))))))), 7, 142, 0⟩)), (.two (.one (.exit 0) ⟨.non, [1, 2, 7, 8], (.seq (.box 0 (.seq (.dat (.sl (.pr (.int .i64) .str))) (.seq (.dat (.int .i64)) (.seq (.dat (.sl (.pr (.pr .str (.pr .str (.int .i64))) (.pr (.int .i64) (.int .i64))))) (.dat (.sl (.pr (.int .i64) (.int .i64)))))))) (.seq (.box 1 (.seq (.lit (.slice none 0 0)) (.seq (.dat (.int .i64)) (.seq (.lit (.slice none 0 0)) (.lit (.slice none 0 0)))))) (.seq (.box 2 (.seq (.own 3 (.pr (.int .i64) .str)) (.seq (.dat (.int .i64)) (.seq (.lit (.slice none 0 0)) (.own 4 (.pr (.int .i64) (.int .i64))))))) (.own 5 (.pr (.int .i64) (.pr (.int .i64) (.pr (.int .i64) (.pr .str (.pr .str (.int .i64)))))))))), 6, 142, 0⟩) (.one (.exit 0) ⟨.non, [1, 2, 7, 8], (.seq (.box 0 (.seq (.dat (.sl (.pr (.int .i64) .str))) (.seq (.dat (.int .i64)) (.seq (.dat (.sl (.pr (.pr .str (.pr .str (.int .i64))) (.pr (.int .i64) (.int .i64))))) (.dat (.sl (.pr (.int .i64) (.int .i64)))))))) (.seq (.box 1 (.seq (.lit (.slice none 0 0)) (.seq (.dat (.int .i64)) (.seq (.lit (.slice none 0 0)) (.lit (.slice none 0 0)))))) (.seq (.box 2 (.seq (.own 3 (.pr (.int .i64) .str)) (.seq (.dat (.int .i64)) (.seq (.own 4 (.pr (.pr .str (.pr .str (.int .i64))) (.pr (.int .i64) (.int .i64)))) (.own 5 (.pr (.int .i64) (.int .i64))))))) (.own 6 (.pr (.int .i64) (.pr (.int .i64) (.pr (.int .i64) (.pr .str (.pr .str (.int .i64)))))))))), 7, 142, 0⟩)), fun (x : ((((List (Int × ByteArray)) × (Int × ((List ((ByteArray × (ByteArray × Int)) × (Int × Int))) × (List (Int × Int))))) × (Int × (((List (Int × ByteArray)) × (Int × (List (Int × Int)))) × ((List (Int × (Int × (Int × (ByteArray × (ByteArray × Int)))))) × ((List ((ByteArray × (ByteArray × Int)) × (Int × Int))) × (Int × Int)))))) ⊕ (((List (Int × ByteArray)) × (Int × ((List ((ByteArray × (ByteArray × Int)) × (Int × Int))) × (List (Int × Int))))) × (Int × (((List (Int × ByteArray)) × (Int × ((List ((ByteArray × (ByteArray × Int)) × (Int × Int))) × (List (Int × Int))))) × ((List (Int × (Int × (Int × (ByteArray × (ByteArray × Int)))))) × ((List ((ByteArray × (ByteArray × Int)) × (Int × Int))) × (Int × Int)))))))) => (sumS x (fun x => (B41_0h0 x.1.1 x.1.2.1 x.1.2.2.1 x.1.2.2.2 x.2.1 x.2.2.1.1 x.2.2.1.2.1 x.2.2.1.2.2 x.2.2.2.1 x.2.2.2.2.1 x.2.2.2.2.2.1 x.2.2.2.2.2.2)) fun x => (B41_0h1 x.1.1 x.1.2.1 x.1.2.2.1 x.1.2.2.2 x.2.1 x.2.2.1.1 x.2.2.1.2.1 x.2.2.1.2.2.1 x.2.2.1.2.2.2 x.2.2.2.1 x.2.2.2.2.1 x.2.2.2.2.2.1 x.2.2.2.2.2.2))⟩
def B113_0_2 (a0 : Int) (a1 : ByteArray) (a2 : Int) (a3 : Int) : Option (((Int × ByteArray) × (Int × Int)) ⊕ (Int × ByteArray)) :=
  sel (iLt a3 a2)
    (none)
    (some (.inr (a0, a1)))
def L113_0_2 (x : ((Int × ByteArray) × (Int × Int))) : Option (Int × ByteArray) := iter (fun (x : ((Int × ByteArray) × (Int × Int))) => (B113_0_2 x.1.1 x.1.2 x.2.1 x.2.2)) fuel x
def lsL113_0_2 : LS := ⟨(.one .normal ⟨(.box 0 (.seq (.dat (.int .i64)) (.dat .str))), [0, 1, 7, 8], (.seq (.lit (.slice none 0 0)) (.seq (.fn 97 (.ptr 0 2 0)) (.seq (.dat (.int .i64)) (.dat (.int .i64))))), 1, 19, 1⟩), (.one (.exit 0) ⟨(.box 0 (.seq (.dat (.int .i64)) (.dat .str))), [], .non, 1, 19, 1⟩), fun (x : ((Int × ByteArray) × (Int × Int))) => (B113_0_2 x.1.1 x.1.2 x.2.1 x.2.2)⟩
/-- slices.IndexFunc[[]api.DirectoryEntry,api.DirectoryEntry] -/
def F113_2 (a0 : Int) (a1 : ByteArray) : Option ((Int × ByteArray) × Int) :=
  bndS (L113_0_2 ((a0, a1), (0, 0))) fun y0 =>
  some (y0, (-1))
def gF113_2 : FS := ⟨(.seq (.lit (.slice none 0 0)) (.fn 97 (.box 0 (.seq (.dat (.int .i64)) (.dat .str))))), 1, (.one ⟨(.box 0 (.seq (.dat (.int .i64)) (.dat .str))), (.dat (.int .i64)), 1, 0⟩), fun x => (F113_2 x.1 x.2)⟩
theorem rL113_0_2 (x : lsL113_0_2.hd.T) : kRound env (GofL []) (LofL [(113, [(0, lsL113_0_2)])]) 113 0 (lpOf Tryz.prog 113 0).2 (lsL113_0_2.hd.st x) lsL113_0_2.rd = lsL113_0_2.B x := by kernel_rfl
theorem eF113_2 (x : gF113_2.a.T) : kF env (GofL []) (LofL [(113, [(0, lsL113_0_2)])]) 113 (gF113_2.args x) (gF113_2.bs x) gF113_2.r.dec = gF113_2.F x := by kernel_rfl
theorem sF113_2 : SpecAt env 1 113 gF113_2 := mkSpec (r := 0) (gl := []) (L0 := [(0, lsL113_0_2)]) (by kernel_rfl) trivial ⟨⟨0, by kernel_rfl, by kernel_rfl, rL113_0_2⟩, trivial⟩ eF113_2 (fun h => absurd h (by rw [show env.nl 113 = false by kernel_rfl]; decide))
/-- slices.ContainsFunc[[]api.DirectoryEntry,api.DirectoryEntry] -/
def F60_1 (a0 : Int) (a1 : ByteArray) : Option ((Int × ByteArray) × Bool) :=
  bndS (F113_2 a0 a1) fun y0 =>
  some (y0.1, (iLe 0 y0.2))
def gF60_1 : FS := ⟨(.seq (.lit (.slice none 0 0)) (.fn 97 (.box 0 (.seq (.dat (.int .i64)) (.dat .str))))), 1, (.one ⟨(.box 0 (.seq (.dat (.int .i64)) (.dat .str))), (.dat .bool), 1, 0⟩), fun x => (F60_1 x.1 x.2)⟩
theorem eF60_1 (x : gF60_1.a.T) : kF env (GofL [(113, [gF113_2])]) (LofL [(60, [])]) 60 (gF60_1.args x) (gF60_1.bs x) gF60_1.r.dec = gF60_1.F x := by kernel_rfl
theorem sF60_1 : SpecAt env 2 60 gF60_1 := mkSpec (r := 1) (gl := [(113, [gF113_2])]) (L0 := []) (by kernel_rfl) ⟨⟨sF113_2.up (by decide), trivial⟩, trivial⟩ trivial eF60_1 (fun h => absurd h (by rw [show env.nl 60 = false by kernel_rfl]; decide))
/-- internal/strconv.small -/
def F213 (a0 : Int) : Option ByteArray :=
  sel (iLt a0 10)
    (sel (oCut a0 (iAdd .i64 a0 1) 36) (
    some (sCut (bs [48, 49, 50, 51, 52, 53, 54, 55, 56, 57, 97, 98, 99, 100, 101, 102, 103, 104, 105, 106, 107, 108, 109, 110, 111, 112, 113, 114, 115, 116, 117, 118, 119, 120, 121, 122]) a0 (iAdd .i64 a0 1))) none)
    (sel (oCut (iMul .i64 a0 2) (iAdd .i64 (iMul .i64 a0 2) 2) 200) (
    some (sCut (bs [48, 48, 48, 49, 48, 50, 48, 51, 48, 52, 48, 53, 48, 54, 48, 55, 48, 56, 48, 57, 49, 48, 49, 49, 49, 50, 49, 51, 49, 52, 49, 53, 49, 54, 49, 55, 49, 56, 49, 57, 50, 48, 50, 49, 50, 50, 50, 51, 50, 52, 50, 53, 50, 54, 50, 55, 50, 56, 50, 57, 51, 48, 51, 49, 51, 50, 51, 51, 51, 52, 51, 53, 51, 54, 51, 55, 51, 56, 51, 57, 52, 48, 52, 49, 52, 50, 52, 51, 52, 52, 52, 53, 52, 54, 52, 55, 52, 56, 52, 57, 53, 48, 53, 49, 53, 50, 53, 51, 53, 52, 53, 53, 53, 54, 53, 55, 53, 56, 53, 57, 54, 48, 54, 49, 54, 50, 54, 51, 54, 52, 54, 53, 54, 54, 54, 55, 54, 56, 54, 57, 55, 48, 55, 49, 55, 50, 55, 51, 55, 52, 55, 53, 55, 54, 55, 55, 55, 56, 55, 57, 56, 48, 56, 49, 56, 50, 56, 51, 56, 52, 56, 53, 56, 54, 56, 55, 56, 56, 56, 57, 57, 48, 57, 49, 57, 50, 57, 51, 57, 52, 57, 53, 57, 54, 57, 55, 57, 56, 57, 57]) (iMul .i64 a0 2) (iAdd .i64 (iMul .i64 a0 2) 2))) none)
def gF213 : FS := ⟨(.dat (.int .i64)), 0, (.one ⟨.non, (.dat .str), 0, 0⟩), fun x => (F213 x)⟩
theorem eF213 (x : gF213.a.T) : kF env (GofL []) (LofL [(213, [])]) 213 (gF213.args x) (gF213.bs x) gF213.r.dec = gF213.F x := by kernel_rfl
theorem sF213 : SpecAt env 1 213 gF213 := mkSpec (r := 0) (gl := []) (L0 := []) (by kernel_rfl) trivial trivial eF213 (fun h => absurd h (by rw [show env.nl 213 = false by kernel_rfl]; decide))
/-- internal/strconv.FormatInt -/
def F203 (a0 : Int) (a1 : Int) : Option ByteArray :=
  sel (iEq a1 10) (
  sel (bAnd (iLe 0 a0) (iLt a0 100)) (
  bndS (F213 a0) fun y0 =>
  some y0) none) none
def gF203 : FS := ⟨(.seq (.dat (.int .i64)) (.dat (.int .i64))), 0, (.one ⟨.non, (.dat .str), 0, 0⟩), fun x => (F203 x.1 x.2)⟩
theorem eF203 (x : gF203.a.T) : kF env (GofL [(213, [gF213])]) (LofL [(203, [])]) 203 (gF203.args x) (gF203.bs x) gF203.r.dec = gF203.F x := by kernel_rfl
theorem sF203 : SpecAt env 2 203 gF203 := mkSpec (r := 1) (gl := [(213, [gF213])]) (L0 := []) (by kernel_rfl) ⟨⟨sF213.up (by decide), trivial⟩, trivial⟩ trivial eF203 (fun h => absurd h (by rw [show env.nl 203 = false by kernel_rfl]; decide))
/-- internal/strconv.Itoa -/
def F180 (a0 : Int) : Option ByteArray :=
  bndS (F203 a0 10) fun y0 =>
  some y0
def gF180 : FS := ⟨(.dat (.int .i64)), 0, (.one ⟨.non, (.dat .str), 0, 0⟩), fun x => (F180 x)⟩
theorem eF180 (x : gF180.a.T) : kF env (GofL [(203, [gF203])]) (LofL [(180, [])]) 180 (gF180.args x) (gF180.bs x) gF180.r.dec = gF180.F x := by kernel_rfl
theorem sF180 : SpecAt env 3 180 gF180 := mkSpec (r := 2) (gl := [(203, [gF203])]) (L0 := []) (by kernel_rfl) ⟨⟨sF203.up (by decide), trivial⟩, trivial⟩ trivial eF180 (fun h => absurd h (by rw [show env.nl 180 = false by kernel_rfl]; decide))
/-- strconv.Itoa -/
def F151 (a0 : Int) : Option ByteArray :=
  bndS (F180 a0) fun y0 =>
  some y0
def gF151 : FS := ⟨(.dat (.int .i64)), 0, (.one ⟨.non, (.dat .str), 0, 0⟩), fun x => (F151 x)⟩
theorem eF151 (x : gF151.a.T) : kF env (GofL [(180, [gF180])]) (LofL [(151, [])]) 151 (gF151.args x) (gF151.bs x) gF151.r.dec = gF151.F x := by kernel_rfl
theorem sF151 : SpecAt env 4 151 gF151 := mkSpec (r := 3) (gl := [(180, [gF180])]) (L0 := []) (by kernel_rfl) ⟨⟨sF180.up (by decide), trivial⟩, trivial⟩ trivial eF151 (fun h => absurd h (by rw [show env.nl 151 = false by kernel_rfl]; decide))
def B99_0 (a0 : (List (Int × ByteArray))) (a1 : Int) (a2 : (List ((ByteArray × (ByteArray × Int)) × (Int × Int)))) (a3 : (List (Int × Int))) (a4 : ByteArray) (a5 : ByteArray) (a6 : Int) (a7 : ByteArray) (a8 : ByteArray) (a9 : Int) (a10 : ByteArray) (a11 : Int) : Option ((((List (Int × ByteArray)) × (Int × ((List ((ByteArray × (ByteArray × Int)) × (Int × Int))) × (List (Int × Int))))) × ((ByteArray × (ByteArray × Int)) × ((ByteArray × (ByteArray × Int)) × (ByteArray × Int)))) ⊕ ((ByteArray × (ByteArray × Int)) × (ByteArray × (ByteArray × Int)))) :=
  bndS (F82 ((a0, a1), (a2, a3)) (a4, (a5, a6))) fun y0 =>
  sel (iLe 0 y0)
    (bndS (F151 a11) fun y1 =>
    bndS (FRepeat (bs [48]) (sel (iLt 0 (iSub .i64 3 (sLen y1))) (iSub .i64 3 (sLen y1)) 0)) fun y2 =>
    sel (sOk a10 y2) (
    sel (sOk (sAdd a10 y2) y1) (
    some (.inl ((a0, (a1, (a2, a3))), ((a4, ((sAdd (sAdd a10 y2) y1), a6)), ((a7, (a8, a9)), (a10, (iAdd .i64 a11 1))))))) none) none)
    (some (.inr ((a4, (a5, a6)), (a7, (a8, a9)))))
def L99_0 (x : (((List (Int × ByteArray)) × (Int × ((List ((ByteArray × (ByteArray × Int)) × (Int × Int))) × (List (Int × Int))))) × ((ByteArray × (ByteArray × Int)) × ((ByteArray × (ByteArray × Int)) × (ByteArray × Int))))) : Option ((ByteArray × (ByteArray × Int)) × (ByteArray × (ByteArray × Int))) := iter (fun (x : (((List (Int × ByteArray)) × (Int × ((List ((ByteArray × (ByteArray × Int)) × (Int × Int))) × (List (Int × Int))))) × ((ByteArray × (ByteArray × Int)) × ((ByteArray × (ByteArray × Int)) × (ByteArray × Int))))) => (B99_0 x.1.1 x.1.2.1 x.1.2.2.1 x.1.2.2.2 x.2.1.1 x.2.1.2.1 x.2.1.2.2 x.2.2.1.1 x.2.2.1.2.1 x.2.2.1.2.2 x.2.2.2.1 x.2.2.2.2)) fuel x
def lsL99_0 : LS := ⟨(.one .normal ⟨.non, [2, 3, 4, 5, 6], (.seq (.box 0 (.seq (.dat (.sl (.pr (.int .i64) .str))) (.seq (.dat (.int .i64)) (.seq (.dat (.sl (.pr (.pr .str (.pr .str (.int .i64))) (.pr (.int .i64) (.int .i64))))) (.dat (.sl (.pr (.int .i64) (.int .i64)))))))) (.seq (.box 1 (.seq (.dat .str) (.seq (.dat .str) (.dat (.int .i64))))) (.seq (.box 2 (.seq (.dat .str) (.seq (.dat .str) (.dat (.int .i64))))) (.seq (.dat .str) (.dat (.int .i64)))))), 3, 35, 0⟩), (.one (.exit 0) ⟨.non, [3, 4], (.seq (.box 0 (.seq (.dat .str) (.seq (.dat .str) (.dat (.int .i64))))) (.box 1 (.seq (.dat .str) (.seq (.dat .str) (.dat (.int .i64)))))), 2, 35, 0⟩), fun (x : (((List (Int × ByteArray)) × (Int × ((List ((ByteArray × (ByteArray × Int)) × (Int × Int))) × (List (Int × Int))))) × ((ByteArray × (ByteArray × Int)) × ((ByteArray × (ByteArray × Int)) × (ByteArray × Int))))) => (B99_0 x.1.1 x.1.2.1 x.1.2.2.1 x.1.2.2.2 x.2.1.1 x.2.1.2.1 x.2.1.2.2 x.2.2.1.1 x.2.2.1.2.1 x.2.2.1.2.2 x.2.2.2.1 x.2.2.2.2)⟩
/-- ipl.freeName -/
def F99 (a0 : (((List (Int × ByteArray)) × Int) × ((List ((ByteArray × (ByteArray × Int)) × (Int × Int))) × (List (Int × Int))))) (a1 : (ByteArray × (ByteArray × Int))) : Option (ByteArray × (ByteArray × Int)) :=
  sel (oCut 0 (sel (iLt 7 (sLen a1.2.1)) 7 (sLen a1.2.1)) (sLen a1.2.1)) (
  bndS (L99_0 ((a0.1.1, (a0.1.2, a0.2)), (((bs [81, 82, 67, 76]), a1.2), (((bs []), ((bs []), 0)), ((sCut a1.2.1 0 (sel (iLt 7 (sLen a1.2.1)) 7 (sLen a1.2.1))), 1))))) fun y0 =>
  some y0.1) none
def gF99 : FS := ⟨(.seq (.agg (.dat (.pr (.pr (.sl (.pr (.int .i64) .str)) (.int .i64)) (.pr (.sl (.pr (.pr .str (.pr .str (.int .i64))) (.pr (.int .i64) (.int .i64)))) (.sl (.pr (.int .i64) (.int .i64))))))) (.agg (.dat (.pr .str (.pr .str (.int .i64)))))), 0, (.one ⟨.non, (.agg (.dat (.pr .str (.pr .str (.int .i64))))), 0, 0⟩), fun x => (F99 x.1 x.2)⟩
theorem rL99_0 (x : lsL99_0.hd.T) : kRound env (GofL [(70, [gFRepeat]), (151, [gF151]), (82, [gF82])]) (LofL [(99, [(0, lsL99_0)])]) 99 0 (lpOf Tryz.prog 99 0).2 (lsL99_0.hd.st x) lsL99_0.rd = lsL99_0.B x := by kernel_rfl
theorem eF99 (x : gF99.a.T) : kF env (GofL [(70, [gFRepeat]), (151, [gF151]), (82, [gF82])]) (LofL [(99, [(0, lsL99_0)])]) 99 (gF99.args x) (gF99.bs x) gF99.r.dec = gF99.F x := by kernel_rfl
theorem sF99 : SpecAt env 5 99 gF99 := mkSpec (r := 4) (gl := [(70, [gFRepeat]), (151, [gF151]), (82, [gF82])]) (L0 := [(0, lsL99_0)]) (by kernel_rfl) ⟨⟨sFRepeat.up (by decide), trivial⟩, ⟨sF151.up (by decide), trivial⟩, ⟨sF82.up (by decide), trivial⟩, trivial⟩ ⟨⟨0, by kernel_rfl, by kernel_rfl, rL99_0⟩, trivial⟩ eF99 (fun h => absurd h (by rw [show env.nl 99 = false by kernel_rfl]; decide))
/-- ipl.enter -/
def F85_1 (a0 : (List (Int × ByteArray))) (a1 : Int) (a2 : (List (Int × Int))) (a3 : ((ByteArray × (ByteArray × Int)) × (Int × Int))) : Option ((List (Int × ByteArray)) × (Int × ((List ((ByteArray × (ByteArray × Int)) × (Int × Int))) × (List (Int × Int))))) :=
  sel (lCap 56 [a3]) (
  bndS (F140 [a3]) fun y0 =>
  some (a0, (a1, (y0, a2)))) none
def gF85_1 : FS := ⟨(.seq (.box 0 (.seq (.own 1 (.pr (.int .i64) .str)) (.seq (.dat (.int .i64)) (.seq (.lit (.slice none 0 0)) (.own 2 (.pr (.int .i64) (.int .i64))))))) (.agg (.dat (.pr (.pr .str (.pr .str (.int .i64))) (.pr (.int .i64) (.int .i64)))))), 3, (.one ⟨(.box 0 (.seq (.own 1 (.pr (.int .i64) .str)) (.seq (.dat (.int .i64)) (.seq (.own 3 (.pr (.pr .str (.pr .str (.int .i64))) (.pr (.int .i64) (.int .i64)))) (.own 2 (.pr (.int .i64) (.int .i64))))))), (.tup .non), 3, 1⟩), fun x => (F85_1 x.1.1 x.1.2.1 x.1.2.2 x.2)⟩
theorem eF85_1 (x : gF85_1.a.T) : kF env (GofL [(140, [gF140])]) (LofL [(85, [])]) 85 (gF85_1.args x) (gF85_1.bs x) gF85_1.r.dec = gF85_1.F x := by kernel_rfl
theorem sF85_1 : SpecAt env 8 85 gF85_1 := mkSpec (r := 7) (gl := [(140, [gF140])]) (L0 := []) (by kernel_rfl) ⟨⟨sF140.up (by decide), trivial⟩, trivial⟩ trivial eF85_1 (fun h => absurd h (by rw [show env.nl 85 = false by kernel_rfl]; decide))
/-- slices.Delete[[]api.Segment,api.Segment] -/
def F150 (a0 : (List (Int × ByteArray))) (a1 : Int) (a2 : Int) : Option (List (Int × ByteArray)) :=
  sel (oCut 0 (lLen a0) (lLen a0)) (
  sel (oCut a1 a2 (lLen a0)) (
  sel (iEq a1 a2)
    (some a0)
    (sel (oCut 0 a1 (lLen a0)) (
    sel (oCut a2 (lLen a0) (lLen a0)) (
    sel (iLe (pAdd a1 (lLen (lCut a0 a2 (lLen a0)))) (lLen a0)) (
    sel (oCut (pSub (pAdd a1 (lLen (lCut a0 a2 (lLen a0)))) 0) (lLen a0) (pSub (lLen (lCpy a0 a1 (pAdd a1 (lLen (lCut a0 a2 (lLen a0)))) (lCut a0 a2 (lLen a0)))) 0)) (
    some (lCut (lCpy (lCpy a0 a1 (pAdd a1 (lLen (lCut a0 a2 (lLen a0)))) (lCut a0 a2 (lLen a0))) (pAdd 0 (pSub (pAdd a1 (lLen (lCut a0 a2 (lLen a0)))) 0)) (pAdd 0 (lLen a0)) (lRep (pSub (pAdd 0 (lLen a0)) (pAdd 0 (pSub (pAdd a1 (lLen (lCut a0 a2 (lLen a0)))) 0))) ((0, (bs [])) : (Int × ByteArray)))) 0 (pAdd a1 (lLen (lCut a0 a2 (lLen a0)))))) none) none) none) none)) none) none
def gF150 : FS := ⟨(.seq (.own 0 (.pr (.int .i64) .str)) (.seq (.dat (.int .i64)) (.dat (.int .i64)))), 1, (.one ⟨.non, (.own 1 (.pr (.int .i64) .str)), 1, 1⟩), fun x => (F150 x.1 x.2.1 x.2.2)⟩
theorem eF150 (x : gF150.a.T) : kF env (GofL []) (LofL [(150, [])]) 150 (gF150.args x) (gF150.bs x) gF150.r.dec = gF150.F x := by kernel_rfl
theorem sF150 : SpecAt env 1 150 gF150 := mkSpec (r := 0) (gl := []) (L0 := []) (by kernel_rfl) trivial trivial eF150 (fun h => absurd h (by rw [show env.nl 150 = false by kernel_rfl]; decide))
/-- segment.Destroyed -/
def F98 (a0 : ((List (Int × ByteArray)) × Int)) (a1 : Int) : Option (((List (Int × ByteArray)) × Int) × Int) :=
  bndS (F149 a0 a1) fun y0 =>
  sel (bNot (iEq y0.2 0))
    (some ((([] : List (Int × ByteArray)), 0), y0.2))
    (bndS (F116 a0.1) fun y1 =>
    bndS (F150 y1 y0.1 (iAdd .i64 y0.1 1)) fun y2 =>
    some ((y2, a0.2), 0))
def gF98 : FS := ⟨(.seq (.agg (.dat (.pr (.sl (.pr (.int .i64) .str)) (.int .i64)))) (.dat (.int .i64))), 0, (.one ⟨.non, (.tup (.seq (.agg (.seq (.own 0 (.pr (.int .i64) .str)) (.dat (.int .i64)))) (.dat (.int .i64)))), 0, 1⟩), fun x => (F98 x.1 x.2)⟩
theorem eF98 (x : gF98.a.T) : kF env (GofL [(150, [gF150]), (116, [gF116]), (149, [gF149])]) (LofL [(98, [])]) 98 (gF98.args x) (gF98.bs x) gF98.r.dec = gF98.F x := by kernel_rfl
theorem sF98 : SpecAt env 4 98 gF98 := mkSpec (r := 3) (gl := [(150, [gF150]), (116, [gF116]), (149, [gF149])]) (L0 := []) (by kernel_rfl) ⟨⟨sF150.up (by decide), trivial⟩, ⟨sF116.up (by decide), trivial⟩, ⟨sF149.up (by decide), trivial⟩, trivial⟩ trivial eF98 (fun h => absurd h (by rw [show env.nl 98 = false by kernel_rfl]; decide))
/-- ipl.Reclaim$1 -/
def F97 (a0 : ((ByteArray × (ByteArray × Int)) × (Int × Int))) (a1 : Int) (a2 : ByteArray) : ((Int × ByteArray) × Bool) :=
  ((a1, a2), (iEq a0.2.1 a1))
def gF97 : FS := ⟨(.seq (.agg (.dat (.pr (.pr .str (.pr .str (.int .i64))) (.pr (.int .i64) (.int .i64))))) (.box 0 (.seq (.dat (.int .i64)) (.dat .str)))), 1, (.one ⟨(.box 0 (.seq (.dat (.int .i64)) (.dat .str))), (.dat .bool), 1, 0⟩), fun x => some (F97 x.1 x.2.1 x.2.2)⟩
theorem eF97 (x : gF97.a.T) : kF env (GofL []) (LofL [(97, [])]) 97 (gF97.args x) (gF97.bs x) gF97.r.dec = gF97.F x := by kernel_rfl
theorem sF97 : SpecAt env 1 97 gF97 := mkSpec (r := 0) (gl := []) (L0 := []) (by kernel_rfl) trivial trivial eF97 (fun h => absurd h (by rw [show env.nl 97 = false by kernel_rfl]; decide))
def B113_0_3 (a0 : (List ((ByteArray × (ByteArray × Int)) × (Int × Int)))) (a1 : Int) (a2 : ByteArray) (a3 : Int) (a4 : Int) : Option ((((List ((ByteArray × (ByteArray × Int)) × (Int × Int))) × (Int × ByteArray)) × (Int × Int)) ⊕ (((List ((ByteArray × (ByteArray × Int)) × (Int × Int))) × (Int × ByteArray)) ⊕ (((List ((ByteArray × (ByteArray × Int)) × (Int × Int))) × (Int × ByteArray)) × Int))) :=
  sel (iLt a4 a3)
    (sel (oIn a4 (lLen a0)) (
    letS (F97 (lAt a0 a4) a1 a2) fun y0 =>
    sel y0.2
      (some (.inr (.inr ((a0, y0.1), a4))))
      (some (.inl ((a0, y0.1), (a3, (iAdd .i64 a4 1)))))) none)
    (some (.inr (.inl (a0, (a1, a2)))))
def L113_0_3 (x : (((List ((ByteArray × (ByteArray × Int)) × (Int × Int))) × (Int × ByteArray)) × (Int × Int))) : Option (((List ((ByteArray × (ByteArray × Int)) × (Int × Int))) × (Int × ByteArray)) ⊕ (((List ((ByteArray × (ByteArray × Int)) × (Int × Int))) × (Int × ByteArray)) × Int)) := iter (fun (x : (((List ((ByteArray × (ByteArray × Int)) × (Int × Int))) × (Int × ByteArray)) × (Int × Int))) => (B113_0_3 x.1.1 x.1.2.1 x.1.2.2 x.2.1 x.2.2)) fuel x
def lsL113_0_3 : LS := ⟨(.one .normal ⟨(.seq (.own 0 (.pr (.pr .str (.pr .str (.int .i64))) (.pr (.int .i64) (.int .i64)))) (.box 1 (.seq (.dat (.int .i64)) (.dat .str)))), [0, 1, 7, 8], (.seq (.alo 0) (.seq (.fn 97 (.ptr 1 2 0)) (.seq (.dat (.int .i64)) (.dat (.int .i64))))), 2, 19, 2⟩), (.two (.one (.exit 0) ⟨(.seq (.own 0 (.pr (.pr .str (.pr .str (.int .i64))) (.pr (.int .i64) (.int .i64)))) (.box 1 (.seq (.dat (.int .i64)) (.dat .str)))), [], .non, 2, 19, 2⟩) (.one .ret ⟨(.seq (.own 0 (.pr (.pr .str (.pr .str (.int .i64))) (.pr (.int .i64) (.int .i64)))) (.box 1 (.seq (.dat (.int .i64)) (.dat .str)))), [4], (.dat (.int .i64)), 2, 19, 2⟩)), fun (x : (((List ((ByteArray × (ByteArray × Int)) × (Int × Int))) × (Int × ByteArray)) × (Int × Int))) => (B113_0_3 x.1.1 x.1.2.1 x.1.2.2 x.2.1 x.2.2)⟩
/-- slices.IndexFunc[[]api.DirectoryEntry,api.DirectoryEntry] -/
def F113_3 (a0 : (List ((ByteArray × (ByteArray × Int)) × (Int × Int)))) (a1 : Int) (a2 : ByteArray) : Option (((List ((ByteArray × (ByteArray × Int)) × (Int × Int))) × (Int × ByteArray)) × Int) :=
  bndS (L113_0_3 ((a0, (a1, a2)), ((lLen a0), 0))) fun y0 =>
  sumS y0 (fun y0a =>
    some (y0a, (-1))) fun y0b =>
    some y0b
def gF113_3 : FS := ⟨(.seq (.own 0 (.pr (.pr .str (.pr .str (.int .i64))) (.pr (.int .i64) (.int .i64)))) (.fn 97 (.box 1 (.seq (.dat (.int .i64)) (.dat .str))))), 2, (.one ⟨(.seq (.own 0 (.pr (.pr .str (.pr .str (.int .i64))) (.pr (.int .i64) (.int .i64)))) (.box 1 (.seq (.dat (.int .i64)) (.dat .str)))), (.dat (.int .i64)), 2, 0⟩), fun x => (F113_3 x.1 x.2.1 x.2.2)⟩
theorem rL113_0_3 (x : lsL113_0_3.hd.T) : kRound env (GofL [(97, [gF97])]) (LofL [(113, [(0, lsL113_0_3)])]) 113 0 (lpOf Tryz.prog 113 0).2 (lsL113_0_3.hd.st x) lsL113_0_3.rd = lsL113_0_3.B x := by kernel_rfl
theorem eF113_3 (x : gF113_3.a.T) : kF env (GofL [(97, [gF97])]) (LofL [(113, [(0, lsL113_0_3)])]) 113 (gF113_3.args x) (gF113_3.bs x) gF113_3.r.dec = gF113_3.F x := by kernel_rfl
theorem sF113_3 : SpecAt env 2 113 gF113_3 := mkSpec (r := 1) (gl := [(97, [gF97])]) (L0 := [(0, lsL113_0_3)]) (by kernel_rfl) ⟨⟨sF97.up (by decide), trivial⟩, trivial⟩ ⟨⟨0, by kernel_rfl, by kernel_rfl, rL113_0_3⟩, trivial⟩ eF113_3 (fun h => absurd h (by rw [show env.nl 113 = false by kernel_rfl]; decide))
/-- slices.ContainsFunc[[]api.DirectoryEntry,api.DirectoryEntry] -/
def F60_2 (a0 : (List ((ByteArray × (ByteArray × Int)) × (Int × Int)))) (a1 : Int) (a2 : ByteArray) : Option (((List ((ByteArray × (ByteArray × Int)) × (Int × Int))) × (Int × ByteArray)) × Bool) :=
  bndS (F113_3 a0 a1 a2) fun y0 =>
  some (y0.1, (iLe 0 y0.2))
def gF60_2 : FS := ⟨(.seq (.own 0 (.pr (.pr .str (.pr .str (.int .i64))) (.pr (.int .i64) (.int .i64)))) (.fn 97 (.box 1 (.seq (.dat (.int .i64)) (.dat .str))))), 2, (.one ⟨(.seq (.own 0 (.pr (.pr .str (.pr .str (.int .i64))) (.pr (.int .i64) (.int .i64)))) (.box 1 (.seq (.dat (.int .i64)) (.dat .str)))), (.dat .bool), 2, 0⟩), fun x => (F60_2 x.1 x.2.1 x.2.2)⟩
theorem eF60_2 (x : gF60_2.a.T) : kF env (GofL [(113, [gF113_3])]) (LofL [(60, [])]) 60 (gF60_2.args x) (gF60_2.bs x) gF60_2.r.dec = gF60_2.F x := by kernel_rfl
theorem sF60_2 : SpecAt env 3 60 gF60_2 := mkSpec (r := 2) (gl := [(113, [gF113_3])]) (L0 := []) (by kernel_rfl) ⟨⟨sF113_3.up (by decide), trivial⟩, trivial⟩ trivial eF60_2 (fun h => absurd h (by rw [show env.nl 60 = false by kernel_rfl]; decide))
def B41_2h0 (a0 : Int) (a1 : (List (Int × ByteArray))) (a2 : Int) (a3 : (List (Int × Int))) (a4 : (List (Int × (Int × (Int × (ByteArray × (ByteArray × Int))))))) (a5 : (List (Int × ByteArray))) (a6 : Int) (a7 : Int) : Option (((Int × (((List (Int × ByteArray)) × (Int × (List (Int × Int)))) × ((List (Int × (Int × (Int × (ByteArray × (ByteArray × Int)))))) × ((List (Int × ByteArray)) × (Int × Int))))) ⊕ (Int × (((List (Int × ByteArray)) × (Int × ((List ((ByteArray × (ByteArray × Int)) × (Int × Int))) × (List (Int × Int))))) × ((List (Int × (Int × (Int × (ByteArray × (ByteArray × Int)))))) × ((List (Int × ByteArray)) × (Int × Int)))))) ⊕ ((Int × (((List (Int × ByteArray)) × (Int × (List (Int × Int)))) × (List (Int × (Int × (Int × (ByteArray × (ByteArray × Int)))))))) ⊕ ((Int × (((List (Int × ByteArray)) × (Int × ((List ((ByteArray × (ByteArray × Int)) × (Int × Int))) × (List (Int × Int))))) × (List (Int × (Int × (Int × (ByteArray × (ByteArray × Int)))))))) ⊕ (Int × Int)))) :=
  sel (iLt a7 a6)
    (sel (oIn a7 (lLen a5)) (
    bndS (F60_1 (lAt a5 a7).1 (lAt a5 a7).2) fun y0 =>
    sel y0.2
      (some (.inl (.inl (a0, ((a1, (a2, a3)), (a4, (a5, (a6, (iAdd .i64 a7 1)))))))))
      (sel (oCut 0 32 (sLen y0.1.2)) (
      bndS (F16 (sCut y0.1.2 0 32)) fun y1 =>
      sel (bNot (iEq y1.2.2 0))
        (bndS (F98 (a1, a2) y0.1.1) fun y6 =>
        sel (lCap 64 (lApp a4 [(2, (y0.1.1, (0, ((bs []), ((bs []), 0)))))])) (
        some (.inl (.inl (a0, ((y6.1.1, (y6.1.2, a3)), ((lApp a4 [(2, (y0.1.1, (0, ((bs []), ((bs []), 0)))))]), (a5, (a6, (iAdd .i64 a7 1))))))))) none)
        (bndS (F99 ((a1, a2), ([], a3)) y1.1) fun y2 =>
        sel (oNz 32) (
        bndS (F79 y2 (iQuo .i64 (sLen y0.1.2) 32)) fun y3 =>
        bndS (F84 (a1, a2) (y0.1.1, 0) y3) fun y4 =>
        bndS (F85_1 y4.1.1 y4.1.2 a3 (y2, (y0.1.1, 0))) fun y5 =>
        sel (lCap 64 (lApp a4 [(1, (y0.1.1, (0, y2)))])) (
        some (.inl (.inr (a0, (y5, ((lApp a4 [(1, (y0.1.1, (0, y2)))]), (a5, (a6, (iAdd .i64 a7 1))))))))) none) none)) none)) none)
    (some (.inr (.inl (a0, ((a1, (a2, a3)), a4)))))
def B41_2h1 (a0 : Int) (a1 : (List (Int × ByteArray))) (a2 : Int) (a3 : (List ((ByteArray × (ByteArray × Int)) × (Int × Int)))) (a4 : (List (Int × Int))) (a5 : (List (Int × (Int × (Int × (ByteArray × (ByteArray × Int))))))) (a6 : (List (Int × ByteArray))) (a7 : Int) (a8 : Int) : Option (((Int × (((List (Int × ByteArray)) × (Int × (List (Int × Int)))) × ((List (Int × (Int × (Int × (ByteArray × (ByteArray × Int)))))) × ((List (Int × ByteArray)) × (Int × Int))))) ⊕ (Int × (((List (Int × ByteArray)) × (Int × ((List ((ByteArray × (ByteArray × Int)) × (Int × Int))) × (List (Int × Int))))) × ((List (Int × (Int × (Int × (ByteArray × (ByteArray × Int)))))) × ((List (Int × ByteArray)) × (Int × Int)))))) ⊕ ((Int × (((List (Int × ByteArray)) × (Int × (List (Int × Int)))) × (List (Int × (Int × (Int × (ByteArray × (ByteArray × Int)))))))) ⊕ ((Int × (((List (Int × ByteArray)) × (Int × ((List ((ByteArray × (ByteArray × Int)) × (Int × Int))) × (List (Int × Int))))) × (List (Int × (Int × (Int × (ByteArray × (ByteArray × Int)))))))) ⊕ (Int × Int)))) :=
  sel (iLt a8 a7)
    (sel (oIn a8 (lLen a6)) (
    bndS (F60_2 a3 (lAt a6 a8).1 (lAt a6 a8).2) fun y0 =>
    sel y0.2
      (some (.inl (.inr (a0, ((a1, (a2, (y0.1.1, a4))), (a5, (a6, (a7, (iAdd .i64 a8 1)))))))))
      (sel (oCut 0 32 (sLen y0.1.2.2)) (
      bndS (F16 (sCut y0.1.2.2 0 32)) fun y1 =>
      sel (bNot (iEq y1.2.2 0))
        (bndS (F98 (a1, a2) y0.1.2.1) fun y6 =>
        sel (lCap 64 (lApp a5 [(2, (y0.1.2.1, (0, ((bs []), ((bs []), 0)))))])) (
        some (.inl (.inr (a0, ((y6.1.1, (y6.1.2, (y0.1.1, a4))), ((lApp a5 [(2, (y0.1.2.1, (0, ((bs []), ((bs []), 0)))))]), (a6, (a7, (iAdd .i64 a8 1))))))))) none)
        (sel (iEq (lLen y0.1.1) 12)
          (some (.inr (.inr (.inr (0, 2)))))
          (bndS (F99 ((a1, a2), (y0.1.1, a4)) y1.1) fun y2 =>
          sel (oNz 32) (
          bndS (F79 y2 (iQuo .i64 (sLen y0.1.2.2) 32)) fun y3 =>
          bndS (F84 (a1, a2) (y0.1.2.1, 0) y3) fun y4 =>
          bndS (F85 y4.1.1 y4.1.2 y0.1.1 a4 (y2, (y0.1.2.1, 0))) fun y5 =>
          sel (lCap 64 (lApp a5 [(1, (y0.1.2.1, (0, y2)))])) (
          some (.inl (.inr (a0, (y5, ((lApp a5 [(1, (y0.1.2.1, (0, y2)))]), (a6, (a7, (iAdd .i64 a8 1))))))))) none) none))) none)) none)
    (some (.inr (.inr (.inl (a0, ((a1, (a2, (a3, a4))), a5))))))
def L41_2 (x : ((Int × (((List (Int × ByteArray)) × (Int × (List (Int × Int)))) × ((List (Int × (Int × (Int × (ByteArray × (ByteArray × Int)))))) × ((List (Int × ByteArray)) × (Int × Int))))) ⊕ (Int × (((List (Int × ByteArray)) × (Int × ((List ((ByteArray × (ByteArray × Int)) × (Int × Int))) × (List (Int × Int))))) × ((List (Int × (Int × (Int × (ByteArray × (ByteArray × Int)))))) × ((List (Int × ByteArray)) × (Int × Int))))))) : Option ((Int × (((List (Int × ByteArray)) × (Int × (List (Int × Int)))) × (List (Int × (Int × (Int × (ByteArray × (ByteArray × Int)))))))) ⊕ ((Int × (((List (Int × ByteArray)) × (Int × ((List ((ByteArray × (ByteArray × Int)) × (Int × Int))) × (List (Int × Int))))) × (List (Int × (Int × (Int × (ByteArray × (ByteArray × Int)))))))) ⊕ (Int × Int))) := iter (fun (x : ((Int × (((List (Int × ByteArray)) × (Int × (List (Int × Int)))) × ((List (Int × (Int × (Int × (ByteArray × (ByteArray × Int)))))) × ((List (Int × ByteArray)) × (Int × Int))))) ⊕ (Int × (((List (Int × ByteArray)) × (Int × ((List ((ByteArray × (ByteArray × Int)) × (Int × Int))) × (List (Int × Int))))) × ((List (Int × (Int × (Int × (ByteArray × (ByteArray × Int)))))) × ((List (Int × ByteArray)) × (Int × Int))))))) => (sumS x (fun x => (B41_2h0 x.1 x.2.1.1 x.2.1.2.1 x.2.1.2.2 x.2.2.1 x.2.2.2.1 x.2.2.2.2.1 x.2.2.2.2.2)) fun x => (B41_2h1 x.1 x.2.1.1 x.2.1.2.1 x.2.1.2.2.1 x.2.1.2.2.2 x.2.2.1 x.2.2.2.1 x.2.2.2.2.1 x.2.2.2.2.2))) fuel x
def lsL41_2 : LS := ⟨(.two (.one .normal ⟨.non, [2, 7, 8, 68, 69, 70], (.seq (.box 0 (.seq (.lit (.slice none 0 0)) (.seq (.dat (.int .i64)) (.seq (.lit (.slice none 0 0)) (.lit (.slice none 0 0)))))) (.seq (.box 1 (.seq (.own 2 (.pr (.int .i64) .str)) (.seq (.dat (.int .i64)) (.seq (.lit (.slice none 0 0)) (.own 3 (.pr (.int .i64) (.int .i64))))))) (.seq (.own 4 (.pr (.int .i64) (.pr (.int .i64) (.pr (.int .i64) (.pr .str (.pr .str (.int .i64))))))) (.seq (.dat (.sl (.pr (.int .i64) .str))) (.seq (.dat (.int .i64)) (.dat (.int .i64))))))), 5, 142, 0⟩) (.one .normal ⟨.non, [2, 7, 8, 68, 69, 70], (.seq (.box 0 (.seq (.lit (.slice none 0 0)) (.seq (.dat (.int .i64)) (.seq (.lit (.slice none 0 0)) (.lit (.slice none 0 0)))))) (.seq (.box 1 (.seq (.own 2 (.pr (.int .i64) .str)) (.seq (.dat (.int .i64)) (.seq (.own 3 (.pr (.pr .str (.pr .str (.int .i64))) (.pr (.int .i64) (.int .i64)))) (.own 4 (.pr (.int .i64) (.int .i64))))))) (.seq (.own 5 (.pr (.int .i64) (.pr (.int .i64) (.pr (.int .i64) (.pr .str (.pr .str (.int .i64))))))) (.seq (.dat (.sl (.pr (.int .i64) .str))) (.seq (.dat (.int .i64)) (.dat (.int .i64))))))), 6, 142, 0⟩)), (.two (.one (.exit 2) ⟨.non, [2, 7, 8], (.seq (.box 0 (.seq (.lit (.slice none 0 0)) (.seq (.dat (.int .i64)) (.seq (.lit (.slice none 0 0)) (.lit (.slice none 0 0)))))) (.seq (.box 1 (.seq (.own 2 (.pr (.int .i64) .str)) (.seq (.dat (.int .i64)) (.seq (.lit (.slice none 0 0)) (.own 3 (.pr (.int .i64) (.int .i64))))))) (.own 4 (.pr (.int .i64) (.pr (.int .i64) (.pr (.int .i64) (.pr .str (.pr .str (.int .i64))))))))), 5, 142, 0⟩) (.two (.one (.exit 2) ⟨.non, [2, 7, 8], (.seq (.box 0 (.seq (.lit (.slice none 0 0)) (.seq (.dat (.int .i64)) (.seq (.lit (.slice none 0 0)) (.lit (.slice none 0 0)))))) (.seq (.box 1 (.seq (.own 2 (.pr (.int .i64) .str)) (.seq (.dat (.int .i64)) (.seq (.own 3 (.pr (.pr .str (.pr .str (.int .i64))) (.pr (.int .i64) (.int .i64)))) (.own 4 (.pr (.int .i64) (.int .i64))))))) (.own 5 (.pr (.int .i64) (.pr (.int .i64) (.pr (.int .i64) (.pr .str (.pr .str (.int .i64))))))))), 6, 142, 0⟩) (.one .ret ⟨.non, [2, 3, 4], (.seq (.box 0 (.seq (.lit (.slice none 0 0)) (.seq (.dat (.int .i64)) (.seq (.lit (.slice none 0 0)) (.lit (.slice none 0 0)))))) (.seq (.lit (.slice none 0 0)) (.dat (.int .i64)))), 1, 142, 0⟩))), fun (x : ((Int × (((List (Int × ByteArray)) × (Int × (List (Int × Int)))) × ((List (Int × (Int × (Int × (ByteArray × (ByteArray × Int)))))) × ((List (Int × ByteArray)) × (Int × Int))))) ⊕ (Int × (((List (Int × ByteArray)) × (Int × ((List ((ByteArray × (ByteArray × Int)) × (Int × Int))) × (List (Int × Int))))) × ((List (Int × (Int × (Int × (ByteArray × (ByteArray × Int)))))) × ((List (Int × ByteArray)) × (Int × Int))))))) => (sumS x (fun x => (B41_2h0 x.1 x.2.1.1 x.2.1.2.1 x.2.1.2.2 x.2.2.1 x.2.2.2.1 x.2.2.2.2.1 x.2.2.2.2.2)) fun x => (B41_2h1 x.1 x.2.1.1 x.2.1.2.1 x.2.1.2.2.1 x.2.1.2.2.2 x.2.2.1 x.2.2.2.1 x.2.2.2.2.1 x.2.2.2.2.2))⟩
/-- ipl.Reclaim -/
def F41 (a0 : (((List (Int × ByteArray)) × Int) × ((List ((ByteArray × (ByteArray × Int)) × (Int × Int))) × (List (Int × Int))))) : Option (((List (Int × ByteArray)) × (Int × ((List ((ByteArray × (ByteArray × Int)) × (Int × Int))) × (List (Int × Int))))) × ((List (Int × (Int × (Int × (ByteArray × (ByteArray × Int)))))) × Int)) :=
  bndS (F19 a0) fun y0 =>
  sel (bNot (iEq y0.2 0))
    (some ((([] : List (Int × ByteArray)), (0, (([] : List ((ByteArray × (ByteArray × Int)) × (Int × Int))), ([] : List (Int × Int))))), (([] : List (Int × (Int × (Int × (ByteArray × (ByteArray × Int)))))), y0.2)))
    (sel (iLt 0 (lLen a0.2.2))
      (some ((([] : List (Int × ByteArray)), (0, (([] : List ((ByteArray × (ByteArray × Int)) × (Int × Int))), ([] : List (Int × Int))))), (([] : List (Int × (Int × (Int × (ByteArray × (ByteArray × Int)))))), 26)))
      (bndS (F69 a0) fun y1 =>
      bndS (L41_0 (.inl ((a0.1.1, (a0.1.2, a0.2)), (0, ((y1.1, (y1.2.1, y1.2.2.2)), (([] : List (Int × (Int × (Int × (ByteArray × (ByteArray × Int)))))), (a0.2.1, ((lLen a0.2.1), 0)))))))) fun y2 =>
      sumS y2 (fun y2a =>
        bndS (L41_2 (.inl (y2a.2.1, (y2a.2.2.1, (y2a.2.2.2, (y2a.1.1, ((lLen y2a.1.1), 0))))))) fun y3 =>
        sumS y3 (fun y3a =>
          some ((y3a.2.1.1, (y3a.2.1.2.1, (([] : List ((ByteArray × (ByteArray × Int)) × (Int × Int))), y3a.2.1.2.2))), (y3a.2.2, 0))) fun y3ar =>
          sumS y3ar (fun y3aa =>
          some (y3aa.2.1, (y3aa.2.2, 0))) fun y3ab =>
          some ((([] : List (Int × ByteArray)), (y3ab.1, (([] : List ((ByteArray × (ByteArray × Int)) × (Int × Int))), ([] : List (Int × Int))))), (([] : List (Int × (Int × (Int × (ByteArray × (ByteArray × Int)))))), y3ab.2))) fun y2b =>
        bndS (L41_2 (.inr (y2b.2.1, (y2b.2.2.1, (y2b.2.2.2, (y2b.1.1, ((lLen y2b.1.1), 0))))))) fun y4 =>
        sumS y4 (fun y4a =>
          some ((y4a.2.1.1, (y4a.2.1.2.1, (([] : List ((ByteArray × (ByteArray × Int)) × (Int × Int))), y4a.2.1.2.2))), (y4a.2.2, 0))) fun y4ar =>
          sumS y4ar (fun y4aa =>
          some (y4aa.2.1, (y4aa.2.2, 0))) fun y4ab =>
          some ((([] : List (Int × ByteArray)), (y4ab.1, (([] : List ((ByteArray × (ByteArray × Int)) × (Int × Int))), ([] : List (Int × Int))))), (([] : List (Int × (Int × (Int × (ByteArray × (ByteArray × Int)))))), y4ab.2))))
def gF41 : FS := ⟨(.agg (.dat (.pr (.pr (.sl (.pr (.int .i64) .str)) (.int .i64)) (.pr (.sl (.pr (.pr .str (.pr .str (.int .i64))) (.pr (.int .i64) (.int .i64)))) (.sl (.pr (.int .i64) (.int .i64))))))), 0, (.one ⟨.non, (.tup (.seq (.agg (.seq (.own 0 (.pr (.int .i64) .str)) (.seq (.dat (.int .i64)) (.seq (.own 1 (.pr (.pr .str (.pr .str (.int .i64))) (.pr (.int .i64) (.int .i64)))) (.own 2 (.pr (.int .i64) (.int .i64))))))) (.seq (.own 3 (.pr (.int .i64) (.pr (.int .i64) (.pr (.int .i64) (.pr .str (.pr .str (.int .i64))))))) (.dat (.int .i64))))), 0, 4⟩), fun x => (F41 x)⟩
theorem rL41_0 (x : lsL41_0.hd.T) : kRound env (GofL [(98, [gF98]), (85, [gF85, gF85_1]), (84, [gF84]), (79, [gF79]), (99, [gF99]), (16, [gF16]), (60, [gF60_2, gF60_1]), (96, [gF96]), (69, [gF69]), (19, [gF19])]) (LofL [(41, [(0, lsL41_0), (2, lsL41_2)])]) 41 0 (lpOf Tryz.prog 41 0).2 (lsL41_0.hd.st x) lsL41_0.rd = lsL41_0.B x := by rcases x with x | x <;> kernel_rfl
theorem rL41_2 (x : lsL41_2.hd.T) : kRound env (GofL [(98, [gF98]), (85, [gF85, gF85_1]), (84, [gF84]), (79, [gF79]), (99, [gF99]), (16, [gF16]), (60, [gF60_2, gF60_1]), (96, [gF96]), (69, [gF69]), (19, [gF19])]) (LofL [(41, [(0, lsL41_0), (2, lsL41_2)])]) 41 2 (lpOf Tryz.prog 41 1).2 (lsL41_2.hd.st x) lsL41_2.rd = lsL41_2.B x := by rcases x with x | x <;> kernel_rfl
theorem eF41 (x : gF41.a.T) : kF env (GofL [(98, [gF98]), (85, [gF85, gF85_1]), (84, [gF84]), (79, [gF79]), (99, [gF99]), (16, [gF16]), (60, [gF60_2, gF60_1]), (96, [gF96]), (69, [gF69]), (19, [gF19])]) (LofL [(41, [(0, lsL41_0), (2, lsL41_2)])]) 41 (gF41.args x) (gF41.bs x) gF41.r.dec = gF41.F x := by kernel_rfl
theorem sF41 : SpecAt env 9 41 gF41 := mkSpec (r := 8) (gl := [(98, [gF98]), (85, [gF85, gF85_1]), (84, [gF84]), (79, [gF79]), (99, [gF99]), (16, [gF16]), (60, [gF60_2, gF60_1]), (96, [gF96]), (69, [gF69]), (19, [gF19])]) (L0 := [(0, lsL41_0), (2, lsL41_2)]) (by kernel_rfl) ⟨⟨sF98.up (by decide), trivial⟩, ⟨sF85.up (by decide), sF85_1.up (by decide), trivial⟩, ⟨sF84.up (by decide), trivial⟩, ⟨sF79.up (by decide), trivial⟩, ⟨sF99.up (by decide), trivial⟩, ⟨sF16.up (by decide), trivial⟩, ⟨sF60_2.up (by decide), sF60_1.up (by decide), trivial⟩, ⟨sF96.up (by decide), trivial⟩, ⟨sF69.up (by decide), trivial⟩, ⟨sF19.up (by decide), trivial⟩, trivial⟩ ⟨⟨0, by kernel_rfl, by kernel_rfl, rL41_0⟩, ⟨1, by kernel_rfl, by kernel_rfl, rL41_2⟩, trivial⟩ eF41 (fun h => absurd h (by rw [show env.nl 41 = false by kernel_rfl]; decide))
end
end Go.Proofs.YtiddpfhpmodfbaaGreatDoor.K
end

section
set_option linter.unusedVariables false
set_option linter.unusedSimpArgs false
set_option linter.unnecessarySimpa false
open Go Go.Ev Go.Proofs
namespace Go.Proofs.YtiddpfhpmodfbaaGreatDoor.K
set_option linter.unusedVariables false
set_option maxRecDepth 100000
noncomputable section
def B44_0 (a0 : Int) (a1 : (List (Int × ByteArray))) (a2 : Int) (a3 : (List ((ByteArray × (ByteArray × Int)) × (Int × Int)))) (a4 : (List (Int × Int))) (a5 : Int) : Option ((Int × (((List (Int × ByteArray)) × (Int × ((List ((ByteArray × (ByteArray × Int)) × (Int × Int))) × (List (Int × Int))))) × Int)) ⊕ (Unit ⊕ Int)) :=
  sel (iLt a5 (lLen a3))
    (sel (oIn a5 (lLen a3)) (
    sel (iEq (lAt a3 a5).2.1 a0)
      (some (.inr (.inr a5)))
      (some (.inl (a0, ((a1, (a2, (a3, a4))), (iAdd .i64 a5 1)))))) none)
    (some (.inr (.inl ())))
def L44_0 (x : (Int × (((List (Int × ByteArray)) × (Int × ((List ((ByteArray × (ByteArray × Int)) × (Int × Int))) × (List (Int × Int))))) × Int))) : Option (Unit ⊕ Int) := iter (fun (x : (Int × (((List (Int × ByteArray)) × (Int × ((List ((ByteArray × (ByteArray × Int)) × (Int × Int))) × (List (Int × Int))))) × Int))) => (B44_0 x.1 x.2.1.1 x.2.1.2.1 x.2.1.2.2.1 x.2.1.2.2.2 x.2.2)) fuel x
def lsL44_0 : LS := ⟨(.one .normal ⟨.non, [1, 2, 5], (.seq (.dat (.int .i64)) (.seq (.box 0 (.seq (.dat (.sl (.pr (.int .i64) .str))) (.seq (.dat (.int .i64)) (.seq (.dat (.sl (.pr (.pr .str (.pr .str (.int .i64))) (.pr (.int .i64) (.int .i64))))) (.dat (.sl (.pr (.int .i64) (.int .i64)))))))) (.dat (.int .i64)))), 1, 22, 0⟩), (.two (.one (.exit 0) ⟨.non, [], .non, 0, 22, 0⟩) (.one .ret ⟨.non, [4], (.dat (.int .i64)), 0, 22, 0⟩)), fun (x : (Int × (((List (Int × ByteArray)) × (Int × ((List ((ByteArray × (ByteArray × Int)) × (Int × Int))) × (List (Int × Int))))) × Int))) => (B44_0 x.1 x.2.1.1 x.2.1.2.1 x.2.1.2.2.1 x.2.1.2.2.2 x.2.2)⟩
/-- midrangeref11.Entry -/
def F44 (a0 : (((List (Int × ByteArray)) × Int) × ((List ((ByteArray × (ByteArray × Int)) × (Int × Int))) × (List (Int × Int))))) (a1 : Int) : Option Int :=
  bndS (L44_0 (a1, ((a0.1.1, (a0.1.2, a0.2)), 0))) fun y0 =>
  sumS y0 (fun y0a =>
    some (-1)) fun y0b =>
    some y0b
def gF44 : FS := ⟨(.seq (.agg (.dat (.pr (.pr (.sl (.pr (.int .i64) .str)) (.int .i64)) (.pr (.sl (.pr (.pr .str (.pr .str (.int .i64))) (.pr (.int .i64) (.int .i64)))) (.sl (.pr (.int .i64) (.int .i64))))))) (.dat (.int .i64))), 0, (.one ⟨.non, (.dat (.int .i64)), 0, 0⟩), fun x => (F44 x.1 x.2)⟩
theorem rL44_0 (x : lsL44_0.hd.T) : kRound env (GofL []) (LofL [(44, [(0, lsL44_0)])]) 44 0 (lpOf Tryz.prog 44 0).2 (lsL44_0.hd.st x) lsL44_0.rd = lsL44_0.B x := by kernel_rfl
theorem eF44 (x : gF44.a.T) : kF env (GofL []) (LofL [(44, [(0, lsL44_0)])]) 44 (gF44.args x) (gF44.bs x) gF44.r.dec = gF44.F x := by kernel_rfl
theorem sF44 : SpecAt env 1 44 gF44 := mkSpec (r := 0) (gl := []) (L0 := [(0, lsL44_0)]) (by kernel_rfl) trivial ⟨⟨0, by kernel_rfl, by kernel_rfl, rL44_0⟩, trivial⟩ eF44 (fun h => absurd h (by rw [show env.nl 44 = false by kernel_rfl]; decide))
/-- midrangebase.Digits -/
def F152r4 (a0 : Int) : Option ByteArray :=
  sel (iLt a0 (-9))
    (sel (oNz 10) (
    none) none)
    (sel (iLt a0 0)
      (none)
      (sel (iLt a0 10)
        (some (sOf [(iCv .u8 (iAdd .i64 48 a0))]))
        (sel (oNz 10) (
        none) none)))
/-- midrangebase.Digits -/
def F152r3 (a0 : Int) : Option ByteArray :=
  sel (iLt a0 (-9))
    (sel (oNz 10) (
    bndS (F152r4 (iNeg .i64 (iQuo .i64 a0 10))) fun y2 =>
    sel (sOk (bs [45]) y2) (
    sel (oNz 10) (
    bndS (F152r4 (iNeg .i64 (iRem a0 10))) fun y3 =>
    sel (sOk (sAdd (bs [45]) y2) y3) (
    some (sAdd (sAdd (bs [45]) y2) y3)) none) none) none) none)
    (sel (iLt a0 0)
      (bndS (F152r4 (iNeg .i64 a0)) fun y1 =>
      sel (sOk (bs [45]) y1) (
      some (sAdd (bs [45]) y1)) none)
      (sel (iLt a0 10)
        (some (sOf [(iCv .u8 (iAdd .i64 48 a0))]))
        (sel (oNz 10) (
        bndS (F152r4 (iQuo .i64 a0 10)) fun y0 =>
        sel (oNz 10) (
        sel (sOk y0 (sOf [(iCv .u8 (iAdd .i64 48 (iRem a0 10)))])) (
        some (sAdd y0 (sOf [(iCv .u8 (iAdd .i64 48 (iRem a0 10)))]))) none) none) none)))
/-- midrangebase.Digits -/
def F152r2 (a0 : Int) : Option ByteArray :=
  sel (iLt a0 (-9))
    (sel (oNz 10) (
    bndS (F152r3 (iNeg .i64 (iQuo .i64 a0 10))) fun y2 =>
    sel (sOk (bs [45]) y2) (
    sel (oNz 10) (
    bndS (F152r3 (iNeg .i64 (iRem a0 10))) fun y3 =>
    sel (sOk (sAdd (bs [45]) y2) y3) (
    some (sAdd (sAdd (bs [45]) y2) y3)) none) none) none) none)
    (sel (iLt a0 0)
      (bndS (F152r3 (iNeg .i64 a0)) fun y1 =>
      sel (sOk (bs [45]) y1) (
      some (sAdd (bs [45]) y1)) none)
      (sel (iLt a0 10)
        (some (sOf [(iCv .u8 (iAdd .i64 48 a0))]))
        (sel (oNz 10) (
        bndS (F152r3 (iQuo .i64 a0 10)) fun y0 =>
        sel (oNz 10) (
        sel (sOk y0 (sOf [(iCv .u8 (iAdd .i64 48 (iRem a0 10)))])) (
        some (sAdd y0 (sOf [(iCv .u8 (iAdd .i64 48 (iRem a0 10)))]))) none) none) none)))
/-- midrangebase.Digits -/
def F152r1 (a0 : Int) : Option ByteArray :=
  sel (iLt a0 (-9))
    (sel (oNz 10) (
    bndS (F152r2 (iNeg .i64 (iQuo .i64 a0 10))) fun y2 =>
    sel (sOk (bs [45]) y2) (
    sel (oNz 10) (
    bndS (F152r2 (iNeg .i64 (iRem a0 10))) fun y3 =>
    sel (sOk (sAdd (bs [45]) y2) y3) (
    some (sAdd (sAdd (bs [45]) y2) y3)) none) none) none) none)
    (sel (iLt a0 0)
      (bndS (F152r2 (iNeg .i64 a0)) fun y1 =>
      sel (sOk (bs [45]) y1) (
      some (sAdd (bs [45]) y1)) none)
      (sel (iLt a0 10)
        (some (sOf [(iCv .u8 (iAdd .i64 48 a0))]))
        (sel (oNz 10) (
        bndS (F152r2 (iQuo .i64 a0 10)) fun y0 =>
        sel (oNz 10) (
        sel (sOk y0 (sOf [(iCv .u8 (iAdd .i64 48 (iRem a0 10)))])) (
        some (sAdd y0 (sOf [(iCv .u8 (iAdd .i64 48 (iRem a0 10)))]))) none) none) none)))
/-- midrangebase.Digits -/
def F152 (a0 : Int) : Option ByteArray :=
  sel (iLt a0 (-9))
    (sel (oNz 10) (
    bndS (F152r1 (iNeg .i64 (iQuo .i64 a0 10))) fun y2 =>
    sel (sOk (bs [45]) y2) (
    sel (oNz 10) (
    bndS (F152r1 (iNeg .i64 (iRem a0 10))) fun y3 =>
    sel (sOk (sAdd (bs [45]) y2) y3) (
    some (sAdd (sAdd (bs [45]) y2) y3)) none) none) none) none)
    (sel (iLt a0 0)
      (bndS (F152r1 (iNeg .i64 a0)) fun y1 =>
      sel (sOk (bs [45]) y1) (
      some (sAdd (bs [45]) y1)) none)
      (sel (iLt a0 10)
        (some (sOf [(iCv .u8 (iAdd .i64 48 a0))]))
        (sel (oNz 10) (
        bndS (F152r1 (iQuo .i64 a0 10)) fun y0 =>
        sel (oNz 10) (
        sel (sOk y0 (sOf [(iCv .u8 (iAdd .i64 48 (iRem a0 10)))])) (
        some (sAdd y0 (sOf [(iCv .u8 (iAdd .i64 48 (iRem a0 10)))]))) none) none) none)))
def B100_0 (a0 : (List (Int × ByteArray))) (a1 : Int) (a2 : (List ((ByteArray × (ByteArray × Int)) × (Int × Int)))) (a3 : (List (Int × Int))) (a4 : ByteArray) (a5 : ByteArray) (a6 : Int) (a7 : ByteArray) (a8 : ByteArray) (a9 : Int) (a10 : ByteArray) (a11 : Int) : Option ((((List (Int × ByteArray)) × (Int × ((List ((ByteArray × (ByteArray × Int)) × (Int × Int))) × (List (Int × Int))))) × ((ByteArray × (ByteArray × Int)) × ((ByteArray × (ByteArray × Int)) × (ByteArray × Int)))) ⊕ ((ByteArray × (ByteArray × Int)) × (ByteArray × (ByteArray × Int)))) :=
  bndS (F45 ((a0, a1), (a2, a3)) (a4, (a5, a6))) fun y0 =>
  sel (bNot (iEq y0 (-1)))
    (bndS (F152 (iAdd .i64 1000 a11)) fun y1 =>
    sel (oCut 0 (sel (iLt 7 (sLen a10)) 7 (sLen a10)) (sLen a10)) (
    sel (oCut 1 (sLen y1) (sLen y1)) (
    sel (sOk (sCut a10 0 (sel (iLt 7 (sLen a10)) 7 (sLen a10))) (sCut y1 1 (sLen y1))) (
    some (.inl ((a0, (a1, (a2, a3))), ((a4, ((sAdd (sCut a10 0 (sel (iLt 7 (sLen a10)) 7 (sLen a10))) (sCut y1 1 (sLen y1))), a6)), ((a7, (a8, a9)), (a10, (iAdd .i64 a11 1))))))) none) none) none)
    (some (.inr ((a4, (a5, a6)), (a7, (a8, a9)))))
def L100_0 (x : (((List (Int × ByteArray)) × (Int × ((List ((ByteArray × (ByteArray × Int)) × (Int × Int))) × (List (Int × Int))))) × ((ByteArray × (ByteArray × Int)) × ((ByteArray × (ByteArray × Int)) × (ByteArray × Int))))) : Option ((ByteArray × (ByteArray × Int)) × (ByteArray × (ByteArray × Int))) := iter (fun (x : (((List (Int × ByteArray)) × (Int × ((List ((ByteArray × (ByteArray × Int)) × (Int × Int))) × (List (Int × Int))))) × ((ByteArray × (ByteArray × Int)) × ((ByteArray × (ByteArray × Int)) × (ByteArray × Int))))) => (B100_0 x.1.1 x.1.2.1 x.1.2.2.1 x.1.2.2.2 x.2.1.1 x.2.1.2.1 x.2.1.2.2 x.2.2.1.1 x.2.2.1.2.1 x.2.2.1.2.2 x.2.2.2.1 x.2.2.2.2)) fuel x
/-- midrangeref11.free -/
def F100 (a0 : (((List (Int × ByteArray)) × Int) × ((List ((ByteArray × (ByteArray × Int)) × (Int × Int))) × (List (Int × Int))))) (a1 : (ByteArray × (ByteArray × Int))) : Option (ByteArray × (ByteArray × Int)) :=
  bndS (L100_0 ((a0.1.1, (a0.1.2, a0.2)), (((bs [81, 82, 67, 76]), a1.2), (((bs []), ((bs []), 0)), (a1.2.1, 1))))) fun y0 =>
  some y0.1
end
end Go.Proofs.YtiddpfhpmodfbaaGreatDoor.K
end

section
set_option linter.unusedVariables false
set_option linter.unusedSimpArgs false
set_option linter.unnecessarySimpa false
open Go Go.Ev Go.Proofs
namespace Go.Proofs.YtiddpfhpmodfbaaGreatDoor.K
set_option linter.unusedVariables false
set_option maxRecDepth 100000
noncomputable section
end
end Go.Proofs.YtiddpfhpmodfbaaGreatDoor.K
end

section
set_option linter.unusedVariables false
set_option linter.unusedSimpArgs false
set_option linter.unnecessarySimpa false
open Go Go.Ev Go.Proofs
namespace Go.Proofs.YtiddpfhpmodfbaaGreatDoor.K
set_option linter.unusedVariables false
set_option maxRecDepth 100000
noncomputable section
def B46_0 (a0 : (List Int)) (a1 : Int) (a2 : Int) : Option (((List Int) × (Int × Int)) ⊕ (Unit ⊕ Int)) :=
  sel (iLt a2 (lLen a0))
    (sel (oIn a2 (lLen a0)) (
    sel (iEq (lAt a0 a2) a1)
      (some (.inr (.inr a2)))
      (some (.inl (a0, (a1, (iAdd .i64 a2 1)))))) none)
    (some (.inr (.inl ())))
def L46_0 (x : ((List Int) × (Int × Int))) : Option (Unit ⊕ Int) := iter (fun (x : ((List Int) × (Int × Int))) => (B46_0 x.1 x.2.1 x.2.2)) fuel x
def lsL46_0 : LS := ⟨(.one .normal ⟨.non, [0, 1, 5], (.seq (.dat (.sl (.int .i64))) (.seq (.dat (.int .i64)) (.dat (.int .i64)))), 0, 19, 0⟩), (.two (.one (.exit 0) ⟨.non, [], .non, 0, 19, 0⟩) (.one .ret ⟨.non, [4], (.dat (.int .i64)), 0, 19, 0⟩)), fun (x : ((List Int) × (Int × Int))) => (B46_0 x.1 x.2.1 x.2.2)⟩
/-- midrangebase.IndexOf -/
def F46 (a0 : (List Int)) (a1 : Int) : Option Int :=
  bndS (L46_0 (a0, (a1, 0))) fun y0 =>
  sumS y0 (fun y0a =>
    some (-1)) fun y0b =>
    some y0b
def gF46 : FS := ⟨(.seq (.dat (.sl (.int .i64))) (.dat (.int .i64))), 0, (.one ⟨.non, (.dat (.int .i64)), 0, 0⟩), fun x => (F46 x.1 x.2)⟩
theorem rL46_0 (x : lsL46_0.hd.T) : kRound env (GofL []) (LofL [(46, [(0, lsL46_0)])]) 46 0 (lpOf Tryz.prog 46 0).2 (lsL46_0.hd.st x) lsL46_0.rd = lsL46_0.B x := by kernel_rfl
theorem eF46 (x : gF46.a.T) : kF env (GofL []) (LofL [(46, [(0, lsL46_0)])]) 46 (gF46.args x) (gF46.bs x) gF46.r.dec = gF46.F x := by kernel_rfl
theorem sF46 : SpecAt env 1 46 gF46 := mkSpec (r := 0) (gl := []) (L0 := [(0, lsL46_0)]) (by kernel_rfl) trivial ⟨⟨0, by kernel_rfl, by kernel_rfl, rL46_0⟩, trivial⟩ eF46 (fun h => absurd h (by rw [show env.nl 46 = false by kernel_rfl]; decide))
def B14_0h0 (a0 : (List Int)) (a1 : (List (Int × ByteArray))) (a2 : Int) (a3 : (List ((ByteArray × (ByteArray × Int)) × (Int × Int)))) (a4 : (List (Int × Int))) (a5 : (List (Int × ByteArray))) (a6 : Int) (a7 : (List (Int × Int))) (a8 : Int) : Option ((((List Int) × (((List (Int × ByteArray)) × (Int × ((List ((ByteArray × (ByteArray × Int)) × (Int × Int))) × (List (Int × Int))))) × (((List (Int × ByteArray)) × (Int × (List (Int × Int)))) × Int))) ⊕ ((List Int) × (((List (Int × ByteArray)) × (Int × ((List ((ByteArray × (ByteArray × Int)) × (Int × Int))) × (List (Int × Int))))) × (((List (Int × ByteArray)) × (Int × ((List ((ByteArray × (ByteArray × Int)) × (Int × Int))) × (List (Int × Int))))) × Int)))) ⊕ (((List Int) × (((List (Int × ByteArray)) × (Int × ((List ((ByteArray × (ByteArray × Int)) × (Int × Int))) × (List (Int × Int))))) × ((List (Int × ByteArray)) × (Int × (List (Int × Int)))))) ⊕ (Bool ⊕ ((List Int) × (((List (Int × ByteArray)) × (Int × ((List ((ByteArray × (ByteArray × Int)) × (Int × Int))) × (List (Int × Int))))) × ((List (Int × ByteArray)) × (Int × ((List ((ByteArray × (ByteArray × Int)) × (Int × Int))) × (List (Int × Int)))))))))) :=
  sel (iLt a8 (lLen a3))
    (bndS (F20 ((a1, a2), (a3, a4))) fun y0 =>
    bndS (F32 ((y0.1, y0.2.1), y0.2.2) a8) fun y1 =>
    sel (bNot (iEq y1.2 0))
      (some (.inr (.inr (.inl false))))
      (sel (bNot (iEq y1.1 0))
        (some (.inr (.inr (.inl true))))
        (bndS (F46 a0 a8) fun y2 =>
        sel (iEq y2 (-1))
          (sel (oIn a8 (lLen a3)) (
          sel (lCap 56 [(lAt a3 a8)]) (
          some (.inl (.inr (a0, ((a1, (a2, (a3, a4))), ((a5, (a6, ([(lAt a3 a8)], a7))), (iAdd .i64 a8 1))))))) none) none)
          (some (.inl (.inl (a0, ((a1, (a2, (a3, a4))), ((a5, (a6, a7)), (iAdd .i64 a8 1))))))))))
    (some (.inr (.inl (a0, ((a1, (a2, (a3, a4))), (a5, (a6, a7)))))))
def B14_0h1 (a0 : (List Int)) (a1 : (List (Int × ByteArray))) (a2 : Int) (a3 : (List ((ByteArray × (ByteArray × Int)) × (Int × Int)))) (a4 : (List (Int × Int))) (a5 : (List (Int × ByteArray))) (a6 : Int) (a7 : (List ((ByteArray × (ByteArray × Int)) × (Int × Int)))) (a8 : (List (Int × Int))) (a9 : Int) : Option ((((List Int) × (((List (Int × ByteArray)) × (Int × ((List ((ByteArray × (ByteArray × Int)) × (Int × Int))) × (List (Int × Int))))) × (((List (Int × ByteArray)) × (Int × (List (Int × Int)))) × Int))) ⊕ ((List Int) × (((List (Int × ByteArray)) × (Int × ((List ((ByteArray × (ByteArray × Int)) × (Int × Int))) × (List (Int × Int))))) × (((List (Int × ByteArray)) × (Int × ((List ((ByteArray × (ByteArray × Int)) × (Int × Int))) × (List (Int × Int))))) × Int)))) ⊕ (((List Int) × (((List (Int × ByteArray)) × (Int × ((List ((ByteArray × (ByteArray × Int)) × (Int × Int))) × (List (Int × Int))))) × ((List (Int × ByteArray)) × (Int × (List (Int × Int)))))) ⊕ (Bool ⊕ ((List Int) × (((List (Int × ByteArray)) × (Int × ((List ((ByteArray × (ByteArray × Int)) × (Int × Int))) × (List (Int × Int))))) × ((List (Int × ByteArray)) × (Int × ((List ((ByteArray × (ByteArray × Int)) × (Int × Int))) × (List (Int × Int)))))))))) :=
  sel (iLt a9 (lLen a3))
    (bndS (F20 ((a1, a2), (a3, a4))) fun y0 =>
    bndS (F32 ((y0.1, y0.2.1), y0.2.2) a9) fun y1 =>
    sel (bNot (iEq y1.2 0))
      (some (.inr (.inr (.inl false))))
      (sel (bNot (iEq y1.1 0))
        (some (.inr (.inr (.inl true))))
        (bndS (F46 a0 a9) fun y2 =>
        sel (iEq y2 (-1))
          (sel (oIn a9 (lLen a3)) (
          sel (lCap 56 (lApp a7 [(lAt a3 a9)])) (
          some (.inl (.inr (a0, ((a1, (a2, (a3, a4))), ((a5, (a6, ((lApp a7 [(lAt a3 a9)]), a8))), (iAdd .i64 a9 1))))))) none) none)
          (some (.inl (.inr (a0, ((a1, (a2, (a3, a4))), ((a5, (a6, (a7, a8))), (iAdd .i64 a9 1))))))))))
    (some (.inr (.inr (.inr (a0, ((a1, (a2, (a3, a4))), (a5, (a6, (a7, a8)))))))))
def L14_0 (x : (((List Int) × (((List (Int × ByteArray)) × (Int × ((List ((ByteArray × (ByteArray × Int)) × (Int × Int))) × (List (Int × Int))))) × (((List (Int × ByteArray)) × (Int × (List (Int × Int)))) × Int))) ⊕ ((List Int) × (((List (Int × ByteArray)) × (Int × ((List ((ByteArray × (ByteArray × Int)) × (Int × Int))) × (List (Int × Int))))) × (((List (Int × ByteArray)) × (Int × ((List ((ByteArray × (ByteArray × Int)) × (Int × Int))) × (List (Int × Int))))) × Int))))) : Option (((List Int) × (((List (Int × ByteArray)) × (Int × ((List ((ByteArray × (ByteArray × Int)) × (Int × Int))) × (List (Int × Int))))) × ((List (Int × ByteArray)) × (Int × (List (Int × Int)))))) ⊕ (Bool ⊕ ((List Int) × (((List (Int × ByteArray)) × (Int × ((List ((ByteArray × (ByteArray × Int)) × (Int × Int))) × (List (Int × Int))))) × ((List (Int × ByteArray)) × (Int × ((List ((ByteArray × (ByteArray × Int)) × (Int × Int))) × (List (Int × Int))))))))) := iter (fun (x : (((List Int) × (((List (Int × ByteArray)) × (Int × ((List ((ByteArray × (ByteArray × Int)) × (Int × Int))) × (List (Int × Int))))) × (((List (Int × ByteArray)) × (Int × (List (Int × Int)))) × Int))) ⊕ ((List Int) × (((List (Int × ByteArray)) × (Int × ((List ((ByteArray × (ByteArray × Int)) × (Int × Int))) × (List (Int × Int))))) × (((List (Int × ByteArray)) × (Int × ((List ((ByteArray × (ByteArray × Int)) × (Int × Int))) × (List (Int × Int))))) × Int))))) => (sumS x (fun x => (B14_0h0 x.1 x.2.1.1 x.2.1.2.1 x.2.1.2.2.1 x.2.1.2.2.2 x.2.2.1.1 x.2.2.1.2.1 x.2.2.1.2.2 x.2.2.2)) fun x => (B14_0h1 x.1 x.2.1.1 x.2.1.2.1 x.2.1.2.2.1 x.2.1.2.2.2 x.2.2.1.1 x.2.2.1.2.1 x.2.2.1.2.2.1 x.2.2.1.2.2.2 x.2.2.2))) fuel x
def lsL14_0 : LS := ⟨(.two (.one .normal ⟨.non, [1, 2, 5, 6], (.seq (.dat (.sl (.int .i64))) (.seq (.box 0 (.seq (.dat (.sl (.pr (.int .i64) .str))) (.seq (.dat (.int .i64)) (.seq (.dat (.sl (.pr (.pr .str (.pr .str (.int .i64))) (.pr (.int .i64) (.int .i64))))) (.dat (.sl (.pr (.int .i64) (.int .i64)))))))) (.seq (.box 1 (.seq (.own 2 (.pr (.int .i64) .str)) (.seq (.dat (.int .i64)) (.seq (.lit (.slice none 0 0)) (.own 3 (.pr (.int .i64) (.int .i64))))))) (.dat (.int .i64))))), 4, 216, 0⟩) (.one .normal ⟨.non, [1, 2, 5, 6], (.seq (.dat (.sl (.int .i64))) (.seq (.box 0 (.seq (.dat (.sl (.pr (.int .i64) .str))) (.seq (.dat (.int .i64)) (.seq (.dat (.sl (.pr (.pr .str (.pr .str (.int .i64))) (.pr (.int .i64) (.int .i64))))) (.dat (.sl (.pr (.int .i64) (.int .i64)))))))) (.seq (.box 1 (.seq (.own 2 (.pr (.int .i64) .str)) (.seq (.dat (.int .i64)) (.seq (.own 3 (.pr (.pr .str (.pr .str (.int .i64))) (.pr (.int .i64) (.int .i64)))) (.own 4 (.pr (.int .i64) (.int .i64))))))) (.dat (.int .i64))))), 5, 216, 0⟩)), (.two (.one (.exit 0) ⟨.non, [1, 2, 5], (.seq (.dat (.sl (.int .i64))) (.seq (.box 0 (.seq (.dat (.sl (.pr (.int .i64) .str))) (.seq (.dat (.int .i64)) (.seq (.dat (.sl (.pr (.pr .str (.pr .str (.int .i64))) (.pr (.int .i64) (.int .i64))))) (.dat (.sl (.pr (.int .i64) (.int .i64)))))))) (.box 1 (.seq (.own 2 (.pr (.int .i64) .str)) (.seq (.dat (.int .i64)) (.seq (.lit (.slice none 0 0)) (.own 3 (.pr (.int .i64) (.int .i64))))))))), 4, 216, 0⟩) (.two (.one .ret ⟨.non, [4], (.dat .bool), 0, 216, 0⟩) (.one (.exit 0) ⟨.non, [1, 2, 5], (.seq (.dat (.sl (.int .i64))) (.seq (.box 0 (.seq (.dat (.sl (.pr (.int .i64) .str))) (.seq (.dat (.int .i64)) (.seq (.dat (.sl (.pr (.pr .str (.pr .str (.int .i64))) (.pr (.int .i64) (.int .i64))))) (.dat (.sl (.pr (.int .i64) (.int .i64)))))))) (.box 1 (.seq (.own 2 (.pr (.int .i64) .str)) (.seq (.dat (.int .i64)) (.seq (.own 3 (.pr (.pr .str (.pr .str (.int .i64))) (.pr (.int .i64) (.int .i64)))) (.own 4 (.pr (.int .i64) (.int .i64))))))))), 5, 216, 0⟩))), fun (x : (((List Int) × (((List (Int × ByteArray)) × (Int × ((List ((ByteArray × (ByteArray × Int)) × (Int × Int))) × (List (Int × Int))))) × (((List (Int × ByteArray)) × (Int × (List (Int × Int)))) × Int))) ⊕ ((List Int) × (((List (Int × ByteArray)) × (Int × ((List ((ByteArray × (ByteArray × Int)) × (Int × Int))) × (List (Int × Int))))) × (((List (Int × ByteArray)) × (Int × ((List ((ByteArray × (ByteArray × Int)) × (Int × Int))) × (List (Int × Int))))) × Int))))) => (sumS x (fun x => (B14_0h0 x.1 x.2.1.1 x.2.1.2.1 x.2.1.2.2.1 x.2.1.2.2.2 x.2.2.1.1 x.2.2.1.2.1 x.2.2.1.2.2 x.2.2.2)) fun x => (B14_0h1 x.1 x.2.1.1 x.2.1.2.1 x.2.1.2.2.1 x.2.1.2.2.2 x.2.2.1.1 x.2.2.1.2.1 x.2.2.1.2.2.1 x.2.2.1.2.2.2 x.2.2.2))⟩
def B14_4 (a0 : (List Int)) (a1 : (List (Int × ByteArray))) (a2 : Int) (a3 : (List ((ByteArray × (ByteArray × Int)) × (Int × Int)))) (a4 : (List (Int × Int))) (a5 : (List (Int × ByteArray))) (a6 : Int) (a7 : (List ((ByteArray × (ByteArray × Int)) × (Int × Int)))) (a8 : (List (Int × Int))) (a9 : (List (Int × (Int × (Int × (ByteArray × (ByteArray × Int))))))) (a10 : Int) (a11 : Int) (a12 : Int) (a13 : Int) (a14 : Int) (a15 : Int) : Option (((List Int) × (((List (Int × ByteArray)) × (Int × ((List ((ByteArray × (ByteArray × Int)) × (Int × Int))) × (List (Int × Int))))) × (((List (Int × ByteArray)) × (Int × ((List ((ByteArray × (ByteArray × Int)) × (Int × Int))) × (List (Int × Int))))) × ((List (Int × (Int × (Int × (ByteArray × (ByteArray × Int)))))) × (Int × (Int × (Int × (Int × (Int × Int))))))))) ⊕ ((List Int) × (((List (Int × ByteArray)) × (Int × ((List ((ByteArray × (ByteArray × Int)) × (Int × Int))) × (List (Int × Int))))) × (((List (Int × ByteArray)) × (Int × ((List ((ByteArray × (ByteArray × Int)) × (Int × Int))) × (List (Int × Int))))) × ((List (Int × (Int × (Int × (ByteArray × (ByteArray × Int)))))) × (Int × (Int × (Int × (Int × Int))))))))) :=
  sel (iLt a15 (lLen a9))
    (sel (oIn a15 (lLen a9)) (
    sel (bOr (oIn a15 (lLen a9)) (bNot (iEq (lAt a9 a15).1 1))) (
    bndS (F47 (bAnd (iEq (lAt a9 a15).1 1) (iEq (lAt a9 a15).2.1 a11))) fun y0 =>
    some (.inl (a0, ((a1, (a2, (a3, a4))), ((a5, (a6, (a7, a8))), (a9, (a10, (a11, (a12, (a13, ((iAdd .i64 a14 y0), (iAdd .i64 a15 1)))))))))))) none) none)
    (some (.inr (a0, ((a1, (a2, (a3, a4))), ((a5, (a6, (a7, a8))), (a9, (a10, (a11, (a12, (a13, a14))))))))))
def L14_4 (x : ((List Int) × (((List (Int × ByteArray)) × (Int × ((List ((ByteArray × (ByteArray × Int)) × (Int × Int))) × (List (Int × Int))))) × (((List (Int × ByteArray)) × (Int × ((List ((ByteArray × (ByteArray × Int)) × (Int × Int))) × (List (Int × Int))))) × ((List (Int × (Int × (Int × (ByteArray × (ByteArray × Int)))))) × (Int × (Int × (Int × (Int × (Int × Int)))))))))) : Option ((List Int) × (((List (Int × ByteArray)) × (Int × ((List ((ByteArray × (ByteArray × Int)) × (Int × Int))) × (List (Int × Int))))) × (((List (Int × ByteArray)) × (Int × ((List ((ByteArray × (ByteArray × Int)) × (Int × Int))) × (List (Int × Int))))) × ((List (Int × (Int × (Int × (ByteArray × (ByteArray × Int)))))) × (Int × (Int × (Int × (Int × Int)))))))) := iter (fun (x : ((List Int) × (((List (Int × ByteArray)) × (Int × ((List ((ByteArray × (ByteArray × Int)) × (Int × Int))) × (List (Int × Int))))) × (((List (Int × ByteArray)) × (Int × ((List ((ByteArray × (ByteArray × Int)) × (Int × Int))) × (List (Int × Int))))) × ((List (Int × (Int × (Int × (ByteArray × (ByteArray × Int)))))) × (Int × (Int × (Int × (Int × (Int × Int)))))))))) => (B14_4 x.1 x.2.1.1 x.2.1.2.1 x.2.1.2.2.1 x.2.1.2.2.2 x.2.2.1.1 x.2.2.1.2.1 x.2.2.1.2.2.1 x.2.2.1.2.2.2 x.2.2.2.1 x.2.2.2.2.1 x.2.2.2.2.2.1 x.2.2.2.2.2.2.1 x.2.2.2.2.2.2.2.1 x.2.2.2.2.2.2.2.2.1 x.2.2.2.2.2.2.2.2.2)) fuel x
def lsL14_4 : LS := ⟨(.one .normal ⟨.non, [1, 2, 9, 10, 12, 13, 14, 15, 16, 17], (.seq (.dat (.sl (.int .i64))) (.seq (.box 0 (.seq (.dat (.sl (.pr (.int .i64) .str))) (.seq (.dat (.int .i64)) (.seq (.dat (.sl (.pr (.pr .str (.pr .str (.int .i64))) (.pr (.int .i64) (.int .i64))))) (.dat (.sl (.pr (.int .i64) (.int .i64)))))))) (.seq (.box 1 (.seq (.own 2 (.pr (.int .i64) .str)) (.seq (.dat (.int .i64)) (.seq (.own 3 (.pr (.pr .str (.pr .str (.int .i64))) (.pr (.int .i64) (.int .i64)))) (.own 4 (.pr (.int .i64) (.int .i64))))))) (.seq (.own 5 (.pr (.int .i64) (.pr (.int .i64) (.pr (.int .i64) (.pr .str (.pr .str (.int .i64))))))) (.seq (.dat (.int .i64)) (.seq (.dat (.int .i64)) (.seq (.dat (.int .i64)) (.seq (.dat (.int .i64)) (.seq (.dat (.int .i64)) (.dat (.int .i64))))))))))), 6, 216, 0⟩), (.one (.exit 4) ⟨.non, [1, 2, 9, 10, 12, 13, 14, 15, 16], (.seq (.dat (.sl (.int .i64))) (.seq (.box 0 (.seq (.dat (.sl (.pr (.int .i64) .str))) (.seq (.dat (.int .i64)) (.seq (.dat (.sl (.pr (.pr .str (.pr .str (.int .i64))) (.pr (.int .i64) (.int .i64))))) (.dat (.sl (.pr (.int .i64) (.int .i64)))))))) (.seq (.box 1 (.seq (.own 2 (.pr (.int .i64) .str)) (.seq (.dat (.int .i64)) (.seq (.own 3 (.pr (.pr .str (.pr .str (.int .i64))) (.pr (.int .i64) (.int .i64)))) (.own 4 (.pr (.int .i64) (.int .i64))))))) (.seq (.own 5 (.pr (.int .i64) (.pr (.int .i64) (.pr (.int .i64) (.pr .str (.pr .str (.int .i64))))))) (.seq (.dat (.int .i64)) (.seq (.dat (.int .i64)) (.seq (.dat (.int .i64)) (.seq (.dat (.int .i64)) (.dat (.int .i64)))))))))), 6, 216, 0⟩), fun (x : ((List Int) × (((List (Int × ByteArray)) × (Int × ((List ((ByteArray × (ByteArray × Int)) × (Int × Int))) × (List (Int × Int))))) × (((List (Int × ByteArray)) × (Int × ((List ((ByteArray × (ByteArray × Int)) × (Int × Int))) × (List (Int × Int))))) × ((List (Int × (Int × (Int × (ByteArray × (ByteArray × Int)))))) × (Int × (Int × (Int × (Int × (Int × Int)))))))))) => (B14_4 x.1 x.2.1.1 x.2.1.2.1 x.2.1.2.2.1 x.2.1.2.2.2 x.2.2.1.1 x.2.2.1.2.1 x.2.2.1.2.2.1 x.2.2.1.2.2.2 x.2.2.2.1 x.2.2.2.2.1 x.2.2.2.2.2.1 x.2.2.2.2.2.2.1 x.2.2.2.2.2.2.2.1 x.2.2.2.2.2.2.2.2.1 x.2.2.2.2.2.2.2.2.2)⟩
def B14_2 (a0 : (List Int)) (a1 : (List (Int × ByteArray))) (a2 : Int) (a3 : (List ((ByteArray × (ByteArray × Int)) × (Int × Int)))) (a4 : (List (Int × Int))) (a5 : (List (Int × ByteArray))) (a6 : Int) (a7 : (List ((ByteArray × (ByteArray × Int)) × (Int × Int)))) (a8 : (List (Int × Int))) (a9 : (List (Int × (Int × (Int × (ByteArray × (ByteArray × Int))))))) (a10 : Int) : Option (((List Int) × (((List (Int × ByteArray)) × (Int × ((List ((ByteArray × (ByteArray × Int)) × (Int × Int))) × (List (Int × Int))))) × (((List (Int × ByteArray)) × (Int × ((List ((ByteArray × (ByteArray × Int)) × (Int × Int))) × (List (Int × Int))))) × ((List (Int × (Int × (Int × (ByteArray × (ByteArray × Int)))))) × Int)))) ⊕ (Unit ⊕ Bool)) :=
  sel (iLt a10 (lLen a3))
    (bndS (F46 a0 a10) fun y0 =>
    sel (iEq y0 (-1))
      (some (.inl (a0, ((a1, (a2, (a3, a4))), ((a5, (a6, (a7, a8))), (a9, (iAdd .i64 a10 1)))))))
      (sel (oIn a10 (lLen a3)) (
      bndS (F44 ((a5, a6), (a7, a8)) (lAt a3 a10).2.1) fun y1 =>
      bndS (F28 (a5, a6) (lAt a3 a10).2.1) fun y2 =>
      bndS (L14_4 (a0, ((a1, (a2, (a3, a4))), ((a5, (a6, (a7, a8))), (a9, (a10, ((lAt a3 a10).2.1, (y1, (y2, (0, 0)))))))))) fun y3 =>
      sel (bOr (oIn y3.2.2.2.2.2.2.1 (lLen y3.2.2.1.2.2.1)) (bNot (bNot (bOr (bOr (iEq y3.2.2.2.2.2.2.1 (-1)) (iEq y3.2.2.2.2.2.2.2.1 (-1))) (bNot (iEq y3.2.2.2.2.2.2.2.2 1)))))) (
      sel (bOr (oIn y3.2.2.2.2.2.2.1 (lLen y3.2.2.1.2.2.1)) (bNot (bNot (bOr (bOr (bOr (iEq y3.2.2.2.2.2.2.1 (-1)) (iEq y3.2.2.2.2.2.2.2.1 (-1))) (bNot (iEq y3.2.2.2.2.2.2.2.2 1))) (bNot (sEq (lAt y3.2.2.1.2.2.1 y3.2.2.2.2.2.2.1).1.1 (bs [81, 82, 67, 76]))))))) (
      sel (bOr (oIn y3.2.2.2.2.1 (lLen y3.2.1.2.2.1)) (bNot (bNot (bOr (bOr (bOr (iEq y3.2.2.2.2.2.2.1 (-1)) (iEq y3.2.2.2.2.2.2.2.1 (-1))) (bNot (iEq y3.2.2.2.2.2.2.2.2 1))) (bNot (sEq (lAt y3.2.2.1.2.2.1 y3.2.2.2.2.2.2.1).1.1 (bs [81, 82, 67, 76]))))))) (
      sel (bOr (bOr (bOr (bOr (iEq y3.2.2.2.2.2.2.1 (-1)) (iEq y3.2.2.2.2.2.2.2.1 (-1))) (bNot (iEq y3.2.2.2.2.2.2.2.2 1))) (bNot (sEq (lAt y3.2.2.1.2.2.1 y3.2.2.2.2.2.2.1).1.1 (bs [81, 82, 67, 76])))) (bNot (iEq (lAt y3.2.2.1.2.2.1 y3.2.2.2.2.2.2.1).1.2.2 (lAt y3.2.1.2.2.1 y3.2.2.2.2.1).1.2.2)))
        (some (.inr (.inr false)))
        (bndS (F28 (y3.2.1.1, y3.2.1.2.1) y3.2.2.2.2.2.1) fun y4 =>
        sel (oIn y4 (lLen y3.2.1.1)) (
        sel (oIn y3.2.2.2.2.2.2.2.1 (lLen y3.2.2.1.1)) (
        sel (bOr (oCut 32 (sLen (lAt y3.2.2.1.1 y3.2.2.2.2.2.2.2.1).2) (sLen (lAt y3.2.2.1.1 y3.2.2.2.2.2.2.2.1).2)) (bNot (bNot (bNot (iEq (sLen (lAt y3.2.2.1.1 y3.2.2.2.2.2.2.2.1).2) (sLen (lAt y3.2.1.1 y4).2)))))) (
        sel (bOr (oCut 32 (sLen (lAt y3.2.1.1 y4).2) (sLen (lAt y3.2.1.1 y4).2)) (bNot (bNot (bNot (iEq (sLen (lAt y3.2.2.1.1 y3.2.2.2.2.2.2.2.1).2) (sLen (lAt y3.2.1.1 y4).2)))))) (
        sel (bOr (bNot (iEq (sLen (lAt y3.2.2.1.1 y3.2.2.2.2.2.2.2.1).2) (sLen (lAt y3.2.1.1 y4).2))) (bNot (sEq (sCut (lAt y3.2.2.1.1 y3.2.2.2.2.2.2.2.1).2 32 (sLen (lAt y3.2.2.1.1 y3.2.2.2.2.2.2.2.1).2)) (sCut (lAt y3.2.1.1 y4).2 32 (sLen (lAt y3.2.1.1 y4).2)))))
          (some (.inr (.inr false)))
          (bndS (F20 ((y3.2.2.1.1, y3.2.2.1.2.1), y3.2.2.1.2.2)) fun y5 =>
          bndS (F32 ((y5.1, y5.2.1), y5.2.2) y3.2.2.2.2.2.2.1) fun y6 =>
          sel (bOr (bNot (iEq y6.2 0)) (bNot (iEq y6.1 0)))
            (some (.inr (.inr false)))
            (some (.inl (y3.1, (y3.2.1, (y3.2.2.1, (y3.2.2.2.1, (iAdd .i64 y3.2.2.2.2.1 1))))))))) none) none) none) none)) none) none) none) none))
    (some (.inr (.inl ())))
def L14_2 (x : ((List Int) × (((List (Int × ByteArray)) × (Int × ((List ((ByteArray × (ByteArray × Int)) × (Int × Int))) × (List (Int × Int))))) × (((List (Int × ByteArray)) × (Int × ((List ((ByteArray × (ByteArray × Int)) × (Int × Int))) × (List (Int × Int))))) × ((List (Int × (Int × (Int × (ByteArray × (ByteArray × Int)))))) × Int))))) : Option (Unit ⊕ Bool) := iter (fun (x : ((List Int) × (((List (Int × ByteArray)) × (Int × ((List ((ByteArray × (ByteArray × Int)) × (Int × Int))) × (List (Int × Int))))) × (((List (Int × ByteArray)) × (Int × ((List ((ByteArray × (ByteArray × Int)) × (Int × Int))) × (List (Int × Int))))) × ((List (Int × (Int × (Int × (ByteArray × (ByteArray × Int)))))) × Int))))) => (B14_2 x.1 x.2.1.1 x.2.1.2.1 x.2.1.2.2.1 x.2.1.2.2.2 x.2.2.1.1 x.2.2.1.2.1 x.2.2.1.2.2.1 x.2.2.1.2.2.2 x.2.2.2.1 x.2.2.2.2)) fuel x
def lsL14_2 : LS := ⟨(.one .normal ⟨.non, [1, 2, 9, 10, 12], (.seq (.dat (.sl (.int .i64))) (.seq (.box 0 (.seq (.dat (.sl (.pr (.int .i64) .str))) (.seq (.dat (.int .i64)) (.seq (.dat (.sl (.pr (.pr .str (.pr .str (.int .i64))) (.pr (.int .i64) (.int .i64))))) (.dat (.sl (.pr (.int .i64) (.int .i64)))))))) (.seq (.box 1 (.seq (.own 2 (.pr (.int .i64) .str)) (.seq (.dat (.int .i64)) (.seq (.own 3 (.pr (.pr .str (.pr .str (.int .i64))) (.pr (.int .i64) (.int .i64)))) (.own 4 (.pr (.int .i64) (.int .i64))))))) (.seq (.own 5 (.pr (.int .i64) (.pr (.int .i64) (.pr (.int .i64) (.pr .str (.pr .str (.int .i64))))))) (.dat (.int .i64)))))), 6, 216, 0⟩), (.two (.one (.exit 2) ⟨.non, [], .non, 0, 216, 0⟩) (.one .ret ⟨.non, [4], (.dat .bool), 0, 216, 0⟩)), fun (x : ((List Int) × (((List (Int × ByteArray)) × (Int × ((List ((ByteArray × (ByteArray × Int)) × (Int × Int))) × (List (Int × Int))))) × (((List (Int × ByteArray)) × (Int × ((List ((ByteArray × (ByteArray × Int)) × (Int × Int))) × (List (Int × Int))))) × ((List (Int × (Int × (Int × (ByteArray × (ByteArray × Int)))))) × Int))))) => (B14_2 x.1 x.2.1.1 x.2.1.2.1 x.2.1.2.2.1 x.2.1.2.2.2 x.2.2.1.1 x.2.2.1.2.1 x.2.2.1.2.2.1 x.2.2.1.2.2.2 x.2.2.2.1 x.2.2.2.2)⟩
/-- midrangelaw11.IplFinds -/
def F14 (a0 : (((List (Int × ByteArray)) × Int) × ((List ((ByteArray × (ByteArray × Int)) × (Int × Int))) × (List (Int × Int))))) (a1 : (List Int)) : Option Bool :=
  bndS (F15) fun y0 =>
  sel (bNot y0)
    (some false)
    (bndS (F18 a0) fun y1 =>
    sel (bOr (okS (F34 a0)) (bNot (bNot (bOr (bOr (bNot y1) (iLt 30 (lLen a1))) (iLt 0 (lLen a0.2.2)))))) (
    letS (valS (F34 a0) 0) fun y2 =>
    sel (bOr (bOr (bOr (bNot y1) (iLt 30 (lLen a1))) (iLt 0 (lLen a0.2.2))) (bNot (iEq y2 0)))
      (some true)
      (bndS (F20 a0) fun y3 =>
      bndS (L14_0 (.inl (a1, ((a0.1.1, (a0.1.2, a0.2)), ((y3.1, (y3.2.1, y3.2.2.2)), 0))))) fun y4 =>
      sumS y4 (fun y4a =>
        bndS (F20 ((y4a.2.2.1, y4a.2.2.2.1), ([], y4a.2.2.2.2))) fun y5 =>
        bndS (F41 ((y5.1, y5.2.1), y5.2.2)) fun y6 =>
        sel (bNot (iEq y6.2.2 0))
          (some (iEq y6.2.2 2))
          (bndS (L14_2 (y4a.1, (y4a.2.1, (y6.1, (y6.2.1, 0))))) fun y7 =>
          sumS y7 (fun y7a =>
            some true) fun y7b =>
            some y7b)) fun y4ar =>
        sumS y4ar (fun y4aa =>
        some y4aa) fun y4ab =>
        bndS (F20 ((y4ab.2.2.1, y4ab.2.2.2.1), y4ab.2.2.2.2)) fun y8 =>
        bndS (F41 ((y8.1, y8.2.1), y8.2.2)) fun y9 =>
        sel (bNot (iEq y9.2.2 0))
          (some (iEq y9.2.2 2))
          (bndS (L14_2 (y4ab.1, (y4ab.2.1, (y9.1, (y9.2.1, 0))))) fun y10 =>
          sumS y10 (fun y10a =>
            some true) fun y10b =>
            some y10b))) none)
def gF14 : FS := ⟨(.seq (.agg (.dat (.pr (.pr (.sl (.pr (.int .i64) .str)) (.int .i64)) (.pr (.sl (.pr (.pr .str (.pr .str (.int .i64))) (.pr (.int .i64) (.int .i64)))) (.sl (.pr (.int .i64) (.int .i64))))))) (.dat (.sl (.int .i64)))), 0, (.one ⟨.non, (.dat .bool), 0, 0⟩), fun x => (F14 x.1 x.2)⟩
theorem rL14_0 (x : lsL14_0.hd.T) : kRound env (GofL [(41, [gF41]), (20, [gF20]), (32, [gF32]), (28, [gF28]), (47, [gF47]), (44, [gF44]), (46, [gF46]), (34, [gF34]), (18, [gF18]), (15, [gF15])]) (LofL [(14, [(0, lsL14_0), (4, lsL14_4), (2, lsL14_2)])]) 14 0 (lpOf Tryz.prog 14 0).2 (lsL14_0.hd.st x) lsL14_0.rd = lsL14_0.B x := by rcases x with x | x <;> kernel_rfl
theorem rL14_4 (x : lsL14_4.hd.T) : kRound env (GofL [(41, [gF41]), (20, [gF20]), (32, [gF32]), (28, [gF28]), (47, [gF47]), (44, [gF44]), (46, [gF46]), (34, [gF34]), (18, [gF18]), (15, [gF15])]) (LofL [(14, [(0, lsL14_0), (4, lsL14_4), (2, lsL14_2)])]) 14 4 (lpOf Tryz.prog 14 2).2 (lsL14_4.hd.st x) lsL14_4.rd = lsL14_4.B x := by kernel_rfl
theorem rL14_2 (x : lsL14_2.hd.T) : kRound env (GofL [(41, [gF41]), (20, [gF20]), (32, [gF32]), (28, [gF28]), (47, [gF47]), (44, [gF44]), (46, [gF46]), (34, [gF34]), (18, [gF18]), (15, [gF15])]) (LofL [(14, [(0, lsL14_0), (4, lsL14_4), (2, lsL14_2)])]) 14 2 (lpOf Tryz.prog 14 1).2 (lsL14_2.hd.st x) lsL14_2.rd = lsL14_2.B x := by kernel_rfl
theorem eF14 (x : gF14.a.T) : kF env (GofL [(41, [gF41]), (20, [gF20]), (32, [gF32]), (28, [gF28]), (47, [gF47]), (44, [gF44]), (46, [gF46]), (34, [gF34]), (18, [gF18]), (15, [gF15])]) (LofL [(14, [(0, lsL14_0), (4, lsL14_4), (2, lsL14_2)])]) 14 (gF14.args x) (gF14.bs x) gF14.r.dec = gF14.F x := by kernel_rfl
theorem sF14 : SpecAt env 11 14 gF14 := mkSpec (r := 10) (gl := [(41, [gF41]), (20, [gF20]), (32, [gF32]), (28, [gF28]), (47, [gF47]), (44, [gF44]), (46, [gF46]), (34, [gF34]), (18, [gF18]), (15, [gF15])]) (L0 := [(0, lsL14_0), (4, lsL14_4), (2, lsL14_2)]) (by kernel_rfl) ⟨⟨sF41.up (by decide), trivial⟩, ⟨sF20.up (by decide), trivial⟩, ⟨sF32.up (by decide), trivial⟩, ⟨sF28.up (by decide), trivial⟩, ⟨sF47.up (by decide), trivial⟩, ⟨sF44.up (by decide), trivial⟩, ⟨sF46.up (by decide), trivial⟩, ⟨sF34.up (by decide), trivial⟩, ⟨sF18.up (by decide), trivial⟩, ⟨sF15.up (by decide), trivial⟩, trivial⟩ ⟨⟨0, by kernel_rfl, by kernel_rfl, rL14_0⟩, ⟨2, by kernel_rfl, by kernel_rfl, rL14_4⟩, ⟨1, by kernel_rfl, by kernel_rfl, rL14_2⟩, trivial⟩ eF14 (fun h => absurd h (by rw [show env.nl 14 = false by kernel_rfl]; decide))
end
end Go.Proofs.YtiddpfhpmodfbaaGreatDoor.K
end
