/- A part of the proof: texts of the author, joined. -/
import Derived.Test.YtiddpfhpmodfbaaGreatDoorKS2
section
set_option linter.unusedVariables false
set_option linter.unusedSimpArgs false
set_option linter.unnecessarySimpa false
open Go Go.Ev Go.Proofs
namespace Go.Proofs.YtiddpfhpmodfbaaGreatDoor.K
set_option linter.unusedVariables false
set_option maxRecDepth 100000
noncomputable section
def B42_0h0 (a0 : (List (Int × ByteArray))) (a1 : Int) (a2 : (List ((ByteArray × (ByteArray × Int)) × (Int × Int)))) (a3 : (List (Int × Int))) (a4 : Int) (a5 : Int) (a6 : Int) (a7 : (List (Int × ByteArray))) (a8 : Int) (a9 : (List (Int × Int))) (a10 : Int) (a11 : Int) (a12 : Int) : Option (((((List (Int × ByteArray)) × (Int × ((List ((ByteArray × (ByteArray × Int)) × (Int × Int))) × (List (Int × Int))))) × ((Int × (Int × Int)) × (((List (Int × ByteArray)) × (Int × ((List (Int × Int)) × (Int × Int)))) × Int))) ⊕ ((((List (Int × ByteArray)) × (Int × ((List ((ByteArray × (ByteArray × Int)) × (Int × Int))) × (List (Int × Int))))) × ((Int × (Int × Int)) × (((List (Int × ByteArray)) × (Int × ((List (Int × Int)) × ((List (Int × (Int × (Int × (ByteArray × (ByteArray × Int)))))) × (Int × Int))))) × Int))) ⊕ ((((List (Int × ByteArray)) × (Int × ((List ((ByteArray × (ByteArray × Int)) × (Int × Int))) × (List (Int × Int))))) × ((Int × (Int × Int)) × (((List (Int × ByteArray)) × (Int × ((List ((ByteArray × (ByteArray × Int)) × (Int × Int))) × ((List (Int × Int)) × (Int × Int))))) × Int))) ⊕ (((List (Int × ByteArray)) × (Int × ((List ((ByteArray × (ByteArray × Int)) × (Int × Int))) × (List (Int × Int))))) × ((Int × (Int × Int)) × (((List (Int × ByteArray)) × (Int × ((List ((ByteArray × (ByteArray × Int)) × (Int × Int))) × ((List (Int × Int)) × ((List (Int × (Int × (Int × (ByteArray × (ByteArray × Int)))))) × (Int × Int)))))) × Int)))))) ⊕ ((((List (Int × ByteArray)) × (Int × ((List ((ByteArray × (ByteArray × Int)) × (Int × Int))) × (List (Int × Int))))) × ((Int × (Int × Int)) × ((List (Int × ByteArray)) × (Int × ((List (Int × Int)) × (Int × Int)))))) ⊕ ((((List (Int × ByteArray)) × (Int × ((List ((ByteArray × (ByteArray × Int)) × (Int × Int))) × (List (Int × Int))))) × ((Int × (Int × Int)) × ((List (Int × ByteArray)) × (Int × ((List (Int × Int)) × ((List (Int × (Int × (Int × (ByteArray × (ByteArray × Int)))))) × (Int × Int))))))) ⊕ ((((List (Int × ByteArray)) × (Int × ((List ((ByteArray × (ByteArray × Int)) × (Int × Int))) × (List (Int × Int))))) × ((Int × (Int × Int)) × ((List (Int × ByteArray)) × (Int × ((List ((ByteArray × (ByteArray × Int)) × (Int × Int))) × ((List (Int × Int)) × (Int × Int))))))) ⊕ (((List (Int × ByteArray)) × (Int × ((List ((ByteArray × (ByteArray × Int)) × (Int × Int))) × (List (Int × Int))))) × ((Int × (Int × Int)) × ((List (Int × ByteArray)) × (Int × ((List ((ByteArray × (ByteArray × Int)) × (Int × Int))) × ((List (Int × Int)) × ((List (Int × (Int × (Int × (ByteArray × (ByteArray × Int)))))) × (Int × Int)))))))))))) :=
  sel (iLt a12 (lLen a2))
    (sel (oIn a12 (lLen a2)) (
    bndS (F28 (a0, a1) (lAt a2 a12).2.1) fun y0 =>
    sel (bNot (iEq y0 (-1)))
      (sel (lCap 56 [(lAt a2 a12)]) (
      some (.inl (.inr (.inr (.inl ((a0, (a1, (a2, a3))), ((a4, (a5, a6)), ((a7, (a8, ([(lAt a2 a12)], (a9, (a10, a11))))), (iAdd .i64 a12 1))))))))) none)
      (sel (lCap 64 [(3, ((lAt a2 a12).2.1, (0, (lAt a2 a12).1)))]) (
      some (.inl (.inr (.inl ((a0, (a1, (a2, a3))), ((a4, (a5, a6)), ((a7, (a8, (a9, ([(3, ((lAt a2 a12).2.1, (0, (lAt a2 a12).1)))], (a10, a11))))), (iAdd .i64 a12 1)))))))) none)) none)
    (some (.inr (.inl ((a0, (a1, (a2, a3))), ((a4, (a5, a6)), (a7, (a8, (a9, (a10, a11)))))))))
def B42_0h1 (a0 : (List (Int × ByteArray))) (a1 : Int) (a2 : (List ((ByteArray × (ByteArray × Int)) × (Int × Int)))) (a3 : (List (Int × Int))) (a4 : Int) (a5 : Int) (a6 : Int) (a7 : (List (Int × ByteArray))) (a8 : Int) (a9 : (List (Int × Int))) (a10 : (List (Int × (Int × (Int × (ByteArray × (ByteArray × Int))))))) (a11 : Int) (a12 : Int) (a13 : Int) : Option (((((List (Int × ByteArray)) × (Int × ((List ((ByteArray × (ByteArray × Int)) × (Int × Int))) × (List (Int × Int))))) × ((Int × (Int × Int)) × (((List (Int × ByteArray)) × (Int × ((List (Int × Int)) × (Int × Int)))) × Int))) ⊕ ((((List (Int × ByteArray)) × (Int × ((List ((ByteArray × (ByteArray × Int)) × (Int × Int))) × (List (Int × Int))))) × ((Int × (Int × Int)) × (((List (Int × ByteArray)) × (Int × ((List (Int × Int)) × ((List (Int × (Int × (Int × (ByteArray × (ByteArray × Int)))))) × (Int × Int))))) × Int))) ⊕ ((((List (Int × ByteArray)) × (Int × ((List ((ByteArray × (ByteArray × Int)) × (Int × Int))) × (List (Int × Int))))) × ((Int × (Int × Int)) × (((List (Int × ByteArray)) × (Int × ((List ((ByteArray × (ByteArray × Int)) × (Int × Int))) × ((List (Int × Int)) × (Int × Int))))) × Int))) ⊕ (((List (Int × ByteArray)) × (Int × ((List ((ByteArray × (ByteArray × Int)) × (Int × Int))) × (List (Int × Int))))) × ((Int × (Int × Int)) × (((List (Int × ByteArray)) × (Int × ((List ((ByteArray × (ByteArray × Int)) × (Int × Int))) × ((List (Int × Int)) × ((List (Int × (Int × (Int × (ByteArray × (ByteArray × Int)))))) × (Int × Int)))))) × Int)))))) ⊕ ((((List (Int × ByteArray)) × (Int × ((List ((ByteArray × (ByteArray × Int)) × (Int × Int))) × (List (Int × Int))))) × ((Int × (Int × Int)) × ((List (Int × ByteArray)) × (Int × ((List (Int × Int)) × (Int × Int)))))) ⊕ ((((List (Int × ByteArray)) × (Int × ((List ((ByteArray × (ByteArray × Int)) × (Int × Int))) × (List (Int × Int))))) × ((Int × (Int × Int)) × ((List (Int × ByteArray)) × (Int × ((List (Int × Int)) × ((List (Int × (Int × (Int × (ByteArray × (ByteArray × Int)))))) × (Int × Int))))))) ⊕ ((((List (Int × ByteArray)) × (Int × ((List ((ByteArray × (ByteArray × Int)) × (Int × Int))) × (List (Int × Int))))) × ((Int × (Int × Int)) × ((List (Int × ByteArray)) × (Int × ((List ((ByteArray × (ByteArray × Int)) × (Int × Int))) × ((List (Int × Int)) × (Int × Int))))))) ⊕ (((List (Int × ByteArray)) × (Int × ((List ((ByteArray × (ByteArray × Int)) × (Int × Int))) × (List (Int × Int))))) × ((Int × (Int × Int)) × ((List (Int × ByteArray)) × (Int × ((List ((ByteArray × (ByteArray × Int)) × (Int × Int))) × ((List (Int × Int)) × ((List (Int × (Int × (Int × (ByteArray × (ByteArray × Int)))))) × (Int × Int)))))))))))) :=
  sel (iLt a13 (lLen a2))
    (sel (oIn a13 (lLen a2)) (
    bndS (F28 (a0, a1) (lAt a2 a13).2.1) fun y0 =>
    sel (bNot (iEq y0 (-1)))
      (sel (lCap 56 [(lAt a2 a13)]) (
      some (.inl (.inr (.inr (.inr ((a0, (a1, (a2, a3))), ((a4, (a5, a6)), ((a7, (a8, ([(lAt a2 a13)], (a9, (a10, (a11, a12)))))), (iAdd .i64 a13 1))))))))) none)
      (sel (lCap 64 (lApp a10 [(3, ((lAt a2 a13).2.1, (0, (lAt a2 a13).1)))])) (
      some (.inl (.inr (.inl ((a0, (a1, (a2, a3))), ((a4, (a5, a6)), ((a7, (a8, (a9, ((lApp a10 [(3, ((lAt a2 a13).2.1, (0, (lAt a2 a13).1)))]), (a11, a12))))), (iAdd .i64 a13 1)))))))) none)) none)
    (some (.inr (.inr (.inl ((a0, (a1, (a2, a3))), ((a4, (a5, a6)), (a7, (a8, (a9, (a10, (a11, a12)))))))))))
def B42_0h2 (a0 : (List (Int × ByteArray))) (a1 : Int) (a2 : (List ((ByteArray × (ByteArray × Int)) × (Int × Int)))) (a3 : (List (Int × Int))) (a4 : Int) (a5 : Int) (a6 : Int) (a7 : (List (Int × ByteArray))) (a8 : Int) (a9 : (List ((ByteArray × (ByteArray × Int)) × (Int × Int)))) (a10 : (List (Int × Int))) (a11 : Int) (a12 : Int) (a13 : Int) : Option (((((List (Int × ByteArray)) × (Int × ((List ((ByteArray × (ByteArray × Int)) × (Int × Int))) × (List (Int × Int))))) × ((Int × (Int × Int)) × (((List (Int × ByteArray)) × (Int × ((List (Int × Int)) × (Int × Int)))) × Int))) ⊕ ((((List (Int × ByteArray)) × (Int × ((List ((ByteArray × (ByteArray × Int)) × (Int × Int))) × (List (Int × Int))))) × ((Int × (Int × Int)) × (((List (Int × ByteArray)) × (Int × ((List (Int × Int)) × ((List (Int × (Int × (Int × (ByteArray × (ByteArray × Int)))))) × (Int × Int))))) × Int))) ⊕ ((((List (Int × ByteArray)) × (Int × ((List ((ByteArray × (ByteArray × Int)) × (Int × Int))) × (List (Int × Int))))) × ((Int × (Int × Int)) × (((List (Int × ByteArray)) × (Int × ((List ((ByteArray × (ByteArray × Int)) × (Int × Int))) × ((List (Int × Int)) × (Int × Int))))) × Int))) ⊕ (((List (Int × ByteArray)) × (Int × ((List ((ByteArray × (ByteArray × Int)) × (Int × Int))) × (List (Int × Int))))) × ((Int × (Int × Int)) × (((List (Int × ByteArray)) × (Int × ((List ((ByteArray × (ByteArray × Int)) × (Int × Int))) × ((List (Int × Int)) × ((List (Int × (Int × (Int × (ByteArray × (ByteArray × Int)))))) × (Int × Int)))))) × Int)))))) ⊕ ((((List (Int × ByteArray)) × (Int × ((List ((ByteArray × (ByteArray × Int)) × (Int × Int))) × (List (Int × Int))))) × ((Int × (Int × Int)) × ((List (Int × ByteArray)) × (Int × ((List (Int × Int)) × (Int × Int)))))) ⊕ ((((List (Int × ByteArray)) × (Int × ((List ((ByteArray × (ByteArray × Int)) × (Int × Int))) × (List (Int × Int))))) × ((Int × (Int × Int)) × ((List (Int × ByteArray)) × (Int × ((List (Int × Int)) × ((List (Int × (Int × (Int × (ByteArray × (ByteArray × Int)))))) × (Int × Int))))))) ⊕ ((((List (Int × ByteArray)) × (Int × ((List ((ByteArray × (ByteArray × Int)) × (Int × Int))) × (List (Int × Int))))) × ((Int × (Int × Int)) × ((List (Int × ByteArray)) × (Int × ((List ((ByteArray × (ByteArray × Int)) × (Int × Int))) × ((List (Int × Int)) × (Int × Int))))))) ⊕ (((List (Int × ByteArray)) × (Int × ((List ((ByteArray × (ByteArray × Int)) × (Int × Int))) × (List (Int × Int))))) × ((Int × (Int × Int)) × ((List (Int × ByteArray)) × (Int × ((List ((ByteArray × (ByteArray × Int)) × (Int × Int))) × ((List (Int × Int)) × ((List (Int × (Int × (Int × (ByteArray × (ByteArray × Int)))))) × (Int × Int)))))))))))) :=
  sel (iLt a13 (lLen a2))
    (sel (oIn a13 (lLen a2)) (
    bndS (F28 (a0, a1) (lAt a2 a13).2.1) fun y0 =>
    sel (bNot (iEq y0 (-1)))
      (sel (lCap 56 (lApp a9 [(lAt a2 a13)])) (
      some (.inl (.inr (.inr (.inl ((a0, (a1, (a2, a3))), ((a4, (a5, a6)), ((a7, (a8, ((lApp a9 [(lAt a2 a13)]), (a10, (a11, a12))))), (iAdd .i64 a13 1))))))))) none)
      (sel (lCap 64 [(3, ((lAt a2 a13).2.1, (0, (lAt a2 a13).1)))]) (
      some (.inl (.inr (.inr (.inr ((a0, (a1, (a2, a3))), ((a4, (a5, a6)), ((a7, (a8, (a9, (a10, ([(3, ((lAt a2 a13).2.1, (0, (lAt a2 a13).1)))], (a11, a12)))))), (iAdd .i64 a13 1))))))))) none)) none)
    (some (.inr (.inr (.inr (.inl ((a0, (a1, (a2, a3))), ((a4, (a5, a6)), (a7, (a8, (a9, (a10, (a11, a12))))))))))))
def B42_0h3 (a0 : (List (Int × ByteArray))) (a1 : Int) (a2 : (List ((ByteArray × (ByteArray × Int)) × (Int × Int)))) (a3 : (List (Int × Int))) (a4 : Int) (a5 : Int) (a6 : Int) (a7 : (List (Int × ByteArray))) (a8 : Int) (a9 : (List ((ByteArray × (ByteArray × Int)) × (Int × Int)))) (a10 : (List (Int × Int))) (a11 : (List (Int × (Int × (Int × (ByteArray × (ByteArray × Int))))))) (a12 : Int) (a13 : Int) (a14 : Int) : Option (((((List (Int × ByteArray)) × (Int × ((List ((ByteArray × (ByteArray × Int)) × (Int × Int))) × (List (Int × Int))))) × ((Int × (Int × Int)) × (((List (Int × ByteArray)) × (Int × ((List (Int × Int)) × (Int × Int)))) × Int))) ⊕ ((((List (Int × ByteArray)) × (Int × ((List ((ByteArray × (ByteArray × Int)) × (Int × Int))) × (List (Int × Int))))) × ((Int × (Int × Int)) × (((List (Int × ByteArray)) × (Int × ((List (Int × Int)) × ((List (Int × (Int × (Int × (ByteArray × (ByteArray × Int)))))) × (Int × Int))))) × Int))) ⊕ ((((List (Int × ByteArray)) × (Int × ((List ((ByteArray × (ByteArray × Int)) × (Int × Int))) × (List (Int × Int))))) × ((Int × (Int × Int)) × (((List (Int × ByteArray)) × (Int × ((List ((ByteArray × (ByteArray × Int)) × (Int × Int))) × ((List (Int × Int)) × (Int × Int))))) × Int))) ⊕ (((List (Int × ByteArray)) × (Int × ((List ((ByteArray × (ByteArray × Int)) × (Int × Int))) × (List (Int × Int))))) × ((Int × (Int × Int)) × (((List (Int × ByteArray)) × (Int × ((List ((ByteArray × (ByteArray × Int)) × (Int × Int))) × ((List (Int × Int)) × ((List (Int × (Int × (Int × (ByteArray × (ByteArray × Int)))))) × (Int × Int)))))) × Int)))))) ⊕ ((((List (Int × ByteArray)) × (Int × ((List ((ByteArray × (ByteArray × Int)) × (Int × Int))) × (List (Int × Int))))) × ((Int × (Int × Int)) × ((List (Int × ByteArray)) × (Int × ((List (Int × Int)) × (Int × Int)))))) ⊕ ((((List (Int × ByteArray)) × (Int × ((List ((ByteArray × (ByteArray × Int)) × (Int × Int))) × (List (Int × Int))))) × ((Int × (Int × Int)) × ((List (Int × ByteArray)) × (Int × ((List (Int × Int)) × ((List (Int × (Int × (Int × (ByteArray × (ByteArray × Int)))))) × (Int × Int))))))) ⊕ ((((List (Int × ByteArray)) × (Int × ((List ((ByteArray × (ByteArray × Int)) × (Int × Int))) × (List (Int × Int))))) × ((Int × (Int × Int)) × ((List (Int × ByteArray)) × (Int × ((List ((ByteArray × (ByteArray × Int)) × (Int × Int))) × ((List (Int × Int)) × (Int × Int))))))) ⊕ (((List (Int × ByteArray)) × (Int × ((List ((ByteArray × (ByteArray × Int)) × (Int × Int))) × (List (Int × Int))))) × ((Int × (Int × Int)) × ((List (Int × ByteArray)) × (Int × ((List ((ByteArray × (ByteArray × Int)) × (Int × Int))) × ((List (Int × Int)) × ((List (Int × (Int × (Int × (ByteArray × (ByteArray × Int)))))) × (Int × Int)))))))))))) :=
  sel (iLt a14 (lLen a2))
    (sel (oIn a14 (lLen a2)) (
    bndS (F28 (a0, a1) (lAt a2 a14).2.1) fun y0 =>
    sel (bNot (iEq y0 (-1)))
      (sel (lCap 56 (lApp a9 [(lAt a2 a14)])) (
      some (.inl (.inr (.inr (.inr ((a0, (a1, (a2, a3))), ((a4, (a5, a6)), ((a7, (a8, ((lApp a9 [(lAt a2 a14)]), (a10, (a11, (a12, a13)))))), (iAdd .i64 a14 1))))))))) none)
      (sel (lCap 64 (lApp a11 [(3, ((lAt a2 a14).2.1, (0, (lAt a2 a14).1)))])) (
      some (.inl (.inr (.inr (.inr ((a0, (a1, (a2, a3))), ((a4, (a5, a6)), ((a7, (a8, (a9, (a10, ((lApp a11 [(3, ((lAt a2 a14).2.1, (0, (lAt a2 a14).1)))]), (a12, a13)))))), (iAdd .i64 a14 1))))))))) none)) none)
    (some (.inr (.inr (.inr (.inr ((a0, (a1, (a2, a3))), ((a4, (a5, a6)), (a7, (a8, (a9, (a10, (a11, (a12, a13)))))))))))))
def L42_0 (x : ((((List (Int × ByteArray)) × (Int × ((List ((ByteArray × (ByteArray × Int)) × (Int × Int))) × (List (Int × Int))))) × ((Int × (Int × Int)) × (((List (Int × ByteArray)) × (Int × ((List (Int × Int)) × (Int × Int)))) × Int))) ⊕ ((((List (Int × ByteArray)) × (Int × ((List ((ByteArray × (ByteArray × Int)) × (Int × Int))) × (List (Int × Int))))) × ((Int × (Int × Int)) × (((List (Int × ByteArray)) × (Int × ((List (Int × Int)) × ((List (Int × (Int × (Int × (ByteArray × (ByteArray × Int)))))) × (Int × Int))))) × Int))) ⊕ ((((List (Int × ByteArray)) × (Int × ((List ((ByteArray × (ByteArray × Int)) × (Int × Int))) × (List (Int × Int))))) × ((Int × (Int × Int)) × (((List (Int × ByteArray)) × (Int × ((List ((ByteArray × (ByteArray × Int)) × (Int × Int))) × ((List (Int × Int)) × (Int × Int))))) × Int))) ⊕ (((List (Int × ByteArray)) × (Int × ((List ((ByteArray × (ByteArray × Int)) × (Int × Int))) × (List (Int × Int))))) × ((Int × (Int × Int)) × (((List (Int × ByteArray)) × (Int × ((List ((ByteArray × (ByteArray × Int)) × (Int × Int))) × ((List (Int × Int)) × ((List (Int × (Int × (Int × (ByteArray × (ByteArray × Int)))))) × (Int × Int)))))) × Int))))))) : Option ((((List (Int × ByteArray)) × (Int × ((List ((ByteArray × (ByteArray × Int)) × (Int × Int))) × (List (Int × Int))))) × ((Int × (Int × Int)) × ((List (Int × ByteArray)) × (Int × ((List (Int × Int)) × (Int × Int)))))) ⊕ ((((List (Int × ByteArray)) × (Int × ((List ((ByteArray × (ByteArray × Int)) × (Int × Int))) × (List (Int × Int))))) × ((Int × (Int × Int)) × ((List (Int × ByteArray)) × (Int × ((List (Int × Int)) × ((List (Int × (Int × (Int × (ByteArray × (ByteArray × Int)))))) × (Int × Int))))))) ⊕ ((((List (Int × ByteArray)) × (Int × ((List ((ByteArray × (ByteArray × Int)) × (Int × Int))) × (List (Int × Int))))) × ((Int × (Int × Int)) × ((List (Int × ByteArray)) × (Int × ((List ((ByteArray × (ByteArray × Int)) × (Int × Int))) × ((List (Int × Int)) × (Int × Int))))))) ⊕ (((List (Int × ByteArray)) × (Int × ((List ((ByteArray × (ByteArray × Int)) × (Int × Int))) × (List (Int × Int))))) × ((Int × (Int × Int)) × ((List (Int × ByteArray)) × (Int × ((List ((ByteArray × (ByteArray × Int)) × (Int × Int))) × ((List (Int × Int)) × ((List (Int × (Int × (Int × (ByteArray × (ByteArray × Int)))))) × (Int × Int))))))))))) := iter (fun (x : ((((List (Int × ByteArray)) × (Int × ((List ((ByteArray × (ByteArray × Int)) × (Int × Int))) × (List (Int × Int))))) × ((Int × (Int × Int)) × (((List (Int × ByteArray)) × (Int × ((List (Int × Int)) × (Int × Int)))) × Int))) ⊕ ((((List (Int × ByteArray)) × (Int × ((List ((ByteArray × (ByteArray × Int)) × (Int × Int))) × (List (Int × Int))))) × ((Int × (Int × Int)) × (((List (Int × ByteArray)) × (Int × ((List (Int × Int)) × ((List (Int × (Int × (Int × (ByteArray × (ByteArray × Int)))))) × (Int × Int))))) × Int))) ⊕ ((((List (Int × ByteArray)) × (Int × ((List ((ByteArray × (ByteArray × Int)) × (Int × Int))) × (List (Int × Int))))) × ((Int × (Int × Int)) × (((List (Int × ByteArray)) × (Int × ((List ((ByteArray × (ByteArray × Int)) × (Int × Int))) × ((List (Int × Int)) × (Int × Int))))) × Int))) ⊕ (((List (Int × ByteArray)) × (Int × ((List ((ByteArray × (ByteArray × Int)) × (Int × Int))) × (List (Int × Int))))) × ((Int × (Int × Int)) × (((List (Int × ByteArray)) × (Int × ((List ((ByteArray × (ByteArray × Int)) × (Int × Int))) × ((List (Int × Int)) × ((List (Int × (Int × (Int × (ByteArray × (ByteArray × Int)))))) × (Int × Int)))))) × Int))))))) => (sumS x (fun x => (B42_0h0 x.1.1 x.1.2.1 x.1.2.2.1 x.1.2.2.2 x.2.1.1 x.2.1.2.1 x.2.1.2.2 x.2.2.1.1 x.2.2.1.2.1 x.2.2.1.2.2.1 x.2.2.1.2.2.2.1 x.2.2.1.2.2.2.2 x.2.2.2)) fun x => (sumS x (fun x => (B42_0h1 x.1.1 x.1.2.1 x.1.2.2.1 x.1.2.2.2 x.2.1.1 x.2.1.2.1 x.2.1.2.2 x.2.2.1.1 x.2.2.1.2.1 x.2.2.1.2.2.1 x.2.2.1.2.2.2.1 x.2.2.1.2.2.2.2.1 x.2.2.1.2.2.2.2.2 x.2.2.2)) fun x => (sumS x (fun x => (B42_0h2 x.1.1 x.1.2.1 x.1.2.2.1 x.1.2.2.2 x.2.1.1 x.2.1.2.1 x.2.1.2.2 x.2.2.1.1 x.2.2.1.2.1 x.2.2.1.2.2.1 x.2.2.1.2.2.2.1 x.2.2.1.2.2.2.2.1 x.2.2.1.2.2.2.2.2 x.2.2.2)) fun x => (B42_0h3 x.1.1 x.1.2.1 x.1.2.2.1 x.1.2.2.2 x.2.1.1 x.2.1.2.1 x.2.1.2.2 x.2.2.1.1 x.2.2.1.2.1 x.2.2.1.2.2.1 x.2.2.1.2.2.2.1 x.2.2.1.2.2.2.2.1 x.2.2.1.2.2.2.2.2.1 x.2.2.1.2.2.2.2.2.2 x.2.2.2))))) fuel x
def lsL42_0 : LS := ⟨(.two (.one .normal ⟨.non, [1, 2, 4, 5], (.seq (.box 0 (.seq (.dat (.sl (.pr (.int .i64) .str))) (.seq (.dat (.int .i64)) (.seq (.dat (.sl (.pr (.pr .str (.pr .str (.int .i64))) (.pr (.int .i64) (.int .i64))))) (.dat (.sl (.pr (.int .i64) (.int .i64)))))))) (.seq (.box 1 (.seq (.lit (.slice none 0 0)) (.seq (.dat (.int .i64)) (.seq (.lit (.slice none 0 0)) (.seq (.lit (.slice none 0 0)) (.seq (.lit (.slice none 0 0)) (.seq (.dat (.int .i64)) (.dat (.int .i64))))))))) (.seq (.box 2 (.seq (.own 3 (.pr (.int .i64) .str)) (.seq (.dat (.int .i64)) (.seq (.lit (.slice none 0 0)) (.seq (.own 4 (.pr (.int .i64) (.int .i64))) (.seq (.lit (.slice none 0 0)) (.seq (.dat (.int .i64)) (.dat (.int .i64))))))))) (.dat (.int .i64))))), 5, 150, 0⟩) (.two (.one .normal ⟨.non, [1, 2, 4, 5], (.seq (.box 0 (.seq (.dat (.sl (.pr (.int .i64) .str))) (.seq (.dat (.int .i64)) (.seq (.dat (.sl (.pr (.pr .str (.pr .str (.int .i64))) (.pr (.int .i64) (.int .i64))))) (.dat (.sl (.pr (.int .i64) (.int .i64)))))))) (.seq (.box 1 (.seq (.lit (.slice none 0 0)) (.seq (.dat (.int .i64)) (.seq (.lit (.slice none 0 0)) (.seq (.lit (.slice none 0 0)) (.seq (.lit (.slice none 0 0)) (.seq (.dat (.int .i64)) (.dat (.int .i64))))))))) (.seq (.box 2 (.seq (.own 3 (.pr (.int .i64) .str)) (.seq (.dat (.int .i64)) (.seq (.lit (.slice none 0 0)) (.seq (.own 4 (.pr (.int .i64) (.int .i64))) (.seq (.own 5 (.pr (.int .i64) (.pr (.int .i64) (.pr (.int .i64) (.pr .str (.pr .str (.int .i64))))))) (.seq (.dat (.int .i64)) (.dat (.int .i64))))))))) (.dat (.int .i64))))), 6, 150, 0⟩) (.two (.one .normal ⟨.non, [1, 2, 4, 5], (.seq (.box 0 (.seq (.dat (.sl (.pr (.int .i64) .str))) (.seq (.dat (.int .i64)) (.seq (.dat (.sl (.pr (.pr .str (.pr .str (.int .i64))) (.pr (.int .i64) (.int .i64))))) (.dat (.sl (.pr (.int .i64) (.int .i64)))))))) (.seq (.box 1 (.seq (.lit (.slice none 0 0)) (.seq (.dat (.int .i64)) (.seq (.lit (.slice none 0 0)) (.seq (.lit (.slice none 0 0)) (.seq (.lit (.slice none 0 0)) (.seq (.dat (.int .i64)) (.dat (.int .i64))))))))) (.seq (.box 2 (.seq (.own 3 (.pr (.int .i64) .str)) (.seq (.dat (.int .i64)) (.seq (.own 4 (.pr (.pr .str (.pr .str (.int .i64))) (.pr (.int .i64) (.int .i64)))) (.seq (.own 5 (.pr (.int .i64) (.int .i64))) (.seq (.lit (.slice none 0 0)) (.seq (.dat (.int .i64)) (.dat (.int .i64))))))))) (.dat (.int .i64))))), 6, 150, 0⟩) (.one .normal ⟨.non, [1, 2, 4, 5], (.seq (.box 0 (.seq (.dat (.sl (.pr (.int .i64) .str))) (.seq (.dat (.int .i64)) (.seq (.dat (.sl (.pr (.pr .str (.pr .str (.int .i64))) (.pr (.int .i64) (.int .i64))))) (.dat (.sl (.pr (.int .i64) (.int .i64)))))))) (.seq (.box 1 (.seq (.lit (.slice none 0 0)) (.seq (.dat (.int .i64)) (.seq (.lit (.slice none 0 0)) (.seq (.lit (.slice none 0 0)) (.seq (.lit (.slice none 0 0)) (.seq (.dat (.int .i64)) (.dat (.int .i64))))))))) (.seq (.box 2 (.seq (.own 3 (.pr (.int .i64) .str)) (.seq (.dat (.int .i64)) (.seq (.own 4 (.pr (.pr .str (.pr .str (.int .i64))) (.pr (.int .i64) (.int .i64)))) (.seq (.own 5 (.pr (.int .i64) (.int .i64))) (.seq (.own 6 (.pr (.int .i64) (.pr (.int .i64) (.pr (.int .i64) (.pr .str (.pr .str (.int .i64))))))) (.seq (.dat (.int .i64)) (.dat (.int .i64))))))))) (.dat (.int .i64))))), 7, 150, 0⟩)))), (.two (.one (.exit 0) ⟨.non, [1, 2, 4], (.seq (.box 0 (.seq (.dat (.sl (.pr (.int .i64) .str))) (.seq (.dat (.int .i64)) (.seq (.dat (.sl (.pr (.pr .str (.pr .str (.int .i64))) (.pr (.int .i64) (.int .i64))))) (.dat (.sl (.pr (.int .i64) (.int .i64)))))))) (.seq (.box 1 (.seq (.lit (.slice none 0 0)) (.seq (.dat (.int .i64)) (.seq (.lit (.slice none 0 0)) (.seq (.lit (.slice none 0 0)) (.seq (.lit (.slice none 0 0)) (.seq (.dat (.int .i64)) (.dat (.int .i64))))))))) (.box 2 (.seq (.own 3 (.pr (.int .i64) .str)) (.seq (.dat (.int .i64)) (.seq (.lit (.slice none 0 0)) (.seq (.own 4 (.pr (.int .i64) (.int .i64))) (.seq (.lit (.slice none 0 0)) (.seq (.dat (.int .i64)) (.dat (.int .i64))))))))))), 5, 150, 0⟩) (.two (.one (.exit 0) ⟨.non, [1, 2, 4], (.seq (.box 0 (.seq (.dat (.sl (.pr (.int .i64) .str))) (.seq (.dat (.int .i64)) (.seq (.dat (.sl (.pr (.pr .str (.pr .str (.int .i64))) (.pr (.int .i64) (.int .i64))))) (.dat (.sl (.pr (.int .i64) (.int .i64)))))))) (.seq (.box 1 (.seq (.lit (.slice none 0 0)) (.seq (.dat (.int .i64)) (.seq (.lit (.slice none 0 0)) (.seq (.lit (.slice none 0 0)) (.seq (.lit (.slice none 0 0)) (.seq (.dat (.int .i64)) (.dat (.int .i64))))))))) (.box 2 (.seq (.own 3 (.pr (.int .i64) .str)) (.seq (.dat (.int .i64)) (.seq (.lit (.slice none 0 0)) (.seq (.own 4 (.pr (.int .i64) (.int .i64))) (.seq (.own 5 (.pr (.int .i64) (.pr (.int .i64) (.pr (.int .i64) (.pr .str (.pr .str (.int .i64))))))) (.seq (.dat (.int .i64)) (.dat (.int .i64))))))))))), 6, 150, 0⟩) (.two (.one (.exit 0) ⟨.non, [1, 2, 4], (.seq (.box 0 (.seq (.dat (.sl (.pr (.int .i64) .str))) (.seq (.dat (.int .i64)) (.seq (.dat (.sl (.pr (.pr .str (.pr .str (.int .i64))) (.pr (.int .i64) (.int .i64))))) (.dat (.sl (.pr (.int .i64) (.int .i64)))))))) (.seq (.box 1 (.seq (.lit (.slice none 0 0)) (.seq (.dat (.int .i64)) (.seq (.lit (.slice none 0 0)) (.seq (.lit (.slice none 0 0)) (.seq (.lit (.slice none 0 0)) (.seq (.dat (.int .i64)) (.dat (.int .i64))))))))) (.box 2 (.seq (.own 3 (.pr (.int .i64) .str)) (.seq (.dat (.int .i64)) (.seq (.own 4 (.pr (.pr .str (.pr .str (.int .i64))) (.pr (.int .i64) (.int .i64)))) (.seq (.own 5 (.pr (.int .i64) (.int .i64))) (.seq (.lit (.slice none 0 0)) (.seq (.dat (.int .i64)) (.dat (.int .i64))))))))))), 6, 150, 0⟩) (.one (.exit 0) ⟨.non, [1, 2, 4], (.seq (.box 0 (.seq (.dat (.sl (.pr (.int .i64) .str))) (.seq (.dat (.int .i64)) (.seq (.dat (.sl (.pr (.pr .str (.pr .str (.int .i64))) (.pr (.int .i64) (.int .i64))))) (.dat (.sl (.pr (.int .i64) (.int .i64)))))))) (.seq (.box 1 (.seq (.lit (.slice none 0 0)) (.seq (.dat (.int .i64)) (.seq (.lit (.slice none 0 0)) (.seq (.lit (.slice none 0 0)) (.seq (.lit (.slice none 0 0)) (.seq (.dat (.int .i64)) (.dat (.int .i64))))))))) (.box 2 (.seq (.own 3 (.pr (.int .i64) .str)) (.seq (.dat (.int .i64)) (.seq (.own 4 (.pr (.pr .str (.pr .str (.int .i64))) (.pr (.int .i64) (.int .i64)))) (.seq (.own 5 (.pr (.int .i64) (.int .i64))) (.seq (.own 6 (.pr (.int .i64) (.pr (.int .i64) (.pr (.int .i64) (.pr .str (.pr .str (.int .i64))))))) (.seq (.dat (.int .i64)) (.dat (.int .i64))))))))))), 7, 150, 0⟩)))), fun (x : ((((List (Int × ByteArray)) × (Int × ((List ((ByteArray × (ByteArray × Int)) × (Int × Int))) × (List (Int × Int))))) × ((Int × (Int × Int)) × (((List (Int × ByteArray)) × (Int × ((List (Int × Int)) × (Int × Int)))) × Int))) ⊕ ((((List (Int × ByteArray)) × (Int × ((List ((ByteArray × (ByteArray × Int)) × (Int × Int))) × (List (Int × Int))))) × ((Int × (Int × Int)) × (((List (Int × ByteArray)) × (Int × ((List (Int × Int)) × ((List (Int × (Int × (Int × (ByteArray × (ByteArray × Int)))))) × (Int × Int))))) × Int))) ⊕ ((((List (Int × ByteArray)) × (Int × ((List ((ByteArray × (ByteArray × Int)) × (Int × Int))) × (List (Int × Int))))) × ((Int × (Int × Int)) × (((List (Int × ByteArray)) × (Int × ((List ((ByteArray × (ByteArray × Int)) × (Int × Int))) × ((List (Int × Int)) × (Int × Int))))) × Int))) ⊕ (((List (Int × ByteArray)) × (Int × ((List ((ByteArray × (ByteArray × Int)) × (Int × Int))) × (List (Int × Int))))) × ((Int × (Int × Int)) × (((List (Int × ByteArray)) × (Int × ((List ((ByteArray × (ByteArray × Int)) × (Int × Int))) × ((List (Int × Int)) × ((List (Int × (Int × (Int × (ByteArray × (ByteArray × Int)))))) × (Int × Int)))))) × Int))))))) => (sumS x (fun x => (B42_0h0 x.1.1 x.1.2.1 x.1.2.2.1 x.1.2.2.2 x.2.1.1 x.2.1.2.1 x.2.1.2.2 x.2.2.1.1 x.2.2.1.2.1 x.2.2.1.2.2.1 x.2.2.1.2.2.2.1 x.2.2.1.2.2.2.2 x.2.2.2)) fun x => (sumS x (fun x => (B42_0h1 x.1.1 x.1.2.1 x.1.2.2.1 x.1.2.2.2 x.2.1.1 x.2.1.2.1 x.2.1.2.2 x.2.2.1.1 x.2.2.1.2.1 x.2.2.1.2.2.1 x.2.2.1.2.2.2.1 x.2.2.1.2.2.2.2.1 x.2.2.1.2.2.2.2.2 x.2.2.2)) fun x => (sumS x (fun x => (B42_0h2 x.1.1 x.1.2.1 x.1.2.2.1 x.1.2.2.2 x.2.1.1 x.2.1.2.1 x.2.1.2.2 x.2.2.1.1 x.2.2.1.2.1 x.2.2.1.2.2.1 x.2.2.1.2.2.2.1 x.2.2.1.2.2.2.2.1 x.2.2.1.2.2.2.2.2 x.2.2.2)) fun x => (B42_0h3 x.1.1 x.1.2.1 x.1.2.2.1 x.1.2.2.2 x.2.1.1 x.2.1.2.1 x.2.1.2.2 x.2.2.1.1 x.2.2.1.2.1 x.2.2.1.2.2.1 x.2.2.1.2.2.2.1 x.2.2.1.2.2.2.2.1 x.2.2.1.2.2.2.2.2.1 x.2.2.1.2.2.2.2.2.2 x.2.2.2))))⟩
def B44_0 (a0 : Int) (a1 : (List (Int × ByteArray))) (a2 : Int) (a3 : (List ((ByteArray × (ByteArray × Int)) × (Int × Int)))) (a4 : (List (Int × Int))) (a5 : Int) : Option ((Int × (((List (Int × ByteArray)) × (Int × ((List ((ByteArray × (ByteArray × Int)) × (Int × Int))) × (List (Int × Int))))) × Int)) ⊕ (Unit ⊕ Int)) :=
  sel (iLt a5 (lLen a3))
    (sel (oIn a5 (lLen a3)) (
    sel (iEq (lAt a3 a5).2.1 a0)
      (some (.inr (.inr a5)))
      (some (.inl (a0, ((a1, (a2, (a3, a4))), (iAdd .i64 a5 1)))))) none)
    (some (.inr (.inl ())))
def L44_0 (x : (Int × (((List (Int × ByteArray)) × (Int × ((List ((ByteArray × (ByteArray × Int)) × (Int × Int))) × (List (Int × Int))))) × Int))) : Option (Unit ⊕ Int) := iter (fun (x : (Int × (((List (Int × ByteArray)) × (Int × ((List ((ByteArray × (ByteArray × Int)) × (Int × Int))) × (List (Int × Int))))) × Int))) => (B44_0 x.1 x.2.1.1 x.2.1.2.1 x.2.1.2.2.1 x.2.1.2.2.2 x.2.2)) fuel x
def lsL44_0 : LS := ⟨(.one .normal ⟨.non, [1, 2, 5], (.seq (.dat (.int .i64)) (.seq (.box 0 (.seq (.dat (.sl (.pr (.int .i64) .str))) (.seq (.dat (.int .i64)) (.seq (.dat (.sl (.pr (.pr .str (.pr .str (.int .i64))) (.pr (.int .i64) (.int .i64))))) (.dat (.sl (.pr (.int .i64) (.int .i64)))))))) (.dat (.int .i64)))), 1, 22, 0⟩), (.two (.one (.exit 0) ⟨.non, [], .non, 0, 22, 0⟩) (.one .ret ⟨.non, [4], (.dat (.int .i64)), 0, 22, 0⟩)), fun (x : (Int × (((List (Int × ByteArray)) × (Int × ((List ((ByteArray × (ByteArray × Int)) × (Int × Int))) × (List (Int × Int))))) × Int))) => (B44_0 x.1 x.2.1.1 x.2.1.2.1 x.2.1.2.2.1 x.2.1.2.2.2 x.2.2)⟩
/-- midrangeref11.Entry -/
def F44 (a0 : (((List (Int × ByteArray)) × Int) × ((List ((ByteArray × (ByteArray × Int)) × (Int × Int))) × (List (Int × Int))))) (a1 : Int) : Option Int :=
  bndS (L44_0 (a1, ((a0.1.1, (a0.1.2, a0.2)), 0))) fun y0 =>
  sumS y0 (fun y0a =>
    some (-1)) fun y0b =>
    some y0b
def gF44 : FS := ⟨(.seq (.agg (.dat (.pr (.pr (.sl (.pr (.int .i64) .str)) (.int .i64)) (.pr (.sl (.pr (.pr .str (.pr .str (.int .i64))) (.pr (.int .i64) (.int .i64)))) (.sl (.pr (.int .i64) (.int .i64))))))) (.dat (.int .i64))), 0, (.one ⟨.non, (.dat (.int .i64)), 0, 0⟩), fun x => (F44 x.1 x.2)⟩
theorem rL44_0 (x : lsL44_0.hd.T) : kRound env (GofL []) (LofL [(44, [(0, lsL44_0)])]) 44 0 (lpOf Tryz.prog 44 0).2 (lsL44_0.hd.st x) lsL44_0.rd = lsL44_0.B x := by kernel_rfl
theorem eF44 (x : gF44.a.T) : kF env (GofL []) (LofL [(44, [(0, lsL44_0)])]) 44 (gF44.args x) (gF44.bs x) gF44.r.dec = gF44.F x := by kernel_rfl
theorem sF44 : SpecAt env 1 44 gF44 := mkSpec (r := 0) (gl := []) (L0 := [(0, lsL44_0)]) (by kernel_rfl) trivial ⟨⟨0, by kernel_rfl, by kernel_rfl, rL44_0⟩, trivial⟩ eF44 (fun h => absurd h (by rw [show env.nl 44 = false by kernel_rfl]; decide))
/-- midrangebase.Digits -/
def F152r4 (a0 : Int) : Option ByteArray :=
  sel (iLt a0 (-9))
    (sel (oNz 10) (
    none) none)
    (sel (iLt a0 0)
      (none)
      (sel (iLt a0 10)
        (some (sOf [(iCv .u8 (iAdd .i64 48 a0))]))
        (sel (oNz 10) (
        none) none)))
def gF152r4 : FS := ⟨(.dat (.int .i64)), 0, (.one ⟨.non, (.dat .str), 0, 0⟩), fun x => (F152r4 x)⟩
theorem eF152r4 (x : gF152r4.a.T) : kF env (GofL []) (LofL [(152, [])]) 152 (gF152r4.args x) (gF152r4.bs x) gF152r4.r.dec = gF152r4.F x := by kernel_rfl
theorem sF152r4 : SpecAt env 1 152 gF152r4 := mkSpec (r := 0) (gl := []) (L0 := []) (by kernel_rfl) trivial trivial eF152r4 (fun h => absurd h (by rw [show env.nl 152 = false by kernel_rfl]; decide))
/-- midrangebase.Digits -/
def F152r3 (a0 : Int) : Option ByteArray :=
  sel (iLt a0 (-9))
    (sel (oNz 10) (
    bndS (F152r4 (iNeg .i64 (iQuo .i64 a0 10))) fun y2 =>
    sel (sOk (bs [45]) y2) (
    sel (oNz 10) (
    bndS (F152r4 (iNeg .i64 (iRem a0 10))) fun y3 =>
    sel (sOk (sAdd (bs [45]) y2) y3) (
    some (sAdd (sAdd (bs [45]) y2) y3)) none) none) none) none)
    (sel (iLt a0 0)
      (bndS (F152r4 (iNeg .i64 a0)) fun y1 =>
      sel (sOk (bs [45]) y1) (
      some (sAdd (bs [45]) y1)) none)
      (sel (iLt a0 10)
        (some (sOf [(iCv .u8 (iAdd .i64 48 a0))]))
        (sel (oNz 10) (
        bndS (F152r4 (iQuo .i64 a0 10)) fun y0 =>
        sel (oNz 10) (
        sel (sOk y0 (sOf [(iCv .u8 (iAdd .i64 48 (iRem a0 10)))])) (
        some (sAdd y0 (sOf [(iCv .u8 (iAdd .i64 48 (iRem a0 10)))]))) none) none) none)))
def gF152r3 : FS := ⟨(.dat (.int .i64)), 0, (.one ⟨.non, (.dat .str), 0, 0⟩), fun x => (F152r3 x)⟩
theorem eF152r3 (x : gF152r3.a.T) : kF env (GofL [(152, [gF152r4])]) (LofL [(152, [])]) 152 (gF152r3.args x) (gF152r3.bs x) gF152r3.r.dec = gF152r3.F x := by kernel_rfl
theorem sF152r3 : SpecAt env 2 152 gF152r3 := mkSpec (r := 1) (gl := [(152, [gF152r4])]) (L0 := []) (by kernel_rfl) ⟨⟨sF152r4.up (by decide), trivial⟩, trivial⟩ trivial eF152r3 (fun h => absurd h (by rw [show env.nl 152 = false by kernel_rfl]; decide))
/-- midrangebase.Digits -/
def F152r2 (a0 : Int) : Option ByteArray :=
  sel (iLt a0 (-9))
    (sel (oNz 10) (
    bndS (F152r3 (iNeg .i64 (iQuo .i64 a0 10))) fun y2 =>
    sel (sOk (bs [45]) y2) (
    sel (oNz 10) (
    bndS (F152r3 (iNeg .i64 (iRem a0 10))) fun y3 =>
    sel (sOk (sAdd (bs [45]) y2) y3) (
    some (sAdd (sAdd (bs [45]) y2) y3)) none) none) none) none)
    (sel (iLt a0 0)
      (bndS (F152r3 (iNeg .i64 a0)) fun y1 =>
      sel (sOk (bs [45]) y1) (
      some (sAdd (bs [45]) y1)) none)
      (sel (iLt a0 10)
        (some (sOf [(iCv .u8 (iAdd .i64 48 a0))]))
        (sel (oNz 10) (
        bndS (F152r3 (iQuo .i64 a0 10)) fun y0 =>
        sel (oNz 10) (
        sel (sOk y0 (sOf [(iCv .u8 (iAdd .i64 48 (iRem a0 10)))])) (
        some (sAdd y0 (sOf [(iCv .u8 (iAdd .i64 48 (iRem a0 10)))]))) none) none) none)))
def gF152r2 : FS := ⟨(.dat (.int .i64)), 0, (.one ⟨.non, (.dat .str), 0, 0⟩), fun x => (F152r2 x)⟩
theorem eF152r2 (x : gF152r2.a.T) : kF env (GofL [(152, [gF152r3])]) (LofL [(152, [])]) 152 (gF152r2.args x) (gF152r2.bs x) gF152r2.r.dec = gF152r2.F x := by kernel_rfl
theorem sF152r2 : SpecAt env 3 152 gF152r2 := mkSpec (r := 2) (gl := [(152, [gF152r3])]) (L0 := []) (by kernel_rfl) ⟨⟨sF152r3.up (by decide), trivial⟩, trivial⟩ trivial eF152r2 (fun h => absurd h (by rw [show env.nl 152 = false by kernel_rfl]; decide))
/-- midrangebase.Digits -/
def F152r1 (a0 : Int) : Option ByteArray :=
  sel (iLt a0 (-9))
    (sel (oNz 10) (
    bndS (F152r2 (iNeg .i64 (iQuo .i64 a0 10))) fun y2 =>
    sel (sOk (bs [45]) y2) (
    sel (oNz 10) (
    bndS (F152r2 (iNeg .i64 (iRem a0 10))) fun y3 =>
    sel (sOk (sAdd (bs [45]) y2) y3) (
    some (sAdd (sAdd (bs [45]) y2) y3)) none) none) none) none)
    (sel (iLt a0 0)
      (bndS (F152r2 (iNeg .i64 a0)) fun y1 =>
      sel (sOk (bs [45]) y1) (
      some (sAdd (bs [45]) y1)) none)
      (sel (iLt a0 10)
        (some (sOf [(iCv .u8 (iAdd .i64 48 a0))]))
        (sel (oNz 10) (
        bndS (F152r2 (iQuo .i64 a0 10)) fun y0 =>
        sel (oNz 10) (
        sel (sOk y0 (sOf [(iCv .u8 (iAdd .i64 48 (iRem a0 10)))])) (
        some (sAdd y0 (sOf [(iCv .u8 (iAdd .i64 48 (iRem a0 10)))]))) none) none) none)))
def gF152r1 : FS := ⟨(.dat (.int .i64)), 0, (.one ⟨.non, (.dat .str), 0, 0⟩), fun x => (F152r1 x)⟩
theorem eF152r1 (x : gF152r1.a.T) : kF env (GofL [(152, [gF152r2])]) (LofL [(152, [])]) 152 (gF152r1.args x) (gF152r1.bs x) gF152r1.r.dec = gF152r1.F x := by kernel_rfl
theorem sF152r1 : SpecAt env 4 152 gF152r1 := mkSpec (r := 3) (gl := [(152, [gF152r2])]) (L0 := []) (by kernel_rfl) ⟨⟨sF152r2.up (by decide), trivial⟩, trivial⟩ trivial eF152r1 (fun h => absurd h (by rw [show env.nl 152 = false by kernel_rfl]; decide))
/-- midrangebase.Digits -/
def F152 (a0 : Int) : Option ByteArray :=
  sel (iLt a0 (-9))
    (sel (oNz 10) (
    bndS (F152r1 (iNeg .i64 (iQuo .i64 a0 10))) fun y2 =>
    sel (sOk (bs [45]) y2) (
    sel (oNz 10) (
    bndS (F152r1 (iNeg .i64 (iRem a0 10))) fun y3 =>
    sel (sOk (sAdd (bs [45]) y2) y3) (
    some (sAdd (sAdd (bs [45]) y2) y3)) none) none) none) none)
    (sel (iLt a0 0)
      (bndS (F152r1 (iNeg .i64 a0)) fun y1 =>
      sel (sOk (bs [45]) y1) (
      some (sAdd (bs [45]) y1)) none)
      (sel (iLt a0 10)
        (some (sOf [(iCv .u8 (iAdd .i64 48 a0))]))
        (sel (oNz 10) (
        bndS (F152r1 (iQuo .i64 a0 10)) fun y0 =>
        sel (oNz 10) (
        sel (sOk y0 (sOf [(iCv .u8 (iAdd .i64 48 (iRem a0 10)))])) (
        some (sAdd y0 (sOf [(iCv .u8 (iAdd .i64 48 (iRem a0 10)))]))) none) none) none)))
def gF152 : FS := ⟨(.dat (.int .i64)), 0, (.one ⟨.non, (.dat .str), 0, 0⟩), fun x => (F152 x)⟩
theorem eF152 (x : gF152.a.T) : kF env (GofL [(152, [gF152r1])]) (LofL [(152, [])]) 152 (gF152.args x) (gF152.bs x) gF152.r.dec = gF152.F x := by kernel_rfl
theorem sF152 : SpecAt env 5 152 gF152 := mkSpec (r := 4) (gl := [(152, [gF152r1])]) (L0 := []) (by kernel_rfl) ⟨⟨sF152r1.up (by decide), trivial⟩, trivial⟩ trivial eF152 (fun h => absurd h (by rw [show env.nl 152 = false by kernel_rfl]; decide))
def B100_0 (a0 : (List (Int × ByteArray))) (a1 : Int) (a2 : (List ((ByteArray × (ByteArray × Int)) × (Int × Int)))) (a3 : (List (Int × Int))) (a4 : ByteArray) (a5 : ByteArray) (a6 : Int) (a7 : ByteArray) (a8 : ByteArray) (a9 : Int) (a10 : ByteArray) (a11 : Int) : Option ((((List (Int × ByteArray)) × (Int × ((List ((ByteArray × (ByteArray × Int)) × (Int × Int))) × (List (Int × Int))))) × ((ByteArray × (ByteArray × Int)) × ((ByteArray × (ByteArray × Int)) × (ByteArray × Int)))) ⊕ ((ByteArray × (ByteArray × Int)) × (ByteArray × (ByteArray × Int)))) :=
  bndS (F45 ((a0, a1), (a2, a3)) (a4, (a5, a6))) fun y0 =>
  sel (bNot (iEq y0 (-1)))
    (bndS (F152 (iAdd .i64 1000 a11)) fun y1 =>
    sel (oCut 0 (sel (iLt 7 (sLen a10)) 7 (sLen a10)) (sLen a10)) (
    sel (oCut 1 (sLen y1) (sLen y1)) (
    sel (sOk (sCut a10 0 (sel (iLt 7 (sLen a10)) 7 (sLen a10))) (sCut y1 1 (sLen y1))) (
    some (.inl ((a0, (a1, (a2, a3))), ((a4, ((sAdd (sCut a10 0 (sel (iLt 7 (sLen a10)) 7 (sLen a10))) (sCut y1 1 (sLen y1))), a6)), ((a7, (a8, a9)), (a10, (iAdd .i64 a11 1))))))) none) none) none)
    (some (.inr ((a4, (a5, a6)), (a7, (a8, a9)))))
def L100_0 (x : (((List (Int × ByteArray)) × (Int × ((List ((ByteArray × (ByteArray × Int)) × (Int × Int))) × (List (Int × Int))))) × ((ByteArray × (ByteArray × Int)) × ((ByteArray × (ByteArray × Int)) × (ByteArray × Int))))) : Option ((ByteArray × (ByteArray × Int)) × (ByteArray × (ByteArray × Int))) := iter (fun (x : (((List (Int × ByteArray)) × (Int × ((List ((ByteArray × (ByteArray × Int)) × (Int × Int))) × (List (Int × Int))))) × ((ByteArray × (ByteArray × Int)) × ((ByteArray × (ByteArray × Int)) × (ByteArray × Int))))) => (B100_0 x.1.1 x.1.2.1 x.1.2.2.1 x.1.2.2.2 x.2.1.1 x.2.1.2.1 x.2.1.2.2 x.2.2.1.1 x.2.2.1.2.1 x.2.2.1.2.2 x.2.2.2.1 x.2.2.2.2)) fuel x
def lsL100_0 : LS := ⟨(.one .normal ⟨.non, [2, 3, 4, 5, 6], (.seq (.box 0 (.seq (.dat (.sl (.pr (.int .i64) .str))) (.seq (.dat (.int .i64)) (.seq (.dat (.sl (.pr (.pr .str (.pr .str (.int .i64))) (.pr (.int .i64) (.int .i64))))) (.dat (.sl (.pr (.int .i64) (.int .i64)))))))) (.seq (.box 1 (.seq (.dat .str) (.seq (.dat .str) (.dat (.int .i64))))) (.seq (.box 2 (.seq (.dat .str) (.seq (.dat .str) (.dat (.int .i64))))) (.seq (.dat .str) (.dat (.int .i64)))))), 3, 30, 0⟩), (.one (.exit 0) ⟨.non, [3, 4], (.seq (.box 0 (.seq (.dat .str) (.seq (.dat .str) (.dat (.int .i64))))) (.box 1 (.seq (.dat .str) (.seq (.dat .str) (.dat (.int .i64)))))), 2, 30, 0⟩), fun (x : (((List (Int × ByteArray)) × (Int × ((List ((ByteArray × (ByteArray × Int)) × (Int × Int))) × (List (Int × Int))))) × ((ByteArray × (ByteArray × Int)) × ((ByteArray × (ByteArray × Int)) × (ByteArray × Int))))) => (B100_0 x.1.1 x.1.2.1 x.1.2.2.1 x.1.2.2.2 x.2.1.1 x.2.1.2.1 x.2.1.2.2 x.2.2.1.1 x.2.2.1.2.1 x.2.2.1.2.2 x.2.2.2.1 x.2.2.2.2)⟩
/-- midrangeref11.free -/
def F100 (a0 : (((List (Int × ByteArray)) × Int) × ((List ((ByteArray × (ByteArray × Int)) × (Int × Int))) × (List (Int × Int))))) (a1 : (ByteArray × (ByteArray × Int))) : Option (ByteArray × (ByteArray × Int)) :=
  bndS (L100_0 ((a0.1.1, (a0.1.2, a0.2)), (((bs [81, 82, 67, 76]), a1.2), (((bs []), ((bs []), 0)), (a1.2.1, 1))))) fun y0 =>
  some y0.1
def gF100 : FS := ⟨(.seq (.agg (.dat (.pr (.pr (.sl (.pr (.int .i64) .str)) (.int .i64)) (.pr (.sl (.pr (.pr .str (.pr .str (.int .i64))) (.pr (.int .i64) (.int .i64)))) (.sl (.pr (.int .i64) (.int .i64))))))) (.agg (.dat (.pr .str (.pr .str (.int .i64)))))), 0, (.one ⟨.non, (.agg (.dat (.pr .str (.pr .str (.int .i64))))), 0, 0⟩), fun x => (F100 x.1 x.2)⟩
theorem rL100_0 (x : lsL100_0.hd.T) : kRound env (GofL [(152, [gF152]), (45, [gF45])]) (LofL [(100, [(0, lsL100_0)])]) 100 0 (lpOf Tryz.prog 100 0).2 (lsL100_0.hd.st x) lsL100_0.rd = lsL100_0.B x := by kernel_rfl
theorem eF100 (x : gF100.a.T) : kF env (GofL [(152, [gF152]), (45, [gF45])]) (LofL [(100, [(0, lsL100_0)])]) 100 (gF100.args x) (gF100.bs x) gF100.r.dec = gF100.F x := by kernel_rfl
theorem sF100 : SpecAt env 6 100 gF100 := mkSpec (r := 5) (gl := [(152, [gF152]), (45, [gF45])]) (L0 := [(0, lsL100_0)]) (by kernel_rfl) ⟨⟨sF152.up (by decide), trivial⟩, ⟨sF45.up (by decide), trivial⟩, trivial⟩ ⟨⟨0, by kernel_rfl, by kernel_rfl, rL100_0⟩, trivial⟩ eF100 (fun h => absurd h (by rw [show env.nl 100 = false by kernel_rfl]; decide))
def B93_0_1 (a0 : (List (Int × ByteArray))) (a1 : (List (Int × Int))) (a2 : Int) (a3 : (List ((ByteArray × (ByteArray × Int)) × (Int × Int)))) (a4 : ByteArray) (a5 : ByteArray) (a6 : Int) (a7 : Int) (a8 : Int) (a9 : Int) (a10 : (List ((ByteArray × (ByteArray × Int)) × (Int × Int)))) (a11 : Bool) (a12 : Int) : Option ((((List (Int × ByteArray)) × (List (Int × Int))) × ((Int × (List ((ByteArray × (ByteArray × Int)) × (Int × Int)))) × ((ByteArray × (ByteArray × (Int × (Int × Int)))) × (Int × ((List ((ByteArray × (ByteArray × Int)) × (Int × Int))) × (Bool × Int)))))) ⊕ (((List (Int × ByteArray)) × (List (Int × Int))) × ((Int × (List ((ByteArray × (ByteArray × Int)) × (Int × Int)))) × ((ByteArray × (ByteArray × (Int × (Int × Int)))) × (Int × ((List ((ByteArray × (ByteArray × Int)) × (Int × Int))) × Bool)))))) :=
  sel (iLt a12 (lLen a3))
    (sel (bOr (oIn a12 (lLen a3)) (bNot (bNot a11))) (
    sel (bOr (okS (F115 (a4, (a5, a6)) (lAt a3 a12).1)) (bNot (bNot a11))) (
    letS (valS (F115 (a4, (a5, a6)) (lAt a3 a12).1) false) fun y0 =>
    sel (bAnd (bNot a11) y0)
      (sel (lCap 56 (lApp a10 [((a4, (a5, a6)), (a7, a8))])) (
      sel (oIn a12 (lLen a3)) (
      sel (lCap 56 (lApp (lApp a10 [((a4, (a5, a6)), (a7, a8))]) [(lAt a3 a12)])) (
      some (.inl ((a0, a1), ((a2, a3), ((a4, (a5, (a6, (a7, a8)))), (a9, ((lApp (lApp a10 [((a4, (a5, a6)), (a7, a8))]) [(lAt a3 a12)]), (true, (iAdd .i64 a12 1))))))))) none) none) none)
      (sel (oIn a12 (lLen a3)) (
      sel (lCap 56 (lApp a10 [(lAt a3 a12)])) (
      some (.inl ((a0, a1), ((a2, a3), ((a4, (a5, (a6, (a7, a8)))), (a9, ((lApp a10 [(lAt a3 a12)]), (a11, (iAdd .i64 a12 1))))))))) none) none)) none) none)
    (some (.inr ((a0, a1), ((a2, a3), ((a4, (a5, (a6, (a7, a8)))), (a9, (a10, a11)))))))
def L93_0_1 (x : (((List (Int × ByteArray)) × (List (Int × Int))) × ((Int × (List ((ByteArray × (ByteArray × Int)) × (Int × Int)))) × ((ByteArray × (ByteArray × (Int × (Int × Int)))) × (Int × ((List ((ByteArray × (ByteArray × Int)) × (Int × Int))) × (Bool × Int))))))) : Option (((List (Int × ByteArray)) × (List (Int × Int))) × ((Int × (List ((ByteArray × (ByteArray × Int)) × (Int × Int)))) × ((ByteArray × (ByteArray × (Int × (Int × Int)))) × (Int × ((List ((ByteArray × (ByteArray × Int)) × (Int × Int))) × Bool))))) := iter (fun (x : (((List (Int × ByteArray)) × (List (Int × Int))) × ((Int × (List ((ByteArray × (ByteArray × Int)) × (Int × Int)))) × ((ByteArray × (ByteArray × (Int × (Int × Int)))) × (Int × ((List ((ByteArray × (ByteArray × Int)) × (Int × Int))) × (Bool × Int))))))) => (B93_0_1 x.1.1 x.1.2 x.2.1.1 x.2.1.2 x.2.2.1.1 x.2.2.1.2.1 x.2.2.1.2.2.1 x.2.2.1.2.2.2.1 x.2.2.1.2.2.2.2 x.2.2.2.1 x.2.2.2.2.1 x.2.2.2.2.2.1 x.2.2.2.2.2.2)) fuel x
def lsL93_0_1 : LS := ⟨(.one .normal ⟨(.seq (.own 0 (.pr (.int .i64) .str)) (.own 1 (.pr (.int .i64) (.int .i64)))), [2, 3, 4, 5, 6, 7], (.seq (.box 2 (.seq (.alo 0) (.seq (.dat (.int .i64)) (.seq (.dat (.sl (.pr (.pr .str (.pr .str (.int .i64))) (.pr (.int .i64) (.int .i64))))) (.alo 1))))) (.seq (.box 3 (.seq (.dat .str) (.seq (.dat .str) (.seq (.dat (.int .i64)) (.seq (.dat (.int .i64)) (.dat (.int .i64))))))) (.seq (.box 4 (.seq (.lit (.slice none 0 0)) (.seq (.dat (.int .i64)) (.seq (.lit (.slice none 0 0)) (.lit (.slice none 0 0)))))) (.seq (.own 5 (.pr (.pr .str (.pr .str (.int .i64))) (.pr (.int .i64) (.int .i64)))) (.seq (.dat .bool) (.dat (.int .i64))))))), 6, 49, 2⟩), (.one (.exit 0) ⟨(.seq (.own 0 (.pr (.int .i64) .str)) (.own 1 (.pr (.int .i64) (.int .i64)))), [2, 3, 4, 5, 6], (.seq (.box 2 (.seq (.alo 0) (.seq (.dat (.int .i64)) (.seq (.dat (.sl (.pr (.pr .str (.pr .str (.int .i64))) (.pr (.int .i64) (.int .i64))))) (.alo 1))))) (.seq (.box 3 (.seq (.dat .str) (.seq (.dat .str) (.seq (.dat (.int .i64)) (.seq (.dat (.int .i64)) (.dat (.int .i64))))))) (.seq (.box 4 (.seq (.lit (.slice none 0 0)) (.seq (.dat (.int .i64)) (.seq (.lit (.slice none 0 0)) (.lit (.slice none 0 0)))))) (.seq (.own 5 (.pr (.pr .str (.pr .str (.int .i64))) (.pr (.int .i64) (.int .i64)))) (.dat .bool))))), 6, 49, 2⟩), fun (x : (((List (Int × ByteArray)) × (List (Int × Int))) × ((Int × (List ((ByteArray × (ByteArray × Int)) × (Int × Int)))) × ((ByteArray × (ByteArray × (Int × (Int × Int)))) × (Int × ((List ((ByteArray × (ByteArray × Int)) × (Int × Int))) × (Bool × Int))))))) => (B93_0_1 x.1.1 x.1.2 x.2.1.1 x.2.1.2 x.2.2.1.1 x.2.2.1.2.1 x.2.2.1.2.2.1 x.2.2.1.2.2.2.1 x.2.2.1.2.2.2.2 x.2.2.2.1 x.2.2.2.2.1 x.2.2.2.2.2.1 x.2.2.2.2.2.2)⟩
/-- midrangeref11.put -/
def F93_1 (a0 : (List (Int × ByteArray))) (a1 : Int) (a2 : (List ((ByteArray × (ByteArray × Int)) × (Int × Int)))) (a3 : (List (Int × Int))) (a4 : ((ByteArray × (ByteArray × Int)) × (Int × Int))) : Option ((List (Int × ByteArray)) × (Int × ((List ((ByteArray × (ByteArray × Int)) × (Int × Int))) × (List (Int × Int))))) :=
  bndS (L93_0_1 ((a0, a3), ((a1, a2), ((a4.1.1, (a4.1.2.1, (a4.1.2.2, a4.2))), (0, (([] : List ((ByteArray × (ByteArray × Int)) × (Int × Int))), (false, 0))))))) fun y0 =>
  sel (bNot y0.2.2.2.2.2)
    (sel (lCap 56 (lApp y0.2.2.2.2.1 [((y0.2.2.1.1, (y0.2.2.1.2.1, y0.2.2.1.2.2.1)), y0.2.2.1.2.2.2)])) (
    some (y0.1.1, (y0.2.1.1, ((lApp y0.2.2.2.2.1 [((y0.2.2.1.1, (y0.2.2.1.2.1, y0.2.2.1.2.2.1)), y0.2.2.1.2.2.2)]), y0.1.2)))) none)
    (some (y0.1.1, (y0.2.1.1, (y0.2.2.2.2.1, y0.1.2))))
def gF93_1 : FS := ⟨(.seq (.agg (.seq (.own 0 (.pr (.int .i64) .str)) (.seq (.dat (.int .i64)) (.seq (.dat (.sl (.pr (.pr .str (.pr .str (.int .i64))) (.pr (.int .i64) (.int .i64))))) (.own 1 (.pr (.int .i64) (.int .i64))))))) (.agg (.dat (.pr (.pr .str (.pr .str (.int .i64))) (.pr (.int .i64) (.int .i64)))))), 2, (.one ⟨.non, (.agg (.seq (.own 2 (.pr (.int .i64) .str)) (.seq (.dat (.int .i64)) (.seq (.own 3 (.pr (.pr .str (.pr .str (.int .i64))) (.pr (.int .i64) (.int .i64)))) (.own 4 (.pr (.int .i64) (.int .i64))))))), 2, 3⟩), fun x => (F93_1 x.1.1 x.1.2.1 x.1.2.2.1 x.1.2.2.2 x.2)⟩
theorem rL93_0_1 (x : lsL93_0_1.hd.T) : kRound env (GofL [(115, [gF115])]) (LofL [(93, [(0, lsL93_0_1)])]) 93 0 (lpOf Tryz.prog 93 0).2 (lsL93_0_1.hd.st x) lsL93_0_1.rd = lsL93_0_1.B x := by kernel_rfl
theorem eF93_1 (x : gF93_1.a.T) : kF env (GofL [(115, [gF115])]) (LofL [(93, [(0, lsL93_0_1)])]) 93 (gF93_1.args x) (gF93_1.bs x) gF93_1.r.dec = gF93_1.F x := by kernel_rfl
theorem sF93_1 : SpecAt env 2 93 gF93_1 := mkSpec (r := 1) (gl := [(115, [gF115])]) (L0 := [(0, lsL93_0_1)]) (by kernel_rfl) ⟨⟨sF115.up (by decide), trivial⟩, trivial⟩ ⟨⟨0, by kernel_rfl, by kernel_rfl, rL93_0_1⟩, trivial⟩ eF93_1 (fun h => absurd h (by rw [show env.nl 93 = false by kernel_rfl]; decide))
end
end Go.Proofs.YtiddpfhpmodfbaaGreatDoor.K
end

section
set_option linter.unusedVariables false
set_option linter.unusedSimpArgs false
set_option linter.unnecessarySimpa false
open Go Go.Ev Go.Proofs
namespace Go.Proofs.YtiddpfhpmodfbaaGreatDoor.K
set_option linter.unusedVariables false
set_option maxRecDepth 100000
noncomputable section
def B42_2h0 (a0 : (List (Int × ByteArray))) (a1 : Int) (a2 : (List ((ByteArray × (ByteArray × Int)) × (Int × Int)))) (a3 : (List (Int × Int))) (a4 : Int) (a5 : Int) (a6 : Int) (a7 : (List (Int × ByteArray))) (a8 : Int) (a9 : (List (Int × Int))) (a10 : Int) (a11 : Int) (a12 : Int) : Option (((((List (Int × ByteArray)) × (Int × ((List ((ByteArray × (ByteArray × Int)) × (Int × Int))) × (List (Int × Int))))) × ((Int × (Int × Int)) × (((List (Int × ByteArray)) × (Int × ((List (Int × Int)) × (Int × Int)))) × Int))) ⊕ ((((List (Int × ByteArray)) × (Int × ((List ((ByteArray × (ByteArray × Int)) × (Int × Int))) × (List (Int × Int))))) × ((Int × (Int × Int)) × (((List (Int × ByteArray)) × (Int × ((List ((ByteArray × (ByteArray × Int)) × (Int × Int))) × ((List (Int × Int)) × ((List (Int × (Int × (Int × (ByteArray × (ByteArray × Int)))))) × (Int × Int)))))) × Int))) ⊕ (((List (Int × ByteArray)) × (Int × ((List ((ByteArray × (ByteArray × Int)) × (Int × Int))) × (List (Int × Int))))) × ((Int × (Int × Int)) × (((List (Int × ByteArray)) × (Int × ((List (Int × Int)) × ((List (Int × (Int × (Int × (ByteArray × (ByteArray × Int)))))) × (Int × Int))))) × Int))))) ⊕ (((Int × (Int × Int)) × ((List (Int × ByteArray)) × (Int × ((List (Int × Int)) × (Int × Int))))) ⊕ (((Int × (Int × Int)) × ((List (Int × ByteArray)) × (Int × ((List ((ByteArray × (ByteArray × Int)) × (Int × Int))) × ((List (Int × Int)) × ((List (Int × (Int × (Int × (ByteArray × (ByteArray × Int)))))) × (Int × Int))))))) ⊕ ((Int × (Int × Int)) × ((List (Int × ByteArray)) × (Int × ((List (Int × Int)) × ((List (Int × (Int × (Int × (ByteArray × (ByteArray × Int)))))) × (Int × Int))))))))) :=
  sel (iLt a12 (lLen a0))
    (sel (oIn a12 (lLen a0)) (
    bndS (F44 ((a0, a1), (a2, a3)) (lAt a0 a12).1) fun y0 =>
    sel (bNot (iEq y0 (-1)))
      (some (.inl (.inl ((a0, (a1, (a2, a3))), ((a4, (a5, a6)), ((a7, (a8, (a9, (a10, a11)))), (iAdd .i64 a12 1)))))))
      (sel (oCut 0 32 (sLen (lAt a0 a12).2)) (
      bndS (F17 (sCut (lAt a0 a12).2 0 32)) fun y1 =>
      sel (bNot (iEq y1.2.2 0))
        (bndS (F95 (a7, a8) (lAt a0 a12).1) fun y7 =>
        sel (lCap 64 [(2, ((lAt a0 a12).1, (0, ((bs []), ((bs []), 0)))))]) (
        some (.inl (.inr (.inr ((a0, (a1, (a2, a3))), ((a4, (a5, a6)), ((y7.1, (y7.2.1, (a9, ([(2, ((lAt a0 a12).1, (0, ((bs []), ((bs []), 0)))))], (a10, a11))))), (iAdd .i64 a12 1)))))))) none)
        (bndS (F100 ((a7, a8), ([], a9)) y1.1) fun y2 =>
        bndS (F75 (lAt a0 a12).2) fun y3 =>
        bndS (F80 y2 y3) fun y4 =>
        bndS (F92 (a7, a8) ((lAt a0 a12).1, 0) y4) fun y5 =>
        bndS (F93_1 y5.1 y5.2.1 [] a9 (y2, ((lAt a0 a12).1, 0))) fun y6 =>
        sel (lCap 64 [(1, ((lAt a0 a12).1, (0, y2)))]) (
        some (.inl (.inr (.inl ((a0, (a1, (a2, a3))), ((a4, (a5, a6)), ((y6.1, (y6.2.1, (y6.2.2.1, (y6.2.2.2, ([(1, ((lAt a0 a12).1, (0, y2)))], (a10, a11)))))), (iAdd .i64 a12 1)))))))) none)) none)) none)
    (some (.inr (.inl ((a4, (a5, a6)), (a7, (a8, (a9, (a10, a11))))))))
def B42_2h1 (a0 : (List (Int × ByteArray))) (a1 : Int) (a2 : (List ((ByteArray × (ByteArray × Int)) × (Int × Int)))) (a3 : (List (Int × Int))) (a4 : Int) (a5 : Int) (a6 : Int) (a7 : (List (Int × ByteArray))) (a8 : Int) (a9 : (List ((ByteArray × (ByteArray × Int)) × (Int × Int)))) (a10 : (List (Int × Int))) (a11 : (List (Int × (Int × (Int × (ByteArray × (ByteArray × Int))))))) (a12 : Int) (a13 : Int) (a14 : Int) : Option (((((List (Int × ByteArray)) × (Int × ((List ((ByteArray × (ByteArray × Int)) × (Int × Int))) × (List (Int × Int))))) × ((Int × (Int × Int)) × (((List (Int × ByteArray)) × (Int × ((List (Int × Int)) × (Int × Int)))) × Int))) ⊕ ((((List (Int × ByteArray)) × (Int × ((List ((ByteArray × (ByteArray × Int)) × (Int × Int))) × (List (Int × Int))))) × ((Int × (Int × Int)) × (((List (Int × ByteArray)) × (Int × ((List ((ByteArray × (ByteArray × Int)) × (Int × Int))) × ((List (Int × Int)) × ((List (Int × (Int × (Int × (ByteArray × (ByteArray × Int)))))) × (Int × Int)))))) × Int))) ⊕ (((List (Int × ByteArray)) × (Int × ((List ((ByteArray × (ByteArray × Int)) × (Int × Int))) × (List (Int × Int))))) × ((Int × (Int × Int)) × (((List (Int × ByteArray)) × (Int × ((List (Int × Int)) × ((List (Int × (Int × (Int × (ByteArray × (ByteArray × Int)))))) × (Int × Int))))) × Int))))) ⊕ (((Int × (Int × Int)) × ((List (Int × ByteArray)) × (Int × ((List (Int × Int)) × (Int × Int))))) ⊕ (((Int × (Int × Int)) × ((List (Int × ByteArray)) × (Int × ((List ((ByteArray × (ByteArray × Int)) × (Int × Int))) × ((List (Int × Int)) × ((List (Int × (Int × (Int × (ByteArray × (ByteArray × Int)))))) × (Int × Int))))))) ⊕ ((Int × (Int × Int)) × ((List (Int × ByteArray)) × (Int × ((List (Int × Int)) × ((List (Int × (Int × (Int × (ByteArray × (ByteArray × Int)))))) × (Int × Int))))))))) :=
  sel (iLt a14 (lLen a0))
    (sel (oIn a14 (lLen a0)) (
    bndS (F44 ((a0, a1), (a2, a3)) (lAt a0 a14).1) fun y0 =>
    sel (bNot (iEq y0 (-1)))
      (some (.inl (.inr (.inl ((a0, (a1, (a2, a3))), ((a4, (a5, a6)), ((a7, (a8, (a9, (a10, (a11, (a12, a13)))))), (iAdd .i64 a14 1))))))))
      (sel (oCut 0 32 (sLen (lAt a0 a14).2)) (
      bndS (F17 (sCut (lAt a0 a14).2 0 32)) fun y1 =>
      sel (bNot (iEq y1.2.2 0))
        (bndS (F95 (a7, a8) (lAt a0 a14).1) fun y7 =>
        sel (lCap 64 (lApp a11 [(2, ((lAt a0 a14).1, (0, ((bs []), ((bs []), 0)))))])) (
        some (.inl (.inr (.inl ((a0, (a1, (a2, a3))), ((a4, (a5, a6)), ((y7.1, (y7.2.1, (a9, (a10, ((lApp a11 [(2, ((lAt a0 a14).1, (0, ((bs []), ((bs []), 0)))))]), (a12, a13)))))), (iAdd .i64 a14 1)))))))) none)
        (bndS (F100 ((a7, a8), (a9, a10)) y1.1) fun y2 =>
        bndS (F75 (lAt a0 a14).2) fun y3 =>
        bndS (F80 y2 y3) fun y4 =>
        bndS (F92 (a7, a8) ((lAt a0 a14).1, 0) y4) fun y5 =>
        bndS (F93 y5.1 y5.2.1 a9 a10 (y2, ((lAt a0 a14).1, 0))) fun y6 =>
        sel (lCap 64 (lApp a11 [(1, ((lAt a0 a14).1, (0, y2)))])) (
        some (.inl (.inr (.inl ((a0, (a1, (a2, a3))), ((a4, (a5, a6)), ((y6.2.1, (y6.2.2.1, (y6.2.2.2.1, (y6.2.2.2.2, ((lApp a11 [(1, ((lAt a0 a14).1, (0, y2)))]), (a12, a13)))))), (iAdd .i64 a14 1)))))))) none)) none)) none)
    (some (.inr (.inr (.inl ((a4, (a5, a6)), (a7, (a8, (a9, (a10, (a11, (a12, a13)))))))))))
def B42_2h2 (a0 : (List (Int × ByteArray))) (a1 : Int) (a2 : (List ((ByteArray × (ByteArray × Int)) × (Int × Int)))) (a3 : (List (Int × Int))) (a4 : Int) (a5 : Int) (a6 : Int) (a7 : (List (Int × ByteArray))) (a8 : Int) (a9 : (List (Int × Int))) (a10 : (List (Int × (Int × (Int × (ByteArray × (ByteArray × Int))))))) (a11 : Int) (a12 : Int) (a13 : Int) : Option (((((List (Int × ByteArray)) × (Int × ((List ((ByteArray × (ByteArray × Int)) × (Int × Int))) × (List (Int × Int))))) × ((Int × (Int × Int)) × (((List (Int × ByteArray)) × (Int × ((List (Int × Int)) × (Int × Int)))) × Int))) ⊕ ((((List (Int × ByteArray)) × (Int × ((List ((ByteArray × (ByteArray × Int)) × (Int × Int))) × (List (Int × Int))))) × ((Int × (Int × Int)) × (((List (Int × ByteArray)) × (Int × ((List ((ByteArray × (ByteArray × Int)) × (Int × Int))) × ((List (Int × Int)) × ((List (Int × (Int × (Int × (ByteArray × (ByteArray × Int)))))) × (Int × Int)))))) × Int))) ⊕ (((List (Int × ByteArray)) × (Int × ((List ((ByteArray × (ByteArray × Int)) × (Int × Int))) × (List (Int × Int))))) × ((Int × (Int × Int)) × (((List (Int × ByteArray)) × (Int × ((List (Int × Int)) × ((List (Int × (Int × (Int × (ByteArray × (ByteArray × Int)))))) × (Int × Int))))) × Int))))) ⊕ (((Int × (Int × Int)) × ((List (Int × ByteArray)) × (Int × ((List (Int × Int)) × (Int × Int))))) ⊕ (((Int × (Int × Int)) × ((List (Int × ByteArray)) × (Int × ((List ((ByteArray × (ByteArray × Int)) × (Int × Int))) × ((List (Int × Int)) × ((List (Int × (Int × (Int × (ByteArray × (ByteArray × Int)))))) × (Int × Int))))))) ⊕ ((Int × (Int × Int)) × ((List (Int × ByteArray)) × (Int × ((List (Int × Int)) × ((List (Int × (Int × (Int × (ByteArray × (ByteArray × Int)))))) × (Int × Int))))))))) :=
  sel (iLt a13 (lLen a0))
    (sel (oIn a13 (lLen a0)) (
    bndS (F44 ((a0, a1), (a2, a3)) (lAt a0 a13).1) fun y0 =>
    sel (bNot (iEq y0 (-1)))
      (some (.inl (.inr (.inr ((a0, (a1, (a2, a3))), ((a4, (a5, a6)), ((a7, (a8, (a9, (a10, (a11, a12))))), (iAdd .i64 a13 1))))))))
      (sel (oCut 0 32 (sLen (lAt a0 a13).2)) (
      bndS (F17 (sCut (lAt a0 a13).2 0 32)) fun y1 =>
      sel (bNot (iEq y1.2.2 0))
        (bndS (F95 (a7, a8) (lAt a0 a13).1) fun y7 =>
        sel (lCap 64 (lApp a10 [(2, ((lAt a0 a13).1, (0, ((bs []), ((bs []), 0)))))])) (
        some (.inl (.inr (.inr ((a0, (a1, (a2, a3))), ((a4, (a5, a6)), ((y7.1, (y7.2.1, (a9, ((lApp a10 [(2, ((lAt a0 a13).1, (0, ((bs []), ((bs []), 0)))))]), (a11, a12))))), (iAdd .i64 a13 1)))))))) none)
        (bndS (F100 ((a7, a8), ([], a9)) y1.1) fun y2 =>
        bndS (F75 (lAt a0 a13).2) fun y3 =>
        bndS (F80 y2 y3) fun y4 =>
        bndS (F92 (a7, a8) ((lAt a0 a13).1, 0) y4) fun y5 =>
        bndS (F93_1 y5.1 y5.2.1 [] a9 (y2, ((lAt a0 a13).1, 0))) fun y6 =>
        sel (lCap 64 (lApp a10 [(1, ((lAt a0 a13).1, (0, y2)))])) (
        some (.inl (.inr (.inl ((a0, (a1, (a2, a3))), ((a4, (a5, a6)), ((y6.1, (y6.2.1, (y6.2.2.1, (y6.2.2.2, ((lApp a10 [(1, ((lAt a0 a13).1, (0, y2)))]), (a11, a12)))))), (iAdd .i64 a13 1)))))))) none)) none)) none)
    (some (.inr (.inr (.inr ((a4, (a5, a6)), (a7, (a8, (a9, (a10, (a11, a12))))))))))
def L42_2 (x : ((((List (Int × ByteArray)) × (Int × ((List ((ByteArray × (ByteArray × Int)) × (Int × Int))) × (List (Int × Int))))) × ((Int × (Int × Int)) × (((List (Int × ByteArray)) × (Int × ((List (Int × Int)) × (Int × Int)))) × Int))) ⊕ ((((List (Int × ByteArray)) × (Int × ((List ((ByteArray × (ByteArray × Int)) × (Int × Int))) × (List (Int × Int))))) × ((Int × (Int × Int)) × (((List (Int × ByteArray)) × (Int × ((List ((ByteArray × (ByteArray × Int)) × (Int × Int))) × ((List (Int × Int)) × ((List (Int × (Int × (Int × (ByteArray × (ByteArray × Int)))))) × (Int × Int)))))) × Int))) ⊕ (((List (Int × ByteArray)) × (Int × ((List ((ByteArray × (ByteArray × Int)) × (Int × Int))) × (List (Int × Int))))) × ((Int × (Int × Int)) × (((List (Int × ByteArray)) × (Int × ((List (Int × Int)) × ((List (Int × (Int × (Int × (ByteArray × (ByteArray × Int)))))) × (Int × Int))))) × Int)))))) : Option (((Int × (Int × Int)) × ((List (Int × ByteArray)) × (Int × ((List (Int × Int)) × (Int × Int))))) ⊕ (((Int × (Int × Int)) × ((List (Int × ByteArray)) × (Int × ((List ((ByteArray × (ByteArray × Int)) × (Int × Int))) × ((List (Int × Int)) × ((List (Int × (Int × (Int × (ByteArray × (ByteArray × Int)))))) × (Int × Int))))))) ⊕ ((Int × (Int × Int)) × ((List (Int × ByteArray)) × (Int × ((List (Int × Int)) × ((List (Int × (Int × (Int × (ByteArray × (ByteArray × Int)))))) × (Int × Int)))))))) := iter (fun (x : ((((List (Int × ByteArray)) × (Int × ((List ((ByteArray × (ByteArray × Int)) × (Int × Int))) × (List (Int × Int))))) × ((Int × (Int × Int)) × (((List (Int × ByteArray)) × (Int × ((List (Int × Int)) × (Int × Int)))) × Int))) ⊕ ((((List (Int × ByteArray)) × (Int × ((List ((ByteArray × (ByteArray × Int)) × (Int × Int))) × (List (Int × Int))))) × ((Int × (Int × Int)) × (((List (Int × ByteArray)) × (Int × ((List ((ByteArray × (ByteArray × Int)) × (Int × Int))) × ((List (Int × Int)) × ((List (Int × (Int × (Int × (ByteArray × (ByteArray × Int)))))) × (Int × Int)))))) × Int))) ⊕ (((List (Int × ByteArray)) × (Int × ((List ((ByteArray × (ByteArray × Int)) × (Int × Int))) × (List (Int × Int))))) × ((Int × (Int × Int)) × (((List (Int × ByteArray)) × (Int × ((List (Int × Int)) × ((List (Int × (Int × (Int × (ByteArray × (ByteArray × Int)))))) × (Int × Int))))) × Int)))))) => (sumS x (fun x => (B42_2h0 x.1.1 x.1.2.1 x.1.2.2.1 x.1.2.2.2 x.2.1.1 x.2.1.2.1 x.2.1.2.2 x.2.2.1.1 x.2.2.1.2.1 x.2.2.1.2.2.1 x.2.2.1.2.2.2.1 x.2.2.1.2.2.2.2 x.2.2.2)) fun x => (sumS x (fun x => (B42_2h1 x.1.1 x.1.2.1 x.1.2.2.1 x.1.2.2.2 x.2.1.1 x.2.1.2.1 x.2.1.2.2 x.2.2.1.1 x.2.2.1.2.1 x.2.2.1.2.2.1 x.2.2.1.2.2.2.1 x.2.2.1.2.2.2.2.1 x.2.2.1.2.2.2.2.2.1 x.2.2.1.2.2.2.2.2.2 x.2.2.2)) fun x => (B42_2h2 x.1.1 x.1.2.1 x.1.2.2.1 x.1.2.2.2 x.2.1.1 x.2.1.2.1 x.2.1.2.2 x.2.2.1.1 x.2.2.1.2.1 x.2.2.1.2.2.1 x.2.2.1.2.2.2.1 x.2.2.1.2.2.2.2.1 x.2.2.1.2.2.2.2.2 x.2.2.2)))) fuel x
def lsL42_2 : LS := ⟨(.two (.one .normal ⟨.non, [1, 2, 4, 7], (.seq (.box 0 (.seq (.dat (.sl (.pr (.int .i64) .str))) (.seq (.dat (.int .i64)) (.seq (.dat (.sl (.pr (.pr .str (.pr .str (.int .i64))) (.pr (.int .i64) (.int .i64))))) (.dat (.sl (.pr (.int .i64) (.int .i64)))))))) (.seq (.box 1 (.seq (.lit (.slice none 0 0)) (.seq (.dat (.int .i64)) (.seq (.lit (.slice none 0 0)) (.seq (.lit (.slice none 0 0)) (.seq (.lit (.slice none 0 0)) (.seq (.dat (.int .i64)) (.dat (.int .i64))))))))) (.seq (.box 2 (.seq (.own 3 (.pr (.int .i64) .str)) (.seq (.dat (.int .i64)) (.seq (.lit (.slice none 0 0)) (.seq (.own 4 (.pr (.int .i64) (.int .i64))) (.seq (.lit (.slice none 0 0)) (.seq (.dat (.int .i64)) (.dat (.int .i64))))))))) (.dat (.int .i64))))), 5, 150, 0⟩) (.two (.one .normal ⟨.non, [1, 2, 4, 7], (.seq (.box 0 (.seq (.dat (.sl (.pr (.int .i64) .str))) (.seq (.dat (.int .i64)) (.seq (.dat (.sl (.pr (.pr .str (.pr .str (.int .i64))) (.pr (.int .i64) (.int .i64))))) (.dat (.sl (.pr (.int .i64) (.int .i64)))))))) (.seq (.box 1 (.seq (.lit (.slice none 0 0)) (.seq (.dat (.int .i64)) (.seq (.lit (.slice none 0 0)) (.seq (.lit (.slice none 0 0)) (.seq (.lit (.slice none 0 0)) (.seq (.dat (.int .i64)) (.dat (.int .i64))))))))) (.seq (.box 2 (.seq (.own 3 (.pr (.int .i64) .str)) (.seq (.dat (.int .i64)) (.seq (.own 4 (.pr (.pr .str (.pr .str (.int .i64))) (.pr (.int .i64) (.int .i64)))) (.seq (.own 5 (.pr (.int .i64) (.int .i64))) (.seq (.own 6 (.pr (.int .i64) (.pr (.int .i64) (.pr (.int .i64) (.pr .str (.pr .str (.int .i64))))))) (.seq (.dat (.int .i64)) (.dat (.int .i64))))))))) (.dat (.int .i64))))), 7, 150, 0⟩) (.one .normal ⟨.non, [1, 2, 4, 7], (.seq (.box 0 (.seq (.dat (.sl (.pr (.int .i64) .str))) (.seq (.dat (.int .i64)) (.seq (.dat (.sl (.pr (.pr .str (.pr .str (.int .i64))) (.pr (.int .i64) (.int .i64))))) (.dat (.sl (.pr (.int .i64) (.int .i64)))))))) (.seq (.box 1 (.seq (.lit (.slice none 0 0)) (.seq (.dat (.int .i64)) (.seq (.lit (.slice none 0 0)) (.seq (.lit (.slice none 0 0)) (.seq (.lit (.slice none 0 0)) (.seq (.dat (.int .i64)) (.dat (.int .i64))))))))) (.seq (.box 2 (.seq (.own 3 (.pr (.int .i64) .str)) (.seq (.dat (.int .i64)) (.seq (.lit (.slice none 0 0)) (.seq (.own 4 (.pr (.int .i64) (.int .i64))) (.seq (.own 5 (.pr (.int .i64) (.pr (.int .i64) (.pr (.int .i64) (.pr .str (.pr .str (.int .i64))))))) (.seq (.dat (.int .i64)) (.dat (.int .i64))))))))) (.dat (.int .i64))))), 6, 150, 0⟩))), (.two (.one (.exit 2) ⟨.non, [2, 4], (.seq (.box 0 (.seq (.lit (.slice none 0 0)) (.seq (.dat (.int .i64)) (.seq (.lit (.slice none 0 0)) (.seq (.lit (.slice none 0 0)) (.seq (.lit (.slice none 0 0)) (.seq (.dat (.int .i64)) (.dat (.int .i64))))))))) (.box 1 (.seq (.own 2 (.pr (.int .i64) .str)) (.seq (.dat (.int .i64)) (.seq (.lit (.slice none 0 0)) (.seq (.own 3 (.pr (.int .i64) (.int .i64))) (.seq (.lit (.slice none 0 0)) (.seq (.dat (.int .i64)) (.dat (.int .i64)))))))))), 4, 150, 0⟩) (.two (.one (.exit 2) ⟨.non, [2, 4], (.seq (.box 0 (.seq (.lit (.slice none 0 0)) (.seq (.dat (.int .i64)) (.seq (.lit (.slice none 0 0)) (.seq (.lit (.slice none 0 0)) (.seq (.lit (.slice none 0 0)) (.seq (.dat (.int .i64)) (.dat (.int .i64))))))))) (.box 1 (.seq (.own 2 (.pr (.int .i64) .str)) (.seq (.dat (.int .i64)) (.seq (.own 3 (.pr (.pr .str (.pr .str (.int .i64))) (.pr (.int .i64) (.int .i64)))) (.seq (.own 4 (.pr (.int .i64) (.int .i64))) (.seq (.own 5 (.pr (.int .i64) (.pr (.int .i64) (.pr (.int .i64) (.pr .str (.pr .str (.int .i64))))))) (.seq (.dat (.int .i64)) (.dat (.int .i64)))))))))), 6, 150, 0⟩) (.one (.exit 2) ⟨.non, [2, 4], (.seq (.box 0 (.seq (.lit (.slice none 0 0)) (.seq (.dat (.int .i64)) (.seq (.lit (.slice none 0 0)) (.seq (.lit (.slice none 0 0)) (.seq (.lit (.slice none 0 0)) (.seq (.dat (.int .i64)) (.dat (.int .i64))))))))) (.box 1 (.seq (.own 2 (.pr (.int .i64) .str)) (.seq (.dat (.int .i64)) (.seq (.lit (.slice none 0 0)) (.seq (.own 3 (.pr (.int .i64) (.int .i64))) (.seq (.own 4 (.pr (.int .i64) (.pr (.int .i64) (.pr (.int .i64) (.pr .str (.pr .str (.int .i64))))))) (.seq (.dat (.int .i64)) (.dat (.int .i64)))))))))), 5, 150, 0⟩))), fun (x : ((((List (Int × ByteArray)) × (Int × ((List ((ByteArray × (ByteArray × Int)) × (Int × Int))) × (List (Int × Int))))) × ((Int × (Int × Int)) × (((List (Int × ByteArray)) × (Int × ((List (Int × Int)) × (Int × Int)))) × Int))) ⊕ ((((List (Int × ByteArray)) × (Int × ((List ((ByteArray × (ByteArray × Int)) × (Int × Int))) × (List (Int × Int))))) × ((Int × (Int × Int)) × (((List (Int × ByteArray)) × (Int × ((List ((ByteArray × (ByteArray × Int)) × (Int × Int))) × ((List (Int × Int)) × ((List (Int × (Int × (Int × (ByteArray × (ByteArray × Int)))))) × (Int × Int)))))) × Int))) ⊕ (((List (Int × ByteArray)) × (Int × ((List ((ByteArray × (ByteArray × Int)) × (Int × Int))) × (List (Int × Int))))) × ((Int × (Int × Int)) × (((List (Int × ByteArray)) × (Int × ((List (Int × Int)) × ((List (Int × (Int × (Int × (ByteArray × (ByteArray × Int)))))) × (Int × Int))))) × Int)))))) => (sumS x (fun x => (B42_2h0 x.1.1 x.1.2.1 x.1.2.2.1 x.1.2.2.2 x.2.1.1 x.2.1.2.1 x.2.1.2.2 x.2.2.1.1 x.2.2.1.2.1 x.2.2.1.2.2.1 x.2.2.1.2.2.2.1 x.2.2.1.2.2.2.2 x.2.2.2)) fun x => (sumS x (fun x => (B42_2h1 x.1.1 x.1.2.1 x.1.2.2.1 x.1.2.2.2 x.2.1.1 x.2.1.2.1 x.2.1.2.2 x.2.2.1.1 x.2.2.1.2.1 x.2.2.1.2.2.1 x.2.2.1.2.2.2.1 x.2.2.1.2.2.2.2.1 x.2.2.1.2.2.2.2.2.1 x.2.2.1.2.2.2.2.2.2 x.2.2.2)) fun x => (B42_2h2 x.1.1 x.1.2.1 x.1.2.2.1 x.1.2.2.2 x.2.1.1 x.2.1.2.1 x.2.1.2.2 x.2.2.1.1 x.2.2.1.2.1 x.2.2.1.2.2.1 x.2.2.1.2.2.2.1 x.2.2.1.2.2.2.2.1 x.2.2.1.2.2.2.2.2 x.2.2.2)))⟩
def B42_2_1h0 (a0 : (List (Int × ByteArray))) (a1 : Int) (a2 : (List ((ByteArray × (ByteArray × Int)) × (Int × Int)))) (a3 : (List (Int × Int))) (a4 : Int) (a5 : Int) (a6 : Int) (a7 : (List (Int × ByteArray))) (a8 : Int) (a9 : (List ((ByteArray × (ByteArray × Int)) × (Int × Int)))) (a10 : (List (Int × Int))) (a11 : Int) (a12 : Int) (a13 : Int) : Option (((((List (Int × ByteArray)) × (Int × ((List ((ByteArray × (ByteArray × Int)) × (Int × Int))) × (List (Int × Int))))) × ((Int × (Int × Int)) × (((List (Int × ByteArray)) × (Int × ((List ((ByteArray × (ByteArray × Int)) × (Int × Int))) × ((List (Int × Int)) × (Int × Int))))) × Int))) ⊕ (((List (Int × ByteArray)) × (Int × ((List ((ByteArray × (ByteArray × Int)) × (Int × Int))) × (List (Int × Int))))) × ((Int × (Int × Int)) × (((List (Int × ByteArray)) × (Int × ((List ((ByteArray × (ByteArray × Int)) × (Int × Int))) × ((List (Int × Int)) × ((List (Int × (Int × (Int × (ByteArray × (ByteArray × Int)))))) × (Int × Int)))))) × Int)))) ⊕ (((Int × (Int × Int)) × ((List (Int × ByteArray)) × (Int × ((List ((ByteArray × (ByteArray × Int)) × (Int × Int))) × ((List (Int × Int)) × (Int × Int)))))) ⊕ ((Int × (Int × Int)) × ((List (Int × ByteArray)) × (Int × ((List ((ByteArray × (ByteArray × Int)) × (Int × Int))) × ((List (Int × Int)) × ((List (Int × (Int × (Int × (ByteArray × (ByteArray × Int)))))) × (Int × Int))))))))) :=
  sel (iLt a13 (lLen a0))
    (sel (oIn a13 (lLen a0)) (
    bndS (F44 ((a0, a1), (a2, a3)) (lAt a0 a13).1) fun y0 =>
    sel (bNot (iEq y0 (-1)))
      (some (.inl (.inl ((a0, (a1, (a2, a3))), ((a4, (a5, a6)), ((a7, (a8, (a9, (a10, (a11, a12))))), (iAdd .i64 a13 1)))))))
      (sel (oCut 0 32 (sLen (lAt a0 a13).2)) (
      bndS (F17 (sCut (lAt a0 a13).2 0 32)) fun y1 =>
      sel (bNot (iEq y1.2.2 0))
        (bndS (F95 (a7, a8) (lAt a0 a13).1) fun y7 =>
        sel (lCap 64 [(2, ((lAt a0 a13).1, (0, ((bs []), ((bs []), 0)))))]) (
        some (.inl (.inr ((a0, (a1, (a2, a3))), ((a4, (a5, a6)), ((y7.1, (y7.2.1, (a9, (a10, ([(2, ((lAt a0 a13).1, (0, ((bs []), ((bs []), 0)))))], (a11, a12)))))), (iAdd .i64 a13 1))))))) none)
        (bndS (F100 ((a7, a8), (a9, a10)) y1.1) fun y2 =>
        bndS (F75 (lAt a0 a13).2) fun y3 =>
        bndS (F80 y2 y3) fun y4 =>
        bndS (F92 (a7, a8) ((lAt a0 a13).1, 0) y4) fun y5 =>
        bndS (F93 y5.1 y5.2.1 a9 a10 (y2, ((lAt a0 a13).1, 0))) fun y6 =>
        sel (lCap 64 [(1, ((lAt a0 a13).1, (0, y2)))]) (
        some (.inl (.inr ((a0, (a1, (a2, a3))), ((a4, (a5, a6)), ((y6.2.1, (y6.2.2.1, (y6.2.2.2.1, (y6.2.2.2.2, ([(1, ((lAt a0 a13).1, (0, y2)))], (a11, a12)))))), (iAdd .i64 a13 1))))))) none)) none)) none)
    (some (.inr (.inl ((a4, (a5, a6)), (a7, (a8, (a9, (a10, (a11, a12)))))))))
def B42_2_1h1 (a0 : (List (Int × ByteArray))) (a1 : Int) (a2 : (List ((ByteArray × (ByteArray × Int)) × (Int × Int)))) (a3 : (List (Int × Int))) (a4 : Int) (a5 : Int) (a6 : Int) (a7 : (List (Int × ByteArray))) (a8 : Int) (a9 : (List ((ByteArray × (ByteArray × Int)) × (Int × Int)))) (a10 : (List (Int × Int))) (a11 : (List (Int × (Int × (Int × (ByteArray × (ByteArray × Int))))))) (a12 : Int) (a13 : Int) (a14 : Int) : Option (((((List (Int × ByteArray)) × (Int × ((List ((ByteArray × (ByteArray × Int)) × (Int × Int))) × (List (Int × Int))))) × ((Int × (Int × Int)) × (((List (Int × ByteArray)) × (Int × ((List ((ByteArray × (ByteArray × Int)) × (Int × Int))) × ((List (Int × Int)) × (Int × Int))))) × Int))) ⊕ (((List (Int × ByteArray)) × (Int × ((List ((ByteArray × (ByteArray × Int)) × (Int × Int))) × (List (Int × Int))))) × ((Int × (Int × Int)) × (((List (Int × ByteArray)) × (Int × ((List ((ByteArray × (ByteArray × Int)) × (Int × Int))) × ((List (Int × Int)) × ((List (Int × (Int × (Int × (ByteArray × (ByteArray × Int)))))) × (Int × Int)))))) × Int)))) ⊕ (((Int × (Int × Int)) × ((List (Int × ByteArray)) × (Int × ((List ((ByteArray × (ByteArray × Int)) × (Int × Int))) × ((List (Int × Int)) × (Int × Int)))))) ⊕ ((Int × (Int × Int)) × ((List (Int × ByteArray)) × (Int × ((List ((ByteArray × (ByteArray × Int)) × (Int × Int))) × ((List (Int × Int)) × ((List (Int × (Int × (Int × (ByteArray × (ByteArray × Int)))))) × (Int × Int))))))))) :=
  sel (iLt a14 (lLen a0))
    (sel (oIn a14 (lLen a0)) (
    bndS (F44 ((a0, a1), (a2, a3)) (lAt a0 a14).1) fun y0 =>
    sel (bNot (iEq y0 (-1)))
      (some (.inl (.inr ((a0, (a1, (a2, a3))), ((a4, (a5, a6)), ((a7, (a8, (a9, (a10, (a11, (a12, a13)))))), (iAdd .i64 a14 1)))))))
      (sel (oCut 0 32 (sLen (lAt a0 a14).2)) (
      bndS (F17 (sCut (lAt a0 a14).2 0 32)) fun y1 =>
      sel (bNot (iEq y1.2.2 0))
        (bndS (F95 (a7, a8) (lAt a0 a14).1) fun y7 =>
        sel (lCap 64 (lApp a11 [(2, ((lAt a0 a14).1, (0, ((bs []), ((bs []), 0)))))])) (
        some (.inl (.inr ((a0, (a1, (a2, a3))), ((a4, (a5, a6)), ((y7.1, (y7.2.1, (a9, (a10, ((lApp a11 [(2, ((lAt a0 a14).1, (0, ((bs []), ((bs []), 0)))))]), (a12, a13)))))), (iAdd .i64 a14 1))))))) none)
        (bndS (F100 ((a7, a8), (a9, a10)) y1.1) fun y2 =>
        bndS (F75 (lAt a0 a14).2) fun y3 =>
        bndS (F80 y2 y3) fun y4 =>
        bndS (F92 (a7, a8) ((lAt a0 a14).1, 0) y4) fun y5 =>
        bndS (F93 y5.1 y5.2.1 a9 a10 (y2, ((lAt a0 a14).1, 0))) fun y6 =>
        sel (lCap 64 (lApp a11 [(1, ((lAt a0 a14).1, (0, y2)))])) (
        some (.inl (.inr ((a0, (a1, (a2, a3))), ((a4, (a5, a6)), ((y6.2.1, (y6.2.2.1, (y6.2.2.2.1, (y6.2.2.2.2, ((lApp a11 [(1, ((lAt a0 a14).1, (0, y2)))]), (a12, a13)))))), (iAdd .i64 a14 1))))))) none)) none)) none)
    (some (.inr (.inr ((a4, (a5, a6)), (a7, (a8, (a9, (a10, (a11, (a12, a13))))))))))
def L42_2_1 (x : ((((List (Int × ByteArray)) × (Int × ((List ((ByteArray × (ByteArray × Int)) × (Int × Int))) × (List (Int × Int))))) × ((Int × (Int × Int)) × (((List (Int × ByteArray)) × (Int × ((List ((ByteArray × (ByteArray × Int)) × (Int × Int))) × ((List (Int × Int)) × (Int × Int))))) × Int))) ⊕ (((List (Int × ByteArray)) × (Int × ((List ((ByteArray × (ByteArray × Int)) × (Int × Int))) × (List (Int × Int))))) × ((Int × (Int × Int)) × (((List (Int × ByteArray)) × (Int × ((List ((ByteArray × (ByteArray × Int)) × (Int × Int))) × ((List (Int × Int)) × ((List (Int × (Int × (Int × (ByteArray × (ByteArray × Int)))))) × (Int × Int)))))) × Int))))) : Option (((Int × (Int × Int)) × ((List (Int × ByteArray)) × (Int × ((List ((ByteArray × (ByteArray × Int)) × (Int × Int))) × ((List (Int × Int)) × (Int × Int)))))) ⊕ ((Int × (Int × Int)) × ((List (Int × ByteArray)) × (Int × ((List ((ByteArray × (ByteArray × Int)) × (Int × Int))) × ((List (Int × Int)) × ((List (Int × (Int × (Int × (ByteArray × (ByteArray × Int)))))) × (Int × Int)))))))) := iter (fun (x : ((((List (Int × ByteArray)) × (Int × ((List ((ByteArray × (ByteArray × Int)) × (Int × Int))) × (List (Int × Int))))) × ((Int × (Int × Int)) × (((List (Int × ByteArray)) × (Int × ((List ((ByteArray × (ByteArray × Int)) × (Int × Int))) × ((List (Int × Int)) × (Int × Int))))) × Int))) ⊕ (((List (Int × ByteArray)) × (Int × ((List ((ByteArray × (ByteArray × Int)) × (Int × Int))) × (List (Int × Int))))) × ((Int × (Int × Int)) × (((List (Int × ByteArray)) × (Int × ((List ((ByteArray × (ByteArray × Int)) × (Int × Int))) × ((List (Int × Int)) × ((List (Int × (Int × (Int × (ByteArray × (ByteArray × Int)))))) × (Int × Int)))))) × Int))))) => (sumS x (fun x => (B42_2_1h0 x.1.1 x.1.2.1 x.1.2.2.1 x.1.2.2.2 x.2.1.1 x.2.1.2.1 x.2.1.2.2 x.2.2.1.1 x.2.2.1.2.1 x.2.2.1.2.2.1 x.2.2.1.2.2.2.1 x.2.2.1.2.2.2.2.1 x.2.2.1.2.2.2.2.2 x.2.2.2)) fun x => (B42_2_1h1 x.1.1 x.1.2.1 x.1.2.2.1 x.1.2.2.2 x.2.1.1 x.2.1.2.1 x.2.1.2.2 x.2.2.1.1 x.2.2.1.2.1 x.2.2.1.2.2.1 x.2.2.1.2.2.2.1 x.2.2.1.2.2.2.2.1 x.2.2.1.2.2.2.2.2.1 x.2.2.1.2.2.2.2.2.2 x.2.2.2))) fuel x
def lsL42_2_1 : LS := ⟨(.two (.one .normal ⟨.non, [1, 2, 4, 7], (.seq (.box 0 (.seq (.dat (.sl (.pr (.int .i64) .str))) (.seq (.dat (.int .i64)) (.seq (.dat (.sl (.pr (.pr .str (.pr .str (.int .i64))) (.pr (.int .i64) (.int .i64))))) (.dat (.sl (.pr (.int .i64) (.int .i64)))))))) (.seq (.box 1 (.seq (.lit (.slice none 0 0)) (.seq (.dat (.int .i64)) (.seq (.lit (.slice none 0 0)) (.seq (.lit (.slice none 0 0)) (.seq (.lit (.slice none 0 0)) (.seq (.dat (.int .i64)) (.dat (.int .i64))))))))) (.seq (.box 2 (.seq (.own 3 (.pr (.int .i64) .str)) (.seq (.dat (.int .i64)) (.seq (.own 4 (.pr (.pr .str (.pr .str (.int .i64))) (.pr (.int .i64) (.int .i64)))) (.seq (.own 5 (.pr (.int .i64) (.int .i64))) (.seq (.lit (.slice none 0 0)) (.seq (.dat (.int .i64)) (.dat (.int .i64))))))))) (.dat (.int .i64))))), 6, 150, 0⟩) (.one .normal ⟨.non, [1, 2, 4, 7], (.seq (.box 0 (.seq (.dat (.sl (.pr (.int .i64) .str))) (.seq (.dat (.int .i64)) (.seq (.dat (.sl (.pr (.pr .str (.pr .str (.int .i64))) (.pr (.int .i64) (.int .i64))))) (.dat (.sl (.pr (.int .i64) (.int .i64)))))))) (.seq (.box 1 (.seq (.lit (.slice none 0 0)) (.seq (.dat (.int .i64)) (.seq (.lit (.slice none 0 0)) (.seq (.lit (.slice none 0 0)) (.seq (.lit (.slice none 0 0)) (.seq (.dat (.int .i64)) (.dat (.int .i64))))))))) (.seq (.box 2 (.seq (.own 3 (.pr (.int .i64) .str)) (.seq (.dat (.int .i64)) (.seq (.own 4 (.pr (.pr .str (.pr .str (.int .i64))) (.pr (.int .i64) (.int .i64)))) (.seq (.own 5 (.pr (.int .i64) (.int .i64))) (.seq (.own 6 (.pr (.int .i64) (.pr (.int .i64) (.pr (.int .i64) (.pr .str (.pr .str (.int .i64))))))) (.seq (.dat (.int .i64)) (.dat (.int .i64))))))))) (.dat (.int .i64))))), 7, 150, 0⟩)), (.two (.one (.exit 2) ⟨.non, [2, 4], (.seq (.box 0 (.seq (.lit (.slice none 0 0)) (.seq (.dat (.int .i64)) (.seq (.lit (.slice none 0 0)) (.seq (.lit (.slice none 0 0)) (.seq (.lit (.slice none 0 0)) (.seq (.dat (.int .i64)) (.dat (.int .i64))))))))) (.box 1 (.seq (.own 2 (.pr (.int .i64) .str)) (.seq (.dat (.int .i64)) (.seq (.own 3 (.pr (.pr .str (.pr .str (.int .i64))) (.pr (.int .i64) (.int .i64)))) (.seq (.own 4 (.pr (.int .i64) (.int .i64))) (.seq (.lit (.slice none 0 0)) (.seq (.dat (.int .i64)) (.dat (.int .i64)))))))))), 5, 150, 0⟩) (.one (.exit 2) ⟨.non, [2, 4], (.seq (.box 0 (.seq (.lit (.slice none 0 0)) (.seq (.dat (.int .i64)) (.seq (.lit (.slice none 0 0)) (.seq (.lit (.slice none 0 0)) (.seq (.lit (.slice none 0 0)) (.seq (.dat (.int .i64)) (.dat (.int .i64))))))))) (.box 1 (.seq (.own 2 (.pr (.int .i64) .str)) (.seq (.dat (.int .i64)) (.seq (.own 3 (.pr (.pr .str (.pr .str (.int .i64))) (.pr (.int .i64) (.int .i64)))) (.seq (.own 4 (.pr (.int .i64) (.int .i64))) (.seq (.own 5 (.pr (.int .i64) (.pr (.int .i64) (.pr (.int .i64) (.pr .str (.pr .str (.int .i64))))))) (.seq (.dat (.int .i64)) (.dat (.int .i64)))))))))), 6, 150, 0⟩)), fun (x : ((((List (Int × ByteArray)) × (Int × ((List ((ByteArray × (ByteArray × Int)) × (Int × Int))) × (List (Int × Int))))) × ((Int × (Int × Int)) × (((List (Int × ByteArray)) × (Int × ((List ((ByteArray × (ByteArray × Int)) × (Int × Int))) × ((List (Int × Int)) × (Int × Int))))) × Int))) ⊕ (((List (Int × ByteArray)) × (Int × ((List ((ByteArray × (ByteArray × Int)) × (Int × Int))) × (List (Int × Int))))) × ((Int × (Int × Int)) × (((List (Int × ByteArray)) × (Int × ((List ((ByteArray × (ByteArray × Int)) × (Int × Int))) × ((List (Int × Int)) × ((List (Int × (Int × (Int × (ByteArray × (ByteArray × Int)))))) × (Int × Int)))))) × Int))))) => (sumS x (fun x => (B42_2_1h0 x.1.1 x.1.2.1 x.1.2.2.1 x.1.2.2.2 x.2.1.1 x.2.1.2.1 x.2.1.2.2 x.2.2.1.1 x.2.2.1.2.1 x.2.2.1.2.2.1 x.2.2.1.2.2.2.1 x.2.2.1.2.2.2.2.1 x.2.2.1.2.2.2.2.2 x.2.2.2)) fun x => (B42_2_1h1 x.1.1 x.1.2.1 x.1.2.2.1 x.1.2.2.2 x.2.1.1 x.2.1.2.1 x.2.1.2.2 x.2.2.1.1 x.2.2.1.2.1 x.2.2.1.2.2.1 x.2.2.1.2.2.2.1 x.2.2.1.2.2.2.2.1 x.2.2.1.2.2.2.2.2.1 x.2.2.1.2.2.2.2.2.2 x.2.2.2))⟩
/-- midrangeref11.Reclaimed -/
def F42 (a0 : (((List (Int × ByteArray)) × Int) × ((List ((ByteArray × (ByteArray × Int)) × (Int × Int))) × (List (Int × Int))))) : Option ((List (Int × ByteArray)) × (Int × ((List ((ByteArray × (ByteArray × Int)) × (Int × Int))) × ((List (Int × Int)) × ((List (Int × (Int × (Int × (ByteArray × (ByteArray × Int)))))) × (Int × Int)))))) :=
  bndS (F34 a0) fun y0 =>
  sel (bNot (iEq y0 0))
    (some (([] : List (Int × ByteArray)), (0, (([] : List ((ByteArray × (ByteArray × Int)) × (Int × Int))), (([] : List (Int × Int)), (([] : List (Int × (Int × (Int × (ByteArray × (ByteArray × Int)))))), (0, y0)))))))
    (sel (iLt 0 (lLen a0.2.2))
      (some (([] : List (Int × ByteArray)), (0, (([] : List ((ByteArray × (ByteArray × Int)) × (Int × Int))), (([] : List (Int × Int)), (([] : List (Int × (Int × (Int × (ByteArray × (ByteArray × Int)))))), (0, 26)))))))
      (bndS (F20 a0) fun y1 =>
      bndS (L42_0 (.inl ((a0.1.1, (a0.1.2, a0.2)), ((0, (0, 0)), ((y1.1, (y1.2.1, (y1.2.2.2, (0, 0)))), 0))))) fun y2 =>
      sumS y2 (fun y2a =>
        bndS (L42_2 (.inl (y2a.1, (y2a.2.1, (y2a.2.2, 0))))) fun y3 =>
        sumS y3 (fun y3a =>
          some (y3a.2.1, (y3a.2.2.1, (([] : List ((ByteArray × (ByteArray × Int)) × (Int × Int))), (y3a.2.2.2.1, (([] : List (Int × (Int × (Int × (ByteArray × (ByteArray × Int)))))), y3a.2.2.2.2)))))) fun y3ar =>
          sumS y3ar (fun y3aa =>
          sel (iLt 12 (lLen y3aa.2.2.2.1))
            (some (([] : List (Int × ByteArray)), (0, (([] : List ((ByteArray × (ByteArray × Int)) × (Int × Int))), (([] : List (Int × Int)), (([] : List (Int × (Int × (Int × (ByteArray × (ByteArray × Int)))))), (0, 2)))))))
            (some y3aa.2)) fun y3ab =>
          some (y3ab.2.1, (y3ab.2.2.1, (([] : List ((ByteArray × (ByteArray × Int)) × (Int × Int))), y3ab.2.2.2)))) fun y2ar =>
        sumS y2ar (fun y2aa =>
        bndS (L42_2 (.inr (.inr (y2aa.1, (y2aa.2.1, (y2aa.2.2, 0)))))) fun y4 =>
        sumS y4 (fun y4a =>
          some (y4a.2.1, (y4a.2.2.1, (([] : List ((ByteArray × (ByteArray × Int)) × (Int × Int))), (y4a.2.2.2.1, (([] : List (Int × (Int × (Int × (ByteArray × (ByteArray × Int)))))), y4a.2.2.2.2)))))) fun y4ar =>
          sumS y4ar (fun y4aa =>
          sel (iLt 12 (lLen y4aa.2.2.2.1))
            (some (([] : List (Int × ByteArray)), (0, (([] : List ((ByteArray × (ByteArray × Int)) × (Int × Int))), (([] : List (Int × Int)), (([] : List (Int × (Int × (Int × (ByteArray × (ByteArray × Int)))))), (0, 2)))))))
            (some y4aa.2)) fun y4ab =>
          some (y4ab.2.1, (y4ab.2.2.1, (([] : List ((ByteArray × (ByteArray × Int)) × (Int × Int))), y4ab.2.2.2)))) fun y2aar =>
        sumS y2aar (fun y2aaa =>
        bndS (L42_2_1 (.inl (y2aaa.1, (y2aaa.2.1, (y2aaa.2.2, 0))))) fun y5 =>
        sumS y5 (fun y5a =>
          sel (iLt 12 (lLen y5a.2.2.2.1))
            (some (([] : List (Int × ByteArray)), (0, (([] : List ((ByteArray × (ByteArray × Int)) × (Int × Int))), (([] : List (Int × Int)), (([] : List (Int × (Int × (Int × (ByteArray × (ByteArray × Int)))))), (0, 2)))))))
            (some (y5a.2.1, (y5a.2.2.1, (y5a.2.2.2.1, (y5a.2.2.2.2.1, (([] : List (Int × (Int × (Int × (ByteArray × (ByteArray × Int)))))), y5a.2.2.2.2.2))))))) fun y5b =>
          sel (iLt 12 (lLen y5b.2.2.2.1))
            (some (([] : List (Int × ByteArray)), (0, (([] : List ((ByteArray × (ByteArray × Int)) × (Int × Int))), (([] : List (Int × Int)), (([] : List (Int × (Int × (Int × (ByteArray × (ByteArray × Int)))))), (0, 2)))))))
            (some y5b.2)) fun y2aab =>
        bndS (L42_2_1 (.inr (y2aab.1, (y2aab.2.1, (y2aab.2.2, 0))))) fun y6 =>
        sumS y6 (fun y6a =>
          sel (iLt 12 (lLen y6a.2.2.2.1))
            (some (([] : List (Int × ByteArray)), (0, (([] : List ((ByteArray × (ByteArray × Int)) × (Int × Int))), (([] : List (Int × Int)), (([] : List (Int × (Int × (Int × (ByteArray × (ByteArray × Int)))))), (0, 2)))))))
            (some (y6a.2.1, (y6a.2.2.1, (y6a.2.2.2.1, (y6a.2.2.2.2.1, (([] : List (Int × (Int × (Int × (ByteArray × (ByteArray × Int)))))), y6a.2.2.2.2.2))))))) fun y6b =>
          sel (iLt 12 (lLen y6b.2.2.2.1))
            (some (([] : List (Int × ByteArray)), (0, (([] : List ((ByteArray × (ByteArray × Int)) × (Int × Int))), (([] : List (Int × Int)), (([] : List (Int × (Int × (Int × (ByteArray × (ByteArray × Int)))))), (0, 2)))))))
            (some y6b.2)))
def gF42 : FS := ⟨(.agg (.dat (.pr (.pr (.sl (.pr (.int .i64) .str)) (.int .i64)) (.pr (.sl (.pr (.pr .str (.pr .str (.int .i64))) (.pr (.int .i64) (.int .i64)))) (.sl (.pr (.int .i64) (.int .i64))))))), 0, (.one ⟨.non, (.agg (.seq (.own 0 (.pr (.int .i64) .str)) (.seq (.dat (.int .i64)) (.seq (.own 1 (.pr (.pr .str (.pr .str (.int .i64))) (.pr (.int .i64) (.int .i64)))) (.seq (.own 2 (.pr (.int .i64) (.int .i64))) (.seq (.own 3 (.pr (.int .i64) (.pr (.int .i64) (.pr (.int .i64) (.pr .str (.pr .str (.int .i64))))))) (.seq (.dat (.int .i64)) (.dat (.int .i64))))))))), 0, 4⟩), fun x => (F42 x)⟩
theorem rL42_2_1 (x : lsL42_2_1.hd.T) : kRound env (GofL [(95, [gF95]), (93, [gF93, gF93_1]), (92, [gF92]), (80, [gF80]), (75, [gF75]), (100, [gF100]), (17, [gF17]), (44, [gF44]), (28, [gF28]), (20, [gF20]), (34, [gF34])]) (LofL [(42, [(2, lsL42_2_1), (2, lsL42_2), (0, lsL42_0)])]) 42 2 (lpOf Tryz.prog 42 1).2 (lsL42_2_1.hd.st x) lsL42_2_1.rd = lsL42_2_1.B x := by rcases x with x | x <;> kernel_rfl
theorem rL42_2 (x : lsL42_2.hd.T) : kRound env (GofL [(95, [gF95]), (93, [gF93, gF93_1]), (92, [gF92]), (80, [gF80]), (75, [gF75]), (100, [gF100]), (17, [gF17]), (44, [gF44]), (28, [gF28]), (20, [gF20]), (34, [gF34])]) (LofL [(42, [(2, lsL42_2_1), (2, lsL42_2), (0, lsL42_0)])]) 42 2 (lpOf Tryz.prog 42 1).2 (lsL42_2.hd.st x) lsL42_2.rd = lsL42_2.B x := by rcases x with x | x | x <;> kernel_rfl
theorem rL42_0 (x : lsL42_0.hd.T) : kRound env (GofL [(95, [gF95]), (93, [gF93, gF93_1]), (92, [gF92]), (80, [gF80]), (75, [gF75]), (100, [gF100]), (17, [gF17]), (44, [gF44]), (28, [gF28]), (20, [gF20]), (34, [gF34])]) (LofL [(42, [(2, lsL42_2_1), (2, lsL42_2), (0, lsL42_0)])]) 42 0 (lpOf Tryz.prog 42 0).2 (lsL42_0.hd.st x) lsL42_0.rd = lsL42_0.B x := by rcases x with x | x | x | x <;> kernel_rfl
theorem eF42 (x : gF42.a.T) : kF env (GofL [(95, [gF95]), (93, [gF93, gF93_1]), (92, [gF92]), (80, [gF80]), (75, [gF75]), (100, [gF100]), (17, [gF17]), (44, [gF44]), (28, [gF28]), (20, [gF20]), (34, [gF34])]) (LofL [(42, [(2, lsL42_2_1), (2, lsL42_2), (0, lsL42_0)])]) 42 (gF42.args x) (gF42.bs x) gF42.r.dec = gF42.F x := by kernel_rfl
theorem sF42 : SpecAt env 7 42 gF42 := mkSpec (r := 6) (gl := [(95, [gF95]), (93, [gF93, gF93_1]), (92, [gF92]), (80, [gF80]), (75, [gF75]), (100, [gF100]), (17, [gF17]), (44, [gF44]), (28, [gF28]), (20, [gF20]), (34, [gF34])]) (L0 := [(2, lsL42_2_1), (2, lsL42_2), (0, lsL42_0)]) (by kernel_rfl) ⟨⟨sF95.up (by decide), trivial⟩, ⟨sF93.up (by decide), sF93_1.up (by decide), trivial⟩, ⟨sF92.up (by decide), trivial⟩, ⟨sF80.up (by decide), trivial⟩, ⟨sF75.up (by decide), trivial⟩, ⟨sF100.up (by decide), trivial⟩, ⟨sF17.up (by decide), trivial⟩, ⟨sF44.up (by decide), trivial⟩, ⟨sF28.up (by decide), trivial⟩, ⟨sF20.up (by decide), trivial⟩, ⟨sF34.up (by decide), trivial⟩, trivial⟩ ⟨⟨1, by kernel_rfl, by kernel_rfl, rL42_2_1⟩, ⟨1, by kernel_rfl, by kernel_rfl, rL42_2⟩, ⟨0, by kernel_rfl, by kernel_rfl, rL42_0⟩, trivial⟩ eF42 (fun h => absurd h (by rw [show env.nl 42 = false by kernel_rfl]; decide))
/-- midrangelaw11.IplReclaims -/
def F11 (a0 : (((List (Int × ByteArray)) × Int) × ((List ((ByteArray × (ByteArray × Int)) × (Int × Int))) × (List (Int × Int))))) : Option Bool :=
  bndS (F15) fun y0 =>
  sel (bNot y0)
    (some false)
    (bndS (F18 a0) fun y1 =>
    sel (bNot y1)
      (some true)
      (bndS (F20 a0) fun y2 =>
      bndS (F41 ((y2.1, y2.2.1), y2.2.2)) fun y3 =>
      bndS (F42 a0) fun y4 =>
      bndS (F23 ((y3.1.1, y3.1.2.1), y3.1.2.2) y3.2.2 (((y4.1, y4.2.1), (y4.2.2.1, y4.2.2.2.1)), y4.2.2.2.2)) fun y5 =>
      sel (bOr (okS (F27 y3.2.1 y4.2.2.2.2.1)) (bNot y5)) (
      letS (valS (F27 y3.2.1 y4.2.2.2.2.1) false) fun y6 =>
      some (bAnd y5 y6)) none))
def gF11 : FS := ⟨(.agg (.dat (.pr (.pr (.sl (.pr (.int .i64) .str)) (.int .i64)) (.pr (.sl (.pr (.pr .str (.pr .str (.int .i64))) (.pr (.int .i64) (.int .i64)))) (.sl (.pr (.int .i64) (.int .i64))))))), 0, (.one ⟨.non, (.dat .bool), 0, 0⟩), fun x => (F11 x)⟩
theorem eF11 (x : gF11.a.T) : kF env (GofL [(27, [gF27]), (23, [gF23]), (42, [gF42]), (41, [gF41]), (20, [gF20]), (18, [gF18]), (15, [gF15])]) (LofL [(11, [])]) 11 (gF11.args x) (gF11.bs x) gF11.r.dec = gF11.F x := by kernel_rfl
theorem sF11 : SpecAt env 11 11 gF11 := mkSpec (r := 10) (gl := [(27, [gF27]), (23, [gF23]), (42, [gF42]), (41, [gF41]), (20, [gF20]), (18, [gF18]), (15, [gF15])]) (L0 := []) (by kernel_rfl) ⟨⟨sF27.up (by decide), trivial⟩, ⟨sF23.up (by decide), trivial⟩, ⟨sF42.up (by decide), trivial⟩, ⟨sF41.up (by decide), trivial⟩, ⟨sF20.up (by decide), trivial⟩, ⟨sF18.up (by decide), trivial⟩, ⟨sF15.up (by decide), trivial⟩, trivial⟩ trivial eF11 (fun h => absurd h (by rw [show env.nl 11 = false by kernel_rfl]; decide))
end
end Go.Proofs.YtiddpfhpmodfbaaGreatDoor.K
end

section
set_option linter.unusedVariables false
set_option linter.unusedSimpArgs false
set_option linter.unnecessarySimpa false
open Go Go.Ev Go.Proofs
namespace Go.Proofs.YtiddpfhpmodfbaaGreatDoor.K
set_option linter.unusedVariables false
set_option maxRecDepth 100000
noncomputable section
end
end Go.Proofs.YtiddpfhpmodfbaaGreatDoor.K
end
