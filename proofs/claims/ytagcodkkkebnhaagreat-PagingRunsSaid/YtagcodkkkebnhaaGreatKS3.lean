/- A part of the proof: texts of the author, joined. -/
import Derived.Test.YtagcodkkkebnhaaGreatKS2
section
set_option linter.unusedVariables false
set_option linter.unusedSimpArgs false
set_option linter.unnecessarySimpa false
open Go Go.Ev Go.Proofs
namespace Go.Proofs.YtagcodkkkebnhaaGreat.K
set_option linter.unusedVariables false
set_option maxRecDepth 100000
noncomputable section
def B26_0h0 (a0 : (List (Int × ByteArray))) (a1 : Int) (a2 : (List (Int × (Bool × (Bool × (Int × (Int × (ByteArray × (Int × Int))))))))) (a3 : (List Int)) (a4 : Int) (a5 : Int) (a6 : Int) (a7 : Int) (a8 : Int) : Option (((((List (Int × ByteArray)) × (Int × ((List (Int × (Bool × (Bool × (Int × (Int × (ByteArray × (Int × Int)))))))) × ((List Int) × (Int × (Int × Int)))))) × (Int × Int)) ⊕ ((((List (Int × ByteArray)) × (Int × ((List (Int × (Bool × (Bool × (Int × (Int × (ByteArray × (Int × Int)))))))) × ((List Int) × (Int × (Int × Int)))))) × (List (Int × ByteArray))) × (Int × Int))) ⊕ (((List (Int × ByteArray)) × (Int × ((List (Int × (Bool × (Bool × (Int × (Int × (ByteArray × (Int × Int)))))))) × ((List Int) × (Int × (Int × Int)))))) ⊕ (((List (Int × ByteArray)) × (Int × ((List (Int × (Bool × (Bool × (Int × (Int × (ByteArray × (Int × Int)))))))) × ((List Int) × (Int × (Int × Int)))))) × (List (Int × ByteArray))))) :=
  sel (iLt a8 (lLen a2))
    (sel (oIn a8 (lLen a2)) (
    sel (bAnd (bAnd (lAt a2 a8).2.1 (lAt a2 a8).2.2.1) (bOr (iEq a7 (-1)) (iEq (lAt a2 a8).2.2.2.1 a7)))
      (bndS (F52 (a0, a1) (lAt a2 a8)) fun y0 =>
      sel (oIn a8 (lLen a2)) (
      some (.inl (.inr (((y0.1, (y0.2, ((lSet a2 a8 ((lAt a2 a8).1, ((lAt a2 a8).2.1, (false, (lAt a2 a8).2.2.2)))), (a3, (a4, (a5, (iAdd .i64 a6 1))))))), a0), (a7, (iAdd .i64 a8 1)))))) none)
      (some (.inl (.inl ((a0, (a1, (a2, (a3, (a4, (a5, a6)))))), (a7, (iAdd .i64 a8 1))))))) none)
    (some (.inr (.inl (a0, (a1, (a2, (a3, (a4, (a5, a6)))))))))
def B26_0h1 (a0 : (List (Int × ByteArray))) (a1 : Int) (a2 : (List (Int × (Bool × (Bool × (Int × (Int × (ByteArray × (Int × Int))))))))) (a3 : (List Int)) (a4 : Int) (a5 : Int) (a6 : Int) (a7 : (List (Int × ByteArray))) (a8 : Int) (a9 : Int) : Option (((((List (Int × ByteArray)) × (Int × ((List (Int × (Bool × (Bool × (Int × (Int × (ByteArray × (Int × Int)))))))) × ((List Int) × (Int × (Int × Int)))))) × (Int × Int)) ⊕ ((((List (Int × ByteArray)) × (Int × ((List (Int × (Bool × (Bool × (Int × (Int × (ByteArray × (Int × Int)))))))) × ((List Int) × (Int × (Int × Int)))))) × (List (Int × ByteArray))) × (Int × Int))) ⊕ (((List (Int × ByteArray)) × (Int × ((List (Int × (Bool × (Bool × (Int × (Int × (ByteArray × (Int × Int)))))))) × ((List Int) × (Int × (Int × Int)))))) ⊕ (((List (Int × ByteArray)) × (Int × ((List (Int × (Bool × (Bool × (Int × (Int × (ByteArray × (Int × Int)))))))) × ((List Int) × (Int × (Int × Int)))))) × (List (Int × ByteArray))))) :=
  sel (iLt a9 (lLen a2))
    (sel (oIn a9 (lLen a2)) (
    sel (bAnd (bAnd (lAt a2 a9).2.1 (lAt a2 a9).2.2.1) (bOr (iEq a8 (-1)) (iEq (lAt a2 a9).2.2.2.1 a8)))
      (bndS (F52 (a0, a1) (lAt a2 a9)) fun y0 =>
      sel (oIn a9 (lLen a2)) (
      some (.inl (.inr (((y0.1, (y0.2, ((lSet a2 a9 ((lAt a2 a9).1, ((lAt a2 a9).2.1, (false, (lAt a2 a9).2.2.2)))), (a3, (a4, (a5, (iAdd .i64 a6 1))))))), a7), (a8, (iAdd .i64 a9 1)))))) none)
      (some (.inl (.inr (((a0, (a1, (a2, (a3, (a4, (a5, a6)))))), a7), (a8, (iAdd .i64 a9 1))))))) none)
    (some (.inr (.inr ((a0, (a1, (a2, (a3, (a4, (a5, a6)))))), a7))))
def L26_0 (x : ((((List (Int × ByteArray)) × (Int × ((List (Int × (Bool × (Bool × (Int × (Int × (ByteArray × (Int × Int)))))))) × ((List Int) × (Int × (Int × Int)))))) × (Int × Int)) ⊕ ((((List (Int × ByteArray)) × (Int × ((List (Int × (Bool × (Bool × (Int × (Int × (ByteArray × (Int × Int)))))))) × ((List Int) × (Int × (Int × Int)))))) × (List (Int × ByteArray))) × (Int × Int)))) : Option (((List (Int × ByteArray)) × (Int × ((List (Int × (Bool × (Bool × (Int × (Int × (ByteArray × (Int × Int)))))))) × ((List Int) × (Int × (Int × Int)))))) ⊕ (((List (Int × ByteArray)) × (Int × ((List (Int × (Bool × (Bool × (Int × (Int × (ByteArray × (Int × Int)))))))) × ((List Int) × (Int × (Int × Int)))))) × (List (Int × ByteArray)))) := iter (fun (x : ((((List (Int × ByteArray)) × (Int × ((List (Int × (Bool × (Bool × (Int × (Int × (ByteArray × (Int × Int)))))))) × ((List Int) × (Int × (Int × Int)))))) × (Int × Int)) ⊕ ((((List (Int × ByteArray)) × (Int × ((List (Int × (Bool × (Bool × (Int × (Int × (ByteArray × (Int × Int)))))))) × ((List Int) × (Int × (Int × Int)))))) × (List (Int × ByteArray))) × (Int × Int)))) => (sumS x (fun x => (B26_0h0 x.1.1 x.1.2.1 x.1.2.2.1 x.1.2.2.2.1 x.1.2.2.2.2.1 x.1.2.2.2.2.2.1 x.1.2.2.2.2.2.2 x.2.1 x.2.2)) fun x => (B26_0h1 x.1.1.1 x.1.1.2.1 x.1.1.2.2.1 x.1.1.2.2.2.1 x.1.1.2.2.2.2.1 x.1.1.2.2.2.2.2.1 x.1.1.2.2.2.2.2.2 x.1.2 x.2.1 x.2.2))) fuel x
def lsL26_0 : LS := ⟨(.two (.one .normal ⟨(.box 0 (.seq (.own 1 (.pr (.int .i64) .str)) (.seq (.dat (.int .i64)) (.seq (.own 2 (.pr (.int .i64) (.pr .bool (.pr .bool (.pr (.int .i64) (.pr (.int .i64) (.pr .str (.pr (.int .i64) (.int .i64))))))))) (.seq (.own 3 (.int .i64)) (.seq (.dat (.int .i64)) (.seq (.dat (.int .i64)) (.dat (.int .i64))))))))), [0, 1, 4], (.seq (.ptr 0 7 0) (.seq (.dat (.int .i64)) (.dat (.int .i64)))), 4, 62, 4⟩) (.one .normal ⟨(.seq (.box 0 (.seq (.own 4 (.pr (.int .i64) .str)) (.seq (.dat (.int .i64)) (.seq (.own 2 (.pr (.int .i64) (.pr .bool (.pr .bool (.pr (.int .i64) (.pr (.int .i64) (.pr .str (.pr (.int .i64) (.int .i64))))))))) (.seq (.own 3 (.int .i64)) (.seq (.dat (.int .i64)) (.seq (.dat (.int .i64)) (.dat (.int .i64))))))))) (.own 1 (.pr (.int .i64) .str))), [0, 1, 4], (.seq (.ptr 0 7 0) (.seq (.dat (.int .i64)) (.dat (.int .i64)))), 5, 62, 4⟩)), (.two (.one (.exit 0) ⟨(.box 0 (.seq (.own 1 (.pr (.int .i64) .str)) (.seq (.dat (.int .i64)) (.seq (.own 2 (.pr (.int .i64) (.pr .bool (.pr .bool (.pr (.int .i64) (.pr (.int .i64) (.pr .str (.pr (.int .i64) (.int .i64))))))))) (.seq (.own 3 (.int .i64)) (.seq (.dat (.int .i64)) (.seq (.dat (.int .i64)) (.dat (.int .i64))))))))), [], .non, 4, 62, 4⟩) (.one (.exit 0) ⟨(.seq (.box 0 (.seq (.own 4 (.pr (.int .i64) .str)) (.seq (.dat (.int .i64)) (.seq (.own 2 (.pr (.int .i64) (.pr .bool (.pr .bool (.pr (.int .i64) (.pr (.int .i64) (.pr .str (.pr (.int .i64) (.int .i64))))))))) (.seq (.own 3 (.int .i64)) (.seq (.dat (.int .i64)) (.seq (.dat (.int .i64)) (.dat (.int .i64))))))))) (.own 1 (.pr (.int .i64) .str))), [], .non, 5, 62, 4⟩)), fun (x : ((((List (Int × ByteArray)) × (Int × ((List (Int × (Bool × (Bool × (Int × (Int × (ByteArray × (Int × Int)))))))) × ((List Int) × (Int × (Int × Int)))))) × (Int × Int)) ⊕ ((((List (Int × ByteArray)) × (Int × ((List (Int × (Bool × (Bool × (Int × (Int × (ByteArray × (Int × Int)))))))) × ((List Int) × (Int × (Int × Int)))))) × (List (Int × ByteArray))) × (Int × Int)))) => (sumS x (fun x => (B26_0h0 x.1.1 x.1.2.1 x.1.2.2.1 x.1.2.2.2.1 x.1.2.2.2.2.1 x.1.2.2.2.2.2.1 x.1.2.2.2.2.2.2 x.2.1 x.2.2)) fun x => (B26_0h1 x.1.1.1 x.1.1.2.1 x.1.1.2.2.1 x.1.1.2.2.2.1 x.1.1.2.2.2.2.1 x.1.1.2.2.2.2.2.1 x.1.1.2.2.2.2.2.2 x.1.2 x.2.1 x.2.2))⟩
/-- midrangeref05.Force -/
def F26 (a0 : (List (Int × ByteArray))) (a1 : Int) (a2 : (List (Int × (Bool × (Bool × (Int × (Int × (ByteArray × (Int × Int))))))))) (a3 : (List Int)) (a4 : Int) (a5 : Int) (a6 : Int) (a7 : Int) : Option (((List (Int × ByteArray)) × (Int × ((List (Int × (Bool × (Bool × (Int × (Int × (ByteArray × (Int × Int)))))))) × ((List Int) × (Int × (Int × Int)))))) ⊕ (((List (Int × ByteArray)) × (Int × ((List (Int × (Bool × (Bool × (Int × (Int × (ByteArray × (Int × Int)))))))) × ((List Int) × (Int × (Int × Int)))))) × (List (Int × ByteArray)))) :=
  bndS (L26_0 (.inl ((a0, (a1, (a2, (a3, (a4, (a5, a6)))))), (a7, 0)))) fun y0 =>
  sumS y0 (fun y0a =>
    some (.inl y0a)) fun y0b =>
    some (.inr y0b)
def gF26 : FS := ⟨(.seq (.box 0 (.seq (.own 1 (.pr (.int .i64) .str)) (.seq (.dat (.int .i64)) (.seq (.own 2 (.pr (.int .i64) (.pr .bool (.pr .bool (.pr (.int .i64) (.pr (.int .i64) (.pr .str (.pr (.int .i64) (.int .i64))))))))) (.seq (.own 3 (.int .i64)) (.seq (.dat (.int .i64)) (.seq (.dat (.int .i64)) (.dat (.int .i64))))))))) (.dat (.int .i64))), 4, (.two (.one ⟨(.box 0 (.seq (.own 1 (.pr (.int .i64) .str)) (.seq (.dat (.int .i64)) (.seq (.own 2 (.pr (.int .i64) (.pr .bool (.pr .bool (.pr (.int .i64) (.pr (.int .i64) (.pr .str (.pr (.int .i64) (.int .i64))))))))) (.seq (.own 3 (.int .i64)) (.seq (.dat (.int .i64)) (.seq (.dat (.int .i64)) (.dat (.int .i64))))))))), (.tup .non), 4, 0⟩) (.one ⟨(.seq (.box 0 (.seq (.own 4 (.pr (.int .i64) .str)) (.seq (.dat (.int .i64)) (.seq (.own 2 (.pr (.int .i64) (.pr .bool (.pr .bool (.pr (.int .i64) (.pr (.int .i64) (.pr .str (.pr (.int .i64) (.int .i64))))))))) (.seq (.own 3 (.int .i64)) (.seq (.dat (.int .i64)) (.seq (.dat (.int .i64)) (.dat (.int .i64))))))))) (.own 1 (.pr (.int .i64) .str))), (.tup .non), 4, 1⟩)), fun x => (F26 x.1.1 x.1.2.1 x.1.2.2.1 x.1.2.2.2.1 x.1.2.2.2.2.1 x.1.2.2.2.2.2.1 x.1.2.2.2.2.2.2 x.2)⟩
theorem rL26_0 (x : lsL26_0.hd.T) : kRound env (GofL [(52, [gF52])]) (LofL [(26, [(0, lsL26_0)])]) 26 0 (lpOf Tryz.prog 26 0).2 (lsL26_0.hd.st x) lsL26_0.rd = lsL26_0.B x := by rcases x with x | x <;> kernel_rfl
theorem eF26 (x : gF26.a.T) : kF env (GofL [(52, [gF52])]) (LofL [(26, [(0, lsL26_0)])]) 26 (gF26.args x) (gF26.bs x) gF26.r.dec = gF26.F x := by kernel_rfl
theorem sF26 : SpecAt env 3 26 gF26 := mkSpec (r := 2) (gl := [(52, [gF52])]) (L0 := [(0, lsL26_0)]) (by kernel_rfl) ⟨⟨sF52.up (by decide), trivial⟩, trivial⟩ ⟨⟨0, by kernel_rfl, by kernel_rfl, rL26_0⟩, trivial⟩ eF26 (fun h => absurd h (by rw [show env.nl 26 = false by kernel_rfl]; decide))
/-- midrangeref05.Accessed -/
def F9 (a0 : (((List (Int × ByteArray)) × Int) × ((List (Int × (Bool × (Bool × (Int × (Int × (ByteArray × (Int × Int)))))))) × ((List Int) × (Int × (Int × Int)))))) (a1 : (Int × (Int × ((Int × Int) × (Int × ByteArray))))) : Option ((List (Int × ByteArray)) × (Int × ((List (Int × (Bool × (Bool × (Int × (Int × (ByteArray × (Int × Int)))))))) × ((List Int) × (Int × (Int × (Int × (ByteArray × Int)))))))) :=
  bndS (F24 a0) fun y0 =>
  sel (bNot (iEq y0 0))
    (some (([] : List (Int × ByteArray)), (0, (([] : List (Int × (Bool × (Bool × (Int × (Int × (ByteArray × (Int × Int)))))))), (([] : List Int), (0, (0, (0, ((bs []), y0)))))))))
    (bndS (F25 a0 a1) fun y1 =>
    sel (bNot (iEq y1 0))
      (some (([] : List (Int × ByteArray)), (0, (([] : List (Int × (Bool × (Bool × (Int × (Int × (ByteArray × (Int × Int)))))))), (([] : List Int), (0, (0, (0, ((bs []), y1)))))))))
      (bndS (F8 a0) fun y2 =>
      sel (iEq a1.1 2)
        (bndS (F26 y2.1 y2.2.1 y2.2.2.1 y2.2.2.2.1 y2.2.2.2.2.1 y2.2.2.2.2.2.1 y2.2.2.2.2.2.2 a1.2.2.1.1) fun y5 =>
        sumS y5 (fun y5a =>
          sel (bOr (bOr (iLt 999999999999999 y5a.2.2.2.2.1) (iLt 999999999999999 y5a.2.2.2.2.2.1)) (iLt 999999999999999 y5a.2.2.2.2.2.2))
            (some (([] : List (Int × ByteArray)), (0, (([] : List (Int × (Bool × (Bool × (Int × (Int × (ByteArray × (Int × Int)))))))), (([] : List Int), (0, (0, (0, ((bs []), 30)))))))))
            (some (y5a.1, (y5a.2.1, (y5a.2.2.1, (y5a.2.2.2.1, (y5a.2.2.2.2.1, (y5a.2.2.2.2.2.1, (y5a.2.2.2.2.2.2, ((bs []), 0)))))))))) fun y5b =>
          sel (bOr (bOr (iLt 999999999999999 y5b.1.2.2.2.2.1) (iLt 999999999999999 y5b.1.2.2.2.2.2.1)) (iLt 999999999999999 y5b.1.2.2.2.2.2.2))
            (some (([] : List (Int × ByteArray)), (0, (([] : List (Int × (Bool × (Bool × (Int × (Int × (ByteArray × (Int × Int)))))))), (([] : List Int), (0, (0, (0, ((bs []), 30)))))))))
            (some (y5b.1.1, (y5b.1.2.1, (y5b.1.2.2.1, (y5b.1.2.2.2.1, (y5b.1.2.2.2.2.1, (y5b.1.2.2.2.2.2.1, (y5b.1.2.2.2.2.2.2, ((bs []), 0))))))))))
        (sel (iEq a1.1 3)
          (bndS (F26 y2.1 y2.2.1 y2.2.2.1 y2.2.2.2.1 y2.2.2.2.2.1 y2.2.2.2.2.2.1 y2.2.2.2.2.2.2 (-1)) fun y4 =>
          sumS y4 (fun y4a =>
            sel (bOr (bOr (iLt 999999999999999 y4a.2.2.2.2.1) (iLt 999999999999999 y4a.2.2.2.2.2.1)) (iLt 999999999999999 y4a.2.2.2.2.2.2))
              (some (([] : List (Int × ByteArray)), (0, (([] : List (Int × (Bool × (Bool × (Int × (Int × (ByteArray × (Int × Int)))))))), (([] : List Int), (0, (0, (0, ((bs []), 30)))))))))
              (some (y4a.1, (y4a.2.1, (y4a.2.2.1, (y4a.2.2.2.1, (y4a.2.2.2.2.1, (y4a.2.2.2.2.2.1, (y4a.2.2.2.2.2.2, ((bs []), 0)))))))))) fun y4b =>
            sel (bOr (bOr (iLt 999999999999999 y4b.1.2.2.2.2.1) (iLt 999999999999999 y4b.1.2.2.2.2.2.1)) (iLt 999999999999999 y4b.1.2.2.2.2.2.2))
              (some (([] : List (Int × ByteArray)), (0, (([] : List (Int × (Bool × (Bool × (Int × (Int × (ByteArray × (Int × Int)))))))), (([] : List Int), (0, (0, (0, ((bs []), 30)))))))))
              (some (y4b.1.1, (y4b.1.2.1, (y4b.1.2.2.1, (y4b.1.2.2.2.1, (y4b.1.2.2.2.2.1, (y4b.1.2.2.2.2.2.1, (y4b.1.2.2.2.2.2.2, ((bs []), 0))))))))))
          (bndS (F27 y2.1 y2.2.1 y2.2.2.1 y2.2.2.2.1 y2.2.2.2.2.1 y2.2.2.2.2.2.1 y2.2.2.2.2.2.2 a1) fun y3 =>
          sumS y3 (fun y3a =>
            sel (bOr (bOr (iLt 999999999999999 y3a.1.2.2.2.2.1) (iLt 999999999999999 y3a.1.2.2.2.2.2.1)) (iLt 999999999999999 y3a.1.2.2.2.2.2.2))
              (some (([] : List (Int × ByteArray)), (0, (([] : List (Int × (Bool × (Bool × (Int × (Int × (ByteArray × (Int × Int)))))))), (([] : List Int), (0, (0, (0, ((bs []), 30)))))))))
              (some (y3a.1.1, (y3a.1.2.1, (y3a.1.2.2.1, (y3a.1.2.2.2.1, (y3a.1.2.2.2.2.1, (y3a.1.2.2.2.2.2.1, (y3a.1.2.2.2.2.2.2, (y3a.2, 0)))))))))) fun y3b =>
            sel (bOr (bOr (iLt 999999999999999 y3b.1.1.2.2.2.2.1) (iLt 999999999999999 y3b.1.1.2.2.2.2.2.1)) (iLt 999999999999999 y3b.1.1.2.2.2.2.2.2))
              (some (([] : List (Int × ByteArray)), (0, (([] : List (Int × (Bool × (Bool × (Int × (Int × (ByteArray × (Int × Int)))))))), (([] : List Int), (0, (0, (0, ((bs []), 30)))))))))
              (some (y3b.1.1.1, (y3b.1.1.2.1, (y3b.1.1.2.2.1, (y3b.1.1.2.2.2.1, (y3b.1.1.2.2.2.2.1, (y3b.1.1.2.2.2.2.2.1, (y3b.1.1.2.2.2.2.2.2, (y3b.2, 0)))))))))))))
def gF9 : FS := ⟨(.seq (.agg (.dat (.pr (.pr (.sl (.pr (.int .i64) .str)) (.int .i64)) (.pr (.sl (.pr (.int .i64) (.pr .bool (.pr .bool (.pr (.int .i64) (.pr (.int .i64) (.pr .str (.pr (.int .i64) (.int .i64))))))))) (.pr (.sl (.int .i64)) (.pr (.int .i64) (.pr (.int .i64) (.int .i64)))))))) (.agg (.dat (.pr (.int .i64) (.pr (.int .i64) (.pr (.pr (.int .i64) (.int .i64)) (.pr (.int .i64) .str))))))), 0, (.one ⟨.non, (.agg (.seq (.own 0 (.pr (.int .i64) .str)) (.seq (.dat (.int .i64)) (.seq (.own 1 (.pr (.int .i64) (.pr .bool (.pr .bool (.pr (.int .i64) (.pr (.int .i64) (.pr .str (.pr (.int .i64) (.int .i64))))))))) (.seq (.own 2 (.int .i64)) (.seq (.dat (.int .i64)) (.seq (.dat (.int .i64)) (.seq (.dat (.int .i64)) (.seq (.dat .str) (.dat (.int .i64))))))))))), 0, 3⟩), fun x => (F9 x.1 x.2)⟩
theorem eF9 (x : gF9.a.T) : kF env (GofL [(26, [gF26]), (27, [gF27]), (8, [gF8]), (25, [gF25]), (24, [gF24])]) (LofL [(9, [])]) 9 (gF9.args x) (gF9.bs x) gF9.r.dec = gF9.F x := by kernel_rfl
theorem sF9 : SpecAt env 8 9 gF9 := mkSpec (r := 7) (gl := [(26, [gF26]), (27, [gF27]), (8, [gF8]), (25, [gF25]), (24, [gF24])]) (L0 := []) (by kernel_rfl) ⟨⟨sF26.up (by decide), trivial⟩, ⟨sF27.up (by decide), trivial⟩, ⟨sF8.up (by decide), trivial⟩, ⟨sF25.up (by decide), trivial⟩, ⟨sF24.up (by decide), trivial⟩, trivial⟩ trivial eF9 (fun h => absurd h (by rw [show env.nl 9 = false by kernel_rfl]; decide))
def B28_0 (a0 : (List (Int × ByteArray))) (a1 : Int) (a2 : (List (Int × ByteArray))) (a3 : Int) (a4 : Int) : Option ((((List (Int × ByteArray)) × Int) × (((List (Int × ByteArray)) × Int) × Int)) ⊕ (Unit ⊕ Bool)) :=
  sel (iLt a4 (lLen a0))
    (sel (oIn a4 (lLen a0)) (
    sel (oIn a4 (lLen a2)) (
    sel (bNot (bAnd (iEq (lAt a0 a4).1 (lAt a2 a4).1) (sEq (lAt a0 a4).2 (lAt a2 a4).2)))
      (some (.inr (.inr false)))
      (some (.inl ((a0, a1), ((a2, a3), (iAdd .i64 a4 1)))))) none) none)
    (some (.inr (.inl ())))
def L28_0 (x : (((List (Int × ByteArray)) × Int) × (((List (Int × ByteArray)) × Int) × Int))) : Option (Unit ⊕ Bool) := iter (fun (x : (((List (Int × ByteArray)) × Int) × (((List (Int × ByteArray)) × Int) × Int))) => (B28_0 x.1.1 x.1.2 x.2.1.1 x.2.1.2 x.2.2)) fuel x
def lsL28_0 : LS := ⟨(.one .normal ⟨.non, [2, 3, 5], (.seq (.box 0 (.seq (.dat (.sl (.pr (.int .i64) .str))) (.dat (.int .i64)))) (.seq (.box 1 (.seq (.dat (.sl (.pr (.int .i64) .str))) (.dat (.int .i64)))) (.dat (.int .i64)))), 2, 38, 0⟩), (.two (.one (.exit 0) ⟨.non, [], .non, 0, 38, 0⟩) (.one .ret ⟨.non, [4], (.dat .bool), 0, 38, 0⟩)), fun (x : (((List (Int × ByteArray)) × Int) × (((List (Int × ByteArray)) × Int) × Int))) => (B28_0 x.1.1 x.1.2 x.2.1.1 x.2.1.2 x.2.2)⟩
/-- midrangeref04.Same -/
def F28 (a0 : ((List (Int × ByteArray)) × Int)) (a1 : ((List (Int × ByteArray)) × Int)) : Option Bool :=
  sel (bOr (bNot (iEq a0.2 a1.2)) (bNot (iEq (lLen a0.1) (lLen a1.1))))
    (some false)
    (bndS (L28_0 (a0, (a1, 0))) fun y0 =>
    sumS y0 (fun y0a =>
      some true) fun y0b =>
      some y0b)
def gF28 : FS := ⟨(.seq (.agg (.dat (.pr (.sl (.pr (.int .i64) .str)) (.int .i64)))) (.agg (.dat (.pr (.sl (.pr (.int .i64) .str)) (.int .i64))))), 0, (.one ⟨.non, (.dat .bool), 0, 0⟩), fun x => (F28 x.1 x.2)⟩
theorem rL28_0 (x : lsL28_0.hd.T) : kRound env (GofL []) (LofL [(28, [(0, lsL28_0)])]) 28 0 (lpOf Tryz.prog 28 0).2 (lsL28_0.hd.st x) lsL28_0.rd = lsL28_0.B x := by kernel_rfl
theorem eF28 (x : gF28.a.T) : kF env (GofL []) (LofL [(28, [(0, lsL28_0)])]) 28 (gF28.args x) (gF28.bs x) gF28.r.dec = gF28.F x := by kernel_rfl
theorem sF28 : SpecAt env 1 28 gF28 := mkSpec (r := 0) (gl := []) (L0 := [(0, lsL28_0)]) (by kernel_rfl) trivial ⟨⟨0, by kernel_rfl, by kernel_rfl, rL28_0⟩, trivial⟩ eF28 (fun h => absurd h (by rw [show env.nl 28 = false by kernel_rfl]; decide))
def B29_0 (a0 : (List Int)) (a1 : (List Int)) (a2 : Int) : Option (((List Int) × ((List Int) × Int)) ⊕ (Unit ⊕ Bool)) :=
  sel (iLt a2 (lLen a0))
    (sel (oIn a2 (lLen a0)) (
    sel (oIn a2 (lLen a1)) (
    sel (bNot (iEq (lAt a0 a2) (lAt a1 a2)))
      (some (.inr (.inr false)))
      (some (.inl (a0, (a1, (iAdd .i64 a2 1)))))) none) none)
    (some (.inr (.inl ())))
def L29_0 (x : ((List Int) × ((List Int) × Int))) : Option (Unit ⊕ Bool) := iter (fun (x : ((List Int) × ((List Int) × Int))) => (B29_0 x.1 x.2.1 x.2.2)) fuel x
def lsL29_0 : LS := ⟨(.one .normal ⟨.non, [0, 1, 5], (.seq (.dat (.sl (.int .i64))) (.seq (.dat (.sl (.int .i64))) (.dat (.int .i64)))), 0, 26, 0⟩), (.two (.one (.exit 0) ⟨.non, [], .non, 0, 26, 0⟩) (.one .ret ⟨.non, [4], (.dat .bool), 0, 26, 0⟩)), fun (x : ((List Int) × ((List Int) × Int))) => (B29_0 x.1 x.2.1 x.2.2)⟩
/-- midrangebase.Ints -/
def F29 (a0 : (List Int)) (a1 : (List Int)) : Option Bool :=
  sel (bNot (iEq (lLen a0) (lLen a1)))
    (some false)
    (bndS (L29_0 (a0, (a1, 0))) fun y0 =>
    sumS y0 (fun y0a =>
      some true) fun y0b =>
      some y0b)
def gF29 : FS := ⟨(.seq (.dat (.sl (.int .i64))) (.dat (.sl (.int .i64)))), 0, (.one ⟨.non, (.dat .bool), 0, 0⟩), fun x => (F29 x.1 x.2)⟩
theorem rL29_0 (x : lsL29_0.hd.T) : kRound env (GofL []) (LofL [(29, [(0, lsL29_0)])]) 29 0 (lpOf Tryz.prog 29 0).2 (lsL29_0.hd.st x) lsL29_0.rd = lsL29_0.B x := by kernel_rfl
theorem eF29 (x : gF29.a.T) : kF env (GofL []) (LofL [(29, [(0, lsL29_0)])]) 29 (gF29.args x) (gF29.bs x) gF29.r.dec = gF29.F x := by kernel_rfl
theorem sF29 : SpecAt env 1 29 gF29 := mkSpec (r := 0) (gl := []) (L0 := [(0, lsL29_0)]) (by kernel_rfl) trivial ⟨⟨0, by kernel_rfl, by kernel_rfl, rL29_0⟩, trivial⟩ eF29 (fun h => absurd h (by rw [show env.nl 29 = false by kernel_rfl]; decide))
def B10_0 (a0 : (List (Int × ByteArray))) (a1 : Int) (a2 : (List (Int × (Bool × (Bool × (Int × (Int × (ByteArray × (Int × Int))))))))) (a3 : (List Int)) (a4 : Int) (a5 : Int) (a6 : Int) (a7 : (List (Int × ByteArray))) (a8 : Int) (a9 : (List (Int × (Bool × (Bool × (Int × (Int × (ByteArray × (Int × Int))))))))) (a10 : (List Int)) (a11 : Int) (a12 : Int) (a13 : Int) (a14 : Int) : Option ((((List (Int × ByteArray)) × (Int × ((List (Int × (Bool × (Bool × (Int × (Int × (ByteArray × (Int × Int)))))))) × ((List Int) × (Int × (Int × Int)))))) × (((List (Int × ByteArray)) × (Int × ((List (Int × (Bool × (Bool × (Int × (Int × (ByteArray × (Int × Int)))))))) × ((List Int) × (Int × (Int × Int)))))) × Int)) ⊕ (Unit ⊕ Bool)) :=
  sel (iLt a14 (lLen a2))
    (sel (oIn a14 (lLen a2)) (
    sel (oIn a14 (lLen a9)) (
    sel (bNot (bAnd (iEq (lAt a2 a14).1 (lAt a9 a14).1) (bAnd (bEq (lAt a2 a14).2.1 (lAt a9 a14).2.1) (bAnd (bEq (lAt a2 a14).2.2.1 (lAt a9 a14).2.2.1) (bAnd (iEq (lAt a2 a14).2.2.2.1 (lAt a9 a14).2.2.2.1) (bAnd (iEq (lAt a2 a14).2.2.2.2.1 (lAt a9 a14).2.2.2.2.1) (bAnd (sEq (lAt a2 a14).2.2.2.2.2.1 (lAt a9 a14).2.2.2.2.2.1) (bAnd (iEq (lAt a2 a14).2.2.2.2.2.2.1 (lAt a9 a14).2.2.2.2.2.2.1) (iEq (lAt a2 a14).2.2.2.2.2.2.2 (lAt a9 a14).2.2.2.2.2.2.2)))))))))
      (some (.inr (.inr false)))
      (some (.inl ((a0, (a1, (a2, (a3, (a4, (a5, a6)))))), ((a7, (a8, (a9, (a10, (a11, (a12, a13)))))), (iAdd .i64 a14 1)))))) none) none)
    (some (.inr (.inl ())))
def L10_0 (x : (((List (Int × ByteArray)) × (Int × ((List (Int × (Bool × (Bool × (Int × (Int × (ByteArray × (Int × Int)))))))) × ((List Int) × (Int × (Int × Int)))))) × (((List (Int × ByteArray)) × (Int × ((List (Int × (Bool × (Bool × (Int × (Int × (ByteArray × (Int × Int)))))))) × ((List Int) × (Int × (Int × Int)))))) × Int))) : Option (Unit ⊕ Bool) := iter (fun (x : (((List (Int × ByteArray)) × (Int × ((List (Int × (Bool × (Bool × (Int × (Int × (ByteArray × (Int × Int)))))))) × ((List Int) × (Int × (Int × Int)))))) × (((List (Int × ByteArray)) × (Int × ((List (Int × (Bool × (Bool × (Int × (Int × (ByteArray × (Int × Int)))))))) × ((List Int) × (Int × (Int × Int)))))) × Int))) => (B10_0 x.1.1 x.1.2.1 x.1.2.2.1 x.1.2.2.2.1 x.1.2.2.2.2.1 x.1.2.2.2.2.2.1 x.1.2.2.2.2.2.2 x.2.1.1 x.2.1.2.1 x.2.1.2.2.1 x.2.1.2.2.2.1 x.2.1.2.2.2.2.1 x.2.1.2.2.2.2.2.1 x.2.1.2.2.2.2.2.2 x.2.2)) fuel x
def lsL10_0 : LS := ⟨(.one .normal ⟨.non, [2, 3, 5], (.seq (.box 0 (.seq (.dat (.sl (.pr (.int .i64) .str))) (.seq (.dat (.int .i64)) (.seq (.dat (.sl (.pr (.int .i64) (.pr .bool (.pr .bool (.pr (.int .i64) (.pr (.int .i64) (.pr .str (.pr (.int .i64) (.int .i64)))))))))) (.seq (.dat (.sl (.int .i64))) (.seq (.dat (.int .i64)) (.seq (.dat (.int .i64)) (.dat (.int .i64))))))))) (.seq (.box 1 (.seq (.dat (.sl (.pr (.int .i64) .str))) (.seq (.dat (.int .i64)) (.seq (.dat (.sl (.pr (.int .i64) (.pr .bool (.pr .bool (.pr (.int .i64) (.pr (.int .i64) (.pr .str (.pr (.int .i64) (.int .i64)))))))))) (.seq (.dat (.sl (.int .i64))) (.seq (.dat (.int .i64)) (.seq (.dat (.int .i64)) (.dat (.int .i64))))))))) (.dat (.int .i64)))), 2, 68, 0⟩), (.two (.one (.exit 0) ⟨.non, [], .non, 0, 68, 0⟩) (.one .ret ⟨.non, [4], (.dat .bool), 0, 68, 0⟩)), fun (x : (((List (Int × ByteArray)) × (Int × ((List (Int × (Bool × (Bool × (Int × (Int × (ByteArray × (Int × Int)))))))) × ((List Int) × (Int × (Int × Int)))))) × (((List (Int × ByteArray)) × (Int × ((List (Int × (Bool × (Bool × (Int × (Int × (ByteArray × (Int × Int)))))))) × ((List Int) × (Int × (Int × Int)))))) × Int))) => (B10_0 x.1.1 x.1.2.1 x.1.2.2.1 x.1.2.2.2.1 x.1.2.2.2.2.1 x.1.2.2.2.2.2.1 x.1.2.2.2.2.2.2 x.2.1.1 x.2.1.2.1 x.2.1.2.2.1 x.2.1.2.2.2.1 x.2.1.2.2.2.2.1 x.2.1.2.2.2.2.2.1 x.2.1.2.2.2.2.2.2 x.2.2)⟩
/-- midrangeref05.Same -/
def F10 (a0 : (((List (Int × ByteArray)) × Int) × ((List (Int × (Bool × (Bool × (Int × (Int × (ByteArray × (Int × Int)))))))) × ((List Int) × (Int × (Int × Int)))))) (a1 : (((List (Int × ByteArray)) × Int) × ((List (Int × (Bool × (Bool × (Int × (Int × (ByteArray × (Int × Int)))))))) × ((List Int) × (Int × (Int × Int)))))) : Option Bool :=
  bndS (F28 a0.1 a1.1) fun y0 =>
  sel (bOr (okS (F29 a0.2.2.1 a1.2.2.1)) (bNot (bNot (bNot y0)))) (
  letS (valS (F29 a0.2.2.1 a1.2.2.1) false) fun y1 =>
  sel (bOr (bOr (bOr (bOr (bOr (bNot y0) (bNot y1)) (bNot (iEq a0.2.2.2.1 a1.2.2.2.1))) (bNot (iEq a0.2.2.2.2.1 a1.2.2.2.2.1))) (bNot (iEq a0.2.2.2.2.2 a1.2.2.2.2.2))) (bNot (iEq (lLen a0.2.1) (lLen a1.2.1))))
    (some false)
    (bndS (L10_0 ((a0.1.1, (a0.1.2, a0.2)), ((a1.1.1, (a1.1.2, a1.2)), 0))) fun y2 =>
    sumS y2 (fun y2a =>
      some true) fun y2b =>
      some y2b)) none
def gF10 : FS := ⟨(.seq (.agg (.dat (.pr (.pr (.sl (.pr (.int .i64) .str)) (.int .i64)) (.pr (.sl (.pr (.int .i64) (.pr .bool (.pr .bool (.pr (.int .i64) (.pr (.int .i64) (.pr .str (.pr (.int .i64) (.int .i64))))))))) (.pr (.sl (.int .i64)) (.pr (.int .i64) (.pr (.int .i64) (.int .i64)))))))) (.agg (.dat (.pr (.pr (.sl (.pr (.int .i64) .str)) (.int .i64)) (.pr (.sl (.pr (.int .i64) (.pr .bool (.pr .bool (.pr (.int .i64) (.pr (.int .i64) (.pr .str (.pr (.int .i64) (.int .i64))))))))) (.pr (.sl (.int .i64)) (.pr (.int .i64) (.pr (.int .i64) (.int .i64))))))))), 0, (.one ⟨.non, (.dat .bool), 0, 0⟩), fun x => (F10 x.1 x.2)⟩
theorem rL10_0 (x : lsL10_0.hd.T) : kRound env (GofL [(29, [gF29]), (28, [gF28])]) (LofL [(10, [(0, lsL10_0)])]) 10 0 (lpOf Tryz.prog 10 0).2 (lsL10_0.hd.st x) lsL10_0.rd = lsL10_0.B x := by kernel_rfl
theorem eF10 (x : gF10.a.T) : kF env (GofL [(29, [gF29]), (28, [gF28])]) (LofL [(10, [(0, lsL10_0)])]) 10 (gF10.args x) (gF10.bs x) gF10.r.dec = gF10.F x := by kernel_rfl
theorem sF10 : SpecAt env 2 10 gF10 := mkSpec (r := 1) (gl := [(29, [gF29]), (28, [gF28])]) (L0 := [(0, lsL10_0)]) (by kernel_rfl) ⟨⟨sF29.up (by decide), trivial⟩, ⟨sF28.up (by decide), trivial⟩, trivial⟩ ⟨⟨0, by kernel_rfl, by kernel_rfl, rL10_0⟩, trivial⟩ eF10 (fun h => absurd h (by rw [show env.nl 10 = false by kernel_rfl]; decide))
/-- midrangelaw05.PagingAccesses -/
def F3 (a0 : (((List (Int × ByteArray)) × Int) × ((List (Int × (Bool × (Bool × (Int × (Int × (ByteArray × (Int × Int)))))))) × ((List Int) × (Int × (Int × Int)))))) (a1 : (Int × (Int × ((Int × Int) × (Int × ByteArray))))) : Option Bool :=
  bndS (F5) fun y0 =>
  sel (bNot y0)
    (some false)
    (bndS (F6 a0) fun y1 =>
    sel (bOr (bNot y1) (iLt 400 (sLen a1.2.2.2.2)))
      (some true)
      (bndS (F8 a0) fun y2 =>
      bndS (F7 ((y2.1, y2.2.1), y2.2.2) a1) fun y3 =>
      bndS (F9 a0 a1) fun y4 =>
      sel (bOr (okS (F10 ((y3.1.1, y3.1.2.1), y3.1.2.2) ((y4.1, y4.2.1), (y4.2.2.1, (y4.2.2.2.1, (y4.2.2.2.2.1, (y4.2.2.2.2.2.1, y4.2.2.2.2.2.2.1))))))) (bNot (bAnd (iEq y3.2.2 y4.2.2.2.2.2.2.2.2) (sEq y3.2.1 y4.2.2.2.2.2.2.2.1)))) (
      letS (valS (F10 ((y3.1.1, y3.1.2.1), y3.1.2.2) ((y4.1, y4.2.1), (y4.2.2.1, (y4.2.2.2.1, (y4.2.2.2.2.1, (y4.2.2.2.2.2.1, y4.2.2.2.2.2.2.1)))))) false) fun y5 =>
      some (bAnd (bAnd (iEq y3.2.2 y4.2.2.2.2.2.2.2.2) (sEq y3.2.1 y4.2.2.2.2.2.2.2.1)) y5)) none))
def gF3 : FS := ⟨(.seq (.agg (.dat (.pr (.pr (.sl (.pr (.int .i64) .str)) (.int .i64)) (.pr (.sl (.pr (.int .i64) (.pr .bool (.pr .bool (.pr (.int .i64) (.pr (.int .i64) (.pr .str (.pr (.int .i64) (.int .i64))))))))) (.pr (.sl (.int .i64)) (.pr (.int .i64) (.pr (.int .i64) (.int .i64)))))))) (.agg (.dat (.pr (.int .i64) (.pr (.int .i64) (.pr (.pr (.int .i64) (.int .i64)) (.pr (.int .i64) .str))))))), 0, (.one ⟨.non, (.dat .bool), 0, 0⟩), fun x => (F3 x.1 x.2)⟩
theorem eF3 (x : gF3.a.T) : kF env (GofL [(10, [gF10]), (9, [gF9]), (7, [gF7]), (8, [gF8]), (6, [gF6]), (5, [gF5])]) (LofL [(3, [])]) 3 (gF3.args x) (gF3.bs x) gF3.r.dec = gF3.F x := by kernel_rfl
theorem sF3 : SpecAt env 11 3 gF3 := mkSpec (r := 10) (gl := [(10, [gF10]), (9, [gF9]), (7, [gF7]), (8, [gF8]), (6, [gF6]), (5, [gF5])]) (L0 := []) (by kernel_rfl) ⟨⟨sF10.up (by decide), trivial⟩, ⟨sF9.up (by decide), trivial⟩, ⟨sF7.up (by decide), trivial⟩, ⟨sF8.up (by decide), trivial⟩, ⟨sF6.up (by decide), trivial⟩, ⟨sF5.up (by decide), trivial⟩, trivial⟩ trivial eF3 (fun h => absurd h (by rw [show env.nl 3 = false by kernel_rfl]; decide))
def B11_0 (a0 : (List (Int × (Int × ((Int × Int) × (Int × ByteArray)))))) (a1 : Int) : Option (((List (Int × (Int × ((Int × Int) × (Int × ByteArray))))) × Int) ⊕ (Unit ⊕ Bool)) :=
  sel (iLt a1 (lLen a0))
    (sel (bOr (oIn a1 (lLen a0)) (bNot (bNot (iLt 41 a1)))) (
    sel (bOr (iLt 41 a1) (iLt 400 (sLen (lAt a0 a1).2.2.2.2)))
      (some (.inr (.inr false)))
      (some (.inl (a0, (iAdd .i64 a1 1))))) none)
    (some (.inr (.inl ())))
def L11_0 (x : ((List (Int × (Int × ((Int × Int) × (Int × ByteArray))))) × Int)) : Option (Unit ⊕ Bool) := iter (fun (x : ((List (Int × (Int × ((Int × Int) × (Int × ByteArray))))) × Int)) => (B11_0 x.1 x.2)) fuel x
def lsL11_0 : LS := ⟨(.one .normal ⟨.non, [0, 3], (.seq (.dat (.sl (.pr (.int .i64) (.pr (.int .i64) (.pr (.pr (.int .i64) (.int .i64)) (.pr (.int .i64) .str)))))) (.dat (.int .i64))), 0, 21, 0⟩), (.two (.one (.exit 0) ⟨.non, [], .non, 0, 21, 0⟩) (.one .ret ⟨.non, [2], (.dat .bool), 0, 21, 0⟩)), fun (x : ((List (Int × (Int × ((Int × Int) × (Int × ByteArray))))) × Int)) => (B11_0 x.1 x.2)⟩
/-- midrangelaw05.Light -/
def F11 (a0 : (List (Int × (Int × ((Int × Int) × (Int × ByteArray)))))) : Option Bool :=
  bndS (L11_0 (a0, 0)) fun y0 =>
  sumS y0 (fun y0a =>
    some true) fun y0b =>
    some y0b
def gF11 : FS := ⟨(.dat (.sl (.pr (.int .i64) (.pr (.int .i64) (.pr (.pr (.int .i64) (.int .i64)) (.pr (.int .i64) .str)))))), 0, (.one ⟨.non, (.dat .bool), 0, 0⟩), fun x => (F11 x)⟩
theorem rL11_0 (x : lsL11_0.hd.T) : kRound env (GofL []) (LofL [(11, [(0, lsL11_0)])]) 11 0 (lpOf Tryz.prog 11 0).2 (lsL11_0.hd.st x) lsL11_0.rd = lsL11_0.B x := by kernel_rfl
theorem eF11 (x : gF11.a.T) : kF env (GofL []) (LofL [(11, [(0, lsL11_0)])]) 11 (gF11.args x) (gF11.bs x) gF11.r.dec = gF11.F x := by kernel_rfl
theorem sF11 : SpecAt env 1 11 gF11 := mkSpec (r := 0) (gl := []) (L0 := [(0, lsL11_0)]) (by kernel_rfl) trivial ⟨⟨0, by kernel_rfl, by kernel_rfl, rL11_0⟩, trivial⟩ eF11 (fun h => absurd h (by rw [show env.nl 11 = false by kernel_rfl]; decide))
/-- midrangeref05.OwnAccesses -/
def F13 (a0 : (List (Int × (Int × ((Int × Int) × (Int × ByteArray)))))) : Option (List (Int × (Int × ((Int × Int) × (Int × ByteArray))))) :=
  sel (lCap 56 a0) (
  some a0) none
def gF13 : FS := ⟨(.dat (.sl (.pr (.int .i64) (.pr (.int .i64) (.pr (.pr (.int .i64) (.int .i64)) (.pr (.int .i64) .str)))))), 0, (.one ⟨.non, (.own 0 (.pr (.int .i64) (.pr (.int .i64) (.pr (.pr (.int .i64) (.int .i64)) (.pr (.int .i64) .str))))), 0, 1⟩), fun x => (F13 x)⟩
theorem eF13 (x : gF13.a.T) : kF env (GofL []) (LofL [(13, [])]) 13 (gF13.args x) (gF13.bs x) gF13.r.dec = gF13.F x := by kernel_rfl
theorem sF13 : SpecAt env 1 13 gF13 := mkSpec (r := 0) (gl := []) (L0 := []) (by kernel_rfl) trivial trivial eF13 (fun h => absurd h (by rw [show env.nl 13 = false by kernel_rfl]; decide))
def B12_0 (a0 : (List (Int × (Int × ((Int × Int) × (Int × ByteArray)))))) (a1 : Int) (a2 : Int) (a3 : Int) (a4 : Int) (a5 : (List (Int × ByteArray))) (a6 : Int) (a7 : (List (Int × (Bool × (Bool × (Int × (Int × (ByteArray × (Int × Int))))))))) (a8 : (List Int)) (a9 : Int) (a10 : Int) (a11 : Int) (a12 : (List ByteArray)) (a13 : (List (Int × (Int × ((Int × Int) × (Int × ByteArray)))))) (a14 : Int) (a15 : Int) : Option (((List (Int × (Int × ((Int × Int) × (Int × ByteArray))))) × ((Int × (Int × (Int × Int))) × (((List (Int × ByteArray)) × (Int × ((List (Int × (Bool × (Bool × (Int × (Int × (ByteArray × (Int × Int)))))))) × ((List Int) × (Int × (Int × Int)))))) × ((List ByteArray) × ((List (Int × (Int × ((Int × Int) × (Int × ByteArray))))) × (Int × Int)))))) ⊕ (((List (Int × (Int × ((Int × Int) × (Int × ByteArray))))) × ((Int × (Int × (Int × Int))) × (((List (Int × ByteArray)) × (Int × ((List (Int × (Bool × (Bool × (Int × (Int × (ByteArray × (Int × Int)))))))) × ((List Int) × (Int × (Int × Int)))))) × (List ByteArray)))) ⊕ ((Int × (Int × (Int × Int))) × (Int × Int)))) :=
  sel (iLt a15 a14)
    (sel (oIn a15 (lLen a13)) (
    bndS (F21 ((a5, a6), (a7, (a8, (a9, (a10, a11))))) (lAt a13 a15)) fun y0 =>
    sel (bNot (iEq y0.2.2 0))
      (some (.inr (.inr ((0, (0, (0, 0))), (a15, y0.2.2)))))
      (sel (lCap 16 (lApp a12 [y0.2.1])) (
      some (.inl (a0, ((a1, (a2, (a3, a4))), (y0.1, ((lApp a12 [y0.2.1]), (a13, (a14, (iAdd .i64 a15 1))))))))) none)) none)
    (some (.inr (.inl (a0, ((a1, (a2, (a3, a4))), ((a5, (a6, (a7, (a8, (a9, (a10, a11)))))), a12))))))
def L12_0 (x : ((List (Int × (Int × ((Int × Int) × (Int × ByteArray))))) × ((Int × (Int × (Int × Int))) × (((List (Int × ByteArray)) × (Int × ((List (Int × (Bool × (Bool × (Int × (Int × (ByteArray × (Int × Int)))))))) × ((List Int) × (Int × (Int × Int)))))) × ((List ByteArray) × ((List (Int × (Int × ((Int × Int) × (Int × ByteArray))))) × (Int × Int))))))) : Option (((List (Int × (Int × ((Int × Int) × (Int × ByteArray))))) × ((Int × (Int × (Int × Int))) × (((List (Int × ByteArray)) × (Int × ((List (Int × (Bool × (Bool × (Int × (Int × (ByteArray × (Int × Int)))))))) × ((List Int) × (Int × (Int × Int)))))) × (List ByteArray)))) ⊕ ((Int × (Int × (Int × Int))) × (Int × Int))) := iter (fun (x : ((List (Int × (Int × ((Int × Int) × (Int × ByteArray))))) × ((Int × (Int × (Int × Int))) × (((List (Int × ByteArray)) × (Int × ((List (Int × (Bool × (Bool × (Int × (Int × (ByteArray × (Int × Int)))))))) × ((List Int) × (Int × (Int × Int)))))) × ((List ByteArray) × ((List (Int × (Int × ((Int × Int) × (Int × ByteArray))))) × (Int × Int))))))) => (B12_0 x.1 x.2.1.1 x.2.1.2.1 x.2.1.2.2.1 x.2.1.2.2.2 x.2.2.1.1 x.2.2.1.2.1 x.2.2.1.2.2.1 x.2.2.1.2.2.2.1 x.2.2.1.2.2.2.2.1 x.2.2.1.2.2.2.2.2.1 x.2.2.1.2.2.2.2.2.2 x.2.2.2.1 x.2.2.2.2.1 x.2.2.2.2.2.1 x.2.2.2.2.2.2)) fuel x
def lsL12_0 : LS := ⟨(.one .normal ⟨.non, [1, 4, 9, 10, 28, 29, 30], (.seq (.dat (.sl (.pr (.int .i64) (.pr (.int .i64) (.pr (.pr (.int .i64) (.int .i64)) (.pr (.int .i64) .str)))))) (.seq (.box 0 (.seq (.lit (.slice none 0 0)) (.seq (.dat (.int .i64)) (.seq (.lit (.slice none 0 0)) (.seq (.lit (.slice none 0 0)) (.seq (.dat (.int .i64)) (.seq (.dat (.int .i64)) (.dat (.int .i64))))))))) (.seq (.box 1 (.seq (.own 2 (.pr (.int .i64) .str)) (.seq (.dat (.int .i64)) (.seq (.own 3 (.pr (.int .i64) (.pr .bool (.pr .bool (.pr (.int .i64) (.pr (.int .i64) (.pr .str (.pr (.int .i64) (.int .i64))))))))) (.seq (.own 4 (.int .i64)) (.seq (.dat (.int .i64)) (.seq (.dat (.int .i64)) (.dat (.int .i64))))))))) (.seq (.own 5 .str) (.seq (.dat (.sl (.pr (.int .i64) (.pr (.int .i64) (.pr (.pr (.int .i64) (.int .i64)) (.pr (.int .i64) .str)))))) (.seq (.dat (.int .i64)) (.dat (.int .i64)))))))), 6, 57, 0⟩), (.two (.one (.exit 0) ⟨.non, [1, 4, 9, 10], (.seq (.dat (.sl (.pr (.int .i64) (.pr (.int .i64) (.pr (.pr (.int .i64) (.int .i64)) (.pr (.int .i64) .str)))))) (.seq (.box 0 (.seq (.lit (.slice none 0 0)) (.seq (.dat (.int .i64)) (.seq (.lit (.slice none 0 0)) (.seq (.lit (.slice none 0 0)) (.seq (.dat (.int .i64)) (.seq (.dat (.int .i64)) (.dat (.int .i64))))))))) (.seq (.box 1 (.seq (.own 2 (.pr (.int .i64) .str)) (.seq (.dat (.int .i64)) (.seq (.own 3 (.pr (.int .i64) (.pr .bool (.pr .bool (.pr (.int .i64) (.pr (.int .i64) (.pr .str (.pr (.int .i64) (.int .i64))))))))) (.seq (.own 4 (.int .i64)) (.seq (.dat (.int .i64)) (.seq (.dat (.int .i64)) (.dat (.int .i64))))))))) (.own 5 .str)))), 6, 57, 0⟩) (.one .ret ⟨.non, [4, 5, 6, 7], (.seq (.box 0 (.seq (.lit (.slice none 0 0)) (.seq (.dat (.int .i64)) (.seq (.lit (.slice none 0 0)) (.seq (.lit (.slice none 0 0)) (.seq (.dat (.int .i64)) (.seq (.dat (.int .i64)) (.dat (.int .i64))))))))) (.seq (.lit (.slice none 0 0)) (.seq (.dat (.int .i64)) (.dat (.int .i64))))), 1, 57, 0⟩)), fun (x : ((List (Int × (Int × ((Int × Int) × (Int × ByteArray))))) × ((Int × (Int × (Int × Int))) × (((List (Int × ByteArray)) × (Int × ((List (Int × (Bool × (Bool × (Int × (Int × (ByteArray × (Int × Int)))))))) × ((List Int) × (Int × (Int × Int)))))) × ((List ByteArray) × ((List (Int × (Int × ((Int × Int) × (Int × ByteArray))))) × (Int × Int))))))) => (B12_0 x.1 x.2.1.1 x.2.1.2.1 x.2.1.2.2.1 x.2.1.2.2.2 x.2.2.1.1 x.2.2.1.2.1 x.2.2.1.2.2.1 x.2.2.1.2.2.2.1 x.2.2.1.2.2.2.2.1 x.2.2.1.2.2.2.2.2.1 x.2.2.1.2.2.2.2.2.2 x.2.2.2.1 x.2.2.2.2.1 x.2.2.2.2.2.1 x.2.2.2.2.2.2)⟩
/-- paging.Run -/
def F12 (a0 : (((List (Int × ByteArray)) × Int) × ((List (Int × (Bool × (Bool × (Int × (Int × (ByteArray × (Int × Int)))))))) × ((List Int) × (Int × (Int × Int)))))) (a1 : (List (Int × (Int × ((Int × Int) × (Int × ByteArray)))))) : Option (((List (Int × ByteArray)) × (Int × ((List (Int × (Bool × (Bool × (Int × (Int × (ByteArray × (Int × Int)))))))) × ((List Int) × (Int × (Int × Int)))))) × ((List ByteArray) × (Int × Int))) :=
  bndS (F20 a0) fun y0 =>
  sel (bNot (iEq y0 0))
    (some ((([] : List (Int × ByteArray)), (0, (([] : List (Int × (Bool × (Bool × (Int × (Int × (ByteArray × (Int × Int)))))))), (([] : List Int), (0, (0, 0)))))), (([] : List ByteArray), (0, y0))))
    (sel (iLt 40 (lLen a1))
      (some ((([] : List (Int × ByteArray)), (0, (([] : List (Int × (Bool × (Bool × (Int × (Int × (ByteArray × (Int × Int)))))))), (([] : List Int), (0, (0, 0)))))), (([] : List ByteArray), (0, 2))))
      (bndS (F30 a0) fun y1 =>
      bndS (L12_0 (a1, ((0, (0, (0, 0))), (y1, (([] : List ByteArray), (a1, ((lLen a1), 0))))))) fun y2 =>
      sumS y2 (fun y2a =>
        some (y2a.2.2.1, (y2a.2.2.2, ((lLen y2a.1), 0)))) fun y2b =>
        some ((([] : List (Int × ByteArray)), (y2b.1.1, (([] : List (Int × (Bool × (Bool × (Int × (Int × (ByteArray × (Int × Int)))))))), (([] : List Int), y2b.1.2)))), (([] : List ByteArray), y2b.2))))
def gF12 : FS := ⟨(.seq (.agg (.dat (.pr (.pr (.sl (.pr (.int .i64) .str)) (.int .i64)) (.pr (.sl (.pr (.int .i64) (.pr .bool (.pr .bool (.pr (.int .i64) (.pr (.int .i64) (.pr .str (.pr (.int .i64) (.int .i64))))))))) (.pr (.sl (.int .i64)) (.pr (.int .i64) (.pr (.int .i64) (.int .i64)))))))) (.dat (.sl (.pr (.int .i64) (.pr (.int .i64) (.pr (.pr (.int .i64) (.int .i64)) (.pr (.int .i64) .str))))))), 0, (.one ⟨.non, (.tup (.seq (.agg (.seq (.own 0 (.pr (.int .i64) .str)) (.seq (.dat (.int .i64)) (.seq (.own 1 (.pr (.int .i64) (.pr .bool (.pr .bool (.pr (.int .i64) (.pr (.int .i64) (.pr .str (.pr (.int .i64) (.int .i64))))))))) (.seq (.own 2 (.int .i64)) (.seq (.dat (.int .i64)) (.seq (.dat (.int .i64)) (.dat (.int .i64))))))))) (.seq (.own 3 .str) (.seq (.dat (.int .i64)) (.dat (.int .i64)))))), 0, 4⟩), fun x => (F12 x.1 x.2)⟩
theorem rL12_0 (x : lsL12_0.hd.T) : kRound env (GofL [(21, [gF21]), (30, [gF30]), (20, [gF20])]) (LofL [(12, [(0, lsL12_0)])]) 12 0 (lpOf Tryz.prog 12 0).2 (lsL12_0.hd.st x) lsL12_0.rd = lsL12_0.B x := by kernel_rfl
theorem eF12 (x : gF12.a.T) : kF env (GofL [(21, [gF21]), (30, [gF30]), (20, [gF20])]) (LofL [(12, [(0, lsL12_0)])]) 12 (gF12.args x) (gF12.bs x) gF12.r.dec = gF12.F x := by kernel_rfl
theorem sF12 : SpecAt env 9 12 gF12 := mkSpec (r := 8) (gl := [(21, [gF21]), (30, [gF30]), (20, [gF20])]) (L0 := [(0, lsL12_0)]) (by kernel_rfl) ⟨⟨sF21.up (by decide), trivial⟩, ⟨sF30.up (by decide), trivial⟩, ⟨sF20.up (by decide), trivial⟩, trivial⟩ ⟨⟨0, by kernel_rfl, by kernel_rfl, rL12_0⟩, trivial⟩ eF12 (fun h => absurd h (by rw [show env.nl 12 = false by kernel_rfl]; decide))
def B14_0h0 (a0 : (List (Int × (Int × ((Int × Int) × (Int × ByteArray)))))) (a1 : Int) (a2 : Int) (a3 : Int) (a4 : Int) (a5 : Int) (a6 : Int) (a7 : (List (Int × ByteArray))) (a8 : Int) (a9 : (List (Int × (Bool × (Bool × (Int × (Int × (ByteArray × (Int × Int))))))))) (a10 : (List Int)) (a11 : Int) (a12 : Int) (a13 : Int) (a14 : Int) (a15 : Int) (a16 : Int) : Option ((((List (Int × (Int × ((Int × Int) × (Int × ByteArray))))) × ((Int × (Int × (Int × (Int × (Int × Int))))) × (((List (Int × ByteArray)) × (Int × ((List (Int × (Bool × (Bool × (Int × (Int × (ByteArray × (Int × Int)))))))) × ((List Int) × (Int × (Int × (Int × (Int × Int)))))))) × Int))) ⊕ ((List (Int × (Int × ((Int × Int) × (Int × ByteArray))))) × ((Int × (Int × (Int × (Int × (Int × Int))))) × (((List (Int × ByteArray)) × (Int × ((List (Int × (Bool × (Bool × (Int × (Int × (ByteArray × (Int × Int)))))))) × ((List Int) × (Int × (Int × (Int × ((List ByteArray) × (Int × Int))))))))) × Int)))) ⊕ (((List (Int × (Int × ((Int × Int) × (Int × ByteArray))))) × ((Int × (Int × (Int × (Int × (Int × Int))))) × ((List (Int × ByteArray)) × (Int × ((List (Int × (Bool × (Bool × (Int × (Int × (ByteArray × (Int × Int)))))))) × ((List Int) × (Int × (Int × (Int × (Int × Int)))))))))) ⊕ ((Int × (Int × (Int × (Int × (Int × Int))))) ⊕ ((List (Int × (Int × ((Int × Int) × (Int × ByteArray))))) × ((Int × (Int × (Int × (Int × (Int × Int))))) × ((List (Int × ByteArray)) × (Int × ((List (Int × (Bool × (Bool × (Int × (Int × (ByteArray × (Int × Int)))))))) × ((List Int) × (Int × (Int × (Int × ((List ByteArray) × (Int × Int)))))))))))))) :=
  sel (iLt a16 (lLen a0))
    (sel (oIn a16 (lLen a0)) (
    bndS (F9 ((a7, a8), (a9, (a10, (a11, (a12, a13))))) (lAt a0 a16)) fun y0 =>
    sel (bNot (iEq y0.2.2.2.2.2.2.2.2 0))
      (some (.inr (.inr (.inl (0, (0, (0, (0, (a16, y0.2.2.2.2.2.2.2.2)))))))))
      (sel (lCap 16 [y0.2.2.2.2.2.2.2.1]) (
      some (.inl (.inr (a0, ((a1, (a2, (a3, (a4, (a5, a6))))), ((y0.1, (y0.2.1, (y0.2.2.1, (y0.2.2.2.1, (y0.2.2.2.2.1, (y0.2.2.2.2.2.1, (y0.2.2.2.2.2.2.1, ([y0.2.2.2.2.2.2.2.1], (a14, a15))))))))), (iAdd .i64 a16 1))))))) none)) none)
    (some (.inr (.inl (a0, ((a1, (a2, (a3, (a4, (a5, a6))))), (a7, (a8, (a9, (a10, (a11, (a12, (a13, (a14, a15)))))))))))))
def B14_0h1 (a0 : (List (Int × (Int × ((Int × Int) × (Int × ByteArray)))))) (a1 : Int) (a2 : Int) (a3 : Int) (a4 : Int) (a5 : Int) (a6 : Int) (a7 : (List (Int × ByteArray))) (a8 : Int) (a9 : (List (Int × (Bool × (Bool × (Int × (Int × (ByteArray × (Int × Int))))))))) (a10 : (List Int)) (a11 : Int) (a12 : Int) (a13 : Int) (a14 : (List ByteArray)) (a15 : Int) (a16 : Int) (a17 : Int) : Option ((((List (Int × (Int × ((Int × Int) × (Int × ByteArray))))) × ((Int × (Int × (Int × (Int × (Int × Int))))) × (((List (Int × ByteArray)) × (Int × ((List (Int × (Bool × (Bool × (Int × (Int × (ByteArray × (Int × Int)))))))) × ((List Int) × (Int × (Int × (Int × (Int × Int)))))))) × Int))) ⊕ ((List (Int × (Int × ((Int × Int) × (Int × ByteArray))))) × ((Int × (Int × (Int × (Int × (Int × Int))))) × (((List (Int × ByteArray)) × (Int × ((List (Int × (Bool × (Bool × (Int × (Int × (ByteArray × (Int × Int)))))))) × ((List Int) × (Int × (Int × (Int × ((List ByteArray) × (Int × Int))))))))) × Int)))) ⊕ (((List (Int × (Int × ((Int × Int) × (Int × ByteArray))))) × ((Int × (Int × (Int × (Int × (Int × Int))))) × ((List (Int × ByteArray)) × (Int × ((List (Int × (Bool × (Bool × (Int × (Int × (ByteArray × (Int × Int)))))))) × ((List Int) × (Int × (Int × (Int × (Int × Int)))))))))) ⊕ ((Int × (Int × (Int × (Int × (Int × Int))))) ⊕ ((List (Int × (Int × ((Int × Int) × (Int × ByteArray))))) × ((Int × (Int × (Int × (Int × (Int × Int))))) × ((List (Int × ByteArray)) × (Int × ((List (Int × (Bool × (Bool × (Int × (Int × (ByteArray × (Int × Int)))))))) × ((List Int) × (Int × (Int × (Int × ((List ByteArray) × (Int × Int)))))))))))))) :=
  sel (iLt a17 (lLen a0))
    (sel (oIn a17 (lLen a0)) (
    bndS (F9 ((a7, a8), (a9, (a10, (a11, (a12, a13))))) (lAt a0 a17)) fun y0 =>
    sel (bNot (iEq y0.2.2.2.2.2.2.2.2 0))
      (some (.inr (.inr (.inl (0, (0, (0, (0, (a17, y0.2.2.2.2.2.2.2.2)))))))))
      (sel (lCap 16 (lApp a14 [y0.2.2.2.2.2.2.2.1])) (
      some (.inl (.inr (a0, ((a1, (a2, (a3, (a4, (a5, a6))))), ((y0.1, (y0.2.1, (y0.2.2.1, (y0.2.2.2.1, (y0.2.2.2.2.1, (y0.2.2.2.2.2.1, (y0.2.2.2.2.2.2.1, ((lApp a14 [y0.2.2.2.2.2.2.2.1]), (a15, a16))))))))), (iAdd .i64 a17 1))))))) none)) none)
    (some (.inr (.inr (.inr (a0, ((a1, (a2, (a3, (a4, (a5, a6))))), (a7, (a8, (a9, (a10, (a11, (a12, (a13, (a14, (a15, a16)))))))))))))))
def L14_0 (x : (((List (Int × (Int × ((Int × Int) × (Int × ByteArray))))) × ((Int × (Int × (Int × (Int × (Int × Int))))) × (((List (Int × ByteArray)) × (Int × ((List (Int × (Bool × (Bool × (Int × (Int × (ByteArray × (Int × Int)))))))) × ((List Int) × (Int × (Int × (Int × (Int × Int)))))))) × Int))) ⊕ ((List (Int × (Int × ((Int × Int) × (Int × ByteArray))))) × ((Int × (Int × (Int × (Int × (Int × Int))))) × (((List (Int × ByteArray)) × (Int × ((List (Int × (Bool × (Bool × (Int × (Int × (ByteArray × (Int × Int)))))))) × ((List Int) × (Int × (Int × (Int × ((List ByteArray) × (Int × Int))))))))) × Int))))) : Option (((List (Int × (Int × ((Int × Int) × (Int × ByteArray))))) × ((Int × (Int × (Int × (Int × (Int × Int))))) × ((List (Int × ByteArray)) × (Int × ((List (Int × (Bool × (Bool × (Int × (Int × (ByteArray × (Int × Int)))))))) × ((List Int) × (Int × (Int × (Int × (Int × Int)))))))))) ⊕ ((Int × (Int × (Int × (Int × (Int × Int))))) ⊕ ((List (Int × (Int × ((Int × Int) × (Int × ByteArray))))) × ((Int × (Int × (Int × (Int × (Int × Int))))) × ((List (Int × ByteArray)) × (Int × ((List (Int × (Bool × (Bool × (Int × (Int × (ByteArray × (Int × Int)))))))) × ((List Int) × (Int × (Int × (Int × ((List ByteArray) × (Int × Int))))))))))))) := iter (fun (x : (((List (Int × (Int × ((Int × Int) × (Int × ByteArray))))) × ((Int × (Int × (Int × (Int × (Int × Int))))) × (((List (Int × ByteArray)) × (Int × ((List (Int × (Bool × (Bool × (Int × (Int × (ByteArray × (Int × Int)))))))) × ((List Int) × (Int × (Int × (Int × (Int × Int)))))))) × Int))) ⊕ ((List (Int × (Int × ((Int × Int) × (Int × ByteArray))))) × ((Int × (Int × (Int × (Int × (Int × Int))))) × (((List (Int × ByteArray)) × (Int × ((List (Int × (Bool × (Bool × (Int × (Int × (ByteArray × (Int × Int)))))))) × ((List Int) × (Int × (Int × (Int × ((List ByteArray) × (Int × Int))))))))) × Int))))) => (sumS x (fun x => (B14_0h0 x.1 x.2.1.1 x.2.1.2.1 x.2.1.2.2.1 x.2.1.2.2.2.1 x.2.1.2.2.2.2.1 x.2.1.2.2.2.2.2 x.2.2.1.1 x.2.2.1.2.1 x.2.2.1.2.2.1 x.2.2.1.2.2.2.1 x.2.2.1.2.2.2.2.1 x.2.2.1.2.2.2.2.2.1 x.2.2.1.2.2.2.2.2.2.1 x.2.2.1.2.2.2.2.2.2.2.1 x.2.2.1.2.2.2.2.2.2.2.2 x.2.2.2)) fun x => (B14_0h1 x.1 x.2.1.1 x.2.1.2.1 x.2.1.2.2.1 x.2.1.2.2.2.1 x.2.1.2.2.2.2.1 x.2.1.2.2.2.2.2 x.2.2.1.1 x.2.2.1.2.1 x.2.2.1.2.2.1 x.2.2.1.2.2.2.1 x.2.2.1.2.2.2.2.1 x.2.2.1.2.2.2.2.2.1 x.2.2.1.2.2.2.2.2.2.1 x.2.2.1.2.2.2.2.2.2.2.1 x.2.2.1.2.2.2.2.2.2.2.2.1 x.2.2.1.2.2.2.2.2.2.2.2.2 x.2.2.2))) fuel x
def lsL14_0 : LS := ⟨(.two (.one .normal ⟨.non, [1, 4, 6, 7], (.seq (.dat (.sl (.pr (.int .i64) (.pr (.int .i64) (.pr (.pr (.int .i64) (.int .i64)) (.pr (.int .i64) .str)))))) (.seq (.box 0 (.seq (.lit (.slice none 0 0)) (.seq (.dat (.int .i64)) (.seq (.lit (.slice none 0 0)) (.seq (.lit (.slice none 0 0)) (.seq (.dat (.int .i64)) (.seq (.dat (.int .i64)) (.seq (.dat (.int .i64)) (.seq (.lit (.slice none 0 0)) (.seq (.dat (.int .i64)) (.dat (.int .i64)))))))))))) (.seq (.box 1 (.seq (.own 2 (.pr (.int .i64) .str)) (.seq (.dat (.int .i64)) (.seq (.own 3 (.pr (.int .i64) (.pr .bool (.pr .bool (.pr (.int .i64) (.pr (.int .i64) (.pr .str (.pr (.int .i64) (.int .i64))))))))) (.seq (.own 4 (.int .i64)) (.seq (.dat (.int .i64)) (.seq (.dat (.int .i64)) (.seq (.dat (.int .i64)) (.seq (.lit (.slice none 0 0)) (.seq (.dat (.int .i64)) (.dat (.int .i64)))))))))))) (.dat (.int .i64))))), 5, 56, 0⟩) (.one .normal ⟨.non, [1, 4, 6, 7], (.seq (.dat (.sl (.pr (.int .i64) (.pr (.int .i64) (.pr (.pr (.int .i64) (.int .i64)) (.pr (.int .i64) .str)))))) (.seq (.box 0 (.seq (.lit (.slice none 0 0)) (.seq (.dat (.int .i64)) (.seq (.lit (.slice none 0 0)) (.seq (.lit (.slice none 0 0)) (.seq (.dat (.int .i64)) (.seq (.dat (.int .i64)) (.seq (.dat (.int .i64)) (.seq (.lit (.slice none 0 0)) (.seq (.dat (.int .i64)) (.dat (.int .i64)))))))))))) (.seq (.box 1 (.seq (.own 2 (.pr (.int .i64) .str)) (.seq (.dat (.int .i64)) (.seq (.own 3 (.pr (.int .i64) (.pr .bool (.pr .bool (.pr (.int .i64) (.pr (.int .i64) (.pr .str (.pr (.int .i64) (.int .i64))))))))) (.seq (.own 4 (.int .i64)) (.seq (.dat (.int .i64)) (.seq (.dat (.int .i64)) (.seq (.dat (.int .i64)) (.seq (.own 5 .str) (.seq (.dat (.int .i64)) (.dat (.int .i64)))))))))))) (.dat (.int .i64))))), 6, 56, 0⟩)), (.two (.one (.exit 0) ⟨.non, [1, 4, 6], (.seq (.dat (.sl (.pr (.int .i64) (.pr (.int .i64) (.pr (.pr (.int .i64) (.int .i64)) (.pr (.int .i64) .str)))))) (.seq (.box 0 (.seq (.lit (.slice none 0 0)) (.seq (.dat (.int .i64)) (.seq (.lit (.slice none 0 0)) (.seq (.lit (.slice none 0 0)) (.seq (.dat (.int .i64)) (.seq (.dat (.int .i64)) (.seq (.dat (.int .i64)) (.seq (.lit (.slice none 0 0)) (.seq (.dat (.int .i64)) (.dat (.int .i64)))))))))))) (.box 1 (.seq (.own 2 (.pr (.int .i64) .str)) (.seq (.dat (.int .i64)) (.seq (.own 3 (.pr (.int .i64) (.pr .bool (.pr .bool (.pr (.int .i64) (.pr (.int .i64) (.pr .str (.pr (.int .i64) (.int .i64))))))))) (.seq (.own 4 (.int .i64)) (.seq (.dat (.int .i64)) (.seq (.dat (.int .i64)) (.seq (.dat (.int .i64)) (.seq (.lit (.slice none 0 0)) (.seq (.dat (.int .i64)) (.dat (.int .i64)))))))))))))), 5, 56, 0⟩) (.two (.one .ret ⟨.non, [4], (.box 0 (.seq (.lit (.slice none 0 0)) (.seq (.dat (.int .i64)) (.seq (.lit (.slice none 0 0)) (.seq (.lit (.slice none 0 0)) (.seq (.dat (.int .i64)) (.seq (.dat (.int .i64)) (.seq (.dat (.int .i64)) (.seq (.lit (.slice none 0 0)) (.seq (.dat (.int .i64)) (.dat (.int .i64)))))))))))), 1, 56, 0⟩) (.one (.exit 0) ⟨.non, [1, 4, 6], (.seq (.dat (.sl (.pr (.int .i64) (.pr (.int .i64) (.pr (.pr (.int .i64) (.int .i64)) (.pr (.int .i64) .str)))))) (.seq (.box 0 (.seq (.lit (.slice none 0 0)) (.seq (.dat (.int .i64)) (.seq (.lit (.slice none 0 0)) (.seq (.lit (.slice none 0 0)) (.seq (.dat (.int .i64)) (.seq (.dat (.int .i64)) (.seq (.dat (.int .i64)) (.seq (.lit (.slice none 0 0)) (.seq (.dat (.int .i64)) (.dat (.int .i64)))))))))))) (.box 1 (.seq (.own 2 (.pr (.int .i64) .str)) (.seq (.dat (.int .i64)) (.seq (.own 3 (.pr (.int .i64) (.pr .bool (.pr .bool (.pr (.int .i64) (.pr (.int .i64) (.pr .str (.pr (.int .i64) (.int .i64))))))))) (.seq (.own 4 (.int .i64)) (.seq (.dat (.int .i64)) (.seq (.dat (.int .i64)) (.seq (.dat (.int .i64)) (.seq (.own 5 .str) (.seq (.dat (.int .i64)) (.dat (.int .i64)))))))))))))), 6, 56, 0⟩))), fun (x : (((List (Int × (Int × ((Int × Int) × (Int × ByteArray))))) × ((Int × (Int × (Int × (Int × (Int × Int))))) × (((List (Int × ByteArray)) × (Int × ((List (Int × (Bool × (Bool × (Int × (Int × (ByteArray × (Int × Int)))))))) × ((List Int) × (Int × (Int × (Int × (Int × Int)))))))) × Int))) ⊕ ((List (Int × (Int × ((Int × Int) × (Int × ByteArray))))) × ((Int × (Int × (Int × (Int × (Int × Int))))) × (((List (Int × ByteArray)) × (Int × ((List (Int × (Bool × (Bool × (Int × (Int × (ByteArray × (Int × Int)))))))) × ((List Int) × (Int × (Int × (Int × ((List ByteArray) × (Int × Int))))))))) × Int))))) => (sumS x (fun x => (B14_0h0 x.1 x.2.1.1 x.2.1.2.1 x.2.1.2.2.1 x.2.1.2.2.2.1 x.2.1.2.2.2.2.1 x.2.1.2.2.2.2.2 x.2.2.1.1 x.2.2.1.2.1 x.2.2.1.2.2.1 x.2.2.1.2.2.2.1 x.2.2.1.2.2.2.2.1 x.2.2.1.2.2.2.2.2.1 x.2.2.1.2.2.2.2.2.2.1 x.2.2.1.2.2.2.2.2.2.2.1 x.2.2.1.2.2.2.2.2.2.2.2 x.2.2.2)) fun x => (B14_0h1 x.1 x.2.1.1 x.2.1.2.1 x.2.1.2.2.1 x.2.1.2.2.2.1 x.2.1.2.2.2.2.1 x.2.1.2.2.2.2.2 x.2.2.1.1 x.2.2.1.2.1 x.2.2.1.2.2.1 x.2.2.1.2.2.2.1 x.2.2.1.2.2.2.2.1 x.2.2.1.2.2.2.2.2.1 x.2.2.1.2.2.2.2.2.2.1 x.2.2.1.2.2.2.2.2.2.2.1 x.2.2.1.2.2.2.2.2.2.2.2.1 x.2.2.1.2.2.2.2.2.2.2.2.2 x.2.2.2))⟩
/-- midrangeref05.Run -/
def F14 (a0 : (((List (Int × ByteArray)) × Int) × ((List (Int × (Bool × (Bool × (Int × (Int × (ByteArray × (Int × Int)))))))) × ((List Int) × (Int × (Int × Int)))))) (a1 : (List (Int × (Int × ((Int × Int) × (Int × ByteArray)))))) : Option ((List (Int × ByteArray)) × (Int × ((List (Int × (Bool × (Bool × (Int × (Int × (ByteArray × (Int × Int)))))))) × ((List Int) × (Int × (Int × (Int × ((List ByteArray) × (Int × Int))))))))) :=
  bndS (F24 a0) fun y0 =>
  sel (bNot (iEq y0 0))
    (some (([] : List (Int × ByteArray)), (0, (([] : List (Int × (Bool × (Bool × (Int × (Int × (ByteArray × (Int × Int)))))))), (([] : List Int), (0, (0, (0, (([] : List ByteArray), (0, y0))))))))))
    (sel (iLt 40 (lLen a1))
      (some (([] : List (Int × ByteArray)), (0, (([] : List (Int × (Bool × (Bool × (Int × (Int × (ByteArray × (Int × Int)))))))), (([] : List Int), (0, (0, (0, (([] : List ByteArray), (0, 2))))))))))
      (bndS (F8 a0) fun y1 =>
      bndS (L14_0 (.inl (a1, ((0, (0, (0, (0, (0, 0))))), ((y1.1, (y1.2.1, (y1.2.2.1, (y1.2.2.2.1, (y1.2.2.2.2.1, (y1.2.2.2.2.2.1, (y1.2.2.2.2.2.2, (0, 0)))))))), 0))))) fun y2 =>
      sumS y2 (fun y2a =>
        some (y2a.2.2.1, (y2a.2.2.2.1, (y2a.2.2.2.2.1, (y2a.2.2.2.2.2.1, (y2a.2.2.2.2.2.2.1, (y2a.2.2.2.2.2.2.2.1, (y2a.2.2.2.2.2.2.2.2.1, (([] : List ByteArray), ((lLen y2a.1), y2a.2.2.2.2.2.2.2.2.2.2)))))))))) fun y2ar =>
        sumS y2ar (fun y2aa =>
        some (([] : List (Int × ByteArray)), (y2aa.1, (([] : List (Int × (Bool × (Bool × (Int × (Int × (ByteArray × (Int × Int)))))))), (([] : List Int), (y2aa.2.1, (y2aa.2.2.1, (y2aa.2.2.2.1, (([] : List ByteArray), y2aa.2.2.2.2))))))))) fun y2ab =>
        some (y2ab.2.2.1, (y2ab.2.2.2.1, (y2ab.2.2.2.2.1, (y2ab.2.2.2.2.2.1, (y2ab.2.2.2.2.2.2.1, (y2ab.2.2.2.2.2.2.2.1, (y2ab.2.2.2.2.2.2.2.2.1, (y2ab.2.2.2.2.2.2.2.2.2.1, ((lLen y2ab.1), y2ab.2.2.2.2.2.2.2.2.2.2.2)))))))))))
def gF14 : FS := ⟨(.seq (.agg (.dat (.pr (.pr (.sl (.pr (.int .i64) .str)) (.int .i64)) (.pr (.sl (.pr (.int .i64) (.pr .bool (.pr .bool (.pr (.int .i64) (.pr (.int .i64) (.pr .str (.pr (.int .i64) (.int .i64))))))))) (.pr (.sl (.int .i64)) (.pr (.int .i64) (.pr (.int .i64) (.int .i64)))))))) (.dat (.sl (.pr (.int .i64) (.pr (.int .i64) (.pr (.pr (.int .i64) (.int .i64)) (.pr (.int .i64) .str))))))), 0, (.one ⟨.non, (.agg (.seq (.own 0 (.pr (.int .i64) .str)) (.seq (.dat (.int .i64)) (.seq (.own 1 (.pr (.int .i64) (.pr .bool (.pr .bool (.pr (.int .i64) (.pr (.int .i64) (.pr .str (.pr (.int .i64) (.int .i64))))))))) (.seq (.own 2 (.int .i64)) (.seq (.dat (.int .i64)) (.seq (.dat (.int .i64)) (.seq (.dat (.int .i64)) (.seq (.own 3 .str) (.seq (.dat (.int .i64)) (.dat (.int .i64)))))))))))), 0, 4⟩), fun x => (F14 x.1 x.2)⟩
theorem rL14_0 (x : lsL14_0.hd.T) : kRound env (GofL [(9, [gF9]), (8, [gF8]), (24, [gF24])]) (LofL [(14, [(0, lsL14_0)])]) 14 0 (lpOf Tryz.prog 14 0).2 (lsL14_0.hd.st x) lsL14_0.rd = lsL14_0.B x := by rcases x with x | x <;> kernel_rfl
theorem eF14 (x : gF14.a.T) : kF env (GofL [(9, [gF9]), (8, [gF8]), (24, [gF24])]) (LofL [(14, [(0, lsL14_0)])]) 14 (gF14.args x) (gF14.bs x) gF14.r.dec = gF14.F x := by kernel_rfl
theorem sF14 : SpecAt env 9 14 gF14 := mkSpec (r := 8) (gl := [(9, [gF9]), (8, [gF8]), (24, [gF24])]) (L0 := [(0, lsL14_0)]) (by kernel_rfl) ⟨⟨sF9.up (by decide), trivial⟩, ⟨sF8.up (by decide), trivial⟩, ⟨sF24.up (by decide), trivial⟩, trivial⟩ ⟨⟨0, by kernel_rfl, by kernel_rfl, rL14_0⟩, trivial⟩ eF14 (fun h => absurd h (by rw [show env.nl 14 = false by kernel_rfl]; decide))
end
end Go.Proofs.YtagcodkkkebnhaaGreat.K
end

section
set_option linter.unusedVariables false
set_option linter.unusedSimpArgs false
set_option linter.unnecessarySimpa false
open Go Go.Ev Go.Proofs
namespace Go.Proofs.YtagcodkkkebnhaaGreat.K
set_option linter.unusedVariables false
set_option maxRecDepth 100000
noncomputable section
def B15_0 (a0 : (List ByteArray)) (a1 : (List ByteArray)) (a2 : Int) : Option (((List ByteArray) × ((List ByteArray) × Int)) ⊕ (Unit ⊕ Bool)) :=
  sel (iLt a2 (lLen a0))
    (sel (oIn a2 (lLen a0)) (
    sel (oIn a2 (lLen a1)) (
    sel (bNot (sEq (lAt a0 a2) (lAt a1 a2)))
      (some (.inr (.inr false)))
      (some (.inl (a0, (a1, (iAdd .i64 a2 1)))))) none) none)
    (some (.inr (.inl ())))
def L15_0 (x : ((List ByteArray) × ((List ByteArray) × Int))) : Option (Unit ⊕ Bool) := iter (fun (x : ((List ByteArray) × ((List ByteArray) × Int))) => (B15_0 x.1 x.2.1 x.2.2)) fuel x
def lsL15_0 : LS := ⟨(.one .normal ⟨.non, [0, 1, 5], (.seq (.dat (.sl .str)) (.seq (.dat (.sl .str)) (.dat (.int .i64)))), 0, 26, 0⟩), (.two (.one (.exit 0) ⟨.non, [], .non, 0, 26, 0⟩) (.one .ret ⟨.non, [4], (.dat .bool), 0, 26, 0⟩)), fun (x : ((List ByteArray) × ((List ByteArray) × Int))) => (B15_0 x.1 x.2.1 x.2.2)⟩
/-- midrangebase.Strings -/
def F15 (a0 : (List ByteArray)) (a1 : (List ByteArray)) : Option Bool :=
  sel (bNot (iEq (lLen a0) (lLen a1)))
    (some false)
    (bndS (L15_0 (a0, (a1, 0))) fun y0 =>
    sumS y0 (fun y0a =>
      some true) fun y0b =>
      some y0b)
def gF15 : FS := ⟨(.seq (.dat (.sl .str)) (.dat (.sl .str))), 0, (.one ⟨.non, (.dat .bool), 0, 0⟩), fun x => (F15 x.1 x.2)⟩
theorem rL15_0 (x : lsL15_0.hd.T) : kRound env (GofL []) (LofL [(15, [(0, lsL15_0)])]) 15 0 (lpOf Tryz.prog 15 0).2 (lsL15_0.hd.st x) lsL15_0.rd = lsL15_0.B x := by kernel_rfl
theorem eF15 (x : gF15.a.T) : kF env (GofL []) (LofL [(15, [(0, lsL15_0)])]) 15 (gF15.args x) (gF15.bs x) gF15.r.dec = gF15.F x := by kernel_rfl
theorem sF15 : SpecAt env 1 15 gF15 := mkSpec (r := 0) (gl := []) (L0 := [(0, lsL15_0)]) (by kernel_rfl) trivial ⟨⟨0, by kernel_rfl, by kernel_rfl, rL15_0⟩, trivial⟩ eF15 (fun h => absurd h (by rw [show env.nl 15 = false by kernel_rfl]; decide))
/-- midrangelaw05.PagingRuns -/
def F4 (a0 : (((List (Int × ByteArray)) × Int) × ((List (Int × (Bool × (Bool × (Int × (Int × (ByteArray × (Int × Int)))))))) × ((List Int) × (Int × (Int × Int)))))) (a1 : (List (Int × (Int × ((Int × Int) × (Int × ByteArray)))))) : Option Bool :=
  bndS (F5) fun y0 =>
  sel (bNot y0)
    (some false)
    (bndS (F6 a0) fun y1 =>
    sel (bOr (okS (F11 a1)) (bNot (bNot (bNot y1)))) (
    letS (valS (F11 a1) false) fun y2 =>
    sel (bOr (bNot y1) (bNot y2))
      (some true)
      (bndS (F8 a0) fun y3 =>
      bndS (F13 a1) fun y4 =>
      bndS (F12 ((y3.1, y3.2.1), y3.2.2) y4) fun y5 =>
      bndS (F14 a0 a1) fun y6 =>
      sel (bOr (okS (F15 y5.2.1 y6.2.2.2.2.2.2.2.1)) (bNot (bAnd (iEq y5.2.2.2 y6.2.2.2.2.2.2.2.2.2) (iEq y5.2.2.1 y6.2.2.2.2.2.2.2.2.1)))) (
      letS (valS (F15 y5.2.1 y6.2.2.2.2.2.2.2.1) false) fun y7 =>
      sel (bOr (okS (F10 ((y5.1.1, y5.1.2.1), y5.1.2.2) ((y6.1, y6.2.1), (y6.2.2.1, (y6.2.2.2.1, (y6.2.2.2.2.1, (y6.2.2.2.2.2.1, y6.2.2.2.2.2.2.1))))))) (bNot (bAnd (bAnd (iEq y5.2.2.2 y6.2.2.2.2.2.2.2.2.2) (iEq y5.2.2.1 y6.2.2.2.2.2.2.2.2.1)) y7))) (
      letS (valS (F10 ((y5.1.1, y5.1.2.1), y5.1.2.2) ((y6.1, y6.2.1), (y6.2.2.1, (y6.2.2.2.1, (y6.2.2.2.2.1, (y6.2.2.2.2.2.1, y6.2.2.2.2.2.2.1)))))) false) fun y8 =>
      some (bAnd (bAnd (bAnd (iEq y5.2.2.2 y6.2.2.2.2.2.2.2.2.2) (iEq y5.2.2.1 y6.2.2.2.2.2.2.2.2.1)) y7) y8)) none) none)) none)
def gF4 : FS := ⟨(.seq (.agg (.dat (.pr (.pr (.sl (.pr (.int .i64) .str)) (.int .i64)) (.pr (.sl (.pr (.int .i64) (.pr .bool (.pr .bool (.pr (.int .i64) (.pr (.int .i64) (.pr .str (.pr (.int .i64) (.int .i64))))))))) (.pr (.sl (.int .i64)) (.pr (.int .i64) (.pr (.int .i64) (.int .i64)))))))) (.dat (.sl (.pr (.int .i64) (.pr (.int .i64) (.pr (.pr (.int .i64) (.int .i64)) (.pr (.int .i64) .str))))))), 0, (.one ⟨.non, (.dat .bool), 0, 0⟩), fun x => (F4 x.1 x.2)⟩
theorem eF4 (x : gF4.a.T) : kF env (GofL [(10, [gF10]), (15, [gF15]), (14, [gF14]), (12, [gF12]), (13, [gF13]), (8, [gF8]), (11, [gF11]), (6, [gF6]), (5, [gF5])]) (LofL [(4, [])]) 4 (gF4.args x) (gF4.bs x) gF4.r.dec = gF4.F x := by kernel_rfl
theorem sF4 : SpecAt env 11 4 gF4 := mkSpec (r := 10) (gl := [(10, [gF10]), (15, [gF15]), (14, [gF14]), (12, [gF12]), (13, [gF13]), (8, [gF8]), (11, [gF11]), (6, [gF6]), (5, [gF5])]) (L0 := []) (by kernel_rfl) ⟨⟨sF10.up (by decide), trivial⟩, ⟨sF15.up (by decide), trivial⟩, ⟨sF14.up (by decide), trivial⟩, ⟨sF12.up (by decide), trivial⟩, ⟨sF13.up (by decide), trivial⟩, ⟨sF8.up (by decide), trivial⟩, ⟨sF11.up (by decide), trivial⟩, ⟨sF6.up (by decide), trivial⟩, ⟨sF5.up (by decide), trivial⟩, trivial⟩ trivial eF4 (fun h => absurd h (by rw [show env.nl 4 = false by kernel_rfl]; decide))
end
end Go.Proofs.YtagcodkkkebnhaaGreat.K
end
