/- A part of the proof: texts of the author, joined. -/
import Derived.Test.YtagcodkkkebnhaaKS1
section
set_option linter.unusedVariables false
set_option linter.unusedSimpArgs false
set_option linter.unnecessarySimpa false
open Go Go.Ev Go.Proofs
namespace Go.Proofs.Ytagcodkkkebnhaa.K
set_option linter.unusedVariables false
set_option maxRecDepth 100000
noncomputable section
/-- midrangeref04.Own -/
def F18 (a0 : ((List (Int × ByteArray)) × Int)) : Option ((List (Int × ByteArray)) × Int) :=
  sel (lCap 24 a0.1) (
  some a0) none
def gF18 : FS := ⟨(.agg (.dat (.pr (.sl (.pr (.int .i64) .str)) (.int .i64)))), 0, (.one ⟨.non, (.agg (.seq (.own 0 (.pr (.int .i64) .str)) (.dat (.int .i64)))), 0, 1⟩), fun x => (F18 x)⟩
theorem eF18 (x : gF18.a.T) : kF env (GofL []) (LofL [(18, [])]) 18 (gF18.args x) (gF18.bs x) gF18.r.dec = gF18.F x := by kernel_rfl
theorem sF18 : SpecAt env 1 18 gF18 := mkSpec (r := 0) (gl := []) (L0 := []) (by kernel_rfl) trivial trivial eF18 (fun h => absurd h (by rw [show env.nl 18 = false by kernel_rfl]; decide))
/-- midrangebase.CopyInts -/
def F19 (a0 : (List Int)) : Option (List Int) :=
  sel (lCap 8 a0) (
  some a0) none
def gF19 : FS := ⟨(.dat (.sl (.int .i64))), 0, (.one ⟨.non, (.own 0 (.int .i64)), 0, 1⟩), fun x => (F19 x)⟩
theorem eF19 (x : gF19.a.T) : kF env (GofL []) (LofL [(19, [])]) 19 (gF19.args x) (gF19.bs x) gF19.r.dec = gF19.F x := by kernel_rfl
theorem sF19 : SpecAt env 1 19 gF19 := mkSpec (r := 0) (gl := []) (L0 := []) (by kernel_rfl) trivial trivial eF19 (fun h => absurd h (by rw [show env.nl 19 = false by kernel_rfl]; decide))
/-- midrangeref05.Own -/
def F14 (a0 : (((List (Int × ByteArray)) × Int) × ((List (Int × (Bool × (Bool × (Int × (Int × (ByteArray × (Int × Int)))))))) × ((List Int) × (Int × (Int × Int)))))) : Option ((List (Int × ByteArray)) × (Int × ((List (Int × (Bool × (Bool × (Int × (Int × (ByteArray × (Int × Int)))))))) × ((List Int) × (Int × (Int × Int)))))) :=
  bndS (F18 a0.1) fun y0 =>
  sel (lCap 64 a0.2.1) (
  bndS (F19 a0.2.2.1) fun y1 =>
  some (y0.1, (y0.2, (a0.2.1, (y1, a0.2.2.2))))) none
def gF14 : FS := ⟨(.agg (.dat (.pr (.pr (.sl (.pr (.int .i64) .str)) (.int .i64)) (.pr (.sl (.pr (.int .i64) (.pr .bool (.pr .bool (.pr (.int .i64) (.pr (.int .i64) (.pr .str (.pr (.int .i64) (.int .i64))))))))) (.pr (.sl (.int .i64)) (.pr (.int .i64) (.pr (.int .i64) (.int .i64)))))))), 0, (.one ⟨.non, (.agg (.seq (.own 0 (.pr (.int .i64) .str)) (.seq (.dat (.int .i64)) (.seq (.own 1 (.pr (.int .i64) (.pr .bool (.pr .bool (.pr (.int .i64) (.pr (.int .i64) (.pr .str (.pr (.int .i64) (.int .i64))))))))) (.seq (.own 2 (.int .i64)) (.seq (.dat (.int .i64)) (.seq (.dat (.int .i64)) (.dat (.int .i64))))))))), 0, 3⟩), fun x => (F14 x)⟩
theorem eF14 (x : gF14.a.T) : kF env (GofL [(19, [gF19]), (18, [gF18])]) (LofL [(14, [])]) 14 (gF14.args x) (gF14.bs x) gF14.r.dec = gF14.F x := by kernel_rfl
theorem sF14 : SpecAt env 2 14 gF14 := mkSpec (r := 1) (gl := [(19, [gF19]), (18, [gF18])]) (L0 := []) (by kernel_rfl) ⟨⟨sF19.up (by decide), trivial⟩, ⟨sF18.up (by decide), trivial⟩, trivial⟩ trivial eF14 (fun h => absurd h (by rw [show env.nl 14 = false by kernel_rfl]; decide))
/-- midrangebase.Within -/
def F24 (a0 : Int) (a1 : Int) (a2 : Int) : Bool :=
  (bAnd (iLe a1 a0) (iLe a0 a2))
def gF24 : FS := ⟨(.seq (.dat (.int .i64)) (.seq (.dat (.int .i64)) (.dat (.int .i64)))), 0, (.one ⟨.non, (.dat .bool), 0, 0⟩), fun x => some (F24 x.1 x.2.1 x.2.2)⟩
theorem eF24 (x : gF24.a.T) : kF env (GofL []) (LofL [(24, [])]) 24 (gF24.args x) (gF24.bs x) gF24.r.dec = gF24.F x := by kernel_rfl
theorem sF24 : SpecAt env 1 24 gF24 := mkSpec (r := 0) (gl := []) (L0 := []) (by kernel_rfl) trivial trivial eF24 (fun h => absurd h (by rw [show env.nl 24 = false by kernel_rfl]; decide))
/-- midrangeref04.Pages -/
def F66 (a0 : ByteArray) : Option Int :=
  sel (oNz 32) (
  some (iQuo .i64 (sLen a0) 32)) none
def gF66 : FS := ⟨(.dat .str), 0, (.one ⟨.non, (.dat (.int .i64)), 0, 0⟩), fun x => (F66 x)⟩
theorem eF66 (x : gF66.a.T) : kF env (GofL []) (LofL [(66, [])]) 66 (gF66.args x) (gF66.bs x) gF66.r.dec = gF66.F x := by kernel_rfl
theorem sF66 : SpecAt env 1 66 gF66 := mkSpec (r := 0) (gl := []) (L0 := []) (by kernel_rfl) trivial trivial eF66 (fun h => absurd h (by rw [show env.nl 66 = false by kernel_rfl]; decide))
def B56_0 (a0 : (List (Int × ByteArray))) (a1 : Int) (a2 : Int) : Option ((((List (Int × ByteArray)) × Int) × Int) ⊕ (Unit ⊕ (Int × Int))) :=
  sel (iLt a2 (lLen a0))
    (sel (oIn a2 (lLen a0)) (
    letS (F24 (lAt a0 a2).1 1 (iSub .i64 a1 1)) fun y0 =>
    sel (bNot y0)
      (some (.inr (.inr (a2, 3))))
      (sel (bOr (oIn (iSub .i64 a2 1) (lLen a0)) (bNot (iLt 0 a2))) (
      sel (bAnd (iLt 0 a2) (iLe (lAt a0 a2).1 (lAt a0 (iSub .i64 a2 1)).1))
        (some (.inr (.inr (a2, 14))))
        (sel (oNz 32) (
        sel (bOr (okS (F66 (lAt a0 a2).2)) (bNot (bNot (bNot (iEq (iRem (sLen (lAt a0 a2).2) 32) 0))))) (
        letS (valS (F66 (lAt a0 a2).2) 0) fun y1 =>
        letS (F24 y1 1 8) fun y2 =>
        sel (bOr (bNot (iEq (iRem (sLen (lAt a0 a2).2) 32) 0)) (bNot y2))
          (some (.inr (.inr (a2, 18))))
          (some (.inl ((a0, a1), (iAdd .i64 a2 1))))) none) none)) none)) none)
    (some (.inr (.inl ())))
def L56_0 (x : (((List (Int × ByteArray)) × Int) × Int)) : Option (Unit ⊕ (Int × Int)) := iter (fun (x : (((List (Int × ByteArray)) × Int) × Int)) => (B56_0 x.1.1 x.1.2 x.2)) fuel x
def lsL56_0 : LS := ⟨(.one .normal ⟨.non, [1, 4], (.seq (.box 0 (.seq (.dat (.sl (.pr (.int .i64) .str))) (.dat (.int .i64)))) (.dat (.int .i64))), 1, 62, 0⟩), (.two (.one (.exit 0) ⟨.non, [], .non, 0, 62, 0⟩) (.one .ret ⟨.non, [2, 3], (.seq (.dat (.int .i64)) (.dat (.int .i64))), 0, 62, 0⟩)), fun (x : (((List (Int × ByteArray)) × Int) × Int)) => (B56_0 x.1.1 x.1.2 x.2)⟩
/-- midrangeref04.Check -/
def F56 (a0 : ((List (Int × ByteArray)) × Int)) : Option (Int × Int) :=
  sel (iLt 10 (lLen a0.1))
    (some (0, 2))
    (letS (F24 a0.2 1 1001) fun y0 =>
    sel (bNot y0)
      (some (0, 3))
      (bndS (L56_0 (a0, 0)) fun y1 =>
      sumS y1 (fun y1a =>
        some (0, 0)) fun y1b =>
        some y1b))
def gF56 : FS := ⟨(.agg (.dat (.pr (.sl (.pr (.int .i64) .str)) (.int .i64)))), 0, (.one ⟨.non, (.tup (.seq (.dat (.int .i64)) (.dat (.int .i64)))), 0, 0⟩), fun x => (F56 x)⟩
theorem rL56_0 (x : lsL56_0.hd.T) : kRound env (GofL [(24, [gF24]), (66, [gF66])]) (LofL [(56, [(0, lsL56_0)])]) 56 0 (lpOf Try.prog 56 0).2 (lsL56_0.hd.st x) lsL56_0.rd = lsL56_0.B x := by kernel_rfl
theorem eF56 (x : gF56.a.T) : kF env (GofL [(24, [gF24]), (66, [gF66])]) (LofL [(56, [(0, lsL56_0)])]) 56 (gF56.args x) (gF56.bs x) gF56.r.dec = gF56.F x := by kernel_rfl
theorem sF56 : SpecAt env 2 56 gF56 := mkSpec (r := 1) (gl := [(24, [gF24]), (66, [gF66])]) (L0 := [(0, lsL56_0)]) (by kernel_rfl) ⟨⟨sF24.up (by decide), trivial⟩, ⟨sF66.up (by decide), trivial⟩, trivial⟩ ⟨⟨0, by kernel_rfl, by kernel_rfl, rL56_0⟩, trivial⟩ eF56 (fun h => absurd h (by rw [show env.nl 56 = false by kernel_rfl]; decide))
/-- midrangeref04.Err -/
def F25 (a0 : ((List (Int × ByteArray)) × Int)) : Option Int :=
  bndS (F56 a0) fun y0 =>
  some y0.2
def gF25 : FS := ⟨(.agg (.dat (.pr (.sl (.pr (.int .i64) .str)) (.int .i64)))), 0, (.one ⟨.non, (.dat (.int .i64)), 0, 0⟩), fun x => (F25 x)⟩
theorem eF25 (x : gF25.a.T) : kF env (GofL [(56, [gF56])]) (LofL [(25, [])]) 25 (gF25.args x) (gF25.bs x) gF25.r.dec = gF25.F x := by kernel_rfl
theorem sF25 : SpecAt env 3 25 gF25 := mkSpec (r := 2) (gl := [(56, [gF56])]) (L0 := []) (by kernel_rfl) ⟨⟨sF56.up (by decide), trivial⟩, trivial⟩ trivial eF25 (fun h => absurd h (by rw [show env.nl 25 = false by kernel_rfl]; decide))
def B90_0 (a0 : Int) (a1 : (List (Int × ByteArray))) (a2 : Int) (a3 : Int) : Option ((Int × (((List (Int × ByteArray)) × Int) × Int)) ⊕ (Unit ⊕ Int)) :=
  sel (iLt a3 (lLen a1))
    (sel (oIn a3 (lLen a1)) (
    sel (iEq (lAt a1 a3).1 a0)
      (some (.inr (.inr a3)))
      (some (.inl (a0, ((a1, a2), (iAdd .i64 a3 1)))))) none)
    (some (.inr (.inl ())))
def L90_0 (x : (Int × (((List (Int × ByteArray)) × Int) × Int))) : Option (Unit ⊕ Int) := iter (fun (x : (Int × (((List (Int × ByteArray)) × Int) × Int))) => (B90_0 x.1 x.2.1.1 x.2.1.2 x.2.2)) fuel x
def lsL90_0 : LS := ⟨(.one .normal ⟨.non, [1, 2, 5], (.seq (.dat (.int .i64)) (.seq (.box 0 (.seq (.dat (.sl (.pr (.int .i64) .str))) (.dat (.int .i64)))) (.dat (.int .i64)))), 1, 22, 0⟩), (.two (.one (.exit 0) ⟨.non, [], .non, 0, 22, 0⟩) (.one .ret ⟨.non, [4], (.dat (.int .i64)), 0, 22, 0⟩)), fun (x : (Int × (((List (Int × ByteArray)) × Int) × Int))) => (B90_0 x.1 x.2.1.1 x.2.1.2 x.2.2)⟩
/-- midrangeref04.Place -/
def F90 (a0 : ((List (Int × ByteArray)) × Int)) (a1 : Int) : Option Int :=
  bndS (L90_0 (a1, (a0, 0))) fun y0 =>
  sumS y0 (fun y0a =>
    some (-1)) fun y0b =>
    some y0b
def gF90 : FS := ⟨(.seq (.agg (.dat (.pr (.sl (.pr (.int .i64) .str)) (.int .i64)))) (.dat (.int .i64))), 0, (.one ⟨.non, (.dat (.int .i64)), 0, 0⟩), fun x => (F90 x.1 x.2)⟩
theorem rL90_0 (x : lsL90_0.hd.T) : kRound env (GofL []) (LofL [(90, [(0, lsL90_0)])]) 90 0 (lpOf Try.prog 90 0).2 (lsL90_0.hd.st x) lsL90_0.rd = lsL90_0.B x := by kernel_rfl
theorem eF90 (x : gF90.a.T) : kF env (GofL []) (LofL [(90, [(0, lsL90_0)])]) 90 (gF90.args x) (gF90.bs x) gF90.r.dec = gF90.F x := by kernel_rfl
theorem sF90 : SpecAt env 1 90 gF90 := mkSpec (r := 0) (gl := []) (L0 := [(0, lsL90_0)]) (by kernel_rfl) trivial ⟨⟨0, by kernel_rfl, by kernel_rfl, rL90_0⟩, trivial⟩ eF90 (fun h => absurd h (by rw [show env.nl 90 = false by kernel_rfl]; decide))
/-- midrangeref05.HasPage -/
def F60 (a0 : ((List (Int × ByteArray)) × Int)) (a1 : Int) (a2 : Int) : Option Bool :=
  bndS (F90 a0 a1) fun y0 =>
  sel (bOr (oIn y0 (lLen a0.1)) (bNot (bNot (iEq y0 (-1))))) (
  sel (bOr (okS (F66 (lAt a0.1 y0).2)) (bNot (bNot (iEq y0 (-1))))) (
  letS (valS (F66 (lAt a0.1 y0).2) 0) fun y1 =>
  letS (F24 a2 0 (iSub .i64 y1 1)) fun y2 =>
  some (bAnd (bNot (iEq y0 (-1))) y2)) none) none
def gF60 : FS := ⟨(.seq (.agg (.dat (.pr (.sl (.pr (.int .i64) .str)) (.int .i64)))) (.seq (.dat (.int .i64)) (.dat (.int .i64)))), 0, (.one ⟨.non, (.dat .bool), 0, 0⟩), fun x => (F60 x.1 x.2.1 x.2.2)⟩
theorem eF60 (x : gF60.a.T) : kF env (GofL [(24, [gF24]), (66, [gF66]), (90, [gF90])]) (LofL [(60, [])]) 60 (gF60.args x) (gF60.bs x) gF60.r.dec = gF60.F x := by kernel_rfl
theorem sF60 : SpecAt env 2 60 gF60 := mkSpec (r := 1) (gl := [(24, [gF24]), (66, [gF66]), (90, [gF90])]) (L0 := []) (by kernel_rfl) ⟨⟨sF24.up (by decide), trivial⟩, ⟨sF66.up (by decide), trivial⟩, ⟨sF90.up (by decide), trivial⟩, trivial⟩ trivial eF60 (fun h => absurd h (by rw [show env.nl 60 = false by kernel_rfl]; decide))
def B47_0 (a0 : Int) (a1 : (List (Int × ByteArray))) (a2 : Int) (a3 : (List (Int × (Bool × (Bool × (Int × (Int × (ByteArray × (Int × Int))))))))) (a4 : (List Int)) (a5 : Int) (a6 : Int) (a7 : Int) (a8 : Int) (a9 : Bool) (a10 : Bool) (a11 : Int) (a12 : Int) (a13 : ByteArray) (a14 : Int) (a15 : Int) (a16 : Int) : Option ((Int × (((List (Int × ByteArray)) × (Int × ((List (Int × (Bool × (Bool × (Int × (Int × (ByteArray × (Int × Int)))))))) × ((List Int) × (Int × (Int × Int)))))) × ((Int × (Bool × (Bool × (Int × (Int × (ByteArray × (Int × Int))))))) × Int))) ⊕ ((((List (Int × ByteArray)) × (Int × ((List (Int × (Bool × (Bool × (Int × (Int × (ByteArray × (Int × Int)))))))) × ((List Int) × (Int × (Int × Int)))))) × (Int × (Bool × (Bool × (Int × (Int × (ByteArray × (Int × Int)))))))) ⊕ Int)) :=
  sel (iLt a16 a0)
    (sel (oIn a16 (lLen a3)) (
    sel (bOr (oIn a16 (lLen a3)) (bNot (lAt a3 a16).2.1)) (
    sel (bOr (oIn a16 (lLen a3)) (bNot (bAnd (lAt a3 a16).2.1 (iEq (lAt a3 a16).2.2.2.1 a11)))) (
    sel (bAnd (bAnd (lAt a3 a16).2.1 (iEq (lAt a3 a16).2.2.2.1 a11)) (iEq (lAt a3 a16).2.2.2.2.1 a12))
      (some (.inr (.inr 13)))
      (some (.inl (a0, ((a1, (a2, (a3, (a4, (a5, (a6, a7)))))), ((a8, (a9, (a10, (a11, (a12, (a13, (a14, a15))))))), (iAdd .i64 a16 1))))))) none) none) none)
    (some (.inr (.inl ((a1, (a2, (a3, (a4, (a5, (a6, a7)))))), (a8, (a9, (a10, (a11, (a12, (a13, (a14, a15)))))))))))
def L47_0 (x : (Int × (((List (Int × ByteArray)) × (Int × ((List (Int × (Bool × (Bool × (Int × (Int × (ByteArray × (Int × Int)))))))) × ((List Int) × (Int × (Int × Int)))))) × ((Int × (Bool × (Bool × (Int × (Int × (ByteArray × (Int × Int))))))) × Int)))) : Option ((((List (Int × ByteArray)) × (Int × ((List (Int × (Bool × (Bool × (Int × (Int × (ByteArray × (Int × Int)))))))) × ((List Int) × (Int × (Int × Int)))))) × (Int × (Bool × (Bool × (Int × (Int × (ByteArray × (Int × Int)))))))) ⊕ Int) := iter (fun (x : (Int × (((List (Int × ByteArray)) × (Int × ((List (Int × (Bool × (Bool × (Int × (Int × (ByteArray × (Int × Int)))))))) × ((List Int) × (Int × (Int × Int)))))) × ((Int × (Bool × (Bool × (Int × (Int × (ByteArray × (Int × Int))))))) × Int)))) => (B47_0 x.1 x.2.1.1 x.2.1.2.1 x.2.1.2.2.1 x.2.1.2.2.2.1 x.2.1.2.2.2.2.1 x.2.1.2.2.2.2.2.1 x.2.1.2.2.2.2.2.2 x.2.2.1.1 x.2.2.1.2.1 x.2.2.1.2.2.1 x.2.2.1.2.2.2.1 x.2.2.1.2.2.2.2.1 x.2.2.1.2.2.2.2.2.1 x.2.2.1.2.2.2.2.2.2.1 x.2.2.1.2.2.2.2.2.2.2 x.2.2.2)) fuel x
def lsL47_0 : LS := ⟨(.one .normal ⟨.non, [1, 2, 5, 6], (.seq (.dat (.int .i64)) (.seq (.box 0 (.seq (.dat (.sl (.pr (.int .i64) .str))) (.seq (.dat (.int .i64)) (.seq (.dat (.sl (.pr (.int .i64) (.pr .bool (.pr .bool (.pr (.int .i64) (.pr (.int .i64) (.pr .str (.pr (.int .i64) (.int .i64)))))))))) (.seq (.dat (.sl (.int .i64))) (.seq (.dat (.int .i64)) (.seq (.dat (.int .i64)) (.dat (.int .i64))))))))) (.seq (.box 1 (.seq (.dat (.int .i64)) (.seq (.dat .bool) (.seq (.dat .bool) (.seq (.dat (.int .i64)) (.seq (.dat (.int .i64)) (.seq (.dat .str) (.seq (.dat (.int .i64)) (.dat (.int .i64)))))))))) (.dat (.int .i64))))), 2, 94, 0⟩), (.two (.one (.exit 0) ⟨.non, [2, 5], (.seq (.box 0 (.seq (.dat (.sl (.pr (.int .i64) .str))) (.seq (.dat (.int .i64)) (.seq (.dat (.sl (.pr (.int .i64) (.pr .bool (.pr .bool (.pr (.int .i64) (.pr (.int .i64) (.pr .str (.pr (.int .i64) (.int .i64)))))))))) (.seq (.dat (.sl (.int .i64))) (.seq (.dat (.int .i64)) (.seq (.dat (.int .i64)) (.dat (.int .i64))))))))) (.box 1 (.seq (.dat (.int .i64)) (.seq (.dat .bool) (.seq (.dat .bool) (.seq (.dat (.int .i64)) (.seq (.dat (.int .i64)) (.seq (.dat .str) (.seq (.dat (.int .i64)) (.dat (.int .i64))))))))))), 2, 94, 0⟩) (.one .ret ⟨.non, [4], (.dat (.int .i64)), 0, 94, 0⟩)), fun (x : (Int × (((List (Int × ByteArray)) × (Int × ((List (Int × (Bool × (Bool × (Int × (Int × (ByteArray × (Int × Int)))))))) × ((List Int) × (Int × (Int × Int)))))) × ((Int × (Bool × (Bool × (Int × (Int × (ByteArray × (Int × Int))))))) × Int)))) => (B47_0 x.1 x.2.1.1 x.2.1.2.1 x.2.1.2.2.1 x.2.1.2.2.2.1 x.2.1.2.2.2.2.1 x.2.1.2.2.2.2.2.1 x.2.1.2.2.2.2.2.2 x.2.2.1.1 x.2.2.1.2.1 x.2.2.1.2.2.1 x.2.2.1.2.2.2.1 x.2.2.1.2.2.2.2.1 x.2.2.1.2.2.2.2.2.1 x.2.2.1.2.2.2.2.2.2.1 x.2.2.1.2.2.2.2.2.2.2 x.2.2.2)⟩
/-- midrangeref05.PageOf -/
def F74 (a0 : ((List (Int × ByteArray)) × Int)) (a1 : Int) (a2 : Int) : Option ByteArray :=
  bndS (F90 a0 a1) fun y0 =>
  sel (oIn y0 (lLen a0.1)) (
  sel (oCut (iMul .i64 a2 32) (iMul .i64 (iAdd .i64 a2 1) 32) (sLen (lAt a0.1 y0).2)) (
  some (sCut (lAt a0.1 y0).2 (iMul .i64 a2 32) (iMul .i64 (iAdd .i64 a2 1) 32))) none) none
def gF74 : FS := ⟨(.seq (.agg (.dat (.pr (.sl (.pr (.int .i64) .str)) (.int .i64)))) (.seq (.dat (.int .i64)) (.dat (.int .i64)))), 0, (.one ⟨.non, (.dat .str), 0, 0⟩), fun x => (F74 x.1 x.2.1 x.2.2)⟩
theorem eF74 (x : gF74.a.T) : kF env (GofL [(90, [gF90])]) (LofL [(74, [])]) 74 (gF74.args x) (gF74.bs x) gF74.r.dec = gF74.F x := by kernel_rfl
theorem sF74 : SpecAt env 2 74 gF74 := mkSpec (r := 1) (gl := [(90, [gF90])]) (L0 := []) (by kernel_rfl) ⟨⟨sF90.up (by decide), trivial⟩, trivial⟩ trivial eF74 (fun h => absurd h (by rw [show env.nl 74 = false by kernel_rfl]; decide))
/-- midrangebase.Count -/
def F49 (a0 : Bool) : Option Int :=
  sel a0
    (some 1)
    (some 0)
def gF49 : FS := ⟨(.dat .bool), 0, (.one ⟨.non, (.dat (.int .i64)), 0, 0⟩), fun x => (F49 x)⟩
theorem eF49 (x : gF49.a.T) : kF env (GofL []) (LofL [(49, [])]) 49 (gF49.args x) (gF49.bs x) gF49.r.dec = gF49.F x := by kernel_rfl
theorem sF49 : SpecAt env 1 49 gF49 := mkSpec (r := 0) (gl := []) (L0 := []) (by kernel_rfl) trivial trivial eF49 (fun h => absurd h (by rw [show env.nl 49 = false by kernel_rfl]; decide))
/-- midrangeref05.frameErr -/
def F47 (a0 : (((List (Int × ByteArray)) × Int) × ((List (Int × (Bool × (Bool × (Int × (Int × (ByteArray × (Int × Int)))))))) × ((List Int) × (Int × (Int × Int)))))) (a1 : Int) : Option Int :=
  sel (oIn a1 (lLen a0.2.1)) (
  letS (F24 (lAt a0.2.1 a1).1 0 2) fun y0 =>
  sel (bNot y0)
    (some 3)
    (sel (bNot (lAt a0.2.1 a1).2.1)
      (bndS (F49 (bNot (bAnd (iEq (lAt a0.2.1 a1).1 (lAt a0.2.1 a1).1) (bAnd (bEq (lAt a0.2.1 a1).2.1 false) (bAnd (bEq (lAt a0.2.1 a1).2.2.1 false) (bAnd (iEq (lAt a0.2.1 a1).2.2.2.1 0) (bAnd (iEq (lAt a0.2.1 a1).2.2.2.2.1 0) (bAnd (sEq (lAt a0.2.1 a1).2.2.2.2.2.1 (bs [])) (bAnd (iEq (lAt a0.2.1 a1).2.2.2.2.2.2.1 0) (iEq (lAt a0.2.1 a1).2.2.2.2.2.2.2 (-1))))))))))) fun y6 =>
      some (iMul .i64 5 y6))
      (bndS (F60 a0.1 (lAt a0.2.1 a1).2.2.2.1 (lAt a0.2.1 a1).2.2.2.2.1) fun y1 =>
      sel (bNot y1)
        (some 11)
        (sel (bNot (iEq (sLen (lAt a0.2.1 a1).2.2.2.2.2.1) 32))
          (some 18)
          (bndS (L47_0 (a1, ((a0.1.1, (a0.1.2, a0.2)), ((lAt a0.2.1 a1), 0)))) fun y2 =>
          sumS y2 (fun y2a =>
            letS (F24 y2a.2.2.2.2.2.2.2.1 1 y2a.1.2.2.2.2.1) fun y3 =>
            sel (bNot y3)
              (some 3)
              (sel (bOr (okS (F74 (y2a.1.1, y2a.1.2.1) y2a.2.2.2.2.1 y2a.2.2.2.2.2.1)) (bNot (bNot y2a.2.2.2.1))) (
              letS (valS (F74 (y2a.1.1, y2a.1.2.1) y2a.2.2.2.2.1 y2a.2.2.2.2.2.1) ByteArray.empty) fun y4 =>
              bndS (F49 (bAnd (bNot y2a.2.2.2.1) (bNot (sEq y2a.2.2.2.2.2.2.1 y4)))) fun y5 =>
              some (iMul .i64 15 y5)) none)) fun y2b =>
            some y2b))))) none
def gF47 : FS := ⟨(.seq (.agg (.dat (.pr (.pr (.sl (.pr (.int .i64) .str)) (.int .i64)) (.pr (.sl (.pr (.int .i64) (.pr .bool (.pr .bool (.pr (.int .i64) (.pr (.int .i64) (.pr .str (.pr (.int .i64) (.int .i64))))))))) (.pr (.sl (.int .i64)) (.pr (.int .i64) (.pr (.int .i64) (.int .i64)))))))) (.dat (.int .i64))), 0, (.one ⟨.non, (.dat (.int .i64)), 0, 0⟩), fun x => (F47 x.1 x.2)⟩
theorem rL47_0 (x : lsL47_0.hd.T) : kRound env (GofL [(49, [gF49]), (74, [gF74]), (24, [gF24]), (60, [gF60])]) (LofL [(47, [(0, lsL47_0)])]) 47 0 (lpOf Try.prog 47 0).2 (lsL47_0.hd.st x) lsL47_0.rd = lsL47_0.B x := by kernel_rfl
theorem eF47 (x : gF47.a.T) : kF env (GofL [(49, [gF49]), (74, [gF74]), (24, [gF24]), (60, [gF60])]) (LofL [(47, [(0, lsL47_0)])]) 47 (gF47.args x) (gF47.bs x) gF47.r.dec = gF47.F x := by kernel_rfl
theorem sF47 : SpecAt env 3 47 gF47 := mkSpec (r := 2) (gl := [(49, [gF49]), (74, [gF74]), (24, [gF24]), (60, [gF60])]) (L0 := [(0, lsL47_0)]) (by kernel_rfl) ⟨⟨sF49.up (by decide), trivial⟩, ⟨sF74.up (by decide), trivial⟩, ⟨sF24.up (by decide), trivial⟩, ⟨sF60.up (by decide), trivial⟩, trivial⟩ ⟨⟨0, by kernel_rfl, by kernel_rfl, rL47_0⟩, trivial⟩ eF47 (fun h => absurd h (by rw [show env.nl 47 = false by kernel_rfl]; decide))
def B15_0 (a0 : (List (Int × ByteArray))) (a1 : Int) (a2 : (List (Int × (Bool × (Bool × (Int × (Int × (ByteArray × (Int × Int))))))))) (a3 : (List Int)) (a4 : Int) (a5 : Int) (a6 : Int) (a7 : Int) : Option ((((List (Int × ByteArray)) × (Int × ((List (Int × (Bool × (Bool × (Int × (Int × (ByteArray × (Int × Int)))))))) × ((List Int) × (Int × (Int × Int)))))) × Int) ⊕ (((List (Int × ByteArray)) × (Int × ((List (Int × (Bool × (Bool × (Int × (Int × (ByteArray × (Int × Int)))))))) × ((List Int) × (Int × (Int × Int)))))) ⊕ Int)) :=
  sel (iLt a7 (lLen a2))
    (bndS (F47 ((a0, a1), (a2, (a3, (a4, (a5, a6))))) a7) fun y0 =>
    sel (bNot (iEq y0 0))
      (some (.inr (.inr y0)))
      (some (.inl ((a0, (a1, (a2, (a3, (a4, (a5, a6)))))), (iAdd .i64 a7 1)))))
    (some (.inr (.inl (a0, (a1, (a2, (a3, (a4, (a5, a6)))))))))
def L15_0 (x : (((List (Int × ByteArray)) × (Int × ((List (Int × (Bool × (Bool × (Int × (Int × (ByteArray × (Int × Int)))))))) × ((List Int) × (Int × (Int × Int)))))) × Int)) : Option (((List (Int × ByteArray)) × (Int × ((List (Int × (Bool × (Bool × (Int × (Int × (ByteArray × (Int × Int)))))))) × ((List Int) × (Int × (Int × Int)))))) ⊕ Int) := iter (fun (x : (((List (Int × ByteArray)) × (Int × ((List (Int × (Bool × (Bool × (Int × (Int × (ByteArray × (Int × Int)))))))) × ((List Int) × (Int × (Int × Int)))))) × Int)) => (B15_0 x.1.1 x.1.2.1 x.1.2.2.1 x.1.2.2.2.1 x.1.2.2.2.2.1 x.1.2.2.2.2.2.1 x.1.2.2.2.2.2.2 x.2)) fuel x
def lsL15_0 : LS := ⟨(.one .normal ⟨.non, [1, 4], (.seq (.box 0 (.seq (.dat (.sl (.pr (.int .i64) .str))) (.seq (.dat (.int .i64)) (.seq (.dat (.sl (.pr (.int .i64) (.pr .bool (.pr .bool (.pr (.int .i64) (.pr (.int .i64) (.pr .str (.pr (.int .i64) (.int .i64)))))))))) (.seq (.dat (.sl (.int .i64))) (.seq (.dat (.int .i64)) (.seq (.dat (.int .i64)) (.dat (.int .i64))))))))) (.dat (.int .i64))), 1, 95, 0⟩), (.two (.one (.exit 0) ⟨.non, [1], (.box 0 (.seq (.dat (.sl (.pr (.int .i64) .str))) (.seq (.dat (.int .i64)) (.seq (.dat (.sl (.pr (.int .i64) (.pr .bool (.pr .bool (.pr (.int .i64) (.pr (.int .i64) (.pr .str (.pr (.int .i64) (.int .i64)))))))))) (.seq (.dat (.sl (.int .i64))) (.seq (.dat (.int .i64)) (.seq (.dat (.int .i64)) (.dat (.int .i64))))))))), 1, 95, 0⟩) (.one .ret ⟨.non, [2], (.dat (.int .i64)), 0, 95, 0⟩)), fun (x : (((List (Int × ByteArray)) × (Int × ((List (Int × (Bool × (Bool × (Int × (Int × (ByteArray × (Int × Int)))))))) × ((List Int) × (Int × (Int × Int)))))) × Int)) => (B15_0 x.1.1 x.1.2.1 x.1.2.2.1 x.1.2.2.2.1 x.1.2.2.2.2.1 x.1.2.2.2.2.2.1 x.1.2.2.2.2.2.2 x.2)⟩
def B75_0 (a0 : (List Int)) (a1 : Int) (a2 : Int) : Option (((List Int) × (Int × Int)) ⊕ (Unit ⊕ Int)) :=
  sel (iLt a2 (lLen a0))
    (sel (oIn a2 (lLen a0)) (
    sel (iEq (lAt a0 a2) a1)
      (some (.inr (.inr a2)))
      (some (.inl (a0, (a1, (iAdd .i64 a2 1)))))) none)
    (some (.inr (.inl ())))
def L75_0 (x : ((List Int) × (Int × Int))) : Option (Unit ⊕ Int) := iter (fun (x : ((List Int) × (Int × Int))) => (B75_0 x.1 x.2.1 x.2.2)) fuel x
def lsL75_0 : LS := ⟨(.one .normal ⟨.non, [0, 1, 5], (.seq (.dat (.sl (.int .i64))) (.seq (.dat (.int .i64)) (.dat (.int .i64)))), 0, 19, 0⟩), (.two (.one (.exit 0) ⟨.non, [], .non, 0, 19, 0⟩) (.one .ret ⟨.non, [4], (.dat (.int .i64)), 0, 19, 0⟩)), fun (x : ((List Int) × (Int × Int))) => (B75_0 x.1 x.2.1 x.2.2)⟩
/-- midrangebase.IndexOf -/
def F75 (a0 : (List Int)) (a1 : Int) : Option Int :=
  bndS (L75_0 (a0, (a1, 0))) fun y0 =>
  sumS y0 (fun y0a =>
    some (-1)) fun y0b =>
    some y0b
def gF75 : FS := ⟨(.seq (.dat (.sl (.int .i64))) (.dat (.int .i64))), 0, (.one ⟨.non, (.dat (.int .i64)), 0, 0⟩), fun x => (F75 x.1 x.2)⟩
theorem rL75_0 (x : lsL75_0.hd.T) : kRound env (GofL []) (LofL [(75, [(0, lsL75_0)])]) 75 0 (lpOf Try.prog 75 0).2 (lsL75_0.hd.st x) lsL75_0.rd = lsL75_0.B x := by kernel_rfl
theorem eF75 (x : gF75.a.T) : kF env (GofL []) (LofL [(75, [(0, lsL75_0)])]) 75 (gF75.args x) (gF75.bs x) gF75.r.dec = gF75.F x := by kernel_rfl
theorem sF75 : SpecAt env 1 75 gF75 := mkSpec (r := 0) (gl := []) (L0 := [(0, lsL75_0)]) (by kernel_rfl) trivial ⟨⟨0, by kernel_rfl, by kernel_rfl, rL75_0⟩, trivial⟩ eF75 (fun h => absurd h (by rw [show env.nl 75 = false by kernel_rfl]; decide))
/-- midrangeref05.Chain -/
def F76 (a0 : Int) (a1 : Int) : Option Int :=
  sel (oNz 5) (
  some (iRem (iAdd .i64 (iMul .i64 7 a0) a1) 5)) none
def gF76 : FS := ⟨(.seq (.dat (.int .i64)) (.dat (.int .i64))), 0, (.one ⟨.non, (.dat (.int .i64)), 0, 0⟩), fun x => (F76 x.1 x.2)⟩
theorem eF76 (x : gF76.a.T) : kF env (GofL []) (LofL [(76, [])]) 76 (gF76.args x) (gF76.bs x) gF76.r.dec = gF76.F x := by kernel_rfl
theorem sF76 : SpecAt env 1 76 gF76 := mkSpec (r := 0) (gl := []) (L0 := []) (by kernel_rfl) trivial trivial eF76 (fun h => absurd h (by rw [show env.nl 76 = false by kernel_rfl]; decide))
def B48_0 (a0 : Int) (a1 : (List (Int × ByteArray))) (a2 : Int) (a3 : (List (Int × (Bool × (Bool × (Int × (Int × (ByteArray × (Int × Int))))))))) (a4 : (List Int)) (a5 : Int) (a6 : Int) (a7 : Int) (a8 : (List Int)) (a9 : Int) : Option ((Int × (((List (Int × ByteArray)) × (Int × ((List (Int × (Bool × (Bool × (Int × (Int × (ByteArray × (Int × Int)))))))) × ((List Int) × (Int × (Int × Int)))))) × ((List Int) × Int))) ⊕ ((List Int) ⊕ Bool)) :=
  sel (bNot (iEq a9 (-1)))
    (letS (F24 a9 0 (iSub .i64 (lLen a3) 1)) fun y0 =>
    sel (bOr (okS (F75 a8 a9)) (bNot (bNot (bNot y0)))) (
    letS (valS (F75 a8 a9) 0) fun y1 =>
    sel (bOr (bNot y0) (bNot (iEq y1 (-1))))
      (some (.inr (.inr false)))
      (sel (oIn a9 (lLen a3)) (
      sel (bOr (okS (F76 (lAt a3 a9).2.2.2.1 (lAt a3 a9).2.2.2.2.1)) (bNot (bNot (bNot (lAt a3 a9).2.1)))) (
      letS (valS (F76 (lAt a3 a9).2.2.2.1 (lAt a3 a9).2.2.2.2.1) 0) fun y2 =>
      sel (bOr (bNot (lAt a3 a9).2.1) (bNot (iEq y2 a0)))
        (some (.inr (.inr false)))
        (sel (lCap 8 (lApp a8 [a9])) (
        sel (oIn a9 (lLen a3)) (
        some (.inl (a0, ((a1, (a2, (a3, (a4, (a5, (a6, a7)))))), ((lApp a8 [a9]), (lAt a3 a9).2.2.2.2.2.2.2))))) none) none)) none) none)) none)
    (some (.inr (.inl a8)))
def L48_0 (x : (Int × (((List (Int × ByteArray)) × (Int × ((List (Int × (Bool × (Bool × (Int × (Int × (ByteArray × (Int × Int)))))))) × ((List Int) × (Int × (Int × Int)))))) × ((List Int) × Int)))) : Option ((List Int) ⊕ Bool) := iter (fun (x : (Int × (((List (Int × ByteArray)) × (Int × ((List (Int × (Bool × (Bool × (Int × (Int × (ByteArray × (Int × Int)))))))) × ((List Int) × (Int × (Int × Int)))))) × ((List Int) × Int)))) => (B48_0 x.1 x.2.1.1 x.2.1.2.1 x.2.1.2.2.1 x.2.1.2.2.2.1 x.2.1.2.2.2.2.1 x.2.1.2.2.2.2.2.1 x.2.1.2.2.2.2.2.2 x.2.2.1 x.2.2.2)) fuel x
def lsL48_0 : LS := ⟨(.one .normal ⟨.non, [1, 2, 6, 7], (.seq (.dat (.int .i64)) (.seq (.box 0 (.seq (.dat (.sl (.pr (.int .i64) .str))) (.seq (.dat (.int .i64)) (.seq (.dat (.sl (.pr (.int .i64) (.pr .bool (.pr .bool (.pr (.int .i64) (.pr (.int .i64) (.pr .str (.pr (.int .i64) (.int .i64)))))))))) (.seq (.dat (.sl (.int .i64))) (.seq (.dat (.int .i64)) (.seq (.dat (.int .i64)) (.dat (.int .i64))))))))) (.seq (.own 1 (.int .i64)) (.dat (.int .i64))))), 2, 57, 0⟩), (.two (.one (.exit 0) ⟨.non, [6], (.own 0 (.int .i64)), 1, 57, 0⟩) (.one .ret ⟨.non, [4, 5], (.seq (.lit (.slice none 0 0)) (.dat .bool)), 0, 57, 0⟩)), fun (x : (Int × (((List (Int × ByteArray)) × (Int × ((List (Int × (Bool × (Bool × (Int × (Int × (ByteArray × (Int × Int)))))))) × ((List Int) × (Int × (Int × Int)))))) × ((List Int) × Int)))) => (B48_0 x.1 x.2.1.1 x.2.1.2.1 x.2.1.2.2.1 x.2.1.2.2.2.1 x.2.1.2.2.2.2.1 x.2.1.2.2.2.2.2.1 x.2.1.2.2.2.2.2.2 x.2.2.1 x.2.2.2)⟩
/-- midrangeref05.walk -/
def F48 (a0 : (((List (Int × ByteArray)) × Int) × ((List (Int × (Bool × (Bool × (Int × (Int × (ByteArray × (Int × Int)))))))) × ((List Int) × (Int × (Int × Int)))))) (a1 : Int) : Option ((List Int) × Bool) :=
  sel (oIn a1 (lLen a0.2.2.1)) (
  bndS (L48_0 (a1, ((a0.1.1, (a0.1.2, a0.2)), (([] : List Int), (lAt a0.2.2.1 a1))))) fun y0 =>
  sumS y0 (fun y0a =>
    some (y0a, true)) fun y0b =>
    some (([] : List Int), y0b)) none
def gF48 : FS := ⟨(.seq (.agg (.dat (.pr (.pr (.sl (.pr (.int .i64) .str)) (.int .i64)) (.pr (.sl (.pr (.int .i64) (.pr .bool (.pr .bool (.pr (.int .i64) (.pr (.int .i64) (.pr .str (.pr (.int .i64) (.int .i64))))))))) (.pr (.sl (.int .i64)) (.pr (.int .i64) (.pr (.int .i64) (.int .i64)))))))) (.dat (.int .i64))), 0, (.one ⟨.non, (.tup (.seq (.own 0 (.int .i64)) (.dat .bool))), 0, 1⟩), fun x => (F48 x.1 x.2)⟩
theorem rL48_0 (x : lsL48_0.hd.T) : kRound env (GofL [(76, [gF76]), (75, [gF75]), (24, [gF24])]) (LofL [(48, [(0, lsL48_0)])]) 48 0 (lpOf Try.prog 48 0).2 (lsL48_0.hd.st x) lsL48_0.rd = lsL48_0.B x := by kernel_rfl
theorem eF48 (x : gF48.a.T) : kF env (GofL [(76, [gF76]), (75, [gF75]), (24, [gF24])]) (LofL [(48, [(0, lsL48_0)])]) 48 (gF48.args x) (gF48.bs x) gF48.r.dec = gF48.F x := by kernel_rfl
theorem sF48 : SpecAt env 2 48 gF48 := mkSpec (r := 1) (gl := [(76, [gF76]), (75, [gF75]), (24, [gF24])]) (L0 := [(0, lsL48_0)]) (by kernel_rfl) ⟨⟨sF76.up (by decide), trivial⟩, ⟨sF75.up (by decide), trivial⟩, ⟨sF24.up (by decide), trivial⟩, trivial⟩ ⟨⟨0, by kernel_rfl, by kernel_rfl, rL48_0⟩, trivial⟩ eF48 (fun h => absurd h (by rw [show env.nl 48 = false by kernel_rfl]; decide))
def B15_2 (a0 : (List (Int × ByteArray))) (a1 : Int) (a2 : (List (Int × (Bool × (Bool × (Int × (Int × (ByteArray × (Int × Int))))))))) (a3 : (List Int)) (a4 : Int) (a5 : Int) (a6 : Int) (a7 : Int) (a8 : Int) (a9 : Int) : Option ((((List (Int × ByteArray)) × (Int × ((List (Int × (Bool × (Bool × (Int × (Int × (ByteArray × (Int × Int)))))))) × ((List Int) × (Int × (Int × Int)))))) × (Int × (Int × Int))) ⊕ ((((List (Int × ByteArray)) × (Int × ((List (Int × (Bool × (Bool × (Int × (Int × (ByteArray × (Int × Int)))))))) × ((List Int) × (Int × (Int × Int)))))) × (Int × Int)) ⊕ Int)) :=
  sel (iLt a9 5)
    (bndS (F48 ((a0, a1), (a2, (a3, (a4, (a5, a6))))) a9) fun y0 =>
    sel (bNot y0.2)
      (some (.inr (.inr 41)))
      (some (.inl ((a0, (a1, (a2, (a3, (a4, (a5, a6)))))), ((iAdd .i64 a7 (lLen y0.1)), (a8, (iAdd .i64 a9 1)))))))
    (some (.inr (.inl ((a0, (a1, (a2, (a3, (a4, (a5, a6)))))), (a7, a8)))))
def L15_2 (x : (((List (Int × ByteArray)) × (Int × ((List (Int × (Bool × (Bool × (Int × (Int × (ByteArray × (Int × Int)))))))) × ((List Int) × (Int × (Int × Int)))))) × (Int × (Int × Int)))) : Option ((((List (Int × ByteArray)) × (Int × ((List (Int × (Bool × (Bool × (Int × (Int × (ByteArray × (Int × Int)))))))) × ((List Int) × (Int × (Int × Int)))))) × (Int × Int)) ⊕ Int) := iter (fun (x : (((List (Int × ByteArray)) × (Int × ((List (Int × (Bool × (Bool × (Int × (Int × (ByteArray × (Int × Int)))))))) × ((List Int) × (Int × (Int × Int)))))) × (Int × (Int × Int)))) => (B15_2 x.1.1 x.1.2.1 x.1.2.2.1 x.1.2.2.2.1 x.1.2.2.2.2.1 x.1.2.2.2.2.2.1 x.1.2.2.2.2.2.2 x.2.1 x.2.2.1 x.2.2.2)) fuel x
def lsL15_2 : LS := ⟨(.one .normal ⟨.non, [1, 6, 7, 8], (.seq (.box 0 (.seq (.dat (.sl (.pr (.int .i64) .str))) (.seq (.dat (.int .i64)) (.seq (.dat (.sl (.pr (.int .i64) (.pr .bool (.pr .bool (.pr (.int .i64) (.pr (.int .i64) (.pr .str (.pr (.int .i64) (.int .i64)))))))))) (.seq (.dat (.sl (.int .i64))) (.seq (.dat (.int .i64)) (.seq (.dat (.int .i64)) (.dat (.int .i64))))))))) (.seq (.dat (.int .i64)) (.seq (.dat (.int .i64)) (.dat (.int .i64))))), 1, 95, 0⟩), (.two (.one (.exit 2) ⟨.non, [1, 6, 7], (.seq (.box 0 (.seq (.dat (.sl (.pr (.int .i64) .str))) (.seq (.dat (.int .i64)) (.seq (.dat (.sl (.pr (.int .i64) (.pr .bool (.pr .bool (.pr (.int .i64) (.pr (.int .i64) (.pr .str (.pr (.int .i64) (.int .i64)))))))))) (.seq (.dat (.sl (.int .i64))) (.seq (.dat (.int .i64)) (.seq (.dat (.int .i64)) (.dat (.int .i64))))))))) (.seq (.dat (.int .i64)) (.dat (.int .i64)))), 1, 95, 0⟩) (.one .ret ⟨.non, [2], (.dat (.int .i64)), 0, 95, 0⟩)), fun (x : (((List (Int × ByteArray)) × (Int × ((List (Int × (Bool × (Bool × (Int × (Int × (ByteArray × (Int × Int)))))))) × ((List Int) × (Int × (Int × Int)))))) × (Int × (Int × Int)))) => (B15_2 x.1.1 x.1.2.1 x.1.2.2.1 x.1.2.2.2.1 x.1.2.2.2.2.1 x.1.2.2.2.2.2.1 x.1.2.2.2.2.2.2 x.2.1 x.2.2.1 x.2.2.2)⟩
def B15_4 (a0 : (List (Int × ByteArray))) (a1 : Int) (a2 : (List (Int × (Bool × (Bool × (Int × (Int × (ByteArray × (Int × Int))))))))) (a3 : (List Int)) (a4 : Int) (a5 : Int) (a6 : Int) (a7 : Int) (a8 : Int) (a9 : Int) : Option ((((List (Int × ByteArray)) × (Int × ((List (Int × (Bool × (Bool × (Int × (Int × (ByteArray × (Int × Int)))))))) × ((List Int) × (Int × (Int × Int)))))) × (Int × (Int × Int))) ⊕ (Int × Int)) :=
  sel (iLt a9 (lLen a2))
    (sel (oIn a9 (lLen a2)) (
    bndS (F49 (lAt a2 a9).2.1) fun y0 =>
    some (.inl ((a0, (a1, (a2, (a3, (a4, (a5, a6)))))), (a7, ((iAdd .i64 a8 y0), (iAdd .i64 a9 1)))))) none)
    (some (.inr (a7, a8)))
def L15_4 (x : (((List (Int × ByteArray)) × (Int × ((List (Int × (Bool × (Bool × (Int × (Int × (ByteArray × (Int × Int)))))))) × ((List Int) × (Int × (Int × Int)))))) × (Int × (Int × Int)))) : Option (Int × Int) := iter (fun (x : (((List (Int × ByteArray)) × (Int × ((List (Int × (Bool × (Bool × (Int × (Int × (ByteArray × (Int × Int)))))))) × ((List Int) × (Int × (Int × Int)))))) × (Int × (Int × Int)))) => (B15_4 x.1.1 x.1.2.1 x.1.2.2.1 x.1.2.2.2.1 x.1.2.2.2.2.1 x.1.2.2.2.2.2.1 x.1.2.2.2.2.2.2 x.2.1 x.2.2.1 x.2.2.2)) fuel x
def lsL15_4 : LS := ⟨(.one .normal ⟨.non, [1, 6, 7, 11], (.seq (.box 0 (.seq (.dat (.sl (.pr (.int .i64) .str))) (.seq (.dat (.int .i64)) (.seq (.dat (.sl (.pr (.int .i64) (.pr .bool (.pr .bool (.pr (.int .i64) (.pr (.int .i64) (.pr .str (.pr (.int .i64) (.int .i64)))))))))) (.seq (.dat (.sl (.int .i64))) (.seq (.dat (.int .i64)) (.seq (.dat (.int .i64)) (.dat (.int .i64))))))))) (.seq (.dat (.int .i64)) (.seq (.dat (.int .i64)) (.dat (.int .i64))))), 1, 95, 0⟩), (.one (.exit 4) ⟨.non, [6, 7], (.seq (.dat (.int .i64)) (.dat (.int .i64))), 0, 95, 0⟩), fun (x : (((List (Int × ByteArray)) × (Int × ((List (Int × (Bool × (Bool × (Int × (Int × (ByteArray × (Int × Int)))))))) × ((List Int) × (Int × (Int × Int)))))) × (Int × (Int × Int)))) => (B15_4 x.1.1 x.1.2.1 x.1.2.2.1 x.1.2.2.2.1 x.1.2.2.2.2.1 x.1.2.2.2.2.2.1 x.1.2.2.2.2.2.2 x.2.1 x.2.2.1 x.2.2.2)⟩
/-- midrangeref05.Err -/
def F15 (a0 : (((List (Int × ByteArray)) × Int) × ((List (Int × (Bool × (Bool × (Int × (Int × (ByteArray × (Int × Int)))))))) × ((List Int) × (Int × (Int × Int)))))) : Option Int :=
  bndS (F25 a0.1) fun y0 =>
  sel (bNot (iEq y0 0))
    (some y0)
    (letS (F24 (lLen a0.2.1) 1 8) fun y1 =>
    sel (bOr (bNot y1) (bNot (iEq (lLen a0.2.2.1) 5)))
      (some 6)
      (letS (F24 a0.2.2.2.1 0 999999999999999) fun y2 =>
      letS (F24 a0.2.2.2.2.1 0 999999999999999) fun y3 =>
      letS (F24 a0.2.2.2.2.2 0 999999999999999) fun y4 =>
      sel (bOr (bOr (bNot y2) (bNot y3)) (bNot y4))
        (some 3)
        (bndS (L15_0 ((a0.1.1, (a0.1.2, a0.2)), 0)) fun y5 =>
        sumS y5 (fun y5a =>
          bndS (L15_2 (y5a, (0, (0, 0)))) fun y6 =>
          sumS y6 (fun y6a =>
            bndS (L15_4 (y6a.1, (y6a.2.1, (y6a.2.2, 0)))) fun y7 =>
            bndS (F49 (bNot (iEq y7.1 y7.2))) fun y8 =>
            some (iMul .i64 41 y8)) fun y6b =>
            some y6b) fun y5b =>
          some y5b)))
def gF15 : FS := ⟨(.agg (.dat (.pr (.pr (.sl (.pr (.int .i64) .str)) (.int .i64)) (.pr (.sl (.pr (.int .i64) (.pr .bool (.pr .bool (.pr (.int .i64) (.pr (.int .i64) (.pr .str (.pr (.int .i64) (.int .i64))))))))) (.pr (.sl (.int .i64)) (.pr (.int .i64) (.pr (.int .i64) (.int .i64)))))))), 0, (.one ⟨.non, (.dat (.int .i64)), 0, 0⟩), fun x => (F15 x)⟩
theorem rL15_0 (x : lsL15_0.hd.T) : kRound env (GofL [(49, [gF49]), (48, [gF48]), (47, [gF47]), (24, [gF24]), (25, [gF25])]) (LofL [(15, [(0, lsL15_0), (2, lsL15_2), (4, lsL15_4)])]) 15 0 (lpOf Try.prog 15 0).2 (lsL15_0.hd.st x) lsL15_0.rd = lsL15_0.B x := by kernel_rfl
theorem rL15_2 (x : lsL15_2.hd.T) : kRound env (GofL [(49, [gF49]), (48, [gF48]), (47, [gF47]), (24, [gF24]), (25, [gF25])]) (LofL [(15, [(0, lsL15_0), (2, lsL15_2), (4, lsL15_4)])]) 15 2 (lpOf Try.prog 15 1).2 (lsL15_2.hd.st x) lsL15_2.rd = lsL15_2.B x := by kernel_rfl
theorem rL15_4 (x : lsL15_4.hd.T) : kRound env (GofL [(49, [gF49]), (48, [gF48]), (47, [gF47]), (24, [gF24]), (25, [gF25])]) (LofL [(15, [(0, lsL15_0), (2, lsL15_2), (4, lsL15_4)])]) 15 4 (lpOf Try.prog 15 2).2 (lsL15_4.hd.st x) lsL15_4.rd = lsL15_4.B x := by kernel_rfl
theorem eF15 (x : gF15.a.T) : kF env (GofL [(49, [gF49]), (48, [gF48]), (47, [gF47]), (24, [gF24]), (25, [gF25])]) (LofL [(15, [(0, lsL15_0), (2, lsL15_2), (4, lsL15_4)])]) 15 (gF15.args x) (gF15.bs x) gF15.r.dec = gF15.F x := by kernel_rfl
theorem sF15 : SpecAt env 4 15 gF15 := mkSpec (r := 3) (gl := [(49, [gF49]), (48, [gF48]), (47, [gF47]), (24, [gF24]), (25, [gF25])]) (L0 := [(0, lsL15_0), (2, lsL15_2), (4, lsL15_4)]) (by kernel_rfl) ⟨⟨sF49.up (by decide), trivial⟩, ⟨sF48.up (by decide), trivial⟩, ⟨sF47.up (by decide), trivial⟩, ⟨sF24.up (by decide), trivial⟩, ⟨sF25.up (by decide), trivial⟩, trivial⟩ ⟨⟨0, by kernel_rfl, by kernel_rfl, rL15_0⟩, ⟨1, by kernel_rfl, by kernel_rfl, rL15_2⟩, ⟨2, by kernel_rfl, by kernel_rfl, rL15_4⟩, trivial⟩ eF15 (fun h => absurd h (by rw [show env.nl 15 = false by kernel_rfl]; decide))
/-- midrangelaw05.PagingChecks -/
def F3 (a0 : (((List (Int × ByteArray)) × Int) × ((List (Int × (Bool × (Bool × (Int × (Int × (ByteArray × (Int × Int)))))))) × ((List Int) × (Int × (Int × Int)))))) : Option Bool :=
  bndS (F11) fun y0 =>
  sel (bNot y0)
    (some false)
    (bndS (F12 a0) fun y1 =>
    sel (bNot y1)
      (some true)
      (bndS (F14 a0) fun y2 =>
      bndS (F13 ((y2.1, y2.2.1), y2.2.2)) fun y3 =>
      bndS (F15 a0) fun y4 =>
      some (iEq y3 y4)))
def gF3 : FS := ⟨(.agg (.dat (.pr (.pr (.sl (.pr (.int .i64) .str)) (.int .i64)) (.pr (.sl (.pr (.int .i64) (.pr .bool (.pr .bool (.pr (.int .i64) (.pr (.int .i64) (.pr .str (.pr (.int .i64) (.int .i64))))))))) (.pr (.sl (.int .i64)) (.pr (.int .i64) (.pr (.int .i64) (.int .i64)))))))), 0, (.one ⟨.non, (.dat .bool), 0, 0⟩), fun x => (F3 x)⟩
theorem eF3 (x : gF3.a.T) : kF env (GofL [(15, [gF15]), (13, [gF13]), (14, [gF14]), (12, [gF12]), (11, [gF11])]) (LofL [(3, [])]) 3 (gF3.args x) (gF3.bs x) gF3.r.dec = gF3.F x := by kernel_rfl
theorem sF3 : SpecAt env 11 3 gF3 := mkSpec (r := 10) (gl := [(15, [gF15]), (13, [gF13]), (14, [gF14]), (12, [gF12]), (11, [gF11])]) (L0 := []) (by kernel_rfl) ⟨⟨sF15.up (by decide), trivial⟩, ⟨sF13.up (by decide), trivial⟩, ⟨sF14.up (by decide), trivial⟩, ⟨sF12.up (by decide), trivial⟩, ⟨sF11.up (by decide), trivial⟩, trivial⟩ trivial eF3 (fun h => absurd h (by rw [show env.nl 3 = false by kernel_rfl]; decide))
/-- midrangeref05.IsPool -/
def F52 (a0 : Int) : Bool :=
  letS (F24 a0 0 2) fun y0 =>
  y0
def gF52 : FS := ⟨(.dat (.int .i64)), 0, (.one ⟨.non, (.dat .bool), 0, 0⟩), fun x => some (F52 x)⟩
theorem eF52 (x : gF52.a.T) : kF env (GofL [(24, [gF24])]) (LofL [(52, [])]) 52 (gF52.args x) (gF52.bs x) gF52.r.dec = gF52.F x := by kernel_rfl
theorem sF52 : SpecAt env 2 52 gF52 := mkSpec (r := 1) (gl := [(24, [gF24])]) (L0 := []) (by kernel_rfl) ⟨⟨sF24.up (by decide), trivial⟩, trivial⟩ trivial eF52 (fun h => absurd h (by rw [show env.nl 52 = false by kernel_rfl]; decide))
def B20_0h0 (a0 : (List Int)) (a1 : Int) (a2 : Int) (a3 : Int) (a4 : Int) (a5 : (List (Int × ByteArray))) (a6 : Int) (a7 : Int) (a8 : Int) (a9 : Int) (a10 : Int) : Option ((((List Int) × ((Int × (Int × (Int × Int))) × (((List (Int × ByteArray)) × (Int × (Int × (Int × Int)))) × Int))) ⊕ ((List Int) × ((Int × (Int × (Int × Int))) × (((List (Int × ByteArray)) × (Int × ((List (Int × (Bool × (Bool × (Int × (Int × (ByteArray × (Int × Int)))))))) × (Int × (Int × Int))))) × Int)))) ⊕ (((Int × (Int × (Int × Int))) × ((List (Int × ByteArray)) × (Int × (Int × (Int × Int))))) ⊕ (((Int × (Int × (Int × Int))) × Int) ⊕ ((Int × (Int × (Int × Int))) × ((List (Int × ByteArray)) × (Int × ((List (Int × (Bool × (Bool × (Int × (Int × (ByteArray × (Int × Int)))))))) × (Int × (Int × Int))))))))) :=
  sel (iLt a10 (lLen a0))
    (sel (oIn a10 (lLen a0)) (
    letS (F52 (lAt a0 a10)) fun y0 =>
    sel (bNot y0)
      (some (.inr (.inr (.inl ((0, (0, (0, 0))), 3)))))
      (sel (oIn a10 (lLen a0)) (
      sel (lCap 64 [((lAt a0 a10), (false, (false, (0, (0, ((bs []), (0, (-1))))))))]) (
      some (.inl (.inr (a0, ((a1, (a2, (a3, a4))), ((a5, (a6, ([((lAt a0 a10), (false, (false, (0, (0, ((bs []), (0, (-1))))))))], (a7, (a8, a9))))), (iAdd .i64 a10 1))))))) none) none)) none)
    (some (.inr (.inl ((a1, (a2, (a3, a4))), (a5, (a6, (a7, (a8, a9))))))))
def B20_0h1 (a0 : (List Int)) (a1 : Int) (a2 : Int) (a3 : Int) (a4 : Int) (a5 : (List (Int × ByteArray))) (a6 : Int) (a7 : (List (Int × (Bool × (Bool × (Int × (Int × (ByteArray × (Int × Int))))))))) (a8 : Int) (a9 : Int) (a10 : Int) (a11 : Int) : Option ((((List Int) × ((Int × (Int × (Int × Int))) × (((List (Int × ByteArray)) × (Int × (Int × (Int × Int)))) × Int))) ⊕ ((List Int) × ((Int × (Int × (Int × Int))) × (((List (Int × ByteArray)) × (Int × ((List (Int × (Bool × (Bool × (Int × (Int × (ByteArray × (Int × Int)))))))) × (Int × (Int × Int))))) × Int)))) ⊕ (((Int × (Int × (Int × Int))) × ((List (Int × ByteArray)) × (Int × (Int × (Int × Int))))) ⊕ (((Int × (Int × (Int × Int))) × Int) ⊕ ((Int × (Int × (Int × Int))) × ((List (Int × ByteArray)) × (Int × ((List (Int × (Bool × (Bool × (Int × (Int × (ByteArray × (Int × Int)))))))) × (Int × (Int × Int))))))))) :=
  sel (iLt a11 (lLen a0))
    (sel (oIn a11 (lLen a0)) (
    letS (F52 (lAt a0 a11)) fun y0 =>
    sel (bNot y0)
      (some (.inr (.inr (.inl ((0, (0, (0, 0))), 3)))))
      (sel (oIn a11 (lLen a0)) (
      sel (lCap 64 (lApp a7 [((lAt a0 a11), (false, (false, (0, (0, ((bs []), (0, (-1))))))))])) (
      some (.inl (.inr (a0, ((a1, (a2, (a3, a4))), ((a5, (a6, ((lApp a7 [((lAt a0 a11), (false, (false, (0, (0, ((bs []), (0, (-1))))))))]), (a8, (a9, a10))))), (iAdd .i64 a11 1))))))) none) none)) none)
    (some (.inr (.inr (.inr ((a1, (a2, (a3, a4))), (a5, (a6, (a7, (a8, (a9, a10))))))))))
def L20_0 (x : (((List Int) × ((Int × (Int × (Int × Int))) × (((List (Int × ByteArray)) × (Int × (Int × (Int × Int)))) × Int))) ⊕ ((List Int) × ((Int × (Int × (Int × Int))) × (((List (Int × ByteArray)) × (Int × ((List (Int × (Bool × (Bool × (Int × (Int × (ByteArray × (Int × Int)))))))) × (Int × (Int × Int))))) × Int))))) : Option (((Int × (Int × (Int × Int))) × ((List (Int × ByteArray)) × (Int × (Int × (Int × Int))))) ⊕ (((Int × (Int × (Int × Int))) × Int) ⊕ ((Int × (Int × (Int × Int))) × ((List (Int × ByteArray)) × (Int × ((List (Int × (Bool × (Bool × (Int × (Int × (ByteArray × (Int × Int)))))))) × (Int × (Int × Int)))))))) := iter (fun (x : (((List Int) × ((Int × (Int × (Int × Int))) × (((List (Int × ByteArray)) × (Int × (Int × (Int × Int)))) × Int))) ⊕ ((List Int) × ((Int × (Int × (Int × Int))) × (((List (Int × ByteArray)) × (Int × ((List (Int × (Bool × (Bool × (Int × (Int × (ByteArray × (Int × Int)))))))) × (Int × (Int × Int))))) × Int))))) => (sumS x (fun x => (B20_0h0 x.1 x.2.1.1 x.2.1.2.1 x.2.1.2.2.1 x.2.1.2.2.2 x.2.2.1.1 x.2.2.1.2.1 x.2.2.1.2.2.1 x.2.2.1.2.2.2.1 x.2.2.1.2.2.2.2 x.2.2.2)) fun x => (B20_0h1 x.1 x.2.1.1 x.2.1.2.1 x.2.1.2.2.1 x.2.1.2.2.2 x.2.2.1.1 x.2.2.1.2.1 x.2.2.1.2.2.1 x.2.2.1.2.2.2.1 x.2.2.1.2.2.2.2.1 x.2.2.1.2.2.2.2.2 x.2.2.2))) fuel x
def lsL20_0 : LS := ⟨(.two (.one .normal ⟨.non, [1, 4, 7, 8], (.seq (.dat (.sl (.int .i64))) (.seq (.box 0 (.seq (.lit (.slice none 0 0)) (.seq (.dat (.int .i64)) (.seq (.lit (.slice none 0 0)) (.seq (.lit (.slice none 0 0)) (.seq (.dat (.int .i64)) (.seq (.dat (.int .i64)) (.dat (.int .i64))))))))) (.seq (.box 1 (.seq (.own 2 (.pr (.int .i64) .str)) (.seq (.dat (.int .i64)) (.seq (.lit (.slice none 0 0)) (.seq (.lit (.slice none 0 0)) (.seq (.dat (.int .i64)) (.seq (.dat (.int .i64)) (.dat (.int .i64))))))))) (.dat (.int .i64))))), 3, 57, 0⟩) (.one .normal ⟨.non, [1, 4, 7, 8], (.seq (.dat (.sl (.int .i64))) (.seq (.box 0 (.seq (.lit (.slice none 0 0)) (.seq (.dat (.int .i64)) (.seq (.lit (.slice none 0 0)) (.seq (.lit (.slice none 0 0)) (.seq (.dat (.int .i64)) (.seq (.dat (.int .i64)) (.dat (.int .i64))))))))) (.seq (.box 1 (.seq (.own 2 (.pr (.int .i64) .str)) (.seq (.dat (.int .i64)) (.seq (.own 3 (.pr (.int .i64) (.pr .bool (.pr .bool (.pr (.int .i64) (.pr (.int .i64) (.pr .str (.pr (.int .i64) (.int .i64))))))))) (.seq (.lit (.slice none 0 0)) (.seq (.dat (.int .i64)) (.seq (.dat (.int .i64)) (.dat (.int .i64))))))))) (.dat (.int .i64))))), 4, 57, 0⟩)), (.two (.one (.exit 0) ⟨.non, [4, 7], (.seq (.box 0 (.seq (.lit (.slice none 0 0)) (.seq (.dat (.int .i64)) (.seq (.lit (.slice none 0 0)) (.seq (.lit (.slice none 0 0)) (.seq (.dat (.int .i64)) (.seq (.dat (.int .i64)) (.dat (.int .i64))))))))) (.box 1 (.seq (.own 2 (.pr (.int .i64) .str)) (.seq (.dat (.int .i64)) (.seq (.lit (.slice none 0 0)) (.seq (.lit (.slice none 0 0)) (.seq (.dat (.int .i64)) (.seq (.dat (.int .i64)) (.dat (.int .i64)))))))))), 3, 57, 0⟩) (.two (.one .ret ⟨.non, [4, 5], (.seq (.box 0 (.seq (.lit (.slice none 0 0)) (.seq (.dat (.int .i64)) (.seq (.lit (.slice none 0 0)) (.seq (.lit (.slice none 0 0)) (.seq (.dat (.int .i64)) (.seq (.dat (.int .i64)) (.dat (.int .i64))))))))) (.dat (.int .i64))), 1, 57, 0⟩) (.one (.exit 0) ⟨.non, [4, 7], (.seq (.box 0 (.seq (.lit (.slice none 0 0)) (.seq (.dat (.int .i64)) (.seq (.lit (.slice none 0 0)) (.seq (.lit (.slice none 0 0)) (.seq (.dat (.int .i64)) (.seq (.dat (.int .i64)) (.dat (.int .i64))))))))) (.box 1 (.seq (.own 2 (.pr (.int .i64) .str)) (.seq (.dat (.int .i64)) (.seq (.own 3 (.pr (.int .i64) (.pr .bool (.pr .bool (.pr (.int .i64) (.pr (.int .i64) (.pr .str (.pr (.int .i64) (.int .i64))))))))) (.seq (.lit (.slice none 0 0)) (.seq (.dat (.int .i64)) (.seq (.dat (.int .i64)) (.dat (.int .i64)))))))))), 4, 57, 0⟩))), fun (x : (((List Int) × ((Int × (Int × (Int × Int))) × (((List (Int × ByteArray)) × (Int × (Int × (Int × Int)))) × Int))) ⊕ ((List Int) × ((Int × (Int × (Int × Int))) × (((List (Int × ByteArray)) × (Int × ((List (Int × (Bool × (Bool × (Int × (Int × (ByteArray × (Int × Int)))))))) × (Int × (Int × Int))))) × Int))))) => (sumS x (fun x => (B20_0h0 x.1 x.2.1.1 x.2.1.2.1 x.2.1.2.2.1 x.2.1.2.2.2 x.2.2.1.1 x.2.2.1.2.1 x.2.2.1.2.2.1 x.2.2.1.2.2.2.1 x.2.2.1.2.2.2.2 x.2.2.2)) fun x => (B20_0h1 x.1 x.2.1.1 x.2.1.2.1 x.2.1.2.2.1 x.2.1.2.2.2 x.2.2.1.1 x.2.2.1.2.1 x.2.2.1.2.2.1 x.2.2.1.2.2.2.1 x.2.2.1.2.2.2.2.1 x.2.2.1.2.2.2.2.2 x.2.2.2))⟩
def B20_2h0 (a0 : Int) (a1 : Int) (a2 : Int) (a3 : Int) (a4 : (List (Int × ByteArray))) (a5 : Int) (a6 : Int) (a7 : Int) (a8 : Int) (a9 : Int) : Option ((((Int × (Int × (Int × Int))) × (((List (Int × ByteArray)) × (Int × (Int × (Int × Int)))) × Int)) ⊕ ((Int × (Int × (Int × Int))) × (((List (Int × ByteArray)) × (Int × ((List Int) × (Int × (Int × Int))))) × Int))) ⊕ (((Int × (Int × (Int × Int))) × ((List (Int × ByteArray)) × (Int × (Int × (Int × Int))))) ⊕ ((Int × (Int × (Int × Int))) × ((List (Int × ByteArray)) × (Int × ((List Int) × (Int × (Int × Int)))))))) :=
  sel (iLt a9 5)
    (sel (lCap 8 [(-1)]) (
    some (.inl (.inr ((a0, (a1, (a2, a3))), ((a4, (a5, ([(-1)], (a6, (a7, a8))))), (iAdd .i64 a9 1)))))) none)
    (some (.inr (.inl ((a0, (a1, (a2, a3))), (a4, (a5, (a6, (a7, a8))))))))
def B20_2h1 (a0 : Int) (a1 : Int) (a2 : Int) (a3 : Int) (a4 : (List (Int × ByteArray))) (a5 : Int) (a6 : (List Int)) (a7 : Int) (a8 : Int) (a9 : Int) (a10 : Int) : Option ((((Int × (Int × (Int × Int))) × (((List (Int × ByteArray)) × (Int × (Int × (Int × Int)))) × Int)) ⊕ ((Int × (Int × (Int × Int))) × (((List (Int × ByteArray)) × (Int × ((List Int) × (Int × (Int × Int))))) × Int))) ⊕ (((Int × (Int × (Int × Int))) × ((List (Int × ByteArray)) × (Int × (Int × (Int × Int))))) ⊕ ((Int × (Int × (Int × Int))) × ((List (Int × ByteArray)) × (Int × ((List Int) × (Int × (Int × Int)))))))) :=
  sel (iLt a10 5)
    (sel (lCap 8 (lApp a6 [(-1)])) (
    some (.inl (.inr ((a0, (a1, (a2, a3))), ((a4, (a5, ((lApp a6 [(-1)]), (a7, (a8, a9))))), (iAdd .i64 a10 1)))))) none)
    (some (.inr (.inr ((a0, (a1, (a2, a3))), (a4, (a5, (a6, (a7, (a8, a9)))))))))
def L20_2 (x : (((Int × (Int × (Int × Int))) × (((List (Int × ByteArray)) × (Int × (Int × (Int × Int)))) × Int)) ⊕ ((Int × (Int × (Int × Int))) × (((List (Int × ByteArray)) × (Int × ((List Int) × (Int × (Int × Int))))) × Int)))) : Option (((Int × (Int × (Int × Int))) × ((List (Int × ByteArray)) × (Int × (Int × (Int × Int))))) ⊕ ((Int × (Int × (Int × Int))) × ((List (Int × ByteArray)) × (Int × ((List Int) × (Int × (Int × Int))))))) := iter (fun (x : (((Int × (Int × (Int × Int))) × (((List (Int × ByteArray)) × (Int × (Int × (Int × Int)))) × Int)) ⊕ ((Int × (Int × (Int × Int))) × (((List (Int × ByteArray)) × (Int × ((List Int) × (Int × (Int × Int))))) × Int)))) => (sumS x (fun x => (B20_2h0 x.1.1 x.1.2.1 x.1.2.2.1 x.1.2.2.2 x.2.1.1 x.2.1.2.1 x.2.1.2.2.1 x.2.1.2.2.2.1 x.2.1.2.2.2.2 x.2.2)) fun x => (B20_2h1 x.1.1 x.1.2.1 x.1.2.2.1 x.1.2.2.2 x.2.1.1 x.2.1.2.1 x.2.1.2.2.1 x.2.1.2.2.2.1 x.2.1.2.2.2.2.1 x.2.1.2.2.2.2.2 x.2.2))) fuel x
def lsL20_2 : LS := ⟨(.two (.one .normal ⟨.non, [4, 7, 9], (.seq (.box 0 (.seq (.lit (.slice none 0 0)) (.seq (.dat (.int .i64)) (.seq (.lit (.slice none 0 0)) (.seq (.lit (.slice none 0 0)) (.seq (.dat (.int .i64)) (.seq (.dat (.int .i64)) (.dat (.int .i64))))))))) (.seq (.box 1 (.seq (.own 2 (.pr (.int .i64) .str)) (.seq (.dat (.int .i64)) (.seq (.lit (.slice none 0 0)) (.seq (.lit (.slice none 0 0)) (.seq (.dat (.int .i64)) (.seq (.dat (.int .i64)) (.dat (.int .i64))))))))) (.dat (.int .i64)))), 3, 57, 0⟩) (.one .normal ⟨.non, [4, 7, 9], (.seq (.box 0 (.seq (.lit (.slice none 0 0)) (.seq (.dat (.int .i64)) (.seq (.lit (.slice none 0 0)) (.seq (.lit (.slice none 0 0)) (.seq (.dat (.int .i64)) (.seq (.dat (.int .i64)) (.dat (.int .i64))))))))) (.seq (.box 1 (.seq (.own 2 (.pr (.int .i64) .str)) (.seq (.dat (.int .i64)) (.seq (.lit (.slice none 0 0)) (.seq (.own 3 (.int .i64)) (.seq (.dat (.int .i64)) (.seq (.dat (.int .i64)) (.dat (.int .i64))))))))) (.dat (.int .i64)))), 4, 57, 0⟩)), (.two (.one (.exit 2) ⟨.non, [4, 7], (.seq (.box 0 (.seq (.lit (.slice none 0 0)) (.seq (.dat (.int .i64)) (.seq (.lit (.slice none 0 0)) (.seq (.lit (.slice none 0 0)) (.seq (.dat (.int .i64)) (.seq (.dat (.int .i64)) (.dat (.int .i64))))))))) (.box 1 (.seq (.own 2 (.pr (.int .i64) .str)) (.seq (.dat (.int .i64)) (.seq (.lit (.slice none 0 0)) (.seq (.lit (.slice none 0 0)) (.seq (.dat (.int .i64)) (.seq (.dat (.int .i64)) (.dat (.int .i64)))))))))), 3, 57, 0⟩) (.one (.exit 2) ⟨.non, [4, 7], (.seq (.box 0 (.seq (.lit (.slice none 0 0)) (.seq (.dat (.int .i64)) (.seq (.lit (.slice none 0 0)) (.seq (.lit (.slice none 0 0)) (.seq (.dat (.int .i64)) (.seq (.dat (.int .i64)) (.dat (.int .i64))))))))) (.box 1 (.seq (.own 2 (.pr (.int .i64) .str)) (.seq (.dat (.int .i64)) (.seq (.lit (.slice none 0 0)) (.seq (.own 3 (.int .i64)) (.seq (.dat (.int .i64)) (.seq (.dat (.int .i64)) (.dat (.int .i64)))))))))), 4, 57, 0⟩)), fun (x : (((Int × (Int × (Int × Int))) × (((List (Int × ByteArray)) × (Int × (Int × (Int × Int)))) × Int)) ⊕ ((Int × (Int × (Int × Int))) × (((List (Int × ByteArray)) × (Int × ((List Int) × (Int × (Int × Int))))) × Int)))) => (sumS x (fun x => (B20_2h0 x.1.1 x.1.2.1 x.1.2.2.1 x.1.2.2.2 x.2.1.1 x.2.1.2.1 x.2.1.2.2.1 x.2.1.2.2.2.1 x.2.1.2.2.2.2 x.2.2)) fun x => (B20_2h1 x.1.1 x.1.2.1 x.1.2.2.1 x.1.2.2.2 x.2.1.1 x.2.1.2.1 x.2.1.2.2.1 x.2.1.2.2.2.1 x.2.1.2.2.2.2.1 x.2.1.2.2.2.2.2 x.2.2))⟩
def B20_2_1h0 (a0 : Int) (a1 : Int) (a2 : Int) (a3 : Int) (a4 : (List (Int × ByteArray))) (a5 : Int) (a6 : (List (Int × (Bool × (Bool × (Int × (Int × (ByteArray × (Int × Int))))))))) (a7 : Int) (a8 : Int) (a9 : Int) (a10 : Int) : Option ((((Int × (Int × (Int × Int))) × (((List (Int × ByteArray)) × (Int × ((List (Int × (Bool × (Bool × (Int × (Int × (ByteArray × (Int × Int)))))))) × (Int × (Int × Int))))) × Int)) ⊕ ((Int × (Int × (Int × Int))) × (((List (Int × ByteArray)) × (Int × ((List (Int × (Bool × (Bool × (Int × (Int × (ByteArray × (Int × Int)))))))) × ((List Int) × (Int × (Int × Int)))))) × Int))) ⊕ (((Int × (Int × (Int × Int))) × ((List (Int × ByteArray)) × (Int × ((List (Int × (Bool × (Bool × (Int × (Int × (ByteArray × (Int × Int)))))))) × (Int × (Int × Int)))))) ⊕ ((Int × (Int × (Int × Int))) × ((List (Int × ByteArray)) × (Int × ((List (Int × (Bool × (Bool × (Int × (Int × (ByteArray × (Int × Int)))))))) × ((List Int) × (Int × (Int × Int))))))))) :=
  sel (iLt a10 5)
    (sel (lCap 8 [(-1)]) (
    some (.inl (.inr ((a0, (a1, (a2, a3))), ((a4, (a5, (a6, ([(-1)], (a7, (a8, a9)))))), (iAdd .i64 a10 1)))))) none)
    (some (.inr (.inl ((a0, (a1, (a2, a3))), (a4, (a5, (a6, (a7, (a8, a9)))))))))
def B20_2_1h1 (a0 : Int) (a1 : Int) (a2 : Int) (a3 : Int) (a4 : (List (Int × ByteArray))) (a5 : Int) (a6 : (List (Int × (Bool × (Bool × (Int × (Int × (ByteArray × (Int × Int))))))))) (a7 : (List Int)) (a8 : Int) (a9 : Int) (a10 : Int) (a11 : Int) : Option ((((Int × (Int × (Int × Int))) × (((List (Int × ByteArray)) × (Int × ((List (Int × (Bool × (Bool × (Int × (Int × (ByteArray × (Int × Int)))))))) × (Int × (Int × Int))))) × Int)) ⊕ ((Int × (Int × (Int × Int))) × (((List (Int × ByteArray)) × (Int × ((List (Int × (Bool × (Bool × (Int × (Int × (ByteArray × (Int × Int)))))))) × ((List Int) × (Int × (Int × Int)))))) × Int))) ⊕ (((Int × (Int × (Int × Int))) × ((List (Int × ByteArray)) × (Int × ((List (Int × (Bool × (Bool × (Int × (Int × (ByteArray × (Int × Int)))))))) × (Int × (Int × Int)))))) ⊕ ((Int × (Int × (Int × Int))) × ((List (Int × ByteArray)) × (Int × ((List (Int × (Bool × (Bool × (Int × (Int × (ByteArray × (Int × Int)))))))) × ((List Int) × (Int × (Int × Int))))))))) :=
  sel (iLt a11 5)
    (sel (lCap 8 (lApp a7 [(-1)])) (
    some (.inl (.inr ((a0, (a1, (a2, a3))), ((a4, (a5, (a6, ((lApp a7 [(-1)]), (a8, (a9, a10)))))), (iAdd .i64 a11 1)))))) none)
    (some (.inr (.inr ((a0, (a1, (a2, a3))), (a4, (a5, (a6, (a7, (a8, (a9, a10))))))))))
def L20_2_1 (x : (((Int × (Int × (Int × Int))) × (((List (Int × ByteArray)) × (Int × ((List (Int × (Bool × (Bool × (Int × (Int × (ByteArray × (Int × Int)))))))) × (Int × (Int × Int))))) × Int)) ⊕ ((Int × (Int × (Int × Int))) × (((List (Int × ByteArray)) × (Int × ((List (Int × (Bool × (Bool × (Int × (Int × (ByteArray × (Int × Int)))))))) × ((List Int) × (Int × (Int × Int)))))) × Int)))) : Option (((Int × (Int × (Int × Int))) × ((List (Int × ByteArray)) × (Int × ((List (Int × (Bool × (Bool × (Int × (Int × (ByteArray × (Int × Int)))))))) × (Int × (Int × Int)))))) ⊕ ((Int × (Int × (Int × Int))) × ((List (Int × ByteArray)) × (Int × ((List (Int × (Bool × (Bool × (Int × (Int × (ByteArray × (Int × Int)))))))) × ((List Int) × (Int × (Int × Int)))))))) := iter (fun (x : (((Int × (Int × (Int × Int))) × (((List (Int × ByteArray)) × (Int × ((List (Int × (Bool × (Bool × (Int × (Int × (ByteArray × (Int × Int)))))))) × (Int × (Int × Int))))) × Int)) ⊕ ((Int × (Int × (Int × Int))) × (((List (Int × ByteArray)) × (Int × ((List (Int × (Bool × (Bool × (Int × (Int × (ByteArray × (Int × Int)))))))) × ((List Int) × (Int × (Int × Int)))))) × Int)))) => (sumS x (fun x => (B20_2_1h0 x.1.1 x.1.2.1 x.1.2.2.1 x.1.2.2.2 x.2.1.1 x.2.1.2.1 x.2.1.2.2.1 x.2.1.2.2.2.1 x.2.1.2.2.2.2.1 x.2.1.2.2.2.2.2 x.2.2)) fun x => (B20_2_1h1 x.1.1 x.1.2.1 x.1.2.2.1 x.1.2.2.2 x.2.1.1 x.2.1.2.1 x.2.1.2.2.1 x.2.1.2.2.2.1 x.2.1.2.2.2.2.1 x.2.1.2.2.2.2.2.1 x.2.1.2.2.2.2.2.2 x.2.2))) fuel x
def lsL20_2_1 : LS := ⟨(.two (.one .normal ⟨.non, [4, 7, 9], (.seq (.box 0 (.seq (.lit (.slice none 0 0)) (.seq (.dat (.int .i64)) (.seq (.lit (.slice none 0 0)) (.seq (.lit (.slice none 0 0)) (.seq (.dat (.int .i64)) (.seq (.dat (.int .i64)) (.dat (.int .i64))))))))) (.seq (.box 1 (.seq (.own 2 (.pr (.int .i64) .str)) (.seq (.dat (.int .i64)) (.seq (.own 3 (.pr (.int .i64) (.pr .bool (.pr .bool (.pr (.int .i64) (.pr (.int .i64) (.pr .str (.pr (.int .i64) (.int .i64))))))))) (.seq (.lit (.slice none 0 0)) (.seq (.dat (.int .i64)) (.seq (.dat (.int .i64)) (.dat (.int .i64))))))))) (.dat (.int .i64)))), 4, 57, 0⟩) (.one .normal ⟨.non, [4, 7, 9], (.seq (.box 0 (.seq (.lit (.slice none 0 0)) (.seq (.dat (.int .i64)) (.seq (.lit (.slice none 0 0)) (.seq (.lit (.slice none 0 0)) (.seq (.dat (.int .i64)) (.seq (.dat (.int .i64)) (.dat (.int .i64))))))))) (.seq (.box 1 (.seq (.own 2 (.pr (.int .i64) .str)) (.seq (.dat (.int .i64)) (.seq (.own 3 (.pr (.int .i64) (.pr .bool (.pr .bool (.pr (.int .i64) (.pr (.int .i64) (.pr .str (.pr (.int .i64) (.int .i64))))))))) (.seq (.own 4 (.int .i64)) (.seq (.dat (.int .i64)) (.seq (.dat (.int .i64)) (.dat (.int .i64))))))))) (.dat (.int .i64)))), 5, 57, 0⟩)), (.two (.one (.exit 2) ⟨.non, [4, 7], (.seq (.box 0 (.seq (.lit (.slice none 0 0)) (.seq (.dat (.int .i64)) (.seq (.lit (.slice none 0 0)) (.seq (.lit (.slice none 0 0)) (.seq (.dat (.int .i64)) (.seq (.dat (.int .i64)) (.dat (.int .i64))))))))) (.box 1 (.seq (.own 2 (.pr (.int .i64) .str)) (.seq (.dat (.int .i64)) (.seq (.own 3 (.pr (.int .i64) (.pr .bool (.pr .bool (.pr (.int .i64) (.pr (.int .i64) (.pr .str (.pr (.int .i64) (.int .i64))))))))) (.seq (.lit (.slice none 0 0)) (.seq (.dat (.int .i64)) (.seq (.dat (.int .i64)) (.dat (.int .i64)))))))))), 4, 57, 0⟩) (.one (.exit 2) ⟨.non, [4, 7], (.seq (.box 0 (.seq (.lit (.slice none 0 0)) (.seq (.dat (.int .i64)) (.seq (.lit (.slice none 0 0)) (.seq (.lit (.slice none 0 0)) (.seq (.dat (.int .i64)) (.seq (.dat (.int .i64)) (.dat (.int .i64))))))))) (.box 1 (.seq (.own 2 (.pr (.int .i64) .str)) (.seq (.dat (.int .i64)) (.seq (.own 3 (.pr (.int .i64) (.pr .bool (.pr .bool (.pr (.int .i64) (.pr (.int .i64) (.pr .str (.pr (.int .i64) (.int .i64))))))))) (.seq (.own 4 (.int .i64)) (.seq (.dat (.int .i64)) (.seq (.dat (.int .i64)) (.dat (.int .i64)))))))))), 5, 57, 0⟩)), fun (x : (((Int × (Int × (Int × Int))) × (((List (Int × ByteArray)) × (Int × ((List (Int × (Bool × (Bool × (Int × (Int × (ByteArray × (Int × Int)))))))) × (Int × (Int × Int))))) × Int)) ⊕ ((Int × (Int × (Int × Int))) × (((List (Int × ByteArray)) × (Int × ((List (Int × (Bool × (Bool × (Int × (Int × (ByteArray × (Int × Int)))))))) × ((List Int) × (Int × (Int × Int)))))) × Int)))) => (sumS x (fun x => (B20_2_1h0 x.1.1 x.1.2.1 x.1.2.2.1 x.1.2.2.2 x.2.1.1 x.2.1.2.1 x.2.1.2.2.1 x.2.1.2.2.2.1 x.2.1.2.2.2.2.1 x.2.1.2.2.2.2.2 x.2.2)) fun x => (B20_2_1h1 x.1.1 x.1.2.1 x.1.2.2.1 x.1.2.2.2 x.2.1.1 x.2.1.2.1 x.2.1.2.2.1 x.2.1.2.2.2.1 x.2.1.2.2.2.2.1 x.2.1.2.2.2.2.2.1 x.2.1.2.2.2.2.2.2 x.2.2))⟩
/-- midrangeref05.Begin -/
def F20 (a0 : ((List (Int × ByteArray)) × Int)) (a1 : (List Int)) : Option (((List (Int × ByteArray)) × (Int × ((List (Int × (Bool × (Bool × (Int × (Int × (ByteArray × (Int × Int)))))))) × ((List Int) × (Int × (Int × Int)))))) × Int) :=
  bndS (F25 a0) fun y0 =>
  sel (bNot (iEq y0 0))
    (some ((([] : List (Int × ByteArray)), (0, (([] : List (Int × (Bool × (Bool × (Int × (Int × (ByteArray × (Int × Int)))))))), (([] : List Int), (0, (0, 0)))))), y0))
    (letS (F24 (lLen a1) 1 8) fun y1 =>
    sel (bNot y1)
      (some ((([] : List (Int × ByteArray)), (0, (([] : List (Int × (Bool × (Bool × (Int × (Int × (ByteArray × (Int × Int)))))))), (([] : List Int), (0, (0, 0)))))), 6))
      (bndS (F18 a0) fun y2 =>
      bndS (L20_0 (.inl (a1, ((0, (0, (0, 0))), ((y2.1, (y2.2, (0, (0, 0)))), 0))))) fun y3 =>
      sumS y3 (fun y3a =>
        bndS (L20_2 (.inl (y3a.1, (y3a.2, 0)))) fun y4 =>
        sumS y4 (fun y4a =>
          some ((y4a.2.1, (y4a.2.2.1, (([] : List (Int × (Bool × (Bool × (Int × (Int × (ByteArray × (Int × Int)))))))), (([] : List Int), y4a.2.2.2)))), 0)) fun y4b =>
          some ((y4b.2.1, (y4b.2.2.1, (([] : List (Int × (Bool × (Bool × (Int × (Int × (ByteArray × (Int × Int)))))))), y4b.2.2.2))), 0)) fun y3ar =>
        sumS y3ar (fun y3aa =>
        some ((([] : List (Int × ByteArray)), (y3aa.1.1, (([] : List (Int × (Bool × (Bool × (Int × (Int × (ByteArray × (Int × Int)))))))), (([] : List Int), y3aa.1.2)))), y3aa.2)) fun y3ab =>
        bndS (L20_2_1 (.inl (y3ab.1, (y3ab.2, 0)))) fun y5 =>
        sumS y5 (fun y5a =>
          some ((y5a.2.1, (y5a.2.2.1, (y5a.2.2.2.1, (([] : List Int), y5a.2.2.2.2)))), 0)) fun y5b =>
          some (y5b.2, 0)))
def gF20 : FS := ⟨(.seq (.agg (.dat (.pr (.sl (.pr (.int .i64) .str)) (.int .i64)))) (.dat (.sl (.int .i64)))), 0, (.one ⟨.non, (.tup (.seq (.agg (.seq (.own 0 (.pr (.int .i64) .str)) (.seq (.dat (.int .i64)) (.seq (.own 1 (.pr (.int .i64) (.pr .bool (.pr .bool (.pr (.int .i64) (.pr (.int .i64) (.pr .str (.pr (.int .i64) (.int .i64))))))))) (.seq (.own 2 (.int .i64)) (.seq (.dat (.int .i64)) (.seq (.dat (.int .i64)) (.dat (.int .i64))))))))) (.dat (.int .i64)))), 0, 3⟩), fun x => (F20 x.1 x.2)⟩
theorem rL20_0 (x : lsL20_0.hd.T) : kRound env (GofL [(52, [gF52]), (18, [gF18]), (24, [gF24]), (25, [gF25])]) (LofL [(20, [(0, lsL20_0), (2, lsL20_2), (2, lsL20_2_1)])]) 20 0 (lpOf Try.prog 20 0).2 (lsL20_0.hd.st x) lsL20_0.rd = lsL20_0.B x := by rcases x with x | x <;> kernel_rfl
theorem rL20_2 (x : lsL20_2.hd.T) : kRound env (GofL [(52, [gF52]), (18, [gF18]), (24, [gF24]), (25, [gF25])]) (LofL [(20, [(0, lsL20_0), (2, lsL20_2), (2, lsL20_2_1)])]) 20 2 (lpOf Try.prog 20 1).2 (lsL20_2.hd.st x) lsL20_2.rd = lsL20_2.B x := by rcases x with x | x <;> kernel_rfl
theorem rL20_2_1 (x : lsL20_2_1.hd.T) : kRound env (GofL [(52, [gF52]), (18, [gF18]), (24, [gF24]), (25, [gF25])]) (LofL [(20, [(0, lsL20_0), (2, lsL20_2), (2, lsL20_2_1)])]) 20 2 (lpOf Try.prog 20 1).2 (lsL20_2_1.hd.st x) lsL20_2_1.rd = lsL20_2_1.B x := by rcases x with x | x <;> kernel_rfl
theorem eF20 (x : gF20.a.T) : kF env (GofL [(52, [gF52]), (18, [gF18]), (24, [gF24]), (25, [gF25])]) (LofL [(20, [(0, lsL20_0), (2, lsL20_2), (2, lsL20_2_1)])]) 20 (gF20.args x) (gF20.bs x) gF20.r.dec = gF20.F x := by kernel_rfl
theorem sF20 : SpecAt env 4 20 gF20 := mkSpec (r := 3) (gl := [(52, [gF52]), (18, [gF18]), (24, [gF24]), (25, [gF25])]) (L0 := [(0, lsL20_0), (2, lsL20_2), (2, lsL20_2_1)]) (by kernel_rfl) ⟨⟨sF52.up (by decide), trivial⟩, ⟨sF18.up (by decide), trivial⟩, ⟨sF24.up (by decide), trivial⟩, ⟨sF25.up (by decide), trivial⟩, trivial⟩ ⟨⟨0, by kernel_rfl, by kernel_rfl, rL20_0⟩, ⟨1, by kernel_rfl, by kernel_rfl, rL20_2⟩, ⟨1, by kernel_rfl, by kernel_rfl, rL20_2_1⟩, trivial⟩ eF20 (fun h => absurd h (by rw [show env.nl 20 = false by kernel_rfl]; decide))
end
end Go.Proofs.Ytagcodkkkebnhaa.K
end

section
set_option linter.unusedVariables false
set_option linter.unusedSimpArgs false
set_option linter.unnecessarySimpa false
open Go Go.Ev Go.Proofs
namespace Go.Proofs.Ytagcodkkkebnhaa.K
set_option linter.unusedVariables false
set_option maxRecDepth 100000
noncomputable section
def B35_0 (a0 : (List (Int × ByteArray))) (a1 : Int) (a2 : (List (Int × ByteArray))) (a3 : Int) (a4 : Int) : Option ((((List (Int × ByteArray)) × Int) × (((List (Int × ByteArray)) × Int) × Int)) ⊕ (Unit ⊕ Bool)) :=
  sel (iLt a4 (lLen a0))
    (sel (oIn a4 (lLen a0)) (
    sel (oIn a4 (lLen a2)) (
    sel (bNot (bAnd (iEq (lAt a0 a4).1 (lAt a2 a4).1) (sEq (lAt a0 a4).2 (lAt a2 a4).2)))
      (some (.inr (.inr false)))
      (some (.inl ((a0, a1), ((a2, a3), (iAdd .i64 a4 1)))))) none) none)
    (some (.inr (.inl ())))
def L35_0 (x : (((List (Int × ByteArray)) × Int) × (((List (Int × ByteArray)) × Int) × Int))) : Option (Unit ⊕ Bool) := iter (fun (x : (((List (Int × ByteArray)) × Int) × (((List (Int × ByteArray)) × Int) × Int))) => (B35_0 x.1.1 x.1.2 x.2.1.1 x.2.1.2 x.2.2)) fuel x
def lsL35_0 : LS := ⟨(.one .normal ⟨.non, [2, 3, 5], (.seq (.box 0 (.seq (.dat (.sl (.pr (.int .i64) .str))) (.dat (.int .i64)))) (.seq (.box 1 (.seq (.dat (.sl (.pr (.int .i64) .str))) (.dat (.int .i64)))) (.dat (.int .i64)))), 2, 38, 0⟩), (.two (.one (.exit 0) ⟨.non, [], .non, 0, 38, 0⟩) (.one .ret ⟨.non, [4], (.dat .bool), 0, 38, 0⟩)), fun (x : (((List (Int × ByteArray)) × Int) × (((List (Int × ByteArray)) × Int) × Int))) => (B35_0 x.1.1 x.1.2 x.2.1.1 x.2.1.2 x.2.2)⟩
/-- midrangeref04.Same -/
def F35 (a0 : ((List (Int × ByteArray)) × Int)) (a1 : ((List (Int × ByteArray)) × Int)) : Option Bool :=
  sel (bOr (bNot (iEq a0.2 a1.2)) (bNot (iEq (lLen a0.1) (lLen a1.1))))
    (some false)
    (bndS (L35_0 (a0, (a1, 0))) fun y0 =>
    sumS y0 (fun y0a =>
      some true) fun y0b =>
      some y0b)
def gF35 : FS := ⟨(.seq (.agg (.dat (.pr (.sl (.pr (.int .i64) .str)) (.int .i64)))) (.agg (.dat (.pr (.sl (.pr (.int .i64) .str)) (.int .i64))))), 0, (.one ⟨.non, (.dat .bool), 0, 0⟩), fun x => (F35 x.1 x.2)⟩
theorem rL35_0 (x : lsL35_0.hd.T) : kRound env (GofL []) (LofL [(35, [(0, lsL35_0)])]) 35 0 (lpOf Try.prog 35 0).2 (lsL35_0.hd.st x) lsL35_0.rd = lsL35_0.B x := by kernel_rfl
theorem eF35 (x : gF35.a.T) : kF env (GofL []) (LofL [(35, [(0, lsL35_0)])]) 35 (gF35.args x) (gF35.bs x) gF35.r.dec = gF35.F x := by kernel_rfl
theorem sF35 : SpecAt env 1 35 gF35 := mkSpec (r := 0) (gl := []) (L0 := [(0, lsL35_0)]) (by kernel_rfl) trivial ⟨⟨0, by kernel_rfl, by kernel_rfl, rL35_0⟩, trivial⟩ eF35 (fun h => absurd h (by rw [show env.nl 35 = false by kernel_rfl]; decide))
def B29_0 (a0 : (List Int)) (a1 : (List Int)) (a2 : Int) : Option (((List Int) × ((List Int) × Int)) ⊕ (Unit ⊕ Bool)) :=
  sel (iLt a2 (lLen a0))
    (sel (oIn a2 (lLen a0)) (
    sel (oIn a2 (lLen a1)) (
    sel (bNot (iEq (lAt a0 a2) (lAt a1 a2)))
      (some (.inr (.inr false)))
      (some (.inl (a0, (a1, (iAdd .i64 a2 1)))))) none) none)
    (some (.inr (.inl ())))
def L29_0 (x : ((List Int) × ((List Int) × Int))) : Option (Unit ⊕ Bool) := iter (fun (x : ((List Int) × ((List Int) × Int))) => (B29_0 x.1 x.2.1 x.2.2)) fuel x
def lsL29_0 : LS := ⟨(.one .normal ⟨.non, [0, 1, 5], (.seq (.dat (.sl (.int .i64))) (.seq (.dat (.sl (.int .i64))) (.dat (.int .i64)))), 0, 26, 0⟩), (.two (.one (.exit 0) ⟨.non, [], .non, 0, 26, 0⟩) (.one .ret ⟨.non, [4], (.dat .bool), 0, 26, 0⟩)), fun (x : ((List Int) × ((List Int) × Int))) => (B29_0 x.1 x.2.1 x.2.2)⟩
/-- midrangebase.Ints -/
def F29 (a0 : (List Int)) (a1 : (List Int)) : Option Bool :=
  sel (bNot (iEq (lLen a0) (lLen a1)))
    (some false)
    (bndS (L29_0 (a0, (a1, 0))) fun y0 =>
    sumS y0 (fun y0a =>
      some true) fun y0b =>
      some y0b)
def gF29 : FS := ⟨(.seq (.dat (.sl (.int .i64))) (.dat (.sl (.int .i64)))), 0, (.one ⟨.non, (.dat .bool), 0, 0⟩), fun x => (F29 x.1 x.2)⟩
theorem rL29_0 (x : lsL29_0.hd.T) : kRound env (GofL []) (LofL [(29, [(0, lsL29_0)])]) 29 0 (lpOf Try.prog 29 0).2 (lsL29_0.hd.st x) lsL29_0.rd = lsL29_0.B x := by kernel_rfl
theorem eF29 (x : gF29.a.T) : kF env (GofL []) (LofL [(29, [(0, lsL29_0)])]) 29 (gF29.args x) (gF29.bs x) gF29.r.dec = gF29.F x := by kernel_rfl
theorem sF29 : SpecAt env 1 29 gF29 := mkSpec (r := 0) (gl := []) (L0 := [(0, lsL29_0)]) (by kernel_rfl) trivial ⟨⟨0, by kernel_rfl, by kernel_rfl, rL29_0⟩, trivial⟩ eF29 (fun h => absurd h (by rw [show env.nl 29 = false by kernel_rfl]; decide))
def B21_0 (a0 : (List (Int × ByteArray))) (a1 : Int) (a2 : (List (Int × (Bool × (Bool × (Int × (Int × (ByteArray × (Int × Int))))))))) (a3 : (List Int)) (a4 : Int) (a5 : Int) (a6 : Int) (a7 : (List (Int × ByteArray))) (a8 : Int) (a9 : (List (Int × (Bool × (Bool × (Int × (Int × (ByteArray × (Int × Int))))))))) (a10 : (List Int)) (a11 : Int) (a12 : Int) (a13 : Int) (a14 : Int) : Option ((((List (Int × ByteArray)) × (Int × ((List (Int × (Bool × (Bool × (Int × (Int × (ByteArray × (Int × Int)))))))) × ((List Int) × (Int × (Int × Int)))))) × (((List (Int × ByteArray)) × (Int × ((List (Int × (Bool × (Bool × (Int × (Int × (ByteArray × (Int × Int)))))))) × ((List Int) × (Int × (Int × Int)))))) × Int)) ⊕ (Unit ⊕ Bool)) :=
  sel (iLt a14 (lLen a2))
    (sel (oIn a14 (lLen a2)) (
    sel (oIn a14 (lLen a9)) (
    sel (bNot (bAnd (iEq (lAt a2 a14).1 (lAt a9 a14).1) (bAnd (bEq (lAt a2 a14).2.1 (lAt a9 a14).2.1) (bAnd (bEq (lAt a2 a14).2.2.1 (lAt a9 a14).2.2.1) (bAnd (iEq (lAt a2 a14).2.2.2.1 (lAt a9 a14).2.2.2.1) (bAnd (iEq (lAt a2 a14).2.2.2.2.1 (lAt a9 a14).2.2.2.2.1) (bAnd (sEq (lAt a2 a14).2.2.2.2.2.1 (lAt a9 a14).2.2.2.2.2.1) (bAnd (iEq (lAt a2 a14).2.2.2.2.2.2.1 (lAt a9 a14).2.2.2.2.2.2.1) (iEq (lAt a2 a14).2.2.2.2.2.2.2 (lAt a9 a14).2.2.2.2.2.2.2)))))))))
      (some (.inr (.inr false)))
      (some (.inl ((a0, (a1, (a2, (a3, (a4, (a5, a6)))))), ((a7, (a8, (a9, (a10, (a11, (a12, a13)))))), (iAdd .i64 a14 1)))))) none) none)
    (some (.inr (.inl ())))
def L21_0 (x : (((List (Int × ByteArray)) × (Int × ((List (Int × (Bool × (Bool × (Int × (Int × (ByteArray × (Int × Int)))))))) × ((List Int) × (Int × (Int × Int)))))) × (((List (Int × ByteArray)) × (Int × ((List (Int × (Bool × (Bool × (Int × (Int × (ByteArray × (Int × Int)))))))) × ((List Int) × (Int × (Int × Int)))))) × Int))) : Option (Unit ⊕ Bool) := iter (fun (x : (((List (Int × ByteArray)) × (Int × ((List (Int × (Bool × (Bool × (Int × (Int × (ByteArray × (Int × Int)))))))) × ((List Int) × (Int × (Int × Int)))))) × (((List (Int × ByteArray)) × (Int × ((List (Int × (Bool × (Bool × (Int × (Int × (ByteArray × (Int × Int)))))))) × ((List Int) × (Int × (Int × Int)))))) × Int))) => (B21_0 x.1.1 x.1.2.1 x.1.2.2.1 x.1.2.2.2.1 x.1.2.2.2.2.1 x.1.2.2.2.2.2.1 x.1.2.2.2.2.2.2 x.2.1.1 x.2.1.2.1 x.2.1.2.2.1 x.2.1.2.2.2.1 x.2.1.2.2.2.2.1 x.2.1.2.2.2.2.2.1 x.2.1.2.2.2.2.2.2 x.2.2)) fuel x
def lsL21_0 : LS := ⟨(.one .normal ⟨.non, [2, 3, 5], (.seq (.box 0 (.seq (.dat (.sl (.pr (.int .i64) .str))) (.seq (.dat (.int .i64)) (.seq (.dat (.sl (.pr (.int .i64) (.pr .bool (.pr .bool (.pr (.int .i64) (.pr (.int .i64) (.pr .str (.pr (.int .i64) (.int .i64)))))))))) (.seq (.dat (.sl (.int .i64))) (.seq (.dat (.int .i64)) (.seq (.dat (.int .i64)) (.dat (.int .i64))))))))) (.seq (.box 1 (.seq (.dat (.sl (.pr (.int .i64) .str))) (.seq (.dat (.int .i64)) (.seq (.dat (.sl (.pr (.int .i64) (.pr .bool (.pr .bool (.pr (.int .i64) (.pr (.int .i64) (.pr .str (.pr (.int .i64) (.int .i64)))))))))) (.seq (.dat (.sl (.int .i64))) (.seq (.dat (.int .i64)) (.seq (.dat (.int .i64)) (.dat (.int .i64))))))))) (.dat (.int .i64)))), 2, 68, 0⟩), (.two (.one (.exit 0) ⟨.non, [], .non, 0, 68, 0⟩) (.one .ret ⟨.non, [4], (.dat .bool), 0, 68, 0⟩)), fun (x : (((List (Int × ByteArray)) × (Int × ((List (Int × (Bool × (Bool × (Int × (Int × (ByteArray × (Int × Int)))))))) × ((List Int) × (Int × (Int × Int)))))) × (((List (Int × ByteArray)) × (Int × ((List (Int × (Bool × (Bool × (Int × (Int × (ByteArray × (Int × Int)))))))) × ((List Int) × (Int × (Int × Int)))))) × Int))) => (B21_0 x.1.1 x.1.2.1 x.1.2.2.1 x.1.2.2.2.1 x.1.2.2.2.2.1 x.1.2.2.2.2.2.1 x.1.2.2.2.2.2.2 x.2.1.1 x.2.1.2.1 x.2.1.2.2.1 x.2.1.2.2.2.1 x.2.1.2.2.2.2.1 x.2.1.2.2.2.2.2.1 x.2.1.2.2.2.2.2.2 x.2.2)⟩
/-- midrangeref05.Same -/
def F21 (a0 : (((List (Int × ByteArray)) × Int) × ((List (Int × (Bool × (Bool × (Int × (Int × (ByteArray × (Int × Int)))))))) × ((List Int) × (Int × (Int × Int)))))) (a1 : (((List (Int × ByteArray)) × Int) × ((List (Int × (Bool × (Bool × (Int × (Int × (ByteArray × (Int × Int)))))))) × ((List Int) × (Int × (Int × Int)))))) : Option Bool :=
  bndS (F35 a0.1 a1.1) fun y0 =>
  sel (bOr (okS (F29 a0.2.2.1 a1.2.2.1)) (bNot (bNot (bNot y0)))) (
  letS (valS (F29 a0.2.2.1 a1.2.2.1) false) fun y1 =>
  sel (bOr (bOr (bOr (bOr (bOr (bNot y0) (bNot y1)) (bNot (iEq a0.2.2.2.1 a1.2.2.2.1))) (bNot (iEq a0.2.2.2.2.1 a1.2.2.2.2.1))) (bNot (iEq a0.2.2.2.2.2 a1.2.2.2.2.2))) (bNot (iEq (lLen a0.2.1) (lLen a1.2.1))))
    (some false)
    (bndS (L21_0 ((a0.1.1, (a0.1.2, a0.2)), ((a1.1.1, (a1.1.2, a1.2)), 0))) fun y2 =>
    sumS y2 (fun y2a =>
      some true) fun y2b =>
      some y2b)) none
def gF21 : FS := ⟨(.seq (.agg (.dat (.pr (.pr (.sl (.pr (.int .i64) .str)) (.int .i64)) (.pr (.sl (.pr (.int .i64) (.pr .bool (.pr .bool (.pr (.int .i64) (.pr (.int .i64) (.pr .str (.pr (.int .i64) (.int .i64))))))))) (.pr (.sl (.int .i64)) (.pr (.int .i64) (.pr (.int .i64) (.int .i64)))))))) (.agg (.dat (.pr (.pr (.sl (.pr (.int .i64) .str)) (.int .i64)) (.pr (.sl (.pr (.int .i64) (.pr .bool (.pr .bool (.pr (.int .i64) (.pr (.int .i64) (.pr .str (.pr (.int .i64) (.int .i64))))))))) (.pr (.sl (.int .i64)) (.pr (.int .i64) (.pr (.int .i64) (.int .i64))))))))), 0, (.one ⟨.non, (.dat .bool), 0, 0⟩), fun x => (F21 x.1 x.2)⟩
theorem rL21_0 (x : lsL21_0.hd.T) : kRound env (GofL [(29, [gF29]), (35, [gF35])]) (LofL [(21, [(0, lsL21_0)])]) 21 0 (lpOf Try.prog 21 0).2 (lsL21_0.hd.st x) lsL21_0.rd = lsL21_0.B x := by kernel_rfl
theorem eF21 (x : gF21.a.T) : kF env (GofL [(29, [gF29]), (35, [gF35])]) (LofL [(21, [(0, lsL21_0)])]) 21 (gF21.args x) (gF21.bs x) gF21.r.dec = gF21.F x := by kernel_rfl
theorem sF21 : SpecAt env 2 21 gF21 := mkSpec (r := 1) (gl := [(29, [gF29]), (35, [gF35])]) (L0 := [(0, lsL21_0)]) (by kernel_rfl) ⟨⟨sF29.up (by decide), trivial⟩, ⟨sF35.up (by decide), trivial⟩, trivial⟩ ⟨⟨0, by kernel_rfl, by kernel_rfl, rL21_0⟩, trivial⟩ eF21 (fun h => absurd h (by rw [show env.nl 21 = false by kernel_rfl]; decide))
/-- midrangelaw05.PagingBegins -/
def F4 (a0 : ((List (Int × ByteArray)) × Int)) (a1 : (List Int)) : Option Bool :=
  bndS (F11) fun y0 =>
  sel (bNot y0)
    (some false)
    (bndS (F16 a0) fun y1 =>
    sel (bOr (bNot y1) (iLt 10 (lLen a1)))
      (some true)
      (bndS (F18 a0) fun y2 =>
      bndS (F19 a1) fun y3 =>
      bndS (F17 y2 y3) fun y4 =>
      bndS (F20 a0 a1) fun y5 =>
      sel (bOr (okS (F21 ((y4.1.1, y4.1.2.1), y4.1.2.2) ((y5.1.1, y5.1.2.1), y5.1.2.2))) (bNot (iEq y4.2 y5.2))) (
      letS (valS (F21 ((y4.1.1, y4.1.2.1), y4.1.2.2) ((y5.1.1, y5.1.2.1), y5.1.2.2)) false) fun y6 =>
      some (bAnd (iEq y4.2 y5.2) y6)) none))
def gF4 : FS := ⟨(.seq (.agg (.dat (.pr (.sl (.pr (.int .i64) .str)) (.int .i64)))) (.dat (.sl (.int .i64)))), 0, (.one ⟨.non, (.dat .bool), 0, 0⟩), fun x => (F4 x.1 x.2)⟩
theorem eF4 (x : gF4.a.T) : kF env (GofL [(21, [gF21]), (20, [gF20]), (17, [gF17]), (19, [gF19]), (18, [gF18]), (16, [gF16]), (11, [gF11])]) (LofL [(4, [])]) 4 (gF4.args x) (gF4.bs x) gF4.r.dec = gF4.F x := by kernel_rfl
theorem sF4 : SpecAt env 11 4 gF4 := mkSpec (r := 10) (gl := [(21, [gF21]), (20, [gF20]), (17, [gF17]), (19, [gF19]), (18, [gF18]), (16, [gF16]), (11, [gF11])]) (L0 := []) (by kernel_rfl) ⟨⟨sF21.up (by decide), trivial⟩, ⟨sF20.up (by decide), trivial⟩, ⟨sF17.up (by decide), trivial⟩, ⟨sF19.up (by decide), trivial⟩, ⟨sF18.up (by decide), trivial⟩, ⟨sF16.up (by decide), trivial⟩, ⟨sF11.up (by decide), trivial⟩, trivial⟩ trivial eF4 (fun h => absurd h (by rw [show env.nl 4 = false by kernel_rfl]; decide))
/-- midrangelaw05.PagingFound -/
def F5 (a0 : (((List (Int × ByteArray)) × Int) × ((List (Int × (Bool × (Bool × (Int × (Int × (ByteArray × (Int × Int)))))))) × ((List Int) × (Int × (Int × Int)))))) (a1 : (Int × (Int × ((Int × Int) × (Int × ByteArray))))) : Option Bool :=
  bndS (F11) fun y0 =>
  sel (bNot y0)
    (some false)
    (bndS (F12 a0) fun y1 =>
    sel (bOr (bOr (bNot y1) (iLt 400 (sLen a1.2.2.2.2))) (bAnd (bNot (iEq a1.1 0)) (bNot (iEq a1.1 1))))
      (some true)
      (bndS (F14 a0) fun y2 =>
      bndS (F22 ((y2.1, y2.2.1), y2.2.2) a1) fun y3 =>
      sel (bOr (bNot (iEq y3.2.2 0)) (iEq (iAdd .i64 a1.2.2.2.1 (sLen a1.2.2.2.2)) 0))
        (some true)
        (sel (oNz 32) (
        bndS (F14 ((y3.1.1, y3.1.2.1), y3.1.2.2)) fun y4 =>
        bndS (F23 ((y4.1, y4.2.1), y4.2.2) a1.2.2.1.1 (iQuo .i64 (iSub .i64 (iAdd .i64 (iAdd .i64 a1.2.2.1.2 a1.2.2.2.1) (sLen a1.2.2.2.2)) 1) 32)) fun y5 =>
        sel (bNot (iEq y5.2.2 0))
          (some false)
          (bndS (F14 ((y3.1.1, y3.1.2.1), y3.1.2.2)) fun y6 =>
          bndS (F22 ((y6.1, y6.2.1), y6.2.2) (0, (a1.2.1, ((a1.2.2.1.1, (iMul .i64 (iQuo .i64 (iSub .i64 (iAdd .i64 (iAdd .i64 a1.2.2.1.2 a1.2.2.2.1) (sLen a1.2.2.2.2)) 1) 32) 32)), (1, (bs [])))))) fun y7 =>
          sel (iEq y3.1.2.2.2.2.1 999999999999999)
            (some (iEq y7.2.2 30))
            (some (bAnd (bAnd (iEq y7.2.2 0) (iEq y7.1.2.2.2.2.2.1 y3.1.2.2.2.2.2.1)) (iEq y7.1.2.2.2.2.2.2 y3.1.2.2.2.2.2.2))))) none)))
def gF5 : FS := ⟨(.seq (.agg (.dat (.pr (.pr (.sl (.pr (.int .i64) .str)) (.int .i64)) (.pr (.sl (.pr (.int .i64) (.pr .bool (.pr .bool (.pr (.int .i64) (.pr (.int .i64) (.pr .str (.pr (.int .i64) (.int .i64))))))))) (.pr (.sl (.int .i64)) (.pr (.int .i64) (.pr (.int .i64) (.int .i64)))))))) (.agg (.dat (.pr (.int .i64) (.pr (.int .i64) (.pr (.pr (.int .i64) (.int .i64)) (.pr (.int .i64) .str))))))), 0, (.one ⟨.non, (.dat .bool), 0, 0⟩), fun x => (F5 x.1 x.2)⟩
theorem eF5 (x : gF5.a.T) : kF env (GofL [(22, [gF22]), (14, [gF14]), (23, [gF23]), (12, [gF12]), (11, [gF11])]) (LofL [(5, [])]) 5 (gF5.args x) (gF5.bs x) gF5.r.dec = gF5.F x := by kernel_rfl
theorem sF5 : SpecAt env 11 5 gF5 := mkSpec (r := 10) (gl := [(22, [gF22]), (14, [gF14]), (23, [gF23]), (12, [gF12]), (11, [gF11])]) (L0 := []) (by kernel_rfl) ⟨⟨sF22.up (by decide), trivial⟩, ⟨sF14.up (by decide), trivial⟩, ⟨sF23.up (by decide), trivial⟩, ⟨sF12.up (by decide), trivial⟩, ⟨sF11.up (by decide), trivial⟩, trivial⟩ trivial eF5 (fun h => absurd h (by rw [show env.nl 5 = false by kernel_rfl]; decide))
/-- midrangeref04.NumberErr -/
def F101 (a0 : ((List (Int × ByteArray)) × Int)) (a1 : Int) : Option Int :=
  bndS (F90 a0 a1) fun y0 =>
  sel (bNot (iEq y0 (-1)))
    (some 0)
    (letS (F24 a1 1 (iSub .i64 a0.2 1)) fun y1 =>
    sel y1
      (some 24)
      (some 11))
def gF101 : FS := ⟨(.seq (.agg (.dat (.pr (.sl (.pr (.int .i64) .str)) (.int .i64)))) (.dat (.int .i64))), 0, (.one ⟨.non, (.dat (.int .i64)), 0, 0⟩), fun x => (F101 x.1 x.2)⟩
theorem eF101 (x : gF101.a.T) : kF env (GofL [(24, [gF24]), (90, [gF90])]) (LofL [(101, [])]) 101 (gF101.args x) (gF101.bs x) gF101.r.dec = gF101.F x := by kernel_rfl
theorem sF101 : SpecAt env 2 101 gF101 := mkSpec (r := 1) (gl := [(24, [gF24]), (90, [gF90])]) (L0 := []) (by kernel_rfl) ⟨⟨sF24.up (by decide), trivial⟩, ⟨sF90.up (by decide), trivial⟩, trivial⟩ trivial eF101 (fun h => absurd h (by rw [show env.nl 101 = false by kernel_rfl]; decide))
/-- midrangeref04.known -/
def F85 (a0 : ((List (Int × ByteArray)) × Int)) (a1 : Int) : Option (Int × Int) :=
  bndS (F25 a0) fun y0 =>
  sel (bNot (iEq y0 0))
    (some ((-1), y0))
    (bndS (F90 a0 a1) fun y1 =>
    bndS (F101 a0 a1) fun y2 =>
    some (y1, y2))
def gF85 : FS := ⟨(.seq (.agg (.dat (.pr (.sl (.pr (.int .i64) .str)) (.int .i64)))) (.dat (.int .i64))), 0, (.one ⟨.non, (.tup (.seq (.dat (.int .i64)) (.dat (.int .i64)))), 0, 0⟩), fun x => (F85 x.1 x.2)⟩
theorem eF85 (x : gF85.a.T) : kF env (GofL [(101, [gF101]), (90, [gF90]), (25, [gF25])]) (LofL [(85, [])]) 85 (gF85.args x) (gF85.bs x) gF85.r.dec = gF85.F x := by kernel_rfl
theorem sF85 : SpecAt env 4 85 gF85 := mkSpec (r := 3) (gl := [(101, [gF101]), (90, [gF90]), (25, [gF25])]) (L0 := []) (by kernel_rfl) ⟨⟨sF101.up (by decide), trivial⟩, ⟨sF90.up (by decide), trivial⟩, ⟨sF25.up (by decide), trivial⟩, trivial⟩ trivial eF85 (fun h => absurd h (by rw [show env.nl 85 = false by kernel_rfl]; decide))
/-- midrangeref04.reach -/
def F57 (a0 : ((List (Int × ByteArray)) × Int)) (a1 : (Int × Int)) (a2 : Int) : Option (Int × Int) :=
  bndS (F85 a0 a1.1) fun y0 =>
  sel (bNot (iEq y0.2 0))
    (some y0)
    (sel (oIn y0.1 (lLen a0.1)) (
    letS (F24 a1.2 0 (sLen (lAt a0.1 y0.1).2)) fun y1 =>
    letS (F24 a2 0 (iSub .i64 (sLen (lAt a0.1 y0.1).2) a1.2)) fun y2 =>
    sel (bOr (bNot y1) (bNot y2))
      (some (y0.1, 3))
      (some (y0.1, 0))) none)
def gF57 : FS := ⟨(.seq (.agg (.dat (.pr (.sl (.pr (.int .i64) .str)) (.int .i64)))) (.seq (.agg (.dat (.pr (.int .i64) (.int .i64)))) (.dat (.int .i64)))), 0, (.one ⟨.non, (.tup (.seq (.dat (.int .i64)) (.dat (.int .i64)))), 0, 0⟩), fun x => (F57 x.1 x.2.1 x.2.2)⟩
theorem eF57 (x : gF57.a.T) : kF env (GofL [(24, [gF24]), (85, [gF85])]) (LofL [(57, [])]) 57 (gF57.args x) (gF57.bs x) gF57.r.dec = gF57.F x := by kernel_rfl
theorem sF57 : SpecAt env 5 57 gF57 := mkSpec (r := 4) (gl := [(24, [gF24]), (85, [gF85])]) (L0 := []) (by kernel_rfl) ⟨⟨sF24.up (by decide), trivial⟩, ⟨sF85.up (by decide), trivial⟩, trivial⟩ trivial eF57 (fun h => absurd h (by rw [show env.nl 57 = false by kernel_rfl]; decide))
/-- midrangeref04.ReadAt -/
def F26 (a0 : ((List (Int × ByteArray)) × Int)) (a1 : (Int × Int)) (a2 : Int) : Option ((List (Int × ByteArray)) × (Int × (Int × (ByteArray × Int)))) :=
  bndS (F57 a0 a1 a2) fun y0 =>
  sel (bNot (iEq y0.2 0))
    (some (([] : List (Int × ByteArray)), (0, (0, ((bs []), y0.2)))))
    (sel (oIn y0.1 (lLen a0.1)) (
    sel (oCut a1.2 (iAdd .i64 a1.2 a2) (sLen (lAt a0.1 y0.1).2)) (
    some (([] : List (Int × ByteArray)), (0, (0, ((sCut (lAt a0.1 y0.1).2 a1.2 (iAdd .i64 a1.2 a2)), 0))))) none) none)
def gF26 : FS := ⟨(.seq (.agg (.dat (.pr (.sl (.pr (.int .i64) .str)) (.int .i64)))) (.seq (.agg (.dat (.pr (.int .i64) (.int .i64)))) (.dat (.int .i64)))), 0, (.one ⟨.non, (.agg (.seq (.own 0 (.pr (.int .i64) .str)) (.seq (.dat (.int .i64)) (.seq (.dat (.int .i64)) (.seq (.dat .str) (.dat (.int .i64))))))), 0, 1⟩), fun x => (F26 x.1 x.2.1 x.2.2)⟩
theorem eF26 (x : gF26.a.T) : kF env (GofL [(57, [gF57])]) (LofL [(26, [])]) 26 (gF26.args x) (gF26.bs x) gF26.r.dec = gF26.F x := by kernel_rfl
theorem sF26 : SpecAt env 6 26 gF26 := mkSpec (r := 5) (gl := [(57, [gF57])]) (L0 := []) (by kernel_rfl) ⟨⟨sF57.up (by decide), trivial⟩, trivial⟩ trivial eF26 (fun h => absurd h (by rw [show env.nl 26 = false by kernel_rfl]; decide))
def B6_0 (a0 : Int) (a1 : (List (Int × Int))) (a2 : (List (Int × ByteArray))) (a3 : Int) (a4 : (List (Int × ByteArray))) (a5 : Int) (a6 : (List (Int × (Bool × (Bool × (Int × (Int × (ByteArray × (Int × Int))))))))) (a7 : (List Int)) (a8 : Int) (a9 : Int) (a10 : Int) (a11 : (List (Int × ByteArray))) (a12 : Int) (a13 : (List (Int × (Bool × (Bool × (Int × (Int × (ByteArray × (Int × Int))))))))) (a14 : (List Int)) (a15 : Int) (a16 : Int) (a17 : Int) (a18 : Int) : Option ((Int × ((List (Int × Int)) × (((List (Int × ByteArray)) × Int) × (((List (Int × ByteArray)) × (Int × ((List (Int × (Bool × (Bool × (Int × (Int × (ByteArray × (Int × Int)))))))) × ((List Int) × (Int × (Int × Int)))))) × (((List (Int × ByteArray)) × (Int × ((List (Int × (Bool × (Bool × (Int × (Int × (ByteArray × (Int × Int)))))))) × ((List Int) × (Int × (Int × Int)))))) × Int))))) ⊕ ((Int × (((List (Int × ByteArray)) × (Int × ((List (Int × (Bool × (Bool × (Int × (Int × (ByteArray × (Int × Int)))))))) × ((List Int) × (Int × (Int × Int)))))) × ((List (Int × ByteArray)) × (Int × ((List (Int × (Bool × (Bool × (Int × (Int × (ByteArray × (Int × Int)))))))) × ((List Int) × (Int × (Int × Int)))))))) ⊕ Bool)) :=
  sel (iLt a18 (lLen a1))
    (sel (oIn a18 (lLen a1)) (
    sel (oIn a18 (lLen a1)) (
    bndS (F26 (a2, a3) (lAt a1 a18) 1) fun y0 =>
    sel (bNot (iEq y0.2.2.2.2 0))
      (some (.inl (a0, (a1, ((a2, a3), ((a4, (a5, (a6, (a7, (a8, (a9, a10)))))), ((a11, (a12, (a13, (a14, (a15, (a16, a17)))))), (iAdd .i64 a18 1))))))))
      (bndS (F22 ((a4, a5), (a6, (a7, (a8, (a9, a10))))) (0, (0, ((lAt a1 a18), (1, (bs [])))))) fun y1 =>
      bndS (F22 ((a11, a12), (a13, (a14, (a15, (a16, a17))))) (0, (0, ((lAt a1 a18), (1, (bs [])))))) fun y2 =>
      sel (bOr (bNot (iEq y1.2.2 0)) (bNot (iEq y2.2.2 0)))
        (some (.inr (.inr false)))
        (some (.inl (a0, (a1, ((a2, a3), (y1.1, (y2.1, (iAdd .i64 a18 1)))))))))) none) none)
    (some (.inr (.inl (a0, ((a4, (a5, (a6, (a7, (a8, (a9, a10)))))), (a11, (a12, (a13, (a14, (a15, (a16, a17)))))))))))
def L6_0 (x : (Int × ((List (Int × Int)) × (((List (Int × ByteArray)) × Int) × (((List (Int × ByteArray)) × (Int × ((List (Int × (Bool × (Bool × (Int × (Int × (ByteArray × (Int × Int)))))))) × ((List Int) × (Int × (Int × Int)))))) × (((List (Int × ByteArray)) × (Int × ((List (Int × (Bool × (Bool × (Int × (Int × (ByteArray × (Int × Int)))))))) × ((List Int) × (Int × (Int × Int)))))) × Int)))))) : Option ((Int × (((List (Int × ByteArray)) × (Int × ((List (Int × (Bool × (Bool × (Int × (Int × (ByteArray × (Int × Int)))))))) × ((List Int) × (Int × (Int × Int)))))) × ((List (Int × ByteArray)) × (Int × ((List (Int × (Bool × (Bool × (Int × (Int × (ByteArray × (Int × Int)))))))) × ((List Int) × (Int × (Int × Int)))))))) ⊕ Bool) := iter (fun (x : (Int × ((List (Int × Int)) × (((List (Int × ByteArray)) × Int) × (((List (Int × ByteArray)) × (Int × ((List (Int × (Bool × (Bool × (Int × (Int × (ByteArray × (Int × Int)))))))) × ((List Int) × (Int × (Int × Int)))))) × (((List (Int × ByteArray)) × (Int × ((List (Int × (Bool × (Bool × (Int × (Int × (ByteArray × (Int × Int)))))))) × ((List Int) × (Int × (Int × Int)))))) × Int)))))) => (B6_0 x.1 x.2.1 x.2.2.1.1 x.2.2.1.2 x.2.2.2.1.1 x.2.2.2.1.2.1 x.2.2.2.1.2.2.1 x.2.2.2.1.2.2.2.1 x.2.2.2.1.2.2.2.2.1 x.2.2.2.1.2.2.2.2.2.1 x.2.2.2.1.2.2.2.2.2.2 x.2.2.2.2.1.1 x.2.2.2.2.1.2.1 x.2.2.2.2.1.2.2.1 x.2.2.2.2.1.2.2.2.1 x.2.2.2.2.1.2.2.2.2.1 x.2.2.2.2.1.2.2.2.2.2.1 x.2.2.2.2.1.2.2.2.2.2.2 x.2.2.2.2.2)) fuel x
def lsL6_0 : LS := ⟨(.one .normal ⟨.non, [1, 2, 3, 7, 9, 11], (.seq (.dat (.int .i64)) (.seq (.dat (.sl (.pr (.int .i64) (.int .i64)))) (.seq (.box 0 (.seq (.dat (.sl (.pr (.int .i64) .str))) (.dat (.int .i64)))) (.seq (.box 1 (.seq (.own 2 (.pr (.int .i64) .str)) (.seq (.dat (.int .i64)) (.seq (.own 3 (.pr (.int .i64) (.pr .bool (.pr .bool (.pr (.int .i64) (.pr (.int .i64) (.pr .str (.pr (.int .i64) (.int .i64))))))))) (.seq (.own 4 (.int .i64)) (.seq (.dat (.int .i64)) (.seq (.dat (.int .i64)) (.dat (.int .i64))))))))) (.seq (.box 5 (.seq (.own 6 (.pr (.int .i64) .str)) (.seq (.dat (.int .i64)) (.seq (.own 7 (.pr (.int .i64) (.pr .bool (.pr .bool (.pr (.int .i64) (.pr (.int .i64) (.pr .str (.pr (.int .i64) (.int .i64))))))))) (.seq (.own 8 (.int .i64)) (.seq (.dat (.int .i64)) (.seq (.dat (.int .i64)) (.dat (.int .i64))))))))) (.dat (.int .i64))))))), 9, 138, 0⟩), (.two (.one (.exit 0) ⟨.non, [1, 7, 9], (.seq (.dat (.int .i64)) (.seq (.box 0 (.seq (.own 1 (.pr (.int .i64) .str)) (.seq (.dat (.int .i64)) (.seq (.own 2 (.pr (.int .i64) (.pr .bool (.pr .bool (.pr (.int .i64) (.pr (.int .i64) (.pr .str (.pr (.int .i64) (.int .i64))))))))) (.seq (.own 3 (.int .i64)) (.seq (.dat (.int .i64)) (.seq (.dat (.int .i64)) (.dat (.int .i64))))))))) (.box 4 (.seq (.own 5 (.pr (.int .i64) .str)) (.seq (.dat (.int .i64)) (.seq (.own 6 (.pr (.int .i64) (.pr .bool (.pr .bool (.pr (.int .i64) (.pr (.int .i64) (.pr .str (.pr (.int .i64) (.int .i64))))))))) (.seq (.own 7 (.int .i64)) (.seq (.dat (.int .i64)) (.seq (.dat (.int .i64)) (.dat (.int .i64))))))))))), 8, 138, 0⟩) (.one .ret ⟨.non, [6], (.dat .bool), 0, 138, 0⟩)), fun (x : (Int × ((List (Int × Int)) × (((List (Int × ByteArray)) × Int) × (((List (Int × ByteArray)) × (Int × ((List (Int × (Bool × (Bool × (Int × (Int × (ByteArray × (Int × Int)))))))) × ((List Int) × (Int × (Int × Int)))))) × (((List (Int × ByteArray)) × (Int × ((List (Int × (Bool × (Bool × (Int × (Int × (ByteArray × (Int × Int)))))))) × ((List Int) × (Int × (Int × Int)))))) × Int)))))) => (B6_0 x.1 x.2.1 x.2.2.1.1 x.2.2.1.2 x.2.2.2.1.1 x.2.2.2.1.2.1 x.2.2.2.1.2.2.1 x.2.2.2.1.2.2.2.1 x.2.2.2.1.2.2.2.2.1 x.2.2.2.1.2.2.2.2.2.1 x.2.2.2.1.2.2.2.2.2.2 x.2.2.2.2.1.1 x.2.2.2.2.1.2.1 x.2.2.2.2.1.2.2.1 x.2.2.2.2.1.2.2.2.1 x.2.2.2.2.1.2.2.2.2.1 x.2.2.2.2.1.2.2.2.2.2.1 x.2.2.2.2.1.2.2.2.2.2.2 x.2.2.2.2.2)⟩
def B6_2 (a0 : Int) (a1 : (List (Int × ByteArray))) (a2 : Int) (a3 : (List (Int × (Bool × (Bool × (Int × (Int × (ByteArray × (Int × Int))))))))) (a4 : (List Int)) (a5 : Int) (a6 : Int) (a7 : Int) (a8 : (List (Int × ByteArray))) (a9 : Int) (a10 : (List (Int × (Bool × (Bool × (Int × (Int × (ByteArray × (Int × Int))))))))) (a11 : (List Int)) (a12 : Int) (a13 : Int) (a14 : Int) (a15 : Int) : Option ((Int × (((List (Int × ByteArray)) × (Int × ((List (Int × (Bool × (Bool × (Int × (Int × (ByteArray × (Int × Int)))))))) × ((List Int) × (Int × (Int × Int)))))) × (((List (Int × ByteArray)) × (Int × ((List (Int × (Bool × (Bool × (Int × (Int × (ByteArray × (Int × Int)))))))) × ((List Int) × (Int × (Int × Int)))))) × Int))) ⊕ ((Int × ((List (Int × ByteArray)) × (Int × ((List (Int × (Bool × (Bool × (Int × (Int × (ByteArray × (Int × Int)))))))) × ((List Int) × (Int × (Int × Int))))))) ⊕ Bool)) :=
  sel (iLt a15 (lLen a3))
    (sel (oIn a15 (lLen a3)) (
    sel (lAt a3 a15).2.1
      (bndS (F14 ((a8, a9), (a10, (a11, (a12, (a13, a14)))))) fun y0 =>
      sel (oIn a15 (lLen a3)) (
      sel (oIn a15 (lLen a3)) (
      bndS (F23 ((y0.1, y0.2.1), y0.2.2) (lAt a3 a15).2.2.2.1 (lAt a3 a15).2.2.2.2.1) fun y1 =>
      sel (bNot (iEq y1.2.2 0))
        (some (.inr (.inr false)))
        (some (.inl (a0, ((a1, (a2, (a3, (a4, (a5, (a6, a7)))))), ((a8, (a9, (a10, (a11, (a12, (a13, a14)))))), (iAdd .i64 a15 1))))))) none) none)
      (some (.inl (a0, ((a1, (a2, (a3, (a4, (a5, (a6, a7)))))), ((a8, (a9, (a10, (a11, (a12, (a13, a14)))))), (iAdd .i64 a15 1))))))) none)
    (some (.inr (.inl (a0, (a1, (a2, (a3, (a4, (a5, (a6, a7))))))))))
def L6_2 (x : (Int × (((List (Int × ByteArray)) × (Int × ((List (Int × (Bool × (Bool × (Int × (Int × (ByteArray × (Int × Int)))))))) × ((List Int) × (Int × (Int × Int)))))) × (((List (Int × ByteArray)) × (Int × ((List (Int × (Bool × (Bool × (Int × (Int × (ByteArray × (Int × Int)))))))) × ((List Int) × (Int × (Int × Int)))))) × Int)))) : Option ((Int × ((List (Int × ByteArray)) × (Int × ((List (Int × (Bool × (Bool × (Int × (Int × (ByteArray × (Int × Int)))))))) × ((List Int) × (Int × (Int × Int))))))) ⊕ Bool) := iter (fun (x : (Int × (((List (Int × ByteArray)) × (Int × ((List (Int × (Bool × (Bool × (Int × (Int × (ByteArray × (Int × Int)))))))) × ((List Int) × (Int × (Int × Int)))))) × (((List (Int × ByteArray)) × (Int × ((List (Int × (Bool × (Bool × (Int × (Int × (ByteArray × (Int × Int)))))))) × ((List Int) × (Int × (Int × Int)))))) × Int)))) => (B6_2 x.1 x.2.1.1 x.2.1.2.1 x.2.1.2.2.1 x.2.1.2.2.2.1 x.2.1.2.2.2.2.1 x.2.1.2.2.2.2.2.1 x.2.1.2.2.2.2.2.2 x.2.2.1.1 x.2.2.1.2.1 x.2.2.1.2.2.1 x.2.2.1.2.2.2.1 x.2.2.1.2.2.2.2.1 x.2.2.1.2.2.2.2.2.1 x.2.2.1.2.2.2.2.2.2 x.2.2.2)) fuel x
def lsL6_2 : LS := ⟨(.one .normal ⟨.non, [1, 7, 9, 13], (.seq (.dat (.int .i64)) (.seq (.box 0 (.seq (.own 1 (.pr (.int .i64) .str)) (.seq (.dat (.int .i64)) (.seq (.own 2 (.pr (.int .i64) (.pr .bool (.pr .bool (.pr (.int .i64) (.pr (.int .i64) (.pr .str (.pr (.int .i64) (.int .i64))))))))) (.seq (.own 3 (.int .i64)) (.seq (.dat (.int .i64)) (.seq (.dat (.int .i64)) (.dat (.int .i64))))))))) (.seq (.box 4 (.seq (.own 5 (.pr (.int .i64) .str)) (.seq (.dat (.int .i64)) (.seq (.own 6 (.pr (.int .i64) (.pr .bool (.pr .bool (.pr (.int .i64) (.pr (.int .i64) (.pr .str (.pr (.int .i64) (.int .i64))))))))) (.seq (.own 7 (.int .i64)) (.seq (.dat (.int .i64)) (.seq (.dat (.int .i64)) (.dat (.int .i64))))))))) (.dat (.int .i64))))), 8, 138, 0⟩), (.two (.one (.exit 2) ⟨.non, [1, 7], (.seq (.dat (.int .i64)) (.box 0 (.seq (.own 1 (.pr (.int .i64) .str)) (.seq (.dat (.int .i64)) (.seq (.own 2 (.pr (.int .i64) (.pr .bool (.pr .bool (.pr (.int .i64) (.pr (.int .i64) (.pr .str (.pr (.int .i64) (.int .i64))))))))) (.seq (.own 3 (.int .i64)) (.seq (.dat (.int .i64)) (.seq (.dat (.int .i64)) (.dat (.int .i64)))))))))), 4, 138, 0⟩) (.one .ret ⟨.non, [6], (.dat .bool), 0, 138, 0⟩)), fun (x : (Int × (((List (Int × ByteArray)) × (Int × ((List (Int × (Bool × (Bool × (Int × (Int × (ByteArray × (Int × Int)))))))) × ((List Int) × (Int × (Int × Int)))))) × (((List (Int × ByteArray)) × (Int × ((List (Int × (Bool × (Bool × (Int × (Int × (ByteArray × (Int × Int)))))))) × ((List Int) × (Int × (Int × Int)))))) × Int)))) => (B6_2 x.1 x.2.1.1 x.2.1.2.1 x.2.1.2.2.1 x.2.1.2.2.2.1 x.2.1.2.2.2.2.1 x.2.1.2.2.2.2.2.1 x.2.1.2.2.2.2.2.2 x.2.2.1.1 x.2.2.1.2.1 x.2.2.1.2.2.1 x.2.2.1.2.2.2.1 x.2.2.1.2.2.2.2.1 x.2.2.1.2.2.2.2.2.1 x.2.2.1.2.2.2.2.2.2 x.2.2.2)⟩
/-- midrangelaw05.PagingMore -/
def F6 (a0 : ((List (Int × ByteArray)) × Int)) (a1 : Int) (a2 : (List (Int × Int))) : Option Bool :=
  bndS (F11) fun y0 =>
  sel (bNot y0)
    (some false)
    (bndS (F16 a0) fun y1 =>
    letS (F24 a1 1 7) fun y2 =>
    sel (bOr (okS (F25 a0)) (bNot (bNot (bOr (bOr (bNot y1) (bNot y2)) (iLt 40 (lLen a2)))))) (
    letS (valS (F25 a0) 0) fun y3 =>
    sel (bOr (bOr (bOr (bNot y1) (bNot y2)) (iLt 40 (lLen a2))) (bNot (iEq y3 0)))
      (some true)
      (bndS (F18 a0) fun y4 =>
      sel (nCap 8 a1) (
      bndS (F17 y4 (lRep a1 (0 : Int))) fun y5 =>
      bndS (F18 a0) fun y6 =>
      sel (nCap 8 (iAdd .i64 a1 1)) (
      bndS (F17 y6 (lRep (iAdd .i64 a1 1) (0 : Int))) fun y7 =>
      sel (bOr (bNot (iEq y5.2 0)) (bNot (iEq y7.2 0)))
        (some false)
        (bndS (L6_0 (a1, (a2, (a0, (y5.1, (y7.1, 0)))))) fun y8 =>
        sumS y8 (fun y8a =>
          bndS (L6_2 (y8a.1, (y8a.2.1, (y8a.2.2, 0)))) fun y9 =>
          sumS y9 (fun y9a =>
            some (iEq (lLen y9a.2.2.2.1) y9a.1)) fun y9b =>
            some y9b) fun y8b =>
          some y8b)) none) none)) none)
def gF6 : FS := ⟨(.seq (.agg (.dat (.pr (.sl (.pr (.int .i64) .str)) (.int .i64)))) (.seq (.dat (.int .i64)) (.dat (.sl (.pr (.int .i64) (.int .i64)))))), 0, (.one ⟨.non, (.dat .bool), 0, 0⟩), fun x => (F6 x.1 x.2.1 x.2.2)⟩
theorem rL6_0 (x : lsL6_0.hd.T) : kRound env (GofL [(23, [gF23]), (14, [gF14]), (22, [gF22]), (26, [gF26]), (17, [gF17]), (18, [gF18]), (25, [gF25]), (24, [gF24]), (16, [gF16]), (11, [gF11])]) (LofL [(6, [(0, lsL6_0), (2, lsL6_2)])]) 6 0 (lpOf Try.prog 6 0).2 (lsL6_0.hd.st x) lsL6_0.rd = lsL6_0.B x := by kernel_rfl
theorem rL6_2 (x : lsL6_2.hd.T) : kRound env (GofL [(23, [gF23]), (14, [gF14]), (22, [gF22]), (26, [gF26]), (17, [gF17]), (18, [gF18]), (25, [gF25]), (24, [gF24]), (16, [gF16]), (11, [gF11])]) (LofL [(6, [(0, lsL6_0), (2, lsL6_2)])]) 6 2 (lpOf Try.prog 6 1).2 (lsL6_2.hd.st x) lsL6_2.rd = lsL6_2.B x := by kernel_rfl
theorem eF6 (x : gF6.a.T) : kF env (GofL [(23, [gF23]), (14, [gF14]), (22, [gF22]), (26, [gF26]), (17, [gF17]), (18, [gF18]), (25, [gF25]), (24, [gF24]), (16, [gF16]), (11, [gF11])]) (LofL [(6, [(0, lsL6_0), (2, lsL6_2)])]) 6 (gF6.args x) (gF6.bs x) gF6.r.dec = gF6.F x := by kernel_rfl
theorem sF6 : SpecAt env 11 6 gF6 := mkSpec (r := 10) (gl := [(23, [gF23]), (14, [gF14]), (22, [gF22]), (26, [gF26]), (17, [gF17]), (18, [gF18]), (25, [gF25]), (24, [gF24]), (16, [gF16]), (11, [gF11])]) (L0 := [(0, lsL6_0), (2, lsL6_2)]) (by kernel_rfl) ⟨⟨sF23.up (by decide), trivial⟩, ⟨sF14.up (by decide), trivial⟩, ⟨sF22.up (by decide), trivial⟩, ⟨sF26.up (by decide), trivial⟩, ⟨sF17.up (by decide), trivial⟩, ⟨sF18.up (by decide), trivial⟩, ⟨sF25.up (by decide), trivial⟩, ⟨sF24.up (by decide), trivial⟩, ⟨sF16.up (by decide), trivial⟩, ⟨sF11.up (by decide), trivial⟩, trivial⟩ ⟨⟨0, by kernel_rfl, by kernel_rfl, rL6_0⟩, ⟨1, by kernel_rfl, by kernel_rfl, rL6_2⟩, trivial⟩ eF6 (fun h => absurd h (by rw [show env.nl 6 = false by kernel_rfl]; decide))
/-- paging.ChainOf -/
def F27 (a0 : (((List (Int × ByteArray)) × Int) × ((List (Int × (Bool × (Bool × (Int × (Int × (ByteArray × (Int × Int)))))))) × ((List Int) × (Int × (Int × Int)))))) (a1 : Int) : Option ((List Int) × Int) :=
  bndS (F13 a0) fun y0 =>
  sel (bNot (iEq y0 0))
    (some (([] : List Int), y0))
    (letS (F44 a1 0 4) fun y1 =>
    sel (bNot y1)
      (some (([] : List Int), 3))
      (bndS (F58 a0 a1) fun y2 =>
      some (y2, 0)))
def gF27 : FS := ⟨(.seq (.agg (.dat (.pr (.pr (.sl (.pr (.int .i64) .str)) (.int .i64)) (.pr (.sl (.pr (.int .i64) (.pr .bool (.pr .bool (.pr (.int .i64) (.pr (.int .i64) (.pr .str (.pr (.int .i64) (.int .i64))))))))) (.pr (.sl (.int .i64)) (.pr (.int .i64) (.pr (.int .i64) (.int .i64)))))))) (.dat (.int .i64))), 0, (.one ⟨.non, (.tup (.seq (.own 0 (.int .i64)) (.dat (.int .i64)))), 0, 1⟩), fun x => (F27 x.1 x.2)⟩
theorem eF27 (x : gF27.a.T) : kF env (GofL [(58, [gF58]), (44, [gF44]), (13, [gF13])]) (LofL [(27, [])]) 27 (gF27.args x) (gF27.bs x) gF27.r.dec = gF27.F x := by kernel_rfl
theorem sF27 : SpecAt env 6 27 gF27 := mkSpec (r := 5) (gl := [(58, [gF58]), (44, [gF44]), (13, [gF13])]) (L0 := []) (by kernel_rfl) ⟨⟨sF58.up (by decide), trivial⟩, ⟨sF44.up (by decide), trivial⟩, ⟨sF13.up (by decide), trivial⟩, trivial⟩ trivial eF27 (fun h => absurd h (by rw [show env.nl 27 = false by kernel_rfl]; decide))
/-- paging.VictimOf -/
def F28 (a0 : (((List (Int × ByteArray)) × Int) × ((List (Int × (Bool × (Bool × (Int × (Int × (ByteArray × (Int × Int)))))))) × ((List Int) × (Int × (Int × Int)))))) (a1 : Int) : Option (Int × Int) :=
  bndS (F13 a0) fun y0 =>
  sel (bNot (iEq y0 0))
    (some (0, y0))
    (letS (F44 a1 0 2) fun y1 =>
    sel (bNot y1)
      (some (0, 3))
      (bndS (F59 a0 a1) fun y2 =>
      sel (iLe 0 y2)
        (some (y2, 0))
        (some (0, 40))))
def gF28 : FS := ⟨(.seq (.agg (.dat (.pr (.pr (.sl (.pr (.int .i64) .str)) (.int .i64)) (.pr (.sl (.pr (.int .i64) (.pr .bool (.pr .bool (.pr (.int .i64) (.pr (.int .i64) (.pr .str (.pr (.int .i64) (.int .i64))))))))) (.pr (.sl (.int .i64)) (.pr (.int .i64) (.pr (.int .i64) (.int .i64)))))))) (.dat (.int .i64))), 0, (.one ⟨.non, (.tup (.seq (.dat (.int .i64)) (.dat (.int .i64)))), 0, 0⟩), fun x => (F28 x.1 x.2)⟩
theorem eF28 (x : gF28.a.T) : kF env (GofL [(59, [gF59]), (44, [gF44]), (13, [gF13])]) (LofL [(28, [])]) 28 (gF28.args x) (gF28.bs x) gF28.r.dec = gF28.F x := by kernel_rfl
theorem sF28 : SpecAt env 6 28 gF28 := mkSpec (r := 5) (gl := [(59, [gF59]), (44, [gF44]), (13, [gF13])]) (L0 := []) (by kernel_rfl) ⟨⟨sF59.up (by decide), trivial⟩, ⟨sF44.up (by decide), trivial⟩, ⟨sF13.up (by decide), trivial⟩, trivial⟩ trivial eF28 (fun h => absurd h (by rw [show env.nl 28 = false by kernel_rfl]; decide))
/-- midrangeref05.ChainOf -/
def F30 (a0 : (((List (Int × ByteArray)) × Int) × ((List (Int × (Bool × (Bool × (Int × (Int × (ByteArray × (Int × Int)))))))) × ((List Int) × (Int × (Int × Int)))))) (a1 : Int) : Option (List Int) :=
  bndS (F48 a0 a1) fun y0 =>
  some y0.1
def gF30 : FS := ⟨(.seq (.agg (.dat (.pr (.pr (.sl (.pr (.int .i64) .str)) (.int .i64)) (.pr (.sl (.pr (.int .i64) (.pr .bool (.pr .bool (.pr (.int .i64) (.pr (.int .i64) (.pr .str (.pr (.int .i64) (.int .i64))))))))) (.pr (.sl (.int .i64)) (.pr (.int .i64) (.pr (.int .i64) (.int .i64)))))))) (.dat (.int .i64))), 0, (.one ⟨.non, (.own 0 (.int .i64)), 0, 1⟩), fun x => (F30 x.1 x.2)⟩
theorem eF30 (x : gF30.a.T) : kF env (GofL [(48, [gF48])]) (LofL [(30, [])]) 30 (gF30.args x) (gF30.bs x) gF30.r.dec = gF30.F x := by kernel_rfl
theorem sF30 : SpecAt env 3 30 gF30 := mkSpec (r := 2) (gl := [(48, [gF48])]) (L0 := []) (by kernel_rfl) ⟨⟨sF48.up (by decide), trivial⟩, trivial⟩ trivial eF30 (fun h => absurd h (by rw [show env.nl 30 = false by kernel_rfl]; decide))
def B61_0 (a0 : Int) (a1 : Int) (a2 : (List (Int × ByteArray))) (a3 : Int) (a4 : (List (Int × (Bool × (Bool × (Int × (Int × (ByteArray × (Int × Int))))))))) (a5 : (List Int)) (a6 : Int) (a7 : Int) (a8 : Int) (a9 : (List Int)) (a10 : Int) : Option ((Int × (Int × (((List (Int × ByteArray)) × (Int × ((List (Int × (Bool × (Bool × (Int × (Int × (ByteArray × (Int × Int)))))))) × ((List Int) × (Int × (Int × Int)))))) × ((List Int) × Int)))) ⊕ ((List Int) ⊕ (Int × Int))) :=
  sel (iLt a10 (lLen a9))
    (sel (oIn a10 (lLen a9)) (
    sel (oIn (lAt a9 a10) (lLen a4)) (
    sel (bAnd (iEq (lAt a4 (lAt a9 a10)).2.2.2.1 a0) (iEq (lAt a4 (lAt a9 a10)).2.2.2.2.1 a1))
      (sel (oIn a10 (lLen a9)) (
      some (.inr (.inr ((lAt a9 a10), (iAdd .i64 a10 1))))) none)
      (some (.inl (a0, (a1, ((a2, (a3, (a4, (a5, (a6, (a7, a8)))))), (a9, (iAdd .i64 a10 1)))))))) none) none)
    (some (.inr (.inl a9)))
def L61_0 (x : (Int × (Int × (((List (Int × ByteArray)) × (Int × ((List (Int × (Bool × (Bool × (Int × (Int × (ByteArray × (Int × Int)))))))) × ((List Int) × (Int × (Int × Int)))))) × ((List Int) × Int))))) : Option ((List Int) ⊕ (Int × Int)) := iter (fun (x : (Int × (Int × (((List (Int × ByteArray)) × (Int × ((List (Int × (Bool × (Bool × (Int × (Int × (ByteArray × (Int × Int)))))))) × ((List Int) × (Int × (Int × Int)))))) × ((List Int) × Int))))) => (B61_0 x.1 x.2.1 x.2.2.1.1 x.2.2.1.2.1 x.2.2.1.2.2.1 x.2.2.1.2.2.2.1 x.2.2.1.2.2.2.2.1 x.2.2.1.2.2.2.2.2.1 x.2.2.1.2.2.2.2.2.2 x.2.2.2.1 x.2.2.2.2)) fuel x
def lsL61_0 : LS := ⟨(.one .normal ⟨.non, [1, 2, 3, 8, 9], (.seq (.dat (.int .i64)) (.seq (.dat (.int .i64)) (.seq (.box 0 (.seq (.dat (.sl (.pr (.int .i64) .str))) (.seq (.dat (.int .i64)) (.seq (.dat (.sl (.pr (.int .i64) (.pr .bool (.pr .bool (.pr (.int .i64) (.pr (.int .i64) (.pr .str (.pr (.int .i64) (.int .i64)))))))))) (.seq (.dat (.sl (.int .i64))) (.seq (.dat (.int .i64)) (.seq (.dat (.int .i64)) (.dat (.int .i64))))))))) (.seq (.own 1 (.int .i64)) (.dat (.int .i64)))))), 2, 48, 0⟩), (.two (.one (.exit 0) ⟨.non, [8], (.own 0 (.int .i64)), 1, 48, 0⟩) (.one .ret ⟨.non, [6, 7], (.seq (.dat (.int .i64)) (.dat (.int .i64))), 0, 48, 0⟩)), fun (x : (Int × (Int × (((List (Int × ByteArray)) × (Int × ((List (Int × (Bool × (Bool × (Int × (Int × (ByteArray × (Int × Int)))))))) × ((List Int) × (Int × (Int × Int)))))) × ((List Int) × Int))))) => (B61_0 x.1 x.2.1 x.2.2.1.1 x.2.2.1.2.1 x.2.2.1.2.2.1 x.2.2.1.2.2.2.1 x.2.2.1.2.2.2.2.1 x.2.2.1.2.2.2.2.2.1 x.2.2.1.2.2.2.2.2.2 x.2.2.2.1 x.2.2.2.2)⟩
/-- midrangeref05.Find -/
def F61 (a0 : (((List (Int × ByteArray)) × Int) × ((List (Int × (Bool × (Bool × (Int × (Int × (ByteArray × (Int × Int)))))))) × ((List Int) × (Int × (Int × Int)))))) (a1 : Int) (a2 : Int) : Option (Int × Int) :=
  bndS (F76 a1 a2) fun y0 =>
  bndS (F30 a0 y0) fun y1 =>
  bndS (L61_0 (a1, (a2, ((a0.1.1, (a0.1.2, a0.2)), (y1, 0))))) fun y2 =>
  sumS y2 (fun y2a =>
    some ((-1), (lLen y2a))) fun y2b =>
    some y2b
def gF61 : FS := ⟨(.seq (.agg (.dat (.pr (.pr (.sl (.pr (.int .i64) .str)) (.int .i64)) (.pr (.sl (.pr (.int .i64) (.pr .bool (.pr .bool (.pr (.int .i64) (.pr (.int .i64) (.pr .str (.pr (.int .i64) (.int .i64))))))))) (.pr (.sl (.int .i64)) (.pr (.int .i64) (.pr (.int .i64) (.int .i64)))))))) (.seq (.dat (.int .i64)) (.dat (.int .i64)))), 0, (.one ⟨.non, (.tup (.seq (.dat (.int .i64)) (.dat (.int .i64)))), 0, 0⟩), fun x => (F61 x.1 x.2.1 x.2.2)⟩
theorem rL61_0 (x : lsL61_0.hd.T) : kRound env (GofL [(30, [gF30]), (76, [gF76])]) (LofL [(61, [(0, lsL61_0)])]) 61 0 (lpOf Try.prog 61 0).2 (lsL61_0.hd.st x) lsL61_0.rd = lsL61_0.B x := by kernel_rfl
theorem eF61 (x : gF61.a.T) : kF env (GofL [(30, [gF30]), (76, [gF76])]) (LofL [(61, [(0, lsL61_0)])]) 61 (gF61.args x) (gF61.bs x) gF61.r.dec = gF61.F x := by kernel_rfl
theorem sF61 : SpecAt env 4 61 gF61 := mkSpec (r := 3) (gl := [(30, [gF30]), (76, [gF76])]) (L0 := [(0, lsL61_0)]) (by kernel_rfl) ⟨⟨sF30.up (by decide), trivial⟩, ⟨sF76.up (by decide), trivial⟩, trivial⟩ ⟨⟨0, by kernel_rfl, by kernel_rfl, rL61_0⟩, trivial⟩ eF61 (fun h => absurd h (by rw [show env.nl 61 = false by kernel_rfl]; decide))
/-- midrangelaw05.finds -/
def F31 (a0 : (((List (Int × ByteArray)) × Int) × ((List (Int × (Bool × (Bool × (Int × (Int × (ByteArray × (Int × Int)))))))) × ((List Int) × (Int × (Int × Int)))))) (a1 : (Int × (Int × Int))) (a2 : Int) (a3 : Int) (a4 : Int) : Option Bool :=
  bndS (F60 a0.1 a1.1 a1.2.1) fun y0 =>
  sel (bNot y0)
    (some (bAnd (bAnd (iEq a4 11) (iEq a2 0)) (iEq a3 0)))
    (bndS (F61 a0 a1.1 a1.2.1) fun y1 =>
    sel (iEq y1.1 (-1))
      (some (bAnd (bAnd (iEq a4 40) (iEq a2 0)) (iEq a3 0)))
      (some (bAnd (bAnd (iEq a4 0) (iEq a2 y1.1)) (iEq a3 y1.2))))
def gF31 : FS := ⟨(.seq (.agg (.dat (.pr (.pr (.sl (.pr (.int .i64) .str)) (.int .i64)) (.pr (.sl (.pr (.int .i64) (.pr .bool (.pr .bool (.pr (.int .i64) (.pr (.int .i64) (.pr .str (.pr (.int .i64) (.int .i64))))))))) (.pr (.sl (.int .i64)) (.pr (.int .i64) (.pr (.int .i64) (.int .i64)))))))) (.seq (.agg (.dat (.pr (.int .i64) (.pr (.int .i64) (.int .i64))))) (.seq (.dat (.int .i64)) (.seq (.dat (.int .i64)) (.dat (.int .i64)))))), 0, (.one ⟨.non, (.dat .bool), 0, 0⟩), fun x => (F31 x.1 x.2.1 x.2.2.1 x.2.2.2.1 x.2.2.2.2)⟩
theorem eF31 (x : gF31.a.T) : kF env (GofL [(61, [gF61]), (60, [gF60])]) (LofL [(31, [])]) 31 (gF31.args x) (gF31.bs x) gF31.r.dec = gF31.F x := by kernel_rfl
theorem sF31 : SpecAt env 5 31 gF31 := mkSpec (r := 4) (gl := [(61, [gF61]), (60, [gF60])]) (L0 := []) (by kernel_rfl) ⟨⟨sF61.up (by decide), trivial⟩, ⟨sF60.up (by decide), trivial⟩, trivial⟩ trivial eF31 (fun h => absurd h (by rw [show env.nl 31 = false by kernel_rfl]; decide))
end
end Go.Proofs.Ytagcodkkkebnhaa.K
end
