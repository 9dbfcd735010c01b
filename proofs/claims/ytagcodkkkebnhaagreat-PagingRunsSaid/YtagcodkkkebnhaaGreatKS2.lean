/- A part of the proof: texts of the author, joined. -/
import Derived.Test.YtagcodkkkebnhaaGreatKS1
section
set_option linter.unusedVariables false
set_option linter.unusedSimpArgs false
set_option linter.unnecessarySimpa false
open Go Go.Ev Go.Proofs
namespace Go.Proofs.YtagcodkkkebnhaaGreat.K
set_option linter.unusedVariables false
set_option maxRecDepth 100000
noncomputable section
/-- midrangeref04.Own -/
def F22 (a0 : ((List (Int × ByteArray)) × Int)) : Option ((List (Int × ByteArray)) × Int) :=
  sel (lCap 24 a0.1) (
  some a0) none
def gF22 : FS := ⟨(.agg (.dat (.pr (.sl (.pr (.int .i64) .str)) (.int .i64)))), 0, (.one ⟨.non, (.agg (.seq (.own 0 (.pr (.int .i64) .str)) (.dat (.int .i64)))), 0, 1⟩), fun x => (F22 x)⟩
theorem eF22 (x : gF22.a.T) : kF env (GofL []) (LofL [(22, [])]) 22 (gF22.args x) (gF22.bs x) gF22.r.dec = gF22.F x := by kernel_rfl
theorem sF22 : SpecAt env 1 22 gF22 := mkSpec (r := 0) (gl := []) (L0 := []) (by kernel_rfl) trivial trivial eF22 (fun h => absurd h (by rw [show env.nl 22 = false by kernel_rfl]; decide))
/-- midrangebase.CopyInts -/
def F23 (a0 : (List Int)) : Option (List Int) :=
  sel (lCap 8 a0) (
  some a0) none
def gF23 : FS := ⟨(.dat (.sl (.int .i64))), 0, (.one ⟨.non, (.own 0 (.int .i64)), 0, 1⟩), fun x => (F23 x)⟩
theorem eF23 (x : gF23.a.T) : kF env (GofL []) (LofL [(23, [])]) 23 (gF23.args x) (gF23.bs x) gF23.r.dec = gF23.F x := by kernel_rfl
theorem sF23 : SpecAt env 1 23 gF23 := mkSpec (r := 0) (gl := []) (L0 := []) (by kernel_rfl) trivial trivial eF23 (fun h => absurd h (by rw [show env.nl 23 = false by kernel_rfl]; decide))
/-- midrangeref05.Own -/
def F8 (a0 : (((List (Int × ByteArray)) × Int) × ((List (Int × (Bool × (Bool × (Int × (Int × (ByteArray × (Int × Int)))))))) × ((List Int) × (Int × (Int × Int)))))) : Option ((List (Int × ByteArray)) × (Int × ((List (Int × (Bool × (Bool × (Int × (Int × (ByteArray × (Int × Int)))))))) × ((List Int) × (Int × (Int × Int)))))) :=
  bndS (F22 a0.1) fun y0 =>
  sel (lCap 64 a0.2.1) (
  bndS (F23 a0.2.2.1) fun y1 =>
  some (y0.1, (y0.2, (a0.2.1, (y1, a0.2.2.2))))) none
def gF8 : FS := ⟨(.agg (.dat (.pr (.pr (.sl (.pr (.int .i64) .str)) (.int .i64)) (.pr (.sl (.pr (.int .i64) (.pr .bool (.pr .bool (.pr (.int .i64) (.pr (.int .i64) (.pr .str (.pr (.int .i64) (.int .i64))))))))) (.pr (.sl (.int .i64)) (.pr (.int .i64) (.pr (.int .i64) (.int .i64)))))))), 0, (.one ⟨.non, (.agg (.seq (.own 0 (.pr (.int .i64) .str)) (.seq (.dat (.int .i64)) (.seq (.own 1 (.pr (.int .i64) (.pr .bool (.pr .bool (.pr (.int .i64) (.pr (.int .i64) (.pr .str (.pr (.int .i64) (.int .i64))))))))) (.seq (.own 2 (.int .i64)) (.seq (.dat (.int .i64)) (.seq (.dat (.int .i64)) (.dat (.int .i64))))))))), 0, 3⟩), fun x => (F8 x)⟩
theorem eF8 (x : gF8.a.T) : kF env (GofL [(23, [gF23]), (22, [gF22])]) (LofL [(8, [])]) 8 (gF8.args x) (gF8.bs x) gF8.r.dec = gF8.F x := by kernel_rfl
theorem sF8 : SpecAt env 2 8 gF8 := mkSpec (r := 1) (gl := [(23, [gF23]), (22, [gF22])]) (L0 := []) (by kernel_rfl) ⟨⟨sF23.up (by decide), trivial⟩, ⟨sF22.up (by decide), trivial⟩, trivial⟩ trivial eF8 (fun h => absurd h (by rw [show env.nl 8 = false by kernel_rfl]; decide))
/-- midrangebase.Within -/
def F44 (a0 : Int) (a1 : Int) (a2 : Int) : Bool :=
  (bAnd (iLe a1 a0) (iLe a0 a2))
def gF44 : FS := ⟨(.seq (.dat (.int .i64)) (.seq (.dat (.int .i64)) (.dat (.int .i64)))), 0, (.one ⟨.non, (.dat .bool), 0, 0⟩), fun x => some (F44 x.1 x.2.1 x.2.2)⟩
theorem eF44 (x : gF44.a.T) : kF env (GofL []) (LofL [(44, [])]) 44 (gF44.args x) (gF44.bs x) gF44.r.dec = gF44.F x := by kernel_rfl
theorem sF44 : SpecAt env 1 44 gF44 := mkSpec (r := 0) (gl := []) (L0 := []) (by kernel_rfl) trivial trivial eF44 (fun h => absurd h (by rw [show env.nl 44 = false by kernel_rfl]; decide))
/-- midrangeref04.Pages -/
def F92 (a0 : ByteArray) : Option Int :=
  sel (oNz 32) (
  some (iQuo .i64 (sLen a0) 32)) none
def gF92 : FS := ⟨(.dat .str), 0, (.one ⟨.non, (.dat (.int .i64)), 0, 0⟩), fun x => (F92 x)⟩
theorem eF92 (x : gF92.a.T) : kF env (GofL []) (LofL [(92, [])]) 92 (gF92.args x) (gF92.bs x) gF92.r.dec = gF92.F x := by kernel_rfl
theorem sF92 : SpecAt env 1 92 gF92 := mkSpec (r := 0) (gl := []) (L0 := []) (by kernel_rfl) trivial trivial eF92 (fun h => absurd h (by rw [show env.nl 92 = false by kernel_rfl]; decide))
def B74_0 (a0 : (List (Int × ByteArray))) (a1 : Int) (a2 : Int) : Option ((((List (Int × ByteArray)) × Int) × Int) ⊕ (Unit ⊕ (Int × Int))) :=
  sel (iLt a2 (lLen a0))
    (sel (oIn a2 (lLen a0)) (
    letS (F44 (lAt a0 a2).1 1 (iSub .i64 a1 1)) fun y0 =>
    sel (bNot y0)
      (some (.inr (.inr (a2, 3))))
      (sel (bOr (oIn (iSub .i64 a2 1) (lLen a0)) (bNot (iLt 0 a2))) (
      sel (bAnd (iLt 0 a2) (iLe (lAt a0 a2).1 (lAt a0 (iSub .i64 a2 1)).1))
        (some (.inr (.inr (a2, 14))))
        (sel (oNz 32) (
        sel (bOr (okS (F92 (lAt a0 a2).2)) (bNot (bNot (bNot (iEq (iRem (sLen (lAt a0 a2).2) 32) 0))))) (
        letS (valS (F92 (lAt a0 a2).2) 0) fun y1 =>
        letS (F44 y1 1 8) fun y2 =>
        sel (bOr (bNot (iEq (iRem (sLen (lAt a0 a2).2) 32) 0)) (bNot y2))
          (some (.inr (.inr (a2, 18))))
          (some (.inl ((a0, a1), (iAdd .i64 a2 1))))) none) none)) none)) none)
    (some (.inr (.inl ())))
def L74_0 (x : (((List (Int × ByteArray)) × Int) × Int)) : Option (Unit ⊕ (Int × Int)) := iter (fun (x : (((List (Int × ByteArray)) × Int) × Int)) => (B74_0 x.1.1 x.1.2 x.2)) fuel x
def lsL74_0 : LS := ⟨(.one .normal ⟨.non, [1, 4], (.seq (.box 0 (.seq (.dat (.sl (.pr (.int .i64) .str))) (.dat (.int .i64)))) (.dat (.int .i64))), 1, 62, 0⟩), (.two (.one (.exit 0) ⟨.non, [], .non, 0, 62, 0⟩) (.one .ret ⟨.non, [2, 3], (.seq (.dat (.int .i64)) (.dat (.int .i64))), 0, 62, 0⟩)), fun (x : (((List (Int × ByteArray)) × Int) × Int)) => (B74_0 x.1.1 x.1.2 x.2)⟩
/-- midrangeref04.Check -/
def F74 (a0 : ((List (Int × ByteArray)) × Int)) : Option (Int × Int) :=
  sel (iLt 10 (lLen a0.1))
    (some (0, 2))
    (letS (F44 a0.2 1 1001) fun y0 =>
    sel (bNot y0)
      (some (0, 3))
      (bndS (L74_0 (a0, 0)) fun y1 =>
      sumS y1 (fun y1a =>
        some (0, 0)) fun y1b =>
        some y1b))
def gF74 : FS := ⟨(.agg (.dat (.pr (.sl (.pr (.int .i64) .str)) (.int .i64)))), 0, (.one ⟨.non, (.tup (.seq (.dat (.int .i64)) (.dat (.int .i64)))), 0, 0⟩), fun x => (F74 x)⟩
theorem rL74_0 (x : lsL74_0.hd.T) : kRound env (GofL [(44, [gF44]), (92, [gF92])]) (LofL [(74, [(0, lsL74_0)])]) 74 0 (lpOf Tryz.prog 74 0).2 (lsL74_0.hd.st x) lsL74_0.rd = lsL74_0.B x := by kernel_rfl
theorem eF74 (x : gF74.a.T) : kF env (GofL [(44, [gF44]), (92, [gF92])]) (LofL [(74, [(0, lsL74_0)])]) 74 (gF74.args x) (gF74.bs x) gF74.r.dec = gF74.F x := by kernel_rfl
theorem sF74 : SpecAt env 2 74 gF74 := mkSpec (r := 1) (gl := [(44, [gF44]), (92, [gF92])]) (L0 := [(0, lsL74_0)]) (by kernel_rfl) ⟨⟨sF44.up (by decide), trivial⟩, ⟨sF92.up (by decide), trivial⟩, trivial⟩ ⟨⟨0, by kernel_rfl, by kernel_rfl, rL74_0⟩, trivial⟩ eF74 (fun h => absurd h (by rw [show env.nl 74 = false by kernel_rfl]; decide))
/-- midrangeref04.Err -/
def F43 (a0 : ((List (Int × ByteArray)) × Int)) : Option Int :=
  bndS (F74 a0) fun y0 =>
  some y0.2
def gF43 : FS := ⟨(.agg (.dat (.pr (.sl (.pr (.int .i64) .str)) (.int .i64)))), 0, (.one ⟨.non, (.dat (.int .i64)), 0, 0⟩), fun x => (F43 x)⟩
theorem eF43 (x : gF43.a.T) : kF env (GofL [(74, [gF74])]) (LofL [(43, [])]) 43 (gF43.args x) (gF43.bs x) gF43.r.dec = gF43.F x := by kernel_rfl
theorem sF43 : SpecAt env 3 43 gF43 := mkSpec (r := 2) (gl := [(74, [gF74])]) (L0 := []) (by kernel_rfl) ⟨⟨sF74.up (by decide), trivial⟩, trivial⟩ trivial eF43 (fun h => absurd h (by rw [show env.nl 43 = false by kernel_rfl]; decide))
def B79_0 (a0 : Int) (a1 : (List (Int × ByteArray))) (a2 : Int) (a3 : Int) : Option ((Int × (((List (Int × ByteArray)) × Int) × Int)) ⊕ (Unit ⊕ Int)) :=
  sel (iLt a3 (lLen a1))
    (sel (oIn a3 (lLen a1)) (
    sel (iEq (lAt a1 a3).1 a0)
      (some (.inr (.inr a3)))
      (some (.inl (a0, ((a1, a2), (iAdd .i64 a3 1)))))) none)
    (some (.inr (.inl ())))
def L79_0 (x : (Int × (((List (Int × ByteArray)) × Int) × Int))) : Option (Unit ⊕ Int) := iter (fun (x : (Int × (((List (Int × ByteArray)) × Int) × Int))) => (B79_0 x.1 x.2.1.1 x.2.1.2 x.2.2)) fuel x
def lsL79_0 : LS := ⟨(.one .normal ⟨.non, [1, 2, 5], (.seq (.dat (.int .i64)) (.seq (.box 0 (.seq (.dat (.sl (.pr (.int .i64) .str))) (.dat (.int .i64)))) (.dat (.int .i64)))), 1, 22, 0⟩), (.two (.one (.exit 0) ⟨.non, [], .non, 0, 22, 0⟩) (.one .ret ⟨.non, [4], (.dat (.int .i64)), 0, 22, 0⟩)), fun (x : (Int × (((List (Int × ByteArray)) × Int) × Int))) => (B79_0 x.1 x.2.1.1 x.2.1.2 x.2.2)⟩
/-- midrangeref04.Place -/
def F79 (a0 : ((List (Int × ByteArray)) × Int)) (a1 : Int) : Option Int :=
  bndS (L79_0 (a1, (a0, 0))) fun y0 =>
  sumS y0 (fun y0a =>
    some (-1)) fun y0b =>
    some y0b
def gF79 : FS := ⟨(.seq (.agg (.dat (.pr (.sl (.pr (.int .i64) .str)) (.int .i64)))) (.dat (.int .i64))), 0, (.one ⟨.non, (.dat (.int .i64)), 0, 0⟩), fun x => (F79 x.1 x.2)⟩
theorem rL79_0 (x : lsL79_0.hd.T) : kRound env (GofL []) (LofL [(79, [(0, lsL79_0)])]) 79 0 (lpOf Tryz.prog 79 0).2 (lsL79_0.hd.st x) lsL79_0.rd = lsL79_0.B x := by kernel_rfl
theorem eF79 (x : gF79.a.T) : kF env (GofL []) (LofL [(79, [(0, lsL79_0)])]) 79 (gF79.args x) (gF79.bs x) gF79.r.dec = gF79.F x := by kernel_rfl
theorem sF79 : SpecAt env 1 79 gF79 := mkSpec (r := 0) (gl := []) (L0 := [(0, lsL79_0)]) (by kernel_rfl) trivial ⟨⟨0, by kernel_rfl, by kernel_rfl, rL79_0⟩, trivial⟩ eF79 (fun h => absurd h (by rw [show env.nl 79 = false by kernel_rfl]; decide))
/-- midrangeref05.HasPage -/
def F75 (a0 : ((List (Int × ByteArray)) × Int)) (a1 : Int) (a2 : Int) : Option Bool :=
  bndS (F79 a0 a1) fun y0 =>
  sel (bOr (oIn y0 (lLen a0.1)) (bNot (bNot (iEq y0 (-1))))) (
  sel (bOr (okS (F92 (lAt a0.1 y0).2)) (bNot (bNot (iEq y0 (-1))))) (
  letS (valS (F92 (lAt a0.1 y0).2) 0) fun y1 =>
  letS (F44 a2 0 (iSub .i64 y1 1)) fun y2 =>
  some (bAnd (bNot (iEq y0 (-1))) y2)) none) none
def gF75 : FS := ⟨(.seq (.agg (.dat (.pr (.sl (.pr (.int .i64) .str)) (.int .i64)))) (.seq (.dat (.int .i64)) (.dat (.int .i64)))), 0, (.one ⟨.non, (.dat .bool), 0, 0⟩), fun x => (F75 x.1 x.2.1 x.2.2)⟩
theorem eF75 (x : gF75.a.T) : kF env (GofL [(44, [gF44]), (92, [gF92]), (79, [gF79])]) (LofL [(75, [])]) 75 (gF75.args x) (gF75.bs x) gF75.r.dec = gF75.F x := by kernel_rfl
theorem sF75 : SpecAt env 2 75 gF75 := mkSpec (r := 1) (gl := [(44, [gF44]), (92, [gF92]), (79, [gF79])]) (L0 := []) (by kernel_rfl) ⟨⟨sF44.up (by decide), trivial⟩, ⟨sF92.up (by decide), trivial⟩, ⟨sF79.up (by decide), trivial⟩, trivial⟩ trivial eF75 (fun h => absurd h (by rw [show env.nl 75 = false by kernel_rfl]; decide))
def B45_0 (a0 : Int) (a1 : (List (Int × ByteArray))) (a2 : Int) (a3 : (List (Int × (Bool × (Bool × (Int × (Int × (ByteArray × (Int × Int))))))))) (a4 : (List Int)) (a5 : Int) (a6 : Int) (a7 : Int) (a8 : Int) (a9 : Bool) (a10 : Bool) (a11 : Int) (a12 : Int) (a13 : ByteArray) (a14 : Int) (a15 : Int) (a16 : Int) : Option ((Int × (((List (Int × ByteArray)) × (Int × ((List (Int × (Bool × (Bool × (Int × (Int × (ByteArray × (Int × Int)))))))) × ((List Int) × (Int × (Int × Int)))))) × ((Int × (Bool × (Bool × (Int × (Int × (ByteArray × (Int × Int))))))) × Int))) ⊕ ((((List (Int × ByteArray)) × (Int × ((List (Int × (Bool × (Bool × (Int × (Int × (ByteArray × (Int × Int)))))))) × ((List Int) × (Int × (Int × Int)))))) × (Int × (Bool × (Bool × (Int × (Int × (ByteArray × (Int × Int)))))))) ⊕ Int)) :=
  sel (iLt a16 a0)
    (sel (oIn a16 (lLen a3)) (
    sel (bOr (oIn a16 (lLen a3)) (bNot (lAt a3 a16).2.1)) (
    sel (bOr (oIn a16 (lLen a3)) (bNot (bAnd (lAt a3 a16).2.1 (iEq (lAt a3 a16).2.2.2.1 a11)))) (
    sel (bAnd (bAnd (lAt a3 a16).2.1 (iEq (lAt a3 a16).2.2.2.1 a11)) (iEq (lAt a3 a16).2.2.2.2.1 a12))
      (some (.inr (.inr 13)))
      (some (.inl (a0, ((a1, (a2, (a3, (a4, (a5, (a6, a7)))))), ((a8, (a9, (a10, (a11, (a12, (a13, (a14, a15))))))), (iAdd .i64 a16 1))))))) none) none) none)
    (some (.inr (.inl ((a1, (a2, (a3, (a4, (a5, (a6, a7)))))), (a8, (a9, (a10, (a11, (a12, (a13, (a14, a15)))))))))))
def L45_0 (x : (Int × (((List (Int × ByteArray)) × (Int × ((List (Int × (Bool × (Bool × (Int × (Int × (ByteArray × (Int × Int)))))))) × ((List Int) × (Int × (Int × Int)))))) × ((Int × (Bool × (Bool × (Int × (Int × (ByteArray × (Int × Int))))))) × Int)))) : Option ((((List (Int × ByteArray)) × (Int × ((List (Int × (Bool × (Bool × (Int × (Int × (ByteArray × (Int × Int)))))))) × ((List Int) × (Int × (Int × Int)))))) × (Int × (Bool × (Bool × (Int × (Int × (ByteArray × (Int × Int)))))))) ⊕ Int) := iter (fun (x : (Int × (((List (Int × ByteArray)) × (Int × ((List (Int × (Bool × (Bool × (Int × (Int × (ByteArray × (Int × Int)))))))) × ((List Int) × (Int × (Int × Int)))))) × ((Int × (Bool × (Bool × (Int × (Int × (ByteArray × (Int × Int))))))) × Int)))) => (B45_0 x.1 x.2.1.1 x.2.1.2.1 x.2.1.2.2.1 x.2.1.2.2.2.1 x.2.1.2.2.2.2.1 x.2.1.2.2.2.2.2.1 x.2.1.2.2.2.2.2.2 x.2.2.1.1 x.2.2.1.2.1 x.2.2.1.2.2.1 x.2.2.1.2.2.2.1 x.2.2.1.2.2.2.2.1 x.2.2.1.2.2.2.2.2.1 x.2.2.1.2.2.2.2.2.2.1 x.2.2.1.2.2.2.2.2.2.2 x.2.2.2)) fuel x
def lsL45_0 : LS := ⟨(.one .normal ⟨.non, [1, 2, 5, 6], (.seq (.dat (.int .i64)) (.seq (.box 0 (.seq (.dat (.sl (.pr (.int .i64) .str))) (.seq (.dat (.int .i64)) (.seq (.dat (.sl (.pr (.int .i64) (.pr .bool (.pr .bool (.pr (.int .i64) (.pr (.int .i64) (.pr .str (.pr (.int .i64) (.int .i64)))))))))) (.seq (.dat (.sl (.int .i64))) (.seq (.dat (.int .i64)) (.seq (.dat (.int .i64)) (.dat (.int .i64))))))))) (.seq (.box 1 (.seq (.dat (.int .i64)) (.seq (.dat .bool) (.seq (.dat .bool) (.seq (.dat (.int .i64)) (.seq (.dat (.int .i64)) (.seq (.dat .str) (.seq (.dat (.int .i64)) (.dat (.int .i64)))))))))) (.dat (.int .i64))))), 2, 94, 0⟩), (.two (.one (.exit 0) ⟨.non, [2, 5], (.seq (.box 0 (.seq (.dat (.sl (.pr (.int .i64) .str))) (.seq (.dat (.int .i64)) (.seq (.dat (.sl (.pr (.int .i64) (.pr .bool (.pr .bool (.pr (.int .i64) (.pr (.int .i64) (.pr .str (.pr (.int .i64) (.int .i64)))))))))) (.seq (.dat (.sl (.int .i64))) (.seq (.dat (.int .i64)) (.seq (.dat (.int .i64)) (.dat (.int .i64))))))))) (.box 1 (.seq (.dat (.int .i64)) (.seq (.dat .bool) (.seq (.dat .bool) (.seq (.dat (.int .i64)) (.seq (.dat (.int .i64)) (.seq (.dat .str) (.seq (.dat (.int .i64)) (.dat (.int .i64))))))))))), 2, 94, 0⟩) (.one .ret ⟨.non, [4], (.dat (.int .i64)), 0, 94, 0⟩)), fun (x : (Int × (((List (Int × ByteArray)) × (Int × ((List (Int × (Bool × (Bool × (Int × (Int × (ByteArray × (Int × Int)))))))) × ((List Int) × (Int × (Int × Int)))))) × ((Int × (Bool × (Bool × (Int × (Int × (ByteArray × (Int × Int))))))) × Int)))) => (B45_0 x.1 x.2.1.1 x.2.1.2.1 x.2.1.2.2.1 x.2.1.2.2.2.1 x.2.1.2.2.2.2.1 x.2.1.2.2.2.2.2.1 x.2.1.2.2.2.2.2.2 x.2.2.1.1 x.2.2.1.2.1 x.2.2.1.2.2.1 x.2.2.1.2.2.2.1 x.2.2.1.2.2.2.2.1 x.2.2.1.2.2.2.2.2.1 x.2.2.1.2.2.2.2.2.2.1 x.2.2.1.2.2.2.2.2.2.2 x.2.2.2)⟩
/-- midrangeref05.PageOf -/
def F76 (a0 : ((List (Int × ByteArray)) × Int)) (a1 : Int) (a2 : Int) : Option ByteArray :=
  bndS (F79 a0 a1) fun y0 =>
  sel (oIn y0 (lLen a0.1)) (
  sel (oCut (iMul .i64 a2 32) (iMul .i64 (iAdd .i64 a2 1) 32) (sLen (lAt a0.1 y0).2)) (
  some (sCut (lAt a0.1 y0).2 (iMul .i64 a2 32) (iMul .i64 (iAdd .i64 a2 1) 32))) none) none
def gF76 : FS := ⟨(.seq (.agg (.dat (.pr (.sl (.pr (.int .i64) .str)) (.int .i64)))) (.seq (.dat (.int .i64)) (.dat (.int .i64)))), 0, (.one ⟨.non, (.dat .str), 0, 0⟩), fun x => (F76 x.1 x.2.1 x.2.2)⟩
theorem eF76 (x : gF76.a.T) : kF env (GofL [(79, [gF79])]) (LofL [(76, [])]) 76 (gF76.args x) (gF76.bs x) gF76.r.dec = gF76.F x := by kernel_rfl
theorem sF76 : SpecAt env 2 76 gF76 := mkSpec (r := 1) (gl := [(79, [gF79])]) (L0 := []) (by kernel_rfl) ⟨⟨sF79.up (by decide), trivial⟩, trivial⟩ trivial eF76 (fun h => absurd h (by rw [show env.nl 76 = false by kernel_rfl]; decide))
/-- midrangebase.Count -/
def F47 (a0 : Bool) : Option Int :=
  sel a0
    (some 1)
    (some 0)
def gF47 : FS := ⟨(.dat .bool), 0, (.one ⟨.non, (.dat (.int .i64)), 0, 0⟩), fun x => (F47 x)⟩
theorem eF47 (x : gF47.a.T) : kF env (GofL []) (LofL [(47, [])]) 47 (gF47.args x) (gF47.bs x) gF47.r.dec = gF47.F x := by kernel_rfl
theorem sF47 : SpecAt env 1 47 gF47 := mkSpec (r := 0) (gl := []) (L0 := []) (by kernel_rfl) trivial trivial eF47 (fun h => absurd h (by rw [show env.nl 47 = false by kernel_rfl]; decide))
/-- midrangeref05.frameErr -/
def F45 (a0 : (((List (Int × ByteArray)) × Int) × ((List (Int × (Bool × (Bool × (Int × (Int × (ByteArray × (Int × Int)))))))) × ((List Int) × (Int × (Int × Int)))))) (a1 : Int) : Option Int :=
  sel (oIn a1 (lLen a0.2.1)) (
  letS (F44 (lAt a0.2.1 a1).1 0 2) fun y0 =>
  sel (bNot y0)
    (some 3)
    (sel (bNot (lAt a0.2.1 a1).2.1)
      (bndS (F47 (bNot (bAnd (iEq (lAt a0.2.1 a1).1 (lAt a0.2.1 a1).1) (bAnd (bEq (lAt a0.2.1 a1).2.1 false) (bAnd (bEq (lAt a0.2.1 a1).2.2.1 false) (bAnd (iEq (lAt a0.2.1 a1).2.2.2.1 0) (bAnd (iEq (lAt a0.2.1 a1).2.2.2.2.1 0) (bAnd (sEq (lAt a0.2.1 a1).2.2.2.2.2.1 (bs [])) (bAnd (iEq (lAt a0.2.1 a1).2.2.2.2.2.2.1 0) (iEq (lAt a0.2.1 a1).2.2.2.2.2.2.2 (-1))))))))))) fun y6 =>
      some (iMul .i64 5 y6))
      (bndS (F75 a0.1 (lAt a0.2.1 a1).2.2.2.1 (lAt a0.2.1 a1).2.2.2.2.1) fun y1 =>
      sel (bNot y1)
        (some 11)
        (sel (bNot (iEq (sLen (lAt a0.2.1 a1).2.2.2.2.2.1) 32))
          (some 18)
          (bndS (L45_0 (a1, ((a0.1.1, (a0.1.2, a0.2)), ((lAt a0.2.1 a1), 0)))) fun y2 =>
          sumS y2 (fun y2a =>
            letS (F44 y2a.2.2.2.2.2.2.2.1 1 y2a.1.2.2.2.2.1) fun y3 =>
            sel (bNot y3)
              (some 3)
              (sel (bOr (okS (F76 (y2a.1.1, y2a.1.2.1) y2a.2.2.2.2.1 y2a.2.2.2.2.2.1)) (bNot (bNot y2a.2.2.2.1))) (
              letS (valS (F76 (y2a.1.1, y2a.1.2.1) y2a.2.2.2.2.1 y2a.2.2.2.2.2.1) ByteArray.empty) fun y4 =>
              bndS (F47 (bAnd (bNot y2a.2.2.2.1) (bNot (sEq y2a.2.2.2.2.2.2.1 y4)))) fun y5 =>
              some (iMul .i64 15 y5)) none)) fun y2b =>
            some y2b))))) none
def gF45 : FS := ⟨(.seq (.agg (.dat (.pr (.pr (.sl (.pr (.int .i64) .str)) (.int .i64)) (.pr (.sl (.pr (.int .i64) (.pr .bool (.pr .bool (.pr (.int .i64) (.pr (.int .i64) (.pr .str (.pr (.int .i64) (.int .i64))))))))) (.pr (.sl (.int .i64)) (.pr (.int .i64) (.pr (.int .i64) (.int .i64)))))))) (.dat (.int .i64))), 0, (.one ⟨.non, (.dat (.int .i64)), 0, 0⟩), fun x => (F45 x.1 x.2)⟩
theorem rL45_0 (x : lsL45_0.hd.T) : kRound env (GofL [(47, [gF47]), (76, [gF76]), (44, [gF44]), (75, [gF75])]) (LofL [(45, [(0, lsL45_0)])]) 45 0 (lpOf Tryz.prog 45 0).2 (lsL45_0.hd.st x) lsL45_0.rd = lsL45_0.B x := by kernel_rfl
theorem eF45 (x : gF45.a.T) : kF env (GofL [(47, [gF47]), (76, [gF76]), (44, [gF44]), (75, [gF75])]) (LofL [(45, [(0, lsL45_0)])]) 45 (gF45.args x) (gF45.bs x) gF45.r.dec = gF45.F x := by kernel_rfl
theorem sF45 : SpecAt env 3 45 gF45 := mkSpec (r := 2) (gl := [(47, [gF47]), (76, [gF76]), (44, [gF44]), (75, [gF75])]) (L0 := [(0, lsL45_0)]) (by kernel_rfl) ⟨⟨sF47.up (by decide), trivial⟩, ⟨sF76.up (by decide), trivial⟩, ⟨sF44.up (by decide), trivial⟩, ⟨sF75.up (by decide), trivial⟩, trivial⟩ ⟨⟨0, by kernel_rfl, by kernel_rfl, rL45_0⟩, trivial⟩ eF45 (fun h => absurd h (by rw [show env.nl 45 = false by kernel_rfl]; decide))
def B24_0 (a0 : (List (Int × ByteArray))) (a1 : Int) (a2 : (List (Int × (Bool × (Bool × (Int × (Int × (ByteArray × (Int × Int))))))))) (a3 : (List Int)) (a4 : Int) (a5 : Int) (a6 : Int) (a7 : Int) : Option ((((List (Int × ByteArray)) × (Int × ((List (Int × (Bool × (Bool × (Int × (Int × (ByteArray × (Int × Int)))))))) × ((List Int) × (Int × (Int × Int)))))) × Int) ⊕ (((List (Int × ByteArray)) × (Int × ((List (Int × (Bool × (Bool × (Int × (Int × (ByteArray × (Int × Int)))))))) × ((List Int) × (Int × (Int × Int)))))) ⊕ Int)) :=
  sel (iLt a7 (lLen a2))
    (bndS (F45 ((a0, a1), (a2, (a3, (a4, (a5, a6))))) a7) fun y0 =>
    sel (bNot (iEq y0 0))
      (some (.inr (.inr y0)))
      (some (.inl ((a0, (a1, (a2, (a3, (a4, (a5, a6)))))), (iAdd .i64 a7 1)))))
    (some (.inr (.inl (a0, (a1, (a2, (a3, (a4, (a5, a6)))))))))
def L24_0 (x : (((List (Int × ByteArray)) × (Int × ((List (Int × (Bool × (Bool × (Int × (Int × (ByteArray × (Int × Int)))))))) × ((List Int) × (Int × (Int × Int)))))) × Int)) : Option (((List (Int × ByteArray)) × (Int × ((List (Int × (Bool × (Bool × (Int × (Int × (ByteArray × (Int × Int)))))))) × ((List Int) × (Int × (Int × Int)))))) ⊕ Int) := iter (fun (x : (((List (Int × ByteArray)) × (Int × ((List (Int × (Bool × (Bool × (Int × (Int × (ByteArray × (Int × Int)))))))) × ((List Int) × (Int × (Int × Int)))))) × Int)) => (B24_0 x.1.1 x.1.2.1 x.1.2.2.1 x.1.2.2.2.1 x.1.2.2.2.2.1 x.1.2.2.2.2.2.1 x.1.2.2.2.2.2.2 x.2)) fuel x
def lsL24_0 : LS := ⟨(.one .normal ⟨.non, [1, 4], (.seq (.box 0 (.seq (.dat (.sl (.pr (.int .i64) .str))) (.seq (.dat (.int .i64)) (.seq (.dat (.sl (.pr (.int .i64) (.pr .bool (.pr .bool (.pr (.int .i64) (.pr (.int .i64) (.pr .str (.pr (.int .i64) (.int .i64)))))))))) (.seq (.dat (.sl (.int .i64))) (.seq (.dat (.int .i64)) (.seq (.dat (.int .i64)) (.dat (.int .i64))))))))) (.dat (.int .i64))), 1, 95, 0⟩), (.two (.one (.exit 0) ⟨.non, [1], (.box 0 (.seq (.dat (.sl (.pr (.int .i64) .str))) (.seq (.dat (.int .i64)) (.seq (.dat (.sl (.pr (.int .i64) (.pr .bool (.pr .bool (.pr (.int .i64) (.pr (.int .i64) (.pr .str (.pr (.int .i64) (.int .i64)))))))))) (.seq (.dat (.sl (.int .i64))) (.seq (.dat (.int .i64)) (.seq (.dat (.int .i64)) (.dat (.int .i64))))))))), 1, 95, 0⟩) (.one .ret ⟨.non, [2], (.dat (.int .i64)), 0, 95, 0⟩)), fun (x : (((List (Int × ByteArray)) × (Int × ((List (Int × (Bool × (Bool × (Int × (Int × (ByteArray × (Int × Int)))))))) × ((List Int) × (Int × (Int × Int)))))) × Int)) => (B24_0 x.1.1 x.1.2.1 x.1.2.2.1 x.1.2.2.2.1 x.1.2.2.2.2.1 x.1.2.2.2.2.2.1 x.1.2.2.2.2.2.2 x.2)⟩
def B77_0 (a0 : (List Int)) (a1 : Int) (a2 : Int) : Option (((List Int) × (Int × Int)) ⊕ (Unit ⊕ Int)) :=
  sel (iLt a2 (lLen a0))
    (sel (oIn a2 (lLen a0)) (
    sel (iEq (lAt a0 a2) a1)
      (some (.inr (.inr a2)))
      (some (.inl (a0, (a1, (iAdd .i64 a2 1)))))) none)
    (some (.inr (.inl ())))
def L77_0 (x : ((List Int) × (Int × Int))) : Option (Unit ⊕ Int) := iter (fun (x : ((List Int) × (Int × Int))) => (B77_0 x.1 x.2.1 x.2.2)) fuel x
def lsL77_0 : LS := ⟨(.one .normal ⟨.non, [0, 1, 5], (.seq (.dat (.sl (.int .i64))) (.seq (.dat (.int .i64)) (.dat (.int .i64)))), 0, 19, 0⟩), (.two (.one (.exit 0) ⟨.non, [], .non, 0, 19, 0⟩) (.one .ret ⟨.non, [4], (.dat (.int .i64)), 0, 19, 0⟩)), fun (x : ((List Int) × (Int × Int))) => (B77_0 x.1 x.2.1 x.2.2)⟩
/-- midrangebase.IndexOf -/
def F77 (a0 : (List Int)) (a1 : Int) : Option Int :=
  bndS (L77_0 (a0, (a1, 0))) fun y0 =>
  sumS y0 (fun y0a =>
    some (-1)) fun y0b =>
    some y0b
def gF77 : FS := ⟨(.seq (.dat (.sl (.int .i64))) (.dat (.int .i64))), 0, (.one ⟨.non, (.dat (.int .i64)), 0, 0⟩), fun x => (F77 x.1 x.2)⟩
theorem rL77_0 (x : lsL77_0.hd.T) : kRound env (GofL []) (LofL [(77, [(0, lsL77_0)])]) 77 0 (lpOf Tryz.prog 77 0).2 (lsL77_0.hd.st x) lsL77_0.rd = lsL77_0.B x := by kernel_rfl
theorem eF77 (x : gF77.a.T) : kF env (GofL []) (LofL [(77, [(0, lsL77_0)])]) 77 (gF77.args x) (gF77.bs x) gF77.r.dec = gF77.F x := by kernel_rfl
theorem sF77 : SpecAt env 1 77 gF77 := mkSpec (r := 0) (gl := []) (L0 := [(0, lsL77_0)]) (by kernel_rfl) trivial ⟨⟨0, by kernel_rfl, by kernel_rfl, rL77_0⟩, trivial⟩ eF77 (fun h => absurd h (by rw [show env.nl 77 = false by kernel_rfl]; decide))
/-- midrangeref05.Chain -/
def F78 (a0 : Int) (a1 : Int) : Option Int :=
  sel (oNz 5) (
  some (iRem (iAdd .i64 (iMul .i64 7 a0) a1) 5)) none
def gF78 : FS := ⟨(.seq (.dat (.int .i64)) (.dat (.int .i64))), 0, (.one ⟨.non, (.dat (.int .i64)), 0, 0⟩), fun x => (F78 x.1 x.2)⟩
theorem eF78 (x : gF78.a.T) : kF env (GofL []) (LofL [(78, [])]) 78 (gF78.args x) (gF78.bs x) gF78.r.dec = gF78.F x := by kernel_rfl
theorem sF78 : SpecAt env 1 78 gF78 := mkSpec (r := 0) (gl := []) (L0 := []) (by kernel_rfl) trivial trivial eF78 (fun h => absurd h (by rw [show env.nl 78 = false by kernel_rfl]; decide))
def B46_0 (a0 : Int) (a1 : (List (Int × ByteArray))) (a2 : Int) (a3 : (List (Int × (Bool × (Bool × (Int × (Int × (ByteArray × (Int × Int))))))))) (a4 : (List Int)) (a5 : Int) (a6 : Int) (a7 : Int) (a8 : (List Int)) (a9 : Int) : Option ((Int × (((List (Int × ByteArray)) × (Int × ((List (Int × (Bool × (Bool × (Int × (Int × (ByteArray × (Int × Int)))))))) × ((List Int) × (Int × (Int × Int)))))) × ((List Int) × Int))) ⊕ ((List Int) ⊕ Bool)) :=
  sel (bNot (iEq a9 (-1)))
    (letS (F44 a9 0 (iSub .i64 (lLen a3) 1)) fun y0 =>
    sel (bOr (okS (F77 a8 a9)) (bNot (bNot (bNot y0)))) (
    letS (valS (F77 a8 a9) 0) fun y1 =>
    sel (bOr (bNot y0) (bNot (iEq y1 (-1))))
      (some (.inr (.inr false)))
      (sel (oIn a9 (lLen a3)) (
      sel (bOr (okS (F78 (lAt a3 a9).2.2.2.1 (lAt a3 a9).2.2.2.2.1)) (bNot (bNot (bNot (lAt a3 a9).2.1)))) (
      letS (valS (F78 (lAt a3 a9).2.2.2.1 (lAt a3 a9).2.2.2.2.1) 0) fun y2 =>
      sel (bOr (bNot (lAt a3 a9).2.1) (bNot (iEq y2 a0)))
        (some (.inr (.inr false)))
        (sel (lCap 8 (lApp a8 [a9])) (
        sel (oIn a9 (lLen a3)) (
        some (.inl (a0, ((a1, (a2, (a3, (a4, (a5, (a6, a7)))))), ((lApp a8 [a9]), (lAt a3 a9).2.2.2.2.2.2.2))))) none) none)) none) none)) none)
    (some (.inr (.inl a8)))
def L46_0 (x : (Int × (((List (Int × ByteArray)) × (Int × ((List (Int × (Bool × (Bool × (Int × (Int × (ByteArray × (Int × Int)))))))) × ((List Int) × (Int × (Int × Int)))))) × ((List Int) × Int)))) : Option ((List Int) ⊕ Bool) := iter (fun (x : (Int × (((List (Int × ByteArray)) × (Int × ((List (Int × (Bool × (Bool × (Int × (Int × (ByteArray × (Int × Int)))))))) × ((List Int) × (Int × (Int × Int)))))) × ((List Int) × Int)))) => (B46_0 x.1 x.2.1.1 x.2.1.2.1 x.2.1.2.2.1 x.2.1.2.2.2.1 x.2.1.2.2.2.2.1 x.2.1.2.2.2.2.2.1 x.2.1.2.2.2.2.2.2 x.2.2.1 x.2.2.2)) fuel x
def lsL46_0 : LS := ⟨(.one .normal ⟨.non, [1, 2, 6, 7], (.seq (.dat (.int .i64)) (.seq (.box 0 (.seq (.dat (.sl (.pr (.int .i64) .str))) (.seq (.dat (.int .i64)) (.seq (.dat (.sl (.pr (.int .i64) (.pr .bool (.pr .bool (.pr (.int .i64) (.pr (.int .i64) (.pr .str (.pr (.int .i64) (.int .i64)))))))))) (.seq (.dat (.sl (.int .i64))) (.seq (.dat (.int .i64)) (.seq (.dat (.int .i64)) (.dat (.int .i64))))))))) (.seq (.own 1 (.int .i64)) (.dat (.int .i64))))), 2, 57, 0⟩), (.two (.one (.exit 0) ⟨.non, [6], (.own 0 (.int .i64)), 1, 57, 0⟩) (.one .ret ⟨.non, [4, 5], (.seq (.lit (.slice none 0 0)) (.dat .bool)), 0, 57, 0⟩)), fun (x : (Int × (((List (Int × ByteArray)) × (Int × ((List (Int × (Bool × (Bool × (Int × (Int × (ByteArray × (Int × Int)))))))) × ((List Int) × (Int × (Int × Int)))))) × ((List Int) × Int)))) => (B46_0 x.1 x.2.1.1 x.2.1.2.1 x.2.1.2.2.1 x.2.1.2.2.2.1 x.2.1.2.2.2.2.1 x.2.1.2.2.2.2.2.1 x.2.1.2.2.2.2.2.2 x.2.2.1 x.2.2.2)⟩
/-- midrangeref05.walk -/
def F46 (a0 : (((List (Int × ByteArray)) × Int) × ((List (Int × (Bool × (Bool × (Int × (Int × (ByteArray × (Int × Int)))))))) × ((List Int) × (Int × (Int × Int)))))) (a1 : Int) : Option ((List Int) × Bool) :=
  sel (oIn a1 (lLen a0.2.2.1)) (
  bndS (L46_0 (a1, ((a0.1.1, (a0.1.2, a0.2)), (([] : List Int), (lAt a0.2.2.1 a1))))) fun y0 =>
  sumS y0 (fun y0a =>
    some (y0a, true)) fun y0b =>
    some (([] : List Int), y0b)) none
def gF46 : FS := ⟨(.seq (.agg (.dat (.pr (.pr (.sl (.pr (.int .i64) .str)) (.int .i64)) (.pr (.sl (.pr (.int .i64) (.pr .bool (.pr .bool (.pr (.int .i64) (.pr (.int .i64) (.pr .str (.pr (.int .i64) (.int .i64))))))))) (.pr (.sl (.int .i64)) (.pr (.int .i64) (.pr (.int .i64) (.int .i64)))))))) (.dat (.int .i64))), 0, (.one ⟨.non, (.tup (.seq (.own 0 (.int .i64)) (.dat .bool))), 0, 1⟩), fun x => (F46 x.1 x.2)⟩
theorem rL46_0 (x : lsL46_0.hd.T) : kRound env (GofL [(78, [gF78]), (77, [gF77]), (44, [gF44])]) (LofL [(46, [(0, lsL46_0)])]) 46 0 (lpOf Tryz.prog 46 0).2 (lsL46_0.hd.st x) lsL46_0.rd = lsL46_0.B x := by kernel_rfl
theorem eF46 (x : gF46.a.T) : kF env (GofL [(78, [gF78]), (77, [gF77]), (44, [gF44])]) (LofL [(46, [(0, lsL46_0)])]) 46 (gF46.args x) (gF46.bs x) gF46.r.dec = gF46.F x := by kernel_rfl
theorem sF46 : SpecAt env 2 46 gF46 := mkSpec (r := 1) (gl := [(78, [gF78]), (77, [gF77]), (44, [gF44])]) (L0 := [(0, lsL46_0)]) (by kernel_rfl) ⟨⟨sF78.up (by decide), trivial⟩, ⟨sF77.up (by decide), trivial⟩, ⟨sF44.up (by decide), trivial⟩, trivial⟩ ⟨⟨0, by kernel_rfl, by kernel_rfl, rL46_0⟩, trivial⟩ eF46 (fun h => absurd h (by rw [show env.nl 46 = false by kernel_rfl]; decide))
def B24_2 (a0 : (List (Int × ByteArray))) (a1 : Int) (a2 : (List (Int × (Bool × (Bool × (Int × (Int × (ByteArray × (Int × Int))))))))) (a3 : (List Int)) (a4 : Int) (a5 : Int) (a6 : Int) (a7 : Int) (a8 : Int) (a9 : Int) : Option ((((List (Int × ByteArray)) × (Int × ((List (Int × (Bool × (Bool × (Int × (Int × (ByteArray × (Int × Int)))))))) × ((List Int) × (Int × (Int × Int)))))) × (Int × (Int × Int))) ⊕ ((((List (Int × ByteArray)) × (Int × ((List (Int × (Bool × (Bool × (Int × (Int × (ByteArray × (Int × Int)))))))) × ((List Int) × (Int × (Int × Int)))))) × (Int × Int)) ⊕ Int)) :=
  sel (iLt a9 5)
    (bndS (F46 ((a0, a1), (a2, (a3, (a4, (a5, a6))))) a9) fun y0 =>
    sel (bNot y0.2)
      (some (.inr (.inr 41)))
      (some (.inl ((a0, (a1, (a2, (a3, (a4, (a5, a6)))))), ((iAdd .i64 a7 (lLen y0.1)), (a8, (iAdd .i64 a9 1)))))))
    (some (.inr (.inl ((a0, (a1, (a2, (a3, (a4, (a5, a6)))))), (a7, a8)))))
def L24_2 (x : (((List (Int × ByteArray)) × (Int × ((List (Int × (Bool × (Bool × (Int × (Int × (ByteArray × (Int × Int)))))))) × ((List Int) × (Int × (Int × Int)))))) × (Int × (Int × Int)))) : Option ((((List (Int × ByteArray)) × (Int × ((List (Int × (Bool × (Bool × (Int × (Int × (ByteArray × (Int × Int)))))))) × ((List Int) × (Int × (Int × Int)))))) × (Int × Int)) ⊕ Int) := iter (fun (x : (((List (Int × ByteArray)) × (Int × ((List (Int × (Bool × (Bool × (Int × (Int × (ByteArray × (Int × Int)))))))) × ((List Int) × (Int × (Int × Int)))))) × (Int × (Int × Int)))) => (B24_2 x.1.1 x.1.2.1 x.1.2.2.1 x.1.2.2.2.1 x.1.2.2.2.2.1 x.1.2.2.2.2.2.1 x.1.2.2.2.2.2.2 x.2.1 x.2.2.1 x.2.2.2)) fuel x
def lsL24_2 : LS := ⟨(.one .normal ⟨.non, [1, 6, 7, 8], (.seq (.box 0 (.seq (.dat (.sl (.pr (.int .i64) .str))) (.seq (.dat (.int .i64)) (.seq (.dat (.sl (.pr (.int .i64) (.pr .bool (.pr .bool (.pr (.int .i64) (.pr (.int .i64) (.pr .str (.pr (.int .i64) (.int .i64)))))))))) (.seq (.dat (.sl (.int .i64))) (.seq (.dat (.int .i64)) (.seq (.dat (.int .i64)) (.dat (.int .i64))))))))) (.seq (.dat (.int .i64)) (.seq (.dat (.int .i64)) (.dat (.int .i64))))), 1, 95, 0⟩), (.two (.one (.exit 2) ⟨.non, [1, 6, 7], (.seq (.box 0 (.seq (.dat (.sl (.pr (.int .i64) .str))) (.seq (.dat (.int .i64)) (.seq (.dat (.sl (.pr (.int .i64) (.pr .bool (.pr .bool (.pr (.int .i64) (.pr (.int .i64) (.pr .str (.pr (.int .i64) (.int .i64)))))))))) (.seq (.dat (.sl (.int .i64))) (.seq (.dat (.int .i64)) (.seq (.dat (.int .i64)) (.dat (.int .i64))))))))) (.seq (.dat (.int .i64)) (.dat (.int .i64)))), 1, 95, 0⟩) (.one .ret ⟨.non, [2], (.dat (.int .i64)), 0, 95, 0⟩)), fun (x : (((List (Int × ByteArray)) × (Int × ((List (Int × (Bool × (Bool × (Int × (Int × (ByteArray × (Int × Int)))))))) × ((List Int) × (Int × (Int × Int)))))) × (Int × (Int × Int)))) => (B24_2 x.1.1 x.1.2.1 x.1.2.2.1 x.1.2.2.2.1 x.1.2.2.2.2.1 x.1.2.2.2.2.2.1 x.1.2.2.2.2.2.2 x.2.1 x.2.2.1 x.2.2.2)⟩
def B24_4 (a0 : (List (Int × ByteArray))) (a1 : Int) (a2 : (List (Int × (Bool × (Bool × (Int × (Int × (ByteArray × (Int × Int))))))))) (a3 : (List Int)) (a4 : Int) (a5 : Int) (a6 : Int) (a7 : Int) (a8 : Int) (a9 : Int) : Option ((((List (Int × ByteArray)) × (Int × ((List (Int × (Bool × (Bool × (Int × (Int × (ByteArray × (Int × Int)))))))) × ((List Int) × (Int × (Int × Int)))))) × (Int × (Int × Int))) ⊕ (Int × Int)) :=
  sel (iLt a9 (lLen a2))
    (sel (oIn a9 (lLen a2)) (
    bndS (F47 (lAt a2 a9).2.1) fun y0 =>
    some (.inl ((a0, (a1, (a2, (a3, (a4, (a5, a6)))))), (a7, ((iAdd .i64 a8 y0), (iAdd .i64 a9 1)))))) none)
    (some (.inr (a7, a8)))
def L24_4 (x : (((List (Int × ByteArray)) × (Int × ((List (Int × (Bool × (Bool × (Int × (Int × (ByteArray × (Int × Int)))))))) × ((List Int) × (Int × (Int × Int)))))) × (Int × (Int × Int)))) : Option (Int × Int) := iter (fun (x : (((List (Int × ByteArray)) × (Int × ((List (Int × (Bool × (Bool × (Int × (Int × (ByteArray × (Int × Int)))))))) × ((List Int) × (Int × (Int × Int)))))) × (Int × (Int × Int)))) => (B24_4 x.1.1 x.1.2.1 x.1.2.2.1 x.1.2.2.2.1 x.1.2.2.2.2.1 x.1.2.2.2.2.2.1 x.1.2.2.2.2.2.2 x.2.1 x.2.2.1 x.2.2.2)) fuel x
def lsL24_4 : LS := ⟨(.one .normal ⟨.non, [1, 6, 7, 11], (.seq (.box 0 (.seq (.dat (.sl (.pr (.int .i64) .str))) (.seq (.dat (.int .i64)) (.seq (.dat (.sl (.pr (.int .i64) (.pr .bool (.pr .bool (.pr (.int .i64) (.pr (.int .i64) (.pr .str (.pr (.int .i64) (.int .i64)))))))))) (.seq (.dat (.sl (.int .i64))) (.seq (.dat (.int .i64)) (.seq (.dat (.int .i64)) (.dat (.int .i64))))))))) (.seq (.dat (.int .i64)) (.seq (.dat (.int .i64)) (.dat (.int .i64))))), 1, 95, 0⟩), (.one (.exit 4) ⟨.non, [6, 7], (.seq (.dat (.int .i64)) (.dat (.int .i64))), 0, 95, 0⟩), fun (x : (((List (Int × ByteArray)) × (Int × ((List (Int × (Bool × (Bool × (Int × (Int × (ByteArray × (Int × Int)))))))) × ((List Int) × (Int × (Int × Int)))))) × (Int × (Int × Int)))) => (B24_4 x.1.1 x.1.2.1 x.1.2.2.1 x.1.2.2.2.1 x.1.2.2.2.2.1 x.1.2.2.2.2.2.1 x.1.2.2.2.2.2.2 x.2.1 x.2.2.1 x.2.2.2)⟩
/-- midrangeref05.Err -/
def F24 (a0 : (((List (Int × ByteArray)) × Int) × ((List (Int × (Bool × (Bool × (Int × (Int × (ByteArray × (Int × Int)))))))) × ((List Int) × (Int × (Int × Int)))))) : Option Int :=
  bndS (F43 a0.1) fun y0 =>
  sel (bNot (iEq y0 0))
    (some y0)
    (letS (F44 (lLen a0.2.1) 1 8) fun y1 =>
    sel (bOr (bNot y1) (bNot (iEq (lLen a0.2.2.1) 5)))
      (some 6)
      (letS (F44 a0.2.2.2.1 0 999999999999999) fun y2 =>
      letS (F44 a0.2.2.2.2.1 0 999999999999999) fun y3 =>
      letS (F44 a0.2.2.2.2.2 0 999999999999999) fun y4 =>
      sel (bOr (bOr (bNot y2) (bNot y3)) (bNot y4))
        (some 3)
        (bndS (L24_0 ((a0.1.1, (a0.1.2, a0.2)), 0)) fun y5 =>
        sumS y5 (fun y5a =>
          bndS (L24_2 (y5a, (0, (0, 0)))) fun y6 =>
          sumS y6 (fun y6a =>
            bndS (L24_4 (y6a.1, (y6a.2.1, (y6a.2.2, 0)))) fun y7 =>
            bndS (F47 (bNot (iEq y7.1 y7.2))) fun y8 =>
            some (iMul .i64 41 y8)) fun y6b =>
            some y6b) fun y5b =>
          some y5b)))
def gF24 : FS := ⟨(.agg (.dat (.pr (.pr (.sl (.pr (.int .i64) .str)) (.int .i64)) (.pr (.sl (.pr (.int .i64) (.pr .bool (.pr .bool (.pr (.int .i64) (.pr (.int .i64) (.pr .str (.pr (.int .i64) (.int .i64))))))))) (.pr (.sl (.int .i64)) (.pr (.int .i64) (.pr (.int .i64) (.int .i64)))))))), 0, (.one ⟨.non, (.dat (.int .i64)), 0, 0⟩), fun x => (F24 x)⟩
theorem rL24_0 (x : lsL24_0.hd.T) : kRound env (GofL [(47, [gF47]), (46, [gF46]), (45, [gF45]), (44, [gF44]), (43, [gF43])]) (LofL [(24, [(0, lsL24_0), (2, lsL24_2), (4, lsL24_4)])]) 24 0 (lpOf Tryz.prog 24 0).2 (lsL24_0.hd.st x) lsL24_0.rd = lsL24_0.B x := by kernel_rfl
theorem rL24_2 (x : lsL24_2.hd.T) : kRound env (GofL [(47, [gF47]), (46, [gF46]), (45, [gF45]), (44, [gF44]), (43, [gF43])]) (LofL [(24, [(0, lsL24_0), (2, lsL24_2), (4, lsL24_4)])]) 24 2 (lpOf Tryz.prog 24 1).2 (lsL24_2.hd.st x) lsL24_2.rd = lsL24_2.B x := by kernel_rfl
theorem rL24_4 (x : lsL24_4.hd.T) : kRound env (GofL [(47, [gF47]), (46, [gF46]), (45, [gF45]), (44, [gF44]), (43, [gF43])]) (LofL [(24, [(0, lsL24_0), (2, lsL24_2), (4, lsL24_4)])]) 24 4 (lpOf Tryz.prog 24 2).2 (lsL24_4.hd.st x) lsL24_4.rd = lsL24_4.B x := by kernel_rfl
theorem eF24 (x : gF24.a.T) : kF env (GofL [(47, [gF47]), (46, [gF46]), (45, [gF45]), (44, [gF44]), (43, [gF43])]) (LofL [(24, [(0, lsL24_0), (2, lsL24_2), (4, lsL24_4)])]) 24 (gF24.args x) (gF24.bs x) gF24.r.dec = gF24.F x := by kernel_rfl
theorem sF24 : SpecAt env 4 24 gF24 := mkSpec (r := 3) (gl := [(47, [gF47]), (46, [gF46]), (45, [gF45]), (44, [gF44]), (43, [gF43])]) (L0 := [(0, lsL24_0), (2, lsL24_2), (4, lsL24_4)]) (by kernel_rfl) ⟨⟨sF47.up (by decide), trivial⟩, ⟨sF46.up (by decide), trivial⟩, ⟨sF45.up (by decide), trivial⟩, ⟨sF44.up (by decide), trivial⟩, ⟨sF43.up (by decide), trivial⟩, trivial⟩ ⟨⟨0, by kernel_rfl, by kernel_rfl, rL24_0⟩, ⟨1, by kernel_rfl, by kernel_rfl, rL24_2⟩, ⟨2, by kernel_rfl, by kernel_rfl, rL24_4⟩, trivial⟩ eF24 (fun h => absurd h (by rw [show env.nl 24 = false by kernel_rfl]; decide))
/-- midrangeref05.IsPool -/
def F49 (a0 : Int) : Bool :=
  letS (F44 a0 0 2) fun y0 =>
  y0
def gF49 : FS := ⟨(.dat (.int .i64)), 0, (.one ⟨.non, (.dat .bool), 0, 0⟩), fun x => some (F49 x)⟩
theorem eF49 (x : gF49.a.T) : kF env (GofL [(44, [gF44])]) (LofL [(49, [])]) 49 (gF49.args x) (gF49.bs x) gF49.r.dec = gF49.F x := by kernel_rfl
theorem sF49 : SpecAt env 2 49 gF49 := mkSpec (r := 1) (gl := [(44, [gF44])]) (L0 := []) (by kernel_rfl) ⟨⟨sF44.up (by decide), trivial⟩, trivial⟩ trivial eF49 (fun h => absurd h (by rw [show env.nl 49 = false by kernel_rfl]; decide))
/-- midrangeref04.NumberErr -/
def F48 (a0 : ((List (Int × ByteArray)) × Int)) (a1 : Int) : Option Int :=
  bndS (F79 a0 a1) fun y0 =>
  sel (bNot (iEq y0 (-1)))
    (some 0)
    (letS (F44 a1 1 (iSub .i64 a0.2 1)) fun y1 =>
    sel y1
      (some 24)
      (some 11))
def gF48 : FS := ⟨(.seq (.agg (.dat (.pr (.sl (.pr (.int .i64) .str)) (.int .i64)))) (.dat (.int .i64))), 0, (.one ⟨.non, (.dat (.int .i64)), 0, 0⟩), fun x => (F48 x.1 x.2)⟩
theorem eF48 (x : gF48.a.T) : kF env (GofL [(44, [gF44]), (79, [gF79])]) (LofL [(48, [])]) 48 (gF48.args x) (gF48.bs x) gF48.r.dec = gF48.F x := by kernel_rfl
theorem sF48 : SpecAt env 2 48 gF48 := mkSpec (r := 1) (gl := [(44, [gF44]), (79, [gF79])]) (L0 := []) (by kernel_rfl) ⟨⟨sF44.up (by decide), trivial⟩, ⟨sF79.up (by decide), trivial⟩, trivial⟩ trivial eF48 (fun h => absurd h (by rw [show env.nl 48 = false by kernel_rfl]; decide))
/-- midrangeref04.known -/
def F93 (a0 : ((List (Int × ByteArray)) × Int)) (a1 : Int) : Option (Int × Int) :=
  bndS (F43 a0) fun y0 =>
  sel (bNot (iEq y0 0))
    (some ((-1), y0))
    (bndS (F79 a0 a1) fun y1 =>
    bndS (F48 a0 a1) fun y2 =>
    some (y1, y2))
def gF93 : FS := ⟨(.seq (.agg (.dat (.pr (.sl (.pr (.int .i64) .str)) (.int .i64)))) (.dat (.int .i64))), 0, (.one ⟨.non, (.tup (.seq (.dat (.int .i64)) (.dat (.int .i64)))), 0, 0⟩), fun x => (F93 x.1 x.2)⟩
theorem eF93 (x : gF93.a.T) : kF env (GofL [(48, [gF48]), (79, [gF79]), (43, [gF43])]) (LofL [(93, [])]) 93 (gF93.args x) (gF93.bs x) gF93.r.dec = gF93.F x := by kernel_rfl
theorem sF93 : SpecAt env 4 93 gF93 := mkSpec (r := 3) (gl := [(48, [gF48]), (79, [gF79]), (43, [gF43])]) (L0 := []) (by kernel_rfl) ⟨⟨sF48.up (by decide), trivial⟩, ⟨sF79.up (by decide), trivial⟩, ⟨sF43.up (by decide), trivial⟩, trivial⟩ trivial eF93 (fun h => absurd h (by rw [show env.nl 93 = false by kernel_rfl]; decide))
/-- midrangeref04.reach -/
def F80 (a0 : ((List (Int × ByteArray)) × Int)) (a1 : (Int × Int)) (a2 : Int) : Option (Int × Int) :=
  bndS (F93 a0 a1.1) fun y0 =>
  sel (bNot (iEq y0.2 0))
    (some y0)
    (sel (oIn y0.1 (lLen a0.1)) (
    letS (F44 a1.2 0 (sLen (lAt a0.1 y0.1).2)) fun y1 =>
    letS (F44 a2 0 (iSub .i64 (sLen (lAt a0.1 y0.1).2) a1.2)) fun y2 =>
    sel (bOr (bNot y1) (bNot y2))
      (some (y0.1, 3))
      (some (y0.1, 0))) none)
def gF80 : FS := ⟨(.seq (.agg (.dat (.pr (.sl (.pr (.int .i64) .str)) (.int .i64)))) (.seq (.agg (.dat (.pr (.int .i64) (.int .i64)))) (.dat (.int .i64)))), 0, (.one ⟨.non, (.tup (.seq (.dat (.int .i64)) (.dat (.int .i64)))), 0, 0⟩), fun x => (F80 x.1 x.2.1 x.2.2)⟩
theorem eF80 (x : gF80.a.T) : kF env (GofL [(44, [gF44]), (93, [gF93])]) (LofL [(80, [])]) 80 (gF80.args x) (gF80.bs x) gF80.r.dec = gF80.F x := by kernel_rfl
theorem sF80 : SpecAt env 5 80 gF80 := mkSpec (r := 4) (gl := [(44, [gF44]), (93, [gF93])]) (L0 := []) (by kernel_rfl) ⟨⟨sF44.up (by decide), trivial⟩, ⟨sF93.up (by decide), trivial⟩, trivial⟩ trivial eF80 (fun h => absurd h (by rw [show env.nl 80 = false by kernel_rfl]; decide))
/-- midrangeref04.ReadAt -/
def F50 (a0 : ((List (Int × ByteArray)) × Int)) (a1 : (Int × Int)) (a2 : Int) : Option ((List (Int × ByteArray)) × (Int × (Int × (ByteArray × Int)))) :=
  bndS (F80 a0 a1 a2) fun y0 =>
  sel (bNot (iEq y0.2 0))
    (some (([] : List (Int × ByteArray)), (0, (0, ((bs []), y0.2)))))
    (sel (oIn y0.1 (lLen a0.1)) (
    sel (oCut a1.2 (iAdd .i64 a1.2 a2) (sLen (lAt a0.1 y0.1).2)) (
    some (([] : List (Int × ByteArray)), (0, (0, ((sCut (lAt a0.1 y0.1).2 a1.2 (iAdd .i64 a1.2 a2)), 0))))) none) none)
def gF50 : FS := ⟨(.seq (.agg (.dat (.pr (.sl (.pr (.int .i64) .str)) (.int .i64)))) (.seq (.agg (.dat (.pr (.int .i64) (.int .i64)))) (.dat (.int .i64)))), 0, (.one ⟨.non, (.agg (.seq (.own 0 (.pr (.int .i64) .str)) (.seq (.dat (.int .i64)) (.seq (.dat (.int .i64)) (.seq (.dat .str) (.dat (.int .i64))))))), 0, 1⟩), fun x => (F50 x.1 x.2.1 x.2.2)⟩
theorem eF50 (x : gF50.a.T) : kF env (GofL [(80, [gF80])]) (LofL [(50, [])]) 50 (gF50.args x) (gF50.bs x) gF50.r.dec = gF50.F x := by kernel_rfl
theorem sF50 : SpecAt env 6 50 gF50 := mkSpec (r := 5) (gl := [(80, [gF80])]) (L0 := []) (by kernel_rfl) ⟨⟨sF80.up (by decide), trivial⟩, trivial⟩ trivial eF50 (fun h => absurd h (by rw [show env.nl 50 = false by kernel_rfl]; decide))
end
end Go.Proofs.YtagcodkkkebnhaaGreat.K
end

section
set_option linter.unusedVariables false
set_option linter.unusedSimpArgs false
set_option linter.unnecessarySimpa false
open Go Go.Ev Go.Proofs
namespace Go.Proofs.YtagcodkkkebnhaaGreat.K
set_option linter.unusedVariables false
set_option maxRecDepth 100000
noncomputable section
def B51_0 (a0 : Int) (a1 : (List (Int × ByteArray))) (a2 : Int) (a3 : (List (Int × (Bool × (Bool × (Int × (Int × (ByteArray × (Int × Int))))))))) (a4 : (List Int)) (a5 : Int) (a6 : Int) (a7 : Int) (a8 : Int) : Option ((Int × (((List (Int × ByteArray)) × (Int × ((List (Int × (Bool × (Bool × (Int × (Int × (ByteArray × (Int × Int)))))))) × ((List Int) × (Int × (Int × Int)))))) × Int)) ⊕ (Unit ⊕ Bool)) :=
  sel (iLt a8 (lLen a3))
    (sel (oIn a8 (lLen a3)) (
    sel (iEq (lAt a3 a8).1 a0)
      (some (.inr (.inr true)))
      (some (.inl (a0, ((a1, (a2, (a3, (a4, (a5, (a6, a7)))))), (iAdd .i64 a8 1)))))) none)
    (some (.inr (.inl ())))
def L51_0 (x : (Int × (((List (Int × ByteArray)) × (Int × ((List (Int × (Bool × (Bool × (Int × (Int × (ByteArray × (Int × Int)))))))) × ((List Int) × (Int × (Int × Int)))))) × Int))) : Option (Unit ⊕ Bool) := iter (fun (x : (Int × (((List (Int × ByteArray)) × (Int × ((List (Int × (Bool × (Bool × (Int × (Int × (ByteArray × (Int × Int)))))))) × ((List Int) × (Int × (Int × Int)))))) × Int))) => (B51_0 x.1 x.2.1.1 x.2.1.2.1 x.2.1.2.2.1 x.2.1.2.2.2.1 x.2.1.2.2.2.2.1 x.2.1.2.2.2.2.2.1 x.2.1.2.2.2.2.2.2 x.2.2)) fuel x
def lsL51_0 : LS := ⟨(.one .normal ⟨.non, [1, 2, 5], (.seq (.dat (.int .i64)) (.seq (.box 0 (.seq (.dat (.sl (.pr (.int .i64) .str))) (.seq (.dat (.int .i64)) (.seq (.dat (.sl (.pr (.int .i64) (.pr .bool (.pr .bool (.pr (.int .i64) (.pr (.int .i64) (.pr .str (.pr (.int .i64) (.int .i64)))))))))) (.seq (.dat (.sl (.int .i64))) (.seq (.dat (.int .i64)) (.seq (.dat (.int .i64)) (.dat (.int .i64))))))))) (.dat (.int .i64)))), 1, 21, 0⟩), (.two (.one (.exit 0) ⟨.non, [], .non, 0, 21, 0⟩) (.one .ret ⟨.non, [4], (.dat .bool), 0, 21, 0⟩)), fun (x : (Int × (((List (Int × ByteArray)) × (Int × ((List (Int × (Bool × (Bool × (Int × (Int × (ByteArray × (Int × Int)))))))) × ((List Int) × (Int × (Int × Int)))))) × Int))) => (B51_0 x.1 x.2.1.1 x.2.1.2.1 x.2.1.2.2.1 x.2.1.2.2.2.1 x.2.1.2.2.2.2.1 x.2.1.2.2.2.2.2.1 x.2.1.2.2.2.2.2.2 x.2.2)⟩
/-- midrangeref05.hasPool -/
def F51 (a0 : (((List (Int × ByteArray)) × Int) × ((List (Int × (Bool × (Bool × (Int × (Int × (ByteArray × (Int × Int)))))))) × ((List Int) × (Int × (Int × Int)))))) (a1 : Int) : Option Bool :=
  bndS (L51_0 (a1, ((a0.1.1, (a0.1.2, a0.2)), 0))) fun y0 =>
  sumS y0 (fun y0a =>
    some false) fun y0b =>
    some y0b
def gF51 : FS := ⟨(.seq (.agg (.dat (.pr (.pr (.sl (.pr (.int .i64) .str)) (.int .i64)) (.pr (.sl (.pr (.int .i64) (.pr .bool (.pr .bool (.pr (.int .i64) (.pr (.int .i64) (.pr .str (.pr (.int .i64) (.int .i64))))))))) (.pr (.sl (.int .i64)) (.pr (.int .i64) (.pr (.int .i64) (.int .i64)))))))) (.dat (.int .i64))), 0, (.one ⟨.non, (.dat .bool), 0, 0⟩), fun x => (F51 x.1 x.2)⟩
theorem rL51_0 (x : lsL51_0.hd.T) : kRound env (GofL []) (LofL [(51, [(0, lsL51_0)])]) 51 0 (lpOf Tryz.prog 51 0).2 (lsL51_0.hd.st x) lsL51_0.rd = lsL51_0.B x := by kernel_rfl
theorem eF51 (x : gF51.a.T) : kF env (GofL []) (LofL [(51, [(0, lsL51_0)])]) 51 (gF51.args x) (gF51.bs x) gF51.r.dec = gF51.F x := by kernel_rfl
theorem sF51 : SpecAt env 1 51 gF51 := mkSpec (r := 0) (gl := []) (L0 := [(0, lsL51_0)]) (by kernel_rfl) trivial ⟨⟨0, by kernel_rfl, by kernel_rfl, rL51_0⟩, trivial⟩ eF51 (fun h => absurd h (by rw [show env.nl 51 = false by kernel_rfl]; decide))
/-- midrangeref05.accessErr -/
def F25 (a0 : (((List (Int × ByteArray)) × Int) × ((List (Int × (Bool × (Bool × (Int × (Int × (ByteArray × (Int × Int)))))))) × ((List Int) × (Int × (Int × Int)))))) (a1 : (Int × (Int × ((Int × Int) × (Int × ByteArray))))) : Option Int :=
  letS (F44 a1.1 0 3) fun y0 =>
  sel (bNot y0)
    (some 4)
    (sel (iEq a1.1 0)
      (sel (bNot (bAnd (iEq a1.1 a1.1) (bAnd (iEq a1.2.1 a1.2.1) (bAnd (iEq a1.2.2.1.1 a1.2.2.1.1) (bAnd (iEq a1.2.2.1.2 a1.2.2.1.2) (bAnd (iEq a1.2.2.2.1 a1.2.2.2.1) (sEq (bs []) a1.2.2.2.2)))))))
        (some 5)
        (sel (iEq a1.1 2)
          (bndS (F48 a0.1 a1.2.2.1.1) fun y20 =>
          some y20)
          (sel (iEq a1.1 3)
            (some 0)
            (letS (F49 a1.2.1) fun y16 =>
            sel (bNot y16)
              (some 3)
              (bndS (F50 a0.1 a1.2.2.1 (sel (iEq a1.1 1) (sLen a1.2.2.2.2) a1.2.2.2.1)) fun y17 =>
              sel (bNot (iEq y17.2.2.2.2 0))
                (some y17.2.2.2.2)
                (bndS (F51 a0 a1.2.1) fun y18 =>
                bndS (F47 (bNot y18)) fun y19 =>
                some (iMul .i64 40 y19)))))))
      (sel (iEq a1.1 1)
        (sel (bNot (bAnd (iEq a1.1 a1.1) (bAnd (iEq a1.2.1 a1.2.1) (bAnd (iEq a1.2.2.1.1 a1.2.2.1.1) (bAnd (iEq a1.2.2.1.2 a1.2.2.1.2) (bAnd (iEq 0 a1.2.2.2.1) (sEq a1.2.2.2.2 a1.2.2.2.2)))))))
          (some 5)
          (sel (iEq a1.1 2)
            (bndS (F48 a0.1 a1.2.2.1.1) fun y15 =>
            some y15)
            (sel (iEq a1.1 3)
              (some 0)
              (letS (F49 a1.2.1) fun y11 =>
              sel (bNot y11)
                (some 3)
                (bndS (F50 a0.1 a1.2.2.1 (sel (iEq a1.1 1) (sLen a1.2.2.2.2) a1.2.2.2.1)) fun y12 =>
                sel (bNot (iEq y12.2.2.2.2 0))
                  (some y12.2.2.2.2)
                  (bndS (F51 a0 a1.2.1) fun y13 =>
                  bndS (F47 (bNot y13)) fun y14 =>
                  some (iMul .i64 40 y14)))))))
        (sel (iEq a1.1 2)
          (sel (bNot (bAnd (iEq a1.1 a1.1) (bAnd (iEq 0 a1.2.1) (bAnd (iEq a1.2.2.1.1 a1.2.2.1.1) (bAnd (iEq 0 a1.2.2.1.2) (bAnd (iEq 0 a1.2.2.2.1) (sEq (bs []) a1.2.2.2.2)))))))
            (some 5)
            (sel (iEq a1.1 2)
              (bndS (F48 a0.1 a1.2.2.1.1) fun y10 =>
              some y10)
              (sel (iEq a1.1 3)
                (some 0)
                (letS (F49 a1.2.1) fun y6 =>
                sel (bNot y6)
                  (some 3)
                  (bndS (F50 a0.1 a1.2.2.1 (sel (iEq a1.1 1) (sLen a1.2.2.2.2) a1.2.2.2.1)) fun y7 =>
                  sel (bNot (iEq y7.2.2.2.2 0))
                    (some y7.2.2.2.2)
                    (bndS (F51 a0 a1.2.1) fun y8 =>
                    bndS (F47 (bNot y8)) fun y9 =>
                    some (iMul .i64 40 y9)))))))
          (sel (bNot (bAnd (iEq a1.1 a1.1) (bAnd (iEq 0 a1.2.1) (bAnd (iEq 0 a1.2.2.1.1) (bAnd (iEq 0 a1.2.2.1.2) (bAnd (iEq 0 a1.2.2.2.1) (sEq (bs []) a1.2.2.2.2)))))))
            (some 5)
            (sel (iEq a1.1 2)
              (bndS (F48 a0.1 a1.2.2.1.1) fun y5 =>
              some y5)
              (sel (iEq a1.1 3)
                (some 0)
                (letS (F49 a1.2.1) fun y1 =>
                sel (bNot y1)
                  (some 3)
                  (bndS (F50 a0.1 a1.2.2.1 (sel (iEq a1.1 1) (sLen a1.2.2.2.2) a1.2.2.2.1)) fun y2 =>
                  sel (bNot (iEq y2.2.2.2.2 0))
                    (some y2.2.2.2.2)
                    (bndS (F51 a0 a1.2.1) fun y3 =>
                    bndS (F47 (bNot y3)) fun y4 =>
                    some (iMul .i64 40 y4))))))))))
def gF25 : FS := ⟨(.seq (.agg (.dat (.pr (.pr (.sl (.pr (.int .i64) .str)) (.int .i64)) (.pr (.sl (.pr (.int .i64) (.pr .bool (.pr .bool (.pr (.int .i64) (.pr (.int .i64) (.pr .str (.pr (.int .i64) (.int .i64))))))))) (.pr (.sl (.int .i64)) (.pr (.int .i64) (.pr (.int .i64) (.int .i64)))))))) (.agg (.dat (.pr (.int .i64) (.pr (.int .i64) (.pr (.pr (.int .i64) (.int .i64)) (.pr (.int .i64) .str))))))), 0, (.one ⟨.non, (.dat (.int .i64)), 0, 0⟩), fun x => (F25 x.1 x.2)⟩
theorem eF25 (x : gF25.a.T) : kF env (GofL [(48, [gF48]), (47, [gF47]), (51, [gF51]), (50, [gF50]), (49, [gF49]), (44, [gF44])]) (LofL [(25, [])]) 25 (gF25.args x) (gF25.bs x) gF25.r.dec = gF25.F x := by kernel_rfl
theorem sF25 : SpecAt env 7 25 gF25 := mkSpec (r := 6) (gl := [(48, [gF48]), (47, [gF47]), (51, [gF51]), (50, [gF50]), (49, [gF49]), (44, [gF44])]) (L0 := []) (by kernel_rfl) ⟨⟨sF48.up (by decide), trivial⟩, ⟨sF47.up (by decide), trivial⟩, ⟨sF51.up (by decide), trivial⟩, ⟨sF50.up (by decide), trivial⟩, ⟨sF49.up (by decide), trivial⟩, ⟨sF44.up (by decide), trivial⟩, trivial⟩ trivial eF25 (fun h => absurd h (by rw [show env.nl 25 = false by kernel_rfl]; decide))
/-- midrangeref05.ChainOf -/
def F94 (a0 : (((List (Int × ByteArray)) × Int) × ((List (Int × (Bool × (Bool × (Int × (Int × (ByteArray × (Int × Int)))))))) × ((List Int) × (Int × (Int × Int)))))) (a1 : Int) : Option (List Int) :=
  bndS (F46 a0 a1) fun y0 =>
  some y0.1
def gF94 : FS := ⟨(.seq (.agg (.dat (.pr (.pr (.sl (.pr (.int .i64) .str)) (.int .i64)) (.pr (.sl (.pr (.int .i64) (.pr .bool (.pr .bool (.pr (.int .i64) (.pr (.int .i64) (.pr .str (.pr (.int .i64) (.int .i64))))))))) (.pr (.sl (.int .i64)) (.pr (.int .i64) (.pr (.int .i64) (.int .i64)))))))) (.dat (.int .i64))), 0, (.one ⟨.non, (.own 0 (.int .i64)), 0, 1⟩), fun x => (F94 x.1 x.2)⟩
theorem eF94 (x : gF94.a.T) : kF env (GofL [(46, [gF46])]) (LofL [(94, [])]) 94 (gF94.args x) (gF94.bs x) gF94.r.dec = gF94.F x := by kernel_rfl
theorem sF94 : SpecAt env 3 94 gF94 := mkSpec (r := 2) (gl := [(46, [gF46])]) (L0 := []) (by kernel_rfl) ⟨⟨sF46.up (by decide), trivial⟩, trivial⟩ trivial eF94 (fun h => absurd h (by rw [show env.nl 94 = false by kernel_rfl]; decide))
def B81_0 (a0 : Int) (a1 : Int) (a2 : (List (Int × ByteArray))) (a3 : Int) (a4 : (List (Int × (Bool × (Bool × (Int × (Int × (ByteArray × (Int × Int))))))))) (a5 : (List Int)) (a6 : Int) (a7 : Int) (a8 : Int) (a9 : (List Int)) (a10 : Int) : Option ((Int × (Int × (((List (Int × ByteArray)) × (Int × ((List (Int × (Bool × (Bool × (Int × (Int × (ByteArray × (Int × Int)))))))) × ((List Int) × (Int × (Int × Int)))))) × ((List Int) × Int)))) ⊕ ((List Int) ⊕ (Int × Int))) :=
  sel (iLt a10 (lLen a9))
    (sel (oIn a10 (lLen a9)) (
    sel (oIn (lAt a9 a10) (lLen a4)) (
    sel (bAnd (iEq (lAt a4 (lAt a9 a10)).2.2.2.1 a0) (iEq (lAt a4 (lAt a9 a10)).2.2.2.2.1 a1))
      (sel (oIn a10 (lLen a9)) (
      some (.inr (.inr ((lAt a9 a10), (iAdd .i64 a10 1))))) none)
      (some (.inl (a0, (a1, ((a2, (a3, (a4, (a5, (a6, (a7, a8)))))), (a9, (iAdd .i64 a10 1)))))))) none) none)
    (some (.inr (.inl a9)))
def L81_0 (x : (Int × (Int × (((List (Int × ByteArray)) × (Int × ((List (Int × (Bool × (Bool × (Int × (Int × (ByteArray × (Int × Int)))))))) × ((List Int) × (Int × (Int × Int)))))) × ((List Int) × Int))))) : Option ((List Int) ⊕ (Int × Int)) := iter (fun (x : (Int × (Int × (((List (Int × ByteArray)) × (Int × ((List (Int × (Bool × (Bool × (Int × (Int × (ByteArray × (Int × Int)))))))) × ((List Int) × (Int × (Int × Int)))))) × ((List Int) × Int))))) => (B81_0 x.1 x.2.1 x.2.2.1.1 x.2.2.1.2.1 x.2.2.1.2.2.1 x.2.2.1.2.2.2.1 x.2.2.1.2.2.2.2.1 x.2.2.1.2.2.2.2.2.1 x.2.2.1.2.2.2.2.2.2 x.2.2.2.1 x.2.2.2.2)) fuel x
def lsL81_0 : LS := ⟨(.one .normal ⟨.non, [1, 2, 3, 8, 9], (.seq (.dat (.int .i64)) (.seq (.dat (.int .i64)) (.seq (.box 0 (.seq (.dat (.sl (.pr (.int .i64) .str))) (.seq (.dat (.int .i64)) (.seq (.dat (.sl (.pr (.int .i64) (.pr .bool (.pr .bool (.pr (.int .i64) (.pr (.int .i64) (.pr .str (.pr (.int .i64) (.int .i64)))))))))) (.seq (.dat (.sl (.int .i64))) (.seq (.dat (.int .i64)) (.seq (.dat (.int .i64)) (.dat (.int .i64))))))))) (.seq (.own 1 (.int .i64)) (.dat (.int .i64)))))), 2, 48, 0⟩), (.two (.one (.exit 0) ⟨.non, [8], (.own 0 (.int .i64)), 1, 48, 0⟩) (.one .ret ⟨.non, [6, 7], (.seq (.dat (.int .i64)) (.dat (.int .i64))), 0, 48, 0⟩)), fun (x : (Int × (Int × (((List (Int × ByteArray)) × (Int × ((List (Int × (Bool × (Bool × (Int × (Int × (ByteArray × (Int × Int)))))))) × ((List Int) × (Int × (Int × Int)))))) × ((List Int) × Int))))) => (B81_0 x.1 x.2.1 x.2.2.1.1 x.2.2.1.2.1 x.2.2.1.2.2.1 x.2.2.1.2.2.2.1 x.2.2.1.2.2.2.2.1 x.2.2.1.2.2.2.2.2.1 x.2.2.1.2.2.2.2.2.2 x.2.2.2.1 x.2.2.2.2)⟩
/-- midrangeref05.Find -/
def F81 (a0 : (((List (Int × ByteArray)) × Int) × ((List (Int × (Bool × (Bool × (Int × (Int × (ByteArray × (Int × Int)))))))) × ((List Int) × (Int × (Int × Int)))))) (a1 : Int) (a2 : Int) : Option (Int × Int) :=
  bndS (F78 a1 a2) fun y0 =>
  bndS (F94 a0 y0) fun y1 =>
  bndS (L81_0 (a1, (a2, ((a0.1.1, (a0.1.2, a0.2)), (y1, 0))))) fun y2 =>
  sumS y2 (fun y2a =>
    some ((-1), (lLen y2a))) fun y2b =>
    some y2b
def gF81 : FS := ⟨(.seq (.agg (.dat (.pr (.pr (.sl (.pr (.int .i64) .str)) (.int .i64)) (.pr (.sl (.pr (.int .i64) (.pr .bool (.pr .bool (.pr (.int .i64) (.pr (.int .i64) (.pr .str (.pr (.int .i64) (.int .i64))))))))) (.pr (.sl (.int .i64)) (.pr (.int .i64) (.pr (.int .i64) (.int .i64)))))))) (.seq (.dat (.int .i64)) (.dat (.int .i64)))), 0, (.one ⟨.non, (.tup (.seq (.dat (.int .i64)) (.dat (.int .i64)))), 0, 0⟩), fun x => (F81 x.1 x.2.1 x.2.2)⟩
theorem rL81_0 (x : lsL81_0.hd.T) : kRound env (GofL [(94, [gF94]), (78, [gF78])]) (LofL [(81, [(0, lsL81_0)])]) 81 0 (lpOf Tryz.prog 81 0).2 (lsL81_0.hd.st x) lsL81_0.rd = lsL81_0.B x := by kernel_rfl
theorem eF81 (x : gF81.a.T) : kF env (GofL [(94, [gF94]), (78, [gF78])]) (LofL [(81, [(0, lsL81_0)])]) 81 (gF81.args x) (gF81.bs x) gF81.r.dec = gF81.F x := by kernel_rfl
theorem sF81 : SpecAt env 4 81 gF81 := mkSpec (r := 3) (gl := [(94, [gF94]), (78, [gF78])]) (L0 := [(0, lsL81_0)]) (by kernel_rfl) ⟨⟨sF94.up (by decide), trivial⟩, ⟨sF78.up (by decide), trivial⟩, trivial⟩ ⟨⟨0, by kernel_rfl, by kernel_rfl, rL81_0⟩, trivial⟩ eF81 (fun h => absurd h (by rw [show env.nl 81 = false by kernel_rfl]; decide))
/-- midrangeref05.before -/
def F108 (a0 : (Int × (Bool × (Bool × (Int × (Int × (ByteArray × (Int × Int)))))))) (a1 : (Int × (Bool × (Bool × (Int × (Int × (ByteArray × (Int × Int)))))))) : Option Bool :=
  sel (bNot (bEq a0.2.2.1 a1.2.2.1))
    (some (bNot a0.2.2.1))
    (some (iLe a0.2.2.2.2.2.2.1 a1.2.2.2.2.2.2.1))
def gF108 : FS := ⟨(.seq (.agg (.dat (.pr (.int .i64) (.pr .bool (.pr .bool (.pr (.int .i64) (.pr (.int .i64) (.pr .str (.pr (.int .i64) (.int .i64)))))))))) (.agg (.dat (.pr (.int .i64) (.pr .bool (.pr .bool (.pr (.int .i64) (.pr (.int .i64) (.pr .str (.pr (.int .i64) (.int .i64))))))))))), 0, (.one ⟨.non, (.dat .bool), 0, 0⟩), fun x => (F108 x.1 x.2)⟩
theorem eF108 (x : gF108.a.T) : kF env (GofL []) (LofL [(108, [])]) 108 (gF108.args x) (gF108.bs x) gF108.r.dec = gF108.F x := by kernel_rfl
theorem sF108 : SpecAt env 1 108 gF108 := mkSpec (r := 0) (gl := []) (L0 := []) (by kernel_rfl) trivial trivial eF108 (fun h => absurd h (by rw [show env.nl 108 = false by kernel_rfl]; decide))
def B95_0 (a0 : Int) (a1 : (List (Int × ByteArray))) (a2 : Int) (a3 : (List (Int × (Bool × (Bool × (Int × (Int × (ByteArray × (Int × Int))))))))) (a4 : (List Int)) (a5 : Int) (a6 : Int) (a7 : Int) (a8 : Int) (a9 : Int) : Option ((Int × (((List (Int × ByteArray)) × (Int × ((List (Int × (Bool × (Bool × (Int × (Int × (ByteArray × (Int × Int)))))))) × ((List Int) × (Int × (Int × Int)))))) × (Int × Int))) ⊕ (Int ⊕ Int)) :=
  sel (iLt a9 (lLen a3))
    (sel (oIn a9 (lLen a3)) (
    sel (bNot (iEq (lAt a3 a9).1 a0))
      (some (.inl (a0, ((a1, (a2, (a3, (a4, (a5, (a6, a7)))))), (a8, (iAdd .i64 a9 1))))))
      (sel (bNot (lAt a3 a9).2.1)
        (some (.inr (.inr a9)))
        (sel (bOr (oIn a8 (lLen a3)) (bNot (bNot (iEq a8 (-1))))) (
        sel (bOr (okS (F108 (lAt a3 a8) (lAt a3 a9))) (bNot (bNot (iEq a8 (-1))))) (
        letS (valS (F108 (lAt a3 a8) (lAt a3 a9)) false) fun y0 =>
        some (.inl (a0, ((a1, (a2, (a3, (a4, (a5, (a6, a7)))))), ((sel (bOr (iEq a8 (-1)) (bNot y0)) a9 a8), (iAdd .i64 a9 1)))))) none) none))) none)
    (some (.inr (.inl a8)))
def L95_0 (x : (Int × (((List (Int × ByteArray)) × (Int × ((List (Int × (Bool × (Bool × (Int × (Int × (ByteArray × (Int × Int)))))))) × ((List Int) × (Int × (Int × Int)))))) × (Int × Int)))) : Option (Int ⊕ Int) := iter (fun (x : (Int × (((List (Int × ByteArray)) × (Int × ((List (Int × (Bool × (Bool × (Int × (Int × (ByteArray × (Int × Int)))))))) × ((List Int) × (Int × (Int × Int)))))) × (Int × Int)))) => (B95_0 x.1 x.2.1.1 x.2.1.2.1 x.2.1.2.2.1 x.2.1.2.2.2.1 x.2.1.2.2.2.2.1 x.2.1.2.2.2.2.2.1 x.2.1.2.2.2.2.2.2 x.2.2.1 x.2.2.2)) fuel x
def lsL95_0 : LS := ⟨(.one .normal ⟨.non, [1, 2, 5, 6], (.seq (.dat (.int .i64)) (.seq (.box 0 (.seq (.dat (.sl (.pr (.int .i64) .str))) (.seq (.dat (.int .i64)) (.seq (.dat (.sl (.pr (.int .i64) (.pr .bool (.pr .bool (.pr (.int .i64) (.pr (.int .i64) (.pr .str (.pr (.int .i64) (.int .i64)))))))))) (.seq (.dat (.sl (.int .i64))) (.seq (.dat (.int .i64)) (.seq (.dat (.int .i64)) (.dat (.int .i64))))))))) (.seq (.dat (.int .i64)) (.dat (.int .i64))))), 1, 42, 0⟩), (.two (.one (.exit 0) ⟨.non, [5], (.dat (.int .i64)), 0, 42, 0⟩) (.one .ret ⟨.non, [4], (.dat (.int .i64)), 0, 42, 0⟩)), fun (x : (Int × (((List (Int × ByteArray)) × (Int × ((List (Int × (Bool × (Bool × (Int × (Int × (ByteArray × (Int × Int)))))))) × ((List Int) × (Int × (Int × Int)))))) × (Int × Int)))) => (B95_0 x.1 x.2.1.1 x.2.1.2.1 x.2.1.2.2.1 x.2.1.2.2.2.1 x.2.1.2.2.2.2.1 x.2.1.2.2.2.2.2.1 x.2.1.2.2.2.2.2.2 x.2.2.1 x.2.2.2)⟩
/-- midrangeref05.Victim -/
def F95 (a0 : (((List (Int × ByteArray)) × Int) × ((List (Int × (Bool × (Bool × (Int × (Int × (ByteArray × (Int × Int)))))))) × ((List Int) × (Int × (Int × Int)))))) (a1 : Int) : Option Int :=
  bndS (L95_0 (a1, ((a0.1.1, (a0.1.2, a0.2)), ((-1), 0)))) fun y0 =>
  sumS y0 (fun y0a =>
    some y0a) fun y0b =>
    some y0b
def gF95 : FS := ⟨(.seq (.agg (.dat (.pr (.pr (.sl (.pr (.int .i64) .str)) (.int .i64)) (.pr (.sl (.pr (.int .i64) (.pr .bool (.pr .bool (.pr (.int .i64) (.pr (.int .i64) (.pr .str (.pr (.int .i64) (.int .i64))))))))) (.pr (.sl (.int .i64)) (.pr (.int .i64) (.pr (.int .i64) (.int .i64)))))))) (.dat (.int .i64))), 0, (.one ⟨.non, (.dat (.int .i64)), 0, 0⟩), fun x => (F95 x.1 x.2)⟩
theorem rL95_0 (x : lsL95_0.hd.T) : kRound env (GofL [(108, [gF108])]) (LofL [(95, [(0, lsL95_0)])]) 95 0 (lpOf Tryz.prog 95 0).2 (lsL95_0.hd.st x) lsL95_0.rd = lsL95_0.B x := by kernel_rfl
theorem eF95 (x : gF95.a.T) : kF env (GofL [(108, [gF108])]) (LofL [(95, [(0, lsL95_0)])]) 95 (gF95.args x) (gF95.bs x) gF95.r.dec = gF95.F x := by kernel_rfl
theorem sF95 : SpecAt env 2 95 gF95 := mkSpec (r := 1) (gl := [(108, [gF108])]) (L0 := [(0, lsL95_0)]) (by kernel_rfl) ⟨⟨sF108.up (by decide), trivial⟩, trivial⟩ ⟨⟨0, by kernel_rfl, by kernel_rfl, rL95_0⟩, trivial⟩ eF95 (fun h => absurd h (by rw [show env.nl 95 = false by kernel_rfl]; decide))
/-- midrangeref05.out -/
def F96 (a0 : (List (Int × ByteArray))) (a1 : Int) (a2 : (List (Int × (Bool × (Bool × (Int × (Int × (ByteArray × (Int × Int))))))))) (a3 : (List Int)) (a4 : Int) (a5 : Int) (a6 : Int) (a7 : Int) : Option ((List (Int × ByteArray)) × (Int × ((List (Int × (Bool × (Bool × (Int × (Int × (ByteArray × (Int × Int)))))))) × ((List Int) × (Int × (Int × Int)))))) :=
  sel (oIn a7 (lLen a2)) (
  bndS (F78 (lAt a2 a7).2.2.2.1 (lAt a2 a7).2.2.2.2.1) fun y0 =>
  sel (oIn y0 (lLen a3)) (
  sel (iEq (lAt a3 y0) a7)
    (sel (oIn y0 (lLen a3)) (
    some (a0, (a1, (a2, ((lSet a3 y0 (lAt a2 a7).2.2.2.2.2.2.2), (a4, (a5, a6))))))) none)
    (bndS (F94 ((a0, a1), (a2, (a3, (a4, (a5, a6))))) y0) fun y1 =>
    bndS (F77 y1 a7) fun y2 =>
    sel (oIn (iSub .i64 y2 1) (lLen y1)) (
    sel (oIn (lAt y1 (iSub .i64 y2 1)) (lLen a2)) (
    some (a0, (a1, ((lSet a2 (lAt y1 (iSub .i64 y2 1)) ((lAt a2 (lAt y1 (iSub .i64 y2 1))).1, ((lAt a2 (lAt y1 (iSub .i64 y2 1))).2.1, ((lAt a2 (lAt y1 (iSub .i64 y2 1))).2.2.1, ((lAt a2 (lAt y1 (iSub .i64 y2 1))).2.2.2.1, ((lAt a2 (lAt y1 (iSub .i64 y2 1))).2.2.2.2.1, ((lAt a2 (lAt y1 (iSub .i64 y2 1))).2.2.2.2.2.1, ((lAt a2 (lAt y1 (iSub .i64 y2 1))).2.2.2.2.2.2.1, (lAt a2 a7).2.2.2.2.2.2.2)))))))), (a3, (a4, (a5, a6))))))) none) none)) none) none
def gF96 : FS := ⟨(.seq (.box 0 (.seq (.own 1 (.pr (.int .i64) .str)) (.seq (.dat (.int .i64)) (.seq (.own 2 (.pr (.int .i64) (.pr .bool (.pr .bool (.pr (.int .i64) (.pr (.int .i64) (.pr .str (.pr (.int .i64) (.int .i64))))))))) (.seq (.own 3 (.int .i64)) (.seq (.dat (.int .i64)) (.seq (.dat (.int .i64)) (.dat (.int .i64))))))))) (.dat (.int .i64))), 4, (.one ⟨(.box 0 (.seq (.own 1 (.pr (.int .i64) .str)) (.seq (.dat (.int .i64)) (.seq (.own 2 (.pr (.int .i64) (.pr .bool (.pr .bool (.pr (.int .i64) (.pr (.int .i64) (.pr .str (.pr (.int .i64) (.int .i64))))))))) (.seq (.own 3 (.int .i64)) (.seq (.dat (.int .i64)) (.seq (.dat (.int .i64)) (.dat (.int .i64))))))))), (.tup .non), 4, 0⟩), fun x => (F96 x.1.1 x.1.2.1 x.1.2.2.1 x.1.2.2.2.1 x.1.2.2.2.2.1 x.1.2.2.2.2.2.1 x.1.2.2.2.2.2.2 x.2)⟩
theorem eF96 (x : gF96.a.T) : kF env (GofL [(77, [gF77]), (94, [gF94]), (78, [gF78])]) (LofL [(96, [])]) 96 (gF96.args x) (gF96.bs x) gF96.r.dec = gF96.F x := by kernel_rfl
theorem sF96 : SpecAt env 4 96 gF96 := mkSpec (r := 3) (gl := [(77, [gF77]), (94, [gF94]), (78, [gF78])]) (L0 := []) (by kernel_rfl) ⟨⟨sF77.up (by decide), trivial⟩, ⟨sF94.up (by decide), trivial⟩, ⟨sF78.up (by decide), trivial⟩, trivial⟩ trivial eF96 (fun h => absurd h (by rw [show env.nl 96 = false by kernel_rfl]; decide))
/-- midrangebase.Patched -/
def F54 (a0 : ByteArray) (a1 : Int) (a2 : ByteArray) : Option ByteArray :=
  sel (oCut 0 a1 (sLen a0)) (
  sel (sOk (sCut a0 0 a1) a2) (
  sel (oCut (iAdd .i64 a1 (sLen a2)) (sLen a0) (sLen a0)) (
  sel (sOk (sAdd (sCut a0 0 a1) a2) (sCut a0 (iAdd .i64 a1 (sLen a2)) (sLen a0))) (
  some (sAdd (sAdd (sCut a0 0 a1) a2) (sCut a0 (iAdd .i64 a1 (sLen a2)) (sLen a0)))) none) none) none) none
def gF54 : FS := ⟨(.seq (.dat .str) (.seq (.dat (.int .i64)) (.dat .str))), 0, (.one ⟨.non, (.dat .str), 0, 0⟩), fun x => (F54 x.1 x.2.1 x.2.2)⟩
theorem eF54 (x : gF54.a.T) : kF env (GofL []) (LofL [(54, [])]) 54 (gF54.args x) (gF54.bs x) gF54.r.dec = gF54.F x := by kernel_rfl
theorem sF54 : SpecAt env 1 54 gF54 := mkSpec (r := 0) (gl := []) (L0 := []) (by kernel_rfl) trivial trivial eF54 (fun h => absurd h (by rw [show env.nl 54 = false by kernel_rfl]; decide))
/-- midrangeref05.WithPage -/
def F52 (a0 : ((List (Int × ByteArray)) × Int)) (a1 : (Int × (Bool × (Bool × (Int × (Int × (ByteArray × (Int × Int)))))))) : Option ((List (Int × ByteArray)) × Int) :=
  bndS (F22 a0) fun y0 =>
  bndS (F79 a0 a1.2.2.2.1) fun y1 =>
  sel (oIn y1 (lLen a0.1)) (
  bndS (F54 (lAt a0.1 y1).2 (iMul .i64 a1.2.2.2.2.1 32) a1.2.2.2.2.2.1) fun y2 =>
  sel (oIn y1 (lLen y0.1)) (
  some ((lSet y0.1 y1 ((lAt y0.1 y1).1, y2)), y0.2)) none) none
def gF52 : FS := ⟨(.seq (.agg (.dat (.pr (.sl (.pr (.int .i64) .str)) (.int .i64)))) (.agg (.dat (.pr (.int .i64) (.pr .bool (.pr .bool (.pr (.int .i64) (.pr (.int .i64) (.pr .str (.pr (.int .i64) (.int .i64))))))))))), 0, (.one ⟨.non, (.agg (.seq (.own 0 (.pr (.int .i64) .str)) (.dat (.int .i64)))), 0, 1⟩), fun x => (F52 x.1 x.2)⟩
theorem eF52 (x : gF52.a.T) : kF env (GofL [(54, [gF54]), (79, [gF79]), (22, [gF22])]) (LofL [(52, [])]) 52 (gF52.args x) (gF52.bs x) gF52.r.dec = gF52.F x := by kernel_rfl
theorem sF52 : SpecAt env 2 52 gF52 := mkSpec (r := 1) (gl := [(54, [gF54]), (79, [gF79]), (22, [gF22])]) (L0 := []) (by kernel_rfl) ⟨⟨sF54.up (by decide), trivial⟩, ⟨sF79.up (by decide), trivial⟩, ⟨sF22.up (by decide), trivial⟩, trivial⟩ trivial eF52 (fun h => absurd h (by rw [show env.nl 52 = false by kernel_rfl]; decide))
/-- midrangeref05.load -/
def F82 (a0 : (List (Int × ByteArray))) (a1 : Int) (a2 : (List (Int × (Bool × (Bool × (Int × (Int × (ByteArray × (Int × Int))))))))) (a3 : (List Int)) (a4 : Int) (a5 : Int) (a6 : Int) (a7 : (Int × (Int × Int))) : Option ((((List (Int × ByteArray)) × (Int × ((List (Int × (Bool × (Bool × (Int × (Int × (ByteArray × (Int × Int)))))))) × ((List Int) × (Int × (Int × Int)))))) × Int) ⊕ ((((List (Int × ByteArray)) × (Int × ((List (Int × (Bool × (Bool × (Int × (Int × (ByteArray × (Int × Int)))))))) × ((List Int) × (Int × (Int × Int)))))) × (List (Int × ByteArray))) × Int)) :=
  bndS (F95 ((a0, a1), (a2, (a3, (a4, (a5, a6))))) a7.2.2) fun y0 =>
  sel (oIn y0 (lLen a2)) (
  sel (lAt a2 y0).2.1
    (sel (lAt a2 y0).2.2.1
      (bndS (F52 (a0, a1) (lAt a2 y0)) fun y6 =>
      bndS (F96 y6.1 y6.2 a2 a3 a4 a5 (iAdd .i64 a6 1) y0) fun y7 =>
      bndS (F78 a7.1 a7.2.1) fun y8 =>
      bndS (F76 (y7.1, y7.2.1) a7.1 a7.2.1) fun y9 =>
      sel (oIn y8 (lLen y7.2.2.2.1)) (
      sel (oIn y0 (lLen y7.2.2.1)) (
      sel (oIn y8 (lLen y7.2.2.2.1)) (
      some (.inr (((y7.1, (y7.2.1, ((lSet y7.2.2.1 y0 (a7.2.2, (true, (false, (a7.1, (a7.2.1, (y9, (0, (lAt y7.2.2.2.1 y8))))))))), ((lSet y7.2.2.2.1 y8 y0), (y7.2.2.2.2.1, ((iAdd .i64 y7.2.2.2.2.2.1 1), y7.2.2.2.2.2.2)))))), a0), y0))) none) none) none)
      (bndS (F96 a0 a1 a2 a3 a4 a5 a6 y0) fun y3 =>
      bndS (F78 a7.1 a7.2.1) fun y4 =>
      bndS (F76 (y3.1, y3.2.1) a7.1 a7.2.1) fun y5 =>
      sel (oIn y4 (lLen y3.2.2.2.1)) (
      sel (oIn y0 (lLen y3.2.2.1)) (
      sel (oIn y4 (lLen y3.2.2.2.1)) (
      some (.inl ((y3.1, (y3.2.1, ((lSet y3.2.2.1 y0 (a7.2.2, (true, (false, (a7.1, (a7.2.1, (y5, (0, (lAt y3.2.2.2.1 y4))))))))), ((lSet y3.2.2.2.1 y4 y0), (y3.2.2.2.2.1, ((iAdd .i64 y3.2.2.2.2.2.1 1), y3.2.2.2.2.2.2)))))), y0))) none) none) none))
    (bndS (F78 a7.1 a7.2.1) fun y1 =>
    bndS (F76 (a0, a1) a7.1 a7.2.1) fun y2 =>
    sel (oIn y1 (lLen a3)) (
    sel (oIn y0 (lLen a2)) (
    sel (oIn y1 (lLen a3)) (
    some (.inl ((a0, (a1, ((lSet a2 y0 (a7.2.2, (true, (false, (a7.1, (a7.2.1, (y2, (0, (lAt a3 y1))))))))), ((lSet a3 y1 y0), (a4, ((iAdd .i64 a5 1), a6)))))), y0))) none) none) none)) none
def gF82 : FS := ⟨(.seq (.box 0 (.seq (.own 1 (.pr (.int .i64) .str)) (.seq (.dat (.int .i64)) (.seq (.own 2 (.pr (.int .i64) (.pr .bool (.pr .bool (.pr (.int .i64) (.pr (.int .i64) (.pr .str (.pr (.int .i64) (.int .i64))))))))) (.seq (.own 3 (.int .i64)) (.seq (.dat (.int .i64)) (.seq (.dat (.int .i64)) (.dat (.int .i64))))))))) (.agg (.dat (.pr (.int .i64) (.pr (.int .i64) (.int .i64)))))), 4, (.two (.one ⟨(.box 0 (.seq (.own 1 (.pr (.int .i64) .str)) (.seq (.dat (.int .i64)) (.seq (.own 2 (.pr (.int .i64) (.pr .bool (.pr .bool (.pr (.int .i64) (.pr (.int .i64) (.pr .str (.pr (.int .i64) (.int .i64))))))))) (.seq (.own 3 (.int .i64)) (.seq (.dat (.int .i64)) (.seq (.dat (.int .i64)) (.dat (.int .i64))))))))), (.dat (.int .i64)), 4, 0⟩) (.one ⟨(.seq (.box 0 (.seq (.own 4 (.pr (.int .i64) .str)) (.seq (.dat (.int .i64)) (.seq (.own 2 (.pr (.int .i64) (.pr .bool (.pr .bool (.pr (.int .i64) (.pr (.int .i64) (.pr .str (.pr (.int .i64) (.int .i64))))))))) (.seq (.own 3 (.int .i64)) (.seq (.dat (.int .i64)) (.seq (.dat (.int .i64)) (.dat (.int .i64))))))))) (.own 1 (.pr (.int .i64) .str))), (.dat (.int .i64)), 4, 1⟩)), fun x => (F82 x.1.1 x.1.2.1 x.1.2.2.1 x.1.2.2.2.1 x.1.2.2.2.2.1 x.1.2.2.2.2.2.1 x.1.2.2.2.2.2.2 x.2)⟩
theorem eF82 (x : gF82.a.T) : kF env (GofL [(76, [gF76]), (78, [gF78]), (96, [gF96]), (52, [gF52]), (95, [gF95])]) (LofL [(82, [])]) 82 (gF82.args x) (gF82.bs x) gF82.r.dec = gF82.F x := by kernel_rfl
theorem sF82 : SpecAt env 5 82 gF82 := mkSpec (r := 4) (gl := [(76, [gF76]), (78, [gF78]), (96, [gF96]), (52, [gF52]), (95, [gF95])]) (L0 := []) (by kernel_rfl) ⟨⟨sF76.up (by decide), trivial⟩, ⟨sF78.up (by decide), trivial⟩, ⟨sF96.up (by decide), trivial⟩, ⟨sF52.up (by decide), trivial⟩, ⟨sF95.up (by decide), trivial⟩, trivial⟩ trivial eF82 (fun h => absurd h (by rw [show env.nl 82 = false by kernel_rfl]; decide))
/-- midrangeref05.use -/
def F53 (a0 : (List (Int × ByteArray))) (a1 : Int) (a2 : (List (Int × (Bool × (Bool × (Int × (Int × (ByteArray × (Int × Int))))))))) (a3 : (List Int)) (a4 : Int) (a5 : Int) (a6 : Int) (a7 : (Int × (Int × Int))) : Option ((((List (Int × ByteArray)) × (Int × ((List (Int × (Bool × (Bool × (Int × (Int × (ByteArray × (Int × Int)))))))) × ((List Int) × (Int × (Int × Int)))))) × Int) ⊕ ((((List (Int × ByteArray)) × (Int × ((List (Int × (Bool × (Bool × (Int × (Int × (ByteArray × (Int × Int)))))))) × ((List Int) × (Int × (Int × Int)))))) × (List (Int × ByteArray))) × Int)) :=
  bndS (F81 ((a0, a1), (a2, (a3, ((iAdd .i64 a4 1), (a5, a6))))) a7.1 a7.2.1) fun y0 =>
  sel (iEq y0.1 (-1))
    (bndS (F82 a0 a1 a2 a3 (iAdd .i64 a4 1) a5 a6 a7) fun y1 =>
    sumS y1 (fun y1a =>
      sel (oIn y1a.2 (lLen y1a.1.2.2.1)) (
      some (.inl ((y1a.1.1, (y1a.1.2.1, ((lSet y1a.1.2.2.1 y1a.2 ((lAt y1a.1.2.2.1 y1a.2).1, ((lAt y1a.1.2.2.1 y1a.2).2.1, ((lAt y1a.1.2.2.1 y1a.2).2.2.1, ((lAt y1a.1.2.2.1 y1a.2).2.2.2.1, ((lAt y1a.1.2.2.1 y1a.2).2.2.2.2.1, ((lAt y1a.1.2.2.1 y1a.2).2.2.2.2.2.1, (y1a.1.2.2.2.2.1, (lAt y1a.1.2.2.1 y1a.2).2.2.2.2.2.2.2)))))))), y1a.1.2.2.2))), y1a.2))) none) fun y1b =>
      sel (oIn y1b.2 (lLen y1b.1.1.2.2.1)) (
      some (.inr (((y1b.1.1.1, (y1b.1.1.2.1, ((lSet y1b.1.1.2.2.1 y1b.2 ((lAt y1b.1.1.2.2.1 y1b.2).1, ((lAt y1b.1.1.2.2.1 y1b.2).2.1, ((lAt y1b.1.1.2.2.1 y1b.2).2.2.1, ((lAt y1b.1.1.2.2.1 y1b.2).2.2.2.1, ((lAt y1b.1.1.2.2.1 y1b.2).2.2.2.2.1, ((lAt y1b.1.1.2.2.1 y1b.2).2.2.2.2.2.1, (y1b.1.1.2.2.2.2.1, (lAt y1b.1.1.2.2.1 y1b.2).2.2.2.2.2.2.2)))))))), y1b.1.1.2.2.2))), y1b.1.2), y1b.2))) none)
    (sel (oIn y0.1 (lLen a2)) (
    some (.inl ((a0, (a1, ((lSet a2 y0.1 ((lAt a2 y0.1).1, ((lAt a2 y0.1).2.1, ((lAt a2 y0.1).2.2.1, ((lAt a2 y0.1).2.2.2.1, ((lAt a2 y0.1).2.2.2.2.1, ((lAt a2 y0.1).2.2.2.2.2.1, ((iAdd .i64 a4 1), (lAt a2 y0.1).2.2.2.2.2.2.2)))))))), (a3, ((iAdd .i64 a4 1), (a5, a6)))))), y0.1))) none)
def gF53 : FS := ⟨(.seq (.box 0 (.seq (.own 1 (.pr (.int .i64) .str)) (.seq (.dat (.int .i64)) (.seq (.own 2 (.pr (.int .i64) (.pr .bool (.pr .bool (.pr (.int .i64) (.pr (.int .i64) (.pr .str (.pr (.int .i64) (.int .i64))))))))) (.seq (.own 3 (.int .i64)) (.seq (.dat (.int .i64)) (.seq (.dat (.int .i64)) (.dat (.int .i64))))))))) (.agg (.dat (.pr (.int .i64) (.pr (.int .i64) (.int .i64)))))), 4, (.two (.one ⟨(.box 0 (.seq (.own 1 (.pr (.int .i64) .str)) (.seq (.dat (.int .i64)) (.seq (.own 2 (.pr (.int .i64) (.pr .bool (.pr .bool (.pr (.int .i64) (.pr (.int .i64) (.pr .str (.pr (.int .i64) (.int .i64))))))))) (.seq (.own 3 (.int .i64)) (.seq (.dat (.int .i64)) (.seq (.dat (.int .i64)) (.dat (.int .i64))))))))), (.dat (.int .i64)), 4, 0⟩) (.one ⟨(.seq (.box 0 (.seq (.own 4 (.pr (.int .i64) .str)) (.seq (.dat (.int .i64)) (.seq (.own 2 (.pr (.int .i64) (.pr .bool (.pr .bool (.pr (.int .i64) (.pr (.int .i64) (.pr .str (.pr (.int .i64) (.int .i64))))))))) (.seq (.own 3 (.int .i64)) (.seq (.dat (.int .i64)) (.seq (.dat (.int .i64)) (.dat (.int .i64))))))))) (.own 1 (.pr (.int .i64) .str))), (.dat (.int .i64)), 4, 1⟩)), fun x => (F53 x.1.1 x.1.2.1 x.1.2.2.1 x.1.2.2.2.1 x.1.2.2.2.2.1 x.1.2.2.2.2.2.1 x.1.2.2.2.2.2.2 x.2)⟩
theorem eF53 (x : gF53.a.T) : kF env (GofL [(82, [gF82]), (81, [gF81])]) (LofL [(53, [])]) 53 (gF53.args x) (gF53.bs x) gF53.r.dec = gF53.F x := by kernel_rfl
theorem sF53 : SpecAt env 6 53 gF53 := mkSpec (r := 5) (gl := [(82, [gF82]), (81, [gF81])]) (L0 := []) (by kernel_rfl) ⟨⟨sF82.up (by decide), trivial⟩, ⟨sF81.up (by decide), trivial⟩, trivial⟩ trivial eF53 (fun h => absurd h (by rw [show env.nl 53 = false by kernel_rfl]; decide))
def B27_0h0 (a0 : (List (Int × ByteArray))) (a1 : Int) (a2 : (List (Int × (Bool × (Bool × (Int × (Int × (ByteArray × (Int × Int))))))))) (a3 : (List Int)) (a4 : Int) (a5 : Int) (a6 : Int) (a7 : Int) (a8 : Int) (a9 : Int) (a10 : Int) (a11 : Int) (a12 : ByteArray) (a13 : Int) (a14 : ByteArray) (a15 : Int) : Option (((((List (Int × ByteArray)) × (Int × ((List (Int × (Bool × (Bool × (Int × (Int × (ByteArray × (Int × Int)))))))) × ((List Int) × (Int × (Int × Int)))))) × ((Int × (Int × (Int × (Int × (Int × ByteArray))))) × (Int × (ByteArray × Int)))) ⊕ ((((List (Int × ByteArray)) × (Int × ((List (Int × (Bool × (Bool × (Int × (Int × (ByteArray × (Int × Int)))))))) × ((List Int) × (Int × (Int × Int)))))) × (List (Int × ByteArray))) × ((Int × (Int × (Int × (Int × (Int × ByteArray))))) × (Int × (ByteArray × Int))))) ⊕ ((((List (Int × ByteArray)) × (Int × ((List (Int × (Bool × (Bool × (Int × (Int × (ByteArray × (Int × Int)))))))) × ((List Int) × (Int × (Int × Int)))))) × ByteArray) ⊕ ((((List (Int × ByteArray)) × (Int × ((List (Int × (Bool × (Bool × (Int × (Int × (ByteArray × (Int × Int)))))))) × ((List Int) × (Int × (Int × Int)))))) × (List (Int × ByteArray))) × ByteArray))) :=
  sel (iLt a15 a13)
    (sel (oNz 32) (
    sel (oNz 32) (
    bndS (F53 a0 a1 a2 a3 a4 a5 a6 (a9, ((iQuo .i64 (iAdd .i64 a10 a15) 32), a8))) fun y0 =>
    sumS y0 (fun y0a =>
      sel (iEq a7 0)
        (sel (oIn y0a.2 (lLen y0a.1.2.2.1)) (
        sel (oCut (iRem (iAdd .i64 a10 a15) 32) (iAdd .i64 (iRem (iAdd .i64 a10 a15) 32) (sel (iLt (iSub .i64 a13 a15) (iSub .i64 32 (iRem (iAdd .i64 a10 a15) 32))) (iSub .i64 a13 a15) (iSub .i64 32 (iRem (iAdd .i64 a10 a15) 32)))) (sLen (lAt y0a.1.2.2.1 y0a.2).2.2.2.2.2.1)) (
        sel (sOk a14 (sCut (lAt y0a.1.2.2.1 y0a.2).2.2.2.2.2.1 (iRem (iAdd .i64 a10 a15) 32) (iAdd .i64 (iRem (iAdd .i64 a10 a15) 32) (sel (iLt (iSub .i64 a13 a15) (iSub .i64 32 (iRem (iAdd .i64 a10 a15) 32))) (iSub .i64 a13 a15) (iSub .i64 32 (iRem (iAdd .i64 a10 a15) 32)))))) (
        some (.inl (.inl (y0a.1, ((a7, (a8, (a9, (a10, (a11, a12))))), (a13, ((sAdd a14 (sCut (lAt y0a.1.2.2.1 y0a.2).2.2.2.2.2.1 (iRem (iAdd .i64 a10 a15) 32) (iAdd .i64 (iRem (iAdd .i64 a10 a15) 32) (sel (iLt (iSub .i64 a13 a15) (iSub .i64 32 (iRem (iAdd .i64 a10 a15) 32))) (iSub .i64 a13 a15) (iSub .i64 32 (iRem (iAdd .i64 a10 a15) 32)))))), (iAdd .i64 a15 (sel (iLt (iSub .i64 a13 a15) (iSub .i64 32 (iRem (iAdd .i64 a10 a15) 32))) (iSub .i64 a13 a15) (iSub .i64 32 (iRem (iAdd .i64 a10 a15) 32))))))))))) none) none) none)
        (sel (oIn y0a.2 (lLen y0a.1.2.2.1)) (
        sel (oCut a15 (iAdd .i64 a15 (sel (iLt (iSub .i64 a13 a15) (iSub .i64 32 (iRem (iAdd .i64 a10 a15) 32))) (iSub .i64 a13 a15) (iSub .i64 32 (iRem (iAdd .i64 a10 a15) 32)))) (sLen a12)) (
        bndS (F54 (lAt y0a.1.2.2.1 y0a.2).2.2.2.2.2.1 (iRem (iAdd .i64 a10 a15) 32) (sCut a12 a15 (iAdd .i64 a15 (sel (iLt (iSub .i64 a13 a15) (iSub .i64 32 (iRem (iAdd .i64 a10 a15) 32))) (iSub .i64 a13 a15) (iSub .i64 32 (iRem (iAdd .i64 a10 a15) 32)))))) fun y1 =>
        sel (oIn y0a.2 (lLen y0a.1.2.2.1)) (
        sel (oIn y0a.2 (lLen (lSet y0a.1.2.2.1 y0a.2 ((lAt y0a.1.2.2.1 y0a.2).1, ((lAt y0a.1.2.2.1 y0a.2).2.1, ((lAt y0a.1.2.2.1 y0a.2).2.2.1, ((lAt y0a.1.2.2.1 y0a.2).2.2.2.1, ((lAt y0a.1.2.2.1 y0a.2).2.2.2.2.1, (y1, (lAt y0a.1.2.2.1 y0a.2).2.2.2.2.2.2))))))))) (
        some (.inl (.inl ((y0a.1.1, (y0a.1.2.1, ((lSet (lSet y0a.1.2.2.1 y0a.2 ((lAt y0a.1.2.2.1 y0a.2).1, ((lAt y0a.1.2.2.1 y0a.2).2.1, ((lAt y0a.1.2.2.1 y0a.2).2.2.1, ((lAt y0a.1.2.2.1 y0a.2).2.2.2.1, ((lAt y0a.1.2.2.1 y0a.2).2.2.2.2.1, (y1, (lAt y0a.1.2.2.1 y0a.2).2.2.2.2.2.2))))))) y0a.2 ((lAt (lSet y0a.1.2.2.1 y0a.2 ((lAt y0a.1.2.2.1 y0a.2).1, ((lAt y0a.1.2.2.1 y0a.2).2.1, ((lAt y0a.1.2.2.1 y0a.2).2.2.1, ((lAt y0a.1.2.2.1 y0a.2).2.2.2.1, ((lAt y0a.1.2.2.1 y0a.2).2.2.2.2.1, (y1, (lAt y0a.1.2.2.1 y0a.2).2.2.2.2.2.2))))))) y0a.2).1, ((lAt (lSet y0a.1.2.2.1 y0a.2 ((lAt y0a.1.2.2.1 y0a.2).1, ((lAt y0a.1.2.2.1 y0a.2).2.1, ((lAt y0a.1.2.2.1 y0a.2).2.2.1, ((lAt y0a.1.2.2.1 y0a.2).2.2.2.1, ((lAt y0a.1.2.2.1 y0a.2).2.2.2.2.1, (y1, (lAt y0a.1.2.2.1 y0a.2).2.2.2.2.2.2))))))) y0a.2).2.1, (true, (lAt (lSet y0a.1.2.2.1 y0a.2 ((lAt y0a.1.2.2.1 y0a.2).1, ((lAt y0a.1.2.2.1 y0a.2).2.1, ((lAt y0a.1.2.2.1 y0a.2).2.2.1, ((lAt y0a.1.2.2.1 y0a.2).2.2.2.1, ((lAt y0a.1.2.2.1 y0a.2).2.2.2.2.1, (y1, (lAt y0a.1.2.2.1 y0a.2).2.2.2.2.2.2))))))) y0a.2).2.2.2)))), y0a.1.2.2.2))), ((a7, (a8, (a9, (a10, (a11, a12))))), (a13, (a14, (iAdd .i64 a15 (sel (iLt (iSub .i64 a13 a15) (iSub .i64 32 (iRem (iAdd .i64 a10 a15) 32))) (iSub .i64 a13 a15) (iSub .i64 32 (iRem (iAdd .i64 a10 a15) 32))))))))))) none) none) none) none)) fun y0b =>
      sel (iEq a7 0)
        (sel (oIn y0b.2 (lLen y0b.1.1.2.2.1)) (
        sel (oCut (iRem (iAdd .i64 a10 a15) 32) (iAdd .i64 (iRem (iAdd .i64 a10 a15) 32) (sel (iLt (iSub .i64 a13 a15) (iSub .i64 32 (iRem (iAdd .i64 a10 a15) 32))) (iSub .i64 a13 a15) (iSub .i64 32 (iRem (iAdd .i64 a10 a15) 32)))) (sLen (lAt y0b.1.1.2.2.1 y0b.2).2.2.2.2.2.1)) (
        sel (sOk a14 (sCut (lAt y0b.1.1.2.2.1 y0b.2).2.2.2.2.2.1 (iRem (iAdd .i64 a10 a15) 32) (iAdd .i64 (iRem (iAdd .i64 a10 a15) 32) (sel (iLt (iSub .i64 a13 a15) (iSub .i64 32 (iRem (iAdd .i64 a10 a15) 32))) (iSub .i64 a13 a15) (iSub .i64 32 (iRem (iAdd .i64 a10 a15) 32)))))) (
        some (.inl (.inr (y0b.1, ((a7, (a8, (a9, (a10, (a11, a12))))), (a13, ((sAdd a14 (sCut (lAt y0b.1.1.2.2.1 y0b.2).2.2.2.2.2.1 (iRem (iAdd .i64 a10 a15) 32) (iAdd .i64 (iRem (iAdd .i64 a10 a15) 32) (sel (iLt (iSub .i64 a13 a15) (iSub .i64 32 (iRem (iAdd .i64 a10 a15) 32))) (iSub .i64 a13 a15) (iSub .i64 32 (iRem (iAdd .i64 a10 a15) 32)))))), (iAdd .i64 a15 (sel (iLt (iSub .i64 a13 a15) (iSub .i64 32 (iRem (iAdd .i64 a10 a15) 32))) (iSub .i64 a13 a15) (iSub .i64 32 (iRem (iAdd .i64 a10 a15) 32))))))))))) none) none) none)
        (sel (oIn y0b.2 (lLen y0b.1.1.2.2.1)) (
        sel (oCut a15 (iAdd .i64 a15 (sel (iLt (iSub .i64 a13 a15) (iSub .i64 32 (iRem (iAdd .i64 a10 a15) 32))) (iSub .i64 a13 a15) (iSub .i64 32 (iRem (iAdd .i64 a10 a15) 32)))) (sLen a12)) (
        bndS (F54 (lAt y0b.1.1.2.2.1 y0b.2).2.2.2.2.2.1 (iRem (iAdd .i64 a10 a15) 32) (sCut a12 a15 (iAdd .i64 a15 (sel (iLt (iSub .i64 a13 a15) (iSub .i64 32 (iRem (iAdd .i64 a10 a15) 32))) (iSub .i64 a13 a15) (iSub .i64 32 (iRem (iAdd .i64 a10 a15) 32)))))) fun y2 =>
        sel (oIn y0b.2 (lLen y0b.1.1.2.2.1)) (
        sel (oIn y0b.2 (lLen (lSet y0b.1.1.2.2.1 y0b.2 ((lAt y0b.1.1.2.2.1 y0b.2).1, ((lAt y0b.1.1.2.2.1 y0b.2).2.1, ((lAt y0b.1.1.2.2.1 y0b.2).2.2.1, ((lAt y0b.1.1.2.2.1 y0b.2).2.2.2.1, ((lAt y0b.1.1.2.2.1 y0b.2).2.2.2.2.1, (y2, (lAt y0b.1.1.2.2.1 y0b.2).2.2.2.2.2.2))))))))) (
        some (.inl (.inr (((y0b.1.1.1, (y0b.1.1.2.1, ((lSet (lSet y0b.1.1.2.2.1 y0b.2 ((lAt y0b.1.1.2.2.1 y0b.2).1, ((lAt y0b.1.1.2.2.1 y0b.2).2.1, ((lAt y0b.1.1.2.2.1 y0b.2).2.2.1, ((lAt y0b.1.1.2.2.1 y0b.2).2.2.2.1, ((lAt y0b.1.1.2.2.1 y0b.2).2.2.2.2.1, (y2, (lAt y0b.1.1.2.2.1 y0b.2).2.2.2.2.2.2))))))) y0b.2 ((lAt (lSet y0b.1.1.2.2.1 y0b.2 ((lAt y0b.1.1.2.2.1 y0b.2).1, ((lAt y0b.1.1.2.2.1 y0b.2).2.1, ((lAt y0b.1.1.2.2.1 y0b.2).2.2.1, ((lAt y0b.1.1.2.2.1 y0b.2).2.2.2.1, ((lAt y0b.1.1.2.2.1 y0b.2).2.2.2.2.1, (y2, (lAt y0b.1.1.2.2.1 y0b.2).2.2.2.2.2.2))))))) y0b.2).1, ((lAt (lSet y0b.1.1.2.2.1 y0b.2 ((lAt y0b.1.1.2.2.1 y0b.2).1, ((lAt y0b.1.1.2.2.1 y0b.2).2.1, ((lAt y0b.1.1.2.2.1 y0b.2).2.2.1, ((lAt y0b.1.1.2.2.1 y0b.2).2.2.2.1, ((lAt y0b.1.1.2.2.1 y0b.2).2.2.2.2.1, (y2, (lAt y0b.1.1.2.2.1 y0b.2).2.2.2.2.2.2))))))) y0b.2).2.1, (true, (lAt (lSet y0b.1.1.2.2.1 y0b.2 ((lAt y0b.1.1.2.2.1 y0b.2).1, ((lAt y0b.1.1.2.2.1 y0b.2).2.1, ((lAt y0b.1.1.2.2.1 y0b.2).2.2.1, ((lAt y0b.1.1.2.2.1 y0b.2).2.2.2.1, ((lAt y0b.1.1.2.2.1 y0b.2).2.2.2.2.1, (y2, (lAt y0b.1.1.2.2.1 y0b.2).2.2.2.2.2.2))))))) y0b.2).2.2.2)))), y0b.1.1.2.2.2))), y0b.1.2), ((a7, (a8, (a9, (a10, (a11, a12))))), (a13, (a14, (iAdd .i64 a15 (sel (iLt (iSub .i64 a13 a15) (iSub .i64 32 (iRem (iAdd .i64 a10 a15) 32))) (iSub .i64 a13 a15) (iSub .i64 32 (iRem (iAdd .i64 a10 a15) 32))))))))))) none) none) none) none)) none) none)
    (some (.inr (.inl ((a0, (a1, (a2, (a3, (a4, (a5, a6)))))), a14))))
def B27_0h1 (a0 : (List (Int × ByteArray))) (a1 : Int) (a2 : (List (Int × (Bool × (Bool × (Int × (Int × (ByteArray × (Int × Int))))))))) (a3 : (List Int)) (a4 : Int) (a5 : Int) (a6 : Int) (a7 : (List (Int × ByteArray))) (a8 : Int) (a9 : Int) (a10 : Int) (a11 : Int) (a12 : Int) (a13 : ByteArray) (a14 : Int) (a15 : ByteArray) (a16 : Int) : Option (((((List (Int × ByteArray)) × (Int × ((List (Int × (Bool × (Bool × (Int × (Int × (ByteArray × (Int × Int)))))))) × ((List Int) × (Int × (Int × Int)))))) × ((Int × (Int × (Int × (Int × (Int × ByteArray))))) × (Int × (ByteArray × Int)))) ⊕ ((((List (Int × ByteArray)) × (Int × ((List (Int × (Bool × (Bool × (Int × (Int × (ByteArray × (Int × Int)))))))) × ((List Int) × (Int × (Int × Int)))))) × (List (Int × ByteArray))) × ((Int × (Int × (Int × (Int × (Int × ByteArray))))) × (Int × (ByteArray × Int))))) ⊕ ((((List (Int × ByteArray)) × (Int × ((List (Int × (Bool × (Bool × (Int × (Int × (ByteArray × (Int × Int)))))))) × ((List Int) × (Int × (Int × Int)))))) × ByteArray) ⊕ ((((List (Int × ByteArray)) × (Int × ((List (Int × (Bool × (Bool × (Int × (Int × (ByteArray × (Int × Int)))))))) × ((List Int) × (Int × (Int × Int)))))) × (List (Int × ByteArray))) × ByteArray))) :=
  sel (iLt a16 a14)
    (sel (oNz 32) (
    sel (oNz 32) (
    bndS (F53 a0 a1 a2 a3 a4 a5 a6 (a10, ((iQuo .i64 (iAdd .i64 a11 a16) 32), a9))) fun y0 =>
    sumS y0 (fun y0a =>
      sel (iEq a8 0)
        (sel (oIn y0a.2 (lLen y0a.1.2.2.1)) (
        sel (oCut (iRem (iAdd .i64 a11 a16) 32) (iAdd .i64 (iRem (iAdd .i64 a11 a16) 32) (sel (iLt (iSub .i64 a14 a16) (iSub .i64 32 (iRem (iAdd .i64 a11 a16) 32))) (iSub .i64 a14 a16) (iSub .i64 32 (iRem (iAdd .i64 a11 a16) 32)))) (sLen (lAt y0a.1.2.2.1 y0a.2).2.2.2.2.2.1)) (
        sel (sOk a15 (sCut (lAt y0a.1.2.2.1 y0a.2).2.2.2.2.2.1 (iRem (iAdd .i64 a11 a16) 32) (iAdd .i64 (iRem (iAdd .i64 a11 a16) 32) (sel (iLt (iSub .i64 a14 a16) (iSub .i64 32 (iRem (iAdd .i64 a11 a16) 32))) (iSub .i64 a14 a16) (iSub .i64 32 (iRem (iAdd .i64 a11 a16) 32)))))) (
        some (.inl (.inr ((y0a.1, a7), ((a8, (a9, (a10, (a11, (a12, a13))))), (a14, ((sAdd a15 (sCut (lAt y0a.1.2.2.1 y0a.2).2.2.2.2.2.1 (iRem (iAdd .i64 a11 a16) 32) (iAdd .i64 (iRem (iAdd .i64 a11 a16) 32) (sel (iLt (iSub .i64 a14 a16) (iSub .i64 32 (iRem (iAdd .i64 a11 a16) 32))) (iSub .i64 a14 a16) (iSub .i64 32 (iRem (iAdd .i64 a11 a16) 32)))))), (iAdd .i64 a16 (sel (iLt (iSub .i64 a14 a16) (iSub .i64 32 (iRem (iAdd .i64 a11 a16) 32))) (iSub .i64 a14 a16) (iSub .i64 32 (iRem (iAdd .i64 a11 a16) 32))))))))))) none) none) none)
        (sel (oIn y0a.2 (lLen y0a.1.2.2.1)) (
        sel (oCut a16 (iAdd .i64 a16 (sel (iLt (iSub .i64 a14 a16) (iSub .i64 32 (iRem (iAdd .i64 a11 a16) 32))) (iSub .i64 a14 a16) (iSub .i64 32 (iRem (iAdd .i64 a11 a16) 32)))) (sLen a13)) (
        bndS (F54 (lAt y0a.1.2.2.1 y0a.2).2.2.2.2.2.1 (iRem (iAdd .i64 a11 a16) 32) (sCut a13 a16 (iAdd .i64 a16 (sel (iLt (iSub .i64 a14 a16) (iSub .i64 32 (iRem (iAdd .i64 a11 a16) 32))) (iSub .i64 a14 a16) (iSub .i64 32 (iRem (iAdd .i64 a11 a16) 32)))))) fun y1 =>
        sel (oIn y0a.2 (lLen y0a.1.2.2.1)) (
        sel (oIn y0a.2 (lLen (lSet y0a.1.2.2.1 y0a.2 ((lAt y0a.1.2.2.1 y0a.2).1, ((lAt y0a.1.2.2.1 y0a.2).2.1, ((lAt y0a.1.2.2.1 y0a.2).2.2.1, ((lAt y0a.1.2.2.1 y0a.2).2.2.2.1, ((lAt y0a.1.2.2.1 y0a.2).2.2.2.2.1, (y1, (lAt y0a.1.2.2.1 y0a.2).2.2.2.2.2.2))))))))) (
        some (.inl (.inr (((y0a.1.1, (y0a.1.2.1, ((lSet (lSet y0a.1.2.2.1 y0a.2 ((lAt y0a.1.2.2.1 y0a.2).1, ((lAt y0a.1.2.2.1 y0a.2).2.1, ((lAt y0a.1.2.2.1 y0a.2).2.2.1, ((lAt y0a.1.2.2.1 y0a.2).2.2.2.1, ((lAt y0a.1.2.2.1 y0a.2).2.2.2.2.1, (y1, (lAt y0a.1.2.2.1 y0a.2).2.2.2.2.2.2))))))) y0a.2 ((lAt (lSet y0a.1.2.2.1 y0a.2 ((lAt y0a.1.2.2.1 y0a.2).1, ((lAt y0a.1.2.2.1 y0a.2).2.1, ((lAt y0a.1.2.2.1 y0a.2).2.2.1, ((lAt y0a.1.2.2.1 y0a.2).2.2.2.1, ((lAt y0a.1.2.2.1 y0a.2).2.2.2.2.1, (y1, (lAt y0a.1.2.2.1 y0a.2).2.2.2.2.2.2))))))) y0a.2).1, ((lAt (lSet y0a.1.2.2.1 y0a.2 ((lAt y0a.1.2.2.1 y0a.2).1, ((lAt y0a.1.2.2.1 y0a.2).2.1, ((lAt y0a.1.2.2.1 y0a.2).2.2.1, ((lAt y0a.1.2.2.1 y0a.2).2.2.2.1, ((lAt y0a.1.2.2.1 y0a.2).2.2.2.2.1, (y1, (lAt y0a.1.2.2.1 y0a.2).2.2.2.2.2.2))))))) y0a.2).2.1, (true, (lAt (lSet y0a.1.2.2.1 y0a.2 ((lAt y0a.1.2.2.1 y0a.2).1, ((lAt y0a.1.2.2.1 y0a.2).2.1, ((lAt y0a.1.2.2.1 y0a.2).2.2.1, ((lAt y0a.1.2.2.1 y0a.2).2.2.2.1, ((lAt y0a.1.2.2.1 y0a.2).2.2.2.2.1, (y1, (lAt y0a.1.2.2.1 y0a.2).2.2.2.2.2.2))))))) y0a.2).2.2.2)))), y0a.1.2.2.2))), a7), ((a8, (a9, (a10, (a11, (a12, a13))))), (a14, (a15, (iAdd .i64 a16 (sel (iLt (iSub .i64 a14 a16) (iSub .i64 32 (iRem (iAdd .i64 a11 a16) 32))) (iSub .i64 a14 a16) (iSub .i64 32 (iRem (iAdd .i64 a11 a16) 32))))))))))) none) none) none) none)) fun y0b =>
      sel (iEq a8 0)
        (sel (oIn y0b.2 (lLen y0b.1.1.2.2.1)) (
        sel (oCut (iRem (iAdd .i64 a11 a16) 32) (iAdd .i64 (iRem (iAdd .i64 a11 a16) 32) (sel (iLt (iSub .i64 a14 a16) (iSub .i64 32 (iRem (iAdd .i64 a11 a16) 32))) (iSub .i64 a14 a16) (iSub .i64 32 (iRem (iAdd .i64 a11 a16) 32)))) (sLen (lAt y0b.1.1.2.2.1 y0b.2).2.2.2.2.2.1)) (
        sel (sOk a15 (sCut (lAt y0b.1.1.2.2.1 y0b.2).2.2.2.2.2.1 (iRem (iAdd .i64 a11 a16) 32) (iAdd .i64 (iRem (iAdd .i64 a11 a16) 32) (sel (iLt (iSub .i64 a14 a16) (iSub .i64 32 (iRem (iAdd .i64 a11 a16) 32))) (iSub .i64 a14 a16) (iSub .i64 32 (iRem (iAdd .i64 a11 a16) 32)))))) (
        some (.inl (.inr ((y0b.1.1, a7), ((a8, (a9, (a10, (a11, (a12, a13))))), (a14, ((sAdd a15 (sCut (lAt y0b.1.1.2.2.1 y0b.2).2.2.2.2.2.1 (iRem (iAdd .i64 a11 a16) 32) (iAdd .i64 (iRem (iAdd .i64 a11 a16) 32) (sel (iLt (iSub .i64 a14 a16) (iSub .i64 32 (iRem (iAdd .i64 a11 a16) 32))) (iSub .i64 a14 a16) (iSub .i64 32 (iRem (iAdd .i64 a11 a16) 32)))))), (iAdd .i64 a16 (sel (iLt (iSub .i64 a14 a16) (iSub .i64 32 (iRem (iAdd .i64 a11 a16) 32))) (iSub .i64 a14 a16) (iSub .i64 32 (iRem (iAdd .i64 a11 a16) 32))))))))))) none) none) none)
        (sel (oIn y0b.2 (lLen y0b.1.1.2.2.1)) (
        sel (oCut a16 (iAdd .i64 a16 (sel (iLt (iSub .i64 a14 a16) (iSub .i64 32 (iRem (iAdd .i64 a11 a16) 32))) (iSub .i64 a14 a16) (iSub .i64 32 (iRem (iAdd .i64 a11 a16) 32)))) (sLen a13)) (
        bndS (F54 (lAt y0b.1.1.2.2.1 y0b.2).2.2.2.2.2.1 (iRem (iAdd .i64 a11 a16) 32) (sCut a13 a16 (iAdd .i64 a16 (sel (iLt (iSub .i64 a14 a16) (iSub .i64 32 (iRem (iAdd .i64 a11 a16) 32))) (iSub .i64 a14 a16) (iSub .i64 32 (iRem (iAdd .i64 a11 a16) 32)))))) fun y2 =>
        sel (oIn y0b.2 (lLen y0b.1.1.2.2.1)) (
        sel (oIn y0b.2 (lLen (lSet y0b.1.1.2.2.1 y0b.2 ((lAt y0b.1.1.2.2.1 y0b.2).1, ((lAt y0b.1.1.2.2.1 y0b.2).2.1, ((lAt y0b.1.1.2.2.1 y0b.2).2.2.1, ((lAt y0b.1.1.2.2.1 y0b.2).2.2.2.1, ((lAt y0b.1.1.2.2.1 y0b.2).2.2.2.2.1, (y2, (lAt y0b.1.1.2.2.1 y0b.2).2.2.2.2.2.2))))))))) (
        some (.inl (.inr (((y0b.1.1.1, (y0b.1.1.2.1, ((lSet (lSet y0b.1.1.2.2.1 y0b.2 ((lAt y0b.1.1.2.2.1 y0b.2).1, ((lAt y0b.1.1.2.2.1 y0b.2).2.1, ((lAt y0b.1.1.2.2.1 y0b.2).2.2.1, ((lAt y0b.1.1.2.2.1 y0b.2).2.2.2.1, ((lAt y0b.1.1.2.2.1 y0b.2).2.2.2.2.1, (y2, (lAt y0b.1.1.2.2.1 y0b.2).2.2.2.2.2.2))))))) y0b.2 ((lAt (lSet y0b.1.1.2.2.1 y0b.2 ((lAt y0b.1.1.2.2.1 y0b.2).1, ((lAt y0b.1.1.2.2.1 y0b.2).2.1, ((lAt y0b.1.1.2.2.1 y0b.2).2.2.1, ((lAt y0b.1.1.2.2.1 y0b.2).2.2.2.1, ((lAt y0b.1.1.2.2.1 y0b.2).2.2.2.2.1, (y2, (lAt y0b.1.1.2.2.1 y0b.2).2.2.2.2.2.2))))))) y0b.2).1, ((lAt (lSet y0b.1.1.2.2.1 y0b.2 ((lAt y0b.1.1.2.2.1 y0b.2).1, ((lAt y0b.1.1.2.2.1 y0b.2).2.1, ((lAt y0b.1.1.2.2.1 y0b.2).2.2.1, ((lAt y0b.1.1.2.2.1 y0b.2).2.2.2.1, ((lAt y0b.1.1.2.2.1 y0b.2).2.2.2.2.1, (y2, (lAt y0b.1.1.2.2.1 y0b.2).2.2.2.2.2.2))))))) y0b.2).2.1, (true, (lAt (lSet y0b.1.1.2.2.1 y0b.2 ((lAt y0b.1.1.2.2.1 y0b.2).1, ((lAt y0b.1.1.2.2.1 y0b.2).2.1, ((lAt y0b.1.1.2.2.1 y0b.2).2.2.1, ((lAt y0b.1.1.2.2.1 y0b.2).2.2.2.1, ((lAt y0b.1.1.2.2.1 y0b.2).2.2.2.2.1, (y2, (lAt y0b.1.1.2.2.1 y0b.2).2.2.2.2.2.2))))))) y0b.2).2.2.2)))), y0b.1.1.2.2.2))), a7), ((a8, (a9, (a10, (a11, (a12, a13))))), (a14, (a15, (iAdd .i64 a16 (sel (iLt (iSub .i64 a14 a16) (iSub .i64 32 (iRem (iAdd .i64 a11 a16) 32))) (iSub .i64 a14 a16) (iSub .i64 32 (iRem (iAdd .i64 a11 a16) 32))))))))))) none) none) none) none)) none) none)
    (some (.inr (.inr (((a0, (a1, (a2, (a3, (a4, (a5, a6)))))), a7), a15))))
def L27_0 (x : ((((List (Int × ByteArray)) × (Int × ((List (Int × (Bool × (Bool × (Int × (Int × (ByteArray × (Int × Int)))))))) × ((List Int) × (Int × (Int × Int)))))) × ((Int × (Int × (Int × (Int × (Int × ByteArray))))) × (Int × (ByteArray × Int)))) ⊕ ((((List (Int × ByteArray)) × (Int × ((List (Int × (Bool × (Bool × (Int × (Int × (ByteArray × (Int × Int)))))))) × ((List Int) × (Int × (Int × Int)))))) × (List (Int × ByteArray))) × ((Int × (Int × (Int × (Int × (Int × ByteArray))))) × (Int × (ByteArray × Int)))))) : Option ((((List (Int × ByteArray)) × (Int × ((List (Int × (Bool × (Bool × (Int × (Int × (ByteArray × (Int × Int)))))))) × ((List Int) × (Int × (Int × Int)))))) × ByteArray) ⊕ ((((List (Int × ByteArray)) × (Int × ((List (Int × (Bool × (Bool × (Int × (Int × (ByteArray × (Int × Int)))))))) × ((List Int) × (Int × (Int × Int)))))) × (List (Int × ByteArray))) × ByteArray)) := iter (fun (x : ((((List (Int × ByteArray)) × (Int × ((List (Int × (Bool × (Bool × (Int × (Int × (ByteArray × (Int × Int)))))))) × ((List Int) × (Int × (Int × Int)))))) × ((Int × (Int × (Int × (Int × (Int × ByteArray))))) × (Int × (ByteArray × Int)))) ⊕ ((((List (Int × ByteArray)) × (Int × ((List (Int × (Bool × (Bool × (Int × (Int × (ByteArray × (Int × Int)))))))) × ((List Int) × (Int × (Int × Int)))))) × (List (Int × ByteArray))) × ((Int × (Int × (Int × (Int × (Int × ByteArray))))) × (Int × (ByteArray × Int)))))) => (sumS x (fun x => (B27_0h0 x.1.1 x.1.2.1 x.1.2.2.1 x.1.2.2.2.1 x.1.2.2.2.2.1 x.1.2.2.2.2.2.1 x.1.2.2.2.2.2.2 x.2.1.1 x.2.1.2.1 x.2.1.2.2.1 x.2.1.2.2.2.1 x.2.1.2.2.2.2.1 x.2.1.2.2.2.2.2 x.2.2.1 x.2.2.2.1 x.2.2.2.2)) fun x => (B27_0h1 x.1.1.1 x.1.1.2.1 x.1.1.2.2.1 x.1.1.2.2.2.1 x.1.1.2.2.2.2.1 x.1.1.2.2.2.2.2.1 x.1.1.2.2.2.2.2.2 x.1.2 x.2.1.1 x.2.1.2.1 x.2.1.2.2.1 x.2.1.2.2.2.1 x.2.1.2.2.2.2.1 x.2.1.2.2.2.2.2 x.2.2.1 x.2.2.2.1 x.2.2.2.2))) fuel x
def lsL27_0 : LS := ⟨(.two (.one .normal ⟨(.box 0 (.seq (.own 1 (.pr (.int .i64) .str)) (.seq (.dat (.int .i64)) (.seq (.own 2 (.pr (.int .i64) (.pr .bool (.pr .bool (.pr (.int .i64) (.pr (.int .i64) (.pr .str (.pr (.int .i64) (.int .i64))))))))) (.seq (.own 3 (.int .i64)) (.seq (.dat (.int .i64)) (.seq (.dat (.int .i64)) (.dat (.int .i64))))))))), [0, 3, 5, 6, 7], (.seq (.ptr 0 7 0) (.seq (.box 4 (.seq (.dat (.int .i64)) (.seq (.dat (.int .i64)) (.seq (.dat (.int .i64)) (.seq (.dat (.int .i64)) (.seq (.dat (.int .i64)) (.dat .str))))))) (.seq (.dat (.int .i64)) (.seq (.dat .str) (.dat (.int .i64)))))), 5, 99, 4⟩) (.one .normal ⟨(.seq (.box 0 (.seq (.own 4 (.pr (.int .i64) .str)) (.seq (.dat (.int .i64)) (.seq (.own 2 (.pr (.int .i64) (.pr .bool (.pr .bool (.pr (.int .i64) (.pr (.int .i64) (.pr .str (.pr (.int .i64) (.int .i64))))))))) (.seq (.own 3 (.int .i64)) (.seq (.dat (.int .i64)) (.seq (.dat (.int .i64)) (.dat (.int .i64))))))))) (.own 1 (.pr (.int .i64) .str))), [0, 3, 5, 6, 7], (.seq (.ptr 0 7 0) (.seq (.box 5 (.seq (.dat (.int .i64)) (.seq (.dat (.int .i64)) (.seq (.dat (.int .i64)) (.seq (.dat (.int .i64)) (.seq (.dat (.int .i64)) (.dat .str))))))) (.seq (.dat (.int .i64)) (.seq (.dat .str) (.dat (.int .i64)))))), 6, 99, 4⟩)), (.two (.one (.exit 0) ⟨(.box 0 (.seq (.own 1 (.pr (.int .i64) .str)) (.seq (.dat (.int .i64)) (.seq (.own 2 (.pr (.int .i64) (.pr .bool (.pr .bool (.pr (.int .i64) (.pr (.int .i64) (.pr .str (.pr (.int .i64) (.int .i64))))))))) (.seq (.own 3 (.int .i64)) (.seq (.dat (.int .i64)) (.seq (.dat (.int .i64)) (.dat (.int .i64))))))))), [6], (.dat .str), 4, 99, 4⟩) (.one (.exit 0) ⟨(.seq (.box 0 (.seq (.own 4 (.pr (.int .i64) .str)) (.seq (.dat (.int .i64)) (.seq (.own 2 (.pr (.int .i64) (.pr .bool (.pr .bool (.pr (.int .i64) (.pr (.int .i64) (.pr .str (.pr (.int .i64) (.int .i64))))))))) (.seq (.own 3 (.int .i64)) (.seq (.dat (.int .i64)) (.seq (.dat (.int .i64)) (.dat (.int .i64))))))))) (.own 1 (.pr (.int .i64) .str))), [6], (.dat .str), 5, 99, 4⟩)), fun (x : ((((List (Int × ByteArray)) × (Int × ((List (Int × (Bool × (Bool × (Int × (Int × (ByteArray × (Int × Int)))))))) × ((List Int) × (Int × (Int × Int)))))) × ((Int × (Int × (Int × (Int × (Int × ByteArray))))) × (Int × (ByteArray × Int)))) ⊕ ((((List (Int × ByteArray)) × (Int × ((List (Int × (Bool × (Bool × (Int × (Int × (ByteArray × (Int × Int)))))))) × ((List Int) × (Int × (Int × Int)))))) × (List (Int × ByteArray))) × ((Int × (Int × (Int × (Int × (Int × ByteArray))))) × (Int × (ByteArray × Int)))))) => (sumS x (fun x => (B27_0h0 x.1.1 x.1.2.1 x.1.2.2.1 x.1.2.2.2.1 x.1.2.2.2.2.1 x.1.2.2.2.2.2.1 x.1.2.2.2.2.2.2 x.2.1.1 x.2.1.2.1 x.2.1.2.2.1 x.2.1.2.2.2.1 x.2.1.2.2.2.2.1 x.2.1.2.2.2.2.2 x.2.2.1 x.2.2.2.1 x.2.2.2.2)) fun x => (B27_0h1 x.1.1.1 x.1.1.2.1 x.1.1.2.2.1 x.1.1.2.2.2.1 x.1.1.2.2.2.2.1 x.1.1.2.2.2.2.2.1 x.1.1.2.2.2.2.2.2 x.1.2 x.2.1.1 x.2.1.2.1 x.2.1.2.2.1 x.2.1.2.2.2.1 x.2.1.2.2.2.2.1 x.2.1.2.2.2.2.2 x.2.2.1 x.2.2.2.1 x.2.2.2.2))⟩
/-- midrangeref05.moved -/
def F27 (a0 : (List (Int × ByteArray))) (a1 : Int) (a2 : (List (Int × (Bool × (Bool × (Int × (Int × (ByteArray × (Int × Int))))))))) (a3 : (List Int)) (a4 : Int) (a5 : Int) (a6 : Int) (a7 : (Int × (Int × ((Int × Int) × (Int × ByteArray))))) : Option ((((List (Int × ByteArray)) × (Int × ((List (Int × (Bool × (Bool × (Int × (Int × (ByteArray × (Int × Int)))))))) × ((List Int) × (Int × (Int × Int)))))) × ByteArray) ⊕ ((((List (Int × ByteArray)) × (Int × ((List (Int × (Bool × (Bool × (Int × (Int × (ByteArray × (Int × Int)))))))) × ((List Int) × (Int × (Int × Int)))))) × (List (Int × ByteArray))) × ByteArray)) :=
  bndS (L27_0 (.inl ((a0, (a1, (a2, (a3, (a4, (a5, a6)))))), ((a7.1, (a7.2.1, (a7.2.2.1.1, (a7.2.2.1.2, a7.2.2.2)))), ((iAdd .i64 a7.2.2.2.1 (sLen a7.2.2.2.2)), ((bs []), 0)))))) fun y0 =>
  sumS y0 (fun y0a =>
    some (.inl y0a)) fun y0b =>
    some (.inr y0b)
def gF27 : FS := ⟨(.seq (.box 0 (.seq (.own 1 (.pr (.int .i64) .str)) (.seq (.dat (.int .i64)) (.seq (.own 2 (.pr (.int .i64) (.pr .bool (.pr .bool (.pr (.int .i64) (.pr (.int .i64) (.pr .str (.pr (.int .i64) (.int .i64))))))))) (.seq (.own 3 (.int .i64)) (.seq (.dat (.int .i64)) (.seq (.dat (.int .i64)) (.dat (.int .i64))))))))) (.agg (.dat (.pr (.int .i64) (.pr (.int .i64) (.pr (.pr (.int .i64) (.int .i64)) (.pr (.int .i64) .str))))))), 4, (.two (.one ⟨(.box 0 (.seq (.own 1 (.pr (.int .i64) .str)) (.seq (.dat (.int .i64)) (.seq (.own 2 (.pr (.int .i64) (.pr .bool (.pr .bool (.pr (.int .i64) (.pr (.int .i64) (.pr .str (.pr (.int .i64) (.int .i64))))))))) (.seq (.own 3 (.int .i64)) (.seq (.dat (.int .i64)) (.seq (.dat (.int .i64)) (.dat (.int .i64))))))))), (.dat .str), 4, 0⟩) (.one ⟨(.seq (.box 0 (.seq (.own 4 (.pr (.int .i64) .str)) (.seq (.dat (.int .i64)) (.seq (.own 2 (.pr (.int .i64) (.pr .bool (.pr .bool (.pr (.int .i64) (.pr (.int .i64) (.pr .str (.pr (.int .i64) (.int .i64))))))))) (.seq (.own 3 (.int .i64)) (.seq (.dat (.int .i64)) (.seq (.dat (.int .i64)) (.dat (.int .i64))))))))) (.own 1 (.pr (.int .i64) .str))), (.dat .str), 4, 1⟩)), fun x => (F27 x.1.1 x.1.2.1 x.1.2.2.1 x.1.2.2.2.1 x.1.2.2.2.2.1 x.1.2.2.2.2.2.1 x.1.2.2.2.2.2.2 x.2)⟩
theorem rL27_0 (x : lsL27_0.hd.T) : kRound env (GofL [(54, [gF54]), (53, [gF53])]) (LofL [(27, [(0, lsL27_0)])]) 27 0 (lpOf Tryz.prog 27 0).2 (lsL27_0.hd.st x) lsL27_0.rd = lsL27_0.B x := by rcases x with x | x <;> kernel_rfl
theorem eF27 (x : gF27.a.T) : kF env (GofL [(54, [gF54]), (53, [gF53])]) (LofL [(27, [(0, lsL27_0)])]) 27 (gF27.args x) (gF27.bs x) gF27.r.dec = gF27.F x := by kernel_rfl
theorem sF27 : SpecAt env 7 27 gF27 := mkSpec (r := 6) (gl := [(54, [gF54]), (53, [gF53])]) (L0 := [(0, lsL27_0)]) (by kernel_rfl) ⟨⟨sF54.up (by decide), trivial⟩, ⟨sF53.up (by decide), trivial⟩, trivial⟩ ⟨⟨0, by kernel_rfl, by kernel_rfl, rL27_0⟩, trivial⟩ eF27 (fun h => absurd h (by rw [show env.nl 27 = false by kernel_rfl]; decide))
end
end Go.Proofs.YtagcodkkkebnhaaGreat.K
end
