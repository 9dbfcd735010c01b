/- A part of the proof: texts of the author, joined. -/
import Derived.Test.YtdnfnjaccbgplaaDoorKS1
section
set_option linter.unusedVariables false
set_option linter.unusedSimpArgs false
set_option linter.unnecessarySimpa false
open Go Go.Ev Go.Proofs
namespace Go.Proofs.YtdnfnjaccbgplaaDoor.K
set_option linter.unusedVariables false
set_option maxRecDepth 100000
noncomputable section
/-- midrangelaw32.JournalFails -/
def F7 (a0 : ((List (ByteArray × (Int × ByteArray))) × Int)) (a1 : Int) : Option Bool :=
  bndS (F13) fun y0 =>
  sel (bNot y0)
    (some false)
    (bndS (F21 a0) fun y1 =>
    sel (bNot y1)
      (some true)
      (bndS (F23 a0) fun y2 =>
      bndS (F30 y2 a1) fun y3 =>
      bndS (F23 a0) fun y4 =>
      bndS (F31 y4) fun y5 =>
      bndS (F32 a0) fun y6 =>
      bndS (F33 a0 a1) fun y7 =>
      bndS (F29 y3.1 y3.2 ((y7.1, y7.2.1), y7.2.2)) fun y8 =>
      sel (bOr (okS (F29 y5.1 y5.2.2 ((y6.1, y6.2.1), y6.2.2))) (bNot y8)) (
      letS (valS (F29 y5.1 y5.2.2 ((y6.1, y6.2.1), y6.2.2)) false) fun y9 =>
      some (bAnd (bAnd y8 y9) (iEq y5.2.1 y6.2.2.1))) none))
def gF7 : FS := ⟨(.seq (.agg (.dat (.pr (.sl (.pr .str (.pr (.int .i64) .str))) (.int .i64)))) (.dat (.int .i64))), 0, (.one ⟨.non, (.dat .bool), 0, 0⟩), fun x => (F7 x.1 x.2)⟩
theorem eF7 (x : gF7.a.T) : kF env (GofL [(29, [gF29]), (33, [gF33]), (32, [gF32]), (31, [gF31]), (23, [gF23]), (30, [gF30]), (21, [gF21]), (13, [gF13])]) (LofL [(7, [])]) 7 (gF7.args x) (gF7.bs x) gF7.r.dec = gF7.F x := by kernel_rfl
theorem sF7 : SpecAt env 9 7 gF7 := mkSpec (r := 8) (gl := [(29, [gF29]), (33, [gF33]), (32, [gF32]), (31, [gF31]), (23, [gF23]), (30, [gF30]), (21, [gF21]), (13, [gF13])]) (L0 := []) (by kernel_rfl) ⟨⟨sF29.up (by decide), trivial⟩, ⟨sF33.up (by decide), trivial⟩, ⟨sF32.up (by decide), trivial⟩, ⟨sF31.up (by decide), trivial⟩, ⟨sF23.up (by decide), trivial⟩, ⟨sF30.up (by decide), trivial⟩, ⟨sF21.up (by decide), trivial⟩, ⟨sF13.up (by decide), trivial⟩, trivial⟩ trivial eF7 (fun h => absurd h (by rw [show env.nl 7 = false by kernel_rfl]; decide))
/-- journal.EntriesOf -/
def F39 (a0 : ((List (ByteArray × (Int × ByteArray))) × Int)) (a1 : Int) (a2 : Int) : Option ((List (Int × (Int × (Int × (ByteArray × (Int × (Int × (ByteArray × ByteArray))))))) × Int × Int) × Int) :=
  bndS (F66 a0 true) fun y0 =>
  sel (bNot (iEq y0.2.2 0))
    (some ((([] : List (Int × (Int × (Int × (ByteArray × (Int × (Int × (ByteArray × ByteArray)))))))), 0, (lLen ([] : List (Int × (Int × (Int × (ByteArray × (Int × (Int × (ByteArray × ByteArray)))))))))), y0.2.2))
    (letS (F50 a1 1 a0.2) fun y1 =>
    letS (F50 a2 (iSub .i64 a1 1) (iSub .i64 a0.2 1)) fun y2 =>
    sel (sel (bNot y1) (bNot y1) (bNot y2))
      (some ((([] : List (Int × (Int × (Int × (ByteArray × (Int × (Int × (ByteArray × ByteArray)))))))), 0, (lLen ([] : List (Int × (Int × (Int × (ByteArray × (Int × (Int × (ByteArray × ByteArray)))))))))), 3))
      (sel (iLt a2 a1)
        (some ((([] : List (Int × (Int × (Int × (ByteArray × (Int × (Int × (ByteArray × ByteArray)))))))), 0, (lLen ([] : List (Int × (Int × (Int × (ByteArray × (Int × (Int × (ByteArray × ByteArray)))))))))), 0))
        (sel (oIn 0 (lLen a0.1)) (
        sel (iLt a1 (lAt a0.1 0).2.1)
          (some ((([] : List (Int × (Int × (Int × (ByteArray × (Int × (Int × (ByteArray × ByteArray)))))))), 0, (lLen ([] : List (Int × (Int × (Int × (ByteArray × (Int × (Int × (ByteArray × ByteArray)))))))))), 11))
          (sel (oCut (iSub .i64 a1 (lAt a0.1 0).2.1) (iAdd .i64 (iSub .i64 a2 (lAt a0.1 0).2.1) 1) (lLen y0.1)) (
          some ((y0.1, (iSub .i64 a1 (lAt a0.1 0).2.1), (iAdd .i64 (iSub .i64 a2 (lAt a0.1 0).2.1) 1)), 0)) none)) none)))
def gF39 : FS := ⟨(.seq (.agg (.dat (.pr (.sl (.pr .str (.pr (.int .i64) .str))) (.int .i64)))) (.seq (.dat (.int .i64)) (.dat (.int .i64)))), 0, (.one ⟨.non, (.tup (.seq (.sub 0 (.pr (.int .i64) (.pr (.int .i64) (.pr (.int .i64) (.pr .str (.pr (.int .i64) (.pr (.int .i64) (.pr .str .str)))))))) (.dat (.int .i64)))), 0, 1⟩), fun x => (F39 x.1 x.2.1 x.2.2)⟩
theorem eF39 (x : gF39.a.T) : kF env (GofL [(50, [gF50]), (66, [gF66])]) (LofL [(39, [])]) 39 (gF39.args x) (gF39.bs x) gF39.r.dec = gF39.F x := by kernel_rfl
theorem sF39 : SpecAt env 6 39 gF39 := mkSpec (r := 5) (gl := [(50, [gF50]), (66, [gF66])]) (L0 := []) (by kernel_rfl) ⟨⟨sF50.up (by decide), trivial⟩, ⟨sF66.up (by decide), trivial⟩, trivial⟩ trivial eF39 (fun h => absurd h (by rw [show env.nl 39 = false by kernel_rfl]; decide))
/-- midrangelaw32.entries -/
def F34 (a0 : ((List (ByteArray × (Int × ByteArray))) × Int)) : Option ((List (Int × (Int × (Int × (ByteArray × (Int × (Int × (ByteArray × ByteArray))))))) × Int × Int) × Bool) :=
  bndS (F23 a0) fun y0 =>
  bndS (F22 y0) fun y1 =>
  sel (bNot (iEq y1.2 0))
    (some ((([] : List (Int × (Int × (Int × (ByteArray × (Int × (Int × (ByteArray × ByteArray)))))))), 0, (lLen ([] : List (Int × (Int × (Int × (ByteArray × (Int × (Int × (ByteArray × ByteArray)))))))))), false))
    (bndS (F23 a0) fun y2 =>
    bndS (F39 y2 (iSub .i64 a0.2 y1.1) (iSub .i64 a0.2 1)) fun y3 =>
    some ((y3.1.1, y3.1.2.1, y3.1.2.2), (bAnd (iEq y3.2 0) (iEq (pSub y3.1.2.2 y3.1.2.1) y1.1))))
def gF34 : FS := ⟨(.agg (.dat (.pr (.sl (.pr .str (.pr (.int .i64) .str))) (.int .i64)))), 0, (.one ⟨.non, (.tup (.seq (.sub 0 (.pr (.int .i64) (.pr (.int .i64) (.pr (.int .i64) (.pr .str (.pr (.int .i64) (.pr (.int .i64) (.pr .str .str)))))))) (.dat .bool))), 0, 1⟩), fun x => (F34 x)⟩
theorem eF34 (x : gF34.a.T) : kF env (GofL [(39, [gF39]), (23, [gF23]), (22, [gF22])]) (LofL [(34, [])]) 34 (gF34.args x) (gF34.bs x) gF34.r.dec = gF34.F x := by kernel_rfl
theorem sF34 : SpecAt env 7 34 gF34 := mkSpec (r := 6) (gl := [(39, [gF39]), (23, [gF23]), (22, [gF22])]) (L0 := []) (by kernel_rfl) ⟨⟨sF39.up (by decide), trivial⟩, ⟨sF23.up (by decide), trivial⟩, ⟨sF22.up (by decide), trivial⟩, trivial⟩ trivial eF34 (fun h => absurd h (by rw [show env.nl 34 = false by kernel_rfl]; decide))
def B36_0 (a0 : (List (Int × (Int × (Int × (ByteArray × (Int × (Int × (ByteArray × ByteArray))))))))) (a1 : (List (Int × (Int × (Int × (ByteArray × (Int × (Int × (ByteArray × ByteArray))))))))) (a2 : Int) : Option (((List (Int × (Int × (Int × (ByteArray × (Int × (Int × (ByteArray × ByteArray)))))))) × ((List (Int × (Int × (Int × (ByteArray × (Int × (Int × (ByteArray × ByteArray)))))))) × Int)) ⊕ (Unit ⊕ Bool)) :=
  sel (iLt a2 (lLen a0))
    (sel (oIn a2 (lLen a0)) (
    sel (oIn a2 (lLen a1)) (
    sel (bNot (bAnd (iEq (lAt a0 a2).1 (lAt a1 a2).1) (bAnd (iEq (lAt a0 a2).2.1 (lAt a1 a2).2.1) (bAnd (iEq (lAt a0 a2).2.2.1 (lAt a1 a2).2.2.1) (bAnd (sEq (lAt a0 a2).2.2.2.1 (lAt a1 a2).2.2.2.1) (bAnd (iEq (lAt a0 a2).2.2.2.2.1 (lAt a1 a2).2.2.2.2.1) (bAnd (iEq (lAt a0 a2).2.2.2.2.2.1 (lAt a1 a2).2.2.2.2.2.1) (bAnd (sEq (lAt a0 a2).2.2.2.2.2.2.1 (lAt a1 a2).2.2.2.2.2.2.1) (sEq (lAt a0 a2).2.2.2.2.2.2.2 (lAt a1 a2).2.2.2.2.2.2.2)))))))))
      (some (.inr (.inr false)))
      (some (.inl (a0, (a1, (iAdd .i64 a2 1)))))) none) none)
    (some (.inr (.inl ())))
def L36_0 (x : ((List (Int × (Int × (Int × (ByteArray × (Int × (Int × (ByteArray × ByteArray)))))))) × ((List (Int × (Int × (Int × (ByteArray × (Int × (Int × (ByteArray × ByteArray)))))))) × Int))) : Option (Unit ⊕ Bool) := iter (fun (x : ((List (Int × (Int × (Int × (ByteArray × (Int × (Int × (ByteArray × ByteArray)))))))) × ((List (Int × (Int × (Int × (ByteArray × (Int × (Int × (ByteArray × ByteArray)))))))) × Int))) => (B36_0 x.1 x.2.1 x.2.2)) fuel x
def lsL36_0 : LS := ⟨(.one .normal ⟨.non, [0, 1, 5], (.seq (.dat (.sl (.pr (.int .i64) (.pr (.int .i64) (.pr (.int .i64) (.pr .str (.pr (.int .i64) (.pr (.int .i64) (.pr .str .str))))))))) (.seq (.dat (.sl (.pr (.int .i64) (.pr (.int .i64) (.pr (.int .i64) (.pr .str (.pr (.int .i64) (.pr (.int .i64) (.pr .str .str))))))))) (.dat (.int .i64)))), 0, 26, 0⟩), (.two (.one (.exit 0) ⟨.non, [], .non, 0, 26, 0⟩) (.one .ret ⟨.non, [4], (.dat .bool), 0, 26, 0⟩)), fun (x : ((List (Int × (Int × (Int × (ByteArray × (Int × (Int × (ByteArray × ByteArray)))))))) × ((List (Int × (Int × (Int × (ByteArray × (Int × (Int × (ByteArray × ByteArray)))))))) × Int))) => (B36_0 x.1 x.2.1 x.2.2)⟩
/-- midrangeref32.SameEntries -/
def F36 (a0 : (List (Int × (Int × (Int × (ByteArray × (Int × (Int × (ByteArray × ByteArray))))))))) (a1 : (List (Int × (Int × (Int × (ByteArray × (Int × (Int × (ByteArray × ByteArray))))))))) : Option Bool :=
  sel (bNot (iEq (lLen a0) (lLen a1)))
    (some false)
    (bndS (L36_0 (a0, (a1, 0))) fun y0 =>
    sumS y0 (fun y0a =>
      some true) fun y0b =>
      some y0b)
def gF36 : FS := ⟨(.seq (.dat (.sl (.pr (.int .i64) (.pr (.int .i64) (.pr (.int .i64) (.pr .str (.pr (.int .i64) (.pr (.int .i64) (.pr .str .str))))))))) (.dat (.sl (.pr (.int .i64) (.pr (.int .i64) (.pr (.int .i64) (.pr .str (.pr (.int .i64) (.pr (.int .i64) (.pr .str .str)))))))))), 0, (.one ⟨.non, (.dat .bool), 0, 0⟩), fun x => (F36 x.1 x.2)⟩
theorem rL36_0 (x : lsL36_0.hd.T) : kRound env (GofL []) (LofL [(36, [(0, lsL36_0)])]) 36 0 (lpOf Tryd.prog 36 0).2 (lsL36_0.hd.st x) lsL36_0.rd = lsL36_0.B x := by kernel_rfl
theorem eF36 (x : gF36.a.T) : kF env (GofL []) (LofL [(36, [(0, lsL36_0)])]) 36 (gF36.args x) (gF36.bs x) gF36.r.dec = gF36.F x := by kernel_rfl
theorem sF36 : SpecAt env 1 36 gF36 := mkSpec (r := 0) (gl := []) (L0 := [(0, lsL36_0)]) (by kernel_rfl) trivial ⟨⟨0, by kernel_rfl, by kernel_rfl, rL36_0⟩, trivial⟩ eF36 (fun h => absurd h (by rw [show env.nl 36 = false by kernel_rfl]; decide))
/-- midrangelaw32.JournalSurvives -/
def F8 (a0 : ((List (ByteArray × (Int × ByteArray))) × Int)) (a1 : Int) : Option Bool :=
  bndS (F13) fun y0 =>
  sel (bNot y0)
    (some false)
    (bndS (F21 a0) fun y1 =>
    sel (bNot y1)
      (some true)
      (bndS (F23 a0) fun y2 =>
      bndS (F30 y2 a1) fun y3 =>
      sel (bNot (iEq y3.2 0))
        (some true)
        (bndS (F23 y3.1) fun y4 =>
        bndS (F31 y4) fun y5 =>
        bndS (F23 y5.1) fun y6 =>
        bndS (F31 y6) fun y7 =>
        bndS (F34 a0) fun y8 =>
        bndS (F34 y5.1) fun y9 =>
        sel (bOr (okS (F35 y5.1 y7.1)) (bNot (bNot (bOr (bOr (bNot (iEq y5.2.2 0)) (bNot (iEq y7.2.2 0))) (bNot (iEq y7.2.1 0)))))) (
        letS (valS (F35 y5.1 y7.1) false) fun y10 =>
        sel (bOr (oCut 0 (pSub y9.1.2.2 y9.1.2.1) (pSub y8.1.2.2 y8.1.2.1)) (bNot (bNot (bOr (bOr (bOr (bOr (bOr (bOr (bNot (iEq y5.2.2 0)) (bNot (iEq y7.2.2 0))) (bNot (iEq y7.2.1 0))) (bNot y10)) (bNot y8.2)) (bNot y9.2)) (iLt (pSub y8.1.2.2 y8.1.2.1) (pSub y9.1.2.2 y9.1.2.1)))))) (
        sel (bOr (okS (F36 (lCut y9.1.1 y9.1.2.1 y9.1.2.2) (lCut y8.1.1 (pAdd y8.1.2.1 0) (pAdd y8.1.2.1 (pSub y9.1.2.2 y9.1.2.1))))) (bNot (bNot (bOr (bOr (bOr (bOr (bOr (bOr (bNot (iEq y5.2.2 0)) (bNot (iEq y7.2.2 0))) (bNot (iEq y7.2.1 0))) (bNot y10)) (bNot y8.2)) (bNot y9.2)) (iLt (pSub y8.1.2.2 y8.1.2.1) (pSub y9.1.2.2 y9.1.2.1)))))) (
        letS (valS (F36 (lCut y9.1.1 y9.1.2.1 y9.1.2.2) (lCut y8.1.1 (pAdd y8.1.2.1 0) (pAdd y8.1.2.1 (pSub y9.1.2.2 y9.1.2.1)))) false) fun y11 =>
        sel (bOr (bOr (bOr (bOr (bOr (bOr (bOr (bNot (iEq y5.2.2 0)) (bNot (iEq y7.2.2 0))) (bNot (iEq y7.2.1 0))) (bNot y10)) (bNot y8.2)) (bNot y9.2)) (iLt (pSub y8.1.2.2 y8.1.2.1) (pSub y9.1.2.2 y9.1.2.1))) (bNot y11))
          (some false)
          (sel (iEq (pSub y9.1.2.2 y9.1.2.1) (pSub y8.1.2.2 y8.1.2.1))
            (some (iEq y5.2.1 0))
            (sel (oIn (pSub y9.1.2.2 y9.1.2.1) (pSub y8.1.2.2 y8.1.2.1)) (
            bndS (F16 (lAt y8.1.1 (pAdd y8.1.2.1 (pSub y9.1.2.2 y9.1.2.1)))) fun y12 =>
            some (bAnd (iEq y12.2 0) (iLt y5.2.1 (sLen y12.1)))) none))) none) none) none)))
def gF8 : FS := ⟨(.seq (.agg (.dat (.pr (.sl (.pr .str (.pr (.int .i64) .str))) (.int .i64)))) (.dat (.int .i64))), 0, (.one ⟨.non, (.dat .bool), 0, 0⟩), fun x => (F8 x.1 x.2)⟩
theorem eF8 (x : gF8.a.T) : kF env (GofL [(16, [gF16]), (36, [gF36]), (35, [gF35]), (34, [gF34]), (31, [gF31]), (23, [gF23]), (30, [gF30]), (21, [gF21]), (13, [gF13])]) (LofL [(8, [])]) 8 (gF8.args x) (gF8.bs x) gF8.r.dec = gF8.F x := by kernel_rfl
theorem sF8 : SpecAt env 9 8 gF8 := mkSpec (r := 8) (gl := [(16, [gF16]), (36, [gF36]), (35, [gF35]), (34, [gF34]), (31, [gF31]), (23, [gF23]), (30, [gF30]), (21, [gF21]), (13, [gF13])]) (L0 := []) (by kernel_rfl) ⟨⟨sF16.up (by decide), trivial⟩, ⟨sF36.up (by decide), trivial⟩, ⟨sF35.up (by decide), trivial⟩, ⟨sF34.up (by decide), trivial⟩, ⟨sF31.up (by decide), trivial⟩, ⟨sF23.up (by decide), trivial⟩, ⟨sF30.up (by decide), trivial⟩, ⟨sF21.up (by decide), trivial⟩, ⟨sF13.up (by decide), trivial⟩, trivial⟩ trivial eF8 (fun h => absurd h (by rw [show env.nl 8 = false by kernel_rfl]; decide))
/-- midrangebase.Patched -/
def F38 (a0 : ByteArray) (a1 : Int) (a2 : ByteArray) : Option ByteArray :=
  sel (oCut 0 a1 (sLen a0)) (
  sel (sOk (sCut a0 0 a1) a2) (
  sel (oCut (iAdd .i64 a1 (sLen a2)) (sLen a0) (sLen a0)) (
  sel (sOk (sAdd (sCut a0 0 a1) a2) (sCut a0 (iAdd .i64 a1 (sLen a2)) (sLen a0))) (
  some (sAdd (sAdd (sCut a0 0 a1) a2) (sCut a0 (iAdd .i64 a1 (sLen a2)) (sLen a0)))) none) none) none) none
def gF38 : FS := ⟨(.seq (.dat .str) (.seq (.dat (.int .i64)) (.dat .str))), 0, (.one ⟨.non, (.dat .str), 0, 0⟩), fun x => (F38 x.1 x.2.1 x.2.2)⟩
theorem eF38 (x : gF38.a.T) : kF env (GofL []) (LofL [(38, [])]) 38 (gF38.args x) (gF38.bs x) gF38.r.dec = gF38.F x := by kernel_rfl
theorem sF38 : SpecAt env 1 38 gF38 := mkSpec (r := 0) (gl := []) (L0 := []) (by kernel_rfl) trivial trivial eF38 (fun h => absurd h (by rw [show env.nl 38 = false by kernel_rfl]; decide))
/-- midrangelaw32.JournalHonest -/
def F9 (a0 : ((List (ByteArray × (Int × ByteArray))) × Int)) (a1 : Int) (a2 : Int) : Option Bool :=
  bndS (F13) fun y0 =>
  sel (bNot y0)
    (some false)
    (bndS (F21 a0) fun y1 =>
    sel (bNot y1)
      (some true)
      (bndS (F34 a0) fun y2 =>
      sel (bNot y2.2)
        (some true)
        (bndS (F23 a0) fun y3 =>
        sel (oIn (iSub .i64 (lLen y3.1) 1) (lLen y3.1)) (
        letS (F37 a1 0 (iSub .i64 (sLen (lAt y3.1 (iSub .i64 (lLen y3.1) 1)).2.2) 1)) fun y4 =>
        sel (bNot y4)
          (some true)
          (sel (oIn (iSub .i64 (lLen y3.1) 1) (lLen y3.1)) (
          bndS (F38 (lAt y3.1 (iSub .i64 (lLen y3.1) 1)).2.2 a1 (sOf [a2])) fun y5 =>
          sel (oIn (iSub .i64 (lLen y3.1) 1) (lLen y3.1)) (
          bndS (F23 ((lSet y3.1 (iSub .i64 (lLen y3.1) 1) ((lAt y3.1 (iSub .i64 (lLen y3.1) 1)).1, ((lAt y3.1 (iSub .i64 (lLen y3.1) 1)).2.1, y5))), y3.2)) fun y6 =>
          bndS (F31 y6) fun y7 =>
          bndS (F34 y7.1) fun y8 =>
          sel (bOr (oCut 0 (pSub y8.1.2.2 y8.1.2.1) (pSub y2.1.2.2 y2.1.2.1)) (bNot (bAnd (bAnd (iEq y7.2.2 0) y8.2) (iLe (pSub y8.1.2.2 y8.1.2.1) (pSub y2.1.2.2 y2.1.2.1))))) (
          sel (bOr (okS (F36 (lCut y8.1.1 y8.1.2.1 y8.1.2.2) (lCut y2.1.1 (pAdd y2.1.2.1 0) (pAdd y2.1.2.1 (pSub y8.1.2.2 y8.1.2.1))))) (bNot (bAnd (bAnd (iEq y7.2.2 0) y8.2) (iLe (pSub y8.1.2.2 y8.1.2.1) (pSub y2.1.2.2 y2.1.2.1))))) (
          letS (valS (F36 (lCut y8.1.1 y8.1.2.1 y8.1.2.2) (lCut y2.1.1 (pAdd y2.1.2.1 0) (pAdd y2.1.2.1 (pSub y8.1.2.2 y8.1.2.1)))) false) fun y9 =>
          some (bAnd (bAnd (bAnd (iEq y7.2.2 0) y8.2) (iLe (pSub y8.1.2.2 y8.1.2.1) (pSub y2.1.2.2 y2.1.2.1))) y9)) none) none) none) none)) none)))
def gF9 : FS := ⟨(.seq (.agg (.dat (.pr (.sl (.pr .str (.pr (.int .i64) .str))) (.int .i64)))) (.seq (.dat (.int .i64)) (.dat (.int .u8)))), 0, (.one ⟨.non, (.dat .bool), 0, 0⟩), fun x => (F9 x.1 x.2.1 x.2.2)⟩
theorem eF9 (x : gF9.a.T) : kF env (GofL [(36, [gF36]), (34, [gF34]), (31, [gF31]), (23, [gF23]), (38, [gF38]), (37, [gF37]), (21, [gF21]), (13, [gF13])]) (LofL [(9, [])]) 9 (gF9.args x) (gF9.bs x) gF9.r.dec = gF9.F x := by kernel_rfl
theorem sF9 : SpecAt env 9 9 gF9 := mkSpec (r := 8) (gl := [(36, [gF36]), (34, [gF34]), (31, [gF31]), (23, [gF23]), (38, [gF38]), (37, [gF37]), (21, [gF21]), (13, [gF13])]) (L0 := []) (by kernel_rfl) ⟨⟨sF36.up (by decide), trivial⟩, ⟨sF34.up (by decide), trivial⟩, ⟨sF31.up (by decide), trivial⟩, ⟨sF23.up (by decide), trivial⟩, ⟨sF38.up (by decide), trivial⟩, ⟨sF37.up (by decide), trivial⟩, ⟨sF21.up (by decide), trivial⟩, ⟨sF13.up (by decide), trivial⟩, trivial⟩ trivial eF9 (fun h => absurd h (by rw [show env.nl 9 = false by kernel_rfl]; decide))
def B40_0 (a0 : Int) (a1 : (List (ByteArray × (Int × ByteArray)))) (a2 : Int) (a3 : (List (ByteArray × (Int × ByteArray)))) (a4 : Int) (a5 : Int) : Option ((Int × (((List (ByteArray × (Int × ByteArray))) × Int) × ((List (ByteArray × (Int × ByteArray))) × (Int × Int)))) ⊕ (Unit ⊕ (ByteArray × Int))) :=
  sel (iLt a5 a4)
    (sel (oIn a5 (lLen a3)) (
    sel (bOr (oIn (iAdd .i64 a5 1) (lLen a1)) (bNot (iLt (iAdd .i64 a5 1) (lLen a1)))) (
    letS (F50 a0 (lAt a3 a5).2.1 (iSub .i64 (sel (iLt (iAdd .i64 a5 1) (lLen a1)) (lAt a1 (iAdd .i64 a5 1)).2.1 a2) 1)) fun y0 =>
    sel y0
      (some (.inr (.inr ((lAt a3 a5).1, 0))))
      (some (.inl (a0, ((a1, a2), (a3, (a4, (iAdd .i64 a5 1)))))))) none) none)
    (some (.inr (.inl ())))
def L40_0 (x : (Int × (((List (ByteArray × (Int × ByteArray))) × Int) × ((List (ByteArray × (Int × ByteArray))) × (Int × Int))))) : Option (Unit ⊕ (ByteArray × Int)) := iter (fun (x : (Int × (((List (ByteArray × (Int × ByteArray))) × Int) × ((List (ByteArray × (Int × ByteArray))) × (Int × Int))))) => (B40_0 x.1 x.2.1.1 x.2.1.2 x.2.2.1 x.2.2.2.1 x.2.2.2.2)) fuel x
def lsL40_0 : LS := ⟨(.one .normal ⟨.non, [1, 2, 20, 21, 22], (.seq (.dat (.int .i64)) (.seq (.box 0 (.seq (.dat (.sl (.pr .str (.pr (.int .i64) .str)))) (.dat (.int .i64)))) (.seq (.dat (.sl (.pr .str (.pr (.int .i64) .str)))) (.seq (.dat (.int .i64)) (.dat (.int .i64)))))), 1, 51, 0⟩), (.two (.one (.exit 0) ⟨.non, [], .non, 0, 51, 0⟩) (.one .ret ⟨.non, [4, 5], (.seq (.dat .str) (.dat (.int .i64))), 0, 51, 0⟩)), fun (x : (Int × (((List (ByteArray × (Int × ByteArray))) × Int) × ((List (ByteArray × (Int × ByteArray))) × (Int × Int))))) => (B40_0 x.1 x.2.1.1 x.2.1.2 x.2.2.1 x.2.2.2.1 x.2.2.2.2)⟩
/-- journal.ReceiverOf -/
def F40 (a0 : ((List (ByteArray × (Int × ByteArray))) × Int)) (a1 : Int) : Option (ByteArray × Int) :=
  bndS (F22 a0) fun y0 =>
  sel (bNot (iEq y0.2 0))
    (some ((bs []), y0.2))
    (bndS (L40_0 (a1, (a0, (a0.1, ((lLen a0.1), 0))))) fun y1 =>
    sumS y1 (fun y1a =>
      some ((bs []), 11)) fun y1b =>
      some y1b)
def gF40 : FS := ⟨(.seq (.agg (.dat (.pr (.sl (.pr .str (.pr (.int .i64) .str))) (.int .i64)))) (.dat (.int .i64))), 0, (.one ⟨.non, (.tup (.seq (.dat .str) (.dat (.int .i64)))), 0, 0⟩), fun x => (F40 x.1 x.2)⟩
theorem rL40_0 (x : lsL40_0.hd.T) : kRound env (GofL [(50, [gF50]), (22, [gF22])]) (LofL [(40, [(0, lsL40_0)])]) 40 0 (lpOf Tryd.prog 40 0).2 (lsL40_0.hd.st x) lsL40_0.rd = lsL40_0.B x := by kernel_rfl
theorem eF40 (x : gF40.a.T) : kF env (GofL [(50, [gF50]), (22, [gF22])]) (LofL [(40, [(0, lsL40_0)])]) 40 (gF40.args x) (gF40.bs x) gF40.r.dec = gF40.F x := by kernel_rfl
theorem sF40 : SpecAt env 7 40 gF40 := mkSpec (r := 6) (gl := [(50, [gF50]), (22, [gF22])]) (L0 := [(0, lsL40_0)]) (by kernel_rfl) ⟨⟨sF50.up (by decide), trivial⟩, ⟨sF22.up (by decide), trivial⟩, trivial⟩ ⟨⟨0, by kernel_rfl, by kernel_rfl, rL40_0⟩, trivial⟩ eF40 (fun h => absurd h (by rw [show env.nl 40 = false by kernel_rfl]; decide))
def B73_0 (a0 : (List (ByteArray × (Int × ByteArray)))) (a1 : Int) (a2 : (List (Int × (Int × (Int × (ByteArray × (Int × (Int × (ByteArray × ByteArray))))))))) (a3 : Int) : Option ((((List (ByteArray × (Int × ByteArray))) × Int) × ((List (Int × (Int × (Int × (ByteArray × (Int × (Int × (ByteArray × ByteArray)))))))) × Int)) ⊕ (List (Int × (Int × (Int × (ByteArray × (Int × (Int × (ByteArray × ByteArray))))))))) :=
  sel (iLt a3 (lLen a0))
    (sel (oIn a3 (lLen a0)) (
    sel (oIn a3 (lLen a0)) (
    bndS (F68 (lAt a0 a3).2.2 (lAt a0 a3).2.1) fun y0 =>
    sel (lCap 88 (lApp a2 y0.1)) (
    some (.inl ((a0, a1), ((lApp a2 y0.1), (iAdd .i64 a3 1))))) none) none) none)
    (some (.inr a2))
def L73_0 (x : (((List (ByteArray × (Int × ByteArray))) × Int) × ((List (Int × (Int × (Int × (ByteArray × (Int × (Int × (ByteArray × ByteArray)))))))) × Int))) : Option (List (Int × (Int × (Int × (ByteArray × (Int × (Int × (ByteArray × ByteArray)))))))) := iter (fun (x : (((List (ByteArray × (Int × ByteArray))) × Int) × ((List (Int × (Int × (Int × (ByteArray × (Int × (Int × (ByteArray × ByteArray)))))))) × Int))) => (B73_0 x.1.1 x.1.2 x.2.1 x.2.2)) fuel x
def lsL73_0 : LS := ⟨(.one .normal ⟨.non, [1, 3, 4], (.seq (.box 0 (.seq (.dat (.sl (.pr .str (.pr (.int .i64) .str)))) (.dat (.int .i64)))) (.seq (.own 1 (.pr (.int .i64) (.pr (.int .i64) (.pr (.int .i64) (.pr .str (.pr (.int .i64) (.pr (.int .i64) (.pr .str .str)))))))) (.dat (.int .i64)))), 2, 34, 0⟩), (.one (.exit 0) ⟨.non, [3], (.own 0 (.pr (.int .i64) (.pr (.int .i64) (.pr (.int .i64) (.pr .str (.pr (.int .i64) (.pr (.int .i64) (.pr .str .str)))))))), 1, 34, 0⟩), fun (x : (((List (ByteArray × (Int × ByteArray))) × Int) × ((List (Int × (Int × (Int × (ByteArray × (Int × (Int × (ByteArray × ByteArray)))))))) × Int))) => (B73_0 x.1.1 x.1.2 x.2.1 x.2.2)⟩
/-- midrangeref32.All -/
def F73 (a0 : ((List (ByteArray × (Int × ByteArray))) × Int)) : Option (List (Int × (Int × (Int × (ByteArray × (Int × (Int × (ByteArray × ByteArray)))))))) :=
  bndS (L73_0 (a0, (([] : List (Int × (Int × (Int × (ByteArray × (Int × (Int × (ByteArray × ByteArray)))))))), 0))) fun y0 =>
  some y0
def gF73 : FS := ⟨(.agg (.dat (.pr (.sl (.pr .str (.pr (.int .i64) .str))) (.int .i64)))), 0, (.one ⟨.non, (.own 0 (.pr (.int .i64) (.pr (.int .i64) (.pr (.int .i64) (.pr .str (.pr (.int .i64) (.pr (.int .i64) (.pr .str .str)))))))), 0, 1⟩), fun x => (F73 x)⟩
theorem rL73_0 (x : lsL73_0.hd.T) : kRound env (GofL [(68, [gF68])]) (LofL [(73, [(0, lsL73_0)])]) 73 0 (lpOf Tryd.prog 73 0).2 (lsL73_0.hd.st x) lsL73_0.rd = lsL73_0.B x := by kernel_rfl
theorem eF73 (x : gF73.a.T) : kF env (GofL [(68, [gF68])]) (LofL [(73, [(0, lsL73_0)])]) 73 (gF73.args x) (gF73.bs x) gF73.r.dec = gF73.F x := by kernel_rfl
theorem sF73 : SpecAt env 6 73 gF73 := mkSpec (r := 5) (gl := [(68, [gF68])]) (L0 := [(0, lsL73_0)]) (by kernel_rfl) ⟨⟨sF68.up (by decide), trivial⟩, trivial⟩ ⟨⟨0, by kernel_rfl, by kernel_rfl, rL73_0⟩, trivial⟩ eF73 (fun h => absurd h (by rw [show env.nl 73 = false by kernel_rfl]; decide))
/-- midrangeref32.Entries -/
def F41 (a0 : ((List (ByteArray × (Int × ByteArray))) × Int)) (a1 : Int) (a2 : Int) : Option ((List (Int × (Int × (Int × (ByteArray × (Int × (Int × (ByteArray × ByteArray))))))) × Int × Int) × Int) :=
  bndS (F70 a0) fun y0 =>
  sel (bNot (iEq y0 0))
    (some ((([] : List (Int × (Int × (Int × (ByteArray × (Int × (Int × (ByteArray × ByteArray)))))))), 0, (lLen ([] : List (Int × (Int × (Int × (ByteArray × (Int × (Int × (ByteArray × ByteArray)))))))))), y0))
    (letS (F37 a1 1 a0.2) fun y1 =>
    letS (F37 a2 (iSub .i64 a1 1) (iSub .i64 a0.2 1)) fun y2 =>
    sel (bOr (bNot y1) (bNot y2))
      (some ((([] : List (Int × (Int × (Int × (ByteArray × (Int × (Int × (ByteArray × ByteArray)))))))), 0, (lLen ([] : List (Int × (Int × (Int × (ByteArray × (Int × (Int × (ByteArray × ByteArray)))))))))), 3))
      (sel (iLt a2 a1)
        (some ((([] : List (Int × (Int × (Int × (ByteArray × (Int × (Int × (ByteArray × ByteArray)))))))), 0, (lLen ([] : List (Int × (Int × (Int × (ByteArray × (Int × (Int × (ByteArray × ByteArray)))))))))), 0))
        (sel (oIn 0 (lLen a0.1)) (
        sel (iLt a1 (lAt a0.1 0).2.1)
          (some ((([] : List (Int × (Int × (Int × (ByteArray × (Int × (Int × (ByteArray × ByteArray)))))))), 0, (lLen ([] : List (Int × (Int × (Int × (ByteArray × (Int × (Int × (ByteArray × ByteArray)))))))))), 11))
          (bndS (F73 a0) fun y3 =>
          sel (oCut (iSub .i64 a1 (lAt a0.1 0).2.1) (iAdd .i64 (iSub .i64 a2 (lAt a0.1 0).2.1) 1) (lLen y3)) (
          some ((y3, (iSub .i64 a1 (lAt a0.1 0).2.1), (iAdd .i64 (iSub .i64 a2 (lAt a0.1 0).2.1) 1)), 0)) none)) none)))
def gF41 : FS := ⟨(.seq (.agg (.dat (.pr (.sl (.pr .str (.pr (.int .i64) .str))) (.int .i64)))) (.seq (.dat (.int .i64)) (.dat (.int .i64)))), 0, (.one ⟨.non, (.tup (.seq (.sub 0 (.pr (.int .i64) (.pr (.int .i64) (.pr (.int .i64) (.pr .str (.pr (.int .i64) (.pr (.int .i64) (.pr .str .str)))))))) (.dat (.int .i64)))), 0, 1⟩), fun x => (F41 x.1 x.2.1 x.2.2)⟩
theorem eF41 (x : gF41.a.T) : kF env (GofL [(73, [gF73]), (37, [gF37]), (70, [gF70])]) (LofL [(41, [])]) 41 (gF41.args x) (gF41.bs x) gF41.r.dec = gF41.F x := by kernel_rfl
theorem sF41 : SpecAt env 8 41 gF41 := mkSpec (r := 7) (gl := [(73, [gF73]), (37, [gF37]), (70, [gF70])]) (L0 := []) (by kernel_rfl) ⟨⟨sF73.up (by decide), trivial⟩, ⟨sF37.up (by decide), trivial⟩, ⟨sF70.up (by decide), trivial⟩, trivial⟩ trivial eF41 (fun h => absurd h (by rw [show env.nl 41 = false by kernel_rfl]; decide))
def B42_0 (a0 : Int) (a1 : (List (ByteArray × (Int × ByteArray)))) (a2 : Int) (a3 : Int) : Option ((Int × (((List (ByteArray × (Int × ByteArray))) × Int) × Int)) ⊕ (Unit ⊕ (ByteArray × Int))) :=
  sel (iLt a3 (lLen a1))
    (sel (oIn a3 (lLen a1)) (
    bndS (F68 (lAt a1 a3).2.2 (lAt a1 a3).2.1) fun y0 =>
    letS (F37 a0 (lAt a1 a3).2.1 (iSub .i64 (iAdd .i64 (lAt a1 a3).2.1 (lLen y0.1)) 1)) fun y1 =>
    sel (bAnd (iLt 0 (lLen y0.1)) y1)
      (some (.inr (.inr ((lAt a1 a3).1, 0))))
      (some (.inl (a0, ((a1, a2), (iAdd .i64 a3 1)))))) none)
    (some (.inr (.inl ())))
def L42_0 (x : (Int × (((List (ByteArray × (Int × ByteArray))) × Int) × Int))) : Option (Unit ⊕ (ByteArray × Int)) := iter (fun (x : (Int × (((List (ByteArray × (Int × ByteArray))) × Int) × Int))) => (B42_0 x.1 x.2.1.1 x.2.1.2 x.2.2)) fuel x
def lsL42_0 : LS := ⟨(.one .normal ⟨.non, [1, 2, 7], (.seq (.dat (.int .i64)) (.seq (.box 0 (.seq (.dat (.sl (.pr .str (.pr (.int .i64) .str)))) (.dat (.int .i64)))) (.dat (.int .i64)))), 1, 53, 0⟩), (.two (.one (.exit 0) ⟨.non, [], .non, 0, 53, 0⟩) (.one .ret ⟨.non, [4, 5], (.seq (.dat .str) (.dat (.int .i64))), 0, 53, 0⟩)), fun (x : (Int × (((List (ByteArray × (Int × ByteArray))) × Int) × Int))) => (B42_0 x.1 x.2.1.1 x.2.1.2 x.2.2)⟩
/-- midrangeref32.ReceiverOf -/
def F42 (a0 : ((List (ByteArray × (Int × ByteArray))) × Int)) (a1 : Int) : Option (ByteArray × Int) :=
  bndS (F70 a0) fun y0 =>
  sel (bNot (iEq y0 0))
    (some ((bs []), y0))
    (bndS (L42_0 (a1, (a0, 0))) fun y1 =>
    sumS y1 (fun y1a =>
      some ((bs []), 11)) fun y1b =>
      some y1b)
def gF42 : FS := ⟨(.seq (.agg (.dat (.pr (.sl (.pr .str (.pr (.int .i64) .str))) (.int .i64)))) (.dat (.int .i64))), 0, (.one ⟨.non, (.tup (.seq (.dat .str) (.dat (.int .i64)))), 0, 0⟩), fun x => (F42 x.1 x.2)⟩
theorem rL42_0 (x : lsL42_0.hd.T) : kRound env (GofL [(37, [gF37]), (68, [gF68]), (70, [gF70])]) (LofL [(42, [(0, lsL42_0)])]) 42 0 (lpOf Tryd.prog 42 0).2 (lsL42_0.hd.st x) lsL42_0.rd = lsL42_0.B x := by kernel_rfl
theorem eF42 (x : gF42.a.T) : kF env (GofL [(37, [gF37]), (68, [gF68]), (70, [gF70])]) (LofL [(42, [(0, lsL42_0)])]) 42 (gF42.args x) (gF42.bs x) gF42.r.dec = gF42.F x := by kernel_rfl
theorem sF42 : SpecAt env 8 42 gF42 := mkSpec (r := 7) (gl := [(37, [gF37]), (68, [gF68]), (70, [gF70])]) (L0 := [(0, lsL42_0)]) (by kernel_rfl) ⟨⟨sF37.up (by decide), trivial⟩, ⟨sF68.up (by decide), trivial⟩, ⟨sF70.up (by decide), trivial⟩, trivial⟩ ⟨⟨0, by kernel_rfl, by kernel_rfl, rL42_0⟩, trivial⟩ eF42 (fun h => absurd h (by rw [show env.nl 42 = false by kernel_rfl]; decide))
/-- midrangelaw32.JournalAsks -/
def F10 (a0 : ((List (ByteArray × (Int × ByteArray))) × Int)) (a1 : Int) (a2 : Int) : Option Bool :=
  bndS (F13) fun y0 =>
  sel (bNot y0)
    (some false)
    (bndS (F21 a0) fun y1 =>
    sel (bNot y1)
      (some true)
      (bndS (F23 a0) fun y2 =>
      bndS (F39 y2 a1 a2) fun y3 =>
      bndS (F23 a0) fun y4 =>
      bndS (F40 y4 a1) fun y5 =>
      bndS (F41 a0 a1 a2) fun y6 =>
      bndS (F42 a0 a1) fun y7 =>
      sel (bOr (okS (F36 (lCut y3.1.1 y3.1.2.1 y3.1.2.2) (lCut y6.1.1 y6.1.2.1 y6.1.2.2))) (bNot (iEq y3.2 y6.2))) (
      letS (valS (F36 (lCut y3.1.1 y3.1.2.1 y3.1.2.2) (lCut y6.1.1 y6.1.2.1 y6.1.2.2)) false) fun y8 =>
      some (bAnd (bAnd (bAnd (iEq y3.2 y6.2) y8) (iEq y5.2 y7.2)) (sEq y5.1 y7.1))) none))
def gF10 : FS := ⟨(.seq (.agg (.dat (.pr (.sl (.pr .str (.pr (.int .i64) .str))) (.int .i64)))) (.seq (.dat (.int .i64)) (.dat (.int .i64)))), 0, (.one ⟨.non, (.dat .bool), 0, 0⟩), fun x => (F10 x.1 x.2.1 x.2.2)⟩
theorem eF10 (x : gF10.a.T) : kF env (GofL [(36, [gF36]), (42, [gF42]), (41, [gF41]), (40, [gF40]), (23, [gF23]), (39, [gF39]), (21, [gF21]), (13, [gF13])]) (LofL [(10, [])]) 10 (gF10.args x) (gF10.bs x) gF10.r.dec = gF10.F x := by kernel_rfl
theorem sF10 : SpecAt env 9 10 gF10 := mkSpec (r := 8) (gl := [(36, [gF36]), (42, [gF42]), (41, [gF41]), (40, [gF40]), (23, [gF23]), (39, [gF39]), (21, [gF21]), (13, [gF13])]) (L0 := []) (by kernel_rfl) ⟨⟨sF36.up (by decide), trivial⟩, ⟨sF42.up (by decide), trivial⟩, ⟨sF41.up (by decide), trivial⟩, ⟨sF40.up (by decide), trivial⟩, ⟨sF23.up (by decide), trivial⟩, ⟨sF39.up (by decide), trivial⟩, ⟨sF21.up (by decide), trivial⟩, ⟨sF13.up (by decide), trivial⟩, trivial⟩ trivial eF10 (fun h => absurd h (by rw [show env.nl 10 = false by kernel_rfl]; decide))
/-- journal.at$1 -/
def F88 (a0 : (ByteArray × (Int × ByteArray))) (a1 : ByteArray) : (ByteArray × Bool) :=
  (a1, (sEq a0.1 a1))
def gF88 : FS := ⟨(.seq (.agg (.dat (.pr .str (.pr (.int .i64) .str)))) (.box 0 (.dat .str))), 1, (.one ⟨(.box 0 (.dat .str)), (.dat .bool), 1, 0⟩), fun x => some (F88 x.1 x.2)⟩
theorem eF88 (x : gF88.a.T) : kF env (GofL []) (LofL [(88, [])]) 88 (gF88.args x) (gF88.bs x) gF88.r.dec = gF88.F x := by kernel_rfl
theorem sF88 : SpecAt env 1 88 gF88 := mkSpec (r := 0) (gl := []) (L0 := []) (by kernel_rfl) trivial trivial eF88 (fun h => absurd h (by rw [show env.nl 88 = false by kernel_rfl]; decide))
def B87_0_1 (a0 : ByteArray) (a1 : (List (ByteArray × (Int × ByteArray)))) (a2 : Int) (a3 : Int) : Option ((ByteArray × ((List (ByteArray × (Int × ByteArray))) × (Int × Int))) ⊕ (ByteArray ⊕ (ByteArray × Int))) :=
  sel (iLt a3 a2)
    (sel (oIn a3 (lLen a1)) (
    letS (F88 (lAt a1 a3) a0) fun y0 =>
    sel y0.2
      (some (.inr (.inr (y0.1, a3))))
      (some (.inl (y0.1, (a1, (a2, (iAdd .i64 a3 1))))))) none)
    (some (.inr (.inl a0)))
def L87_0_1 (x : (ByteArray × ((List (ByteArray × (Int × ByteArray))) × (Int × Int)))) : Option (ByteArray ⊕ (ByteArray × Int)) := iter (fun (x : (ByteArray × ((List (ByteArray × (Int × ByteArray))) × (Int × Int)))) => (B87_0_1 x.1 x.2.1 x.2.2.1 x.2.2.2)) fuel x
def lsL87_0_1 : LS := ⟨(.one .normal ⟨(.box 0 (.dat .str)), [0, 1, 7, 8], (.seq (.dat (.sl (.pr .str (.pr (.int .i64) .str)))) (.seq (.fn 88 (.ptr 0 1 0)) (.seq (.dat (.int .i64)) (.dat (.int .i64))))), 1, 19, 1⟩), (.two (.one (.exit 0) ⟨(.box 0 (.dat .str)), [], .non, 1, 19, 1⟩) (.one .ret ⟨(.box 0 (.dat .str)), [4], (.dat (.int .i64)), 1, 19, 1⟩)), fun (x : (ByteArray × ((List (ByteArray × (Int × ByteArray))) × (Int × Int)))) => (B87_0_1 x.1 x.2.1 x.2.2.1 x.2.2.2)⟩
/-- slices.IndexFunc[[]api.Receiver,api.Receiver] -/
def F87_1 (a0 : (List (ByteArray × (Int × ByteArray)))) (a1 : ByteArray) : Option (ByteArray × Int) :=
  bndS (L87_0_1 (a1, (a0, ((lLen a0), 0)))) fun y0 =>
  sumS y0 (fun y0a =>
    some (y0a, (-1))) fun y0b =>
    some y0b
def gF87_1 : FS := ⟨(.seq (.dat (.sl (.pr .str (.pr (.int .i64) .str)))) (.fn 88 (.box 0 (.dat .str)))), 1, (.one ⟨(.box 0 (.dat .str)), (.dat (.int .i64)), 1, 0⟩), fun x => (F87_1 x.1 x.2)⟩
theorem rL87_0_1 (x : lsL87_0_1.hd.T) : kRound env (GofL [(88, [gF88])]) (LofL [(87, [(0, lsL87_0_1)])]) 87 0 (lpOf Tryd.prog 87 0).2 (lsL87_0_1.hd.st x) lsL87_0_1.rd = lsL87_0_1.B x := by kernel_rfl
theorem eF87_1 (x : gF87_1.a.T) : kF env (GofL [(88, [gF88])]) (LofL [(87, [(0, lsL87_0_1)])]) 87 (gF87_1.args x) (gF87_1.bs x) gF87_1.r.dec = gF87_1.F x := by kernel_rfl
theorem sF87_1 : SpecAt env 2 87 gF87_1 := mkSpec (r := 1) (gl := [(88, [gF88])]) (L0 := [(0, lsL87_0_1)]) (by kernel_rfl) ⟨⟨sF88.up (by decide), trivial⟩, trivial⟩ ⟨⟨0, by kernel_rfl, by kernel_rfl, rL87_0_1⟩, trivial⟩ eF87_1 (fun h => absurd h (by rw [show env.nl 87 = false by kernel_rfl]; decide))
/-- journal.at -/
def F74 (a0 : ((List (ByteArray × (Int × ByteArray))) × Int)) (a1 : ByteArray) : Option Int :=
  bndS (F87_1 a0.1 a1) fun y0 =>
  some y0.2
def gF74 : FS := ⟨(.seq (.agg (.dat (.pr (.sl (.pr .str (.pr (.int .i64) .str))) (.int .i64)))) (.dat .str)), 0, (.one ⟨.non, (.dat (.int .i64)), 0, 0⟩), fun x => (F74 x.1 x.2)⟩
theorem eF74 (x : gF74.a.T) : kF env (GofL [(87, [gF87_1])]) (LofL [(74, [])]) 74 (gF74.args x) (gF74.bs x) gF74.r.dec = gF74.F x := by kernel_rfl
theorem sF74 : SpecAt env 3 74 gF74 := mkSpec (r := 2) (gl := [(87, [gF87_1])]) (L0 := []) (by kernel_rfl) ⟨⟨sF87_1.up (by decide), trivial⟩, trivial⟩ trivial eF74 (fun h => absurd h (by rw [show env.nl 74 = false by kernel_rfl]; decide))
/-- journal.Attached -/
def F44 (a0 : ((List (ByteArray × (Int × ByteArray))) × Int)) (a1 : ByteArray) : Option (((List (ByteArray × (Int × ByteArray))) × Int) × Int) :=
  bndS (F22 a0) fun y0 =>
  sel (bNot (iEq y0.2 0))
    (some ((([] : List (ByteArray × (Int × ByteArray))), 0), y0.2))
    (bndS (F51 a1) fun y1 =>
    sel (bNot y1)
      (some ((([] : List (ByteArray × (Int × ByteArray))), 0), 7))
      (bndS (F74 a0 a1) fun y2 =>
      sel (iLe 0 y2)
        (some ((([] : List (ByteArray × (Int × ByteArray))), 0), 12))
        (sel (iEq (lLen a0.1) 6)
          (some ((([] : List (ByteArray × (Int × ByteArray))), 0), 30))
          (bndS (F69 a0) fun y3 =>
          sel (lCap 40 (lApp y3.1 [(a1, (a0.2, (bs [])))])) (
          some (((lApp y3.1 [(a1, (a0.2, (bs [])))]), y3.2), 0)) none))))
def gF44 : FS := ⟨(.seq (.agg (.dat (.pr (.sl (.pr .str (.pr (.int .i64) .str))) (.int .i64)))) (.dat .str)), 0, (.one ⟨.non, (.tup (.seq (.agg (.seq (.own 0 (.pr .str (.pr (.int .i64) .str))) (.dat (.int .i64)))) (.dat (.int .i64)))), 0, 1⟩), fun x => (F44 x.1 x.2)⟩
theorem eF44 (x : gF44.a.T) : kF env (GofL [(69, [gF69]), (74, [gF74]), (51, [gF51]), (22, [gF22])]) (LofL [(44, [])]) 44 (gF44.args x) (gF44.bs x) gF44.r.dec = gF44.F x := by kernel_rfl
theorem sF44 : SpecAt env 7 44 gF44 := mkSpec (r := 6) (gl := [(69, [gF69]), (74, [gF74]), (51, [gF51]), (22, [gF22])]) (L0 := []) (by kernel_rfl) ⟨⟨sF69.up (by decide), trivial⟩, ⟨sF74.up (by decide), trivial⟩, ⟨sF51.up (by decide), trivial⟩, ⟨sF22.up (by decide), trivial⟩, trivial⟩ trivial eF44 (fun h => absurd h (by rw [show env.nl 44 = false by kernel_rfl]; decide))
/-- journal.Deleted -/
def F45 (a0 : ((List (ByteArray × (Int × ByteArray))) × Int)) (a1 : ByteArray) : Option (((List (ByteArray × (Int × ByteArray)) × Int × Int) × Int) × Int) :=
  bndS (F22 a0) fun y0 =>
  sel (bNot (iEq y0.2 0))
    (some (((([] : List (ByteArray × (Int × ByteArray))), 0, (lLen ([] : List (ByteArray × (Int × ByteArray))))), 0), y0.2))
    (bndS (F74 a0 a1) fun y1 =>
    sel (iLt y1 0)
      (some (((([] : List (ByteArray × (Int × ByteArray))), 0, (lLen ([] : List (ByteArray × (Int × ByteArray))))), 0), 11))
      (sel (iEq y1 (iSub .i64 (lLen a0.1) 1))
        (some (((([] : List (ByteArray × (Int × ByteArray))), 0, (lLen ([] : List (ByteArray × (Int × ByteArray))))), 0), 26))
        (sel (iLt 0 y1)
          (some (((([] : List (ByteArray × (Int × ByteArray))), 0, (lLen ([] : List (ByteArray × (Int × ByteArray))))), 0), 14))
          (bndS (F69 a0) fun y2 =>
          sel (oCut 1 (lLen y2.1) (lLen y2.1)) (
          some (((y2.1, 1, (lLen y2.1)), y2.2), 0)) none))))
def gF45 : FS := ⟨(.seq (.agg (.dat (.pr (.sl (.pr .str (.pr (.int .i64) .str))) (.int .i64)))) (.dat .str)), 0, (.one ⟨.non, (.tup (.seq (.agg (.seq (.sub 0 (.pr .str (.pr (.int .i64) .str))) (.dat (.int .i64)))) (.dat (.int .i64)))), 0, 1⟩), fun x => (F45 x.1 x.2)⟩
theorem eF45 (x : gF45.a.T) : kF env (GofL [(69, [gF69]), (74, [gF74]), (22, [gF22])]) (LofL [(45, [])]) 45 (gF45.args x) (gF45.bs x) gF45.r.dec = gF45.F x := by kernel_rfl
theorem sF45 : SpecAt env 7 45 gF45 := mkSpec (r := 6) (gl := [(69, [gF69]), (74, [gF74]), (22, [gF22])]) (L0 := []) (by kernel_rfl) ⟨⟨sF69.up (by decide), trivial⟩, ⟨sF74.up (by decide), trivial⟩, ⟨sF22.up (by decide), trivial⟩, trivial⟩ trivial eF45 (fun h => absurd h (by rw [show env.nl 45 = false by kernel_rfl]; decide))
/-- midrangeref32.New -/
def F46 (a0 : ByteArray) : Option ((List (ByteArray × (Int × ByteArray))) × (Int × (Int × Int))) :=
  bndS (F55 a0) fun y0 =>
  sel (bNot y0)
    (some (([] : List (ByteArray × (Int × ByteArray))), (0, (0, 7))))
    (some ([(a0, (1, (bs [])))], (1, (0, 0))))
def gF46 : FS := ⟨(.dat .str), 0, (.one ⟨.non, (.agg (.seq (.own 0 (.pr .str (.pr (.int .i64) .str))) (.seq (.dat (.int .i64)) (.seq (.dat (.int .i64)) (.dat (.int .i64)))))), 0, 1⟩), fun x => (F46 x)⟩
theorem eF46 (x : gF46.a.T) : kF env (GofL [(55, [gF55])]) (LofL [(46, [])]) 46 (gF46.args x) (gF46.bs x) gF46.r.dec = gF46.F x := by kernel_rfl
theorem sF46 : SpecAt env 3 46 gF46 := mkSpec (r := 2) (gl := [(55, [gF55])]) (L0 := []) (by kernel_rfl) ⟨⟨sF55.up (by decide), trivial⟩, trivial⟩ trivial eF46 (fun h => absurd h (by rw [show env.nl 46 = false by kernel_rfl]; decide))
def B75_0 (a0 : ByteArray) (a1 : (List (ByteArray × (Int × ByteArray)))) (a2 : Int) (a3 : Int) : Option ((ByteArray × (((List (ByteArray × (Int × ByteArray))) × Int) × Int)) ⊕ (Unit ⊕ Int)) :=
  sel (iLt a3 (lLen a1))
    (sel (oIn a3 (lLen a1)) (
    sel (sEq (lAt a1 a3).1 a0)
      (some (.inr (.inr a3)))
      (some (.inl (a0, ((a1, a2), (iAdd .i64 a3 1)))))) none)
    (some (.inr (.inl ())))
def L75_0 (x : (ByteArray × (((List (ByteArray × (Int × ByteArray))) × Int) × Int))) : Option (Unit ⊕ Int) := iter (fun (x : (ByteArray × (((List (ByteArray × (Int × ByteArray))) × Int) × Int))) => (B75_0 x.1 x.2.1.1 x.2.1.2 x.2.2)) fuel x
def lsL75_0 : LS := ⟨(.one .normal ⟨.non, [1, 2, 5], (.seq (.dat .str) (.seq (.box 0 (.seq (.dat (.sl (.pr .str (.pr (.int .i64) .str)))) (.dat (.int .i64)))) (.dat (.int .i64)))), 1, 22, 0⟩), (.two (.one (.exit 0) ⟨.non, [], .non, 0, 22, 0⟩) (.one .ret ⟨.non, [4], (.dat (.int .i64)), 0, 22, 0⟩)), fun (x : (ByteArray × (((List (ByteArray × (Int × ByteArray))) × Int) × Int))) => (B75_0 x.1 x.2.1.1 x.2.1.2 x.2.2)⟩
/-- midrangeref32.place -/
def F75 (a0 : ((List (ByteArray × (Int × ByteArray))) × Int)) (a1 : ByteArray) : Option Int :=
  bndS (L75_0 (a1, (a0, 0))) fun y0 =>
  sumS y0 (fun y0a =>
    some (-1)) fun y0b =>
    some y0b
def gF75 : FS := ⟨(.seq (.agg (.dat (.pr (.sl (.pr .str (.pr (.int .i64) .str))) (.int .i64)))) (.dat .str)), 0, (.one ⟨.non, (.dat (.int .i64)), 0, 0⟩), fun x => (F75 x.1 x.2)⟩
theorem rL75_0 (x : lsL75_0.hd.T) : kRound env (GofL []) (LofL [(75, [(0, lsL75_0)])]) 75 0 (lpOf Tryd.prog 75 0).2 (lsL75_0.hd.st x) lsL75_0.rd = lsL75_0.B x := by kernel_rfl
theorem eF75 (x : gF75.a.T) : kF env (GofL []) (LofL [(75, [(0, lsL75_0)])]) 75 (gF75.args x) (gF75.bs x) gF75.r.dec = gF75.F x := by kernel_rfl
theorem sF75 : SpecAt env 1 75 gF75 := mkSpec (r := 0) (gl := []) (L0 := [(0, lsL75_0)]) (by kernel_rfl) trivial ⟨⟨0, by kernel_rfl, by kernel_rfl, rL75_0⟩, trivial⟩ eF75 (fun h => absurd h (by rw [show env.nl 75 = false by kernel_rfl]; decide))
/-- midrangeref32.Attached -/
def F47 (a0 : ((List (ByteArray × (Int × ByteArray))) × Int)) (a1 : ByteArray) : Option ((List (ByteArray × (Int × ByteArray))) × (Int × (Int × Int))) :=
  bndS (F70 a0) fun y0 =>
  sel (bNot (iEq y0 0))
    (some (([] : List (ByteArray × (Int × ByteArray))), (0, (0, y0))))
    (bndS (F55 a1) fun y1 =>
    sel (bNot y1)
      (some (([] : List (ByteArray × (Int × ByteArray))), (0, (0, 7))))
      (bndS (F75 a0 a1) fun y2 =>
      sel (bNot (iEq y2 (-1)))
        (some (([] : List (ByteArray × (Int × ByteArray))), (0, (0, 12))))
        (sel (iEq (lLen a0.1) 6)
          (some (([] : List (ByteArray × (Int × ByteArray))), (0, (0, 30))))
          (bndS (F23 a0) fun y3 =>
          sel (lCap 40 (lApp y3.1 [(a1, (a0.2, (bs [])))])) (
          some ((lApp y3.1 [(a1, (a0.2, (bs [])))]), (y3.2, (0, 0)))) none))))
def gF47 : FS := ⟨(.seq (.agg (.dat (.pr (.sl (.pr .str (.pr (.int .i64) .str))) (.int .i64)))) (.dat .str)), 0, (.one ⟨.non, (.agg (.seq (.own 0 (.pr .str (.pr (.int .i64) .str))) (.seq (.dat (.int .i64)) (.seq (.dat (.int .i64)) (.dat (.int .i64)))))), 0, 1⟩), fun x => (F47 x.1 x.2)⟩
theorem eF47 (x : gF47.a.T) : kF env (GofL [(23, [gF23]), (75, [gF75]), (55, [gF55]), (70, [gF70])]) (LofL [(47, [])]) 47 (gF47.args x) (gF47.bs x) gF47.r.dec = gF47.F x := by kernel_rfl
theorem sF47 : SpecAt env 8 47 gF47 := mkSpec (r := 7) (gl := [(23, [gF23]), (75, [gF75]), (55, [gF55]), (70, [gF70])]) (L0 := []) (by kernel_rfl) ⟨⟨sF23.up (by decide), trivial⟩, ⟨sF75.up (by decide), trivial⟩, ⟨sF55.up (by decide), trivial⟩, ⟨sF70.up (by decide), trivial⟩, trivial⟩ trivial eF47 (fun h => absurd h (by rw [show env.nl 47 = false by kernel_rfl]; decide))
end
end Go.Proofs.YtdnfnjaccbgplaaDoor.K
end

section
set_option linter.unusedVariables false
set_option linter.unusedSimpArgs false
set_option linter.unnecessarySimpa false
open Go Go.Ev Go.Proofs
namespace Go.Proofs.YtdnfnjaccbgplaaDoor.K
set_option linter.unusedVariables false
set_option maxRecDepth 100000
noncomputable section
/-- midrangeref32.Deleted -/
def F48 (a0 : ((List (ByteArray × (Int × ByteArray))) × Int)) (a1 : ByteArray) : Option ((List (ByteArray × (Int × ByteArray)) × Int × Int) × (Int × (Int × Int))) :=
  bndS (F70 a0) fun y0 =>
  sel (bNot (iEq y0 0))
    (some ((([] : List (ByteArray × (Int × ByteArray))), 0, (lLen ([] : List (ByteArray × (Int × ByteArray))))), (0, (0, y0))))
    (bndS (F75 a0 a1) fun y1 =>
    sel (iEq y1 (-1))
      (some ((([] : List (ByteArray × (Int × ByteArray))), 0, (lLen ([] : List (ByteArray × (Int × ByteArray))))), (0, (0, 11))))
      (sel (iEq y1 (iSub .i64 (lLen a0.1) 1))
        (some ((([] : List (ByteArray × (Int × ByteArray))), 0, (lLen ([] : List (ByteArray × (Int × ByteArray))))), (0, (0, 26))))
        (sel (iLt 0 y1)
          (some ((([] : List (ByteArray × (Int × ByteArray))), 0, (lLen ([] : List (ByteArray × (Int × ByteArray))))), (0, (0, 14))))
          (bndS (F23 a0) fun y2 =>
          sel (oCut 1 (lLen y2.1) (lLen y2.1)) (
          some ((y2.1, 1, (lLen y2.1)), (y2.2, (0, 0)))) none))))
def gF48 : FS := ⟨(.seq (.agg (.dat (.pr (.sl (.pr .str (.pr (.int .i64) .str))) (.int .i64)))) (.dat .str)), 0, (.one ⟨.non, (.agg (.seq (.sub 0 (.pr .str (.pr (.int .i64) .str))) (.seq (.dat (.int .i64)) (.seq (.dat (.int .i64)) (.dat (.int .i64)))))), 0, 1⟩), fun x => (F48 x.1 x.2)⟩
theorem eF48 (x : gF48.a.T) : kF env (GofL [(23, [gF23]), (75, [gF75]), (70, [gF70])]) (LofL [(48, [])]) 48 (gF48.args x) (gF48.bs x) gF48.r.dec = gF48.F x := by kernel_rfl
theorem sF48 : SpecAt env 8 48 gF48 := mkSpec (r := 7) (gl := [(23, [gF23]), (75, [gF75]), (70, [gF70])]) (L0 := []) (by kernel_rfl) ⟨⟨sF23.up (by decide), trivial⟩, ⟨sF75.up (by decide), trivial⟩, ⟨sF70.up (by decide), trivial⟩, trivial⟩ trivial eF48 (fun h => absurd h (by rw [show env.nl 48 = false by kernel_rfl]; decide))
/-- midrangelaw32.JournalReceivers -/
def F11 (a0 : ((List (ByteArray × (Int × ByteArray))) × Int)) (a1 : ByteArray) : Option Bool :=
  bndS (F13) fun y0 =>
  sel (bNot y0)
    (some false)
    (bndS (F21 a0) fun y1 =>
    sel (bOr (bNot y1) (iLt 30 (sLen a1)))
      (some true)
      (bndS (F43 a1) fun y2 =>
      bndS (F23 a0) fun y3 =>
      bndS (F44 y3 a1) fun y4 =>
      bndS (F23 a0) fun y5 =>
      bndS (F45 y5 a1) fun y6 =>
      bndS (F46 a1) fun y7 =>
      bndS (F29 y2.1 y2.2 ((y7.1, y7.2.1), y7.2.2)) fun y8 =>
      sel y8
        (bndS (F47 a0 a1) fun y9 =>
        bndS (F29 y4.1 y4.2 ((y9.1, y9.2.1), y9.2.2)) fun y10 =>
        sel y10
          (bndS (F48 a0 a1) fun y11 =>
          bndS (F29 ((lCut y6.1.1.1 y6.1.1.2.1 y6.1.1.2.2), y6.1.2) y6.2 (((lCut y11.1.1 y11.1.2.1 y11.1.2.2), y11.2.1), y11.2.2)) fun y12 =>
          some y12)
          (some false))
        (some false)))
def gF11 : FS := ⟨(.seq (.agg (.dat (.pr (.sl (.pr .str (.pr (.int .i64) .str))) (.int .i64)))) (.dat .str)), 0, (.one ⟨.non, (.dat .bool), 0, 0⟩), fun x => (F11 x.1 x.2)⟩
theorem eF11 (x : gF11.a.T) : kF env (GofL [(29, [gF29]), (48, [gF48]), (47, [gF47]), (46, [gF46]), (45, [gF45]), (23, [gF23]), (44, [gF44]), (43, [gF43]), (21, [gF21]), (13, [gF13])]) (LofL [(11, [])]) 11 (gF11.args x) (gF11.bs x) gF11.r.dec = gF11.F x := by kernel_rfl
theorem sF11 : SpecAt env 9 11 gF11 := mkSpec (r := 8) (gl := [(29, [gF29]), (48, [gF48]), (47, [gF47]), (46, [gF46]), (45, [gF45]), (23, [gF23]), (44, [gF44]), (43, [gF43]), (21, [gF21]), (13, [gF13])]) (L0 := []) (by kernel_rfl) ⟨⟨sF29.up (by decide), trivial⟩, ⟨sF48.up (by decide), trivial⟩, ⟨sF47.up (by decide), trivial⟩, ⟨sF46.up (by decide), trivial⟩, ⟨sF45.up (by decide), trivial⟩, ⟨sF23.up (by decide), trivial⟩, ⟨sF44.up (by decide), trivial⟩, ⟨sF43.up (by decide), trivial⟩, ⟨sF21.up (by decide), trivial⟩, ⟨sF13.up (by decide), trivial⟩, trivial⟩ trivial eF11 (fun h => absurd h (by rw [show env.nl 11 = false by kernel_rfl]; decide))
/-- midrangebase.Digits -/
def F49 (a0 : Int) : Option ByteArray :=
  sel (iLt a0 (-9))
    (sel (oNz 10) (
    none) none)
    (sel (iLt a0 0)
      (none)
      (sel (iLt a0 10)
        (some (sOf [(iCv .u8 (iAdd .i64 48 a0))]))
        (sel (oNz 10) (
        none) none)))
def gF49 : FS := ⟨(.dat (.int .i64)), 0, (.one ⟨.non, (.dat .str), 0, 0⟩), fun x => (F49 x)⟩
theorem eF49 (x : gF49.a.T) : kF env (GofL []) (LofL [(49, [])]) 49 (gF49.args x) (gF49.bs x) gF49.r.dec = gF49.F x := by kernel_rfl
theorem sF49 : SpecAt env 1 49 gF49 := mkSpec (r := 0) (gl := []) (L0 := []) (by kernel_rfl) trivial trivial eF49 (fun h => absurd h (by rw [show env.nl 49 = false by kernel_rfl]; decide))
def B12_0 (a0 : (List (Int × (Int × (Int × (ByteArray × (Int × (Int × (ByteArray × ByteArray))))))))) (a1 : Int) (a2 : (List (ByteArray × (Int × ByteArray)))) (a3 : Int) (a4 : (List (Int × (Int × (Int × (ByteArray × (Int × (Int × (ByteArray × ByteArray))))))))) (a5 : Int) : Option (((List (Int × (Int × (Int × (ByteArray × (Int × (Int × (ByteArray × ByteArray)))))))) × (Int × (((List (ByteArray × (Int × ByteArray))) × Int) × ((List (Int × (Int × (Int × (ByteArray × (Int × (Int × (ByteArray × ByteArray)))))))) × Int)))) ⊕ ((((List (ByteArray × (Int × ByteArray))) × Int) × (List (Int × (Int × (Int × (ByteArray × (Int × (Int × (ByteArray × ByteArray))))))))) ⊕ Bool)) :=
  sel (iLt a5 (lLen a0))
    (sel (oIn a5 (lLen a0)) (
    bndS (F23 (a2, a3)) fun y0 =>
    bndS (F26 y0 [(0, (lAt a0 a5).2)]) fun y1 =>
    sel (bAnd (iEq y1.2.2 30) (iLt 0 a1))
      (bndS (F49 (iSub .i64 a1 1)) fun y4 =>
      sel (sOk (bs [82]) y4) (
      bndS (F44 (a2, a3) (sAdd (bs [82]) y4)) fun y5 =>
      sel (bNot (iEq y5.2 0))
        (some (.inr (.inr false)))
        (bndS (F23 y5.1) fun y6 =>
        bndS (F26 y6 [(0, (lAt a0 a5).2)]) fun y7 =>
        sel (bNot (iEq y7.2.2 0))
          (some (.inl (a0, ((iSub .i64 a1 1), (y5.1, (a4, (iAdd .i64 a5 1)))))))
          (bndS (F16 (y5.1.2, (lAt a0 a5).2)) fun y8 =>
          sel (sOk (bs [97]) y8.1) (
          bndS (F19 (sAdd (bs [97]) y8.1) 1) fun y9 =>
          sel (bOr (bOr (bOr (bOr (bNot (iEq y7.2.1 1)) (bNot (iEq y8.2 0))) (bNot (iEq y9.2.2 0))) (bNot (bAnd (iEq y9.1.1 y5.1.2) (bAnd (iEq y9.1.2.1 (lAt a0 a5).2.1) (bAnd (iEq y9.1.2.2.1 (lAt a0 a5).2.2.1) (bAnd (sEq y9.1.2.2.2.1 (lAt a0 a5).2.2.2.1) (bAnd (iEq y9.1.2.2.2.2.1 (lAt a0 a5).2.2.2.2.1) (bAnd (iEq y9.1.2.2.2.2.2.1 (lAt a0 a5).2.2.2.2.2.1) (bAnd (sEq y9.1.2.2.2.2.2.2.1 (lAt a0 a5).2.2.2.2.2.2.1) (sEq y9.1.2.2.2.2.2.2.2 (lAt a0 a5).2.2.2.2.2.2.2)))))))))) (bNot (iEq y9.2.1 (iAdd .i64 1 (sLen y8.1)))))
            (some (.inr (.inr false)))
            (sel (lCap 88 (lApp a4 [(y5.1.2, (lAt a0 a5).2)])) (
            some (.inl (a0, ((iSub .i64 a1 1), (y7.1, ((lApp a4 [(y5.1.2, (lAt a0 a5).2)]), (iAdd .i64 a5 1))))))) none)) none))) none)
      (sel (bNot (iEq y1.2.2 0))
        (some (.inl (a0, (a1, ((a2, a3), (a4, (iAdd .i64 a5 1)))))))
        (bndS (F16 (a3, (lAt a0 a5).2)) fun y2 =>
        sel (sOk (bs [97]) y2.1) (
        bndS (F19 (sAdd (bs [97]) y2.1) 1) fun y3 =>
        sel (bOr (bOr (bOr (bOr (bNot (iEq y1.2.1 1)) (bNot (iEq y2.2 0))) (bNot (iEq y3.2.2 0))) (bNot (bAnd (iEq y3.1.1 a3) (bAnd (iEq y3.1.2.1 (lAt a0 a5).2.1) (bAnd (iEq y3.1.2.2.1 (lAt a0 a5).2.2.1) (bAnd (sEq y3.1.2.2.2.1 (lAt a0 a5).2.2.2.1) (bAnd (iEq y3.1.2.2.2.2.1 (lAt a0 a5).2.2.2.2.1) (bAnd (iEq y3.1.2.2.2.2.2.1 (lAt a0 a5).2.2.2.2.2.1) (bAnd (sEq y3.1.2.2.2.2.2.2.1 (lAt a0 a5).2.2.2.2.2.2.1) (sEq y3.1.2.2.2.2.2.2.2 (lAt a0 a5).2.2.2.2.2.2.2)))))))))) (bNot (iEq y3.2.1 (iAdd .i64 1 (sLen y2.1)))))
          (some (.inr (.inr false)))
          (sel (lCap 88 (lApp a4 [(a3, (lAt a0 a5).2)])) (
          some (.inl (a0, (a1, (y1.1, ((lApp a4 [(a3, (lAt a0 a5).2)]), (iAdd .i64 a5 1))))))) none)) none))) none)
    (some (.inr (.inl ((a2, a3), a4))))
def L12_0 (x : ((List (Int × (Int × (Int × (ByteArray × (Int × (Int × (ByteArray × ByteArray)))))))) × (Int × (((List (ByteArray × (Int × ByteArray))) × Int) × ((List (Int × (Int × (Int × (ByteArray × (Int × (Int × (ByteArray × ByteArray)))))))) × Int))))) : Option ((((List (ByteArray × (Int × ByteArray))) × Int) × (List (Int × (Int × (Int × (ByteArray × (Int × (Int × (ByteArray × ByteArray))))))))) ⊕ Bool) := iter (fun (x : ((List (Int × (Int × (Int × (ByteArray × (Int × (Int × (ByteArray × ByteArray)))))))) × (Int × (((List (ByteArray × (Int × ByteArray))) × Int) × ((List (Int × (Int × (Int × (ByteArray × (Int × (Int × (ByteArray × ByteArray)))))))) × Int))))) => (B12_0 x.1 x.2.1 x.2.2.1.1 x.2.2.1.2 x.2.2.2.1 x.2.2.2.2)) fuel x
def lsL12_0 : LS := ⟨(.one .normal ⟨.non, [0, 1, 5, 7, 8], (.seq (.dat (.sl (.pr (.int .i64) (.pr (.int .i64) (.pr (.int .i64) (.pr .str (.pr (.int .i64) (.pr (.int .i64) (.pr .str .str))))))))) (.seq (.dat (.int .i64)) (.seq (.box 0 (.seq (.own 1 (.pr .str (.pr (.int .i64) .str))) (.dat (.int .i64)))) (.seq (.own 2 (.pr (.int .i64) (.pr (.int .i64) (.pr (.int .i64) (.pr .str (.pr (.int .i64) (.pr (.int .i64) (.pr .str .str)))))))) (.dat (.int .i64)))))), 3, 142, 0⟩), (.two (.one (.exit 0) ⟨.non, [5, 7], (.seq (.box 0 (.seq (.own 1 (.pr .str (.pr (.int .i64) .str))) (.dat (.int .i64)))) (.own 2 (.pr (.int .i64) (.pr (.int .i64) (.pr (.int .i64) (.pr .str (.pr (.int .i64) (.pr (.int .i64) (.pr .str .str))))))))), 3, 142, 0⟩) (.one .ret ⟨.non, [4], (.dat .bool), 0, 142, 0⟩)), fun (x : ((List (Int × (Int × (Int × (ByteArray × (Int × (Int × (ByteArray × ByteArray)))))))) × (Int × (((List (ByteArray × (Int × ByteArray))) × Int) × ((List (Int × (Int × (Int × (ByteArray × (Int × (Int × (ByteArray × ByteArray)))))))) × Int))))) => (B12_0 x.1 x.2.1 x.2.2.1.1 x.2.2.1.2 x.2.2.2.1 x.2.2.2.2)⟩
/-- midrangelaw32.JournalBack -/
def F12 (a0 : (List (Int × (Int × (Int × (ByteArray × (Int × (Int × (ByteArray × ByteArray))))))))) (a1 : Int) : Option Bool :=
  bndS (F13) fun y0 =>
  sel (bNot y0)
    (some false)
    (bndS (F25 a0) fun y1 =>
    letS (F37 a1 0 5) fun y2 =>
    sel (bOr (bNot y1) (bNot y2))
      (some true)
      (bndS (F43 (bs [82])) fun y3 =>
      sel (bNot (iEq y3.2 0))
        (some false)
        (bndS (L12_0 (a0, (a1, (y3.1, (([] : List (Int × (Int × (Int × (ByteArray × (Int × (Int × (ByteArray × ByteArray)))))))), 0))))) fun y4 =>
        sumS y4 (fun y4a =>
          bndS (F23 y4a.1) fun y5 =>
          bndS (F39 y5 1 (iSub .i64 y4a.1.2 1)) fun y6 =>
          sel (bOr (okS (F36 (lCut y6.1.1 y6.1.2.1 y6.1.2.2) y4a.2)) (bNot (iEq y6.2 0))) (
          letS (valS (F36 (lCut y6.1.1 y6.1.2.1 y6.1.2.2) y4a.2) false) fun y7 =>
          some (bAnd (iEq y6.2 0) y7)) none) fun y4b =>
          some y4b)))
def gF12 : FS := ⟨(.seq (.dat (.sl (.pr (.int .i64) (.pr (.int .i64) (.pr (.int .i64) (.pr .str (.pr (.int .i64) (.pr (.int .i64) (.pr .str .str))))))))) (.dat (.int .i64))), 0, (.one ⟨.non, (.dat .bool), 0, 0⟩), fun x => (F12 x.1 x.2)⟩
theorem rL12_0 (x : lsL12_0.hd.T) : kRound env (GofL [(36, [gF36]), (39, [gF39]), (23, [gF23]), (19, [gF19]), (16, [gF16]), (26, [gF26]), (44, [gF44]), (49, [gF49]), (43, [gF43]), (37, [gF37]), (25, [gF25]), (13, [gF13])]) (LofL [(12, [(0, lsL12_0)])]) 12 0 (lpOf Tryd.prog 12 0).2 (lsL12_0.hd.st x) lsL12_0.rd = lsL12_0.B x := by kernel_rfl
theorem eF12 (x : gF12.a.T) : kF env (GofL [(36, [gF36]), (39, [gF39]), (23, [gF23]), (19, [gF19]), (16, [gF16]), (26, [gF26]), (44, [gF44]), (49, [gF49]), (43, [gF43]), (37, [gF37]), (25, [gF25]), (13, [gF13])]) (LofL [(12, [(0, lsL12_0)])]) 12 (gF12.args x) (gF12.bs x) gF12.r.dec = gF12.F x := by kernel_rfl
theorem sF12 : SpecAt env 9 12 gF12 := mkSpec (r := 8) (gl := [(36, [gF36]), (39, [gF39]), (23, [gF23]), (19, [gF19]), (16, [gF16]), (26, [gF26]), (44, [gF44]), (49, [gF49]), (43, [gF43]), (37, [gF37]), (25, [gF25]), (13, [gF13])]) (L0 := [(0, lsL12_0)]) (by kernel_rfl) ⟨⟨sF36.up (by decide), trivial⟩, ⟨sF39.up (by decide), trivial⟩, ⟨sF23.up (by decide), trivial⟩, ⟨sF19.up (by decide), trivial⟩, ⟨sF16.up (by decide), trivial⟩, ⟨sF26.up (by decide), trivial⟩, ⟨sF44.up (by decide), trivial⟩, ⟨sF49.up (by decide), trivial⟩, ⟨sF43.up (by decide), trivial⟩, ⟨sF37.up (by decide), trivial⟩, ⟨sF25.up (by decide), trivial⟩, ⟨sF13.up (by decide), trivial⟩, trivial⟩ ⟨⟨0, by kernel_rfl, by kernel_rfl, rL12_0⟩, trivial⟩ eF12 (fun h => absurd h (by rw [show env.nl 12 = false by kernel_rfl]; decide))
end
end Go.Proofs.YtdnfnjaccbgplaaDoor.K
end
