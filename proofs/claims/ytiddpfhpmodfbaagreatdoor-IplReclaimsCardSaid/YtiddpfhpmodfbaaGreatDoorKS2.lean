/- A part of the proof: texts of the author, joined. -/
import Derived.Test.YtiddpfhpmodfbaaGreatDoorKS1
section
set_option linter.unusedVariables false
set_option linter.unusedSimpArgs false
set_option linter.unnecessarySimpa false
open Go Go.Ev Go.Proofs
namespace Go.Proofs.YtiddpfhpmodfbaaGreatDoor.K
set_option linter.unusedVariables false
set_option maxRecDepth 100000
noncomputable section
/-- midrangebase.IsUpper -/
def F157 (a0 : Int) : Bool :=
  (bAnd (iLe 65 a0) (iLe a0 90))
def gF157 : FS := ⟨(.dat (.int .u8)), 0, (.one ⟨.non, (.dat .bool), 0, 0⟩), fun x => some (F157 x)⟩
theorem eF157 (x : gF157.a.T) : kF env (GofL []) (LofL [(157, [])]) 157 (gF157.args x) (gF157.bs x) gF157.r.dec = gF157.F x := by kernel_rfl
theorem sF157 : SpecAt env 1 157 gF157 := mkSpec (r := 0) (gl := []) (L0 := []) (by kernel_rfl) trivial trivial eF157 (fun h => absurd h (by rw [show env.nl 157 = false by kernel_rfl]; decide))
/-- midrangebase.IsDigit -/
def F158 (a0 : Int) : Bool :=
  (bAnd (iLe 48 a0) (iLe a0 57))
def gF158 : FS := ⟨(.dat (.int .u8)), 0, (.one ⟨.non, (.dat .bool), 0, 0⟩), fun x => some (F158 x)⟩
theorem eF158 (x : gF158.a.T) : kF env (GofL []) (LofL [(158, [])]) 158 (gF158.args x) (gF158.bs x) gF158.r.dec = gF158.F x := by kernel_rfl
theorem sF158 : SpecAt env 1 158 gF158 := mkSpec (r := 0) (gl := []) (L0 := []) (by kernel_rfl) trivial trivial eF158 (fun h => absurd h (by rw [show env.nl 158 = false by kernel_rfl]; decide))
def B108_0 (a0 : ByteArray) (a1 : Int) : Option ((ByteArray × Int) ⊕ (Unit ⊕ Bool)) :=
  sel (iLt a1 (sLen a0))
    (sel (oIn a1 (sLen a0)) (
    letS (F157 (sAt a0 a1)) fun y0 =>
    letS (F158 (sAt a0 a1)) fun y1 =>
    sel (bAnd (bNot (bOr (bOr (bOr y0 (iEq (sAt a0 a1) 36)) (iEq (sAt a0 a1) 35)) (iEq (sAt a0 a1) 64))) (bOr (iEq a1 0) (bAnd (bAnd (bNot y1) (bNot (iEq (sAt a0 a1) 95))) (bNot (iEq (sAt a0 a1) 46)))))
      (some (.inr (.inr false)))
      (some (.inl (a0, (iAdd .i64 a1 1))))) none)
    (some (.inr (.inl ())))
def L108_0 (x : (ByteArray × Int)) : Option (Unit ⊕ Bool) := iter (fun (x : (ByteArray × Int)) => (B108_0 x.1 x.2)) fuel x
def lsL108_0 : LS := ⟨(.one .normal ⟨.non, [0, 3], (.seq (.dat .str) (.dat (.int .i64))), 0, 52, 0⟩), (.two (.one (.exit 0) ⟨.non, [], .non, 0, 52, 0⟩) (.one .ret ⟨.non, [2], (.dat .bool), 0, 52, 0⟩)), fun (x : (ByteArray × Int)) => (B108_0 x.1 x.2)⟩
/-- midrangebase.IsName -/
def F108 (a0 : ByteArray) : Option Bool :=
  letS (F35 (sLen a0) 1 10) fun y0 =>
  sel (bNot y0)
    (some false)
    (bndS (L108_0 (a0, 0)) fun y1 =>
    sumS y1 (fun y1a =>
      some true) fun y1b =>
      some y1b)
def gF108 : FS := ⟨(.dat .str), 0, (.one ⟨.non, (.dat .bool), 0, 0⟩), fun x => (F108 x)⟩
theorem rL108_0 (x : lsL108_0.hd.T) : kRound env (GofL [(158, [gF158]), (157, [gF157]), (35, [gF35])]) (LofL [(108, [(0, lsL108_0)])]) 108 0 (lpOf Tryz.prog 108 0).2 (lsL108_0.hd.st x) lsL108_0.rd = lsL108_0.B x := by kernel_rfl
theorem eF108 (x : gF108.a.T) : kF env (GofL [(158, [gF158]), (157, [gF157]), (35, [gF35])]) (LofL [(108, [(0, lsL108_0)])]) 108 (gF108.args x) (gF108.bs x) gF108.r.dec = gF108.F x := by kernel_rfl
theorem sF108 : SpecAt env 2 108 gF108 := mkSpec (r := 1) (gl := [(158, [gF158]), (157, [gF157]), (35, [gF35])]) (L0 := [(0, lsL108_0)]) (by kernel_rfl) ⟨⟨sF158.up (by decide), trivial⟩, ⟨sF157.up (by decide), trivial⟩, ⟨sF35.up (by decide), trivial⟩, trivial⟩ ⟨⟨0, by kernel_rfl, by kernel_rfl, rL108_0⟩, trivial⟩ eF108 (fun h => absurd h (by rw [show env.nl 108 = false by kernel_rfl]; decide))
/-- midrangebase.Count -/
def F47 (a0 : Bool) : Option Int :=
  sel a0
    (some 1)
    (some 0)
def gF47 : FS := ⟨(.dat .bool), 0, (.one ⟨.non, (.dat (.int .i64)), 0, 0⟩), fun x => (F47 x)⟩
theorem eF47 (x : gF47.a.T) : kF env (GofL []) (LofL [(47, [])]) 47 (gF47.args x) (gF47.bs x) gF47.r.dec = gF47.F x := by kernel_rfl
theorem sF47 : SpecAt env 1 47 gF47 := mkSpec (r := 0) (gl := []) (L0 := []) (by kernel_rfl) trivial trivial eF47 (fun h => absurd h (by rw [show env.nl 47 = false by kernel_rfl]; decide))
/-- midrangeref11.NameErr -/
def F56 (a0 : (ByteArray × (ByteArray × Int))) : Option Int :=
  bndS (F108 a0.1) fun y0 =>
  sel (bOr (okS (F108 a0.2.1)) (bNot (bNot (bNot y0)))) (
  letS (valS (F108 a0.2.1) false) fun y1 =>
  sel (bOr (bNot y0) (bNot y1))
    (some 7)
    (letS (F35 a0.2.2 0 29) fun y2 =>
    bndS (F47 (bNot y2)) fun y3 =>
    some (iMul .i64 17 y3))) none
def gF56 : FS := ⟨(.agg (.dat (.pr .str (.pr .str (.int .i64))))), 0, (.one ⟨.non, (.dat (.int .i64)), 0, 0⟩), fun x => (F56 x)⟩
theorem eF56 (x : gF56.a.T) : kF env (GofL [(47, [gF47]), (35, [gF35]), (108, [gF108])]) (LofL [(56, [])]) 56 (gF56.args x) (gF56.bs x) gF56.r.dec = gF56.F x := by kernel_rfl
theorem sF56 : SpecAt env 3 56 gF56 := mkSpec (r := 2) (gl := [(47, [gF47]), (35, [gF35]), (108, [gF108])]) (L0 := []) (by kernel_rfl) ⟨⟨sF47.up (by decide), trivial⟩, ⟨sF35.up (by decide), trivial⟩, ⟨sF108.up (by decide), trivial⟩, trivial⟩ trivial eF56 (fun h => absurd h (by rw [show env.nl 56 = false by kernel_rfl]; decide))
def B57_0 (a0 : ByteArray) (a1 : Int) (a2 : Int) : Option ((ByteArray × (Int × Int)) ⊕ Int) :=
  sel (iLt a2 (sLen a0))
    (sel (oIn a2 (sLen a0)) (
    sel (oNz 4294967291) (
    some (.inl (a0, ((iRem (iAdd .i64 (iAdd .i64 (iMul .i64 257 a1) (iCv .i64 (sAt a0 a2))) 1) 4294967291), (iAdd .i64 a2 1))))) none) none)
    (some (.inr a1))
def L57_0 (x : (ByteArray × (Int × Int))) : Option Int := iter (fun (x : (ByteArray × (Int × Int))) => (B57_0 x.1 x.2.1 x.2.2)) fuel x
def lsL57_0 : LS := ⟨(.one .normal ⟨.non, [0, 3, 4], (.seq (.dat .str) (.seq (.dat (.int .i64)) (.dat (.int .i64)))), 0, 21, 0⟩), (.one (.exit 0) ⟨.non, [3], (.dat (.int .i64)), 0, 21, 0⟩), fun (x : (ByteArray × (Int × Int))) => (B57_0 x.1 x.2.1 x.2.2)⟩
/-- midrangeref07.Sum -/
def F57 (a0 : ByteArray) : Option Int :=
  bndS (L57_0 (a0, (1, 0))) fun y0 =>
  some y0
def gF57 : FS := ⟨(.dat .str), 0, (.one ⟨.non, (.dat (.int .i64)), 0, 0⟩), fun x => (F57 x)⟩
theorem rL57_0 (x : lsL57_0.hd.T) : kRound env (GofL []) (LofL [(57, [(0, lsL57_0)])]) 57 0 (lpOf Tryz.prog 57 0).2 (lsL57_0.hd.st x) lsL57_0.rd = lsL57_0.B x := by kernel_rfl
theorem eF57 (x : gF57.a.T) : kF env (GofL []) (LofL [(57, [(0, lsL57_0)])]) 57 (gF57.args x) (gF57.bs x) gF57.r.dec = gF57.F x := by kernel_rfl
theorem sF57 : SpecAt env 1 57 gF57 := mkSpec (r := 0) (gl := []) (L0 := [(0, lsL57_0)]) (by kernel_rfl) trivial ⟨⟨0, by kernel_rfl, by kernel_rfl, rL57_0⟩, trivial⟩ eF57 (fun h => absurd h (by rw [show env.nl 57 = false by kernel_rfl]; decide))
/-- midrangeref11.HeaderIn -/
def F17 (a0 : ByteArray) : Option ((ByteArray × (ByteArray × Int)) × (Int × Int)) :=
  sel (bNot (iEq (sLen a0) 32))
    (some (((bs []), ((bs []), 0)), (0, 18)))
    (sel (oCut 5 15 (sLen a0)) (
    bndS (F53 (sCut a0 5 15)) fun y0 =>
    sel (oCut 15 25 (sLen a0)) (
    bndS (F53 (sCut a0 15 25)) fun y1 =>
    sel (oCut 0 4 (sLen a0)) (
    sel (bOr (oCut 30 (sLen a0) (sLen a0)) (bNot (bNot (bOr (bOr (bNot (sEq (sCut a0 0 4) (bs [42, 79, 66, 74]))) (bNot y0.2)) (bNot y1.2))))) (
    sel (bOr (okS (F54 0 2)) (bNot (bNot (bOr (bOr (bNot (sEq (sCut a0 0 4) (bs [42, 79, 66, 74]))) (bNot y0.2)) (bNot y1.2))))) (
    letS (valS (F54 0 2) ByteArray.empty) fun y2 =>
    sel (bOr (bOr (bOr (bNot (sEq (sCut a0 0 4) (bs [42, 79, 66, 74]))) (bNot y0.2)) (bNot y1.2)) (bNot (sEq (sCut a0 30 (sLen a0)) y2)))
      (some (((bs []), ((bs []), 0)), (0, 5)))
      (bndS (F55 a0 4 1) fun y3 =>
      bndS (F55 a0 25 1) fun y4 =>
      bndS (F56 (y0.1, (y1.1, y3))) fun y5 =>
      sel (bNot (iEq y5 0))
        (some (((bs []), ((bs []), 0)), (0, y5)))
        (letS (F35 y4 1 8) fun y6 =>
        sel (bNot y6)
          (some (((bs []), ((bs []), 0)), (0, 3)))
          (bndS (F55 a0 26 4) fun y7 =>
          sel (oCut 0 26 (sLen a0)) (
          bndS (F57 (sCut a0 0 26)) fun y8 =>
          sel (bNot (iEq y7 y8))
            (some (((bs []), ((bs []), 0)), (0, 33)))
            (some ((y0.1, (y1.1, y3)), (y4, 0)))) none)))) none) none) none) none) none)
def gF17 : FS := ⟨(.dat .str), 0, (.one ⟨.non, (.agg (.dat (.pr (.pr .str (.pr .str (.int .i64))) (.pr (.int .i64) (.int .i64))))), 0, 0⟩), fun x => (F17 x)⟩
theorem eF17 (x : gF17.a.T) : kF env (GofL [(57, [gF57]), (55, [gF55]), (35, [gF35]), (56, [gF56]), (54, [gF54]), (53, [gF53])]) (LofL [(17, [])]) 17 (gF17.args x) (gF17.bs x) gF17.r.dec = gF17.F x := by kernel_rfl
theorem sF17 : SpecAt env 4 17 gF17 := mkSpec (r := 3) (gl := [(57, [gF57]), (55, [gF55]), (35, [gF35]), (56, [gF56]), (54, [gF54]), (53, [gF53])]) (L0 := []) (by kernel_rfl) ⟨⟨sF57.up (by decide), trivial⟩, ⟨sF55.up (by decide), trivial⟩, ⟨sF35.up (by decide), trivial⟩, ⟨sF56.up (by decide), trivial⟩, ⟨sF54.up (by decide), trivial⟩, ⟨sF53.up (by decide), trivial⟩, trivial⟩ trivial eF17 (fun h => absurd h (by rw [show env.nl 17 = false by kernel_rfl]; decide))
/-- midrangelaw11.IplReads -/
def F3 (a0 : ByteArray) : Option Bool :=
  bndS (F15) fun y0 =>
  sel (bNot y0)
    (some false)
    (sel (iLt 100 (sLen a0))
      (some true)
      (bndS (F16 a0) fun y1 =>
      bndS (F17 a0) fun y2 =>
      some (bAnd (bAnd (iEq y1.2.2 y2.2.2) (bAnd (sEq y1.1.1 y2.1.1) (bAnd (sEq y1.1.2.1 y2.1.2.1) (iEq y1.1.2.2 y2.1.2.2)))) (iEq y1.2.1 y2.2.1))))
def B133_0 (a0 : Int) (a1 : Int) (a2 : (List Int)) (a3 : Int) : Option ((Int × (Int × ((List Int) × Int))) ⊕ (List Int)) :=
  sel (iLt a3 a1)
    (sel (oNz 256) (
    sel (oIn (iSub .i64 (iSub .i64 a1 1) a3) (lLen a2)) (
    sel (oNz 256) (
    some (.inl ((iQuo .i64 a0 256), (a1, ((lSet a2 (iSub .i64 (iSub .i64 a1 1) a3) (iCv .u8 (iRem a0 256))), (iAdd .i64 a3 1)))))) none) none) none)
    (some (.inr a2))
def L133_0 (x : (Int × (Int × ((List Int) × Int)))) : Option (List Int) := iter (fun (x : (Int × (Int × ((List Int) × Int)))) => (B133_0 x.1 x.2.1 x.2.2.1 x.2.2.2)) fuel x
def lsL133_0 : LS := ⟨(.one .normal ⟨.non, [0, 1, 5, 6], (.seq (.dat (.int .i64)) (.seq (.dat (.int .i64)) (.seq (.own 0 (.int .u8)) (.dat (.int .i64))))), 1, 27, 0⟩), (.one (.exit 0) ⟨.non, [5], (.own 0 (.int .u8)), 1, 27, 0⟩), fun (x : (Int × (Int × ((List Int) × Int)))) => (B133_0 x.1 x.2.1 x.2.2.1 x.2.2.2)⟩
/-- midrangebase.BigBytes -/
def F133 (a0 : Int) (a1 : Int) : Option ByteArray :=
  sel (nCap 1 a1) (
  bndS (L133_0 (a0, (a1, ((lRep a1 (0 : Int)), 0)))) fun y0 =>
  some (sOf y0)) none
def gF133 : FS := ⟨(.seq (.dat (.int .i64)) (.dat (.int .i64))), 0, (.one ⟨.non, (.dat .str), 0, 0⟩), fun x => (F133 x.1 x.2)⟩
theorem rL133_0 (x : lsL133_0.hd.T) : kRound env (GofL []) (LofL [(133, [(0, lsL133_0)])]) 133 0 (lpOf Tryz.prog 133 0).2 (lsL133_0.hd.st x) lsL133_0.rd = lsL133_0.B x := by kernel_rfl
theorem eF133 (x : gF133.a.T) : kF env (GofL []) (LofL [(133, [(0, lsL133_0)])]) 133 (gF133.args x) (gF133.bs x) gF133.r.dec = gF133.F x := by kernel_rfl
theorem sF133 : SpecAt env 1 133 gF133 := mkSpec (r := 0) (gl := []) (L0 := [(0, lsL133_0)]) (by kernel_rfl) trivial ⟨⟨0, by kernel_rfl, by kernel_rfl, rL133_0⟩, trivial⟩ eF133 (fun h => absurd h (by rw [show env.nl 133 = false by kernel_rfl]; decide))
/-- midrangebase.Padded -/
def F134 (a0 : ByteArray) (a1 : Int) : Option ByteArray :=
  sel (iLe a1 (sLen a0))
    (sel (oCut 0 a1 (sLen a0)) (
    some (sCut a0 0 a1)) none)
    (bndS (F54 32 (iSub .i64 a1 (sLen a0))) fun y0 =>
    sel (sOk a0 y0) (
    some (sAdd a0 y0)) none)
def gF134 : FS := ⟨(.seq (.dat .str) (.dat (.int .i64))), 0, (.one ⟨.non, (.dat .str), 0, 0⟩), fun x => (F134 x.1 x.2)⟩
theorem eF134 (x : gF134.a.T) : kF env (GofL [(54, [gF54])]) (LofL [(134, [])]) 134 (gF134.args x) (gF134.bs x) gF134.r.dec = gF134.F x := by kernel_rfl
theorem sF134 : SpecAt env 2 134 gF134 := mkSpec (r := 1) (gl := [(54, [gF54])]) (L0 := []) (by kernel_rfl) ⟨⟨sF54.up (by decide), trivial⟩, trivial⟩ trivial eF134 (fun h => absurd h (by rw [show env.nl 134 = false by kernel_rfl]; decide))
/-- midrangeref11.Summed -/
def F135 (a0 : ByteArray) : Option ByteArray :=
  bndS (F57 a0) fun y0 =>
  bndS (F133 y0 4) fun y1 =>
  sel (sOk a0 y1) (
  bndS (F54 0 2) fun y2 =>
  sel (sOk (sAdd a0 y1) y2) (
  some (sAdd (sAdd a0 y1) y2)) none) none
def gF135 : FS := ⟨(.dat .str), 0, (.one ⟨.non, (.dat .str), 0, 0⟩), fun x => (F135 x)⟩
theorem eF135 (x : gF135.a.T) : kF env (GofL [(54, [gF54]), (133, [gF133]), (57, [gF57])]) (LofL [(135, [])]) 135 (gF135.args x) (gF135.bs x) gF135.r.dec = gF135.F x := by kernel_rfl
theorem sF135 : SpecAt env 2 135 gF135 := mkSpec (r := 1) (gl := [(54, [gF54]), (133, [gF133]), (57, [gF57])]) (L0 := []) (by kernel_rfl) ⟨⟨sF54.up (by decide), trivial⟩, ⟨sF133.up (by decide), trivial⟩, ⟨sF57.up (by decide), trivial⟩, trivial⟩ trivial eF135 (fun h => absurd h (by rw [show env.nl 135 = false by kernel_rfl]; decide))
/-- midrangeref11.Header -/
def F80 (a0 : (ByteArray × (ByteArray × Int))) (a1 : Int) : Option ByteArray :=
  bndS (F133 a0.2.2 1) fun y0 =>
  sel (sOk (bs [42, 79, 66, 74]) y0) (
  bndS (F134 a0.1 10) fun y1 =>
  sel (sOk (sAdd (bs [42, 79, 66, 74]) y0) y1) (
  bndS (F134 a0.2.1 10) fun y2 =>
  sel (sOk (sAdd (sAdd (bs [42, 79, 66, 74]) y0) y1) y2) (
  bndS (F133 a1 1) fun y3 =>
  sel (sOk (sAdd (sAdd (sAdd (bs [42, 79, 66, 74]) y0) y1) y2) y3) (
  bndS (F135 (sAdd (sAdd (sAdd (sAdd (bs [42, 79, 66, 74]) y0) y1) y2) y3)) fun y4 =>
  some y4) none) none) none) none
def gF80 : FS := ⟨(.seq (.agg (.dat (.pr .str (.pr .str (.int .i64))))) (.dat (.int .i64))), 0, (.one ⟨.non, (.dat .str), 0, 0⟩), fun x => (F80 x.1 x.2)⟩
theorem eF80 (x : gF80.a.T) : kF env (GofL [(135, [gF135]), (133, [gF133]), (134, [gF134])]) (LofL [(80, [])]) 80 (gF80.args x) (gF80.bs x) gF80.r.dec = gF80.F x := by kernel_rfl
theorem sF80 : SpecAt env 3 80 gF80 := mkSpec (r := 2) (gl := [(135, [gF135]), (133, [gF133]), (134, [gF134])]) (L0 := []) (by kernel_rfl) ⟨⟨sF135.up (by decide), trivial⟩, ⟨sF133.up (by decide), trivial⟩, ⟨sF134.up (by decide), trivial⟩, trivial⟩ trivial eF80 (fun h => absurd h (by rw [show env.nl 80 = false by kernel_rfl]; decide))
def B18_0 (a0 : (List (Int × ByteArray))) (a1 : Int) (a2 : (List ((ByteArray × (ByteArray × Int)) × (Int × Int)))) (a3 : (List (Int × Int))) (a4 : Int) : Option ((((List (Int × ByteArray)) × (Int × ((List ((ByteArray × (ByteArray × Int)) × (Int × Int))) × (List (Int × Int))))) × Int) ⊕ (Unit ⊕ Bool)) :=
  sel (iLt a4 (lLen a0))
    (sel (oIn a4 (lLen a0)) (
    sel (iLt 400 (sLen (lAt a0 a4).2))
      (some (.inr (.inr false)))
      (some (.inl ((a0, (a1, (a2, a3))), (iAdd .i64 a4 1))))) none)
    (some (.inr (.inl ())))
def L18_0 (x : (((List (Int × ByteArray)) × (Int × ((List ((ByteArray × (ByteArray × Int)) × (Int × Int))) × (List (Int × Int))))) × Int)) : Option (Unit ⊕ Bool) := iter (fun (x : (((List (Int × ByteArray)) × (Int × ((List ((ByteArray × (ByteArray × Int)) × (Int × Int))) × (List (Int × Int))))) × Int)) => (B18_0 x.1.1 x.1.2.1 x.1.2.2.1 x.1.2.2.2 x.2)) fuel x
def lsL18_0 : LS := ⟨(.one .normal ⟨.non, [1, 3], (.seq (.box 0 (.seq (.dat (.sl (.pr (.int .i64) .str))) (.seq (.dat (.int .i64)) (.seq (.dat (.sl (.pr (.pr .str (.pr .str (.int .i64))) (.pr (.int .i64) (.int .i64))))) (.dat (.sl (.pr (.int .i64) (.int .i64)))))))) (.dat (.int .i64))), 1, 38, 0⟩), (.two (.one (.exit 0) ⟨.non, [], .non, 0, 38, 0⟩) (.one .ret ⟨.non, [2], (.dat .bool), 0, 38, 0⟩)), fun (x : (((List (Int × ByteArray)) × (Int × ((List ((ByteArray × (ByteArray × Int)) × (Int × Int))) × (List (Int × Int))))) × Int)) => (B18_0 x.1.1 x.1.2.1 x.1.2.2.1 x.1.2.2.2 x.2)⟩
/-- midrangelaw11.few -/
def F18 (a0 : (((List (Int × ByteArray)) × Int) × ((List ((ByteArray × (ByteArray × Int)) × (Int × Int))) × (List (Int × Int))))) : Option Bool :=
  sel (bOr (bOr (iLt 12 (lLen a0.1.1)) (iLt 14 (lLen a0.2.1))) (iLt 100 (lLen a0.2.2)))
    (some false)
    (bndS (L18_0 ((a0.1.1, (a0.1.2, a0.2)), 0)) fun y0 =>
    sumS y0 (fun y0a =>
      some true) fun y0b =>
      some y0b)
def gF18 : FS := ⟨(.agg (.dat (.pr (.pr (.sl (.pr (.int .i64) .str)) (.int .i64)) (.pr (.sl (.pr (.pr .str (.pr .str (.int .i64))) (.pr (.int .i64) (.int .i64)))) (.sl (.pr (.int .i64) (.int .i64))))))), 0, (.one ⟨.non, (.dat .bool), 0, 0⟩), fun x => (F18 x)⟩
theorem rL18_0 (x : lsL18_0.hd.T) : kRound env (GofL []) (LofL [(18, [(0, lsL18_0)])]) 18 0 (lpOf Tryz.prog 18 0).2 (lsL18_0.hd.st x) lsL18_0.rd = lsL18_0.B x := by kernel_rfl
theorem eF18 (x : gF18.a.T) : kF env (GofL []) (LofL [(18, [(0, lsL18_0)])]) 18 (gF18.args x) (gF18.bs x) gF18.r.dec = gF18.F x := by kernel_rfl
theorem sF18 : SpecAt env 1 18 gF18 := mkSpec (r := 0) (gl := []) (L0 := [(0, lsL18_0)]) (by kernel_rfl) trivial ⟨⟨0, by kernel_rfl, by kernel_rfl, rL18_0⟩, trivial⟩ eF18 (fun h => absurd h (by rw [show env.nl 18 = false by kernel_rfl]; decide))
/-- midrangeref04.Own -/
def F64 (a0 : ((List (Int × ByteArray)) × Int)) : Option ((List (Int × ByteArray)) × Int) :=
  sel (lCap 24 a0.1) (
  some a0) none
def gF64 : FS := ⟨(.agg (.dat (.pr (.sl (.pr (.int .i64) .str)) (.int .i64)))), 0, (.one ⟨.non, (.agg (.seq (.own 0 (.pr (.int .i64) .str)) (.dat (.int .i64)))), 0, 1⟩), fun x => (F64 x)⟩
theorem eF64 (x : gF64.a.T) : kF env (GofL []) (LofL [(64, [])]) 64 (gF64.args x) (gF64.bs x) gF64.r.dec = gF64.F x := by kernel_rfl
theorem sF64 : SpecAt env 1 64 gF64 := mkSpec (r := 0) (gl := []) (L0 := []) (by kernel_rfl) trivial trivial eF64 (fun h => absurd h (by rw [show env.nl 64 = false by kernel_rfl]; decide))
/-- midrangeref11.Own -/
def F20 (a0 : (((List (Int × ByteArray)) × Int) × ((List ((ByteArray × (ByteArray × Int)) × (Int × Int))) × (List (Int × Int))))) : Option ((List (Int × ByteArray)) × (Int × ((List ((ByteArray × (ByteArray × Int)) × (Int × Int))) × (List (Int × Int))))) :=
  bndS (F64 a0.1) fun y0 =>
  sel (lCap 56 a0.2.1) (
  sel (lCap 16 a0.2.2) (
  some (y0.1, (y0.2, a0.2))) none) none
def gF20 : FS := ⟨(.agg (.dat (.pr (.pr (.sl (.pr (.int .i64) .str)) (.int .i64)) (.pr (.sl (.pr (.pr .str (.pr .str (.int .i64))) (.pr (.int .i64) (.int .i64)))) (.sl (.pr (.int .i64) (.int .i64))))))), 0, (.one ⟨.non, (.agg (.seq (.own 0 (.pr (.int .i64) .str)) (.seq (.dat (.int .i64)) (.seq (.own 1 (.pr (.pr .str (.pr .str (.int .i64))) (.pr (.int .i64) (.int .i64)))) (.own 2 (.pr (.int .i64) (.int .i64))))))), 0, 3⟩), fun x => (F20 x)⟩
theorem eF20 (x : gF20.a.T) : kF env (GofL [(64, [gF64])]) (LofL [(20, [])]) 20 (gF20.args x) (gF20.bs x) gF20.r.dec = gF20.F x := by kernel_rfl
theorem sF20 : SpecAt env 2 20 gF20 := mkSpec (r := 1) (gl := [(64, [gF64])]) (L0 := []) (by kernel_rfl) ⟨⟨sF64.up (by decide), trivial⟩, trivial⟩ trivial eF20 (fun h => absurd h (by rw [show env.nl 20 = false by kernel_rfl]; decide))
/-- midrangeref04.Pages -/
def F75 (a0 : ByteArray) : Option Int :=
  sel (oNz 32) (
  some (iQuo .i64 (sLen a0) 32)) none
def gF75 : FS := ⟨(.dat .str), 0, (.one ⟨.non, (.dat (.int .i64)), 0, 0⟩), fun x => (F75 x)⟩
theorem eF75 (x : gF75.a.T) : kF env (GofL []) (LofL [(75, [])]) 75 (gF75.args x) (gF75.bs x) gF75.r.dec = gF75.F x := by kernel_rfl
theorem sF75 : SpecAt env 1 75 gF75 := mkSpec (r := 0) (gl := []) (L0 := []) (by kernel_rfl) trivial trivial eF75 (fun h => absurd h (by rw [show env.nl 75 = false by kernel_rfl]; decide))
def B114_0 (a0 : (List (Int × ByteArray))) (a1 : Int) (a2 : Int) : Option ((((List (Int × ByteArray)) × Int) × Int) ⊕ (Unit ⊕ (Int × Int))) :=
  sel (iLt a2 (lLen a0))
    (sel (oIn a2 (lLen a0)) (
    letS (F35 (lAt a0 a2).1 1 (iSub .i64 a1 1)) fun y0 =>
    sel (bNot y0)
      (some (.inr (.inr (a2, 3))))
      (sel (bOr (oIn (iSub .i64 a2 1) (lLen a0)) (bNot (iLt 0 a2))) (
      sel (bAnd (iLt 0 a2) (iLe (lAt a0 a2).1 (lAt a0 (iSub .i64 a2 1)).1))
        (some (.inr (.inr (a2, 14))))
        (sel (oNz 32) (
        sel (bOr (okS (F75 (lAt a0 a2).2)) (bNot (bNot (bNot (iEq (iRem (sLen (lAt a0 a2).2) 32) 0))))) (
        letS (valS (F75 (lAt a0 a2).2) 0) fun y1 =>
        letS (F35 y1 1 8) fun y2 =>
        sel (bOr (bNot (iEq (iRem (sLen (lAt a0 a2).2) 32) 0)) (bNot y2))
          (some (.inr (.inr (a2, 18))))
          (some (.inl ((a0, a1), (iAdd .i64 a2 1))))) none) none)) none)) none)
    (some (.inr (.inl ())))
def L114_0 (x : (((List (Int × ByteArray)) × Int) × Int)) : Option (Unit ⊕ (Int × Int)) := iter (fun (x : (((List (Int × ByteArray)) × Int) × Int)) => (B114_0 x.1.1 x.1.2 x.2)) fuel x
def lsL114_0 : LS := ⟨(.one .normal ⟨.non, [1, 4], (.seq (.box 0 (.seq (.dat (.sl (.pr (.int .i64) .str))) (.dat (.int .i64)))) (.dat (.int .i64))), 1, 62, 0⟩), (.two (.one (.exit 0) ⟨.non, [], .non, 0, 62, 0⟩) (.one .ret ⟨.non, [2, 3], (.seq (.dat (.int .i64)) (.dat (.int .i64))), 0, 62, 0⟩)), fun (x : (((List (Int × ByteArray)) × Int) × Int)) => (B114_0 x.1.1 x.1.2 x.2)⟩
/-- midrangeref04.Check -/
def F114 (a0 : ((List (Int × ByteArray)) × Int)) : Option (Int × Int) :=
  sel (iLt 10 (lLen a0.1))
    (some (0, 2))
    (letS (F35 a0.2 1 1001) fun y0 =>
    sel (bNot y0)
      (some (0, 3))
      (bndS (L114_0 (a0, 0)) fun y1 =>
      sumS y1 (fun y1a =>
        some (0, 0)) fun y1b =>
        some y1b))
def gF114 : FS := ⟨(.agg (.dat (.pr (.sl (.pr (.int .i64) .str)) (.int .i64)))), 0, (.one ⟨.non, (.tup (.seq (.dat (.int .i64)) (.dat (.int .i64)))), 0, 0⟩), fun x => (F114 x)⟩
theorem rL114_0 (x : lsL114_0.hd.T) : kRound env (GofL [(35, [gF35]), (75, [gF75])]) (LofL [(114, [(0, lsL114_0)])]) 114 0 (lpOf Tryz.prog 114 0).2 (lsL114_0.hd.st x) lsL114_0.rd = lsL114_0.B x := by kernel_rfl
theorem eF114 (x : gF114.a.T) : kF env (GofL [(35, [gF35]), (75, [gF75])]) (LofL [(114, [(0, lsL114_0)])]) 114 (gF114.args x) (gF114.bs x) gF114.r.dec = gF114.F x := by kernel_rfl
theorem sF114 : SpecAt env 2 114 gF114 := mkSpec (r := 1) (gl := [(35, [gF35]), (75, [gF75])]) (L0 := [(0, lsL114_0)]) (by kernel_rfl) ⟨⟨sF35.up (by decide), trivial⟩, ⟨sF75.up (by decide), trivial⟩, trivial⟩ ⟨⟨0, by kernel_rfl, by kernel_rfl, rL114_0⟩, trivial⟩ eF114 (fun h => absurd h (by rw [show env.nl 114 = false by kernel_rfl]; decide))
/-- midrangeref04.Err -/
def F65 (a0 : ((List (Int × ByteArray)) × Int)) : Option Int :=
  bndS (F114 a0) fun y0 =>
  some y0.2
def gF65 : FS := ⟨(.agg (.dat (.pr (.sl (.pr (.int .i64) .str)) (.int .i64)))), 0, (.one ⟨.non, (.dat (.int .i64)), 0, 0⟩), fun x => (F65 x)⟩
theorem eF65 (x : gF65.a.T) : kF env (GofL [(114, [gF114])]) (LofL [(65, [])]) 65 (gF65.args x) (gF65.bs x) gF65.r.dec = gF65.F x := by kernel_rfl
theorem sF65 : SpecAt env 3 65 gF65 := mkSpec (r := 2) (gl := [(114, [gF114])]) (L0 := []) (by kernel_rfl) ⟨⟨sF114.up (by decide), trivial⟩, trivial⟩ trivial eF65 (fun h => absurd h (by rw [show env.nl 65 = false by kernel_rfl]; decide))
/-- midrangeref11.Before -/
def F115 (a0 : (ByteArray × (ByteArray × Int))) (a1 : (ByteArray × (ByteArray × Int))) : Option Bool :=
  sel (bNot (sEq a0.1 a1.1))
    (some (sLt a0.1 a1.1))
    (sel (bNot (sEq a0.2.1 a1.2.1))
      (some (sLt a0.2.1 a1.2.1))
      (some (iLt a0.2.2 a1.2.2)))
def gF115 : FS := ⟨(.seq (.agg (.dat (.pr .str (.pr .str (.int .i64))))) (.agg (.dat (.pr .str (.pr .str (.int .i64)))))), 0, (.one ⟨.non, (.dat .bool), 0, 0⟩), fun x => (F115 x.1 x.2)⟩
theorem eF115 (x : gF115.a.T) : kF env (GofL []) (LofL [(115, [])]) 115 (gF115.args x) (gF115.bs x) gF115.r.dec = gF115.F x := by kernel_rfl
theorem sF115 : SpecAt env 1 115 gF115 := mkSpec (r := 0) (gl := []) (L0 := []) (by kernel_rfl) trivial trivial eF115 (fun h => absurd h (by rw [show env.nl 115 = false by kernel_rfl]; decide))
def B66_0 (a0 : Int) (a1 : (List ((ByteArray × (ByteArray × Int)) × (Int × Int)))) (a2 : Int) : Option ((Int × ((List ((ByteArray × (ByteArray × Int)) × (Int × Int))) × Int)) ⊕ (Unit ⊕ Int)) :=
  sel (iLt a2 a0)
    (sel (oIn a2 (lLen a1)) (
    sel (oIn a0 (lLen a1)) (
    sel (iEq (lAt a1 a2).2.1 (lAt a1 a0).2.1)
      (some (.inr (.inr 13)))
      (some (.inl (a0, (a1, (iAdd .i64 a2 1)))))) none) none)
    (some (.inr (.inl ())))
def L66_0 (x : (Int × ((List ((ByteArray × (ByteArray × Int)) × (Int × Int))) × Int))) : Option (Unit ⊕ Int) := iter (fun (x : (Int × ((List ((ByteArray × (ByteArray × Int)) × (Int × Int))) × Int))) => (B66_0 x.1 x.2.1 x.2.2)) fuel x
def lsL66_0 : LS := ⟨(.one .normal ⟨.non, [1, 5, 7], (.seq (.dat (.int .i64)) (.seq (.dat (.sl (.pr (.pr .str (.pr .str (.int .i64))) (.pr (.int .i64) (.int .i64))))) (.dat (.int .i64)))), 0, 72, 0⟩), (.two (.one (.exit 0) ⟨.non, [], .non, 0, 72, 0⟩) (.one .ret ⟨.non, [4], (.dat (.int .i64)), 0, 72, 0⟩)), fun (x : (Int × ((List ((ByteArray × (ByteArray × Int)) × (Int × Int))) × Int))) => (B66_0 x.1 x.2.1 x.2.2)⟩
/-- midrangeref11.entryErr -/
def F66 (a0 : (((List (Int × ByteArray)) × Int) × ((List ((ByteArray × (ByteArray × Int)) × (Int × Int))) × (List (Int × Int))))) (a1 : Int) : Option Int :=
  sel (oIn a1 (lLen a0.2.1)) (
  bndS (F56 (lAt a0.2.1 a1).1) fun y0 =>
  sel (bNot (iEq y0 0))
    (some y0)
    (sel (bOr (oIn (iSub .i64 a1 1) (lLen a0.2.1)) (bNot (iLt 0 a1))) (
    sel (bOr (oIn a1 (lLen a0.2.1)) (bNot (iLt 0 a1))) (
    sel (bOr (okS (F115 (lAt a0.2.1 (iSub .i64 a1 1)).1 (lAt a0.2.1 a1).1)) (bNot (iLt 0 a1))) (
    letS (valS (F115 (lAt a0.2.1 (iSub .i64 a1 1)).1 (lAt a0.2.1 a1).1) false) fun y1 =>
    sel (bAnd (iLt 0 a1) (bNot y1))
      (some 14)
      (sel (oIn a1 (lLen a0.2.1)) (
      letS (F35 (lAt a0.2.1 a1).2.1 1 (iSub .i64 a0.1.2 1)) fun y2 =>
      sel (bOr (oIn a1 (lLen a0.2.1)) (bNot (bNot (bNot y2)))) (
      letS (F35 (lAt a0.2.1 a1).2.2 0 3) fun y3 =>
      sel (bOr (bNot y2) (bNot y3))
        (some 3)
        (bndS (L66_0 (a1, (a0.2.1, 0))) fun y4 =>
        sumS y4 (fun y4a =>
          some 0) fun y4b =>
          some y4b)) none) none)) none) none) none)) none
def gF66 : FS := ⟨(.seq (.agg (.dat (.pr (.pr (.sl (.pr (.int .i64) .str)) (.int .i64)) (.pr (.sl (.pr (.pr .str (.pr .str (.int .i64))) (.pr (.int .i64) (.int .i64)))) (.sl (.pr (.int .i64) (.int .i64))))))) (.dat (.int .i64))), 0, (.one ⟨.non, (.dat (.int .i64)), 0, 0⟩), fun x => (F66 x.1 x.2)⟩
theorem rL66_0 (x : lsL66_0.hd.T) : kRound env (GofL [(35, [gF35]), (115, [gF115]), (56, [gF56])]) (LofL [(66, [(0, lsL66_0)])]) 66 0 (lpOf Tryz.prog 66 0).2 (lsL66_0.hd.st x) lsL66_0.rd = lsL66_0.B x := by kernel_rfl
theorem eF66 (x : gF66.a.T) : kF env (GofL [(35, [gF35]), (115, [gF115]), (56, [gF56])]) (LofL [(66, [(0, lsL66_0)])]) 66 (gF66.args x) (gF66.bs x) gF66.r.dec = gF66.F x := by kernel_rfl
theorem sF66 : SpecAt env 4 66 gF66 := mkSpec (r := 3) (gl := [(35, [gF35]), (115, [gF115]), (56, [gF56])]) (L0 := [(0, lsL66_0)]) (by kernel_rfl) ⟨⟨sF35.up (by decide), trivial⟩, ⟨sF115.up (by decide), trivial⟩, ⟨sF56.up (by decide), trivial⟩, trivial⟩ ⟨⟨0, by kernel_rfl, by kernel_rfl, rL66_0⟩, trivial⟩ eF66 (fun h => absurd h (by rw [show env.nl 66 = false by kernel_rfl]; decide))
def B21_0 (a0 : (List (Int × ByteArray))) (a1 : Int) (a2 : (List ((ByteArray × (ByteArray × Int)) × (Int × Int)))) (a3 : (List (Int × Int))) (a4 : Int) : Option ((((List (Int × ByteArray)) × (Int × ((List ((ByteArray × (ByteArray × Int)) × (Int × Int))) × (List (Int × Int))))) × Int) ⊕ (((List (Int × ByteArray)) × (Int × ((List ((ByteArray × (ByteArray × Int)) × (Int × Int))) × (List (Int × Int))))) ⊕ (Int × Int))) :=
  sel (iLt a4 (lLen a2))
    (bndS (F66 ((a0, a1), (a2, a3)) a4) fun y0 =>
    sel (bNot (iEq y0 0))
      (some (.inr (.inr (a4, y0))))
      (some (.inl ((a0, (a1, (a2, a3))), (iAdd .i64 a4 1)))))
    (some (.inr (.inl (a0, (a1, (a2, a3))))))
def L21_0 (x : (((List (Int × ByteArray)) × (Int × ((List ((ByteArray × (ByteArray × Int)) × (Int × Int))) × (List (Int × Int))))) × Int)) : Option (((List (Int × ByteArray)) × (Int × ((List ((ByteArray × (ByteArray × Int)) × (Int × Int))) × (List (Int × Int))))) ⊕ (Int × Int)) := iter (fun (x : (((List (Int × ByteArray)) × (Int × ((List ((ByteArray × (ByteArray × Int)) × (Int × Int))) × (List (Int × Int))))) × Int)) => (B21_0 x.1.1 x.1.2.1 x.1.2.2.1 x.1.2.2.2 x.2)) fuel x
def lsL21_0 : LS := ⟨(.one .normal ⟨.non, [1, 5], (.seq (.box 0 (.seq (.dat (.sl (.pr (.int .i64) .str))) (.seq (.dat (.int .i64)) (.seq (.dat (.sl (.pr (.pr .str (.pr .str (.int .i64))) (.pr (.int .i64) (.int .i64))))) (.dat (.sl (.pr (.int .i64) (.int .i64)))))))) (.dat (.int .i64))), 1, 74, 0⟩), (.two (.one (.exit 0) ⟨.non, [1], (.box 0 (.seq (.dat (.sl (.pr (.int .i64) .str))) (.seq (.dat (.int .i64)) (.seq (.dat (.sl (.pr (.pr .str (.pr .str (.int .i64))) (.pr (.int .i64) (.int .i64))))) (.dat (.sl (.pr (.int .i64) (.int .i64)))))))), 1, 74, 0⟩) (.one .ret ⟨.non, [2, 3], (.seq (.dat (.int .i64)) (.dat (.int .i64))), 0, 74, 0⟩)), fun (x : (((List (Int × ByteArray)) × (Int × ((List ((ByteArray × (ByteArray × Int)) × (Int × Int))) × (List (Int × Int))))) × Int)) => (B21_0 x.1.1 x.1.2.1 x.1.2.2.1 x.1.2.2.2 x.2)⟩
def B28_0 (a0 : Int) (a1 : (List (Int × ByteArray))) (a2 : Int) (a3 : Int) : Option ((Int × (((List (Int × ByteArray)) × Int) × Int)) ⊕ (Unit ⊕ Int)) :=
  sel (iLt a3 (lLen a1))
    (sel (oIn a3 (lLen a1)) (
    sel (iEq (lAt a1 a3).1 a0)
      (some (.inr (.inr a3)))
      (some (.inl (a0, ((a1, a2), (iAdd .i64 a3 1)))))) none)
    (some (.inr (.inl ())))
def L28_0 (x : (Int × (((List (Int × ByteArray)) × Int) × Int))) : Option (Unit ⊕ Int) := iter (fun (x : (Int × (((List (Int × ByteArray)) × Int) × Int))) => (B28_0 x.1 x.2.1.1 x.2.1.2 x.2.2)) fuel x
def lsL28_0 : LS := ⟨(.one .normal ⟨.non, [1, 2, 5], (.seq (.dat (.int .i64)) (.seq (.box 0 (.seq (.dat (.sl (.pr (.int .i64) .str))) (.dat (.int .i64)))) (.dat (.int .i64)))), 1, 22, 0⟩), (.two (.one (.exit 0) ⟨.non, [], .non, 0, 22, 0⟩) (.one .ret ⟨.non, [4], (.dat (.int .i64)), 0, 22, 0⟩)), fun (x : (Int × (((List (Int × ByteArray)) × Int) × Int))) => (B28_0 x.1 x.2.1.1 x.2.1.2 x.2.2)⟩
/-- midrangeref04.Place -/
def F28 (a0 : ((List (Int × ByteArray)) × Int)) (a1 : Int) : Option Int :=
  bndS (L28_0 (a1, (a0, 0))) fun y0 =>
  sumS y0 (fun y0a =>
    some (-1)) fun y0b =>
    some y0b
def gF28 : FS := ⟨(.seq (.agg (.dat (.pr (.sl (.pr (.int .i64) .str)) (.int .i64)))) (.dat (.int .i64))), 0, (.one ⟨.non, (.dat (.int .i64)), 0, 0⟩), fun x => (F28 x.1 x.2)⟩
theorem rL28_0 (x : lsL28_0.hd.T) : kRound env (GofL []) (LofL [(28, [(0, lsL28_0)])]) 28 0 (lpOf Tryz.prog 28 0).2 (lsL28_0.hd.st x) lsL28_0.rd = lsL28_0.B x := by kernel_rfl
theorem eF28 (x : gF28.a.T) : kF env (GofL []) (LofL [(28, [(0, lsL28_0)])]) 28 (gF28.args x) (gF28.bs x) gF28.r.dec = gF28.F x := by kernel_rfl
theorem sF28 : SpecAt env 1 28 gF28 := mkSpec (r := 0) (gl := []) (L0 := [(0, lsL28_0)]) (by kernel_rfl) trivial ⟨⟨0, by kernel_rfl, by kernel_rfl, rL28_0⟩, trivial⟩ eF28 (fun h => absurd h (by rw [show env.nl 28 = false by kernel_rfl]; decide))
/-- midrangeref05.HasPage -/
def F67 (a0 : ((List (Int × ByteArray)) × Int)) (a1 : Int) (a2 : Int) : Option Bool :=
  bndS (F28 a0 a1) fun y0 =>
  sel (bOr (oIn y0 (lLen a0.1)) (bNot (bNot (iEq y0 (-1))))) (
  sel (bOr (okS (F75 (lAt a0.1 y0).2)) (bNot (bNot (iEq y0 (-1))))) (
  letS (valS (F75 (lAt a0.1 y0).2) 0) fun y1 =>
  letS (F35 a2 0 (iSub .i64 y1 1)) fun y2 =>
  some (bAnd (bNot (iEq y0 (-1))) y2)) none) none
def gF67 : FS := ⟨(.seq (.agg (.dat (.pr (.sl (.pr (.int .i64) .str)) (.int .i64)))) (.seq (.dat (.int .i64)) (.dat (.int .i64)))), 0, (.one ⟨.non, (.dat .bool), 0, 0⟩), fun x => (F67 x.1 x.2.1 x.2.2)⟩
theorem eF67 (x : gF67.a.T) : kF env (GofL [(35, [gF35]), (75, [gF75]), (28, [gF28])]) (LofL [(67, [])]) 67 (gF67.args x) (gF67.bs x) gF67.r.dec = gF67.F x := by kernel_rfl
theorem sF67 : SpecAt env 2 67 gF67 := mkSpec (r := 1) (gl := [(35, [gF35]), (75, [gF75]), (28, [gF28])]) (L0 := []) (by kernel_rfl) ⟨⟨sF35.up (by decide), trivial⟩, ⟨sF75.up (by decide), trivial⟩, ⟨sF28.up (by decide), trivial⟩, trivial⟩ trivial eF67 (fun h => absurd h (by rw [show env.nl 67 = false by kernel_rfl]; decide))
/-- midrangeref11.behind -/
def F68 (a0 : (Int × Int)) (a1 : (Int × Int)) : Bool :=
  (bOr (iLt a1.1 a0.1) (bAnd (iEq a0.1 a1.1) (iLt a1.2 a0.2)))
def gF68 : FS := ⟨(.seq (.agg (.dat (.pr (.int .i64) (.int .i64)))) (.agg (.dat (.pr (.int .i64) (.int .i64))))), 0, (.one ⟨.non, (.dat .bool), 0, 0⟩), fun x => some (F68 x.1 x.2)⟩
theorem eF68 (x : gF68.a.T) : kF env (GofL []) (LofL [(68, [])]) 68 (gF68.args x) (gF68.bs x) gF68.r.dec = gF68.F x := by kernel_rfl
theorem sF68 : SpecAt env 1 68 gF68 := mkSpec (r := 0) (gl := []) (L0 := []) (by kernel_rfl) trivial trivial eF68 (fun h => absurd h (by rw [show env.nl 68 = false by kernel_rfl]; decide))
def B21_2 (a0 : (List (Int × ByteArray))) (a1 : Int) (a2 : (List ((ByteArray × (ByteArray × Int)) × (Int × Int)))) (a3 : (List (Int × Int))) (a4 : Int) : Option ((((List (Int × ByteArray)) × (Int × ((List ((ByteArray × (ByteArray × Int)) × (Int × Int))) × (List (Int × Int))))) × Int) ⊕ (Unit ⊕ (Int × Int))) :=
  sel (iLt a4 (lLen a3))
    (sel (oIn a4 (lLen a3)) (
    sel (oIn a4 (lLen a3)) (
    bndS (F67 (a0, a1) (lAt a3 a4).1 (lAt a3 a4).2) fun y0 =>
    sel (bNot y0)
      (some (.inr (.inr (a4, 11))))
      (sel (bOr (oIn a4 (lLen a3)) (bNot (iLt 0 a4))) (
      sel (bOr (oIn (iSub .i64 a4 1) (lLen a3)) (bNot (iLt 0 a4))) (
      letS (F68 (lAt a3 a4) (lAt a3 (iSub .i64 a4 1))) fun y1 =>
      sel (bAnd (iLt 0 a4) (bNot y1))
        (some (.inr (.inr (a4, 14))))
        (some (.inl ((a0, (a1, (a2, a3))), (iAdd .i64 a4 1))))) none) none)) none) none)
    (some (.inr (.inl ())))
def L21_2 (x : (((List (Int × ByteArray)) × (Int × ((List ((ByteArray × (ByteArray × Int)) × (Int × Int))) × (List (Int × Int))))) × Int)) : Option (Unit ⊕ (Int × Int)) := iter (fun (x : (((List (Int × ByteArray)) × (Int × ((List ((ByteArray × (ByteArray × Int)) × (Int × Int))) × (List (Int × Int))))) × Int)) => (B21_2 x.1.1 x.1.2.1 x.1.2.2.1 x.1.2.2.2 x.2)) fuel x
def lsL21_2 : LS := ⟨(.one .normal ⟨.non, [1, 7], (.seq (.box 0 (.seq (.dat (.sl (.pr (.int .i64) .str))) (.seq (.dat (.int .i64)) (.seq (.dat (.sl (.pr (.pr .str (.pr .str (.int .i64))) (.pr (.int .i64) (.int .i64))))) (.dat (.sl (.pr (.int .i64) (.int .i64)))))))) (.dat (.int .i64))), 1, 74, 0⟩), (.two (.one (.exit 2) ⟨.non, [], .non, 0, 74, 0⟩) (.one .ret ⟨.non, [2, 3], (.seq (.dat (.int .i64)) (.dat (.int .i64))), 0, 74, 0⟩)), fun (x : (((List (Int × ByteArray)) × (Int × ((List ((ByteArray × (ByteArray × Int)) × (Int × Int))) × (List (Int × Int))))) × Int)) => (B21_2 x.1.1 x.1.2.1 x.1.2.2.1 x.1.2.2.2 x.2)⟩
/-- midrangeref11.Check -/
def F21 (a0 : (((List (Int × ByteArray)) × Int) × ((List ((ByteArray × (ByteArray × Int)) × (Int × Int))) × (List (Int × Int))))) : Option (Int × Int) :=
  bndS (F65 a0.1) fun y0 =>
  sel (bNot (iEq y0 0))
    (some (0, y0))
    (sel (iLt 12 (lLen a0.2.1))
      (some (0, 2))
      (bndS (L21_0 ((a0.1.1, (a0.1.2, a0.2)), 0)) fun y1 =>
      sumS y1 (fun y1a =>
        bndS (L21_2 (y1a, 0)) fun y2 =>
        sumS y2 (fun y2a =>
          some (0, 0)) fun y2b =>
          some y2b) fun y1b =>
        some y1b))
def gF21 : FS := ⟨(.agg (.dat (.pr (.pr (.sl (.pr (.int .i64) .str)) (.int .i64)) (.pr (.sl (.pr (.pr .str (.pr .str (.int .i64))) (.pr (.int .i64) (.int .i64)))) (.sl (.pr (.int .i64) (.int .i64))))))), 0, (.one ⟨.non, (.tup (.seq (.dat (.int .i64)) (.dat (.int .i64)))), 0, 0⟩), fun x => (F21 x)⟩
theorem rL21_0 (x : lsL21_0.hd.T) : kRound env (GofL [(68, [gF68]), (67, [gF67]), (66, [gF66]), (65, [gF65])]) (LofL [(21, [(0, lsL21_0), (2, lsL21_2)])]) 21 0 (lpOf Tryz.prog 21 0).2 (lsL21_0.hd.st x) lsL21_0.rd = lsL21_0.B x := by kernel_rfl
theorem rL21_2 (x : lsL21_2.hd.T) : kRound env (GofL [(68, [gF68]), (67, [gF67]), (66, [gF66]), (65, [gF65])]) (LofL [(21, [(0, lsL21_0), (2, lsL21_2)])]) 21 2 (lpOf Tryz.prog 21 1).2 (lsL21_2.hd.st x) lsL21_2.rd = lsL21_2.B x := by kernel_rfl
theorem eF21 (x : gF21.a.T) : kF env (GofL [(68, [gF68]), (67, [gF67]), (66, [gF66]), (65, [gF65])]) (LofL [(21, [(0, lsL21_0), (2, lsL21_2)])]) 21 (gF21.args x) (gF21.bs x) gF21.r.dec = gF21.F x := by kernel_rfl
theorem sF21 : SpecAt env 5 21 gF21 := mkSpec (r := 4) (gl := [(68, [gF68]), (67, [gF67]), (66, [gF66]), (65, [gF65])]) (L0 := [(0, lsL21_0), (2, lsL21_2)]) (by kernel_rfl) ⟨⟨sF68.up (by decide), trivial⟩, ⟨sF67.up (by decide), trivial⟩, ⟨sF66.up (by decide), trivial⟩, ⟨sF65.up (by decide), trivial⟩, trivial⟩ ⟨⟨0, by kernel_rfl, by kernel_rfl, rL21_0⟩, ⟨1, by kernel_rfl, by kernel_rfl, rL21_2⟩, trivial⟩ eF21 (fun h => absurd h (by rw [show env.nl 21 = false by kernel_rfl]; decide))
end
end Go.Proofs.YtiddpfhpmodfbaaGreatDoor.K
end

section
set_option linter.unusedVariables false
set_option linter.unusedSimpArgs false
set_option linter.unnecessarySimpa false
open Go Go.Ev Go.Proofs
namespace Go.Proofs.YtiddpfhpmodfbaaGreatDoor.K
set_option linter.unusedVariables false
set_option maxRecDepth 100000
noncomputable section
/-- midrangeref11.Err -/
def F34 (a0 : (((List (Int × ByteArray)) × Int) × ((List ((ByteArray × (ByteArray × Int)) × (Int × Int))) × (List (Int × Int))))) : Option Int :=
  bndS (F21 a0) fun y0 =>
  some y0.2
def gF34 : FS := ⟨(.agg (.dat (.pr (.pr (.sl (.pr (.int .i64) .str)) (.int .i64)) (.pr (.sl (.pr (.pr .str (.pr .str (.int .i64))) (.pr (.int .i64) (.int .i64)))) (.sl (.pr (.int .i64) (.int .i64))))))), 0, (.one ⟨.non, (.dat (.int .i64)), 0, 0⟩), fun x => (F34 x)⟩
theorem eF34 (x : gF34.a.T) : kF env (GofL [(21, [gF21])]) (LofL [(34, [])]) 34 (gF34.args x) (gF34.bs x) gF34.r.dec = gF34.F x := by kernel_rfl
theorem sF34 : SpecAt env 6 34 gF34 := mkSpec (r := 5) (gl := [(21, [gF21])]) (L0 := []) (by kernel_rfl) ⟨⟨sF21.up (by decide), trivial⟩, trivial⟩ trivial eF34 (fun h => absurd h (by rw [show env.nl 34 = false by kernel_rfl]; decide))
def B45_0 (a0 : (List (Int × ByteArray))) (a1 : Int) (a2 : (List ((ByteArray × (ByteArray × Int)) × (Int × Int)))) (a3 : (List (Int × Int))) (a4 : ByteArray) (a5 : ByteArray) (a6 : Int) (a7 : Int) : Option ((((List (Int × ByteArray)) × (Int × ((List ((ByteArray × (ByteArray × Int)) × (Int × Int))) × (List (Int × Int))))) × ((ByteArray × (ByteArray × Int)) × Int)) ⊕ (Unit ⊕ Int)) :=
  sel (iLt a7 (lLen a2))
    (sel (oIn a7 (lLen a2)) (
    sel (bAnd (sEq (lAt a2 a7).1.1 a4) (bAnd (sEq (lAt a2 a7).1.2.1 a5) (iEq (lAt a2 a7).1.2.2 a6)))
      (some (.inr (.inr a7)))
      (some (.inl ((a0, (a1, (a2, a3))), ((a4, (a5, a6)), (iAdd .i64 a7 1)))))) none)
    (some (.inr (.inl ())))
def L45_0 (x : (((List (Int × ByteArray)) × (Int × ((List ((ByteArray × (ByteArray × Int)) × (Int × Int))) × (List (Int × Int))))) × ((ByteArray × (ByteArray × Int)) × Int))) : Option (Unit ⊕ Int) := iter (fun (x : (((List (Int × ByteArray)) × (Int × ((List ((ByteArray × (ByteArray × Int)) × (Int × Int))) × (List (Int × Int))))) × ((ByteArray × (ByteArray × Int)) × Int))) => (B45_0 x.1.1 x.1.2.1 x.1.2.2.1 x.1.2.2.2 x.2.1.1 x.2.1.2.1 x.2.1.2.2 x.2.2)) fuel x
def lsL45_0 : LS := ⟨(.one .normal ⟨.non, [2, 3, 5], (.seq (.box 0 (.seq (.dat (.sl (.pr (.int .i64) .str))) (.seq (.dat (.int .i64)) (.seq (.dat (.sl (.pr (.pr .str (.pr .str (.int .i64))) (.pr (.int .i64) (.int .i64))))) (.dat (.sl (.pr (.int .i64) (.int .i64)))))))) (.seq (.box 1 (.seq (.dat .str) (.seq (.dat .str) (.dat (.int .i64))))) (.dat (.int .i64)))), 2, 22, 0⟩), (.two (.one (.exit 0) ⟨.non, [], .non, 0, 22, 0⟩) (.one .ret ⟨.non, [4], (.dat (.int .i64)), 0, 22, 0⟩)), fun (x : (((List (Int × ByteArray)) × (Int × ((List ((ByteArray × (ByteArray × Int)) × (Int × Int))) × (List (Int × Int))))) × ((ByteArray × (ByteArray × Int)) × Int))) => (B45_0 x.1.1 x.1.2.1 x.1.2.2.1 x.1.2.2.2 x.2.1.1 x.2.1.2.1 x.2.1.2.2 x.2.2)⟩
/-- midrangeref11.Place -/
def F45 (a0 : (((List (Int × ByteArray)) × Int) × ((List ((ByteArray × (ByteArray × Int)) × (Int × Int))) × (List (Int × Int))))) (a1 : (ByteArray × (ByteArray × Int))) : Option Int :=
  bndS (L45_0 ((a0.1.1, (a0.1.2, a0.2)), (a1, 0))) fun y0 =>
  sumS y0 (fun y0a =>
    some (-1)) fun y0b =>
    some y0b
def gF45 : FS := ⟨(.seq (.agg (.dat (.pr (.pr (.sl (.pr (.int .i64) .str)) (.int .i64)) (.pr (.sl (.pr (.pr .str (.pr .str (.int .i64))) (.pr (.int .i64) (.int .i64)))) (.sl (.pr (.int .i64) (.int .i64))))))) (.agg (.dat (.pr .str (.pr .str (.int .i64)))))), 0, (.one ⟨.non, (.dat (.int .i64)), 0, 0⟩), fun x => (F45 x.1 x.2)⟩
theorem rL45_0 (x : lsL45_0.hd.T) : kRound env (GofL []) (LofL [(45, [(0, lsL45_0)])]) 45 0 (lpOf Tryz.prog 45 0).2 (lsL45_0.hd.st x) lsL45_0.rd = lsL45_0.B x := by kernel_rfl
theorem eF45 (x : gF45.a.T) : kF env (GofL []) (LofL [(45, [(0, lsL45_0)])]) 45 (gF45.args x) (gF45.bs x) gF45.r.dec = gF45.F x := by kernel_rfl
theorem sF45 : SpecAt env 1 45 gF45 := mkSpec (r := 0) (gl := []) (L0 := [(0, lsL45_0)]) (by kernel_rfl) trivial ⟨⟨0, by kernel_rfl, by kernel_rfl, rL45_0⟩, trivial⟩ eF45 (fun h => absurd h (by rw [show env.nl 45 = false by kernel_rfl]; decide))
def B101_0 (a0 : (List (Int × ByteArray))) (a1 : Int) (a2 : (List (Int × ByteArray))) (a3 : Int) (a4 : Int) : Option ((((List (Int × ByteArray)) × Int) × (((List (Int × ByteArray)) × Int) × Int)) ⊕ (Unit ⊕ Bool)) :=
  sel (iLt a4 (lLen a0))
    (sel (oIn a4 (lLen a0)) (
    sel (oIn a4 (lLen a2)) (
    sel (bNot (bAnd (iEq (lAt a0 a4).1 (lAt a2 a4).1) (sEq (lAt a0 a4).2 (lAt a2 a4).2)))
      (some (.inr (.inr false)))
      (some (.inl ((a0, a1), ((a2, a3), (iAdd .i64 a4 1)))))) none) none)
    (some (.inr (.inl ())))
def L101_0 (x : (((List (Int × ByteArray)) × Int) × (((List (Int × ByteArray)) × Int) × Int))) : Option (Unit ⊕ Bool) := iter (fun (x : (((List (Int × ByteArray)) × Int) × (((List (Int × ByteArray)) × Int) × Int))) => (B101_0 x.1.1 x.1.2 x.2.1.1 x.2.1.2 x.2.2)) fuel x
def lsL101_0 : LS := ⟨(.one .normal ⟨.non, [2, 3, 5], (.seq (.box 0 (.seq (.dat (.sl (.pr (.int .i64) .str))) (.dat (.int .i64)))) (.seq (.box 1 (.seq (.dat (.sl (.pr (.int .i64) .str))) (.dat (.int .i64)))) (.dat (.int .i64)))), 2, 38, 0⟩), (.two (.one (.exit 0) ⟨.non, [], .non, 0, 38, 0⟩) (.one .ret ⟨.non, [4], (.dat .bool), 0, 38, 0⟩)), fun (x : (((List (Int × ByteArray)) × Int) × (((List (Int × ByteArray)) × Int) × Int))) => (B101_0 x.1.1 x.1.2 x.2.1.1 x.2.1.2 x.2.2)⟩
/-- midrangeref04.Same -/
def F101 (a0 : ((List (Int × ByteArray)) × Int)) (a1 : ((List (Int × ByteArray)) × Int)) : Option Bool :=
  sel (bOr (bNot (iEq a0.2 a1.2)) (bNot (iEq (lLen a0.1) (lLen a1.1))))
    (some false)
    (bndS (L101_0 (a0, (a1, 0))) fun y0 =>
    sumS y0 (fun y0a =>
      some true) fun y0b =>
      some y0b)
def gF101 : FS := ⟨(.seq (.agg (.dat (.pr (.sl (.pr (.int .i64) .str)) (.int .i64)))) (.agg (.dat (.pr (.sl (.pr (.int .i64) .str)) (.int .i64))))), 0, (.one ⟨.non, (.dat .bool), 0, 0⟩), fun x => (F101 x.1 x.2)⟩
theorem rL101_0 (x : lsL101_0.hd.T) : kRound env (GofL []) (LofL [(101, [(0, lsL101_0)])]) 101 0 (lpOf Tryz.prog 101 0).2 (lsL101_0.hd.st x) lsL101_0.rd = lsL101_0.B x := by kernel_rfl
theorem eF101 (x : gF101.a.T) : kF env (GofL []) (LofL [(101, [(0, lsL101_0)])]) 101 (gF101.args x) (gF101.bs x) gF101.r.dec = gF101.F x := by kernel_rfl
theorem sF101 : SpecAt env 1 101 gF101 := mkSpec (r := 0) (gl := []) (L0 := [(0, lsL101_0)]) (by kernel_rfl) trivial ⟨⟨0, by kernel_rfl, by kernel_rfl, rL101_0⟩, trivial⟩ eF101 (fun h => absurd h (by rw [show env.nl 101 = false by kernel_rfl]; decide))
def B43_0 (a0 : (List (Int × ByteArray))) (a1 : Int) (a2 : (List ((ByteArray × (ByteArray × Int)) × (Int × Int)))) (a3 : (List (Int × Int))) (a4 : (List (Int × ByteArray))) (a5 : Int) (a6 : (List ((ByteArray × (ByteArray × Int)) × (Int × Int)))) (a7 : (List (Int × Int))) (a8 : Int) : Option ((((List (Int × ByteArray)) × (Int × ((List ((ByteArray × (ByteArray × Int)) × (Int × Int))) × (List (Int × Int))))) × (((List (Int × ByteArray)) × (Int × ((List ((ByteArray × (ByteArray × Int)) × (Int × Int))) × (List (Int × Int))))) × Int)) ⊕ ((((List (Int × ByteArray)) × (Int × ((List ((ByteArray × (ByteArray × Int)) × (Int × Int))) × (List (Int × Int))))) × ((List (Int × ByteArray)) × (Int × ((List ((ByteArray × (ByteArray × Int)) × (Int × Int))) × (List (Int × Int)))))) ⊕ Bool)) :=
  sel (iLt a8 (lLen a2))
    (sel (oIn a8 (lLen a2)) (
    sel (oIn a8 (lLen a6)) (
    sel (bNot (bAnd (sEq (lAt a2 a8).1.1 (lAt a6 a8).1.1) (bAnd (sEq (lAt a2 a8).1.2.1 (lAt a6 a8).1.2.1) (bAnd (iEq (lAt a2 a8).1.2.2 (lAt a6 a8).1.2.2) (bAnd (iEq (lAt a2 a8).2.1 (lAt a6 a8).2.1) (iEq (lAt a2 a8).2.2 (lAt a6 a8).2.2))))))
      (some (.inr (.inr false)))
      (some (.inl ((a0, (a1, (a2, a3))), ((a4, (a5, (a6, a7))), (iAdd .i64 a8 1)))))) none) none)
    (some (.inr (.inl ((a0, (a1, (a2, a3))), (a4, (a5, (a6, a7)))))))
def L43_0 (x : (((List (Int × ByteArray)) × (Int × ((List ((ByteArray × (ByteArray × Int)) × (Int × Int))) × (List (Int × Int))))) × (((List (Int × ByteArray)) × (Int × ((List ((ByteArray × (ByteArray × Int)) × (Int × Int))) × (List (Int × Int))))) × Int))) : Option ((((List (Int × ByteArray)) × (Int × ((List ((ByteArray × (ByteArray × Int)) × (Int × Int))) × (List (Int × Int))))) × ((List (Int × ByteArray)) × (Int × ((List ((ByteArray × (ByteArray × Int)) × (Int × Int))) × (List (Int × Int)))))) ⊕ Bool) := iter (fun (x : (((List (Int × ByteArray)) × (Int × ((List ((ByteArray × (ByteArray × Int)) × (Int × Int))) × (List (Int × Int))))) × (((List (Int × ByteArray)) × (Int × ((List ((ByteArray × (ByteArray × Int)) × (Int × Int))) × (List (Int × Int))))) × Int))) => (B43_0 x.1.1 x.1.2.1 x.1.2.2.1 x.1.2.2.2 x.2.1.1 x.2.1.2.1 x.2.1.2.2.1 x.2.1.2.2.2 x.2.2)) fuel x
def lsL43_0 : LS := ⟨(.one .normal ⟨.non, [2, 3, 5], (.seq (.box 0 (.seq (.dat (.sl (.pr (.int .i64) .str))) (.seq (.dat (.int .i64)) (.seq (.dat (.sl (.pr (.pr .str (.pr .str (.int .i64))) (.pr (.int .i64) (.int .i64))))) (.dat (.sl (.pr (.int .i64) (.int .i64)))))))) (.seq (.box 1 (.seq (.dat (.sl (.pr (.int .i64) .str))) (.seq (.dat (.int .i64)) (.seq (.dat (.sl (.pr (.pr .str (.pr .str (.int .i64))) (.pr (.int .i64) (.int .i64))))) (.dat (.sl (.pr (.int .i64) (.int .i64)))))))) (.dat (.int .i64)))), 2, 67, 0⟩), (.two (.one (.exit 0) ⟨.non, [2, 3], (.seq (.box 0 (.seq (.dat (.sl (.pr (.int .i64) .str))) (.seq (.dat (.int .i64)) (.seq (.dat (.sl (.pr (.pr .str (.pr .str (.int .i64))) (.pr (.int .i64) (.int .i64))))) (.dat (.sl (.pr (.int .i64) (.int .i64)))))))) (.box 1 (.seq (.dat (.sl (.pr (.int .i64) .str))) (.seq (.dat (.int .i64)) (.seq (.dat (.sl (.pr (.pr .str (.pr .str (.int .i64))) (.pr (.int .i64) (.int .i64))))) (.dat (.sl (.pr (.int .i64) (.int .i64))))))))), 2, 67, 0⟩) (.one .ret ⟨.non, [4], (.dat .bool), 0, 67, 0⟩)), fun (x : (((List (Int × ByteArray)) × (Int × ((List ((ByteArray × (ByteArray × Int)) × (Int × Int))) × (List (Int × Int))))) × (((List (Int × ByteArray)) × (Int × ((List ((ByteArray × (ByteArray × Int)) × (Int × Int))) × (List (Int × Int))))) × Int))) => (B43_0 x.1.1 x.1.2.1 x.1.2.2.1 x.1.2.2.2 x.2.1.1 x.2.1.2.1 x.2.1.2.2.1 x.2.1.2.2.2 x.2.2)⟩
def B43_2 (a0 : (List (Int × ByteArray))) (a1 : Int) (a2 : (List ((ByteArray × (ByteArray × Int)) × (Int × Int)))) (a3 : (List (Int × Int))) (a4 : (List (Int × ByteArray))) (a5 : Int) (a6 : (List ((ByteArray × (ByteArray × Int)) × (Int × Int)))) (a7 : (List (Int × Int))) (a8 : Int) : Option ((((List (Int × ByteArray)) × (Int × ((List ((ByteArray × (ByteArray × Int)) × (Int × Int))) × (List (Int × Int))))) × (((List (Int × ByteArray)) × (Int × ((List ((ByteArray × (ByteArray × Int)) × (Int × Int))) × (List (Int × Int))))) × Int)) ⊕ (Unit ⊕ Bool)) :=
  sel (iLt a8 (lLen a3))
    (sel (oIn a8 (lLen a3)) (
    sel (oIn a8 (lLen a7)) (
    sel (bNot (bAnd (iEq (lAt a3 a8).1 (lAt a7 a8).1) (iEq (lAt a3 a8).2 (lAt a7 a8).2)))
      (some (.inr (.inr false)))
      (some (.inl ((a0, (a1, (a2, a3))), ((a4, (a5, (a6, a7))), (iAdd .i64 a8 1)))))) none) none)
    (some (.inr (.inl ())))
def L43_2 (x : (((List (Int × ByteArray)) × (Int × ((List ((ByteArray × (ByteArray × Int)) × (Int × Int))) × (List (Int × Int))))) × (((List (Int × ByteArray)) × (Int × ((List ((ByteArray × (ByteArray × Int)) × (Int × Int))) × (List (Int × Int))))) × Int))) : Option (Unit ⊕ Bool) := iter (fun (x : (((List (Int × ByteArray)) × (Int × ((List ((ByteArray × (ByteArray × Int)) × (Int × Int))) × (List (Int × Int))))) × (((List (Int × ByteArray)) × (Int × ((List ((ByteArray × (ByteArray × Int)) × (Int × Int))) × (List (Int × Int))))) × Int))) => (B43_2 x.1.1 x.1.2.1 x.1.2.2.1 x.1.2.2.2 x.2.1.1 x.2.1.2.1 x.2.1.2.2.1 x.2.1.2.2.2 x.2.2)) fuel x
def lsL43_2 : LS := ⟨(.one .normal ⟨.non, [2, 3, 6], (.seq (.box 0 (.seq (.dat (.sl (.pr (.int .i64) .str))) (.seq (.dat (.int .i64)) (.seq (.dat (.sl (.pr (.pr .str (.pr .str (.int .i64))) (.pr (.int .i64) (.int .i64))))) (.dat (.sl (.pr (.int .i64) (.int .i64)))))))) (.seq (.box 1 (.seq (.dat (.sl (.pr (.int .i64) .str))) (.seq (.dat (.int .i64)) (.seq (.dat (.sl (.pr (.pr .str (.pr .str (.int .i64))) (.pr (.int .i64) (.int .i64))))) (.dat (.sl (.pr (.int .i64) (.int .i64)))))))) (.dat (.int .i64)))), 2, 67, 0⟩), (.two (.one (.exit 2) ⟨.non, [], .non, 0, 67, 0⟩) (.one .ret ⟨.non, [4], (.dat .bool), 0, 67, 0⟩)), fun (x : (((List (Int × ByteArray)) × (Int × ((List ((ByteArray × (ByteArray × Int)) × (Int × Int))) × (List (Int × Int))))) × (((List (Int × ByteArray)) × (Int × ((List ((ByteArray × (ByteArray × Int)) × (Int × Int))) × (List (Int × Int))))) × Int))) => (B43_2 x.1.1 x.1.2.1 x.1.2.2.1 x.1.2.2.2 x.2.1.1 x.2.1.2.1 x.2.1.2.2.1 x.2.1.2.2.2 x.2.2)⟩
/-- midrangeref11.Same -/
def F43 (a0 : (((List (Int × ByteArray)) × Int) × ((List ((ByteArray × (ByteArray × Int)) × (Int × Int))) × (List (Int × Int))))) (a1 : (((List (Int × ByteArray)) × Int) × ((List ((ByteArray × (ByteArray × Int)) × (Int × Int))) × (List (Int × Int))))) : Option Bool :=
  bndS (F101 a0.1 a1.1) fun y0 =>
  sel (bOr (bOr (bNot y0) (bNot (iEq (lLen a0.2.1) (lLen a1.2.1)))) (bNot (iEq (lLen a0.2.2) (lLen a1.2.2))))
    (some false)
    (bndS (L43_0 ((a0.1.1, (a0.1.2, a0.2)), ((a1.1.1, (a1.1.2, a1.2)), 0))) fun y1 =>
    sumS y1 (fun y1a =>
      bndS (L43_2 (y1a.1, (y1a.2, 0))) fun y2 =>
      sumS y2 (fun y2a =>
        some true) fun y2b =>
        some y2b) fun y1b =>
      some y1b)
def gF43 : FS := ⟨(.seq (.agg (.dat (.pr (.pr (.sl (.pr (.int .i64) .str)) (.int .i64)) (.pr (.sl (.pr (.pr .str (.pr .str (.int .i64))) (.pr (.int .i64) (.int .i64)))) (.sl (.pr (.int .i64) (.int .i64))))))) (.agg (.dat (.pr (.pr (.sl (.pr (.int .i64) .str)) (.int .i64)) (.pr (.sl (.pr (.pr .str (.pr .str (.int .i64))) (.pr (.int .i64) (.int .i64)))) (.sl (.pr (.int .i64) (.int .i64)))))))), 0, (.one ⟨.non, (.dat .bool), 0, 0⟩), fun x => (F43 x.1 x.2)⟩
theorem rL43_0 (x : lsL43_0.hd.T) : kRound env (GofL [(101, [gF101])]) (LofL [(43, [(0, lsL43_0), (2, lsL43_2)])]) 43 0 (lpOf Tryz.prog 43 0).2 (lsL43_0.hd.st x) lsL43_0.rd = lsL43_0.B x := by kernel_rfl
theorem rL43_2 (x : lsL43_2.hd.T) : kRound env (GofL [(101, [gF101])]) (LofL [(43, [(0, lsL43_0), (2, lsL43_2)])]) 43 2 (lpOf Tryz.prog 43 1).2 (lsL43_2.hd.st x) lsL43_2.rd = lsL43_2.B x := by kernel_rfl
theorem eF43 (x : gF43.a.T) : kF env (GofL [(101, [gF101])]) (LofL [(43, [(0, lsL43_0), (2, lsL43_2)])]) 43 (gF43.args x) (gF43.bs x) gF43.r.dec = gF43.F x := by kernel_rfl
theorem sF43 : SpecAt env 2 43 gF43 := mkSpec (r := 1) (gl := [(101, [gF101])]) (L0 := [(0, lsL43_0), (2, lsL43_2)]) (by kernel_rfl) ⟨⟨sF101.up (by decide), trivial⟩, trivial⟩ ⟨⟨0, by kernel_rfl, by kernel_rfl, rL43_0⟩, ⟨1, by kernel_rfl, by kernel_rfl, rL43_2⟩, trivial⟩ eF43 (fun h => absurd h (by rw [show env.nl 43 = false by kernel_rfl]; decide))
/-- midrangelaw11.is -/
def F23 (a0 : (((List (Int × ByteArray)) × Int) × ((List ((ByteArray × (ByteArray × Int)) × (Int × Int))) × (List (Int × Int))))) (a1 : Int) (a2 : ((((List (Int × ByteArray)) × Int) × ((List ((ByteArray × (ByteArray × Int)) × (Int × Int))) × (List (Int × Int)))) × ((List (Int × (Int × (Int × (ByteArray × (ByteArray × Int)))))) × (Int × Int)))) : Option Bool :=
  sel (bOr (okS (F43 a0 a2.1)) (bNot (iEq a1 a2.2.2.2))) (
  letS (valS (F43 a0 a2.1) false) fun y0 =>
  some (bAnd (iEq a1 a2.2.2.2) y0)) none
def gF23 : FS := ⟨(.seq (.agg (.dat (.pr (.pr (.sl (.pr (.int .i64) .str)) (.int .i64)) (.pr (.sl (.pr (.pr .str (.pr .str (.int .i64))) (.pr (.int .i64) (.int .i64)))) (.sl (.pr (.int .i64) (.int .i64))))))) (.seq (.dat (.int .i64)) (.agg (.dat (.pr (.pr (.pr (.sl (.pr (.int .i64) .str)) (.int .i64)) (.pr (.sl (.pr (.pr .str (.pr .str (.int .i64))) (.pr (.int .i64) (.int .i64)))) (.sl (.pr (.int .i64) (.int .i64))))) (.pr (.sl (.pr (.int .i64) (.pr (.int .i64) (.pr (.int .i64) (.pr .str (.pr .str (.int .i64))))))) (.pr (.int .i64) (.int .i64)))))))), 0, (.one ⟨.non, (.dat .bool), 0, 0⟩), fun x => (F23 x.1 x.2.1 x.2.2)⟩
theorem eF23 (x : gF23.a.T) : kF env (GofL [(43, [gF43])]) (LofL [(23, [])]) 23 (gF23.args x) (gF23.bs x) gF23.r.dec = gF23.F x := by kernel_rfl
theorem sF23 : SpecAt env 3 23 gF23 := mkSpec (r := 2) (gl := [(43, [gF43])]) (L0 := []) (by kernel_rfl) ⟨⟨sF43.up (by decide), trivial⟩, trivial⟩ trivial eF23 (fun h => absurd h (by rw [show env.nl 23 = false by kernel_rfl]; decide))
end
end Go.Proofs.YtiddpfhpmodfbaaGreatDoor.K
end

section
set_option linter.unusedVariables false
set_option linter.unusedSimpArgs false
set_option linter.unnecessarySimpa false
open Go Go.Ev Go.Proofs
namespace Go.Proofs.YtiddpfhpmodfbaaGreatDoor.K
set_option linter.unusedVariables false
set_option maxRecDepth 100000
noncomputable section
/-- midrangeref04.NumberErr -/
def F177 (a0 : ((List (Int × ByteArray)) × Int)) (a1 : Int) : Option Int :=
  bndS (F28 a0 a1) fun y0 =>
  sel (bNot (iEq y0 (-1)))
    (some 0)
    (letS (F35 a1 1 (iSub .i64 a0.2 1)) fun y1 =>
    sel y1
      (some 24)
      (some 11))
def gF177 : FS := ⟨(.seq (.agg (.dat (.pr (.sl (.pr (.int .i64) .str)) (.int .i64)))) (.dat (.int .i64))), 0, (.one ⟨.non, (.dat (.int .i64)), 0, 0⟩), fun x => (F177 x.1 x.2)⟩
theorem eF177 (x : gF177.a.T) : kF env (GofL [(35, [gF35]), (28, [gF28])]) (LofL [(177, [])]) 177 (gF177.args x) (gF177.bs x) gF177.r.dec = gF177.F x := by kernel_rfl
theorem sF177 : SpecAt env 2 177 gF177 := mkSpec (r := 1) (gl := [(35, [gF35]), (28, [gF28])]) (L0 := []) (by kernel_rfl) ⟨⟨sF35.up (by decide), trivial⟩, ⟨sF28.up (by decide), trivial⟩, trivial⟩ trivial eF177 (fun h => absurd h (by rw [show env.nl 177 = false by kernel_rfl]; decide))
/-- midrangeref04.known -/
def F147 (a0 : ((List (Int × ByteArray)) × Int)) (a1 : Int) : Option (Int × Int) :=
  bndS (F65 a0) fun y0 =>
  sel (bNot (iEq y0 0))
    (some ((-1), y0))
    (bndS (F28 a0 a1) fun y1 =>
    bndS (F177 a0 a1) fun y2 =>
    some (y1, y2))
def gF147 : FS := ⟨(.seq (.agg (.dat (.pr (.sl (.pr (.int .i64) .str)) (.int .i64)))) (.dat (.int .i64))), 0, (.one ⟨.non, (.tup (.seq (.dat (.int .i64)) (.dat (.int .i64)))), 0, 0⟩), fun x => (F147 x.1 x.2)⟩
theorem eF147 (x : gF147.a.T) : kF env (GofL [(177, [gF177]), (28, [gF28]), (65, [gF65])]) (LofL [(147, [])]) 147 (gF147.args x) (gF147.bs x) gF147.r.dec = gF147.F x := by kernel_rfl
theorem sF147 : SpecAt env 4 147 gF147 := mkSpec (r := 3) (gl := [(177, [gF177]), (28, [gF28]), (65, [gF65])]) (L0 := []) (by kernel_rfl) ⟨⟨sF177.up (by decide), trivial⟩, ⟨sF28.up (by decide), trivial⟩, ⟨sF65.up (by decide), trivial⟩, trivial⟩ trivial eF147 (fun h => absurd h (by rw [show env.nl 147 = false by kernel_rfl]; decide))
/-- midrangeref04.reach -/
def F145 (a0 : ((List (Int × ByteArray)) × Int)) (a1 : (Int × Int)) (a2 : Int) : Option (Int × Int) :=
  bndS (F147 a0 a1.1) fun y0 =>
  sel (bNot (iEq y0.2 0))
    (some y0)
    (sel (oIn y0.1 (lLen a0.1)) (
    letS (F35 a1.2 0 (sLen (lAt a0.1 y0.1).2)) fun y1 =>
    letS (F35 a2 0 (iSub .i64 (sLen (lAt a0.1 y0.1).2) a1.2)) fun y2 =>
    sel (bOr (bNot y1) (bNot y2))
      (some (y0.1, 3))
      (some (y0.1, 0))) none)
def gF145 : FS := ⟨(.seq (.agg (.dat (.pr (.sl (.pr (.int .i64) .str)) (.int .i64)))) (.seq (.agg (.dat (.pr (.int .i64) (.int .i64)))) (.dat (.int .i64)))), 0, (.one ⟨.non, (.tup (.seq (.dat (.int .i64)) (.dat (.int .i64)))), 0, 0⟩), fun x => (F145 x.1 x.2.1 x.2.2)⟩
theorem eF145 (x : gF145.a.T) : kF env (GofL [(35, [gF35]), (147, [gF147])]) (LofL [(145, [])]) 145 (gF145.args x) (gF145.bs x) gF145.r.dec = gF145.F x := by kernel_rfl
theorem sF145 : SpecAt env 5 145 gF145 := mkSpec (r := 4) (gl := [(35, [gF35]), (147, [gF147])]) (L0 := []) (by kernel_rfl) ⟨⟨sF35.up (by decide), trivial⟩, ⟨sF147.up (by decide), trivial⟩, trivial⟩ trivial eF145 (fun h => absurd h (by rw [show env.nl 145 = false by kernel_rfl]; decide))
/-- midrangebase.Patched -/
def F127 (a0 : ByteArray) (a1 : Int) (a2 : ByteArray) : Option ByteArray :=
  sel (oCut 0 a1 (sLen a0)) (
  sel (sOk (sCut a0 0 a1) a2) (
  sel (oCut (iAdd .i64 a1 (sLen a2)) (sLen a0) (sLen a0)) (
  sel (sOk (sAdd (sCut a0 0 a1) a2) (sCut a0 (iAdd .i64 a1 (sLen a2)) (sLen a0))) (
  some (sAdd (sAdd (sCut a0 0 a1) a2) (sCut a0 (iAdd .i64 a1 (sLen a2)) (sLen a0)))) none) none) none) none
def gF127 : FS := ⟨(.seq (.dat .str) (.seq (.dat (.int .i64)) (.dat .str))), 0, (.one ⟨.non, (.dat .str), 0, 0⟩), fun x => (F127 x.1 x.2.1 x.2.2)⟩
theorem eF127 (x : gF127.a.T) : kF env (GofL []) (LofL [(127, [])]) 127 (gF127.args x) (gF127.bs x) gF127.r.dec = gF127.F x := by kernel_rfl
theorem sF127 : SpecAt env 1 127 gF127 := mkSpec (r := 0) (gl := []) (L0 := []) (by kernel_rfl) trivial trivial eF127 (fun h => absurd h (by rw [show env.nl 127 = false by kernel_rfl]; decide))
/-- midrangeref04.with -/
def F146 (a0 : ((List (Int × ByteArray)) × Int)) (a1 : Int) (a2 : ByteArray) : Option ((List (Int × ByteArray)) × Int) :=
  bndS (F64 a0) fun y0 =>
  sel (oIn a1 (lLen y0.1)) (
  some ((lSet y0.1 a1 ((lAt y0.1 a1).1, a2)), y0.2)) none
def gF146 : FS := ⟨(.seq (.agg (.dat (.pr (.sl (.pr (.int .i64) .str)) (.int .i64)))) (.seq (.dat (.int .i64)) (.dat .str))), 0, (.one ⟨.non, (.agg (.seq (.own 0 (.pr (.int .i64) .str)) (.dat (.int .i64)))), 0, 1⟩), fun x => (F146 x.1 x.2.1 x.2.2)⟩
theorem eF146 (x : gF146.a.T) : kF env (GofL [(64, [gF64])]) (LofL [(146, [])]) 146 (gF146.args x) (gF146.bs x) gF146.r.dec = gF146.F x := by kernel_rfl
theorem sF146 : SpecAt env 2 146 gF146 := mkSpec (r := 1) (gl := [(64, [gF64])]) (L0 := []) (by kernel_rfl) ⟨⟨sF64.up (by decide), trivial⟩, trivial⟩ trivial eF146 (fun h => absurd h (by rw [show env.nl 146 = false by kernel_rfl]; decide))
/-- midrangeref04.Written -/
def F92 (a0 : ((List (Int × ByteArray)) × Int)) (a1 : (Int × Int)) (a2 : ByteArray) : Option ((List (Int × ByteArray)) × (Int × (Int × (ByteArray × Int)))) :=
  bndS (F145 a0 a1 (sLen a2)) fun y0 =>
  sel (bNot (iEq y0.2 0))
    (some (([] : List (Int × ByteArray)), (0, (0, ((bs []), y0.2)))))
    (sel (oIn y0.1 (lLen a0.1)) (
    bndS (F127 (lAt a0.1 y0.1).2 a1.2 a2) fun y1 =>
    bndS (F146 a0 y0.1 y1) fun y2 =>
    some (y2.1, (y2.2, (0, ((bs []), 0))))) none)
def gF92 : FS := ⟨(.seq (.agg (.dat (.pr (.sl (.pr (.int .i64) .str)) (.int .i64)))) (.seq (.agg (.dat (.pr (.int .i64) (.int .i64)))) (.dat .str))), 0, (.one ⟨.non, (.agg (.seq (.own 0 (.pr (.int .i64) .str)) (.seq (.dat (.int .i64)) (.seq (.dat (.int .i64)) (.seq (.dat .str) (.dat (.int .i64))))))), 0, 1⟩), fun x => (F92 x.1 x.2.1 x.2.2)⟩
theorem eF92 (x : gF92.a.T) : kF env (GofL [(146, [gF146]), (127, [gF127]), (145, [gF145])]) (LofL [(92, [])]) 92 (gF92.args x) (gF92.bs x) gF92.r.dec = gF92.F x := by kernel_rfl
theorem sF92 : SpecAt env 6 92 gF92 := mkSpec (r := 5) (gl := [(146, [gF146]), (127, [gF127]), (145, [gF145])]) (L0 := []) (by kernel_rfl) ⟨⟨sF146.up (by decide), trivial⟩, ⟨sF127.up (by decide), trivial⟩, ⟨sF145.up (by decide), trivial⟩, trivial⟩ trivial eF92 (fun h => absurd h (by rw [show env.nl 92 = false by kernel_rfl]; decide))
def B93_0 (a0 : (List (Int × ByteArray))) (a1 : (List ((ByteArray × (ByteArray × Int)) × (Int × Int)))) (a2 : (List (Int × Int))) (a3 : Int) (a4 : ByteArray) (a5 : ByteArray) (a6 : Int) (a7 : Int) (a8 : Int) (a9 : Int) (a10 : (List ((ByteArray × (ByteArray × Int)) × (Int × Int)))) (a11 : Bool) (a12 : Int) : Option ((((List (Int × ByteArray)) × ((List ((ByteArray × (ByteArray × Int)) × (Int × Int))) × (List (Int × Int)))) × (Int × ((ByteArray × (ByteArray × (Int × (Int × Int)))) × (Int × ((List ((ByteArray × (ByteArray × Int)) × (Int × Int))) × (Bool × Int)))))) ⊕ (((List (Int × ByteArray)) × ((List ((ByteArray × (ByteArray × Int)) × (Int × Int))) × (List (Int × Int)))) × (Int × ((ByteArray × (ByteArray × (Int × (Int × Int)))) × (Int × ((List ((ByteArray × (ByteArray × Int)) × (Int × Int))) × Bool)))))) :=
  sel (iLt a12 (lLen a1))
    (sel (bOr (oIn a12 (lLen a1)) (bNot (bNot a11))) (
    sel (bOr (okS (F115 (a4, (a5, a6)) (lAt a1 a12).1)) (bNot (bNot a11))) (
    letS (valS (F115 (a4, (a5, a6)) (lAt a1 a12).1) false) fun y0 =>
    sel (bAnd (bNot a11) y0)
      (sel (lCap 56 (lApp a10 [((a4, (a5, a6)), (a7, a8))])) (
      sel (oIn a12 (lLen a1)) (
      sel (lCap 56 (lApp (lApp a10 [((a4, (a5, a6)), (a7, a8))]) [(lAt a1 a12)])) (
      some (.inl ((a0, (a1, a2)), (a3, ((a4, (a5, (a6, (a7, a8)))), (a9, ((lApp (lApp a10 [((a4, (a5, a6)), (a7, a8))]) [(lAt a1 a12)]), (true, (iAdd .i64 a12 1))))))))) none) none) none)
      (sel (oIn a12 (lLen a1)) (
      sel (lCap 56 (lApp a10 [(lAt a1 a12)])) (
      some (.inl ((a0, (a1, a2)), (a3, ((a4, (a5, (a6, (a7, a8)))), (a9, ((lApp a10 [(lAt a1 a12)]), (a11, (iAdd .i64 a12 1))))))))) none) none)) none) none)
    (some (.inr ((a0, (a1, a2)), (a3, ((a4, (a5, (a6, (a7, a8)))), (a9, (a10, a11)))))))
def L93_0 (x : (((List (Int × ByteArray)) × ((List ((ByteArray × (ByteArray × Int)) × (Int × Int))) × (List (Int × Int)))) × (Int × ((ByteArray × (ByteArray × (Int × (Int × Int)))) × (Int × ((List ((ByteArray × (ByteArray × Int)) × (Int × Int))) × (Bool × Int))))))) : Option (((List (Int × ByteArray)) × ((List ((ByteArray × (ByteArray × Int)) × (Int × Int))) × (List (Int × Int)))) × (Int × ((ByteArray × (ByteArray × (Int × (Int × Int)))) × (Int × ((List ((ByteArray × (ByteArray × Int)) × (Int × Int))) × Bool))))) := iter (fun (x : (((List (Int × ByteArray)) × ((List ((ByteArray × (ByteArray × Int)) × (Int × Int))) × (List (Int × Int)))) × (Int × ((ByteArray × (ByteArray × (Int × (Int × Int)))) × (Int × ((List ((ByteArray × (ByteArray × Int)) × (Int × Int))) × (Bool × Int))))))) => (B93_0 x.1.1 x.1.2.1 x.1.2.2 x.2.1 x.2.2.1.1 x.2.2.1.2.1 x.2.2.1.2.2.1 x.2.2.1.2.2.2.1 x.2.2.1.2.2.2.2 x.2.2.2.1 x.2.2.2.2.1 x.2.2.2.2.2.1 x.2.2.2.2.2.2)) fuel x
def lsL93_0 : LS := ⟨(.one .normal ⟨(.seq (.own 0 (.pr (.int .i64) .str)) (.seq (.own 1 (.pr (.pr .str (.pr .str (.int .i64))) (.pr (.int .i64) (.int .i64)))) (.own 2 (.pr (.int .i64) (.int .i64))))), [2, 3, 4, 5, 6, 7], (.seq (.box 3 (.seq (.alo 0) (.seq (.dat (.int .i64)) (.seq (.alo 1) (.alo 2))))) (.seq (.box 4 (.seq (.dat .str) (.seq (.dat .str) (.seq (.dat (.int .i64)) (.seq (.dat (.int .i64)) (.dat (.int .i64))))))) (.seq (.box 5 (.seq (.lit (.slice none 0 0)) (.seq (.dat (.int .i64)) (.seq (.lit (.slice none 0 0)) (.lit (.slice none 0 0)))))) (.seq (.own 6 (.pr (.pr .str (.pr .str (.int .i64))) (.pr (.int .i64) (.int .i64)))) (.seq (.dat .bool) (.dat (.int .i64))))))), 7, 49, 3⟩), (.one (.exit 0) ⟨(.seq (.own 0 (.pr (.int .i64) .str)) (.seq (.own 1 (.pr (.pr .str (.pr .str (.int .i64))) (.pr (.int .i64) (.int .i64)))) (.own 2 (.pr (.int .i64) (.int .i64))))), [2, 3, 4, 5, 6], (.seq (.box 3 (.seq (.alo 0) (.seq (.dat (.int .i64)) (.seq (.alo 1) (.alo 2))))) (.seq (.box 4 (.seq (.dat .str) (.seq (.dat .str) (.seq (.dat (.int .i64)) (.seq (.dat (.int .i64)) (.dat (.int .i64))))))) (.seq (.box 5 (.seq (.lit (.slice none 0 0)) (.seq (.dat (.int .i64)) (.seq (.lit (.slice none 0 0)) (.lit (.slice none 0 0)))))) (.seq (.own 6 (.pr (.pr .str (.pr .str (.int .i64))) (.pr (.int .i64) (.int .i64)))) (.dat .bool))))), 7, 49, 3⟩), fun (x : (((List (Int × ByteArray)) × ((List ((ByteArray × (ByteArray × Int)) × (Int × Int))) × (List (Int × Int)))) × (Int × ((ByteArray × (ByteArray × (Int × (Int × Int)))) × (Int × ((List ((ByteArray × (ByteArray × Int)) × (Int × Int))) × (Bool × Int))))))) => (B93_0 x.1.1 x.1.2.1 x.1.2.2 x.2.1 x.2.2.1.1 x.2.2.1.2.1 x.2.2.1.2.2.1 x.2.2.1.2.2.2.1 x.2.2.1.2.2.2.2 x.2.2.2.1 x.2.2.2.2.1 x.2.2.2.2.2.1 x.2.2.2.2.2.2)⟩
/-- midrangeref11.put -/
def F93 (a0 : (List (Int × ByteArray))) (a1 : Int) (a2 : (List ((ByteArray × (ByteArray × Int)) × (Int × Int)))) (a3 : (List (Int × Int))) (a4 : ((ByteArray × (ByteArray × Int)) × (Int × Int))) : Option ((List ((ByteArray × (ByteArray × Int)) × (Int × Int))) × ((List (Int × ByteArray)) × (Int × ((List ((ByteArray × (ByteArray × Int)) × (Int × Int))) × (List (Int × Int)))))) :=
  bndS (L93_0 ((a0, (a2, a3)), (a1, ((a4.1.1, (a4.1.2.1, (a4.1.2.2, a4.2))), (0, (([] : List ((ByteArray × (ByteArray × Int)) × (Int × Int))), (false, 0))))))) fun y0 =>
  sel (bNot y0.2.2.2.2.2)
    (sel (lCap 56 (lApp y0.2.2.2.2.1 [((y0.2.2.1.1, (y0.2.2.1.2.1, y0.2.2.1.2.2.1)), y0.2.2.1.2.2.2)])) (
    some (y0.1.2.1, (y0.1.1, (y0.2.1, ((lApp y0.2.2.2.2.1 [((y0.2.2.1.1, (y0.2.2.1.2.1, y0.2.2.1.2.2.1)), y0.2.2.1.2.2.2)]), y0.1.2.2))))) none)
    (some (y0.1.2.1, (y0.1.1, (y0.2.1, (y0.2.2.2.2.1, y0.1.2.2)))))
def gF93 : FS := ⟨(.seq (.agg (.seq (.own 0 (.pr (.int .i64) .str)) (.seq (.dat (.int .i64)) (.seq (.own 1 (.pr (.pr .str (.pr .str (.int .i64))) (.pr (.int .i64) (.int .i64)))) (.own 2 (.pr (.int .i64) (.int .i64))))))) (.agg (.dat (.pr (.pr .str (.pr .str (.int .i64))) (.pr (.int .i64) (.int .i64)))))), 3, (.one ⟨(.own 1 (.pr (.pr .str (.pr .str (.int .i64))) (.pr (.int .i64) (.int .i64)))), (.agg (.seq (.own 3 (.pr (.int .i64) .str)) (.seq (.dat (.int .i64)) (.seq (.own 4 (.pr (.pr .str (.pr .str (.int .i64))) (.pr (.int .i64) (.int .i64)))) (.own 5 (.pr (.int .i64) (.int .i64))))))), 3, 3⟩), fun x => (F93 x.1.1 x.1.2.1 x.1.2.2.1 x.1.2.2.2 x.2)⟩
theorem rL93_0 (x : lsL93_0.hd.T) : kRound env (GofL [(115, [gF115])]) (LofL [(93, [(0, lsL93_0)])]) 93 0 (lpOf Tryz.prog 93 0).2 (lsL93_0.hd.st x) lsL93_0.rd = lsL93_0.B x := by kernel_rfl
theorem eF93 (x : gF93.a.T) : kF env (GofL [(115, [gF115])]) (LofL [(93, [(0, lsL93_0)])]) 93 (gF93.args x) (gF93.bs x) gF93.r.dec = gF93.F x := by kernel_rfl
theorem sF93 : SpecAt env 2 93 gF93 := mkSpec (r := 1) (gl := [(115, [gF115])]) (L0 := [(0, lsL93_0)]) (by kernel_rfl) ⟨⟨sF115.up (by decide), trivial⟩, trivial⟩ ⟨⟨0, by kernel_rfl, by kernel_rfl, rL93_0⟩, trivial⟩ eF93 (fun h => absurd h (by rw [show env.nl 93 = false by kernel_rfl]; decide))
/-- midrangeref04.Destroyed -/
def F95 (a0 : ((List (Int × ByteArray)) × Int)) (a1 : Int) : Option ((List (Int × ByteArray)) × (Int × (Int × (ByteArray × Int)))) :=
  bndS (F147 a0 a1) fun y0 =>
  sel (bNot (iEq y0.2 0))
    (some (([] : List (Int × ByteArray)), (0, (0, ((bs []), y0.2)))))
    (bndS (F64 a0) fun y1 =>
    sel (oCut 0 y0.1 (lLen y1.1)) (
    sel (oCut (iAdd .i64 y0.1 1) (lLen y1.1) (lLen y1.1)) (
    sel (iLe (pAdd y0.1 (lLen (lCut y1.1 (iAdd .i64 y0.1 1) (lLen y1.1)))) (lLen y1.1)) (
    some ((lCut (lCpy y1.1 y0.1 (pAdd y0.1 (lLen (lCut y1.1 (iAdd .i64 y0.1 1) (lLen y1.1)))) (lCut y1.1 (iAdd .i64 y0.1 1) (lLen y1.1))) 0 (pAdd y0.1 (lLen (lCut y1.1 (iAdd .i64 y0.1 1) (lLen y1.1))))), (y1.2, (0, ((bs []), 0))))) none) none) none)
def gF95 : FS := ⟨(.seq (.agg (.dat (.pr (.sl (.pr (.int .i64) .str)) (.int .i64)))) (.dat (.int .i64))), 0, (.one ⟨.non, (.agg (.seq (.own 0 (.pr (.int .i64) .str)) (.seq (.dat (.int .i64)) (.seq (.dat (.int .i64)) (.seq (.dat .str) (.dat (.int .i64))))))), 0, 1⟩), fun x => (F95 x.1 x.2)⟩
theorem eF95 (x : gF95.a.T) : kF env (GofL [(64, [gF64]), (147, [gF147])]) (LofL [(95, [])]) 95 (gF95.args x) (gF95.bs x) gF95.r.dec = gF95.F x := by kernel_rfl
theorem sF95 : SpecAt env 5 95 gF95 := mkSpec (r := 4) (gl := [(64, [gF64]), (147, [gF147])]) (L0 := []) (by kernel_rfl) ⟨⟨sF64.up (by decide), trivial⟩, ⟨sF147.up (by decide), trivial⟩, trivial⟩ trivial eF95 (fun h => absurd h (by rw [show env.nl 95 = false by kernel_rfl]; decide))
end
end Go.Proofs.YtiddpfhpmodfbaaGreatDoor.K
end

section
set_option linter.unusedVariables false
set_option linter.unusedSimpArgs false
set_option linter.unnecessarySimpa false
open Go Go.Ev Go.Proofs
namespace Go.Proofs.YtiddpfhpmodfbaaGreatDoor.K
set_option linter.unusedVariables false
set_option maxRecDepth 100000
noncomputable section
def B41_0h0 (a0 : (List (Int × ByteArray))) (a1 : Int) (a2 : (List ((ByteArray × (ByteArray × Int)) × (Int × Int)))) (a3 : (List (Int × Int))) (a4 : Int) (a5 : (List (Int × ByteArray))) (a6 : Int) (a7 : (List (Int × Int))) (a8 : (List (Int × (Int × (Int × (ByteArray × (ByteArray × Int))))))) (a9 : (List ((ByteArray × (ByteArray × Int)) × (Int × Int)))) (a10 : Int) (a11 : Int) : Option (((((List (Int × ByteArray)) × (Int × ((List ((ByteArray × (ByteArray × Int)) × (Int × Int))) × (List (Int × Int))))) × (Int × (((List (Int × ByteArray)) × (Int × (List (Int × Int)))) × ((List (Int × (Int × (Int × (ByteArray × (ByteArray × Int)))))) × ((List ((ByteArray × (ByteArray × Int)) × (Int × Int))) × (Int × Int)))))) ⊕ (((List (Int × ByteArray)) × (Int × ((List ((ByteArray × (ByteArray × Int)) × (Int × Int))) × (List (Int × Int))))) × (Int × (((List (Int × ByteArray)) × (Int × ((List ((ByteArray × (ByteArray × Int)) × (Int × Int))) × (List (Int × Int))))) × ((List (Int × (Int × (Int × (ByteArray × (ByteArray × Int)))))) × ((List ((ByteArray × (ByteArray × Int)) × (Int × Int))) × (Int × Int))))))) ⊕ ((((List (Int × ByteArray)) × (Int × ((List ((ByteArray × (ByteArray × Int)) × (Int × Int))) × (List (Int × Int))))) × (Int × (((List (Int × ByteArray)) × (Int × (List (Int × Int)))) × (List (Int × (Int × (Int × (ByteArray × (ByteArray × Int))))))))) ⊕ (((List (Int × ByteArray)) × (Int × ((List ((ByteArray × (ByteArray × Int)) × (Int × Int))) × (List (Int × Int))))) × (Int × (((List (Int × ByteArray)) × (Int × ((List ((ByteArray × (ByteArray × Int)) × (Int × Int))) × (List (Int × Int))))) × (List (Int × (Int × (Int × (ByteArray × (ByteArray × Int))))))))))) :=
  sel (iLt a11 a10)
    (sel (oIn a11 (lLen a9)) (
    bndS (F96 (a0, a1) (lAt a9 a11).2.1) fun y0 =>
    sel y0.2
      (sel (lCap 56 [(lAt a9 a11)]) (
      some (.inl (.inr ((a0, (a1, (a2, a3))), (a4, ((a5, (a6, ([(lAt a9 a11)], a7))), (a8, (a9, (a10, (iAdd .i64 a11 1)))))))))) none)
      (sel (lCap 64 (lApp a8 [(3, ((lAt a9 a11).2.1, (0, (lAt a9 a11).1)))])) (
      some (.inl (.inl ((a0, (a1, (a2, a3))), (a4, ((a5, (a6, a7)), ((lApp a8 [(3, ((lAt a9 a11).2.1, (0, (lAt a9 a11).1)))]), (a9, (a10, (iAdd .i64 a11 1)))))))))) none)) none)
    (some (.inr (.inl ((a0, (a1, (a2, a3))), (a4, ((a5, (a6, a7)), a8))))))
def B41_0h1 (a0 : (List (Int × ByteArray))) (a1 : Int) (a2 : (List ((ByteArray × (ByteArray × Int)) × (Int × Int)))) (a3 : (List (Int × Int))) (a4 : Int) (a5 : (List (Int × ByteArray))) (a6 : Int) (a7 : (List ((ByteArray × (ByteArray × Int)) × (Int × Int)))) (a8 : (List (Int × Int))) (a9 : (List (Int × (Int × (Int × (ByteArray × (ByteArray × Int))))))) (a10 : (List ((ByteArray × (ByteArray × Int)) × (Int × Int)))) (a11 : Int) (a12 : Int) : Option (((((List (Int × ByteArray)) × (Int × ((List ((ByteArray × (ByteArray × Int)) × (Int × Int))) × (List (Int × Int))))) × (Int × (((List (Int × ByteArray)) × (Int × (List (Int × Int)))) × ((List (Int × (Int × (Int × (ByteArray × (ByteArray × Int)))))) × ((List ((ByteArray × (ByteArray × Int)) × (Int × Int))) × (Int × Int)))))) ⊕ (((List (Int × ByteArray)) × (Int × ((List ((ByteArray × (ByteArray × Int)) × (Int × Int))) × (List (Int × Int))))) × (Int × (((List (Int × ByteArray)) × (Int × ((List ((ByteArray × (ByteArray × Int)) × (Int × Int))) × (List (Int × Int))))) × ((List (Int × (Int × (Int × (ByteArray × (ByteArray × Int)))))) × ((List ((ByteArray × (ByteArray × Int)) × (Int × Int))) × (Int × Int))))))) ⊕ ((((List (Int × ByteArray)) × (Int × ((List ((ByteArray × (ByteArray × Int)) × (Int × Int))) × (List (Int × Int))))) × (Int × (((List (Int × ByteArray)) × (Int × (List (Int × Int)))) × (List (Int × (Int × (Int × (ByteArray × (ByteArray × Int))))))))) ⊕ (((List (Int × ByteArray)) × (Int × ((List ((ByteArray × (ByteArray × Int)) × (Int × Int))) × (List (Int × Int))))) × (Int × (((List (Int × ByteArray)) × (Int × ((List ((ByteArray × (ByteArray × Int)) × (Int × Int))) × (List (Int × Int))))) × (List (Int × (Int × (Int × (ByteArray × (ByteArray × Int))))))))))) :=
  sel (iLt a12 a11)
    (sel (oIn a12 (lLen a10)) (
    bndS (F96 (a0, a1) (lAt a10 a12).2.1) fun y0 =>
    sel y0.2
      (sel (lCap 56 (lApp a7 [(lAt a10 a12)])) (
      some (.inl (.inr ((a0, (a1, (a2, a3))), (a4, ((a5, (a6, ((lApp a7 [(lAt a10 a12)]), a8))), (a9, (a10, (a11, (iAdd .i64 a12 1)))))))))) none)
      (sel (lCap 64 (lApp a9 [(3, ((lAt a10 a12).2.1, (0, (lAt a10 a12).1)))])) (
      some (.inl (.inr ((a0, (a1, (a2, a3))), (a4, ((a5, (a6, (a7, a8))), ((lApp a9 [(3, ((lAt a10 a12).2.1, (0, (lAt a10 a12).1)))]), (a10, (a11, (iAdd .i64 a12 1)))))))))) none)) none)
    (some (.inr (.inr ((a0, (a1, (a2, a3))), (a4, ((a5, (a6, (a7, a8))), a9))))))
def L41_0 (x : ((((List (Int × ByteArray)) × (Int × ((List ((ByteArray × (ByteArray × Int)) × (Int × Int))) × (List (Int × Int))))) × (Int × (((List (Int × ByteArray)) × (Int × (List (Int × Int)))) × ((List (Int × (Int × (Int × (ByteArray × (ByteArray × Int)))))) × ((List ((ByteArray × (ByteArray × Int)) × (Int × Int))) × (Int × Int)))))) ⊕ (((List (Int × ByteArray)) × (Int × ((List ((ByteArray × (ByteArray × Int)) × (Int × Int))) × (List (Int × Int))))) × (Int × (((List (Int × ByteArray)) × (Int × ((List ((ByteArray × (ByteArray × Int)) × (Int × Int))) × (List (Int × Int))))) × ((List (Int × (Int × (Int × (ByteArray × (ByteArray × Int)))))) × ((List ((ByteArray × (ByteArray × Int)) × (Int × Int))) × (Int × Int)))))))) : Option ((((List (Int × ByteArray)) × (Int × ((List ((ByteArray × (ByteArray × Int)) × (Int × Int))) × (List (Int × Int))))) × (Int × (((List (Int × ByteArray)) × (Int × (List (Int × Int)))) × (List (Int × (Int × (Int × (ByteArray × (ByteArray × Int))))))))) ⊕ (((List (Int × ByteArray)) × (Int × ((List ((ByteArray × (ByteArray × Int)) × (Int × Int))) × (List (Int × Int))))) × (Int × (((List (Int × ByteArray)) × (Int × ((List ((ByteArray × (ByteArray × Int)) × (Int × Int))) × (List (Int × Int))))) × (List (Int × (Int × (Int × (ByteArray × (ByteArray × Int)))))))))) := iter (fun (x : ((((List (Int × ByteArray)) × (Int × ((List ((ByteArray × (ByteArray × Int)) × (Int × Int))) × (List (Int × Int))))) × (Int × (((List (Int × ByteArray)) × (Int × (List (Int × Int)))) × ((List (Int × (Int × (Int × (ByteArray × (ByteArray × Int)))))) × ((List ((ByteArray × (ByteArray × Int)) × (Int × Int))) × (Int × Int)))))) ⊕ (((List (Int × ByteArray)) × (Int × ((List ((ByteArray × (ByteArray × Int)) × (Int × Int))) × (List (Int × Int))))) × (Int × (((List (Int × ByteArray)) × (Int × ((List ((ByteArray × (ByteArray × Int)) × (Int × Int))) × (List (Int × Int))))) × ((List (Int × (Int × (Int × (ByteArray × (ByteArray × Int)))))) × ((List ((ByteArray × (ByteArray × Int)) × (Int × Int))) × (Int × Int)))))))) => (sumS x (fun x => (B41_0h0 x.1.1 x.1.2.1 x.1.2.2.1 x.1.2.2.2 x.2.1 x.2.2.1.1 x.2.2.1.2.1 x.2.2.1.2.2 x.2.2.2.1 x.2.2.2.2.1 x.2.2.2.2.2.1 x.2.2.2.2.2.2)) fun x => (B41_0h1 x.1.1 x.1.2.1 x.1.2.2.1 x.1.2.2.2 x.2.1 x.2.2.1.1 x.2.2.1.2.1 x.2.2.1.2.2.1 x.2.2.1.2.2.2 x.2.2.2.1 x.2.2.2.2.1 x.2.2.2.2.2.1 x.2.2.2.2.2.2))) fuel x
def lsL41_0 : LS := ⟨(.two (.one .normal ⟨.non, [1, 2, 7, 8, 36, 37, 38], (.seq (.box 0 (.seq (.dat (.sl (.pr (.int .i64) .str))) (.seq (.dat (.int .i64)) (.seq (.dat (.sl (.pr (.pr .str (.pr .str (.int .i64))) (.pr (.int .i64) (.int .i64))))) (.dat (.sl (.pr (.int .i64) (.int .i64)))))))) (.seq (.box 1 (.seq (.lit (.slice none 0 0)) (.seq (.dat (.int .i64)) (.seq (.lit (.slice none 0 0)) (.lit (.slice none 0 0)))))) (.seq (.box 2 (.seq (.own 3 (.pr (.int .i64) .str)) (.seq (.dat (.int .i64)) (.seq (.lit (.slice none 0 0)) (.own 4 (.pr (.int .i64) (.int .i64))))))) (.seq (.own 5 (.pr (.int .i64) (.pr (.int .i64) (.pr (.int .i64) (.pr .str (.pr .str (.int .i64))))))) (.seq (.dat (.sl (.pr (.pr .str (.pr .str (.int .i64))) (.pr (.int .i64) (.int .i64))))) (.seq (.dat (.int .i64)) (.dat (.int .i64)))))))), 6, 142, 0⟩) (.one .normal ⟨.non, [1, 2, 7, 8, 36, 37, 38], (.seq (.box 0 (.seq (.dat (.sl (.pr (.int .i64) .str))) (.seq (.dat (.int .i64)) (.seq (.dat (.sl (.pr (.pr .str (.pr .str (.int .i64))) (.pr (.int .i64) (.int .i64))))) (.dat (.sl (.pr (.int .i64) (.int .i64)))))))) (.seq (.box 1 (.seq (.lit (.slice none 0 0)) (.seq (.dat (.int .i64)) (.seq (.lit (.slice none 0 0)) (.lit (.slice none 0 0)))))) (.seq (.box 2 (.seq (.own 3 (.pr (.int .i64) .str)) (.seq (.dat (.int .i64)) (.seq (.own 4 (.pr (.pr .str (.pr .str (.int .i64))) (.pr (.int .i64) (.int .i64)))) (.own 5 (.pr (.int .i64) (.int .i64))))))) (.seq (.own 6 (.pr (.int .i64) (.pr (.int .i64) (.pr (.int .i64) (.pr .str (.pr .str (.int .i64))))))) (.seq (.dat (.sl (.pr (.pr .str (.pr .str (.int .i64))) (.pr (.int .i64) (.int .i64))))) (.seq (.dat (.int .i64)) (.dat (.int .i64)))))))), 7, 142, 0⟩)), (.two (.one (.exit 0) ⟨.non, [1, 2, 7, 8], (.seq (.box 0 (.seq (.dat (.sl (.pr (.int .i64) .str))) (.seq (.dat (.int .i64)) (.seq (.dat (.sl (.pr (.pr .str (.pr .str (.int .i64))) (.pr (.int .i64) (.int .i64))))) (.dat (.sl (.pr (.int .i64) (.int .i64)))))))) (.seq (.box 1 (.seq (.lit (.slice none 0 0)) (.seq (.dat (.int .i64)) (.seq (.lit (.slice none 0 0)) (.lit (.slice none 0 0)))))) (.seq (.box 2 (.seq (.own 3 (.pr (.int .i64) .str)) (.seq (.dat (.int .i64)) (.seq (.lit (.slice none 0 0)) (.own 4 (.pr (.int .i64) (.int .i64))))))) (.own 5 (.pr (.int .i64) (.pr (.int .i64) (.pr (.int .i64) (.pr .str (.pr .str (.int .i64)))))))))), 6, 142, 0⟩) (.one (.exit 0) ⟨.non, [1, 2, 7, 8], (.seq (.box 0 (.seq (.dat (.sl (.pr (.int .i64) .str))) (.seq (.dat (.int .i64)) (.seq (.dat (.sl (.pr (.pr .str (.pr .str (.int .i64))) (.pr (.int .i64) (.int .i64))))) (.dat (.sl (.pr (.int .i64) (.int .i64)))))))) (.seq (.box 1 (.seq (.lit (.slice none 0 0)) (.seq (.dat (.int .i64)) (.seq (.lit (.slice none 0 0)) (.lit (.slice none 0 0)))))) (.seq (.box 2 (.seq (.own 3 (.pr (.int .i64) .str)) (.seq (.dat (.int .i64)) (.seq (.own 4 (.pr (.pr .str (.pr .str (.int .i64))) (.pr (.int .i64) (.int .i64)))) (.own 5 (.pr (.int .i64) (.int .i64))))))) (.own 6 (.pr (.int .i64) (.pr (.int .i64) (.pr (.int .i64) (.pr .str (.pr .str (.int .i64)))))))))), 7, 142, 0⟩)), fun (x : ((((List (Int × ByteArray)) × (Int × ((List ((ByteArray × (ByteArray × Int)) × (Int × Int))) × (List (Int × Int))))) × (Int × (((List (Int × ByteArray)) × (Int × (List (Int × Int)))) × ((List (Int × (Int × (Int × (ByteArray × (ByteArray × Int)))))) × ((List ((ByteArray × (ByteArray × Int)) × (Int × Int))) × (Int × Int)))))) ⊕ (((List (Int × ByteArray)) × (Int × ((List ((ByteArray × (ByteArray × Int)) × (Int × Int))) × (List (Int × Int))))) × (Int × (((List (Int × ByteArray)) × (Int × ((List ((ByteArray × (ByteArray × Int)) × (Int × Int))) × (List (Int × Int))))) × ((List (Int × (Int × (Int × (ByteArray × (ByteArray × Int)))))) × ((List ((ByteArray × (ByteArray × Int)) × (Int × Int))) × (Int × Int)))))))) => (sumS x (fun x => (B41_0h0 x.1.1 x.1.2.1 x.1.2.2.1 x.1.2.2.2 x.2.1 x.2.2.1.1 x.2.2.1.2.1 x.2.2.1.2.2 x.2.2.2.1 x.2.2.2.2.1 x.2.2.2.2.2.1 x.2.2.2.2.2.2)) fun x => (B41_0h1 x.1.1 x.1.2.1 x.1.2.2.1 x.1.2.2.2 x.2.1 x.2.2.1.1 x.2.2.1.2.1 x.2.2.1.2.2.1 x.2.2.1.2.2.2 x.2.2.2.1 x.2.2.2.2.1 x.2.2.2.2.2.1 x.2.2.2.2.2.2))⟩
def B113_0_2 (a0 : Int) (a1 : ByteArray) (a2 : Int) (a3 : Int) : Option (((Int × ByteArray) × (Int × Int)) ⊕ (Int × ByteArray)) :=
  sel (iLt a3 a2)
    (none)
    (some (.inr (a0, a1)))
def L113_0_2 (x : ((Int × ByteArray) × (Int × Int))) : Option (Int × ByteArray) := iter (fun (x : ((Int × ByteArray) × (Int × Int))) => (B113_0_2 x.1.1 x.1.2 x.2.1 x.2.2)) fuel x
def lsL113_0_2 : LS := ⟨(.one .normal ⟨(.box 0 (.seq (.dat (.int .i64)) (.dat .str))), [0, 1, 7, 8], (.seq (.lit (.slice none 0 0)) (.seq (.fn 97 (.ptr 0 2 0)) (.seq (.dat (.int .i64)) (.dat (.int .i64))))), 1, 19, 1⟩), (.one (.exit 0) ⟨(.box 0 (.seq (.dat (.int .i64)) (.dat .str))), [], .non, 1, 19, 1⟩), fun (x : ((Int × ByteArray) × (Int × Int))) => (B113_0_2 x.1.1 x.1.2 x.2.1 x.2.2)⟩
/-- slices.IndexFunc[[]api.DirectoryEntry,api.DirectoryEntry] -/
def F113_2 (a0 : Int) (a1 : ByteArray) : Option ((Int × ByteArray) × Int) :=
  bndS (L113_0_2 ((a0, a1), (0, 0))) fun y0 =>
  some (y0, (-1))
def gF113_2 : FS := ⟨(.seq (.lit (.slice none 0 0)) (.fn 97 (.box 0 (.seq (.dat (.int .i64)) (.dat .str))))), 1, (.one ⟨(.box 0 (.seq (.dat (.int .i64)) (.dat .str))), (.dat (.int .i64)), 1, 0⟩), fun x => (F113_2 x.1 x.2)⟩
theorem rL113_0_2 (x : lsL113_0_2.hd.T) : kRound env (GofL []) (LofL [(113, [(0, lsL113_0_2)])]) 113 0 (lpOf Tryz.prog 113 0).2 (lsL113_0_2.hd.st x) lsL113_0_2.rd = lsL113_0_2.B x := by kernel_rfl
theorem eF113_2 (x : gF113_2.a.T) : kF env (GofL []) (LofL [(113, [(0, lsL113_0_2)])]) 113 (gF113_2.args x) (gF113_2.bs x) gF113_2.r.dec = gF113_2.F x := by kernel_rfl
theorem sF113_2 : SpecAt env 1 113 gF113_2 := mkSpec (r := 0) (gl := []) (L0 := [(0, lsL113_0_2)]) (by kernel_rfl) trivial ⟨⟨0, by kernel_rfl, by kernel_rfl, rL113_0_2⟩, trivial⟩ eF113_2 (fun h => absurd h (by rw [show env.nl 113 = false by kernel_rfl]; decide))
/-- slices.ContainsFunc[[]api.DirectoryEntry,api.DirectoryEntry] -/
def F60_1 (a0 : Int) (a1 : ByteArray) : Option ((Int × ByteArray) × Bool) :=
  bndS (F113_2 a0 a1) fun y0 =>
  some (y0.1, (iLe 0 y0.2))
def gF60_1 : FS := ⟨(.seq (.lit (.slice none 0 0)) (.fn 97 (.box 0 (.seq (.dat (.int .i64)) (.dat .str))))), 1, (.one ⟨(.box 0 (.seq (.dat (.int .i64)) (.dat .str))), (.dat .bool), 1, 0⟩), fun x => (F60_1 x.1 x.2)⟩
theorem eF60_1 (x : gF60_1.a.T) : kF env (GofL [(113, [gF113_2])]) (LofL [(60, [])]) 60 (gF60_1.args x) (gF60_1.bs x) gF60_1.r.dec = gF60_1.F x := by kernel_rfl
theorem sF60_1 : SpecAt env 2 60 gF60_1 := mkSpec (r := 1) (gl := [(113, [gF113_2])]) (L0 := []) (by kernel_rfl) ⟨⟨sF113_2.up (by decide), trivial⟩, trivial⟩ trivial eF60_1 (fun h => absurd h (by rw [show env.nl 60 = false by kernel_rfl]; decide))
/-- internal/strconv.small -/
def F213 (a0 : Int) : Option ByteArray :=
  sel (iLt a0 10)
    (sel (oCut a0 (iAdd .i64 a0 1) 36) (
    some (sCut (bs [48, 49, 50, 51, 52, 53, 54, 55, 56, 57, 97, 98, 99, 100, 101, 102, 103, 104, 105, 106, 107, 108, 109, 110, 111, 112, 113, 114, 115, 116, 117, 118, 119, 120, 121, 122]) a0 (iAdd .i64 a0 1))) none)
    (sel (oCut (iMul .i64 a0 2) (iAdd .i64 (iMul .i64 a0 2) 2) 200) (
    some (sCut (bs [48, 48, 48, 49, 48, 50, 48, 51, 48, 52, 48, 53, 48, 54, 48, 55, 48, 56, 48, 57, 49, 48, 49, 49, 49, 50, 49, 51, 49, 52, 49, 53, 49, 54, 49, 55, 49, 56, 49, 57, 50, 48, 50, 49, 50, 50, 50, 51, 50, 52, 50, 53, 50, 54, 50, 55, 50, 56, 50, 57, 51, 48, 51, 49, 51, 50, 51, 51, 51, 52, 51, 53, 51, 54, 51, 55, 51, 56, 51, 57, 52, 48, 52, 49, 52, 50, 52, 51, 52, 52, 52, 53, 52, 54, 52, 55, 52, 56, 52, 57, 53, 48, 53, 49, 53, 50, 53, 51, 53, 52, 53, 53, 53, 54, 53, 55, 53, 56, 53, 57, 54, 48, 54, 49, 54, 50, 54, 51, 54, 52, 54, 53, 54, 54, 54, 55, 54, 56, 54, 57, 55, 48, 55, 49, 55, 50, 55, 51, 55, 52, 55, 53, 55, 54, 55, 55, 55, 56, 55, 57, 56, 48, 56, 49, 56, 50, 56, 51, 56, 52, 56, 53, 56, 54, 56, 55, 56, 56, 56, 57, 57, 48, 57, 49, 57, 50, 57, 51, 57, 52, 57, 53, 57, 54, 57, 55, 57, 56, 57, 57]) (iMul .i64 a0 2) (iAdd .i64 (iMul .i64 a0 2) 2))) none)
def gF213 : FS := ⟨(.dat (.int .i64)), 0, (.one ⟨.non, (.dat .str), 0, 0⟩), fun x => (F213 x)⟩
theorem eF213 (x : gF213.a.T) : kF env (GofL []) (LofL [(213, [])]) 213 (gF213.args x) (gF213.bs x) gF213.r.dec = gF213.F x := by kernel_rfl
theorem sF213 : SpecAt env 1 213 gF213 := mkSpec (r := 0) (gl := []) (L0 := []) (by kernel_rfl) trivial trivial eF213 (fun h => absurd h (by rw [show env.nl 213 = false by kernel_rfl]; decide))
/-- internal/strconv.FormatInt -/
def F203 (a0 : Int) (a1 : Int) : Option ByteArray :=
  sel (iEq a1 10) (
  sel (bAnd (iLe 0 a0) (iLt a0 100)) (
  bndS (F213 a0) fun y0 =>
  some y0) none) none
def gF203 : FS := ⟨(.seq (.dat (.int .i64)) (.dat (.int .i64))), 0, (.one ⟨.non, (.dat .str), 0, 0⟩), fun x => (F203 x.1 x.2)⟩
theorem eF203 (x : gF203.a.T) : kF env (GofL [(213, [gF213])]) (LofL [(203, [])]) 203 (gF203.args x) (gF203.bs x) gF203.r.dec = gF203.F x := by kernel_rfl
theorem sF203 : SpecAt env 2 203 gF203 := mkSpec (r := 1) (gl := [(213, [gF213])]) (L0 := []) (by kernel_rfl) ⟨⟨sF213.up (by decide), trivial⟩, trivial⟩ trivial eF203 (fun h => absurd h (by rw [show env.nl 203 = false by kernel_rfl]; decide))
/-- internal/strconv.Itoa -/
def F180 (a0 : Int) : Option ByteArray :=
  bndS (F203 a0 10) fun y0 =>
  some y0
def gF180 : FS := ⟨(.dat (.int .i64)), 0, (.one ⟨.non, (.dat .str), 0, 0⟩), fun x => (F180 x)⟩
theorem eF180 (x : gF180.a.T) : kF env (GofL [(203, [gF203])]) (LofL [(180, [])]) 180 (gF180.args x) (gF180.bs x) gF180.r.dec = gF180.F x := by kernel_rfl
theorem sF180 : SpecAt env 3 180 gF180 := mkSpec (r := 2) (gl := [(203, [gF203])]) (L0 := []) (by kernel_rfl) ⟨⟨sF203.up (by decide), trivial⟩, trivial⟩ trivial eF180 (fun h => absurd h (by rw [show env.nl 180 = false by kernel_rfl]; decide))
/-- strconv.Itoa -/
def F151 (a0 : Int) : Option ByteArray :=
  bndS (F180 a0) fun y0 =>
  some y0
def gF151 : FS := ⟨(.dat (.int .i64)), 0, (.one ⟨.non, (.dat .str), 0, 0⟩), fun x => (F151 x)⟩
theorem eF151 (x : gF151.a.T) : kF env (GofL [(180, [gF180])]) (LofL [(151, [])]) 151 (gF151.args x) (gF151.bs x) gF151.r.dec = gF151.F x := by kernel_rfl
theorem sF151 : SpecAt env 4 151 gF151 := mkSpec (r := 3) (gl := [(180, [gF180])]) (L0 := []) (by kernel_rfl) ⟨⟨sF180.up (by decide), trivial⟩, trivial⟩ trivial eF151 (fun h => absurd h (by rw [show env.nl 151 = false by kernel_rfl]; decide))
def B99_0 (a0 : (List (Int × ByteArray))) (a1 : Int) (a2 : (List ((ByteArray × (ByteArray × Int)) × (Int × Int)))) (a3 : (List (Int × Int))) (a4 : ByteArray) (a5 : ByteArray) (a6 : Int) (a7 : ByteArray) (a8 : ByteArray) (a9 : Int) (a10 : ByteArray) (a11 : Int) : Option ((((List (Int × ByteArray)) × (Int × ((List ((ByteArray × (ByteArray × Int)) × (Int × Int))) × (List (Int × Int))))) × ((ByteArray × (ByteArray × Int)) × ((ByteArray × (ByteArray × Int)) × (ByteArray × Int)))) ⊕ ((ByteArray × (ByteArray × Int)) × (ByteArray × (ByteArray × Int)))) :=
  bndS (F82 ((a0, a1), (a2, a3)) (a4, (a5, a6))) fun y0 =>
  sel (iLe 0 y0)
    (bndS (F151 a11) fun y1 =>
    bndS (FRepeat (bs [48]) (sel (iLt 0 (iSub .i64 3 (sLen y1))) (iSub .i64 3 (sLen y1)) 0)) fun y2 =>
    sel (sOk a10 y2) (
    sel (sOk (sAdd a10 y2) y1) (
    some (.inl ((a0, (a1, (a2, a3))), ((a4, ((sAdd (sAdd a10 y2) y1), a6)), ((a7, (a8, a9)), (a10, (iAdd .i64 a11 1))))))) none) none)
    (some (.inr ((a4, (a5, a6)), (a7, (a8, a9)))))
def L99_0 (x : (((List (Int × ByteArray)) × (Int × ((List ((ByteArray × (ByteArray × Int)) × (Int × Int))) × (List (Int × Int))))) × ((ByteArray × (ByteArray × Int)) × ((ByteArray × (ByteArray × Int)) × (ByteArray × Int))))) : Option ((ByteArray × (ByteArray × Int)) × (ByteArray × (ByteArray × Int))) := iter (fun (x : (((List (Int × ByteArray)) × (Int × ((List ((ByteArray × (ByteArray × Int)) × (Int × Int))) × (List (Int × Int))))) × ((ByteArray × (ByteArray × Int)) × ((ByteArray × (ByteArray × Int)) × (ByteArray × Int))))) => (B99_0 x.1.1 x.1.2.1 x.1.2.2.1 x.1.2.2.2 x.2.1.1 x.2.1.2.1 x.2.1.2.2 x.2.2.1.1 x.2.2.1.2.1 x.2.2.1.2.2 x.2.2.2.1 x.2.2.2.2)) fuel x
def lsL99_0 : LS := ⟨(.one .normal ⟨.non, [2, 3, 4, 5, 6], (.seq (.box 0 (.seq (.dat (.sl (.pr (.int .i64) .str))) (.seq (.dat (.int .i64)) (.seq (.dat (.sl (.pr (.pr .str (.pr .str (.int .i64))) (.pr (.int .i64) (.int .i64))))) (.dat (.sl (.pr (.int .i64) (.int .i64)))))))) (.seq (.box 1 (.seq (.dat .str) (.seq (.dat .str) (.dat (.int .i64))))) (.seq (.box 2 (.seq (.dat .str) (.seq (.dat .str) (.dat (.int .i64))))) (.seq (.dat .str) (.dat (.int .i64)))))), 3, 35, 0⟩), (.one (.exit 0) ⟨.non, [3, 4], (.seq (.box 0 (.seq (.dat .str) (.seq (.dat .str) (.dat (.int .i64))))) (.box 1 (.seq (.dat .str) (.seq (.dat .str) (.dat (.int .i64)))))), 2, 35, 0⟩), fun (x : (((List (Int × ByteArray)) × (Int × ((List ((ByteArray × (ByteArray × Int)) × (Int × Int))) × (List (Int × Int))))) × ((ByteArray × (ByteArray × Int)) × ((ByteArray × (ByteArray × Int)) × (ByteArray × Int))))) => (B99_0 x.1.1 x.1.2.1 x.1.2.2.1 x.1.2.2.2 x.2.1.1 x.2.1.2.1 x.2.1.2.2 x.2.2.1.1 x.2.2.1.2.1 x.2.2.1.2.2 x.2.2.2.1 x.2.2.2.2)⟩
/-- ipl.freeName -/
def F99 (a0 : (((List (Int × ByteArray)) × Int) × ((List ((ByteArray × (ByteArray × Int)) × (Int × Int))) × (List (Int × Int))))) (a1 : (ByteArray × (ByteArray × Int))) : Option (ByteArray × (ByteArray × Int)) :=
  sel (oCut 0 (sel (iLt 7 (sLen a1.2.1)) 7 (sLen a1.2.1)) (sLen a1.2.1)) (
  bndS (L99_0 ((a0.1.1, (a0.1.2, a0.2)), (((bs [81, 82, 67, 76]), a1.2), (((bs []), ((bs []), 0)), ((sCut a1.2.1 0 (sel (iLt 7 (sLen a1.2.1)) 7 (sLen a1.2.1))), 1))))) fun y0 =>
  some y0.1) none
def gF99 : FS := ⟨(.seq (.agg (.dat (.pr (.pr (.sl (.pr (.int .i64) .str)) (.int .i64)) (.pr (.sl (.pr (.pr .str (.pr .str (.int .i64))) (.pr (.int .i64) (.int .i64)))) (.sl (.pr (.int .i64) (.int .i64))))))) (.agg (.dat (.pr .str (.pr .str (.int .i64)))))), 0, (.one ⟨.non, (.agg (.dat (.pr .str (.pr .str (.int .i64))))), 0, 0⟩), fun x => (F99 x.1 x.2)⟩
theorem rL99_0 (x : lsL99_0.hd.T) : kRound env (GofL [(70, [gFRepeat]), (151, [gF151]), (82, [gF82])]) (LofL [(99, [(0, lsL99_0)])]) 99 0 (lpOf Tryz.prog 99 0).2 (lsL99_0.hd.st x) lsL99_0.rd = lsL99_0.B x := by kernel_rfl
theorem eF99 (x : gF99.a.T) : kF env (GofL [(70, [gFRepeat]), (151, [gF151]), (82, [gF82])]) (LofL [(99, [(0, lsL99_0)])]) 99 (gF99.args x) (gF99.bs x) gF99.r.dec = gF99.F x := by kernel_rfl
theorem sF99 : SpecAt env 5 99 gF99 := mkSpec (r := 4) (gl := [(70, [gFRepeat]), (151, [gF151]), (82, [gF82])]) (L0 := [(0, lsL99_0)]) (by kernel_rfl) ⟨⟨sFRepeat.up (by decide), trivial⟩, ⟨sF151.up (by decide), trivial⟩, ⟨sF82.up (by decide), trivial⟩, trivial⟩ ⟨⟨0, by kernel_rfl, by kernel_rfl, rL99_0⟩, trivial⟩ eF99 (fun h => absurd h (by rw [show env.nl 99 = false by kernel_rfl]; decide))
/-- ipl.enter -/
def F85_1 (a0 : (List (Int × ByteArray))) (a1 : Int) (a2 : (List (Int × Int))) (a3 : ((ByteArray × (ByteArray × Int)) × (Int × Int))) : Option ((List (Int × ByteArray)) × (Int × ((List ((ByteArray × (ByteArray × Int)) × (Int × Int))) × (List (Int × Int))))) :=
  sel (lCap 56 [a3]) (
  bndS (F140 [a3]) fun y0 =>
  some (a0, (a1, (y0, a2)))) none
def gF85_1 : FS := ⟨(.seq (.box 0 (.seq (.own 1 (.pr (.int .i64) .str)) (.seq (.dat (.int .i64)) (.seq (.lit (.slice none 0 0)) (.own 2 (.pr (.int .i64) (.int .i64))))))) (.agg (.dat (.pr (.pr .str (.pr .str (.int .i64))) (.pr (.int .i64) (.int .i64)))))), 3, (.one ⟨(.box 0 (.seq (.own 1 (.pr (.int .i64) .str)) (.seq (.dat (.int .i64)) (.seq (.own 3 (.pr (.pr .str (.pr .str (.int .i64))) (.pr (.int .i64) (.int .i64)))) (.own 2 (.pr (.int .i64) (.int .i64))))))), (.tup .non), 3, 1⟩), fun x => (F85_1 x.1.1 x.1.2.1 x.1.2.2 x.2)⟩
theorem eF85_1 (x : gF85_1.a.T) : kF env (GofL [(140, [gF140])]) (LofL [(85, [])]) 85 (gF85_1.args x) (gF85_1.bs x) gF85_1.r.dec = gF85_1.F x := by kernel_rfl
theorem sF85_1 : SpecAt env 8 85 gF85_1 := mkSpec (r := 7) (gl := [(140, [gF140])]) (L0 := []) (by kernel_rfl) ⟨⟨sF140.up (by decide), trivial⟩, trivial⟩ trivial eF85_1 (fun h => absurd h (by rw [show env.nl 85 = false by kernel_rfl]; decide))
/-- slices.Delete[[]api.Segment,api.Segment] -/
def F150 (a0 : (List (Int × ByteArray))) (a1 : Int) (a2 : Int) : Option (List (Int × ByteArray)) :=
  sel (oCut 0 (lLen a0) (lLen a0)) (
  sel (oCut a1 a2 (lLen a0)) (
  sel (iEq a1 a2)
    (some a0)
    (sel (oCut 0 a1 (lLen a0)) (
    sel (oCut a2 (lLen a0) (lLen a0)) (
    sel (iLe (pAdd a1 (lLen (lCut a0 a2 (lLen a0)))) (lLen a0)) (
    sel (oCut (pSub (pAdd a1 (lLen (lCut a0 a2 (lLen a0)))) 0) (lLen a0) (pSub (lLen (lCpy a0 a1 (pAdd a1 (lLen (lCut a0 a2 (lLen a0)))) (lCut a0 a2 (lLen a0)))) 0)) (
    some (lCut (lCpy (lCpy a0 a1 (pAdd a1 (lLen (lCut a0 a2 (lLen a0)))) (lCut a0 a2 (lLen a0))) (pAdd 0 (pSub (pAdd a1 (lLen (lCut a0 a2 (lLen a0)))) 0)) (pAdd 0 (lLen a0)) (lRep (pSub (pAdd 0 (lLen a0)) (pAdd 0 (pSub (pAdd a1 (lLen (lCut a0 a2 (lLen a0)))) 0))) ((0, (bs [])) : (Int × ByteArray)))) 0 (pAdd a1 (lLen (lCut a0 a2 (lLen a0)))))) none) none) none) none)) none) none
def gF150 : FS := ⟨(.seq (.own 0 (.pr (.int .i64) .str)) (.seq (.dat (.int .i64)) (.dat (.int .i64)))), 1, (.one ⟨.non, (.own 1 (.pr (.int .i64) .str)), 1, 1⟩), fun x => (F150 x.1 x.2.1 x.2.2)⟩
theorem eF150 (x : gF150.a.T) : kF env (GofL []) (LofL [(150, [])]) 150 (gF150.args x) (gF150.bs x) gF150.r.dec = gF150.F x := by kernel_rfl
theorem sF150 : SpecAt env 1 150 gF150 := mkSpec (r := 0) (gl := []) (L0 := []) (by kernel_rfl) trivial trivial eF150 (fun h => absurd h (by rw [show env.nl 150 = false by kernel_rfl]; decide))
/-- segment.Destroyed -/
def F98 (a0 : ((List (Int × ByteArray)) × Int)) (a1 : Int) : Option (((List (Int × ByteArray)) × Int) × Int) :=
  bndS (F149 a0 a1) fun y0 =>
  sel (bNot (iEq y0.2 0))
    (some ((([] : List (Int × ByteArray)), 0), y0.2))
    (bndS (F116 a0.1) fun y1 =>
    bndS (F150 y1 y0.1 (iAdd .i64 y0.1 1)) fun y2 =>
    some ((y2, a0.2), 0))
def gF98 : FS := ⟨(.seq (.agg (.dat (.pr (.sl (.pr (.int .i64) .str)) (.int .i64)))) (.dat (.int .i64))), 0, (.one ⟨.non, (.tup (.seq (.agg (.seq (.own 0 (.pr (.int .i64) .str)) (.dat (.int .i64)))) (.dat (.int .i64)))), 0, 1⟩), fun x => (F98 x.1 x.2)⟩
theorem eF98 (x : gF98.a.T) : kF env (GofL [(150, [gF150]), (116, [gF116]), (149, [gF149])]) (LofL [(98, [])]) 98 (gF98.args x) (gF98.bs x) gF98.r.dec = gF98.F x := by kernel_rfl
theorem sF98 : SpecAt env 4 98 gF98 := mkSpec (r := 3) (gl := [(150, [gF150]), (116, [gF116]), (149, [gF149])]) (L0 := []) (by kernel_rfl) ⟨⟨sF150.up (by decide), trivial⟩, ⟨sF116.up (by decide), trivial⟩, ⟨sF149.up (by decide), trivial⟩, trivial⟩ trivial eF98 (fun h => absurd h (by rw [show env.nl 98 = false by kernel_rfl]; decide))
/-- ipl.Reclaim$1 -/
def F97 (a0 : ((ByteArray × (ByteArray × Int)) × (Int × Int))) (a1 : Int) (a2 : ByteArray) : ((Int × ByteArray) × Bool) :=
  ((a1, a2), (iEq a0.2.1 a1))
def gF97 : FS := ⟨(.seq (.agg (.dat (.pr (.pr .str (.pr .str (.int .i64))) (.pr (.int .i64) (.int .i64))))) (.box 0 (.seq (.dat (.int .i64)) (.dat .str)))), 1, (.one ⟨(.box 0 (.seq (.dat (.int .i64)) (.dat .str))), (.dat .bool), 1, 0⟩), fun x => some (F97 x.1 x.2.1 x.2.2)⟩
theorem eF97 (x : gF97.a.T) : kF env (GofL []) (LofL [(97, [])]) 97 (gF97.args x) (gF97.bs x) gF97.r.dec = gF97.F x := by kernel_rfl
theorem sF97 : SpecAt env 1 97 gF97 := mkSpec (r := 0) (gl := []) (L0 := []) (by kernel_rfl) trivial trivial eF97 (fun h => absurd h (by rw [show env.nl 97 = false by kernel_rfl]; decide))
def B113_0_3 (a0 : (List ((ByteArray × (ByteArray × Int)) × (Int × Int)))) (a1 : Int) (a2 : ByteArray) (a3 : Int) (a4 : Int) : Option ((((List ((ByteArray × (ByteArray × Int)) × (Int × Int))) × (Int × ByteArray)) × (Int × Int)) ⊕ (((List ((ByteArray × (ByteArray × Int)) × (Int × Int))) × (Int × ByteArray)) ⊕ (((List ((ByteArray × (ByteArray × Int)) × (Int × Int))) × (Int × ByteArray)) × Int))) :=
  sel (iLt a4 a3)
    (sel (oIn a4 (lLen a0)) (
    letS (F97 (lAt a0 a4) a1 a2) fun y0 =>
    sel y0.2
      (some (.inr (.inr ((a0, y0.1), a4))))
      (some (.inl ((a0, y0.1), (a3, (iAdd .i64 a4 1)))))) none)
    (some (.inr (.inl (a0, (a1, a2)))))
def L113_0_3 (x : (((List ((ByteArray × (ByteArray × Int)) × (Int × Int))) × (Int × ByteArray)) × (Int × Int))) : Option (((List ((ByteArray × (ByteArray × Int)) × (Int × Int))) × (Int × ByteArray)) ⊕ (((List ((ByteArray × (ByteArray × Int)) × (Int × Int))) × (Int × ByteArray)) × Int)) := iter (fun (x : (((List ((ByteArray × (ByteArray × Int)) × (Int × Int))) × (Int × ByteArray)) × (Int × Int))) => (B113_0_3 x.1.1 x.1.2.1 x.1.2.2 x.2.1 x.2.2)) fuel x
def lsL113_0_3 : LS := ⟨(.one .normal ⟨(.seq (.own 0 (.pr (.pr .str (.pr .str (.int .i64))) (.pr (.int .i64) (.int .i64)))) (.box 1 (.seq (.dat (.int .i64)) (.dat .str)))), [0, 1, 7, 8], (.seq (.alo 0) (.seq (.fn 97 (.ptr 1 2 0)) (.seq (.dat (.int .i64)) (.dat (.int .i64))))), 2, 19, 2⟩), (.two (.one (.exit 0) ⟨(.seq (.own 0 (.pr (.pr .str (.pr .str (.int .i64))) (.pr (.int .i64) (.int .i64)))) (.box 1 (.seq (.dat (.int .i64)) (.dat .str)))), [], .non, 2, 19, 2⟩) (.one .ret ⟨(.seq (.own 0 (.pr (.pr .str (.pr .str (.int .i64))) (.pr (.int .i64) (.int .i64)))) (.box 1 (.seq (.dat (.int .i64)) (.dat .str)))), [4], (.dat (.int .i64)), 2, 19, 2⟩)), fun (x : (((List ((ByteArray × (ByteArray × Int)) × (Int × Int))) × (Int × ByteArray)) × (Int × Int))) => (B113_0_3 x.1.1 x.1.2.1 x.1.2.2 x.2.1 x.2.2)⟩
/-- slices.IndexFunc[[]api.DirectoryEntry,api.DirectoryEntry] -/
def F113_3 (a0 : (List ((ByteArray × (ByteArray × Int)) × (Int × Int)))) (a1 : Int) (a2 : ByteArray) : Option (((List ((ByteArray × (ByteArray × Int)) × (Int × Int))) × (Int × ByteArray)) × Int) :=
  bndS (L113_0_3 ((a0, (a1, a2)), ((lLen a0), 0))) fun y0 =>
  sumS y0 (fun y0a =>
    some (y0a, (-1))) fun y0b =>
    some y0b
def gF113_3 : FS := ⟨(.seq (.own 0 (.pr (.pr .str (.pr .str (.int .i64))) (.pr (.int .i64) (.int .i64)))) (.fn 97 (.box 1 (.seq (.dat (.int .i64)) (.dat .str))))), 2, (.one ⟨(.seq (.own 0 (.pr (.pr .str (.pr .str (.int .i64))) (.pr (.int .i64) (.int .i64)))) (.box 1 (.seq (.dat (.int .i64)) (.dat .str)))), (.dat (.int .i64)), 2, 0⟩), fun x => (F113_3 x.1 x.2.1 x.2.2)⟩
theorem rL113_0_3 (x : lsL113_0_3.hd.T) : kRound env (GofL [(97, [gF97])]) (LofL [(113, [(0, lsL113_0_3)])]) 113 0 (lpOf Tryz.prog 113 0).2 (lsL113_0_3.hd.st x) lsL113_0_3.rd = lsL113_0_3.B x := by kernel_rfl
theorem eF113_3 (x : gF113_3.a.T) : kF env (GofL [(97, [gF97])]) (LofL [(113, [(0, lsL113_0_3)])]) 113 (gF113_3.args x) (gF113_3.bs x) gF113_3.r.dec = gF113_3.F x := by kernel_rfl
theorem sF113_3 : SpecAt env 2 113 gF113_3 := mkSpec (r := 1) (gl := [(97, [gF97])]) (L0 := [(0, lsL113_0_3)]) (by kernel_rfl) ⟨⟨sF97.up (by decide), trivial⟩, trivial⟩ ⟨⟨0, by kernel_rfl, by kernel_rfl, rL113_0_3⟩, trivial⟩ eF113_3 (fun h => absurd h (by rw [show env.nl 113 = false by kernel_rfl]; decide))
/-- slices.ContainsFunc[[]api.DirectoryEntry,api.DirectoryEntry] -/
def F60_2 (a0 : (List ((ByteArray × (ByteArray × Int)) × (Int × Int)))) (a1 : Int) (a2 : ByteArray) : Option (((List ((ByteArray × (ByteArray × Int)) × (Int × Int))) × (Int × ByteArray)) × Bool) :=
  bndS (F113_3 a0 a1 a2) fun y0 =>
  some (y0.1, (iLe 0 y0.2))
def gF60_2 : FS := ⟨(.seq (.own 0 (.pr (.pr .str (.pr .str (.int .i64))) (.pr (.int .i64) (.int .i64)))) (.fn 97 (.box 1 (.seq (.dat (.int .i64)) (.dat .str))))), 2, (.one ⟨(.seq (.own 0 (.pr (.pr .str (.pr .str (.int .i64))) (.pr (.int .i64) (.int .i64)))) (.box 1 (.seq (.dat (.int .i64)) (.dat .str)))), (.dat .bool), 2, 0⟩), fun x => (F60_2 x.1 x.2.1 x.2.2)⟩
theorem eF60_2 (x : gF60_2.a.T) : kF env (GofL [(113, [gF113_3])]) (LofL [(60, [])]) 60 (gF60_2.args x) (gF60_2.bs x) gF60_2.r.dec = gF60_2.F x := by kernel_rfl
theorem sF60_2 : SpecAt env 3 60 gF60_2 := mkSpec (r := 2) (gl := [(113, [gF113_3])]) (L0 := []) (by kernel_rfl) ⟨⟨sF113_3.up (by decide), trivial⟩, trivial⟩ trivial eF60_2 (fun h => absurd h (by rw [show env.nl 60 = false by kernel_rfl]; decide))
def B41_2h0 (a0 : Int) (a1 : (List (Int × ByteArray))) (a2 : Int) (a3 : (List (Int × Int))) (a4 : (List (Int × (Int × (Int × (ByteArray × (ByteArray × Int))))))) (a5 : (List (Int × ByteArray))) (a6 : Int) (a7 : Int) : Option (((Int × (((List (Int × ByteArray)) × (Int × (List (Int × Int)))) × ((List (Int × (Int × (Int × (ByteArray × (ByteArray × Int)))))) × ((List (Int × ByteArray)) × (Int × Int))))) ⊕ (Int × (((List (Int × ByteArray)) × (Int × ((List ((ByteArray × (ByteArray × Int)) × (Int × Int))) × (List (Int × Int))))) × ((List (Int × (Int × (Int × (ByteArray × (ByteArray × Int)))))) × ((List (Int × ByteArray)) × (Int × Int)))))) ⊕ ((Int × (((List (Int × ByteArray)) × (Int × (List (Int × Int)))) × (List (Int × (Int × (Int × (ByteArray × (ByteArray × Int)))))))) ⊕ ((Int × (((List (Int × ByteArray)) × (Int × ((List ((ByteArray × (ByteArray × Int)) × (Int × Int))) × (List (Int × Int))))) × (List (Int × (Int × (Int × (ByteArray × (ByteArray × Int)))))))) ⊕ (Int × Int)))) :=
  sel (iLt a7 a6)
    (sel (oIn a7 (lLen a5)) (
    bndS (F60_1 (lAt a5 a7).1 (lAt a5 a7).2) fun y0 =>
    sel y0.2
      (some (.inl (.inl (a0, ((a1, (a2, a3)), (a4, (a5, (a6, (iAdd .i64 a7 1)))))))))
      (sel (oCut 0 32 (sLen y0.1.2)) (
      bndS (F16 (sCut y0.1.2 0 32)) fun y1 =>
      sel (bNot (iEq y1.2.2 0))
        (bndS (F98 (a1, a2) y0.1.1) fun y6 =>
        sel (lCap 64 (lApp a4 [(2, (y0.1.1, (0, ((bs []), ((bs []), 0)))))])) (
        some (.inl (.inl (a0, ((y6.1.1, (y6.1.2, a3)), ((lApp a4 [(2, (y0.1.1, (0, ((bs []), ((bs []), 0)))))]), (a5, (a6, (iAdd .i64 a7 1))))))))) none)
        (bndS (F99 ((a1, a2), ([], a3)) y1.1) fun y2 =>
        sel (oNz 32) (
        bndS (F79 y2 (iQuo .i64 (sLen y0.1.2) 32)) fun y3 =>
        bndS (F84 (a1, a2) (y0.1.1, 0) y3) fun y4 =>
        bndS (F85_1 y4.1.1 y4.1.2 a3 (y2, (y0.1.1, 0))) fun y5 =>
        sel (lCap 64 (lApp a4 [(1, (y0.1.1, (0, y2)))])) (
        some (.inl (.inr (a0, (y5, ((lApp a4 [(1, (y0.1.1, (0, y2)))]), (a5, (a6, (iAdd .i64 a7 1))))))))) none) none)) none)) none)
    (some (.inr (.inl (a0, ((a1, (a2, a3)), a4)))))
def B41_2h1 (a0 : Int) (a1 : (List (Int × ByteArray))) (a2 : Int) (a3 : (List ((ByteArray × (ByteArray × Int)) × (Int × Int)))) (a4 : (List (Int × Int))) (a5 : (List (Int × (Int × (Int × (ByteArray × (ByteArray × Int))))))) (a6 : (List (Int × ByteArray))) (a7 : Int) (a8 : Int) : Option (((Int × (((List (Int × ByteArray)) × (Int × (List (Int × Int)))) × ((List (Int × (Int × (Int × (ByteArray × (ByteArray × Int)))))) × ((List (Int × ByteArray)) × (Int × Int))))) ⊕ (Int × (((List (Int × ByteArray)) × (Int × ((List ((ByteArray × (ByteArray × Int)) × (Int × Int))) × (List (Int × Int))))) × ((List (Int × (Int × (Int × (ByteArray × (ByteArray × Int)))))) × ((List (Int × ByteArray)) × (Int × Int)))))) ⊕ ((Int × (((List (Int × ByteArray)) × (Int × (List (Int × Int)))) × (List (Int × (Int × (Int × (ByteArray × (ByteArray × Int)))))))) ⊕ ((Int × (((List (Int × ByteArray)) × (Int × ((List ((ByteArray × (ByteArray × Int)) × (Int × Int))) × (List (Int × Int))))) × (List (Int × (Int × (Int × (ByteArray × (ByteArray × Int)))))))) ⊕ (Int × Int)))) :=
  sel (iLt a8 a7)
    (sel (oIn a8 (lLen a6)) (
    bndS (F60_2 a3 (lAt a6 a8).1 (lAt a6 a8).2) fun y0 =>
    sel y0.2
      (some (.inl (.inr (a0, ((a1, (a2, (y0.1.1, a4))), (a5, (a6, (a7, (iAdd .i64 a8 1)))))))))
      (sel (oCut 0 32 (sLen y0.1.2.2)) (
      bndS (F16 (sCut y0.1.2.2 0 32)) fun y1 =>
      sel (bNot (iEq y1.2.2 0))
        (bndS (F98 (a1, a2) y0.1.2.1) fun y6 =>
        sel (lCap 64 (lApp a5 [(2, (y0.1.2.1, (0, ((bs []), ((bs []), 0)))))])) (
        some (.inl (.inr (a0, ((y6.1.1, (y6.1.2, (y0.1.1, a4))), ((lApp a5 [(2, (y0.1.2.1, (0, ((bs []), ((bs []), 0)))))]), (a6, (a7, (iAdd .i64 a8 1))))))))) none)
        (sel (iEq (lLen y0.1.1) 12)
          (some (.inr (.inr (.inr (0, 2)))))
          (bndS (F99 ((a1, a2), (y0.1.1, a4)) y1.1) fun y2 =>
          sel (oNz 32) (
          bndS (F79 y2 (iQuo .i64 (sLen y0.1.2.2) 32)) fun y3 =>
          bndS (F84 (a1, a2) (y0.1.2.1, 0) y3) fun y4 =>
          bndS (F85 y4.1.1 y4.1.2 y0.1.1 a4 (y2, (y0.1.2.1, 0))) fun y5 =>
          sel (lCap 64 (lApp a5 [(1, (y0.1.2.1, (0, y2)))])) (
          some (.inl (.inr (a0, (y5, ((lApp a5 [(1, (y0.1.2.1, (0, y2)))]), (a6, (a7, (iAdd .i64 a8 1))))))))) none) none))) none)) none)
    (some (.inr (.inr (.inl (a0, ((a1, (a2, (a3, a4))), a5))))))
def L41_2 (x : ((Int × (((List (Int × ByteArray)) × (Int × (List (Int × Int)))) × ((List (Int × (Int × (Int × (ByteArray × (ByteArray × Int)))))) × ((List (Int × ByteArray)) × (Int × Int))))) ⊕ (Int × (((List (Int × ByteArray)) × (Int × ((List ((ByteArray × (ByteArray × Int)) × (Int × Int))) × (List (Int × Int))))) × ((List (Int × (Int × (Int × (ByteArray × (ByteArray × Int)))))) × ((List (Int × ByteArray)) × (Int × Int))))))) : Option ((Int × (((List (Int × ByteArray)) × (Int × (List (Int × Int)))) × (List (Int × (Int × (Int × (ByteArray × (ByteArray × Int)))))))) ⊕ ((Int × (((List (Int × ByteArray)) × (Int × ((List ((ByteArray × (ByteArray × Int)) × (Int × Int))) × (List (Int × Int))))) × (List (Int × (Int × (Int × (ByteArray × (ByteArray × Int)))))))) ⊕ (Int × Int))) := iter (fun (x : ((Int × (((List (Int × ByteArray)) × (Int × (List (Int × Int)))) × ((List (Int × (Int × (Int × (ByteArray × (ByteArray × Int)))))) × ((List (Int × ByteArray)) × (Int × Int))))) ⊕ (Int × (((List (Int × ByteArray)) × (Int × ((List ((ByteArray × (ByteArray × Int)) × (Int × Int))) × (List (Int × Int))))) × ((List (Int × (Int × (Int × (ByteArray × (ByteArray × Int)))))) × ((List (Int × ByteArray)) × (Int × Int))))))) => (sumS x (fun x => (B41_2h0 x.1 x.2.1.1 x.2.1.2.1 x.2.1.2.2 x.2.2.1 x.2.2.2.1 x.2.2.2.2.1 x.2.2.2.2.2)) fun x => (B41_2h1 x.1 x.2.1.1 x.2.1.2.1 x.2.1.2.2.1 x.2.1.2.2.2 x.2.2.1 x.2.2.2.1 x.2.2.2.2.1 x.2.2.2.2.2))) fuel x
def lsL41_2 : LS := ⟨(.two (.one .normal ⟨.non, [2, 7, 8, 68, 69, 70], (.seq (.box 0 (.seq (.lit (.slice none 0 0)) (.seq (.dat (.int .i64)) (.seq (.lit (.slice none 0 0)) (.lit (.slice none 0 0)))))) (.seq (.box 1 (.seq (.own 2 (.pr (.int .i64) .str)) (.seq (.dat (.int .i64)) (.seq (.lit (.slice none 0 0)) (.own 3 (.pr (.int .i64) (.int .i64))))))) (.seq (.own 4 (.pr (.int .i64) (.pr (.int .i64) (.pr (.int .i64) (.pr .str (.pr .str (.int .i64))))))) (.seq (.dat (.sl (.pr (.int .i64) .str))) (.seq (.dat (.int .i64)) (.dat (.int .i64))))))), 5, 142, 0⟩) (.one .normal ⟨.non, [2, 7, 8, 68, 69, 70], (.seq (.box 0 (.seq (.lit (.slice none 0 0)) (.seq (.dat (.int .i64)) (.seq (.lit (.slice none 0 0)) (.lit (.slice none 0 0)))))) (.seq (.box 1 (.seq (.own 2 (.pr (.int .i64) .str)) (.seq (.dat (.int .i64)) (.seq (.own 3 (.pr (.pr .str (.pr .str (.int .i64))) (.pr (.int .i64) (.int .i64)))) (.own 4 (.pr (.int .i64) (.int .i64))))))) (.seq (.own 5 (.pr (.int .i64) (.pr (.int .i64) (.pr (.int .i64) (.pr .str (.pr .str (.int .i64))))))) (.seq (.dat (.sl (.pr (.int .i64) .str))) (.seq (.dat (.int .i64)) (.dat (.int .i64))))))), 6, 142, 0⟩)), (.two (.one (.exit 2) ⟨.non, [2, 7, 8], (.seq (.box 0 (.seq (.lit (.slice none 0 0)) (.seq (.dat (.int .i64)) (.seq (.lit (.slice none 0 0)) (.lit (.slice none 0 0)))))) (.seq (.box 1 (.seq (.own 2 (.pr (.int .i64) .str)) (.seq (.dat (.int .i64)) (.seq (.lit (.slice none 0 0)) (.own 3 (.pr (.int .i64) (.int .i64))))))) (.own 4 (.pr (.int .i64) (.pr (.int .i64) (.pr (.int .i64) (.pr .str (.pr .str (.int .i64))))))))), 5, 142, 0⟩) (.two (.one (.exit 2) ⟨.non, [2, 7, 8], (.seq (.box 0 (.seq (.lit (.slice none 0 0)) (.seq (.dat (.int .i64)) (.seq (.lit (.slice none 0 0)) (.lit (.slice none 0 0)))))) (.seq (.box 1 (.seq (.own 2 (.pr (.int .i64) .str)) (.seq (.dat (.int .i64)) (.seq (.own 3 (.pr (.pr .str (.pr .str (.int .i64))) (.pr (.int .i64) (.int .i64)))) (.own 4 (.pr (.int .i64) (.int .i64))))))) (.own 5 (.pr (.int .i64) (.pr (.int .i64) (.pr (.int .i64) (.pr .str (.pr .str (.int .i64))))))))), 6, 142, 0⟩) (.one .ret ⟨.non, [2, 3, 4], (.seq (.box 0 (.seq (.lit (.slice none 0 0)) (.seq (.dat (.int .i64)) (.seq (.lit (.slice none 0 0)) (.lit (.slice none 0 0)))))) (.seq (.lit (.slice none 0 0)) (.dat (.int .i64)))), 1, 142, 0⟩))), fun (x : ((Int × (((List (Int × ByteArray)) × (Int × (List (Int × Int)))) × ((List (Int × (Int × (Int × (ByteArray × (ByteArray × Int)))))) × ((List (Int × ByteArray)) × (Int × Int))))) ⊕ (Int × (((List (Int × ByteArray)) × (Int × ((List ((ByteArray × (ByteArray × Int)) × (Int × Int))) × (List (Int × Int))))) × ((List (Int × (Int × (Int × (ByteArray × (ByteArray × Int)))))) × ((List (Int × ByteArray)) × (Int × Int))))))) => (sumS x (fun x => (B41_2h0 x.1 x.2.1.1 x.2.1.2.1 x.2.1.2.2 x.2.2.1 x.2.2.2.1 x.2.2.2.2.1 x.2.2.2.2.2)) fun x => (B41_2h1 x.1 x.2.1.1 x.2.1.2.1 x.2.1.2.2.1 x.2.1.2.2.2 x.2.2.1 x.2.2.2.1 x.2.2.2.2.1 x.2.2.2.2.2))⟩
/-- ipl.Reclaim -/
def F41 (a0 : (((List (Int × ByteArray)) × Int) × ((List ((ByteArray × (ByteArray × Int)) × (Int × Int))) × (List (Int × Int))))) : Option (((List (Int × ByteArray)) × (Int × ((List ((ByteArray × (ByteArray × Int)) × (Int × Int))) × (List (Int × Int))))) × ((List (Int × (Int × (Int × (ByteArray × (ByteArray × Int)))))) × Int)) :=
  bndS (F19 a0) fun y0 =>
  sel (bNot (iEq y0.2 0))
    (some ((([] : List (Int × ByteArray)), (0, (([] : List ((ByteArray × (ByteArray × Int)) × (Int × Int))), ([] : List (Int × Int))))), (([] : List (Int × (Int × (Int × (ByteArray × (ByteArray × Int)))))), y0.2)))
    (sel (iLt 0 (lLen a0.2.2))
      (some ((([] : List (Int × ByteArray)), (0, (([] : List ((ByteArray × (ByteArray × Int)) × (Int × Int))), ([] : List (Int × Int))))), (([] : List (Int × (Int × (Int × (ByteArray × (ByteArray × Int)))))), 26)))
      (bndS (F69 a0) fun y1 =>
      bndS (L41_0 (.inl ((a0.1.1, (a0.1.2, a0.2)), (0, ((y1.1, (y1.2.1, y1.2.2.2)), (([] : List (Int × (Int × (Int × (ByteArray × (ByteArray × Int)))))), (a0.2.1, ((lLen a0.2.1), 0)))))))) fun y2 =>
      sumS y2 (fun y2a =>
        bndS (L41_2 (.inl (y2a.2.1, (y2a.2.2.1, (y2a.2.2.2, (y2a.1.1, ((lLen y2a.1.1), 0))))))) fun y3 =>
        sumS y3 (fun y3a =>
          some ((y3a.2.1.1, (y3a.2.1.2.1, (([] : List ((ByteArray × (ByteArray × Int)) × (Int × Int))), y3a.2.1.2.2))), (y3a.2.2, 0))) fun y3ar =>
          sumS y3ar (fun y3aa =>
          some (y3aa.2.1, (y3aa.2.2, 0))) fun y3ab =>
          some ((([] : List (Int × ByteArray)), (y3ab.1, (([] : List ((ByteArray × (ByteArray × Int)) × (Int × Int))), ([] : List (Int × Int))))), (([] : List (Int × (Int × (Int × (ByteArray × (ByteArray × Int)))))), y3ab.2))) fun y2b =>
        bndS (L41_2 (.inr (y2b.2.1, (y2b.2.2.1, (y2b.2.2.2, (y2b.1.1, ((lLen y2b.1.1), 0))))))) fun y4 =>
        sumS y4 (fun y4a =>
          some ((y4a.2.1.1, (y4a.2.1.2.1, (([] : List ((ByteArray × (ByteArray × Int)) × (Int × Int))), y4a.2.1.2.2))), (y4a.2.2, 0))) fun y4ar =>
          sumS y4ar (fun y4aa =>
          some (y4aa.2.1, (y4aa.2.2, 0))) fun y4ab =>
          some ((([] : List (Int × ByteArray)), (y4ab.1, (([] : List ((ByteArray × (ByteArray × Int)) × (Int × Int))), ([] : List (Int × Int))))), (([] : List (Int × (Int × (Int × (ByteArray × (ByteArray × Int)))))), y4ab.2))))
def gF41 : FS := ⟨(.agg (.dat (.pr (.pr (.sl (.pr (.int .i64) .str)) (.int .i64)) (.pr (.sl (.pr (.pr .str (.pr .str (.int .i64))) (.pr (.int .i64) (.int .i64)))) (.sl (.pr (.int .i64) (.int .i64))))))), 0, (.one ⟨.non, (.tup (.seq (.agg (.seq (.own 0 (.pr (.int .i64) .str)) (.seq (.dat (.int .i64)) (.seq (.own 1 (.pr (.pr .str (.pr .str (.int .i64))) (.pr (.int .i64) (.int .i64)))) (.own 2 (.pr (.int .i64) (.int .i64))))))) (.seq (.own 3 (.pr (.int .i64) (.pr (.int .i64) (.pr (.int .i64) (.pr .str (.pr .str (.int .i64))))))) (.dat (.int .i64))))), 0, 4⟩), fun x => (F41 x)⟩
theorem rL41_0 (x : lsL41_0.hd.T) : kRound env (GofL [(98, [gF98]), (85, [gF85, gF85_1]), (84, [gF84]), (79, [gF79]), (99, [gF99]), (16, [gF16]), (60, [gF60_2, gF60_1]), (96, [gF96]), (69, [gF69]), (19, [gF19])]) (LofL [(41, [(0, lsL41_0), (2, lsL41_2)])]) 41 0 (lpOf Tryz.prog 41 0).2 (lsL41_0.hd.st x) lsL41_0.rd = lsL41_0.B x := by rcases x with x | x <;> kernel_rfl
theorem rL41_2 (x : lsL41_2.hd.T) : kRound env (GofL [(98, [gF98]), (85, [gF85, gF85_1]), (84, [gF84]), (79, [gF79]), (99, [gF99]), (16, [gF16]), (60, [gF60_2, gF60_1]), (96, [gF96]), (69, [gF69]), (19, [gF19])]) (LofL [(41, [(0, lsL41_0), (2, lsL41_2)])]) 41 2 (lpOf Tryz.prog 41 1).2 (lsL41_2.hd.st x) lsL41_2.rd = lsL41_2.B x := by rcases x with x | x <;> kernel_rfl
theorem eF41 (x : gF41.a.T) : kF env (GofL [(98, [gF98]), (85, [gF85, gF85_1]), (84, [gF84]), (79, [gF79]), (99, [gF99]), (16, [gF16]), (60, [gF60_2, gF60_1]), (96, [gF96]), (69, [gF69]), (19, [gF19])]) (LofL [(41, [(0, lsL41_0), (2, lsL41_2)])]) 41 (gF41.args x) (gF41.bs x) gF41.r.dec = gF41.F x := by kernel_rfl
theorem sF41 : SpecAt env 9 41 gF41 := mkSpec (r := 8) (gl := [(98, [gF98]), (85, [gF85, gF85_1]), (84, [gF84]), (79, [gF79]), (99, [gF99]), (16, [gF16]), (60, [gF60_2, gF60_1]), (96, [gF96]), (69, [gF69]), (19, [gF19])]) (L0 := [(0, lsL41_0), (2, lsL41_2)]) (by kernel_rfl) ⟨⟨sF98.up (by decide), trivial⟩, ⟨sF85.up (by decide), sF85_1.up (by decide), trivial⟩, ⟨sF84.up (by decide), trivial⟩, ⟨sF79.up (by decide), trivial⟩, ⟨sF99.up (by decide), trivial⟩, ⟨sF16.up (by decide), trivial⟩, ⟨sF60_2.up (by decide), sF60_1.up (by decide), trivial⟩, ⟨sF96.up (by decide), trivial⟩, ⟨sF69.up (by decide), trivial⟩, ⟨sF19.up (by decide), trivial⟩, trivial⟩ ⟨⟨0, by kernel_rfl, by kernel_rfl, rL41_0⟩, ⟨1, by kernel_rfl, by kernel_rfl, rL41_2⟩, trivial⟩ eF41 (fun h => absurd h (by rw [show env.nl 41 = false by kernel_rfl]; decide))
end
end Go.Proofs.YtiddpfhpmodfbaaGreatDoor.K
end
