/- A part of the proof: texts of the author, joined. -/
import Derived.Test.YtdnfnjaccbgplaaDoorKS0
section
set_option linter.unusedVariables false
set_option linter.unusedSimpArgs false
set_option linter.unnecessarySimpa false
open Go Go.Ev Go.Proofs
namespace Go.Proofs.YtdnfnjaccbgplaaDoor.K
set_option linter.unusedVariables false
set_option maxRecDepth 100000
noncomputable section
/-- journal.CheckJournal -/
def F22 (a0 : ((List (ByteArray × (Int × ByteArray))) × Int)) : Option (Int × Int) :=
  bndS (F66 a0 true) fun y0 =>
  sel (bNot (iEq y0.2.2 0))
    (some y0.2)
    (some ((lLen y0.1), 0))
def gF22 : FS := ⟨(.agg (.dat (.pr (.sl (.pr .str (.pr (.int .i64) .str))) (.int .i64)))), 0, (.one ⟨.non, (.tup (.seq (.dat (.int .i64)) (.dat (.int .i64)))), 0, 0⟩), fun x => (F22 x)⟩
theorem eF22 (x : gF22.a.T) : kF env (GofL [(66, [gF66])]) (LofL [(22, [])]) 22 (gF22.args x) (gF22.bs x) gF22.r.dec = gF22.F x := by kernel_rfl
theorem sF22 : SpecAt env 6 22 gF22 := mkSpec (r := 5) (gl := [(66, [gF66])]) (L0 := []) (by kernel_rfl) ⟨⟨sF66.up (by decide), trivial⟩, trivial⟩ trivial eF22 (fun h => absurd h (by rw [show env.nl 22 = false by kernel_rfl]; decide))
/-- slices.Clone[[]api.Receiver,api.Receiver] -/
def F86 (a0 : (List (ByteArray × (Int × ByteArray)))) : Option (List (ByteArray × (Int × ByteArray))) :=
  sel (iLt 0 (lLen a0))
    (sel (iLt 0 (lLen a0)) (
    sel (lCap 40 (lApp ([] : List (ByteArray × (Int × ByteArray))) a0)) (
    some (lApp ([] : List (ByteArray × (Int × ByteArray))) a0)) none) none)
    (bothS (some ([] : List (ByteArray × (Int × ByteArray)))) (sel (lCap 40 (lApp ([] : List (ByteArray × (Int × ByteArray))) ([] : List (ByteArray × (Int × ByteArray))))) (
      some (lApp ([] : List (ByteArray × (Int × ByteArray))) ([] : List (ByteArray × (Int × ByteArray))))) none))
def gF86 : FS := ⟨(.dat (.sl (.pr .str (.pr (.int .i64) .str)))), 0, (.one ⟨.non, (.own 0 (.pr .str (.pr (.int .i64) .str))), 0, 1⟩), fun x => (F86 x)⟩
theorem eF86 (x : gF86.a.T) : kF env (GofL []) (LofL [(86, [])]) 86 (gF86.args x) (gF86.bs x) gF86.r.dec = gF86.F x := by kernel_rfl
theorem sF86 : SpecAt env 1 86 gF86 := mkSpec (r := 0) (gl := []) (L0 := []) (by kernel_rfl) trivial trivial eF86 (fun _ => ⟨rfl, fun _ => by kernel_rfl⟩)
/-- journal.owned -/
def F69 (a0 : ((List (ByteArray × (Int × ByteArray))) × Int)) : Option ((List (ByteArray × (Int × ByteArray))) × Int) :=
  bndS (F86 a0.1) fun y0 =>
  some (y0, a0.2)
def gF69 : FS := ⟨(.agg (.dat (.pr (.sl (.pr .str (.pr (.int .i64) .str))) (.int .i64)))), 0, (.one ⟨.non, (.agg (.seq (.own 0 (.pr .str (.pr (.int .i64) .str))) (.dat (.int .i64)))), 0, 1⟩), fun x => (F69 x)⟩
theorem eF69 (x : gF69.a.T) : kF env (GofL [(86, [gF86])]) (LofL [(69, [])]) 69 (gF69.args x) (gF69.bs x) gF69.r.dec = gF69.F x := by kernel_rfl
theorem sF69 : SpecAt env 2 69 gF69 := mkSpec (r := 1) (gl := [(86, [gF86])]) (L0 := []) (by kernel_rfl) ⟨⟨sF86.up (by decide), trivial⟩, trivial⟩ trivial eF69 (fun h => absurd h (by rw [show env.nl 69 = false by kernel_rfl]; decide))
def B26_0 (a0 : (List (Int × (Int × (Int × (ByteArray × (Int × (Int × (ByteArray × ByteArray))))))))) (a1 : Int) (a2 : (List (ByteArray × (Int × ByteArray)))) (a3 : Int) (a4 : Int) (a5 : (List (Int × (Int × (Int × (ByteArray × (Int × (Int × (ByteArray × ByteArray))))))))) (a6 : Int) (a7 : Int) : Option (((List (Int × (Int × (Int × (ByteArray × (Int × (Int × (ByteArray × ByteArray)))))))) × (Int × (((List (ByteArray × (Int × ByteArray))) × Int) × (Int × ((List (Int × (Int × (Int × (ByteArray × (Int × (Int × (ByteArray × ByteArray)))))))) × (Int × Int)))))) ⊕ (((List (Int × (Int × (Int × (ByteArray × (Int × (Int × (ByteArray × ByteArray)))))))) × (Int × ((List (ByteArray × (Int × ByteArray))) × Int))) ⊕ (Int × (Int × Int)))) :=
  sel (iLt a7 a6)
    (sel (oIn a7 (lLen a5)) (
    sel (bNot (iEq (lAt a5 a7).1 0))
      (some (.inr (.inr (0, (a7, 5)))))
      (sel (iLt 9999 a3)
        (some (.inr (.inr (0, (a7, 19)))))
        (bndS (F16 (a3, (lAt a5 a7).2)) fun y0 =>
        sel (bNot (iEq y0.2 0))
          (some (.inr (.inr (0, (a7, y0.2)))))
          (sel (iLt 1200 (iAdd .i64 (sLen (lAt a2 a4).2.2) (sLen y0.1)))
            (some (.inr (.inr (0, (a7, 30)))))
            (sel (sOk (lAt a2 a4).2.2 y0.1) (
            some (.inl (a0, (a1, (((lSet a2 a4 ((lAt a2 a4).1, ((lAt a2 a4).2.1, (sAdd (lAt a2 a4).2.2 y0.1)))), (iAdd .i64 a3 1)), (a4, (a5, (a6, (iAdd .i64 a7 1))))))))) none))))) none)
    (some (.inr (.inl (a0, (a1, (a2, a3))))))
def L26_0 (x : ((List (Int × (Int × (Int × (ByteArray × (Int × (Int × (ByteArray × ByteArray)))))))) × (Int × (((List (ByteArray × (Int × ByteArray))) × Int) × (Int × ((List (Int × (Int × (Int × (ByteArray × (Int × (Int × (ByteArray × ByteArray)))))))) × (Int × Int))))))) : Option (((List (Int × (Int × (Int × (ByteArray × (Int × (Int × (ByteArray × ByteArray)))))))) × (Int × ((List (ByteArray × (Int × ByteArray))) × Int))) ⊕ (Int × (Int × Int))) := iter (fun (x : ((List (Int × (Int × (Int × (ByteArray × (Int × (Int × (ByteArray × ByteArray)))))))) × (Int × (((List (ByteArray × (Int × ByteArray))) × Int) × (Int × ((List (Int × (Int × (Int × (ByteArray × (Int × (Int × (ByteArray × ByteArray)))))))) × (Int × Int))))))) => (B26_0 x.1 x.2.1 x.2.2.1.1 x.2.2.1.2 x.2.2.2.1 x.2.2.2.2.1 x.2.2.2.2.2.1 x.2.2.2.2.2.2)) fuel x
def lsL26_0 : LS := ⟨(.one .normal ⟨.non, [1, 4, 9, 10, 37, 38, 39], (.seq (.dat (.sl (.pr (.int .i64) (.pr (.int .i64) (.pr (.int .i64) (.pr .str (.pr (.int .i64) (.pr (.int .i64) (.pr .str .str))))))))) (.seq (.box 0 (.seq (.lit (.slice none 0 0)) (.dat (.int .i64)))) (.seq (.box 1 (.seq (.own 2 (.pr .str (.pr (.int .i64) .str))) (.dat (.int .i64)))) (.seq (.pto 2 0) (.seq (.dat (.sl (.pr (.int .i64) (.pr (.int .i64) (.pr (.int .i64) (.pr .str (.pr (.int .i64) (.pr (.int .i64) (.pr .str .str))))))))) (.seq (.dat (.int .i64)) (.dat (.int .i64)))))))), 3, 94, 0⟩), (.two (.one (.exit 0) ⟨.non, [1, 4, 9], (.seq (.dat (.sl (.pr (.int .i64) (.pr (.int .i64) (.pr (.int .i64) (.pr .str (.pr (.int .i64) (.pr (.int .i64) (.pr .str .str))))))))) (.seq (.box 0 (.seq (.lit (.slice none 0 0)) (.dat (.int .i64)))) (.box 1 (.seq (.own 2 (.pr .str (.pr (.int .i64) .str))) (.dat (.int .i64)))))), 3, 94, 0⟩) (.one .ret ⟨.non, [4, 5, 6], (.seq (.box 0 (.seq (.lit (.slice none 0 0)) (.dat (.int .i64)))) (.seq (.dat (.int .i64)) (.dat (.int .i64)))), 1, 94, 0⟩)), fun (x : ((List (Int × (Int × (Int × (ByteArray × (Int × (Int × (ByteArray × ByteArray)))))))) × (Int × (((List (ByteArray × (Int × ByteArray))) × Int) × (Int × ((List (Int × (Int × (Int × (ByteArray × (Int × (Int × (ByteArray × ByteArray)))))))) × (Int × Int))))))) => (B26_0 x.1 x.2.1 x.2.2.1.1 x.2.2.1.2 x.2.2.2.1 x.2.2.2.2.1 x.2.2.2.2.2.1 x.2.2.2.2.2.2)⟩
/-- journal.Appended -/
def F26 (a0 : ((List (ByteArray × (Int × ByteArray))) × Int)) (a1 : (List (Int × (Int × (Int × (ByteArray × (Int × (Int × (ByteArray × ByteArray))))))))) : Option (((List (ByteArray × (Int × ByteArray))) × Int) × (Int × Int)) :=
  bndS (F22 a0) fun y0 =>
  sel (bNot (iEq y0.2 0))
    (some ((([] : List (ByteArray × (Int × ByteArray))), 0), (0, y0.2)))
    (sel (iLt 40 (lLen a1))
      (some ((([] : List (ByteArray × (Int × ByteArray))), 0), (0, 2)))
      (bndS (F69 a0) fun y1 =>
      sel (oIn (iSub .i64 (lLen y1.1) 1) (lLen y1.1)) (
      bndS (L26_0 (a1, (0, (y1, ((iSub .i64 (lLen y1.1) 1), (a1, ((lLen a1), 0))))))) fun y2 =>
      sumS y2 (fun y2a =>
        some (y2a.2.2, ((lLen y2a.1), 0))) fun y2b =>
        some ((([] : List (ByteArray × (Int × ByteArray))), y2b.1), y2b.2)) none))
def gF26 : FS := ⟨(.seq (.agg (.dat (.pr (.sl (.pr .str (.pr (.int .i64) .str))) (.int .i64)))) (.dat (.sl (.pr (.int .i64) (.pr (.int .i64) (.pr (.int .i64) (.pr .str (.pr (.int .i64) (.pr (.int .i64) (.pr .str .str)))))))))), 0, (.one ⟨.non, (.tup (.seq (.agg (.seq (.own 0 (.pr .str (.pr (.int .i64) .str))) (.dat (.int .i64)))) (.seq (.dat (.int .i64)) (.dat (.int .i64))))), 0, 1⟩), fun x => (F26 x.1 x.2)⟩
theorem rL26_0 (x : lsL26_0.hd.T) : kRound env (GofL [(16, [gF16]), (69, [gF69]), (22, [gF22])]) (LofL [(26, [(0, lsL26_0)])]) 26 0 (lpOf Tryd.prog 26 0).2 (lsL26_0.hd.st x) lsL26_0.rd = lsL26_0.B x := by kernel_rfl
theorem eF26 (x : gF26.a.T) : kF env (GofL [(16, [gF16]), (69, [gF69]), (22, [gF22])]) (LofL [(26, [(0, lsL26_0)])]) 26 (gF26.args x) (gF26.bs x) gF26.r.dec = gF26.F x := by kernel_rfl
theorem sF26 : SpecAt env 7 26 gF26 := mkSpec (r := 6) (gl := [(16, [gF16]), (69, [gF69]), (22, [gF22])]) (L0 := [(0, lsL26_0)]) (by kernel_rfl) ⟨⟨sF16.up (by decide), trivial⟩, ⟨sF69.up (by decide), trivial⟩, ⟨sF22.up (by decide), trivial⟩, trivial⟩ ⟨⟨0, by kernel_rfl, by kernel_rfl, rL26_0⟩, trivial⟩ eF26 (fun h => absurd h (by rw [show env.nl 26 = false by kernel_rfl]; decide))
/-- journal.Torn -/
def F30 (a0 : ((List (ByteArray × (Int × ByteArray))) × Int)) (a1 : Int) : Option (((List (ByteArray × (Int × ByteArray))) × Int) × Int) :=
  bndS (F22 a0) fun y0 =>
  sel (bNot (iEq y0.2 0))
    (some ((([] : List (ByteArray × (Int × ByteArray))), 0), y0.2))
    (bndS (F69 a0) fun y1 =>
    sel (oIn (iSub .i64 (lLen y1.1) 1) (lLen y1.1)) (
    letS (F50 a1 0 (sLen (lAt y1.1 (iSub .i64 (lLen y1.1) 1)).2.2)) fun y2 =>
    sel (bNot y2)
      (some ((([] : List (ByteArray × (Int × ByteArray))), 0), 3))
      (sel (oCut 0 a1 (sLen (lAt y1.1 (iSub .i64 (lLen y1.1) 1)).2.2)) (
      some (((lSet y1.1 (iSub .i64 (lLen y1.1) 1) ((lAt y1.1 (iSub .i64 (lLen y1.1) 1)).1, ((lAt y1.1 (iSub .i64 (lLen y1.1) 1)).2.1, (sCut (lAt y1.1 (iSub .i64 (lLen y1.1) 1)).2.2 0 a1)))), y1.2), 0)) none)) none)
def gF30 : FS := ⟨(.seq (.agg (.dat (.pr (.sl (.pr .str (.pr (.int .i64) .str))) (.int .i64)))) (.dat (.int .i64))), 0, (.one ⟨.non, (.tup (.seq (.agg (.seq (.own 0 (.pr .str (.pr (.int .i64) .str))) (.dat (.int .i64)))) (.dat (.int .i64)))), 0, 1⟩), fun x => (F30 x.1 x.2)⟩
theorem eF30 (x : gF30.a.T) : kF env (GofL [(50, [gF50]), (69, [gF69]), (22, [gF22])]) (LofL [(30, [])]) 30 (gF30.args x) (gF30.bs x) gF30.r.dec = gF30.F x := by kernel_rfl
theorem sF30 : SpecAt env 7 30 gF30 := mkSpec (r := 6) (gl := [(50, [gF50]), (69, [gF69]), (22, [gF22])]) (L0 := []) (by kernel_rfl) ⟨⟨sF50.up (by decide), trivial⟩, ⟨sF69.up (by decide), trivial⟩, ⟨sF22.up (by decide), trivial⟩, trivial⟩ trivial eF30 (fun h => absurd h (by rw [show env.nl 30 = false by kernel_rfl]; decide))
/-- journal.Recovered -/
def F31 (a0 : ((List (ByteArray × (Int × ByteArray))) × Int)) : Option (((List (ByteArray × (Int × ByteArray))) × Int) × (Int × Int)) :=
  bndS (F66 a0 false) fun y0 =>
  sel (bNot (iEq y0.2.2 0))
    (some ((([] : List (ByteArray × (Int × ByteArray))), 0), (0, y0.2.2)))
    (bndS (F69 a0) fun y1 =>
    sel (oIn (iSub .i64 (lLen y1.1) 1) (lLen y1.1)) (
    bndS (F72 (lAt y1.1 (iSub .i64 (lLen y1.1) 1))) fun y2 =>
    sel (oCut 0 y2.2.1 (sLen (lAt y1.1 (iSub .i64 (lLen y1.1) 1)).2.2)) (
    some (((lSet y1.1 (iSub .i64 (lLen y1.1) 1) ((lAt y1.1 (iSub .i64 (lLen y1.1) 1)).1, ((lAt y1.1 (iSub .i64 (lLen y1.1) 1)).2.1, (sCut (lAt y1.1 (iSub .i64 (lLen y1.1) 1)).2.2 0 y2.2.1)))), (iAdd .i64 (lAt (lSet y1.1 (iSub .i64 (lLen y1.1) 1) ((lAt y1.1 (iSub .i64 (lLen y1.1) 1)).1, ((lAt y1.1 (iSub .i64 (lLen y1.1) 1)).2.1, (sCut (lAt y1.1 (iSub .i64 (lLen y1.1) 1)).2.2 0 y2.2.1)))) (iSub .i64 (lLen y1.1) 1)).2.1 (lLen y2.1))), ((iSub .i64 (sLen (lAt y1.1 (iSub .i64 (lLen y1.1) 1)).2.2) y2.2.1), 0))) none) none)
def gF31 : FS := ⟨(.agg (.dat (.pr (.sl (.pr .str (.pr (.int .i64) .str))) (.int .i64)))), 0, (.one ⟨.non, (.tup (.seq (.agg (.seq (.own 0 (.pr .str (.pr (.int .i64) .str))) (.dat (.int .i64)))) (.seq (.dat (.int .i64)) (.dat (.int .i64))))), 0, 1⟩), fun x => (F31 x)⟩
theorem eF31 (x : gF31.a.T) : kF env (GofL [(72, [gF72]), (69, [gF69]), (66, [gF66])]) (LofL [(31, [])]) 31 (gF31.args x) (gF31.bs x) gF31.r.dec = gF31.F x := by kernel_rfl
theorem sF31 : SpecAt env 6 31 gF31 := mkSpec (r := 5) (gl := [(72, [gF72]), (69, [gF69]), (66, [gF66])]) (L0 := []) (by kernel_rfl) ⟨⟨sF72.up (by decide), trivial⟩, ⟨sF69.up (by decide), trivial⟩, ⟨sF66.up (by decide), trivial⟩, trivial⟩ trivial eF31 (fun h => absurd h (by rw [show env.nl 31 = false by kernel_rfl]; decide))
/-- midrangelaw32.awake -/
def F13 : Option Bool :=
  bndS (F16 (1, (2, (2, ((bs []), (0, (0, ((bs []), (bs []))))))))) fun y0 =>
  sel (bOr (oCut 0 9 (sLen y0.1)) (bNot (bNot (bOr (bNot (iEq y0.2 0)) (bNot (iEq (sLen y0.1) 30)))))) (
  sel (bOr (bOr (bNot (iEq y0.2 0)) (bNot (iEq (sLen y0.1) 30))) (bNot (sEq (sCut y0.1 0 9) (bs [0, 30, 0, 0, 0, 1, 2, 0, 2]))))
    (some false)
    (bndS (F43 (bs [82, 49])) fun y1 =>
    sel (bNot (iEq y1.2 0))
      (some false)
      (bndS (F26 y1.1 [(0, (1, (1, ((bs []), (0, (0, ((bs []), (bs [])))))))), (0, (2, (1, ((bs []), (0, (0, ((bs []), (bs []))))))))]) fun y2 =>
      sel (bOr (bNot (iEq y2.2.2 0)) (bNot (iEq y2.2.1 2)))
        (some false)
        (bndS (F30 y2.1 59) fun y3 =>
        sel (bNot (iEq y3.2 0))
          (some false)
          (bndS (F31 y3.1) fun y4 =>
          some (bAnd (bAnd (iEq y4.2.2 0) (iEq y4.1.2 2)) (iEq y4.2.1 29))))))) none
def gF13 : FS := ⟨.non, 0, (.one ⟨.non, (.dat .bool), 0, 0⟩), fun x => (F13)⟩
theorem eF13 (x : gF13.a.T) : kF env (GofL [(31, [gF31]), (30, [gF30]), (26, [gF26]), (43, [gF43]), (16, [gF16])]) (LofL [(13, [])]) 13 (gF13.args x) (gF13.bs x) gF13.r.dec = gF13.F x := by kernel_rfl
theorem sF13 : SpecAt env 8 13 gF13 := mkSpec (r := 7) (gl := [(31, [gF31]), (30, [gF30]), (26, [gF26]), (43, [gF43]), (16, [gF16])]) (L0 := []) (by kernel_rfl) ⟨⟨sF31.up (by decide), trivial⟩, ⟨sF30.up (by decide), trivial⟩, ⟨sF26.up (by decide), trivial⟩, ⟨sF43.up (by decide), trivial⟩, ⟨sF16.up (by decide), trivial⟩, trivial⟩ trivial eF13 (fun h => absurd h (by rw [show env.nl 13 = false by kernel_rfl]; decide))
/-- midrangelaw32.small -/
def F14 (a0 : (Int × (Int × (Int × (ByteArray × (Int × (Int × (ByteArray × ByteArray)))))))) : Bool :=
  (bAnd (bAnd (iLe (sLen a0.2.2.2.2.2.2.1) 300) (iLe (sLen a0.2.2.2.2.2.2.2) 300)) (iLe (sLen a0.2.2.2.1) 300))
def gF14 : FS := ⟨(.agg (.dat (.pr (.int .i64) (.pr (.int .i64) (.pr (.int .i64) (.pr .str (.pr (.int .i64) (.pr (.int .i64) (.pr .str .str))))))))), 0, (.one ⟨.non, (.dat .bool), 0, 0⟩), fun x => some (F14 x)⟩
theorem eF14 (x : gF14.a.T) : kF env (GofL []) (LofL [(14, [])]) 14 (gF14.args x) (gF14.bs x) gF14.r.dec = gF14.F x := by kernel_rfl
theorem sF14 : SpecAt env 1 14 gF14 := mkSpec (r := 0) (gl := []) (L0 := []) (by kernel_rfl) trivial trivial eF14 (fun h => absurd h (by rw [show env.nl 14 = false by kernel_rfl]; decide))
/-- midrangebase.Within -/
def F37 (a0 : Int) (a1 : Int) (a2 : Int) : Bool :=
  (bAnd (iLe a1 a0) (iLe a0 a2))
def gF37 : FS := ⟨(.seq (.dat (.int .i64)) (.seq (.dat (.int .i64)) (.dat (.int .i64)))), 0, (.one ⟨.non, (.dat .bool), 0, 0⟩), fun x => some (F37 x.1 x.2.1 x.2.2)⟩
theorem eF37 (x : gF37.a.T) : kF env (GofL []) (LofL [(37, [])]) 37 (gF37.args x) (gF37.bs x) gF37.r.dec = gF37.F x := by kernel_rfl
theorem sF37 : SpecAt env 1 37 gF37 := mkSpec (r := 0) (gl := []) (L0 := []) (by kernel_rfl) trivial trivial eF37 (fun h => absurd h (by rw [show env.nl 37 = false by kernel_rfl]; decide))
/-- midrangebase.Count -/
def F53 (a0 : Bool) : Option Int :=
  sel a0
    (some 1)
    (some 0)
def gF53 : FS := ⟨(.dat .bool), 0, (.one ⟨.non, (.dat (.int .i64)), 0, 0⟩), fun x => (F53 x)⟩
theorem eF53 (x : gF53.a.T) : kF env (GofL []) (LofL [(53, [])]) 53 (gF53.args x) (gF53.bs x) gF53.r.dec = gF53.F x := by kernel_rfl
theorem sF53 : SpecAt env 1 53 gF53 := mkSpec (r := 0) (gl := []) (L0 := []) (by kernel_rfl) trivial trivial eF53 (fun h => absurd h (by rw [show env.nl 53 = false by kernel_rfl]; decide))
/-- midrangeref32.formErr -/
def F54 (a0 : (Int × (Int × (Int × (ByteArray × (Int × (Int × (ByteArray × ByteArray)))))))) : Option Int :=
  sel (iEq a0.2.1 0)
    (bndS (F53 (bNot (bAnd (iEq a0.1 a0.1) (bAnd (iEq a0.2.1 a0.2.1) (bAnd (iEq a0.2.2.1 a0.2.2.1) (bAnd (sEq a0.2.2.2.1 a0.2.2.2.1) (bAnd (iEq a0.2.2.2.2.1 a0.2.2.2.2.1) (bAnd (iEq a0.2.2.2.2.2.1 a0.2.2.2.2.2.1) (bAnd (sEq a0.2.2.2.2.2.2.1 a0.2.2.2.2.2.2.1) (sEq a0.2.2.2.2.2.2.2 a0.2.2.2.2.2.2.2)))))))))) fun y3 =>
    some (iMul .i64 5 y3))
    (sel (sel (iEq a0.2.1 1) (iEq a0.2.1 1) (sel (iEq a0.2.1 2) (iEq a0.2.1 2) (iEq a0.2.1 3)))
      (bndS (F53 (bNot (bAnd (iEq a0.1 a0.1) (bAnd (iEq a0.2.1 a0.2.1) (bAnd (iEq a0.2.2.1 a0.2.2.1) (bAnd (sEq (bs []) a0.2.2.2.1) (bAnd (iEq 0 a0.2.2.2.2.1) (bAnd (iEq 0 a0.2.2.2.2.2.1) (bAnd (sEq (bs []) a0.2.2.2.2.2.2.1) (sEq (bs []) a0.2.2.2.2.2.2.2)))))))))) fun y2 =>
      some (iMul .i64 5 y2))
      (sel (iEq a0.2.1 4)
        (bndS (F53 (bNot (bAnd (iEq a0.1 a0.1) (bAnd (iEq a0.2.1 a0.2.1) (bAnd (iEq 0 a0.2.2.1) (bAnd (sEq a0.2.2.2.1 a0.2.2.2.1) (bAnd (iEq 0 a0.2.2.2.2.1) (bAnd (iEq 0 a0.2.2.2.2.2.1) (bAnd (sEq (bs []) a0.2.2.2.2.2.2.1) (sEq (bs []) a0.2.2.2.2.2.2.2)))))))))) fun y1 =>
        some (iMul .i64 5 y1))
        (bndS (F53 (bNot (bAnd (iEq a0.1 a0.1) (bAnd (iEq a0.2.1 a0.2.1) (bAnd (iEq 0 a0.2.2.1) (bAnd (sEq (bs []) a0.2.2.2.1) (bAnd (iEq 0 a0.2.2.2.2.1) (bAnd (iEq 0 a0.2.2.2.2.2.1) (bAnd (sEq (bs []) a0.2.2.2.2.2.2.1) (sEq (bs []) a0.2.2.2.2.2.2.2)))))))))) fun y0 =>
        some (iMul .i64 5 y0))))
def gF54 : FS := ⟨(.agg (.dat (.pr (.int .i64) (.pr (.int .i64) (.pr (.int .i64) (.pr .str (.pr (.int .i64) (.pr (.int .i64) (.pr .str .str))))))))), 0, (.one ⟨.non, (.dat (.int .i64)), 0, 0⟩), fun x => (F54 x)⟩
theorem eF54 (x : gF54.a.T) : kF env (GofL [(53, [gF53])]) (LofL [(54, [])]) 54 (gF54.args x) (gF54.bs x) gF54.r.dec = gF54.F x := by kernel_rfl
theorem sF54 : SpecAt env 2 54 gF54 := mkSpec (r := 1) (gl := [(53, [gF53])]) (L0 := []) (by kernel_rfl) ⟨⟨sF53.up (by decide), trivial⟩, trivial⟩ trivial eF54 (fun h => absurd h (by rw [show env.nl 54 = false by kernel_rfl]; decide))
/-- midrangebase.IsUpper -/
def F78 (a0 : Int) : Bool :=
  (bAnd (iLe 65 a0) (iLe a0 90))
def gF78 : FS := ⟨(.dat (.int .u8)), 0, (.one ⟨.non, (.dat .bool), 0, 0⟩), fun x => some (F78 x)⟩
theorem eF78 (x : gF78.a.T) : kF env (GofL []) (LofL [(78, [])]) 78 (gF78.args x) (gF78.bs x) gF78.r.dec = gF78.F x := by kernel_rfl
theorem sF78 : SpecAt env 1 78 gF78 := mkSpec (r := 0) (gl := []) (L0 := []) (by kernel_rfl) trivial trivial eF78 (fun h => absurd h (by rw [show env.nl 78 = false by kernel_rfl]; decide))
/-- midrangebase.IsDigit -/
def F79 (a0 : Int) : Bool :=
  (bAnd (iLe 48 a0) (iLe a0 57))
def gF79 : FS := ⟨(.dat (.int .u8)), 0, (.one ⟨.non, (.dat .bool), 0, 0⟩), fun x => some (F79 x)⟩
theorem eF79 (x : gF79.a.T) : kF env (GofL []) (LofL [(79, [])]) 79 (gF79.args x) (gF79.bs x) gF79.r.dec = gF79.F x := by kernel_rfl
theorem sF79 : SpecAt env 1 79 gF79 := mkSpec (r := 0) (gl := []) (L0 := []) (by kernel_rfl) trivial trivial eF79 (fun h => absurd h (by rw [show env.nl 79 = false by kernel_rfl]; decide))
def B55_0 (a0 : ByteArray) (a1 : Int) : Option ((ByteArray × Int) ⊕ (Unit ⊕ Bool)) :=
  sel (iLt a1 (sLen a0))
    (sel (oIn a1 (sLen a0)) (
    letS (F78 (sAt a0 a1)) fun y0 =>
    letS (F79 (sAt a0 a1)) fun y1 =>
    sel (bAnd (bNot (bOr (bOr (bOr y0 (iEq (sAt a0 a1) 36)) (iEq (sAt a0 a1) 35)) (iEq (sAt a0 a1) 64))) (bOr (iEq a1 0) (bAnd (bAnd (bNot y1) (bNot (iEq (sAt a0 a1) 95))) (bNot (iEq (sAt a0 a1) 46)))))
      (some (.inr (.inr false)))
      (some (.inl (a0, (iAdd .i64 a1 1))))) none)
    (some (.inr (.inl ())))
def L55_0 (x : (ByteArray × Int)) : Option (Unit ⊕ Bool) := iter (fun (x : (ByteArray × Int)) => (B55_0 x.1 x.2)) fuel x
def lsL55_0 : LS := ⟨(.one .normal ⟨.non, [0, 3], (.seq (.dat .str) (.dat (.int .i64))), 0, 52, 0⟩), (.two (.one (.exit 0) ⟨.non, [], .non, 0, 52, 0⟩) (.one .ret ⟨.non, [2], (.dat .bool), 0, 52, 0⟩)), fun (x : (ByteArray × Int)) => (B55_0 x.1 x.2)⟩
/-- midrangebase.IsName -/
def F55 (a0 : ByteArray) : Option Bool :=
  letS (F37 (sLen a0) 1 10) fun y0 =>
  sel (bNot y0)
    (some false)
    (bndS (L55_0 (a0, 0)) fun y1 =>
    sumS y1 (fun y1a =>
      some true) fun y1b =>
      some y1b)
def gF55 : FS := ⟨(.dat .str), 0, (.one ⟨.non, (.dat .bool), 0, 0⟩), fun x => (F55 x)⟩
theorem rL55_0 (x : lsL55_0.hd.T) : kRound env (GofL [(79, [gF79]), (78, [gF78]), (37, [gF37])]) (LofL [(55, [(0, lsL55_0)])]) 55 0 (lpOf Tryd.prog 55 0).2 (lsL55_0.hd.st x) lsL55_0.rd = lsL55_0.B x := by kernel_rfl
theorem eF55 (x : gF55.a.T) : kF env (GofL [(79, [gF79]), (78, [gF78]), (37, [gF37])]) (LofL [(55, [(0, lsL55_0)])]) 55 (gF55.args x) (gF55.bs x) gF55.r.dec = gF55.F x := by kernel_rfl
theorem sF55 : SpecAt env 2 55 gF55 := mkSpec (r := 1) (gl := [(79, [gF79]), (78, [gF78]), (37, [gF37])]) (L0 := [(0, lsL55_0)]) (by kernel_rfl) ⟨⟨sF79.up (by decide), trivial⟩, ⟨sF78.up (by decide), trivial⟩, ⟨sF37.up (by decide), trivial⟩, trivial⟩ ⟨⟨0, by kernel_rfl, by kernel_rfl, rL55_0⟩, trivial⟩ eF55 (fun h => absurd h (by rw [show env.nl 55 = false by kernel_rfl]; decide))
/-- midrangeref32.changeErr -/
def F56 (a0 : (ByteArray × (Int × (Int × (ByteArray × ByteArray))))) : Option Int :=
  letS (F37 a0.2.1 0 2) fun y0 =>
  sel (bNot y0)
    (some 4)
    (letS (F37 a0.2.2.1 1 60) fun y1 =>
    sel (bNot y1)
      (some 3)
      (sel (bOr (iLt 200 (sLen a0.2.2.2.1)) (iLt 200 (sLen a0.2.2.2.2)))
        (some 18)
        (bndS (F53 (bOr (bNot (bEq (sEq a0.2.2.2.1 (bs [])) (iEq a0.2.1 0))) (bNot (bEq (sEq a0.2.2.2.2 (bs [])) (iEq a0.2.1 2))))) fun y2 =>
        some (iMul .i64 5 y2))))
def gF56 : FS := ⟨(.agg (.dat (.pr .str (.pr (.int .i64) (.pr (.int .i64) (.pr .str .str)))))), 0, (.one ⟨.non, (.dat (.int .i64)), 0, 0⟩), fun x => (F56 x)⟩
theorem eF56 (x : gF56.a.T) : kF env (GofL [(53, [gF53]), (37, [gF37])]) (LofL [(56, [])]) 56 (gF56.args x) (gF56.bs x) gF56.r.dec = gF56.F x := by kernel_rfl
theorem sF56 : SpecAt env 2 56 gF56 := mkSpec (r := 1) (gl := [(53, [gF53]), (37, [gF37])]) (L0 := []) (by kernel_rfl) ⟨⟨sF53.up (by decide), trivial⟩, ⟨sF37.up (by decide), trivial⟩, trivial⟩ trivial eF56 (fun h => absurd h (by rw [show env.nl 56 = false by kernel_rfl]; decide))
/-- midrangeref32.EntryErr -/
def F17 (a0 : (Int × (Int × (Int × (ByteArray × (Int × (Int × (ByteArray × ByteArray)))))))) : Option Int :=
  letS (F37 a0.2.1 0 5) fun y0 =>
  sel (bNot y0)
    (some 4)
    (letS (F37 a0.1 1 9999) fun y1 =>
    sel (bNot y1)
      (some 3)
      (sel (bOr (okS (F53 (bOr (bOr (iEq a0.2.1 1) (iEq a0.2.1 2)) (iEq a0.2.1 3)))) (bNot (bOr (bOr (bOr (iEq a0.2.1 1) (iEq a0.2.1 2)) (iEq a0.2.1 3)) (iEq a0.2.1 0)))) (
      letS (valS (F53 (bOr (bOr (iEq a0.2.1 1) (iEq a0.2.1 2)) (iEq a0.2.1 3))) 0) fun y2 =>
      letS (F37 a0.2.2.1 y2 999) fun y3 =>
      sel (bAnd (bOr (bOr (bOr (iEq a0.2.1 1) (iEq a0.2.1 2)) (iEq a0.2.1 3)) (iEq a0.2.1 0)) (bNot y3))
        (some 3)
        (bndS (F54 a0) fun y4 =>
        sel (bNot (iEq y4 0))
          (some y4)
          (sel (bAnd (bNot (iEq a0.2.1 0)) (bNot (iEq a0.2.1 4)))
            (some 0)
            (bndS (F55 a0.2.2.2.1) fun y5 =>
            sel (bNot y5)
              (some 7)
              (sel (iEq a0.2.1 4)
                (some 0)
                (bndS (F56 a0.2.2.2) fun y6 =>
                some y6)))))) none))
def gF17 : FS := ⟨(.agg (.dat (.pr (.int .i64) (.pr (.int .i64) (.pr (.int .i64) (.pr .str (.pr (.int .i64) (.pr (.int .i64) (.pr .str .str))))))))), 0, (.one ⟨.non, (.dat (.int .i64)), 0, 0⟩), fun x => (F17 x)⟩
theorem eF17 (x : gF17.a.T) : kF env (GofL [(56, [gF56]), (55, [gF55]), (54, [gF54]), (37, [gF37]), (53, [gF53])]) (LofL [(17, [])]) 17 (gF17.args x) (gF17.bs x) gF17.r.dec = gF17.F x := by kernel_rfl
theorem sF17 : SpecAt env 3 17 gF17 := mkSpec (r := 2) (gl := [(56, [gF56]), (55, [gF55]), (54, [gF54]), (37, [gF37]), (53, [gF53])]) (L0 := []) (by kernel_rfl) ⟨⟨sF56.up (by decide), trivial⟩, ⟨sF55.up (by decide), trivial⟩, ⟨sF54.up (by decide), trivial⟩, ⟨sF37.up (by decide), trivial⟩, ⟨sF53.up (by decide), trivial⟩, trivial⟩ trivial eF17 (fun h => absurd h (by rw [show env.nl 17 = false by kernel_rfl]; decide))
def B57_0 (a0 : Int) (a1 : Int) (a2 : (List Int)) (a3 : Int) : Option ((Int × (Int × ((List Int) × Int))) ⊕ (List Int)) :=
  sel (iLt a3 a1)
    (sel (oNz 256) (
    sel (oIn (iSub .i64 (iSub .i64 a1 1) a3) (lLen a2)) (
    sel (oNz 256) (
    some (.inl ((iQuo .i64 a0 256), (a1, ((lSet a2 (iSub .i64 (iSub .i64 a1 1) a3) (iCv .u8 (iRem a0 256))), (iAdd .i64 a3 1)))))) none) none) none)
    (some (.inr a2))
def L57_0 (x : (Int × (Int × ((List Int) × Int)))) : Option (List Int) := iter (fun (x : (Int × (Int × ((List Int) × Int)))) => (B57_0 x.1 x.2.1 x.2.2.1 x.2.2.2)) fuel x
def lsL57_0 : LS := ⟨(.one .normal ⟨.non, [0, 1, 5, 6], (.seq (.dat (.int .i64)) (.seq (.dat (.int .i64)) (.seq (.own 0 (.int .u8)) (.dat (.int .i64))))), 1, 27, 0⟩), (.one (.exit 0) ⟨.non, [5], (.own 0 (.int .u8)), 1, 27, 0⟩), fun (x : (Int × (Int × ((List Int) × Int)))) => (B57_0 x.1 x.2.1 x.2.2.1 x.2.2.2)⟩
/-- midrangebase.BigBytes -/
def F57 (a0 : Int) (a1 : Int) : Option ByteArray :=
  sel (nCap 1 a1) (
  bndS (L57_0 (a0, (a1, ((lRep a1 0), 0)))) fun y0 =>
  some (sOf y0)) none
def gF57 : FS := ⟨(.seq (.dat (.int .i64)) (.dat (.int .i64))), 0, (.one ⟨.non, (.dat .str), 0, 0⟩), fun x => (F57 x.1 x.2)⟩
theorem rL57_0 (x : lsL57_0.hd.T) : kRound env (GofL []) (LofL [(57, [(0, lsL57_0)])]) 57 0 (lpOf Tryd.prog 57 0).2 (lsL57_0.hd.st x) lsL57_0.rd = lsL57_0.B x := by kernel_rfl
theorem eF57 (x : gF57.a.T) : kF env (GofL []) (LofL [(57, [(0, lsL57_0)])]) 57 (gF57.args x) (gF57.bs x) gF57.r.dec = gF57.F x := by kernel_rfl
theorem sF57 : SpecAt env 1 57 gF57 := mkSpec (r := 0) (gl := []) (L0 := [(0, lsL57_0)]) (by kernel_rfl) trivial ⟨⟨0, by kernel_rfl, by kernel_rfl, rL57_0⟩, trivial⟩ eF57 (fun h => absurd h (by rw [show env.nl 57 = false by kernel_rfl]; decide))
def B80_0 (a0 : Int) (a1 : Int) (a2 : (List Int)) (a3 : Int) : Option ((Int × (Int × ((List Int) × Int))) ⊕ (List Int)) :=
  sel (iLt a3 a1)
    (sel (lCap 1 (lApp a2 [a0])) (
    some (.inl (a0, (a1, ((lApp a2 [a0]), (iAdd .i64 a3 1)))))) none)
    (some (.inr a2))
def L80_0 (x : (Int × (Int × ((List Int) × Int)))) : Option (List Int) := iter (fun (x : (Int × (Int × ((List Int) × Int)))) => (B80_0 x.1 x.2.1 x.2.2.1 x.2.2.2)) fuel x
def lsL80_0 : LS := ⟨(.one .normal ⟨.non, [0, 1, 5, 6], (.seq (.dat (.int .u8)) (.seq (.dat (.int .i64)) (.seq (.own 0 (.int .u8)) (.dat (.int .i64))))), 1, 18, 0⟩), (.one (.exit 0) ⟨.non, [5], (.own 0 (.int .u8)), 1, 18, 0⟩), fun (x : (Int × (Int × ((List Int) × Int)))) => (B80_0 x.1 x.2.1 x.2.2.1 x.2.2.2)⟩
/-- midrangebase.Repeat -/
def F80 (a0 : Int) (a1 : Int) : Option ByteArray :=
  bndS (L80_0 (a0, (a1, (([] : List Int), 0)))) fun y0 =>
  some (sOf y0)
def gF80 : FS := ⟨(.seq (.dat (.int .u8)) (.dat (.int .i64))), 0, (.one ⟨.non, (.dat .str), 0, 0⟩), fun x => (F80 x.1 x.2)⟩
theorem rL80_0 (x : lsL80_0.hd.T) : kRound env (GofL []) (LofL [(80, [(0, lsL80_0)])]) 80 0 (lpOf Tryd.prog 80 0).2 (lsL80_0.hd.st x) lsL80_0.rd = lsL80_0.B x := by kernel_rfl
theorem eF80 (x : gF80.a.T) : kF env (GofL []) (LofL [(80, [(0, lsL80_0)])]) 80 (gF80.args x) (gF80.bs x) gF80.r.dec = gF80.F x := by kernel_rfl
theorem sF80 : SpecAt env 1 80 gF80 := mkSpec (r := 0) (gl := []) (L0 := [(0, lsL80_0)]) (by kernel_rfl) trivial ⟨⟨0, by kernel_rfl, by kernel_rfl, rL80_0⟩, trivial⟩ eF80 (fun h => absurd h (by rw [show env.nl 80 = false by kernel_rfl]; decide))
/-- midrangebase.Padded -/
def F58 (a0 : ByteArray) (a1 : Int) : Option ByteArray :=
  sel (iLe a1 (sLen a0))
    (sel (oCut 0 a1 (sLen a0)) (
    some (sCut a0 0 a1)) none)
    (bndS (F80 32 (iSub .i64 a1 (sLen a0))) fun y0 =>
    sel (sOk a0 y0) (
    some (sAdd a0 y0)) none)
def gF58 : FS := ⟨(.seq (.dat .str) (.dat (.int .i64))), 0, (.one ⟨.non, (.dat .str), 0, 0⟩), fun x => (F58 x.1 x.2)⟩
theorem eF58 (x : gF58.a.T) : kF env (GofL [(80, [gF80])]) (LofL [(58, [])]) 58 (gF58.args x) (gF58.bs x) gF58.r.dec = gF58.F x := by kernel_rfl
theorem sF58 : SpecAt env 2 58 gF58 := mkSpec (r := 1) (gl := [(80, [gF80])]) (L0 := []) (by kernel_rfl) ⟨⟨sF80.up (by decide), trivial⟩, trivial⟩ trivial eF58 (fun h => absurd h (by rw [show env.nl 58 = false by kernel_rfl]; decide))
def B59_0 (a0 : ByteArray) (a1 : Int) (a2 : Int) : Option ((ByteArray × (Int × Int)) ⊕ Int) :=
  sel (iLt a2 (sLen a0))
    (sel (oIn a2 (sLen a0)) (
    sel (oNz 4294967291) (
    some (.inl (a0, ((iRem (iAdd .i64 (iAdd .i64 (iMul .i64 257 a1) (iCv .i64 (sAt a0 a2))) 1) 4294967291), (iAdd .i64 a2 1))))) none) none)
    (some (.inr a1))
def L59_0 (x : (ByteArray × (Int × Int))) : Option Int := iter (fun (x : (ByteArray × (Int × Int))) => (B59_0 x.1 x.2.1 x.2.2)) fuel x
def lsL59_0 : LS := ⟨(.one .normal ⟨.non, [0, 3, 4], (.seq (.dat .str) (.seq (.dat (.int .i64)) (.dat (.int .i64)))), 0, 21, 0⟩), (.one (.exit 0) ⟨.non, [3], (.dat (.int .i64)), 0, 21, 0⟩), fun (x : (ByteArray × (Int × Int))) => (B59_0 x.1 x.2.1 x.2.2)⟩
/-- midrangeref07.Sum -/
def F59 (a0 : ByteArray) : Option Int :=
  bndS (L59_0 (a0, (1, 0))) fun y0 =>
  some y0
def gF59 : FS := ⟨(.dat .str), 0, (.one ⟨.non, (.dat (.int .i64)), 0, 0⟩), fun x => (F59 x)⟩
theorem rL59_0 (x : lsL59_0.hd.T) : kRound env (GofL []) (LofL [(59, [(0, lsL59_0)])]) 59 0 (lpOf Tryd.prog 59 0).2 (lsL59_0.hd.st x) lsL59_0.rd = lsL59_0.B x := by kernel_rfl
theorem eF59 (x : gF59.a.T) : kF env (GofL []) (LofL [(59, [(0, lsL59_0)])]) 59 (gF59.args x) (gF59.bs x) gF59.r.dec = gF59.F x := by kernel_rfl
theorem sF59 : SpecAt env 1 59 gF59 := mkSpec (r := 0) (gl := []) (L0 := [(0, lsL59_0)]) (by kernel_rfl) trivial ⟨⟨0, by kernel_rfl, by kernel_rfl, rL59_0⟩, trivial⟩ eF59 (fun h => absurd h (by rw [show env.nl 59 = false by kernel_rfl]; decide))
/-- midrangeref32.Bytes -/
def F18 (a0 : (Int × (Int × (Int × (ByteArray × (Int × (Int × (ByteArray × ByteArray)))))))) : Option ByteArray :=
  bndS (F57 (iAdd .i64 (iAdd .i64 30 (sLen a0.2.2.2.2.2.2.1)) (sLen a0.2.2.2.2.2.2.2)) 2) fun y0 =>
  bndS (F57 a0.1 4) fun y1 =>
  sel (sOk y0 y1) (
  bndS (F57 a0.2.1 1) fun y2 =>
  sel (sOk (sAdd y0 y1) y2) (
  bndS (F57 a0.2.2.1 2) fun y3 =>
  sel (sOk (sAdd (sAdd y0 y1) y2) y3) (
  bndS (F57 a0.2.2.2.2.1 1) fun y4 =>
  sel (sOk (sAdd (sAdd (sAdd y0 y1) y2) y3) y4) (
  bndS (F57 a0.2.2.2.2.2.1 2) fun y5 =>
  sel (sOk (sAdd (sAdd (sAdd (sAdd y0 y1) y2) y3) y4) y5) (
  bndS (F58 a0.2.2.2.1 10) fun y6 =>
  sel (sOk (sAdd (sAdd (sAdd (sAdd (sAdd y0 y1) y2) y3) y4) y5) y6) (
  bndS (F57 (sLen a0.2.2.2.2.2.2.1) 2) fun y7 =>
  sel (sOk (sAdd (sAdd (sAdd (sAdd (sAdd (sAdd y0 y1) y2) y3) y4) y5) y6) y7) (
  sel (sOk (sAdd (sAdd (sAdd (sAdd (sAdd (sAdd (sAdd y0 y1) y2) y3) y4) y5) y6) y7) a0.2.2.2.2.2.2.1) (
  bndS (F57 (sLen a0.2.2.2.2.2.2.2) 2) fun y8 =>
  sel (sOk (sAdd (sAdd (sAdd (sAdd (sAdd (sAdd (sAdd (sAdd y0 y1) y2) y3) y4) y5) y6) y7) a0.2.2.2.2.2.2.1) y8) (
  sel (sOk (sAdd (sAdd (sAdd (sAdd (sAdd (sAdd (sAdd (sAdd (sAdd y0 y1) y2) y3) y4) y5) y6) y7) a0.2.2.2.2.2.2.1) y8) a0.2.2.2.2.2.2.2) (
  bndS (F59 (sAdd (sAdd (sAdd (sAdd (sAdd (sAdd (sAdd (sAdd (sAdd (sAdd y0 y1) y2) y3) y4) y5) y6) y7) a0.2.2.2.2.2.2.1) y8) a0.2.2.2.2.2.2.2)) fun y9 =>
  bndS (F57 y9 4) fun y10 =>
  sel (sOk (sAdd (sAdd (sAdd (sAdd (sAdd (sAdd (sAdd (sAdd (sAdd (sAdd y0 y1) y2) y3) y4) y5) y6) y7) a0.2.2.2.2.2.2.1) y8) a0.2.2.2.2.2.2.2) y10) (
  some (sAdd (sAdd (sAdd (sAdd (sAdd (sAdd (sAdd (sAdd (sAdd (sAdd (sAdd y0 y1) y2) y3) y4) y5) y6) y7) a0.2.2.2.2.2.2.1) y8) a0.2.2.2.2.2.2.2) y10)) none) none) none) none) none) none) none) none) none) none) none
def gF18 : FS := ⟨(.agg (.dat (.pr (.int .i64) (.pr (.int .i64) (.pr (.int .i64) (.pr .str (.pr (.int .i64) (.pr (.int .i64) (.pr .str .str))))))))), 0, (.one ⟨.non, (.dat .str), 0, 0⟩), fun x => (F18 x)⟩
theorem eF18 (x : gF18.a.T) : kF env (GofL [(57, [gF57]), (59, [gF59]), (58, [gF58])]) (LofL [(18, [])]) 18 (gF18.args x) (gF18.bs x) gF18.r.dec = gF18.F x := by kernel_rfl
theorem sF18 : SpecAt env 3 18 gF18 := mkSpec (r := 2) (gl := [(57, [gF57]), (59, [gF59]), (58, [gF58])]) (L0 := []) (by kernel_rfl) ⟨⟨sF57.up (by decide), trivial⟩, ⟨sF59.up (by decide), trivial⟩, ⟨sF58.up (by decide), trivial⟩, trivial⟩ trivial eF18 (fun h => absurd h (by rw [show env.nl 18 = false by kernel_rfl]; decide))
/-- midrangelaw32.JournalEntries -/
def F3 (a0 : (Int × (Int × (Int × (ByteArray × (Int × (Int × (ByteArray × ByteArray)))))))) : Option Bool :=
  bndS (F13) fun y0 =>
  sel (bNot y0)
    (some false)
    (letS (F14 a0) fun y1 =>
    sel (bNot y1)
      (some true)
      (bndS (F15 a0) fun y2 =>
      bndS (F16 a0) fun y3 =>
      bndS (F17 a0) fun y4 =>
      sel (bNot (iEq y4 0))
        (some (bAnd (bAnd (iEq y2 y4) (iEq y3.2 y4)) (sEq y3.1 (bs []))))
        (sel (bOr (okS (F18 a0)) (bNot (bAnd (iEq y2 0) (iEq y3.2 0)))) (
        letS (valS (F18 a0) ByteArray.empty) fun y5 =>
        some (bAnd (bAnd (iEq y2 0) (iEq y3.2 0)) (sEq y3.1 y5))) none)))
def gF3 : FS := ⟨(.agg (.dat (.pr (.int .i64) (.pr (.int .i64) (.pr (.int .i64) (.pr .str (.pr (.int .i64) (.pr (.int .i64) (.pr .str .str))))))))), 0, (.one ⟨.non, (.dat .bool), 0, 0⟩), fun x => (F3 x)⟩
theorem eF3 (x : gF3.a.T) : kF env (GofL [(18, [gF18]), (17, [gF17]), (16, [gF16]), (15, [gF15]), (14, [gF14]), (13, [gF13])]) (LofL [(3, [])]) 3 (gF3.args x) (gF3.bs x) gF3.r.dec = gF3.F x := by kernel_rfl
theorem sF3 : SpecAt env 9 3 gF3 := mkSpec (r := 8) (gl := [(18, [gF18]), (17, [gF17]), (16, [gF16]), (15, [gF15]), (14, [gF14]), (13, [gF13])]) (L0 := []) (by kernel_rfl) ⟨⟨sF18.up (by decide), trivial⟩, ⟨sF17.up (by decide), trivial⟩, ⟨sF16.up (by decide), trivial⟩, ⟨sF15.up (by decide), trivial⟩, ⟨sF14.up (by decide), trivial⟩, ⟨sF13.up (by decide), trivial⟩, trivial⟩ trivial eF3 (fun h => absurd h (by rw [show env.nl 3 = false by kernel_rfl]; decide))
def B64_0 (a0 : ByteArray) (a1 : Int) (a2 : Int) (a3 : Int) (a4 : Int) : Option ((ByteArray × (Int × (Int × (Int × Int)))) ⊕ Int) :=
  sel (iLt a4 a2)
    (sel (oIn (iAdd .i64 a1 a4) (sLen a0)) (
    some (.inl (a0, (a1, (a2, ((iAdd .i64 (iMul .i64 a3 256) (iCv .i64 (sAt a0 (iAdd .i64 a1 a4)))), (iAdd .i64 a4 1))))))) none)
    (some (.inr a3))
def L64_0 (x : (ByteArray × (Int × (Int × (Int × Int))))) : Option Int := iter (fun (x : (ByteArray × (Int × (Int × (Int × Int))))) => (B64_0 x.1 x.2.1 x.2.2.1 x.2.2.2.1 x.2.2.2.2)) fuel x
def lsL64_0 : LS := ⟨(.one .normal ⟨.non, [0, 1, 2, 7, 8], (.seq (.dat .str) (.seq (.dat (.int .i64)) (.seq (.dat (.int .i64)) (.seq (.dat (.int .i64)) (.dat (.int .i64)))))), 0, 24, 0⟩), (.one (.exit 0) ⟨.non, [7], (.dat (.int .i64)), 0, 24, 0⟩), fun (x : (ByteArray × (Int × (Int × (Int × Int))))) => (B64_0 x.1 x.2.1 x.2.2.1 x.2.2.2.1 x.2.2.2.2)⟩
/-- midrangebase.Big -/
def F64 (a0 : ByteArray) (a1 : Int) (a2 : Int) : Option Int :=
  bndS (L64_0 (a0, (a1, (a2, (0, 0))))) fun y0 =>
  some y0
def gF64 : FS := ⟨(.seq (.dat .str) (.seq (.dat (.int .i64)) (.dat (.int .i64)))), 0, (.one ⟨.non, (.dat (.int .i64)), 0, 0⟩), fun x => (F64 x.1 x.2.1 x.2.2)⟩
theorem rL64_0 (x : lsL64_0.hd.T) : kRound env (GofL []) (LofL [(64, [(0, lsL64_0)])]) 64 0 (lpOf Tryd.prog 64 0).2 (lsL64_0.hd.st x) lsL64_0.rd = lsL64_0.B x := by kernel_rfl
theorem eF64 (x : gF64.a.T) : kF env (GofL []) (LofL [(64, [(0, lsL64_0)])]) 64 (gF64.args x) (gF64.bs x) gF64.r.dec = gF64.F x := by kernel_rfl
theorem sF64 : SpecAt env 1 64 gF64 := mkSpec (r := 0) (gl := []) (L0 := [(0, lsL64_0)]) (by kernel_rfl) trivial ⟨⟨0, by kernel_rfl, by kernel_rfl, rL64_0⟩, trivial⟩ eF64 (fun h => absurd h (by rw [show env.nl 64 = false by kernel_rfl]; decide))
def B65_0 (a0 : ByteArray) : Option (ByteArray ⊕ ByteArray) :=
  sel (bOr (oIn (iSub .i64 (sLen a0) 1) (sLen a0)) (bNot (iLt 0 (sLen a0)))) (
  sel (bAnd (iLt 0 (sLen a0)) (iEq (sAt a0 (iSub .i64 (sLen a0) 1)) 32))
    (sel (oCut 0 (iSub .i64 (sLen a0) 1) (sLen a0)) (
    some (.inl (sCut a0 0 (iSub .i64 (sLen a0) 1)))) none)
    (some (.inr a0))) none
def L65_0 (x : ByteArray) : Option ByteArray := iter (fun (x : ByteArray) => (B65_0 x)) fuel x
def lsL65_0 : LS := ⟨(.one .normal ⟨.non, [0], (.dat .str), 0, 20, 0⟩), (.one (.exit 0) ⟨.non, [0], (.dat .str), 0, 20, 0⟩), fun (x : ByteArray) => (B65_0 x)⟩
/-- midrangeref32.trimmed -/
def F65 (a0 : ByteArray) : Option ByteArray :=
  bndS (L65_0 a0) fun y0 =>
  some y0
def gF65 : FS := ⟨(.dat .str), 0, (.one ⟨.non, (.dat .str), 0, 0⟩), fun x => (F65 x)⟩
theorem rL65_0 (x : lsL65_0.hd.T) : kRound env (GofL []) (LofL [(65, [(0, lsL65_0)])]) 65 0 (lpOf Tryd.prog 65 0).2 (lsL65_0.hd.st x) lsL65_0.rd = lsL65_0.B x := by kernel_rfl
theorem eF65 (x : gF65.a.T) : kF env (GofL []) (LofL [(65, [(0, lsL65_0)])]) 65 (gF65.args x) (gF65.bs x) gF65.r.dec = gF65.F x := by kernel_rfl
theorem sF65 : SpecAt env 1 65 gF65 := mkSpec (r := 0) (gl := []) (L0 := [(0, lsL65_0)]) (by kernel_rfl) trivial ⟨⟨0, by kernel_rfl, by kernel_rfl, rL65_0⟩, trivial⟩ eF65 (fun h => absurd h (by rw [show env.nl 65 = false by kernel_rfl]; decide))
/-- midrangeref32.EntryIn -/
def F20 (a0 : ByteArray) (a1 : Int) : Option ((Int × (Int × (Int × (ByteArray × (Int × (Int × (ByteArray × ByteArray))))))) × (Int × Int)) :=
  letS (F37 a1 0 (sLen a0)) fun y0 =>
  sel (bNot y0)
    (some ((0, (0, (0, ((bs []), (0, (0, ((bs []), (bs [])))))))), (0, 3)))
    (sel (bOr (okS (F64 a0 a1 2)) (bNot (bNot (iLt (iSub .i64 (sLen a0) a1) 30)))) (
    letS (valS (F64 a0 a1 2) 0) fun y1 =>
    sel (bOr (iLt (iSub .i64 (sLen a0) a1) 30) (iLt (iSub .i64 (sLen a0) a1) y1))
      (some ((0, (0, (0, ((bs []), (0, (0, ((bs []), (bs [])))))))), (0, 9)))
      (bndS (F64 a0 a1 2) fun y2 =>
      sel (oCut a1 (iAdd .i64 a1 (sel (iLt y2 30) 30 y2)) (sLen a0)) (
      bndS (F64 (sCut a0 a1 (iAdd .i64 a1 (sel (iLt y2 30) 30 y2))) 22 2) fun y3 =>
      sel (bOr (iLt y2 30) (iLt y2 (iAdd .i64 30 y3)))
        (some ((0, (0, (0, ((bs []), (0, (0, ((bs []), (bs [])))))))), (0, 18)))
        (bndS (F64 (sCut a0 a1 (iAdd .i64 a1 (sel (iLt y2 30) 30 y2))) (iAdd .i64 24 y3) 2) fun y4 =>
        sel (bNot (iEq (iAdd .i64 (iAdd .i64 30 y3) y4) y2))
          (some ((0, (0, (0, ((bs []), (0, (0, ((bs []), (bs [])))))))), (0, 18)))
          (bndS (F64 (sCut a0 a1 (iAdd .i64 a1 (sel (iLt y2 30) 30 y2))) (iSub .i64 y2 4) 4) fun y5 =>
          sel (oCut 0 (iSub .i64 y2 4) (sLen (sCut a0 a1 (iAdd .i64 a1 (sel (iLt y2 30) 30 y2))))) (
          bndS (F59 (sCut (sCut a0 a1 (iAdd .i64 a1 (sel (iLt y2 30) 30 y2))) 0 (iSub .i64 y2 4))) fun y6 =>
          sel (bNot (iEq y5 y6))
            (some ((0, (0, (0, ((bs []), (0, (0, ((bs []), (bs [])))))))), (0, 33)))
            (sel (oCut 12 22 (sLen (sCut a0 a1 (iAdd .i64 a1 (sel (iLt y2 30) 30 y2))))) (
            bndS (F65 (sCut (sCut a0 a1 (iAdd .i64 a1 (sel (iLt y2 30) 30 y2))) 12 22)) fun y7 =>
            sel (bOr (okS (F55 y7)) (bNot (bNot (sEq y7 (bs []))))) (
            letS (valS (F55 y7) false) fun y8 =>
            sel (bAnd (bNot (sEq y7 (bs []))) (bNot y8))
              (some ((0, (0, (0, ((bs []), (0, (0, ((bs []), (bs [])))))))), (0, 5)))
              (bndS (F64 (sCut a0 a1 (iAdd .i64 a1 (sel (iLt y2 30) 30 y2))) 2 4) fun y9 =>
              bndS (F64 (sCut a0 a1 (iAdd .i64 a1 (sel (iLt y2 30) 30 y2))) 6 1) fun y10 =>
              bndS (F64 (sCut a0 a1 (iAdd .i64 a1 (sel (iLt y2 30) 30 y2))) 7 2) fun y11 =>
              bndS (F64 (sCut a0 a1 (iAdd .i64 a1 (sel (iLt y2 30) 30 y2))) 9 1) fun y12 =>
              bndS (F64 (sCut a0 a1 (iAdd .i64 a1 (sel (iLt y2 30) 30 y2))) 10 2) fun y13 =>
              sel (oCut 24 (iAdd .i64 24 y3) (sLen (sCut a0 a1 (iAdd .i64 a1 (sel (iLt y2 30) 30 y2))))) (
              sel (oCut (iAdd .i64 26 y3) (iAdd .i64 (iAdd .i64 26 y3) y4) (sLen (sCut a0 a1 (iAdd .i64 a1 (sel (iLt y2 30) 30 y2))))) (
              bndS (F17 (y9, (y10, (y11, (y7, (y12, (y13, ((sCut (sCut a0 a1 (iAdd .i64 a1 (sel (iLt y2 30) 30 y2))) 24 (iAdd .i64 24 y3)), (sCut (sCut a0 a1 (iAdd .i64 a1 (sel (iLt y2 30) 30 y2))) (iAdd .i64 26 y3) (iAdd .i64 (iAdd .i64 26 y3) y4)))))))))) fun y14 =>
              sel (bNot (iEq y14 0))
                (some ((0, (0, (0, ((bs []), (0, (0, ((bs []), (bs [])))))))), (0, y14)))
                (some ((y9, (y10, (y11, (y7, (y12, (y13, ((sCut (sCut a0 a1 (iAdd .i64 a1 (sel (iLt y2 30) 30 y2))) 24 (iAdd .i64 24 y3)), (sCut (sCut a0 a1 (iAdd .i64 a1 (sel (iLt y2 30) 30 y2))) (iAdd .i64 26 y3) (iAdd .i64 (iAdd .i64 26 y3) y4))))))))), ((iAdd .i64 a1 y2), 0)))) none) none)) none) none)) none))) none)) none)
def gF20 : FS := ⟨(.seq (.dat .str) (.dat (.int .i64))), 0, (.one ⟨.non, (.agg (.dat (.pr (.pr (.int .i64) (.pr (.int .i64) (.pr (.int .i64) (.pr .str (.pr (.int .i64) (.pr (.int .i64) (.pr .str .str))))))) (.pr (.int .i64) (.int .i64))))), 0, 0⟩), fun x => (F20 x.1 x.2)⟩
theorem eF20 (x : gF20.a.T) : kF env (GofL [(17, [gF17]), (64, [gF64]), (55, [gF55]), (65, [gF65]), (59, [gF59]), (37, [gF37])]) (LofL [(20, [])]) 20 (gF20.args x) (gF20.bs x) gF20.r.dec = gF20.F x := by kernel_rfl
theorem sF20 : SpecAt env 4 20 gF20 := mkSpec (r := 3) (gl := [(17, [gF17]), (64, [gF64]), (55, [gF55]), (65, [gF65]), (59, [gF59]), (37, [gF37])]) (L0 := []) (by kernel_rfl) ⟨⟨sF17.up (by decide), trivial⟩, ⟨sF64.up (by decide), trivial⟩, ⟨sF55.up (by decide), trivial⟩, ⟨sF65.up (by decide), trivial⟩, ⟨sF59.up (by decide), trivial⟩, ⟨sF37.up (by decide), trivial⟩, trivial⟩ trivial eF20 (fun h => absurd h (by rw [show env.nl 20 = false by kernel_rfl]; decide))
end
end Go.Proofs.YtdnfnjaccbgplaaDoor.K
end

section
set_option linter.unusedVariables false
set_option linter.unusedSimpArgs false
set_option linter.unnecessarySimpa false
open Go Go.Ev Go.Proofs
namespace Go.Proofs.YtdnfnjaccbgplaaDoor.K
set_option linter.unusedVariables false
set_option maxRecDepth 100000
noncomputable section
/-- midrangelaw32.JournalReads -/
def F4 (a0 : ByteArray) (a1 : Int) : Option Bool :=
  bndS (F13) fun y0 =>
  sel (bNot y0)
    (some false)
    (sel (iLt 1300 (sLen a0))
      (some true)
      (bndS (F19 a0 a1) fun y1 =>
      bndS (F20 a0 a1) fun y2 =>
      some (bAnd (bAnd (iEq y1.2.2 y2.2.2) (bAnd (iEq y1.1.1 y2.1.1) (bAnd (iEq y1.1.2.1 y2.1.2.1) (bAnd (iEq y1.1.2.2.1 y2.1.2.2.1) (bAnd (sEq y1.1.2.2.2.1 y2.1.2.2.2.1) (bAnd (iEq y1.1.2.2.2.2.1 y2.1.2.2.2.2.1) (bAnd (iEq y1.1.2.2.2.2.2.1 y2.1.2.2.2.2.2.1) (bAnd (sEq y1.1.2.2.2.2.2.2.1 y2.1.2.2.2.2.2.2.1) (sEq y1.1.2.2.2.2.2.2.2 y2.1.2.2.2.2.2.2.2))))))))) (iEq y1.2.1 y2.2.1))))
def gF4 : FS := ⟨(.seq (.dat .str) (.dat (.int .i64))), 0, (.one ⟨.non, (.dat .bool), 0, 0⟩), fun x => (F4 x.1 x.2)⟩
theorem eF4 (x : gF4.a.T) : kF env (GofL [(20, [gF20]), (19, [gF19]), (13, [gF13])]) (LofL [(4, [])]) 4 (gF4.args x) (gF4.bs x) gF4.r.dec = gF4.F x := by kernel_rfl
theorem sF4 : SpecAt env 9 4 gF4 := mkSpec (r := 8) (gl := [(20, [gF20]), (19, [gF19]), (13, [gF13])]) (L0 := []) (by kernel_rfl) ⟨⟨sF20.up (by decide), trivial⟩, ⟨sF19.up (by decide), trivial⟩, ⟨sF13.up (by decide), trivial⟩, trivial⟩ trivial eF4 (fun h => absurd h (by rw [show env.nl 4 = false by kernel_rfl]; decide))
def B21_0 (a0 : (List (ByteArray × (Int × ByteArray)))) (a1 : Int) (a2 : Int) : Option ((((List (ByteArray × (Int × ByteArray))) × Int) × Int) ⊕ (Unit ⊕ Bool)) :=
  sel (iLt a2 (lLen a0))
    (sel (oIn a2 (lLen a0)) (
    sel (iLt 1300 (sLen (lAt a0 a2).2.2))
      (some (.inr (.inr false)))
      (some (.inl ((a0, a1), (iAdd .i64 a2 1))))) none)
    (some (.inr (.inl ())))
def L21_0 (x : (((List (ByteArray × (Int × ByteArray))) × Int) × Int)) : Option (Unit ⊕ Bool) := iter (fun (x : (((List (ByteArray × (Int × ByteArray))) × Int) × Int)) => (B21_0 x.1.1 x.1.2 x.2)) fuel x
def lsL21_0 : LS := ⟨(.one .normal ⟨.non, [1, 3], (.seq (.box 0 (.seq (.dat (.sl (.pr .str (.pr (.int .i64) .str)))) (.dat (.int .i64)))) (.dat (.int .i64))), 1, 23, 0⟩), (.two (.one (.exit 0) ⟨.non, [], .non, 0, 23, 0⟩) (.one .ret ⟨.non, [2], (.dat .bool), 0, 23, 0⟩)), fun (x : (((List (ByteArray × (Int × ByteArray))) × Int) × Int)) => (B21_0 x.1.1 x.1.2 x.2)⟩
/-- midrangelaw32.few -/
def F21 (a0 : ((List (ByteArray × (Int × ByteArray))) × Int)) : Option Bool :=
  sel (iLt 8 (lLen a0.1))
    (some false)
    (bndS (L21_0 (a0, 0)) fun y0 =>
    sumS y0 (fun y0a =>
      some true) fun y0b =>
      some y0b)
def gF21 : FS := ⟨(.agg (.dat (.pr (.sl (.pr .str (.pr (.int .i64) .str))) (.int .i64)))), 0, (.one ⟨.non, (.dat .bool), 0, 0⟩), fun x => (F21 x)⟩
theorem rL21_0 (x : lsL21_0.hd.T) : kRound env (GofL []) (LofL [(21, [(0, lsL21_0)])]) 21 0 (lpOf Tryd.prog 21 0).2 (lsL21_0.hd.st x) lsL21_0.rd = lsL21_0.B x := by kernel_rfl
theorem eF21 (x : gF21.a.T) : kF env (GofL []) (LofL [(21, [(0, lsL21_0)])]) 21 (gF21.args x) (gF21.bs x) gF21.r.dec = gF21.F x := by kernel_rfl
theorem sF21 : SpecAt env 1 21 gF21 := mkSpec (r := 0) (gl := []) (L0 := [(0, lsL21_0)]) (by kernel_rfl) trivial ⟨⟨0, by kernel_rfl, by kernel_rfl, rL21_0⟩, trivial⟩ eF21 (fun h => absurd h (by rw [show env.nl 21 = false by kernel_rfl]; decide))
/-- midrangeref32.Own -/
def F23 (a0 : ((List (ByteArray × (Int × ByteArray))) × Int)) : Option ((List (ByteArray × (Int × ByteArray))) × Int) :=
  sel (lCap 40 a0.1) (
  some a0) none
def gF23 : FS := ⟨(.agg (.dat (.pr (.sl (.pr .str (.pr (.int .i64) .str))) (.int .i64)))), 0, (.one ⟨.non, (.agg (.seq (.own 0 (.pr .str (.pr (.int .i64) .str))) (.dat (.int .i64)))), 0, 1⟩), fun x => (F23 x)⟩
theorem eF23 (x : gF23.a.T) : kF env (GofL []) (LofL [(23, [])]) 23 (gF23.args x) (gF23.bs x) gF23.r.dec = gF23.F x := by kernel_rfl
theorem sF23 : SpecAt env 1 23 gF23 := mkSpec (r := 0) (gl := []) (L0 := []) (by kernel_rfl) trivial trivial eF23 (fun h => absurd h (by rw [show env.nl 23 = false by kernel_rfl]; decide))
def B67_0 (a0 : Int) (a1 : Int) (a2 : (List (ByteArray × (Int × ByteArray)))) (a3 : Int) (a4 : ByteArray) (a5 : Int) (a6 : ByteArray) (a7 : Int) : Option ((Int × (Int × (((List (ByteArray × (Int × ByteArray))) × Int) × ((ByteArray × (Int × ByteArray)) × Int)))) ⊕ ((Int × (Int × (ByteArray × (Int × ByteArray)))) ⊕ Int)) :=
  sel (iLt a7 a0)
    (sel (oIn a7 (lLen a2)) (
    sel (sEq (lAt a2 a7).1 a4)
      (some (.inr (.inr 13)))
      (some (.inl (a0, (a1, ((a2, a3), ((a4, (a5, a6)), (iAdd .i64 a7 1)))))))) none)
    (some (.inr (.inl (a0, (a1, (a4, (a5, a6)))))))
def L67_0 (x : (Int × (Int × (((List (ByteArray × (Int × ByteArray))) × Int) × ((ByteArray × (Int × ByteArray)) × Int))))) : Option ((Int × (Int × (ByteArray × (Int × ByteArray)))) ⊕ Int) := iter (fun (x : (Int × (Int × (((List (ByteArray × (Int × ByteArray))) × Int) × ((ByteArray × (Int × ByteArray)) × Int))))) => (B67_0 x.1 x.2.1 x.2.2.1.1 x.2.2.1.2 x.2.2.2.1.1 x.2.2.2.1.2.1 x.2.2.2.1.2.2 x.2.2.2.2)) fuel x
def lsL67_0 : LS := ⟨(.one .normal ⟨.non, [1, 2, 3, 7, 8], (.seq (.dat (.int .i64)) (.seq (.dat (.int .i64)) (.seq (.box 0 (.seq (.dat (.sl (.pr .str (.pr (.int .i64) .str)))) (.dat (.int .i64)))) (.seq (.box 1 (.seq (.dat .str) (.seq (.dat (.int .i64)) (.dat .str)))) (.dat (.int .i64)))))), 2, 50, 0⟩), (.two (.one (.exit 0) ⟨.non, [1, 2, 7], (.seq (.dat (.int .i64)) (.seq (.dat (.int .i64)) (.box 0 (.seq (.dat .str) (.seq (.dat (.int .i64)) (.dat .str)))))), 1, 50, 0⟩) (.one .ret ⟨.non, [6], (.dat (.int .i64)), 0, 50, 0⟩)), fun (x : (Int × (Int × (((List (ByteArray × (Int × ByteArray))) × Int) × ((ByteArray × (Int × ByteArray)) × Int))))) => (B67_0 x.1 x.2.1 x.2.2.1.1 x.2.2.1.2 x.2.2.2.1.1 x.2.2.2.1.2.1 x.2.2.2.1.2.2 x.2.2.2.2)⟩
/-- midrangeref32.receiverErr -/
def F67 (a0 : ((List (ByteArray × (Int × ByteArray))) × Int)) (a1 : Int) (a2 : Int) : Option Int :=
  sel (oIn a1 (lLen a0.1)) (
  bndS (F55 (lAt a0.1 a1).1) fun y0 =>
  sel (bNot y0)
    (some 7)
    (bndS (L67_0 (a1, (a2, (a0, ((lAt a0.1 a1), 0))))) fun y1 =>
    sumS y1 (fun y1a =>
      sel (iLt 1200 (sLen y1a.2.2.2.2))
        (some 2)
        (sel (iEq y1a.1 0)
          (letS (F37 y1a.2.2.2.1 1 10000) fun y3 =>
          bndS (F53 (bNot y3)) fun y4 =>
          some (iMul .i64 3 y4))
          (bndS (F53 (bNot (iEq y1a.2.2.2.1 y1a.2.1))) fun y2 =>
          some (iMul .i64 14 y2)))) fun y1b =>
      some y1b)) none
def gF67 : FS := ⟨(.seq (.agg (.dat (.pr (.sl (.pr .str (.pr (.int .i64) .str))) (.int .i64)))) (.seq (.dat (.int .i64)) (.dat (.int .i64)))), 0, (.one ⟨.non, (.dat (.int .i64)), 0, 0⟩), fun x => (F67 x.1 x.2.1 x.2.2)⟩
theorem rL67_0 (x : lsL67_0.hd.T) : kRound env (GofL [(53, [gF53]), (37, [gF37]), (55, [gF55])]) (LofL [(67, [(0, lsL67_0)])]) 67 0 (lpOf Tryd.prog 67 0).2 (lsL67_0.hd.st x) lsL67_0.rd = lsL67_0.B x := by kernel_rfl
theorem eF67 (x : gF67.a.T) : kF env (GofL [(53, [gF53]), (37, [gF37]), (55, [gF55])]) (LofL [(67, [(0, lsL67_0)])]) 67 (gF67.args x) (gF67.bs x) gF67.r.dec = gF67.F x := by kernel_rfl
theorem sF67 : SpecAt env 3 67 gF67 := mkSpec (r := 2) (gl := [(53, [gF53]), (37, [gF37]), (55, [gF55])]) (L0 := [(0, lsL67_0)]) (by kernel_rfl) ⟨⟨sF53.up (by decide), trivial⟩, ⟨sF37.up (by decide), trivial⟩, ⟨sF55.up (by decide), trivial⟩, trivial⟩ ⟨⟨0, by kernel_rfl, by kernel_rfl, rL67_0⟩, trivial⟩ eF67 (fun h => absurd h (by rw [show env.nl 67 = false by kernel_rfl]; decide))
def B68_0 (a0 : ByteArray) (a1 : Int) (a2 : Int) (a3 : Int) (a4 : Int) (a5 : ByteArray) (a6 : Int) (a7 : Int) (a8 : ByteArray) (a9 : ByteArray) (a10 : Int) (a11 : Int) (a12 : (List (Int × (Int × (Int × (ByteArray × (Int × (Int × (ByteArray × ByteArray))))))))) (a13 : Int) : Option ((ByteArray × (Int × ((Int × (Int × (Int × (ByteArray × (Int × (Int × (ByteArray × (ByteArray × (Int × Int))))))))) × ((List (Int × (Int × (Int × (ByteArray × (Int × (Int × (ByteArray × ByteArray)))))))) × Int)))) ⊕ (((Int × (Int × (Int × (ByteArray × (Int × (Int × (ByteArray × (ByteArray × (Int × Int))))))))) × ((List (Int × (Int × (Int × (ByteArray × (Int × (Int × (ByteArray × ByteArray)))))))) × Int)) ⊕ ((List (Int × (Int × (Int × (ByteArray × (Int × (Int × (ByteArray × ByteArray)))))))) × (Int × (Int × (Int × (ByteArray × (Int × (Int × (ByteArray × (ByteArray × (Int × Int)))))))))))) :=
  sel (iLt a13 (sLen a0))
    (bndS (F20 a0 a13) fun y0 =>
    sel (bNot (iEq y0.2.2 0))
      (some (.inr (.inr (a12, (0, (0, (0, ((bs []), (0, (0, ((bs []), ((bs []), (a13, y0.2.2)))))))))))))
      (sel (bNot (iEq y0.1.1 (iAdd .i64 a1 (lLen a12))))
        (some (.inr (.inr (a12, (0, (0, (0, ((bs []), (0, (0, ((bs []), ((bs []), (a13, 14)))))))))))))
        (sel (lCap 88 (lApp a12 [y0.1])) (
        some (.inl (a0, (a1, ((a2, (a3, (a4, (a5, (a6, (a7, (a8, (a9, (a10, a11))))))))), ((lApp a12 [y0.1]), y0.2.1)))))) none)))
    (some (.inr (.inl ((a2, (a3, (a4, (a5, (a6, (a7, (a8, (a9, (a10, a11))))))))), (a12, a13)))))
def L68_0 (x : (ByteArray × (Int × ((Int × (Int × (Int × (ByteArray × (Int × (Int × (ByteArray × (ByteArray × (Int × Int))))))))) × ((List (Int × (Int × (Int × (ByteArray × (Int × (Int × (ByteArray × ByteArray)))))))) × Int))))) : Option (((Int × (Int × (Int × (ByteArray × (Int × (Int × (ByteArray × (ByteArray × (Int × Int))))))))) × ((List (Int × (Int × (Int × (ByteArray × (Int × (Int × (ByteArray × ByteArray)))))))) × Int)) ⊕ ((List (Int × (Int × (Int × (ByteArray × (Int × (Int × (ByteArray × ByteArray)))))))) × (Int × (Int × (Int × (ByteArray × (Int × (Int × (ByteArray × (ByteArray × (Int × Int))))))))))) := iter (fun (x : (ByteArray × (Int × ((Int × (Int × (Int × (ByteArray × (Int × (Int × (ByteArray × (ByteArray × (Int × Int))))))))) × ((List (Int × (Int × (Int × (ByteArray × (Int × (Int × (ByteArray × ByteArray)))))))) × Int))))) => (B68_0 x.1 x.2.1 x.2.2.1.1 x.2.2.1.2.1 x.2.2.1.2.2.1 x.2.2.1.2.2.2.1 x.2.2.1.2.2.2.2.1 x.2.2.1.2.2.2.2.2.1 x.2.2.1.2.2.2.2.2.2.1 x.2.2.1.2.2.2.2.2.2.2.1 x.2.2.1.2.2.2.2.2.2.2.2.1 x.2.2.1.2.2.2.2.2.2.2.2.2 x.2.2.2.1 x.2.2.2.2)) fuel x
def lsL68_0 : LS := ⟨(.one .normal ⟨.non, [0, 1, 5, 6, 7], (.seq (.dat .str) (.seq (.dat (.int .i64)) (.seq (.box 0 (.seq (.dat (.int .i64)) (.seq (.dat (.int .i64)) (.seq (.dat (.int .i64)) (.seq (.dat .str) (.seq (.dat (.int .i64)) (.seq (.dat (.int .i64)) (.seq (.dat .str) (.seq (.dat .str) (.seq (.dat (.int .i64)) (.dat (.int .i64)))))))))))) (.seq (.own 1 (.pr (.int .i64) (.pr (.int .i64) (.pr (.int .i64) (.pr .str (.pr (.int .i64) (.pr (.int .i64) (.pr .str .str)))))))) (.dat (.int .i64)))))), 2, 45, 0⟩), (.two (.one (.exit 0) ⟨.non, [5, 6, 7], (.seq (.box 0 (.seq (.dat (.int .i64)) (.seq (.dat (.int .i64)) (.seq (.dat (.int .i64)) (.seq (.dat .str) (.seq (.dat (.int .i64)) (.seq (.dat (.int .i64)) (.seq (.dat .str) (.seq (.dat .str) (.seq (.dat (.int .i64)) (.dat (.int .i64)))))))))))) (.seq (.own 1 (.pr (.int .i64) (.pr (.int .i64) (.pr (.int .i64) (.pr .str (.pr (.int .i64) (.pr (.int .i64) (.pr .str .str)))))))) (.dat (.int .i64)))), 2, 45, 0⟩) (.one .ret ⟨.non, [4, 5], (.seq (.own 0 (.pr (.int .i64) (.pr (.int .i64) (.pr (.int .i64) (.pr .str (.pr (.int .i64) (.pr (.int .i64) (.pr .str .str)))))))) (.box 1 (.seq (.dat (.int .i64)) (.seq (.dat (.int .i64)) (.seq (.dat (.int .i64)) (.seq (.dat .str) (.seq (.dat (.int .i64)) (.seq (.dat (.int .i64)) (.seq (.dat .str) (.seq (.dat .str) (.seq (.dat (.int .i64)) (.dat (.int .i64))))))))))))), 2, 45, 0⟩)), fun (x : (ByteArray × (Int × ((Int × (Int × (Int × (ByteArray × (Int × (Int × (ByteArray × (ByteArray × (Int × Int))))))))) × ((List (Int × (Int × (Int × (ByteArray × (Int × (Int × (ByteArray × ByteArray)))))))) × Int))))) => (B68_0 x.1 x.2.1 x.2.2.1.1 x.2.2.1.2.1 x.2.2.1.2.2.1 x.2.2.1.2.2.2.1 x.2.2.1.2.2.2.2.1 x.2.2.1.2.2.2.2.2.1 x.2.2.1.2.2.2.2.2.2.1 x.2.2.1.2.2.2.2.2.2.2.1 x.2.2.1.2.2.2.2.2.2.2.2.1 x.2.2.1.2.2.2.2.2.2.2.2.2 x.2.2.2.1 x.2.2.2.2)⟩
/-- midrangeref32.Whole -/
def F68 (a0 : ByteArray) (a1 : Int) : Option ((List (Int × (Int × (Int × (ByteArray × (Int × (Int × (ByteArray × ByteArray)))))))) × ((Int × (Int × (Int × (ByteArray × (Int × (Int × (ByteArray × ByteArray))))))) × (Int × Int))) :=
  bndS (L68_0 (a0, (a1, ((0, (0, (0, ((bs []), (0, (0, ((bs []), ((bs []), (0, 0))))))))), (([] : List (Int × (Int × (Int × (ByteArray × (Int × (Int × (ByteArray × ByteArray)))))))), 0))))) fun y0 =>
  sumS y0 (fun y0a =>
    some (y0a.2.1, ((0, (0, (0, ((bs []), (0, (0, ((bs []), (bs [])))))))), (y0a.2.2, 0)))) fun y0b =>
    some (y0b.1, ((y0b.2.1, (y0b.2.2.1, (y0b.2.2.2.1, (y0b.2.2.2.2.1, (y0b.2.2.2.2.2.1, (y0b.2.2.2.2.2.2.1, (y0b.2.2.2.2.2.2.2.1, y0b.2.2.2.2.2.2.2.2.1))))))), y0b.2.2.2.2.2.2.2.2.2))
def gF68 : FS := ⟨(.seq (.dat .str) (.dat (.int .i64))), 0, (.one ⟨.non, (.tup (.seq (.own 0 (.pr (.int .i64) (.pr (.int .i64) (.pr (.int .i64) (.pr .str (.pr (.int .i64) (.pr (.int .i64) (.pr .str .str)))))))) (.agg (.dat (.pr (.pr (.int .i64) (.pr (.int .i64) (.pr (.int .i64) (.pr .str (.pr (.int .i64) (.pr (.int .i64) (.pr .str .str))))))) (.pr (.int .i64) (.int .i64))))))), 0, 1⟩), fun x => (F68 x.1 x.2)⟩
theorem rL68_0 (x : lsL68_0.hd.T) : kRound env (GofL [(20, [gF20])]) (LofL [(68, [(0, lsL68_0)])]) 68 0 (lpOf Tryd.prog 68 0).2 (lsL68_0.hd.st x) lsL68_0.rd = lsL68_0.B x := by kernel_rfl
theorem eF68 (x : gF68.a.T) : kF env (GofL [(20, [gF20])]) (LofL [(68, [(0, lsL68_0)])]) 68 (gF68.args x) (gF68.bs x) gF68.r.dec = gF68.F x := by kernel_rfl
theorem sF68 : SpecAt env 5 68 gF68 := mkSpec (r := 4) (gl := [(20, [gF20])]) (L0 := [(0, lsL68_0)]) (by kernel_rfl) ⟨⟨sF20.up (by decide), trivial⟩, trivial⟩ ⟨⟨0, by kernel_rfl, by kernel_rfl, rL68_0⟩, trivial⟩ eF68 (fun h => absurd h (by rw [show env.nl 68 = false by kernel_rfl]; decide))
def B24_0 (a0 : (List (ByteArray × (Int × ByteArray)))) (a1 : Int) (a2 : Int) (a3 : Int) (a4 : Int) (a5 : Int) (a6 : Int) : Option ((((List (ByteArray × (Int × ByteArray))) × Int) × ((Int × (Int × Int)) × (Int × Int))) ⊕ ((((List (ByteArray × (Int × ByteArray))) × Int) × ((Int × (Int × Int)) × Int)) ⊕ (Int × (Int × Int)))) :=
  sel (iLt a6 (lLen a0))
    (bndS (F67 (a0, a1) a6 a5) fun y0 =>
    sel (bNot (iEq y0 0))
      (some (.inr (.inr (0, (a6, y0)))))
      (sel (oIn a6 (lLen a0)) (
      bndS (F68 (lAt a0 a6).2.2 a5) fun y1 =>
      sel (bNot (iEq y1.2.2.2 0))
        (some (.inr (.inr (0, (a6, y1.2.2.2)))))
        (some (.inl ((a0, a1), ((a2, (a3, a4)), ((iAdd .i64 a5 (lLen y1.1)), (iAdd .i64 a6 1))))))) none))
    (some (.inr (.inl ((a0, a1), ((a2, (a3, a4)), a5)))))
def L24_0 (x : (((List (ByteArray × (Int × ByteArray))) × Int) × ((Int × (Int × Int)) × (Int × Int)))) : Option ((((List (ByteArray × (Int × ByteArray))) × Int) × ((Int × (Int × Int)) × Int)) ⊕ (Int × (Int × Int))) := iter (fun (x : (((List (ByteArray × (Int × ByteArray))) × Int) × ((Int × (Int × Int)) × (Int × Int)))) => (B24_0 x.1.1 x.1.2 x.2.1.1 x.2.1.2.1 x.2.1.2.2 x.2.2.1 x.2.2.2)) fuel x
def lsL24_0 : LS := ⟨(.one .normal ⟨.non, [1, 2, 3, 4], (.seq (.box 0 (.seq (.dat (.sl (.pr .str (.pr (.int .i64) .str)))) (.dat (.int .i64)))) (.seq (.box 1 (.seq (.lit (.slice none 0 0)) (.seq (.dat (.int .i64)) (.seq (.dat (.int .i64)) (.dat (.int .i64)))))) (.seq (.dat (.int .i64)) (.dat (.int .i64))))), 2, 70, 0⟩), (.two (.one (.exit 0) ⟨.non, [1, 2, 3], (.seq (.box 0 (.seq (.dat (.sl (.pr .str (.pr (.int .i64) .str)))) (.dat (.int .i64)))) (.seq (.box 1 (.seq (.lit (.slice none 0 0)) (.seq (.dat (.int .i64)) (.seq (.dat (.int .i64)) (.dat (.int .i64)))))) (.dat (.int .i64)))), 2, 70, 0⟩) (.one .ret ⟨.non, [2], (.box 0 (.seq (.lit (.slice none 0 0)) (.seq (.dat (.int .i64)) (.seq (.dat (.int .i64)) (.dat (.int .i64)))))), 1, 70, 0⟩)), fun (x : (((List (ByteArray × (Int × ByteArray))) × Int) × ((Int × (Int × Int)) × (Int × Int)))) => (B24_0 x.1.1 x.1.2 x.2.1.1 x.2.1.2.1 x.2.1.2.2 x.2.2.1 x.2.2.2)⟩
/-- midrangeref32.Check -/
def F24 (a0 : ((List (ByteArray × (Int × ByteArray))) × Int)) : Option ((List (ByteArray × (Int × ByteArray))) × (Int × (Int × Int))) :=
  letS (F37 (lLen a0.1) 1 6) fun y0 =>
  sel (bNot y0)
    (some (([] : List (ByteArray × (Int × ByteArray))), (0, (0, 6))))
    (sel (oIn 0 (lLen a0.1)) (
    bndS (L24_0 (a0, ((0, (0, 0)), ((lAt a0.1 0).2.1, 0)))) fun y1 =>
    sumS y1 (fun y1a =>
      sel (bNot (iEq y1a.1.2 y1a.2.2))
        (some (([] : List (ByteArray × (Int × ByteArray))), (0, (0, 3))))
        (sel (oIn 0 (lLen y1a.1.1)) (
        some (([] : List (ByteArray × (Int × ByteArray))), (0, ((iSub .i64 y1a.2.2 (lAt y1a.1.1 0).2.1), 0)))) none)) fun y1b =>
      some (([] : List (ByteArray × (Int × ByteArray))), y1b)) none)
def gF24 : FS := ⟨(.agg (.dat (.pr (.sl (.pr .str (.pr (.int .i64) .str))) (.int .i64)))), 0, (.one ⟨.non, (.agg (.seq (.own 0 (.pr .str (.pr (.int .i64) .str))) (.seq (.dat (.int .i64)) (.seq (.dat (.int .i64)) (.dat (.int .i64)))))), 0, 1⟩), fun x => (F24 x)⟩
theorem rL24_0 (x : lsL24_0.hd.T) : kRound env (GofL [(68, [gF68]), (67, [gF67]), (37, [gF37])]) (LofL [(24, [(0, lsL24_0)])]) 24 0 (lpOf Tryd.prog 24 0).2 (lsL24_0.hd.st x) lsL24_0.rd = lsL24_0.B x := by kernel_rfl
theorem eF24 (x : gF24.a.T) : kF env (GofL [(68, [gF68]), (67, [gF67]), (37, [gF37])]) (LofL [(24, [(0, lsL24_0)])]) 24 (gF24.args x) (gF24.bs x) gF24.r.dec = gF24.F x := by kernel_rfl
theorem sF24 : SpecAt env 6 24 gF24 := mkSpec (r := 5) (gl := [(68, [gF68]), (67, [gF67]), (37, [gF37])]) (L0 := [(0, lsL24_0)]) (by kernel_rfl) ⟨⟨sF68.up (by decide), trivial⟩, ⟨sF67.up (by decide), trivial⟩, ⟨sF37.up (by decide), trivial⟩, trivial⟩ ⟨⟨0, by kernel_rfl, by kernel_rfl, rL24_0⟩, trivial⟩ eF24 (fun h => absurd h (by rw [show env.nl 24 = false by kernel_rfl]; decide))
/-- midrangelaw32.JournalChecks -/
def F5 (a0 : ((List (ByteArray × (Int × ByteArray))) × Int)) : Option Bool :=
  bndS (F13) fun y0 =>
  sel (bNot y0)
    (some false)
    (bndS (F21 a0) fun y1 =>
    sel (bNot y1)
      (some true)
      (bndS (F23 a0) fun y2 =>
      bndS (F22 y2) fun y3 =>
      bndS (F24 a0) fun y4 =>
      some (bAnd (iEq y3.2 y4.2.2.2) (iEq y3.1 y4.2.2.1))))
def gF5 : FS := ⟨(.agg (.dat (.pr (.sl (.pr .str (.pr (.int .i64) .str))) (.int .i64)))), 0, (.one ⟨.non, (.dat .bool), 0, 0⟩), fun x => (F5 x)⟩
theorem eF5 (x : gF5.a.T) : kF env (GofL [(24, [gF24]), (22, [gF22]), (23, [gF23]), (21, [gF21]), (13, [gF13])]) (LofL [(5, [])]) 5 (gF5.args x) (gF5.bs x) gF5.r.dec = gF5.F x := by kernel_rfl
theorem sF5 : SpecAt env 9 5 gF5 := mkSpec (r := 8) (gl := [(24, [gF24]), (22, [gF22]), (23, [gF23]), (21, [gF21]), (13, [gF13])]) (L0 := []) (by kernel_rfl) ⟨⟨sF24.up (by decide), trivial⟩, ⟨sF22.up (by decide), trivial⟩, ⟨sF23.up (by decide), trivial⟩, ⟨sF21.up (by decide), trivial⟩, ⟨sF13.up (by decide), trivial⟩, trivial⟩ trivial eF5 (fun h => absurd h (by rw [show env.nl 5 = false by kernel_rfl]; decide))
def B25_0 (a0 : (List (Int × (Int × (Int × (ByteArray × (Int × (Int × (ByteArray × ByteArray))))))))) (a1 : Int) : Option (((List (Int × (Int × (Int × (ByteArray × (Int × (Int × (ByteArray × ByteArray)))))))) × Int) ⊕ (Unit ⊕ Bool)) :=
  sel (iLt a1 (lLen a0))
    (sel (bOr (oIn a1 (lLen a0)) (bNot (bNot (iLt 41 a1)))) (
    letS (F14 (lAt a0 a1)) fun y0 =>
    sel (bOr (iLt 41 a1) (bNot y0))
      (some (.inr (.inr false)))
      (some (.inl (a0, (iAdd .i64 a1 1))))) none)
    (some (.inr (.inl ())))
def L25_0 (x : ((List (Int × (Int × (Int × (ByteArray × (Int × (Int × (ByteArray × ByteArray)))))))) × Int)) : Option (Unit ⊕ Bool) := iter (fun (x : ((List (Int × (Int × (Int × (ByteArray × (Int × (Int × (ByteArray × ByteArray)))))))) × Int)) => (B25_0 x.1 x.2)) fuel x
def lsL25_0 : LS := ⟨(.one .normal ⟨.non, [0, 3], (.seq (.dat (.sl (.pr (.int .i64) (.pr (.int .i64) (.pr (.int .i64) (.pr .str (.pr (.int .i64) (.pr (.int .i64) (.pr .str .str))))))))) (.dat (.int .i64))), 0, 20, 0⟩), (.two (.one (.exit 0) ⟨.non, [], .non, 0, 20, 0⟩) (.one .ret ⟨.non, [2], (.dat .bool), 0, 20, 0⟩)), fun (x : ((List (Int × (Int × (Int × (ByteArray × (Int × (Int × (ByteArray × ByteArray)))))))) × Int)) => (B25_0 x.1 x.2)⟩
/-- midrangelaw32.light -/
def F25 (a0 : (List (Int × (Int × (Int × (ByteArray × (Int × (Int × (ByteArray × ByteArray))))))))) : Option Bool :=
  bndS (L25_0 (a0, 0)) fun y0 =>
  sumS y0 (fun y0a =>
    some true) fun y0b =>
    some y0b
def gF25 : FS := ⟨(.dat (.sl (.pr (.int .i64) (.pr (.int .i64) (.pr (.int .i64) (.pr .str (.pr (.int .i64) (.pr (.int .i64) (.pr .str .str))))))))), 0, (.one ⟨.non, (.dat .bool), 0, 0⟩), fun x => (F25 x)⟩
theorem rL25_0 (x : lsL25_0.hd.T) : kRound env (GofL [(14, [gF14])]) (LofL [(25, [(0, lsL25_0)])]) 25 0 (lpOf Tryd.prog 25 0).2 (lsL25_0.hd.st x) lsL25_0.rd = lsL25_0.B x := by kernel_rfl
theorem eF25 (x : gF25.a.T) : kF env (GofL [(14, [gF14])]) (LofL [(25, [(0, lsL25_0)])]) 25 (gF25.args x) (gF25.bs x) gF25.r.dec = gF25.F x := by kernel_rfl
theorem sF25 : SpecAt env 2 25 gF25 := mkSpec (r := 1) (gl := [(14, [gF14])]) (L0 := [(0, lsL25_0)]) (by kernel_rfl) ⟨⟨sF14.up (by decide), trivial⟩, trivial⟩ ⟨⟨0, by kernel_rfl, by kernel_rfl, rL25_0⟩, trivial⟩ eF25 (fun h => absurd h (by rw [show env.nl 25 = false by kernel_rfl]; decide))
/-- midrangeref32.OwnEntries -/
def F27 (a0 : (List (Int × (Int × (Int × (ByteArray × (Int × (Int × (ByteArray × ByteArray))))))))) : Option (List (Int × (Int × (Int × (ByteArray × (Int × (Int × (ByteArray × ByteArray)))))))) :=
  sel (lCap 88 a0) (
  some a0) none
def gF27 : FS := ⟨(.dat (.sl (.pr (.int .i64) (.pr (.int .i64) (.pr (.int .i64) (.pr .str (.pr (.int .i64) (.pr (.int .i64) (.pr .str .str))))))))), 0, (.one ⟨.non, (.own 0 (.pr (.int .i64) (.pr (.int .i64) (.pr (.int .i64) (.pr .str (.pr (.int .i64) (.pr (.int .i64) (.pr .str .str)))))))), 0, 1⟩), fun x => (F27 x)⟩
theorem eF27 (x : gF27.a.T) : kF env (GofL []) (LofL [(27, [])]) 27 (gF27.args x) (gF27.bs x) gF27.r.dec = gF27.F x := by kernel_rfl
theorem sF27 : SpecAt env 1 27 gF27 := mkSpec (r := 0) (gl := []) (L0 := []) (by kernel_rfl) trivial trivial eF27 (fun h => absurd h (by rw [show env.nl 27 = false by kernel_rfl]; decide))
/-- midrangeref32.Err -/
def F70 (a0 : ((List (ByteArray × (Int × ByteArray))) × Int)) : Option Int :=
  bndS (F24 a0) fun y0 =>
  some y0.2.2.2
def gF70 : FS := ⟨(.agg (.dat (.pr (.sl (.pr .str (.pr (.int .i64) .str))) (.int .i64)))), 0, (.one ⟨.non, (.dat (.int .i64)), 0, 0⟩), fun x => (F70 x)⟩
theorem eF70 (x : gF70.a.T) : kF env (GofL [(24, [gF24])]) (LofL [(70, [])]) 70 (gF70.args x) (gF70.bs x) gF70.r.dec = gF70.F x := by kernel_rfl
theorem sF70 : SpecAt env 7 70 gF70 := mkSpec (r := 6) (gl := [(24, [gF24])]) (L0 := []) (by kernel_rfl) ⟨⟨sF24.up (by decide), trivial⟩, trivial⟩ trivial eF70 (fun h => absurd h (by rw [show env.nl 70 = false by kernel_rfl]; decide))
/-- midrangeref32.appendErr -/
def F71 (a0 : ((List (ByteArray × (Int × ByteArray))) × Int)) (a1 : (Int × (Int × (Int × (ByteArray × (Int × (Int × (ByteArray × ByteArray)))))))) : Option Int :=
  sel (bNot (iEq a1.1 0))
    (some 5)
    (sel (iLt 9999 a0.2)
      (some 19)
      (bndS (F17 (a0.2, a1.2)) fun y0 =>
      sel (bNot (iEq y0 0))
        (some y0)
        (sel (oIn (iSub .i64 (lLen a0.1) 1) (lLen a0.1)) (
        bndS (F18 (a0.2, a1.2)) fun y1 =>
        bndS (F53 (iLt 1200 (iAdd .i64 (sLen (lAt a0.1 (iSub .i64 (lLen a0.1) 1)).2.2) (sLen y1)))) fun y2 =>
        some (iMul .i64 30 y2)) none)))
def gF71 : FS := ⟨(.seq (.agg (.dat (.pr (.sl (.pr .str (.pr (.int .i64) .str))) (.int .i64)))) (.agg (.dat (.pr (.int .i64) (.pr (.int .i64) (.pr (.int .i64) (.pr .str (.pr (.int .i64) (.pr (.int .i64) (.pr .str .str)))))))))), 0, (.one ⟨.non, (.dat (.int .i64)), 0, 0⟩), fun x => (F71 x.1 x.2)⟩
theorem eF71 (x : gF71.a.T) : kF env (GofL [(53, [gF53]), (18, [gF18]), (17, [gF17])]) (LofL [(71, [])]) 71 (gF71.args x) (gF71.bs x) gF71.r.dec = gF71.F x := by kernel_rfl
theorem sF71 : SpecAt env 4 71 gF71 := mkSpec (r := 3) (gl := [(53, [gF53]), (18, [gF18]), (17, [gF17])]) (L0 := []) (by kernel_rfl) ⟨⟨sF53.up (by decide), trivial⟩, ⟨sF18.up (by decide), trivial⟩, ⟨sF17.up (by decide), trivial⟩, trivial⟩ trivial eF71 (fun h => absurd h (by rw [show env.nl 71 = false by kernel_rfl]; decide))
def B28_0 (a0 : (List (Int × (Int × (Int × (ByteArray × (Int × (Int × (ByteArray × ByteArray))))))))) (a1 : Int) (a2 : Int) (a3 : Int) (a4 : (List (ByteArray × (Int × ByteArray)))) (a5 : Int) (a6 : Int) (a7 : Int) : Option (((List (Int × (Int × (Int × (ByteArray × (Int × (Int × (ByteArray × ByteArray)))))))) × ((Int × (Int × Int)) × (((List (ByteArray × (Int × ByteArray))) × Int) × (Int × Int)))) ⊕ (((List (Int × (Int × (Int × (ByteArray × (Int × (Int × (ByteArray × ByteArray)))))))) × ((Int × (Int × Int)) × ((List (ByteArray × (Int × ByteArray))) × Int))) ⊕ (Int × (Int × Int)))) :=
  sel (iLt a7 (lLen a0))
    (sel (oIn a7 (lLen a0)) (
    bndS (F71 (a4, a5) (lAt a0 a7)) fun y0 =>
    sel (bNot (iEq y0 0))
      (some (.inr (.inr (0, (a7, y0)))))
      (sel (oIn a7 (lLen a0)) (
      sel (oIn a6 (lLen a4)) (
      bndS (F18 (a5, (lAt a0 a7).2)) fun y1 =>
      sel (sOk (lAt a4 a6).2.2 y1) (
      sel (oIn a6 (lLen a4)) (
      some (.inl (a0, ((a1, (a2, a3)), (((lSet a4 a6 ((lAt a4 a6).1, ((lAt a4 a6).2.1, (sAdd (lAt a4 a6).2.2 y1)))), (iAdd .i64 a5 1)), (a6, (iAdd .i64 a7 1))))))) none) none) none) none)) none)
    (some (.inr (.inl (a0, ((a1, (a2, a3)), (a4, a5))))))
def L28_0 (x : ((List (Int × (Int × (Int × (ByteArray × (Int × (Int × (ByteArray × ByteArray)))))))) × ((Int × (Int × Int)) × (((List (ByteArray × (Int × ByteArray))) × Int) × (Int × Int))))) : Option (((List (Int × (Int × (Int × (ByteArray × (Int × (Int × (ByteArray × ByteArray)))))))) × ((Int × (Int × Int)) × ((List (ByteArray × (Int × ByteArray))) × Int))) ⊕ (Int × (Int × Int))) := iter (fun (x : ((List (Int × (Int × (Int × (ByteArray × (Int × (Int × (ByteArray × ByteArray)))))))) × ((Int × (Int × Int)) × (((List (ByteArray × (Int × ByteArray))) × Int) × (Int × Int))))) => (B28_0 x.1 x.2.1.1 x.2.1.2.1 x.2.1.2.2 x.2.2.1.1 x.2.2.1.2 x.2.2.2.1 x.2.2.2.2)) fuel x
def lsL28_0 : LS := ⟨(.one .normal ⟨.non, [1, 4, 6, 7, 8], (.seq (.dat (.sl (.pr (.int .i64) (.pr (.int .i64) (.pr (.int .i64) (.pr .str (.pr (.int .i64) (.pr (.int .i64) (.pr .str .str))))))))) (.seq (.box 0 (.seq (.lit (.slice none 0 0)) (.seq (.dat (.int .i64)) (.seq (.dat (.int .i64)) (.dat (.int .i64)))))) (.seq (.box 1 (.seq (.own 2 (.pr .str (.pr (.int .i64) .str))) (.dat (.int .i64)))) (.seq (.dat (.int .i64)) (.dat (.int .i64)))))), 3, 73, 0⟩), (.two (.one (.exit 0) ⟨.non, [1, 4, 6], (.seq (.dat (.sl (.pr (.int .i64) (.pr (.int .i64) (.pr (.int .i64) (.pr .str (.pr (.int .i64) (.pr (.int .i64) (.pr .str .str))))))))) (.seq (.box 0 (.seq (.lit (.slice none 0 0)) (.seq (.dat (.int .i64)) (.seq (.dat (.int .i64)) (.dat (.int .i64)))))) (.box 1 (.seq (.own 2 (.pr .str (.pr (.int .i64) .str))) (.dat (.int .i64)))))), 3, 73, 0⟩) (.one .ret ⟨.non, [4], (.box 0 (.seq (.lit (.slice none 0 0)) (.seq (.dat (.int .i64)) (.seq (.dat (.int .i64)) (.dat (.int .i64)))))), 1, 73, 0⟩)), fun (x : ((List (Int × (Int × (Int × (ByteArray × (Int × (Int × (ByteArray × ByteArray)))))))) × ((Int × (Int × Int)) × (((List (ByteArray × (Int × ByteArray))) × Int) × (Int × Int))))) => (B28_0 x.1 x.2.1.1 x.2.1.2.1 x.2.1.2.2 x.2.2.1.1 x.2.2.1.2 x.2.2.2.1 x.2.2.2.2)⟩
/-- midrangeref32.Appended -/
def F28 (a0 : ((List (ByteArray × (Int × ByteArray))) × Int)) (a1 : (List (Int × (Int × (Int × (ByteArray × (Int × (Int × (ByteArray × ByteArray))))))))) : Option ((List (ByteArray × (Int × ByteArray))) × (Int × (Int × Int))) :=
  bndS (F70 a0) fun y0 =>
  sel (bNot (iEq y0 0))
    (some (([] : List (ByteArray × (Int × ByteArray))), (0, (0, y0))))
    (sel (iLt 40 (lLen a1))
      (some (([] : List (ByteArray × (Int × ByteArray))), (0, (0, 2))))
      (bndS (F23 a0) fun y1 =>
      bndS (L28_0 (a1, ((0, (0, 0)), (y1, ((iSub .i64 (lLen y1.1) 1), 0))))) fun y2 =>
      sumS y2 (fun y2a =>
        some (y2a.2.2.1, (y2a.2.2.2, ((lLen y2a.1), 0)))) fun y2b =>
        some (([] : List (ByteArray × (Int × ByteArray))), y2b)))
def gF28 : FS := ⟨(.seq (.agg (.dat (.pr (.sl (.pr .str (.pr (.int .i64) .str))) (.int .i64)))) (.dat (.sl (.pr (.int .i64) (.pr (.int .i64) (.pr (.int .i64) (.pr .str (.pr (.int .i64) (.pr (.int .i64) (.pr .str .str)))))))))), 0, (.one ⟨.non, (.agg (.seq (.own 0 (.pr .str (.pr (.int .i64) .str))) (.seq (.dat (.int .i64)) (.seq (.dat (.int .i64)) (.dat (.int .i64)))))), 0, 1⟩), fun x => (F28 x.1 x.2)⟩
theorem rL28_0 (x : lsL28_0.hd.T) : kRound env (GofL [(18, [gF18]), (71, [gF71]), (23, [gF23]), (70, [gF70])]) (LofL [(28, [(0, lsL28_0)])]) 28 0 (lpOf Tryd.prog 28 0).2 (lsL28_0.hd.st x) lsL28_0.rd = lsL28_0.B x := by kernel_rfl
theorem eF28 (x : gF28.a.T) : kF env (GofL [(18, [gF18]), (71, [gF71]), (23, [gF23]), (70, [gF70])]) (LofL [(28, [(0, lsL28_0)])]) 28 (gF28.args x) (gF28.bs x) gF28.r.dec = gF28.F x := by kernel_rfl
theorem sF28 : SpecAt env 8 28 gF28 := mkSpec (r := 7) (gl := [(18, [gF18]), (71, [gF71]), (23, [gF23]), (70, [gF70])]) (L0 := [(0, lsL28_0)]) (by kernel_rfl) ⟨⟨sF18.up (by decide), trivial⟩, ⟨sF71.up (by decide), trivial⟩, ⟨sF23.up (by decide), trivial⟩, ⟨sF70.up (by decide), trivial⟩, trivial⟩ ⟨⟨0, by kernel_rfl, by kernel_rfl, rL28_0⟩, trivial⟩ eF28 (fun h => absurd h (by rw [show env.nl 28 = false by kernel_rfl]; decide))
def B35_0 (a0 : (List (ByteArray × (Int × ByteArray)))) (a1 : Int) (a2 : (List (ByteArray × (Int × ByteArray)))) (a3 : Int) (a4 : Int) : Option ((((List (ByteArray × (Int × ByteArray))) × Int) × (((List (ByteArray × (Int × ByteArray))) × Int) × Int)) ⊕ (Unit ⊕ Bool)) :=
  sel (iLt a4 (lLen a0))
    (sel (oIn a4 (lLen a0)) (
    sel (oIn a4 (lLen a2)) (
    sel (bNot (bAnd (sEq (lAt a0 a4).1 (lAt a2 a4).1) (bAnd (iEq (lAt a0 a4).2.1 (lAt a2 a4).2.1) (sEq (lAt a0 a4).2.2 (lAt a2 a4).2.2))))
      (some (.inr (.inr false)))
      (some (.inl ((a0, a1), ((a2, a3), (iAdd .i64 a4 1)))))) none) none)
    (some (.inr (.inl ())))
def L35_0 (x : (((List (ByteArray × (Int × ByteArray))) × Int) × (((List (ByteArray × (Int × ByteArray))) × Int) × Int))) : Option (Unit ⊕ Bool) := iter (fun (x : (((List (ByteArray × (Int × ByteArray))) × Int) × (((List (ByteArray × (Int × ByteArray))) × Int) × Int))) => (B35_0 x.1.1 x.1.2 x.2.1.1 x.2.1.2 x.2.2)) fuel x
def lsL35_0 : LS := ⟨(.one .normal ⟨.non, [2, 3, 5], (.seq (.box 0 (.seq (.dat (.sl (.pr .str (.pr (.int .i64) .str)))) (.dat (.int .i64)))) (.seq (.box 1 (.seq (.dat (.sl (.pr .str (.pr (.int .i64) .str)))) (.dat (.int .i64)))) (.dat (.int .i64)))), 2, 38, 0⟩), (.two (.one (.exit 0) ⟨.non, [], .non, 0, 38, 0⟩) (.one .ret ⟨.non, [4], (.dat .bool), 0, 38, 0⟩)), fun (x : (((List (ByteArray × (Int × ByteArray))) × Int) × (((List (ByteArray × (Int × ByteArray))) × Int) × Int))) => (B35_0 x.1.1 x.1.2 x.2.1.1 x.2.1.2 x.2.2)⟩
/-- midrangeref32.Same -/
def F35 (a0 : ((List (ByteArray × (Int × ByteArray))) × Int)) (a1 : ((List (ByteArray × (Int × ByteArray))) × Int)) : Option Bool :=
  sel (bOr (bNot (iEq a0.2 a1.2)) (bNot (iEq (lLen a0.1) (lLen a1.1))))
    (some false)
    (bndS (L35_0 (a0, (a1, 0))) fun y0 =>
    sumS y0 (fun y0a =>
      some true) fun y0b =>
      some y0b)
def gF35 : FS := ⟨(.seq (.agg (.dat (.pr (.sl (.pr .str (.pr (.int .i64) .str))) (.int .i64)))) (.agg (.dat (.pr (.sl (.pr .str (.pr (.int .i64) .str))) (.int .i64))))), 0, (.one ⟨.non, (.dat .bool), 0, 0⟩), fun x => (F35 x.1 x.2)⟩
theorem rL35_0 (x : lsL35_0.hd.T) : kRound env (GofL []) (LofL [(35, [(0, lsL35_0)])]) 35 0 (lpOf Tryd.prog 35 0).2 (lsL35_0.hd.st x) lsL35_0.rd = lsL35_0.B x := by kernel_rfl
theorem eF35 (x : gF35.a.T) : kF env (GofL []) (LofL [(35, [(0, lsL35_0)])]) 35 (gF35.args x) (gF35.bs x) gF35.r.dec = gF35.F x := by kernel_rfl
theorem sF35 : SpecAt env 1 35 gF35 := mkSpec (r := 0) (gl := []) (L0 := [(0, lsL35_0)]) (by kernel_rfl) trivial ⟨⟨0, by kernel_rfl, by kernel_rfl, rL35_0⟩, trivial⟩ eF35 (fun h => absurd h (by rw [show env.nl 35 = false by kernel_rfl]; decide))
/-- midrangelaw32.is -/
def F29 (a0 : ((List (ByteArray × (Int × ByteArray))) × Int)) (a1 : Int) (a2 : (((List (ByteArray × (Int × ByteArray))) × Int) × (Int × Int))) : Option Bool :=
  sel (bOr (okS (F35 a0 a2.1)) (bNot (iEq a1 a2.2.2))) (
  letS (valS (F35 a0 a2.1) false) fun y0 =>
  some (bAnd (iEq a1 a2.2.2) y0)) none
def gF29 : FS := ⟨(.seq (.agg (.dat (.pr (.sl (.pr .str (.pr (.int .i64) .str))) (.int .i64)))) (.seq (.dat (.int .i64)) (.agg (.dat (.pr (.pr (.sl (.pr .str (.pr (.int .i64) .str))) (.int .i64)) (.pr (.int .i64) (.int .i64))))))), 0, (.one ⟨.non, (.dat .bool), 0, 0⟩), fun x => (F29 x.1 x.2.1 x.2.2)⟩
theorem eF29 (x : gF29.a.T) : kF env (GofL [(35, [gF35])]) (LofL [(29, [])]) 29 (gF29.args x) (gF29.bs x) gF29.r.dec = gF29.F x := by kernel_rfl
theorem sF29 : SpecAt env 2 29 gF29 := mkSpec (r := 1) (gl := [(35, [gF35])]) (L0 := []) (by kernel_rfl) ⟨⟨sF35.up (by decide), trivial⟩, trivial⟩ trivial eF29 (fun h => absurd h (by rw [show env.nl 29 = false by kernel_rfl]; decide))
/-- midrangelaw32.JournalAppends -/
def F6 (a0 : ((List (ByteArray × (Int × ByteArray))) × Int)) (a1 : (List (Int × (Int × (Int × (ByteArray × (Int × (Int × (ByteArray × ByteArray))))))))) : Option Bool :=
  bndS (F13) fun y0 =>
  sel (bNot y0)
    (some false)
    (bndS (F21 a0) fun y1 =>
    sel (bOr (okS (F25 a1)) (bNot (bNot (bNot y1)))) (
    letS (valS (F25 a1) false) fun y2 =>
    sel (bOr (bNot y1) (bNot y2))
      (some true)
      (bndS (F23 a0) fun y3 =>
      bndS (F27 a1) fun y4 =>
      bndS (F26 y3 y4) fun y5 =>
      bndS (F28 a0 a1) fun y6 =>
      bndS (F29 y5.1 y5.2.2 ((y6.1, y6.2.1), y6.2.2)) fun y7 =>
      some (bAnd y7 (iEq y5.2.1 y6.2.2.1)))) none)
def gF6 : FS := ⟨(.seq (.agg (.dat (.pr (.sl (.pr .str (.pr (.int .i64) .str))) (.int .i64)))) (.dat (.sl (.pr (.int .i64) (.pr (.int .i64) (.pr (.int .i64) (.pr .str (.pr (.int .i64) (.pr (.int .i64) (.pr .str .str)))))))))), 0, (.one ⟨.non, (.dat .bool), 0, 0⟩), fun x => (F6 x.1 x.2)⟩
theorem eF6 (x : gF6.a.T) : kF env (GofL [(29, [gF29]), (28, [gF28]), (26, [gF26]), (27, [gF27]), (23, [gF23]), (25, [gF25]), (21, [gF21]), (13, [gF13])]) (LofL [(6, [])]) 6 (gF6.args x) (gF6.bs x) gF6.r.dec = gF6.F x := by kernel_rfl
theorem sF6 : SpecAt env 9 6 gF6 := mkSpec (r := 8) (gl := [(29, [gF29]), (28, [gF28]), (26, [gF26]), (27, [gF27]), (23, [gF23]), (25, [gF25]), (21, [gF21]), (13, [gF13])]) (L0 := []) (by kernel_rfl) ⟨⟨sF29.up (by decide), trivial⟩, ⟨sF28.up (by decide), trivial⟩, ⟨sF26.up (by decide), trivial⟩, ⟨sF27.up (by decide), trivial⟩, ⟨sF23.up (by decide), trivial⟩, ⟨sF25.up (by decide), trivial⟩, ⟨sF21.up (by decide), trivial⟩, ⟨sF13.up (by decide), trivial⟩, trivial⟩ trivial eF6 (fun h => absurd h (by rw [show env.nl 6 = false by kernel_rfl]; decide))
def B32_0 (a0 : (List (ByteArray × (Int × ByteArray)))) (a1 : Int) (a2 : Int) (a3 : Int) (a4 : Int) (a5 : Int) (a6 : (List (ByteArray × (Int × ByteArray)))) (a7 : Int) (a8 : Int) : Option ((((List (ByteArray × (Int × ByteArray))) × Int) × ((Int × (Int × Int)) × (Int × (((List (ByteArray × (Int × ByteArray))) × Int) × Int)))) ⊕ ((Int × (Int × Int)) ⊕ ((Int × (Int × Int)) ⊕ ((List (ByteArray × (Int × ByteArray))) × (Int × (Int × Int)))))) :=
  sel (iLt a8 (lLen a0))
    (bndS (F67 (a0, a1) a8 a5) fun y0 =>
    sel (bNot (iEq y0 0))
      (some (.inr (.inr (.inl (0, (0, y0))))))
      (sel (oIn a8 (lLen a0)) (
      bndS (F68 (lAt a0 a8).2.2 a5) fun y1 =>
      sel (iEq a8 (iSub .i64 (lLen a0) 1))
        (sel (oIn a8 (lLen a6)) (
        sel (oCut 0 y1.2.2.1 (sLen (lAt a6 a8).2.2)) (
        sel (oIn a8 (lLen a6)) (
        sel (oIn a8 (lLen a0)) (
        some (.inr (.inr (.inr ((lSet a6 a8 ((lAt a6 a8).1, ((lAt a6 a8).2.1, (sCut (lAt a6 a8).2.2 0 y1.2.2.1)))), ((iAdd .i64 a5 (lLen y1.1)), ((iSub .i64 (sLen (lAt a0 a8).2.2) y1.2.2.1), 0))))))) none) none) none) none)
        (sel (bNot (iEq y1.2.2.2 0))
          (some (.inr (.inr (.inl (0, (0, y1.2.2.2))))))
          (some (.inl ((a0, a1), ((a2, (a3, a4)), ((iAdd .i64 a5 (lLen y1.1)), ((a6, a7), (iAdd .i64 a8 1))))))))) none))
    (some (.inr (.inl (a2, (a3, a4)))))
def L32_0 (x : (((List (ByteArray × (Int × ByteArray))) × Int) × ((Int × (Int × Int)) × (Int × (((List (ByteArray × (Int × ByteArray))) × Int) × Int))))) : Option ((Int × (Int × Int)) ⊕ ((Int × (Int × Int)) ⊕ ((List (ByteArray × (Int × ByteArray))) × (Int × (Int × Int))))) := iter (fun (x : (((List (ByteArray × (Int × ByteArray))) × Int) × ((Int × (Int × Int)) × (Int × (((List (ByteArray × (Int × ByteArray))) × Int) × Int))))) => (B32_0 x.1.1 x.1.2 x.2.1.1 x.2.1.2.1 x.2.1.2.2 x.2.2.1 x.2.2.2.1.1 x.2.2.2.1.2 x.2.2.2.2)) fuel x
def lsL32_0 : LS := ⟨(.one .normal ⟨.non, [1, 2, 3, 4, 5], (.seq (.box 0 (.seq (.dat (.sl (.pr .str (.pr (.int .i64) .str)))) (.dat (.int .i64)))) (.seq (.box 1 (.seq (.lit (.slice none 0 0)) (.seq (.dat (.int .i64)) (.seq (.dat (.int .i64)) (.dat (.int .i64)))))) (.seq (.dat (.int .i64)) (.seq (.box 2 (.seq (.own 3 (.pr .str (.pr (.int .i64) .str))) (.dat (.int .i64)))) (.dat (.int .i64)))))), 4, 93, 0⟩), (.two (.one (.exit 0) ⟨.non, [2], (.box 0 (.seq (.lit (.slice none 0 0)) (.seq (.dat (.int .i64)) (.seq (.dat (.int .i64)) (.dat (.int .i64)))))), 1, 93, 0⟩) (.two (.one .ret ⟨.non, [2], (.box 0 (.seq (.lit (.slice none 0 0)) (.seq (.dat (.int .i64)) (.seq (.dat (.int .i64)) (.dat (.int .i64)))))), 1, 93, 0⟩) (.one .ret ⟨.non, [2], (.box 0 (.seq (.own 1 (.pr .str (.pr (.int .i64) .str))) (.seq (.dat (.int .i64)) (.seq (.dat (.int .i64)) (.dat (.int .i64)))))), 2, 93, 0⟩))), fun (x : (((List (ByteArray × (Int × ByteArray))) × Int) × ((Int × (Int × Int)) × (Int × (((List (ByteArray × (Int × ByteArray))) × Int) × Int))))) => (B32_0 x.1.1 x.1.2 x.2.1.1 x.2.1.2.1 x.2.1.2.2 x.2.2.1 x.2.2.2.1.1 x.2.2.2.1.2 x.2.2.2.2)⟩
/-- midrangeref32.Recovered -/
def F32 (a0 : ((List (ByteArray × (Int × ByteArray))) × Int)) : Option ((List (ByteArray × (Int × ByteArray))) × (Int × (Int × Int))) :=
  letS (F37 (lLen a0.1) 1 6) fun y0 =>
  sel (bNot y0)
    (some (([] : List (ByteArray × (Int × ByteArray))), (0, (0, 6))))
    (sel (oIn 0 (lLen a0.1)) (
    bndS (F23 a0) fun y1 =>
    bndS (L32_0 (a0, ((0, (0, 0)), ((lAt a0.1 0).2.1, (y1, 0))))) fun y2 =>
    sumS y2 (fun y2a =>
      some (([] : List (ByteArray × (Int × ByteArray))), (0, (0, 0)))) fun y2ar =>
      sumS y2ar (fun y2aa =>
      some (([] : List (ByteArray × (Int × ByteArray))), y2aa)) fun y2ab =>
      some y2ab) none)
def gF32 : FS := ⟨(.agg (.dat (.pr (.sl (.pr .str (.pr (.int .i64) .str))) (.int .i64)))), 0, (.one ⟨.non, (.agg (.seq (.own 0 (.pr .str (.pr (.int .i64) .str))) (.seq (.dat (.int .i64)) (.seq (.dat (.int .i64)) (.dat (.int .i64)))))), 0, 1⟩), fun x => (F32 x)⟩
theorem rL32_0 (x : lsL32_0.hd.T) : kRound env (GofL [(68, [gF68]), (67, [gF67]), (23, [gF23]), (37, [gF37])]) (LofL [(32, [(0, lsL32_0)])]) 32 0 (lpOf Tryd.prog 32 0).2 (lsL32_0.hd.st x) lsL32_0.rd = lsL32_0.B x := by kernel_rfl
theorem eF32 (x : gF32.a.T) : kF env (GofL [(68, [gF68]), (67, [gF67]), (23, [gF23]), (37, [gF37])]) (LofL [(32, [(0, lsL32_0)])]) 32 (gF32.args x) (gF32.bs x) gF32.r.dec = gF32.F x := by kernel_rfl
theorem sF32 : SpecAt env 6 32 gF32 := mkSpec (r := 5) (gl := [(68, [gF68]), (67, [gF67]), (23, [gF23]), (37, [gF37])]) (L0 := [(0, lsL32_0)]) (by kernel_rfl) ⟨⟨sF68.up (by decide), trivial⟩, ⟨sF67.up (by decide), trivial⟩, ⟨sF23.up (by decide), trivial⟩, ⟨sF37.up (by decide), trivial⟩, trivial⟩ ⟨⟨0, by kernel_rfl, by kernel_rfl, rL32_0⟩, trivial⟩ eF32 (fun h => absurd h (by rw [show env.nl 32 = false by kernel_rfl]; decide))
/-- midrangeref32.Torn -/
def F33 (a0 : ((List (ByteArray × (Int × ByteArray))) × Int)) (a1 : Int) : Option ((List (ByteArray × (Int × ByteArray))) × (Int × (Int × Int))) :=
  bndS (F70 a0) fun y0 =>
  sel (bNot (iEq y0 0))
    (some (([] : List (ByteArray × (Int × ByteArray))), (0, (0, y0))))
    (sel (oIn (iSub .i64 (lLen a0.1) 1) (lLen a0.1)) (
    letS (F37 a1 0 (sLen (lAt a0.1 (iSub .i64 (lLen a0.1) 1)).2.2)) fun y1 =>
    sel (bNot y1)
      (some (([] : List (ByteArray × (Int × ByteArray))), (0, (0, 3))))
      (bndS (F23 a0) fun y2 =>
      sel (oIn (iSub .i64 (lLen a0.1) 1) (lLen y2.1)) (
      sel (oCut 0 a1 (sLen (lAt y2.1 (iSub .i64 (lLen a0.1) 1)).2.2)) (
      sel (oIn (iSub .i64 (lLen a0.1) 1) (lLen y2.1)) (
      some ((lSet y2.1 (iSub .i64 (lLen a0.1) 1) ((lAt y2.1 (iSub .i64 (lLen a0.1) 1)).1, ((lAt y2.1 (iSub .i64 (lLen a0.1) 1)).2.1, (sCut (lAt y2.1 (iSub .i64 (lLen a0.1) 1)).2.2 0 a1)))), (y2.2, (0, 0)))) none) none) none)) none)
def gF33 : FS := ⟨(.seq (.agg (.dat (.pr (.sl (.pr .str (.pr (.int .i64) .str))) (.int .i64)))) (.dat (.int .i64))), 0, (.one ⟨.non, (.agg (.seq (.own 0 (.pr .str (.pr (.int .i64) .str))) (.seq (.dat (.int .i64)) (.seq (.dat (.int .i64)) (.dat (.int .i64)))))), 0, 1⟩), fun x => (F33 x.1 x.2)⟩
theorem eF33 (x : gF33.a.T) : kF env (GofL [(23, [gF23]), (37, [gF37]), (70, [gF70])]) (LofL [(33, [])]) 33 (gF33.args x) (gF33.bs x) gF33.r.dec = gF33.F x := by kernel_rfl
theorem sF33 : SpecAt env 8 33 gF33 := mkSpec (r := 7) (gl := [(23, [gF23]), (37, [gF37]), (70, [gF70])]) (L0 := []) (by kernel_rfl) ⟨⟨sF23.up (by decide), trivial⟩, ⟨sF37.up (by decide), trivial⟩, ⟨sF70.up (by decide), trivial⟩, trivial⟩ trivial eF33 (fun h => absurd h (by rw [show env.nl 33 = false by kernel_rfl]; decide))
end
end Go.Proofs.YtdnfnjaccbgplaaDoor.K
end
