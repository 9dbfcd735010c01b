/- A part of the proof: texts of the author, joined. -/
import Derived.Test.YtiddpfhpmodfbaaGreatDoorKS0
section
set_option linter.unusedVariables false
set_option linter.unusedSimpArgs false
set_option linter.unnecessarySimpa false
open Go Go.Ev Go.Proofs
namespace Go.Proofs.YtiddpfhpmodfbaaGreatDoor.K
set_option linter.unusedVariables false
set_option maxRecDepth 100000
noncomputable section
/-- slices.Clone[[]api.DirectoryEntry,api.DirectoryEntry] -/
def F117 (a0 : (List ((ByteArray × (ByteArray × Int)) × (Int × Int)))) : Option (List ((ByteArray × (ByteArray × Int)) × (Int × Int))) :=
  sel (iLt 0 (lLen a0))
    (sel (iLt 0 (lLen a0)) (
    sel (lCap 56 (lApp ([] : List ((ByteArray × (ByteArray × Int)) × (Int × Int))) a0)) (
    some (lApp ([] : List ((ByteArray × (ByteArray × Int)) × (Int × Int))) a0)) none) none)
    (bothS (some ([] : List ((ByteArray × (ByteArray × Int)) × (Int × Int)))) (sel (lCap 56 (lApp ([] : List ((ByteArray × (ByteArray × Int)) × (Int × Int))) ([] : List ((ByteArray × (ByteArray × Int)) × (Int × Int))))) (
      some (lApp ([] : List ((ByteArray × (ByteArray × Int)) × (Int × Int))) ([] : List ((ByteArray × (ByteArray × Int)) × (Int × Int))))) none))
def gF117 : FS := ⟨(.dat (.sl (.pr (.pr .str (.pr .str (.int .i64))) (.pr (.int .i64) (.int .i64))))), 0, (.one ⟨.non, (.own 0 (.pr (.pr .str (.pr .str (.int .i64))) (.pr (.int .i64) (.int .i64)))), 0, 1⟩), fun x => (F117 x)⟩
theorem eF117 (x : gF117.a.T) : kF env (GofL []) (LofL [(117, [])]) 117 (gF117.args x) (gF117.bs x) gF117.r.dec = gF117.F x := by kernel_rfl
theorem sF117 : SpecAt env 1 117 gF117 := mkSpec (r := 0) (gl := []) (L0 := []) (by kernel_rfl) trivial trivial eF117 (fun _ => ⟨rfl, fun _ => by kernel_rfl⟩)
/-- slices.Clone[[]api.LostPage,api.LostPage] -/
def F118 (a0 : (List (Int × Int))) : Option (List (Int × Int)) :=
  sel (iLt 0 (lLen a0))
    (sel (iLt 0 (lLen a0)) (
    sel (lCap 16 (lApp ([] : List (Int × Int)) a0)) (
    some (lApp ([] : List (Int × Int)) a0)) none) none)
    (bothS (some ([] : List (Int × Int))) (sel (lCap 16 (lApp ([] : List (Int × Int)) ([] : List (Int × Int)))) (
      some (lApp ([] : List (Int × Int)) ([] : List (Int × Int)))) none))
def gF118 : FS := ⟨(.dat (.sl (.pr (.int .i64) (.int .i64)))), 0, (.one ⟨.non, (.own 0 (.pr (.int .i64) (.int .i64))), 0, 1⟩), fun x => (F118 x)⟩
theorem eF118 (x : gF118.a.T) : kF env (GofL []) (LofL [(118, [])]) 118 (gF118.args x) (gF118.bs x) gF118.r.dec = gF118.F x := by kernel_rfl
theorem sF118 : SpecAt env 1 118 gF118 := mkSpec (r := 0) (gl := []) (L0 := []) (by kernel_rfl) trivial trivial eF118 (fun _ => ⟨rfl, fun _ => by kernel_rfl⟩)
/-- ipl.owned -/
def F69 (a0 : (((List (Int × ByteArray)) × Int) × ((List ((ByteArray × (ByteArray × Int)) × (Int × Int))) × (List (Int × Int))))) : Option ((List (Int × ByteArray)) × (Int × ((List ((ByteArray × (ByteArray × Int)) × (Int × Int))) × (List (Int × Int))))) :=
  bndS (F116 a0.1.1) fun y0 =>
  bndS (F117 a0.2.1) fun y1 =>
  bndS (F118 a0.2.2) fun y2 =>
  some (y0, (a0.1.2, (y1, y2)))
def gF69 : FS := ⟨(.agg (.dat (.pr (.pr (.sl (.pr (.int .i64) .str)) (.int .i64)) (.pr (.sl (.pr (.pr .str (.pr .str (.int .i64))) (.pr (.int .i64) (.int .i64)))) (.sl (.pr (.int .i64) (.int .i64))))))), 0, (.one ⟨.non, (.agg (.seq (.own 0 (.pr (.int .i64) .str)) (.seq (.dat (.int .i64)) (.seq (.own 1 (.pr (.pr .str (.pr .str (.int .i64))) (.pr (.int .i64) (.int .i64)))) (.own 2 (.pr (.int .i64) (.int .i64))))))), 0, 3⟩), fun x => (F69 x)⟩
theorem eF69 (x : gF69.a.T) : kF env (GofL [(118, [gF118]), (117, [gF117]), (116, [gF116])]) (LofL [(69, [])]) 69 (gF69.args x) (gF69.bs x) gF69.r.dec = gF69.F x := by kernel_rfl
theorem sF69 : SpecAt env 2 69 gF69 := mkSpec (r := 1) (gl := [(118, [gF118]), (117, [gF117]), (116, [gF116])]) (L0 := []) (by kernel_rfl) ⟨⟨sF118.up (by decide), trivial⟩, ⟨sF117.up (by decide), trivial⟩, ⟨sF116.up (by decide), trivial⟩, trivial⟩ trivial eF69 (fun h => absurd h (by rw [show env.nl 69 = false by kernel_rfl]; decide))
/-- ipl.padded -/
def F132 (a0 : ByteArray) : Option ByteArray :=
  bndS (FRepeat (bs [32]) (iSub .i64 10 (sLen a0))) fun y0 =>
  sel (sOk a0 y0) (
  some (sAdd a0 y0)) none
def gF132 : FS := ⟨(.dat .str), 0, (.one ⟨.non, (.dat .str), 0, 0⟩), fun x => (F132 x)⟩
theorem eF132 (x : gF132.a.T) : kF env (GofL [(70, [gFRepeat])]) (LofL [(132, [])]) 132 (gF132.args x) (gF132.bs x) gF132.r.dec = gF132.F x := by kernel_rfl
theorem sF132 : SpecAt env 2 132 gF132 := mkSpec (r := 1) (gl := [(70, [gFRepeat])]) (L0 := []) (by kernel_rfl) ⟨⟨sFRepeat.up (by decide), trivial⟩, trivial⟩ trivial eF132 (fun h => absurd h (by rw [show env.nl 132 = false by kernel_rfl]; decide))
def B52_0 (a0 : ByteArray) (a1 : Int) (a2 : Int) (a3 : Int) : Option ((ByteArray × (Int × (Int × Int))) ⊕ Int) :=
  sel (iLt a3 a2)
    (sel (oIn a3 (sLen a0)) (
    sel (oNz 4294967291) (
    some (.inl (a0, ((iRem (iAdd .i64 (iAdd .i64 (iMul .i64 257 a1) (iCv .i64 (sAt a0 a3))) 1) 4294967291), (a2, (iAdd .i64 a3 1)))))) none) none)
    (some (.inr a1))
def L52_0 (x : (ByteArray × (Int × (Int × Int)))) : Option Int := iter (fun (x : (ByteArray × (Int × (Int × Int)))) => (B52_0 x.1 x.2.1 x.2.2.1 x.2.2.2)) fuel x
def lsL52_0 : LS := ⟨(.one .normal ⟨.non, [0, 3, 6, 7], (.seq (.dat .str) (.seq (.dat (.int .i64)) (.seq (.dat (.int .i64)) (.dat (.int .i64))))), 0, 33, 0⟩), (.one (.exit 0) ⟨.non, [3], (.dat (.int .i64)), 0, 33, 0⟩), fun (x : (ByteArray × (Int × (Int × Int)))) => (B52_0 x.1 x.2.1 x.2.2.1 x.2.2.2)⟩
/-- ipl.checksum -/
def F52 (a0 : ByteArray) : Option ByteArray :=
  bndS (L52_0 (a0, (1, ((sLen a0), 0)))) fun y0 =>
  some (sOf [(iCv .u8 (iShr .i64 y0 24)), (iCv .u8 (iShr .i64 y0 16)), (iCv .u8 (iShr .i64 y0 8)), (iCv .u8 y0)])
def gF52 : FS := ⟨(.dat .str), 0, (.one ⟨.non, (.dat .str), 0, 0⟩), fun x => (F52 x)⟩
theorem rL52_0 (x : lsL52_0.hd.T) : kRound env (GofL []) (LofL [(52, [(0, lsL52_0)])]) 52 0 (lpOf Tryz.prog 52 0).2 (lsL52_0.hd.st x) lsL52_0.rd = lsL52_0.B x := by kernel_rfl
theorem eF52 (x : gF52.a.T) : kF env (GofL []) (LofL [(52, [(0, lsL52_0)])]) 52 (gF52.args x) (gF52.bs x) gF52.r.dec = gF52.F x := by kernel_rfl
theorem sF52 : SpecAt env 1 52 gF52 := mkSpec (r := 0) (gl := []) (L0 := [(0, lsL52_0)]) (by kernel_rfl) trivial ⟨⟨0, by kernel_rfl, by kernel_rfl, rL52_0⟩, trivial⟩ eF52 (fun h => absurd h (by rw [show env.nl 52 = false by kernel_rfl]; decide))
/-- ipl.header -/
def F79 (a0 : (ByteArray × (ByteArray × Int))) (a1 : Int) : Option ByteArray :=
  sel (sOk (bs [42, 79, 66, 74]) (sOf [(iCv .u8 a0.2.2)])) (
  bndS (F132 a0.1) fun y0 =>
  sel (sOk (sAdd (bs [42, 79, 66, 74]) (sOf [(iCv .u8 a0.2.2)])) y0) (
  bndS (F132 a0.2.1) fun y1 =>
  sel (sOk (sAdd (sAdd (bs [42, 79, 66, 74]) (sOf [(iCv .u8 a0.2.2)])) y0) y1) (
  sel (sOk (sAdd (sAdd (sAdd (bs [42, 79, 66, 74]) (sOf [(iCv .u8 a0.2.2)])) y0) y1) (sOf [(iCv .u8 a1)])) (
  bndS (F52 (sAdd (sAdd (sAdd (sAdd (bs [42, 79, 66, 74]) (sOf [(iCv .u8 a0.2.2)])) y0) y1) (sOf [(iCv .u8 a1)]))) fun y2 =>
  sel (sOk (sAdd (sAdd (sAdd (sAdd (bs [42, 79, 66, 74]) (sOf [(iCv .u8 a0.2.2)])) y0) y1) (sOf [(iCv .u8 a1)])) y2) (
  sel (sOk (sAdd (sAdd (sAdd (sAdd (sAdd (bs [42, 79, 66, 74]) (sOf [(iCv .u8 a0.2.2)])) y0) y1) (sOf [(iCv .u8 a1)])) y2) (bs [0, 0])) (
  some (sAdd (sAdd (sAdd (sAdd (sAdd (sAdd (bs [42, 79, 66, 74]) (sOf [(iCv .u8 a0.2.2)])) y0) y1) (sOf [(iCv .u8 a1)])) y2) (bs [0, 0]))) none) none) none) none) none) none
def gF79 : FS := ⟨(.seq (.agg (.dat (.pr .str (.pr .str (.int .i64))))) (.dat (.int .i64))), 0, (.one ⟨.non, (.dat .str), 0, 0⟩), fun x => (F79 x.1 x.2)⟩
theorem eF79 (x : gF79.a.T) : kF env (GofL [(52, [gF52]), (132, [gF132])]) (LofL [(79, [])]) 79 (gF79.args x) (gF79.bs x) gF79.r.dec = gF79.F x := by kernel_rfl
theorem sF79 : SpecAt env 3 79 gF79 := mkSpec (r := 2) (gl := [(52, [gF52]), (132, [gF132])]) (L0 := []) (by kernel_rfl) ⟨⟨sF52.up (by decide), trivial⟩, ⟨sF132.up (by decide), trivial⟩, trivial⟩ trivial eF79 (fun h => absurd h (by rw [show env.nl 79 = false by kernel_rfl]; decide))
/-- segment.find$1 -/
def F179 (a0 : (Int × ByteArray)) (a1 : Int) : Int :=
  (iSub .i64 a0.1 a1)
def gF179 : FS := ⟨(.seq (.agg (.dat (.pr (.int .i64) .str))) (.dat (.int .i64))), 0, (.one ⟨.non, (.dat (.int .i64)), 0, 0⟩), fun x => some (F179 x.1 x.2)⟩
theorem eF179 (x : gF179.a.T) : kF env (GofL []) (LofL [(179, [])]) 179 (gF179.args x) (gF179.bs x) gF179.r.dec = gF179.F x := by kernel_rfl
theorem sF179 : SpecAt env 1 179 gF179 := mkSpec (r := 0) (gl := []) (L0 := []) (by kernel_rfl) trivial trivial eF179 (fun h => absurd h (by rw [show env.nl 179 = false by kernel_rfl]; decide))
def B178_0 (a0 : (List (Int × ByteArray))) (a1 : Int) (a2 : Int) (a3 : Int) (a4 : Int) : Option (((List (Int × ByteArray)) × (Int × (Int × (Int × Int)))) ⊕ ((List (Int × ByteArray)) × (Int × (Int × Int)))) :=
  sel (iLt a3 a4)
    (sel (oIn (iCv .i64 (iShr .u64 (iCv .u64 (iAdd .i64 a3 a4)) 1)) (lLen a0)) (
    letS (F179 (lAt a0 (iCv .i64 (iShr .u64 (iCv .u64 (iAdd .i64 a3 a4)) 1))) a1) fun y0 =>
    some (.inl (a0, (a1, (a2, ((sel (iLt y0 0) (iAdd .i64 (iCv .i64 (iShr .u64 (iCv .u64 (iAdd .i64 a3 a4)) 1)) 1) a3), (sel (iLt y0 0) a4 (iCv .i64 (iShr .u64 (iCv .u64 (iAdd .i64 a3 a4)) 1))))))))) none)
    (some (.inr (a0, (a1, (a2, a3)))))
def L178_0 (x : ((List (Int × ByteArray)) × (Int × (Int × (Int × Int))))) : Option ((List (Int × ByteArray)) × (Int × (Int × Int))) := iter (fun (x : ((List (Int × ByteArray)) × (Int × (Int × (Int × Int))))) => (B178_0 x.1 x.2.1 x.2.2.1 x.2.2.2.1 x.2.2.2.2)) fuel x
def lsL178_0 : LS := ⟨(.one .normal ⟨.non, [0, 1, 2, 8, 9, 10], (.seq (.dat (.sl (.pr (.int .i64) .str))) (.seq (.dat (.int .i64)) (.seq (.fn 179 .non) (.seq (.dat (.int .i64)) (.seq (.dat (.int .i64)) (.dat (.int .i64))))))), 0, 49, 0⟩), (.one (.exit 0) ⟨.non, [0, 1, 2, 8, 9], (.seq (.dat (.sl (.pr (.int .i64) .str))) (.seq (.dat (.int .i64)) (.seq (.fn 179 .non) (.seq (.dat (.int .i64)) (.dat (.int .i64)))))), 0, 49, 0⟩), fun (x : ((List (Int × ByteArray)) × (Int × (Int × (Int × Int))))) => (B178_0 x.1 x.2.1 x.2.2.1 x.2.2.2.1 x.2.2.2.2)⟩
/-- slices.BinarySearchFunc[[]api.Segment,api.Segment,int] -/
def F178 (a0 : (List (Int × ByteArray))) (a1 : Int) : Option (Int × Bool) :=
  bndS (L178_0 (a0, (a1, ((lLen a0), (0, (lLen a0)))))) fun y0 =>
  sel (bOr (oIn y0.2.2.2 (lLen y0.1)) (bNot (iLt y0.2.2.2 y0.2.2.1))) (
  letS (F179 (lAt y0.1 y0.2.2.2) y0.2.1) fun y1 =>
  some (y0.2.2.2, (bAnd (iLt y0.2.2.2 y0.2.2.1) (iEq y1 0)))) none
def gF178 : FS := ⟨(.seq (.dat (.sl (.pr (.int .i64) .str))) (.seq (.dat (.int .i64)) (.fn 179 .non))), 0, (.one ⟨.non, (.tup (.seq (.dat (.int .i64)) (.dat .bool))), 0, 0⟩), fun x => (F178 x.1 x.2)⟩
theorem rL178_0 (x : lsL178_0.hd.T) : kRound env (GofL [(179, [gF179])]) (LofL [(178, [(0, lsL178_0)])]) 178 0 (lpOf Tryz.prog 178 0).2 (lsL178_0.hd.st x) lsL178_0.rd = lsL178_0.B x := by kernel_rfl
theorem eF178 (x : gF178.a.T) : kF env (GofL [(179, [gF179])]) (LofL [(178, [(0, lsL178_0)])]) 178 (gF178.args x) (gF178.bs x) gF178.r.dec = gF178.F x := by kernel_rfl
theorem sF178 : SpecAt env 2 178 gF178 := mkSpec (r := 1) (gl := [(179, [gF179])]) (L0 := [(0, lsL178_0)]) (by kernel_rfl) ⟨⟨sF179.up (by decide), trivial⟩, trivial⟩ ⟨⟨0, by kernel_rfl, by kernel_rfl, rL178_0⟩, trivial⟩ eF178 (fun h => absurd h (by rw [show env.nl 178 = false by kernel_rfl]; decide))
/-- segment.find -/
def F149 (a0 : ((List (Int × ByteArray)) × Int)) (a1 : Int) : Option (Int × Int) :=
  bndS (F58 a0) fun y0 =>
  sel (bNot (iEq y0.2 0))
    (some (0, y0.2))
    (bndS (F178 a0.1 a1) fun y1 =>
    sel y1.2
      (some (y1.1, 0))
      (letS (F109 a1 1 (iSub .i64 a0.2 1)) fun y2 =>
      sel y2
        (some (0, 24))
        (some (0, 11))))
def gF149 : FS := ⟨(.seq (.agg (.dat (.pr (.sl (.pr (.int .i64) .str)) (.int .i64)))) (.dat (.int .i64))), 0, (.one ⟨.non, (.tup (.seq (.dat (.int .i64)) (.dat (.int .i64)))), 0, 0⟩), fun x => (F149 x.1 x.2)⟩
theorem eF149 (x : gF149.a.T) : kF env (GofL [(109, [gF109]), (178, [gF178]), (58, [gF58])]) (LofL [(149, [])]) 149 (gF149.args x) (gF149.bs x) gF149.r.dec = gF149.F x := by kernel_rfl
theorem sF149 : SpecAt env 3 149 gF149 := mkSpec (r := 2) (gl := [(109, [gF109]), (178, [gF178]), (58, [gF58])]) (L0 := []) (by kernel_rfl) ⟨⟨sF109.up (by decide), trivial⟩, ⟨sF178.up (by decide), trivial⟩, ⟨sF58.up (by decide), trivial⟩, trivial⟩ trivial eF149 (fun h => absurd h (by rw [show env.nl 149 = false by kernel_rfl]; decide))
/-- segment.bytesAt -/
def F138 (a0 : ((List (Int × ByteArray)) × Int)) (a1 : (Int × Int)) (a2 : Int) : Option (Int × Int) :=
  bndS (F149 a0 a1.1) fun y0 =>
  sel (bNot (iEq y0.2 0))
    (some (0, y0.2))
    (sel (oIn y0.1 (lLen a0.1)) (
    letS (F109 a1.2 0 (sLen (lAt a0.1 y0.1).2)) fun y1 =>
    letS (F109 a2 0 (iSub .i64 (sLen (lAt a0.1 y0.1).2) a1.2)) fun y2 =>
    sel (bOr (bNot y1) (bNot y2))
      (some (0, 3))
      (some (y0.1, 0))) none)
def gF138 : FS := ⟨(.seq (.agg (.dat (.pr (.sl (.pr (.int .i64) .str)) (.int .i64)))) (.seq (.agg (.dat (.pr (.int .i64) (.int .i64)))) (.dat (.int .i64)))), 0, (.one ⟨.non, (.tup (.seq (.dat (.int .i64)) (.dat (.int .i64)))), 0, 0⟩), fun x => (F138 x.1 x.2.1 x.2.2)⟩
theorem eF138 (x : gF138.a.T) : kF env (GofL [(109, [gF109]), (149, [gF149])]) (LofL [(138, [])]) 138 (gF138.args x) (gF138.bs x) gF138.r.dec = gF138.F x := by kernel_rfl
theorem sF138 : SpecAt env 4 138 gF138 := mkSpec (r := 3) (gl := [(109, [gF109]), (149, [gF149])]) (L0 := []) (by kernel_rfl) ⟨⟨sF109.up (by decide), trivial⟩, ⟨sF149.up (by decide), trivial⟩, trivial⟩ trivial eF138 (fun h => absurd h (by rw [show env.nl 138 = false by kernel_rfl]; decide))
/-- segment.with -/
def F139 (a0 : ((List (Int × ByteArray)) × Int)) (a1 : Int) (a2 : ByteArray) : Option ((List (Int × ByteArray)) × Int) :=
  bndS (F116 a0.1) fun y0 =>
  sel (oIn a1 (lLen y0)) (
  some ((lSet y0 a1 ((lAt y0 a1).1, a2)), a0.2)) none
def gF139 : FS := ⟨(.seq (.agg (.dat (.pr (.sl (.pr (.int .i64) .str)) (.int .i64)))) (.seq (.dat (.int .i64)) (.dat .str))), 0, (.one ⟨.non, (.agg (.seq (.own 0 (.pr (.int .i64) .str)) (.dat (.int .i64)))), 0, 1⟩), fun x => (F139 x.1 x.2.1 x.2.2)⟩
theorem eF139 (x : gF139.a.T) : kF env (GofL [(116, [gF116])]) (LofL [(139, [])]) 139 (gF139.args x) (gF139.bs x) gF139.r.dec = gF139.F x := by kernel_rfl
theorem sF139 : SpecAt env 2 139 gF139 := mkSpec (r := 1) (gl := [(116, [gF116])]) (L0 := []) (by kernel_rfl) ⟨⟨sF116.up (by decide), trivial⟩, trivial⟩ trivial eF139 (fun h => absurd h (by rw [show env.nl 139 = false by kernel_rfl]; decide))
/-- segment.Written -/
def F84 (a0 : ((List (Int × ByteArray)) × Int)) (a1 : (Int × Int)) (a2 : ByteArray) : Option (((List (Int × ByteArray)) × Int) × Int) :=
  bndS (F138 a0 a1 (sLen a2)) fun y0 =>
  sel (bNot (iEq y0.2 0))
    (some ((([] : List (Int × ByteArray)), 0), y0.2))
    (sel (oIn y0.1 (lLen a0.1)) (
    sel (oCut 0 a1.2 (sLen (lAt a0.1 y0.1).2)) (
    sel (sOk (sCut (lAt a0.1 y0.1).2 0 a1.2) a2) (
    sel (oCut (iAdd .i64 a1.2 (sLen a2)) (sLen (lAt a0.1 y0.1).2) (sLen (lAt a0.1 y0.1).2)) (
    sel (sOk (sAdd (sCut (lAt a0.1 y0.1).2 0 a1.2) a2) (sCut (lAt a0.1 y0.1).2 (iAdd .i64 a1.2 (sLen a2)) (sLen (lAt a0.1 y0.1).2))) (
    bndS (F139 a0 y0.1 (sAdd (sAdd (sCut (lAt a0.1 y0.1).2 0 a1.2) a2) (sCut (lAt a0.1 y0.1).2 (iAdd .i64 a1.2 (sLen a2)) (sLen (lAt a0.1 y0.1).2)))) fun y1 =>
    some (y1, 0)) none) none) none) none) none)
def gF84 : FS := ⟨(.seq (.agg (.dat (.pr (.sl (.pr (.int .i64) .str)) (.int .i64)))) (.seq (.agg (.dat (.pr (.int .i64) (.int .i64)))) (.dat .str))), 0, (.one ⟨.non, (.tup (.seq (.agg (.seq (.own 0 (.pr (.int .i64) .str)) (.dat (.int .i64)))) (.dat (.int .i64)))), 0, 1⟩), fun x => (F84 x.1 x.2.1 x.2.2)⟩
theorem eF84 (x : gF84.a.T) : kF env (GofL [(139, [gF139]), (138, [gF138])]) (LofL [(84, [])]) 84 (gF84.args x) (gF84.bs x) gF84.r.dec = gF84.F x := by kernel_rfl
theorem sF84 : SpecAt env 5 84 gF84 := mkSpec (r := 4) (gl := [(139, [gF139]), (138, [gF138])]) (L0 := []) (by kernel_rfl) ⟨⟨sF139.up (by decide), trivial⟩, ⟨sF138.up (by decide), trivial⟩, trivial⟩ trivial eF84 (fun h => absurd h (by rw [show env.nl 84 = false by kernel_rfl]; decide))
/-- math/bits.Len64 -/
def F175 (a0 : Int) : Option Int :=
  sel (oIn (iCv .u8 (sel (iLe 256 (sel (iLe 65536 (sel (iLe 4294967296 a0) (iShr .u64 a0 32) a0)) (iShr .u64 (sel (iLe 4294967296 a0) (iShr .u64 a0 32) a0) 16) (sel (iLe 4294967296 a0) (iShr .u64 a0 32) a0))) (iShr .u64 (sel (iLe 65536 (sel (iLe 4294967296 a0) (iShr .u64 a0 32) a0)) (iShr .u64 (sel (iLe 4294967296 a0) (iShr .u64 a0 32) a0) 16) (sel (iLe 4294967296 a0) (iShr .u64 a0 32) a0)) 8) (sel (iLe 65536 (sel (iLe 4294967296 a0) (iShr .u64 a0 32) a0)) (iShr .u64 (sel (iLe 4294967296 a0) (iShr .u64 a0 32) a0) 16) (sel (iLe 4294967296 a0) (iShr .u64 a0 32) a0)))) 256) (
  some (iAdd .i64 (sel (iLe 256 (sel (iLe 65536 (sel (iLe 4294967296 a0) (iShr .u64 a0 32) a0)) (iShr .u64 (sel (iLe 4294967296 a0) (iShr .u64 a0 32) a0) 16) (sel (iLe 4294967296 a0) (iShr .u64 a0 32) a0))) (iAdd .i64 (sel (iLe 65536 (sel (iLe 4294967296 a0) (iShr .u64 a0 32) a0)) (iAdd .i64 (sel (iLe 4294967296 a0) 32 0) 16) (sel (iLe 4294967296 a0) 32 0)) 8) (sel (iLe 65536 (sel (iLe 4294967296 a0) (iShr .u64 a0 32) a0)) (iAdd .i64 (sel (iLe 4294967296 a0) 32 0) 16) (sel (iLe 4294967296 a0) 32 0))) (iCv .i64 (sAt (bs [0, 1, 2, 2, 3, 3, 3, 3, 4, 4, 4, 4, 4, 4, 4, 4, 5, 5, 5, 5, 5, 5, 5, 5, 5, 5, 5, 5, 5, 5, 5, 5, 6, 6, 6, 6, 6, 6, 6, 6, 6, 6, 6, 6, 6, 6, 6, 6, 6, 6, 6, 6, 6, 6, 6, 6, 6, 6, 6, 6, 6, 6, 6, 6, 7, 7, 7, 7, 7, 7, 7, 7, 7, 7, 7, 7, 7, 7, 7, 7, 7, 7, 7, 7, 7, 7, 7, 7, 7, 7, 7, 7, 7, 7, 7, 7, 7, 7, 7, 7, 7, 7, 7, 7, 7, 7, 7, 7, 7, 7, 7, 7, 7, 7, 7, 7, 7, 7, 7, 7, 7, 7, 7, 7, 7, 7, 7, 7, 8, 8, 8, 8, 8, 8, 8, 8, 8, 8, 8, 8, 8, 8, 8, 8, 8, 8, 8, 8, 8, 8, 8, 8, 8, 8, 8, 8, 8, 8, 8, 8, 8, 8, 8, 8, 8, 8, 8, 8, 8, 8, 8, 8, 8, 8, 8, 8, 8, 8, 8, 8, 8, 8, 8, 8, 8, 8, 8, 8, 8, 8, 8, 8, 8, 8, 8, 8, 8, 8, 8, 8, 8, 8, 8, 8, 8, 8, 8, 8, 8, 8, 8, 8, 8, 8, 8, 8, 8, 8, 8, 8, 8, 8, 8, 8, 8, 8, 8, 8, 8, 8, 8, 8, 8, 8, 8, 8, 8, 8, 8, 8, 8, 8, 8, 8, 8, 8, 8, 8, 8, 8, 8, 8, 8, 8, 8, 8]) (iCv .u8 (sel (iLe 256 (sel (iLe 65536 (sel (iLe 4294967296 a0) (iShr .u64 a0 32) a0)) (iShr .u64 (sel (iLe 4294967296 a0) (iShr .u64 a0 32) a0) 16) (sel (iLe 4294967296 a0) (iShr .u64 a0 32) a0))) (iShr .u64 (sel (iLe 65536 (sel (iLe 4294967296 a0) (iShr .u64 a0 32) a0)) (iShr .u64 (sel (iLe 4294967296 a0) (iShr .u64 a0 32) a0) 16) (sel (iLe 4294967296 a0) (iShr .u64 a0 32) a0)) 8) (sel (iLe 65536 (sel (iLe 4294967296 a0) (iShr .u64 a0 32) a0)) (iShr .u64 (sel (iLe 4294967296 a0) (iShr .u64 a0 32) a0) 16) (sel (iLe 4294967296 a0) (iShr .u64 a0 32) a0)))))))) none
def gF175 : FS := ⟨(.dat (.int .u64)), 0, (.one ⟨.non, (.dat (.int .i64)), 0, 0⟩), fun x => (F175 x)⟩
theorem eF175 (x : gF175.a.T) : kF env (GofL []) (LofL [(175, [])]) 175 (gF175.args x) (gF175.bs x) gF175.r.dec = gF175.F x := by kernel_rfl
theorem sF175 : SpecAt env 1 175 gF175 := mkSpec (r := 0) (gl := []) (L0 := []) (by kernel_rfl) trivial trivial eF175 (fun h => absurd h (by rw [show env.nl 175 = false by kernel_rfl]; decide))
/-- math/bits.Len -/
def F126 (a0 : Int) : Option Int :=
  bndS (F175 a0) fun y0 =>
  some y0
def gF126 : FS := ⟨(.dat (.int .u64)), 0, (.one ⟨.non, (.dat (.int .i64)), 0, 0⟩), fun x => (F126 x)⟩
theorem eF126 (x : gF126.a.T) : kF env (GofL [(175, [gF175])]) (LofL [(126, [])]) 126 (gF126.args x) (gF126.bs x) gF126.r.dec = gF126.F x := by kernel_rfl
theorem sF126 : SpecAt env 2 126 gF126 := mkSpec (r := 1) (gl := [(175, [gF175])]) (L0 := []) (by kernel_rfl) ⟨⟨sF175.up (by decide), trivial⟩, trivial⟩ trivial eF126 (fun h => absurd h (by rw [show env.nl 126 = false by kernel_rfl]; decide))
/-- ipl.enter$1 -/
def F141 (a0 : ((ByteArray × (ByteArray × Int)) × (Int × Int))) (a1 : ((ByteArray × (ByteArray × Int)) × (Int × Int))) : Option Int :=
  bndS (F59 a0.1 a1.1) fun y0 =>
  some y0
def gF141 : FS := ⟨(.seq (.agg (.dat (.pr (.pr .str (.pr .str (.int .i64))) (.pr (.int .i64) (.int .i64))))) (.agg (.dat (.pr (.pr .str (.pr .str (.int .i64))) (.pr (.int .i64) (.int .i64)))))), 0, (.one ⟨.non, (.dat (.int .i64)), 0, 0⟩), fun x => (F141 x.1 x.2)⟩
theorem eF141 (x : gF141.a.T) : kF env (GofL [(59, [gF59])]) (LofL [(141, [])]) 141 (gF141.args x) (gF141.bs x) gF141.r.dec = gF141.F x := by kernel_rfl
theorem sF141 : SpecAt env 4 141 gF141 := mkSpec (r := 3) (gl := [(59, [gF59])]) (L0 := []) (by kernel_rfl) ⟨⟨sF59.up (by decide), trivial⟩, trivial⟩ trivial eF141 (fun h => absurd h (by rw [show env.nl 141 = false by kernel_rfl]; decide))
def B195_2 (a0 : (List ((ByteArray × (ByteArray × Int)) × (Int × Int)))) (a1 : Int) (a2 : Int) (a3 : Int) (a4 : Int) : Option (((List ((ByteArray × (ByteArray × Int)) × (Int × Int))) × (Int × (Int × (Int × Int)))) ⊕ ((List ((ByteArray × (ByteArray × Int)) × (Int × Int))) × (Int × (Int × Int)))) :=
  sel (bOr (oIn a4 (lLen a0)) (bNot (iLt a1 a4))) (
  sel (bOr (oIn (iSub .i64 a4 1) (lLen a0)) (bNot (iLt a1 a4))) (
  sel (bOr (okS (F141 (lAt a0 a4) (lAt a0 (iSub .i64 a4 1)))) (bNot (iLt a1 a4))) (
  letS (valS (F141 (lAt a0 a4) (lAt a0 (iSub .i64 a4 1))) 0) fun y0 =>
  sel (bAnd (iLt a1 a4) (iLt y0 0))
    (sel (oIn (iSub .i64 a4 1) (lLen a0)) (
    sel (oIn a4 (lLen a0)) (
    sel (oIn a4 (lLen a0)) (
    sel (oIn (iSub .i64 a4 1) (lLen (lSet a0 a4 (lAt a0 (iSub .i64 a4 1))))) (
    some (.inl ((lSet (lSet a0 a4 (lAt a0 (iSub .i64 a4 1))) (iSub .i64 a4 1) (lAt a0 a4)), (a1, (a2, (a3, (iSub .i64 a4 1))))))) none) none) none) none)
    (some (.inr (a0, (a1, (a2, a3)))))) none) none) none
def L195_2 (x : ((List ((ByteArray × (ByteArray × Int)) × (Int × Int))) × (Int × (Int × (Int × Int))))) : Option ((List ((ByteArray × (ByteArray × Int)) × (Int × Int))) × (Int × (Int × Int))) := iter (fun (x : ((List ((ByteArray × (ByteArray × Int)) × (Int × Int))) × (Int × (Int × (Int × Int))))) => (B195_2 x.1 x.2.1 x.2.2.1 x.2.2.2.1 x.2.2.2.2)) fuel x
def lsL195_2 : LS := ⟨(.one .normal ⟨(.own 0 (.pr (.pr .str (.pr .str (.int .i64))) (.pr (.int .i64) (.int .i64)))), [0, 1, 2, 3, 8, 9], (.seq (.alo 0) (.seq (.dat (.int .i64)) (.seq (.dat (.int .i64)) (.seq (.fn 141 .non) (.seq (.dat (.int .i64)) (.dat (.int .i64))))))), 1, 53, 1⟩), (.one (.exit 2) ⟨(.own 0 (.pr (.pr .str (.pr .str (.int .i64))) (.pr (.int .i64) (.int .i64)))), [0, 1, 2, 3, 8], (.seq (.alo 0) (.seq (.dat (.int .i64)) (.seq (.dat (.int .i64)) (.seq (.fn 141 .non) (.dat (.int .i64)))))), 1, 53, 1⟩), fun (x : ((List ((ByteArray × (ByteArray × Int)) × (Int × Int))) × (Int × (Int × (Int × Int))))) => (B195_2 x.1 x.2.1 x.2.2.1 x.2.2.2.1 x.2.2.2.2)⟩
def B195_0 (a0 : (List ((ByteArray × (ByteArray × Int)) × (Int × Int)))) (a1 : Int) (a2 : Int) (a3 : Int) : Option (((List ((ByteArray × (ByteArray × Int)) × (Int × Int))) × (Int × (Int × Int))) ⊕ (List ((ByteArray × (ByteArray × Int)) × (Int × Int)))) :=
  sel (iLt a3 a2)
    (bndS (L195_2 (a0, (a1, (a2, (a3, a3))))) fun y0 =>
    some (.inl (y0.1, (y0.2.1, (y0.2.2.1, (iAdd .i64 y0.2.2.2 1))))))
    (some (.inr a0))
def L195_0 (x : ((List ((ByteArray × (ByteArray × Int)) × (Int × Int))) × (Int × (Int × Int)))) : Option (List ((ByteArray × (ByteArray × Int)) × (Int × Int))) := iter (fun (x : ((List ((ByteArray × (ByteArray × Int)) × (Int × Int))) × (Int × (Int × Int)))) => (B195_0 x.1 x.2.1 x.2.2.1 x.2.2.2)) fuel x
def lsL195_0 : LS := ⟨(.one .normal ⟨(.own 0 (.pr (.pr .str (.pr .str (.int .i64))) (.pr (.int .i64) (.int .i64)))), [0, 1, 2, 3, 8], (.seq (.alo 0) (.seq (.dat (.int .i64)) (.seq (.dat (.int .i64)) (.seq (.fn 141 .non) (.dat (.int .i64)))))), 1, 53, 1⟩), (.one (.exit 0) ⟨(.own 0 (.pr (.pr .str (.pr .str (.int .i64))) (.pr (.int .i64) (.int .i64)))), [], .non, 1, 53, 1⟩), fun (x : ((List ((ByteArray × (ByteArray × Int)) × (Int × Int))) × (Int × (Int × Int)))) => (B195_0 x.1 x.2.1 x.2.2.1 x.2.2.2)⟩
/-- slices.insertionSortCmpFunc[api.DirectoryEntry] -/
def F195 (a0 : (List ((ByteArray × (ByteArray × Int)) × (Int × Int)))) (a1 : Int) (a2 : Int) : Option (List ((ByteArray × (ByteArray × Int)) × (Int × Int))) :=
  bndS (L195_0 (a0, (a1, (a2, (iAdd .i64 a1 1))))) fun y0 =>
  some y0
def gF195 : FS := ⟨(.seq (.own 0 (.pr (.pr .str (.pr .str (.int .i64))) (.pr (.int .i64) (.int .i64)))) (.seq (.dat (.int .i64)) (.seq (.dat (.int .i64)) (.fn 141 .non)))), 1, (.one ⟨(.own 0 (.pr (.pr .str (.pr .str (.int .i64))) (.pr (.int .i64) (.int .i64)))), (.tup .non), 1, 0⟩), fun x => (F195 x.1 x.2.1 x.2.2)⟩
theorem rL195_2 (x : lsL195_2.hd.T) : kRound env (GofL [(141, [gF141])]) (LofL [(195, [(2, lsL195_2), (0, lsL195_0)])]) 195 2 (lpOf Tryz.prog 195 1).2 (lsL195_2.hd.st x) lsL195_2.rd = lsL195_2.B x := by kernel_rfl
theorem rL195_0 (x : lsL195_0.hd.T) : kRound env (GofL [(141, [gF141])]) (LofL [(195, [(2, lsL195_2), (0, lsL195_0)])]) 195 0 (lpOf Tryz.prog 195 0).2 (lsL195_0.hd.st x) lsL195_0.rd = lsL195_0.B x := by kernel_rfl
theorem eF195 (x : gF195.a.T) : kF env (GofL [(141, [gF141])]) (LofL [(195, [(2, lsL195_2), (0, lsL195_0)])]) 195 (gF195.args x) (gF195.bs x) gF195.r.dec = gF195.F x := by kernel_rfl
theorem sF195 : SpecAt env 5 195 gF195 := mkSpec (r := 4) (gl := [(141, [gF141])]) (L0 := [(2, lsL195_2), (0, lsL195_0)]) (by kernel_rfl) ⟨⟨sF141.up (by decide), trivial⟩, trivial⟩ ⟨⟨1, by kernel_rfl, by kernel_rfl, rL195_2⟩, ⟨0, by kernel_rfl, by kernel_rfl, rL195_0⟩, trivial⟩ eF195 (fun h => absurd h (by rw [show env.nl 195 = false by kernel_rfl]; decide))
def B176_0 (a0 : (List ((ByteArray × (ByteArray × Int)) × (Int × Int)))) (a1 : Int) (a2 : Int) (a3 : Int) (a4 : Bool) (a5 : Bool) : Option (((List ((ByteArray × (ByteArray × Int)) × (Int × Int))) × (Int × (Int × (Int × (Bool × Bool))))) ⊕ (List ((ByteArray × (ByteArray × Int)) × (Int × Int)))) :=
  sel (iLe (iSub .i64 a2 a1) 12)
    (bndS (F195 a0 a1 a2) fun y0 =>
    some (.inr y0))
    (sel (iEq a3 0)
      (none)
      (sel (bNot a4) (
      none) none))
def L176_0 (x : ((List ((ByteArray × (ByteArray × Int)) × (Int × Int))) × (Int × (Int × (Int × (Bool × Bool)))))) : Option (List ((ByteArray × (ByteArray × Int)) × (Int × Int))) := iter (fun (x : ((List ((ByteArray × (ByteArray × Int)) × (Int × Int))) × (Int × (Int × (Int × (Bool × Bool)))))) => (B176_0 x.1 x.2.1 x.2.2.1 x.2.2.2.1 x.2.2.2.2.1 x.2.2.2.2.2)) fuel x
def lsL176_0 : LS := ⟨(.one .normal ⟨(.own 0 (.pr (.pr .str (.pr .str (.int .i64))) (.pr (.int .i64) (.int .i64)))), [0, 1, 2, 3, 4, 10, 11], (.seq (.alo 0) (.seq (.dat (.int .i64)) (.seq (.dat (.int .i64)) (.seq (.dat (.int .i64)) (.seq (.fn 141 .non) (.seq (.dat .bool) (.dat .bool))))))), 1, 148, 1⟩), (.one .ret ⟨(.own 0 (.pr (.pr .str (.pr .str (.int .i64))) (.pr (.int .i64) (.int .i64)))), [], .non, 1, 148, 1⟩), fun (x : ((List ((ByteArray × (ByteArray × Int)) × (Int × Int))) × (Int × (Int × (Int × (Bool × Bool)))))) => (B176_0 x.1 x.2.1 x.2.2.1 x.2.2.2.1 x.2.2.2.2.1 x.2.2.2.2.2)⟩
/-- slices.pdqsortCmpFunc[api.DirectoryEntry] -/
def F176 (a0 : (List ((ByteArray × (ByteArray × Int)) × (Int × Int)))) (a1 : Int) (a2 : Int) (a3 : Int) : Option (List ((ByteArray × (ByteArray × Int)) × (Int × Int))) :=
  bndS (L176_0 (a0, (a1, (a2, (a3, (true, true)))))) fun y0 =>
  some y0
def gF176 : FS := ⟨(.seq (.own 0 (.pr (.pr .str (.pr .str (.int .i64))) (.pr (.int .i64) (.int .i64)))) (.seq (.dat (.int .i64)) (.seq (.dat (.int .i64)) (.seq (.dat (.int .i64)) (.fn 141 .non))))), 1, (.one ⟨(.own 0 (.pr (.pr .str (.pr .str (.int .i64))) (.pr (.int .i64) (.int .i64)))), (.tup .non), 1, 0⟩), fun x => (F176 x.1 x.2.1 x.2.2.1 x.2.2.2)⟩
theorem rL176_0 (x : lsL176_0.hd.T) : kRound env (GofL [(195, [gF195])]) (LofL [(176, [(0, lsL176_0)])]) 176 0 (lpOf Tryz.prog 176 0).2 (lsL176_0.hd.st x) lsL176_0.rd = lsL176_0.B x := by kernel_rfl
theorem eF176 (x : gF176.a.T) : kF env (GofL [(195, [gF195])]) (LofL [(176, [(0, lsL176_0)])]) 176 (gF176.args x) (gF176.bs x) gF176.r.dec = gF176.F x := by kernel_rfl
theorem sF176 : SpecAt env 6 176 gF176 := mkSpec (r := 5) (gl := [(195, [gF195])]) (L0 := [(0, lsL176_0)]) (by kernel_rfl) ⟨⟨sF195.up (by decide), trivial⟩, trivial⟩ ⟨⟨0, by kernel_rfl, by kernel_rfl, rL176_0⟩, trivial⟩ eF176 (fun h => absurd h (by rw [show env.nl 176 = false by kernel_rfl]; decide))
/-- slices.SortFunc[[]api.DirectoryEntry,api.DirectoryEntry] -/
def F140 (a0 : (List ((ByteArray × (ByteArray × Int)) × (Int × Int)))) : Option (List ((ByteArray × (ByteArray × Int)) × (Int × Int))) :=
  bndS (F126 (iCv .u64 (lLen a0))) fun y0 =>
  bndS (F176 a0 0 (lLen a0) y0) fun y1 =>
  some y1
def gF140 : FS := ⟨(.seq (.own 0 (.pr (.pr .str (.pr .str (.int .i64))) (.pr (.int .i64) (.int .i64)))) (.fn 141 .non)), 1, (.one ⟨(.own 0 (.pr (.pr .str (.pr .str (.int .i64))) (.pr (.int .i64) (.int .i64)))), (.tup .non), 1, 0⟩), fun x => (F140 x)⟩
theorem eF140 (x : gF140.a.T) : kF env (GofL [(176, [gF176]), (126, [gF126])]) (LofL [(140, [])]) 140 (gF140.args x) (gF140.bs x) gF140.r.dec = gF140.F x := by kernel_rfl
theorem sF140 : SpecAt env 7 140 gF140 := mkSpec (r := 6) (gl := [(176, [gF176]), (126, [gF126])]) (L0 := []) (by kernel_rfl) ⟨⟨sF176.up (by decide), trivial⟩, ⟨sF126.up (by decide), trivial⟩, trivial⟩ trivial eF140 (fun h => absurd h (by rw [show env.nl 140 = false by kernel_rfl]; decide))
/-- ipl.enter -/
def F85 (a0 : (List (Int × ByteArray))) (a1 : Int) (a2 : (List ((ByteArray × (ByteArray × Int)) × (Int × Int)))) (a3 : (List (Int × Int))) (a4 : ((ByteArray × (ByteArray × Int)) × (Int × Int))) : Option ((List (Int × ByteArray)) × (Int × ((List ((ByteArray × (ByteArray × Int)) × (Int × Int))) × (List (Int × Int))))) :=
  sel (lCap 56 (lApp a2 [a4])) (
  bndS (F140 (lApp a2 [a4])) fun y0 =>
  some (a0, (a1, (y0, a3)))) none
def gF85 : FS := ⟨(.seq (.box 0 (.seq (.own 1 (.pr (.int .i64) .str)) (.seq (.dat (.int .i64)) (.seq (.own 2 (.pr (.pr .str (.pr .str (.int .i64))) (.pr (.int .i64) (.int .i64)))) (.own 3 (.pr (.int .i64) (.int .i64))))))) (.agg (.dat (.pr (.pr .str (.pr .str (.int .i64))) (.pr (.int .i64) (.int .i64)))))), 4, (.one ⟨(.box 0 (.seq (.own 1 (.pr (.int .i64) .str)) (.seq (.dat (.int .i64)) (.seq (.own 4 (.pr (.pr .str (.pr .str (.int .i64))) (.pr (.int .i64) (.int .i64)))) (.own 3 (.pr (.int .i64) (.int .i64))))))), (.tup .non), 4, 1⟩), fun x => (F85 x.1.1 x.1.2.1 x.1.2.2.1 x.1.2.2.2 x.2)⟩
theorem eF85 (x : gF85.a.T) : kF env (GofL [(140, [gF140])]) (LofL [(85, [])]) 85 (gF85.args x) (gF85.bs x) gF85.r.dec = gF85.F x := by kernel_rfl
theorem sF85 : SpecAt env 8 85 gF85 := mkSpec (r := 7) (gl := [(140, [gF140])]) (L0 := []) (by kernel_rfl) ⟨⟨sF140.up (by decide), trivial⟩, trivial⟩ trivial eF85 (fun h => absurd h (by rw [show env.nl 85 = false by kernel_rfl]; decide))
/-- ipl.CreateObject -/
def F37 (a0 : (((List (Int × ByteArray)) × Int) × ((List ((ByteArray × (ByteArray × Int)) × (Int × Int))) × (List (Int × Int))))) (a1 : (ByteArray × (ByteArray × Int))) (a2 : Int) : Option (((List (Int × ByteArray)) × (Int × ((List ((ByteArray × (ByteArray × Int)) × (Int × Int))) × (List (Int × Int))))) × (Int × Int)) :=
  bndS (F81 a0 a1) fun y0 =>
  sel (bNot (iEq y0 0))
    (some ((([] : List (Int × ByteArray)), (0, (([] : List ((ByteArray × (ByteArray × Int)) × (Int × Int))), ([] : List (Int × Int))))), (0, y0)))
    (bndS (F82 a0 a1) fun y1 =>
    sel (iLe 0 y1)
      (some ((([] : List (Int × ByteArray)), (0, (([] : List ((ByteArray × (ByteArray × Int)) × (Int × Int))), ([] : List (Int × Int))))), (0, 12)))
      (sel (iEq (lLen a0.2.1) 12)
        (some ((([] : List (Int × ByteArray)), (0, (([] : List ((ByteArray × (ByteArray × Int)) × (Int × Int))), ([] : List (Int × Int))))), (0, 2)))
        (bndS (F83 a0.1 a2) fun y2 =>
        sel (bNot (iEq y2.2.2 0))
          (some ((([] : List (Int × ByteArray)), (0, (([] : List ((ByteArray × (ByteArray × Int)) × (Int × Int))), ([] : List (Int × Int))))), (0, y2.2.2)))
          (bndS (F69 a0) fun y3 =>
          bndS (F79 a1 a2) fun y4 =>
          bndS (F84 y2.1 (y2.2.1, 0) y4) fun y5 =>
          bndS (F85 y5.1.1 y5.1.2 y3.2.2.1 y3.2.2.2 (a1, (y2.2.1, 0))) fun y6 =>
          some (y6, (y2.2.1, 0))))))
def gF37 : FS := ⟨(.seq (.agg (.dat (.pr (.pr (.sl (.pr (.int .i64) .str)) (.int .i64)) (.pr (.sl (.pr (.pr .str (.pr .str (.int .i64))) (.pr (.int .i64) (.int .i64)))) (.sl (.pr (.int .i64) (.int .i64))))))) (.seq (.agg (.dat (.pr .str (.pr .str (.int .i64))))) (.dat (.int .i64)))), 0, (.one ⟨.non, (.tup (.seq (.agg (.seq (.own 0 (.pr (.int .i64) .str)) (.seq (.dat (.int .i64)) (.seq (.own 1 (.pr (.pr .str (.pr .str (.int .i64))) (.pr (.int .i64) (.int .i64)))) (.own 2 (.pr (.int .i64) (.int .i64))))))) (.seq (.dat (.int .i64)) (.dat (.int .i64))))), 0, 3⟩), fun x => (F37 x.1 x.2.1 x.2.2)⟩
theorem eF37 (x : gF37.a.T) : kF env (GofL [(85, [gF85]), (84, [gF84]), (79, [gF79]), (69, [gF69]), (83, [gF83]), (82, [gF82]), (81, [gF81])]) (LofL [(37, [])]) 37 (gF37.args x) (gF37.bs x) gF37.r.dec = gF37.F x := by kernel_rfl
theorem sF37 : SpecAt env 9 37 gF37 := mkSpec (r := 8) (gl := [(85, [gF85]), (84, [gF84]), (79, [gF79]), (69, [gF69]), (83, [gF83]), (82, [gF82]), (81, [gF81])]) (L0 := []) (by kernel_rfl) ⟨⟨sF85.up (by decide), trivial⟩, ⟨sF84.up (by decide), trivial⟩, ⟨sF79.up (by decide), trivial⟩, ⟨sF69.up (by decide), trivial⟩, ⟨sF83.up (by decide), trivial⟩, ⟨sF82.up (by decide), trivial⟩, ⟨sF81.up (by decide), trivial⟩, trivial⟩ trivial eF37 (fun h => absurd h (by rw [show env.nl 37 = false by kernel_rfl]; decide))
def B22_2 (a0 : (List (Int × ByteArray))) (a1 : Int) (a2 : (List ((ByteArray × (ByteArray × Int)) × (Int × Int)))) (a3 : (List (Int × Int))) (a4 : Int) (a5 : (List (Int × ByteArray))) (a6 : Int) (a7 : (List ((ByteArray × (ByteArray × Int)) × (Int × Int)))) (a8 : (List (Int × Int))) (a9 : Int) (a10 : Int) (a11 : (List (Int × Int))) (a12 : Int) (a13 : Int) (a14 : Int) (a15 : Int) : Option ((((List (Int × ByteArray)) × (Int × ((List ((ByteArray × (ByteArray × Int)) × (Int × Int))) × (List (Int × Int))))) × (Int × (((List (Int × ByteArray)) × (Int × ((List ((ByteArray × (ByteArray × Int)) × (Int × Int))) × (List (Int × Int))))) × ((Int × Int) × ((List (Int × Int)) × (Int × (Int × (Int × Int)))))))) ⊕ (((List (Int × ByteArray)) × (Int × ((List ((ByteArray × (ByteArray × Int)) × (Int × Int))) × (List (Int × Int))))) × (Int × (((List (Int × ByteArray)) × (Int × ((List ((ByteArray × (ByteArray × Int)) × (Int × Int))) × (List (Int × Int))))) × ((Int × Int) × ((List (Int × Int)) × (Int × Int))))))) :=
  sel (iLt a15 a14)
    (sel (oIn a15 (lLen a5)) (
    sel (iEq (lAt a5 a15).1 a9)
      (sel (oCut 0 (iMul .i64 a10 32) (sLen (lAt a5 a15).2)) (
      bndS (FRepeat (bs [0]) 32) fun y0 =>
      sel (sOk (sCut (lAt a5 a15).2 0 (iMul .i64 a10 32)) y0) (
      sel (oCut (iAdd .i64 (iMul .i64 a10 32) 32) (sLen (lAt a5 a15).2) (sLen (lAt a5 a15).2)) (
      sel (sOk (sAdd (sCut (lAt a5 a15).2 0 (iMul .i64 a10 32)) y0) (sCut (lAt a5 a15).2 (iAdd .i64 (iMul .i64 a10 32) 32) (sLen (lAt a5 a15).2))) (
      some (.inl ((a0, (a1, (a2, a3))), (a4, (((lSet a5 a15 ((lAt a5 a15).1, (sAdd (sAdd (sCut (lAt a5 a15).2 0 (iMul .i64 a10 32)) y0) (sCut (lAt a5 a15).2 (iAdd .i64 (iMul .i64 a10 32) 32) (sLen (lAt a5 a15).2))))), (a6, (a7, a8))), ((a9, a10), (a11, (a12, (a13, (a14, (iAdd .i64 a15 1))))))))))) none) none) none) none)
      (some (.inl ((a0, (a1, (a2, a3))), (a4, ((a5, (a6, (a7, a8))), ((a9, a10), (a11, (a12, (a13, (a14, (iAdd .i64 a15 1)))))))))))) none)
    (some (.inr ((a0, (a1, (a2, a3))), (a4, ((a5, (a6, (a7, a8))), ((a9, a10), (a11, (a12, a13))))))))
def L22_2 (x : (((List (Int × ByteArray)) × (Int × ((List ((ByteArray × (ByteArray × Int)) × (Int × Int))) × (List (Int × Int))))) × (Int × (((List (Int × ByteArray)) × (Int × ((List ((ByteArray × (ByteArray × Int)) × (Int × Int))) × (List (Int × Int))))) × ((Int × Int) × ((List (Int × Int)) × (Int × (Int × (Int × Int))))))))) : Option (((List (Int × ByteArray)) × (Int × ((List ((ByteArray × (ByteArray × Int)) × (Int × Int))) × (List (Int × Int))))) × (Int × (((List (Int × ByteArray)) × (Int × ((List ((ByteArray × (ByteArray × Int)) × (Int × Int))) × (List (Int × Int))))) × ((Int × Int) × ((List (Int × Int)) × (Int × Int)))))) := iter (fun (x : (((List (Int × ByteArray)) × (Int × ((List ((ByteArray × (ByteArray × Int)) × (Int × Int))) × (List (Int × Int))))) × (Int × (((List (Int × ByteArray)) × (Int × ((List ((ByteArray × (ByteArray × Int)) × (Int × Int))) × (List (Int × Int))))) × ((Int × Int) × ((List (Int × Int)) × (Int × (Int × (Int × Int))))))))) => (B22_2 x.1.1 x.1.2.1 x.1.2.2.1 x.1.2.2.2 x.2.1 x.2.2.1.1 x.2.2.1.2.1 x.2.2.1.2.2.1 x.2.2.1.2.2.2 x.2.2.2.1.1 x.2.2.2.1.2 x.2.2.2.2.1 x.2.2.2.2.2.1 x.2.2.2.2.2.2.1 x.2.2.2.2.2.2.2.1 x.2.2.2.2.2.2.2.2)) fuel x
def lsL22_2 : LS := ⟨(.one .normal ⟨.non, [2, 4, 8, 10, 29, 30, 31, 44, 45], (.seq (.box 0 (.seq (.dat (.sl (.pr (.int .i64) .str))) (.seq (.dat (.int .i64)) (.seq (.dat (.sl (.pr (.pr .str (.pr .str (.int .i64))) (.pr (.int .i64) (.int .i64))))) (.dat (.sl (.pr (.int .i64) (.int .i64)))))))) (.seq (.box 1 (.seq (.lit (.slice none 0 0)) (.seq (.dat (.int .i64)) (.seq (.lit (.slice none 0 0)) (.lit (.slice none 0 0)))))) (.seq (.box 2 (.seq (.own 3 (.pr (.int .i64) .str)) (.seq (.dat (.int .i64)) (.seq (.own 4 (.pr (.pr .str (.pr .str (.int .i64))) (.pr (.int .i64) (.int .i64)))) (.own 5 (.pr (.int .i64) (.int .i64))))))) (.seq (.box 6 (.seq (.dat (.int .i64)) (.dat (.int .i64)))) (.seq (.dat (.sl (.pr (.int .i64) (.int .i64)))) (.seq (.dat (.int .i64)) (.seq (.dat (.int .i64)) (.seq (.dat (.int .i64)) (.dat (.int .i64)))))))))), 7, 98, 0⟩), (.one (.exit 2) ⟨.non, [2, 4, 8, 10, 29, 30, 31], (.seq (.box 0 (.seq (.dat (.sl (.pr (.int .i64) .str))) (.seq (.dat (.int .i64)) (.seq (.dat (.sl (.pr (.pr .str (.pr .str (.int .i64))) (.pr (.int .i64) (.int .i64))))) (.dat (.sl (.pr (.int .i64) (.int .i64)))))))) (.seq (.box 1 (.seq (.lit (.slice none 0 0)) (.seq (.dat (.int .i64)) (.seq (.lit (.slice none 0 0)) (.lit (.slice none 0 0)))))) (.seq (.box 2 (.seq (.own 3 (.pr (.int .i64) .str)) (.seq (.dat (.int .i64)) (.seq (.own 4 (.pr (.pr .str (.pr .str (.int .i64))) (.pr (.int .i64) (.int .i64)))) (.own 5 (.pr (.int .i64) (.int .i64))))))) (.seq (.box 6 (.seq (.dat (.int .i64)) (.dat (.int .i64)))) (.seq (.dat (.sl (.pr (.int .i64) (.int .i64)))) (.seq (.dat (.int .i64)) (.dat (.int .i64)))))))), 7, 98, 0⟩), fun (x : (((List (Int × ByteArray)) × (Int × ((List ((ByteArray × (ByteArray × Int)) × (Int × Int))) × (List (Int × Int))))) × (Int × (((List (Int × ByteArray)) × (Int × ((List ((ByteArray × (ByteArray × Int)) × (Int × Int))) × (List (Int × Int))))) × ((Int × Int) × ((List (Int × Int)) × (Int × (Int × (Int × Int))))))))) => (B22_2 x.1.1 x.1.2.1 x.1.2.2.1 x.1.2.2.2 x.2.1 x.2.2.1.1 x.2.2.1.2.1 x.2.2.1.2.2.1 x.2.2.1.2.2.2 x.2.2.2.1.1 x.2.2.2.1.2 x.2.2.2.2.1 x.2.2.2.2.2.1 x.2.2.2.2.2.2.1 x.2.2.2.2.2.2.2.1 x.2.2.2.2.2.2.2.2)⟩
def B22_0 (a0 : (List (Int × ByteArray))) (a1 : Int) (a2 : (List ((ByteArray × (ByteArray × Int)) × (Int × Int)))) (a3 : (List (Int × Int))) (a4 : Int) (a5 : (List (Int × ByteArray))) (a6 : Int) (a7 : (List ((ByteArray × (ByteArray × Int)) × (Int × Int)))) (a8 : (List (Int × Int))) (a9 : (List (Int × Int))) (a10 : Int) (a11 : Int) : Option ((((List (Int × ByteArray)) × (Int × ((List ((ByteArray × (ByteArray × Int)) × (Int × Int))) × (List (Int × Int))))) × (Int × (((List (Int × ByteArray)) × (Int × ((List ((ByteArray × (ByteArray × Int)) × (Int × Int))) × (List (Int × Int))))) × ((List (Int × Int)) × (Int × Int))))) ⊕ ((Int × ((List (Int × ByteArray)) × (Int × ((List ((ByteArray × (ByteArray × Int)) × (Int × Int))) × (List (Int × Int)))))) ⊕ (Int × Int))) :=
  sel (iLt a11 a10)
    (sel (oIn a11 (lLen a9)) (
    bndS (F62 (a0, a1) (lAt a9 a11)) fun y0 =>
    sel (bNot y0)
      (some (.inr (.inr (0, 11))))
      (bndS (L22_2 ((a0, (a1, (a2, a3))), (a4, ((a5, (a6, (a7, a8))), ((lAt a9 a11), (a9, (a10, (a11, ((lLen a5), 0))))))))) fun y1 =>
      sel (lCap 16 (lApp y1.2.2.1.2.2.2 [y1.2.2.2.1])) (
      some (.inl (y1.1, (y1.2.1, ((y1.2.2.1.1, (y1.2.2.1.2.1, (y1.2.2.1.2.2.1, (lApp y1.2.2.1.2.2.2 [y1.2.2.2.1])))), (y1.2.2.2.2.1, (y1.2.2.2.2.2.1, (iAdd .i64 y1.2.2.2.2.2.2 1)))))))) none)) none)
    (some (.inr (.inl (a4, (a5, (a6, (a7, a8)))))))
def L22_0 (x : (((List (Int × ByteArray)) × (Int × ((List ((ByteArray × (ByteArray × Int)) × (Int × Int))) × (List (Int × Int))))) × (Int × (((List (Int × ByteArray)) × (Int × ((List ((ByteArray × (ByteArray × Int)) × (Int × Int))) × (List (Int × Int))))) × ((List (Int × Int)) × (Int × Int)))))) : Option ((Int × ((List (Int × ByteArray)) × (Int × ((List ((ByteArray × (ByteArray × Int)) × (Int × Int))) × (List (Int × Int)))))) ⊕ (Int × Int)) := iter (fun (x : (((List (Int × ByteArray)) × (Int × ((List ((ByteArray × (ByteArray × Int)) × (Int × Int))) × (List (Int × Int))))) × (Int × (((List (Int × ByteArray)) × (Int × ((List ((ByteArray × (ByteArray × Int)) × (Int × Int))) × (List (Int × Int))))) × ((List (Int × Int)) × (Int × Int)))))) => (B22_0 x.1.1 x.1.2.1 x.1.2.2.1 x.1.2.2.2 x.2.1 x.2.2.1.1 x.2.2.1.2.1 x.2.2.1.2.2.1 x.2.2.1.2.2.2 x.2.2.2.1 x.2.2.2.2.1 x.2.2.2.2.2)) fuel x
def lsL22_0 : LS := ⟨(.one .normal ⟨.non, [2, 4, 8, 29, 30, 31], (.seq (.box 0 (.seq (.dat (.sl (.pr (.int .i64) .str))) (.seq (.dat (.int .i64)) (.seq (.dat (.sl (.pr (.pr .str (.pr .str (.int .i64))) (.pr (.int .i64) (.int .i64))))) (.dat (.sl (.pr (.int .i64) (.int .i64)))))))) (.seq (.box 1 (.seq (.lit (.slice none 0 0)) (.seq (.dat (.int .i64)) (.seq (.lit (.slice none 0 0)) (.lit (.slice none 0 0)))))) (.seq (.box 2 (.seq (.own 3 (.pr (.int .i64) .str)) (.seq (.dat (.int .i64)) (.seq (.own 4 (.pr (.pr .str (.pr .str (.int .i64))) (.pr (.int .i64) (.int .i64)))) (.own 5 (.pr (.int .i64) (.int .i64))))))) (.seq (.dat (.sl (.pr (.int .i64) (.int .i64)))) (.seq (.dat (.int .i64)) (.dat (.int .i64))))))), 6, 98, 0⟩), (.two (.one (.exit 0) ⟨.non, [4, 8], (.seq (.box 0 (.seq (.lit (.slice none 0 0)) (.seq (.dat (.int .i64)) (.seq (.lit (.slice none 0 0)) (.lit (.slice none 0 0)))))) (.box 1 (.seq (.own 2 (.pr (.int .i64) .str)) (.seq (.dat (.int .i64)) (.seq (.own 3 (.pr (.pr .str (.pr .str (.int .i64))) (.pr (.int .i64) (.int .i64)))) (.own 4 (.pr (.int .i64) (.int .i64)))))))), 5, 98, 0⟩) (.one .ret ⟨.non, [4, 5], (.seq (.box 0 (.seq (.lit (.slice none 0 0)) (.seq (.dat (.int .i64)) (.seq (.lit (.slice none 0 0)) (.lit (.slice none 0 0)))))) (.dat (.int .i64))), 1, 98, 0⟩)), fun (x : (((List (Int × ByteArray)) × (Int × ((List ((ByteArray × (ByteArray × Int)) × (Int × Int))) × (List (Int × Int))))) × (Int × (((List (Int × ByteArray)) × (Int × ((List ((ByteArray × (ByteArray × Int)) × (Int × Int))) × (List (Int × Int))))) × ((List (Int × Int)) × (Int × Int)))))) => (B22_0 x.1.1 x.1.2.1 x.1.2.2.1 x.1.2.2.2 x.2.1 x.2.2.1.1 x.2.2.1.2.1 x.2.2.1.2.2.1 x.2.2.1.2.2.2 x.2.2.2.1 x.2.2.2.2.1 x.2.2.2.2.2)⟩
def B166_2 (a0 : (List (Int × Int))) (a1 : Int) (a2 : Int) (a3 : Int) (a4 : Int) : Option (((List (Int × Int)) × (Int × (Int × (Int × Int)))) ⊕ ((List (Int × Int)) × (Int × (Int × Int)))) :=
  sel (bOr (oIn a4 (lLen a0)) (bNot (iLt a1 a4))) (
  sel (bOr (oIn (iSub .i64 a4 1) (lLen a0)) (bNot (iLt a1 a4))) (
  sel (bOr (okS (F63 (lAt a0 a4) (lAt a0 (iSub .i64 a4 1)))) (bNot (iLt a1 a4))) (
  letS (valS (F63 (lAt a0 a4) (lAt a0 (iSub .i64 a4 1))) 0) fun y0 =>
  sel (bAnd (iLt a1 a4) (iLt y0 0))
    (sel (oIn (iSub .i64 a4 1) (lLen a0)) (
    sel (oIn a4 (lLen a0)) (
    sel (oIn a4 (lLen a0)) (
    sel (oIn (iSub .i64 a4 1) (lLen (lSet a0 a4 (lAt a0 (iSub .i64 a4 1))))) (
    some (.inl ((lSet (lSet a0 a4 (lAt a0 (iSub .i64 a4 1))) (iSub .i64 a4 1) (lAt a0 a4)), (a1, (a2, (a3, (iSub .i64 a4 1))))))) none) none) none) none)
    (some (.inr (a0, (a1, (a2, a3)))))) none) none) none
def L166_2 (x : ((List (Int × Int)) × (Int × (Int × (Int × Int))))) : Option ((List (Int × Int)) × (Int × (Int × Int))) := iter (fun (x : ((List (Int × Int)) × (Int × (Int × (Int × Int))))) => (B166_2 x.1 x.2.1 x.2.2.1 x.2.2.2.1 x.2.2.2.2)) fuel x
def lsL166_2 : LS := ⟨(.one .normal ⟨(.own 0 (.pr (.int .i64) (.int .i64))), [0, 1, 2, 3, 8, 9], (.seq (.alo 0) (.seq (.dat (.int .i64)) (.seq (.dat (.int .i64)) (.seq (.fn 63 .non) (.seq (.dat (.int .i64)) (.dat (.int .i64))))))), 1, 53, 1⟩), (.one (.exit 2) ⟨(.own 0 (.pr (.int .i64) (.int .i64))), [0, 1, 2, 3, 8], (.seq (.alo 0) (.seq (.dat (.int .i64)) (.seq (.dat (.int .i64)) (.seq (.fn 63 .non) (.dat (.int .i64)))))), 1, 53, 1⟩), fun (x : ((List (Int × Int)) × (Int × (Int × (Int × Int))))) => (B166_2 x.1 x.2.1 x.2.2.1 x.2.2.2.1 x.2.2.2.2)⟩
def B166_0 (a0 : (List (Int × Int))) (a1 : Int) (a2 : Int) (a3 : Int) : Option (((List (Int × Int)) × (Int × (Int × Int))) ⊕ (List (Int × Int))) :=
  sel (iLt a3 a2)
    (bndS (L166_2 (a0, (a1, (a2, (a3, a3))))) fun y0 =>
    some (.inl (y0.1, (y0.2.1, (y0.2.2.1, (iAdd .i64 y0.2.2.2 1))))))
    (some (.inr a0))
def L166_0 (x : ((List (Int × Int)) × (Int × (Int × Int)))) : Option (List (Int × Int)) := iter (fun (x : ((List (Int × Int)) × (Int × (Int × Int)))) => (B166_0 x.1 x.2.1 x.2.2.1 x.2.2.2)) fuel x
def lsL166_0 : LS := ⟨(.one .normal ⟨(.own 0 (.pr (.int .i64) (.int .i64))), [0, 1, 2, 3, 8], (.seq (.alo 0) (.seq (.dat (.int .i64)) (.seq (.dat (.int .i64)) (.seq (.fn 63 .non) (.dat (.int .i64)))))), 1, 53, 1⟩), (.one (.exit 0) ⟨(.own 0 (.pr (.int .i64) (.int .i64))), [], .non, 1, 53, 1⟩), fun (x : ((List (Int × Int)) × (Int × (Int × Int)))) => (B166_0 x.1 x.2.1 x.2.2.1 x.2.2.2)⟩
/-- slices.insertionSortCmpFunc[api.LostPage] -/
def F166 (a0 : (List (Int × Int))) (a1 : Int) (a2 : Int) : Option (List (Int × Int)) :=
  bndS (L166_0 (a0, (a1, (a2, (iAdd .i64 a1 1))))) fun y0 =>
  some y0
def gF166 : FS := ⟨(.seq (.own 0 (.pr (.int .i64) (.int .i64))) (.seq (.dat (.int .i64)) (.seq (.dat (.int .i64)) (.fn 63 .non)))), 1, (.one ⟨(.own 0 (.pr (.int .i64) (.int .i64))), (.tup .non), 1, 0⟩), fun x => (F166 x.1 x.2.1 x.2.2)⟩
theorem rL166_2 (x : lsL166_2.hd.T) : kRound env (GofL [(63, [gF63])]) (LofL [(166, [(2, lsL166_2), (0, lsL166_0)])]) 166 2 (lpOf Tryz.prog 166 1).2 (lsL166_2.hd.st x) lsL166_2.rd = lsL166_2.B x := by kernel_rfl
theorem rL166_0 (x : lsL166_0.hd.T) : kRound env (GofL [(63, [gF63])]) (LofL [(166, [(2, lsL166_2), (0, lsL166_0)])]) 166 0 (lpOf Tryz.prog 166 0).2 (lsL166_0.hd.st x) lsL166_0.rd = lsL166_0.B x := by kernel_rfl
theorem eF166 (x : gF166.a.T) : kF env (GofL [(63, [gF63])]) (LofL [(166, [(2, lsL166_2), (0, lsL166_0)])]) 166 (gF166.args x) (gF166.bs x) gF166.r.dec = gF166.F x := by kernel_rfl
theorem sF166 : SpecAt env 4 166 gF166 := mkSpec (r := 3) (gl := [(63, [gF63])]) (L0 := [(2, lsL166_2), (0, lsL166_0)]) (by kernel_rfl) ⟨⟨sF63.up (by decide), trivial⟩, trivial⟩ ⟨⟨1, by kernel_rfl, by kernel_rfl, rL166_2⟩, ⟨0, by kernel_rfl, by kernel_rfl, rL166_0⟩, trivial⟩ eF166 (fun h => absurd h (by rw [show env.nl 166 = false by kernel_rfl]; decide))
end
end Go.Proofs.YtiddpfhpmodfbaaGreatDoor.K
end

section
set_option linter.unusedVariables false
set_option linter.unusedSimpArgs false
set_option linter.unnecessarySimpa false
open Go Go.Ev Go.Proofs
namespace Go.Proofs.YtiddpfhpmodfbaaGreatDoor.K
set_option linter.unusedVariables false
set_option maxRecDepth 100000
noncomputable section
def B125_0 (a0 : (List (Int × Int))) (a1 : Int) (a2 : Int) (a3 : Int) (a4 : Bool) (a5 : Bool) : Option (((List (Int × Int)) × (Int × (Int × (Int × (Bool × Bool))))) ⊕ (List (Int × Int))) :=
  sel (iLe (iSub .i64 a2 a1) 12)
    (bndS (F166 a0 a1 a2) fun y0 =>
    some (.inr y0))
    (sel (iEq a3 0)
      (none)
      (sel (bNot a4) (
      none) none))
def L125_0 (x : ((List (Int × Int)) × (Int × (Int × (Int × (Bool × Bool)))))) : Option (List (Int × Int)) := iter (fun (x : ((List (Int × Int)) × (Int × (Int × (Int × (Bool × Bool)))))) => (B125_0 x.1 x.2.1 x.2.2.1 x.2.2.2.1 x.2.2.2.2.1 x.2.2.2.2.2)) fuel x
def lsL125_0 : LS := ⟨(.one .normal ⟨(.own 0 (.pr (.int .i64) (.int .i64))), [0, 1, 2, 3, 4, 10, 11], (.seq (.alo 0) (.seq (.dat (.int .i64)) (.seq (.dat (.int .i64)) (.seq (.dat (.int .i64)) (.seq (.fn 63 .non) (.seq (.dat .bool) (.dat .bool))))))), 1, 148, 1⟩), (.one .ret ⟨(.own 0 (.pr (.int .i64) (.int .i64))), [], .non, 1, 148, 1⟩), fun (x : ((List (Int × Int)) × (Int × (Int × (Int × (Bool × Bool)))))) => (B125_0 x.1 x.2.1 x.2.2.1 x.2.2.2.1 x.2.2.2.2.1 x.2.2.2.2.2)⟩
/-- slices.pdqsortCmpFunc[api.LostPage] -/
def F125 (a0 : (List (Int × Int))) (a1 : Int) (a2 : Int) (a3 : Int) : Option (List (Int × Int)) :=
  bndS (L125_0 (a0, (a1, (a2, (a3, (true, true)))))) fun y0 =>
  some y0
def gF125 : FS := ⟨(.seq (.own 0 (.pr (.int .i64) (.int .i64))) (.seq (.dat (.int .i64)) (.seq (.dat (.int .i64)) (.seq (.dat (.int .i64)) (.fn 63 .non))))), 1, (.one ⟨(.own 0 (.pr (.int .i64) (.int .i64))), (.tup .non), 1, 0⟩), fun x => (F125 x.1 x.2.1 x.2.2.1 x.2.2.2)⟩
theorem rL125_0 (x : lsL125_0.hd.T) : kRound env (GofL [(166, [gF166])]) (LofL [(125, [(0, lsL125_0)])]) 125 0 (lpOf Tryz.prog 125 0).2 (lsL125_0.hd.st x) lsL125_0.rd = lsL125_0.B x := by kernel_rfl
theorem eF125 (x : gF125.a.T) : kF env (GofL [(166, [gF166])]) (LofL [(125, [(0, lsL125_0)])]) 125 (gF125.args x) (gF125.bs x) gF125.r.dec = gF125.F x := by kernel_rfl
theorem sF125 : SpecAt env 5 125 gF125 := mkSpec (r := 4) (gl := [(166, [gF166])]) (L0 := [(0, lsL125_0)]) (by kernel_rfl) ⟨⟨sF166.up (by decide), trivial⟩, trivial⟩ ⟨⟨0, by kernel_rfl, by kernel_rfl, rL125_0⟩, trivial⟩ eF125 (fun h => absurd h (by rw [show env.nl 125 = false by kernel_rfl]; decide))
/-- slices.SortFunc[[]api.LostPage,api.LostPage] -/
def F71 (a0 : (List (Int × Int))) : Option (List (Int × Int)) :=
  bndS (F126 (iCv .u64 (lLen a0))) fun y0 =>
  bndS (F125 a0 0 (lLen a0) y0) fun y1 =>
  some y1
def gF71 : FS := ⟨(.seq (.own 0 (.pr (.int .i64) (.int .i64))) (.fn 63 .non)), 1, (.one ⟨(.own 0 (.pr (.int .i64) (.int .i64))), (.tup .non), 1, 0⟩), fun x => (F71 x)⟩
theorem eF71 (x : gF71.a.T) : kF env (GofL [(125, [gF125]), (126, [gF126])]) (LofL [(71, [])]) 71 (gF71.args x) (gF71.bs x) gF71.r.dec = gF71.F x := by kernel_rfl
theorem sF71 : SpecAt env 6 71 gF71 := mkSpec (r := 5) (gl := [(125, [gF125]), (126, [gF126])]) (L0 := []) (by kernel_rfl) ⟨⟨sF125.up (by decide), trivial⟩, ⟨sF126.up (by decide), trivial⟩, trivial⟩ trivial eF71 (fun h => absurd h (by rw [show env.nl 71 = false by kernel_rfl]; decide))
def B72_0 (a0 : (List (Int × Int))) (a1 : Int) : Option (((List (Int × Int)) × Int) ⊕ (List (Int × Int))) :=
  sel (iLt a1 (lLen a0))
    (sel (oIn a1 (lLen a0)) (
    sel (oIn (iSub .i64 a1 1) (lLen a0)) (
    sel (bAnd (iEq (lAt a0 a1).1 (lAt a0 (iSub .i64 a1 1)).1) (iEq (lAt a0 a1).2 (lAt a0 (iSub .i64 a1 1)).2))
      (sel (oCut a1 (lLen a0) (lLen a0)) (
      none) none)
      (some (.inl (a0, (iAdd .i64 a1 1))))) none) none)
    (some (.inr a0))
def L72_0 (x : ((List (Int × Int)) × Int)) : Option (List (Int × Int)) := iter (fun (x : ((List (Int × Int)) × Int)) => (B72_0 x.1 x.2)) fuel x
def lsL72_0 : LS := ⟨(.one .normal ⟨(.own 0 (.pr (.int .i64) (.int .i64))), [0, 3], (.seq (.alo 0) (.dat (.int .i64))), 1, 61, 1⟩), (.one (.exit 0) ⟨(.own 0 (.pr (.int .i64) (.int .i64))), [0], (.alo 0), 1, 61, 1⟩), fun (x : ((List (Int × Int)) × Int)) => (B72_0 x.1 x.2)⟩
/-- slices.Compact[[]api.LostPage,api.LostPage] -/
def F72 (a0 : (List (Int × Int))) : Option (List (Int × Int)) :=
  sel (iLt (lLen a0) 2)
    (some a0)
    (bndS (L72_0 (a0, 1)) fun y0 =>
    some y0)
def gF72 : FS := ⟨(.own 0 (.pr (.int .i64) (.int .i64))), 1, (.one ⟨.non, (.own 1 (.pr (.int .i64) (.int .i64))), 1, 1⟩), fun x => (F72 x)⟩
theorem rL72_0 (x : lsL72_0.hd.T) : kRound env (GofL []) (LofL [(72, [(0, lsL72_0)])]) 72 0 (lpOf Tryz.prog 72 0).2 (lsL72_0.hd.st x) lsL72_0.rd = lsL72_0.B x := by kernel_rfl
theorem eF72 (x : gF72.a.T) : kF env (GofL []) (LofL [(72, [(0, lsL72_0)])]) 72 (gF72.args x) (gF72.bs x) gF72.r.dec = gF72.F x := by kernel_rfl
theorem sF72 : SpecAt env 1 72 gF72 := mkSpec (r := 0) (gl := []) (L0 := [(0, lsL72_0)]) (by kernel_rfl) trivial ⟨⟨0, by kernel_rfl, by kernel_rfl, rL72_0⟩, trivial⟩ eF72 (fun h => absurd h (by rw [show env.nl 72 = false by kernel_rfl]; decide))
/-- ipl.LosePages -/
def F22 (a0 : (((List (Int × ByteArray)) × Int) × ((List ((ByteArray × (ByteArray × Int)) × (Int × Int))) × (List (Int × Int))))) (a1 : (List (Int × Int))) : Option (((List (Int × ByteArray)) × (Int × ((List ((ByteArray × (ByteArray × Int)) × (Int × Int))) × (List (Int × Int))))) × Int) :=
  bndS (F19 a0) fun y0 =>
  sel (bNot (iEq y0.2 0))
    (some ((([] : List (Int × ByteArray)), (0, (([] : List ((ByteArray × (ByteArray × Int)) × (Int × Int))), ([] : List (Int × Int))))), y0.2))
    (sel (iLt 40 (lLen a1))
      (some ((([] : List (Int × ByteArray)), (0, (([] : List ((ByteArray × (ByteArray × Int)) × (Int × Int))), ([] : List (Int × Int))))), 2))
      (bndS (F69 a0) fun y1 =>
      bndS (L22_0 ((a0.1.1, (a0.1.2, a0.2)), (0, (y1, (a1, ((lLen a1), 0)))))) fun y2 =>
      sumS y2 (fun y2a =>
        bndS (F71 y2a.2.2.2.2) fun y3 =>
        bndS (F72 y3) fun y4 =>
        some ((y2a.2.1, (y2a.2.2.1, (y2a.2.2.2.1, y4))), 0)) fun y2b =>
        some ((([] : List (Int × ByteArray)), (y2b.1, (([] : List ((ByteArray × (ByteArray × Int)) × (Int × Int))), ([] : List (Int × Int))))), y2b.2)))
def gF22 : FS := ⟨(.seq (.agg (.dat (.pr (.pr (.sl (.pr (.int .i64) .str)) (.int .i64)) (.pr (.sl (.pr (.pr .str (.pr .str (.int .i64))) (.pr (.int .i64) (.int .i64)))) (.sl (.pr (.int .i64) (.int .i64))))))) (.dat (.sl (.pr (.int .i64) (.int .i64))))), 0, (.one ⟨.non, (.tup (.seq (.agg (.seq (.own 0 (.pr (.int .i64) .str)) (.seq (.dat (.int .i64)) (.seq (.own 1 (.pr (.pr .str (.pr .str (.int .i64))) (.pr (.int .i64) (.int .i64)))) (.own 2 (.pr (.int .i64) (.int .i64))))))) (.dat (.int .i64)))), 0, 3⟩), fun x => (F22 x.1 x.2)⟩
theorem rL22_2 (x : lsL22_2.hd.T) : kRound env (GofL [(72, [gF72]), (71, [gF71]), (70, [gFRepeat]), (62, [gF62]), (69, [gF69]), (19, [gF19])]) (LofL [(22, [(2, lsL22_2), (0, lsL22_0)])]) 22 2 (lpOf Tryz.prog 22 1).2 (lsL22_2.hd.st x) lsL22_2.rd = lsL22_2.B x := by kernel_rfl
theorem rL22_0 (x : lsL22_0.hd.T) : kRound env (GofL [(72, [gF72]), (71, [gF71]), (70, [gFRepeat]), (62, [gF62]), (69, [gF69]), (19, [gF19])]) (LofL [(22, [(2, lsL22_2), (0, lsL22_0)])]) 22 0 (lpOf Tryz.prog 22 0).2 (lsL22_0.hd.st x) lsL22_0.rd = lsL22_0.B x := by kernel_rfl
theorem eF22 (x : gF22.a.T) : kF env (GofL [(72, [gF72]), (71, [gF71]), (70, [gFRepeat]), (62, [gF62]), (69, [gF69]), (19, [gF19])]) (LofL [(22, [(2, lsL22_2), (0, lsL22_0)])]) 22 (gF22.args x) (gF22.bs x) gF22.r.dec = gF22.F x := by kernel_rfl
theorem sF22 : SpecAt env 7 22 gF22 := mkSpec (r := 6) (gl := [(72, [gF72]), (71, [gF71]), (70, [gFRepeat]), (62, [gF62]), (69, [gF69]), (19, [gF19])]) (L0 := [(2, lsL22_2), (0, lsL22_0)]) (by kernel_rfl) ⟨⟨sF72.up (by decide), trivial⟩, ⟨sF71.up (by decide), trivial⟩, ⟨sFRepeat.up (by decide), trivial⟩, ⟨sF62.up (by decide), trivial⟩, ⟨sF69.up (by decide), trivial⟩, ⟨sF19.up (by decide), trivial⟩, trivial⟩ ⟨⟨1, by kernel_rfl, by kernel_rfl, rL22_2⟩, ⟨0, by kernel_rfl, by kernel_rfl, rL22_0⟩, trivial⟩ eF22 (fun h => absurd h (by rw [show env.nl 22 = false by kernel_rfl]; decide))
/-- ipl.damage$1$1 -/
def F130 (a0 : (Int × Int)) (a1 : ByteArray) (a2 : ByteArray) (a3 : Int) (a4 : Int) (a5 : Int) (a6 : Bool) : (((ByteArray × (ByteArray × (Int × (Int × Int)))) × Bool) × Bool) :=
  (((a1, (a2, (a3, (a4, a5)))), a6), (bAnd (iEq a0.1 a4) (bOr a6 (iEq a0.2 0))))
def gF130 : FS := ⟨(.seq (.agg (.dat (.pr (.int .i64) (.int .i64)))) (.seq (.box 0 (.seq (.dat .str) (.seq (.dat .str) (.seq (.dat (.int .i64)) (.seq (.dat (.int .i64)) (.dat (.int .i64))))))) (.box 1 (.dat .bool)))), 2, (.one ⟨(.seq (.box 0 (.seq (.dat .str) (.seq (.dat .str) (.seq (.dat (.int .i64)) (.seq (.dat (.int .i64)) (.dat (.int .i64))))))) (.box 1 (.dat .bool))), (.dat .bool), 2, 0⟩), fun x => some (F130 x.1 x.2.1.1 x.2.1.2.1 x.2.1.2.2.1 x.2.1.2.2.2.1 x.2.1.2.2.2.2 x.2.2)⟩
theorem eF130 (x : gF130.a.T) : kF env (GofL []) (LofL [(130, [])]) 130 (gF130.args x) (gF130.bs x) gF130.r.dec = gF130.F x := by kernel_rfl
theorem sF130 : SpecAt env 1 130 gF130 := mkSpec (r := 0) (gl := []) (L0 := []) (by kernel_rfl) trivial trivial eF130 (fun h => absurd h (by rw [show env.nl 130 = false by kernel_rfl]; decide))
def B143_0 (a0 : ByteArray) (a1 : ByteArray) (a2 : Int) (a3 : Int) (a4 : Int) (a5 : Bool) (a6 : (List (Int × Int))) (a7 : Int) (a8 : Int) : Option ((((ByteArray × (ByteArray × (Int × (Int × Int)))) × Bool) × ((List (Int × Int)) × (Int × Int))) ⊕ (((ByteArray × (ByteArray × (Int × (Int × Int)))) × Bool) ⊕ (((ByteArray × (ByteArray × (Int × (Int × Int)))) × Bool) × Int))) :=
  sel (iLt a8 a7)
    (sel (oIn a8 (lLen a6)) (
    letS (F130 (lAt a6 a8) a0 a1 a2 a3 a4 a5) fun y0 =>
    sel y0.2
      (some (.inr (.inr (y0.1, a8))))
      (some (.inl (y0.1, (a6, (a7, (iAdd .i64 a8 1))))))) none)
    (some (.inr (.inl ((a0, (a1, (a2, (a3, a4)))), a5))))
def L143_0 (x : (((ByteArray × (ByteArray × (Int × (Int × Int)))) × Bool) × ((List (Int × Int)) × (Int × Int)))) : Option (((ByteArray × (ByteArray × (Int × (Int × Int)))) × Bool) ⊕ (((ByteArray × (ByteArray × (Int × (Int × Int)))) × Bool) × Int)) := iter (fun (x : (((ByteArray × (ByteArray × (Int × (Int × Int)))) × Bool) × ((List (Int × Int)) × (Int × Int)))) => (B143_0 x.1.1.1 x.1.1.2.1 x.1.1.2.2.1 x.1.1.2.2.2.1 x.1.1.2.2.2.2 x.1.2 x.2.1 x.2.2.1 x.2.2.2)) fuel x
def lsL143_0 : LS := ⟨(.one .normal ⟨(.seq (.box 0 (.seq (.dat .str) (.seq (.dat .str) (.seq (.dat (.int .i64)) (.seq (.dat (.int .i64)) (.dat (.int .i64))))))) (.box 1 (.dat .bool))), [0, 1, 7, 8], (.seq (.dat (.sl (.pr (.int .i64) (.int .i64)))) (.seq (.fn 130 (.seq (.ptr 0 5 0) (.ptr 1 1 0))) (.seq (.dat (.int .i64)) (.dat (.int .i64))))), 2, 19, 2⟩), (.two (.one (.exit 0) ⟨(.seq (.box 0 (.seq (.dat .str) (.seq (.dat .str) (.seq (.dat (.int .i64)) (.seq (.dat (.int .i64)) (.dat (.int .i64))))))) (.box 1 (.dat .bool))), [], .non, 2, 19, 2⟩) (.one .ret ⟨(.seq (.box 0 (.seq (.dat .str) (.seq (.dat .str) (.seq (.dat (.int .i64)) (.seq (.dat (.int .i64)) (.dat (.int .i64))))))) (.box 1 (.dat .bool))), [4], (.dat (.int .i64)), 2, 19, 2⟩)), fun (x : (((ByteArray × (ByteArray × (Int × (Int × Int)))) × Bool) × ((List (Int × Int)) × (Int × Int)))) => (B143_0 x.1.1.1 x.1.1.2.1 x.1.1.2.2.1 x.1.1.2.2.2.1 x.1.1.2.2.2.2 x.1.2 x.2.1 x.2.2.1 x.2.2.2)⟩
/-- slices.IndexFunc[[]api.LostPage,api.LostPage] -/
def F143 (a0 : (List (Int × Int))) (a1 : ByteArray) (a2 : ByteArray) (a3 : Int) (a4 : Int) (a5 : Int) (a6 : Bool) : Option (((ByteArray × (ByteArray × (Int × (Int × Int)))) × Bool) × Int) :=
  bndS (L143_0 (((a1, (a2, (a3, (a4, a5)))), a6), (a0, ((lLen a0), 0)))) fun y0 =>
  sumS y0 (fun y0a =>
    some (y0a, (-1))) fun y0b =>
    some y0b
def gF143 : FS := ⟨(.seq (.dat (.sl (.pr (.int .i64) (.int .i64)))) (.fn 130 (.seq (.box 0 (.seq (.dat .str) (.seq (.dat .str) (.seq (.dat (.int .i64)) (.seq (.dat (.int .i64)) (.dat (.int .i64))))))) (.box 1 (.dat .bool))))), 2, (.one ⟨(.seq (.box 0 (.seq (.dat .str) (.seq (.dat .str) (.seq (.dat (.int .i64)) (.seq (.dat (.int .i64)) (.dat (.int .i64))))))) (.box 1 (.dat .bool))), (.dat (.int .i64)), 2, 0⟩), fun x => (F143 x.1 x.2.1.1 x.2.1.2.1 x.2.1.2.2.1 x.2.1.2.2.2.1 x.2.1.2.2.2.2 x.2.2)⟩
theorem rL143_0 (x : lsL143_0.hd.T) : kRound env (GofL [(130, [gF130])]) (LofL [(143, [(0, lsL143_0)])]) 143 0 (lpOf Tryz.prog 143 0).2 (lsL143_0.hd.st x) lsL143_0.rd = lsL143_0.B x := by kernel_rfl
theorem eF143 (x : gF143.a.T) : kF env (GofL [(130, [gF130])]) (LofL [(143, [(0, lsL143_0)])]) 143 (gF143.args x) (gF143.bs x) gF143.r.dec = gF143.F x := by kernel_rfl
theorem sF143 : SpecAt env 2 143 gF143 := mkSpec (r := 1) (gl := [(130, [gF130])]) (L0 := [(0, lsL143_0)]) (by kernel_rfl) ⟨⟨sF130.up (by decide), trivial⟩, trivial⟩ ⟨⟨0, by kernel_rfl, by kernel_rfl, rL143_0⟩, trivial⟩ eF143 (fun h => absurd h (by rw [show env.nl 143 = false by kernel_rfl]; decide))
/-- slices.ContainsFunc[[]api.LostPage,api.LostPage] -/
def F129 (a0 : (List (Int × Int))) (a1 : ByteArray) (a2 : ByteArray) (a3 : Int) (a4 : Int) (a5 : Int) (a6 : Bool) : Option (((ByteArray × (ByteArray × (Int × (Int × Int)))) × Bool) × Bool) :=
  bndS (F143 a0 a1 a2 a3 a4 a5 a6) fun y0 =>
  some (y0.1, (iLe 0 y0.2))
def gF129 : FS := ⟨(.seq (.dat (.sl (.pr (.int .i64) (.int .i64)))) (.fn 130 (.seq (.box 0 (.seq (.dat .str) (.seq (.dat .str) (.seq (.dat (.int .i64)) (.seq (.dat (.int .i64)) (.dat (.int .i64))))))) (.box 1 (.dat .bool))))), 2, (.one ⟨(.seq (.box 0 (.seq (.dat .str) (.seq (.dat .str) (.seq (.dat (.int .i64)) (.seq (.dat (.int .i64)) (.dat (.int .i64))))))) (.box 1 (.dat .bool))), (.dat .bool), 2, 0⟩), fun x => (F129 x.1 x.2.1.1 x.2.1.2.1 x.2.1.2.2.1 x.2.1.2.2.2.1 x.2.1.2.2.2.2 x.2.2)⟩
theorem eF129 (x : gF129.a.T) : kF env (GofL [(143, [gF143])]) (LofL [(129, [])]) 129 (gF129.args x) (gF129.bs x) gF129.r.dec = gF129.F x := by kernel_rfl
theorem sF129 : SpecAt env 3 129 gF129 := mkSpec (r := 2) (gl := [(143, [gF143])]) (L0 := []) (by kernel_rfl) ⟨⟨sF143.up (by decide), trivial⟩, trivial⟩ trivial eF129 (fun h => absurd h (by rw [show env.nl 129 = false by kernel_rfl]; decide))
/-- ipl.damage$1 -/
def F128 (a0 : Bool) (a1 : (List (Int × ByteArray))) (a2 : Int) (a3 : (List ((ByteArray × (ByteArray × Int)) × (Int × Int)))) (a4 : (List (Int × Int))) (a5 : ByteArray) (a6 : ByteArray) (a7 : Int) (a8 : Int) (a9 : Int) : Option ((((List (Int × ByteArray)) × (Int × ((List ((ByteArray × (ByteArray × Int)) × (Int × Int))) × (List (Int × Int))))) × (ByteArray × (ByteArray × (Int × (Int × Int))))) × Bool) :=
  bndS (F129 a4 a5 a6 a7 a8 a9 a0) fun y0 =>
  some (((a1, (a2, (a3, a4))), y0.1.1), y0.2)
def gF128 : FS := ⟨(.seq (.dat .bool) (.seq (.box 0 (.seq (.dat (.sl (.pr (.int .i64) .str))) (.seq (.dat (.int .i64)) (.seq (.dat (.sl (.pr (.pr .str (.pr .str (.int .i64))) (.pr (.int .i64) (.int .i64))))) (.dat (.sl (.pr (.int .i64) (.int .i64)))))))) (.box 1 (.seq (.dat .str) (.seq (.dat .str) (.seq (.dat (.int .i64)) (.seq (.dat (.int .i64)) (.dat (.int .i64))))))))), 2, (.one ⟨(.seq (.box 0 (.seq (.dat (.sl (.pr (.int .i64) .str))) (.seq (.dat (.int .i64)) (.seq (.dat (.sl (.pr (.pr .str (.pr .str (.int .i64))) (.pr (.int .i64) (.int .i64))))) (.dat (.sl (.pr (.int .i64) (.int .i64)))))))) (.box 1 (.seq (.dat .str) (.seq (.dat .str) (.seq (.dat (.int .i64)) (.seq (.dat (.int .i64)) (.dat (.int .i64)))))))), (.dat .bool), 2, 0⟩), fun x => (F128 x.1 x.2.1.1 x.2.1.2.1 x.2.1.2.2.1 x.2.1.2.2.2 x.2.2.1 x.2.2.2.1 x.2.2.2.2.1 x.2.2.2.2.2.1 x.2.2.2.2.2.2)⟩
theorem eF128 (x : gF128.a.T) : kF env (GofL [(129, [gF129])]) (LofL [(128, [])]) 128 (gF128.args x) (gF128.bs x) gF128.r.dec = gF128.F x := by kernel_rfl
theorem sF128 : SpecAt env 4 128 gF128 := mkSpec (r := 3) (gl := [(129, [gF129])]) (L0 := []) (by kernel_rfl) ⟨⟨sF129.up (by decide), trivial⟩, trivial⟩ trivial eF128 (fun h => absurd h (by rw [show env.nl 128 = false by kernel_rfl]; decide))
def B102_0 (a0 : ByteArray) (a1 : Int) : Option ((ByteArray × Int) ⊕ ByteArray) :=
  sel (bOr (oIn (iSub .i64 (sLen a0) 1) (sLen a0)) (bNot (iLt 0 (sLen a0)))) (
  sel (bAnd (iLt 0 (sLen a0)) (iEq (sAt a0 (iSub .i64 (sLen a0) 1)) a1))
    (sel (oCut 0 (iSub .i64 (sLen a0) 1) (sLen a0)) (
    some (.inl ((sCut a0 0 (iSub .i64 (sLen a0) 1)), a1))) none)
    (some (.inr a0))) none
def L102_0 (x : (ByteArray × Int)) : Option ByteArray := iter (fun (x : (ByteArray × Int)) => (B102_0 x.1 x.2)) fuel x
def lsL102_0 : LS := ⟨(.one .normal ⟨.non, [0, 1], (.seq (.dat .str) (.dat (.int .u8))), 0, 23, 0⟩), (.one (.exit 0) ⟨.non, [0], (.dat .str), 0, 23, 0⟩), fun (x : (ByteArray × Int)) => (B102_0 x.1 x.2)⟩
/-- strings.trimRightByte -/
def F102 (a0 : ByteArray) (a1 : Int) : Option ByteArray :=
  bndS (L102_0 (a0, a1)) fun y0 =>
  some y0
def gF102 : FS := ⟨(.seq (.dat .str) (.dat (.int .u8))), 0, (.one ⟨.non, (.dat .str), 0, 0⟩), fun x => (F102 x.1 x.2)⟩
theorem rL102_0 (x : lsL102_0.hd.T) : kRound env (GofL []) (LofL [(102, [(0, lsL102_0)])]) 102 0 (lpOf Tryz.prog 102 0).2 (lsL102_0.hd.st x) lsL102_0.rd = lsL102_0.B x := by kernel_rfl
theorem eF102 (x : gF102.a.T) : kF env (GofL []) (LofL [(102, [(0, lsL102_0)])]) 102 (gF102.args x) (gF102.bs x) gF102.r.dec = gF102.F x := by kernel_rfl
theorem sF102 : SpecAt env 1 102 gF102 := mkSpec (r := 0) (gl := []) (L0 := [(0, lsL102_0)]) (by kernel_rfl) trivial ⟨⟨0, by kernel_rfl, by kernel_rfl, rL102_0⟩, trivial⟩ eF102 (fun h => absurd h (by rw [show env.nl 102 = false by kernel_rfl]; decide))
/-- strings.TrimRight -/
def F48 (a0 : ByteArray) : Option ByteArray :=
  sel (bAnd (sEq a0 (bs [])) true)
    (some a0)
    (bndS (F102 a0 32) fun y0 =>
    some y0)
def gF48 : FS := ⟨(.seq (.dat .str) (.lit (.string (bs [32])))), 0, (.one ⟨.non, (.dat .str), 0, 0⟩), fun x => (F48 x)⟩
theorem eF48 (x : gF48.a.T) : kF env (GofL [(102, [gF102])]) (LofL [(48, [])]) 48 (gF48.args x) (gF48.bs x) gF48.r.dec = gF48.F x := by kernel_rfl
theorem sF48 : SpecAt env 2 48 gF48 := mkSpec (r := 1) (gl := [(102, [gF102])]) (L0 := []) (by kernel_rfl) ⟨⟨sF102.up (by decide), trivial⟩, trivial⟩ trivial eF48 (fun h => absurd h (by rw [show env.nl 48 = false by kernel_rfl]; decide))
/-- ipl.HeaderIn -/
def F16 (a0 : ByteArray) : Option ((ByteArray × (ByteArray × Int)) × (Int × Int)) :=
  sel (bNot (iEq (sLen a0) 32))
    (some (((bs []), ((bs []), 0)), (0, 18)))
    (sel (oCut 5 15 (sLen a0)) (
    bndS (F48 (sCut a0 5 15)) fun y0 =>
    sel (oCut 15 25 (sLen a0)) (
    bndS (F48 (sCut a0 15 25)) fun y1 =>
    sel (oIn 4 (sLen a0)) (
    sel (oIn 25 (sLen a0)) (
    sel (oCut 0 4 (sLen a0)) (
    sel (bOr (okS (FContains y0 (bs [32]))) (bNot (bNot (bNot (sEq (sCut a0 0 4) (bs [42, 79, 66, 74])))))) (
    letS (valS (FContains y0 (bs [32])) false) fun y2 =>
    sel (bOr (okS (FContains y1 (bs [32]))) (bNot (bNot (bOr (bNot (sEq (sCut a0 0 4) (bs [42, 79, 66, 74]))) y2)))) (
    letS (valS (FContains y1 (bs [32])) false) fun y3 =>
    sel (bOr (oCut 30 (sLen a0) (sLen a0)) (bNot (bNot (bOr (bOr (bNot (sEq (sCut a0 0 4) (bs [42, 79, 66, 74]))) y2) y3)))) (
    sel (bOr (bOr (bOr (bNot (sEq (sCut a0 0 4) (bs [42, 79, 66, 74]))) y2) y3) (bNot (sEq (sCut a0 30 (sLen a0)) (bs [0, 0]))))
      (some (((bs []), ((bs []), 0)), (0, 5)))
      (bndS (F50 (y0, (y1, (iCv .i64 (sAt a0 4))))) fun y4 =>
      sel (bNot (iEq y4 0))
        (some (((bs []), ((bs []), 0)), (0, y4)))
        (letS (F51 (iCv .i64 (sAt a0 25)) 1 8) fun y5 =>
        sel (bNot y5)
          (some (((bs []), ((bs []), 0)), (0, 3)))
          (sel (oCut 26 30 (sLen a0)) (
          sel (oCut 0 26 (sLen a0)) (
          bndS (F52 (sCut a0 0 26)) fun y6 =>
          sel (bNot (sEq (sCut a0 26 30) y6))
            (some (((bs []), ((bs []), 0)), (0, 33)))
            (some ((y0, (y1, (iCv .i64 (sAt a0 4)))), ((iCv .i64 (sAt a0 25)), 0)))) none) none)))) none) none) none) none) none) none) none) none)
def gF16 : FS := ⟨(.dat .str), 0, (.one ⟨.non, (.tup (.seq (.agg (.dat (.pr .str (.pr .str (.int .i64))))) (.seq (.dat (.int .i64)) (.dat (.int .i64))))), 0, 0⟩), fun x => (F16 x)⟩
theorem eF16 (x : gF16.a.T) : kF env (GofL [(52, [gF52]), (51, [gF51]), (50, [gF50]), (49, [gFContains]), (48, [gF48])]) (LofL [(16, [])]) 16 (gF16.args x) (gF16.bs x) gF16.r.dec = gF16.F x := by kernel_rfl
theorem sF16 : SpecAt env 3 16 gF16 := mkSpec (r := 2) (gl := [(52, [gF52]), (51, [gF51]), (50, [gF50]), (49, [gFContains]), (48, [gF48])]) (L0 := []) (by kernel_rfl) ⟨⟨sF52.up (by decide), trivial⟩, ⟨sF51.up (by decide), trivial⟩, ⟨sF50.up (by decide), trivial⟩, ⟨sFContains.up (by decide), trivial⟩, ⟨sF48.up (by decide), trivial⟩, trivial⟩ trivial eF16 (fun h => absurd h (by rw [show env.nl 16 = false by kernel_rfl]; decide))
/-- ipl.damage -/
def F77 (a0 : (((List (Int × ByteArray)) × Int) × ((List ((ByteArray × (ByteArray × Int)) × (Int × Int))) × (List (Int × Int))))) (a1 : ((ByteArray × (ByteArray × Int)) × (Int × Int))) : Option Int :=
  bndS (F96 a0.1 a1.2.1) fun y0 =>
  sel (bNot (bNot y0.2))
    (bndS (F128 false a0.1.1 a0.1.2 a0.2.1 a0.2.2 a1.1.1 a1.1.2.1 a1.1.2.2 a1.2.1 a1.2.2) fun y1 =>
    sel y1.2
      (some (sel (iLt 3 y1.1.2.2.2.2.2) y1.1.2.2.2.2.2 3))
      (sel (oCut 0 32 (sLen y0.1)) (
      bndS (F16 (sCut y0.1 0 32)) fun y2 =>
      sel (bOr (bNot (iEq y2.2.2 0)) (bNot (bAnd (sEq y2.1.1 y1.1.2.1) (bAnd (sEq y2.1.2.1 y1.1.2.2.1) (iEq y2.1.2.2 y1.1.2.2.2.1)))))
        (some (sel (iLt 3 y1.1.2.2.2.2.2) y1.1.2.2.2.2.2 3))
        (bndS (F128 true y1.1.1.1 y1.1.1.2.1 y1.1.1.2.2.1 y1.1.1.2.2.2 y1.1.2.1 y1.1.2.2.1 y1.1.2.2.2.1 y1.1.2.2.2.2.1 y1.1.2.2.2.2.2) fun y3 =>
        sel (bOr (oNz 32) (bNot (bNot y3.2))) (
        some (sel (iLt (sel y3.2 2 (sel (bNot (iEq y2.2.1 (iQuo .i64 (sLen y0.1) 32))) 1 0)) y3.1.2.2.2.2.2) y3.1.2.2.2.2.2 (sel y3.2 2 (sel (bNot (iEq y2.2.1 (iQuo .i64 (sLen y0.1) 32))) 1 0)))) none)) none))
    (some (sel (iLt 3 a1.2.2) a1.2.2 3))
def gF77 : FS := ⟨(.seq (.agg (.dat (.pr (.pr (.sl (.pr (.int .i64) .str)) (.int .i64)) (.pr (.sl (.pr (.pr .str (.pr .str (.int .i64))) (.pr (.int .i64) (.int .i64)))) (.sl (.pr (.int .i64) (.int .i64))))))) (.agg (.dat (.pr (.pr .str (.pr .str (.int .i64))) (.pr (.int .i64) (.int .i64)))))), 0, (.one ⟨.non, (.dat (.int .i64)), 0, 0⟩), fun x => (F77 x.1 x.2)⟩
theorem eF77 (x : gF77.a.T) : kF env (GofL [(128, [gF128]), (16, [gF16]), (96, [gF96])]) (LofL [(77, [])]) 77 (gF77.args x) (gF77.bs x) gF77.r.dec = gF77.F x := by kernel_rfl
theorem sF77 : SpecAt env 5 77 gF77 := mkSpec (r := 4) (gl := [(128, [gF128]), (16, [gF16]), (96, [gF96])]) (L0 := []) (by kernel_rfl) ⟨⟨sF128.up (by decide), trivial⟩, ⟨sF16.up (by decide), trivial⟩, ⟨sF96.up (by decide), trivial⟩, trivial⟩ trivial eF77 (fun h => absurd h (by rw [show env.nl 77 = false by kernel_rfl]; decide))
def B25_0 (a0 : (List (Int × ByteArray))) (a1 : Int) (a2 : (List ((ByteArray × (ByteArray × Int)) × (Int × Int)))) (a3 : (List (Int × Int))) (a4 : Int) (a5 : (List (Int × ByteArray))) (a6 : Int) (a7 : (List ((ByteArray × (ByteArray × Int)) × (Int × Int)))) (a8 : (List (Int × Int))) (a9 : (List (Int × (Int × (Int × (ByteArray × (ByteArray × Int))))))) (a10 : (List ((ByteArray × (ByteArray × Int)) × (Int × Int)))) (a11 : Int) (a12 : Int) : Option ((((List (Int × ByteArray)) × (Int × ((List ((ByteArray × (ByteArray × Int)) × (Int × Int))) × (List (Int × Int))))) × (Int × (((List (Int × ByteArray)) × (Int × ((List ((ByteArray × (ByteArray × Int)) × (Int × Int))) × (List (Int × Int))))) × ((List (Int × (Int × (Int × (ByteArray × (ByteArray × Int)))))) × ((List ((ByteArray × (ByteArray × Int)) × (Int × Int))) × (Int × Int)))))) ⊕ (Int × (((List (Int × ByteArray)) × (Int × ((List ((ByteArray × (ByteArray × Int)) × (Int × Int))) × (List (Int × Int))))) × (List (Int × (Int × (Int × (ByteArray × (ByteArray × Int))))))))) :=
  sel (iLt a12 a11)
    (sel (oIn a12 (lLen a10)) (
    bndS (F77 ((a0, a1), (a2, a3)) (lAt a10 a12)) fun y0 =>
    sel (iLt (lAt a10 a12).2.2 y0)
      (sel (oIn a12 (lLen a7)) (
      sel (lCap 64 (lApp a9 [(0, ((lAt a10 a12).2.1, (y0, (lAt a10 a12).1)))])) (
      some (.inl ((a0, (a1, (a2, a3))), (a4, ((a5, (a6, ((lSet a7 a12 ((lAt a7 a12).1, ((lAt a7 a12).2.1, y0))), a8))), ((lApp a9 [(0, ((lAt a10 a12).2.1, (y0, (lAt a10 a12).1)))]), (a10, (a11, (iAdd .i64 a12 1))))))))) none) none)
      (some (.inl ((a0, (a1, (a2, a3))), (a4, ((a5, (a6, (a7, a8))), (a9, (a10, (a11, (iAdd .i64 a12 1)))))))))) none)
    (some (.inr (a4, ((a5, (a6, (a7, a8))), a9))))
def L25_0 (x : (((List (Int × ByteArray)) × (Int × ((List ((ByteArray × (ByteArray × Int)) × (Int × Int))) × (List (Int × Int))))) × (Int × (((List (Int × ByteArray)) × (Int × ((List ((ByteArray × (ByteArray × Int)) × (Int × Int))) × (List (Int × Int))))) × ((List (Int × (Int × (Int × (ByteArray × (ByteArray × Int)))))) × ((List ((ByteArray × (ByteArray × Int)) × (Int × Int))) × (Int × Int))))))) : Option (Int × (((List (Int × ByteArray)) × (Int × ((List ((ByteArray × (ByteArray × Int)) × (Int × Int))) × (List (Int × Int))))) × (List (Int × (Int × (Int × (ByteArray × (ByteArray × Int)))))))) := iter (fun (x : (((List (Int × ByteArray)) × (Int × ((List ((ByteArray × (ByteArray × Int)) × (Int × Int))) × (List (Int × Int))))) × (Int × (((List (Int × ByteArray)) × (Int × ((List ((ByteArray × (ByteArray × Int)) × (Int × Int))) × (List (Int × Int))))) × ((List (Int × (Int × (Int × (ByteArray × (ByteArray × Int)))))) × ((List ((ByteArray × (ByteArray × Int)) × (Int × Int))) × (Int × Int))))))) => (B25_0 x.1.1 x.1.2.1 x.1.2.2.1 x.1.2.2.2 x.2.1 x.2.2.1.1 x.2.2.1.2.1 x.2.2.1.2.2.1 x.2.2.1.2.2.2 x.2.2.2.1 x.2.2.2.2.1 x.2.2.2.2.2.1 x.2.2.2.2.2.2)) fuel x
def lsL25_0 : LS := ⟨(.one .normal ⟨.non, [1, 2, 7, 8, 24, 25, 26], (.seq (.box 0 (.seq (.dat (.sl (.pr (.int .i64) .str))) (.seq (.dat (.int .i64)) (.seq (.dat (.sl (.pr (.pr .str (.pr .str (.int .i64))) (.pr (.int .i64) (.int .i64))))) (.dat (.sl (.pr (.int .i64) (.int .i64)))))))) (.seq (.box 1 (.seq (.lit (.slice none 0 0)) (.seq (.dat (.int .i64)) (.seq (.lit (.slice none 0 0)) (.lit (.slice none 0 0)))))) (.seq (.box 2 (.seq (.own 3 (.pr (.int .i64) .str)) (.seq (.dat (.int .i64)) (.seq (.own 4 (.pr (.pr .str (.pr .str (.int .i64))) (.pr (.int .i64) (.int .i64)))) (.own 5 (.pr (.int .i64) (.int .i64))))))) (.seq (.own 6 (.pr (.int .i64) (.pr (.int .i64) (.pr (.int .i64) (.pr .str (.pr .str (.int .i64))))))) (.seq (.dat (.sl (.pr (.pr .str (.pr .str (.int .i64))) (.pr (.int .i64) (.int .i64))))) (.seq (.dat (.int .i64)) (.dat (.int .i64)))))))), 7, 57, 0⟩), (.one (.exit 0) ⟨.non, [2, 7, 8], (.seq (.box 0 (.seq (.lit (.slice none 0 0)) (.seq (.dat (.int .i64)) (.seq (.lit (.slice none 0 0)) (.lit (.slice none 0 0)))))) (.seq (.box 1 (.seq (.own 2 (.pr (.int .i64) .str)) (.seq (.dat (.int .i64)) (.seq (.own 3 (.pr (.pr .str (.pr .str (.int .i64))) (.pr (.int .i64) (.int .i64)))) (.own 4 (.pr (.int .i64) (.int .i64))))))) (.own 5 (.pr (.int .i64) (.pr (.int .i64) (.pr (.int .i64) (.pr .str (.pr .str (.int .i64))))))))), 6, 57, 0⟩), fun (x : (((List (Int × ByteArray)) × (Int × ((List ((ByteArray × (ByteArray × Int)) × (Int × Int))) × (List (Int × Int))))) × (Int × (((List (Int × ByteArray)) × (Int × ((List ((ByteArray × (ByteArray × Int)) × (Int × Int))) × (List (Int × Int))))) × ((List (Int × (Int × (Int × (ByteArray × (ByteArray × Int)))))) × ((List ((ByteArray × (ByteArray × Int)) × (Int × Int))) × (Int × Int))))))) => (B25_0 x.1.1 x.1.2.1 x.1.2.2.1 x.1.2.2.2 x.2.1 x.2.2.1.1 x.2.2.1.2.1 x.2.2.1.2.2.1 x.2.2.1.2.2.2 x.2.2.2.1 x.2.2.2.2.1 x.2.2.2.2.2.1 x.2.2.2.2.2.2)⟩
/-- ipl.Ipl -/
def F25 (a0 : (((List (Int × ByteArray)) × Int) × ((List ((ByteArray × (ByteArray × Int)) × (Int × Int))) × (List (Int × Int))))) : Option (((List (Int × ByteArray)) × (Int × ((List ((ByteArray × (ByteArray × Int)) × (Int × Int))) × (List (Int × Int))))) × ((List (Int × (Int × (Int × (ByteArray × (ByteArray × Int)))))) × Int)) :=
  bndS (F19 a0) fun y0 =>
  sel (bNot (iEq y0.2 0))
    (some ((([] : List (Int × ByteArray)), (0, (([] : List ((ByteArray × (ByteArray × Int)) × (Int × Int))), ([] : List (Int × Int))))), (([] : List (Int × (Int × (Int × (ByteArray × (ByteArray × Int)))))), y0.2)))
    (bndS (F69 a0) fun y1 =>
    bndS (L25_0 ((a0.1.1, (a0.1.2, a0.2)), (0, (y1, (([] : List (Int × (Int × (Int × (ByteArray × (ByteArray × Int)))))), (a0.2.1, ((lLen a0.2.1), 0))))))) fun y2 =>
    some ((y2.2.1.1, (y2.2.1.2.1, (y2.2.1.2.2.1, ([] : List (Int × Int))))), (y2.2.2, 0)))
def gF25 : FS := ⟨(.agg (.dat (.pr (.pr (.sl (.pr (.int .i64) .str)) (.int .i64)) (.pr (.sl (.pr (.pr .str (.pr .str (.int .i64))) (.pr (.int .i64) (.int .i64)))) (.sl (.pr (.int .i64) (.int .i64))))))), 0, (.one ⟨.non, (.tup (.seq (.agg (.seq (.own 0 (.pr (.int .i64) .str)) (.seq (.dat (.int .i64)) (.seq (.own 1 (.pr (.pr .str (.pr .str (.int .i64))) (.pr (.int .i64) (.int .i64)))) (.own 2 (.pr (.int .i64) (.int .i64))))))) (.seq (.own 3 (.pr (.int .i64) (.pr (.int .i64) (.pr (.int .i64) (.pr .str (.pr .str (.int .i64))))))) (.dat (.int .i64))))), 0, 4⟩), fun x => (F25 x)⟩
theorem rL25_0 (x : lsL25_0.hd.T) : kRound env (GofL [(77, [gF77]), (69, [gF69]), (19, [gF19])]) (LofL [(25, [(0, lsL25_0)])]) 25 0 (lpOf Tryz.prog 25 0).2 (lsL25_0.hd.st x) lsL25_0.rd = lsL25_0.B x := by kernel_rfl
theorem eF25 (x : gF25.a.T) : kF env (GofL [(77, [gF77]), (69, [gF69]), (19, [gF19])]) (LofL [(25, [(0, lsL25_0)])]) 25 (gF25.args x) (gF25.bs x) gF25.r.dec = gF25.F x := by kernel_rfl
theorem sF25 : SpecAt env 6 25 gF25 := mkSpec (r := 5) (gl := [(77, [gF77]), (69, [gF69]), (19, [gF19])]) (L0 := [(0, lsL25_0)]) (by kernel_rfl) ⟨⟨sF77.up (by decide), trivial⟩, ⟨sF69.up (by decide), trivial⟩, ⟨sF19.up (by decide), trivial⟩, trivial⟩ ⟨⟨0, by kernel_rfl, by kernel_rfl, rL25_0⟩, trivial⟩ eF25 (fun h => absurd h (by rw [show env.nl 25 = false by kernel_rfl]; decide))
def B27_0 (a0 : (List (Int × (Int × (Int × (ByteArray × (ByteArray × Int))))))) (a1 : (List (Int × (Int × (Int × (ByteArray × (ByteArray × Int))))))) (a2 : Int) : Option (((List (Int × (Int × (Int × (ByteArray × (ByteArray × Int)))))) × ((List (Int × (Int × (Int × (ByteArray × (ByteArray × Int)))))) × Int)) ⊕ (Unit ⊕ Bool)) :=
  sel (iLt a2 (lLen a0))
    (sel (oIn a2 (lLen a0)) (
    sel (oIn a2 (lLen a1)) (
    sel (bNot (bAnd (iEq (lAt a0 a2).1 (lAt a1 a2).1) (bAnd (iEq (lAt a0 a2).2.1 (lAt a1 a2).2.1) (bAnd (iEq (lAt a0 a2).2.2.1 (lAt a1 a2).2.2.1) (bAnd (sEq (lAt a0 a2).2.2.2.1 (lAt a1 a2).2.2.2.1) (bAnd (sEq (lAt a0 a2).2.2.2.2.1 (lAt a1 a2).2.2.2.2.1) (iEq (lAt a0 a2).2.2.2.2.2 (lAt a1 a2).2.2.2.2.2)))))))
      (some (.inr (.inr false)))
      (some (.inl (a0, (a1, (iAdd .i64 a2 1)))))) none) none)
    (some (.inr (.inl ())))
def L27_0 (x : ((List (Int × (Int × (Int × (ByteArray × (ByteArray × Int)))))) × ((List (Int × (Int × (Int × (ByteArray × (ByteArray × Int)))))) × Int))) : Option (Unit ⊕ Bool) := iter (fun (x : ((List (Int × (Int × (Int × (ByteArray × (ByteArray × Int)))))) × ((List (Int × (Int × (Int × (ByteArray × (ByteArray × Int)))))) × Int))) => (B27_0 x.1 x.2.1 x.2.2)) fuel x
def lsL27_0 : LS := ⟨(.one .normal ⟨.non, [0, 1, 5], (.seq (.dat (.sl (.pr (.int .i64) (.pr (.int .i64) (.pr (.int .i64) (.pr .str (.pr .str (.int .i64)))))))) (.seq (.dat (.sl (.pr (.int .i64) (.pr (.int .i64) (.pr (.int .i64) (.pr .str (.pr .str (.int .i64)))))))) (.dat (.int .i64)))), 0, 26, 0⟩), (.two (.one (.exit 0) ⟨.non, [], .non, 0, 26, 0⟩) (.one .ret ⟨.non, [4], (.dat .bool), 0, 26, 0⟩)), fun (x : ((List (Int × (Int × (Int × (ByteArray × (ByteArray × Int)))))) × ((List (Int × (Int × (Int × (ByteArray × (ByteArray × Int)))))) × Int))) => (B27_0 x.1 x.2.1 x.2.2)⟩
/-- midrangeref11.SameFindings -/
def F27 (a0 : (List (Int × (Int × (Int × (ByteArray × (ByteArray × Int))))))) (a1 : (List (Int × (Int × (Int × (ByteArray × (ByteArray × Int))))))) : Option Bool :=
  sel (bNot (iEq (lLen a0) (lLen a1)))
    (some false)
    (bndS (L27_0 (a0, (a1, 0))) fun y0 =>
    sumS y0 (fun y0a =>
      some true) fun y0b =>
      some y0b)
def gF27 : FS := ⟨(.seq (.dat (.sl (.pr (.int .i64) (.pr (.int .i64) (.pr (.int .i64) (.pr .str (.pr .str (.int .i64)))))))) (.dat (.sl (.pr (.int .i64) (.pr (.int .i64) (.pr (.int .i64) (.pr .str (.pr .str (.int .i64))))))))), 0, (.one ⟨.non, (.dat .bool), 0, 0⟩), fun x => (F27 x.1 x.2)⟩
theorem rL27_0 (x : lsL27_0.hd.T) : kRound env (GofL []) (LofL [(27, [(0, lsL27_0)])]) 27 0 (lpOf Tryz.prog 27 0).2 (lsL27_0.hd.st x) lsL27_0.rd = lsL27_0.B x := by kernel_rfl
theorem eF27 (x : gF27.a.T) : kF env (GofL []) (LofL [(27, [(0, lsL27_0)])]) 27 (gF27.args x) (gF27.bs x) gF27.r.dec = gF27.F x := by kernel_rfl
theorem sF27 : SpecAt env 1 27 gF27 := mkSpec (r := 0) (gl := []) (L0 := [(0, lsL27_0)]) (by kernel_rfl) trivial ⟨⟨0, by kernel_rfl, by kernel_rfl, rL27_0⟩, trivial⟩ eF27 (fun h => absurd h (by rw [show env.nl 27 = false by kernel_rfl]; decide))
/-- midrangelaw11.awake -/
def F15 : Option Bool :=
  bndS (F37 (([], 1), ([], [])) ((bs [65]), ((bs [66]), 0)) 2) fun y0 =>
  sel (bOr (bNot (iEq y0.2.2 0)) (bNot (iEq y0.2.1 1)))
    (some false)
    (bndS (F22 ((y0.1.1, y0.1.2.1), y0.1.2.2) [(1, 1)]) fun y1 =>
    sel (bNot (iEq y1.2 0))
      (some false)
      (bndS (F25 ((y1.1.1, y1.1.2.1), y1.1.2.2)) fun y2 =>
      sel (iEq y2.2.2 0)
        (bndS (F27 y2.2.1 [(0, (1, (2, ((bs [65]), ((bs [66]), 0)))))]) fun y3 =>
        some y3)
        (some false)))
def gF15 : FS := ⟨.non, 0, (.one ⟨.non, (.dat .bool), 0, 0⟩), fun x => (F15)⟩
theorem eF15 (x : gF15.a.T) : kF env (GofL [(27, [gF27]), (25, [gF25]), (22, [gF22]), (37, [gF37])]) (LofL [(15, [])]) 15 (gF15.args x) (gF15.bs x) gF15.r.dec = gF15.F x := by kernel_rfl
theorem sF15 : SpecAt env 10 15 gF15 := mkSpec (r := 9) (gl := [(27, [gF27]), (25, [gF25]), (22, [gF22]), (37, [gF37])]) (L0 := []) (by kernel_rfl) ⟨⟨sF27.up (by decide), trivial⟩, ⟨sF25.up (by decide), trivial⟩, ⟨sF22.up (by decide), trivial⟩, ⟨sF37.up (by decide), trivial⟩, trivial⟩ trivial eF15 (fun h => absurd h (by rw [show env.nl 15 = false by kernel_rfl]; decide))
def B53_0 (a0 : ByteArray) : Option (ByteArray ⊕ ByteArray) :=
  sel (bOr (oIn (iSub .i64 (sLen a0) 1) (sLen a0)) (bNot (iLt 0 (sLen a0)))) (
  sel (bAnd (iLt 0 (sLen a0)) (iEq (sAt a0 (iSub .i64 (sLen a0) 1)) 32))
    (sel (oCut 0 (iSub .i64 (sLen a0) 1) (sLen a0)) (
    some (.inl (sCut a0 0 (iSub .i64 (sLen a0) 1)))) none)
    (some (.inr a0))) none
def L53_0 (x : ByteArray) : Option ByteArray := iter (fun (x : ByteArray) => (B53_0 x)) fuel x
def B53_2 (a0 : ByteArray) (a1 : Int) : Option ((ByteArray × Int) ⊕ (ByteArray ⊕ (ByteArray × Bool))) :=
  sel (iLt a1 (sLen a0))
    (sel (oIn a1 (sLen a0)) (
    sel (iEq (sAt a0 a1) 32)
      (some (.inr (.inr (a0, false))))
      (some (.inl (a0, (iAdd .i64 a1 1))))) none)
    (some (.inr (.inl a0)))
def L53_2 (x : (ByteArray × Int)) : Option (ByteArray ⊕ (ByteArray × Bool)) := iter (fun (x : (ByteArray × Int)) => (B53_2 x.1 x.2)) fuel x
/-- midrangeref11.padded -/
def F53 (a0 : ByteArray) : Option (ByteArray × Bool) :=
  bndS (L53_0 a0) fun y0 =>
  bndS (L53_2 (y0, 0)) fun y1 =>
  sumS y1 (fun y1a =>
    some (y1a, true)) fun y1b =>
    some y1b
def B54_0 (a0 : Int) (a1 : Int) (a2 : (List Int)) (a3 : Int) : Option ((Int × (Int × ((List Int) × Int))) ⊕ (List Int)) :=
  sel (iLt a3 a1)
    (sel (lCap 1 (lApp a2 [a0])) (
    some (.inl (a0, (a1, ((lApp a2 [a0]), (iAdd .i64 a3 1)))))) none)
    (some (.inr a2))
def L54_0 (x : (Int × (Int × ((List Int) × Int)))) : Option (List Int) := iter (fun (x : (Int × (Int × ((List Int) × Int)))) => (B54_0 x.1 x.2.1 x.2.2.1 x.2.2.2)) fuel x
/-- midrangebase.Repeat -/
def F54 (a0 : Int) (a1 : Int) : Option ByteArray :=
  bndS (L54_0 (a0, (a1, (([] : List Int), 0)))) fun y0 =>
  some (sOf y0)
def B55_0 (a0 : ByteArray) (a1 : Int) (a2 : Int) (a3 : Int) (a4 : Int) : Option ((ByteArray × (Int × (Int × (Int × Int)))) ⊕ Int) :=
  sel (iLt a4 a2)
    (sel (oIn (iAdd .i64 a1 a4) (sLen a0)) (
    some (.inl (a0, (a1, (a2, ((iAdd .i64 (iMul .i64 a3 256) (iCv .i64 (sAt a0 (iAdd .i64 a1 a4)))), (iAdd .i64 a4 1))))))) none)
    (some (.inr a3))
def L55_0 (x : (ByteArray × (Int × (Int × (Int × Int))))) : Option Int := iter (fun (x : (ByteArray × (Int × (Int × (Int × Int))))) => (B55_0 x.1 x.2.1 x.2.2.1 x.2.2.2.1 x.2.2.2.2)) fuel x
/-- midrangebase.Big -/
def F55 (a0 : ByteArray) (a1 : Int) (a2 : Int) : Option Int :=
  bndS (L55_0 (a0, (a1, (a2, (0, 0))))) fun y0 =>
  some y0
/-- midrangebase.Within -/
def F35 (a0 : Int) (a1 : Int) (a2 : Int) : Bool :=
  (bAnd (iLe a1 a0) (iLe a0 a2))
def gF35 : FS := ⟨(.seq (.dat (.int .i64)) (.seq (.dat (.int .i64)) (.dat (.int .i64)))), 0, (.one ⟨.non, (.dat .bool), 0, 0⟩), fun x => some (F35 x.1 x.2.1 x.2.2)⟩
theorem eF35 (x : gF35.a.T) : kF env (GofL []) (LofL [(35, [])]) 35 (gF35.args x) (gF35.bs x) gF35.r.dec = gF35.F x := by kernel_rfl
theorem sF35 : SpecAt env 1 35 gF35 := mkSpec (r := 0) (gl := []) (L0 := []) (by kernel_rfl) trivial trivial eF35 (fun h => absurd h (by rw [show env.nl 35 = false by kernel_rfl]; decide))
end
end Go.Proofs.YtiddpfhpmodfbaaGreatDoor.K
end

section
set_option linter.unusedVariables false
set_option linter.unusedSimpArgs false
set_option linter.unnecessarySimpa false
open Go Go.Ev Go.Proofs
namespace Go.Proofs.YtiddpfhpmodfbaaGreatDoor.K
set_option linter.unusedVariables false
set_option maxRecDepth 100000
noncomputable section
/-- midrangebase.IsUpper -/
def F157 (a0 : Int) : Bool :=
  (bAnd (iLe 65 a0) (iLe a0 90))
def gF157 : FS := ⟨(.dat (.int .u8)), 0, (.one ⟨.non, (.dat .bool), 0, 0⟩), fun x => some (F157 x)⟩
theorem eF157 (x : gF157.a.T) : kF env (GofL []) (LofL [(157, [])]) 157 (gF157.args x) (gF157.bs x) gF157.r.dec = gF157.F x := by kernel_rfl
theorem sF157 : SpecAt env 1 157 gF157 := mkSpec (r := 0) (gl := []) (L0 := []) (by kernel_rfl) trivial trivial eF157 (fun h => absurd h (by rw [show env.nl 157 = false by kernel_rfl]; decide))
/-- midrangebase.IsDigit -/
def F158 (a0 : Int) : Bool :=
  (bAnd (iLe 48 a0) (iLe a0 57))
def gF158 : FS := ⟨(.dat (.int .u8)), 0, (.one ⟨.non, (.dat .bool), 0, 0⟩), fun x => some (F158 x)⟩
theorem eF158 (x : gF158.a.T) : kF env (GofL []) (LofL [(158, [])]) 158 (gF158.args x) (gF158.bs x) gF158.r.dec = gF158.F x := by kernel_rfl
theorem sF158 : SpecAt env 1 158 gF158 := mkSpec (r := 0) (gl := []) (L0 := []) (by kernel_rfl) trivial trivial eF158 (fun h => absurd h (by rw [show env.nl 158 = false by kernel_rfl]; decide))
def B108_0 (a0 : ByteArray) (a1 : Int) : Option ((ByteArray × Int) ⊕ (Unit ⊕ Bool)) :=
  sel (iLt a1 (sLen a0))
    (sel (oIn a1 (sLen a0)) (
    letS (F157 (sAt a0 a1)) fun y0 =>
    letS (F158 (sAt a0 a1)) fun y1 =>
    sel (bAnd (bNot (bOr (bOr (bOr y0 (iEq (sAt a0 a1) 36)) (iEq (sAt a0 a1) 35)) (iEq (sAt a0 a1) 64))) (bOr (iEq a1 0) (bAnd (bAnd (bNot y1) (bNot (iEq (sAt a0 a1) 95))) (bNot (iEq (sAt a0 a1) 46)))))
      (some (.inr (.inr false)))
      (some (.inl (a0, (iAdd .i64 a1 1))))) none)
    (some (.inr (.inl ())))
def L108_0 (x : (ByteArray × Int)) : Option (Unit ⊕ Bool) := iter (fun (x : (ByteArray × Int)) => (B108_0 x.1 x.2)) fuel x
def lsL108_0 : LS := ⟨(.one .normal ⟨.non, [0, 3], (.seq (.dat .str) (.dat (.int .i64))), 0, 52, 0⟩), (.two (.one (.exit 0) ⟨.non, [], .non, 0, 52, 0⟩) (.one .ret ⟨.non, [2], (.dat .bool), 0, 52, 0⟩)), fun (x : (ByteArray × Int)) => (B108_0 x.1 x.2)⟩
/-- midrangebase.IsName -/
def F108 (a0 : ByteArray) : Option Bool :=
  letS (F35 (sLen a0) 1 10) fun y0 =>
  sel (bNot y0)
    (some false)
    (bndS (L108_0 (a0, 0)) fun y1 =>
    sumS y1 (fun y1a =>
      some true) fun y1b =>
      some y1b)
def gF108 : FS := ⟨(.dat .str), 0, (.one ⟨.non, (.dat .bool), 0, 0⟩), fun x => (F108 x)⟩
theorem rL108_0 (x : lsL108_0.hd.T) : kRound env (GofL [(158, [gF158]), (157, [gF157]), (35, [gF35])]) (LofL [(108, [(0, lsL108_0)])]) 108 0 (lpOf Tryz.prog 108 0).2 (lsL108_0.hd.st x) lsL108_0.rd = lsL108_0.B x := by kernel_rfl
theorem eF108 (x : gF108.a.T) : kF env (GofL [(158, [gF158]), (157, [gF157]), (35, [gF35])]) (LofL [(108, [(0, lsL108_0)])]) 108 (gF108.args x) (gF108.bs x) gF108.r.dec = gF108.F x := by kernel_rfl
theorem sF108 : SpecAt env 2 108 gF108 := mkSpec (r := 1) (gl := [(158, [gF158]), (157, [gF157]), (35, [gF35])]) (L0 := [(0, lsL108_0)]) (by kernel_rfl) ⟨⟨sF158.up (by decide), trivial⟩, ⟨sF157.up (by decide), trivial⟩, ⟨sF35.up (by decide), trivial⟩, trivial⟩ ⟨⟨0, by kernel_rfl, by kernel_rfl, rL108_0⟩, trivial⟩ eF108 (fun h => absurd h (by rw [show env.nl 108 = false by kernel_rfl]; decide))
/-- midrangebase.Count -/
def F47 (a0 : Bool) : Option Int :=
  sel a0
    (some 1)
    (some 0)
def gF47 : FS := ⟨(.dat .bool), 0, (.one ⟨.non, (.dat (.int .i64)), 0, 0⟩), fun x => (F47 x)⟩
theorem eF47 (x : gF47.a.T) : kF env (GofL []) (LofL [(47, [])]) 47 (gF47.args x) (gF47.bs x) gF47.r.dec = gF47.F x := by kernel_rfl
theorem sF47 : SpecAt env 1 47 gF47 := mkSpec (r := 0) (gl := []) (L0 := []) (by kernel_rfl) trivial trivial eF47 (fun h => absurd h (by rw [show env.nl 47 = false by kernel_rfl]; decide))
/-- midrangeref11.NameErr -/
def F56 (a0 : (ByteArray × (ByteArray × Int))) : Option Int :=
  bndS (F108 a0.1) fun y0 =>
  sel (bOr (okS (F108 a0.2.1)) (bNot (bNot (bNot y0)))) (
  letS (valS (F108 a0.2.1) false) fun y1 =>
  sel (bOr (bNot y0) (bNot y1))
    (some 7)
    (letS (F35 a0.2.2 0 29) fun y2 =>
    bndS (F47 (bNot y2)) fun y3 =>
    some (iMul .i64 17 y3))) none
def gF56 : FS := ⟨(.agg (.dat (.pr .str (.pr .str (.int .i64))))), 0, (.one ⟨.non, (.dat (.int .i64)), 0, 0⟩), fun x => (F56 x)⟩
theorem eF56 (x : gF56.a.T) : kF env (GofL [(47, [gF47]), (35, [gF35]), (108, [gF108])]) (LofL [(56, [])]) 56 (gF56.args x) (gF56.bs x) gF56.r.dec = gF56.F x := by kernel_rfl
theorem sF56 : SpecAt env 3 56 gF56 := mkSpec (r := 2) (gl := [(47, [gF47]), (35, [gF35]), (108, [gF108])]) (L0 := []) (by kernel_rfl) ⟨⟨sF47.up (by decide), trivial⟩, ⟨sF35.up (by decide), trivial⟩, ⟨sF108.up (by decide), trivial⟩, trivial⟩ trivial eF56 (fun h => absurd h (by rw [show env.nl 56 = false by kernel_rfl]; decide))
def B57_0 (a0 : ByteArray) (a1 : Int) (a2 : Int) : Option ((ByteArray × (Int × Int)) ⊕ Int) :=
  sel (iLt a2 (sLen a0))
    (sel (oIn a2 (sLen a0)) (
    sel (oNz 4294967291) (
    some (.inl (a0, ((iRem (iAdd .i64 (iAdd .i64 (iMul .i64 257 a1) (iCv .i64 (sAt a0 a2))) 1) 4294967291), (iAdd .i64 a2 1))))) none) none)
    (some (.inr a1))
def L57_0 (x : (ByteArray × (Int × Int))) : Option Int := iter (fun (x : (ByteArray × (Int × Int))) => (B57_0 x.1 x.2.1 x.2.2)) fuel x
/-- midrangeref07.Sum -/
def F57 (a0 : ByteArray) : Option Int :=
  bndS (L57_0 (a0, (1, 0))) fun y0 =>
  some y0
/-- midrangeref11.HeaderIn -/
def F17 (a0 : ByteArray) : Option ((ByteArray × (ByteArray × Int)) × (Int × Int)) :=
  sel (bNot (iEq (sLen a0) 32))
    (some (((bs []), ((bs []), 0)), (0, 18)))
    (sel (oCut 5 15 (sLen a0)) (
    bndS (F53 (sCut a0 5 15)) fun y0 =>
    sel (oCut 15 25 (sLen a0)) (
    bndS (F53 (sCut a0 15 25)) fun y1 =>
    sel (oCut 0 4 (sLen a0)) (
    sel (bOr (oCut 30 (sLen a0) (sLen a0)) (bNot (bNot (bOr (bOr (bNot (sEq (sCut a0 0 4) (bs [42, 79, 66, 74]))) (bNot y0.2)) (bNot y1.2))))) (
    sel (bOr (okS (F54 0 2)) (bNot (bNot (bOr (bOr (bNot (sEq (sCut a0 0 4) (bs [42, 79, 66, 74]))) (bNot y0.2)) (bNot y1.2))))) (
    letS (valS (F54 0 2) ByteArray.empty) fun y2 =>
    sel (bOr (bOr (bOr (bNot (sEq (sCut a0 0 4) (bs [42, 79, 66, 74]))) (bNot y0.2)) (bNot y1.2)) (bNot (sEq (sCut a0 30 (sLen a0)) y2)))
      (some (((bs []), ((bs []), 0)), (0, 5)))
      (bndS (F55 a0 4 1) fun y3 =>
      bndS (F55 a0 25 1) fun y4 =>
      bndS (F56 (y0.1, (y1.1, y3))) fun y5 =>
      sel (bNot (iEq y5 0))
        (some (((bs []), ((bs []), 0)), (0, y5)))
        (letS (F35 y4 1 8) fun y6 =>
        sel (bNot y6)
          (some (((bs []), ((bs []), 0)), (0, 3)))
          (bndS (F55 a0 26 4) fun y7 =>
          sel (oCut 0 26 (sLen a0)) (
          bndS (F57 (sCut a0 0 26)) fun y8 =>
          sel (bNot (iEq y7 y8))
            (some (((bs []), ((bs []), 0)), (0, 33)))
            (some ((y0.1, (y1.1, y3)), (y4, 0)))) none)))) none) none) none) none) none)
/-- midrangelaw11.IplReads -/
def F3 (a0 : ByteArray) : Option Bool :=
  bndS (F15) fun y0 =>
  sel (bNot y0)
    (some false)
    (sel (iLt 100 (sLen a0))
      (some true)
      (bndS (F16 a0) fun y1 =>
      bndS (F17 a0) fun y2 =>
      some (bAnd (bAnd (iEq y1.2.2 y2.2.2) (bAnd (sEq y1.1.1 y2.1.1) (bAnd (sEq y1.1.2.1 y2.1.2.1) (iEq y1.1.2.2 y2.1.2.2)))) (iEq y1.2.1 y2.2.1))))
def B133_0 (a0 : Int) (a1 : Int) (a2 : (List Int)) (a3 : Int) : Option ((Int × (Int × ((List Int) × Int))) ⊕ (List Int)) :=
  sel (iLt a3 a1)
    (sel (oNz 256) (
    sel (oIn (iSub .i64 (iSub .i64 a1 1) a3) (lLen a2)) (
    sel (oNz 256) (
    some (.inl ((iQuo .i64 a0 256), (a1, ((lSet a2 (iSub .i64 (iSub .i64 a1 1) a3) (iCv .u8 (iRem a0 256))), (iAdd .i64 a3 1)))))) none) none) none)
    (some (.inr a2))
def L133_0 (x : (Int × (Int × ((List Int) × Int)))) : Option (List Int) := iter (fun (x : (Int × (Int × ((List Int) × Int)))) => (B133_0 x.1 x.2.1 x.2.2.1 x.2.2.2)) fuel x
/-- midrangebase.BigBytes -/
def F133 (a0 : Int) (a1 : Int) : Option ByteArray :=
  sel (nCap 1 a1) (
  bndS (L133_0 (a0, (a1, ((lRep a1 (0 : Int)), 0)))) fun y0 =>
  some (sOf y0)) none
/-- midrangebase.Padded -/
def F134 (a0 : ByteArray) (a1 : Int) : Option ByteArray :=
  sel (iLe a1 (sLen a0))
    (sel (oCut 0 a1 (sLen a0)) (
    some (sCut a0 0 a1)) none)
    (bndS (F54 32 (iSub .i64 a1 (sLen a0))) fun y0 =>
    sel (sOk a0 y0) (
    some (sAdd a0 y0)) none)
/-- midrangeref11.Summed -/
def F135 (a0 : ByteArray) : Option ByteArray :=
  bndS (F57 a0) fun y0 =>
  bndS (F133 y0 4) fun y1 =>
  sel (sOk a0 y1) (
  bndS (F54 0 2) fun y2 =>
  sel (sOk (sAdd a0 y1) y2) (
  some (sAdd (sAdd a0 y1) y2)) none) none
/-- midrangeref11.Header -/
def F80 (a0 : (ByteArray × (ByteArray × Int))) (a1 : Int) : Option ByteArray :=
  bndS (F133 a0.2.2 1) fun y0 =>
  sel (sOk (bs [42, 79, 66, 74]) y0) (
  bndS (F134 a0.1 10) fun y1 =>
  sel (sOk (sAdd (bs [42, 79, 66, 74]) y0) y1) (
  bndS (F134 a0.2.1 10) fun y2 =>
  sel (sOk (sAdd (sAdd (bs [42, 79, 66, 74]) y0) y1) y2) (
  bndS (F133 a1 1) fun y3 =>
  sel (sOk (sAdd (sAdd (sAdd (bs [42, 79, 66, 74]) y0) y1) y2) y3) (
  bndS (F135 (sAdd (sAdd (sAdd (sAdd (bs [42, 79, 66, 74]) y0) y1) y2) y3)) fun y4 =>
  some y4) none) none) none) none
def B18_0 (a0 : (List (Int × ByteArray))) (a1 : Int) (a2 : (List ((ByteArray × (ByteArray × Int)) × (Int × Int)))) (a3 : (List (Int × Int))) (a4 : Int) : Option ((((List (Int × ByteArray)) × (Int × ((List ((ByteArray × (ByteArray × Int)) × (Int × Int))) × (List (Int × Int))))) × Int) ⊕ (Unit ⊕ Bool)) :=
  sel (iLt a4 (lLen a0))
    (sel (oIn a4 (lLen a0)) (
    sel (iLt 400 (sLen (lAt a0 a4).2))
      (some (.inr (.inr false)))
      (some (.inl ((a0, (a1, (a2, a3))), (iAdd .i64 a4 1))))) none)
    (some (.inr (.inl ())))
def L18_0 (x : (((List (Int × ByteArray)) × (Int × ((List ((ByteArray × (ByteArray × Int)) × (Int × Int))) × (List (Int × Int))))) × Int)) : Option (Unit ⊕ Bool) := iter (fun (x : (((List (Int × ByteArray)) × (Int × ((List ((ByteArray × (ByteArray × Int)) × (Int × Int))) × (List (Int × Int))))) × Int)) => (B18_0 x.1.1 x.1.2.1 x.1.2.2.1 x.1.2.2.2 x.2)) fuel x
def lsL18_0 : LS := ⟨(.one .normal ⟨.non, [1, 3], (.seq (.box 0 (.seq (.dat (.sl (.pr (.int .i64) .str))) (.seq (.dat (.int .i64)) (.seq (.dat (.sl (.pr (.pr .str (.pr .str (.int .i64))) (.pr (.int .i64) (.int .i64))))) (.dat (.sl (.pr (.int .i64) (.int .i64)))))))) (.dat (.int .i64))), 1, 38, 0⟩), (.two (.one (.exit 0) ⟨.non, [], .non, 0, 38, 0⟩) (.one .ret ⟨.non, [2], (.dat .bool), 0, 38, 0⟩)), fun (x : (((List (Int × ByteArray)) × (Int × ((List ((ByteArray × (ByteArray × Int)) × (Int × Int))) × (List (Int × Int))))) × Int)) => (B18_0 x.1.1 x.1.2.1 x.1.2.2.1 x.1.2.2.2 x.2)⟩
/-- midrangelaw11.few -/
def F18 (a0 : (((List (Int × ByteArray)) × Int) × ((List ((ByteArray × (ByteArray × Int)) × (Int × Int))) × (List (Int × Int))))) : Option Bool :=
  sel (bOr (bOr (iLt 12 (lLen a0.1.1)) (iLt 14 (lLen a0.2.1))) (iLt 100 (lLen a0.2.2)))
    (some false)
    (bndS (L18_0 ((a0.1.1, (a0.1.2, a0.2)), 0)) fun y0 =>
    sumS y0 (fun y0a =>
      some true) fun y0b =>
      some y0b)
def gF18 : FS := ⟨(.agg (.dat (.pr (.pr (.sl (.pr (.int .i64) .str)) (.int .i64)) (.pr (.sl (.pr (.pr .str (.pr .str (.int .i64))) (.pr (.int .i64) (.int .i64)))) (.sl (.pr (.int .i64) (.int .i64))))))), 0, (.one ⟨.non, (.dat .bool), 0, 0⟩), fun x => (F18 x)⟩
theorem rL18_0 (x : lsL18_0.hd.T) : kRound env (GofL []) (LofL [(18, [(0, lsL18_0)])]) 18 0 (lpOf Tryz.prog 18 0).2 (lsL18_0.hd.st x) lsL18_0.rd = lsL18_0.B x := by kernel_rfl
theorem eF18 (x : gF18.a.T) : kF env (GofL []) (LofL [(18, [(0, lsL18_0)])]) 18 (gF18.args x) (gF18.bs x) gF18.r.dec = gF18.F x := by kernel_rfl
theorem sF18 : SpecAt env 1 18 gF18 := mkSpec (r := 0) (gl := []) (L0 := [(0, lsL18_0)]) (by kernel_rfl) trivial ⟨⟨0, by kernel_rfl, by kernel_rfl, rL18_0⟩, trivial⟩ eF18 (fun h => absurd h (by rw [show env.nl 18 = false by kernel_rfl]; decide))
/-- midrangeref04.Own -/
def F64 (a0 : ((List (Int × ByteArray)) × Int)) : Option ((List (Int × ByteArray)) × Int) :=
  sel (lCap 24 a0.1) (
  some a0) none
def gF64 : FS := ⟨(.agg (.dat (.pr (.sl (.pr (.int .i64) .str)) (.int .i64)))), 0, (.one ⟨.non, (.agg (.seq (.own 0 (.pr (.int .i64) .str)) (.dat (.int .i64)))), 0, 1⟩), fun x => (F64 x)⟩
theorem eF64 (x : gF64.a.T) : kF env (GofL []) (LofL [(64, [])]) 64 (gF64.args x) (gF64.bs x) gF64.r.dec = gF64.F x := by kernel_rfl
theorem sF64 : SpecAt env 1 64 gF64 := mkSpec (r := 0) (gl := []) (L0 := []) (by kernel_rfl) trivial trivial eF64 (fun h => absurd h (by rw [show env.nl 64 = false by kernel_rfl]; decide))
/-- midrangeref11.Own -/
def F20 (a0 : (((List (Int × ByteArray)) × Int) × ((List ((ByteArray × (ByteArray × Int)) × (Int × Int))) × (List (Int × Int))))) : Option ((List (Int × ByteArray)) × (Int × ((List ((ByteArray × (ByteArray × Int)) × (Int × Int))) × (List (Int × Int))))) :=
  bndS (F64 a0.1) fun y0 =>
  sel (lCap 56 a0.2.1) (
  sel (lCap 16 a0.2.2) (
  some (y0.1, (y0.2, a0.2))) none) none
def gF20 : FS := ⟨(.agg (.dat (.pr (.pr (.sl (.pr (.int .i64) .str)) (.int .i64)) (.pr (.sl (.pr (.pr .str (.pr .str (.int .i64))) (.pr (.int .i64) (.int .i64)))) (.sl (.pr (.int .i64) (.int .i64))))))), 0, (.one ⟨.non, (.agg (.seq (.own 0 (.pr (.int .i64) .str)) (.seq (.dat (.int .i64)) (.seq (.own 1 (.pr (.pr .str (.pr .str (.int .i64))) (.pr (.int .i64) (.int .i64)))) (.own 2 (.pr (.int .i64) (.int .i64))))))), 0, 3⟩), fun x => (F20 x)⟩
theorem eF20 (x : gF20.a.T) : kF env (GofL [(64, [gF64])]) (LofL [(20, [])]) 20 (gF20.args x) (gF20.bs x) gF20.r.dec = gF20.F x := by kernel_rfl
theorem sF20 : SpecAt env 2 20 gF20 := mkSpec (r := 1) (gl := [(64, [gF64])]) (L0 := []) (by kernel_rfl) ⟨⟨sF64.up (by decide), trivial⟩, trivial⟩ trivial eF20 (fun h => absurd h (by rw [show env.nl 20 = false by kernel_rfl]; decide))
/-- midrangeref04.Pages -/
def F75 (a0 : ByteArray) : Option Int :=
  sel (oNz 32) (
  some (iQuo .i64 (sLen a0) 32)) none
def gF75 : FS := ⟨(.dat .str), 0, (.one ⟨.non, (.dat (.int .i64)), 0, 0⟩), fun x => (F75 x)⟩
theorem eF75 (x : gF75.a.T) : kF env (GofL []) (LofL [(75, [])]) 75 (gF75.args x) (gF75.bs x) gF75.r.dec = gF75.F x := by kernel_rfl
theorem sF75 : SpecAt env 1 75 gF75 := mkSpec (r := 0) (gl := []) (L0 := []) (by kernel_rfl) trivial trivial eF75 (fun h => absurd h (by rw [show env.nl 75 = false by kernel_rfl]; decide))
def B114_0 (a0 : (List (Int × ByteArray))) (a1 : Int) (a2 : Int) : Option ((((List (Int × ByteArray)) × Int) × Int) ⊕ (Unit ⊕ (Int × Int))) :=
  sel (iLt a2 (lLen a0))
    (sel (oIn a2 (lLen a0)) (
    letS (F35 (lAt a0 a2).1 1 (iSub .i64 a1 1)) fun y0 =>
    sel (bNot y0)
      (some (.inr (.inr (a2, 3))))
      (sel (bOr (oIn (iSub .i64 a2 1) (lLen a0)) (bNot (iLt 0 a2))) (
      sel (bAnd (iLt 0 a2) (iLe (lAt a0 a2).1 (lAt a0 (iSub .i64 a2 1)).1))
        (some (.inr (.inr (a2, 14))))
        (sel (oNz 32) (
        sel (bOr (okS (F75 (lAt a0 a2).2)) (bNot (bNot (bNot (iEq (iRem (sLen (lAt a0 a2).2) 32) 0))))) (
        letS (valS (F75 (lAt a0 a2).2) 0) fun y1 =>
        letS (F35 y1 1 8) fun y2 =>
        sel (bOr (bNot (iEq (iRem (sLen (lAt a0 a2).2) 32) 0)) (bNot y2))
          (some (.inr (.inr (a2, 18))))
          (some (.inl ((a0, a1), (iAdd .i64 a2 1))))) none) none)) none)) none)
    (some (.inr (.inl ())))
def L114_0 (x : (((List (Int × ByteArray)) × Int) × Int)) : Option (Unit ⊕ (Int × Int)) := iter (fun (x : (((List (Int × ByteArray)) × Int) × Int)) => (B114_0 x.1.1 x.1.2 x.2)) fuel x
def lsL114_0 : LS := ⟨(.one .normal ⟨.non, [1, 4], (.seq (.box 0 (.seq (.dat (.sl (.pr (.int .i64) .str))) (.dat (.int .i64)))) (.dat (.int .i64))), 1, 62, 0⟩), (.two (.one (.exit 0) ⟨.non, [], .non, 0, 62, 0⟩) (.one .ret ⟨.non, [2, 3], (.seq (.dat (.int .i64)) (.dat (.int .i64))), 0, 62, 0⟩)), fun (x : (((List (Int × ByteArray)) × Int) × Int)) => (B114_0 x.1.1 x.1.2 x.2)⟩
/-- midrangeref04.Check -/
def F114 (a0 : ((List (Int × ByteArray)) × Int)) : Option (Int × Int) :=
  sel (iLt 10 (lLen a0.1))
    (some (0, 2))
    (letS (F35 a0.2 1 1001) fun y0 =>
    sel (bNot y0)
      (some (0, 3))
      (bndS (L114_0 (a0, 0)) fun y1 =>
      sumS y1 (fun y1a =>
        some (0, 0)) fun y1b =>
        some y1b))
def gF114 : FS := ⟨(.agg (.dat (.pr (.sl (.pr (.int .i64) .str)) (.int .i64)))), 0, (.one ⟨.non, (.tup (.seq (.dat (.int .i64)) (.dat (.int .i64)))), 0, 0⟩), fun x => (F114 x)⟩
theorem rL114_0 (x : lsL114_0.hd.T) : kRound env (GofL [(35, [gF35]), (75, [gF75])]) (LofL [(114, [(0, lsL114_0)])]) 114 0 (lpOf Tryz.prog 114 0).2 (lsL114_0.hd.st x) lsL114_0.rd = lsL114_0.B x := by kernel_rfl
theorem eF114 (x : gF114.a.T) : kF env (GofL [(35, [gF35]), (75, [gF75])]) (LofL [(114, [(0, lsL114_0)])]) 114 (gF114.args x) (gF114.bs x) gF114.r.dec = gF114.F x := by kernel_rfl
theorem sF114 : SpecAt env 2 114 gF114 := mkSpec (r := 1) (gl := [(35, [gF35]), (75, [gF75])]) (L0 := [(0, lsL114_0)]) (by kernel_rfl) ⟨⟨sF35.up (by decide), trivial⟩, ⟨sF75.up (by decide), trivial⟩, trivial⟩ ⟨⟨0, by kernel_rfl, by kernel_rfl, rL114_0⟩, trivial⟩ eF114 (fun h => absurd h (by rw [show env.nl 114 = false by kernel_rfl]; decide))
/-- midrangeref04.Err -/
def F65 (a0 : ((List (Int × ByteArray)) × Int)) : Option Int :=
  bndS (F114 a0) fun y0 =>
  some y0.2
def gF65 : FS := ⟨(.agg (.dat (.pr (.sl (.pr (.int .i64) .str)) (.int .i64)))), 0, (.one ⟨.non, (.dat (.int .i64)), 0, 0⟩), fun x => (F65 x)⟩
theorem eF65 (x : gF65.a.T) : kF env (GofL [(114, [gF114])]) (LofL [(65, [])]) 65 (gF65.args x) (gF65.bs x) gF65.r.dec = gF65.F x := by kernel_rfl
theorem sF65 : SpecAt env 3 65 gF65 := mkSpec (r := 2) (gl := [(114, [gF114])]) (L0 := []) (by kernel_rfl) ⟨⟨sF114.up (by decide), trivial⟩, trivial⟩ trivial eF65 (fun h => absurd h (by rw [show env.nl 65 = false by kernel_rfl]; decide))
/-- midrangeref11.Before -/
def F115 (a0 : (ByteArray × (ByteArray × Int))) (a1 : (ByteArray × (ByteArray × Int))) : Option Bool :=
  sel (bNot (sEq a0.1 a1.1))
    (some (sLt a0.1 a1.1))
    (sel (bNot (sEq a0.2.1 a1.2.1))
      (some (sLt a0.2.1 a1.2.1))
      (some (iLt a0.2.2 a1.2.2)))
def gF115 : FS := ⟨(.seq (.agg (.dat (.pr .str (.pr .str (.int .i64))))) (.agg (.dat (.pr .str (.pr .str (.int .i64)))))), 0, (.one ⟨.non, (.dat .bool), 0, 0⟩), fun x => (F115 x.1 x.2)⟩
theorem eF115 (x : gF115.a.T) : kF env (GofL []) (LofL [(115, [])]) 115 (gF115.args x) (gF115.bs x) gF115.r.dec = gF115.F x := by kernel_rfl
theorem sF115 : SpecAt env 1 115 gF115 := mkSpec (r := 0) (gl := []) (L0 := []) (by kernel_rfl) trivial trivial eF115 (fun h => absurd h (by rw [show env.nl 115 = false by kernel_rfl]; decide))
def B66_0 (a0 : Int) (a1 : (List ((ByteArray × (ByteArray × Int)) × (Int × Int)))) (a2 : Int) : Option ((Int × ((List ((ByteArray × (ByteArray × Int)) × (Int × Int))) × Int)) ⊕ (Unit ⊕ Int)) :=
  sel (iLt a2 a0)
    (sel (oIn a2 (lLen a1)) (
    sel (oIn a0 (lLen a1)) (
    sel (iEq (lAt a1 a2).2.1 (lAt a1 a0).2.1)
      (some (.inr (.inr 13)))
      (some (.inl (a0, (a1, (iAdd .i64 a2 1)))))) none) none)
    (some (.inr (.inl ())))
def L66_0 (x : (Int × ((List ((ByteArray × (ByteArray × Int)) × (Int × Int))) × Int))) : Option (Unit ⊕ Int) := iter (fun (x : (Int × ((List ((ByteArray × (ByteArray × Int)) × (Int × Int))) × Int))) => (B66_0 x.1 x.2.1 x.2.2)) fuel x
def lsL66_0 : LS := ⟨(.one .normal ⟨.non, [1, 5, 7], (.seq (.dat (.int .i64)) (.seq (.dat (.sl (.pr (.pr .str (.pr .str (.int .i64))) (.pr (.int .i64) (.int .i64))))) (.dat (.int .i64)))), 0, 72, 0⟩), (.two (.one (.exit 0) ⟨.non, [], .non, 0, 72, 0⟩) (.one .ret ⟨.non, [4], (.dat (.int .i64)), 0, 72, 0⟩)), fun (x : (Int × ((List ((ByteArray × (ByteArray × Int)) × (Int × Int))) × Int))) => (B66_0 x.1 x.2.1 x.2.2)⟩
/-- midrangeref11.entryErr -/
def F66 (a0 : (((List (Int × ByteArray)) × Int) × ((List ((ByteArray × (ByteArray × Int)) × (Int × Int))) × (List (Int × Int))))) (a1 : Int) : Option Int :=
  sel (oIn a1 (lLen a0.2.1)) (
  bndS (F56 (lAt a0.2.1 a1).1) fun y0 =>
  sel (bNot (iEq y0 0))
    (some y0)
    (sel (bOr (oIn (iSub .i64 a1 1) (lLen a0.2.1)) (bNot (iLt 0 a1))) (
    sel (bOr (oIn a1 (lLen a0.2.1)) (bNot (iLt 0 a1))) (
    sel (bOr (okS (F115 (lAt a0.2.1 (iSub .i64 a1 1)).1 (lAt a0.2.1 a1).1)) (bNot (iLt 0 a1))) (
    letS (valS (F115 (lAt a0.2.1 (iSub .i64 a1 1)).1 (lAt a0.2.1 a1).1) false) fun y1 =>
    sel (bAnd (iLt 0 a1) (bNot y1))
      (some 14)
      (sel (oIn a1 (lLen a0.2.1)) (
      letS (F35 (lAt a0.2.1 a1).2.1 1 (iSub .i64 a0.1.2 1)) fun y2 =>
      sel (bOr (oIn a1 (lLen a0.2.1)) (bNot (bNot (bNot y2)))) (
      letS (F35 (lAt a0.2.1 a1).2.2 0 3) fun y3 =>
      sel (bOr (bNot y2) (bNot y3))
        (some 3)
        (bndS (L66_0 (a1, (a0.2.1, 0))) fun y4 =>
        sumS y4 (fun y4a =>
          some 0) fun y4b =>
          some y4b)) none) none)) none) none) none)) none
def gF66 : FS := ⟨(.seq (.agg (.dat (.pr (.pr (.sl (.pr (.int .i64) .str)) (.int .i64)) (.pr (.sl (.pr (.pr .str (.pr .str (.int .i64))) (.pr (.int .i64) (.int .i64)))) (.sl (.pr (.int .i64) (.int .i64))))))) (.dat (.int .i64))), 0, (.one ⟨.non, (.dat (.int .i64)), 0, 0⟩), fun x => (F66 x.1 x.2)⟩
theorem rL66_0 (x : lsL66_0.hd.T) : kRound env (GofL [(35, [gF35]), (115, [gF115]), (56, [gF56])]) (LofL [(66, [(0, lsL66_0)])]) 66 0 (lpOf Tryz.prog 66 0).2 (lsL66_0.hd.st x) lsL66_0.rd = lsL66_0.B x := by kernel_rfl
theorem eF66 (x : gF66.a.T) : kF env (GofL [(35, [gF35]), (115, [gF115]), (56, [gF56])]) (LofL [(66, [(0, lsL66_0)])]) 66 (gF66.args x) (gF66.bs x) gF66.r.dec = gF66.F x := by kernel_rfl
theorem sF66 : SpecAt env 4 66 gF66 := mkSpec (r := 3) (gl := [(35, [gF35]), (115, [gF115]), (56, [gF56])]) (L0 := [(0, lsL66_0)]) (by kernel_rfl) ⟨⟨sF35.up (by decide), trivial⟩, ⟨sF115.up (by decide), trivial⟩, ⟨sF56.up (by decide), trivial⟩, trivial⟩ ⟨⟨0, by kernel_rfl, by kernel_rfl, rL66_0⟩, trivial⟩ eF66 (fun h => absurd h (by rw [show env.nl 66 = false by kernel_rfl]; decide))
def B21_0 (a0 : (List (Int × ByteArray))) (a1 : Int) (a2 : (List ((ByteArray × (ByteArray × Int)) × (Int × Int)))) (a3 : (List (Int × Int))) (a4 : Int) : Option ((((List (Int × ByteArray)) × (Int × ((List ((ByteArray × (ByteArray × Int)) × (Int × Int))) × (List (Int × Int))))) × Int) ⊕ (((List (Int × ByteArray)) × (Int × ((List ((ByteArray × (ByteArray × Int)) × (Int × Int))) × (List (Int × Int))))) ⊕ (Int × Int))) :=
  sel (iLt a4 (lLen a2))
    (bndS (F66 ((a0, a1), (a2, a3)) a4) fun y0 =>
    sel (bNot (iEq y0 0))
      (some (.inr (.inr (a4, y0))))
      (some (.inl ((a0, (a1, (a2, a3))), (iAdd .i64 a4 1)))))
    (some (.inr (.inl (a0, (a1, (a2, a3))))))
def L21_0 (x : (((List (Int × ByteArray)) × (Int × ((List ((ByteArray × (ByteArray × Int)) × (Int × Int))) × (List (Int × Int))))) × Int)) : Option (((List (Int × ByteArray)) × (Int × ((List ((ByteArray × (ByteArray × Int)) × (Int × Int))) × (List (Int × Int))))) ⊕ (Int × Int)) := iter (fun (x : (((List (Int × ByteArray)) × (Int × ((List ((ByteArray × (ByteArray × Int)) × (Int × Int))) × (List (Int × Int))))) × Int)) => (B21_0 x.1.1 x.1.2.1 x.1.2.2.1 x.1.2.2.2 x.2)) fuel x
def lsL21_0 : LS := ⟨(.one .normal ⟨.non, [1, 5], (.seq (.box 0 (.seq (.dat (.sl (.pr (.int .i64) .str))) (.seq (.dat (.int .i64)) (.seq (.dat (.sl (.pr (.pr .str (.pr .str (.int .i64))) (.pr (.int .i64) (.int .i64))))) (.dat (.sl (.pr (.int .i64) (.int .i64)))))))) (.dat (.int .i64))), 1, 74, 0⟩), (.two (.one (.exit 0) ⟨.non, [1], (.box 0 (.seq (.dat (.sl (.pr (.int .i64) .str))) (.seq (.dat (.int .i64)) (.seq (.dat (.sl (.pr (.pr .str (.pr .str (.int .i64))) (.pr (.int .i64) (.int .i64))))) (.dat (.sl (.pr (.int .i64) (.int .i64)))))))), 1, 74, 0⟩) (.one .ret ⟨.non, [2, 3], (.seq (.dat (.int .i64)) (.dat (.int .i64))), 0, 74, 0⟩)), fun (x : (((List (Int × ByteArray)) × (Int × ((List ((ByteArray × (ByteArray × Int)) × (Int × Int))) × (List (Int × Int))))) × Int)) => (B21_0 x.1.1 x.1.2.1 x.1.2.2.1 x.1.2.2.2 x.2)⟩
def B28_0 (a0 : Int) (a1 : (List (Int × ByteArray))) (a2 : Int) (a3 : Int) : Option ((Int × (((List (Int × ByteArray)) × Int) × Int)) ⊕ (Unit ⊕ Int)) :=
  sel (iLt a3 (lLen a1))
    (sel (oIn a3 (lLen a1)) (
    sel (iEq (lAt a1 a3).1 a0)
      (some (.inr (.inr a3)))
      (some (.inl (a0, ((a1, a2), (iAdd .i64 a3 1)))))) none)
    (some (.inr (.inl ())))
def L28_0 (x : (Int × (((List (Int × ByteArray)) × Int) × Int))) : Option (Unit ⊕ Int) := iter (fun (x : (Int × (((List (Int × ByteArray)) × Int) × Int))) => (B28_0 x.1 x.2.1.1 x.2.1.2 x.2.2)) fuel x
def lsL28_0 : LS := ⟨(.one .normal ⟨.non, [1, 2, 5], (.seq (.dat (.int .i64)) (.seq (.box 0 (.seq (.dat (.sl (.pr (.int .i64) .str))) (.dat (.int .i64)))) (.dat (.int .i64)))), 1, 22, 0⟩), (.two (.one (.exit 0) ⟨.non, [], .non, 0, 22, 0⟩) (.one .ret ⟨.non, [4], (.dat (.int .i64)), 0, 22, 0⟩)), fun (x : (Int × (((List (Int × ByteArray)) × Int) × Int))) => (B28_0 x.1 x.2.1.1 x.2.1.2 x.2.2)⟩
/-- midrangeref04.Place -/
def F28 (a0 : ((List (Int × ByteArray)) × Int)) (a1 : Int) : Option Int :=
  bndS (L28_0 (a1, (a0, 0))) fun y0 =>
  sumS y0 (fun y0a =>
    some (-1)) fun y0b =>
    some y0b
def gF28 : FS := ⟨(.seq (.agg (.dat (.pr (.sl (.pr (.int .i64) .str)) (.int .i64)))) (.dat (.int .i64))), 0, (.one ⟨.non, (.dat (.int .i64)), 0, 0⟩), fun x => (F28 x.1 x.2)⟩
theorem rL28_0 (x : lsL28_0.hd.T) : kRound env (GofL []) (LofL [(28, [(0, lsL28_0)])]) 28 0 (lpOf Tryz.prog 28 0).2 (lsL28_0.hd.st x) lsL28_0.rd = lsL28_0.B x := by kernel_rfl
theorem eF28 (x : gF28.a.T) : kF env (GofL []) (LofL [(28, [(0, lsL28_0)])]) 28 (gF28.args x) (gF28.bs x) gF28.r.dec = gF28.F x := by kernel_rfl
theorem sF28 : SpecAt env 1 28 gF28 := mkSpec (r := 0) (gl := []) (L0 := [(0, lsL28_0)]) (by kernel_rfl) trivial ⟨⟨0, by kernel_rfl, by kernel_rfl, rL28_0⟩, trivial⟩ eF28 (fun h => absurd h (by rw [show env.nl 28 = false by kernel_rfl]; decide))
/-- midrangeref05.HasPage -/
def F67 (a0 : ((List (Int × ByteArray)) × Int)) (a1 : Int) (a2 : Int) : Option Bool :=
  bndS (F28 a0 a1) fun y0 =>
  sel (bOr (oIn y0 (lLen a0.1)) (bNot (bNot (iEq y0 (-1))))) (
  sel (bOr (okS (F75 (lAt a0.1 y0).2)) (bNot (bNot (iEq y0 (-1))))) (
  letS (valS (F75 (lAt a0.1 y0).2) 0) fun y1 =>
  letS (F35 a2 0 (iSub .i64 y1 1)) fun y2 =>
  some (bAnd (bNot (iEq y0 (-1))) y2)) none) none
def gF67 : FS := ⟨(.seq (.agg (.dat (.pr (.sl (.pr (.int .i64) .str)) (.int .i64)))) (.seq (.dat (.int .i64)) (.dat (.int .i64)))), 0, (.one ⟨.non, (.dat .bool), 0, 0⟩), fun x => (F67 x.1 x.2.1 x.2.2)⟩
theorem eF67 (x : gF67.a.T) : kF env (GofL [(35, [gF35]), (75, [gF75]), (28, [gF28])]) (LofL [(67, [])]) 67 (gF67.args x) (gF67.bs x) gF67.r.dec = gF67.F x := by kernel_rfl
theorem sF67 : SpecAt env 2 67 gF67 := mkSpec (r := 1) (gl := [(35, [gF35]), (75, [gF75]), (28, [gF28])]) (L0 := []) (by kernel_rfl) ⟨⟨sF35.up (by decide), trivial⟩, ⟨sF75.up (by decide), trivial⟩, ⟨sF28.up (by decide), trivial⟩, trivial⟩ trivial eF67 (fun h => absurd h (by rw [show env.nl 67 = false by kernel_rfl]; decide))
/-- midrangeref11.behind -/
def F68 (a0 : (Int × Int)) (a1 : (Int × Int)) : Bool :=
  (bOr (iLt a1.1 a0.1) (bAnd (iEq a0.1 a1.1) (iLt a1.2 a0.2)))
def gF68 : FS := ⟨(.seq (.agg (.dat (.pr (.int .i64) (.int .i64)))) (.agg (.dat (.pr (.int .i64) (.int .i64))))), 0, (.one ⟨.non, (.dat .bool), 0, 0⟩), fun x => some (F68 x.1 x.2)⟩
theorem eF68 (x : gF68.a.T) : kF env (GofL []) (LofL [(68, [])]) 68 (gF68.args x) (gF68.bs x) gF68.r.dec = gF68.F x := by kernel_rfl
theorem sF68 : SpecAt env 1 68 gF68 := mkSpec (r := 0) (gl := []) (L0 := []) (by kernel_rfl) trivial trivial eF68 (fun h => absurd h (by rw [show env.nl 68 = false by kernel_rfl]; decide))
def B21_2 (a0 : (List (Int × ByteArray))) (a1 : Int) (a2 : (List ((ByteArray × (ByteArray × Int)) × (Int × Int)))) (a3 : (List (Int × Int))) (a4 : Int) : Option ((((List (Int × ByteArray)) × (Int × ((List ((ByteArray × (ByteArray × Int)) × (Int × Int))) × (List (Int × Int))))) × Int) ⊕ (Unit ⊕ (Int × Int))) :=
  sel (iLt a4 (lLen a3))
    (sel (oIn a4 (lLen a3)) (
    sel (oIn a4 (lLen a3)) (
    bndS (F67 (a0, a1) (lAt a3 a4).1 (lAt a3 a4).2) fun y0 =>
    sel (bNot y0)
      (some (.inr (.inr (a4, 11))))
      (sel (bOr (oIn a4 (lLen a3)) (bNot (iLt 0 a4))) (
      sel (bOr (oIn (iSub .i64 a4 1) (lLen a3)) (bNot (iLt 0 a4))) (
      letS (F68 (lAt a3 a4) (lAt a3 (iSub .i64 a4 1))) fun y1 =>
      sel (bAnd (iLt 0 a4) (bNot y1))
        (some (.inr (.inr (a4, 14))))
        (some (.inl ((a0, (a1, (a2, a3))), (iAdd .i64 a4 1))))) none) none)) none) none)
    (some (.inr (.inl ())))
def L21_2 (x : (((List (Int × ByteArray)) × (Int × ((List ((ByteArray × (ByteArray × Int)) × (Int × Int))) × (List (Int × Int))))) × Int)) : Option (Unit ⊕ (Int × Int)) := iter (fun (x : (((List (Int × ByteArray)) × (Int × ((List ((ByteArray × (ByteArray × Int)) × (Int × Int))) × (List (Int × Int))))) × Int)) => (B21_2 x.1.1 x.1.2.1 x.1.2.2.1 x.1.2.2.2 x.2)) fuel x
def lsL21_2 : LS := ⟨(.one .normal ⟨.non, [1, 7], (.seq (.box 0 (.seq (.dat (.sl (.pr (.int .i64) .str))) (.seq (.dat (.int .i64)) (.seq (.dat (.sl (.pr (.pr .str (.pr .str (.int .i64))) (.pr (.int .i64) (.int .i64))))) (.dat (.sl (.pr (.int .i64) (.int .i64)))))))) (.dat (.int .i64))), 1, 74, 0⟩), (.two (.one (.exit 2) ⟨.non, [], .non, 0, 74, 0⟩) (.one .ret ⟨.non, [2, 3], (.seq (.dat (.int .i64)) (.dat (.int .i64))), 0, 74, 0⟩)), fun (x : (((List (Int × ByteArray)) × (Int × ((List ((ByteArray × (ByteArray × Int)) × (Int × Int))) × (List (Int × Int))))) × Int)) => (B21_2 x.1.1 x.1.2.1 x.1.2.2.1 x.1.2.2.2 x.2)⟩
/-- midrangeref11.Check -/
def F21 (a0 : (((List (Int × ByteArray)) × Int) × ((List ((ByteArray × (ByteArray × Int)) × (Int × Int))) × (List (Int × Int))))) : Option (Int × Int) :=
  bndS (F65 a0.1) fun y0 =>
  sel (bNot (iEq y0 0))
    (some (0, y0))
    (sel (iLt 12 (lLen a0.2.1))
      (some (0, 2))
      (bndS (L21_0 ((a0.1.1, (a0.1.2, a0.2)), 0)) fun y1 =>
      sumS y1 (fun y1a =>
        bndS (L21_2 (y1a, 0)) fun y2 =>
        sumS y2 (fun y2a =>
          some (0, 0)) fun y2b =>
          some y2b) fun y1b =>
        some y1b))
def gF21 : FS := ⟨(.agg (.dat (.pr (.pr (.sl (.pr (.int .i64) .str)) (.int .i64)) (.pr (.sl (.pr (.pr .str (.pr .str (.int .i64))) (.pr (.int .i64) (.int .i64)))) (.sl (.pr (.int .i64) (.int .i64))))))), 0, (.one ⟨.non, (.tup (.seq (.dat (.int .i64)) (.dat (.int .i64)))), 0, 0⟩), fun x => (F21 x)⟩
theorem rL21_0 (x : lsL21_0.hd.T) : kRound env (GofL [(68, [gF68]), (67, [gF67]), (66, [gF66]), (65, [gF65])]) (LofL [(21, [(0, lsL21_0), (2, lsL21_2)])]) 21 0 (lpOf Tryz.prog 21 0).2 (lsL21_0.hd.st x) lsL21_0.rd = lsL21_0.B x := by kernel_rfl
theorem rL21_2 (x : lsL21_2.hd.T) : kRound env (GofL [(68, [gF68]), (67, [gF67]), (66, [gF66]), (65, [gF65])]) (LofL [(21, [(0, lsL21_0), (2, lsL21_2)])]) 21 2 (lpOf Tryz.prog 21 1).2 (lsL21_2.hd.st x) lsL21_2.rd = lsL21_2.B x := by kernel_rfl
theorem eF21 (x : gF21.a.T) : kF env (GofL [(68, [gF68]), (67, [gF67]), (66, [gF66]), (65, [gF65])]) (LofL [(21, [(0, lsL21_0), (2, lsL21_2)])]) 21 (gF21.args x) (gF21.bs x) gF21.r.dec = gF21.F x := by kernel_rfl
theorem sF21 : SpecAt env 5 21 gF21 := mkSpec (r := 4) (gl := [(68, [gF68]), (67, [gF67]), (66, [gF66]), (65, [gF65])]) (L0 := [(0, lsL21_0), (2, lsL21_2)]) (by kernel_rfl) ⟨⟨sF68.up (by decide), trivial⟩, ⟨sF67.up (by decide), trivial⟩, ⟨sF66.up (by decide), trivial⟩, ⟨sF65.up (by decide), trivial⟩, trivial⟩ ⟨⟨0, by kernel_rfl, by kernel_rfl, rL21_0⟩, ⟨1, by kernel_rfl, by kernel_rfl, rL21_2⟩, trivial⟩ eF21 (fun h => absurd h (by rw [show env.nl 21 = false by kernel_rfl]; decide))
end
end Go.Proofs.YtiddpfhpmodfbaaGreatDoor.K
end
