/- A part of the proof: texts of the author, joined. -/
import Derived.Test.YtagcodkkkebnhaaKS2
section
set_option linter.unusedVariables false
set_option linter.unusedSimpArgs false
set_option linter.unnecessarySimpa false
open Go Go.Ev Go.Proofs
namespace Go.Proofs.Ytagcodkkkebnhaa.K
set_option linter.unusedVariables false
set_option maxRecDepth 100000
noncomputable section
/-- midrangeref05.before -/
def F91 (a0 : (Int × (Bool × (Bool × (Int × (Int × (ByteArray × (Int × Int)))))))) (a1 : (Int × (Bool × (Bool × (Int × (Int × (ByteArray × (Int × Int)))))))) : Option Bool :=
  sel (bNot (bEq a0.2.2.1 a1.2.2.1))
    (some (bNot a0.2.2.1))
    (some (iLe a0.2.2.2.2.2.2.1 a1.2.2.2.2.2.2.1))
def gF91 : FS := ⟨(.seq (.agg (.dat (.pr (.int .i64) (.pr .bool (.pr .bool (.pr (.int .i64) (.pr (.int .i64) (.pr .str (.pr (.int .i64) (.int .i64)))))))))) (.agg (.dat (.pr (.int .i64) (.pr .bool (.pr .bool (.pr (.int .i64) (.pr (.int .i64) (.pr .str (.pr (.int .i64) (.int .i64))))))))))), 0, (.one ⟨.non, (.dat .bool), 0, 0⟩), fun x => (F91 x.1 x.2)⟩
theorem eF91 (x : gF91.a.T) : kF env (GofL []) (LofL [(91, [])]) 91 (gF91.args x) (gF91.bs x) gF91.r.dec = gF91.F x := by kernel_rfl
theorem sF91 : SpecAt env 1 91 gF91 := mkSpec (r := 0) (gl := []) (L0 := []) (by kernel_rfl) trivial trivial eF91 (fun h => absurd h (by rw [show env.nl 91 = false by kernel_rfl]; decide))
def B62_0 (a0 : Int) (a1 : (List (Int × ByteArray))) (a2 : Int) (a3 : (List (Int × (Bool × (Bool × (Int × (Int × (ByteArray × (Int × Int))))))))) (a4 : (List Int)) (a5 : Int) (a6 : Int) (a7 : Int) (a8 : Int) (a9 : Int) : Option ((Int × (((List (Int × ByteArray)) × (Int × ((List (Int × (Bool × (Bool × (Int × (Int × (ByteArray × (Int × Int)))))))) × ((List Int) × (Int × (Int × Int)))))) × (Int × Int))) ⊕ (Int ⊕ Int)) :=
  sel (iLt a9 (lLen a3))
    (sel (oIn a9 (lLen a3)) (
    sel (bNot (iEq (lAt a3 a9).1 a0))
      (some (.inl (a0, ((a1, (a2, (a3, (a4, (a5, (a6, a7)))))), (a8, (iAdd .i64 a9 1))))))
      (sel (bNot (lAt a3 a9).2.1)
        (some (.inr (.inr a9)))
        (sel (bOr (oIn a8 (lLen a3)) (bNot (bNot (iEq a8 (-1))))) (
        sel (bOr (okS (F91 (lAt a3 a8) (lAt a3 a9))) (bNot (bNot (iEq a8 (-1))))) (
        letS (valS (F91 (lAt a3 a8) (lAt a3 a9)) false) fun y0 =>
        some (.inl (a0, ((a1, (a2, (a3, (a4, (a5, (a6, a7)))))), ((sel (bOr (iEq a8 (-1)) (bNot y0)) a9 a8), (iAdd .i64 a9 1)))))) none) none))) none)
    (some (.inr (.inl a8)))
def L62_0 (x : (Int × (((List (Int × ByteArray)) × (Int × ((List (Int × (Bool × (Bool × (Int × (Int × (ByteArray × (Int × Int)))))))) × ((List Int) × (Int × (Int × Int)))))) × (Int × Int)))) : Option (Int ⊕ Int) := iter (fun (x : (Int × (((List (Int × ByteArray)) × (Int × ((List (Int × (Bool × (Bool × (Int × (Int × (ByteArray × (Int × Int)))))))) × ((List Int) × (Int × (Int × Int)))))) × (Int × Int)))) => (B62_0 x.1 x.2.1.1 x.2.1.2.1 x.2.1.2.2.1 x.2.1.2.2.2.1 x.2.1.2.2.2.2.1 x.2.1.2.2.2.2.2.1 x.2.1.2.2.2.2.2.2 x.2.2.1 x.2.2.2)) fuel x
def lsL62_0 : LS := ⟨(.one .normal ⟨.non, [1, 2, 5, 6], (.seq (.dat (.int .i64)) (.seq (.box 0 (.seq (.dat (.sl (.pr (.int .i64) .str))) (.seq (.dat (.int .i64)) (.seq (.dat (.sl (.pr (.int .i64) (.pr .bool (.pr .bool (.pr (.int .i64) (.pr (.int .i64) (.pr .str (.pr (.int .i64) (.int .i64)))))))))) (.seq (.dat (.sl (.int .i64))) (.seq (.dat (.int .i64)) (.seq (.dat (.int .i64)) (.dat (.int .i64))))))))) (.seq (.dat (.int .i64)) (.dat (.int .i64))))), 1, 42, 0⟩), (.two (.one (.exit 0) ⟨.non, [5], (.dat (.int .i64)), 0, 42, 0⟩) (.one .ret ⟨.non, [4], (.dat (.int .i64)), 0, 42, 0⟩)), fun (x : (Int × (((List (Int × ByteArray)) × (Int × ((List (Int × (Bool × (Bool × (Int × (Int × (ByteArray × (Int × Int)))))))) × ((List Int) × (Int × (Int × Int)))))) × (Int × Int)))) => (B62_0 x.1 x.2.1.1 x.2.1.2.1 x.2.1.2.2.1 x.2.1.2.2.2.1 x.2.1.2.2.2.2.1 x.2.1.2.2.2.2.2.1 x.2.1.2.2.2.2.2.2 x.2.2.1 x.2.2.2)⟩
/-- midrangeref05.Victim -/
def F62 (a0 : (((List (Int × ByteArray)) × Int) × ((List (Int × (Bool × (Bool × (Int × (Int × (ByteArray × (Int × Int)))))))) × ((List Int) × (Int × (Int × Int)))))) (a1 : Int) : Option Int :=
  bndS (L62_0 (a1, ((a0.1.1, (a0.1.2, a0.2)), ((-1), 0)))) fun y0 =>
  sumS y0 (fun y0a =>
    some y0a) fun y0b =>
    some y0b
def gF62 : FS := ⟨(.seq (.agg (.dat (.pr (.pr (.sl (.pr (.int .i64) .str)) (.int .i64)) (.pr (.sl (.pr (.int .i64) (.pr .bool (.pr .bool (.pr (.int .i64) (.pr (.int .i64) (.pr .str (.pr (.int .i64) (.int .i64))))))))) (.pr (.sl (.int .i64)) (.pr (.int .i64) (.pr (.int .i64) (.int .i64)))))))) (.dat (.int .i64))), 0, (.one ⟨.non, (.dat (.int .i64)), 0, 0⟩), fun x => (F62 x.1 x.2)⟩
theorem rL62_0 (x : lsL62_0.hd.T) : kRound env (GofL [(91, [gF91])]) (LofL [(62, [(0, lsL62_0)])]) 62 0 (lpOf Try.prog 62 0).2 (lsL62_0.hd.st x) lsL62_0.rd = lsL62_0.B x := by kernel_rfl
theorem eF62 (x : gF62.a.T) : kF env (GofL [(91, [gF91])]) (LofL [(62, [(0, lsL62_0)])]) 62 (gF62.args x) (gF62.bs x) gF62.r.dec = gF62.F x := by kernel_rfl
theorem sF62 : SpecAt env 2 62 gF62 := mkSpec (r := 1) (gl := [(91, [gF91])]) (L0 := [(0, lsL62_0)]) (by kernel_rfl) ⟨⟨sF91.up (by decide), trivial⟩, trivial⟩ ⟨⟨0, by kernel_rfl, by kernel_rfl, rL62_0⟩, trivial⟩ eF62 (fun h => absurd h (by rw [show env.nl 62 = false by kernel_rfl]; decide))
/-- midrangelaw05.replaces -/
def F32 (a0 : (((List (Int × ByteArray)) × Int) × ((List (Int × (Bool × (Bool × (Int × (Int × (ByteArray × (Int × Int)))))))) × ((List Int) × (Int × (Int × Int)))))) (a1 : Int) (a2 : Int) (a3 : Int) : Option Bool :=
  letS (F52 a1) fun y0 =>
  sel (bNot y0)
    (some (bAnd (iEq a3 3) (iEq a2 0)))
    (bndS (F62 a0 a1) fun y1 =>
    sel (iEq y1 (-1))
      (some (bAnd (iEq a3 40) (iEq a2 0)))
      (some (bAnd (iEq a3 0) (iEq a2 y1))))
def gF32 : FS := ⟨(.seq (.agg (.dat (.pr (.pr (.sl (.pr (.int .i64) .str)) (.int .i64)) (.pr (.sl (.pr (.int .i64) (.pr .bool (.pr .bool (.pr (.int .i64) (.pr (.int .i64) (.pr .str (.pr (.int .i64) (.int .i64))))))))) (.pr (.sl (.int .i64)) (.pr (.int .i64) (.pr (.int .i64) (.int .i64)))))))) (.seq (.dat (.int .i64)) (.seq (.dat (.int .i64)) (.dat (.int .i64))))), 0, (.one ⟨.non, (.dat .bool), 0, 0⟩), fun x => (F32 x.1 x.2.1 x.2.2.1 x.2.2.2)⟩
theorem eF32 (x : gF32.a.T) : kF env (GofL [(62, [gF62]), (52, [gF52])]) (LofL [(32, [])]) 32 (gF32.args x) (gF32.bs x) gF32.r.dec = gF32.F x := by kernel_rfl
theorem sF32 : SpecAt env 3 32 gF32 := mkSpec (r := 2) (gl := [(62, [gF62]), (52, [gF52])]) (L0 := []) (by kernel_rfl) ⟨⟨sF62.up (by decide), trivial⟩, ⟨sF52.up (by decide), trivial⟩, trivial⟩ trivial eF32 (fun h => absurd h (by rw [show env.nl 32 = false by kernel_rfl]; decide))
/-- midrangelaw05.PagingFinds -/
def F7 (a0 : (((List (Int × ByteArray)) × Int) × ((List (Int × (Bool × (Bool × (Int × (Int × (ByteArray × (Int × Int)))))))) × ((List Int) × (Int × (Int × Int)))))) (a1 : Int) (a2 : (Int × (Int × Int))) : Option Bool :=
  bndS (F11) fun y0 =>
  sel (bNot y0)
    (some false)
    (bndS (F12 a0) fun y1 =>
    sel (bNot y1)
      (some true)
      (bndS (F14 a0) fun y2 =>
      bndS (F27 ((y2.1, y2.2.1), y2.2.2) a1) fun y3 =>
      bndS (F14 a0) fun y4 =>
      bndS (F23 ((y4.1, y4.2.1), y4.2.2) a2.1 a2.2.1) fun y5 =>
      bndS (F14 a0) fun y6 =>
      bndS (F28 ((y6.1, y6.2.1), y6.2.2) a2.2.2) fun y7 =>
      bndS (F15 a0) fun y8 =>
      sel (bNot (iEq y8 0))
        (some (bAnd (bAnd (bAnd (bAnd (bAnd (bAnd (iEq y3.2 y8) (iEq y5.2.2 y8)) (iEq y7.2 y8)) (iEq (lLen y3.1) 0)) (iEq y5.1 0)) (iEq y5.2.1 0)) (iEq y7.1 0)))
        (letS (F24 a1 0 4) fun y9 =>
        sel (bNot y9)
          (sel (bOr (bNot (iEq y3.2 3)) (iLt 0 (lLen y3.1)))
            (some false)
            (bndS (F31 a0 a2 y5.1 y5.2.1 y5.2.2) fun y14 =>
            sel (bOr (okS (F32 a0 a2.2.2 y7.1 y7.2)) (bNot y14)) (
            letS (valS (F32 a0 a2.2.2 y7.1 y7.2) false) fun y15 =>
            some (bAnd y14 y15)) none))
          (sel (bNot (bNot (iEq y3.2 0)))
            (bndS (F30 a0 a1) fun y10 =>
            bndS (F29 y3.1 y10) fun y11 =>
            sel (bNot y11)
              (some false)
              (bndS (F31 a0 a2 y5.1 y5.2.1 y5.2.2) fun y12 =>
              sel (bOr (okS (F32 a0 a2.2.2 y7.1 y7.2)) (bNot y12)) (
              letS (valS (F32 a0 a2.2.2 y7.1 y7.2) false) fun y13 =>
              some (bAnd y12 y13)) none))
            (some false)))))
def gF7 : FS := ⟨(.seq (.agg (.dat (.pr (.pr (.sl (.pr (.int .i64) .str)) (.int .i64)) (.pr (.sl (.pr (.int .i64) (.pr .bool (.pr .bool (.pr (.int .i64) (.pr (.int .i64) (.pr .str (.pr (.int .i64) (.int .i64))))))))) (.pr (.sl (.int .i64)) (.pr (.int .i64) (.pr (.int .i64) (.int .i64)))))))) (.seq (.dat (.int .i64)) (.agg (.dat (.pr (.int .i64) (.pr (.int .i64) (.int .i64))))))), 0, (.one ⟨.non, (.dat .bool), 0, 0⟩), fun x => (F7 x.1 x.2.1 x.2.2)⟩
theorem eF7 (x : gF7.a.T) : kF env (GofL [(32, [gF32]), (31, [gF31]), (29, [gF29]), (30, [gF30]), (24, [gF24]), (15, [gF15]), (28, [gF28]), (14, [gF14]), (23, [gF23]), (27, [gF27]), (12, [gF12]), (11, [gF11])]) (LofL [(7, [])]) 7 (gF7.args x) (gF7.bs x) gF7.r.dec = gF7.F x := by kernel_rfl
theorem sF7 : SpecAt env 11 7 gF7 := mkSpec (r := 10) (gl := [(32, [gF32]), (31, [gF31]), (29, [gF29]), (30, [gF30]), (24, [gF24]), (15, [gF15]), (28, [gF28]), (14, [gF14]), (23, [gF23]), (27, [gF27]), (12, [gF12]), (11, [gF11])]) (L0 := []) (by kernel_rfl) ⟨⟨sF32.up (by decide), trivial⟩, ⟨sF31.up (by decide), trivial⟩, ⟨sF29.up (by decide), trivial⟩, ⟨sF30.up (by decide), trivial⟩, ⟨sF24.up (by decide), trivial⟩, ⟨sF15.up (by decide), trivial⟩, ⟨sF28.up (by decide), trivial⟩, ⟨sF14.up (by decide), trivial⟩, ⟨sF23.up (by decide), trivial⟩, ⟨sF27.up (by decide), trivial⟩, ⟨sF12.up (by decide), trivial⟩, ⟨sF11.up (by decide), trivial⟩, trivial⟩ trivial eF7 (fun h => absurd h (by rw [show env.nl 7 = false by kernel_rfl]; decide))
def B33_0 (a0 : Int) (a1 : (List (Int × ByteArray))) (a2 : Int) (a3 : (List (Int × (Bool × (Bool × (Int × (Int × (ByteArray × (Int × Int))))))))) (a4 : (List Int)) (a5 : Int) (a6 : Int) (a7 : Int) (a8 : (List Int)) (a9 : Int) (a10 : Int) : Option ((Int × (((List (Int × ByteArray)) × (Int × ((List (Int × (Bool × (Bool × (Int × (Int × (ByteArray × (Int × Int)))))))) × ((List Int) × (Int × (Int × Int)))))) × ((List Int) × (Int × Int)))) ⊕ (Int × ((List (Int × ByteArray)) × (Int × ((List (Int × (Bool × (Bool × (Int × (Int × (ByteArray × (Int × Int)))))))) × ((List Int) × (Int × (Int × Int)))))))) :=
  sel (iLt a10 a9)
    (sel (oIn a10 (lLen a8)) (
    bndS (F64 a1 a2 a3 a4 a5 a6 a7 (lAt a8 a10)) fun y0 =>
    some (.inl (a0, (y0, (a8, (a9, (iAdd .i64 a10 1))))))) none)
    (some (.inr (a0, (a1, (a2, (a3, (a4, (a5, (a6, a7)))))))))
def L33_0 (x : (Int × (((List (Int × ByteArray)) × (Int × ((List (Int × (Bool × (Bool × (Int × (Int × (ByteArray × (Int × Int)))))))) × ((List Int) × (Int × (Int × Int)))))) × ((List Int) × (Int × Int))))) : Option (Int × ((List (Int × ByteArray)) × (Int × ((List (Int × (Bool × (Bool × (Int × (Int × (ByteArray × (Int × Int)))))))) × ((List Int) × (Int × (Int × Int))))))) := iter (fun (x : (Int × (((List (Int × ByteArray)) × (Int × ((List (Int × (Bool × (Bool × (Int × (Int × (ByteArray × (Int × Int)))))))) × ((List Int) × (Int × (Int × Int)))))) × ((List Int) × (Int × Int))))) => (B33_0 x.1 x.2.1.1 x.2.1.2.1 x.2.1.2.2.1 x.2.1.2.2.2.1 x.2.1.2.2.2.2.1 x.2.1.2.2.2.2.2.1 x.2.1.2.2.2.2.2.2 x.2.2.1 x.2.2.2.1 x.2.2.2.2)) fuel x
def lsL33_0 : LS := ⟨(.one .normal ⟨.non, [2, 5, 19, 20, 21], (.seq (.box 0 (.seq (.lit (.slice none 0 0)) (.dat (.int .i64)))) (.seq (.box 1 (.seq (.own 2 (.pr (.int .i64) .str)) (.seq (.dat (.int .i64)) (.seq (.own 3 (.pr (.int .i64) (.pr .bool (.pr .bool (.pr (.int .i64) (.pr (.int .i64) (.pr .str (.pr (.int .i64) (.int .i64))))))))) (.seq (.own 4 (.int .i64)) (.seq (.dat (.int .i64)) (.seq (.dat (.int .i64)) (.dat (.int .i64))))))))) (.seq (.own 5 (.int .i64)) (.seq (.dat (.int .i64)) (.dat (.int .i64)))))), 6, 34, 0⟩), (.one (.exit 0) ⟨.non, [2, 5], (.seq (.box 0 (.seq (.lit (.slice none 0 0)) (.dat (.int .i64)))) (.box 1 (.seq (.own 2 (.pr (.int .i64) .str)) (.seq (.dat (.int .i64)) (.seq (.own 3 (.pr (.int .i64) (.pr .bool (.pr .bool (.pr (.int .i64) (.pr (.int .i64) (.pr .str (.pr (.int .i64) (.int .i64))))))))) (.seq (.own 4 (.int .i64)) (.seq (.dat (.int .i64)) (.seq (.dat (.int .i64)) (.dat (.int .i64)))))))))), 5, 34, 0⟩), fun (x : (Int × (((List (Int × ByteArray)) × (Int × ((List (Int × (Bool × (Bool × (Int × (Int × (ByteArray × (Int × Int)))))))) × ((List Int) × (Int × (Int × Int)))))) × ((List Int) × (Int × Int))))) => (B33_0 x.1 x.2.1.1 x.2.1.2.1 x.2.1.2.2.1 x.2.1.2.2.2.1 x.2.1.2.2.2.2.1 x.2.1.2.2.2.2.2.1 x.2.1.2.2.2.2.2.2 x.2.2.1 x.2.2.2.1 x.2.2.2.2)⟩
/-- paging.StoreOf -/
def F33 (a0 : (((List (Int × ByteArray)) × Int) × ((List (Int × (Bool × (Bool × (Int × (Int × (ByteArray × (Int × Int)))))))) × ((List Int) × (Int × (Int × Int)))))) : Option (((List (Int × ByteArray)) × Int) × Int) :=
  bndS (F13 a0) fun y0 =>
  sel (bNot (iEq y0 0))
    (some ((([] : List (Int × ByteArray)), 0), y0))
    (bndS (F51 a0) fun y1 =>
    bndS (F63 a0) fun y2 =>
    bndS (L33_0 (0, (y1, (y2, ((lLen y2), 0))))) fun y3 =>
    some ((y3.2.1, y3.2.2.1), 0))
def gF33 : FS := ⟨(.agg (.dat (.pr (.pr (.sl (.pr (.int .i64) .str)) (.int .i64)) (.pr (.sl (.pr (.int .i64) (.pr .bool (.pr .bool (.pr (.int .i64) (.pr (.int .i64) (.pr .str (.pr (.int .i64) (.int .i64))))))))) (.pr (.sl (.int .i64)) (.pr (.int .i64) (.pr (.int .i64) (.int .i64)))))))), 0, (.one ⟨.non, (.tup (.seq (.agg (.seq (.own 0 (.pr (.int .i64) .str)) (.dat (.int .i64)))) (.dat (.int .i64)))), 0, 1⟩), fun x => (F33 x)⟩
theorem rL33_0 (x : lsL33_0.hd.T) : kRound env (GofL [(64, [gF64]), (63, [gF63]), (51, [gF51]), (13, [gF13])]) (LofL [(33, [(0, lsL33_0)])]) 33 0 (lpOf Try.prog 33 0).2 (lsL33_0.hd.st x) lsL33_0.rd = lsL33_0.B x := by kernel_rfl
theorem eF33 (x : gF33.a.T) : kF env (GofL [(64, [gF64]), (63, [gF63]), (51, [gF51]), (13, [gF13])]) (LofL [(33, [(0, lsL33_0)])]) 33 (gF33.args x) (gF33.bs x) gF33.r.dec = gF33.F x := by kernel_rfl
theorem sF33 : SpecAt env 8 33 gF33 := mkSpec (r := 7) (gl := [(64, [gF64]), (63, [gF63]), (51, [gF51]), (13, [gF13])]) (L0 := [(0, lsL33_0)]) (by kernel_rfl) ⟨⟨sF64.up (by decide), trivial⟩, ⟨sF63.up (by decide), trivial⟩, ⟨sF51.up (by decide), trivial⟩, ⟨sF13.up (by decide), trivial⟩, trivial⟩ ⟨⟨0, by kernel_rfl, by kernel_rfl, rL33_0⟩, trivial⟩ eF33 (fun h => absurd h (by rw [show env.nl 33 = false by kernel_rfl]; decide))
def B34_0 (a0 : (List (Int × ByteArray))) (a1 : Int) (a2 : (List (Int × (Bool × (Bool × (Int × (Int × (ByteArray × (Int × Int))))))))) (a3 : (List Int)) (a4 : Int) (a5 : Int) (a6 : Int) (a7 : (List (Int × Int))) (a8 : (List Int)) (a9 : Int) (a10 : Int) : Option ((((List (Int × ByteArray)) × (Int × ((List (Int × (Bool × (Bool × (Int × (Int × (ByteArray × (Int × Int)))))))) × ((List Int) × (Int × (Int × Int)))))) × ((List (Int × Int)) × ((List Int) × (Int × Int)))) ⊕ (List (Int × Int))) :=
  sel (iLt a10 a9)
    (sel (oIn a10 (lLen a8)) (
    sel (oIn (lAt a8 a10) (lLen a2)) (
    sel (lCap 16 (lApp a7 [((lAt a2 (lAt a8 a10)).2.2.2.1, (iMul .i64 (lAt a2 (lAt a8 a10)).2.2.2.2.1 32))])) (
    some (.inl ((a0, (a1, (a2, (a3, (a4, (a5, a6)))))), ((lApp a7 [((lAt a2 (lAt a8 a10)).2.2.2.1, (iMul .i64 (lAt a2 (lAt a8 a10)).2.2.2.2.1 32))]), (a8, (a9, (iAdd .i64 a10 1))))))) none) none) none)
    (some (.inr a7))
def L34_0 (x : (((List (Int × ByteArray)) × (Int × ((List (Int × (Bool × (Bool × (Int × (Int × (ByteArray × (Int × Int)))))))) × ((List Int) × (Int × (Int × Int)))))) × ((List (Int × Int)) × ((List Int) × (Int × Int))))) : Option (List (Int × Int)) := iter (fun (x : (((List (Int × ByteArray)) × (Int × ((List (Int × (Bool × (Bool × (Int × (Int × (ByteArray × (Int × Int)))))))) × ((List Int) × (Int × (Int × Int)))))) × ((List (Int × Int)) × ((List Int) × (Int × Int))))) => (B34_0 x.1.1 x.1.2.1 x.1.2.2.1 x.1.2.2.2.1 x.1.2.2.2.2.1 x.1.2.2.2.2.2.1 x.1.2.2.2.2.2.2 x.2.1 x.2.2.1 x.2.2.2.1 x.2.2.2.2)) fuel x
def lsL34_0 : LS := ⟨(.one .normal ⟨.non, [1, 5, 15, 16, 17], (.seq (.box 0 (.seq (.dat (.sl (.pr (.int .i64) .str))) (.seq (.dat (.int .i64)) (.seq (.dat (.sl (.pr (.int .i64) (.pr .bool (.pr .bool (.pr (.int .i64) (.pr (.int .i64) (.pr .str (.pr (.int .i64) (.int .i64)))))))))) (.seq (.dat (.sl (.int .i64))) (.seq (.dat (.int .i64)) (.seq (.dat (.int .i64)) (.dat (.int .i64))))))))) (.seq (.own 1 (.pr (.int .i64) (.int .i64))) (.seq (.own 2 (.int .i64)) (.seq (.dat (.int .i64)) (.dat (.int .i64)))))), 3, 37, 0⟩), (.one (.exit 0) ⟨.non, [5], (.own 0 (.pr (.int .i64) (.int .i64))), 1, 37, 0⟩), fun (x : (((List (Int × ByteArray)) × (Int × ((List (Int × (Bool × (Bool × (Int × (Int × (ByteArray × (Int × Int)))))))) × ((List Int) × (Int × (Int × Int)))))) × ((List (Int × Int)) × ((List Int) × (Int × Int))))) => (B34_0 x.1.1 x.1.2.1 x.1.2.2.1 x.1.2.2.2.1 x.1.2.2.2.2.1 x.1.2.2.2.2.2.1 x.1.2.2.2.2.2.2 x.2.1 x.2.2.1 x.2.2.2.1 x.2.2.2.2)⟩
/-- paging.ChangedIn -/
def F34 (a0 : (((List (Int × ByteArray)) × Int) × ((List (Int × (Bool × (Bool × (Int × (Int × (ByteArray × (Int × Int)))))))) × ((List Int) × (Int × (Int × Int)))))) : Option ((List (Int × Int)) × Int) :=
  bndS (F13 a0) fun y0 =>
  sel (bNot (iEq y0 0))
    (some (([] : List (Int × Int)), y0))
    (bndS (F63 a0) fun y1 =>
    bndS (L34_0 ((a0.1.1, (a0.1.2, a0.2)), (([] : List (Int × Int)), (y1, ((lLen y1), 0))))) fun y2 =>
    some (y2, 0))
def gF34 : FS := ⟨(.agg (.dat (.pr (.pr (.sl (.pr (.int .i64) .str)) (.int .i64)) (.pr (.sl (.pr (.int .i64) (.pr .bool (.pr .bool (.pr (.int .i64) (.pr (.int .i64) (.pr .str (.pr (.int .i64) (.int .i64))))))))) (.pr (.sl (.int .i64)) (.pr (.int .i64) (.pr (.int .i64) (.int .i64)))))))), 0, (.one ⟨.non, (.tup (.seq (.own 0 (.pr (.int .i64) (.int .i64))) (.dat (.int .i64)))), 0, 1⟩), fun x => (F34 x)⟩
theorem rL34_0 (x : lsL34_0.hd.T) : kRound env (GofL [(63, [gF63]), (13, [gF13])]) (LofL [(34, [(0, lsL34_0)])]) 34 0 (lpOf Try.prog 34 0).2 (lsL34_0.hd.st x) lsL34_0.rd = lsL34_0.B x := by kernel_rfl
theorem eF34 (x : gF34.a.T) : kF env (GofL [(63, [gF63]), (13, [gF13])]) (LofL [(34, [(0, lsL34_0)])]) 34 (gF34.args x) (gF34.bs x) gF34.r.dec = gF34.F x := by kernel_rfl
theorem sF34 : SpecAt env 8 34 gF34 := mkSpec (r := 7) (gl := [(63, [gF63]), (13, [gF13])]) (L0 := [(0, lsL34_0)]) (by kernel_rfl) ⟨⟨sF63.up (by decide), trivial⟩, ⟨sF13.up (by decide), trivial⟩, trivial⟩ ⟨⟨0, by kernel_rfl, by kernel_rfl, rL34_0⟩, trivial⟩ eF34 (fun h => absurd h (by rw [show env.nl 34 = false by kernel_rfl]; decide))
/-- midrangebase.Patched -/
def F95 (a0 : ByteArray) (a1 : Int) (a2 : ByteArray) : Option ByteArray :=
  sel (oCut 0 a1 (sLen a0)) (
  sel (sOk (sCut a0 0 a1) a2) (
  sel (oCut (iAdd .i64 a1 (sLen a2)) (sLen a0) (sLen a0)) (
  sel (sOk (sAdd (sCut a0 0 a1) a2) (sCut a0 (iAdd .i64 a1 (sLen a2)) (sLen a0))) (
  some (sAdd (sAdd (sCut a0 0 a1) a2) (sCut a0 (iAdd .i64 a1 (sLen a2)) (sLen a0)))) none) none) none) none
def gF95 : FS := ⟨(.seq (.dat .str) (.seq (.dat (.int .i64)) (.dat .str))), 0, (.one ⟨.non, (.dat .str), 0, 0⟩), fun x => (F95 x.1 x.2.1 x.2.2)⟩
theorem eF95 (x : gF95.a.T) : kF env (GofL []) (LofL [(95, [])]) 95 (gF95.args x) (gF95.bs x) gF95.r.dec = gF95.F x := by kernel_rfl
theorem sF95 : SpecAt env 1 95 gF95 := mkSpec (r := 0) (gl := []) (L0 := []) (by kernel_rfl) trivial trivial eF95 (fun h => absurd h (by rw [show env.nl 95 = false by kernel_rfl]; decide))
/-- midrangeref05.WithPage -/
def F65 (a0 : ((List (Int × ByteArray)) × Int)) (a1 : (Int × (Bool × (Bool × (Int × (Int × (ByteArray × (Int × Int)))))))) : Option ((List (Int × ByteArray)) × Int) :=
  bndS (F18 a0) fun y0 =>
  bndS (F90 a0 a1.2.2.2.1) fun y1 =>
  sel (oIn y1 (lLen a0.1)) (
  bndS (F95 (lAt a0.1 y1).2 (iMul .i64 a1.2.2.2.2.1 32) a1.2.2.2.2.2.1) fun y2 =>
  sel (oIn y1 (lLen y0.1)) (
  some ((lSet y0.1 y1 ((lAt y0.1 y1).1, y2)), y0.2)) none) none
def gF65 : FS := ⟨(.seq (.agg (.dat (.pr (.sl (.pr (.int .i64) .str)) (.int .i64)))) (.agg (.dat (.pr (.int .i64) (.pr .bool (.pr .bool (.pr (.int .i64) (.pr (.int .i64) (.pr .str (.pr (.int .i64) (.int .i64))))))))))), 0, (.one ⟨.non, (.agg (.seq (.own 0 (.pr (.int .i64) .str)) (.dat (.int .i64)))), 0, 1⟩), fun x => (F65 x.1 x.2)⟩
theorem eF65 (x : gF65.a.T) : kF env (GofL [(95, [gF95]), (90, [gF90]), (18, [gF18])]) (LofL [(65, [])]) 65 (gF65.args x) (gF65.bs x) gF65.r.dec = gF65.F x := by kernel_rfl
theorem sF65 : SpecAt env 2 65 gF65 := mkSpec (r := 1) (gl := [(95, [gF95]), (90, [gF90]), (18, [gF18])]) (L0 := []) (by kernel_rfl) ⟨⟨sF95.up (by decide), trivial⟩, ⟨sF90.up (by decide), trivial⟩, ⟨sF18.up (by decide), trivial⟩, trivial⟩ trivial eF65 (fun h => absurd h (by rw [show env.nl 65 = false by kernel_rfl]; decide))
def B36_0 (a0 : (List (Int × ByteArray))) (a1 : Int) (a2 : (List (Int × (Bool × (Bool × (Int × (Int × (ByteArray × (Int × Int))))))))) (a3 : (List Int)) (a4 : Int) (a5 : Int) (a6 : Int) (a7 : Int) (a8 : (List (Int × ByteArray))) (a9 : Int) (a10 : Int) : Option ((((List (Int × ByteArray)) × (Int × ((List (Int × (Bool × (Bool × (Int × (Int × (ByteArray × (Int × Int)))))))) × ((List Int) × (Int × (Int × Int)))))) × (Int × (((List (Int × ByteArray)) × Int) × Int))) ⊕ (Int × ((List (Int × ByteArray)) × Int))) :=
  sel (iLt a10 (lLen a2))
    (sel (oIn a10 (lLen a2)) (
    sel (bOr (oIn a10 (lLen a2)) (bNot (lAt a2 a10).2.1)) (
    sel (bAnd (lAt a2 a10).2.1 (lAt a2 a10).2.2.1)
      (sel (oIn a10 (lLen a2)) (
      bndS (F65 (a8, a9) (lAt a2 a10)) fun y0 =>
      some (.inl ((a0, (a1, (a2, (a3, (a4, (a5, a6)))))), (a7, (y0, (iAdd .i64 a10 1)))))) none)
      (some (.inl ((a0, (a1, (a2, (a3, (a4, (a5, a6)))))), (a7, ((a8, a9), (iAdd .i64 a10 1))))))) none) none)
    (some (.inr (a7, (a8, a9))))
def L36_0 (x : (((List (Int × ByteArray)) × (Int × ((List (Int × (Bool × (Bool × (Int × (Int × (ByteArray × (Int × Int)))))))) × ((List Int) × (Int × (Int × Int)))))) × (Int × (((List (Int × ByteArray)) × Int) × Int)))) : Option (Int × ((List (Int × ByteArray)) × Int)) := iter (fun (x : (((List (Int × ByteArray)) × (Int × ((List (Int × (Bool × (Bool × (Int × (Int × (ByteArray × (Int × Int)))))))) × ((List Int) × (Int × (Int × Int)))))) × (Int × (((List (Int × ByteArray)) × Int) × Int)))) => (B36_0 x.1.1 x.1.2.1 x.1.2.2.1 x.1.2.2.2.1 x.1.2.2.2.2.1 x.1.2.2.2.2.2.1 x.1.2.2.2.2.2.2 x.2.1 x.2.2.1.1 x.2.2.1.2 x.2.2.2)) fuel x
def lsL36_0 : LS := ⟨(.one .normal ⟨.non, [1, 2, 3, 4], (.seq (.box 0 (.seq (.dat (.sl (.pr (.int .i64) .str))) (.seq (.dat (.int .i64)) (.seq (.dat (.sl (.pr (.int .i64) (.pr .bool (.pr .bool (.pr (.int .i64) (.pr (.int .i64) (.pr .str (.pr (.int .i64) (.int .i64)))))))))) (.seq (.dat (.sl (.int .i64))) (.seq (.dat (.int .i64)) (.seq (.dat (.int .i64)) (.dat (.int .i64))))))))) (.seq (.box 1 (.seq (.lit (.slice none 0 0)) (.dat (.int .i64)))) (.seq (.box 2 (.seq (.own 3 (.pr (.int .i64) .str)) (.dat (.int .i64)))) (.dat (.int .i64))))), 4, 37, 0⟩), (.one (.exit 0) ⟨.non, [2, 3], (.seq (.box 0 (.seq (.lit (.slice none 0 0)) (.dat (.int .i64)))) (.box 1 (.seq (.own 2 (.pr (.int .i64) .str)) (.dat (.int .i64))))), 3, 37, 0⟩), fun (x : (((List (Int × ByteArray)) × (Int × ((List (Int × (Bool × (Bool × (Int × (Int × (ByteArray × (Int × Int)))))))) × ((List Int) × (Int × (Int × Int)))))) × (Int × (((List (Int × ByteArray)) × Int) × Int)))) => (B36_0 x.1.1 x.1.2.1 x.1.2.2.1 x.1.2.2.2.1 x.1.2.2.2.2.1 x.1.2.2.2.2.2.1 x.1.2.2.2.2.2.2 x.2.1 x.2.2.1.1 x.2.2.1.2 x.2.2.2)⟩
/-- midrangeref05.StoreOf -/
def F36 (a0 : (((List (Int × ByteArray)) × Int) × ((List (Int × (Bool × (Bool × (Int × (Int × (ByteArray × (Int × Int)))))))) × ((List Int) × (Int × (Int × Int)))))) : Option ((List (Int × ByteArray)) × Int) :=
  bndS (F18 a0.1) fun y0 =>
  bndS (L36_0 ((a0.1.1, (a0.1.2, a0.2)), (0, (y0, 0)))) fun y1 =>
  some y1.2
def gF36 : FS := ⟨(.agg (.dat (.pr (.pr (.sl (.pr (.int .i64) .str)) (.int .i64)) (.pr (.sl (.pr (.int .i64) (.pr .bool (.pr .bool (.pr (.int .i64) (.pr (.int .i64) (.pr .str (.pr (.int .i64) (.int .i64))))))))) (.pr (.sl (.int .i64)) (.pr (.int .i64) (.pr (.int .i64) (.int .i64)))))))), 0, (.one ⟨.non, (.agg (.seq (.own 0 (.pr (.int .i64) .str)) (.dat (.int .i64)))), 0, 1⟩), fun x => (F36 x)⟩
theorem rL36_0 (x : lsL36_0.hd.T) : kRound env (GofL [(65, [gF65]), (18, [gF18])]) (LofL [(36, [(0, lsL36_0)])]) 36 0 (lpOf Try.prog 36 0).2 (lsL36_0.hd.st x) lsL36_0.rd = lsL36_0.B x := by kernel_rfl
theorem eF36 (x : gF36.a.T) : kF env (GofL [(65, [gF65]), (18, [gF18])]) (LofL [(36, [(0, lsL36_0)])]) 36 (gF36.args x) (gF36.bs x) gF36.r.dec = gF36.F x := by kernel_rfl
theorem sF36 : SpecAt env 3 36 gF36 := mkSpec (r := 2) (gl := [(65, [gF65]), (18, [gF18])]) (L0 := [(0, lsL36_0)]) (by kernel_rfl) ⟨⟨sF65.up (by decide), trivial⟩, ⟨sF18.up (by decide), trivial⟩, trivial⟩ ⟨⟨0, by kernel_rfl, by kernel_rfl, rL36_0⟩, trivial⟩ eF36 (fun h => absurd h (by rw [show env.nl 36 = false by kernel_rfl]; decide))
def B38_2 (a0 : (List (Int × ByteArray))) (a1 : Int) (a2 : (List (Int × (Bool × (Bool × (Int × (Int × (ByteArray × (Int × Int))))))))) (a3 : (List Int)) (a4 : Int) (a5 : Int) (a6 : Int) (a7 : (List (Int × Int))) (a8 : Int) (a9 : Int) (a10 : ByteArray) (a11 : Int) : Option ((((List (Int × ByteArray)) × (Int × ((List (Int × (Bool × (Bool × (Int × (Int × (ByteArray × (Int × Int)))))))) × ((List Int) × (Int × (Int × Int)))))) × ((List (Int × Int)) × (Int × ((Int × ByteArray) × Int)))) ⊕ (((List (Int × ByteArray)) × (Int × ((List (Int × (Bool × (Bool × (Int × (Int × (ByteArray × (Int × Int)))))))) × ((List Int) × (Int × (Int × Int)))))) × ((List (Int × Int)) × Int))) :=
  bndS (F66 a10) fun y0 =>
  sel (iLt a11 y0)
    (bndS (F61 ((a0, a1), (a2, (a3, (a4, (a5, a6))))) a9 a11) fun y1 =>
    sel (bOr (oIn y1.1 (lLen a2)) (bNot (bNot (iEq y1.1 (-1))))) (
    sel (bAnd (bNot (iEq y1.1 (-1))) (lAt a2 y1.1).2.2.1)
      (sel (lCap 16 (lApp a7 [(a9, (iMul .i64 a11 32))])) (
      some (.inl ((a0, (a1, (a2, (a3, (a4, (a5, a6)))))), ((lApp a7 [(a9, (iMul .i64 a11 32))]), (a8, ((a9, a10), (iAdd .i64 a11 1))))))) none)
      (some (.inl ((a0, (a1, (a2, (a3, (a4, (a5, a6)))))), (a7, (a8, ((a9, a10), (iAdd .i64 a11 1)))))))) none)
    (some (.inr ((a0, (a1, (a2, (a3, (a4, (a5, a6)))))), (a7, a8))))
def L38_2 (x : (((List (Int × ByteArray)) × (Int × ((List (Int × (Bool × (Bool × (Int × (Int × (ByteArray × (Int × Int)))))))) × ((List Int) × (Int × (Int × Int)))))) × ((List (Int × Int)) × (Int × ((Int × ByteArray) × Int))))) : Option (((List (Int × ByteArray)) × (Int × ((List (Int × (Bool × (Bool × (Int × (Int × (ByteArray × (Int × Int)))))))) × ((List Int) × (Int × (Int × Int)))))) × ((List (Int × Int)) × Int)) := iter (fun (x : (((List (Int × ByteArray)) × (Int × ((List (Int × (Bool × (Bool × (Int × (Int × (ByteArray × (Int × Int)))))))) × ((List Int) × (Int × (Int × Int)))))) × ((List (Int × Int)) × (Int × ((Int × ByteArray) × Int))))) => (B38_2 x.1.1 x.1.2.1 x.1.2.2.1 x.1.2.2.2.1 x.1.2.2.2.2.1 x.1.2.2.2.2.2.1 x.1.2.2.2.2.2.2 x.2.1 x.2.2.1 x.2.2.2.1.1 x.2.2.2.1.2 x.2.2.2.2)) fuel x
def lsL38_2 : LS := ⟨(.one .normal ⟨.non, [1, 3, 4, 5, 6], (.seq (.box 0 (.seq (.dat (.sl (.pr (.int .i64) .str))) (.seq (.dat (.int .i64)) (.seq (.dat (.sl (.pr (.int .i64) (.pr .bool (.pr .bool (.pr (.int .i64) (.pr (.int .i64) (.pr .str (.pr (.int .i64) (.int .i64)))))))))) (.seq (.dat (.sl (.int .i64))) (.seq (.dat (.int .i64)) (.seq (.dat (.int .i64)) (.dat (.int .i64))))))))) (.seq (.own 1 (.pr (.int .i64) (.int .i64))) (.seq (.dat (.int .i64)) (.seq (.box 2 (.seq (.dat (.int .i64)) (.dat .str))) (.dat (.int .i64)))))), 3, 57, 0⟩), (.one (.exit 2) ⟨.non, [1, 3, 4], (.seq (.box 0 (.seq (.dat (.sl (.pr (.int .i64) .str))) (.seq (.dat (.int .i64)) (.seq (.dat (.sl (.pr (.int .i64) (.pr .bool (.pr .bool (.pr (.int .i64) (.pr (.int .i64) (.pr .str (.pr (.int .i64) (.int .i64)))))))))) (.seq (.dat (.sl (.int .i64))) (.seq (.dat (.int .i64)) (.seq (.dat (.int .i64)) (.dat (.int .i64))))))))) (.seq (.own 1 (.pr (.int .i64) (.int .i64))) (.dat (.int .i64)))), 2, 57, 0⟩), fun (x : (((List (Int × ByteArray)) × (Int × ((List (Int × (Bool × (Bool × (Int × (Int × (ByteArray × (Int × Int)))))))) × ((List Int) × (Int × (Int × Int)))))) × ((List (Int × Int)) × (Int × ((Int × ByteArray) × Int))))) => (B38_2 x.1.1 x.1.2.1 x.1.2.2.1 x.1.2.2.2.1 x.1.2.2.2.2.1 x.1.2.2.2.2.2.1 x.1.2.2.2.2.2.2 x.2.1 x.2.2.1 x.2.2.2.1.1 x.2.2.2.1.2 x.2.2.2.2)⟩
def B38_0 (a0 : (List (Int × ByteArray))) (a1 : Int) (a2 : (List (Int × (Bool × (Bool × (Int × (Int × (ByteArray × (Int × Int))))))))) (a3 : (List Int)) (a4 : Int) (a5 : Int) (a6 : Int) (a7 : (List (Int × Int))) (a8 : Int) : Option ((((List (Int × ByteArray)) × (Int × ((List (Int × (Bool × (Bool × (Int × (Int × (ByteArray × (Int × Int)))))))) × ((List Int) × (Int × (Int × Int)))))) × ((List (Int × Int)) × Int)) ⊕ (List (Int × Int))) :=
  sel (iLt a8 (lLen a0))
    (sel (oIn a8 (lLen a0)) (
    bndS (L38_2 ((a0, (a1, (a2, (a3, (a4, (a5, a6)))))), (a7, (a8, ((lAt a0 a8), 0))))) fun y0 =>
    some (.inl (y0.1, (y0.2.1, (iAdd .i64 y0.2.2 1))))) none)
    (some (.inr a7))
def L38_0 (x : (((List (Int × ByteArray)) × (Int × ((List (Int × (Bool × (Bool × (Int × (Int × (ByteArray × (Int × Int)))))))) × ((List Int) × (Int × (Int × Int)))))) × ((List (Int × Int)) × Int))) : Option (List (Int × Int)) := iter (fun (x : (((List (Int × ByteArray)) × (Int × ((List (Int × (Bool × (Bool × (Int × (Int × (ByteArray × (Int × Int)))))))) × ((List Int) × (Int × (Int × Int)))))) × ((List (Int × Int)) × Int))) => (B38_0 x.1.1 x.1.2.1 x.1.2.2.1 x.1.2.2.2.1 x.1.2.2.2.2.1 x.1.2.2.2.2.2.1 x.1.2.2.2.2.2.2 x.2.1 x.2.2)) fuel x
def lsL38_0 : LS := ⟨(.one .normal ⟨.non, [1, 3, 4], (.seq (.box 0 (.seq (.dat (.sl (.pr (.int .i64) .str))) (.seq (.dat (.int .i64)) (.seq (.dat (.sl (.pr (.int .i64) (.pr .bool (.pr .bool (.pr (.int .i64) (.pr (.int .i64) (.pr .str (.pr (.int .i64) (.int .i64)))))))))) (.seq (.dat (.sl (.int .i64))) (.seq (.dat (.int .i64)) (.seq (.dat (.int .i64)) (.dat (.int .i64))))))))) (.seq (.own 1 (.pr (.int .i64) (.int .i64))) (.dat (.int .i64)))), 2, 57, 0⟩), (.one (.exit 0) ⟨.non, [3], (.own 0 (.pr (.int .i64) (.int .i64))), 1, 57, 0⟩), fun (x : (((List (Int × ByteArray)) × (Int × ((List (Int × (Bool × (Bool × (Int × (Int × (ByteArray × (Int × Int)))))))) × ((List Int) × (Int × (Int × Int)))))) × ((List (Int × Int)) × Int))) => (B38_0 x.1.1 x.1.2.1 x.1.2.2.1 x.1.2.2.2.1 x.1.2.2.2.2.1 x.1.2.2.2.2.2.1 x.1.2.2.2.2.2.2 x.2.1 x.2.2)⟩
/-- midrangeref05.Changed -/
def F38 (a0 : (((List (Int × ByteArray)) × Int) × ((List (Int × (Bool × (Bool × (Int × (Int × (ByteArray × (Int × Int)))))))) × ((List Int) × (Int × (Int × Int)))))) : Option (List (Int × Int)) :=
  bndS (L38_0 ((a0.1.1, (a0.1.2, a0.2)), (([] : List (Int × Int)), 0))) fun y0 =>
  some y0
def gF38 : FS := ⟨(.agg (.dat (.pr (.pr (.sl (.pr (.int .i64) .str)) (.int .i64)) (.pr (.sl (.pr (.int .i64) (.pr .bool (.pr .bool (.pr (.int .i64) (.pr (.int .i64) (.pr .str (.pr (.int .i64) (.int .i64))))))))) (.pr (.sl (.int .i64)) (.pr (.int .i64) (.pr (.int .i64) (.int .i64)))))))), 0, (.one ⟨.non, (.own 0 (.pr (.int .i64) (.int .i64))), 0, 1⟩), fun x => (F38 x)⟩
theorem rL38_2 (x : lsL38_2.hd.T) : kRound env (GofL [(61, [gF61]), (66, [gF66])]) (LofL [(38, [(2, lsL38_2), (0, lsL38_0)])]) 38 2 (lpOf Try.prog 38 1).2 (lsL38_2.hd.st x) lsL38_2.rd = lsL38_2.B x := by kernel_rfl
theorem rL38_0 (x : lsL38_0.hd.T) : kRound env (GofL [(61, [gF61]), (66, [gF66])]) (LofL [(38, [(2, lsL38_2), (0, lsL38_0)])]) 38 0 (lpOf Try.prog 38 0).2 (lsL38_0.hd.st x) lsL38_0.rd = lsL38_0.B x := by kernel_rfl
theorem eF38 (x : gF38.a.T) : kF env (GofL [(61, [gF61]), (66, [gF66])]) (LofL [(38, [(2, lsL38_2), (0, lsL38_0)])]) 38 (gF38.args x) (gF38.bs x) gF38.r.dec = gF38.F x := by kernel_rfl
theorem sF38 : SpecAt env 5 38 gF38 := mkSpec (r := 4) (gl := [(61, [gF61]), (66, [gF66])]) (L0 := [(2, lsL38_2), (0, lsL38_0)]) (by kernel_rfl) ⟨⟨sF61.up (by decide), trivial⟩, ⟨sF66.up (by decide), trivial⟩, trivial⟩ ⟨⟨1, by kernel_rfl, by kernel_rfl, rL38_2⟩, ⟨0, by kernel_rfl, by kernel_rfl, rL38_0⟩, trivial⟩ eF38 (fun h => absurd h (by rw [show env.nl 38 = false by kernel_rfl]; decide))
def B37_0 (a0 : (List (Int × Int))) (a1 : (List (Int × Int))) (a2 : Int) : Option (((List (Int × Int)) × ((List (Int × Int)) × Int)) ⊕ (Unit ⊕ Bool)) :=
  sel (iLt a2 (lLen a0))
    (sel (oIn a2 (lLen a0)) (
    sel (oIn a2 (lLen a1)) (
    sel (bNot (bAnd (iEq (lAt a0 a2).1 (lAt a1 a2).1) (iEq (lAt a0 a2).2 (lAt a1 a2).2)))
      (some (.inr (.inr false)))
      (some (.inl (a0, (a1, (iAdd .i64 a2 1)))))) none) none)
    (some (.inr (.inl ())))
def L37_0 (x : ((List (Int × Int)) × ((List (Int × Int)) × Int))) : Option (Unit ⊕ Bool) := iter (fun (x : ((List (Int × Int)) × ((List (Int × Int)) × Int))) => (B37_0 x.1 x.2.1 x.2.2)) fuel x
def lsL37_0 : LS := ⟨(.one .normal ⟨.non, [0, 1, 5], (.seq (.dat (.sl (.pr (.int .i64) (.int .i64)))) (.seq (.dat (.sl (.pr (.int .i64) (.int .i64)))) (.dat (.int .i64)))), 0, 26, 0⟩), (.two (.one (.exit 0) ⟨.non, [], .non, 0, 26, 0⟩) (.one .ret ⟨.non, [4], (.dat .bool), 0, 26, 0⟩)), fun (x : ((List (Int × Int)) × ((List (Int × Int)) × Int))) => (B37_0 x.1 x.2.1 x.2.2)⟩
/-- midrangeref05.SameAddresses -/
def F37 (a0 : (List (Int × Int))) (a1 : (List (Int × Int))) : Option Bool :=
  sel (bNot (iEq (lLen a0) (lLen a1)))
    (some false)
    (bndS (L37_0 (a0, (a1, 0))) fun y0 =>
    sumS y0 (fun y0a =>
      some true) fun y0b =>
      some y0b)
def gF37 : FS := ⟨(.seq (.dat (.sl (.pr (.int .i64) (.int .i64)))) (.dat (.sl (.pr (.int .i64) (.int .i64))))), 0, (.one ⟨.non, (.dat .bool), 0, 0⟩), fun x => (F37 x.1 x.2)⟩
theorem rL37_0 (x : lsL37_0.hd.T) : kRound env (GofL []) (LofL [(37, [(0, lsL37_0)])]) 37 0 (lpOf Try.prog 37 0).2 (lsL37_0.hd.st x) lsL37_0.rd = lsL37_0.B x := by kernel_rfl
theorem eF37 (x : gF37.a.T) : kF env (GofL []) (LofL [(37, [(0, lsL37_0)])]) 37 (gF37.args x) (gF37.bs x) gF37.r.dec = gF37.F x := by kernel_rfl
theorem sF37 : SpecAt env 1 37 gF37 := mkSpec (r := 0) (gl := []) (L0 := [(0, lsL37_0)]) (by kernel_rfl) trivial ⟨⟨0, by kernel_rfl, by kernel_rfl, rL37_0⟩, trivial⟩ eF37 (fun h => absurd h (by rw [show env.nl 37 = false by kernel_rfl]; decide))
/-- midrangelaw05.PagingStores -/
def F8 (a0 : (((List (Int × ByteArray)) × Int) × ((List (Int × (Bool × (Bool × (Int × (Int × (ByteArray × (Int × Int)))))))) × ((List Int) × (Int × (Int × Int)))))) : Option Bool :=
  bndS (F11) fun y0 =>
  sel (bNot y0)
    (some false)
    (bndS (F12 a0) fun y1 =>
    sel (bNot y1)
      (some true)
      (bndS (F14 a0) fun y2 =>
      bndS (F33 ((y2.1, y2.2.1), y2.2.2)) fun y3 =>
      bndS (F14 a0) fun y4 =>
      bndS (F34 ((y4.1, y4.2.1), y4.2.2)) fun y5 =>
      bndS (F15 a0) fun y6 =>
      sel (bNot (iEq y6 0))
        (sel (bOr (okS (F35 y3.1 ([], 0))) (bNot (bAnd (iEq y3.2 y6) (iEq y5.2 y6)))) (
        letS (valS (F35 y3.1 ([], 0)) false) fun y11 =>
        some (bAnd (bAnd (bAnd (iEq y3.2 y6) (iEq y5.2 y6)) y11) (iEq (lLen y5.1) 0))) none)
        (sel (bAnd (iEq y3.2 0) (iEq y5.2 0))
          (bndS (F36 a0) fun y7 =>
          bndS (F35 y3.1 y7) fun y8 =>
          sel y8
            (bndS (F38 a0) fun y9 =>
            bndS (F37 y5.1 y9) fun y10 =>
            some y10)
            (some false))
          (some false))))
def gF8 : FS := ⟨(.agg (.dat (.pr (.pr (.sl (.pr (.int .i64) .str)) (.int .i64)) (.pr (.sl (.pr (.int .i64) (.pr .bool (.pr .bool (.pr (.int .i64) (.pr (.int .i64) (.pr .str (.pr (.int .i64) (.int .i64))))))))) (.pr (.sl (.int .i64)) (.pr (.int .i64) (.pr (.int .i64) (.int .i64)))))))), 0, (.one ⟨.non, (.dat .bool), 0, 0⟩), fun x => (F8 x)⟩
theorem eF8 (x : gF8.a.T) : kF env (GofL [(35, [gF35]), (37, [gF37]), (38, [gF38]), (36, [gF36]), (15, [gF15]), (34, [gF34]), (14, [gF14]), (33, [gF33]), (12, [gF12]), (11, [gF11])]) (LofL [(8, [])]) 8 (gF8.args x) (gF8.bs x) gF8.r.dec = gF8.F x := by kernel_rfl
theorem sF8 : SpecAt env 11 8 gF8 := mkSpec (r := 10) (gl := [(35, [gF35]), (37, [gF37]), (38, [gF38]), (36, [gF36]), (15, [gF15]), (34, [gF34]), (14, [gF14]), (33, [gF33]), (12, [gF12]), (11, [gF11])]) (L0 := []) (by kernel_rfl) ⟨⟨sF35.up (by decide), trivial⟩, ⟨sF37.up (by decide), trivial⟩, ⟨sF38.up (by decide), trivial⟩, ⟨sF36.up (by decide), trivial⟩, ⟨sF15.up (by decide), trivial⟩, ⟨sF34.up (by decide), trivial⟩, ⟨sF14.up (by decide), trivial⟩, ⟨sF33.up (by decide), trivial⟩, ⟨sF12.up (by decide), trivial⟩, ⟨sF11.up (by decide), trivial⟩, trivial⟩ trivial eF8 (fun h => absurd h (by rw [show env.nl 8 = false by kernel_rfl]; decide))
/-- midrangelaw05.PagingKept -/
def F9 (a0 : (((List (Int × ByteArray)) × Int) × ((List (Int × (Bool × (Bool × (Int × (Int × (ByteArray × (Int × Int)))))))) × ((List Int) × (Int × (Int × Int)))))) (a1 : Int) : Option Bool :=
  bndS (F11) fun y0 =>
  sel (bNot y0)
    (some false)
    (bndS (F12 a0) fun y1 =>
    sel (bOr (okS (F15 a0)) (bNot (bNot (bNot y1)))) (
    letS (valS (F15 a0) 0) fun y2 =>
    sel (bOr (bNot y1) (bNot (iEq y2 0)))
      (some true)
      (bndS (F14 a0) fun y3 =>
      bndS (F33 ((y3.1, y3.2.1), y3.2.2)) fun y4 =>
      bndS (F14 a0) fun y5 =>
      bndS (F34 ((y5.1, y5.2.1), y5.2.2)) fun y6 =>
      bndS (F14 a0) fun y7 =>
      bndS (F22 ((y7.1, y7.2.1), y7.2.2) (3, (0, ((0, 0), (0, (bs [])))))) fun y8 =>
      sel (bOr (bNot (iEq y4.2 0)) (bNot (iEq y6.2 0)))
        (some false)
        (sel (iLt 999999999999999 (iAdd .i64 a0.2.2.2.2.2 (lLen y6.1)))
          (some (iEq y8.2.2 30))
          (sel (bOr (okS (F35 (y8.1.1, y8.1.2.1) y4.1)) (bNot (bNot (bNot (iEq y8.2.2 0))))) (
          letS (valS (F35 (y8.1.1, y8.1.2.1) y4.1) false) fun y9 =>
          sel (bOr (bOr (bNot (iEq y8.2.2 0)) (bNot y9)) (bNot (iEq y8.1.2.2.2.2.2.2 (iAdd .i64 a0.2.2.2.2.2 (lLen y6.1)))))
            (some false)
            (bndS (F14 a0) fun y10 =>
            bndS (F22 ((y10.1, y10.2.1), y10.2.2) (2, (0, ((a1, 0), (0, (bs [])))))) fun y11 =>
            sel (bNot (iEq y11.2.2 0))
              (some true)
              (bndS (F33 ((y11.1.1, y11.1.2.1), y11.1.2.2)) fun y12 =>
              sel (bOr (okS (F35 y12.1 y4.1)) (bNot (iEq y12.2 0))) (
              letS (valS (F35 y12.1 y4.1) false) fun y13 =>
              some (bAnd (iEq y12.2 0) y13)) none))) none)))) none)
def gF9 : FS := ⟨(.seq (.agg (.dat (.pr (.pr (.sl (.pr (.int .i64) .str)) (.int .i64)) (.pr (.sl (.pr (.int .i64) (.pr .bool (.pr .bool (.pr (.int .i64) (.pr (.int .i64) (.pr .str (.pr (.int .i64) (.int .i64))))))))) (.pr (.sl (.int .i64)) (.pr (.int .i64) (.pr (.int .i64) (.int .i64)))))))) (.dat (.int .i64))), 0, (.one ⟨.non, (.dat .bool), 0, 0⟩), fun x => (F9 x.1 x.2)⟩
theorem eF9 (x : gF9.a.T) : kF env (GofL [(35, [gF35]), (33, [gF33]), (22, [gF22]), (14, [gF14]), (34, [gF34]), (15, [gF15]), (12, [gF12]), (11, [gF11])]) (LofL [(9, [])]) 9 (gF9.args x) (gF9.bs x) gF9.r.dec = gF9.F x := by kernel_rfl
theorem sF9 : SpecAt env 11 9 gF9 := mkSpec (r := 10) (gl := [(35, [gF35]), (33, [gF33]), (22, [gF22]), (14, [gF14]), (34, [gF34]), (15, [gF15]), (12, [gF12]), (11, [gF11])]) (L0 := []) (by kernel_rfl) ⟨⟨sF35.up (by decide), trivial⟩, ⟨sF33.up (by decide), trivial⟩, ⟨sF22.up (by decide), trivial⟩, ⟨sF14.up (by decide), trivial⟩, ⟨sF34.up (by decide), trivial⟩, ⟨sF15.up (by decide), trivial⟩, ⟨sF12.up (by decide), trivial⟩, ⟨sF11.up (by decide), trivial⟩, trivial⟩ trivial eF9 (fun h => absurd h (by rw [show env.nl 9 = false by kernel_rfl]; decide))
def B39_0 (a0 : (List (Int × (Int × ((Int × Int) × (Int × ByteArray)))))) (a1 : Int) : Option (((List (Int × (Int × ((Int × Int) × (Int × ByteArray))))) × Int) ⊕ (Unit ⊕ Bool)) :=
  sel (iLt a1 (lLen a0))
    (sel (bOr (oIn a1 (lLen a0)) (bNot (bNot (iLt 41 a1)))) (
    sel (bOr (iLt 41 a1) (iLt 400 (sLen (lAt a0 a1).2.2.2.2)))
      (some (.inr (.inr false)))
      (some (.inl (a0, (iAdd .i64 a1 1))))) none)
    (some (.inr (.inl ())))
def L39_0 (x : ((List (Int × (Int × ((Int × Int) × (Int × ByteArray))))) × Int)) : Option (Unit ⊕ Bool) := iter (fun (x : ((List (Int × (Int × ((Int × Int) × (Int × ByteArray))))) × Int)) => (B39_0 x.1 x.2)) fuel x
def lsL39_0 : LS := ⟨(.one .normal ⟨.non, [0, 3], (.seq (.dat (.sl (.pr (.int .i64) (.pr (.int .i64) (.pr (.pr (.int .i64) (.int .i64)) (.pr (.int .i64) .str)))))) (.dat (.int .i64))), 0, 21, 0⟩), (.two (.one (.exit 0) ⟨.non, [], .non, 0, 21, 0⟩) (.one .ret ⟨.non, [2], (.dat .bool), 0, 21, 0⟩)), fun (x : ((List (Int × (Int × ((Int × Int) × (Int × ByteArray))))) × Int)) => (B39_0 x.1 x.2)⟩
/-- midrangelaw05.Light -/
def F39 (a0 : (List (Int × (Int × ((Int × Int) × (Int × ByteArray)))))) : Option Bool :=
  bndS (L39_0 (a0, 0)) fun y0 =>
  sumS y0 (fun y0a =>
    some true) fun y0b =>
    some y0b
def gF39 : FS := ⟨(.dat (.sl (.pr (.int .i64) (.pr (.int .i64) (.pr (.pr (.int .i64) (.int .i64)) (.pr (.int .i64) .str)))))), 0, (.one ⟨.non, (.dat .bool), 0, 0⟩), fun x => (F39 x)⟩
theorem rL39_0 (x : lsL39_0.hd.T) : kRound env (GofL []) (LofL [(39, [(0, lsL39_0)])]) 39 0 (lpOf Try.prog 39 0).2 (lsL39_0.hd.st x) lsL39_0.rd = lsL39_0.B x := by kernel_rfl
theorem eF39 (x : gF39.a.T) : kF env (GofL []) (LofL [(39, [(0, lsL39_0)])]) 39 (gF39.args x) (gF39.bs x) gF39.r.dec = gF39.F x := by kernel_rfl
theorem sF39 : SpecAt env 1 39 gF39 := mkSpec (r := 0) (gl := []) (L0 := [(0, lsL39_0)]) (by kernel_rfl) trivial ⟨⟨0, by kernel_rfl, by kernel_rfl, rL39_0⟩, trivial⟩ eF39 (fun h => absurd h (by rw [show env.nl 39 = false by kernel_rfl]; decide))
end
end Go.Proofs.Ytagcodkkkebnhaa.K
end

section
set_option linter.unusedVariables false
set_option linter.unusedSimpArgs false
set_option linter.unnecessarySimpa false
open Go Go.Ev Go.Proofs
namespace Go.Proofs.Ytagcodkkkebnhaa.K
set_option linter.unusedVariables false
set_option maxRecDepth 100000
noncomputable section
/-- segment.with -/
def F68 (a0 : ((List (Int × ByteArray)) × Int)) (a1 : Int) (a2 : ByteArray) : Option ((List (Int × ByteArray)) × Int) :=
  bndS (F78 a0.1) fun y0 =>
  sel (oIn a1 (lLen y0)) (
  some ((lSet y0 a1 ((lAt y0 a1).1, a2)), a0.2)) none
def gF68 : FS := ⟨(.seq (.agg (.dat (.pr (.sl (.pr (.int .i64) .str)) (.int .i64)))) (.seq (.dat (.int .i64)) (.dat .str))), 0, (.one ⟨.non, (.agg (.seq (.own 0 (.pr (.int .i64) .str)) (.dat (.int .i64)))), 0, 1⟩), fun x => (F68 x.1 x.2.1 x.2.2)⟩
theorem eF68 (x : gF68.a.T) : kF env (GofL [(78, [gF78])]) (LofL [(68, [])]) 68 (gF68.args x) (gF68.bs x) gF68.r.dec = gF68.F x := by kernel_rfl
theorem sF68 : SpecAt env 2 68 gF68 := mkSpec (r := 1) (gl := [(78, [gF78])]) (L0 := []) (by kernel_rfl) ⟨⟨sF78.up (by decide), trivial⟩, trivial⟩ trivial eF68 (fun h => absurd h (by rw [show env.nl 68 = false by kernel_rfl]; decide))
/-- segment.Written -/
def F41 (a0 : ((List (Int × ByteArray)) × Int)) (a1 : (Int × Int)) (a2 : ByteArray) : Option (((List (Int × ByteArray)) × Int) × Int) :=
  bndS (F67 a0 a1 (sLen a2)) fun y0 =>
  sel (bNot (iEq y0.2 0))
    (some ((([] : List (Int × ByteArray)), 0), y0.2))
    (sel (oIn y0.1 (lLen a0.1)) (
    sel (oCut 0 a1.2 (sLen (lAt a0.1 y0.1).2)) (
    sel (sOk (sCut (lAt a0.1 y0.1).2 0 a1.2) a2) (
    sel (oCut (iAdd .i64 a1.2 (sLen a2)) (sLen (lAt a0.1 y0.1).2) (sLen (lAt a0.1 y0.1).2)) (
    sel (sOk (sAdd (sCut (lAt a0.1 y0.1).2 0 a1.2) a2) (sCut (lAt a0.1 y0.1).2 (iAdd .i64 a1.2 (sLen a2)) (sLen (lAt a0.1 y0.1).2))) (
    bndS (F68 a0 y0.1 (sAdd (sAdd (sCut (lAt a0.1 y0.1).2 0 a1.2) a2) (sCut (lAt a0.1 y0.1).2 (iAdd .i64 a1.2 (sLen a2)) (sLen (lAt a0.1 y0.1).2)))) fun y1 =>
    some (y1, 0)) none) none) none) none) none)
def gF41 : FS := ⟨(.seq (.agg (.dat (.pr (.sl (.pr (.int .i64) .str)) (.int .i64)))) (.seq (.agg (.dat (.pr (.int .i64) (.int .i64)))) (.dat .str))), 0, (.one ⟨.non, (.tup (.seq (.agg (.seq (.own 0 (.pr (.int .i64) .str)) (.dat (.int .i64)))) (.dat (.int .i64)))), 0, 1⟩), fun x => (F41 x.1 x.2.1 x.2.2)⟩
theorem eF41 (x : gF41.a.T) : kF env (GofL [(68, [gF68]), (67, [gF67])]) (LofL [(41, [])]) 41 (gF41.args x) (gF41.bs x) gF41.r.dec = gF41.F x := by kernel_rfl
theorem sF41 : SpecAt env 5 41 gF41 := mkSpec (r := 4) (gl := [(68, [gF68]), (67, [gF67])]) (L0 := []) (by kernel_rfl) ⟨⟨sF68.up (by decide), trivial⟩, ⟨sF67.up (by decide), trivial⟩, trivial⟩ trivial eF41 (fun h => absurd h (by rw [show env.nl 41 = false by kernel_rfl]; decide))
def B10_0 (a0 : (List (Int × (Int × ((Int × Int) × (Int × ByteArray)))))) (a1 : (List (Int × ByteArray))) (a2 : Int) (a3 : (List (Int × ByteArray))) (a4 : Int) (a5 : (List (Int × (Bool × (Bool × (Int × (Int × (ByteArray × (Int × Int))))))))) (a6 : (List Int)) (a7 : Int) (a8 : Int) (a9 : Int) (a10 : Int) : Option (((List (Int × (Int × ((Int × Int) × (Int × ByteArray))))) × (((List (Int × ByteArray)) × Int) × (((List (Int × ByteArray)) × (Int × ((List (Int × (Bool × (Bool × (Int × (Int × (ByteArray × (Int × Int)))))))) × ((List Int) × (Int × (Int × Int)))))) × Int))) ⊕ ((((List (Int × ByteArray)) × Int) × ((List (Int × ByteArray)) × (Int × ((List (Int × (Bool × (Bool × (Int × (Int × (ByteArray × (Int × Int)))))))) × ((List Int) × (Int × (Int × Int))))))) ⊕ Bool)) :=
  sel (iLt a10 (lLen a0))
    (bndS (F14 ((a3, a4), (a5, (a6, (a7, (a8, a9)))))) fun y0 =>
    sel (oIn a10 (lLen a0)) (
    bndS (F22 ((y0.1, y0.2.1), y0.2.2) (lAt a0 a10)) fun y1 =>
    sel (bNot (iEq y1.2.2 0))
      (some (.inr (.inl ((a1, a2), (a3, (a4, (a5, (a6, (a7, (a8, a9))))))))))
      (sel (oIn a10 (lLen a0)) (
      sel (iEq (lAt a0 a10).1 0)
        (bndS (F18 (a1, a2)) fun y4 =>
        sel (oIn a10 (lLen a0)) (
        sel (oIn a10 (lLen a0)) (
        bndS (F40 y4 (lAt a0 a10).2.2.1 (lAt a0 a10).2.2.2.1) fun y5 =>
        sel (bOr (bNot (iEq y5.2 0)) (bNot (sEq y5.1 y1.2.1)))
          (some (.inr (.inr false)))
          (some (.inl (a0, ((a1, a2), (y1.1, (iAdd .i64 a10 1))))))) none) none)
        (sel (iEq (lAt a0 a10).1 1)
          (bndS (F18 (a1, a2)) fun y2 =>
          sel (oIn a10 (lLen a0)) (
          sel (oIn a10 (lLen a0)) (
          bndS (F41 y2 (lAt a0 a10).2.2.1 (lAt a0 a10).2.2.2.2) fun y3 =>
          sel (bNot (iEq y3.2 0))
            (some (.inr (.inr false)))
            (some (.inl (a0, (y3.1, (y1.1, (iAdd .i64 a10 1))))))) none) none)
          (some (.inl (a0, ((a1, a2), (y1.1, (iAdd .i64 a10 1)))))))) none)) none)
    (some (.inr (.inl ((a1, a2), (a3, (a4, (a5, (a6, (a7, (a8, a9))))))))))
def L10_0 (x : ((List (Int × (Int × ((Int × Int) × (Int × ByteArray))))) × (((List (Int × ByteArray)) × Int) × (((List (Int × ByteArray)) × (Int × ((List (Int × (Bool × (Bool × (Int × (Int × (ByteArray × (Int × Int)))))))) × ((List Int) × (Int × (Int × Int)))))) × Int)))) : Option ((((List (Int × ByteArray)) × Int) × ((List (Int × ByteArray)) × (Int × ((List (Int × (Bool × (Bool × (Int × (Int × (ByteArray × (Int × Int)))))))) × ((List Int) × (Int × (Int × Int))))))) ⊕ Bool) := iter (fun (x : ((List (Int × (Int × ((Int × Int) × (Int × ByteArray))))) × (((List (Int × ByteArray)) × Int) × (((List (Int × ByteArray)) × (Int × ((List (Int × (Bool × (Bool × (Int × (Int × (ByteArray × (Int × Int)))))))) × ((List Int) × (Int × (Int × Int)))))) × Int)))) => (B10_0 x.1 x.2.1.1 x.2.1.2 x.2.2.1.1 x.2.2.1.2.1 x.2.2.1.2.2.1 x.2.2.1.2.2.2.1 x.2.2.1.2.2.2.2.1 x.2.2.1.2.2.2.2.2.1 x.2.2.1.2.2.2.2.2.2 x.2.2.2)) fuel x
def lsL10_0 : LS := ⟨(.one .normal ⟨.non, [1, 5, 7, 8], (.seq (.dat (.sl (.pr (.int .i64) (.pr (.int .i64) (.pr (.pr (.int .i64) (.int .i64)) (.pr (.int .i64) .str)))))) (.seq (.box 0 (.seq (.own 1 (.pr (.int .i64) .str)) (.dat (.int .i64)))) (.seq (.box 2 (.seq (.own 3 (.pr (.int .i64) .str)) (.seq (.dat (.int .i64)) (.seq (.own 4 (.pr (.int .i64) (.pr .bool (.pr .bool (.pr (.int .i64) (.pr (.int .i64) (.pr .str (.pr (.int .i64) (.int .i64))))))))) (.seq (.own 5 (.int .i64)) (.seq (.dat (.int .i64)) (.seq (.dat (.int .i64)) (.dat (.int .i64))))))))) (.dat (.int .i64))))), 6, 126, 0⟩), (.two (.one (.exit 0) ⟨.non, [5, 7], (.seq (.box 0 (.seq (.own 1 (.pr (.int .i64) .str)) (.dat (.int .i64)))) (.box 2 (.seq (.own 3 (.pr (.int .i64) .str)) (.seq (.dat (.int .i64)) (.seq (.own 4 (.pr (.int .i64) (.pr .bool (.pr .bool (.pr (.int .i64) (.pr (.int .i64) (.pr .str (.pr (.int .i64) (.int .i64))))))))) (.seq (.own 5 (.int .i64)) (.seq (.dat (.int .i64)) (.seq (.dat (.int .i64)) (.dat (.int .i64)))))))))), 6, 126, 0⟩) (.one .ret ⟨.non, [4], (.dat .bool), 0, 126, 0⟩)), fun (x : ((List (Int × (Int × ((Int × Int) × (Int × ByteArray))))) × (((List (Int × ByteArray)) × Int) × (((List (Int × ByteArray)) × (Int × ((List (Int × (Bool × (Bool × (Int × (Int × (ByteArray × (Int × Int)))))))) × ((List Int) × (Int × (Int × Int)))))) × Int)))) => (B10_0 x.1 x.2.1.1 x.2.1.2 x.2.2.1.1 x.2.2.1.2.1 x.2.2.1.2.2.1 x.2.2.1.2.2.2.1 x.2.2.1.2.2.2.2.1 x.2.2.1.2.2.2.2.2.1 x.2.2.1.2.2.2.2.2.2 x.2.2.2)⟩
/-- midrangelaw05.PagingSame -/
def F10 (a0 : (((List (Int × ByteArray)) × Int) × ((List (Int × (Bool × (Bool × (Int × (Int × (ByteArray × (Int × Int)))))))) × ((List Int) × (Int × (Int × Int)))))) (a1 : (List (Int × (Int × ((Int × Int) × (Int × ByteArray)))))) : Option Bool :=
  bndS (F11) fun y0 =>
  sel (bNot y0)
    (some false)
    (bndS (F12 a0) fun y1 =>
    sel (bOr (okS (F39 a1)) (bNot (bNot (bNot y1)))) (
    letS (valS (F39 a1) false) fun y2 =>
    sel (bOr (okS (F15 a0)) (bNot (bNot (bOr (bNot y1) (bNot y2))))) (
    letS (valS (F15 a0) 0) fun y3 =>
    sel (bOr (bOr (bNot y1) (bNot y2)) (bNot (iEq y3 0)))
      (some true)
      (bndS (F14 a0) fun y4 =>
      bndS (F33 ((y4.1, y4.2.1), y4.2.2)) fun y5 =>
      sel (bNot (iEq y5.2 0))
        (some false)
        (bndS (F14 a0) fun y6 =>
        bndS (L10_0 (a1, (y5.1, (y6, 0)))) fun y7 =>
        sumS y7 (fun y7a =>
          bndS (F14 ((y7a.2.1, y7a.2.2.1), y7a.2.2.2)) fun y8 =>
          bndS (F33 ((y8.1, y8.2.1), y8.2.2)) fun y9 =>
          sel (bOr (okS (F35 y7a.1 y9.1)) (bNot (iEq y9.2 0))) (
          letS (valS (F35 y7a.1 y9.1) false) fun y10 =>
          some (bAnd (iEq y9.2 0) y10)) none) fun y7b =>
          some y7b))) none) none)
def gF10 : FS := ⟨(.seq (.agg (.dat (.pr (.pr (.sl (.pr (.int .i64) .str)) (.int .i64)) (.pr (.sl (.pr (.int .i64) (.pr .bool (.pr .bool (.pr (.int .i64) (.pr (.int .i64) (.pr .str (.pr (.int .i64) (.int .i64))))))))) (.pr (.sl (.int .i64)) (.pr (.int .i64) (.pr (.int .i64) (.int .i64)))))))) (.dat (.sl (.pr (.int .i64) (.pr (.int .i64) (.pr (.pr (.int .i64) (.int .i64)) (.pr (.int .i64) .str))))))), 0, (.one ⟨.non, (.dat .bool), 0, 0⟩), fun x => (F10 x.1 x.2)⟩
theorem rL10_0 (x : lsL10_0.hd.T) : kRound env (GofL [(35, [gF35]), (33, [gF33]), (14, [gF14]), (40, [gF40]), (18, [gF18]), (41, [gF41]), (22, [gF22]), (15, [gF15]), (39, [gF39]), (12, [gF12]), (11, [gF11])]) (LofL [(10, [(0, lsL10_0)])]) 10 0 (lpOf Try.prog 10 0).2 (lsL10_0.hd.st x) lsL10_0.rd = lsL10_0.B x := by kernel_rfl
theorem eF10 (x : gF10.a.T) : kF env (GofL [(35, [gF35]), (33, [gF33]), (14, [gF14]), (40, [gF40]), (18, [gF18]), (41, [gF41]), (22, [gF22]), (15, [gF15]), (39, [gF39]), (12, [gF12]), (11, [gF11])]) (LofL [(10, [(0, lsL10_0)])]) 10 (gF10.args x) (gF10.bs x) gF10.r.dec = gF10.F x := by kernel_rfl
theorem sF10 : SpecAt env 11 10 gF10 := mkSpec (r := 10) (gl := [(35, [gF35]), (33, [gF33]), (14, [gF14]), (40, [gF40]), (18, [gF18]), (41, [gF41]), (22, [gF22]), (15, [gF15]), (39, [gF39]), (12, [gF12]), (11, [gF11])]) (L0 := [(0, lsL10_0)]) (by kernel_rfl) ⟨⟨sF35.up (by decide), trivial⟩, ⟨sF33.up (by decide), trivial⟩, ⟨sF14.up (by decide), trivial⟩, ⟨sF40.up (by decide), trivial⟩, ⟨sF18.up (by decide), trivial⟩, ⟨sF41.up (by decide), trivial⟩, ⟨sF22.up (by decide), trivial⟩, ⟨sF15.up (by decide), trivial⟩, ⟨sF39.up (by decide), trivial⟩, ⟨sF12.up (by decide), trivial⟩, ⟨sF11.up (by decide), trivial⟩, trivial⟩ ⟨⟨0, by kernel_rfl, by kernel_rfl, rL10_0⟩, trivial⟩ eF10 (fun h => absurd h (by rw [show env.nl 10 = false by kernel_rfl]; decide))
end
end Go.Proofs.Ytagcodkkkebnhaa.K
end
