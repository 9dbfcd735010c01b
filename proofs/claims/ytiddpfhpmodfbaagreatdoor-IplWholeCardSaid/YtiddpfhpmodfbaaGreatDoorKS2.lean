/- A part of the proof: texts of the author, joined. -/
import Derived.Test.YtiddpfhpmodfbaaGreatDoorKS1
section
set_option linter.unusedVariables false
set_option linter.unusedSimpArgs false
set_option linter.unnecessarySimpa false
open Go Go.Ev Go.Proofs
namespace Go.Proofs.YtiddpfhpmodfbaaGreatDoor.K
set_option linter.unusedVariables false
set_option maxRecDepth 100000
noncomputable section
def B125_0_3 (a0 : Tq2) (a1 : Int) (a2 : Int) (a3 : Int) (a4 : Bool) (a5 : Bool) : Option (Tq9 ⊕ Tq2) :=
  sel (iLe (iSub .i64 a2 a1) 12)
    (bndS (F166 a0 a1 a2) fun y50 =>
    some (.inr y50))
    (sel (iEq a3 0)
      (bndS (F167 a0 a1 a2) fun y49 =>
      some (.inr y49))
      (sel (bNot a4)
        (bndS (F168 a0 a1 a2) fun y24 =>
        bndS (F169 y24 a1 a2) fun y25 =>
        sel (iEq y25.2.2 2)
          (bndS (F170 y25.1 a1 a2) fun y37 =>
          sel (bAnd (bAnd a4 a5) true)
            (bndS (F171 y37 a1 a2) fun y43 =>
            sel y43.2
              (some (.inr y43.1))
              (sel (bOr (oIn (iSub .i64 a1 1) (lLen y43.1)) (bNot (iLt 0 a1))) (
              sel (bOr (oIn (iSub .i64 (iSub .i64 a2 1) (iSub .i64 y25.2.1 a1)) (lLen y43.1)) (bNot (iLt 0 a1))) (
              sel (bOr (okS (F63 (lAt y43.1 (iSub .i64 a1 1)) (lAt y43.1 (iSub .i64 (iSub .i64 a2 1) (iSub .i64 y25.2.1 a1))))) (bNot (iLt 0 a1))) (
              letS (valS (F63 (lAt y43.1 (iSub .i64 a1 1)) (lAt y43.1 (iSub .i64 (iSub .i64 a2 1) (iSub .i64 y25.2.1 a1)))) 0) fun y44 =>
              sel (bAnd (iLt 0 a1) (bNot (iLt y44 0)))
                (bndS (F172 y43.1 a1 a2 (iSub .i64 (iSub .i64 a2 1) (iSub .i64 y25.2.1 a1))) fun y48 =>
                some (.inl (y48.1, (y48.2, (a2, ((iSub .i64 a3 1), (a4, a5)))))))
                (bndS (F173 y43.1 a1 a2 (iSub .i64 (iSub .i64 a2 1) (iSub .i64 y25.2.1 a1))) fun y45 =>
                sel (oNz 8) (
                sel (iLt (iSub .i64 y45.2.1 a1) (iSub .i64 a2 y45.2.1))
                  (bndS (F125r3 y45.1 a1 y45.2.1 (iSub .i64 a3 1)) fun y47 =>
                  some (.inl (y47, ((iAdd .i64 y45.2.1 1), (a2, ((iSub .i64 a3 1), ((iLe (iQuo .i64 (iSub .i64 a2 a1) 8) (iSub .i64 y45.2.1 a1)), y45.2.2)))))))
                  (bndS (F125r3 y45.1 (iAdd .i64 y45.2.1 1) a2 (iSub .i64 a3 1)) fun y46 =>
                  some (.inl (y46, (a1, (y45.2.1, ((iSub .i64 a3 1), ((iLe (iQuo .i64 (iSub .i64 a2 a1) 8) (iSub .i64 a2 y45.2.1)), y45.2.2)))))))) none)) none) none) none))
            (sel (bOr (oIn (iSub .i64 a1 1) (lLen y37)) (bNot (iLt 0 a1))) (
            sel (bOr (oIn (iSub .i64 (iSub .i64 a2 1) (iSub .i64 y25.2.1 a1)) (lLen y37)) (bNot (iLt 0 a1))) (
            sel (bOr (okS (F63 (lAt y37 (iSub .i64 a1 1)) (lAt y37 (iSub .i64 (iSub .i64 a2 1) (iSub .i64 y25.2.1 a1))))) (bNot (iLt 0 a1))) (
            letS (valS (F63 (lAt y37 (iSub .i64 a1 1)) (lAt y37 (iSub .i64 (iSub .i64 a2 1) (iSub .i64 y25.2.1 a1)))) 0) fun y38 =>
            sel (bAnd (iLt 0 a1) (bNot (iLt y38 0)))
              (bndS (F172 y37 a1 a2 (iSub .i64 (iSub .i64 a2 1) (iSub .i64 y25.2.1 a1))) fun y42 =>
              some (.inl (y42.1, (y42.2, (a2, ((iSub .i64 a3 1), (a4, a5)))))))
              (bndS (F173 y37 a1 a2 (iSub .i64 (iSub .i64 a2 1) (iSub .i64 y25.2.1 a1))) fun y39 =>
              sel (oNz 8) (
              sel (iLt (iSub .i64 y39.2.1 a1) (iSub .i64 a2 y39.2.1))
                (bndS (F125r3 y39.1 a1 y39.2.1 (iSub .i64 a3 1)) fun y41 =>
                some (.inl (y41, ((iAdd .i64 y39.2.1 1), (a2, ((iSub .i64 a3 1), ((iLe (iQuo .i64 (iSub .i64 a2 a1) 8) (iSub .i64 y39.2.1 a1)), y39.2.2)))))))
                (bndS (F125r3 y39.1 (iAdd .i64 y39.2.1 1) a2 (iSub .i64 a3 1)) fun y40 =>
                some (.inl (y40, (a1, (y39.2.1, ((iSub .i64 a3 1), ((iLe (iQuo .i64 (iSub .i64 a2 a1) 8) (iSub .i64 a2 y39.2.1)), y39.2.2)))))))) none)) none) none) none))
          (sel (bAnd (bAnd a4 a5) (iEq y25.2.2 1))
            (bndS (F171 y25.1 a1 a2) fun y31 =>
            sel y31.2
              (some (.inr y31.1))
              (sel (bOr (oIn (iSub .i64 a1 1) (lLen y31.1)) (bNot (iLt 0 a1))) (
              sel (bOr (oIn y25.2.1 (lLen y31.1)) (bNot (iLt 0 a1))) (
              sel (bOr (okS (F63 (lAt y31.1 (iSub .i64 a1 1)) (lAt y31.1 y25.2.1))) (bNot (iLt 0 a1))) (
              letS (valS (F63 (lAt y31.1 (iSub .i64 a1 1)) (lAt y31.1 y25.2.1)) 0) fun y32 =>
              sel (bAnd (iLt 0 a1) (bNot (iLt y32 0)))
                (bndS (F172 y31.1 a1 a2 y25.2.1) fun y36 =>
                some (.inl (y36.1, (y36.2, (a2, ((iSub .i64 a3 1), (a4, a5)))))))
                (bndS (F173 y31.1 a1 a2 y25.2.1) fun y33 =>
                sel (oNz 8) (
                sel (iLt (iSub .i64 y33.2.1 a1) (iSub .i64 a2 y33.2.1))
                  (bndS (F125r3 y33.1 a1 y33.2.1 (iSub .i64 a3 1)) fun y35 =>
                  some (.inl (y35, ((iAdd .i64 y33.2.1 1), (a2, ((iSub .i64 a3 1), ((iLe (iQuo .i64 (iSub .i64 a2 a1) 8) (iSub .i64 y33.2.1 a1)), y33.2.2)))))))
                  (bndS (F125r3 y33.1 (iAdd .i64 y33.2.1 1) a2 (iSub .i64 a3 1)) fun y34 =>
                  some (.inl (y34, (a1, (y33.2.1, ((iSub .i64 a3 1), ((iLe (iQuo .i64 (iSub .i64 a2 a1) 8) (iSub .i64 a2 y33.2.1)), y33.2.2)))))))) none)) none) none) none))
            (sel (bOr (oIn (iSub .i64 a1 1) (lLen y25.1)) (bNot (iLt 0 a1))) (
            sel (bOr (oIn y25.2.1 (lLen y25.1)) (bNot (iLt 0 a1))) (
            sel (bOr (okS (F63 (lAt y25.1 (iSub .i64 a1 1)) (lAt y25.1 y25.2.1))) (bNot (iLt 0 a1))) (
            letS (valS (F63 (lAt y25.1 (iSub .i64 a1 1)) (lAt y25.1 y25.2.1)) 0) fun y26 =>
            sel (bAnd (iLt 0 a1) (bNot (iLt y26 0)))
              (bndS (F172 y25.1 a1 a2 y25.2.1) fun y30 =>
              some (.inl (y30.1, (y30.2, (a2, ((iSub .i64 a3 1), (a4, a5)))))))
              (bndS (F173 y25.1 a1 a2 y25.2.1) fun y27 =>
              sel (oNz 8) (
              sel (iLt (iSub .i64 y27.2.1 a1) (iSub .i64 a2 y27.2.1))
                (bndS (F125r3 y27.1 a1 y27.2.1 (iSub .i64 a3 1)) fun y29 =>
                some (.inl (y29, ((iAdd .i64 y27.2.1 1), (a2, ((iSub .i64 a3 1), ((iLe (iQuo .i64 (iSub .i64 a2 a1) 8) (iSub .i64 y27.2.1 a1)), y27.2.2)))))))
                (bndS (F125r3 y27.1 (iAdd .i64 y27.2.1 1) a2 (iSub .i64 a3 1)) fun y28 =>
                some (.inl (y28, (a1, (y27.2.1, ((iSub .i64 a3 1), ((iLe (iQuo .i64 (iSub .i64 a2 a1) 8) (iSub .i64 a2 y27.2.1)), y27.2.2)))))))) none)) none) none) none)))
        (bndS (F169 a0 a1 a2) fun y0 =>
        sel (iEq y0.2.2 2)
          (bndS (F170 y0.1 a1 a2) fun y12 =>
          sel (bAnd (bAnd a4 a5) true)
            (bndS (F171 y12 a1 a2) fun y18 =>
            sel y18.2
              (some (.inr y18.1))
              (sel (bOr (oIn (iSub .i64 a1 1) (lLen y18.1)) (bNot (iLt 0 a1))) (
              sel (bOr (oIn (iSub .i64 (iSub .i64 a2 1) (iSub .i64 y0.2.1 a1)) (lLen y18.1)) (bNot (iLt 0 a1))) (
              sel (bOr (okS (F63 (lAt y18.1 (iSub .i64 a1 1)) (lAt y18.1 (iSub .i64 (iSub .i64 a2 1) (iSub .i64 y0.2.1 a1))))) (bNot (iLt 0 a1))) (
              letS (valS (F63 (lAt y18.1 (iSub .i64 a1 1)) (lAt y18.1 (iSub .i64 (iSub .i64 a2 1) (iSub .i64 y0.2.1 a1)))) 0) fun y19 =>
              sel (bAnd (iLt 0 a1) (bNot (iLt y19 0)))
                (bndS (F172 y18.1 a1 a2 (iSub .i64 (iSub .i64 a2 1) (iSub .i64 y0.2.1 a1))) fun y23 =>
                some (.inl (y23.1, (y23.2, (a2, (a3, (a4, a5)))))))
                (bndS (F173 y18.1 a1 a2 (iSub .i64 (iSub .i64 a2 1) (iSub .i64 y0.2.1 a1))) fun y20 =>
                sel (oNz 8) (
                sel (iLt (iSub .i64 y20.2.1 a1) (iSub .i64 a2 y20.2.1))
                  (bndS (F125r3 y20.1 a1 y20.2.1 a3) fun y22 =>
                  some (.inl (y22, ((iAdd .i64 y20.2.1 1), (a2, (a3, ((iLe (iQuo .i64 (iSub .i64 a2 a1) 8) (iSub .i64 y20.2.1 a1)), y20.2.2)))))))
                  (bndS (F125r3 y20.1 (iAdd .i64 y20.2.1 1) a2 a3) fun y21 =>
                  some (.inl (y21, (a1, (y20.2.1, (a3, ((iLe (iQuo .i64 (iSub .i64 a2 a1) 8) (iSub .i64 a2 y20.2.1)), y20.2.2)))))))) none)) none) none) none))
            (sel (bOr (oIn (iSub .i64 a1 1) (lLen y12)) (bNot (iLt 0 a1))) (
            sel (bOr (oIn (iSub .i64 (iSub .i64 a2 1) (iSub .i64 y0.2.1 a1)) (lLen y12)) (bNot (iLt 0 a1))) (
            sel (bOr (okS (F63 (lAt y12 (iSub .i64 a1 1)) (lAt y12 (iSub .i64 (iSub .i64 a2 1) (iSub .i64 y0.2.1 a1))))) (bNot (iLt 0 a1))) (
            letS (valS (F63 (lAt y12 (iSub .i64 a1 1)) (lAt y12 (iSub .i64 (iSub .i64 a2 1) (iSub .i64 y0.2.1 a1)))) 0) fun y13 =>
            sel (bAnd (iLt 0 a1) (bNot (iLt y13 0)))
              (bndS (F172 y12 a1 a2 (iSub .i64 (iSub .i64 a2 1) (iSub .i64 y0.2.1 a1))) fun y17 =>
              some (.inl (y17.1, (y17.2, (a2, (a3, (a4, a5)))))))
              (bndS (F173 y12 a1 a2 (iSub .i64 (iSub .i64 a2 1) (iSub .i64 y0.2.1 a1))) fun y14 =>
              sel (oNz 8) (
              sel (iLt (iSub .i64 y14.2.1 a1) (iSub .i64 a2 y14.2.1))
                (bndS (F125r3 y14.1 a1 y14.2.1 a3) fun y16 =>
                some (.inl (y16, ((iAdd .i64 y14.2.1 1), (a2, (a3, ((iLe (iQuo .i64 (iSub .i64 a2 a1) 8) (iSub .i64 y14.2.1 a1)), y14.2.2)))))))
                (bndS (F125r3 y14.1 (iAdd .i64 y14.2.1 1) a2 a3) fun y15 =>
                some (.inl (y15, (a1, (y14.2.1, (a3, ((iLe (iQuo .i64 (iSub .i64 a2 a1) 8) (iSub .i64 a2 y14.2.1)), y14.2.2)))))))) none)) none) none) none))
          (sel (bAnd (bAnd a4 a5) (iEq y0.2.2 1))
            (bndS (F171 y0.1 a1 a2) fun y6 =>
            sel y6.2
              (some (.inr y6.1))
              (sel (bOr (oIn (iSub .i64 a1 1) (lLen y6.1)) (bNot (iLt 0 a1))) (
              sel (bOr (oIn y0.2.1 (lLen y6.1)) (bNot (iLt 0 a1))) (
              sel (bOr (okS (F63 (lAt y6.1 (iSub .i64 a1 1)) (lAt y6.1 y0.2.1))) (bNot (iLt 0 a1))) (
              letS (valS (F63 (lAt y6.1 (iSub .i64 a1 1)) (lAt y6.1 y0.2.1)) 0) fun y7 =>
              sel (bAnd (iLt 0 a1) (bNot (iLt y7 0)))
                (bndS (F172 y6.1 a1 a2 y0.2.1) fun y11 =>
                some (.inl (y11.1, (y11.2, (a2, (a3, (a4, a5)))))))
                (bndS (F173 y6.1 a1 a2 y0.2.1) fun y8 =>
                sel (oNz 8) (
                sel (iLt (iSub .i64 y8.2.1 a1) (iSub .i64 a2 y8.2.1))
                  (bndS (F125r3 y8.1 a1 y8.2.1 a3) fun y10 =>
                  some (.inl (y10, ((iAdd .i64 y8.2.1 1), (a2, (a3, ((iLe (iQuo .i64 (iSub .i64 a2 a1) 8) (iSub .i64 y8.2.1 a1)), y8.2.2)))))))
                  (bndS (F125r3 y8.1 (iAdd .i64 y8.2.1 1) a2 a3) fun y9 =>
                  some (.inl (y9, (a1, (y8.2.1, (a3, ((iLe (iQuo .i64 (iSub .i64 a2 a1) 8) (iSub .i64 a2 y8.2.1)), y8.2.2)))))))) none)) none) none) none))
            (sel (bOr (oIn (iSub .i64 a1 1) (lLen y0.1)) (bNot (iLt 0 a1))) (
            sel (bOr (oIn y0.2.1 (lLen y0.1)) (bNot (iLt 0 a1))) (
            sel (bOr (okS (F63 (lAt y0.1 (iSub .i64 a1 1)) (lAt y0.1 y0.2.1))) (bNot (iLt 0 a1))) (
            letS (valS (F63 (lAt y0.1 (iSub .i64 a1 1)) (lAt y0.1 y0.2.1)) 0) fun y1 =>
            sel (bAnd (iLt 0 a1) (bNot (iLt y1 0)))
              (bndS (F172 y0.1 a1 a2 y0.2.1) fun y5 =>
              some (.inl (y5.1, (y5.2, (a2, (a3, (a4, a5)))))))
              (bndS (F173 y0.1 a1 a2 y0.2.1) fun y2 =>
              sel (oNz 8) (
              sel (iLt (iSub .i64 y2.2.1 a1) (iSub .i64 a2 y2.2.1))
                (bndS (F125r3 y2.1 a1 y2.2.1 a3) fun y4 =>
                some (.inl (y4, ((iAdd .i64 y2.2.1 1), (a2, (a3, ((iLe (iQuo .i64 (iSub .i64 a2 a1) 8) (iSub .i64 y2.2.1 a1)), y2.2.2)))))))
                (bndS (F125r3 y2.1 (iAdd .i64 y2.2.1 1) a2 a3) fun y3 =>
                some (.inl (y3, (a1, (y2.2.1, (a3, ((iLe (iQuo .i64 (iSub .i64 a2 a1) 8) (iSub .i64 a2 y2.2.1)), y2.2.2)))))))) none)) none) none) none)))))
def L125_0_3 (x : Tq9) : Option Tq2 := iter (fun (x : Tq9) => (B125_0_3 x.1 x.2.1 x.2.2.1 x.2.2.2.1 x.2.2.2.2.1 x.2.2.2.2.2)) fuel x
def lsL125_0_3 : LS := ⟨(.one .normal ⟨(.own 0 Yq3), [0, 1, 2, 3, 4, 10, 11], (.seq (.alo 0) (.seq (.dat (.int .i64)) (.seq (.dat (.int .i64)) (.seq (.dat (.int .i64)) (.seq (.fn 63 .non) (.seq (.dat .bool) (.dat .bool))))))), 1, 148, 1⟩), (.one .ret ⟨(.own 0 Yq3), [], .non, 1, 148, 1⟩), fun (x : Tq9) => (B125_0_3 x.1 x.2.1 x.2.2.1 x.2.2.2.1 x.2.2.2.2.1 x.2.2.2.2.2)⟩
def F125r2 (a0 : Tq2) (a1 : Int) (a2 : Int) (a3 : Int) : Option Tq2 :=
  bndS (L125_0_3 (a0, (a1, (a2, (a3, (true, true)))))) fun y0 =>
  some y0
def gF125r2 : FS := ⟨(.seq (.own 0 Yq3) (.seq (.dat (.int .i64)) (.seq (.dat (.int .i64)) (.seq (.dat (.int .i64)) (.fn 63 .non))))), 1, (.one ⟨(.own 0 Yq3), (.tup .non), 1, 0⟩), fun x => (F125r2 x.1 x.2.1 x.2.2.1 x.2.2.2)⟩
theorem rL125_0_3 (x : lsL125_0_3.hd.T) : kRound env (GofL [(166, [gF166]), (167, [gF167]), (172, [gF172]), (125, [gF125r3]), (173, [gF173]), (63, [gF63]), (171, [gF171]), (170, [gF170]), (169, [gF169]), (168, [gF168])]) (LofL [(125, [(0, lsL125_0_3)])]) 125 0 (lpOf Tryz.prog 125 0).2 (lsL125_0_3.hd.st x) lsL125_0_3.rd = lsL125_0_3.B x := by kernel_rfl
theorem eF125r2 (x : gF125r2.a.T) : kF env (GofL [(166, [gF166]), (167, [gF167]), (172, [gF172]), (125, [gF125r3]), (173, [gF173]), (63, [gF63]), (171, [gF171]), (170, [gF170]), (169, [gF169]), (168, [gF168])]) (LofL [(125, [(0, lsL125_0_3)])]) 125 (gF125r2.args x) (gF125r2.bs x) gF125r2.r.dec = gF125r2.F x := by kernel_rfl
theorem sF125r2 : SpecAt env 11 125 gF125r2 := mkSpec (r := 10) (gl := [(166, [gF166]), (167, [gF167]), (172, [gF172]), (125, [gF125r3]), (173, [gF173]), (63, [gF63]), (171, [gF171]), (170, [gF170]), (169, [gF169]), (168, [gF168])]) (L0 := [(0, lsL125_0_3)]) (by kernel_rfl) ⟨⟨sF166.up (by decide), trivial⟩, ⟨sF167.up (by decide), trivial⟩, ⟨sF172.up (by decide), trivial⟩, ⟨sF125r3.up (by decide), trivial⟩, ⟨sF173.up (by decide), trivial⟩, ⟨sF63.up (by decide), trivial⟩, ⟨sF171.up (by decide), trivial⟩, ⟨sF170.up (by decide), trivial⟩, ⟨sF169.up (by decide), trivial⟩, ⟨sF168.up (by decide), trivial⟩, trivial⟩ ⟨⟨0, by kernel_rfl, by kernel_rfl, rL125_0_3⟩, trivial⟩ eF125r2 (fun h => absurd h (by rw [show env.nl 125 = false by kernel_rfl]; decide))
def B125_0_4 (a0 : Tq2) (a1 : Int) (a2 : Int) (a3 : Int) (a4 : Bool) (a5 : Bool) : Option (Tq9 ⊕ Tq2) :=
  sel (iLe (iSub .i64 a2 a1) 12)
    (bndS (F166 a0 a1 a2) fun y50 =>
    some (.inr y50))
    (sel (iEq a3 0)
      (bndS (F167 a0 a1 a2) fun y49 =>
      some (.inr y49))
      (sel (bNot a4)
        (bndS (F168 a0 a1 a2) fun y24 =>
        bndS (F169 y24 a1 a2) fun y25 =>
        sel (iEq y25.2.2 2)
          (bndS (F170 y25.1 a1 a2) fun y37 =>
          sel (bAnd (bAnd a4 a5) true)
            (bndS (F171 y37 a1 a2) fun y43 =>
            sel y43.2
              (some (.inr y43.1))
              (sel (bOr (oIn (iSub .i64 a1 1) (lLen y43.1)) (bNot (iLt 0 a1))) (
              sel (bOr (oIn (iSub .i64 (iSub .i64 a2 1) (iSub .i64 y25.2.1 a1)) (lLen y43.1)) (bNot (iLt 0 a1))) (
              sel (bOr (okS (F63 (lAt y43.1 (iSub .i64 a1 1)) (lAt y43.1 (iSub .i64 (iSub .i64 a2 1) (iSub .i64 y25.2.1 a1))))) (bNot (iLt 0 a1))) (
              letS (valS (F63 (lAt y43.1 (iSub .i64 a1 1)) (lAt y43.1 (iSub .i64 (iSub .i64 a2 1) (iSub .i64 y25.2.1 a1)))) 0) fun y44 =>
              sel (bAnd (iLt 0 a1) (bNot (iLt y44 0)))
                (bndS (F172 y43.1 a1 a2 (iSub .i64 (iSub .i64 a2 1) (iSub .i64 y25.2.1 a1))) fun y48 =>
                some (.inl (y48.1, (y48.2, (a2, ((iSub .i64 a3 1), (a4, a5)))))))
                (bndS (F173 y43.1 a1 a2 (iSub .i64 (iSub .i64 a2 1) (iSub .i64 y25.2.1 a1))) fun y45 =>
                sel (oNz 8) (
                sel (iLt (iSub .i64 y45.2.1 a1) (iSub .i64 a2 y45.2.1))
                  (bndS (F125r2 y45.1 a1 y45.2.1 (iSub .i64 a3 1)) fun y47 =>
                  some (.inl (y47, ((iAdd .i64 y45.2.1 1), (a2, ((iSub .i64 a3 1), ((iLe (iQuo .i64 (iSub .i64 a2 a1) 8) (iSub .i64 y45.2.1 a1)), y45.2.2)))))))
                  (bndS (F125r2 y45.1 (iAdd .i64 y45.2.1 1) a2 (iSub .i64 a3 1)) fun y46 =>
                  some (.inl (y46, (a1, (y45.2.1, ((iSub .i64 a3 1), ((iLe (iQuo .i64 (iSub .i64 a2 a1) 8) (iSub .i64 a2 y45.2.1)), y45.2.2)))))))) none)) none) none) none))
            (sel (bOr (oIn (iSub .i64 a1 1) (lLen y37)) (bNot (iLt 0 a1))) (
            sel (bOr (oIn (iSub .i64 (iSub .i64 a2 1) (iSub .i64 y25.2.1 a1)) (lLen y37)) (bNot (iLt 0 a1))) (
            sel (bOr (okS (F63 (lAt y37 (iSub .i64 a1 1)) (lAt y37 (iSub .i64 (iSub .i64 a2 1) (iSub .i64 y25.2.1 a1))))) (bNot (iLt 0 a1))) (
            letS (valS (F63 (lAt y37 (iSub .i64 a1 1)) (lAt y37 (iSub .i64 (iSub .i64 a2 1) (iSub .i64 y25.2.1 a1)))) 0) fun y38 =>
            sel (bAnd (iLt 0 a1) (bNot (iLt y38 0)))
              (bndS (F172 y37 a1 a2 (iSub .i64 (iSub .i64 a2 1) (iSub .i64 y25.2.1 a1))) fun y42 =>
              some (.inl (y42.1, (y42.2, (a2, ((iSub .i64 a3 1), (a4, a5)))))))
              (bndS (F173 y37 a1 a2 (iSub .i64 (iSub .i64 a2 1) (iSub .i64 y25.2.1 a1))) fun y39 =>
              sel (oNz 8) (
              sel (iLt (iSub .i64 y39.2.1 a1) (iSub .i64 a2 y39.2.1))
                (bndS (F125r2 y39.1 a1 y39.2.1 (iSub .i64 a3 1)) fun y41 =>
                some (.inl (y41, ((iAdd .i64 y39.2.1 1), (a2, ((iSub .i64 a3 1), ((iLe (iQuo .i64 (iSub .i64 a2 a1) 8) (iSub .i64 y39.2.1 a1)), y39.2.2)))))))
                (bndS (F125r2 y39.1 (iAdd .i64 y39.2.1 1) a2 (iSub .i64 a3 1)) fun y40 =>
                some (.inl (y40, (a1, (y39.2.1, ((iSub .i64 a3 1), ((iLe (iQuo .i64 (iSub .i64 a2 a1) 8) (iSub .i64 a2 y39.2.1)), y39.2.2)))))))) none)) none) none) none))
          (sel (bAnd (bAnd a4 a5) (iEq y25.2.2 1))
            (bndS (F171 y25.1 a1 a2) fun y31 =>
            sel y31.2
              (some (.inr y31.1))
              (sel (bOr (oIn (iSub .i64 a1 1) (lLen y31.1)) (bNot (iLt 0 a1))) (
              sel (bOr (oIn y25.2.1 (lLen y31.1)) (bNot (iLt 0 a1))) (
              sel (bOr (okS (F63 (lAt y31.1 (iSub .i64 a1 1)) (lAt y31.1 y25.2.1))) (bNot (iLt 0 a1))) (
              letS (valS (F63 (lAt y31.1 (iSub .i64 a1 1)) (lAt y31.1 y25.2.1)) 0) fun y32 =>
              sel (bAnd (iLt 0 a1) (bNot (iLt y32 0)))
                (bndS (F172 y31.1 a1 a2 y25.2.1) fun y36 =>
                some (.inl (y36.1, (y36.2, (a2, ((iSub .i64 a3 1), (a4, a5)))))))
                (bndS (F173 y31.1 a1 a2 y25.2.1) fun y33 =>
                sel (oNz 8) (
                sel (iLt (iSub .i64 y33.2.1 a1) (iSub .i64 a2 y33.2.1))
                  (bndS (F125r2 y33.1 a1 y33.2.1 (iSub .i64 a3 1)) fun y35 =>
                  some (.inl (y35, ((iAdd .i64 y33.2.1 1), (a2, ((iSub .i64 a3 1), ((iLe (iQuo .i64 (iSub .i64 a2 a1) 8) (iSub .i64 y33.2.1 a1)), y33.2.2)))))))
                  (bndS (F125r2 y33.1 (iAdd .i64 y33.2.1 1) a2 (iSub .i64 a3 1)) fun y34 =>
                  some (.inl (y34, (a1, (y33.2.1, ((iSub .i64 a3 1), ((iLe (iQuo .i64 (iSub .i64 a2 a1) 8) (iSub .i64 a2 y33.2.1)), y33.2.2)))))))) none)) none) none) none))
            (sel (bOr (oIn (iSub .i64 a1 1) (lLen y25.1)) (bNot (iLt 0 a1))) (
            sel (bOr (oIn y25.2.1 (lLen y25.1)) (bNot (iLt 0 a1))) (
            sel (bOr (okS (F63 (lAt y25.1 (iSub .i64 a1 1)) (lAt y25.1 y25.2.1))) (bNot (iLt 0 a1))) (
            letS (valS (F63 (lAt y25.1 (iSub .i64 a1 1)) (lAt y25.1 y25.2.1)) 0) fun y26 =>
            sel (bAnd (iLt 0 a1) (bNot (iLt y26 0)))
              (bndS (F172 y25.1 a1 a2 y25.2.1) fun y30 =>
              some (.inl (y30.1, (y30.2, (a2, ((iSub .i64 a3 1), (a4, a5)))))))
              (bndS (F173 y25.1 a1 a2 y25.2.1) fun y27 =>
              sel (oNz 8) (
              sel (iLt (iSub .i64 y27.2.1 a1) (iSub .i64 a2 y27.2.1))
                (bndS (F125r2 y27.1 a1 y27.2.1 (iSub .i64 a3 1)) fun y29 =>
                some (.inl (y29, ((iAdd .i64 y27.2.1 1), (a2, ((iSub .i64 a3 1), ((iLe (iQuo .i64 (iSub .i64 a2 a1) 8) (iSub .i64 y27.2.1 a1)), y27.2.2)))))))
                (bndS (F125r2 y27.1 (iAdd .i64 y27.2.1 1) a2 (iSub .i64 a3 1)) fun y28 =>
                some (.inl (y28, (a1, (y27.2.1, ((iSub .i64 a3 1), ((iLe (iQuo .i64 (iSub .i64 a2 a1) 8) (iSub .i64 a2 y27.2.1)), y27.2.2)))))))) none)) none) none) none)))
        (bndS (F169 a0 a1 a2) fun y0 =>
        sel (iEq y0.2.2 2)
          (bndS (F170 y0.1 a1 a2) fun y12 =>
          sel (bAnd (bAnd a4 a5) true)
            (bndS (F171 y12 a1 a2) fun y18 =>
            sel y18.2
              (some (.inr y18.1))
              (sel (bOr (oIn (iSub .i64 a1 1) (lLen y18.1)) (bNot (iLt 0 a1))) (
              sel (bOr (oIn (iSub .i64 (iSub .i64 a2 1) (iSub .i64 y0.2.1 a1)) (lLen y18.1)) (bNot (iLt 0 a1))) (
              sel (bOr (okS (F63 (lAt y18.1 (iSub .i64 a1 1)) (lAt y18.1 (iSub .i64 (iSub .i64 a2 1) (iSub .i64 y0.2.1 a1))))) (bNot (iLt 0 a1))) (
              letS (valS (F63 (lAt y18.1 (iSub .i64 a1 1)) (lAt y18.1 (iSub .i64 (iSub .i64 a2 1) (iSub .i64 y0.2.1 a1)))) 0) fun y19 =>
              sel (bAnd (iLt 0 a1) (bNot (iLt y19 0)))
                (bndS (F172 y18.1 a1 a2 (iSub .i64 (iSub .i64 a2 1) (iSub .i64 y0.2.1 a1))) fun y23 =>
                some (.inl (y23.1, (y23.2, (a2, (a3, (a4, a5)))))))
                (bndS (F173 y18.1 a1 a2 (iSub .i64 (iSub .i64 a2 1) (iSub .i64 y0.2.1 a1))) fun y20 =>
                sel (oNz 8) (
                sel (iLt (iSub .i64 y20.2.1 a1) (iSub .i64 a2 y20.2.1))
                  (bndS (F125r2 y20.1 a1 y20.2.1 a3) fun y22 =>
                  some (.inl (y22, ((iAdd .i64 y20.2.1 1), (a2, (a3, ((iLe (iQuo .i64 (iSub .i64 a2 a1) 8) (iSub .i64 y20.2.1 a1)), y20.2.2)))))))
                  (bndS (F125r2 y20.1 (iAdd .i64 y20.2.1 1) a2 a3) fun y21 =>
                  some (.inl (y21, (a1, (y20.2.1, (a3, ((iLe (iQuo .i64 (iSub .i64 a2 a1) 8) (iSub .i64 a2 y20.2.1)), y20.2.2)))))))) none)) none) none) none))
            (sel (bOr (oIn (iSub .i64 a1 1) (lLen y12)) (bNot (iLt 0 a1))) (
            sel (bOr (oIn (iSub .i64 (iSub .i64 a2 1) (iSub .i64 y0.2.1 a1)) (lLen y12)) (bNot (iLt 0 a1))) (
            sel (bOr (okS (F63 (lAt y12 (iSub .i64 a1 1)) (lAt y12 (iSub .i64 (iSub .i64 a2 1) (iSub .i64 y0.2.1 a1))))) (bNot (iLt 0 a1))) (
            letS (valS (F63 (lAt y12 (iSub .i64 a1 1)) (lAt y12 (iSub .i64 (iSub .i64 a2 1) (iSub .i64 y0.2.1 a1)))) 0) fun y13 =>
            sel (bAnd (iLt 0 a1) (bNot (iLt y13 0)))
              (bndS (F172 y12 a1 a2 (iSub .i64 (iSub .i64 a2 1) (iSub .i64 y0.2.1 a1))) fun y17 =>
              some (.inl (y17.1, (y17.2, (a2, (a3, (a4, a5)))))))
              (bndS (F173 y12 a1 a2 (iSub .i64 (iSub .i64 a2 1) (iSub .i64 y0.2.1 a1))) fun y14 =>
              sel (oNz 8) (
              sel (iLt (iSub .i64 y14.2.1 a1) (iSub .i64 a2 y14.2.1))
                (bndS (F125r2 y14.1 a1 y14.2.1 a3) fun y16 =>
                some (.inl (y16, ((iAdd .i64 y14.2.1 1), (a2, (a3, ((iLe (iQuo .i64 (iSub .i64 a2 a1) 8) (iSub .i64 y14.2.1 a1)), y14.2.2)))))))
                (bndS (F125r2 y14.1 (iAdd .i64 y14.2.1 1) a2 a3) fun y15 =>
                some (.inl (y15, (a1, (y14.2.1, (a3, ((iLe (iQuo .i64 (iSub .i64 a2 a1) 8) (iSub .i64 a2 y14.2.1)), y14.2.2)))))))) none)) none) none) none))
          (sel (bAnd (bAnd a4 a5) (iEq y0.2.2 1))
            (bndS (F171 y0.1 a1 a2) fun y6 =>
            sel y6.2
              (some (.inr y6.1))
              (sel (bOr (oIn (iSub .i64 a1 1) (lLen y6.1)) (bNot (iLt 0 a1))) (
              sel (bOr (oIn y0.2.1 (lLen y6.1)) (bNot (iLt 0 a1))) (
              sel (bOr (okS (F63 (lAt y6.1 (iSub .i64 a1 1)) (lAt y6.1 y0.2.1))) (bNot (iLt 0 a1))) (
              letS (valS (F63 (lAt y6.1 (iSub .i64 a1 1)) (lAt y6.1 y0.2.1)) 0) fun y7 =>
              sel (bAnd (iLt 0 a1) (bNot (iLt y7 0)))
                (bndS (F172 y6.1 a1 a2 y0.2.1) fun y11 =>
                some (.inl (y11.1, (y11.2, (a2, (a3, (a4, a5)))))))
                (bndS (F173 y6.1 a1 a2 y0.2.1) fun y8 =>
                sel (oNz 8) (
                sel (iLt (iSub .i64 y8.2.1 a1) (iSub .i64 a2 y8.2.1))
                  (bndS (F125r2 y8.1 a1 y8.2.1 a3) fun y10 =>
                  some (.inl (y10, ((iAdd .i64 y8.2.1 1), (a2, (a3, ((iLe (iQuo .i64 (iSub .i64 a2 a1) 8) (iSub .i64 y8.2.1 a1)), y8.2.2)))))))
                  (bndS (F125r2 y8.1 (iAdd .i64 y8.2.1 1) a2 a3) fun y9 =>
                  some (.inl (y9, (a1, (y8.2.1, (a3, ((iLe (iQuo .i64 (iSub .i64 a2 a1) 8) (iSub .i64 a2 y8.2.1)), y8.2.2)))))))) none)) none) none) none))
            (sel (bOr (oIn (iSub .i64 a1 1) (lLen y0.1)) (bNot (iLt 0 a1))) (
            sel (bOr (oIn y0.2.1 (lLen y0.1)) (bNot (iLt 0 a1))) (
            sel (bOr (okS (F63 (lAt y0.1 (iSub .i64 a1 1)) (lAt y0.1 y0.2.1))) (bNot (iLt 0 a1))) (
            letS (valS (F63 (lAt y0.1 (iSub .i64 a1 1)) (lAt y0.1 y0.2.1)) 0) fun y1 =>
            sel (bAnd (iLt 0 a1) (bNot (iLt y1 0)))
              (bndS (F172 y0.1 a1 a2 y0.2.1) fun y5 =>
              some (.inl (y5.1, (y5.2, (a2, (a3, (a4, a5)))))))
              (bndS (F173 y0.1 a1 a2 y0.2.1) fun y2 =>
              sel (oNz 8) (
              sel (iLt (iSub .i64 y2.2.1 a1) (iSub .i64 a2 y2.2.1))
                (bndS (F125r2 y2.1 a1 y2.2.1 a3) fun y4 =>
                some (.inl (y4, ((iAdd .i64 y2.2.1 1), (a2, (a3, ((iLe (iQuo .i64 (iSub .i64 a2 a1) 8) (iSub .i64 y2.2.1 a1)), y2.2.2)))))))
                (bndS (F125r2 y2.1 (iAdd .i64 y2.2.1 1) a2 a3) fun y3 =>
                some (.inl (y3, (a1, (y2.2.1, (a3, ((iLe (iQuo .i64 (iSub .i64 a2 a1) 8) (iSub .i64 a2 y2.2.1)), y2.2.2)))))))) none)) none) none) none)))))
def L125_0_4 (x : Tq9) : Option Tq2 := iter (fun (x : Tq9) => (B125_0_4 x.1 x.2.1 x.2.2.1 x.2.2.2.1 x.2.2.2.2.1 x.2.2.2.2.2)) fuel x
def lsL125_0_4 : LS := ⟨(.one .normal ⟨(.own 0 Yq3), [0, 1, 2, 3, 4, 10, 11], (.seq (.alo 0) (.seq (.dat (.int .i64)) (.seq (.dat (.int .i64)) (.seq (.dat (.int .i64)) (.seq (.fn 63 .non) (.seq (.dat .bool) (.dat .bool))))))), 1, 148, 1⟩), (.one .ret ⟨(.own 0 Yq3), [], .non, 1, 148, 1⟩), fun (x : Tq9) => (B125_0_4 x.1 x.2.1 x.2.2.1 x.2.2.2.1 x.2.2.2.2.1 x.2.2.2.2.2)⟩
def F125r1 (a0 : Tq2) (a1 : Int) (a2 : Int) (a3 : Int) : Option Tq2 :=
  bndS (L125_0_4 (a0, (a1, (a2, (a3, (true, true)))))) fun y0 =>
  some y0
def gF125r1 : FS := ⟨(.seq (.own 0 Yq3) (.seq (.dat (.int .i64)) (.seq (.dat (.int .i64)) (.seq (.dat (.int .i64)) (.fn 63 .non))))), 1, (.one ⟨(.own 0 Yq3), (.tup .non), 1, 0⟩), fun x => (F125r1 x.1 x.2.1 x.2.2.1 x.2.2.2)⟩
theorem rL125_0_4 (x : lsL125_0_4.hd.T) : kRound env (GofL [(166, [gF166]), (167, [gF167]), (172, [gF172]), (125, [gF125r2]), (173, [gF173]), (63, [gF63]), (171, [gF171]), (170, [gF170]), (169, [gF169]), (168, [gF168])]) (LofL [(125, [(0, lsL125_0_4)])]) 125 0 (lpOf Tryz.prog 125 0).2 (lsL125_0_4.hd.st x) lsL125_0_4.rd = lsL125_0_4.B x := by kernel_rfl
theorem eF125r1 (x : gF125r1.a.T) : kF env (GofL [(166, [gF166]), (167, [gF167]), (172, [gF172]), (125, [gF125r2]), (173, [gF173]), (63, [gF63]), (171, [gF171]), (170, [gF170]), (169, [gF169]), (168, [gF168])]) (LofL [(125, [(0, lsL125_0_4)])]) 125 (gF125r1.args x) (gF125r1.bs x) gF125r1.r.dec = gF125r1.F x := by kernel_rfl
theorem sF125r1 : SpecAt env 12 125 gF125r1 := mkSpec (r := 11) (gl := [(166, [gF166]), (167, [gF167]), (172, [gF172]), (125, [gF125r2]), (173, [gF173]), (63, [gF63]), (171, [gF171]), (170, [gF170]), (169, [gF169]), (168, [gF168])]) (L0 := [(0, lsL125_0_4)]) (by kernel_rfl) ⟨⟨sF166.up (by decide), trivial⟩, ⟨sF167.up (by decide), trivial⟩, ⟨sF172.up (by decide), trivial⟩, ⟨sF125r2.up (by decide), trivial⟩, ⟨sF173.up (by decide), trivial⟩, ⟨sF63.up (by decide), trivial⟩, ⟨sF171.up (by decide), trivial⟩, ⟨sF170.up (by decide), trivial⟩, ⟨sF169.up (by decide), trivial⟩, ⟨sF168.up (by decide), trivial⟩, trivial⟩ ⟨⟨0, by kernel_rfl, by kernel_rfl, rL125_0_4⟩, trivial⟩ eF125r1 (fun h => absurd h (by rw [show env.nl 125 = false by kernel_rfl]; decide))
def B125_0_5 (a0 : Tq2) (a1 : Int) (a2 : Int) (a3 : Int) (a4 : Bool) (a5 : Bool) : Option (Tq9 ⊕ Tq2) :=
  sel (iLe (iSub .i64 a2 a1) 12)
    (bndS (F166 a0 a1 a2) fun y50 =>
    some (.inr y50))
    (sel (iEq a3 0)
      (bndS (F167 a0 a1 a2) fun y49 =>
      some (.inr y49))
      (sel (bNot a4)
        (bndS (F168 a0 a1 a2) fun y24 =>
        bndS (F169 y24 a1 a2) fun y25 =>
        sel (iEq y25.2.2 2)
          (bndS (F170 y25.1 a1 a2) fun y37 =>
          sel (bAnd (bAnd a4 a5) true)
            (bndS (F171 y37 a1 a2) fun y43 =>
            sel y43.2
              (some (.inr y43.1))
              (sel (bOr (oIn (iSub .i64 a1 1) (lLen y43.1)) (bNot (iLt 0 a1))) (
              sel (bOr (oIn (iSub .i64 (iSub .i64 a2 1) (iSub .i64 y25.2.1 a1)) (lLen y43.1)) (bNot (iLt 0 a1))) (
              sel (bOr (okS (F63 (lAt y43.1 (iSub .i64 a1 1)) (lAt y43.1 (iSub .i64 (iSub .i64 a2 1) (iSub .i64 y25.2.1 a1))))) (bNot (iLt 0 a1))) (
              letS (valS (F63 (lAt y43.1 (iSub .i64 a1 1)) (lAt y43.1 (iSub .i64 (iSub .i64 a2 1) (iSub .i64 y25.2.1 a1)))) 0) fun y44 =>
              sel (bAnd (iLt 0 a1) (bNot (iLt y44 0)))
                (bndS (F172 y43.1 a1 a2 (iSub .i64 (iSub .i64 a2 1) (iSub .i64 y25.2.1 a1))) fun y48 =>
                some (.inl (y48.1, (y48.2, (a2, ((iSub .i64 a3 1), (a4, a5)))))))
                (bndS (F173 y43.1 a1 a2 (iSub .i64 (iSub .i64 a2 1) (iSub .i64 y25.2.1 a1))) fun y45 =>
                sel (oNz 8) (
                sel (iLt (iSub .i64 y45.2.1 a1) (iSub .i64 a2 y45.2.1))
                  (bndS (F125r1 y45.1 a1 y45.2.1 (iSub .i64 a3 1)) fun y47 =>
                  some (.inl (y47, ((iAdd .i64 y45.2.1 1), (a2, ((iSub .i64 a3 1), ((iLe (iQuo .i64 (iSub .i64 a2 a1) 8) (iSub .i64 y45.2.1 a1)), y45.2.2)))))))
                  (bndS (F125r1 y45.1 (iAdd .i64 y45.2.1 1) a2 (iSub .i64 a3 1)) fun y46 =>
                  some (.inl (y46, (a1, (y45.2.1, ((iSub .i64 a3 1), ((iLe (iQuo .i64 (iSub .i64 a2 a1) 8) (iSub .i64 a2 y45.2.1)), y45.2.2)))))))) none)) none) none) none))
            (sel (bOr (oIn (iSub .i64 a1 1) (lLen y37)) (bNot (iLt 0 a1))) (
            sel (bOr (oIn (iSub .i64 (iSub .i64 a2 1) (iSub .i64 y25.2.1 a1)) (lLen y37)) (bNot (iLt 0 a1))) (
            sel (bOr (okS (F63 (lAt y37 (iSub .i64 a1 1)) (lAt y37 (iSub .i64 (iSub .i64 a2 1) (iSub .i64 y25.2.1 a1))))) (bNot (iLt 0 a1))) (
            letS (valS (F63 (lAt y37 (iSub .i64 a1 1)) (lAt y37 (iSub .i64 (iSub .i64 a2 1) (iSub .i64 y25.2.1 a1)))) 0) fun y38 =>
            sel (bAnd (iLt 0 a1) (bNot (iLt y38 0)))
              (bndS (F172 y37 a1 a2 (iSub .i64 (iSub .i64 a2 1) (iSub .i64 y25.2.1 a1))) fun y42 =>
              some (.inl (y42.1, (y42.2, (a2, ((iSub .i64 a3 1), (a4, a5)))))))
              (bndS (F173 y37 a1 a2 (iSub .i64 (iSub .i64 a2 1) (iSub .i64 y25.2.1 a1))) fun y39 =>
              sel (oNz 8) (
              sel (iLt (iSub .i64 y39.2.1 a1) (iSub .i64 a2 y39.2.1))
                (bndS (F125r1 y39.1 a1 y39.2.1 (iSub .i64 a3 1)) fun y41 =>
                some (.inl (y41, ((iAdd .i64 y39.2.1 1), (a2, ((iSub .i64 a3 1), ((iLe (iQuo .i64 (iSub .i64 a2 a1) 8) (iSub .i64 y39.2.1 a1)), y39.2.2)))))))
                (bndS (F125r1 y39.1 (iAdd .i64 y39.2.1 1) a2 (iSub .i64 a3 1)) fun y40 =>
                some (.inl (y40, (a1, (y39.2.1, ((iSub .i64 a3 1), ((iLe (iQuo .i64 (iSub .i64 a2 a1) 8) (iSub .i64 a2 y39.2.1)), y39.2.2)))))))) none)) none) none) none))
          (sel (bAnd (bAnd a4 a5) (iEq y25.2.2 1))
            (bndS (F171 y25.1 a1 a2) fun y31 =>
            sel y31.2
              (some (.inr y31.1))
              (sel (bOr (oIn (iSub .i64 a1 1) (lLen y31.1)) (bNot (iLt 0 a1))) (
              sel (bOr (oIn y25.2.1 (lLen y31.1)) (bNot (iLt 0 a1))) (
              sel (bOr (okS (F63 (lAt y31.1 (iSub .i64 a1 1)) (lAt y31.1 y25.2.1))) (bNot (iLt 0 a1))) (
              letS (valS (F63 (lAt y31.1 (iSub .i64 a1 1)) (lAt y31.1 y25.2.1)) 0) fun y32 =>
              sel (bAnd (iLt 0 a1) (bNot (iLt y32 0)))
                (bndS (F172 y31.1 a1 a2 y25.2.1) fun y36 =>
                some (.inl (y36.1, (y36.2, (a2, ((iSub .i64 a3 1), (a4, a5)))))))
                (bndS (F173 y31.1 a1 a2 y25.2.1) fun y33 =>
                sel (oNz 8) (
                sel (iLt (iSub .i64 y33.2.1 a1) (iSub .i64 a2 y33.2.1))
                  (bndS (F125r1 y33.1 a1 y33.2.1 (iSub .i64 a3 1)) fun y35 =>
                  some (.inl (y35, ((iAdd .i64 y33.2.1 1), (a2, ((iSub .i64 a3 1), ((iLe (iQuo .i64 (iSub .i64 a2 a1) 8) (iSub .i64 y33.2.1 a1)), y33.2.2)))))))
                  (bndS (F125r1 y33.1 (iAdd .i64 y33.2.1 1) a2 (iSub .i64 a3 1)) fun y34 =>
                  some (.inl (y34, (a1, (y33.2.1, ((iSub .i64 a3 1), ((iLe (iQuo .i64 (iSub .i64 a2 a1) 8) (iSub .i64 a2 y33.2.1)), y33.2.2)))))))) none)) none) none) none))
            (sel (bOr (oIn (iSub .i64 a1 1) (lLen y25.1)) (bNot (iLt 0 a1))) (
            sel (bOr (oIn y25.2.1 (lLen y25.1)) (bNot (iLt 0 a1))) (
            sel (bOr (okS (F63 (lAt y25.1 (iSub .i64 a1 1)) (lAt y25.1 y25.2.1))) (bNot (iLt 0 a1))) (
            letS (valS (F63 (lAt y25.1 (iSub .i64 a1 1)) (lAt y25.1 y25.2.1)) 0) fun y26 =>
            sel (bAnd (iLt 0 a1) (bNot (iLt y26 0)))
              (bndS (F172 y25.1 a1 a2 y25.2.1) fun y30 =>
              some (.inl (y30.1, (y30.2, (a2, ((iSub .i64 a3 1), (a4, a5)))))))
              (bndS (F173 y25.1 a1 a2 y25.2.1) fun y27 =>
              sel (oNz 8) (
              sel (iLt (iSub .i64 y27.2.1 a1) (iSub .i64 a2 y27.2.1))
                (bndS (F125r1 y27.1 a1 y27.2.1 (iSub .i64 a3 1)) fun y29 =>
                some (.inl (y29, ((iAdd .i64 y27.2.1 1), (a2, ((iSub .i64 a3 1), ((iLe (iQuo .i64 (iSub .i64 a2 a1) 8) (iSub .i64 y27.2.1 a1)), y27.2.2)))))))
                (bndS (F125r1 y27.1 (iAdd .i64 y27.2.1 1) a2 (iSub .i64 a3 1)) fun y28 =>
                some (.inl (y28, (a1, (y27.2.1, ((iSub .i64 a3 1), ((iLe (iQuo .i64 (iSub .i64 a2 a1) 8) (iSub .i64 a2 y27.2.1)), y27.2.2)))))))) none)) none) none) none)))
        (bndS (F169 a0 a1 a2) fun y0 =>
        sel (iEq y0.2.2 2)
          (bndS (F170 y0.1 a1 a2) fun y12 =>
          sel (bAnd (bAnd a4 a5) true)
            (bndS (F171 y12 a1 a2) fun y18 =>
            sel y18.2
              (some (.inr y18.1))
              (sel (bOr (oIn (iSub .i64 a1 1) (lLen y18.1)) (bNot (iLt 0 a1))) (
              sel (bOr (oIn (iSub .i64 (iSub .i64 a2 1) (iSub .i64 y0.2.1 a1)) (lLen y18.1)) (bNot (iLt 0 a1))) (
              sel (bOr (okS (F63 (lAt y18.1 (iSub .i64 a1 1)) (lAt y18.1 (iSub .i64 (iSub .i64 a2 1) (iSub .i64 y0.2.1 a1))))) (bNot (iLt 0 a1))) (
              letS (valS (F63 (lAt y18.1 (iSub .i64 a1 1)) (lAt y18.1 (iSub .i64 (iSub .i64 a2 1) (iSub .i64 y0.2.1 a1)))) 0) fun y19 =>
              sel (bAnd (iLt 0 a1) (bNot (iLt y19 0)))
                (bndS (F172 y18.1 a1 a2 (iSub .i64 (iSub .i64 a2 1) (iSub .i64 y0.2.1 a1))) fun y23 =>
                some (.inl (y23.1, (y23.2, (a2, (a3, (a4, a5)))))))
                (bndS (F173 y18.1 a1 a2 (iSub .i64 (iSub .i64 a2 1) (iSub .i64 y0.2.1 a1))) fun y20 =>
                sel (oNz 8) (
                sel (iLt (iSub .i64 y20.2.1 a1) (iSub .i64 a2 y20.2.1))
                  (bndS (F125r1 y20.1 a1 y20.2.1 a3) fun y22 =>
                  some (.inl (y22, ((iAdd .i64 y20.2.1 1), (a2, (a3, ((iLe (iQuo .i64 (iSub .i64 a2 a1) 8) (iSub .i64 y20.2.1 a1)), y20.2.2)))))))
                  (bndS (F125r1 y20.1 (iAdd .i64 y20.2.1 1) a2 a3) fun y21 =>
                  some (.inl (y21, (a1, (y20.2.1, (a3, ((iLe (iQuo .i64 (iSub .i64 a2 a1) 8) (iSub .i64 a2 y20.2.1)), y20.2.2)))))))) none)) none) none) none))
            (sel (bOr (oIn (iSub .i64 a1 1) (lLen y12)) (bNot (iLt 0 a1))) (
            sel (bOr (oIn (iSub .i64 (iSub .i64 a2 1) (iSub .i64 y0.2.1 a1)) (lLen y12)) (bNot (iLt 0 a1))) (
            sel (bOr (okS (F63 (lAt y12 (iSub .i64 a1 1)) (lAt y12 (iSub .i64 (iSub .i64 a2 1) (iSub .i64 y0.2.1 a1))))) (bNot (iLt 0 a1))) (
            letS (valS (F63 (lAt y12 (iSub .i64 a1 1)) (lAt y12 (iSub .i64 (iSub .i64 a2 1) (iSub .i64 y0.2.1 a1)))) 0) fun y13 =>
            sel (bAnd (iLt 0 a1) (bNot (iLt y13 0)))
              (bndS (F172 y12 a1 a2 (iSub .i64 (iSub .i64 a2 1) (iSub .i64 y0.2.1 a1))) fun y17 =>
              some (.inl (y17.1, (y17.2, (a2, (a3, (a4, a5)))))))
              (bndS (F173 y12 a1 a2 (iSub .i64 (iSub .i64 a2 1) (iSub .i64 y0.2.1 a1))) fun y14 =>
              sel (oNz 8) (
              sel (iLt (iSub .i64 y14.2.1 a1) (iSub .i64 a2 y14.2.1))
                (bndS (F125r1 y14.1 a1 y14.2.1 a3) fun y16 =>
                some (.inl (y16, ((iAdd .i64 y14.2.1 1), (a2, (a3, ((iLe (iQuo .i64 (iSub .i64 a2 a1) 8) (iSub .i64 y14.2.1 a1)), y14.2.2)))))))
                (bndS (F125r1 y14.1 (iAdd .i64 y14.2.1 1) a2 a3) fun y15 =>
                some (.inl (y15, (a1, (y14.2.1, (a3, ((iLe (iQuo .i64 (iSub .i64 a2 a1) 8) (iSub .i64 a2 y14.2.1)), y14.2.2)))))))) none)) none) none) none))
          (sel (bAnd (bAnd a4 a5) (iEq y0.2.2 1))
            (bndS (F171 y0.1 a1 a2) fun y6 =>
            sel y6.2
              (some (.inr y6.1))
              (sel (bOr (oIn (iSub .i64 a1 1) (lLen y6.1)) (bNot (iLt 0 a1))) (
              sel (bOr (oIn y0.2.1 (lLen y6.1)) (bNot (iLt 0 a1))) (
              sel (bOr (okS (F63 (lAt y6.1 (iSub .i64 a1 1)) (lAt y6.1 y0.2.1))) (bNot (iLt 0 a1))) (
              letS (valS (F63 (lAt y6.1 (iSub .i64 a1 1)) (lAt y6.1 y0.2.1)) 0) fun y7 =>
              sel (bAnd (iLt 0 a1) (bNot (iLt y7 0)))
                (bndS (F172 y6.1 a1 a2 y0.2.1) fun y11 =>
                some (.inl (y11.1, (y11.2, (a2, (a3, (a4, a5)))))))
                (bndS (F173 y6.1 a1 a2 y0.2.1) fun y8 =>
                sel (oNz 8) (
                sel (iLt (iSub .i64 y8.2.1 a1) (iSub .i64 a2 y8.2.1))
                  (bndS (F125r1 y8.1 a1 y8.2.1 a3) fun y10 =>
                  some (.inl (y10, ((iAdd .i64 y8.2.1 1), (a2, (a3, ((iLe (iQuo .i64 (iSub .i64 a2 a1) 8) (iSub .i64 y8.2.1 a1)), y8.2.2)))))))
                  (bndS (F125r1 y8.1 (iAdd .i64 y8.2.1 1) a2 a3) fun y9 =>
                  some (.inl (y9, (a1, (y8.2.1, (a3, ((iLe (iQuo .i64 (iSub .i64 a2 a1) 8) (iSub .i64 a2 y8.2.1)), y8.2.2)))))))) none)) none) none) none))
            (sel (bOr (oIn (iSub .i64 a1 1) (lLen y0.1)) (bNot (iLt 0 a1))) (
            sel (bOr (oIn y0.2.1 (lLen y0.1)) (bNot (iLt 0 a1))) (
            sel (bOr (okS (F63 (lAt y0.1 (iSub .i64 a1 1)) (lAt y0.1 y0.2.1))) (bNot (iLt 0 a1))) (
            letS (valS (F63 (lAt y0.1 (iSub .i64 a1 1)) (lAt y0.1 y0.2.1)) 0) fun y1 =>
            sel (bAnd (iLt 0 a1) (bNot (iLt y1 0)))
              (bndS (F172 y0.1 a1 a2 y0.2.1) fun y5 =>
              some (.inl (y5.1, (y5.2, (a2, (a3, (a4, a5)))))))
              (bndS (F173 y0.1 a1 a2 y0.2.1) fun y2 =>
              sel (oNz 8) (
              sel (iLt (iSub .i64 y2.2.1 a1) (iSub .i64 a2 y2.2.1))
                (bndS (F125r1 y2.1 a1 y2.2.1 a3) fun y4 =>
                some (.inl (y4, ((iAdd .i64 y2.2.1 1), (a2, (a3, ((iLe (iQuo .i64 (iSub .i64 a2 a1) 8) (iSub .i64 y2.2.1 a1)), y2.2.2)))))))
                (bndS (F125r1 y2.1 (iAdd .i64 y2.2.1 1) a2 a3) fun y3 =>
                some (.inl (y3, (a1, (y2.2.1, (a3, ((iLe (iQuo .i64 (iSub .i64 a2 a1) 8) (iSub .i64 a2 y2.2.1)), y2.2.2)))))))) none)) none) none) none)))))
def L125_0_5 (x : Tq9) : Option Tq2 := iter (fun (x : Tq9) => (B125_0_5 x.1 x.2.1 x.2.2.1 x.2.2.2.1 x.2.2.2.2.1 x.2.2.2.2.2)) fuel x
def lsL125_0_5 : LS := ⟨(.one .normal ⟨(.own 0 Yq3), [0, 1, 2, 3, 4, 10, 11], (.seq (.alo 0) (.seq (.dat (.int .i64)) (.seq (.dat (.int .i64)) (.seq (.dat (.int .i64)) (.seq (.fn 63 .non) (.seq (.dat .bool) (.dat .bool))))))), 1, 148, 1⟩), (.one .ret ⟨(.own 0 Yq3), [], .non, 1, 148, 1⟩), fun (x : Tq9) => (B125_0_5 x.1 x.2.1 x.2.2.1 x.2.2.2.1 x.2.2.2.2.1 x.2.2.2.2.2)⟩
def F125 (a0 : Tq2) (a1 : Int) (a2 : Int) (a3 : Int) : Option Tq2 :=
  bndS (L125_0_5 (a0, (a1, (a2, (a3, (true, true)))))) fun y0 =>
  some y0
def gF125 : FS := ⟨(.seq (.own 0 Yq3) (.seq (.dat (.int .i64)) (.seq (.dat (.int .i64)) (.seq (.dat (.int .i64)) (.fn 63 .non))))), 1, (.one ⟨(.own 0 Yq3), (.tup .non), 1, 0⟩), fun x => (F125 x.1 x.2.1 x.2.2.1 x.2.2.2)⟩
theorem rL125_0_5 (x : lsL125_0_5.hd.T) : kRound env (GofL [(166, [gF166]), (167, [gF167]), (172, [gF172]), (125, [gF125r1]), (173, [gF173]), (63, [gF63]), (171, [gF171]), (170, [gF170]), (169, [gF169]), (168, [gF168])]) (LofL [(125, [(0, lsL125_0_5)])]) 125 0 (lpOf Tryz.prog 125 0).2 (lsL125_0_5.hd.st x) lsL125_0_5.rd = lsL125_0_5.B x := by kernel_rfl
theorem eF125 (x : gF125.a.T) : kF env (GofL [(166, [gF166]), (167, [gF167]), (172, [gF172]), (125, [gF125r1]), (173, [gF173]), (63, [gF63]), (171, [gF171]), (170, [gF170]), (169, [gF169]), (168, [gF168])]) (LofL [(125, [(0, lsL125_0_5)])]) 125 (gF125.args x) (gF125.bs x) gF125.r.dec = gF125.F x := by kernel_rfl
theorem sF125 : SpecAt env 13 125 gF125 := mkSpec (r := 12) (gl := [(166, [gF166]), (167, [gF167]), (172, [gF172]), (125, [gF125r1]), (173, [gF173]), (63, [gF63]), (171, [gF171]), (170, [gF170]), (169, [gF169]), (168, [gF168])]) (L0 := [(0, lsL125_0_5)]) (by kernel_rfl) ⟨⟨sF166.up (by decide), trivial⟩, ⟨sF167.up (by decide), trivial⟩, ⟨sF172.up (by decide), trivial⟩, ⟨sF125r1.up (by decide), trivial⟩, ⟨sF173.up (by decide), trivial⟩, ⟨sF63.up (by decide), trivial⟩, ⟨sF171.up (by decide), trivial⟩, ⟨sF170.up (by decide), trivial⟩, ⟨sF169.up (by decide), trivial⟩, ⟨sF168.up (by decide), trivial⟩, trivial⟩ ⟨⟨0, by kernel_rfl, by kernel_rfl, rL125_0_5⟩, trivial⟩ eF125 (fun h => absurd h (by rw [show env.nl 125 = false by kernel_rfl]; decide))
end
end Go.Proofs.YtiddpfhpmodfbaaGreatDoor.K
end

section
set_option linter.unusedVariables false
set_option linter.unusedSimpArgs false
set_option linter.unnecessarySimpa false
open Go Go.Ev Go.Proofs
namespace Go.Proofs.YtiddpfhpmodfbaaGreatDoor.K
set_option linter.unusedVariables false
set_option maxRecDepth 100000
noncomputable section
def F71 (a0 : Tq2) : Option Tq2 :=
  bndS (F126 (iCv .u64 (lLen a0))) fun y0 =>
  bndS (F125 a0 0 (lLen a0) y0) fun y1 =>
  some y1
def gF71 : FS := ⟨(.seq (.own 0 Yq3) (.fn 63 .non)), 1, (.one ⟨(.own 0 Yq3), (.tup .non), 1, 0⟩), fun x => (F71 x)⟩
theorem eF71 (x : gF71.a.T) : kF env (GofL [(125, [gF125]), (126, [gF126])]) (LofL [(71, [])]) 71 (gF71.args x) (gF71.bs x) gF71.r.dec = gF71.F x := by kernel_rfl
theorem sF71 : SpecAt env 14 71 gF71 := mkSpec (r := 13) (gl := [(125, [gF125]), (126, [gF126])]) (L0 := []) (by kernel_rfl) ⟨⟨sF125.up (by decide), trivial⟩, ⟨sF126.up (by decide), trivial⟩, trivial⟩ trivial eF71 (fun h => absurd h (by rw [show env.nl 71 = false by kernel_rfl]; decide))
def B72_2 (a0 : Tq2) (a1 : Int) (a2 : Int) (a3 : Int) (a4 : Int) : Option ((Tq2 × (Int × ((Int × Int) × Int))) ⊕ (Tq2 × Int)) :=
  sel (iLt a4 (pSub a3 a2))
    (sel (oIn a4 (pSub a3 a2)) (
    sel (oIn (iSub .i64 a4 1) (pSub a3 a2)) (
    sel (bNot (bAnd (iEq (lAt a0 (pAdd a2 a4)).1 (lAt a0 (pAdd a2 (iSub .i64 a4 1))).1) (iEq (lAt a0 (pAdd a2 a4)).2 (lAt a0 (pAdd a2 (iSub .i64 a4 1))).2)))
      (sel (oIn a4 (pSub a3 a2)) (
      sel (oIn a1 (lLen a0)) (
      some (.inl ((lSet a0 a1 (lAt a0 (pAdd a2 a4))), ((iAdd .i64 a1 1), ((a2, a3), (iAdd .i64 a4 1)))))) none) none)
      (some (.inl (a0, (a1, ((a2, a3), (iAdd .i64 a4 1))))))) none) none)
    (some (.inr (a0, a1)))
def L72_2 (x : (Tq2 × (Int × ((Int × Int) × Int)))) : Option (Tq2 × Int) := iter (fun (x : (Tq2 × (Int × ((Int × Int) × Int)))) => (B72_2 x.1 x.2.1 x.2.2.1.1 x.2.2.1.2 x.2.2.2)) fuel x
def lsL72_2 : LS := ⟨(.one .normal ⟨(.own 0 Yq3), [0, 3, 4, 5], (.seq (.alo 0) (.seq (.dat (.int .i64)) (.seq (.sbo 0) (.dat (.int .i64))))), 1, 61, 1⟩), (.one (.exit 2) ⟨(.own 0 Yq3), [0, 3], (.seq (.alo 0) (.dat (.int .i64))), 1, 61, 1⟩), fun (x : (Tq2 × (Int × ((Int × Int) × Int)))) => (B72_2 x.1 x.2.1 x.2.2.1.1 x.2.2.1.2 x.2.2.2)⟩
def B72_0 (a0 : Tq2) (a1 : Int) : Option ((Tq2 × Int) ⊕ (Tq2 ⊕ Tq17)) :=
  sel (iLt a1 (lLen a0))
    (sel (oIn a1 (lLen a0)) (
    sel (oIn (iSub .i64 a1 1) (lLen a0)) (
    sel (bAnd (iEq (lAt a0 a1).1 (lAt a0 (iSub .i64 a1 1)).1) (iEq (lAt a0 a1).2 (lAt a0 (iSub .i64 a1 1)).2))
      (sel (oCut a1 (lLen a0) (lLen a0)) (
      bndS (L72_2 (a0, (a1, ((a1, (lLen a0)), 1)))) fun y0 =>
      sel (oCut y0.2 (lLen y0.1) (lLen y0.1)) (
      sel (oCut 0 y0.2 (lLen (lCpy y0.1 y0.2 (lLen y0.1) (lRep (pSub (lLen y0.1) y0.2) ((0, 0) : (Int × Int)))))) (
      some (.inr (.inr ((lCpy y0.1 y0.2 (lLen y0.1) (lRep (pSub (lLen y0.1) y0.2) ((0, 0) : (Int × Int)))), (0, y0.2))))) none) none) none)
      (some (.inl (a0, (iAdd .i64 a1 1))))) none) none)
    (some (.inr (.inl a0)))
def L72_0 (x : (Tq2 × Int)) : Option (Tq2 ⊕ Tq17) := iter (fun (x : (Tq2 × Int)) => (B72_0 x.1 x.2)) fuel x
def lsL72_0 : LS := ⟨(.one .normal ⟨(.own 0 Yq3), [0, 3], (.seq (.alo 0) (.dat (.int .i64))), 1, 61, 1⟩), (.two (.one (.exit 0) ⟨(.own 0 Yq3), [0], (.alo 0), 1, 61, 1⟩) (.one .ret ⟨(.own 0 Yq3), [2], (.sbo 0), 1, 61, 1⟩)), fun (x : (Tq2 × Int)) => (B72_0 x.1 x.2)⟩
def F72 (a0 : Tq2) : Option (List (Int × Int) × Int × Int) :=
  sel (iLt (lLen a0) 2)
    (some (a0, 0, (lLen a0)))
    (bndS (L72_0 (a0, 1)) fun y0 =>
    sumS y0 (fun y0a =>
      some (y0a, 0, (lLen y0a))) fun y0b =>
      some (y0b.1, y0b.2.1, y0b.2.2))
def gF72 : FS := ⟨(.own 0 Yq3), 1, (.one ⟨.non, (.sub 1 Yq3), 1, 1⟩), fun x => (F72 x)⟩
theorem rL72_2 (x : lsL72_2.hd.T) : kRound env (GofL []) (LofL [(72, [(2, lsL72_2), (0, lsL72_0)])]) 72 2 (lpOf Tryz.prog 72 1).2 (lsL72_2.hd.st x) lsL72_2.rd = lsL72_2.B x := by kernel_rfl
theorem rL72_0 (x : lsL72_0.hd.T) : kRound env (GofL []) (LofL [(72, [(2, lsL72_2), (0, lsL72_0)])]) 72 0 (lpOf Tryz.prog 72 0).2 (lsL72_0.hd.st x) lsL72_0.rd = lsL72_0.B x := by kernel_rfl
theorem eF72 (x : gF72.a.T) : kF env (GofL []) (LofL [(72, [(2, lsL72_2), (0, lsL72_0)])]) 72 (gF72.args x) (gF72.bs x) gF72.r.dec = gF72.F x := by kernel_rfl
theorem sF72 : SpecAt env 1 72 gF72 := mkSpec (r := 0) (gl := []) (L0 := [(2, lsL72_2), (0, lsL72_0)]) (by kernel_rfl) trivial ⟨⟨1, by kernel_rfl, by kernel_rfl, rL72_2⟩, ⟨0, by kernel_rfl, by kernel_rfl, rL72_0⟩, trivial⟩ eF72 (fun h => absurd h (by rw [show env.nl 72 = false by kernel_rfl]; decide))
def F22 (a0 : Tq10) (a1 : Tq2) : Option ((Tq5 × (Int × ((List Tq1) × (List (Int × Int) × Int × Int)))) × Int) :=
  bndS (F19 a0) fun y0 =>
  sel (bNot (iEq y0.2 0))
    (some ((([] : List Tq13), (0, (([] : List Tq1), (([] : List (Int × Int)), 0, (lLen ([] : List (Int × Int))))))), y0.2))
    (sel (iLt 40 (lLen a1))
      (some ((([] : List Tq13), (0, (([] : List Tq1), (([] : List (Int × Int)), 0, (lLen ([] : List (Int × Int))))))), 2))
      (bndS (F69 a0) fun y1 =>
      bndS (L22_0 ((a0.1.1, (a0.1.2, a0.2)), (0, (y1, (a1, ((lLen a1), 0)))))) fun y2 =>
      sumS y2 (fun y2a =>
        bndS (F71 y2a.2.2.2.2) fun y3 =>
        bndS (F72 y3) fun y4 =>
        some ((y2a.2.1, (y2a.2.2.1, (y2a.2.2.2.1, (y4.1, y4.2.1, y4.2.2)))), 0)) fun y2b =>
        some ((([] : List Tq13), (y2b.1, (([] : List Tq1), (([] : List (Int × Int)), 0, (lLen ([] : List (Int × Int))))))), y2b.2)))
def gF22 : FS := ⟨(.seq (.agg (.dat Yq14)) (.dat (.sl Yq3))), 0, (.one ⟨.non, (.tup (.seq (.agg (.seq (.own 0 Yq8) (.seq (.dat (.int .i64)) (.seq (.own 1 Yq6) (.sub 2 Yq3))))) (.dat (.int .i64)))), 0, 3⟩), fun x => (F22 x.1 x.2)⟩
theorem rL22_2 (x : lsL22_2.hd.T) : kRound env (GofL [(72, [gF72]), (71, [gF71]), (70, [gFRepeat]), (62, [gF62]), (69, [gF69]), (19, [gF19])]) (LofL [(22, [(2, lsL22_2), (0, lsL22_0)])]) 22 2 (lpOf Tryz.prog 22 1).2 (lsL22_2.hd.st x) lsL22_2.rd = lsL22_2.B x := by kernel_rfl
theorem rL22_0 (x : lsL22_0.hd.T) : kRound env (GofL [(72, [gF72]), (71, [gF71]), (70, [gFRepeat]), (62, [gF62]), (69, [gF69]), (19, [gF19])]) (LofL [(22, [(2, lsL22_2), (0, lsL22_0)])]) 22 0 (lpOf Tryz.prog 22 0).2 (lsL22_0.hd.st x) lsL22_0.rd = lsL22_0.B x := by kernel_rfl
theorem eF22 (x : gF22.a.T) : kF env (GofL [(72, [gF72]), (71, [gF71]), (70, [gFRepeat]), (62, [gF62]), (69, [gF69]), (19, [gF19])]) (LofL [(22, [(2, lsL22_2), (0, lsL22_0)])]) 22 (gF22.args x) (gF22.bs x) gF22.r.dec = gF22.F x := by kernel_rfl
theorem sF22 : SpecAt env 15 22 gF22 := mkSpec (r := 14) (gl := [(72, [gF72]), (71, [gF71]), (70, [gFRepeat]), (62, [gF62]), (69, [gF69]), (19, [gF19])]) (L0 := [(2, lsL22_2), (0, lsL22_0)]) (by kernel_rfl) ⟨⟨sF72.up (by decide), trivial⟩, ⟨sF71.up (by decide), trivial⟩, ⟨sFRepeat.up (by decide), trivial⟩, ⟨sF62.up (by decide), trivial⟩, ⟨sF69.up (by decide), trivial⟩, ⟨sF19.up (by decide), trivial⟩, trivial⟩ ⟨⟨1, by kernel_rfl, by kernel_rfl, rL22_2⟩, ⟨0, by kernel_rfl, by kernel_rfl, rL22_0⟩, trivial⟩ eF22 (fun h => absurd h (by rw [show env.nl 22 = false by kernel_rfl]; decide))
def F130 (a0 : (Int × Int)) (a1 : ByteArray) (a2 : ByteArray) (a3 : Int) (a4 : Int) (a5 : Int) (a6 : Bool) : ((Tq11 × Bool) × Bool) :=
  (((a1, (a2, (a3, (a4, a5)))), a6), (bAnd (iEq a0.1 a4) (bOr a6 (iEq a0.2 0))))
def gF130 : FS := ⟨(.seq (.agg (.dat Yq3)) (.seq (.box 0 (.seq (.dat .str) (.seq (.dat .str) (.seq (.dat (.int .i64)) (.seq (.dat (.int .i64)) (.dat (.int .i64))))))) (.box 1 (.dat .bool)))), 2, (.one ⟨(.seq (.box 0 (.seq (.dat .str) (.seq (.dat .str) (.seq (.dat (.int .i64)) (.seq (.dat (.int .i64)) (.dat (.int .i64))))))) (.box 1 (.dat .bool))), (.dat .bool), 2, 0⟩), fun x => some (F130 x.1 x.2.1.1 x.2.1.2.1 x.2.1.2.2.1 x.2.1.2.2.2.1 x.2.1.2.2.2.2 x.2.2)⟩
theorem eF130 (x : gF130.a.T) : kF env (GofL []) (LofL [(130, [])]) 130 (gF130.args x) (gF130.bs x) gF130.r.dec = gF130.F x := by kernel_rfl
theorem sF130 : SpecAt env 1 130 gF130 := mkSpec (r := 0) (gl := []) (L0 := []) (by kernel_rfl) trivial trivial eF130 (fun h => absurd h (by rw [show env.nl 130 = false by kernel_rfl]; decide))
def B143_0 (a0 : ByteArray) (a1 : ByteArray) (a2 : Int) (a3 : Int) (a4 : Int) (a5 : Bool) (a6 : Tq2) (a7 : Int) (a8 : Int) : Option (((Tq11 × Bool) × Tq17) ⊕ ((Tq11 × Bool) ⊕ ((Tq11 × Bool) × Int))) :=
  sel (iLt a8 a7)
    (sel (oIn a8 (lLen a6)) (
    letS (F130 (lAt a6 a8) a0 a1 a2 a3 a4 a5) fun y0 =>
    sel y0.2
      (some (.inr (.inr (y0.1, a8))))
      (some (.inl (y0.1, (a6, (a7, (iAdd .i64 a8 1))))))) none)
    (some (.inr (.inl ((a0, (a1, (a2, (a3, a4)))), a5))))
def L143_0 (x : ((Tq11 × Bool) × Tq17)) : Option ((Tq11 × Bool) ⊕ ((Tq11 × Bool) × Int)) := iter (fun (x : ((Tq11 × Bool) × Tq17)) => (B143_0 x.1.1.1 x.1.1.2.1 x.1.1.2.2.1 x.1.1.2.2.2.1 x.1.1.2.2.2.2 x.1.2 x.2.1 x.2.2.1 x.2.2.2)) fuel x
def lsL143_0 : LS := ⟨(.one .normal ⟨(.seq (.box 0 (.seq (.dat .str) (.seq (.dat .str) (.seq (.dat (.int .i64)) (.seq (.dat (.int .i64)) (.dat (.int .i64))))))) (.box 1 (.dat .bool))), [0, 1, 7, 8], (.seq (.dat (.sl Yq3)) (.seq (.fn 130 (.seq (.ptr 0 5 0) (.ptr 1 1 0))) (.seq (.dat (.int .i64)) (.dat (.int .i64))))), 2, 19, 2⟩), (.two (.one (.exit 0) ⟨(.seq (.box 0 (.seq (.dat .str) (.seq (.dat .str) (.seq (.dat (.int .i64)) (.seq (.dat (.int .i64)) (.dat (.int .i64))))))) (.box 1 (.dat .bool))), [], .non, 2, 19, 2⟩) (.one .ret ⟨(.seq (.box 0 (.seq (.dat .str) (.seq (.dat .str) (.seq (.dat (.int .i64)) (.seq (.dat (.int .i64)) (.dat (.int .i64))))))) (.box 1 (.dat .bool))), [4], (.dat (.int .i64)), 2, 19, 2⟩)), fun (x : ((Tq11 × Bool) × Tq17)) => (B143_0 x.1.1.1 x.1.1.2.1 x.1.1.2.2.1 x.1.1.2.2.2.1 x.1.1.2.2.2.2 x.1.2 x.2.1 x.2.2.1 x.2.2.2)⟩
def F143 (a0 : Tq2) (a1 : ByteArray) (a2 : ByteArray) (a3 : Int) (a4 : Int) (a5 : Int) (a6 : Bool) : Option ((Tq11 × Bool) × Int) :=
  bndS (L143_0 (((a1, (a2, (a3, (a4, a5)))), a6), (a0, ((lLen a0), 0)))) fun y0 =>
  sumS y0 (fun y0a =>
    some (y0a, (-1))) fun y0b =>
    some y0b
def gF143 : FS := ⟨(.seq (.dat (.sl Yq3)) (.fn 130 (.seq (.box 0 (.seq (.dat .str) (.seq (.dat .str) (.seq (.dat (.int .i64)) (.seq (.dat (.int .i64)) (.dat (.int .i64))))))) (.box 1 (.dat .bool))))), 2, (.one ⟨(.seq (.box 0 (.seq (.dat .str) (.seq (.dat .str) (.seq (.dat (.int .i64)) (.seq (.dat (.int .i64)) (.dat (.int .i64))))))) (.box 1 (.dat .bool))), (.dat (.int .i64)), 2, 0⟩), fun x => (F143 x.1 x.2.1.1 x.2.1.2.1 x.2.1.2.2.1 x.2.1.2.2.2.1 x.2.1.2.2.2.2 x.2.2)⟩
theorem rL143_0 (x : lsL143_0.hd.T) : kRound env (GofL [(130, [gF130])]) (LofL [(143, [(0, lsL143_0)])]) 143 0 (lpOf Tryz.prog 143 0).2 (lsL143_0.hd.st x) lsL143_0.rd = lsL143_0.B x := by kernel_rfl
theorem eF143 (x : gF143.a.T) : kF env (GofL [(130, [gF130])]) (LofL [(143, [(0, lsL143_0)])]) 143 (gF143.args x) (gF143.bs x) gF143.r.dec = gF143.F x := by kernel_rfl
theorem sF143 : SpecAt env 2 143 gF143 := mkSpec (r := 1) (gl := [(130, [gF130])]) (L0 := [(0, lsL143_0)]) (by kernel_rfl) ⟨⟨sF130.up (by decide), trivial⟩, trivial⟩ ⟨⟨0, by kernel_rfl, by kernel_rfl, rL143_0⟩, trivial⟩ eF143 (fun h => absurd h (by rw [show env.nl 143 = false by kernel_rfl]; decide))
def F129 (a0 : Tq2) (a1 : ByteArray) (a2 : ByteArray) (a3 : Int) (a4 : Int) (a5 : Int) (a6 : Bool) : Option ((Tq11 × Bool) × Bool) :=
  bndS (F143 a0 a1 a2 a3 a4 a5 a6) fun y0 =>
  some (y0.1, (iLe 0 y0.2))
def gF129 : FS := ⟨(.seq (.dat (.sl Yq3)) (.fn 130 (.seq (.box 0 (.seq (.dat .str) (.seq (.dat .str) (.seq (.dat (.int .i64)) (.seq (.dat (.int .i64)) (.dat (.int .i64))))))) (.box 1 (.dat .bool))))), 2, (.one ⟨(.seq (.box 0 (.seq (.dat .str) (.seq (.dat .str) (.seq (.dat (.int .i64)) (.seq (.dat (.int .i64)) (.dat (.int .i64))))))) (.box 1 (.dat .bool))), (.dat .bool), 2, 0⟩), fun x => (F129 x.1 x.2.1.1 x.2.1.2.1 x.2.1.2.2.1 x.2.1.2.2.2.1 x.2.1.2.2.2.2 x.2.2)⟩
theorem eF129 (x : gF129.a.T) : kF env (GofL [(143, [gF143])]) (LofL [(129, [])]) 129 (gF129.args x) (gF129.bs x) gF129.r.dec = gF129.F x := by kernel_rfl
theorem sF129 : SpecAt env 3 129 gF129 := mkSpec (r := 2) (gl := [(143, [gF143])]) (L0 := []) (by kernel_rfl) ⟨⟨sF143.up (by decide), trivial⟩, trivial⟩ trivial eF129 (fun h => absurd h (by rw [show env.nl 129 = false by kernel_rfl]; decide))
def F128 (a0 : Bool) (a1 : Tq5) (a2 : Int) (a3 : (List Tq1)) (a4 : Tq2) (a5 : ByteArray) (a6 : ByteArray) (a7 : Int) (a8 : Int) (a9 : Int) : Option ((Tq0 × Tq11) × Bool) :=
  bndS (F129 a4 a5 a6 a7 a8 a9 a0) fun y0 =>
  some (((a1, (a2, (a3, a4))), y0.1.1), y0.2)
def gF128 : FS := ⟨(.seq (.dat .bool) (.seq (.box 0 (.seq (.dat (.sl Yq8)) (.seq (.dat (.int .i64)) (.seq (.dat (.sl Yq6)) (.dat (.sl Yq3)))))) (.box 1 (.seq (.dat .str) (.seq (.dat .str) (.seq (.dat (.int .i64)) (.seq (.dat (.int .i64)) (.dat (.int .i64))))))))), 2, (.one ⟨(.seq (.box 0 (.seq (.dat (.sl Yq8)) (.seq (.dat (.int .i64)) (.seq (.dat (.sl Yq6)) (.dat (.sl Yq3)))))) (.box 1 (.seq (.dat .str) (.seq (.dat .str) (.seq (.dat (.int .i64)) (.seq (.dat (.int .i64)) (.dat (.int .i64)))))))), (.dat .bool), 2, 0⟩), fun x => (F128 x.1 x.2.1.1 x.2.1.2.1 x.2.1.2.2.1 x.2.1.2.2.2 x.2.2.1 x.2.2.2.1 x.2.2.2.2.1 x.2.2.2.2.2.1 x.2.2.2.2.2.2)⟩
theorem eF128 (x : gF128.a.T) : kF env (GofL [(129, [gF129])]) (LofL [(128, [])]) 128 (gF128.args x) (gF128.bs x) gF128.r.dec = gF128.F x := by kernel_rfl
theorem sF128 : SpecAt env 4 128 gF128 := mkSpec (r := 3) (gl := [(129, [gF129])]) (L0 := []) (by kernel_rfl) ⟨⟨sF129.up (by decide), trivial⟩, trivial⟩ trivial eF128 (fun h => absurd h (by rw [show env.nl 128 = false by kernel_rfl]; decide))
def B102_0 (a0 : ByteArray) (a1 : Int) : Option (Tq23 ⊕ ByteArray) :=
  sel (bOr (oIn (iSub .i64 (sLen a0) 1) (sLen a0)) (bNot (iLt 0 (sLen a0)))) (
  sel (bAnd (iLt 0 (sLen a0)) (iEq (sAt a0 (iSub .i64 (sLen a0) 1)) a1))
    (sel (oCut 0 (iSub .i64 (sLen a0) 1) (sLen a0)) (
    some (.inl ((sCut a0 0 (iSub .i64 (sLen a0) 1)), a1))) none)
    (some (.inr a0))) none
def L102_0 (x : Tq23) : Option ByteArray := iter (fun (x : Tq23) => (B102_0 x.1 x.2)) fuel x
def lsL102_0 : LS := ⟨(.one .normal ⟨.non, [0, 1], (.seq (.dat .str) (.dat (.int .u8))), 0, 23, 0⟩), (.one (.exit 0) ⟨.non, [0], (.dat .str), 0, 23, 0⟩), fun (x : Tq23) => (B102_0 x.1 x.2)⟩
def F102 (a0 : ByteArray) (a1 : Int) : Option ByteArray :=
  bndS (L102_0 (a0, a1)) fun y0 =>
  some y0
def gF102 : FS := ⟨(.seq (.dat .str) (.dat (.int .u8))), 0, (.one ⟨.non, (.dat .str), 0, 0⟩), fun x => (F102 x.1 x.2)⟩
theorem rL102_0 (x : lsL102_0.hd.T) : kRound env (GofL []) (LofL [(102, [(0, lsL102_0)])]) 102 0 (lpOf Tryz.prog 102 0).2 (lsL102_0.hd.st x) lsL102_0.rd = lsL102_0.B x := by kernel_rfl
theorem eF102 (x : gF102.a.T) : kF env (GofL []) (LofL [(102, [(0, lsL102_0)])]) 102 (gF102.args x) (gF102.bs x) gF102.r.dec = gF102.F x := by kernel_rfl
theorem sF102 : SpecAt env 1 102 gF102 := mkSpec (r := 0) (gl := []) (L0 := [(0, lsL102_0)]) (by kernel_rfl) trivial ⟨⟨0, by kernel_rfl, by kernel_rfl, rL102_0⟩, trivial⟩ eF102 (fun h => absurd h (by rw [show env.nl 102 = false by kernel_rfl]; decide))
def F48 (a0 : ByteArray) : Option ByteArray :=
  sel (bAnd (sEq a0 (bs [])) true)
    (some a0)
    (bndS (F102 a0 32) fun y0 =>
    some y0)
def gF48 : FS := ⟨(.seq (.dat .str) (.lit (.string (bs [32])))), 0, (.one ⟨.non, (.dat .str), 0, 0⟩), fun x => (F48 x)⟩
theorem eF48 (x : gF48.a.T) : kF env (GofL [(102, [gF102])]) (LofL [(48, [])]) 48 (gF48.args x) (gF48.bs x) gF48.r.dec = gF48.F x := by kernel_rfl
theorem sF48 : SpecAt env 2 48 gF48 := mkSpec (r := 1) (gl := [(102, [gF102])]) (L0 := []) (by kernel_rfl) ⟨⟨sF102.up (by decide), trivial⟩, trivial⟩ trivial eF48 (fun h => absurd h (by rw [show env.nl 48 = false by kernel_rfl]; decide))
def F16 (a0 : ByteArray) : Option Tq1 :=
  sel (bNot (iEq (sLen a0) 32))
    (some (((bs []), ((bs []), 0)), (0, 18)))
    (sel (oCut 5 15 (sLen a0)) (
    bndS (F48 (sCut a0 5 15)) fun y0 =>
    sel (oCut 15 25 (sLen a0)) (
    bndS (F48 (sCut a0 15 25)) fun y1 =>
    sel (oIn 4 (sLen a0)) (
    sel (oIn 25 (sLen a0)) (
    sel (oCut 0 4 (sLen a0)) (
    sel (bOr (okS (FContains y0 (bs [32]))) (bNot (bNot (bNot (sEq (sCut a0 0 4) (bs [42, 79, 66, 74])))))) (
    letS (valS (FContains y0 (bs [32])) false) fun y2 =>
    sel (bOr (okS (FContains y1 (bs [32]))) (bNot (bNot (bOr (bNot (sEq (sCut a0 0 4) (bs [42, 79, 66, 74]))) y2)))) (
    letS (valS (FContains y1 (bs [32])) false) fun y3 =>
    sel (bOr (oCut 30 (sLen a0) (sLen a0)) (bNot (bNot (bOr (bOr (bNot (sEq (sCut a0 0 4) (bs [42, 79, 66, 74]))) y2) y3)))) (
    sel (bOr (bOr (bOr (bNot (sEq (sCut a0 0 4) (bs [42, 79, 66, 74]))) y2) y3) (bNot (sEq (sCut a0 30 (sLen a0)) (bs [0, 0]))))
      (some (((bs []), ((bs []), 0)), (0, 5)))
      (bndS (F50 (y0, (y1, (iCv .i64 (sAt a0 4))))) fun y4 =>
      sel (bNot (iEq y4 0))
        (some (((bs []), ((bs []), 0)), (0, y4)))
        (letS (F51 (iCv .i64 (sAt a0 25)) 1 8) fun y5 =>
        sel (bNot y5)
          (some (((bs []), ((bs []), 0)), (0, 3)))
          (sel (oCut 26 30 (sLen a0)) (
          sel (oCut 0 26 (sLen a0)) (
          bndS (F52 (sCut a0 0 26)) fun y6 =>
          sel (bNot (sEq (sCut a0 26 30) y6))
            (some (((bs []), ((bs []), 0)), (0, 33)))
            (some ((y0, (y1, (iCv .i64 (sAt a0 4)))), ((iCv .i64 (sAt a0 25)), 0)))) none) none)))) none) none) none) none) none) none) none) none)
def gF16 : FS := ⟨(.dat .str), 0, (.one ⟨.non, (.tup (.seq (.agg (.dat (.pr .str (.pr .str (.int .i64))))) (.seq (.dat (.int .i64)) (.dat (.int .i64))))), 0, 0⟩), fun x => (F16 x)⟩
theorem eF16 (x : gF16.a.T) : kF env (GofL [(52, [gF52]), (51, [gF51]), (50, [gF50]), (49, [gFContains]), (48, [gF48])]) (LofL [(16, [])]) 16 (gF16.args x) (gF16.bs x) gF16.r.dec = gF16.F x := by kernel_rfl
theorem sF16 : SpecAt env 3 16 gF16 := mkSpec (r := 2) (gl := [(52, [gF52]), (51, [gF51]), (50, [gF50]), (49, [gFContains]), (48, [gF48])]) (L0 := []) (by kernel_rfl) ⟨⟨sF52.up (by decide), trivial⟩, ⟨sF51.up (by decide), trivial⟩, ⟨sF50.up (by decide), trivial⟩, ⟨sFContains.up (by decide), trivial⟩, ⟨sF48.up (by decide), trivial⟩, trivial⟩ trivial eF16 (fun h => absurd h (by rw [show env.nl 16 = false by kernel_rfl]; decide))
def F77 (a0 : Tq10) (a1 : Tq1) : Option Int :=
  bndS (F96 a0.1 a1.2.1) fun y0 =>
  sel (bNot (bNot y0.2))
    (bndS (F128 false a0.1.1 a0.1.2 a0.2.1 a0.2.2 a1.1.1 a1.1.2.1 a1.1.2.2 a1.2.1 a1.2.2) fun y1 =>
    sel y1.2
      (some (sel (iLt 3 y1.1.2.2.2.2.2) y1.1.2.2.2.2.2 3))
      (sel (oCut 0 32 (sLen y0.1)) (
      bndS (F16 (sCut y0.1 0 32)) fun y2 =>
      sel (bOr (bNot (iEq y2.2.2 0)) (bNot (bAnd (sEq y2.1.1 y1.1.2.1) (bAnd (sEq y2.1.2.1 y1.1.2.2.1) (iEq y2.1.2.2 y1.1.2.2.2.1)))))
        (some (sel (iLt 3 y1.1.2.2.2.2.2) y1.1.2.2.2.2.2 3))
        (bndS (F128 true y1.1.1.1 y1.1.1.2.1 y1.1.1.2.2.1 y1.1.1.2.2.2 y1.1.2.1 y1.1.2.2.1 y1.1.2.2.2.1 y1.1.2.2.2.2.1 y1.1.2.2.2.2.2) fun y3 =>
        sel (bOr (oNz 32) (bNot (bNot y3.2))) (
        some (sel (iLt (sel y3.2 2 (sel (bNot (iEq y2.2.1 (iQuo .i64 (sLen y0.1) 32))) 1 0)) y3.1.2.2.2.2.2) y3.1.2.2.2.2.2 (sel y3.2 2 (sel (bNot (iEq y2.2.1 (iQuo .i64 (sLen y0.1) 32))) 1 0)))) none)) none))
    (some (sel (iLt 3 a1.2.2) a1.2.2 3))
def gF77 : FS := ⟨(.seq (.agg (.dat Yq14)) (.agg (.dat Yq6))), 0, (.one ⟨.non, (.dat (.int .i64)), 0, 0⟩), fun x => (F77 x.1 x.2)⟩
theorem eF77 (x : gF77.a.T) : kF env (GofL [(128, [gF128]), (16, [gF16]), (96, [gF96])]) (LofL [(77, [])]) 77 (gF77.args x) (gF77.bs x) gF77.r.dec = gF77.F x := by kernel_rfl
theorem sF77 : SpecAt env 5 77 gF77 := mkSpec (r := 4) (gl := [(128, [gF128]), (16, [gF16]), (96, [gF96])]) (L0 := []) (by kernel_rfl) ⟨⟨sF128.up (by decide), trivial⟩, ⟨sF16.up (by decide), trivial⟩, ⟨sF96.up (by decide), trivial⟩, trivial⟩ trivial eF77 (fun h => absurd h (by rw [show env.nl 77 = false by kernel_rfl]; decide))
def B25_0 (a0 : Tq5) (a1 : Int) (a2 : (List Tq1)) (a3 : Tq2) (a4 : Int) (a5 : Tq5) (a6 : Int) (a7 : (List Tq1)) (a8 : Tq2) (a9 : (List Tq12)) (a10 : (List Tq1)) (a11 : Int) (a12 : Int) : Option ((Tq0 × (Int × (Tq0 × ((List Tq12) × Tq18)))) ⊕ (Int × (Tq0 × (List Tq12)))) :=
  sel (iLt a12 a11)
    (sel (oIn a12 (lLen a10)) (
    bndS (F77 ((a0, a1), (a2, a3)) (lAt a10 a12)) fun y0 =>
    sel (iLt (lAt a10 a12).2.2 y0)
      (sel (oIn a12 (lLen a7)) (
      sel (lCap 64 (lApp a9 [(0, ((lAt a10 a12).2.1, (y0, (lAt a10 a12).1)))])) (
      some (.inl ((a0, (a1, (a2, a3))), (a4, ((a5, (a6, ((lSet a7 a12 ((lAt a7 a12).1, ((lAt a7 a12).2.1, y0))), a8))), ((lApp a9 [(0, ((lAt a10 a12).2.1, (y0, (lAt a10 a12).1)))]), (a10, (a11, (iAdd .i64 a12 1))))))))) none) none)
      (some (.inl ((a0, (a1, (a2, a3))), (a4, ((a5, (a6, (a7, a8))), (a9, (a10, (a11, (iAdd .i64 a12 1)))))))))) none)
    (some (.inr (a4, ((a5, (a6, (a7, a8))), a9))))
def L25_0 (x : (Tq0 × (Int × (Tq0 × ((List Tq12) × Tq18))))) : Option (Int × (Tq0 × (List Tq12))) := iter (fun (x : (Tq0 × (Int × (Tq0 × ((List Tq12) × Tq18))))) => (B25_0 x.1.1 x.1.2.1 x.1.2.2.1 x.1.2.2.2 x.2.1 x.2.2.1.1 x.2.2.1.2.1 x.2.2.1.2.2.1 x.2.2.1.2.2.2 x.2.2.2.1 x.2.2.2.2.1 x.2.2.2.2.2.1 x.2.2.2.2.2.2)) fuel x
def lsL25_0 : LS := ⟨(.one .normal ⟨.non, [1, 2, 7, 8, 24, 25, 26], (.seq (.box 0 (.seq (.dat (.sl Yq8)) (.seq (.dat (.int .i64)) (.seq (.dat (.sl Yq6)) (.dat (.sl Yq3)))))) (.seq (.box 1 (.seq (.lit (.slice none 0 0)) (.seq (.dat (.int .i64)) (.seq (.lit (.slice none 0 0)) (.lit (.slice none 0 0)))))) (.seq (.box 2 (.seq (.own 3 Yq8) (.seq (.dat (.int .i64)) (.seq (.own 4 Yq6) (.own 5 Yq3))))) (.seq (.own 6 Yq15) (.seq (.dat (.sl Yq6)) (.seq (.dat (.int .i64)) (.dat (.int .i64)))))))), 7, 57, 0⟩), (.one (.exit 0) ⟨.non, [2, 7, 8], (.seq (.box 0 (.seq (.lit (.slice none 0 0)) (.seq (.dat (.int .i64)) (.seq (.lit (.slice none 0 0)) (.lit (.slice none 0 0)))))) (.seq (.box 1 (.seq (.own 2 Yq8) (.seq (.dat (.int .i64)) (.seq (.own 3 Yq6) (.own 4 Yq3))))) (.own 5 Yq15))), 6, 57, 0⟩), fun (x : (Tq0 × (Int × (Tq0 × ((List Tq12) × Tq18))))) => (B25_0 x.1.1 x.1.2.1 x.1.2.2.1 x.1.2.2.2 x.2.1 x.2.2.1.1 x.2.2.1.2.1 x.2.2.1.2.2.1 x.2.2.1.2.2.2 x.2.2.2.1 x.2.2.2.2.1 x.2.2.2.2.2.1 x.2.2.2.2.2.2)⟩
def F25 (a0 : Tq10) : Option (Tq0 × ((List Tq12) × Int)) :=
  bndS (F19 a0) fun y0 =>
  sel (bNot (iEq y0.2 0))
    (some ((([] : List Tq13), (0, (([] : List Tq1), ([] : List (Int × Int))))), (([] : List Tq12), y0.2)))
    (bndS (F69 a0) fun y1 =>
    bndS (L25_0 ((a0.1.1, (a0.1.2, a0.2)), (0, (y1, (([] : List Tq12), (a0.2.1, ((lLen a0.2.1), 0))))))) fun y2 =>
    some ((y2.2.1.1, (y2.2.1.2.1, (y2.2.1.2.2.1, ([] : List (Int × Int))))), (y2.2.2, 0)))
def gF25 : FS := ⟨(.agg (.dat Yq14)), 0, (.one ⟨.non, (.tup (.seq (.agg (.seq (.own 0 Yq8) (.seq (.dat (.int .i64)) (.seq (.own 1 Yq6) (.own 2 Yq3))))) (.seq (.own 3 Yq15) (.dat (.int .i64))))), 0, 4⟩), fun x => (F25 x)⟩
theorem rL25_0 (x : lsL25_0.hd.T) : kRound env (GofL [(77, [gF77]), (69, [gF69]), (19, [gF19])]) (LofL [(25, [(0, lsL25_0)])]) 25 0 (lpOf Tryz.prog 25 0).2 (lsL25_0.hd.st x) lsL25_0.rd = lsL25_0.B x := by kernel_rfl
theorem eF25 (x : gF25.a.T) : kF env (GofL [(77, [gF77]), (69, [gF69]), (19, [gF19])]) (LofL [(25, [(0, lsL25_0)])]) 25 (gF25.args x) (gF25.bs x) gF25.r.dec = gF25.F x := by kernel_rfl
theorem sF25 : SpecAt env 6 25 gF25 := mkSpec (r := 5) (gl := [(77, [gF77]), (69, [gF69]), (19, [gF19])]) (L0 := [(0, lsL25_0)]) (by kernel_rfl) ⟨⟨sF77.up (by decide), trivial⟩, ⟨sF69.up (by decide), trivial⟩, ⟨sF19.up (by decide), trivial⟩, trivial⟩ ⟨⟨0, by kernel_rfl, by kernel_rfl, rL25_0⟩, trivial⟩ eF25 (fun h => absurd h (by rw [show env.nl 25 = false by kernel_rfl]; decide))
def B27_0 (a0 : (List Tq12)) (a1 : (List Tq12)) (a2 : Int) : Option (((List Tq12) × ((List Tq12) × Int)) ⊕ (Unit ⊕ Bool)) :=
  sel (iLt a2 (lLen a0))
    (sel (oIn a2 (lLen a0)) (
    sel (oIn a2 (lLen a1)) (
    sel (bNot (bAnd (iEq (lAt a0 a2).1 (lAt a1 a2).1) (bAnd (iEq (lAt a0 a2).2.1 (lAt a1 a2).2.1) (bAnd (iEq (lAt a0 a2).2.2.1 (lAt a1 a2).2.2.1) (bAnd (sEq (lAt a0 a2).2.2.2.1 (lAt a1 a2).2.2.2.1) (bAnd (sEq (lAt a0 a2).2.2.2.2.1 (lAt a1 a2).2.2.2.2.1) (iEq (lAt a0 a2).2.2.2.2.2 (lAt a1 a2).2.2.2.2.2)))))))
      (some (.inr (.inr false)))
      (some (.inl (a0, (a1, (iAdd .i64 a2 1)))))) none) none)
    (some (.inr (.inl ())))
def L27_0 (x : ((List Tq12) × ((List Tq12) × Int))) : Option (Unit ⊕ Bool) := iter (fun (x : ((List Tq12) × ((List Tq12) × Int))) => (B27_0 x.1 x.2.1 x.2.2)) fuel x
def lsL27_0 : LS := ⟨(.one .normal ⟨.non, [0, 1, 5], (.seq (.dat (.sl Yq15)) (.seq (.dat (.sl Yq15)) (.dat (.int .i64)))), 0, 26, 0⟩), (.two (.one (.exit 0) ⟨.non, [], .non, 0, 26, 0⟩) (.one .ret ⟨.non, [4], (.dat .bool), 0, 26, 0⟩)), fun (x : ((List Tq12) × ((List Tq12) × Int))) => (B27_0 x.1 x.2.1 x.2.2)⟩
def F27 (a0 : (List Tq12)) (a1 : (List Tq12)) : Option Bool :=
  sel (bNot (iEq (lLen a0) (lLen a1)))
    (some false)
    (bndS (L27_0 (a0, (a1, 0))) fun y0 =>
    sumS y0 (fun y0a =>
      some true) fun y0b =>
      some y0b)
def gF27 : FS := ⟨(.seq (.dat (.sl Yq15)) (.dat (.sl Yq15))), 0, (.one ⟨.non, (.dat .bool), 0, 0⟩), fun x => (F27 x.1 x.2)⟩
theorem rL27_0 (x : lsL27_0.hd.T) : kRound env (GofL []) (LofL [(27, [(0, lsL27_0)])]) 27 0 (lpOf Tryz.prog 27 0).2 (lsL27_0.hd.st x) lsL27_0.rd = lsL27_0.B x := by kernel_rfl
theorem eF27 (x : gF27.a.T) : kF env (GofL []) (LofL [(27, [(0, lsL27_0)])]) 27 (gF27.args x) (gF27.bs x) gF27.r.dec = gF27.F x := by kernel_rfl
theorem sF27 : SpecAt env 1 27 gF27 := mkSpec (r := 0) (gl := []) (L0 := [(0, lsL27_0)]) (by kernel_rfl) trivial ⟨⟨0, by kernel_rfl, by kernel_rfl, rL27_0⟩, trivial⟩ eF27 (fun h => absurd h (by rw [show env.nl 27 = false by kernel_rfl]; decide))
def F15 : Option Bool :=
  bndS (F37 (([], 1), ([], [])) ((bs [65]), ((bs [66]), 0)) 2) fun y0 =>
  sel (bOr (bNot (iEq y0.2.2 0)) (bNot (iEq y0.2.1 1)))
    (some false)
    (bndS (F22 ((y0.1.1, y0.1.2.1), y0.1.2.2) [(1, 1)]) fun y1 =>
    sel (bNot (iEq y1.2 0))
      (some false)
      (bndS (F25 ((y1.1.1, y1.1.2.1), (y1.1.2.2.1, (lCut y1.1.2.2.2.1 y1.1.2.2.2.2.1 y1.1.2.2.2.2.2)))) fun y2 =>
      sel (iEq y2.2.2 0)
        (bndS (F27 y2.2.1 [(0, (1, (2, ((bs [65]), ((bs [66]), 0)))))]) fun y3 =>
        some y3)
        (some false)))
def gF15 : FS := ⟨.non, 0, (.one ⟨.non, (.dat .bool), 0, 0⟩), fun x => (F15)⟩
theorem eF15 (x : gF15.a.T) : kF env (GofL [(27, [gF27]), (25, [gF25]), (22, [gF22]), (37, [gF37])]) (LofL [(15, [])]) 15 (gF15.args x) (gF15.bs x) gF15.r.dec = gF15.F x := by kernel_rfl
theorem sF15 : SpecAt env 16 15 gF15 := mkSpec (r := 15) (gl := [(27, [gF27]), (25, [gF25]), (22, [gF22]), (37, [gF37])]) (L0 := []) (by kernel_rfl) ⟨⟨sF27.up (by decide), trivial⟩, ⟨sF25.up (by decide), trivial⟩, ⟨sF22.up (by decide), trivial⟩, ⟨sF37.up (by decide), trivial⟩, trivial⟩ trivial eF15 (fun h => absurd h (by rw [show env.nl 15 = false by kernel_rfl]; decide))
def B53_0 (a0 : ByteArray) : Option (ByteArray ⊕ ByteArray) :=
  sel (bOr (oIn (iSub .i64 (sLen a0) 1) (sLen a0)) (bNot (iLt 0 (sLen a0)))) (
  sel (bAnd (iLt 0 (sLen a0)) (iEq (sAt a0 (iSub .i64 (sLen a0) 1)) 32))
    (sel (oCut 0 (iSub .i64 (sLen a0) 1) (sLen a0)) (
    some (.inl (sCut a0 0 (iSub .i64 (sLen a0) 1)))) none)
    (some (.inr a0))) none
def L53_0 (x : ByteArray) : Option ByteArray := iter (fun (x : ByteArray) => (B53_0 x)) fuel x
def B53_2 (a0 : ByteArray) (a1 : Int) : Option (Tq23 ⊕ (ByteArray ⊕ (ByteArray × Bool))) :=
  sel (iLt a1 (sLen a0))
    (sel (oIn a1 (sLen a0)) (
    sel (iEq (sAt a0 a1) 32)
      (some (.inr (.inr (a0, false))))
      (some (.inl (a0, (iAdd .i64 a1 1))))) none)
    (some (.inr (.inl a0)))
def L53_2 (x : Tq23) : Option (ByteArray ⊕ (ByteArray × Bool)) := iter (fun (x : Tq23) => (B53_2 x.1 x.2)) fuel x
def F53 (a0 : ByteArray) : Option (ByteArray × Bool) :=
  bndS (L53_0 a0) fun y0 =>
  bndS (L53_2 (y0, 0)) fun y1 =>
  sumS y1 (fun y1a =>
    some (y1a, true)) fun y1b =>
    some y1b
def B54_0 (a0 : Int) (a1 : Int) (a2 : (List Int)) (a3 : Int) : Option (Tq21 ⊕ (List Int)) :=
  sel (iLt a3 a1)
    (sel (lCap 1 (lApp a2 [a0])) (
    some (.inl (a0, (a1, ((lApp a2 [a0]), (iAdd .i64 a3 1)))))) none)
    (some (.inr a2))
def L54_0 (x : Tq21) : Option (List Int) := iter (fun (x : Tq21) => (B54_0 x.1 x.2.1 x.2.2.1 x.2.2.2)) fuel x
def F54 (a0 : Int) (a1 : Int) : Option ByteArray :=
  bndS (L54_0 (a0, (a1, (([] : List Int), 0)))) fun y0 =>
  some (sOf y0)
def B55_0 (a0 : ByteArray) (a1 : Int) (a2 : Int) (a3 : Int) (a4 : Int) : Option ((ByteArray × (Int × Tq4)) ⊕ Int) :=
  sel (iLt a4 a2)
    (sel (oIn (iAdd .i64 a1 a4) (sLen a0)) (
    some (.inl (a0, (a1, (a2, ((iAdd .i64 (iMul .i64 a3 256) (iCv .i64 (sAt a0 (iAdd .i64 a1 a4)))), (iAdd .i64 a4 1))))))) none)
    (some (.inr a3))
def L55_0 (x : (ByteArray × (Int × Tq4))) : Option Int := iter (fun (x : (ByteArray × (Int × Tq4))) => (B55_0 x.1 x.2.1 x.2.2.1 x.2.2.2.1 x.2.2.2.2)) fuel x
def F55 (a0 : ByteArray) (a1 : Int) (a2 : Int) : Option Int :=
  bndS (L55_0 (a0, (a1, (a2, (0, 0))))) fun y0 =>
  some y0
def F35 (a0 : Int) (a1 : Int) (a2 : Int) : Bool :=
  (bAnd (iLe a1 a0) (iLe a0 a2))
end
end Go.Proofs.YtiddpfhpmodfbaaGreatDoor.K
end

section
set_option linter.unusedVariables false
set_option linter.unusedSimpArgs false
set_option linter.unnecessarySimpa false
open Go Go.Ev Go.Proofs
namespace Go.Proofs.YtiddpfhpmodfbaaGreatDoor.K
set_option linter.unusedVariables false
set_option maxRecDepth 100000
noncomputable section
def F157 (a0 : Int) : Bool :=
  (bAnd (iLe 65 a0) (iLe a0 90))
def F158 (a0 : Int) : Bool :=
  (bAnd (iLe 48 a0) (iLe a0 57))
def B108_0 (a0 : ByteArray) (a1 : Int) : Option (Tq23 ⊕ (Unit ⊕ Bool)) :=
  sel (iLt a1 (sLen a0))
    (sel (oIn a1 (sLen a0)) (
    letS (F157 (sAt a0 a1)) fun y0 =>
    letS (F158 (sAt a0 a1)) fun y1 =>
    sel (bAnd (bNot (bOr (bOr (bOr y0 (iEq (sAt a0 a1) 36)) (iEq (sAt a0 a1) 35)) (iEq (sAt a0 a1) 64))) (bOr (iEq a1 0) (bAnd (bAnd (bNot y1) (bNot (iEq (sAt a0 a1) 95))) (bNot (iEq (sAt a0 a1) 46)))))
      (some (.inr (.inr false)))
      (some (.inl (a0, (iAdd .i64 a1 1))))) none)
    (some (.inr (.inl ())))
def L108_0 (x : Tq23) : Option (Unit ⊕ Bool) := iter (fun (x : Tq23) => (B108_0 x.1 x.2)) fuel x
def F108 (a0 : ByteArray) : Option Bool :=
  letS (F35 (sLen a0) 1 10) fun y0 =>
  sel (bNot y0)
    (some false)
    (bndS (L108_0 (a0, 0)) fun y1 =>
    sumS y1 (fun y1a =>
      some true) fun y1b =>
      some y1b)
def F47 (a0 : Bool) : Option Int :=
  sel a0
    (some 1)
    (some 0)
def F56 (a0 : Tq7) : Option Int :=
  bndS (F108 a0.1) fun y0 =>
  sel (bOr (okS (F108 a0.2.1)) (bNot (bNot (bNot y0)))) (
  letS (valS (F108 a0.2.1) false) fun y1 =>
  sel (bOr (bNot y0) (bNot y1))
    (some 7)
    (letS (F35 a0.2.2 0 29) fun y2 =>
    bndS (F47 (bNot y2)) fun y3 =>
    some (iMul .i64 17 y3))) none
def B57_0 (a0 : ByteArray) (a1 : Int) (a2 : Int) : Option ((ByteArray × (Int × Int)) ⊕ Int) :=
  sel (iLt a2 (sLen a0))
    (sel (oIn a2 (sLen a0)) (
    sel (oNz 4294967291) (
    some (.inl (a0, ((iRem (iAdd .i64 (iAdd .i64 (iMul .i64 257 a1) (iCv .i64 (sAt a0 a2))) 1) 4294967291), (iAdd .i64 a2 1))))) none) none)
    (some (.inr a1))
def L57_0 (x : (ByteArray × (Int × Int))) : Option Int := iter (fun (x : (ByteArray × (Int × Int))) => (B57_0 x.1 x.2.1 x.2.2)) fuel x
def F57 (a0 : ByteArray) : Option Int :=
  bndS (L57_0 (a0, (1, 0))) fun y0 =>
  some y0
def F17 (a0 : ByteArray) : Option Tq1 :=
  sel (bNot (iEq (sLen a0) 32))
    (some (((bs []), ((bs []), 0)), (0, 18)))
    (sel (oCut 5 15 (sLen a0)) (
    bndS (F53 (sCut a0 5 15)) fun y0 =>
    sel (oCut 15 25 (sLen a0)) (
    bndS (F53 (sCut a0 15 25)) fun y1 =>
    sel (oCut 0 4 (sLen a0)) (
    sel (bOr (oCut 30 (sLen a0) (sLen a0)) (bNot (bNot (bOr (bOr (bNot (sEq (sCut a0 0 4) (bs [42, 79, 66, 74]))) (bNot y0.2)) (bNot y1.2))))) (
    sel (bOr (okS (F54 0 2)) (bNot (bNot (bOr (bOr (bNot (sEq (sCut a0 0 4) (bs [42, 79, 66, 74]))) (bNot y0.2)) (bNot y1.2))))) (
    letS (valS (F54 0 2) ByteArray.empty) fun y2 =>
    sel (bOr (bOr (bOr (bNot (sEq (sCut a0 0 4) (bs [42, 79, 66, 74]))) (bNot y0.2)) (bNot y1.2)) (bNot (sEq (sCut a0 30 (sLen a0)) y2)))
      (some (((bs []), ((bs []), 0)), (0, 5)))
      (bndS (F55 a0 4 1) fun y3 =>
      bndS (F55 a0 25 1) fun y4 =>
      bndS (F56 (y0.1, (y1.1, y3))) fun y5 =>
      sel (bNot (iEq y5 0))
        (some (((bs []), ((bs []), 0)), (0, y5)))
        (letS (F35 y4 1 8) fun y6 =>
        sel (bNot y6)
          (some (((bs []), ((bs []), 0)), (0, 3)))
          (bndS (F55 a0 26 4) fun y7 =>
          sel (oCut 0 26 (sLen a0)) (
          bndS (F57 (sCut a0 0 26)) fun y8 =>
          sel (bNot (iEq y7 y8))
            (some (((bs []), ((bs []), 0)), (0, 33)))
            (some ((y0.1, (y1.1, y3)), (y4, 0)))) none)))) none) none) none) none) none)
def F3 (a0 : ByteArray) : Option Bool :=
  bndS (F15) fun y0 =>
  sel (bNot y0)
    (some false)
    (sel (iLt 100 (sLen a0))
      (some true)
      (bndS (F16 a0) fun y1 =>
      bndS (F17 a0) fun y2 =>
      some (bAnd (bAnd (iEq y1.2.2 y2.2.2) (bAnd (sEq y1.1.1 y2.1.1) (bAnd (sEq y1.1.2.1 y2.1.2.1) (iEq y1.1.2.2 y2.1.2.2)))) (iEq y1.2.1 y2.2.1))))
def B133_0 (a0 : Int) (a1 : Int) (a2 : (List Int)) (a3 : Int) : Option (Tq21 ⊕ (List Int)) :=
  sel (iLt a3 a1)
    (sel (oNz 256) (
    sel (oIn (iSub .i64 (iSub .i64 a1 1) a3) (lLen a2)) (
    sel (oNz 256) (
    some (.inl ((iQuo .i64 a0 256), (a1, ((lSet a2 (iSub .i64 (iSub .i64 a1 1) a3) (iCv .u8 (iRem a0 256))), (iAdd .i64 a3 1)))))) none) none) none)
    (some (.inr a2))
def L133_0 (x : Tq21) : Option (List Int) := iter (fun (x : Tq21) => (B133_0 x.1 x.2.1 x.2.2.1 x.2.2.2)) fuel x
def F133 (a0 : Int) (a1 : Int) : Option ByteArray :=
  sel (nCap 1 a1) (
  bndS (L133_0 (a0, (a1, ((lRep a1 (0 : Int)), 0)))) fun y0 =>
  some (sOf y0)) none
def F134 (a0 : ByteArray) (a1 : Int) : Option ByteArray :=
  sel (iLe a1 (sLen a0))
    (sel (oCut 0 a1 (sLen a0)) (
    some (sCut a0 0 a1)) none)
    (bndS (F54 32 (iSub .i64 a1 (sLen a0))) fun y0 =>
    sel (sOk a0 y0) (
    some (sAdd a0 y0)) none)
def F135 (a0 : ByteArray) : Option ByteArray :=
  bndS (F57 a0) fun y0 =>
  bndS (F133 y0 4) fun y1 =>
  sel (sOk a0 y1) (
  bndS (F54 0 2) fun y2 =>
  sel (sOk (sAdd a0 y1) y2) (
  some (sAdd (sAdd a0 y1) y2)) none) none
def F80 (a0 : Tq7) (a1 : Int) : Option ByteArray :=
  bndS (F133 a0.2.2 1) fun y0 =>
  sel (sOk (bs [42, 79, 66, 74]) y0) (
  bndS (F134 a0.1 10) fun y1 =>
  sel (sOk (sAdd (bs [42, 79, 66, 74]) y0) y1) (
  bndS (F134 a0.2.1 10) fun y2 =>
  sel (sOk (sAdd (sAdd (bs [42, 79, 66, 74]) y0) y1) y2) (
  bndS (F133 a1 1) fun y3 =>
  sel (sOk (sAdd (sAdd (sAdd (bs [42, 79, 66, 74]) y0) y1) y2) y3) (
  bndS (F135 (sAdd (sAdd (sAdd (sAdd (bs [42, 79, 66, 74]) y0) y1) y2) y3)) fun y4 =>
  some y4) none) none) none) none
def B18_0 (a0 : Tq5) (a1 : Int) (a2 : (List Tq1)) (a3 : Tq2) (a4 : Int) : Option ((Tq0 × Int) ⊕ (Unit ⊕ Bool)) :=
  sel (iLt a4 (lLen a0))
    (sel (oIn a4 (lLen a0)) (
    sel (iLt 400 (sLen (lAt a0 a4).2))
      (some (.inr (.inr false)))
      (some (.inl ((a0, (a1, (a2, a3))), (iAdd .i64 a4 1))))) none)
    (some (.inr (.inl ())))
def L18_0 (x : (Tq0 × Int)) : Option (Unit ⊕ Bool) := iter (fun (x : (Tq0 × Int)) => (B18_0 x.1.1 x.1.2.1 x.1.2.2.1 x.1.2.2.2 x.2)) fuel x
def lsL18_0 : LS := ⟨(.one .normal ⟨.non, [1, 3], (.seq (.box 0 (.seq (.dat (.sl Yq8)) (.seq (.dat (.int .i64)) (.seq (.dat (.sl Yq6)) (.dat (.sl Yq3)))))) (.dat (.int .i64))), 1, 38, 0⟩), (.two (.one (.exit 0) ⟨.non, [], .non, 0, 38, 0⟩) (.one .ret ⟨.non, [2], (.dat .bool), 0, 38, 0⟩)), fun (x : (Tq0 × Int)) => (B18_0 x.1.1 x.1.2.1 x.1.2.2.1 x.1.2.2.2 x.2)⟩
def F18 (a0 : Tq10) : Option Bool :=
  sel (bOr (bOr (iLt 12 (lLen a0.1.1)) (iLt 14 (lLen a0.2.1))) (iLt 100 (lLen a0.2.2)))
    (some false)
    (bndS (L18_0 ((a0.1.1, (a0.1.2, a0.2)), 0)) fun y0 =>
    sumS y0 (fun y0a =>
      some true) fun y0b =>
      some y0b)
def gF18 : FS := ⟨(.agg (.dat Yq14)), 0, (.one ⟨.non, (.dat .bool), 0, 0⟩), fun x => (F18 x)⟩
theorem rL18_0 (x : lsL18_0.hd.T) : kRound env (GofL []) (LofL [(18, [(0, lsL18_0)])]) 18 0 (lpOf Tryz.prog 18 0).2 (lsL18_0.hd.st x) lsL18_0.rd = lsL18_0.B x := by kernel_rfl
theorem eF18 (x : gF18.a.T) : kF env (GofL []) (LofL [(18, [(0, lsL18_0)])]) 18 (gF18.args x) (gF18.bs x) gF18.r.dec = gF18.F x := by kernel_rfl
theorem sF18 : SpecAt env 1 18 gF18 := mkSpec (r := 0) (gl := []) (L0 := [(0, lsL18_0)]) (by kernel_rfl) trivial ⟨⟨0, by kernel_rfl, by kernel_rfl, rL18_0⟩, trivial⟩ eF18 (fun h => absurd h (by rw [show env.nl 18 = false by kernel_rfl]; decide))
def F64 (a0 : (Tq5 × Int)) : Option (Tq5 × Int) :=
  sel (lCap 24 a0.1) (
  some a0) none
def gF64 : FS := ⟨(.agg (.dat (.pr (.sl Yq8) (.int .i64)))), 0, (.one ⟨.non, (.agg (.seq (.own 0 Yq8) (.dat (.int .i64)))), 0, 1⟩), fun x => (F64 x)⟩
theorem eF64 (x : gF64.a.T) : kF env (GofL []) (LofL [(64, [])]) 64 (gF64.args x) (gF64.bs x) gF64.r.dec = gF64.F x := by kernel_rfl
theorem sF64 : SpecAt env 1 64 gF64 := mkSpec (r := 0) (gl := []) (L0 := []) (by kernel_rfl) trivial trivial eF64 (fun h => absurd h (by rw [show env.nl 64 = false by kernel_rfl]; decide))
def F20 (a0 : Tq10) : Option Tq0 :=
  bndS (F64 a0.1) fun y0 =>
  sel (lCap 56 a0.2.1) (
  sel (lCap 16 a0.2.2) (
  some (y0.1, (y0.2, a0.2))) none) none
def gF20 : FS := ⟨(.agg (.dat Yq14)), 0, (.one ⟨.non, (.agg (.seq (.own 0 Yq8) (.seq (.dat (.int .i64)) (.seq (.own 1 Yq6) (.own 2 Yq3))))), 0, 3⟩), fun x => (F20 x)⟩
theorem eF20 (x : gF20.a.T) : kF env (GofL [(64, [gF64])]) (LofL [(20, [])]) 20 (gF20.args x) (gF20.bs x) gF20.r.dec = gF20.F x := by kernel_rfl
theorem sF20 : SpecAt env 2 20 gF20 := mkSpec (r := 1) (gl := [(64, [gF64])]) (L0 := []) (by kernel_rfl) ⟨⟨sF64.up (by decide), trivial⟩, trivial⟩ trivial eF20 (fun h => absurd h (by rw [show env.nl 20 = false by kernel_rfl]; decide))
def F75 (a0 : ByteArray) : Option Int :=
  sel (oNz 32) (
  some (iQuo .i64 (sLen a0) 32)) none
def B114_0 (a0 : Tq5) (a1 : Int) (a2 : Int) : Option (((Tq5 × Int) × Int) ⊕ (Unit ⊕ (Int × Int))) :=
  sel (iLt a2 (lLen a0))
    (sel (oIn a2 (lLen a0)) (
    letS (F35 (lAt a0 a2).1 1 (iSub .i64 a1 1)) fun y0 =>
    sel (bNot y0)
      (some (.inr (.inr (a2, 3))))
      (sel (bOr (oIn (iSub .i64 a2 1) (lLen a0)) (bNot (iLt 0 a2))) (
      sel (bAnd (iLt 0 a2) (iLe (lAt a0 a2).1 (lAt a0 (iSub .i64 a2 1)).1))
        (some (.inr (.inr (a2, 14))))
        (sel (oNz 32) (
        sel (bOr (okS (F75 (lAt a0 a2).2)) (bNot (bNot (bNot (iEq (iRem (sLen (lAt a0 a2).2) 32) 0))))) (
        letS (valS (F75 (lAt a0 a2).2) 0) fun y1 =>
        letS (F35 y1 1 8) fun y2 =>
        sel (bOr (bNot (iEq (iRem (sLen (lAt a0 a2).2) 32) 0)) (bNot y2))
          (some (.inr (.inr (a2, 18))))
          (some (.inl ((a0, a1), (iAdd .i64 a2 1))))) none) none)) none)) none)
    (some (.inr (.inl ())))
def L114_0 (x : ((Tq5 × Int) × Int)) : Option (Unit ⊕ (Int × Int)) := iter (fun (x : ((Tq5 × Int) × Int)) => (B114_0 x.1.1 x.1.2 x.2)) fuel x
def F114 (a0 : (Tq5 × Int)) : Option (Int × Int) :=
  sel (iLt 10 (lLen a0.1))
    (some (0, 2))
    (letS (F35 a0.2 1 1001) fun y0 =>
    sel (bNot y0)
      (some (0, 3))
      (bndS (L114_0 (a0, 0)) fun y1 =>
      sumS y1 (fun y1a =>
        some (0, 0)) fun y1b =>
        some y1b))
def F65 (a0 : (Tq5 × Int)) : Option Int :=
  bndS (F114 a0) fun y0 =>
  some y0.2
def F115 (a0 : Tq7) (a1 : Tq7) : Option Bool :=
  sel (bNot (sEq a0.1 a1.1))
    (some (sLt a0.1 a1.1))
    (sel (bNot (sEq a0.2.1 a1.2.1))
      (some (sLt a0.2.1 a1.2.1))
      (some (iLt a0.2.2 a1.2.2)))
def B66_0 (a0 : Int) (a1 : (List Tq1)) (a2 : Int) : Option ((Int × ((List Tq1) × Int)) ⊕ (Unit ⊕ Int)) :=
  sel (iLt a2 a0)
    (sel (oIn a2 (lLen a1)) (
    sel (oIn a0 (lLen a1)) (
    sel (iEq (lAt a1 a2).2.1 (lAt a1 a0).2.1)
      (some (.inr (.inr 13)))
      (some (.inl (a0, (a1, (iAdd .i64 a2 1)))))) none) none)
    (some (.inr (.inl ())))
def L66_0 (x : (Int × ((List Tq1) × Int))) : Option (Unit ⊕ Int) := iter (fun (x : (Int × ((List Tq1) × Int))) => (B66_0 x.1 x.2.1 x.2.2)) fuel x
def F66 (a0 : Tq10) (a1 : Int) : Option Int :=
  sel (oIn a1 (lLen a0.2.1)) (
  bndS (F56 (lAt a0.2.1 a1).1) fun y0 =>
  sel (bNot (iEq y0 0))
    (some y0)
    (sel (bOr (oIn (iSub .i64 a1 1) (lLen a0.2.1)) (bNot (iLt 0 a1))) (
    sel (bOr (oIn a1 (lLen a0.2.1)) (bNot (iLt 0 a1))) (
    sel (bOr (okS (F115 (lAt a0.2.1 (iSub .i64 a1 1)).1 (lAt a0.2.1 a1).1)) (bNot (iLt 0 a1))) (
    letS (valS (F115 (lAt a0.2.1 (iSub .i64 a1 1)).1 (lAt a0.2.1 a1).1) false) fun y1 =>
    sel (bAnd (iLt 0 a1) (bNot y1))
      (some 14)
      (sel (oIn a1 (lLen a0.2.1)) (
      letS (F35 (lAt a0.2.1 a1).2.1 1 (iSub .i64 a0.1.2 1)) fun y2 =>
      sel (bOr (oIn a1 (lLen a0.2.1)) (bNot (bNot (bNot y2)))) (
      letS (F35 (lAt a0.2.1 a1).2.2 0 3) fun y3 =>
      sel (bOr (bNot y2) (bNot y3))
        (some 3)
        (bndS (L66_0 (a1, (a0.2.1, 0))) fun y4 =>
        sumS y4 (fun y4a =>
          some 0) fun y4b =>
          some y4b)) none) none)) none) none) none)) none
def B21_0 (a0 : Tq5) (a1 : Int) (a2 : (List Tq1)) (a3 : Tq2) (a4 : Int) : Option ((Tq0 × Int) ⊕ (Tq0 ⊕ (Int × Int))) :=
  sel (iLt a4 (lLen a2))
    (bndS (F66 ((a0, a1), (a2, a3)) a4) fun y0 =>
    sel (bNot (iEq y0 0))
      (some (.inr (.inr (a4, y0))))
      (some (.inl ((a0, (a1, (a2, a3))), (iAdd .i64 a4 1)))))
    (some (.inr (.inl (a0, (a1, (a2, a3))))))
def L21_0 (x : (Tq0 × Int)) : Option (Tq0 ⊕ (Int × Int)) := iter (fun (x : (Tq0 × Int)) => (B21_0 x.1.1 x.1.2.1 x.1.2.2.1 x.1.2.2.2 x.2)) fuel x
def B28_0 (a0 : Int) (a1 : Tq5) (a2 : Int) (a3 : Int) : Option ((Int × ((Tq5 × Int) × Int)) ⊕ (Unit ⊕ Int)) :=
  sel (iLt a3 (lLen a1))
    (sel (oIn a3 (lLen a1)) (
    sel (iEq (lAt a1 a3).1 a0)
      (some (.inr (.inr a3)))
      (some (.inl (a0, ((a1, a2), (iAdd .i64 a3 1)))))) none)
    (some (.inr (.inl ())))
def L28_0 (x : (Int × ((Tq5 × Int) × Int))) : Option (Unit ⊕ Int) := iter (fun (x : (Int × ((Tq5 × Int) × Int))) => (B28_0 x.1 x.2.1.1 x.2.1.2 x.2.2)) fuel x
def lsL28_0 : LS := ⟨(.one .normal ⟨.non, [1, 2, 5], (.seq (.dat (.int .i64)) (.seq (.box 0 (.seq (.dat (.sl Yq8)) (.dat (.int .i64)))) (.dat (.int .i64)))), 1, 22, 0⟩), (.two (.one (.exit 0) ⟨.non, [], .non, 0, 22, 0⟩) (.one .ret ⟨.non, [4], (.dat (.int .i64)), 0, 22, 0⟩)), fun (x : (Int × ((Tq5 × Int) × Int))) => (B28_0 x.1 x.2.1.1 x.2.1.2 x.2.2)⟩
def F28 (a0 : (Tq5 × Int)) (a1 : Int) : Option Int :=
  bndS (L28_0 (a1, (a0, 0))) fun y0 =>
  sumS y0 (fun y0a =>
    some (-1)) fun y0b =>
    some y0b
def gF28 : FS := ⟨(.seq (.agg (.dat (.pr (.sl Yq8) (.int .i64)))) (.dat (.int .i64))), 0, (.one ⟨.non, (.dat (.int .i64)), 0, 0⟩), fun x => (F28 x.1 x.2)⟩
theorem rL28_0 (x : lsL28_0.hd.T) : kRound env (GofL []) (LofL [(28, [(0, lsL28_0)])]) 28 0 (lpOf Tryz.prog 28 0).2 (lsL28_0.hd.st x) lsL28_0.rd = lsL28_0.B x := by kernel_rfl
theorem eF28 (x : gF28.a.T) : kF env (GofL []) (LofL [(28, [(0, lsL28_0)])]) 28 (gF28.args x) (gF28.bs x) gF28.r.dec = gF28.F x := by kernel_rfl
theorem sF28 : SpecAt env 1 28 gF28 := mkSpec (r := 0) (gl := []) (L0 := [(0, lsL28_0)]) (by kernel_rfl) trivial ⟨⟨0, by kernel_rfl, by kernel_rfl, rL28_0⟩, trivial⟩ eF28 (fun h => absurd h (by rw [show env.nl 28 = false by kernel_rfl]; decide))
def F67 (a0 : (Tq5 × Int)) (a1 : Int) (a2 : Int) : Option Bool :=
  bndS (F28 a0 a1) fun y0 =>
  sel (bOr (oIn y0 (lLen a0.1)) (bNot (bNot (iEq y0 (-1))))) (
  sel (bOr (okS (F75 (lAt a0.1 y0).2)) (bNot (bNot (iEq y0 (-1))))) (
  letS (valS (F75 (lAt a0.1 y0).2) 0) fun y1 =>
  letS (F35 a2 0 (iSub .i64 y1 1)) fun y2 =>
  some (bAnd (bNot (iEq y0 (-1))) y2)) none) none
def F68 (a0 : (Int × Int)) (a1 : (Int × Int)) : Bool :=
  (bOr (iLt a1.1 a0.1) (bAnd (iEq a0.1 a1.1) (iLt a1.2 a0.2)))
def B21_2 (a0 : Tq5) (a1 : Int) (a2 : (List Tq1)) (a3 : Tq2) (a4 : Int) : Option ((Tq0 × Int) ⊕ (Unit ⊕ (Int × Int))) :=
  sel (iLt a4 (lLen a3))
    (sel (oIn a4 (lLen a3)) (
    sel (oIn a4 (lLen a3)) (
    bndS (F67 (a0, a1) (lAt a3 a4).1 (lAt a3 a4).2) fun y0 =>
    sel (bNot y0)
      (some (.inr (.inr (a4, 11))))
      (sel (bOr (oIn a4 (lLen a3)) (bNot (iLt 0 a4))) (
      sel (bOr (oIn (iSub .i64 a4 1) (lLen a3)) (bNot (iLt 0 a4))) (
      letS (F68 (lAt a3 a4) (lAt a3 (iSub .i64 a4 1))) fun y1 =>
      sel (bAnd (iLt 0 a4) (bNot y1))
        (some (.inr (.inr (a4, 14))))
        (some (.inl ((a0, (a1, (a2, a3))), (iAdd .i64 a4 1))))) none) none)) none) none)
    (some (.inr (.inl ())))
def L21_2 (x : (Tq0 × Int)) : Option (Unit ⊕ (Int × Int)) := iter (fun (x : (Tq0 × Int)) => (B21_2 x.1.1 x.1.2.1 x.1.2.2.1 x.1.2.2.2 x.2)) fuel x
def F21 (a0 : Tq10) : Option (Int × Int) :=
  bndS (F65 a0.1) fun y0 =>
  sel (bNot (iEq y0 0))
    (some (0, y0))
    (sel (iLt 12 (lLen a0.2.1))
      (some (0, 2))
      (bndS (L21_0 ((a0.1.1, (a0.1.2, a0.2)), 0)) fun y1 =>
      sumS y1 (fun y1a =>
        bndS (L21_2 (y1a, 0)) fun y2 =>
        sumS y2 (fun y2a =>
          some (0, 0)) fun y2b =>
          some y2b) fun y1b =>
        some y1b))
end
end Go.Proofs.YtiddpfhpmodfbaaGreatDoor.K
end

section
set_option linter.unusedVariables false
set_option linter.unusedSimpArgs false
set_option linter.unnecessarySimpa false
open Go Go.Ev Go.Proofs
namespace Go.Proofs.YtiddpfhpmodfbaaGreatDoor.K
set_option linter.unusedVariables false
set_option maxRecDepth 100000
noncomputable section
def F34 (a0 : Tq10) : Option Int :=
  bndS (F21 a0) fun y0 =>
  some y0.2
def B45_0 (a0 : Tq5) (a1 : Int) (a2 : (List Tq1)) (a3 : Tq2) (a4 : ByteArray) (a5 : ByteArray) (a6 : Int) (a7 : Int) : Option ((Tq0 × (Tq7 × Int)) ⊕ (Unit ⊕ Int)) :=
  sel (iLt a7 (lLen a2))
    (sel (oIn a7 (lLen a2)) (
    sel (bAnd (sEq (lAt a2 a7).1.1 a4) (bAnd (sEq (lAt a2 a7).1.2.1 a5) (iEq (lAt a2 a7).1.2.2 a6)))
      (some (.inr (.inr a7)))
      (some (.inl ((a0, (a1, (a2, a3))), ((a4, (a5, a6)), (iAdd .i64 a7 1)))))) none)
    (some (.inr (.inl ())))
def L45_0 (x : (Tq0 × (Tq7 × Int))) : Option (Unit ⊕ Int) := iter (fun (x : (Tq0 × (Tq7 × Int))) => (B45_0 x.1.1 x.1.2.1 x.1.2.2.1 x.1.2.2.2 x.2.1.1 x.2.1.2.1 x.2.1.2.2 x.2.2)) fuel x
def F45 (a0 : Tq10) (a1 : Tq7) : Option Int :=
  bndS (L45_0 ((a0.1.1, (a0.1.2, a0.2)), (a1, 0))) fun y0 =>
  sumS y0 (fun y0a =>
    some (-1)) fun y0b =>
    some y0b
def B131_0 (a0 : Int) (a1 : Int) (a2 : Int) (a3 : Tq5) (a4 : Int) (a5 : (List Tq1)) (a6 : Tq2) (a7 : Int) : Option ((Int × (Int × (Int × (Tq0 × Int)))) ⊕ (Unit ⊕ Bool)) :=
  sel (iLt a7 (lLen a6))
    (sel (oIn a7 (lLen a6)) (
    sel (bOr (oIn a7 (lLen a6)) (bNot (iEq (lAt a6 a7).1 a0))) (
    letS (F35 (lAt a6 a7).2 a1 a2) fun y0 =>
    sel (bAnd (iEq (lAt a6 a7).1 a0) y0)
      (some (.inr (.inr true)))
      (some (.inl (a0, (a1, (a2, ((a3, (a4, (a5, a6))), (iAdd .i64 a7 1)))))))) none) none)
    (some (.inr (.inl ())))
def L131_0 (x : (Int × (Int × (Int × (Tq0 × Int))))) : Option (Unit ⊕ Bool) := iter (fun (x : (Int × (Int × (Int × (Tq0 × Int))))) => (B131_0 x.1 x.2.1 x.2.2.1 x.2.2.2.1.1 x.2.2.2.1.2.1 x.2.2.2.1.2.2.1 x.2.2.2.1.2.2.2 x.2.2.2.2)) fuel x
def F131 (a0 : Tq10) (a1 : Int) (a2 : Int) (a3 : Int) : Option Bool :=
  bndS (L131_0 (a1, (a2, (a3, ((a0.1.1, (a0.1.2, a0.2)), 0))))) fun y0 =>
  sumS y0 (fun y0a =>
    some false) fun y0b =>
    some y0b
def F78 (a0 : Tq10) (a1 : Int) : Option Int :=
  sel (oIn a1 (lLen a0.2.1)) (
  bndS (F28 a0.1 (lAt a0.2.1 a1).2.1) fun y0 =>
  sel (bOr (okS (F131 a0 (lAt a0.2.1 a1).2.1 0 0)) (bNot (bNot (iEq y0 (-1))))) (
  letS (valS (F131 a0 (lAt a0.2.1 a1).2.1 0 0) false) fun y1 =>
  sel (bOr (iEq y0 (-1)) y1)
    (some 3)
    (sel (oIn y0 (lLen a0.1.1)) (
    sel (oCut 0 32 (sLen (lAt a0.1.1 y0).2)) (
    bndS (F17 (sCut (lAt a0.1.1 y0).2 0 32)) fun y2 =>
    sel (bOr (bNot (iEq y2.2.2 0)) (bNot (bAnd (sEq y2.1.1 (lAt a0.2.1 a1).1.1) (bAnd (sEq y2.1.2.1 (lAt a0.2.1 a1).1.2.1) (iEq y2.1.2.2 (lAt a0.2.1 a1).1.2.2)))))
      (some 3)
      (bndS (F131 a0 (lAt a0.2.1 a1).2.1 1 8) fun y3 =>
      sel y3
        (some 2)
        (bndS (F75 (lAt a0.1.1 y0).2) fun y4 =>
        bndS (F47 (bNot (iEq y2.2.1 y4))) fun y5 =>
        some (iMul .i64 1 y5)))) none) none)) none) none
end
end Go.Proofs.YtiddpfhpmodfbaaGreatDoor.K
end

section
set_option linter.unusedVariables false
set_option linter.unusedSimpArgs false
set_option linter.unnecessarySimpa false
open Go Go.Ev Go.Proofs
namespace Go.Proofs.YtiddpfhpmodfbaaGreatDoor.K
set_option linter.unusedVariables false
set_option maxRecDepth 100000
noncomputable section
def F74 (a0 : Int) : Option ByteArray :=
  bndS (F54 0 a0) fun y0 =>
  some y0
def F177 (a0 : (Tq5 × Int)) (a1 : Int) : Option Int :=
  bndS (F28 a0 a1) fun y0 =>
  sel (bNot (iEq y0 (-1)))
    (some 0)
    (letS (F35 a1 1 (iSub .i64 a0.2 1)) fun y1 =>
    sel y1
      (some 24)
      (some 11))
def F147 (a0 : (Tq5 × Int)) (a1 : Int) : Option (Int × Int) :=
  bndS (F65 a0) fun y0 =>
  sel (bNot (iEq y0 0))
    (some ((-1), y0))
    (bndS (F28 a0 a1) fun y1 =>
    bndS (F177 a0 a1) fun y2 =>
    some (y1, y2))
def F145 (a0 : (Tq5 × Int)) (a1 : (Int × Int)) (a2 : Int) : Option (Int × Int) :=
  bndS (F147 a0 a1.1) fun y0 =>
  sel (bNot (iEq y0.2 0))
    (some y0)
    (sel (oIn y0.1 (lLen a0.1)) (
    letS (F35 a1.2 0 (sLen (lAt a0.1 y0.1).2)) fun y1 =>
    letS (F35 a2 0 (iSub .i64 (sLen (lAt a0.1 y0.1).2) a1.2)) fun y2 =>
    sel (bOr (bNot y1) (bNot y2))
      (some (y0.1, 3))
      (some (y0.1, 0))) none)
def F127 (a0 : ByteArray) (a1 : Int) (a2 : ByteArray) : Option ByteArray :=
  sel (oCut 0 a1 (sLen a0)) (
  sel (sOk (sCut a0 0 a1) a2) (
  sel (oCut (iAdd .i64 a1 (sLen a2)) (sLen a0) (sLen a0)) (
  sel (sOk (sAdd (sCut a0 0 a1) a2) (sCut a0 (iAdd .i64 a1 (sLen a2)) (sLen a0))) (
  some (sAdd (sAdd (sCut a0 0 a1) a2) (sCut a0 (iAdd .i64 a1 (sLen a2)) (sLen a0)))) none) none) none) none
def F146 (a0 : (Tq5 × Int)) (a1 : Int) (a2 : ByteArray) : Option (Tq5 × Int) :=
  bndS (F64 a0) fun y0 =>
  sel (oIn a1 (lLen y0.1)) (
  some ((lSet y0.1 a1 ((lAt y0.1 a1).1, a2)), y0.2)) none
def F92 (a0 : (Tq5 × Int)) (a1 : (Int × Int)) (a2 : ByteArray) : Option (Tq5 × (Int × (Int × Tq23))) :=
  bndS (F145 a0 a1 (sLen a2)) fun y0 =>
  sel (bNot (iEq y0.2 0))
    (some (([] : List Tq13), (0, (0, ((bs []), y0.2)))))
    (sel (oIn y0.1 (lLen a0.1)) (
    bndS (F127 (lAt a0.1 y0.1).2 a1.2 a2) fun y1 =>
    bndS (F146 a0 y0.1 y1) fun y2 =>
    some (y2.1, (y2.2, (0, ((bs []), 0))))) none)
def F95 (a0 : (Tq5 × Int)) (a1 : Int) : Option (Tq5 × (Int × (Int × Tq23))) :=
  bndS (F147 a0 a1) fun y0 =>
  sel (bNot (iEq y0.2 0))
    (some (([] : List Tq13), (0, (0, ((bs []), y0.2)))))
    (bndS (F64 a0) fun y1 =>
    sel (oCut 0 y0.1 (lLen y1.1)) (
    sel (oCut (iAdd .i64 y0.1 1) (lLen y1.1) (lLen y1.1)) (
    sel (iLe (pAdd y0.1 (lLen (lCut y1.1 (iAdd .i64 y0.1 1) (lLen y1.1)))) (lLen y1.1)) (
    some ((lCut (lCpy y1.1 y0.1 (pAdd y0.1 (lLen (lCut y1.1 (iAdd .i64 y0.1 1) (lLen y1.1)))) (lCut y1.1 (iAdd .i64 y0.1 1) (lLen y1.1))) 0 (pAdd y0.1 (lLen (lCut y1.1 (iAdd .i64 y0.1 1) (lLen y1.1))))), (y1.2, (0, ((bs []), 0))))) none) none) none)
end
end Go.Proofs.YtiddpfhpmodfbaaGreatDoor.K
end

section
set_option linter.unusedVariables false
set_option linter.unusedSimpArgs false
set_option linter.unnecessarySimpa false
open Go Go.Ev Go.Proofs
namespace Go.Proofs.YtiddpfhpmodfbaaGreatDoor.K
set_option linter.unusedVariables false
set_option maxRecDepth 100000
noncomputable section
def F213 (a0 : Int) : Option ByteArray :=
  sel (iLt a0 10)
    (sel (oCut a0 (iAdd .i64 a0 1) 36) (
    some (sCut (bs [48, 49, 50, 51, 52, 53, 54, 55, 56, 57, 97, 98, 99, 100, 101, 102, 103, 104, 105, 106, 107, 108, 109, 110, 111, 112, 113, 114, 115, 116, 117, 118, 119, 120, 121, 122]) a0 (iAdd .i64 a0 1))) none)
    (sel (oCut (iMul .i64 a0 2) (iAdd .i64 (iMul .i64 a0 2) 2) 200) (
    some (sCut (bs [48, 48, 48, 49, 48, 50, 48, 51, 48, 52, 48, 53, 48, 54, 48, 55, 48, 56, 48, 57, 49, 48, 49, 49, 49, 50, 49, 51, 49, 52, 49, 53, 49, 54, 49, 55, 49, 56, 49, 57, 50, 48, 50, 49, 50, 50, 50, 51, 50, 52, 50, 53, 50, 54, 50, 55, 50, 56, 50, 57, 51, 48, 51, 49, 51, 50, 51, 51, 51, 52, 51, 53, 51, 54, 51, 55, 51, 56, 51, 57, 52, 48, 52, 49, 52, 50, 52, 51, 52, 52, 52, 53, 52, 54, 52, 55, 52, 56, 52, 57, 53, 48, 53, 49, 53, 50, 53, 51, 53, 52, 53, 53, 53, 54, 53, 55, 53, 56, 53, 57, 54, 48, 54, 49, 54, 50, 54, 51, 54, 52, 54, 53, 54, 54, 54, 55, 54, 56, 54, 57, 55, 48, 55, 49, 55, 50, 55, 51, 55, 52, 55, 53, 55, 54, 55, 55, 55, 56, 55, 57, 56, 48, 56, 49, 56, 50, 56, 51, 56, 52, 56, 53, 56, 54, 56, 55, 56, 56, 56, 57, 57, 48, 57, 49, 57, 50, 57, 51, 57, 52, 57, 53, 57, 54, 57, 55, 57, 56, 57, 57]) (iMul .i64 a0 2) (iAdd .i64 (iMul .i64 a0 2) 2))) none)
def F203 (a0 : Int) (a1 : Int) : Option ByteArray :=
  sel (iEq a1 10) (
  sel (bAnd (iLe 0 a0) (iLt a0 100)) (
  bndS (F213 a0) fun y0 =>
  some y0) none) none
def F180 (a0 : Int) : Option ByteArray :=
  bndS (F203 a0 10) fun y0 =>
  some y0
def F151 (a0 : Int) : Option ByteArray :=
  bndS (F180 a0) fun y0 =>
  some y0
def B99_0 (a0 : Tq5) (a1 : Int) (a2 : (List Tq1)) (a3 : Tq2) (a4 : ByteArray) (a5 : ByteArray) (a6 : Int) (a7 : ByteArray) (a8 : ByteArray) (a9 : Int) (a10 : ByteArray) (a11 : Int) : Option ((Tq0 × (Tq7 × (Tq7 × Tq23))) ⊕ (Tq7 × Tq7)) :=
  bndS (F82 ((a0, a1), (a2, a3)) (a4, (a5, a6))) fun y0 =>
  sel (iLe 0 y0)
    (bndS (F151 a11) fun y1 =>
    bndS (FRepeat (bs [48]) (sel (iLt 0 (iSub .i64 3 (sLen y1))) (iSub .i64 3 (sLen y1)) 0)) fun y2 =>
    sel (sOk a10 y2) (
    sel (sOk (sAdd a10 y2) y1) (
    some (.inl ((a0, (a1, (a2, a3))), ((a4, ((sAdd (sAdd a10 y2) y1), a6)), ((a7, (a8, a9)), (a10, (iAdd .i64 a11 1))))))) none) none)
    (some (.inr ((a4, (a5, a6)), (a7, (a8, a9)))))
def L99_0 (x : (Tq0 × (Tq7 × (Tq7 × Tq23)))) : Option (Tq7 × Tq7) := iter (fun (x : (Tq0 × (Tq7 × (Tq7 × Tq23)))) => (B99_0 x.1.1 x.1.2.1 x.1.2.2.1 x.1.2.2.2 x.2.1.1 x.2.1.2.1 x.2.1.2.2 x.2.2.1.1 x.2.2.1.2.1 x.2.2.1.2.2 x.2.2.2.1 x.2.2.2.2)) fuel x
def F99 (a0 : Tq10) (a1 : Tq7) : Option Tq7 :=
  sel (oCut 0 (sel (iLt 7 (sLen a1.2.1)) 7 (sLen a1.2.1)) (sLen a1.2.1)) (
  bndS (L99_0 ((a0.1.1, (a0.1.2, a0.2)), (((bs [81, 82, 67, 76]), a1.2), (((bs []), ((bs []), 0)), ((sCut a1.2.1 0 (sel (iLt 7 (sLen a1.2.1)) 7 (sLen a1.2.1))), 1))))) fun y0 =>
  some y0.1) none
def F150 (a0 : Tq5) (a1 : Int) (a2 : Int) : Option Tq5 :=
  sel (oCut 0 (lLen a0) (lLen a0)) (
  sel (oCut a1 a2 (lLen a0)) (
  sel (iEq a1 a2)
    (some a0)
    (sel (oCut 0 a1 (lLen a0)) (
    sel (oCut a2 (lLen a0) (lLen a0)) (
    sel (iLe (pAdd a1 (lLen (lCut a0 a2 (lLen a0)))) (lLen a0)) (
    sel (oCut (pSub (pAdd a1 (lLen (lCut a0 a2 (lLen a0)))) 0) (lLen a0) (pSub (lLen (lCpy a0 a1 (pAdd a1 (lLen (lCut a0 a2 (lLen a0)))) (lCut a0 a2 (lLen a0)))) 0)) (
    some (lCut (lCpy (lCpy a0 a1 (pAdd a1 (lLen (lCut a0 a2 (lLen a0)))) (lCut a0 a2 (lLen a0))) (pAdd 0 (pSub (pAdd a1 (lLen (lCut a0 a2 (lLen a0)))) 0)) (pAdd 0 (lLen a0)) (lRep (pSub (pAdd 0 (lLen a0)) (pAdd 0 (pSub (pAdd a1 (lLen (lCut a0 a2 (lLen a0)))) 0))) ((0, (bs [])) : Tq13))) 0 (pAdd a1 (lLen (lCut a0 a2 (lLen a0)))))) none) none) none) none)) none) none
def F98 (a0 : (Tq5 × Int)) (a1 : Int) : Option ((Tq5 × Int) × Int) :=
  bndS (F149 a0 a1) fun y0 =>
  sel (bNot (iEq y0.2 0))
    (some ((([] : List Tq13), 0), y0.2))
    (bndS (F116 a0.1) fun y1 =>
    bndS (F150 y1 y0.1 (iAdd .i64 y0.1 1)) fun y2 =>
    some ((y2, a0.2), 0))
end
end Go.Proofs.YtiddpfhpmodfbaaGreatDoor.K
end

section
set_option linter.unusedVariables false
set_option linter.unusedSimpArgs false
set_option linter.unnecessarySimpa false
open Go Go.Ev Go.Proofs
namespace Go.Proofs.YtiddpfhpmodfbaaGreatDoor.K
set_option linter.unusedVariables false
set_option maxRecDepth 100000
noncomputable section
def F152r4 (a0 : Int) : Option ByteArray :=
  sel (iLt a0 (-9))
    (sel (oNz 10) (
    none) none)
    (sel (iLt a0 0)
      (none)
      (sel (iLt a0 10)
        (some (sOf [(iCv .u8 (iAdd .i64 48 a0))]))
        (sel (oNz 10) (
        none) none)))
def F152r3 (a0 : Int) : Option ByteArray :=
  sel (iLt a0 (-9))
    (sel (oNz 10) (
    bndS (F152r4 (iNeg .i64 (iQuo .i64 a0 10))) fun y2 =>
    sel (sOk (bs [45]) y2) (
    sel (oNz 10) (
    bndS (F152r4 (iNeg .i64 (iRem a0 10))) fun y3 =>
    sel (sOk (sAdd (bs [45]) y2) y3) (
    some (sAdd (sAdd (bs [45]) y2) y3)) none) none) none) none)
    (sel (iLt a0 0)
      (bndS (F152r4 (iNeg .i64 a0)) fun y1 =>
      sel (sOk (bs [45]) y1) (
      some (sAdd (bs [45]) y1)) none)
      (sel (iLt a0 10)
        (some (sOf [(iCv .u8 (iAdd .i64 48 a0))]))
        (sel (oNz 10) (
        bndS (F152r4 (iQuo .i64 a0 10)) fun y0 =>
        sel (oNz 10) (
        sel (sOk y0 (sOf [(iCv .u8 (iAdd .i64 48 (iRem a0 10)))])) (
        some (sAdd y0 (sOf [(iCv .u8 (iAdd .i64 48 (iRem a0 10)))]))) none) none) none)))
def F152r2 (a0 : Int) : Option ByteArray :=
  sel (iLt a0 (-9))
    (sel (oNz 10) (
    bndS (F152r3 (iNeg .i64 (iQuo .i64 a0 10))) fun y2 =>
    sel (sOk (bs [45]) y2) (
    sel (oNz 10) (
    bndS (F152r3 (iNeg .i64 (iRem a0 10))) fun y3 =>
    sel (sOk (sAdd (bs [45]) y2) y3) (
    some (sAdd (sAdd (bs [45]) y2) y3)) none) none) none) none)
    (sel (iLt a0 0)
      (bndS (F152r3 (iNeg .i64 a0)) fun y1 =>
      sel (sOk (bs [45]) y1) (
      some (sAdd (bs [45]) y1)) none)
      (sel (iLt a0 10)
        (some (sOf [(iCv .u8 (iAdd .i64 48 a0))]))
        (sel (oNz 10) (
        bndS (F152r3 (iQuo .i64 a0 10)) fun y0 =>
        sel (oNz 10) (
        sel (sOk y0 (sOf [(iCv .u8 (iAdd .i64 48 (iRem a0 10)))])) (
        some (sAdd y0 (sOf [(iCv .u8 (iAdd .i64 48 (iRem a0 10)))]))) none) none) none)))
def F152r1 (a0 : Int) : Option ByteArray :=
  sel (iLt a0 (-9))
    (sel (oNz 10) (
    bndS (F152r2 (iNeg .i64 (iQuo .i64 a0 10))) fun y2 =>
    sel (sOk (bs [45]) y2) (
    sel (oNz 10) (
    bndS (F152r2 (iNeg .i64 (iRem a0 10))) fun y3 =>
    sel (sOk (sAdd (bs [45]) y2) y3) (
    some (sAdd (sAdd (bs [45]) y2) y3)) none) none) none) none)
    (sel (iLt a0 0)
      (bndS (F152r2 (iNeg .i64 a0)) fun y1 =>
      sel (sOk (bs [45]) y1) (
      some (sAdd (bs [45]) y1)) none)
      (sel (iLt a0 10)
        (some (sOf [(iCv .u8 (iAdd .i64 48 a0))]))
        (sel (oNz 10) (
        bndS (F152r2 (iQuo .i64 a0 10)) fun y0 =>
        sel (oNz 10) (
        sel (sOk y0 (sOf [(iCv .u8 (iAdd .i64 48 (iRem a0 10)))])) (
        some (sAdd y0 (sOf [(iCv .u8 (iAdd .i64 48 (iRem a0 10)))]))) none) none) none)))
def F152 (a0 : Int) : Option ByteArray :=
  sel (iLt a0 (-9))
    (sel (oNz 10) (
    bndS (F152r1 (iNeg .i64 (iQuo .i64 a0 10))) fun y2 =>
    sel (sOk (bs [45]) y2) (
    sel (oNz 10) (
    bndS (F152r1 (iNeg .i64 (iRem a0 10))) fun y3 =>
    sel (sOk (sAdd (bs [45]) y2) y3) (
    some (sAdd (sAdd (bs [45]) y2) y3)) none) none) none) none)
    (sel (iLt a0 0)
      (bndS (F152r1 (iNeg .i64 a0)) fun y1 =>
      sel (sOk (bs [45]) y1) (
      some (sAdd (bs [45]) y1)) none)
      (sel (iLt a0 10)
        (some (sOf [(iCv .u8 (iAdd .i64 48 a0))]))
        (sel (oNz 10) (
        bndS (F152r1 (iQuo .i64 a0 10)) fun y0 =>
        sel (oNz 10) (
        sel (sOk y0 (sOf [(iCv .u8 (iAdd .i64 48 (iRem a0 10)))])) (
        some (sAdd y0 (sOf [(iCv .u8 (iAdd .i64 48 (iRem a0 10)))]))) none) none) none)))
def B100_0 (a0 : Tq5) (a1 : Int) (a2 : (List Tq1)) (a3 : Tq2) (a4 : ByteArray) (a5 : ByteArray) (a6 : Int) (a7 : ByteArray) (a8 : ByteArray) (a9 : Int) (a10 : ByteArray) (a11 : Int) : Option ((Tq0 × (Tq7 × (Tq7 × Tq23))) ⊕ (Tq7 × Tq7)) :=
  bndS (F45 ((a0, a1), (a2, a3)) (a4, (a5, a6))) fun y0 =>
  sel (bNot (iEq y0 (-1)))
    (bndS (F152 (iAdd .i64 1000 a11)) fun y1 =>
    sel (oCut 0 (sel (iLt 7 (sLen a10)) 7 (sLen a10)) (sLen a10)) (
    sel (oCut 1 (sLen y1) (sLen y1)) (
    sel (sOk (sCut a10 0 (sel (iLt 7 (sLen a10)) 7 (sLen a10))) (sCut y1 1 (sLen y1))) (
    some (.inl ((a0, (a1, (a2, a3))), ((a4, ((sAdd (sCut a10 0 (sel (iLt 7 (sLen a10)) 7 (sLen a10))) (sCut y1 1 (sLen y1))), a6)), ((a7, (a8, a9)), (a10, (iAdd .i64 a11 1))))))) none) none) none)
    (some (.inr ((a4, (a5, a6)), (a7, (a8, a9)))))
def L100_0 (x : (Tq0 × (Tq7 × (Tq7 × Tq23)))) : Option (Tq7 × Tq7) := iter (fun (x : (Tq0 × (Tq7 × (Tq7 × Tq23)))) => (B100_0 x.1.1 x.1.2.1 x.1.2.2.1 x.1.2.2.2 x.2.1.1 x.2.1.2.1 x.2.1.2.2 x.2.2.1.1 x.2.2.1.2.1 x.2.2.1.2.2 x.2.2.2.1 x.2.2.2.2)) fuel x
def F100 (a0 : Tq10) (a1 : Tq7) : Option Tq7 :=
  bndS (L100_0 ((a0.1.1, (a0.1.2, a0.2)), (((bs [81, 82, 67, 76]), a1.2), (((bs []), ((bs []), 0)), (a1.2.1, 1))))) fun y0 =>
  some y0.1
end
end Go.Proofs.YtiddpfhpmodfbaaGreatDoor.K
end

section
set_option linter.unusedVariables false
set_option linter.unusedSimpArgs false
set_option linter.unnecessarySimpa false
open Go Go.Ev Go.Proofs
namespace Go.Proofs.YtiddpfhpmodfbaaGreatDoor.K
set_option linter.unusedVariables false
set_option maxRecDepth 100000
noncomputable section
end
end Go.Proofs.YtiddpfhpmodfbaaGreatDoor.K
end

section
set_option linter.unusedVariables false
set_option linter.unusedSimpArgs false
set_option linter.unnecessarySimpa false
open Go Go.Ev Go.Proofs
namespace Go.Proofs.YtiddpfhpmodfbaaGreatDoor.K
set_option linter.unusedVariables false
set_option maxRecDepth 100000
noncomputable section
def F73 (a0 : (Tq5 × Int)) (a1 : (Int × (Bool × (Bool × (Int × (Int × (ByteArray × (Int × Int)))))))) : Option (Tq5 × Int) :=
  bndS (F64 a0) fun y0 =>
  bndS (F28 a0 a1.2.2.2.1) fun y1 =>
  sel (oIn y1 (lLen a0.1)) (
  bndS (F127 (lAt a0.1 y1).2 (iMul .i64 a1.2.2.2.2.1 32) a1.2.2.2.2.2.1) fun y2 =>
  sel (oIn y1 (lLen y0.1)) (
  some ((lSet y0.1 y1 ((lAt y0.1 y1).1, y2)), y0.2)) none) none
def B24_0 (a0 : Tq2) (a1 : Tq5) (a2 : Int) (a3 : (List Tq1)) (a4 : Tq2) (a5 : Int) (a6 : Int) (a7 : Int) (a8 : Tq5) (a9 : Int) (a10 : (List Tq1)) (a11 : Tq2) (a12 : Int) : Option (Tq20 ⊕ ((Tq2 × (Tq0 × (Tq4 × Tq0))) ⊕ Tq4)) :=
  sel (iLt a12 (lLen a0))
    (sel (oIn a12 (lLen a0)) (
    sel (oIn a12 (lLen a0)) (
    bndS (F67 (a1, a2) (lAt a0 a12).1 (lAt a0 a12).2) fun y0 =>
    sel (bNot y0)
      (some (.inr (.inr (0, (0, 11)))))
      (sel (oIn a12 (lLen a0)) (
      sel (oIn a12 (lLen a0)) (
      bndS (F74 32) fun y1 =>
      bndS (F73 (a8, a9) (0, (false, (false, ((lAt a0 a12).1, ((lAt a0 a12).2, (y1, (0, 0)))))))) fun y2 =>
      some (.inl (a0, ((a1, (a2, (a3, a4))), ((a5, (a6, a7)), ((y2.1, (y2.2, (a10, a11))), (iAdd .i64 a12 1))))))) none) none)) none) none)
    (some (.inr (.inl (a0, ((a1, (a2, (a3, a4))), ((a5, (a6, a7)), (a8, (a9, (a10, a11)))))))))
def L24_0 (x : Tq20) : Option ((Tq2 × (Tq0 × (Tq4 × Tq0))) ⊕ Tq4) := iter (fun (x : Tq20) => (B24_0 x.1 x.2.1.1 x.2.1.2.1 x.2.1.2.2.1 x.2.1.2.2.2 x.2.2.1.1 x.2.2.1.2.1 x.2.2.1.2.2 x.2.2.2.1.1 x.2.2.2.1.2.1 x.2.2.2.1.2.2.1 x.2.2.2.1.2.2.2 x.2.2.2.2)) fuel x
def B76_0 (a0 : Tq2) (a1 : Int) (a2 : Int) (a3 : Int) : Option ((Tq2 × ((Int × Int) × Int)) ⊕ (Unit ⊕ Bool)) :=
  sel (iLt a3 (lLen a0))
    (sel (oIn a3 (lLen a0)) (
    sel (bAnd (iEq (lAt a0 a3).1 a1) (iEq (lAt a0 a3).2 a2))
      (some (.inr (.inr true)))
      (some (.inl (a0, ((a1, a2), (iAdd .i64 a3 1)))))) none)
    (some (.inr (.inl ())))
def L76_0 (x : (Tq2 × ((Int × Int) × Int))) : Option (Unit ⊕ Bool) := iter (fun (x : (Tq2 × ((Int × Int) × Int))) => (B76_0 x.1 x.2.1.1 x.2.1.2 x.2.2)) fuel x
def F76 (a0 : Tq2) (a1 : (Int × Int)) : Option Bool :=
  bndS (L76_0 (a0, (a1, 0))) fun y0 =>
  sumS y0 (fun y0a =>
    some false) fun y0b =>
    some y0b
end
end Go.Proofs.YtiddpfhpmodfbaaGreatDoor.K
end

section
set_option linter.unusedVariables false
set_option linter.unusedSimpArgs false
set_option linter.unnecessarySimpa false
open Go Go.Ev Go.Proofs
namespace Go.Proofs.YtiddpfhpmodfbaaGreatDoor.K
set_option linter.unusedVariables false
set_option maxRecDepth 100000
noncomputable section
def B24_4h0 (a0 : Tq2) (a1 : Tq5) (a2 : Int) (a3 : (List Tq1)) (a4 : Tq2) (a5 : Int) (a6 : Int) (a7 : Int) (a8 : Tq5) (a9 : Int) (a10 : (List Tq1)) (a11 : Int) (a12 : Int) (a13 : ByteArray) (a14 : Int) : Option ((Tq24 ⊕ (Tq2 × (Tq0 × (Tq4 × (Tq0 × (Int × (Tq13 × Int))))))) ⊕ (Tq19 ⊕ Tq20)) :=
  bndS (F75 a13) fun y0 =>
  sel (iLt a14 y0)
    (bndS (F76 a4 (a12, a14)) fun y1 =>
    sel (bOr (okS (F76 a0 (a12, a14))) (bNot (bNot y1))) (
    letS (valS (F76 a0 (a12, a14)) false) fun y2 =>
    sel (bOr y1 y2)
      (sel (lCap 16 [(a12, a14)]) (
      some (.inl (.inr (a0, ((a1, (a2, (a3, a4))), ((a5, (a6, a7)), ((a8, (a9, (a10, [(a12, a14)]))), (a11, ((a12, a13), (iAdd .i64 a14 1)))))))))) none)
      (some (.inl (.inl (a0, ((a1, (a2, (a3, a4))), ((a5, (a6, a7)), ((a8, (a9, a10)), (a11, ((a12, a13), (iAdd .i64 a14 1))))))))))) none)
    (some (.inr (.inl (a0, ((a1, (a2, (a3, a4))), ((a5, (a6, a7)), ((a8, (a9, a10)), a11)))))))
def B24_4h1 (a0 : Tq2) (a1 : Tq5) (a2 : Int) (a3 : (List Tq1)) (a4 : Tq2) (a5 : Int) (a6 : Int) (a7 : Int) (a8 : Tq5) (a9 : Int) (a10 : (List Tq1)) (a11 : Tq2) (a12 : Int) (a13 : Int) (a14 : ByteArray) (a15 : Int) : Option ((Tq24 ⊕ (Tq2 × (Tq0 × (Tq4 × (Tq0 × (Int × (Tq13 × Int))))))) ⊕ (Tq19 ⊕ Tq20)) :=
  bndS (F75 a14) fun y0 =>
  sel (iLt a15 y0)
    (bndS (F76 a4 (a13, a15)) fun y1 =>
    sel (bOr (okS (F76 a0 (a13, a15))) (bNot (bNot y1))) (
    letS (valS (F76 a0 (a13, a15)) false) fun y2 =>
    sel (bOr y1 y2)
      (sel (lCap 16 (lApp a11 [(a13, a15)])) (
      some (.inl (.inr (a0, ((a1, (a2, (a3, a4))), ((a5, (a6, a7)), ((a8, (a9, (a10, (lApp a11 [(a13, a15)])))), (a12, ((a13, a14), (iAdd .i64 a15 1)))))))))) none)
      (some (.inl (.inr (a0, ((a1, (a2, (a3, a4))), ((a5, (a6, a7)), ((a8, (a9, (a10, a11))), (a12, ((a13, a14), (iAdd .i64 a15 1))))))))))) none)
    (some (.inr (.inr (a0, ((a1, (a2, (a3, a4))), ((a5, (a6, a7)), ((a8, (a9, (a10, a11))), a12)))))))
def L24_4 (x : (Tq24 ⊕ (Tq2 × (Tq0 × (Tq4 × (Tq0 × (Int × (Tq13 × Int)))))))) : Option (Tq19 ⊕ Tq20) := iter (fun (x : (Tq24 ⊕ (Tq2 × (Tq0 × (Tq4 × (Tq0 × (Int × (Tq13 × Int)))))))) => (sumS x (fun x => (B24_4h0 x.1 x.2.1.1 x.2.1.2.1 x.2.1.2.2.1 x.2.1.2.2.2 x.2.2.1.1 x.2.2.1.2.1 x.2.2.1.2.2 x.2.2.2.1.1 x.2.2.2.1.2.1 x.2.2.2.1.2.2 x.2.2.2.2.1 x.2.2.2.2.2.1.1 x.2.2.2.2.2.1.2 x.2.2.2.2.2.2)) fun x => (B24_4h1 x.1 x.2.1.1 x.2.1.2.1 x.2.1.2.2.1 x.2.1.2.2.2 x.2.2.1.1 x.2.2.1.2.1 x.2.2.1.2.2 x.2.2.2.1.1 x.2.2.2.1.2.1 x.2.2.2.1.2.2.1 x.2.2.2.1.2.2.2 x.2.2.2.2.1 x.2.2.2.2.2.1.1 x.2.2.2.2.2.1.2 x.2.2.2.2.2.2))) fuel x
def B24_2h0 (a0 : Tq2) (a1 : Tq5) (a2 : Int) (a3 : (List Tq1)) (a4 : Tq2) (a5 : Int) (a6 : Int) (a7 : Int) (a8 : Tq5) (a9 : Int) (a10 : (List Tq1)) (a11 : Int) : Option ((Tq19 ⊕ Tq20) ⊕ ((Tq4 × (Tq5 × (Int × (List Tq1)))) ⊕ (Tq4 × Tq0))) :=
  sel (iLt a11 (lLen a1))
    (sel (oIn a11 (lLen a1)) (
    bndS (L24_4 (.inl (a0, ((a1, (a2, (a3, a4))), ((a5, (a6, a7)), ((a8, (a9, a10)), (a11, ((lAt a1 a11), 0)))))))) fun y0 =>
    sumS y0 (fun y0a =>
      some (.inl (.inl (y0a.1, (y0a.2.1, (y0a.2.2.1, (y0a.2.2.2.1, (iAdd .i64 y0a.2.2.2.2 1)))))))) fun y0b =>
      some (.inl (.inr (y0b.1, (y0b.2.1, (y0b.2.2.1, (y0b.2.2.2.1, (iAdd .i64 y0b.2.2.2.2 1)))))))) none)
    (some (.inr (.inl ((a5, (a6, a7)), (a8, (a9, a10))))))
def B24_2h1 (a0 : Tq2) (a1 : Tq5) (a2 : Int) (a3 : (List Tq1)) (a4 : Tq2) (a5 : Int) (a6 : Int) (a7 : Int) (a8 : Tq5) (a9 : Int) (a10 : (List Tq1)) (a11 : Tq2) (a12 : Int) : Option ((Tq19 ⊕ Tq20) ⊕ ((Tq4 × (Tq5 × (Int × (List Tq1)))) ⊕ (Tq4 × Tq0))) :=
  sel (iLt a12 (lLen a1))
    (sel (oIn a12 (lLen a1)) (
    bndS (L24_4 (.inr (a0, ((a1, (a2, (a3, a4))), ((a5, (a6, a7)), ((a8, (a9, (a10, a11))), (a12, ((lAt a1 a12), 0)))))))) fun y0 =>
    sumS y0 (fun y0a =>
      some (.inl (.inl (y0a.1, (y0a.2.1, (y0a.2.2.1, (y0a.2.2.2.1, (iAdd .i64 y0a.2.2.2.2 1)))))))) fun y0b =>
      some (.inl (.inr (y0b.1, (y0b.2.1, (y0b.2.2.1, (y0b.2.2.2.1, (iAdd .i64 y0b.2.2.2.2 1)))))))) none)
    (some (.inr (.inr ((a5, (a6, a7)), (a8, (a9, (a10, a11)))))))
def L24_2 (x : (Tq19 ⊕ Tq20)) : Option ((Tq4 × (Tq5 × (Int × (List Tq1)))) ⊕ (Tq4 × Tq0)) := iter (fun (x : (Tq19 ⊕ Tq20)) => (sumS x (fun x => (B24_2h0 x.1 x.2.1.1 x.2.1.2.1 x.2.1.2.2.1 x.2.1.2.2.2 x.2.2.1.1 x.2.2.1.2.1 x.2.2.1.2.2 x.2.2.2.1.1 x.2.2.2.1.2.1 x.2.2.2.1.2.2 x.2.2.2.2)) fun x => (B24_2h1 x.1 x.2.1.1 x.2.1.2.1 x.2.1.2.2.1 x.2.1.2.2.2 x.2.2.1.1 x.2.2.1.2.1 x.2.2.1.2.2 x.2.2.2.1.1 x.2.2.2.1.2.1 x.2.2.2.1.2.2.1 x.2.2.2.1.2.2.2 x.2.2.2.2))) fuel x
def F24 (a0 : Tq10) (a1 : Tq2) : Option (Tq5 × (Int × ((List Tq1) × (Tq2 × ((List Tq12) × (Int × Int)))))) :=
  bndS (F34 a0) fun y0 =>
  sel (bNot (iEq y0 0))
    (some (([] : List Tq13), (0, (([] : List Tq1), (([] : List (Int × Int)), (([] : List Tq12), (0, y0)))))))
    (sel (iLt 40 (lLen a1))
      (some (([] : List Tq13), (0, (([] : List Tq1), (([] : List (Int × Int)), (([] : List Tq12), (0, 2)))))))
      (bndS (F20 a0) fun y1 =>
      bndS (L24_0 (a1, ((a0.1.1, (a0.1.2, a0.2)), ((0, (0, 0)), (y1, 0))))) fun y2 =>
      sumS y2 (fun y2a =>
        bndS (L24_2 (.inl (y2a.1, (y2a.2.1, (y2a.2.2.1, ((y2a.2.2.2.1, (y2a.2.2.2.2.1, y2a.2.2.2.2.2.1)), 0)))))) fun y3 =>
        sumS y3 (fun y3a =>
          some (y3a.2.1, (y3a.2.2.1, (y3a.2.2.2, (([] : List (Int × Int)), (([] : List Tq12), (0, 0))))))) fun y3b =>
          some (y3b.2.1, (y3b.2.2.1, (y3b.2.2.2.1, (y3b.2.2.2.2, (([] : List Tq12), (0, 0))))))) fun y2b =>
        some (([] : List Tq13), (y2b.1, (([] : List Tq1), (([] : List (Int × Int)), (([] : List Tq12), y2b.2)))))))
def B7_2 (a0 : Tq2) (a1 : Tq5) (a2 : Int) (a3 : (List Tq1)) (a4 : Tq2) (a5 : Tq5) (a6 : Int) (a7 : (List Tq1)) (a8 : Tq2) (a9 : Int) (a10 : ByteArray) (a11 : ByteArray) (a12 : Int) (a13 : Int) (a14 : Int) (a15 : Int) : Option ((Tq2 × (Tq0 × (Tq0 × (Int × (Tq11 × Int))))) ⊕ ((Tq2 × (Tq0 × (Tq0 × Int))) ⊕ Bool)) :=
  sel (iLt a15 (lLen a0))
    (sel (oIn a15 (lLen a0)) (
    sel (iEq (lAt a0 a15).1 a13)
      (some (.inr (.inr false)))
      (some (.inl (a0, ((a1, (a2, (a3, a4))), ((a5, (a6, (a7, a8))), (a9, ((a10, (a11, (a12, (a13, a14)))), (iAdd .i64 a15 1))))))))) none)
    (some (.inr (.inl (a0, ((a1, (a2, (a3, a4))), ((a5, (a6, (a7, a8))), a9))))))
def L7_2 (x : (Tq2 × (Tq0 × (Tq0 × (Int × (Tq11 × Int)))))) : Option ((Tq2 × (Tq0 × (Tq0 × Int))) ⊕ Bool) := iter (fun (x : (Tq2 × (Tq0 × (Tq0 × (Int × (Tq11 × Int)))))) => (B7_2 x.1 x.2.1.1 x.2.1.2.1 x.2.1.2.2.1 x.2.1.2.2.2 x.2.2.1.1 x.2.2.1.2.1 x.2.2.1.2.2.1 x.2.2.1.2.2.2 x.2.2.2.1 x.2.2.2.2.1.1 x.2.2.2.2.1.2.1 x.2.2.2.2.1.2.2.1 x.2.2.2.2.1.2.2.2.1 x.2.2.2.2.1.2.2.2.2 x.2.2.2.2.2)) fuel x
def lsL7_2 : LS := ⟨(.one .normal ⟨.non, [1, 2, 7, 9, 10, 13], (.seq (.dat (.sl Yq3)) (.seq (.box 0 (.seq (.dat (.sl Yq8)) (.seq (.dat (.int .i64)) (.seq (.dat (.sl Yq6)) (.dat (.sl Yq3)))))) (.seq (.box 1 (.seq (.own 2 Yq8) (.seq (.dat (.int .i64)) (.seq (.own 3 Yq6) (.own 4 Yq3))))) (.seq (.dat (.int .i64)) (.seq (.box 5 (.seq (.dat .str) (.seq (.dat .str) (.seq (.dat (.int .i64)) (.seq (.dat (.int .i64)) (.dat (.int .i64))))))) (.dat (.int .i64))))))), 6, 136, 0⟩), (.two (.one (.exit 2) ⟨.non, [1, 2, 7, 9], (.seq (.dat (.sl Yq3)) (.seq (.box 0 (.seq (.dat (.sl Yq8)) (.seq (.dat (.int .i64)) (.seq (.dat (.sl Yq6)) (.dat (.sl Yq3)))))) (.seq (.box 1 (.seq (.own 2 Yq8) (.seq (.dat (.int .i64)) (.seq (.own 3 Yq6) (.own 4 Yq3))))) (.dat (.int .i64))))), 5, 136, 0⟩) (.one .ret ⟨.non, [4], (.dat .bool), 0, 136, 0⟩)), fun (x : (Tq2 × (Tq0 × (Tq0 × (Int × (Tq11 × Int)))))) => (B7_2 x.1 x.2.1.1 x.2.1.2.1 x.2.1.2.2.1 x.2.1.2.2.2 x.2.2.1.1 x.2.2.1.2.1 x.2.2.1.2.2.1 x.2.2.1.2.2.2 x.2.2.2.1 x.2.2.2.2.1.1 x.2.2.2.2.1.2.1 x.2.2.2.2.1.2.2.1 x.2.2.2.2.1.2.2.2.1 x.2.2.2.2.1.2.2.2.2 x.2.2.2.2.2)⟩
def B7_0 (a0 : Tq2) (a1 : Tq5) (a2 : Int) (a3 : (List Tq1)) (a4 : Tq2) (a5 : Tq5) (a6 : Int) (a7 : (List Tq1)) (a8 : Tq2) (a9 : Int) : Option ((Tq2 × (Tq0 × (Tq0 × Int))) ⊕ (Unit ⊕ Bool)) :=
  sel (iLt a9 (lLen a7))
    (sel (oIn a9 (lLen a7)) (
    sel (bNot (iEq (lAt a7 a9).2.2 0))
      (some (.inl (a0, ((a1, (a2, (a3, a4))), ((a5, (a6, (a7, a8))), (iAdd .i64 a9 1))))))
      (bndS (F28 (a1, a2) (lAt a7 a9).2.1) fun y0 =>
      bndS (F28 (a5, a6) (lAt a7 a9).2.1) fun y1 =>
      sel (oIn a9 (lLen a3)) (
      sel (bOr (oIn y0 (lLen a1)) (bNot (bNot (bOr (bOr (bNot (bAnd (sEq (lAt a7 a9).1.1 (lAt a3 a9).1.1) (bAnd (sEq (lAt a7 a9).1.2.1 (lAt a3 a9).1.2.1) (iEq (lAt a7 a9).1.2.2 (lAt a3 a9).1.2.2)))) (iEq y0 (-1))) (iEq y1 (-1)))))) (
      sel (bOr (oIn y1 (lLen a5)) (bNot (bNot (bOr (bOr (bNot (bAnd (sEq (lAt a7 a9).1.1 (lAt a3 a9).1.1) (bAnd (sEq (lAt a7 a9).1.2.1 (lAt a3 a9).1.2.1) (iEq (lAt a7 a9).1.2.2 (lAt a3 a9).1.2.2)))) (iEq y0 (-1))) (iEq y1 (-1)))))) (
      sel (bOr (bOr (bOr (bNot (bAnd (sEq (lAt a7 a9).1.1 (lAt a3 a9).1.1) (bAnd (sEq (lAt a7 a9).1.2.1 (lAt a3 a9).1.2.1) (iEq (lAt a7 a9).1.2.2 (lAt a3 a9).1.2.2)))) (iEq y0 (-1))) (iEq y1 (-1))) (bNot (sEq (lAt a1 y0).2 (lAt a5 y1).2)))
        (some (.inr (.inr false)))
        (bndS (L7_2 (a0, ((a1, (a2, (a3, a4))), ((a5, (a6, (a7, a8))), (a9, (((lAt a7 a9).1.1, ((lAt a7 a9).1.2.1, ((lAt a7 a9).1.2.2, (lAt a7 a9).2))), 0)))))) fun y2 =>
        sumS y2 (fun y2a =>
          some (.inl (y2a.1, (y2a.2.1, (y2a.2.2.1, (iAdd .i64 y2a.2.2.2 1)))))) fun y2b =>
          some (.inr (.inr y2b)))) none) none) none)) none)
    (some (.inr (.inl ())))
def L7_0 (x : (Tq2 × (Tq0 × (Tq0 × Int)))) : Option (Unit ⊕ Bool) := iter (fun (x : (Tq2 × (Tq0 × (Tq0 × Int)))) => (B7_0 x.1 x.2.1.1 x.2.1.2.1 x.2.1.2.2.1 x.2.1.2.2.2 x.2.2.1.1 x.2.2.1.2.1 x.2.2.1.2.2.1 x.2.2.1.2.2.2 x.2.2.2)) fuel x
def lsL7_0 : LS := ⟨(.one .normal ⟨.non, [1, 2, 7, 9], (.seq (.dat (.sl Yq3)) (.seq (.box 0 (.seq (.dat (.sl Yq8)) (.seq (.dat (.int .i64)) (.seq (.dat (.sl Yq6)) (.dat (.sl Yq3)))))) (.seq (.box 1 (.seq (.own 2 Yq8) (.seq (.dat (.int .i64)) (.seq (.own 3 Yq6) (.own 4 Yq3))))) (.dat (.int .i64))))), 5, 136, 0⟩), (.two (.one (.exit 0) ⟨.non, [], .non, 0, 136, 0⟩) (.one .ret ⟨.non, [4], (.dat .bool), 0, 136, 0⟩)), fun (x : (Tq2 × (Tq0 × (Tq0 × Int)))) => (B7_0 x.1 x.2.1.1 x.2.1.2.1 x.2.1.2.2.1 x.2.1.2.2.2 x.2.2.1.1 x.2.2.1.2.1 x.2.2.1.2.2.1 x.2.2.1.2.2.2 x.2.2.2)⟩
def F7 (a0 : Tq10) (a1 : Tq2) : Option Bool :=
  bndS (F15) fun y0 =>
  sel (bNot y0)
    (some false)
    (bndS (F18 a0) fun y1 =>
    sel (bOr (bOr (bNot y1) (iLt 40 (lLen a1))) (iLt 0 (lLen a0.2.2)))
      (some true)
      (bndS (F20 a0) fun y2 =>
      sel (lCap 16 a1) (
      bndS (F22 ((y2.1, y2.2.1), y2.2.2) a1) fun y3 =>
      sel (bNot (iEq y3.2 0))
        (some true)
        (bndS (F25 ((y3.1.1, y3.1.2.1), (y3.1.2.2.1, (lCut y3.1.2.2.2.1 y3.1.2.2.2.2.1 y3.1.2.2.2.2.2)))) fun y4 =>
        sel (bOr (bOr (bNot (iEq y4.2.2 0)) (bNot (iEq (lLen y4.1.2.2.1) (lLen a0.2.1)))) (iLt 0 (lLen y4.1.2.2.2)))
          (some false)
          (bndS (L7_0 (a1, ((a0.1.1, (a0.1.2, a0.2)), (y4.1, 0)))) fun y5 =>
          sumS y5 (fun y5a =>
            some true) fun y5b =>
            some y5b))) none))
def gF7 : FS := ⟨(.seq (.agg (.dat Yq14)) (.dat (.sl Yq3))), 0, (.one ⟨.non, (.dat .bool), 0, 0⟩), fun x => (F7 x.1 x.2)⟩
theorem rL7_2 (x : lsL7_2.hd.T) : kRound env (GofL [(28, [gF28]), (25, [gF25]), (22, [gF22]), (20, [gF20]), (18, [gF18]), (15, [gF15])]) (LofL [(7, [(2, lsL7_2), (0, lsL7_0)])]) 7 2 (lpOf Tryz.prog 7 1).2 (lsL7_2.hd.st x) lsL7_2.rd = lsL7_2.B x := by kernel_rfl
theorem rL7_0 (x : lsL7_0.hd.T) : kRound env (GofL [(28, [gF28]), (25, [gF25]), (22, [gF22]), (20, [gF20]), (18, [gF18]), (15, [gF15])]) (LofL [(7, [(2, lsL7_2), (0, lsL7_0)])]) 7 0 (lpOf Tryz.prog 7 0).2 (lsL7_0.hd.st x) lsL7_0.rd = lsL7_0.B x := by kernel_rfl
theorem eF7 (x : gF7.a.T) : kF env (GofL [(28, [gF28]), (25, [gF25]), (22, [gF22]), (20, [gF20]), (18, [gF18]), (15, [gF15])]) (LofL [(7, [(2, lsL7_2), (0, lsL7_0)])]) 7 (gF7.args x) (gF7.bs x) gF7.r.dec = gF7.F x := by kernel_rfl
theorem sF7 : SpecAt env 17 7 gF7 := mkSpec (r := 16) (gl := [(28, [gF28]), (25, [gF25]), (22, [gF22]), (20, [gF20]), (18, [gF18]), (15, [gF15])]) (L0 := [(2, lsL7_2), (0, lsL7_0)]) (by kernel_rfl) ⟨⟨sF28.up (by decide), trivial⟩, ⟨sF25.up (by decide), trivial⟩, ⟨sF22.up (by decide), trivial⟩, ⟨sF20.up (by decide), trivial⟩, ⟨sF18.up (by decide), trivial⟩, ⟨sF15.up (by decide), trivial⟩, trivial⟩ ⟨⟨1, by kernel_rfl, by kernel_rfl, rL7_2⟩, ⟨0, by kernel_rfl, by kernel_rfl, rL7_0⟩, trivial⟩ eF7 (fun h => absurd h (by rw [show env.nl 7 = false by kernel_rfl]; decide))
end
end Go.Proofs.YtiddpfhpmodfbaaGreatDoor.K
end
