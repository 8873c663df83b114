import Derived.Test.YtpgkhmdfddejfaaDoorZLPVx0
import Derived.Test.YtpgkhmdfddejfaaDoorZLPVx9
import Derived.Test.YtpgkhmdfddejfaaDoorZLPVx12
section
namespace Go.Proofs.YtpgkhmdfddejfaaDoor.PV
open Go.RowKit Go.Proofs.YtpgkhmdfddejfaaDoorW.PrintWords Go.Proofs.YtpgkhmdfddejfaaDoorW.PrintLast Go.Proofs.YtpgkhmdfddejfaaDoorW.PrintMore
attribute [local go_sem] qcz qcx qdc qdb qcr qcq qcv qcy   -- for this text's walks alone
set_option linter.unusedVariables false
set_option linter.unusedSimpArgs false
mutual
def qf.j0 : Nat → Int → Bool → Int → Int → Int → ByteArray → Int → Int → ByteArray → List (S27) → List (S30) → List (S27) → Option (Bool)
 | 0, _, _, _, _, _, _, _, _, _, _, _, _ => none
 | k + 1, x1, x28, x222000, x222001, x222002, x222003, x222004, x222005, x222006, x222007, x222008, x222009 => if x28 = true then (some false) else (if x222000 ≤ 4 then (qf.j1 k x1 (x222008.length : Int) true x222000 x222001 x222002 x222003 x222004 x222005 x222006 x222007 x222008 x222009) else (qf.j1 k x1 (x222008.length : Int) (x222000 == 11) x222000 x222001 x222002 x222003 x222004 x222005 x222006 x222007 x222008 x222009))
def qf.j1 : Nat → Int → Int → Bool → Int → Int → Int → ByteArray → Int → Int → ByteArray → List (S27) → List (S30) → List (S27) → Option (Bool)
 | 0, _, _, _, _, _, _, _, _, _, _, _, _, _ => none
 | k + 1, x1, x5, x6, x222000, x222001, x222002, x222003, x222004, x222005, x222006, x222007, x222008, x222009 => if x222000 = 5 then (qf.j2 k x1 x5 x6 true x222000 x222001 x222002 x222003 x222004 x222005 x222006 x222007 x222008 x222009) else (qf.j2 k x1 x5 x6 (x222000 == 6) x222000 x222001 x222002 x222003 x222004 x222005 x222006 x222007 x222008 x222009)
def qf.j2 : Nat → Int → Int → Bool → Bool → Int → Int → Int → ByteArray → Int → Int → ByteArray → List (S27) → List (S30) → List (S27) → Option (Bool)
 | 0, _, _, _, _, _, _, _, _, _, _, _, _, _, _ => none
 | k + 1, x1, x5, x6, x7, x222000, x222001, x222002, x222003, x222004, x222005, x222006, x222007, x222008, x222009 => if x6 = true then (if x5 < 1 then (qf.j3 k x1 x5 true x222000 x222001 x222002 x222003 x222004 x222005 x222006 x222007 x222008 x222009) else (if x5 > 16 then (qf.j3 k x1 x5 true x222000 x222001 x222002 x222003 x222004 x222005 x222006 x222007 x222008 x222009) else (if x7 = true then (if x5 = 1 then (qf.j3 k x1 x5 false x222000 x222001 x222002 x222003 x222004 x222005 x222006 x222007 x222008 x222009) else (qf.j3 k x1 x5 true x222000 x222001 x222002 x222003 x222004 x222005 x222006 x222007 x222008 x222009)) else (qf.j3 k x1 x5 false x222000 x222001 x222002 x222003 x222004 x222005 x222006 x222007 x222008 x222009)))) else (if x7 = true then (if x5 = 1 then (qf.j3 k x1 x5 false x222000 x222001 x222002 x222003 x222004 x222005 x222006 x222007 x222008 x222009) else (qf.j3 k x1 x5 true x222000 x222001 x222002 x222003 x222004 x222005 x222006 x222007 x222008 x222009)) else (qf.j3 k x1 x5 (x5 != 0) x222000 x222001 x222002 x222003 x222004 x222005 x222006 x222007 x222008 x222009))
def qf.j3 : Nat → Int → Int → Bool → Int → Int → Int → ByteArray → Int → Int → ByteArray → List (S27) → List (S30) → List (S27) → Option (Bool)
 | 0, _, _, _, _, _, _, _, _, _, _, _, _, _ => none
 | k + 1, x1, x5, x75, x222000, x222001, x222002, x222003, x222004, x222005, x222006, x222007, x222008, x222009 => if x75 = true then (some false) else (if x222000 = 4 then (if x222001 < 1 then (some false) else (if x222002 < 1 then (some false) else (if x222001 > x5 then (some false) else (if x222002 > x5 then (some false) else (if x222000 = 6 then (if x222001 > 1000 then (some false) else (if x222002 = 0 then (qf.j4 k x1 x5 x222000 x222001 x222002 x222003 x222004 x222005 x222006 x222007 x222008 x222009) else (some false))) else (qf.j4 k x1 x5 x222000 x222001 x222002 x222003 x222004 x222005 x222006 x222007 x222008 x222009)))))) else (if x222000 = 6 then (if x222001 < 1 then (some false) else (if x222001 > 1000 then (some false) else (if x222002 = 0 then (qf.j4 k x1 x5 x222000 x222001 x222002 x222003 x222004 x222005 x222006 x222007 x222008 x222009) else (some false)))) else (if x222001 = 0 then (if x222002 = 0 then (qf.j4 k x1 x5 x222000 x222001 x222002 x222003 x222004 x222005 x222006 x222007 x222008 x222009) else (some false)) else (some false))))
def qf.j4 : Nat → Int → Int → Int → Int → Int → ByteArray → Int → Int → ByteArray → List (S27) → List (S30) → List (S27) → Option (Bool)
 | 0, _, _, _, _, _, _, _, _, _, _, _, _ => none
 | k + 1, x1, x5, x222000, x222001, x222002, x222003, x222004, x222005, x222006, x222007, x222008, x222009 => if x222000 = 8 then (qf.j5 k x1 x5 true x222000 x222001 x222002 x222003 x222004 x222005 x222006 x222007 x222008 x222009) else (if x222000 = 9 then (qf.j5 k x1 x5 true x222000 x222001 x222002 x222003 x222004 x222005 x222006 x222007 x222008 x222009) else (qf.j5 k x1 x5 (x222000 == 12) x222000 x222001 x222002 x222003 x222004 x222005 x222006 x222007 x222008 x222009))
def qf.j5 : Nat → Int → Int → Bool → Int → Int → Int → ByteArray → Int → Int → ByteArray → List (S27) → List (S30) → List (S27) → Option (Bool)
 | 0, _, _, _, _, _, _, _, _, _, _, _, _, _ => none
 | k + 1, x1, x5, x8, x222000, x222001, x222002, x222003, x222004, x222005, x222006, x222007, x222008, x222009 => if x222000 = 7 then (qf.j6 k x1 x5 x8 true x222000 x222001 x222002 x222003 x222004 x222005 x222006 x222007 x222008 x222009) else (qf.j6 k x1 x5 x8 (x222000 == 8) x222000 x222001 x222002 x222003 x222004 x222005 x222006 x222007 x222008 x222009)
def qf.j6 : Nat → Int → Int → Bool → Bool → Int → Int → Int → ByteArray → Int → Int → ByteArray → List (S27) → List (S30) → List (S27) → Option (Bool)
 | 0, _, _, _, _, _, _, _, _, _, _, _, _, _, _ => none
 | k + 1, x1, x5, x8, x9, x222000, x222001, x222002, x222003, x222004, x222005, x222006, x222007, x222008, x222009 => if x8 = true then ((qbg.f k x222003).bind fun t222 => (if t222 = true then (if x9 = true then ((qbd.f k x222004 x222005 x222006 x222007).bind fun t223 => (if t223 = true then (qf.j7 k x1 x5 false x222000 x222001 x222002 x222003 x222004 x222005 x222006 x222007 x222008 x222009) else (qf.j7 k x1 x5 true x222000 x222001 x222002 x222003 x222004 x222005 x222006 x222007 x222008 x222009))) else ((qbm.f k x222004 x222005 x222006 x222007).bind fun t224 => (qf.j7 k x1 x5 (!t224) x222000 x222001 x222002 x222003 x222004 x222005 x222006 x222007 x222008 x222009))) else (qf.j7 k x1 x5 true x222000 x222001 x222002 x222003 x222004 x222005 x222006 x222007 x222008 x222009))) else (if x222003.toList = ([] : List UInt8) then (if x9 = true then ((qbd.f k x222004 x222005 x222006 x222007).bind fun t225 => (if t225 = true then (qf.j7 k x1 x5 false x222000 x222001 x222002 x222003 x222004 x222005 x222006 x222007 x222008 x222009) else (qf.j7 k x1 x5 true x222000 x222001 x222002 x222003 x222004 x222005 x222006 x222007 x222008 x222009))) else ((qbm.f k x222004 x222005 x222006 x222007).bind fun t226 => (qf.j7 k x1 x5 (!t226) x222000 x222001 x222002 x222003 x222004 x222005 x222006 x222007 x222008 x222009))) else (qf.j7 k x1 x5 true x222000 x222001 x222002 x222003 x222004 x222005 x222006 x222007 x222008 x222009))
def qf.j7 : Nat → Int → Int → Bool → Int → Int → Int → ByteArray → Int → Int → ByteArray → List (S27) → List (S30) → List (S27) → Option (Bool)
 | 0, _, _, _, _, _, _, _, _, _, _, _, _, _ => none
 | k + 1, x1, x5, x195, x222000, x222001, x222002, x222003, x222004, x222005, x222006, x222007, x222008, x222009 => if x195 = true then (some false) else (if x222000 = 11 then (if (x222009.length : Int) = x5 then (qf.j8 k x1 x5 false x222000 x222001 x222002 x222003 x222004 x222005 x222006 x222007 x222008 x222009) else (qf.j8 k x1 x5 true x222000 x222001 x222002 x222003 x222004 x222005 x222006 x222007 x222008 x222009)) else (qf.j8 k x1 x5 (decide ((x222009.length : Int) > 0)) x222000 x222001 x222002 x222003 x222004 x222005 x222006 x222007 x222008 x222009))
def qf.j8 : Nat → Int → Int → Bool → Int → Int → Int → ByteArray → Int → Int → ByteArray → List (S27) → List (S30) → List (S27) → Option (Bool)
 | 0, _, _, _, _, _, _, _, _, _, _, _, _, _ => none
 | k + 1, x1, x5, x216, x222000, x222001, x222002, x222003, x222004, x222005, x222006, x222007, x222008, x222009 => if x216 = true then (some false) else (qf.l0 k x1 x5 0 x222000 x222001 x222002 x222003 x222004 x222005 x222006 x222007 x222008 x222009)
def qf.l0 : Nat → Int → Int → Int → Int → Int → Int → ByteArray → Int → Int → ByteArray → List (S27) → List (S30) → List (S27) → Option (Bool)
 | 0, _, _, _, _, _, _, _, _, _, _, _, _, _ => none
 | k + 1, x1, x5, x10, x222000, x222001, x222002, x222003, x222004, x222005, x222006, x222007, x222008, x222009 => if x10 < (x222009.length : Int) then (if 0 ≤ x10 then ((qbd.f k ((qx x222009 x10).f0) ((qx x222009 x10).f1) ((qx x222009 x10).f2) ((qx x222009 x10).f3)).bind fun t228 => (if t228 = true then (qf.l0 k x1 x5 (wrap64 (x10 + 1)) x222000 x222001 x222002 x222003 x222004 x222005 x222006 x222007 x222008 x222009) else (some false))) else (none)) else (qf.l1 k x1 x5 0 x222000 x222001 x222002 x222003 x222004 x222005 x222006 x222007 x222008 x222009)
def qf.l1 : Nat → Int → Int → Int → Int → Int → Int → ByteArray → Int → Int → ByteArray → List (S27) → List (S30) → List (S27) → Option (Bool)
 | 0, _, _, _, _, _, _, _, _, _, _, _, _, _ => none
 | k + 1, x1, x5, x11, x222000, x222001, x222002, x222003, x222004, x222005, x222006, x222007, x222008, x222009 => if x11 < x5 then (if 0 ≤ x11 then (if x11 < (x222008.length : Int) then ((qf.f k ((qp x222008 x11).f0) ((qp x222008 x11).f1) ((qp x222008 x11).f2) ((qp x222008 x11).f3) ((qp x222008 x11).f4.f0) ((qp x222008 x11).f4.f1) ((qp x222008 x11).f4.f2) ((qp x222008 x11).f4.f3) ((qp x222008 x11).f5) ((qp x222008 x11).f6) (wrap64 (x1 + 1))).bind fun t230 => (if t230 = true then (qf.l1 k x1 x5 (wrap64 (x11 + 1)) x222000 x222001 x222002 x222003 x222004 x222005 x222006 x222007 x222008 x222009) else (some false))) else (none)) else (none)) else (some true)
def qf.f : Nat → Int → Int → Int → ByteArray → Int → Int → ByteArray → List (S27) → List (S30) → List (S27) → Int → Option (Bool)
 | 0, _, _, _, _, _, _, _, _, _, _, _ => none
 | k + 1, a0_0, a0_1, a0_2, a0_3, a0_4, a0_5, a0_6, l0_7, l0_8, l0_9, a1 => if a1 > 40 then (qf.j0 k a1 true a0_0 a0_1 a0_2 a0_3 a0_4 a0_5 a0_6 l0_7 l0_8 l0_9) else (if a0_0 < 0 then (qf.j0 k a1 true a0_0 a0_1 a0_2 a0_3 a0_4 a0_5 a0_6 l0_7 l0_8 l0_9) else (if a0_0 > 15 then (qf.j0 k a1 true a0_0 a0_1 a0_2 a0_3 a0_4 a0_5 a0_6 l0_7 l0_8 l0_9) else (qf.j0 k a1 (a0_0 == 10) a0_0 a0_1 a0_2 a0_3 a0_4 a0_5 a0_6 l0_7 l0_8 l0_9)))
end
theorem qf.qch : ∀ k, (∀ y0 y1 y2 y3 y4 y5 y6 y7 y8 y9 y10, LeO (qf.f k y0 y1 y2 y3 y4 y5 y6 y7 y8 y9 y10) (qf.f (k + 1) y0 y1 y2 y3 y4 y5 y6 y7 y8 y9 y10)) ∧ (∀ y0 y1 y2 y3 y4 y5 y6 y7 y8 y9 y10 y11, LeO (qf.j0 k y0 y1 y2 y3 y4 y5 y6 y7 y8 y9 y10 y11) (qf.j0 (k + 1) y0 y1 y2 y3 y4 y5 y6 y7 y8 y9 y10 y11)) ∧ (∀ y0 y1 y2 y3 y4 y5 y6 y7 y8 y9 y10 y11 y12, LeO (qf.j1 k y0 y1 y2 y3 y4 y5 y6 y7 y8 y9 y10 y11 y12) (qf.j1 (k + 1) y0 y1 y2 y3 y4 y5 y6 y7 y8 y9 y10 y11 y12)) ∧ (∀ y0 y1 y2 y3 y4 y5 y6 y7 y8 y9 y10 y11 y12 y13, LeO (qf.j2 k y0 y1 y2 y3 y4 y5 y6 y7 y8 y9 y10 y11 y12 y13) (qf.j2 (k + 1) y0 y1 y2 y3 y4 y5 y6 y7 y8 y9 y10 y11 y12 y13)) ∧ (∀ y0 y1 y2 y3 y4 y5 y6 y7 y8 y9 y10 y11 y12, LeO (qf.j3 k y0 y1 y2 y3 y4 y5 y6 y7 y8 y9 y10 y11 y12) (qf.j3 (k + 1) y0 y1 y2 y3 y4 y5 y6 y7 y8 y9 y10 y11 y12)) ∧ (∀ y0 y1 y2 y3 y4 y5 y6 y7 y8 y9 y10 y11, LeO (qf.j4 k y0 y1 y2 y3 y4 y5 y6 y7 y8 y9 y10 y11) (qf.j4 (k + 1) y0 y1 y2 y3 y4 y5 y6 y7 y8 y9 y10 y11)) ∧ (∀ y0 y1 y2 y3 y4 y5 y6 y7 y8 y9 y10 y11 y12, LeO (qf.j5 k y0 y1 y2 y3 y4 y5 y6 y7 y8 y9 y10 y11 y12) (qf.j5 (k + 1) y0 y1 y2 y3 y4 y5 y6 y7 y8 y9 y10 y11 y12)) ∧ (∀ y0 y1 y2 y3 y4 y5 y6 y7 y8 y9 y10 y11 y12 y13, LeO (qf.j6 k y0 y1 y2 y3 y4 y5 y6 y7 y8 y9 y10 y11 y12 y13) (qf.j6 (k + 1) y0 y1 y2 y3 y4 y5 y6 y7 y8 y9 y10 y11 y12 y13)) ∧ (∀ y0 y1 y2 y3 y4 y5 y6 y7 y8 y9 y10 y11 y12, LeO (qf.j7 k y0 y1 y2 y3 y4 y5 y6 y7 y8 y9 y10 y11 y12) (qf.j7 (k + 1) y0 y1 y2 y3 y4 y5 y6 y7 y8 y9 y10 y11 y12)) ∧ (∀ y0 y1 y2 y3 y4 y5 y6 y7 y8 y9 y10 y11 y12, LeO (qf.j8 k y0 y1 y2 y3 y4 y5 y6 y7 y8 y9 y10 y11 y12) (qf.j8 (k + 1) y0 y1 y2 y3 y4 y5 y6 y7 y8 y9 y10 y11 y12)) ∧ (∀ y0 y1 y2 y3 y4 y5 y6 y7 y8 y9 y10 y11 y12, LeO (qf.l0 k y0 y1 y2 y3 y4 y5 y6 y7 y8 y9 y10 y11 y12) (qf.l0 (k + 1) y0 y1 y2 y3 y4 y5 y6 y7 y8 y9 y10 y11 y12)) ∧ (∀ y0 y1 y2 y3 y4 y5 y6 y7 y8 y9 y10 y11 y12, LeO (qf.l1 k y0 y1 y2 y3 y4 y5 y6 y7 y8 y9 y10 y11 y12) (qf.l1 (k + 1) y0 y1 y2 y3 y4 y5 y6 y7 y8 y9 y10 y11 y12))
 | 0 => ⟨fun _ _ _ _ _ _ _ _ _ _ _ r h => by simp [qf.f] at h, fun _ _ _ _ _ _ _ _ _ _ _ _ r h => by simp [qf.j0] at h, fun _ _ _ _ _ _ _ _ _ _ _ _ _ r h => by simp [qf.j1] at h, fun _ _ _ _ _ _ _ _ _ _ _ _ _ _ r h => by simp [qf.j2] at h, fun _ _ _ _ _ _ _ _ _ _ _ _ _ r h => by simp [qf.j3] at h, fun _ _ _ _ _ _ _ _ _ _ _ _ r h => by simp [qf.j4] at h, fun _ _ _ _ _ _ _ _ _ _ _ _ _ r h => by simp [qf.j5] at h, fun _ _ _ _ _ _ _ _ _ _ _ _ _ _ r h => by simp [qf.j6] at h, fun _ _ _ _ _ _ _ _ _ _ _ _ _ r h => by simp [qf.j7] at h, fun _ _ _ _ _ _ _ _ _ _ _ _ _ r h => by simp [qf.j8] at h, fun _ _ _ _ _ _ _ _ _ _ _ _ _ r h => by simp [qf.l0] at h, fun _ _ _ _ _ _ _ _ _ _ _ _ _ r h => by simp [qf.l1] at h⟩
 | k + 1 => by
  obtain ⟨ih0, ih1, ih2, ih3, ih4, ih5, ih6, ih7, ih8, ih9, ih10, ih11⟩ := qf.qch k
  refine ⟨?_, ?_, ?_, ?_, ?_, ?_, ?_, ?_, ?_, ?_, ?_, ?_⟩
  ·intro y0 y1 y2 y3 y4 y5 y6 y7 y8 y9 y10
   unfold qf.f
   repeat' first
   | (with_reducible exact ih0 _ _ _ _ _ _ _ _ _ _ _)
   | (with_reducible exact ih1 _ _ _ _ _ _ _ _ _ _ _ _)
   | (with_reducible exact ih2 _ _ _ _ _ _ _ _ _ _ _ _ _)
   | (with_reducible exact ih3 _ _ _ _ _ _ _ _ _ _ _ _ _ _)
   | (with_reducible exact ih4 _ _ _ _ _ _ _ _ _ _ _ _ _)
   | (with_reducible exact ih5 _ _ _ _ _ _ _ _ _ _ _ _)
   | (with_reducible exact ih6 _ _ _ _ _ _ _ _ _ _ _ _ _)
   | (with_reducible exact ih7 _ _ _ _ _ _ _ _ _ _ _ _ _ _)
   | (with_reducible exact ih8 _ _ _ _ _ _ _ _ _ _ _ _ _)
   | (with_reducible exact ih9 _ _ _ _ _ _ _ _ _ _ _ _ _)
   | (with_reducible exact ih10 _ _ _ _ _ _ _ _ _ _ _ _ _)
   | (with_reducible exact ih11 _ _ _ _ _ _ _ _ _ _ _ _ _)
   | (with_reducible exact qbg.mono _ _)
   | (with_reducible exact qbd.mono _ _ _ _ _)
   | (with_reducible exact qbm.mono _ _ _ _ _)
   | (with_reducible exact LeO.refl _)
   | (with_reducible exact LeO.none _)
   | (with_reducible refine LeO.ite ?_ ?_)
   | (with_reducible refine LeO.bind ?_ (fun _ => ?_))
   | exact ih0 _ _ _ _ _ _ _ _ _ _ _
   | exact ih1 _ _ _ _ _ _ _ _ _ _ _ _
   | exact ih2 _ _ _ _ _ _ _ _ _ _ _ _ _
   | exact ih3 _ _ _ _ _ _ _ _ _ _ _ _ _ _
   | exact ih4 _ _ _ _ _ _ _ _ _ _ _ _ _
   | exact ih5 _ _ _ _ _ _ _ _ _ _ _ _
   | exact ih6 _ _ _ _ _ _ _ _ _ _ _ _ _
   | exact ih7 _ _ _ _ _ _ _ _ _ _ _ _ _ _
   | exact ih8 _ _ _ _ _ _ _ _ _ _ _ _ _
   | exact ih9 _ _ _ _ _ _ _ _ _ _ _ _ _
   | exact ih10 _ _ _ _ _ _ _ _ _ _ _ _ _
   | exact ih11 _ _ _ _ _ _ _ _ _ _ _ _ _
   | exact qbg.mono _ _
   | exact qbd.mono _ _ _ _ _
   | exact qbm.mono _ _ _ _ _
   | exact LeO.none _
   | refine LeO.ite ?_ ?_
   | refine LeO.bind ?_ (fun _ => ?_)
  ·intro y0 y1 y2 y3 y4 y5 y6 y7 y8 y9 y10 y11
   unfold qf.j0
   repeat' first
   | (with_reducible exact ih0 _ _ _ _ _ _ _ _ _ _ _)
   | (with_reducible exact ih1 _ _ _ _ _ _ _ _ _ _ _ _)
   | (with_reducible exact ih2 _ _ _ _ _ _ _ _ _ _ _ _ _)
   | (with_reducible exact ih3 _ _ _ _ _ _ _ _ _ _ _ _ _ _)
   | (with_reducible exact ih4 _ _ _ _ _ _ _ _ _ _ _ _ _)
   | (with_reducible exact ih5 _ _ _ _ _ _ _ _ _ _ _ _)
   | (with_reducible exact ih6 _ _ _ _ _ _ _ _ _ _ _ _ _)
   | (with_reducible exact ih7 _ _ _ _ _ _ _ _ _ _ _ _ _ _)
   | (with_reducible exact ih8 _ _ _ _ _ _ _ _ _ _ _ _ _)
   | (with_reducible exact ih9 _ _ _ _ _ _ _ _ _ _ _ _ _)
   | (with_reducible exact ih10 _ _ _ _ _ _ _ _ _ _ _ _ _)
   | (with_reducible exact ih11 _ _ _ _ _ _ _ _ _ _ _ _ _)
   | (with_reducible exact qbg.mono _ _)
   | (with_reducible exact qbd.mono _ _ _ _ _)
   | (with_reducible exact qbm.mono _ _ _ _ _)
   | (with_reducible exact LeO.refl _)
   | (with_reducible exact LeO.none _)
   | (with_reducible refine LeO.ite ?_ ?_)
   | (with_reducible refine LeO.bind ?_ (fun _ => ?_))
   | exact ih0 _ _ _ _ _ _ _ _ _ _ _
   | exact ih1 _ _ _ _ _ _ _ _ _ _ _ _
   | exact ih2 _ _ _ _ _ _ _ _ _ _ _ _ _
   | exact ih3 _ _ _ _ _ _ _ _ _ _ _ _ _ _
   | exact ih4 _ _ _ _ _ _ _ _ _ _ _ _ _
   | exact ih5 _ _ _ _ _ _ _ _ _ _ _ _
   | exact ih6 _ _ _ _ _ _ _ _ _ _ _ _ _
   | exact ih7 _ _ _ _ _ _ _ _ _ _ _ _ _ _
   | exact ih8 _ _ _ _ _ _ _ _ _ _ _ _ _
   | exact ih9 _ _ _ _ _ _ _ _ _ _ _ _ _
   | exact ih10 _ _ _ _ _ _ _ _ _ _ _ _ _
   | exact ih11 _ _ _ _ _ _ _ _ _ _ _ _ _
   | exact qbg.mono _ _
   | exact qbd.mono _ _ _ _ _
   | exact qbm.mono _ _ _ _ _
   | exact LeO.none _
   | refine LeO.ite ?_ ?_
   | refine LeO.bind ?_ (fun _ => ?_)
  ·intro y0 y1 y2 y3 y4 y5 y6 y7 y8 y9 y10 y11 y12
   unfold qf.j1
   repeat' first
   | (with_reducible exact ih0 _ _ _ _ _ _ _ _ _ _ _)
   | (with_reducible exact ih1 _ _ _ _ _ _ _ _ _ _ _ _)
   | (with_reducible exact ih2 _ _ _ _ _ _ _ _ _ _ _ _ _)
   | (with_reducible exact ih3 _ _ _ _ _ _ _ _ _ _ _ _ _ _)
   | (with_reducible exact ih4 _ _ _ _ _ _ _ _ _ _ _ _ _)
   | (with_reducible exact ih5 _ _ _ _ _ _ _ _ _ _ _ _)
   | (with_reducible exact ih6 _ _ _ _ _ _ _ _ _ _ _ _ _)
   | (with_reducible exact ih7 _ _ _ _ _ _ _ _ _ _ _ _ _ _)
   | (with_reducible exact ih8 _ _ _ _ _ _ _ _ _ _ _ _ _)
   | (with_reducible exact ih9 _ _ _ _ _ _ _ _ _ _ _ _ _)
   | (with_reducible exact ih10 _ _ _ _ _ _ _ _ _ _ _ _ _)
   | (with_reducible exact ih11 _ _ _ _ _ _ _ _ _ _ _ _ _)
   | (with_reducible exact qbg.mono _ _)
   | (with_reducible exact qbd.mono _ _ _ _ _)
   | (with_reducible exact qbm.mono _ _ _ _ _)
   | (with_reducible exact LeO.refl _)
   | (with_reducible exact LeO.none _)
   | (with_reducible refine LeO.ite ?_ ?_)
   | (with_reducible refine LeO.bind ?_ (fun _ => ?_))
   | exact ih0 _ _ _ _ _ _ _ _ _ _ _
   | exact ih1 _ _ _ _ _ _ _ _ _ _ _ _
   | exact ih2 _ _ _ _ _ _ _ _ _ _ _ _ _
   | exact ih3 _ _ _ _ _ _ _ _ _ _ _ _ _ _
   | exact ih4 _ _ _ _ _ _ _ _ _ _ _ _ _
   | exact ih5 _ _ _ _ _ _ _ _ _ _ _ _
   | exact ih6 _ _ _ _ _ _ _ _ _ _ _ _ _
   | exact ih7 _ _ _ _ _ _ _ _ _ _ _ _ _ _
   | exact ih8 _ _ _ _ _ _ _ _ _ _ _ _ _
   | exact ih9 _ _ _ _ _ _ _ _ _ _ _ _ _
   | exact ih10 _ _ _ _ _ _ _ _ _ _ _ _ _
   | exact ih11 _ _ _ _ _ _ _ _ _ _ _ _ _
   | exact qbg.mono _ _
   | exact qbd.mono _ _ _ _ _
   | exact qbm.mono _ _ _ _ _
   | exact LeO.none _
   | refine LeO.ite ?_ ?_
   | refine LeO.bind ?_ (fun _ => ?_)
  ·intro y0 y1 y2 y3 y4 y5 y6 y7 y8 y9 y10 y11 y12 y13
   unfold qf.j2
   repeat' first
   | (with_reducible exact ih0 _ _ _ _ _ _ _ _ _ _ _)
   | (with_reducible exact ih1 _ _ _ _ _ _ _ _ _ _ _ _)
   | (with_reducible exact ih2 _ _ _ _ _ _ _ _ _ _ _ _ _)
   | (with_reducible exact ih3 _ _ _ _ _ _ _ _ _ _ _ _ _ _)
   | (with_reducible exact ih4 _ _ _ _ _ _ _ _ _ _ _ _ _)
   | (with_reducible exact ih5 _ _ _ _ _ _ _ _ _ _ _ _)
   | (with_reducible exact ih6 _ _ _ _ _ _ _ _ _ _ _ _ _)
   | (with_reducible exact ih7 _ _ _ _ _ _ _ _ _ _ _ _ _ _)
   | (with_reducible exact ih8 _ _ _ _ _ _ _ _ _ _ _ _ _)
   | (with_reducible exact ih9 _ _ _ _ _ _ _ _ _ _ _ _ _)
   | (with_reducible exact ih10 _ _ _ _ _ _ _ _ _ _ _ _ _)
   | (with_reducible exact ih11 _ _ _ _ _ _ _ _ _ _ _ _ _)
   | (with_reducible exact qbg.mono _ _)
   | (with_reducible exact qbd.mono _ _ _ _ _)
   | (with_reducible exact qbm.mono _ _ _ _ _)
   | (with_reducible exact LeO.refl _)
   | (with_reducible exact LeO.none _)
   | (with_reducible refine LeO.ite ?_ ?_)
   | (with_reducible refine LeO.bind ?_ (fun _ => ?_))
   | exact ih0 _ _ _ _ _ _ _ _ _ _ _
   | exact ih1 _ _ _ _ _ _ _ _ _ _ _ _
   | exact ih2 _ _ _ _ _ _ _ _ _ _ _ _ _
   | exact ih3 _ _ _ _ _ _ _ _ _ _ _ _ _ _
   | exact ih4 _ _ _ _ _ _ _ _ _ _ _ _ _
   | exact ih5 _ _ _ _ _ _ _ _ _ _ _ _
   | exact ih6 _ _ _ _ _ _ _ _ _ _ _ _ _
   | exact ih7 _ _ _ _ _ _ _ _ _ _ _ _ _ _
   | exact ih8 _ _ _ _ _ _ _ _ _ _ _ _ _
   | exact ih9 _ _ _ _ _ _ _ _ _ _ _ _ _
   | exact ih10 _ _ _ _ _ _ _ _ _ _ _ _ _
   | exact ih11 _ _ _ _ _ _ _ _ _ _ _ _ _
   | exact qbg.mono _ _
   | exact qbd.mono _ _ _ _ _
   | exact qbm.mono _ _ _ _ _
   | exact LeO.none _
   | refine LeO.ite ?_ ?_
   | refine LeO.bind ?_ (fun _ => ?_)
  ·intro y0 y1 y2 y3 y4 y5 y6 y7 y8 y9 y10 y11 y12
   unfold qf.j3
   repeat' first
   | (with_reducible exact ih0 _ _ _ _ _ _ _ _ _ _ _)
   | (with_reducible exact ih1 _ _ _ _ _ _ _ _ _ _ _ _)
   | (with_reducible exact ih2 _ _ _ _ _ _ _ _ _ _ _ _ _)
   | (with_reducible exact ih3 _ _ _ _ _ _ _ _ _ _ _ _ _ _)
   | (with_reducible exact ih4 _ _ _ _ _ _ _ _ _ _ _ _ _)
   | (with_reducible exact ih5 _ _ _ _ _ _ _ _ _ _ _ _)
   | (with_reducible exact ih6 _ _ _ _ _ _ _ _ _ _ _ _ _)
   | (with_reducible exact ih7 _ _ _ _ _ _ _ _ _ _ _ _ _ _)
   | (with_reducible exact ih8 _ _ _ _ _ _ _ _ _ _ _ _ _)
   | (with_reducible exact ih9 _ _ _ _ _ _ _ _ _ _ _ _ _)
   | (with_reducible exact ih10 _ _ _ _ _ _ _ _ _ _ _ _ _)
   | (with_reducible exact ih11 _ _ _ _ _ _ _ _ _ _ _ _ _)
   | (with_reducible exact qbg.mono _ _)
   | (with_reducible exact qbd.mono _ _ _ _ _)
   | (with_reducible exact qbm.mono _ _ _ _ _)
   | (with_reducible exact LeO.refl _)
   | (with_reducible exact LeO.none _)
   | (with_reducible refine LeO.ite ?_ ?_)
   | (with_reducible refine LeO.bind ?_ (fun _ => ?_))
   | exact ih0 _ _ _ _ _ _ _ _ _ _ _
   | exact ih1 _ _ _ _ _ _ _ _ _ _ _ _
   | exact ih2 _ _ _ _ _ _ _ _ _ _ _ _ _
   | exact ih3 _ _ _ _ _ _ _ _ _ _ _ _ _ _
   | exact ih4 _ _ _ _ _ _ _ _ _ _ _ _ _
   | exact ih5 _ _ _ _ _ _ _ _ _ _ _ _
   | exact ih6 _ _ _ _ _ _ _ _ _ _ _ _ _
   | exact ih7 _ _ _ _ _ _ _ _ _ _ _ _ _ _
   | exact ih8 _ _ _ _ _ _ _ _ _ _ _ _ _
   | exact ih9 _ _ _ _ _ _ _ _ _ _ _ _ _
   | exact ih10 _ _ _ _ _ _ _ _ _ _ _ _ _
   | exact ih11 _ _ _ _ _ _ _ _ _ _ _ _ _
   | exact qbg.mono _ _
   | exact qbd.mono _ _ _ _ _
   | exact qbm.mono _ _ _ _ _
   | exact LeO.none _
   | refine LeO.ite ?_ ?_
   | refine LeO.bind ?_ (fun _ => ?_)
  ·intro y0 y1 y2 y3 y4 y5 y6 y7 y8 y9 y10 y11
   unfold qf.j4
   repeat' first
   | (with_reducible exact ih0 _ _ _ _ _ _ _ _ _ _ _)
   | (with_reducible exact ih1 _ _ _ _ _ _ _ _ _ _ _ _)
   | (with_reducible exact ih2 _ _ _ _ _ _ _ _ _ _ _ _ _)
   | (with_reducible exact ih3 _ _ _ _ _ _ _ _ _ _ _ _ _ _)
   | (with_reducible exact ih4 _ _ _ _ _ _ _ _ _ _ _ _ _)
   | (with_reducible exact ih5 _ _ _ _ _ _ _ _ _ _ _ _)
   | (with_reducible exact ih6 _ _ _ _ _ _ _ _ _ _ _ _ _)
   | (with_reducible exact ih7 _ _ _ _ _ _ _ _ _ _ _ _ _ _)
   | (with_reducible exact ih8 _ _ _ _ _ _ _ _ _ _ _ _ _)
   | (with_reducible exact ih9 _ _ _ _ _ _ _ _ _ _ _ _ _)
   | (with_reducible exact ih10 _ _ _ _ _ _ _ _ _ _ _ _ _)
   | (with_reducible exact ih11 _ _ _ _ _ _ _ _ _ _ _ _ _)
   | (with_reducible exact qbg.mono _ _)
   | (with_reducible exact qbd.mono _ _ _ _ _)
   | (with_reducible exact qbm.mono _ _ _ _ _)
   | (with_reducible exact LeO.refl _)
   | (with_reducible exact LeO.none _)
   | (with_reducible refine LeO.ite ?_ ?_)
   | (with_reducible refine LeO.bind ?_ (fun _ => ?_))
   | exact ih0 _ _ _ _ _ _ _ _ _ _ _
   | exact ih1 _ _ _ _ _ _ _ _ _ _ _ _
   | exact ih2 _ _ _ _ _ _ _ _ _ _ _ _ _
   | exact ih3 _ _ _ _ _ _ _ _ _ _ _ _ _ _
   | exact ih4 _ _ _ _ _ _ _ _ _ _ _ _ _
   | exact ih5 _ _ _ _ _ _ _ _ _ _ _ _
   | exact ih6 _ _ _ _ _ _ _ _ _ _ _ _ _
   | exact ih7 _ _ _ _ _ _ _ _ _ _ _ _ _ _
   | exact ih8 _ _ _ _ _ _ _ _ _ _ _ _ _
   | exact ih9 _ _ _ _ _ _ _ _ _ _ _ _ _
   | exact ih10 _ _ _ _ _ _ _ _ _ _ _ _ _
   | exact ih11 _ _ _ _ _ _ _ _ _ _ _ _ _
   | exact qbg.mono _ _
   | exact qbd.mono _ _ _ _ _
   | exact qbm.mono _ _ _ _ _
   | exact LeO.none _
   | refine LeO.ite ?_ ?_
   | refine LeO.bind ?_ (fun _ => ?_)
  ·intro y0 y1 y2 y3 y4 y5 y6 y7 y8 y9 y10 y11 y12
   unfold qf.j5
   repeat' first
   | (with_reducible exact ih0 _ _ _ _ _ _ _ _ _ _ _)
   | (with_reducible exact ih1 _ _ _ _ _ _ _ _ _ _ _ _)
   | (with_reducible exact ih2 _ _ _ _ _ _ _ _ _ _ _ _ _)
   | (with_reducible exact ih3 _ _ _ _ _ _ _ _ _ _ _ _ _ _)
   | (with_reducible exact ih4 _ _ _ _ _ _ _ _ _ _ _ _ _)
   | (with_reducible exact ih5 _ _ _ _ _ _ _ _ _ _ _ _)
   | (with_reducible exact ih6 _ _ _ _ _ _ _ _ _ _ _ _ _)
   | (with_reducible exact ih7 _ _ _ _ _ _ _ _ _ _ _ _ _ _)
   | (with_reducible exact ih8 _ _ _ _ _ _ _ _ _ _ _ _ _)
   | (with_reducible exact ih9 _ _ _ _ _ _ _ _ _ _ _ _ _)
   | (with_reducible exact ih10 _ _ _ _ _ _ _ _ _ _ _ _ _)
   | (with_reducible exact ih11 _ _ _ _ _ _ _ _ _ _ _ _ _)
   | (with_reducible exact qbg.mono _ _)
   | (with_reducible exact qbd.mono _ _ _ _ _)
   | (with_reducible exact qbm.mono _ _ _ _ _)
   | (with_reducible exact LeO.refl _)
   | (with_reducible exact LeO.none _)
   | (with_reducible refine LeO.ite ?_ ?_)
   | (with_reducible refine LeO.bind ?_ (fun _ => ?_))
   | exact ih0 _ _ _ _ _ _ _ _ _ _ _
   | exact ih1 _ _ _ _ _ _ _ _ _ _ _ _
   | exact ih2 _ _ _ _ _ _ _ _ _ _ _ _ _
   | exact ih3 _ _ _ _ _ _ _ _ _ _ _ _ _ _
   | exact ih4 _ _ _ _ _ _ _ _ _ _ _ _ _
   | exact ih5 _ _ _ _ _ _ _ _ _ _ _ _
   | exact ih6 _ _ _ _ _ _ _ _ _ _ _ _ _
   | exact ih7 _ _ _ _ _ _ _ _ _ _ _ _ _ _
   | exact ih8 _ _ _ _ _ _ _ _ _ _ _ _ _
   | exact ih9 _ _ _ _ _ _ _ _ _ _ _ _ _
   | exact ih10 _ _ _ _ _ _ _ _ _ _ _ _ _
   | exact ih11 _ _ _ _ _ _ _ _ _ _ _ _ _
   | exact qbg.mono _ _
   | exact qbd.mono _ _ _ _ _
   | exact qbm.mono _ _ _ _ _
   | exact LeO.none _
   | refine LeO.ite ?_ ?_
   | refine LeO.bind ?_ (fun _ => ?_)
  ·intro y0 y1 y2 y3 y4 y5 y6 y7 y8 y9 y10 y11 y12 y13
   unfold qf.j6
   repeat' first
   | (with_reducible exact ih0 _ _ _ _ _ _ _ _ _ _ _)
   | (with_reducible exact ih1 _ _ _ _ _ _ _ _ _ _ _ _)
   | (with_reducible exact ih2 _ _ _ _ _ _ _ _ _ _ _ _ _)
   | (with_reducible exact ih3 _ _ _ _ _ _ _ _ _ _ _ _ _ _)
   | (with_reducible exact ih4 _ _ _ _ _ _ _ _ _ _ _ _ _)
   | (with_reducible exact ih5 _ _ _ _ _ _ _ _ _ _ _ _)
   | (with_reducible exact ih6 _ _ _ _ _ _ _ _ _ _ _ _ _)
   | (with_reducible exact ih7 _ _ _ _ _ _ _ _ _ _ _ _ _ _)
   | (with_reducible exact ih8 _ _ _ _ _ _ _ _ _ _ _ _ _)
   | (with_reducible exact ih9 _ _ _ _ _ _ _ _ _ _ _ _ _)
   | (with_reducible exact ih10 _ _ _ _ _ _ _ _ _ _ _ _ _)
   | (with_reducible exact ih11 _ _ _ _ _ _ _ _ _ _ _ _ _)
   | (with_reducible exact qbg.mono _ _)
   | (with_reducible exact qbd.mono _ _ _ _ _)
   | (with_reducible exact qbm.mono _ _ _ _ _)
   | (with_reducible exact LeO.refl _)
   | (with_reducible exact LeO.none _)
   | (with_reducible refine LeO.ite ?_ ?_)
   | (with_reducible refine LeO.bind ?_ (fun _ => ?_))
   | exact ih0 _ _ _ _ _ _ _ _ _ _ _
   | exact ih1 _ _ _ _ _ _ _ _ _ _ _ _
   | exact ih2 _ _ _ _ _ _ _ _ _ _ _ _ _
   | exact ih3 _ _ _ _ _ _ _ _ _ _ _ _ _ _
   | exact ih4 _ _ _ _ _ _ _ _ _ _ _ _ _
   | exact ih5 _ _ _ _ _ _ _ _ _ _ _ _
   | exact ih6 _ _ _ _ _ _ _ _ _ _ _ _ _
   | exact ih7 _ _ _ _ _ _ _ _ _ _ _ _ _ _
   | exact ih8 _ _ _ _ _ _ _ _ _ _ _ _ _
   | exact ih9 _ _ _ _ _ _ _ _ _ _ _ _ _
   | exact ih10 _ _ _ _ _ _ _ _ _ _ _ _ _
   | exact ih11 _ _ _ _ _ _ _ _ _ _ _ _ _
   | exact qbg.mono _ _
   | exact qbd.mono _ _ _ _ _
   | exact qbm.mono _ _ _ _ _
   | exact LeO.none _
   | refine LeO.ite ?_ ?_
   | refine LeO.bind ?_ (fun _ => ?_)
  ·intro y0 y1 y2 y3 y4 y5 y6 y7 y8 y9 y10 y11 y12
   unfold qf.j7
   repeat' first
   | (with_reducible exact ih0 _ _ _ _ _ _ _ _ _ _ _)
   | (with_reducible exact ih1 _ _ _ _ _ _ _ _ _ _ _ _)
   | (with_reducible exact ih2 _ _ _ _ _ _ _ _ _ _ _ _ _)
   | (with_reducible exact ih3 _ _ _ _ _ _ _ _ _ _ _ _ _ _)
   | (with_reducible exact ih4 _ _ _ _ _ _ _ _ _ _ _ _ _)
   | (with_reducible exact ih5 _ _ _ _ _ _ _ _ _ _ _ _)
   | (with_reducible exact ih6 _ _ _ _ _ _ _ _ _ _ _ _ _)
   | (with_reducible exact ih7 _ _ _ _ _ _ _ _ _ _ _ _ _ _)
   | (with_reducible exact ih8 _ _ _ _ _ _ _ _ _ _ _ _ _)
   | (with_reducible exact ih9 _ _ _ _ _ _ _ _ _ _ _ _ _)
   | (with_reducible exact ih10 _ _ _ _ _ _ _ _ _ _ _ _ _)
   | (with_reducible exact ih11 _ _ _ _ _ _ _ _ _ _ _ _ _)
   | (with_reducible exact qbg.mono _ _)
   | (with_reducible exact qbd.mono _ _ _ _ _)
   | (with_reducible exact qbm.mono _ _ _ _ _)
   | (with_reducible exact LeO.refl _)
   | (with_reducible exact LeO.none _)
   | (with_reducible refine LeO.ite ?_ ?_)
   | (with_reducible refine LeO.bind ?_ (fun _ => ?_))
   | exact ih0 _ _ _ _ _ _ _ _ _ _ _
   | exact ih1 _ _ _ _ _ _ _ _ _ _ _ _
   | exact ih2 _ _ _ _ _ _ _ _ _ _ _ _ _
   | exact ih3 _ _ _ _ _ _ _ _ _ _ _ _ _ _
   | exact ih4 _ _ _ _ _ _ _ _ _ _ _ _ _
   | exact ih5 _ _ _ _ _ _ _ _ _ _ _ _
   | exact ih6 _ _ _ _ _ _ _ _ _ _ _ _ _
   | exact ih7 _ _ _ _ _ _ _ _ _ _ _ _ _ _
   | exact ih8 _ _ _ _ _ _ _ _ _ _ _ _ _
   | exact ih9 _ _ _ _ _ _ _ _ _ _ _ _ _
   | exact ih10 _ _ _ _ _ _ _ _ _ _ _ _ _
   | exact ih11 _ _ _ _ _ _ _ _ _ _ _ _ _
   | exact qbg.mono _ _
   | exact qbd.mono _ _ _ _ _
   | exact qbm.mono _ _ _ _ _
   | exact LeO.none _
   | refine LeO.ite ?_ ?_
   | refine LeO.bind ?_ (fun _ => ?_)
  ·intro y0 y1 y2 y3 y4 y5 y6 y7 y8 y9 y10 y11 y12
   unfold qf.j8
   repeat' first
   | (with_reducible exact ih0 _ _ _ _ _ _ _ _ _ _ _)
   | (with_reducible exact ih1 _ _ _ _ _ _ _ _ _ _ _ _)
   | (with_reducible exact ih2 _ _ _ _ _ _ _ _ _ _ _ _ _)
   | (with_reducible exact ih3 _ _ _ _ _ _ _ _ _ _ _ _ _ _)
   | (with_reducible exact ih4 _ _ _ _ _ _ _ _ _ _ _ _ _)
   | (with_reducible exact ih5 _ _ _ _ _ _ _ _ _ _ _ _)
   | (with_reducible exact ih6 _ _ _ _ _ _ _ _ _ _ _ _ _)
   | (with_reducible exact ih7 _ _ _ _ _ _ _ _ _ _ _ _ _ _)
   | (with_reducible exact ih8 _ _ _ _ _ _ _ _ _ _ _ _ _)
   | (with_reducible exact ih9 _ _ _ _ _ _ _ _ _ _ _ _ _)
   | (with_reducible exact ih10 _ _ _ _ _ _ _ _ _ _ _ _ _)
   | (with_reducible exact ih11 _ _ _ _ _ _ _ _ _ _ _ _ _)
   | (with_reducible exact qbg.mono _ _)
   | (with_reducible exact qbd.mono _ _ _ _ _)
   | (with_reducible exact qbm.mono _ _ _ _ _)
   | (with_reducible exact LeO.refl _)
   | (with_reducible exact LeO.none _)
   | (with_reducible refine LeO.ite ?_ ?_)
   | (with_reducible refine LeO.bind ?_ (fun _ => ?_))
   | exact ih0 _ _ _ _ _ _ _ _ _ _ _
   | exact ih1 _ _ _ _ _ _ _ _ _ _ _ _
   | exact ih2 _ _ _ _ _ _ _ _ _ _ _ _ _
   | exact ih3 _ _ _ _ _ _ _ _ _ _ _ _ _ _
   | exact ih4 _ _ _ _ _ _ _ _ _ _ _ _ _
   | exact ih5 _ _ _ _ _ _ _ _ _ _ _ _
   | exact ih6 _ _ _ _ _ _ _ _ _ _ _ _ _
   | exact ih7 _ _ _ _ _ _ _ _ _ _ _ _ _ _
   | exact ih8 _ _ _ _ _ _ _ _ _ _ _ _ _
   | exact ih9 _ _ _ _ _ _ _ _ _ _ _ _ _
   | exact ih10 _ _ _ _ _ _ _ _ _ _ _ _ _
   | exact ih11 _ _ _ _ _ _ _ _ _ _ _ _ _
   | exact qbg.mono _ _
   | exact qbd.mono _ _ _ _ _
   | exact qbm.mono _ _ _ _ _
   | exact LeO.none _
   | refine LeO.ite ?_ ?_
   | refine LeO.bind ?_ (fun _ => ?_)
  ·intro y0 y1 y2 y3 y4 y5 y6 y7 y8 y9 y10 y11 y12
   unfold qf.l0
   repeat' first
   | (with_reducible exact ih0 _ _ _ _ _ _ _ _ _ _ _)
   | (with_reducible exact ih1 _ _ _ _ _ _ _ _ _ _ _ _)
   | (with_reducible exact ih2 _ _ _ _ _ _ _ _ _ _ _ _ _)
   | (with_reducible exact ih3 _ _ _ _ _ _ _ _ _ _ _ _ _ _)
   | (with_reducible exact ih4 _ _ _ _ _ _ _ _ _ _ _ _ _)
   | (with_reducible exact ih5 _ _ _ _ _ _ _ _ _ _ _ _)
   | (with_reducible exact ih6 _ _ _ _ _ _ _ _ _ _ _ _ _)
   | (with_reducible exact ih7 _ _ _ _ _ _ _ _ _ _ _ _ _ _)
   | (with_reducible exact ih8 _ _ _ _ _ _ _ _ _ _ _ _ _)
   | (with_reducible exact ih9 _ _ _ _ _ _ _ _ _ _ _ _ _)
   | (with_reducible exact ih10 _ _ _ _ _ _ _ _ _ _ _ _ _)
   | (with_reducible exact ih11 _ _ _ _ _ _ _ _ _ _ _ _ _)
   | (with_reducible exact qbg.mono _ _)
   | (with_reducible exact qbd.mono _ _ _ _ _)
   | (with_reducible exact qbm.mono _ _ _ _ _)
   | (with_reducible exact LeO.refl _)
   | (with_reducible exact LeO.none _)
   | (with_reducible refine LeO.ite ?_ ?_)
   | (with_reducible refine LeO.bind ?_ (fun _ => ?_))
   | exact ih0 _ _ _ _ _ _ _ _ _ _ _
   | exact ih1 _ _ _ _ _ _ _ _ _ _ _ _
   | exact ih2 _ _ _ _ _ _ _ _ _ _ _ _ _
   | exact ih3 _ _ _ _ _ _ _ _ _ _ _ _ _ _
   | exact ih4 _ _ _ _ _ _ _ _ _ _ _ _ _
   | exact ih5 _ _ _ _ _ _ _ _ _ _ _ _
   | exact ih6 _ _ _ _ _ _ _ _ _ _ _ _ _
   | exact ih7 _ _ _ _ _ _ _ _ _ _ _ _ _ _
   | exact ih8 _ _ _ _ _ _ _ _ _ _ _ _ _
   | exact ih9 _ _ _ _ _ _ _ _ _ _ _ _ _
   | exact ih10 _ _ _ _ _ _ _ _ _ _ _ _ _
   | exact ih11 _ _ _ _ _ _ _ _ _ _ _ _ _
   | exact qbg.mono _ _
   | exact qbd.mono _ _ _ _ _
   | exact qbm.mono _ _ _ _ _
   | exact LeO.none _
   | refine LeO.ite ?_ ?_
   | refine LeO.bind ?_ (fun _ => ?_)
  ·intro y0 y1 y2 y3 y4 y5 y6 y7 y8 y9 y10 y11 y12
   unfold qf.l1
   repeat' first
   | (with_reducible exact ih0 _ _ _ _ _ _ _ _ _ _ _)
   | (with_reducible exact ih1 _ _ _ _ _ _ _ _ _ _ _ _)
   | (with_reducible exact ih2 _ _ _ _ _ _ _ _ _ _ _ _ _)
   | (with_reducible exact ih3 _ _ _ _ _ _ _ _ _ _ _ _ _ _)
   | (with_reducible exact ih4 _ _ _ _ _ _ _ _ _ _ _ _ _)
   | (with_reducible exact ih5 _ _ _ _ _ _ _ _ _ _ _ _)
   | (with_reducible exact ih6 _ _ _ _ _ _ _ _ _ _ _ _ _)
   | (with_reducible exact ih7 _ _ _ _ _ _ _ _ _ _ _ _ _ _)
   | (with_reducible exact ih8 _ _ _ _ _ _ _ _ _ _ _ _ _)
   | (with_reducible exact ih9 _ _ _ _ _ _ _ _ _ _ _ _ _)
   | (with_reducible exact ih10 _ _ _ _ _ _ _ _ _ _ _ _ _)
   | (with_reducible exact ih11 _ _ _ _ _ _ _ _ _ _ _ _ _)
   | (with_reducible exact qbg.mono _ _)
   | (with_reducible exact qbd.mono _ _ _ _ _)
   | (with_reducible exact qbm.mono _ _ _ _ _)
   | (with_reducible exact LeO.refl _)
   | (with_reducible exact LeO.none _)
   | (with_reducible refine LeO.ite ?_ ?_)
   | (with_reducible refine LeO.bind ?_ (fun _ => ?_))
   | exact ih0 _ _ _ _ _ _ _ _ _ _ _
   | exact ih1 _ _ _ _ _ _ _ _ _ _ _ _
   | exact ih2 _ _ _ _ _ _ _ _ _ _ _ _ _
   | exact ih3 _ _ _ _ _ _ _ _ _ _ _ _ _ _
   | exact ih4 _ _ _ _ _ _ _ _ _ _ _ _ _
   | exact ih5 _ _ _ _ _ _ _ _ _ _ _ _
   | exact ih6 _ _ _ _ _ _ _ _ _ _ _ _ _
   | exact ih7 _ _ _ _ _ _ _ _ _ _ _ _ _ _
   | exact ih8 _ _ _ _ _ _ _ _ _ _ _ _ _
   | exact ih9 _ _ _ _ _ _ _ _ _ _ _ _ _
   | exact ih10 _ _ _ _ _ _ _ _ _ _ _ _ _
   | exact ih11 _ _ _ _ _ _ _ _ _ _ _ _ _
   | exact qbg.mono _ _
   | exact qbd.mono _ _ _ _ _
   | exact qbm.mono _ _ _ _ _
   | exact LeO.none _
   | refine LeO.ite ?_ ?_
   | refine LeO.bind ?_ (fun _ => ?_)
theorem qf.mono : ∀ a0 a1 a2 a3 a4 a5 a6 a7 a8 a9 a10 k, LeO (qf.f k a0 a1 a2 a3 a4 a5 a6 a7 a8 a9 a10) (qf.f (k + 1) a0 a1 a2 a3 a4 a5 a6 a7 a8 a9 a10) := by
 intro a0 a1 a2 a3 a4 a5 a6 a7 a8 a9 a10 k
 obtain ⟨ih0, ih1, ih2, ih3, ih4, ih5, ih6, ih7, ih8, ih9, ih10, ih11⟩ := qf.qch k
 exact ih0 a0 a1 a2 a3 a4 a5 a6 a7 a8 a9 a10
end Go.Proofs.YtpgkhmdfddejfaaDoor.PV
end
