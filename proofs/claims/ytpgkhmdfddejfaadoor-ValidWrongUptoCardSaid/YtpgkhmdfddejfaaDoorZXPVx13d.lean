import Derived.Test.YtpgkhmdfddejfaaDoorZXPVx0
import Derived.Test.YtpgkhmdfddejfaaDoorZXPVx9
import Derived.Test.YtpgkhmdfddejfaaDoorZXPVx12
section
namespace Go.Proofs.YtpgkhmdfddejfaaDoor.PV
open Go.RowKit Go.Proofs.YtpgkhmdfddejfaaDoorW.PrintWords Go.Proofs.YtpgkhmdfddejfaaDoorW.PrintLast Go.Proofs.YtpgkhmdfddejfaaDoorW.PrintMore
attribute [local go_sem] qcn qcp qdi qdj qb6 qb7 qco qcq   -- for this text's walks alone
set_option linter.unusedVariables false
set_option linter.unusedSimpArgs false
mutual
def qd.j0 : Nat → Int → Bool → Int → Int → Int → ByteArray → Int → Int → ByteArray → List (S27) → List (S30) → List (S27) → Option (Bool)
 | 0, _, _, _, _, _, _, _, _, _, _, _, _ => none
 | k + 1, x1, x28, qao, qaw, qa0, qa9, qa2, qa3, qa4, qa5, qap, qav => if x28 = true then (some false) else (if qao ≤ 4 then (qd.j1 k x1 (qap.length : Int) true qao qaw qa0 qa9 qa2 qa3 qa4 qa5 qap qav) else (qd.j1 k x1 (qap.length : Int) (qao == 11) qao qaw qa0 qa9 qa2 qa3 qa4 qa5 qap qav))
def qd.j1 : Nat → Int → Int → Bool → Int → Int → Int → ByteArray → Int → Int → ByteArray → List (S27) → List (S30) → List (S27) → Option (Bool)
 | 0, _, _, _, _, _, _, _, _, _, _, _, _, _ => none
 | k + 1, x1, x5, x6, qao, qaw, qa0, qa9, qa2, qa3, qa4, qa5, qap, qav => if qao = 5 then (qd.j2 k x1 x5 x6 true qao qaw qa0 qa9 qa2 qa3 qa4 qa5 qap qav) else (qd.j2 k x1 x5 x6 (qao == 6) qao qaw qa0 qa9 qa2 qa3 qa4 qa5 qap qav)
def qd.j2 : Nat → Int → Int → Bool → Bool → Int → Int → Int → ByteArray → Int → Int → ByteArray → List (S27) → List (S30) → List (S27) → Option (Bool)
 | 0, _, _, _, _, _, _, _, _, _, _, _, _, _, _ => none
 | k + 1, x1, x5, x6, x7, qao, qaw, qa0, qa9, qa2, qa3, qa4, qa5, qap, qav => if x6 = true then (if x5 < 1 then (qd.j3 k x1 x5 true qao qaw qa0 qa9 qa2 qa3 qa4 qa5 qap qav) else (if x5 > 16 then (qd.j3 k x1 x5 true qao qaw qa0 qa9 qa2 qa3 qa4 qa5 qap qav) else (if x7 = true then (if x5 = 1 then (qd.j3 k x1 x5 false qao qaw qa0 qa9 qa2 qa3 qa4 qa5 qap qav) else (qd.j3 k x1 x5 true qao qaw qa0 qa9 qa2 qa3 qa4 qa5 qap qav)) else (qd.j3 k x1 x5 false qao qaw qa0 qa9 qa2 qa3 qa4 qa5 qap qav)))) else (if x7 = true then (if x5 = 1 then (qd.j3 k x1 x5 false qao qaw qa0 qa9 qa2 qa3 qa4 qa5 qap qav) else (qd.j3 k x1 x5 true qao qaw qa0 qa9 qa2 qa3 qa4 qa5 qap qav)) else (qd.j3 k x1 x5 (x5 != 0) qao qaw qa0 qa9 qa2 qa3 qa4 qa5 qap qav))
def qd.j3 : Nat → Int → Int → Bool → Int → Int → Int → ByteArray → Int → Int → ByteArray → List (S27) → List (S30) → List (S27) → Option (Bool)
 | 0, _, _, _, _, _, _, _, _, _, _, _, _, _ => none
 | k + 1, x1, x5, x75, qao, qaw, qa0, qa9, qa2, qa3, qa4, qa5, qap, qav => if x75 = true then (some false) else (if qao = 4 then (if qaw < 1 then (some false) else (if qa0 < 1 then (some false) else (if qaw > x5 then (some false) else (if qa0 > x5 then (some false) else (if qao = 6 then (if qaw > 1000 then (some false) else (if qa0 = 0 then (qd.j4 k x1 x5 qao qaw qa0 qa9 qa2 qa3 qa4 qa5 qap qav) else (some false))) else (qd.j4 k x1 x5 qao qaw qa0 qa9 qa2 qa3 qa4 qa5 qap qav)))))) else (if qao = 6 then (if qaw < 1 then (some false) else (if qaw > 1000 then (some false) else (if qa0 = 0 then (qd.j4 k x1 x5 qao qaw qa0 qa9 qa2 qa3 qa4 qa5 qap qav) else (some false)))) else (if qaw = 0 then (if qa0 = 0 then (qd.j4 k x1 x5 qao qaw qa0 qa9 qa2 qa3 qa4 qa5 qap qav) else (some false)) else (some false))))
def qd.j4 : Nat → Int → Int → Int → Int → Int → ByteArray → Int → Int → ByteArray → List (S27) → List (S30) → List (S27) → Option (Bool)
 | 0, _, _, _, _, _, _, _, _, _, _, _, _ => none
 | k + 1, x1, x5, qao, qaw, qa0, qa9, qa2, qa3, qa4, qa5, qap, qav => if qao = 8 then (qd.j5 k x1 x5 true qao qaw qa0 qa9 qa2 qa3 qa4 qa5 qap qav) else (if qao = 9 then (qd.j5 k x1 x5 true qao qaw qa0 qa9 qa2 qa3 qa4 qa5 qap qav) else (qd.j5 k x1 x5 (qao == 12) qao qaw qa0 qa9 qa2 qa3 qa4 qa5 qap qav))
def qd.j5 : Nat → Int → Int → Bool → Int → Int → Int → ByteArray → Int → Int → ByteArray → List (S27) → List (S30) → List (S27) → Option (Bool)
 | 0, _, _, _, _, _, _, _, _, _, _, _, _, _ => none
 | k + 1, x1, x5, x8, qao, qaw, qa0, qa9, qa2, qa3, qa4, qa5, qap, qav => if qao = 7 then (qd.j6 k x1 x5 x8 true qao qaw qa0 qa9 qa2 qa3 qa4 qa5 qap qav) else (qd.j6 k x1 x5 x8 (qao == 8) qao qaw qa0 qa9 qa2 qa3 qa4 qa5 qap qav)
def qd.j6 : Nat → Int → Int → Bool → Bool → Int → Int → Int → ByteArray → Int → Int → ByteArray → List (S27) → List (S30) → List (S27) → Option (Bool)
 | 0, _, _, _, _, _, _, _, _, _, _, _, _, _, _ => none
 | k + 1, x1, x5, x8, x9, qao, qaw, qa0, qa9, qa2, qa3, qa4, qa5, qap, qav => if x8 = true then ((zt.f k qa9).bind fun t222 => (if t222 = true then (if x9 = true then ((zi.f k qa2 qa3 qa4 qa5).bind fun q0l => (if q0l = true then (qd.j7 k x1 x5 false qao qaw qa0 qa9 qa2 qa3 qa4 qa5 qap qav) else (qd.j7 k x1 x5 true qao qaw qa0 qa9 qa2 qa3 qa4 qa5 qap qav))) else ((yo.f k qa2 qa3 qa4 qa5).bind fun q0b => (qd.j7 k x1 x5 (!q0b) qao qaw qa0 qa9 qa2 qa3 qa4 qa5 qap qav))) else (qd.j7 k x1 x5 true qao qaw qa0 qa9 qa2 qa3 qa4 qa5 qap qav))) else (if qa9.toList = ([] : List UInt8) then (if x9 = true then ((zi.f k qa2 qa3 qa4 qa5).bind fun zh7 => (if zh7 = true then (qd.j7 k x1 x5 false qao qaw qa0 qa9 qa2 qa3 qa4 qa5 qap qav) else (qd.j7 k x1 x5 true qao qaw qa0 qa9 qa2 qa3 qa4 qa5 qap qav))) else ((yo.f k qa2 qa3 qa4 qa5).bind fun t226 => (qd.j7 k x1 x5 (!t226) qao qaw qa0 qa9 qa2 qa3 qa4 qa5 qap qav))) else (qd.j7 k x1 x5 true qao qaw qa0 qa9 qa2 qa3 qa4 qa5 qap qav))
def qd.j7 : Nat → Int → Int → Bool → Int → Int → Int → ByteArray → Int → Int → ByteArray → List (S27) → List (S30) → List (S27) → Option (Bool)
 | 0, _, _, _, _, _, _, _, _, _, _, _, _, _ => none
 | k + 1, x1, x5, z1z, qao, qaw, qa0, qa9, qa2, qa3, qa4, qa5, qap, qav => if z1z = true then (some false) else (if qao = 11 then (if (qav.length : Int) = x5 then (qd.j8 k x1 x5 false qao qaw qa0 qa9 qa2 qa3 qa4 qa5 qap qav) else (qd.j8 k x1 x5 true qao qaw qa0 qa9 qa2 qa3 qa4 qa5 qap qav)) else (qd.j8 k x1 x5 (decide ((qav.length : Int) > 0)) qao qaw qa0 qa9 qa2 qa3 qa4 qa5 qap qav))
def qd.j8 : Nat → Int → Int → Bool → Int → Int → Int → ByteArray → Int → Int → ByteArray → List (S27) → List (S30) → List (S27) → Option (Bool)
 | 0, _, _, _, _, _, _, _, _, _, _, _, _, _ => none
 | k + 1, x1, x5, z10, qao, qaw, qa0, qa9, qa2, qa3, qa4, qa5, qap, qav => if z10 = true then (some false) else (qd.l0 k x1 x5 0 qao qaw qa0 qa9 qa2 qa3 qa4 qa5 qap qav)
def qd.l0 : Nat → Int → Int → Int → Int → Int → Int → ByteArray → Int → Int → ByteArray → List (S27) → List (S30) → List (S27) → Option (Bool)
 | 0, _, _, _, _, _, _, _, _, _, _, _, _, _ => none
 | k + 1, x1, x5, x10, qao, qaw, qa0, qa9, qa2, qa3, qa4, qa5, qap, qav => if x10 < (qav.length : Int) then (if 0 ≤ x10 then ((zi.f k ((zf qav x10).f0) ((zf qav x10).f1) ((zf qav x10).f2) ((zf qav x10).f3)).bind fun t228 => (if t228 = true then (qd.l0 k x1 x5 (wrap64 (x10 + 1)) qao qaw qa0 qa9 qa2 qa3 qa4 qa5 qap qav) else (some false))) else (none)) else (qd.l1 k x1 x5 0 qao qaw qa0 qa9 qa2 qa3 qa4 qa5 qap qav)
def qd.l1 : Nat → Int → Int → Int → Int → Int → Int → ByteArray → Int → Int → ByteArray → List (S27) → List (S30) → List (S27) → Option (Bool)
 | 0, _, _, _, _, _, _, _, _, _, _, _, _, _ => none
 | k + 1, x1, x5, x11, qao, qaw, qa0, qa9, qa2, qa3, qa4, qa5, qap, qav => if x11 < x5 then (if 0 ≤ x11 then (if x11 < (qap.length : Int) then ((qd.f k ((zb qap x11).f0) ((zb qap x11).f1) ((zb qap x11).f2) ((zb qap x11).f3) ((zb qap x11).f4.f0) ((zb qap x11).f4.f1) ((zb qap x11).f4.f2) ((zb qap x11).f4.f3) ((zb qap x11).f5) ((zb qap x11).f6) (wrap64 (x1 + 1))).bind fun zt7 => (if zt7 = true then (qd.l1 k x1 x5 (wrap64 (x11 + 1)) qao qaw qa0 qa9 qa2 qa3 qa4 qa5 qap qav) else (some false))) else (none)) else (none)) else (some true)
def qd.f : Nat → Int → Int → Int → ByteArray → Int → Int → ByteArray → List (S27) → List (S30) → List (S27) → Int → Option (Bool)
 | 0, _, _, _, _, _, _, _, _, _, _, _ => none
 | k + 1, qw, qy, za, yg, ym, yf, yh, yj, qx, zx, a1 => if a1 > 40 then (qd.j0 k a1 true qw qy za yg ym yf yh yj qx zx) else (if qw < 0 then (qd.j0 k a1 true qw qy za yg ym yf yh yj qx zx) else (if qw > 15 then (qd.j0 k a1 true qw qy za yg ym yf yh yj qx zx) else (qd.j0 k a1 (qw == 10) qw qy za yg ym yf yh yj qx zx)))
end
theorem qd.qb2 : ∀ k, (∀ y0 y1 y2 y3 y4 y5 y6 y7 y8 y9 y10, LeO (qd.f k y0 y1 y2 y3 y4 y5 y6 y7 y8 y9 y10) (qd.f (k + 1) y0 y1 y2 y3 y4 y5 y6 y7 y8 y9 y10)) ∧ (∀ y0 y1 y2 y3 y4 y5 y6 y7 y8 y9 y10 y11, LeO (qd.j0 k y0 y1 y2 y3 y4 y5 y6 y7 y8 y9 y10 y11) (qd.j0 (k + 1) y0 y1 y2 y3 y4 y5 y6 y7 y8 y9 y10 y11)) ∧ (∀ y0 y1 y2 y3 y4 y5 y6 y7 y8 y9 y10 y11 y12, LeO (qd.j1 k y0 y1 y2 y3 y4 y5 y6 y7 y8 y9 y10 y11 y12) (qd.j1 (k + 1) y0 y1 y2 y3 y4 y5 y6 y7 y8 y9 y10 y11 y12)) ∧ (∀ y0 y1 y2 y3 y4 y5 y6 y7 y8 y9 y10 y11 y12 y13, LeO (qd.j2 k y0 y1 y2 y3 y4 y5 y6 y7 y8 y9 y10 y11 y12 y13) (qd.j2 (k + 1) y0 y1 y2 y3 y4 y5 y6 y7 y8 y9 y10 y11 y12 y13)) ∧ (∀ y0 y1 y2 y3 y4 y5 y6 y7 y8 y9 y10 y11 y12, LeO (qd.j3 k y0 y1 y2 y3 y4 y5 y6 y7 y8 y9 y10 y11 y12) (qd.j3 (k + 1) y0 y1 y2 y3 y4 y5 y6 y7 y8 y9 y10 y11 y12)) ∧ (∀ y0 y1 y2 y3 y4 y5 y6 y7 y8 y9 y10 y11, LeO (qd.j4 k y0 y1 y2 y3 y4 y5 y6 y7 y8 y9 y10 y11) (qd.j4 (k + 1) y0 y1 y2 y3 y4 y5 y6 y7 y8 y9 y10 y11)) ∧ (∀ y0 y1 y2 y3 y4 y5 y6 y7 y8 y9 y10 y11 y12, LeO (qd.j5 k y0 y1 y2 y3 y4 y5 y6 y7 y8 y9 y10 y11 y12) (qd.j5 (k + 1) y0 y1 y2 y3 y4 y5 y6 y7 y8 y9 y10 y11 y12)) ∧ (∀ y0 y1 y2 y3 y4 y5 y6 y7 y8 y9 y10 y11 y12 y13, LeO (qd.j6 k y0 y1 y2 y3 y4 y5 y6 y7 y8 y9 y10 y11 y12 y13) (qd.j6 (k + 1) y0 y1 y2 y3 y4 y5 y6 y7 y8 y9 y10 y11 y12 y13)) ∧ (∀ y0 y1 y2 y3 y4 y5 y6 y7 y8 y9 y10 y11 y12, LeO (qd.j7 k y0 y1 y2 y3 y4 y5 y6 y7 y8 y9 y10 y11 y12) (qd.j7 (k + 1) y0 y1 y2 y3 y4 y5 y6 y7 y8 y9 y10 y11 y12)) ∧ (∀ y0 y1 y2 y3 y4 y5 y6 y7 y8 y9 y10 y11 y12, LeO (qd.j8 k y0 y1 y2 y3 y4 y5 y6 y7 y8 y9 y10 y11 y12) (qd.j8 (k + 1) y0 y1 y2 y3 y4 y5 y6 y7 y8 y9 y10 y11 y12)) ∧ (∀ y0 y1 y2 y3 y4 y5 y6 y7 y8 y9 y10 y11 y12, LeO (qd.l0 k y0 y1 y2 y3 y4 y5 y6 y7 y8 y9 y10 y11 y12) (qd.l0 (k + 1) y0 y1 y2 y3 y4 y5 y6 y7 y8 y9 y10 y11 y12)) ∧ (∀ y0 y1 y2 y3 y4 y5 y6 y7 y8 y9 y10 y11 y12, LeO (qd.l1 k y0 y1 y2 y3 y4 y5 y6 y7 y8 y9 y10 y11 y12) (qd.l1 (k + 1) y0 y1 y2 y3 y4 y5 y6 y7 y8 y9 y10 y11 y12))
 | 0 => ⟨fun _ _ _ _ _ _ _ _ _ _ _ r h => by simp [qd.f] at h, fun _ _ _ _ _ _ _ _ _ _ _ _ r h => by simp [qd.j0] at h, fun _ _ _ _ _ _ _ _ _ _ _ _ _ r h => by simp [qd.j1] at h, fun _ _ _ _ _ _ _ _ _ _ _ _ _ _ r h => by simp [qd.j2] at h, fun _ _ _ _ _ _ _ _ _ _ _ _ _ r h => by simp [qd.j3] at h, fun _ _ _ _ _ _ _ _ _ _ _ _ r h => by simp [qd.j4] at h, fun _ _ _ _ _ _ _ _ _ _ _ _ _ r h => by simp [qd.j5] at h, fun _ _ _ _ _ _ _ _ _ _ _ _ _ _ r h => by simp [qd.j6] at h, fun _ _ _ _ _ _ _ _ _ _ _ _ _ r h => by simp [qd.j7] at h, fun _ _ _ _ _ _ _ _ _ _ _ _ _ r h => by simp [qd.j8] at h, fun _ _ _ _ _ _ _ _ _ _ _ _ _ r h => by simp [qd.l0] at h, fun _ _ _ _ _ _ _ _ _ _ _ _ _ r h => by simp [qd.l1] at h⟩
 | k + 1 => by
  obtain ⟨ih0, ih1, ih2, ih3, ih4, ih5, ih6, ih7, ih8, ih9, qk4, qk5⟩ := qd.qb2 k
  refine ⟨?_, ?_, ?_, ?_, ?_, ?_, ?_, ?_, ?_, ?_, ?_, ?_⟩
  ·intro y0 y1 y2 y3 y4 y5 y6 y7 y8 y9 y10
   unfold qd.f
   repeat' first
   | (with_reducible exact ih0 _ _ _ _ _ _ _ _ _ _ _)
   | (with_reducible exact ih1 _ _ _ _ _ _ _ _ _ _ _ _)
   | (with_reducible exact ih2 _ _ _ _ _ _ _ _ _ _ _ _ _)
   | (with_reducible exact ih3 _ _ _ _ _ _ _ _ _ _ _ _ _ _)
   | (with_reducible exact ih4 _ _ _ _ _ _ _ _ _ _ _ _ _)
   | (with_reducible exact ih5 _ _ _ _ _ _ _ _ _ _ _ _)
   | (with_reducible exact ih6 _ _ _ _ _ _ _ _ _ _ _ _ _)
   | (with_reducible exact ih7 _ _ _ _ _ _ _ _ _ _ _ _ _ _)
   | (with_reducible exact ih8 _ _ _ _ _ _ _ _ _ _ _ _ _)
   | (with_reducible exact ih9 _ _ _ _ _ _ _ _ _ _ _ _ _)
   | (with_reducible exact qk4 _ _ _ _ _ _ _ _ _ _ _ _ _)
   | (with_reducible exact qk5 _ _ _ _ _ _ _ _ _ _ _ _ _)
   | (with_reducible exact zt.mono _ _)
   | (with_reducible exact zi.mono _ _ _ _ _)
   | (with_reducible exact yo.mono _ _ _ _ _)
   | (with_reducible exact LeO.refl _)
   | (with_reducible exact LeO.none _)
   | (with_reducible refine LeO.ite ?_ ?_)
   | (with_reducible refine LeO.bind ?_ (fun _ => ?_))
   | exact ih0 _ _ _ _ _ _ _ _ _ _ _
   | exact ih1 _ _ _ _ _ _ _ _ _ _ _ _
   | exact ih2 _ _ _ _ _ _ _ _ _ _ _ _ _
   | exact ih3 _ _ _ _ _ _ _ _ _ _ _ _ _ _
   | exact ih4 _ _ _ _ _ _ _ _ _ _ _ _ _
   | exact ih5 _ _ _ _ _ _ _ _ _ _ _ _
   | exact ih6 _ _ _ _ _ _ _ _ _ _ _ _ _
   | exact ih7 _ _ _ _ _ _ _ _ _ _ _ _ _ _
   | exact ih8 _ _ _ _ _ _ _ _ _ _ _ _ _
   | exact ih9 _ _ _ _ _ _ _ _ _ _ _ _ _
   | exact qk4 _ _ _ _ _ _ _ _ _ _ _ _ _
   | exact qk5 _ _ _ _ _ _ _ _ _ _ _ _ _
   | exact zt.mono _ _
   | exact zi.mono _ _ _ _ _
   | exact yo.mono _ _ _ _ _
   | exact LeO.none _
   | refine LeO.ite ?_ ?_
   | refine LeO.bind ?_ (fun _ => ?_)
  ·intro y0 y1 y2 y3 y4 y5 y6 y7 y8 y9 y10 y11
   unfold qd.j0
   repeat' first
   | (with_reducible exact ih0 _ _ _ _ _ _ _ _ _ _ _)
   | (with_reducible exact ih1 _ _ _ _ _ _ _ _ _ _ _ _)
   | (with_reducible exact ih2 _ _ _ _ _ _ _ _ _ _ _ _ _)
   | (with_reducible exact ih3 _ _ _ _ _ _ _ _ _ _ _ _ _ _)
   | (with_reducible exact ih4 _ _ _ _ _ _ _ _ _ _ _ _ _)
   | (with_reducible exact ih5 _ _ _ _ _ _ _ _ _ _ _ _)
   | (with_reducible exact ih6 _ _ _ _ _ _ _ _ _ _ _ _ _)
   | (with_reducible exact ih7 _ _ _ _ _ _ _ _ _ _ _ _ _ _)
   | (with_reducible exact ih8 _ _ _ _ _ _ _ _ _ _ _ _ _)
   | (with_reducible exact ih9 _ _ _ _ _ _ _ _ _ _ _ _ _)
   | (with_reducible exact qk4 _ _ _ _ _ _ _ _ _ _ _ _ _)
   | (with_reducible exact qk5 _ _ _ _ _ _ _ _ _ _ _ _ _)
   | (with_reducible exact zt.mono _ _)
   | (with_reducible exact zi.mono _ _ _ _ _)
   | (with_reducible exact yo.mono _ _ _ _ _)
   | (with_reducible exact LeO.refl _)
   | (with_reducible exact LeO.none _)
   | (with_reducible refine LeO.ite ?_ ?_)
   | (with_reducible refine LeO.bind ?_ (fun _ => ?_))
   | exact ih0 _ _ _ _ _ _ _ _ _ _ _
   | exact ih1 _ _ _ _ _ _ _ _ _ _ _ _
   | exact ih2 _ _ _ _ _ _ _ _ _ _ _ _ _
   | exact ih3 _ _ _ _ _ _ _ _ _ _ _ _ _ _
   | exact ih4 _ _ _ _ _ _ _ _ _ _ _ _ _
   | exact ih5 _ _ _ _ _ _ _ _ _ _ _ _
   | exact ih6 _ _ _ _ _ _ _ _ _ _ _ _ _
   | exact ih7 _ _ _ _ _ _ _ _ _ _ _ _ _ _
   | exact ih8 _ _ _ _ _ _ _ _ _ _ _ _ _
   | exact ih9 _ _ _ _ _ _ _ _ _ _ _ _ _
   | exact qk4 _ _ _ _ _ _ _ _ _ _ _ _ _
   | exact qk5 _ _ _ _ _ _ _ _ _ _ _ _ _
   | exact zt.mono _ _
   | exact zi.mono _ _ _ _ _
   | exact yo.mono _ _ _ _ _
   | exact LeO.none _
   | refine LeO.ite ?_ ?_
   | refine LeO.bind ?_ (fun _ => ?_)
  ·intro y0 y1 y2 y3 y4 y5 y6 y7 y8 y9 y10 y11 y12
   unfold qd.j1
   repeat' first
   | (with_reducible exact ih0 _ _ _ _ _ _ _ _ _ _ _)
   | (with_reducible exact ih1 _ _ _ _ _ _ _ _ _ _ _ _)
   | (with_reducible exact ih2 _ _ _ _ _ _ _ _ _ _ _ _ _)
   | (with_reducible exact ih3 _ _ _ _ _ _ _ _ _ _ _ _ _ _)
   | (with_reducible exact ih4 _ _ _ _ _ _ _ _ _ _ _ _ _)
   | (with_reducible exact ih5 _ _ _ _ _ _ _ _ _ _ _ _)
   | (with_reducible exact ih6 _ _ _ _ _ _ _ _ _ _ _ _ _)
   | (with_reducible exact ih7 _ _ _ _ _ _ _ _ _ _ _ _ _ _)
   | (with_reducible exact ih8 _ _ _ _ _ _ _ _ _ _ _ _ _)
   | (with_reducible exact ih9 _ _ _ _ _ _ _ _ _ _ _ _ _)
   | (with_reducible exact qk4 _ _ _ _ _ _ _ _ _ _ _ _ _)
   | (with_reducible exact qk5 _ _ _ _ _ _ _ _ _ _ _ _ _)
   | (with_reducible exact zt.mono _ _)
   | (with_reducible exact zi.mono _ _ _ _ _)
   | (with_reducible exact yo.mono _ _ _ _ _)
   | (with_reducible exact LeO.refl _)
   | (with_reducible exact LeO.none _)
   | (with_reducible refine LeO.ite ?_ ?_)
   | (with_reducible refine LeO.bind ?_ (fun _ => ?_))
   | exact ih0 _ _ _ _ _ _ _ _ _ _ _
   | exact ih1 _ _ _ _ _ _ _ _ _ _ _ _
   | exact ih2 _ _ _ _ _ _ _ _ _ _ _ _ _
   | exact ih3 _ _ _ _ _ _ _ _ _ _ _ _ _ _
   | exact ih4 _ _ _ _ _ _ _ _ _ _ _ _ _
   | exact ih5 _ _ _ _ _ _ _ _ _ _ _ _
   | exact ih6 _ _ _ _ _ _ _ _ _ _ _ _ _
   | exact ih7 _ _ _ _ _ _ _ _ _ _ _ _ _ _
   | exact ih8 _ _ _ _ _ _ _ _ _ _ _ _ _
   | exact ih9 _ _ _ _ _ _ _ _ _ _ _ _ _
   | exact qk4 _ _ _ _ _ _ _ _ _ _ _ _ _
   | exact qk5 _ _ _ _ _ _ _ _ _ _ _ _ _
   | exact zt.mono _ _
   | exact zi.mono _ _ _ _ _
   | exact yo.mono _ _ _ _ _
   | exact LeO.none _
   | refine LeO.ite ?_ ?_
   | refine LeO.bind ?_ (fun _ => ?_)
  ·intro y0 y1 y2 y3 y4 y5 y6 y7 y8 y9 y10 y11 y12 y13
   unfold qd.j2
   repeat' first
   | (with_reducible exact ih0 _ _ _ _ _ _ _ _ _ _ _)
   | (with_reducible exact ih1 _ _ _ _ _ _ _ _ _ _ _ _)
   | (with_reducible exact ih2 _ _ _ _ _ _ _ _ _ _ _ _ _)
   | (with_reducible exact ih3 _ _ _ _ _ _ _ _ _ _ _ _ _ _)
   | (with_reducible exact ih4 _ _ _ _ _ _ _ _ _ _ _ _ _)
   | (with_reducible exact ih5 _ _ _ _ _ _ _ _ _ _ _ _)
   | (with_reducible exact ih6 _ _ _ _ _ _ _ _ _ _ _ _ _)
   | (with_reducible exact ih7 _ _ _ _ _ _ _ _ _ _ _ _ _ _)
   | (with_reducible exact ih8 _ _ _ _ _ _ _ _ _ _ _ _ _)
   | (with_reducible exact ih9 _ _ _ _ _ _ _ _ _ _ _ _ _)
   | (with_reducible exact qk4 _ _ _ _ _ _ _ _ _ _ _ _ _)
   | (with_reducible exact qk5 _ _ _ _ _ _ _ _ _ _ _ _ _)
   | (with_reducible exact zt.mono _ _)
   | (with_reducible exact zi.mono _ _ _ _ _)
   | (with_reducible exact yo.mono _ _ _ _ _)
   | (with_reducible exact LeO.refl _)
   | (with_reducible exact LeO.none _)
   | (with_reducible refine LeO.ite ?_ ?_)
   | (with_reducible refine LeO.bind ?_ (fun _ => ?_))
   | exact ih0 _ _ _ _ _ _ _ _ _ _ _
   | exact ih1 _ _ _ _ _ _ _ _ _ _ _ _
   | exact ih2 _ _ _ _ _ _ _ _ _ _ _ _ _
   | exact ih3 _ _ _ _ _ _ _ _ _ _ _ _ _ _
   | exact ih4 _ _ _ _ _ _ _ _ _ _ _ _ _
   | exact ih5 _ _ _ _ _ _ _ _ _ _ _ _
   | exact ih6 _ _ _ _ _ _ _ _ _ _ _ _ _
   | exact ih7 _ _ _ _ _ _ _ _ _ _ _ _ _ _
   | exact ih8 _ _ _ _ _ _ _ _ _ _ _ _ _
   | exact ih9 _ _ _ _ _ _ _ _ _ _ _ _ _
   | exact qk4 _ _ _ _ _ _ _ _ _ _ _ _ _
   | exact qk5 _ _ _ _ _ _ _ _ _ _ _ _ _
   | exact zt.mono _ _
   | exact zi.mono _ _ _ _ _
   | exact yo.mono _ _ _ _ _
   | exact LeO.none _
   | refine LeO.ite ?_ ?_
   | refine LeO.bind ?_ (fun _ => ?_)
  ·intro y0 y1 y2 y3 y4 y5 y6 y7 y8 y9 y10 y11 y12
   unfold qd.j3
   repeat' first
   | (with_reducible exact ih0 _ _ _ _ _ _ _ _ _ _ _)
   | (with_reducible exact ih1 _ _ _ _ _ _ _ _ _ _ _ _)
   | (with_reducible exact ih2 _ _ _ _ _ _ _ _ _ _ _ _ _)
   | (with_reducible exact ih3 _ _ _ _ _ _ _ _ _ _ _ _ _ _)
   | (with_reducible exact ih4 _ _ _ _ _ _ _ _ _ _ _ _ _)
   | (with_reducible exact ih5 _ _ _ _ _ _ _ _ _ _ _ _)
   | (with_reducible exact ih6 _ _ _ _ _ _ _ _ _ _ _ _ _)
   | (with_reducible exact ih7 _ _ _ _ _ _ _ _ _ _ _ _ _ _)
   | (with_reducible exact ih8 _ _ _ _ _ _ _ _ _ _ _ _ _)
   | (with_reducible exact ih9 _ _ _ _ _ _ _ _ _ _ _ _ _)
   | (with_reducible exact qk4 _ _ _ _ _ _ _ _ _ _ _ _ _)
   | (with_reducible exact qk5 _ _ _ _ _ _ _ _ _ _ _ _ _)
   | (with_reducible exact zt.mono _ _)
   | (with_reducible exact zi.mono _ _ _ _ _)
   | (with_reducible exact yo.mono _ _ _ _ _)
   | (with_reducible exact LeO.refl _)
   | (with_reducible exact LeO.none _)
   | (with_reducible refine LeO.ite ?_ ?_)
   | (with_reducible refine LeO.bind ?_ (fun _ => ?_))
   | exact ih0 _ _ _ _ _ _ _ _ _ _ _
   | exact ih1 _ _ _ _ _ _ _ _ _ _ _ _
   | exact ih2 _ _ _ _ _ _ _ _ _ _ _ _ _
   | exact ih3 _ _ _ _ _ _ _ _ _ _ _ _ _ _
   | exact ih4 _ _ _ _ _ _ _ _ _ _ _ _ _
   | exact ih5 _ _ _ _ _ _ _ _ _ _ _ _
   | exact ih6 _ _ _ _ _ _ _ _ _ _ _ _ _
   | exact ih7 _ _ _ _ _ _ _ _ _ _ _ _ _ _
   | exact ih8 _ _ _ _ _ _ _ _ _ _ _ _ _
   | exact ih9 _ _ _ _ _ _ _ _ _ _ _ _ _
   | exact qk4 _ _ _ _ _ _ _ _ _ _ _ _ _
   | exact qk5 _ _ _ _ _ _ _ _ _ _ _ _ _
   | exact zt.mono _ _
   | exact zi.mono _ _ _ _ _
   | exact yo.mono _ _ _ _ _
   | exact LeO.none _
   | refine LeO.ite ?_ ?_
   | refine LeO.bind ?_ (fun _ => ?_)
  ·intro y0 y1 y2 y3 y4 y5 y6 y7 y8 y9 y10 y11
   unfold qd.j4
   repeat' first
   | (with_reducible exact ih0 _ _ _ _ _ _ _ _ _ _ _)
   | (with_reducible exact ih1 _ _ _ _ _ _ _ _ _ _ _ _)
   | (with_reducible exact ih2 _ _ _ _ _ _ _ _ _ _ _ _ _)
   | (with_reducible exact ih3 _ _ _ _ _ _ _ _ _ _ _ _ _ _)
   | (with_reducible exact ih4 _ _ _ _ _ _ _ _ _ _ _ _ _)
   | (with_reducible exact ih5 _ _ _ _ _ _ _ _ _ _ _ _)
   | (with_reducible exact ih6 _ _ _ _ _ _ _ _ _ _ _ _ _)
   | (with_reducible exact ih7 _ _ _ _ _ _ _ _ _ _ _ _ _ _)
   | (with_reducible exact ih8 _ _ _ _ _ _ _ _ _ _ _ _ _)
   | (with_reducible exact ih9 _ _ _ _ _ _ _ _ _ _ _ _ _)
   | (with_reducible exact qk4 _ _ _ _ _ _ _ _ _ _ _ _ _)
   | (with_reducible exact qk5 _ _ _ _ _ _ _ _ _ _ _ _ _)
   | (with_reducible exact zt.mono _ _)
   | (with_reducible exact zi.mono _ _ _ _ _)
   | (with_reducible exact yo.mono _ _ _ _ _)
   | (with_reducible exact LeO.refl _)
   | (with_reducible exact LeO.none _)
   | (with_reducible refine LeO.ite ?_ ?_)
   | (with_reducible refine LeO.bind ?_ (fun _ => ?_))
   | exact ih0 _ _ _ _ _ _ _ _ _ _ _
   | exact ih1 _ _ _ _ _ _ _ _ _ _ _ _
   | exact ih2 _ _ _ _ _ _ _ _ _ _ _ _ _
   | exact ih3 _ _ _ _ _ _ _ _ _ _ _ _ _ _
   | exact ih4 _ _ _ _ _ _ _ _ _ _ _ _ _
   | exact ih5 _ _ _ _ _ _ _ _ _ _ _ _
   | exact ih6 _ _ _ _ _ _ _ _ _ _ _ _ _
   | exact ih7 _ _ _ _ _ _ _ _ _ _ _ _ _ _
   | exact ih8 _ _ _ _ _ _ _ _ _ _ _ _ _
   | exact ih9 _ _ _ _ _ _ _ _ _ _ _ _ _
   | exact qk4 _ _ _ _ _ _ _ _ _ _ _ _ _
   | exact qk5 _ _ _ _ _ _ _ _ _ _ _ _ _
   | exact zt.mono _ _
   | exact zi.mono _ _ _ _ _
   | exact yo.mono _ _ _ _ _
   | exact LeO.none _
   | refine LeO.ite ?_ ?_
   | refine LeO.bind ?_ (fun _ => ?_)
  ·intro y0 y1 y2 y3 y4 y5 y6 y7 y8 y9 y10 y11 y12
   unfold qd.j5
   repeat' first
   | (with_reducible exact ih0 _ _ _ _ _ _ _ _ _ _ _)
   | (with_reducible exact ih1 _ _ _ _ _ _ _ _ _ _ _ _)
   | (with_reducible exact ih2 _ _ _ _ _ _ _ _ _ _ _ _ _)
   | (with_reducible exact ih3 _ _ _ _ _ _ _ _ _ _ _ _ _ _)
   | (with_reducible exact ih4 _ _ _ _ _ _ _ _ _ _ _ _ _)
   | (with_reducible exact ih5 _ _ _ _ _ _ _ _ _ _ _ _)
   | (with_reducible exact ih6 _ _ _ _ _ _ _ _ _ _ _ _ _)
   | (with_reducible exact ih7 _ _ _ _ _ _ _ _ _ _ _ _ _ _)
   | (with_reducible exact ih8 _ _ _ _ _ _ _ _ _ _ _ _ _)
   | (with_reducible exact ih9 _ _ _ _ _ _ _ _ _ _ _ _ _)
   | (with_reducible exact qk4 _ _ _ _ _ _ _ _ _ _ _ _ _)
   | (with_reducible exact qk5 _ _ _ _ _ _ _ _ _ _ _ _ _)
   | (with_reducible exact zt.mono _ _)
   | (with_reducible exact zi.mono _ _ _ _ _)
   | (with_reducible exact yo.mono _ _ _ _ _)
   | (with_reducible exact LeO.refl _)
   | (with_reducible exact LeO.none _)
   | (with_reducible refine LeO.ite ?_ ?_)
   | (with_reducible refine LeO.bind ?_ (fun _ => ?_))
   | exact ih0 _ _ _ _ _ _ _ _ _ _ _
   | exact ih1 _ _ _ _ _ _ _ _ _ _ _ _
   | exact ih2 _ _ _ _ _ _ _ _ _ _ _ _ _
   | exact ih3 _ _ _ _ _ _ _ _ _ _ _ _ _ _
   | exact ih4 _ _ _ _ _ _ _ _ _ _ _ _ _
   | exact ih5 _ _ _ _ _ _ _ _ _ _ _ _
   | exact ih6 _ _ _ _ _ _ _ _ _ _ _ _ _
   | exact ih7 _ _ _ _ _ _ _ _ _ _ _ _ _ _
   | exact ih8 _ _ _ _ _ _ _ _ _ _ _ _ _
   | exact ih9 _ _ _ _ _ _ _ _ _ _ _ _ _
   | exact qk4 _ _ _ _ _ _ _ _ _ _ _ _ _
   | exact qk5 _ _ _ _ _ _ _ _ _ _ _ _ _
   | exact zt.mono _ _
   | exact zi.mono _ _ _ _ _
   | exact yo.mono _ _ _ _ _
   | exact LeO.none _
   | refine LeO.ite ?_ ?_
   | refine LeO.bind ?_ (fun _ => ?_)
  ·intro y0 y1 y2 y3 y4 y5 y6 y7 y8 y9 y10 y11 y12 y13
   unfold qd.j6
   repeat' first
   | (with_reducible exact ih0 _ _ _ _ _ _ _ _ _ _ _)
   | (with_reducible exact ih1 _ _ _ _ _ _ _ _ _ _ _ _)
   | (with_reducible exact ih2 _ _ _ _ _ _ _ _ _ _ _ _ _)
   | (with_reducible exact ih3 _ _ _ _ _ _ _ _ _ _ _ _ _ _)
   | (with_reducible exact ih4 _ _ _ _ _ _ _ _ _ _ _ _ _)
   | (with_reducible exact ih5 _ _ _ _ _ _ _ _ _ _ _ _)
   | (with_reducible exact ih6 _ _ _ _ _ _ _ _ _ _ _ _ _)
   | (with_reducible exact ih7 _ _ _ _ _ _ _ _ _ _ _ _ _ _)
   | (with_reducible exact ih8 _ _ _ _ _ _ _ _ _ _ _ _ _)
   | (with_reducible exact ih9 _ _ _ _ _ _ _ _ _ _ _ _ _)
   | (with_reducible exact qk4 _ _ _ _ _ _ _ _ _ _ _ _ _)
   | (with_reducible exact qk5 _ _ _ _ _ _ _ _ _ _ _ _ _)
   | (with_reducible exact zt.mono _ _)
   | (with_reducible exact zi.mono _ _ _ _ _)
   | (with_reducible exact yo.mono _ _ _ _ _)
   | (with_reducible exact LeO.refl _)
   | (with_reducible exact LeO.none _)
   | (with_reducible refine LeO.ite ?_ ?_)
   | (with_reducible refine LeO.bind ?_ (fun _ => ?_))
   | exact ih0 _ _ _ _ _ _ _ _ _ _ _
   | exact ih1 _ _ _ _ _ _ _ _ _ _ _ _
   | exact ih2 _ _ _ _ _ _ _ _ _ _ _ _ _
   | exact ih3 _ _ _ _ _ _ _ _ _ _ _ _ _ _
   | exact ih4 _ _ _ _ _ _ _ _ _ _ _ _ _
   | exact ih5 _ _ _ _ _ _ _ _ _ _ _ _
   | exact ih6 _ _ _ _ _ _ _ _ _ _ _ _ _
   | exact ih7 _ _ _ _ _ _ _ _ _ _ _ _ _ _
   | exact ih8 _ _ _ _ _ _ _ _ _ _ _ _ _
   | exact ih9 _ _ _ _ _ _ _ _ _ _ _ _ _
   | exact qk4 _ _ _ _ _ _ _ _ _ _ _ _ _
   | exact qk5 _ _ _ _ _ _ _ _ _ _ _ _ _
   | exact zt.mono _ _
   | exact zi.mono _ _ _ _ _
   | exact yo.mono _ _ _ _ _
   | exact LeO.none _
   | refine LeO.ite ?_ ?_
   | refine LeO.bind ?_ (fun _ => ?_)
  ·intro y0 y1 y2 y3 y4 y5 y6 y7 y8 y9 y10 y11 y12
   unfold qd.j7
   repeat' first
   | (with_reducible exact ih0 _ _ _ _ _ _ _ _ _ _ _)
   | (with_reducible exact ih1 _ _ _ _ _ _ _ _ _ _ _ _)
   | (with_reducible exact ih2 _ _ _ _ _ _ _ _ _ _ _ _ _)
   | (with_reducible exact ih3 _ _ _ _ _ _ _ _ _ _ _ _ _ _)
   | (with_reducible exact ih4 _ _ _ _ _ _ _ _ _ _ _ _ _)
   | (with_reducible exact ih5 _ _ _ _ _ _ _ _ _ _ _ _)
   | (with_reducible exact ih6 _ _ _ _ _ _ _ _ _ _ _ _ _)
   | (with_reducible exact ih7 _ _ _ _ _ _ _ _ _ _ _ _ _ _)
   | (with_reducible exact ih8 _ _ _ _ _ _ _ _ _ _ _ _ _)
   | (with_reducible exact ih9 _ _ _ _ _ _ _ _ _ _ _ _ _)
   | (with_reducible exact qk4 _ _ _ _ _ _ _ _ _ _ _ _ _)
   | (with_reducible exact qk5 _ _ _ _ _ _ _ _ _ _ _ _ _)
   | (with_reducible exact zt.mono _ _)
   | (with_reducible exact zi.mono _ _ _ _ _)
   | (with_reducible exact yo.mono _ _ _ _ _)
   | (with_reducible exact LeO.refl _)
   | (with_reducible exact LeO.none _)
   | (with_reducible refine LeO.ite ?_ ?_)
   | (with_reducible refine LeO.bind ?_ (fun _ => ?_))
   | exact ih0 _ _ _ _ _ _ _ _ _ _ _
   | exact ih1 _ _ _ _ _ _ _ _ _ _ _ _
   | exact ih2 _ _ _ _ _ _ _ _ _ _ _ _ _
   | exact ih3 _ _ _ _ _ _ _ _ _ _ _ _ _ _
   | exact ih4 _ _ _ _ _ _ _ _ _ _ _ _ _
   | exact ih5 _ _ _ _ _ _ _ _ _ _ _ _
   | exact ih6 _ _ _ _ _ _ _ _ _ _ _ _ _
   | exact ih7 _ _ _ _ _ _ _ _ _ _ _ _ _ _
   | exact ih8 _ _ _ _ _ _ _ _ _ _ _ _ _
   | exact ih9 _ _ _ _ _ _ _ _ _ _ _ _ _
   | exact qk4 _ _ _ _ _ _ _ _ _ _ _ _ _
   | exact qk5 _ _ _ _ _ _ _ _ _ _ _ _ _
   | exact zt.mono _ _
   | exact zi.mono _ _ _ _ _
   | exact yo.mono _ _ _ _ _
   | exact LeO.none _
   | refine LeO.ite ?_ ?_
   | refine LeO.bind ?_ (fun _ => ?_)
  ·intro y0 y1 y2 y3 y4 y5 y6 y7 y8 y9 y10 y11 y12
   unfold qd.j8
   repeat' first
   | (with_reducible exact ih0 _ _ _ _ _ _ _ _ _ _ _)
   | (with_reducible exact ih1 _ _ _ _ _ _ _ _ _ _ _ _)
   | (with_reducible exact ih2 _ _ _ _ _ _ _ _ _ _ _ _ _)
   | (with_reducible exact ih3 _ _ _ _ _ _ _ _ _ _ _ _ _ _)
   | (with_reducible exact ih4 _ _ _ _ _ _ _ _ _ _ _ _ _)
   | (with_reducible exact ih5 _ _ _ _ _ _ _ _ _ _ _ _)
   | (with_reducible exact ih6 _ _ _ _ _ _ _ _ _ _ _ _ _)
   | (with_reducible exact ih7 _ _ _ _ _ _ _ _ _ _ _ _ _ _)
   | (with_reducible exact ih8 _ _ _ _ _ _ _ _ _ _ _ _ _)
   | (with_reducible exact ih9 _ _ _ _ _ _ _ _ _ _ _ _ _)
   | (with_reducible exact qk4 _ _ _ _ _ _ _ _ _ _ _ _ _)
   | (with_reducible exact qk5 _ _ _ _ _ _ _ _ _ _ _ _ _)
   | (with_reducible exact zt.mono _ _)
   | (with_reducible exact zi.mono _ _ _ _ _)
   | (with_reducible exact yo.mono _ _ _ _ _)
   | (with_reducible exact LeO.refl _)
   | (with_reducible exact LeO.none _)
   | (with_reducible refine LeO.ite ?_ ?_)
   | (with_reducible refine LeO.bind ?_ (fun _ => ?_))
   | exact ih0 _ _ _ _ _ _ _ _ _ _ _
   | exact ih1 _ _ _ _ _ _ _ _ _ _ _ _
   | exact ih2 _ _ _ _ _ _ _ _ _ _ _ _ _
   | exact ih3 _ _ _ _ _ _ _ _ _ _ _ _ _ _
   | exact ih4 _ _ _ _ _ _ _ _ _ _ _ _ _
   | exact ih5 _ _ _ _ _ _ _ _ _ _ _ _
   | exact ih6 _ _ _ _ _ _ _ _ _ _ _ _ _
   | exact ih7 _ _ _ _ _ _ _ _ _ _ _ _ _ _
   | exact ih8 _ _ _ _ _ _ _ _ _ _ _ _ _
   | exact ih9 _ _ _ _ _ _ _ _ _ _ _ _ _
   | exact qk4 _ _ _ _ _ _ _ _ _ _ _ _ _
   | exact qk5 _ _ _ _ _ _ _ _ _ _ _ _ _
   | exact zt.mono _ _
   | exact zi.mono _ _ _ _ _
   | exact yo.mono _ _ _ _ _
   | exact LeO.none _
   | refine LeO.ite ?_ ?_
   | refine LeO.bind ?_ (fun _ => ?_)
  ·intro y0 y1 y2 y3 y4 y5 y6 y7 y8 y9 y10 y11 y12
   unfold qd.l0
   repeat' first
   | (with_reducible exact ih0 _ _ _ _ _ _ _ _ _ _ _)
   | (with_reducible exact ih1 _ _ _ _ _ _ _ _ _ _ _ _)
   | (with_reducible exact ih2 _ _ _ _ _ _ _ _ _ _ _ _ _)
   | (with_reducible exact ih3 _ _ _ _ _ _ _ _ _ _ _ _ _ _)
   | (with_reducible exact ih4 _ _ _ _ _ _ _ _ _ _ _ _ _)
   | (with_reducible exact ih5 _ _ _ _ _ _ _ _ _ _ _ _)
   | (with_reducible exact ih6 _ _ _ _ _ _ _ _ _ _ _ _ _)
   | (with_reducible exact ih7 _ _ _ _ _ _ _ _ _ _ _ _ _ _)
   | (with_reducible exact ih8 _ _ _ _ _ _ _ _ _ _ _ _ _)
   | (with_reducible exact ih9 _ _ _ _ _ _ _ _ _ _ _ _ _)
   | (with_reducible exact qk4 _ _ _ _ _ _ _ _ _ _ _ _ _)
   | (with_reducible exact qk5 _ _ _ _ _ _ _ _ _ _ _ _ _)
   | (with_reducible exact zt.mono _ _)
   | (with_reducible exact zi.mono _ _ _ _ _)
   | (with_reducible exact yo.mono _ _ _ _ _)
   | (with_reducible exact LeO.refl _)
   | (with_reducible exact LeO.none _)
   | (with_reducible refine LeO.ite ?_ ?_)
   | (with_reducible refine LeO.bind ?_ (fun _ => ?_))
   | exact ih0 _ _ _ _ _ _ _ _ _ _ _
   | exact ih1 _ _ _ _ _ _ _ _ _ _ _ _
   | exact ih2 _ _ _ _ _ _ _ _ _ _ _ _ _
   | exact ih3 _ _ _ _ _ _ _ _ _ _ _ _ _ _
   | exact ih4 _ _ _ _ _ _ _ _ _ _ _ _ _
   | exact ih5 _ _ _ _ _ _ _ _ _ _ _ _
   | exact ih6 _ _ _ _ _ _ _ _ _ _ _ _ _
   | exact ih7 _ _ _ _ _ _ _ _ _ _ _ _ _ _
   | exact ih8 _ _ _ _ _ _ _ _ _ _ _ _ _
   | exact ih9 _ _ _ _ _ _ _ _ _ _ _ _ _
   | exact qk4 _ _ _ _ _ _ _ _ _ _ _ _ _
   | exact qk5 _ _ _ _ _ _ _ _ _ _ _ _ _
   | exact zt.mono _ _
   | exact zi.mono _ _ _ _ _
   | exact yo.mono _ _ _ _ _
   | exact LeO.none _
   | refine LeO.ite ?_ ?_
   | refine LeO.bind ?_ (fun _ => ?_)
  ·intro y0 y1 y2 y3 y4 y5 y6 y7 y8 y9 y10 y11 y12
   unfold qd.l1
   repeat' first
   | (with_reducible exact ih0 _ _ _ _ _ _ _ _ _ _ _)
   | (with_reducible exact ih1 _ _ _ _ _ _ _ _ _ _ _ _)
   | (with_reducible exact ih2 _ _ _ _ _ _ _ _ _ _ _ _ _)
   | (with_reducible exact ih3 _ _ _ _ _ _ _ _ _ _ _ _ _ _)
   | (with_reducible exact ih4 _ _ _ _ _ _ _ _ _ _ _ _ _)
   | (with_reducible exact ih5 _ _ _ _ _ _ _ _ _ _ _ _)
   | (with_reducible exact ih6 _ _ _ _ _ _ _ _ _ _ _ _ _)
   | (with_reducible exact ih7 _ _ _ _ _ _ _ _ _ _ _ _ _ _)
   | (with_reducible exact ih8 _ _ _ _ _ _ _ _ _ _ _ _ _)
   | (with_reducible exact ih9 _ _ _ _ _ _ _ _ _ _ _ _ _)
   | (with_reducible exact qk4 _ _ _ _ _ _ _ _ _ _ _ _ _)
   | (with_reducible exact qk5 _ _ _ _ _ _ _ _ _ _ _ _ _)
   | (with_reducible exact zt.mono _ _)
   | (with_reducible exact zi.mono _ _ _ _ _)
   | (with_reducible exact yo.mono _ _ _ _ _)
   | (with_reducible exact LeO.refl _)
   | (with_reducible exact LeO.none _)
   | (with_reducible refine LeO.ite ?_ ?_)
   | (with_reducible refine LeO.bind ?_ (fun _ => ?_))
   | exact ih0 _ _ _ _ _ _ _ _ _ _ _
   | exact ih1 _ _ _ _ _ _ _ _ _ _ _ _
   | exact ih2 _ _ _ _ _ _ _ _ _ _ _ _ _
   | exact ih3 _ _ _ _ _ _ _ _ _ _ _ _ _ _
   | exact ih4 _ _ _ _ _ _ _ _ _ _ _ _ _
   | exact ih5 _ _ _ _ _ _ _ _ _ _ _ _
   | exact ih6 _ _ _ _ _ _ _ _ _ _ _ _ _
   | exact ih7 _ _ _ _ _ _ _ _ _ _ _ _ _ _
   | exact ih8 _ _ _ _ _ _ _ _ _ _ _ _ _
   | exact ih9 _ _ _ _ _ _ _ _ _ _ _ _ _
   | exact qk4 _ _ _ _ _ _ _ _ _ _ _ _ _
   | exact qk5 _ _ _ _ _ _ _ _ _ _ _ _ _
   | exact zt.mono _ _
   | exact zi.mono _ _ _ _ _
   | exact yo.mono _ _ _ _ _
   | exact LeO.none _
   | refine LeO.ite ?_ ?_
   | refine LeO.bind ?_ (fun _ => ?_)
theorem qd.mono : ∀ a0 a1 a2 a3 a4 a5 a6 a7 a8 a9 a10 k, LeO (qd.f k a0 a1 a2 a3 a4 a5 a6 a7 a8 a9 a10) (qd.f (k + 1) a0 a1 a2 a3 a4 a5 a6 a7 a8 a9 a10) := by
 intro a0 a1 a2 a3 a4 a5 a6 a7 a8 a9 a10 k
 obtain ⟨ih0, ih1, ih2, ih3, ih4, ih5, ih6, ih7, ih8, ih9, qk4, qk5⟩ := qd.qb2 k
 exact ih0 a0 a1 a2 a3 a4 a5 a6 a7 a8 a9 a10
end Go.Proofs.YtpgkhmdfddejfaaDoor.PV
end
