import Derived.Test.YtpgkhmdfddejfaaDoorZXPVx0
import Derived.Test.YtpgkhmdfddejfaaDoorZXPVx3
import Derived.Test.YtpgkhmdfddejfaaDoorZXPVx4
import Derived.Test.YtpgkhmdfddejfaaDoorZXPVx5
section
namespace Go.Proofs.YtpgkhmdfddejfaaDoor.PV
open Go.RowKit Go.Proofs.YtpgkhmdfddejfaaDoorW.PrintWords Go.Proofs.YtpgkhmdfddejfaaDoorW.PrintLast Go.Proofs.YtpgkhmdfddejfaaDoorW.PrintMore
attribute [local go_sem] qcn qcp qdi qdj qb6 qb7 qco qcq   -- for this text's walks alone
set_option linter.unusedVariables false
set_option linter.unusedSimpArgs false
mutual
def zz.j0 : Nat → Bool → Bool → Int → Int → Int → Int → ByteArray → Int → Int → ByteArray → List (S27) → List (S30) → List (S27) → Option (Bool)
 | 0, _, _, _, _, _, _, _, _, _, _, _, _, _ => none
 | k + 1, x3, x4, x5, zgh, zgi, zgj, zgk, zgl, zgm, zgn, zgo, zgp, qwa => zz.l0 k x3 x4 x5 qwa (qwa.length : Int) 0 zgh zgi zgj zgk zgl zgm zgn zgo zgp qwa
def zz.l0 : Nat → Bool → Bool → Int → List (S27) → Int → Int → Int → Int → Int → ByteArray → Int → Int → ByteArray → List (S27) → List (S30) → List (S27) → Option (Bool)
 | 0, _, _, _, _, _, _, _, _, _, _, _, _, _, _, _, _ => none
 | k + 1, x3, x4, x5, x41, x42, x43, zgh, zgi, zgj, zgk, zgl, zgm, zgn, zgo, zgp, qwa => if x43 < x42 then (if 0 ≤ x43 then (if x43 < (x41.length : Int) then ((qbe.f k ((zf x41 x43).f0) ((zf x41 x43).f1) ((zf x41 x43).f2) ((zf x41 x43).f3)).bind fun zt4 => (if zt4 = true then (zz.l0 k x3 x4 x5 x41 x42 (wrap64 (x43 + 1)) zgh zgi zgj zgk zgl zgm zgn zgo zgp qwa) else (some false))) else (none)) else (none)) else (if x3 = true then (if x4 = true then (some ((qwa.length : Int) == x5)) else (some false)) else (some false))
end
def zz.f (k : Nat) (qw : Int) (qy : Int) (za : Int) (yg : ByteArray) (ym : Int) (yf : Int) (yh : ByteArray) (yj : List (S27)) (qx : List (S30)) (zx : List (S27)) : Option (Bool) := (qhr.f ym yf yh yj).bind fun qoe => (if qw = 8 then ((qaj.f k yg).bind fun t162 => ((qbe.f k ym yf yh yj).bind fun q8p => (zz.j0 k t162 q8p 0 qw qy za yg ym yf yh yj qx zx))) else (if qw = 7 then ((qbe.f k ym yf yh yj).bind fun t164 => (zz.j0 k (yg.toList == ([] : List UInt8)) t164 0 qw qy za yg ym yf yh yj qx zx)) else (if qw = 9 then ((qaj.f k yg).bind fun zgb => (zz.j0 k zgb qoe 0 qw qy za yg ym yf yh yj qx zx)) else (if qw = 12 then ((qaj.f k yg).bind fun zgc => (zz.j0 k zgc qoe 0 qw qy za yg ym yf yh yj qx zx)) else (if qw = 11 then (zz.j0 k (yg.toList == ([] : List UInt8)) qoe (qx.length : Int) qw qy za yg ym yf yh yj qx zx) else (zz.j0 k (yg.toList == ([] : List UInt8)) qoe 0 qw qy za yg ym yf yh yj qx zx))))))
theorem zz.qb2 : ∀ k, (∀ y0 y1 y2 y3 y4 y5 y6 y7 y8 y9 y10 y11 y12, LeO (zz.j0 k y0 y1 y2 y3 y4 y5 y6 y7 y8 y9 y10 y11 y12) (zz.j0 (k + 1) y0 y1 y2 y3 y4 y5 y6 y7 y8 y9 y10 y11 y12)) ∧ (∀ y0 y1 y2 y3 y4 y5 y6 y7 y8 y9 y10 y11 y12 y13 y14 y15, LeO (zz.l0 k y0 y1 y2 y3 y4 y5 y6 y7 y8 y9 y10 y11 y12 y13 y14 y15) (zz.l0 (k + 1) y0 y1 y2 y3 y4 y5 y6 y7 y8 y9 y10 y11 y12 y13 y14 y15))
 | 0 => ⟨fun _ _ _ _ _ _ _ _ _ _ _ _ _ r h => by simp [zz.j0] at h, fun _ _ _ _ _ _ _ _ _ _ _ _ _ _ _ _ r h => by simp [zz.l0] at h⟩
 | k + 1 => by
  obtain ⟨ih0, ih1⟩ := zz.qb2 k
  refine ⟨?_, ?_⟩
  ·intro y0 y1 y2 y3 y4 y5 y6 y7 y8 y9 y10 y11 y12
   unfold zz.j0
   repeat' first
   | (with_reducible exact ih0 _ _ _ _ _ _ _ _ _ _ _ _ _)
   | (with_reducible exact ih1 _ _ _ _ _ _ _ _ _ _ _ _ _ _ _ _)
   | (with_reducible exact qbe.mono _ _ _ _ _)
   | (with_reducible exact qaj.mono _ _)
   | (with_reducible exact LeO.refl _)
   | (with_reducible exact LeO.none _)
   | (with_reducible refine LeO.ite ?_ ?_)
   | (with_reducible refine LeO.bind ?_ (fun _ => ?_))
   | exact ih0 _ _ _ _ _ _ _ _ _ _ _ _ _
   | exact ih1 _ _ _ _ _ _ _ _ _ _ _ _ _ _ _ _
   | exact qbe.mono _ _ _ _ _
   | exact qaj.mono _ _
   | exact LeO.none _
   | refine LeO.ite ?_ ?_
   | refine LeO.bind ?_ (fun _ => ?_)
  ·intro y0 y1 y2 y3 y4 y5 y6 y7 y8 y9 y10 y11 y12 y13 y14 y15
   unfold zz.l0
   repeat' first
   | (with_reducible exact ih0 _ _ _ _ _ _ _ _ _ _ _ _ _)
   | (with_reducible exact ih1 _ _ _ _ _ _ _ _ _ _ _ _ _ _ _ _)
   | (with_reducible exact qbe.mono _ _ _ _ _)
   | (with_reducible exact qaj.mono _ _)
   | (with_reducible exact LeO.refl _)
   | (with_reducible exact LeO.none _)
   | (with_reducible refine LeO.ite ?_ ?_)
   | (with_reducible refine LeO.bind ?_ (fun _ => ?_))
   | exact ih0 _ _ _ _ _ _ _ _ _ _ _ _ _
   | exact ih1 _ _ _ _ _ _ _ _ _ _ _ _ _ _ _ _
   | exact qbe.mono _ _ _ _ _
   | exact qaj.mono _ _
   | exact LeO.none _
   | refine LeO.ite ?_ ?_
   | refine LeO.bind ?_ (fun _ => ?_)
theorem zz.mono : ∀ a0 a1 a2 a3 a4 a5 a6 a7 a8 a9 k, LeO (zz.f k a0 a1 a2 a3 a4 a5 a6 a7 a8 a9) (zz.f (k + 1) a0 a1 a2 a3 a4 a5 a6 a7 a8 a9) := by
 intro a0 a1 a2 a3 a4 a5 a6 a7 a8 a9 k
 obtain ⟨ih0, ih1⟩ := zz.qb2 k
 unfold zz.f
 repeat' first
   | (with_reducible exact ih0 _ _ _ _ _ _ _ _ _ _ _ _ _)
   | (with_reducible exact ih1 _ _ _ _ _ _ _ _ _ _ _ _ _ _ _ _)
   | (with_reducible exact qbe.mono _ _ _ _ _)
   | (with_reducible exact qaj.mono _ _)
   | (with_reducible exact LeO.refl _)
   | (with_reducible exact LeO.none _)
   | (with_reducible refine LeO.ite ?_ ?_)
   | (with_reducible refine LeO.bind ?_ (fun _ => ?_))
   | exact ih0 _ _ _ _ _ _ _ _ _ _ _ _ _
   | exact ih1 _ _ _ _ _ _ _ _ _ _ _ _ _ _ _ _
   | exact qbe.mono _ _ _ _ _
   | exact qaj.mono _ _
   | exact LeO.none _
   | refine LeO.ite ?_ ?_
   | refine LeO.bind ?_ (fun _ => ?_)
def zz.T1 : Bool × List (List Nat × List Nat) := (true, [([], []), ([0], [0]), ([1], [1]), ([], []), ([3], [3]), ([4], [4]), ([2, 5, 0, 1, 2], [2]), ([5, 6, 0, 1, 2, 3, 4, 5, 6], [5]), ([7, 0, 1, 2, 3, 4, 5, 6, 7], [])])
def zz.B1 : List Nat := [0, 1, 3, 0, 8, 24, 63, 127, 255]
theorem zz.tab1 : rtab .any (opsOf Tryd.f69 1) = zz.T1 := by kernel_rfl
theorem zz.zo3 : ql3 zz.T1.2 zz.B1 = true := by kernel_rfl
def zz.T4 : Bool × List (List Nat × List Nat) := (true, [([], []), ([0], [0]), ([1], [1]), ([], []), ([3], [3]), ([4, 2], [4]), ([2, 5, 0, 1, 2], [2]), ([5, 6, 0, 1, 2, 3, 4, 5, 6], [5])])
def zz.B4 : List Nat := [0, 1, 3, 0, 8, 31, 63, 127]
theorem zz.tab4 : rtab .any (opsOf Tryd.f69 4) = zz.T4 := by kernel_rfl
theorem zz.zkc : ql3 zz.T4.2 zz.B4 = true := by kernel_rfl
set_option maxHeartbeats 8000000 in
set_option maxRecDepth 100000 in
theorem zz.calls (k : Nat) (qw : Int) (qy : Int) (za : Int) (yg : ByteArray) (ym : Int) (yf : Int) (yh : ByteArray) (qaa : Option Addr) (qab : Nat) (yj : List (S27)) (qai : Option Addr) (qaf : Nat) (qx : List (S30)) (qac : Option Addr) (vo : Nat) (zx : List (S27)) (r : Bool) (w : World) (qkx : Kd.C k27 w qaa yj.length yj) (qkv : yj.length ≤ qab) (qky : Kd.C k30 w qai qx.length qx) (qkw : qx.length ≤ qaf) (qhy : Kd.C k27 w qac zx.length zx) (qhx : zx.length ≤ vo) (hG : Lay w) (h : zz.f k qw qy za yg ym yf yh yj qx zx = some r) :
  Calls Tryd.prog 69 #[.agg #[.int .i64 qw, .int .i64 qy, .int .i64 za, .string yg, .int .i64 ym, .int .i64 yf, .string yh, .slice qaa yj.length qab, .slice qai qx.length qaf, .slice qac zx.length vo]] w fun e w' => e = .returned (.bool r) ∧ Below w.heap.size w w' := by
 have qwm := Tryd.underlying30
 have q0h := Tryd.underlying27
 have qlc := qf.mk qkx
 have qla := qf.mk qkv
 clear qkx qkv
 have qs4 := qf.mk qky
 have q61 := qf.mk qkw
 clear qky qkw
 have qoh := qf.mk qhy
 have qwq := qf.mk qhx
 clear qhy qhx
 have HB := qf.mk (Below.refl w.heap.size w)
 have HLAY := qf.mk hG
 clear hG
 have H : ((qhr.f ym yf yh yj).bind fun qoe => (if qw = 8 then ((qaj.f k yg).bind fun t162 => ((qbe.f k ym yf yh yj).bind fun q8p => (zz.j0 k t162 q8p 0 qw qy za yg ym yf yh yj qx zx))) else (if qw = 7 then ((qbe.f k ym yf yh yj).bind fun t164 => (zz.j0 k (yg.toList == ([] : List UInt8)) t164 0 qw qy za yg ym yf yh yj qx zx)) else (if qw = 9 then ((qaj.f k yg).bind fun zgb => (zz.j0 k zgb qoe 0 qw qy za yg ym yf yh yj qx zx)) else (if qw = 12 then ((qaj.f k yg).bind fun zgc => (zz.j0 k zgc qoe 0 qw qy za yg ym yf yh yj qx zx)) else (if qw = 11 then (zz.j0 k (yg.toList == ([] : List UInt8)) qoe (qx.length : Int) qw qy za yg ym yf yh yj qx zx) else (zz.j0 k (yg.toList == ([] : List UInt8)) qoe 0 qw qy za yg ym yf yh yj qx zx))))))) = some r := h
 clear h
 replace H := Option.bind_eq_some_iff.mp H
 obtain ⟨qoe, A20, H⟩ := H
 replace H : (if qw = 8 then ((qaj.f k yg).bind fun t162 => ((qbe.f k ym yf yh yj).bind fun q8p => (zz.j0 k t162 q8p 0 qw qy za yg ym yf yh yj qx zx))) else (if qw = 7 then ((qbe.f k ym yf yh yj).bind fun t164 => (zz.j0 k (yg.toList == ([] : List UInt8)) t164 0 qw qy za yg ym yf yh yj qx zx)) else (if qw = 9 then ((qaj.f k yg).bind fun zgb => (zz.j0 k zgb qoe 0 qw qy za yg ym yf yh yj qx zx)) else (if qw = 12 then ((qaj.f k yg).bind fun zgc => (zz.j0 k zgc qoe 0 qw qy za yg ym yf yh yj qx zx)) else (if qw = 11 then (zz.j0 k (yg.toList == ([] : List UInt8)) qoe (qx.length : Int) qw qy za yg ym yf yh yj qx zx) else (zz.j0 k (yg.toList == ([] : List UInt8)) qoe 0 qw qy za yg ym yf yh yj qx zx)))))) = some r := H
 have A2 := qf.mk A20
 clear A20
 have HC3 := qf.mk H
 clear H
 go_enter Tryd.func69, Tryd.ntmps69
 try go_wp2_with (first | ((with_reducible refine qah (N := 1) rfl ?_); (try (refine qbg (by rfl) ?_; dsimp only)); refine vk ?hg (N := 1) ?hd (cs := #[.int .i64 qw, .int .i64 qy, .int .i64 za, .string yg, .int .i64 ym, .int .i64 yf, .string yh, .slice qaa yj.length qab, .slice qai qx.length qaf, .slice qac zx.length vo]) (t := 30) ?hr ?_; (case hd => rfl); (case hg => rfl); (case hr => first | (go_simp; done) | (go_simp; rfl)); intro qag hg w4 hbox hb; have n0_ := qf.mk (zk (by repeat (first | (with_reducible first | exact HB.out | apply qg | apply qc | apply qh) | exact HB.out)) hb); have n1_ := qf.mk (hbox); have n2_ := qf.mk ((by rw [hg]; exact (zo (by repeat (first | (with_reducible first | exact HB.out | apply qg | apply qc | apply qh) | exact HB.out))) : w.heap.size ≤ qag)); have n3_ := qf.mk ((by rw [hg]; exact (zo (by repeat (first | (with_reducible first | exact HB.out | apply qg | apply qc | apply qh) | exact HB.out))) : w.heap.size ≤ qag)); clear HB; have HB := n0_; have yl := n1_; have z2d := n2_; have qde := n3_; clear n0_ n1_ n2_ n3_; clear hb hbox hg))
 have n0_ := qf.mk (qo yl.out)
 have n1_ := qf.mk (qh HB.out)
 clear yl
 clear HB
 have yl := n0_
 have HB := n1_
 clear n0_ n1_
 refine qwo (n := 9) (S := fun w' => w'.cell? ⟨qag, 0, none⟩ = some (.int .i64 qw) ∧ w'.cell? ⟨qag, 1, none⟩ = some (.int .i64 qy) ∧ w'.cell? ⟨qag, 2, none⟩ = some (.int .i64 za) ∧ w'.cell? ⟨qag, 3, none⟩ = some (.string yg) ∧ w'.cell? ⟨qag, 4, none⟩ = some (.int .i64 ym) ∧ w'.cell? ⟨qag, 5, none⟩ = some (.int .i64 yf) ∧ w'.cell? ⟨qag, 6, none⟩ = some (.string yh) ∧ w'.cell? ⟨qag, 7, none⟩ = some (.slice qaa yj.length qab) ∧ w'.cell? ⟨qag, 8, none⟩ = some (.slice qai qx.length qaf) ∧ w'.cell? ⟨qag, 9, none⟩ = some (.slice qac zx.length vo)) (ds := []) #[false, false, false, false, false, false, false, false, false] (by kernel_rfl) rfl rfl ⟨(qb yl.out 0).trans rfl, (qb yl.out 1).trans rfl, (qb yl.out 2).trans rfl, (qb yl.out 3).trans rfl, (qb yl.out 4).trans rfl, (qb yl.out 5).trans rfl, (qb yl.out 6).trans rfl, (qb yl.out 7).trans rfl, (qb yl.out 8).trans rfl, (qb yl.out 9).trans rfl⟩ (fun hHeld => ?_); refine qjl zz.tab1 zz.zo3 (fun HT_ HW_ => ?_)
 generalize w4.drew = w5 at yl HB hHeld ⊢
 refine qcb (i := 0) (N := some 8) (v := ?_) (a' := ?_) #[true, false, false, false, false, false, false, false, false] rfl rfl (qbr HT_.out (by kernel_rfl)) (fun _ _ _ h => h) (Or.inl ⟨by rfl, ?_⟩) ?_ ?_
 rotate_left
 ·intro w'
  go_simp
  with_reducible rfl
 rotate_left
 ·simp only [Act.put, List.setIfInBounds_toArray, List.set_cons_zero, List.set_cons_succ, vz, vw]
  rfl
 refine qcb (i := 3) (N := some 11) (v := ?_) (a' := ?_) #[true, false, false, true, false, false, false, false, false] rfl rfl (qbr HT_.out (by kernel_rfl)) (fun _ _ _ h => h) (Or.inl ⟨by rfl, ?_⟩) ?_ ?_
 rotate_left
 ·intro w'
  go_simp
  with_reducible rfl
 rotate_left
 ·simp only [Act.put, List.setIfInBounds_toArray, List.set_cons_zero, List.set_cons_succ, vz, vw]
  rfl
 refine qfz (i := 1) (N := some 9) (v := ?_) (a' := ?_) #[true, true, false, true, false, false, false, false, false] rfl rfl (qce HT_.out HW_.out (by kernel_rfl)) (fun _ _ _ h => h) (Or.inl ⟨by rfl, ?_⟩) hHeld ?_ ?_
 rotate_left
 ·rintro w' ⟨s0, s1, s2, s3, s4, s5, s6, s7, s8, s9⟩
  go_simp
  with_reducible rfl
 rotate_left
 ·simp only [Act.put, List.setIfInBounds_toArray, List.set_cons_zero, List.set_cons_succ, vz, vw]
  rfl
 refine qcb (i := 2) (N := some 10) (v := ?_) (a' := ?_) #[true, true, true, true, false, false, false, false, false] rfl rfl (qbr HT_.out (by kernel_rfl)) (fun _ _ _ h => h) (Or.inl ⟨by rfl, ?_⟩) ?_ ?_
 rotate_left
 ·intro w'
  go_simp
  with_reducible rfl
 rotate_left
 ·simp only [Act.put, List.setIfInBounds_toArray, List.set_cons_zero, List.set_cons_succ, vz, vw]
  rfl
 refine qfz (i := 4) (N := some 12) (v := ?_) (a' := ?_) #[true, true, true, true, true, false, false, false, false] rfl rfl (qce HT_.out HW_.out (by kernel_rfl)) (fun _ _ _ h => h) (Or.inl ⟨by rfl, ?_⟩) hHeld ?_ ?_
 rotate_left
 ·rintro w' ⟨s0, s1, s2, s3, s4, s5, s6, s7, s8, s9⟩
  go_simp
  with_reducible rfl
 rotate_left
 ·simp only [Act.put, List.setIfInBounds_toArray, List.set_cons_zero, List.set_cons_succ, vz, vw]
  rfl
 refine one_ (i := 5) (N := some 13) #[true, true, true, true, true, true, false, false, false] rfl rfl (qk6 HT_.out (by kernel_rfl)) (by decide) (fun K hK => ?_)
 refine qte Tryd.func81 (by kernel_rfl) rfl #[.agg #[.int .i64 ym, .int .i64 yf, .string yh, .slice qaa yj.length qab]] (by rfl) rfl rfl (by (try simp only [List.map_toArray, List.map_cons, List.map_nil]); first | done | rfl | (simp only [List.length_drop, List.length_take]; rfl)) ?_
 with_reducible refine (qhr.calls ym yf yh _ _ yj qoe _ ?side1 ?side2 A2.out).mono ?_
 (case side1 => repeat (first | exact (Kd.vv qlc.out HB.out) | (with_reducible refine Kd.qba ?_ _) | (with_reducible refine Kd.qaz ?_ _) | (with_reducible refine Kd.qbq ?_)))
 (case side2 => exact qla.out)
 rintro e w6 ⟨rfl, hb⟩
 refine ⟨_, rfl, ?_⟩
 have n0_ := qf.mk (zl (g := qag) (o := .cells #[.int .i64 qw, .int .i64 qy, .int .i64 za, .string yg, .int .i64 ym, .int .i64 yf, .string yh, .slice qaa yj.length qab, .slice qai qx.length qaf, .slice qac zx.length vo] 30 (0, 0)) (by (with_reducible repeat (first | refine qj ?_ _ | refine qo ?_ | refine qi ?_ _)); exact yl.out) hb)
 have n1_ := qf.mk (zk (by repeat (first | (with_reducible first | exact HB.out | apply qg | apply qc | apply qh | refine ql ?_ qde.out) | exact HB.out)) hb)
 clear yl
 clear HB
 have yl := n0_
 have HB := n1_
 clear n0_ n1_
 (try clear hb)
 (try clear hb2)
 (try clear hk)
 (try clear hi)
 refine hK.out _ _ ⟨(qb yl.out 0).trans rfl, (qb yl.out 1).trans rfl, (qb yl.out 2).trans rfl, (qb yl.out 3).trans rfl, (qb yl.out 4).trans rfl, (qb yl.out 5).trans rfl, (qb yl.out 6).trans rfl, (qb yl.out 7).trans rfl, (qb yl.out 8).trans rfl, (qb yl.out 9).trans rfl⟩ (fun hHeld => ?_)
 clear hK K
 refine qth (a' := ?_) ?_ ?_
 rotate_left
 ·show Act.put _ (some 13) _ = _
  simp only [Act.put, List.setIfInBounds_toArray, List.set_cons_zero, List.set_cons_succ, vz, vw]
  rfl
 refine qcb (i := 6) (N := some 3) (v := ?_) (a' := ?_) #[true, true, true, true, true, true, true, false, false] rfl rfl (qbr HT_.out (by kernel_rfl)) (fun _ _ _ h => h) (Or.inl ⟨by rfl, ?_⟩) ?_ ?_
 rotate_left
 ·intro w'
  go_simp
  with_reducible rfl
 rotate_left
 ·simp only [Act.put, List.setIfInBounds_toArray, List.set_cons_zero, List.set_cons_succ, vz, vw]
  rfl
 refine qcb (i := 7) (N := some 4) (v := ?_) (a' := ?_) #[true, true, true, true, true, true, true, true, false] rfl rfl (qbr HT_.out (by kernel_rfl)) (fun _ _ _ h => h) (Or.inl ⟨by rfl, ?_⟩) ?_ ?_
 rotate_left
 ·intro w'
  go_simp
  with_reducible rfl
 rotate_left
 ·simp only [Act.put, List.setIfInBounds_toArray, List.set_cons_zero, List.set_cons_succ, vz, vw]
  rfl
 refine qcb (i := 8) (N := some 5) (v := ?_) (a' := ?_) #[true, true, true, true, true, true, true, true, true] rfl rfl (qbr HT_.out (by kernel_rfl)) (fun _ _ _ h => h) (Or.inl ⟨by rfl, ?_⟩) ?_ ?_
 rotate_left
 ·intro w'
  go_simp
  with_reducible rfl
 rotate_left
 ·simp only [Act.put, List.setIfInBounds_toArray, List.set_cons_zero, List.set_cons_succ, vz, vw]
  rfl
 refine q7e (qoz HT_.out (by kernel_rfl)) ?_
 have qf7 : w6.cell? ⟨qag, 0, none⟩ = some (.int .i64 qw) := (qb yl.out 0).trans rfl
 have qf8 : w6.cell? ⟨qag, 1, none⟩ = some (.int .i64 qy) := (qb yl.out 1).trans rfl
 have qf9 : w6.cell? ⟨qag, 2, none⟩ = some (.int .i64 za) := (qb yl.out 2).trans rfl
 have qga : w6.cell? ⟨qag, 3, none⟩ = some (.string yg) := (qb yl.out 3).trans rfl
 have qh5 : w6.cell? ⟨qag, 4, none⟩ = some (.int .i64 ym) := (qb yl.out 4).trans rfl
 have qh6 : w6.cell? ⟨qag, 5, none⟩ = some (.int .i64 yf) := (qb yl.out 5).trans rfl
 have qh7 : w6.cell? ⟨qag, 6, none⟩ = some (.string yh) := (qb yl.out 6).trans rfl
 have qh8 : w6.cell? ⟨qag, 7, none⟩ = some (.slice qaa yj.length qab) := (qb yl.out 7).trans rfl
 have qh9 : w6.cell? ⟨qag, 8, none⟩ = some (.slice qai qx.length qaf) := (qb yl.out 8).trans rfl
 have qia : w6.cell? ⟨qag, 9, none⟩ = some (.slice qac zx.length vo) := (qb yl.out 9).trans rfl
 have qdu := qa yl.out 0
 have qdv := qa yl.out 1
 have qdw := qa yl.out 2
 have qdx := qa yl.out 3
 have qfl := qa yl.out 4
 have qfm := qa yl.out 5
 have qfn := qa yl.out 6
 have qfo := qa yl.out 7
 have qfp := qa yl.out 8
 have qfq := qa yl.out 9
 go_upto_block 0 with (fail)
 go_cut [3, 4, 5] (fun v3 v4 v5 wc => ∃ (kq : Nat) (zj4 : Bool) (zh8 : Bool) (zh9 : Int), v3 = .bool zj4 ∧ v4 = .bool zh8 ∧ v5 = .int .i64 zh9 ∧ qf (zz.j0 kq zj4 zh8 zh9 qw qy za yg ym yf yh yj qx zx = some r) ∧ qf (kq ≤ k) ∧ qf (wc.heap[qag]? = some (.cells #[.int .i64 qw, .int .i64 qy, .int .i64 za, .string yg, .int .i64 ym, .int .i64 yf, .string yh, (.slice qaa yj.length qab), (.slice qai qx.length qaf), (.slice qac zx.length vo)] 30 (0, 0))) ∧ qf (Below w.heap.size w wc))
 case first =>
  have H := HC3.out
  clear HC3
  by_cases c8 : qw = 8
  ·rw [if_pos c8] at H
   have c8b0 : (qw == 8) = true := beq_iff_eq.mpr c8
   have c8b1 : (qw != 8) = false := bne_eq_false_iff_eq.mpr c8
   clear c8
   (first | rw [c8b0] | (simp only [vz, vw]; rw [c8b0]) | skip)
   replace H := Option.bind_eq_some_iff.mp H
   obtain ⟨t162, A90, H⟩ := H
   replace H : ((qbe.f k ym yf yh yj).bind fun q8p => (zz.j0 k t162 q8p 0 qw qy za yg ym yf yh yj qx zx)) = some r := H
   have A9 := qf.mk A90
   clear A90
   replace H := Option.bind_eq_some_iff.mp H
   obtain ⟨q8p, q8s, H⟩ := H
   replace H : (zz.j0 k t162 q8p 0 qw qy za yg ym yf yh yj qx zx) = some r := H
   have A10 := qf.mk q8s
   clear q8s
   have H' := qf.mk H
   clear H
   try go_wp2
   have n0_ := qf.mk (qo yl.out)
   have n1_ := qf.mk (qh HB.out)
   clear yl
   clear HB
   have yl := n0_
   have HB := n1_
   clear n0_ n1_
   refine qwo (n := 8) (S := fun w' => w'.cell? ⟨qag, 0, none⟩ = some (.int .i64 qw) ∧ w'.cell? ⟨qag, 1, none⟩ = some (.int .i64 qy) ∧ w'.cell? ⟨qag, 2, none⟩ = some (.int .i64 za) ∧ w'.cell? ⟨qag, 3, none⟩ = some (.string yg) ∧ w'.cell? ⟨qag, 4, none⟩ = some (.int .i64 ym) ∧ w'.cell? ⟨qag, 5, none⟩ = some (.int .i64 yf) ∧ w'.cell? ⟨qag, 6, none⟩ = some (.string yh) ∧ w'.cell? ⟨qag, 7, none⟩ = some (.slice qaa yj.length qab) ∧ w'.cell? ⟨qag, 8, none⟩ = some (.slice qai qx.length qaf) ∧ w'.cell? ⟨qag, 9, none⟩ = some (.slice qac zx.length vo)) (ds := []) #[false, false, false, false, false, false, false, false] (by kernel_rfl) rfl rfl ⟨(qb yl.out 0).trans rfl, (qb yl.out 1).trans rfl, (qb yl.out 2).trans rfl, (qb yl.out 3).trans rfl, (qb yl.out 4).trans rfl, (qb yl.out 5).trans rfl, (qb yl.out 6).trans rfl, (qb yl.out 7).trans rfl, (qb yl.out 8).trans rfl, (qb yl.out 9).trans rfl⟩ (fun hHeld => ?_); refine qjl zz.tab4 zz.zkc (fun HT_ HW_ => ?_)
   generalize w6.drew = w11 at yl HB hHeld ⊢
   refine qcb (i := 0) (N := some 18) (v := ?_) (a' := ?_) #[true, false, false, false, false, false, false, false] rfl rfl (qbr HT_.out (by kernel_rfl)) (fun _ _ _ h => h) (Or.inl ⟨by rfl, ?_⟩) ?_ ?_
   rotate_left
   ·intro w'
    go_simp
    with_reducible rfl
   rotate_left
   ·simp only [Act.put, List.setIfInBounds_toArray, List.set_cons_zero, List.set_cons_succ, vz, vw]
    rfl
   refine qcb (i := 3) (N := some 21) (v := ?_) (a' := ?_) #[true, false, false, true, false, false, false, false] rfl rfl (qbr HT_.out (by kernel_rfl)) (fun _ _ _ h => h) (Or.inl ⟨by rfl, ?_⟩) ?_ ?_
   rotate_left
   ·intro w'
    go_simp
    with_reducible rfl
   rotate_left
   ·simp only [Act.put, List.setIfInBounds_toArray, List.set_cons_zero, List.set_cons_succ, vz, vw]
    rfl
   refine qfz (i := 1) (N := some 19) (v := ?_) (a' := ?_) #[true, true, false, true, false, false, false, false] rfl rfl (qce HT_.out HW_.out (by kernel_rfl)) (fun _ _ _ h => h) (Or.inl ⟨by rfl, ?_⟩) hHeld ?_ ?_
   rotate_left
   ·rintro w' ⟨s0, s1, s2, s3, s4, s5, s6, s7, s8, s9⟩
    go_simp
    with_reducible rfl
   rotate_left
   ·simp only [Act.put, List.setIfInBounds_toArray, List.set_cons_zero, List.set_cons_succ, vz, vw]
    rfl
   refine qfz (i := 4) (N := some 22) (v := ?_) (a' := ?_) #[true, true, false, true, true, false, false, false] rfl rfl (qce HT_.out HW_.out (by kernel_rfl)) (fun _ _ _ h => h) (Or.inl ⟨by rfl, ?_⟩) hHeld ?_ ?_
   rotate_left
   ·rintro w' ⟨s0, s1, s2, s3, s4, s5, s6, s7, s8, s9⟩
    go_simp
    with_reducible rfl
   rotate_left
   ·simp only [Act.put, List.setIfInBounds_toArray, List.set_cons_zero, List.set_cons_succ, vz, vw]
    rfl
   refine one_ (i := 2) (N := some 20) #[true, true, true, true, true, false, false, false] rfl rfl (qk6 HT_.out (by kernel_rfl)) (by decide) (fun K hK => ?_)
   refine qte Tryd.func82 (by kernel_rfl) rfl #[.string yg] (by rfl) rfl rfl (by (try simp only [List.map_toArray, List.map_cons, List.map_nil]); first | done | rfl | (simp only [List.length_drop, List.length_take]; rfl)) ?_
   with_reducible refine (qaj.calls k yg t162 _ ?side1 A9.out).mono ?_
   (case side1 => exact Lay.below HLAY.out (by repeat (first | (with_reducible first | exact HB.out | apply qg | apply qc | apply qh | refine ql ?_ qde.out) | exact HB.out)))
   rintro e w12 ⟨rfl, hb⟩
   refine ⟨_, rfl, ?_⟩
   have n0_ := qf.mk (zl (g := qag) (o := .cells #[.int .i64 qw, .int .i64 qy, .int .i64 za, .string yg, .int .i64 ym, .int .i64 yf, .string yh, .slice qaa yj.length qab, .slice qai qx.length qaf, .slice qac zx.length vo] 30 (0, 0)) (by (with_reducible repeat (first | refine qj ?_ _ | refine qo ?_ | refine qi ?_ _)); exact yl.out) hb)
   have n1_ := qf.mk (zk (by repeat (first | (with_reducible first | exact HB.out | apply qg | apply qc | apply qh | refine ql ?_ qde.out) | exact HB.out)) hb)
   clear yl
   clear HB
   have yl := n0_
   have HB := n1_
   clear n0_ n1_
   (try clear hb)
   (try clear hb2)
   (try clear hk)
   (try clear hi)
   refine hK.out _ _ ⟨(qb yl.out 0).trans rfl, (qb yl.out 1).trans rfl, (qb yl.out 2).trans rfl, (qb yl.out 3).trans rfl, (qb yl.out 4).trans rfl, (qb yl.out 5).trans rfl, (qb yl.out 6).trans rfl, (qb yl.out 7).trans rfl, (qb yl.out 8).trans rfl, (qb yl.out 9).trans rfl⟩ (fun hHeld => ?_)
   clear hK K
   refine qth (a' := ?_) ?_ ?_
   rotate_left
   ·show Act.put _ (some 20) _ = _
    simp only [Act.put, List.setIfInBounds_toArray, List.set_cons_zero, List.set_cons_succ, vz, vw]
    rfl
   refine one_ (i := 5) (N := some 23) #[true, true, true, true, true, true, false, false] rfl rfl (qk6 HT_.out (by kernel_rfl)) (by decide) (fun K hK => ?_)
   refine qte Tryd.func83 (by kernel_rfl) rfl #[.agg #[.int .i64 ym, .int .i64 yf, .string yh, .slice qaa yj.length qab]] (by rfl) rfl rfl (by (try simp only [List.map_toArray, List.map_cons, List.map_nil]); first | done | rfl | (simp only [List.length_drop, List.length_take]; rfl)) ?_
   with_reducible refine (qbe.calls k ym yf yh _ _ yj q8p _ ?side1 ?side2 ?side3 A10.out).mono ?_
   (case side1 => repeat (first | exact (Kd.vv qlc.out HB.out) | (with_reducible refine Kd.qba ?_ _) | (with_reducible refine Kd.qaz ?_ _) | (with_reducible refine Kd.qbq ?_)))
   (case side2 => exact qla.out)
   (case side3 => exact Lay.below HLAY.out (by repeat (first | (with_reducible first | exact HB.out | apply qg | apply qc | apply qh | refine ql ?_ qde.out) | exact HB.out)))
   rintro e w13 ⟨rfl, hb⟩
   refine ⟨_, rfl, ?_⟩
   have n0_ := qf.mk (zl (g := qag) (o := .cells #[.int .i64 qw, .int .i64 qy, .int .i64 za, .string yg, .int .i64 ym, .int .i64 yf, .string yh, .slice qaa yj.length qab, .slice qai qx.length qaf, .slice qac zx.length vo] 30 (0, 0)) (by (with_reducible repeat (first | refine qj ?_ _ | refine qo ?_ | refine qi ?_ _)); exact yl.out) hb)
   have n1_ := qf.mk (zk (by repeat (first | (with_reducible first | exact HB.out | apply qg | apply qc | apply qh | refine ql ?_ qde.out) | exact HB.out)) hb)
   clear yl
   clear HB
   have yl := n0_
   have HB := n1_
   clear n0_ n1_
   (try clear hb)
   (try clear hb2)
   (try clear hk)
   (try clear hi)
   refine hK.out _ _ ⟨(qb yl.out 0).trans rfl, (qb yl.out 1).trans rfl, (qb yl.out 2).trans rfl, (qb yl.out 3).trans rfl, (qb yl.out 4).trans rfl, (qb yl.out 5).trans rfl, (qb yl.out 6).trans rfl, (qb yl.out 7).trans rfl, (qb yl.out 8).trans rfl, (qb yl.out 9).trans rfl⟩ (fun hHeld => ?_)
   clear hK K
   refine qth (a' := ?_) ?_ ?_
   rotate_left
   ·show Act.put _ (some 23) _ = _
    simp only [Act.put, List.setIfInBounds_toArray, List.set_cons_zero, List.set_cons_succ, vz, vw]
    rfl
   refine qcb (i := 6) (N := some 3) (v := ?_) (a' := ?_) #[true, true, true, true, true, true, true, false] rfl rfl (qbr HT_.out (by kernel_rfl)) (fun _ _ _ h => h) (Or.inl ⟨by rfl, ?_⟩) ?_ ?_
   rotate_left
   ·intro w'
    go_simp
    with_reducible rfl
   rotate_left
   ·simp only [Act.put, List.setIfInBounds_toArray, List.set_cons_zero, List.set_cons_succ, vz, vw]
    rfl
   refine qcb (i := 7) (N := some 4) (v := ?_) (a' := ?_) #[true, true, true, true, true, true, true, true] rfl rfl (qbr HT_.out (by kernel_rfl)) (fun _ _ _ h => h) (Or.inl ⟨by rfl, ?_⟩) ?_ ?_
   rotate_left
   ·intro w'
    go_simp
    with_reducible rfl
   rotate_left
   ·simp only [Act.put, List.setIfInBounds_toArray, List.set_cons_zero, List.set_cons_succ, vz, vw]
    rfl
   refine q7e (qoz HT_.out (by kernel_rfl)) ?_
   try go_wp2
   go_meet
   case rel => exact ⟨_, (t162), (q8p), (0), (by first | rfl | (simp; done) | (simp [*]; done)), (by first | rfl | (simp; done) | (simp [*]; done)), (by first | rfl | (simp; done) | (simp [*]; done)), H', ⟨by first | omega | exact Nat.le_refl _⟩, ⟨by (with_reducible repeat (first | refine qj ?_ _ | refine qo ?_ | refine qi ?_ _)); exact yl.out⟩, ⟨by repeat (first | (with_reducible first | exact HB.out | apply qg | apply qc | apply qh | refine ql ?_ qde.out) | exact HB.out)⟩⟩
  ·rw [if_neg c8] at H
   have c8b0 : (qw == 8) = false := beq_eq_false_iff_ne.mpr c8
   have c8b1 : (qw != 8) = true := bne_iff_ne.mpr c8
   (first | rw [c8b0] | (simp only [vz, vw]; rw [c8b0]) | skip)
   by_cases c14 : qw = 7
   ·rw [if_pos c14] at H
    have c14b0 : (qw == 7) = true := beq_iff_eq.mpr c14
    have c14b1 : (qw != 7) = false := bne_eq_false_iff_eq.mpr c14
    clear c14
    replace H := Option.bind_eq_some_iff.mp H
    obtain ⟨t164, zwq, H⟩ := H
    replace H : (zz.j0 k (yg.toList == ([] : List UInt8)) t164 0 qw qy za yg ym yf yh yj qx zx) = some r := H
    have A15 := qf.mk zwq
    clear zwq
    have H' := qf.mk H
    clear H
    have qg6 : w6.cell? ⟨qag, 0, none⟩ = some (.int .i64 qw) := (qb yl.out 0).trans rfl
    have qg7 : w6.cell? ⟨qag, 1, none⟩ = some (.int .i64 qy) := (qb yl.out 1).trans rfl
    have qg8 : w6.cell? ⟨qag, 2, none⟩ = some (.int .i64 za) := (qb yl.out 2).trans rfl
    have qg9 : w6.cell? ⟨qag, 3, none⟩ = some (.string yg) := (qb yl.out 3).trans rfl
    have qtu : w6.cell? ⟨qag, 4, none⟩ = some (.int .i64 ym) := (qb yl.out 4).trans rfl
    have qtv : w6.cell? ⟨qag, 5, none⟩ = some (.int .i64 yf) := (qb yl.out 5).trans rfl
    have qtw : w6.cell? ⟨qag, 6, none⟩ = some (.string yh) := (qb yl.out 6).trans rfl
    have qtx : w6.cell? ⟨qag, 7, none⟩ = some (.slice qaa yj.length qab) := (qb yl.out 7).trans rfl
    have qty : w6.cell? ⟨qag, 8, none⟩ = some (.slice qai qx.length qaf) := (qb yl.out 8).trans rfl
    have qtz : w6.cell? ⟨qag, 9, none⟩ = some (.slice qac zx.length vo) := (qb yl.out 9).trans rfl
    have qdq := qa yl.out 0
    have qdr := qa yl.out 1
    have qds := qa yl.out 2
    have qdt := qa yl.out 3
    have qgm := qa yl.out 4
    have qgn := qa yl.out 5
    have qgo := qa yl.out 6
    have qgp := qa yl.out 7
    have qgq := qa yl.out 8
    have qgr := qa yl.out 9
    go_wp2_with (first | ((with_reducible refine qaq (f := 83) rfl ?_); refine qcj (some 28) rfl rfl Tryd.func83 (by kernel_rfl) rfl #[.agg #[.int .i64 ym, .int .i64 yf, .string yh, .slice qaa yj.length qab]] rfl (by (try simp only [List.map_toArray, List.map_cons, List.map_nil]); first | done | rfl | (simp only [List.length_drop, List.length_take]; rfl)) ?_; (with_reducible refine (qbe.calls k ym yf yh _ _ yj t164 _ ?side1 ?side2 ?side3 A15.out).mono ?_); (case side1 => repeat (first | exact (Kd.vv qlc.out HB.out) | (with_reducible refine Kd.qba ?_ _) | (with_reducible refine Kd.qaz ?_ _) | (with_reducible refine Kd.qbq ?_))); (case side2 => exact qla.out); (case side3 => exact Lay.below HLAY.out (by repeat (first | (with_reducible first | exact HB.out | apply qg | apply qc | apply qh | refine ql ?_ qde.out) | exact HB.out))); rintro e w17 ⟨rfl, hb⟩; refine ⟨_, rfl, ?_⟩; have n0_ := qf.mk (zl (g := qag) (o := .cells #[.int .i64 qw, .int .i64 qy, .int .i64 za, .string yg, .int .i64 ym, .int .i64 yf, .string yh, .slice qaa yj.length qab, .slice qai qx.length qaf, .slice qac zx.length vo] 30 (0, 0)) (by (with_reducible repeat (first | refine qj ?_ _ | refine qo ?_ | refine qi ?_ _)); exact yl.out) hb); have n1_ := qf.mk (zk (by repeat (first | (with_reducible first | exact HB.out | apply qg | apply qc | apply qh | refine ql ?_ qde.out) | exact HB.out)) hb); clear yl; clear HB; have yl := n0_; have HB := n1_; clear n0_ n1_; (try clear hb); (try clear hb2); (try clear hk); (try clear hi)))
    go_meet
    case rel => exact ⟨_, ((yg.toList == ([] : List UInt8))), (t164), (0), (by first | rfl | (simp; done) | (simp [*]; done)), (by first | rfl | (simp; done) | (simp [*]; done)), (by first | rfl | (simp; done) | (simp [*]; done)), H', ⟨by first | omega | exact Nat.le_refl _⟩, ⟨by (with_reducible repeat (first | refine qj ?_ _ | refine qo ?_ | refine qi ?_ _)); exact yl.out⟩, ⟨by repeat (first | (with_reducible first | exact HB.out | apply qg | apply qc | apply qh | refine ql ?_ qde.out) | exact HB.out)⟩⟩
   ·rw [if_neg c14] at H
    have c14b0 : (qw == 7) = false := beq_eq_false_iff_ne.mpr c14
    have c14b1 : (qw != 7) = true := bne_iff_ne.mpr c14
    by_cases c18 : qw = 9
    ·rw [if_pos c18] at H
     have c18b0 : (qw == 9) = true := beq_iff_eq.mpr c18
     have c18b1 : (qw != 9) = false := bne_eq_false_iff_eq.mpr c18
     clear c18
     replace H := Option.bind_eq_some_iff.mp H
     obtain ⟨zgb, zon, H⟩ := H
     replace H : (zz.j0 k zgb qoe 0 qw qy za yg ym yf yh yj qx zx) = some r := H
     have A19 := qf.mk zon
     clear zon
     have H' := qf.mk H
     clear H
     have qjq : w6.cell? ⟨qag, 0, none⟩ = some (.int .i64 qw) := (qb yl.out 0).trans rfl
     have qjr : w6.cell? ⟨qag, 1, none⟩ = some (.int .i64 qy) := (qb yl.out 1).trans rfl
     have qjs : w6.cell? ⟨qag, 2, none⟩ = some (.int .i64 za) := (qb yl.out 2).trans rfl
     have qjt : w6.cell? ⟨qag, 3, none⟩ = some (.string yg) := (qb yl.out 3).trans rfl
     have qxc : w6.cell? ⟨qag, 4, none⟩ = some (.int .i64 ym) := (qb yl.out 4).trans rfl
     have qxd : w6.cell? ⟨qag, 5, none⟩ = some (.int .i64 yf) := (qb yl.out 5).trans rfl
     have qxe : w6.cell? ⟨qag, 6, none⟩ = some (.string yh) := (qb yl.out 6).trans rfl
     have qxf : w6.cell? ⟨qag, 7, none⟩ = some (.slice qaa yj.length qab) := (qb yl.out 7).trans rfl
     have qxg : w6.cell? ⟨qag, 8, none⟩ = some (.slice qai qx.length qaf) := (qb yl.out 8).trans rfl
     have qxh : w6.cell? ⟨qag, 9, none⟩ = some (.slice qac zx.length vo) := (qb yl.out 9).trans rfl
     have qem := qa yl.out 0
     have qen := qa yl.out 1
     have qeo := qa yl.out 2
     have qep := qa yl.out 3
     have qhk := qa yl.out 4
     have qhl := qa yl.out 5
     have qhm := qa yl.out 6
     have qhn := qa yl.out 7
     have qho := qa yl.out 8
     have qhp := qa yl.out 9
     go_wp2_with (first | ((with_reducible refine qaq (f := 82) rfl ?_); refine qcj (some 34) rfl rfl Tryd.func82 (by kernel_rfl) rfl #[.string yg] rfl (by (try simp only [List.map_toArray, List.map_cons, List.map_nil]); first | done | rfl | (simp only [List.length_drop, List.length_take]; rfl)) ?_; (with_reducible refine (qaj.calls k yg zgb _ ?side1 A19.out).mono ?_); (case side1 => exact Lay.below HLAY.out (by repeat (first | (with_reducible first | exact HB.out | apply qg | apply qc | apply qh | refine ql ?_ qde.out) | exact HB.out))); rintro e w21 ⟨rfl, hb⟩; refine ⟨_, rfl, ?_⟩; have n0_ := qf.mk (zl (g := qag) (o := .cells #[.int .i64 qw, .int .i64 qy, .int .i64 za, .string yg, .int .i64 ym, .int .i64 yf, .string yh, .slice qaa yj.length qab, .slice qai qx.length qaf, .slice qac zx.length vo] 30 (0, 0)) (by (with_reducible repeat (first | refine qj ?_ _ | refine qo ?_ | refine qi ?_ _)); exact yl.out) hb); have n1_ := qf.mk (zk (by repeat (first | (with_reducible first | exact HB.out | apply qg | apply qc | apply qh | refine ql ?_ qde.out) | exact HB.out)) hb); clear yl; clear HB; have yl := n0_; have HB := n1_; clear n0_ n1_; (try clear hb); (try clear hb2); (try clear hk); (try clear hi)))
     go_meet
     case rel => exact ⟨_, (zgb), (qoe), (0), (by first | rfl | (simp; done) | (simp [*]; done)), (by first | rfl | (simp; done) | (simp [*]; done)), (by first | rfl | (simp; done) | (simp [*]; done)), H', ⟨by first | omega | exact Nat.le_refl _⟩, ⟨by (with_reducible repeat (first | refine qj ?_ _ | refine qo ?_ | refine qi ?_ _)); exact yl.out⟩, ⟨by repeat (first | (with_reducible first | exact HB.out | apply qg | apply qc | apply qh | refine ql ?_ qde.out) | exact HB.out)⟩⟩
    ·rw [if_neg c18] at H
     have c18b0 : (qw == 9) = false := beq_eq_false_iff_ne.mpr c18
     have c18b1 : (qw != 9) = true := bne_iff_ne.mpr c18
     by_cases c22 : qw = 12
     ·rw [if_pos c22] at H
      have c22b0 : (qw == 12) = true := beq_iff_eq.mpr c22
      have c22b1 : (qw != 12) = false := bne_eq_false_iff_eq.mpr c22
      clear c22
      replace H := Option.bind_eq_some_iff.mp H
      obtain ⟨zgc, zws, H⟩ := H
      replace H : (zz.j0 k zgc qoe 0 qw qy za yg ym yf yh yj qx zx) = some r := H
      have A23 := qf.mk zws
      clear zws
      have H' := qf.mk H
      clear H
      have zaa : w6.cell? ⟨qag, 0, none⟩ = some (.int .i64 qw) := (qb yl.out 0).trans rfl
      have zab : w6.cell? ⟨qag, 1, none⟩ = some (.int .i64 qy) := (qb yl.out 1).trans rfl
      have zac : w6.cell? ⟨qag, 2, none⟩ = some (.int .i64 za) := (qb yl.out 2).trans rfl
      have zad : w6.cell? ⟨qag, 3, none⟩ = some (.string yg) := (qb yl.out 3).trans rfl
      have zae : w6.cell? ⟨qag, 4, none⟩ = some (.int .i64 ym) := (qb yl.out 4).trans rfl
      have zaf : w6.cell? ⟨qag, 5, none⟩ = some (.int .i64 yf) := (qb yl.out 5).trans rfl
      have zah : w6.cell? ⟨qag, 6, none⟩ = some (.string yh) := (qb yl.out 6).trans rfl
      have zai : w6.cell? ⟨qag, 7, none⟩ = some (.slice qaa yj.length qab) := (qb yl.out 7).trans rfl
      have zaj : w6.cell? ⟨qag, 8, none⟩ = some (.slice qai qx.length qaf) := (qb yl.out 8).trans rfl
      have zak : w6.cell? ⟨qag, 9, none⟩ = some (.slice qac zx.length vo) := (qb yl.out 9).trans rfl
      have zez := qa yl.out 0
      have ze0 := qa yl.out 1
      have ze1 := qa yl.out 2
      have ze2 := qa yl.out 3
      have ze3 := qa yl.out 4
      have ze4 := qa yl.out 5
      have ze5 := qa yl.out 6
      have ze6 := qa yl.out 7
      have ze7 := qa yl.out 8
      have ze8 := qa yl.out 9
      go_wp2_with (first | ((with_reducible refine qaq (f := 82) rfl ?_); refine qcj (some 34) rfl rfl Tryd.func82 (by kernel_rfl) rfl #[.string yg] rfl (by (try simp only [List.map_toArray, List.map_cons, List.map_nil]); first | done | rfl | (simp only [List.length_drop, List.length_take]; rfl)) ?_; (with_reducible refine (qaj.calls k yg zgc _ ?side1 A23.out).mono ?_); (case side1 => exact Lay.below HLAY.out (by repeat (first | (with_reducible first | exact HB.out | apply qg | apply qc | apply qh | refine ql ?_ qde.out) | exact HB.out))); rintro e w25 ⟨rfl, hb⟩; refine ⟨_, rfl, ?_⟩; have n0_ := qf.mk (zl (g := qag) (o := .cells #[.int .i64 qw, .int .i64 qy, .int .i64 za, .string yg, .int .i64 ym, .int .i64 yf, .string yh, .slice qaa yj.length qab, .slice qai qx.length qaf, .slice qac zx.length vo] 30 (0, 0)) (by (with_reducible repeat (first | refine qj ?_ _ | refine qo ?_ | refine qi ?_ _)); exact yl.out) hb); have n1_ := qf.mk (zk (by repeat (first | (with_reducible first | exact HB.out | apply qg | apply qc | apply qh | refine ql ?_ qde.out) | exact HB.out)) hb); clear yl; clear HB; have yl := n0_; have HB := n1_; clear n0_ n1_; (try clear hb); (try clear hb2); (try clear hk); (try clear hi)))
      go_meet
      case rel => exact ⟨_, (zgc), (qoe), (0), (by first | rfl | (simp; done) | (simp [*]; done)), (by first | rfl | (simp; done) | (simp [*]; done)), (by first | rfl | (simp; done) | (simp [*]; done)), H', ⟨by first | omega | exact Nat.le_refl _⟩, ⟨by (with_reducible repeat (first | refine qj ?_ _ | refine qo ?_ | refine qi ?_ _)); exact yl.out⟩, ⟨by repeat (first | (with_reducible first | exact HB.out | apply qg | apply qc | apply qh | refine ql ?_ qde.out) | exact HB.out)⟩⟩
     ·rw [if_neg c22] at H
      have c22b0 : (qw == 12) = false := beq_eq_false_iff_ne.mpr c22
      have c22b1 : (qw != 12) = true := bne_iff_ne.mpr c22
      by_cases c26 : qw = 11
      ·rw [if_pos c26] at H
       have c26b0 : (qw == 11) = true := beq_iff_eq.mpr c26
       have c26b1 : (qw != 11) = false := bne_eq_false_iff_eq.mpr c26
       clear c26
       have H' := qf.mk H
       clear H
       have qmn : w6.cell? ⟨qag, 0, none⟩ = some (.int .i64 qw) := (qb yl.out 0).trans rfl
       have qmo : w6.cell? ⟨qag, 1, none⟩ = some (.int .i64 qy) := (qb yl.out 1).trans rfl
       have qmp : w6.cell? ⟨qag, 2, none⟩ = some (.int .i64 za) := (qb yl.out 2).trans rfl
       have qmq : w6.cell? ⟨qag, 3, none⟩ = some (.string yg) := (qb yl.out 3).trans rfl
       have zkk : w6.cell? ⟨qag, 4, none⟩ = some (.int .i64 ym) := (qb yl.out 4).trans rfl
       have zkl : w6.cell? ⟨qag, 5, none⟩ = some (.int .i64 yf) := (qb yl.out 5).trans rfl
       have zkm : w6.cell? ⟨qag, 6, none⟩ = some (.string yh) := (qb yl.out 6).trans rfl
       have zkn : w6.cell? ⟨qag, 7, none⟩ = some (.slice qaa yj.length qab) := (qb yl.out 7).trans rfl
       have zko : w6.cell? ⟨qag, 8, none⟩ = some (.slice qai qx.length qaf) := (qb yl.out 8).trans rfl
       have zkp : w6.cell? ⟨qag, 9, none⟩ = some (.slice qac zx.length vo) := (qb yl.out 9).trans rfl
       have qm0 := qa yl.out 0
       have qm1 := qa yl.out 1
       have qm2 := qa yl.out 2
       have qm3 := qa yl.out 3
       have zmo := qa yl.out 4
       have zmp := qa yl.out 5
       have zmq := qa yl.out 6
       have zmr := qa yl.out 7
       have zms := qa yl.out 8
       have zmt := qa yl.out 9
       go_wp2
       go_meet
       case rel => exact ⟨_, ((yg.toList == ([] : List UInt8))), (qoe), ((qx.length : Int)), (by first | rfl | (simp; done) | (simp [*]; done)), (by first | rfl | (simp; done) | (simp [*]; done)), (by first | rfl | (simp; done) | (simp [*]; done)), H', ⟨by first | omega | exact Nat.le_refl _⟩, ⟨by (with_reducible repeat (first | refine qj ?_ _ | refine qo ?_ | refine qi ?_ _)); exact yl.out⟩, ⟨by repeat (first | (with_reducible first | exact HB.out | apply qg | apply qc | apply qh | refine ql ?_ qde.out) | exact HB.out)⟩⟩
      ·rw [if_neg c26] at H
       have c26b0 : (qw == 11) = false := beq_eq_false_iff_ne.mpr c26
       have c26b1 : (qw != 11) = true := bne_iff_ne.mpr c26
       have H' := qf.mk H
       clear H
       go_wp2
       go_meet
       case rel => exact ⟨_, ((yg.toList == ([] : List UInt8))), (qoe), (0), (by first | rfl | (simp; done) | (simp [*]; done)), (by first | rfl | (simp; done) | (simp [*]; done)), (by first | rfl | (simp; done) | (simp [*]; done)), H', ⟨by first | omega | exact Nat.le_refl _⟩, ⟨by (with_reducible repeat (first | refine qj ?_ _ | refine qo ?_ | refine qi ?_ _)); exact yl.out⟩, ⟨by repeat (first | (with_reducible first | exact HB.out | apply qg | apply qc | apply qh | refine ql ?_ qde.out) | exact HB.out)⟩⟩
 case rest =>
  clear HC3
  (try clear c1); (try clear c2); (try clear p2); (try clear c6); (try clear c8); (try clear c8b0); (try clear c8b1); (try clear c14); (try clear c14b0); (try clear c14b1); (try clear c18); (try clear c18b0); (try clear c18b1); (try clear c22); (try clear c22b0); (try clear c22b1); (try clear c26); (try clear c26b0); (try clear c26b1); (try clear qg6 qg7 qg8 qg9 qtu qtv qtw qtx qty qtz); (try clear qjq qjr qjs qjt qxc qxd qxe qxf qxg qxh); (try clear zaa zab zac zad zae zaf zah zai zaj zak); (try clear qmn qmo qmp qmq zkk zkl zkm zkn zko zkp); (try clear qf7 qf8 qf9 qga qh5 qh6 qh7 qh8 qh9 qia); (try clear qdq qdr qds qdt qgm qgn qgo qgp qgq qgr); (try clear qem qen qeo qep qhk qhl qhm qhn qho qhp); (try clear zez ze0 ze1 ze2 ze3 ze4 ze5 ze6 ze7 ze8); (try clear qm0 qm1 qm2 qm3 zmo zmp zmq zmr zms zmt); (try clear qdu qdv qdw qdx qfl qfm qfn qfo qfp qfq)
  obtain ⟨kq, zj4, zh8, zh9, rfl, rfl, rfl, HA, HJ2, yl, HB⟩ := hcut
  cases kq with
  | zero => exact absurd HA.out (by simp [zz.j0])
  | succ kj2 =>
   have H := HA.out
   clear HA
   simp only [zz.j0] at H
   have H' := qf.mk H
   clear H
   have zkq : wc.cell? ⟨qag, 0, none⟩ = some (.int .i64 qw) := (qb yl.out 0).trans rfl
   have zkr : wc.cell? ⟨qag, 1, none⟩ = some (.int .i64 qy) := (qb yl.out 1).trans rfl
   have zks : wc.cell? ⟨qag, 2, none⟩ = some (.int .i64 za) := (qb yl.out 2).trans rfl
   have zkt : wc.cell? ⟨qag, 3, none⟩ = some (.string yg) := (qb yl.out 3).trans rfl
   have zku : wc.cell? ⟨qag, 4, none⟩ = some (.int .i64 ym) := (qb yl.out 4).trans rfl
   have zkv : wc.cell? ⟨qag, 5, none⟩ = some (.int .i64 yf) := (qb yl.out 5).trans rfl
   have zkw : wc.cell? ⟨qag, 6, none⟩ = some (.string yh) := (qb yl.out 6).trans rfl
   have zkx : wc.cell? ⟨qag, 7, none⟩ = some (.slice qaa yj.length qab) := (qb yl.out 7).trans rfl
   have zky : wc.cell? ⟨qag, 8, none⟩ = some (.slice qai qx.length qaf) := (qb yl.out 8).trans rfl
   have zkz : wc.cell? ⟨qag, 9, none⟩ = some (.slice qac zx.length vo) := (qb yl.out 9).trans rfl
   have zmu := qa yl.out 0
   have zmv := qa yl.out 1
   have zmw := qa yl.out 2
   have zmx := qa yl.out 3
   have zmy := qa yl.out 4
   have zmz := qa yl.out 5
   have zm0 := qa yl.out 6
   have zm1 := qa yl.out 7
   have zm2 := qa yl.out 8
   have zm3 := qa yl.out 9
   go_wp2
   go_loopg [43] kj2 (fun kq v43 w' => ∃ (qb0 : Int), v43 = .int .i64 qb0 ∧ qf (zz.l0 kq zj4 zh8 zh9 zx (zx.length : Int) qb0 qw qy za yg ym yf yh yj qx zx = some r) ∧ qf (kq ≤ kj2) ∧ qf (w'.heap[qag]? = some (.cells #[.int .i64 qw, .int .i64 qy, .int .i64 za, .string yg, .int .i64 ym, .int .i64 yf, .string yh, (.slice qaa yj.length qab), (.slice qai qx.length qaf), (.slice qac zx.length vo)] 30 (0, 0))) ∧ qf (Below w.heap.size w w'))
   case atStart => exact ⟨(0), (by first | rfl | (simp; done) | (simp [*]; done)), H', ⟨Nat.le_refl _⟩, ⟨by (with_reducible repeat (first | refine qj ?_ _ | refine qo ?_ | refine qi ?_ _)); exact yl.out⟩, ⟨by repeat (first | (with_reducible first | exact HB.out | apply qg | apply qc | apply qh | refine ql ?_ qde.out) | exact HB.out)⟩⟩
   case round =>
    clear H'
    (try clear c1); (try clear c2); (try clear p2); (try clear c6); (try clear c8); (try clear c8b0); (try clear c8b1); (try clear c14); (try clear c14b0); (try clear c14b1); (try clear c18); (try clear c18b0); (try clear c18b1); (try clear c22); (try clear c22b0); (try clear c22b1); (try clear c26); (try clear c26b0); (try clear c26b1); (try clear qg6 qg7 qg8 qg9 qtu qtv qtw qtx qty qtz); (try clear qjq qjr qjs qjt qxc qxd qxe qxf qxg qxh); (try clear zaa zab zac zad zae zaf zah zai zaj zak); (try clear qmn qmo qmp qmq zkk zkl zkm zkn zko zkp); (try clear zkq zkr zks zkt zku zkv zkw zkx zky zkz); (try clear qf7 qf8 qf9 qga qh5 qh6 qh7 qh8 qh9 qia); (try clear qdq qdr qds qdt qgm qgn qgo qgp qgq qgr); (try clear qem qen qeo qep qhk qhl qhm qhn qho qhp); (try clear zez ze0 ze1 ze2 ze3 ze4 ze5 ze6 ze7 ze8); (try clear qm0 qm1 qm2 qm3 zmo zmp zmq zmr zms zmt); (try clear zmu zmv zmw zmx zmy zmz zm0 zm1 zm2 zm3); (try clear qdu qdv qdw qdx qfl qfm qfn qfo qfp qfq); (try clear p2)
    obtain ⟨qb0, rfl, HA, HK2, yl, HB⟩ := hrel
    cases gk with
    | zero => exact absurd HA.out (by simp [zz.l0])
    | succ k2 =>
     have H := HA.out
     clear HA
     simp only [zz.l0] at H
     by_cases c29 : qb0 < (zx.length : Int)
     ·rw [if_pos c29] at H
      have c29b0 : decide (qb0 < (zx.length : Int)) = true := decide_eq_true c29
      clear c29
      by_cases c30 : 0 ≤ qb0
      ·rw [if_pos c30] at H
       have c30b0 : decide (0 ≤ qb0) = true := decide_eq_true c30
       clear c30
       by_cases c31 : qb0 < (zx.length : Int)
       ·rw [if_pos c31] at H
        have c31b0 : decide (qb0 < (zx.length : Int)) = true := decide_eq_true c31
        clear c31
        replace H := Option.bind_eq_some_iff.mp H
        obtain ⟨zt4, zwu, H⟩ := H
        replace H : (if zt4 = true then (zz.l0 k2 zj4 zh8 zh9 zx (zx.length : Int) (wrap64 (qb0 + 1)) qw qy za yg ym yf yh yj qx zx) else (some false)) = some r := H
        have A32 := qf.mk zwu
        clear zwu
        by_cases c33 : zt4 = true
        ·subst c33
         have H1 : (zz.l0 k2 zj4 zh8 zh9 zx (zx.length : Int) (wrap64 (qb0 + 1)) qw qy za yg ym yf yh yj qx zx) = some r := by rw [if_pos rfl] at H; exact H
         clear H
         have H := H1
         clear H1
         have H' := qf.mk H
         clear H
         have zjl : 0 ≤ (qb0 : Int) := of_decide_eq_true (by first | (with_reducible assumption) | assumption)
         have zjv : qb0 < (zx.length : Int) := of_decide_eq_true (by first | (with_reducible assumption) | assumption)
         obtain ⟨qwy, q6s, q68, e167, qr5, qr6, qr7, qr8, qzc, qy0⟩ := qjh qoh.out qb0 zjl zjv
         cases e167
         replace qr5 := (HB.out.cell (World.block_lt_of_cell? w _ qr5)).trans qr5
         replace qr6 := (HB.out.cell (World.block_lt_of_cell? w _ qr6)).trans qr6
         replace qr7 := (HB.out.cell (World.block_lt_of_cell? w _ qr7)).trans qr7
         replace qr8 := (HB.out.cell (World.block_lt_of_cell? w _ qr8)).trans qr8
         have q9i := qf.mk qy0
         have q87 := qf.mk qzc
         clear qy0 qzc
         replace zjl := eq_true zjl
         replace zjv := eq_true zjv
         go_wp2_with (first | ((with_reducible refine qah (N := 7) rfl ?_); (try (refine qbg (by rfl) ?_; dsimp only)); refine vk ?hg (N := 7) ?hd (cs := #[.int .i64 0, .int .i64 0, .string (⟨#[]⟩ : ByteArray), .slice none 0 0]) (t := 27) ?hr ?_; (case hd => rfl); (case hg => rfl); (case hr => first | (go_simp; done) | (go_simp; rfl)); intro qh4 hg w34 hbox hb; have n0_ := qf.mk (zl (g := qag) (o := .cells #[.int .i64 qw, .int .i64 qy, .int .i64 za, .string yg, .int .i64 ym, .int .i64 yf, .string yh, .slice qaa yj.length qab, .slice qai qx.length qaf, .slice (some qwy) zx.length vo] 30 (0, 0)) (by (with_reducible repeat (first | refine qj ?_ _ | refine qo ?_ | refine qi ?_ _)); exact yl.out) hb); have n1_ := qf.mk (zk (by repeat (first | (with_reducible first | exact HB.out | apply qg | apply qc | apply qh | refine ql ?_ qde.out) | exact HB.out)) hb); have n2_ := qf.mk (hbox); have n3_ := qf.mk ((by rw [hg]; exact (zo (by repeat (first | (with_reducible first | exact HB.out | apply qg | apply qc | apply qh | refine ql ?_ qde.out) | exact HB.out))) : w.heap.size ≤ qh4)); have n4_ := qf.mk ((by rw [hg]; exact (zo (by repeat (first | (with_reducible first | exact HB.out | apply qg | apply qc | apply qh | refine ql ?_ qde.out) | exact HB.out))) : w.heap.size ≤ qh4)); have n5_ := qf.mk ((by rw [hg]; exact Nat.ne_of_lt (qax (g := qag) (o := .cells #[.int .i64 qw, .int .i64 qy, .int .i64 za, .string yg, .int .i64 ym, .int .i64 yf, .string yh, .slice qaa yj.length qab, .slice qai qx.length qaf, .slice (some qwy) zx.length vo] 30 (0, 0)) (by (with_reducible repeat (first | refine qj ?_ _ | refine qo ?_ | refine qi ?_ _)); exact yl.out)) : qag ≠ qh4)); have n6_ := qf.mk ((by rw [hg]; exact Nat.ne_of_gt (qax (g := qag) (o := .cells #[.int .i64 qw, .int .i64 qy, .int .i64 za, .string yg, .int .i64 ym, .int .i64 yf, .string yh, .slice qaa yj.length qab, .slice qai qx.length qaf, .slice (some qwy) zx.length vo] 30 (0, 0)) (by (with_reducible repeat (first | refine qj ?_ _ | refine qo ?_ | refine qi ?_ _)); exact yl.out)) : qh4 ≠ qag)); clear yl; clear HB; have yl := n0_; have HB := n1_; have qf4 := n2_; have zw3 := n3_; have qwp := n4_; have qey := n5_; have qzy := n6_; clear n0_ n1_ n2_ n3_ n4_ n5_ n6_; clear hb hbox hg; have z3a := qzy.out; have z3m := qey.out; have zaq : w34.cell? ⟨qh4, 0, none⟩ = some (.int .i64 0) := (qb qf4.out 0).trans rfl; have zar : w34.cell? ⟨qh4, 1, none⟩ = some (.int .i64 0) := (qb qf4.out 1).trans rfl; have zas : w34.cell? ⟨qh4, 2, none⟩ = some (.string (⟨#[]⟩ : ByteArray)) := (qb qf4.out 2).trans rfl; have zat : w34.cell? ⟨qh4, 3, none⟩ = some (.slice none 0 0) := (qb qf4.out 3).trans rfl; have zfd := qa qf4.out 0; have zfe := qa qf4.out 1; have zff := qa qf4.out 2; have zfg := qa qf4.out 3) | ((with_reducible refine qaq (f := 83) rfl ?_); refine qcj (some 48) rfl rfl Tryd.func83 (by kernel_rfl) rfl #[.agg #[.int .i64 ((zf zx qb0).f0), .int .i64 ((zf zx qb0).f1), .string ((zf zx qb0).f2), .slice q6s ((zf zx qb0).f3).length q68]] rfl (by (try simp only [List.map_toArray, List.map_cons, List.map_nil]); first | done | rfl | (simp only [List.length_drop, List.length_take]; rfl)) ?_; (with_reducible refine (qbe.calls k2 ((zf zx qb0).f0) ((zf zx qb0).f1) ((zf zx qb0).f2) _ _ ((zf zx qb0).f3) true _ ?side1 ?side2 ?side3 A32.out).mono ?_); (case side1 => exact Kd.vv q9i.out (by repeat (first | (with_reducible first | exact HB.out | apply qg | apply qc | apply qh | refine ql ?_ qde.out | refine ql ?_ qwp.out) | exact HB.out))); (case side2 => exact q87.out); (case side3 => exact Lay.below HLAY.out (by repeat (first | (with_reducible first | exact HB.out | apply qg | apply qc | apply qh | refine ql ?_ qde.out | refine ql ?_ qwp.out) | exact HB.out))); rintro e w37 ⟨rfl, hb⟩; refine ⟨_, rfl, ?_⟩; have n0_ := qf.mk (zl (g := qag) (o := .cells #[.int .i64 qw, .int .i64 qy, .int .i64 za, .string yg, .int .i64 ym, .int .i64 yf, .string yh, .slice qaa yj.length qab, .slice qai qx.length qaf, .slice (some qwy) zx.length vo] 30 (0, 0)) (by (with_reducible repeat (first | refine qj ?_ _ | refine qo ?_ | refine qi ?_ _)); refine jb ?_ qey.out _; (with_reducible repeat (first | refine qj ?_ _ | refine qo ?_ | refine qi ?_ _)); refine jb ?_ qey.out _; (with_reducible repeat (first | refine qj ?_ _ | refine qo ?_ | refine qi ?_ _)); refine jb ?_ qey.out _; (with_reducible repeat (first | refine qj ?_ _ | refine qo ?_ | refine qi ?_ _)); refine jb ?_ qey.out _; (with_reducible repeat (first | refine qj ?_ _ | refine qo ?_ | refine qi ?_ _)); exact yl.out) hb); have n1_ := qf.mk (zl (g := qh4) (o := .cells #[.int .i64 ((zf zx qb0).f0), .int .i64 ((zf zx qb0).f1), .string ((zf zx qb0).f2), .slice q6s ((zf zx qb0).f3).length q68] 27 (0, 0)) (by (with_reducible repeat (first | refine qj ?_ _ | refine qo ?_ | refine qi ?_ _)); refine jc (cs := #[.int .i64 ((zf zx qb0).f0), .int .i64 ((zf zx qb0).f1), .string ((zf zx qb0).f2), .slice none 0 0]) ?_ 3 _ rfl; (with_reducible repeat (first | refine qj ?_ _ | refine qo ?_ | refine qi ?_ _)); refine jc (cs := #[.int .i64 ((zf zx qb0).f0), .int .i64 ((zf zx qb0).f1), .string (⟨#[]⟩ : ByteArray), .slice none 0 0]) ?_ 2 _ rfl; (with_reducible repeat (first | refine qj ?_ _ | refine qo ?_ | refine qi ?_ _)); refine jc (cs := #[.int .i64 ((zf zx qb0).f0), .int .i64 0, .string (⟨#[]⟩ : ByteArray), .slice none 0 0]) ?_ 1 _ rfl; (with_reducible repeat (first | refine qj ?_ _ | refine qo ?_ | refine qi ?_ _)); refine jc (cs := #[.int .i64 0, .int .i64 0, .string (⟨#[]⟩ : ByteArray), .slice none 0 0]) ?_ 0 _ rfl; (with_reducible repeat (first | refine qj ?_ _ | refine qo ?_ | refine qi ?_ _)); exact qf4.out) hb); have n2_ := qf.mk (zk (by repeat (first | (with_reducible first | exact HB.out | apply qg | apply qc | apply qh | refine ql ?_ qde.out | refine ql ?_ qwp.out) | exact HB.out)) hb); clear yl; clear qf4; clear HB; have yl := n0_; have qf4 := n1_; have HB := n2_; clear n0_ n1_ n2_; (try clear hb); (try clear hb2); (try clear hk); (try clear hi)))
         go_roundg k2
         case measure => have := HJ2.out; have := HK2.out; omega
         case rel => exact ⟨(wrap64 (qb0 + 1)), (by first | rfl | (simp; done) | (simp [*]; done)), H', ⟨by have := HJ2.out; have := HK2.out; omega⟩, ⟨by (with_reducible repeat (first | refine qj ?_ _ | refine qo ?_ | refine qi ?_ _)); exact yl.out⟩, ⟨by repeat (first | (with_reducible first | exact HB.out | apply qg | apply qc | apply qh | refine ql ?_ qde.out | refine ql ?_ qwp.out) | exact HB.out)⟩⟩
        ·replace c33 := Bool.eq_false_iff.mpr c33
         subst c33
         have H1 : (some false) = some r := by rw [if_neg (show ¬ (false = true) by decide)] at H; exact H
         clear H
         have H := H1
         clear H1
         obtain rfl := Option.some.inj H
         have zjl : 0 ≤ (qb0 : Int) := of_decide_eq_true (by first | (with_reducible assumption) | assumption)
         have zjv : qb0 < (zx.length : Int) := of_decide_eq_true (by first | (with_reducible assumption) | assumption)
         obtain ⟨qwy, q6s, q68, e167, qr5, qr6, qr7, qr8, qzc, qy0⟩ := qjh qoh.out qb0 zjl zjv
         cases e167
         replace qr5 := (HB.out.cell (World.block_lt_of_cell? w _ qr5)).trans qr5
         replace qr6 := (HB.out.cell (World.block_lt_of_cell? w _ qr6)).trans qr6
         replace qr7 := (HB.out.cell (World.block_lt_of_cell? w _ qr7)).trans qr7
         replace qr8 := (HB.out.cell (World.block_lt_of_cell? w _ qr8)).trans qr8
         have q9i := qf.mk qy0
         have q87 := qf.mk qzc
         clear qy0 qzc
         replace zjl := eq_true zjl
         replace zjv := eq_true zjv
         go_wp2_with (first | ((with_reducible refine qah (N := 7) rfl ?_); (try (refine qbg (by rfl) ?_; dsimp only)); refine vk ?hg (N := 7) ?hd (cs := #[.int .i64 0, .int .i64 0, .string (⟨#[]⟩ : ByteArray), .slice none 0 0]) (t := 27) ?hr ?_; (case hd => rfl); (case hg => rfl); (case hr => first | (go_simp; done) | (go_simp; rfl)); intro qh4 hg w38 hbox hb; have n0_ := qf.mk (zl (g := qag) (o := .cells #[.int .i64 qw, .int .i64 qy, .int .i64 za, .string yg, .int .i64 ym, .int .i64 yf, .string yh, .slice qaa yj.length qab, .slice qai qx.length qaf, .slice (some qwy) zx.length vo] 30 (0, 0)) (by (with_reducible repeat (first | refine qj ?_ _ | refine qo ?_ | refine qi ?_ _)); exact yl.out) hb); have n1_ := qf.mk (zk (by repeat (first | (with_reducible first | exact HB.out | apply qg | apply qc | apply qh | refine ql ?_ qde.out) | exact HB.out)) hb); have n2_ := qf.mk (hbox); have n3_ := qf.mk ((by rw [hg]; exact (zo (by repeat (first | (with_reducible first | exact HB.out | apply qg | apply qc | apply qh | refine ql ?_ qde.out) | exact HB.out))) : w.heap.size ≤ qh4)); have n4_ := qf.mk ((by rw [hg]; exact (zo (by repeat (first | (with_reducible first | exact HB.out | apply qg | apply qc | apply qh | refine ql ?_ qde.out) | exact HB.out))) : w.heap.size ≤ qh4)); have n5_ := qf.mk ((by rw [hg]; exact Nat.ne_of_lt (qax (g := qag) (o := .cells #[.int .i64 qw, .int .i64 qy, .int .i64 za, .string yg, .int .i64 ym, .int .i64 yf, .string yh, .slice qaa yj.length qab, .slice qai qx.length qaf, .slice (some qwy) zx.length vo] 30 (0, 0)) (by (with_reducible repeat (first | refine qj ?_ _ | refine qo ?_ | refine qi ?_ _)); exact yl.out)) : qag ≠ qh4)); have n6_ := qf.mk ((by rw [hg]; exact Nat.ne_of_gt (qax (g := qag) (o := .cells #[.int .i64 qw, .int .i64 qy, .int .i64 za, .string yg, .int .i64 ym, .int .i64 yf, .string yh, .slice qaa yj.length qab, .slice qai qx.length qaf, .slice (some qwy) zx.length vo] 30 (0, 0)) (by (with_reducible repeat (first | refine qj ?_ _ | refine qo ?_ | refine qi ?_ _)); exact yl.out)) : qh4 ≠ qag)); clear yl; clear HB; have yl := n0_; have HB := n1_; have qf4 := n2_; have zw3 := n3_; have qwp := n4_; have qey := n5_; have qzy := n6_; clear n0_ n1_ n2_ n3_ n4_ n5_ n6_; clear hb hbox hg; have z3c := qzy.out; have z3o := qey.out; have qt8 : w38.cell? ⟨qh4, 0, none⟩ = some (.int .i64 0) := (qb qf4.out 0).trans rfl; have qt9 : w38.cell? ⟨qh4, 1, none⟩ = some (.int .i64 0) := (qb qf4.out 1).trans rfl; have qua : w38.cell? ⟨qh4, 2, none⟩ = some (.string (⟨#[]⟩ : ByteArray)) := (qb qf4.out 2).trans rfl; have qub : w38.cell? ⟨qh4, 3, none⟩ = some (.slice none 0 0) := (qb qf4.out 3).trans rfl; have qu1 := qa qf4.out 0; have qu2 := qa qf4.out 1; have qu3 := qa qf4.out 2; have qu4 := qa qf4.out 3) | ((with_reducible refine qaq (f := 83) rfl ?_); refine qcj (some 48) rfl rfl Tryd.func83 (by kernel_rfl) rfl #[.agg #[.int .i64 ((zf zx qb0).f0), .int .i64 ((zf zx qb0).f1), .string ((zf zx qb0).f2), .slice q6s ((zf zx qb0).f3).length q68]] rfl (by (try simp only [List.map_toArray, List.map_cons, List.map_nil]); first | done | rfl | (simp only [List.length_drop, List.length_take]; rfl)) ?_; (with_reducible refine (qbe.calls k2 ((zf zx qb0).f0) ((zf zx qb0).f1) ((zf zx qb0).f2) _ _ ((zf zx qb0).f3) false _ ?side1 ?side2 ?side3 A32.out).mono ?_); (case side1 => exact Kd.vv q9i.out (by repeat (first | (with_reducible first | exact HB.out | apply qg | apply qc | apply qh | refine ql ?_ qde.out | refine ql ?_ qwp.out) | exact HB.out))); (case side2 => exact q87.out); (case side3 => exact Lay.below HLAY.out (by repeat (first | (with_reducible first | exact HB.out | apply qg | apply qc | apply qh | refine ql ?_ qde.out | refine ql ?_ qwp.out) | exact HB.out))); rintro e w41 ⟨rfl, hb⟩; refine ⟨_, rfl, ?_⟩; have n0_ := qf.mk (zl (g := qag) (o := .cells #[.int .i64 qw, .int .i64 qy, .int .i64 za, .string yg, .int .i64 ym, .int .i64 yf, .string yh, .slice qaa yj.length qab, .slice qai qx.length qaf, .slice (some qwy) zx.length vo] 30 (0, 0)) (by (with_reducible repeat (first | refine qj ?_ _ | refine qo ?_ | refine qi ?_ _)); refine jb ?_ qey.out _; (with_reducible repeat (first | refine qj ?_ _ | refine qo ?_ | refine qi ?_ _)); refine jb ?_ qey.out _; (with_reducible repeat (first | refine qj ?_ _ | refine qo ?_ | refine qi ?_ _)); refine jb ?_ qey.out _; (with_reducible repeat (first | refine qj ?_ _ | refine qo ?_ | refine qi ?_ _)); refine jb ?_ qey.out _; (with_reducible repeat (first | refine qj ?_ _ | refine qo ?_ | refine qi ?_ _)); exact yl.out) hb); have n1_ := qf.mk (zl (g := qh4) (o := .cells #[.int .i64 ((zf zx qb0).f0), .int .i64 ((zf zx qb0).f1), .string ((zf zx qb0).f2), .slice q6s ((zf zx qb0).f3).length q68] 27 (0, 0)) (by (with_reducible repeat (first | refine qj ?_ _ | refine qo ?_ | refine qi ?_ _)); refine jc (cs := #[.int .i64 ((zf zx qb0).f0), .int .i64 ((zf zx qb0).f1), .string ((zf zx qb0).f2), .slice none 0 0]) ?_ 3 _ rfl; (with_reducible repeat (first | refine qj ?_ _ | refine qo ?_ | refine qi ?_ _)); refine jc (cs := #[.int .i64 ((zf zx qb0).f0), .int .i64 ((zf zx qb0).f1), .string (⟨#[]⟩ : ByteArray), .slice none 0 0]) ?_ 2 _ rfl; (with_reducible repeat (first | refine qj ?_ _ | refine qo ?_ | refine qi ?_ _)); refine jc (cs := #[.int .i64 ((zf zx qb0).f0), .int .i64 0, .string (⟨#[]⟩ : ByteArray), .slice none 0 0]) ?_ 1 _ rfl; (with_reducible repeat (first | refine qj ?_ _ | refine qo ?_ | refine qi ?_ _)); refine jc (cs := #[.int .i64 0, .int .i64 0, .string (⟨#[]⟩ : ByteArray), .slice none 0 0]) ?_ 0 _ rfl; (with_reducible repeat (first | refine qj ?_ _ | refine qo ?_ | refine qi ?_ _)); exact qf4.out) hb); have n2_ := qf.mk (zk (by repeat (first | (with_reducible first | exact HB.out | apply qg | apply qc | apply qh | refine ql ?_ qde.out | refine ql ?_ qwp.out) | exact HB.out)) hb); clear yl; clear qf4; clear HB; have yl := n0_; have qf4 := n1_; have HB := n2_; clear n0_ n1_ n2_; (try clear hb); (try clear hb2); (try clear hk); (try clear hi)))
         go_ret
         exact ⟨by first | rfl | (simp [zg, zh] <;> rfl) | (simp [*, zg, zh] <;> rfl), by repeat (first | (with_reducible first | exact HB.out | apply qg | apply qc | apply qh | refine ql ?_ qde.out | refine ql ?_ qwp.out) | exact HB.out)⟩
       ·rw [if_neg c31] at H
        exact absurd H (by simp)
      ·rw [if_neg c30] at H
       exact absurd H (by simp)
     ·rw [if_neg c29] at H
      have c29b0 : decide (qb0 < (zx.length : Int)) = false := decide_eq_false c29
      clear c29
      by_cases c42 : zj4 = true
      ·subst c42
       have H1 : (if zh8 = true then (some ((zx.length : Int) == zh9)) else (some false)) = some r := by rw [if_pos rfl] at H; exact H
       clear H
       have H := H1
       clear H1
       by_cases c43 : zh8 = true
       ·subst c43
        have H1 : (some ((zx.length : Int) == zh9)) = some r := by rw [if_pos rfl] at H; exact H
        clear H
        have H := H1
        clear H1
        obtain rfl := Option.some.inj H
        have qo9 : wr.cell? ⟨qag, 0, none⟩ = some (.int .i64 qw) := (qb yl.out 0).trans rfl
        have qpa : wr.cell? ⟨qag, 1, none⟩ = some (.int .i64 qy) := (qb yl.out 1).trans rfl
        have qpb : wr.cell? ⟨qag, 2, none⟩ = some (.int .i64 za) := (qb yl.out 2).trans rfl
        have qpc : wr.cell? ⟨qag, 3, none⟩ = some (.string yg) := (qb yl.out 3).trans rfl
        have q11 : wr.cell? ⟨qag, 4, none⟩ = some (.int .i64 ym) := (qb yl.out 4).trans rfl
        have q12 : wr.cell? ⟨qag, 5, none⟩ = some (.int .i64 yf) := (qb yl.out 5).trans rfl
        have q13 : wr.cell? ⟨qag, 6, none⟩ = some (.string yh) := (qb yl.out 6).trans rfl
        have q14 : wr.cell? ⟨qag, 7, none⟩ = some (.slice qaa yj.length qab) := (qb yl.out 7).trans rfl
        have q17 : wr.cell? ⟨qag, 8, none⟩ = some (.slice qai qx.length qaf) := (qb yl.out 8).trans rfl
        have q18 : wr.cell? ⟨qag, 9, none⟩ = some (.slice qac zx.length vo) := (qb yl.out 9).trans rfl
        have qiv := qa yl.out 0
        have qiw := qa yl.out 1
        have qix := qa yl.out 2
        have qiy := qa yl.out 3
        have qno := qa yl.out 4
        have qnp := qa yl.out 5
        have qnq := qa yl.out 6
        have qnr := qa yl.out 7
        have qns := qa yl.out 8
        have qnt := qa yl.out 9
        go_wp2
        go_ret
        exact ⟨by first | rfl | (simp [zg, zh] <;> rfl) | (simp [*, zg, zh] <;> rfl), by repeat (first | (with_reducible first | exact HB.out | apply qg | apply qc | apply qh | refine ql ?_ qde.out) | exact HB.out)⟩
       ·replace c43 := Bool.eq_false_iff.mpr c43
        subst c43
        have H1 : (some false) = some r := by rw [if_neg (show ¬ (false = true) by decide)] at H; exact H
        clear H
        have H := H1
        clear H1
        obtain rfl := Option.some.inj H
        go_wp2
        go_ret
        exact ⟨by first | rfl | (simp [zg, zh] <;> rfl) | (simp [*, zg, zh] <;> rfl), by repeat (first | (with_reducible first | exact HB.out | apply qg | apply qc | apply qh | refine ql ?_ qde.out) | exact HB.out)⟩
      ·replace c42 := Bool.eq_false_iff.mpr c42
       subst c42
       have H1 : (some false) = some r := by rw [if_neg (show ¬ (false = true) by decide)] at H; exact H
       clear H
       have H := H1
       clear H1
       obtain rfl := Option.some.inj H
       go_wp2
       go_ret
       exact ⟨by first | rfl | (simp [zg, zh] <;> rfl) | (simp [*, zg, zh] <;> rfl), by repeat (first | (with_reducible first | exact HB.out | apply qg | apply qc | apply qh | refine ql ?_ qde.out) | exact HB.out)⟩
end Go.Proofs.YtpgkhmdfddejfaaDoor.PV
end
