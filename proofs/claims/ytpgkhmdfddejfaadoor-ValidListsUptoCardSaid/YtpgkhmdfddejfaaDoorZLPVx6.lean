import Derived.Test.YtpgkhmdfddejfaaDoorZLPVx0
import Derived.Test.YtpgkhmdfddejfaaDoorZLPVx3
import Derived.Test.YtpgkhmdfddejfaaDoorZLPVx4
import Derived.Test.YtpgkhmdfddejfaaDoorZLPVx5
section
namespace Go.Proofs.YtpgkhmdfddejfaaDoor.PV
open Go.RowKit Go.Proofs.YtpgkhmdfddejfaaDoorW.PrintWords Go.Proofs.YtpgkhmdfddejfaaDoorW.PrintLast Go.Proofs.YtpgkhmdfddejfaaDoorW.PrintMore
attribute [local go_sem] qcz qcx qdc qdb qcr qcq qcv qcy   -- for this text's walks alone
set_option linter.unusedVariables false
set_option linter.unusedSimpArgs false
mutual
def qbh.j0 : Nat → Bool → Bool → Int → Int → Int → Int → ByteArray → Int → Int → ByteArray → List (S27) → List (S30) → List (S27) → Option (Bool)
 | 0, _, _, _, _, _, _, _, _, _, _, _, _, _ => none
 | k + 1, x3, x4, x5, x161000, x161001, x161002, x161003, x161004, x161005, x161006, x161007, x161008, x161009 => qbh.l0 k x3 x4 x5 x161009 (x161009.length : Int) 0 x161000 x161001 x161002 x161003 x161004 x161005 x161006 x161007 x161008 x161009
def qbh.l0 : Nat → Bool → Bool → Int → List (S27) → Int → Int → Int → Int → Int → ByteArray → Int → Int → ByteArray → List (S27) → List (S30) → List (S27) → Option (Bool)
 | 0, _, _, _, _, _, _, _, _, _, _, _, _, _, _, _, _ => none
 | k + 1, x3, x4, x5, x41, x42, x43, x161000, x161001, x161002, x161003, x161004, x161005, x161006, x161007, x161008, x161009 => if x43 < x42 then (if 0 ≤ x43 then (if x43 < (x41.length : Int) then ((qb7.f k ((qx x41 x43).f0) ((qx x41 x43).f1) ((qx x41 x43).f2) ((qx x41 x43).f3)).bind fun t169 => (if t169 = true then (qbh.l0 k x3 x4 x5 x41 x42 (wrap64 (x43 + 1)) x161000 x161001 x161002 x161003 x161004 x161005 x161006 x161007 x161008 x161009) else (some false))) else (none)) else (none)) else (if x3 = true then (if x4 = true then (some ((x161009.length : Int) == x5)) else (some false)) else (some false))
end
def qbh.f (k : Nat) (a0_0 : Int) (a0_1 : Int) (a0_2 : Int) (a0_3 : ByteArray) (a0_4 : Int) (a0_5 : Int) (a0_6 : ByteArray) (l0_7 : List (S27)) (l0_8 : List (S30)) (l0_9 : List (S27)) : Option (Bool) := (qea.f a0_4 a0_5 a0_6 l0_7).bind fun t161 => (if a0_0 = 8 then ((qbz.f k a0_3).bind fun t162 => ((qb7.f k a0_4 a0_5 a0_6 l0_7).bind fun t163 => (qbh.j0 k t162 t163 0 a0_0 a0_1 a0_2 a0_3 a0_4 a0_5 a0_6 l0_7 l0_8 l0_9))) else (if a0_0 = 7 then ((qb7.f k a0_4 a0_5 a0_6 l0_7).bind fun t164 => (qbh.j0 k (a0_3.toList == ([] : List UInt8)) t164 0 a0_0 a0_1 a0_2 a0_3 a0_4 a0_5 a0_6 l0_7 l0_8 l0_9)) else (if a0_0 = 9 then ((qbz.f k a0_3).bind fun t165 => (qbh.j0 k t165 t161 0 a0_0 a0_1 a0_2 a0_3 a0_4 a0_5 a0_6 l0_7 l0_8 l0_9)) else (if a0_0 = 12 then ((qbz.f k a0_3).bind fun t166 => (qbh.j0 k t166 t161 0 a0_0 a0_1 a0_2 a0_3 a0_4 a0_5 a0_6 l0_7 l0_8 l0_9)) else (if a0_0 = 11 then (qbh.j0 k (a0_3.toList == ([] : List UInt8)) t161 (l0_8.length : Int) a0_0 a0_1 a0_2 a0_3 a0_4 a0_5 a0_6 l0_7 l0_8 l0_9) else (qbh.j0 k (a0_3.toList == ([] : List UInt8)) t161 0 a0_0 a0_1 a0_2 a0_3 a0_4 a0_5 a0_6 l0_7 l0_8 l0_9))))))
theorem qbh.qch : ∀ k, (∀ y0 y1 y2 y3 y4 y5 y6 y7 y8 y9 y10 y11 y12, LeO (qbh.j0 k y0 y1 y2 y3 y4 y5 y6 y7 y8 y9 y10 y11 y12) (qbh.j0 (k + 1) y0 y1 y2 y3 y4 y5 y6 y7 y8 y9 y10 y11 y12)) ∧ (∀ y0 y1 y2 y3 y4 y5 y6 y7 y8 y9 y10 y11 y12 y13 y14 y15, LeO (qbh.l0 k y0 y1 y2 y3 y4 y5 y6 y7 y8 y9 y10 y11 y12 y13 y14 y15) (qbh.l0 (k + 1) y0 y1 y2 y3 y4 y5 y6 y7 y8 y9 y10 y11 y12 y13 y14 y15))
 | 0 => ⟨fun _ _ _ _ _ _ _ _ _ _ _ _ _ r h => by simp [qbh.j0] at h, fun _ _ _ _ _ _ _ _ _ _ _ _ _ _ _ _ r h => by simp [qbh.l0] at h⟩
 | k + 1 => by
  obtain ⟨ih0, ih1⟩ := qbh.qch k
  refine ⟨?_, ?_⟩
  ·intro y0 y1 y2 y3 y4 y5 y6 y7 y8 y9 y10 y11 y12
   unfold qbh.j0
   repeat' first
   | (with_reducible exact ih0 _ _ _ _ _ _ _ _ _ _ _ _ _)
   | (with_reducible exact ih1 _ _ _ _ _ _ _ _ _ _ _ _ _ _ _ _)
   | (with_reducible exact qb7.mono _ _ _ _ _)
   | (with_reducible exact qbz.mono _ _)
   | (with_reducible exact LeO.refl _)
   | (with_reducible exact LeO.none _)
   | (with_reducible refine LeO.ite ?_ ?_)
   | (with_reducible refine LeO.bind ?_ (fun _ => ?_))
   | exact ih0 _ _ _ _ _ _ _ _ _ _ _ _ _
   | exact ih1 _ _ _ _ _ _ _ _ _ _ _ _ _ _ _ _
   | exact qb7.mono _ _ _ _ _
   | exact qbz.mono _ _
   | exact LeO.none _
   | refine LeO.ite ?_ ?_
   | refine LeO.bind ?_ (fun _ => ?_)
  ·intro y0 y1 y2 y3 y4 y5 y6 y7 y8 y9 y10 y11 y12 y13 y14 y15
   unfold qbh.l0
   repeat' first
   | (with_reducible exact ih0 _ _ _ _ _ _ _ _ _ _ _ _ _)
   | (with_reducible exact ih1 _ _ _ _ _ _ _ _ _ _ _ _ _ _ _ _)
   | (with_reducible exact qb7.mono _ _ _ _ _)
   | (with_reducible exact qbz.mono _ _)
   | (with_reducible exact LeO.refl _)
   | (with_reducible exact LeO.none _)
   | (with_reducible refine LeO.ite ?_ ?_)
   | (with_reducible refine LeO.bind ?_ (fun _ => ?_))
   | exact ih0 _ _ _ _ _ _ _ _ _ _ _ _ _
   | exact ih1 _ _ _ _ _ _ _ _ _ _ _ _ _ _ _ _
   | exact qb7.mono _ _ _ _ _
   | exact qbz.mono _ _
   | exact LeO.none _
   | refine LeO.ite ?_ ?_
   | refine LeO.bind ?_ (fun _ => ?_)
theorem qbh.mono : ∀ a0 a1 a2 a3 a4 a5 a6 a7 a8 a9 k, LeO (qbh.f k a0 a1 a2 a3 a4 a5 a6 a7 a8 a9) (qbh.f (k + 1) a0 a1 a2 a3 a4 a5 a6 a7 a8 a9) := by
 intro a0 a1 a2 a3 a4 a5 a6 a7 a8 a9 k
 obtain ⟨ih0, ih1⟩ := qbh.qch k
 unfold qbh.f
 repeat' first
   | (with_reducible exact ih0 _ _ _ _ _ _ _ _ _ _ _ _ _)
   | (with_reducible exact ih1 _ _ _ _ _ _ _ _ _ _ _ _ _ _ _ _)
   | (with_reducible exact qb7.mono _ _ _ _ _)
   | (with_reducible exact qbz.mono _ _)
   | (with_reducible exact LeO.refl _)
   | (with_reducible exact LeO.none _)
   | (with_reducible refine LeO.ite ?_ ?_)
   | (with_reducible refine LeO.bind ?_ (fun _ => ?_))
   | exact ih0 _ _ _ _ _ _ _ _ _ _ _ _ _
   | exact ih1 _ _ _ _ _ _ _ _ _ _ _ _ _ _ _ _
   | exact qb7.mono _ _ _ _ _
   | exact qbz.mono _ _
   | exact LeO.none _
   | refine LeO.ite ?_ ?_
   | refine LeO.bind ?_ (fun _ => ?_)
def qbh.T1 : Bool × List (List Nat × List Nat) := (true, [([], []), ([0], [0]), ([1], [1]), ([], []), ([3], [3]), ([4], [4]), ([2, 5, 0, 1, 2], [2]), ([5, 6, 0, 1, 2, 3, 4, 5, 6], [5]), ([7, 0, 1, 2, 3, 4, 5, 6, 7], [])])
def qbh.B1 : List Nat := [0, 1, 3, 0, 8, 24, 63, 127, 255]
theorem qbh.tab1 : rtab .any (opsOf Tryd.f69 1) = qbh.T1 := by kernel_rfl
theorem qbh.bits1 : qen qbh.T1.2 qbh.B1 = true := by kernel_rfl
def qbh.T4 : Bool × List (List Nat × List Nat) := (true, [([], []), ([0], [0]), ([1], [1]), ([], []), ([3], [3]), ([4, 2], [4]), ([2, 5, 0, 1, 2], [2]), ([5, 6, 0, 1, 2, 3, 4, 5, 6], [5])])
def qbh.B4 : List Nat := [0, 1, 3, 0, 8, 31, 63, 127]
theorem qbh.tab4 : rtab .any (opsOf Tryd.f69 4) = qbh.T4 := by kernel_rfl
theorem qbh.bits4 : qen qbh.T4.2 qbh.B4 = true := by kernel_rfl
set_option maxHeartbeats 8000000 in
set_option maxRecDepth 100000 in
theorem qbh.calls (k : Nat) (a0_0 : Int) (a0_1 : Int) (a0_2 : Int) (a0_3 : ByteArray) (a0_4 : Int) (a0_5 : Int) (a0_6 : ByteArray) (A0_7 : Option Addr) (c0_7 : Nat) (l0_7 : List (S27)) (A0_8 : Option Addr) (c0_8 : Nat) (l0_8 : List (S30)) (A0_9 : Option Addr) (c0_9 : Nat) (l0_9 : List (S27)) (r : Bool) (w : World) (hr0_7 : Kd.C k27 w A0_7 l0_7.length l0_7) (hc0_7 : l0_7.length ≤ c0_7) (hr0_8 : Kd.C k30 w A0_8 l0_8.length l0_8) (hc0_8 : l0_8.length ≤ c0_8) (hr0_9 : Kd.C k27 w A0_9 l0_9.length l0_9) (hc0_9 : l0_9.length ≤ c0_9) (hG : Lay w) (h : qbh.f k a0_0 a0_1 a0_2 a0_3 a0_4 a0_5 a0_6 l0_7 l0_8 l0_9 = some r) :
  Calls Tryd.prog 69 #[.agg #[.int .i64 a0_0, .int .i64 a0_1, .int .i64 a0_2, .string a0_3, .int .i64 a0_4, .int .i64 a0_5, .string a0_6, .slice A0_7 l0_7.length c0_7, .slice A0_8 l0_8.length c0_8, .slice A0_9 l0_9.length c0_9]] w fun e w' => e = .returned (.bool r) ∧ Below w.heap.size w w' := by
 have hu30 := Tryd.underlying30
 have hu27 := Tryd.underlying27
 have HR0_7 := qd.mk hr0_7
 have HC0_7 := qd.mk hc0_7
 clear hr0_7 hc0_7
 have HR0_8 := qd.mk hr0_8
 have HC0_8 := qd.mk hc0_8
 clear hr0_8 hc0_8
 have HR0_9 := qd.mk hr0_9
 have HC0_9 := qd.mk hc0_9
 clear hr0_9 hc0_9
 have HB := qd.mk (Below.refl w.heap.size w)
 have HLAY := qd.mk hG
 clear hG
 have H : ((qea.f a0_4 a0_5 a0_6 l0_7).bind fun t161 => (if a0_0 = 8 then ((qbz.f k a0_3).bind fun t162 => ((qb7.f k a0_4 a0_5 a0_6 l0_7).bind fun t163 => (qbh.j0 k t162 t163 0 a0_0 a0_1 a0_2 a0_3 a0_4 a0_5 a0_6 l0_7 l0_8 l0_9))) else (if a0_0 = 7 then ((qb7.f k a0_4 a0_5 a0_6 l0_7).bind fun t164 => (qbh.j0 k (a0_3.toList == ([] : List UInt8)) t164 0 a0_0 a0_1 a0_2 a0_3 a0_4 a0_5 a0_6 l0_7 l0_8 l0_9)) else (if a0_0 = 9 then ((qbz.f k a0_3).bind fun t165 => (qbh.j0 k t165 t161 0 a0_0 a0_1 a0_2 a0_3 a0_4 a0_5 a0_6 l0_7 l0_8 l0_9)) else (if a0_0 = 12 then ((qbz.f k a0_3).bind fun t166 => (qbh.j0 k t166 t161 0 a0_0 a0_1 a0_2 a0_3 a0_4 a0_5 a0_6 l0_7 l0_8 l0_9)) else (if a0_0 = 11 then (qbh.j0 k (a0_3.toList == ([] : List UInt8)) t161 (l0_8.length : Int) a0_0 a0_1 a0_2 a0_3 a0_4 a0_5 a0_6 l0_7 l0_8 l0_9) else (qbh.j0 k (a0_3.toList == ([] : List UInt8)) t161 0 a0_0 a0_1 a0_2 a0_3 a0_4 a0_5 a0_6 l0_7 l0_8 l0_9))))))) = some r := h
 clear h
 replace H := Option.bind_eq_some_iff.mp H
 obtain ⟨t161, A20, H⟩ := H
 replace H : (if a0_0 = 8 then ((qbz.f k a0_3).bind fun t162 => ((qb7.f k a0_4 a0_5 a0_6 l0_7).bind fun t163 => (qbh.j0 k t162 t163 0 a0_0 a0_1 a0_2 a0_3 a0_4 a0_5 a0_6 l0_7 l0_8 l0_9))) else (if a0_0 = 7 then ((qb7.f k a0_4 a0_5 a0_6 l0_7).bind fun t164 => (qbh.j0 k (a0_3.toList == ([] : List UInt8)) t164 0 a0_0 a0_1 a0_2 a0_3 a0_4 a0_5 a0_6 l0_7 l0_8 l0_9)) else (if a0_0 = 9 then ((qbz.f k a0_3).bind fun t165 => (qbh.j0 k t165 t161 0 a0_0 a0_1 a0_2 a0_3 a0_4 a0_5 a0_6 l0_7 l0_8 l0_9)) else (if a0_0 = 12 then ((qbz.f k a0_3).bind fun t166 => (qbh.j0 k t166 t161 0 a0_0 a0_1 a0_2 a0_3 a0_4 a0_5 a0_6 l0_7 l0_8 l0_9)) else (if a0_0 = 11 then (qbh.j0 k (a0_3.toList == ([] : List UInt8)) t161 (l0_8.length : Int) a0_0 a0_1 a0_2 a0_3 a0_4 a0_5 a0_6 l0_7 l0_8 l0_9) else (qbh.j0 k (a0_3.toList == ([] : List UInt8)) t161 0 a0_0 a0_1 a0_2 a0_3 a0_4 a0_5 a0_6 l0_7 l0_8 l0_9)))))) = some r := H
 have A2 := qd.mk A20
 clear A20
 have HC3 := qd.mk H
 clear H
 go_enter Tryd.func69, Tryd.ntmps69
 try go_wp2_with (first | ((with_reducible refine qby (N := 1) rfl ?_); (try (refine qcb (by rfl) ?_; dsimp only)); refine qbx ?hg (N := 1) ?hd (cs := #[.int .i64 a0_0, .int .i64 a0_1, .int .i64 a0_2, .string a0_3, .int .i64 a0_4, .int .i64 a0_5, .string a0_6, .slice A0_7 l0_7.length c0_7, .slice A0_8 l0_8.length c0_8, .slice A0_9 l0_9.length c0_9]) (t := 30) ?hr ?_; (case hd => rfl); (case hg => rfl); (case hr => first | (go_simp; done) | (go_simp; rfl)); intro gb160 hg w4 hbox hb; have n0_ := qd.mk (qba (by repeat (first | (with_reducible first | exact HB.out | apply qg | apply qc | apply qh) | exact HB.out)) hb); have n1_ := qd.mk (hbox); have n2_ := qd.mk ((by rw [hg]; exact (qbc (by repeat (first | (with_reducible first | exact HB.out | apply qg | apply qc | apply qh) | exact HB.out))) : w.heap.size ≤ gb160)); have n3_ := qd.mk ((by rw [hg]; exact (qbc (by repeat (first | (with_reducible first | exact HB.out | apply qg | apply qc | apply qh) | exact HB.out))) : w.heap.size ≤ gb160)); clear HB; have HB := n0_; have BK160 := n1_; have GW160 := n2_; have GE160 := n3_; clear n0_ n1_ n2_ n3_; clear hb hbox hg))
 have n0_ := qd.mk (qm BK160.out)
 have n1_ := qd.mk (qh HB.out)
 clear BK160
 clear HB
 have BK160 := n0_
 have HB := n1_
 clear n0_ n1_
 refine qe5 (n := 9) (S := fun w' => w'.cell? ⟨gb160, 0, none⟩ = some (.int .i64 a0_0) ∧ w'.cell? ⟨gb160, 1, none⟩ = some (.int .i64 a0_1) ∧ w'.cell? ⟨gb160, 2, none⟩ = some (.int .i64 a0_2) ∧ w'.cell? ⟨gb160, 3, none⟩ = some (.string a0_3) ∧ w'.cell? ⟨gb160, 4, none⟩ = some (.int .i64 a0_4) ∧ w'.cell? ⟨gb160, 5, none⟩ = some (.int .i64 a0_5) ∧ w'.cell? ⟨gb160, 6, none⟩ = some (.string a0_6) ∧ w'.cell? ⟨gb160, 7, none⟩ = some (.slice A0_7 l0_7.length c0_7) ∧ w'.cell? ⟨gb160, 8, none⟩ = some (.slice A0_8 l0_8.length c0_8) ∧ w'.cell? ⟨gb160, 9, none⟩ = some (.slice A0_9 l0_9.length c0_9)) (ds := []) #[false, false, false, false, false, false, false, false, false] (by kernel_rfl) rfl rfl ⟨(qb BK160.out 0).trans rfl, (qb BK160.out 1).trans rfl, (qb BK160.out 2).trans rfl, (qb BK160.out 3).trans rfl, (qb BK160.out 4).trans rfl, (qb BK160.out 5).trans rfl, (qb BK160.out 6).trans rfl, (qb BK160.out 7).trans rfl, (qb BK160.out 8).trans rfl, (qb BK160.out 9).trans rfl⟩ (fun hHeld => ?_); refine qej qbh.tab1 qbh.bits1 (fun HT_ HW_ => ?_)
 generalize w4.drew = w5 at BK160 HB hHeld ⊢
 refine pure_ (i := 0) (N := some 8) (v := ?_) (a' := ?_) #[true, false, false, false, false, false, false, false, false] rfl rfl (qb9 HT_.out (by kernel_rfl)) (fun _ _ _ h => h) (Or.inl ⟨by rfl, ?_⟩) ?_ ?_
 rotate_left
 ·intro w'
  go_simp
  with_reducible rfl
 rotate_left
 ·simp only [Act.put, List.setIfInBounds_toArray, List.set_cons_zero, List.set_cons_succ, i64_w, i32_w]
  rfl
 refine pure_ (i := 3) (N := some 11) (v := ?_) (a' := ?_) #[true, false, false, true, false, false, false, false, false] rfl rfl (qb9 HT_.out (by kernel_rfl)) (fun _ _ _ h => h) (Or.inl ⟨by rfl, ?_⟩) ?_ ?_
 rotate_left
 ·intro w'
  go_simp
  with_reducible rfl
 rotate_left
 ·simp only [Act.put, List.setIfInBounds_toArray, List.set_cons_zero, List.set_cons_succ, i64_w, i32_w]
  rfl
 refine take_ (i := 1) (N := some 9) (v := ?_) (a' := ?_) #[true, true, false, true, false, false, false, false, false] rfl rfl (qcp HT_.out HW_.out (by kernel_rfl)) (fun _ _ _ h => h) (Or.inl ⟨by rfl, ?_⟩) hHeld ?_ ?_
 rotate_left
 ·rintro w' ⟨s0, s1, s2, s3, s4, s5, s6, s7, s8, s9⟩
  go_simp
  with_reducible rfl
 rotate_left
 ·simp only [Act.put, List.setIfInBounds_toArray, List.set_cons_zero, List.set_cons_succ, i64_w, i32_w]
  rfl
 refine pure_ (i := 2) (N := some 10) (v := ?_) (a' := ?_) #[true, true, true, true, false, false, false, false, false] rfl rfl (qb9 HT_.out (by kernel_rfl)) (fun _ _ _ h => h) (Or.inl ⟨by rfl, ?_⟩) ?_ ?_
 rotate_left
 ·intro w'
  go_simp
  with_reducible rfl
 rotate_left
 ·simp only [Act.put, List.setIfInBounds_toArray, List.set_cons_zero, List.set_cons_succ, i64_w, i32_w]
  rfl
 refine take_ (i := 4) (N := some 12) (v := ?_) (a' := ?_) #[true, true, true, true, true, false, false, false, false] rfl rfl (qcp HT_.out HW_.out (by kernel_rfl)) (fun _ _ _ h => h) (Or.inl ⟨by rfl, ?_⟩) hHeld ?_ ?_
 rotate_left
 ·rintro w' ⟨s0, s1, s2, s3, s4, s5, s6, s7, s8, s9⟩
  go_simp
  with_reducible rfl
 rotate_left
 ·simp only [Act.put, List.setIfInBounds_toArray, List.set_cons_zero, List.set_cons_succ, i64_w, i32_w]
  rfl
 refine one_ (i := 5) (N := some 13) #[true, true, true, true, true, true, false, false, false] rfl rfl (qed HT_.out (by kernel_rfl)) (by decide) (fun K hK => ?_)
 refine goes_ Tryd.func81 (by kernel_rfl) rfl #[.agg #[.int .i64 a0_4, .int .i64 a0_5, .string a0_6, .slice A0_7 l0_7.length c0_7]] (by rfl) rfl rfl (by (try simp only [List.map_toArray, List.map_cons, List.map_nil]); first | done | rfl | (simp only [List.length_drop, List.length_take]; rfl)) ?_
 with_reducible refine (qea.calls a0_4 a0_5 a0_6 _ _ l0_7 t161 _ ?side1 ?side2 A2.out).mono ?_
 (case side1 => repeat (first | exact (Kd.qbv HR0_7.out HB.out) | (with_reducible refine Kd.qb4 ?_ _) | (with_reducible refine Kd.qb1 ?_ _) | (with_reducible refine Kd.qb8 ?_)))
 (case side2 => exact HC0_7.out)
 rintro e w6 ⟨rfl, hb⟩
 refine ⟨_, rfl, ?_⟩
 have n0_ := qd.mk (qbb (g := gb160) (o := .cells #[.int .i64 a0_0, .int .i64 a0_1, .int .i64 a0_2, .string a0_3, .int .i64 a0_4, .int .i64 a0_5, .string a0_6, .slice A0_7 l0_7.length c0_7, .slice A0_8 l0_8.length c0_8, .slice A0_9 l0_9.length c0_9] 30 (0, 0)) (by (with_reducible repeat (first | refine qj ?_ _ | refine qm ?_ | refine qi ?_ _)); exact BK160.out) hb)
 have n1_ := qd.mk (qba (by repeat (first | (with_reducible first | exact HB.out | apply qg | apply qc | apply qh | refine ql ?_ GE160.out) | exact HB.out)) hb)
 clear BK160
 clear HB
 have BK160 := n0_
 have HB := n1_
 clear n0_ n1_
 (try clear hb)
 (try clear hb2)
 (try clear hk)
 (try clear hi)
 refine hK.out _ _ ⟨(qb BK160.out 0).trans rfl, (qb BK160.out 1).trans rfl, (qb BK160.out 2).trans rfl, (qb BK160.out 3).trans rfl, (qb BK160.out 4).trans rfl, (qb BK160.out 5).trans rfl, (qb BK160.out 6).trans rfl, (qb BK160.out 7).trans rfl, (qb BK160.out 8).trans rfl, (qb BK160.out 9).trans rfl⟩ (fun hHeld => ?_)
 clear hK K
 refine norm_ (a' := ?_) ?_ ?_
 rotate_left
 ·show Act.put _ (some 13) _ = _
  simp only [Act.put, List.setIfInBounds_toArray, List.set_cons_zero, List.set_cons_succ, i64_w, i32_w]
  rfl
 refine pure_ (i := 6) (N := some 3) (v := ?_) (a' := ?_) #[true, true, true, true, true, true, true, false, false] rfl rfl (qb9 HT_.out (by kernel_rfl)) (fun _ _ _ h => h) (Or.inl ⟨by rfl, ?_⟩) ?_ ?_
 rotate_left
 ·intro w'
  go_simp
  with_reducible rfl
 rotate_left
 ·simp only [Act.put, List.setIfInBounds_toArray, List.set_cons_zero, List.set_cons_succ, i64_w, i32_w]
  rfl
 refine pure_ (i := 7) (N := some 4) (v := ?_) (a' := ?_) #[true, true, true, true, true, true, true, true, false] rfl rfl (qb9 HT_.out (by kernel_rfl)) (fun _ _ _ h => h) (Or.inl ⟨by rfl, ?_⟩) ?_ ?_
 rotate_left
 ·intro w'
  go_simp
  with_reducible rfl
 rotate_left
 ·simp only [Act.put, List.setIfInBounds_toArray, List.set_cons_zero, List.set_cons_succ, i64_w, i32_w]
  rfl
 refine pure_ (i := 8) (N := some 5) (v := ?_) (a' := ?_) #[true, true, true, true, true, true, true, true, true] rfl rfl (qb9 HT_.out (by kernel_rfl)) (fun _ _ _ h => h) (Or.inl ⟨by rfl, ?_⟩) ?_ ?_
 rotate_left
 ·intro w'
  go_simp
  with_reducible rfl
 rotate_left
 ·simp only [Act.put, List.setIfInBounds_toArray, List.set_cons_zero, List.set_cons_succ, i64_w, i32_w]
  rfl
 refine done_ (qez HT_.out (by kernel_rfl)) ?_
 have hcz7_0 : w6.cell? ⟨gb160, 0, none⟩ = some (.int .i64 a0_0) := (qb BK160.out 0).trans rfl
 have hcz7_1 : w6.cell? ⟨gb160, 1, none⟩ = some (.int .i64 a0_1) := (qb BK160.out 1).trans rfl
 have hcz7_2 : w6.cell? ⟨gb160, 2, none⟩ = some (.int .i64 a0_2) := (qb BK160.out 2).trans rfl
 have hcz7_3 : w6.cell? ⟨gb160, 3, none⟩ = some (.string a0_3) := (qb BK160.out 3).trans rfl
 have hcz7_4 : w6.cell? ⟨gb160, 4, none⟩ = some (.int .i64 a0_4) := (qb BK160.out 4).trans rfl
 have hcz7_5 : w6.cell? ⟨gb160, 5, none⟩ = some (.int .i64 a0_5) := (qb BK160.out 5).trans rfl
 have hcz7_6 : w6.cell? ⟨gb160, 6, none⟩ = some (.string a0_6) := (qb BK160.out 6).trans rfl
 have hcz7_7 : w6.cell? ⟨gb160, 7, none⟩ = some (.slice A0_7 l0_7.length c0_7) := (qb BK160.out 7).trans rfl
 have hcz7_8 : w6.cell? ⟨gb160, 8, none⟩ = some (.slice A0_8 l0_8.length c0_8) := (qb BK160.out 8).trans rfl
 have hcz7_9 : w6.cell? ⟨gb160, 9, none⟩ = some (.slice A0_9 l0_9.length c0_9) := (qb BK160.out 9).trans rfl
 have hfz7_0 := qa BK160.out 0
 have hfz7_1 := qa BK160.out 1
 have hfz7_2 := qa BK160.out 2
 have hfz7_3 := qa BK160.out 3
 have hfz7_4 := qa BK160.out 4
 have hfz7_5 := qa BK160.out 5
 have hfz7_6 := qa BK160.out 6
 have hfz7_7 := qa BK160.out 7
 have hfz7_8 := qa BK160.out 8
 have hfz7_9 := qa BK160.out 9
 go_upto_block 0 with (fail)
 go_cut [3, 4, 5] (fun v3 v4 v5 wc => ∃ (kq : Nat) (x3_2 : Bool) (x4_2 : Bool) (x5_2 : Int), v3 = .bool x3_2 ∧ v4 = .bool x4_2 ∧ v5 = .int .i64 x5_2 ∧ qd (qbh.j0 kq x3_2 x4_2 x5_2 a0_0 a0_1 a0_2 a0_3 a0_4 a0_5 a0_6 l0_7 l0_8 l0_9 = some r) ∧ qd (kq ≤ k) ∧ qd (wc.heap[gb160]? = some (.cells #[.int .i64 a0_0, .int .i64 a0_1, .int .i64 a0_2, .string a0_3, .int .i64 a0_4, .int .i64 a0_5, .string a0_6, (.slice A0_7 l0_7.length c0_7), (.slice A0_8 l0_8.length c0_8), (.slice A0_9 l0_9.length c0_9)] 30 (0, 0))) ∧ qd (Below w.heap.size w wc))
 case first =>
  have H := HC3.out
  clear HC3
  by_cases c8 : a0_0 = 8
  ·rw [if_pos c8] at H
   have c8b0 : (a0_0 == 8) = true := beq_iff_eq.mpr c8
   have c8b1 : (a0_0 != 8) = false := bne_eq_false_iff_eq.mpr c8
   clear c8
   (first | rw [c8b0] | (simp only [i64_w, i32_w]; rw [c8b0]) | skip)
   replace H := Option.bind_eq_some_iff.mp H
   obtain ⟨t162, A90, H⟩ := H
   replace H : ((qb7.f k a0_4 a0_5 a0_6 l0_7).bind fun t163 => (qbh.j0 k t162 t163 0 a0_0 a0_1 a0_2 a0_3 a0_4 a0_5 a0_6 l0_7 l0_8 l0_9)) = some r := H
   have A9 := qd.mk A90
   clear A90
   replace H := Option.bind_eq_some_iff.mp H
   obtain ⟨t163, A100, H⟩ := H
   replace H : (qbh.j0 k t162 t163 0 a0_0 a0_1 a0_2 a0_3 a0_4 a0_5 a0_6 l0_7 l0_8 l0_9) = some r := H
   have A10 := qd.mk A100
   clear A100
   have H' := qd.mk H
   clear H
   try go_wp2
   have n0_ := qd.mk (qm BK160.out)
   have n1_ := qd.mk (qh HB.out)
   clear BK160
   clear HB
   have BK160 := n0_
   have HB := n1_
   clear n0_ n1_
   refine qe5 (n := 8) (S := fun w' => w'.cell? ⟨gb160, 0, none⟩ = some (.int .i64 a0_0) ∧ w'.cell? ⟨gb160, 1, none⟩ = some (.int .i64 a0_1) ∧ w'.cell? ⟨gb160, 2, none⟩ = some (.int .i64 a0_2) ∧ w'.cell? ⟨gb160, 3, none⟩ = some (.string a0_3) ∧ w'.cell? ⟨gb160, 4, none⟩ = some (.int .i64 a0_4) ∧ w'.cell? ⟨gb160, 5, none⟩ = some (.int .i64 a0_5) ∧ w'.cell? ⟨gb160, 6, none⟩ = some (.string a0_6) ∧ w'.cell? ⟨gb160, 7, none⟩ = some (.slice A0_7 l0_7.length c0_7) ∧ w'.cell? ⟨gb160, 8, none⟩ = some (.slice A0_8 l0_8.length c0_8) ∧ w'.cell? ⟨gb160, 9, none⟩ = some (.slice A0_9 l0_9.length c0_9)) (ds := []) #[false, false, false, false, false, false, false, false] (by kernel_rfl) rfl rfl ⟨(qb BK160.out 0).trans rfl, (qb BK160.out 1).trans rfl, (qb BK160.out 2).trans rfl, (qb BK160.out 3).trans rfl, (qb BK160.out 4).trans rfl, (qb BK160.out 5).trans rfl, (qb BK160.out 6).trans rfl, (qb BK160.out 7).trans rfl, (qb BK160.out 8).trans rfl, (qb BK160.out 9).trans rfl⟩ (fun hHeld => ?_); refine qej qbh.tab4 qbh.bits4 (fun HT_ HW_ => ?_)
   generalize w6.drew = w11 at BK160 HB hHeld ⊢
   refine pure_ (i := 0) (N := some 18) (v := ?_) (a' := ?_) #[true, false, false, false, false, false, false, false] rfl rfl (qb9 HT_.out (by kernel_rfl)) (fun _ _ _ h => h) (Or.inl ⟨by rfl, ?_⟩) ?_ ?_
   rotate_left
   ·intro w'
    go_simp
    with_reducible rfl
   rotate_left
   ·simp only [Act.put, List.setIfInBounds_toArray, List.set_cons_zero, List.set_cons_succ, i64_w, i32_w]
    rfl
   refine pure_ (i := 3) (N := some 21) (v := ?_) (a' := ?_) #[true, false, false, true, false, false, false, false] rfl rfl (qb9 HT_.out (by kernel_rfl)) (fun _ _ _ h => h) (Or.inl ⟨by rfl, ?_⟩) ?_ ?_
   rotate_left
   ·intro w'
    go_simp
    with_reducible rfl
   rotate_left
   ·simp only [Act.put, List.setIfInBounds_toArray, List.set_cons_zero, List.set_cons_succ, i64_w, i32_w]
    rfl
   refine take_ (i := 1) (N := some 19) (v := ?_) (a' := ?_) #[true, true, false, true, false, false, false, false] rfl rfl (qcp HT_.out HW_.out (by kernel_rfl)) (fun _ _ _ h => h) (Or.inl ⟨by rfl, ?_⟩) hHeld ?_ ?_
   rotate_left
   ·rintro w' ⟨s0, s1, s2, s3, s4, s5, s6, s7, s8, s9⟩
    go_simp
    with_reducible rfl
   rotate_left
   ·simp only [Act.put, List.setIfInBounds_toArray, List.set_cons_zero, List.set_cons_succ, i64_w, i32_w]
    rfl
   refine take_ (i := 4) (N := some 22) (v := ?_) (a' := ?_) #[true, true, false, true, true, false, false, false] rfl rfl (qcp HT_.out HW_.out (by kernel_rfl)) (fun _ _ _ h => h) (Or.inl ⟨by rfl, ?_⟩) hHeld ?_ ?_
   rotate_left
   ·rintro w' ⟨s0, s1, s2, s3, s4, s5, s6, s7, s8, s9⟩
    go_simp
    with_reducible rfl
   rotate_left
   ·simp only [Act.put, List.setIfInBounds_toArray, List.set_cons_zero, List.set_cons_succ, i64_w, i32_w]
    rfl
   refine one_ (i := 2) (N := some 20) #[true, true, true, true, true, false, false, false] rfl rfl (qed HT_.out (by kernel_rfl)) (by decide) (fun K hK => ?_)
   refine goes_ Tryd.func82 (by kernel_rfl) rfl #[.string a0_3] (by rfl) rfl rfl (by (try simp only [List.map_toArray, List.map_cons, List.map_nil]); first | done | rfl | (simp only [List.length_drop, List.length_take]; rfl)) ?_
   with_reducible refine (qbz.calls k a0_3 t162 _ ?side1 A9.out).mono ?_
   (case side1 => exact Lay.below HLAY.out (by repeat (first | (with_reducible first | exact HB.out | apply qg | apply qc | apply qh | refine ql ?_ GE160.out) | exact HB.out)))
   rintro e w12 ⟨rfl, hb⟩
   refine ⟨_, rfl, ?_⟩
   have n0_ := qd.mk (qbb (g := gb160) (o := .cells #[.int .i64 a0_0, .int .i64 a0_1, .int .i64 a0_2, .string a0_3, .int .i64 a0_4, .int .i64 a0_5, .string a0_6, .slice A0_7 l0_7.length c0_7, .slice A0_8 l0_8.length c0_8, .slice A0_9 l0_9.length c0_9] 30 (0, 0)) (by (with_reducible repeat (first | refine qj ?_ _ | refine qm ?_ | refine qi ?_ _)); exact BK160.out) hb)
   have n1_ := qd.mk (qba (by repeat (first | (with_reducible first | exact HB.out | apply qg | apply qc | apply qh | refine ql ?_ GE160.out) | exact HB.out)) hb)
   clear BK160
   clear HB
   have BK160 := n0_
   have HB := n1_
   clear n0_ n1_
   (try clear hb)
   (try clear hb2)
   (try clear hk)
   (try clear hi)
   refine hK.out _ _ ⟨(qb BK160.out 0).trans rfl, (qb BK160.out 1).trans rfl, (qb BK160.out 2).trans rfl, (qb BK160.out 3).trans rfl, (qb BK160.out 4).trans rfl, (qb BK160.out 5).trans rfl, (qb BK160.out 6).trans rfl, (qb BK160.out 7).trans rfl, (qb BK160.out 8).trans rfl, (qb BK160.out 9).trans rfl⟩ (fun hHeld => ?_)
   clear hK K
   refine norm_ (a' := ?_) ?_ ?_
   rotate_left
   ·show Act.put _ (some 20) _ = _
    simp only [Act.put, List.setIfInBounds_toArray, List.set_cons_zero, List.set_cons_succ, i64_w, i32_w]
    rfl
   refine one_ (i := 5) (N := some 23) #[true, true, true, true, true, true, false, false] rfl rfl (qed HT_.out (by kernel_rfl)) (by decide) (fun K hK => ?_)
   refine goes_ Tryd.func83 (by kernel_rfl) rfl #[.agg #[.int .i64 a0_4, .int .i64 a0_5, .string a0_6, .slice A0_7 l0_7.length c0_7]] (by rfl) rfl rfl (by (try simp only [List.map_toArray, List.map_cons, List.map_nil]); first | done | rfl | (simp only [List.length_drop, List.length_take]; rfl)) ?_
   with_reducible refine (qb7.calls k a0_4 a0_5 a0_6 _ _ l0_7 t163 _ ?side1 ?side2 ?side3 A10.out).mono ?_
   (case side1 => repeat (first | exact (Kd.qbv HR0_7.out HB.out) | (with_reducible refine Kd.qb4 ?_ _) | (with_reducible refine Kd.qb1 ?_ _) | (with_reducible refine Kd.qb8 ?_)))
   (case side2 => exact HC0_7.out)
   (case side3 => exact Lay.below HLAY.out (by repeat (first | (with_reducible first | exact HB.out | apply qg | apply qc | apply qh | refine ql ?_ GE160.out) | exact HB.out)))
   rintro e w13 ⟨rfl, hb⟩
   refine ⟨_, rfl, ?_⟩
   have n0_ := qd.mk (qbb (g := gb160) (o := .cells #[.int .i64 a0_0, .int .i64 a0_1, .int .i64 a0_2, .string a0_3, .int .i64 a0_4, .int .i64 a0_5, .string a0_6, .slice A0_7 l0_7.length c0_7, .slice A0_8 l0_8.length c0_8, .slice A0_9 l0_9.length c0_9] 30 (0, 0)) (by (with_reducible repeat (first | refine qj ?_ _ | refine qm ?_ | refine qi ?_ _)); exact BK160.out) hb)
   have n1_ := qd.mk (qba (by repeat (first | (with_reducible first | exact HB.out | apply qg | apply qc | apply qh | refine ql ?_ GE160.out) | exact HB.out)) hb)
   clear BK160
   clear HB
   have BK160 := n0_
   have HB := n1_
   clear n0_ n1_
   (try clear hb)
   (try clear hb2)
   (try clear hk)
   (try clear hi)
   refine hK.out _ _ ⟨(qb BK160.out 0).trans rfl, (qb BK160.out 1).trans rfl, (qb BK160.out 2).trans rfl, (qb BK160.out 3).trans rfl, (qb BK160.out 4).trans rfl, (qb BK160.out 5).trans rfl, (qb BK160.out 6).trans rfl, (qb BK160.out 7).trans rfl, (qb BK160.out 8).trans rfl, (qb BK160.out 9).trans rfl⟩ (fun hHeld => ?_)
   clear hK K
   refine norm_ (a' := ?_) ?_ ?_
   rotate_left
   ·show Act.put _ (some 23) _ = _
    simp only [Act.put, List.setIfInBounds_toArray, List.set_cons_zero, List.set_cons_succ, i64_w, i32_w]
    rfl
   refine pure_ (i := 6) (N := some 3) (v := ?_) (a' := ?_) #[true, true, true, true, true, true, true, false] rfl rfl (qb9 HT_.out (by kernel_rfl)) (fun _ _ _ h => h) (Or.inl ⟨by rfl, ?_⟩) ?_ ?_
   rotate_left
   ·intro w'
    go_simp
    with_reducible rfl
   rotate_left
   ·simp only [Act.put, List.setIfInBounds_toArray, List.set_cons_zero, List.set_cons_succ, i64_w, i32_w]
    rfl
   refine pure_ (i := 7) (N := some 4) (v := ?_) (a' := ?_) #[true, true, true, true, true, true, true, true] rfl rfl (qb9 HT_.out (by kernel_rfl)) (fun _ _ _ h => h) (Or.inl ⟨by rfl, ?_⟩) ?_ ?_
   rotate_left
   ·intro w'
    go_simp
    with_reducible rfl
   rotate_left
   ·simp only [Act.put, List.setIfInBounds_toArray, List.set_cons_zero, List.set_cons_succ, i64_w, i32_w]
    rfl
   refine done_ (qez HT_.out (by kernel_rfl)) ?_
   try go_wp2
   go_meet
   case rel => exact ⟨_, (t162), (t163), (0), (by first | rfl | (simp; done) | (simp [*]; done)), (by first | rfl | (simp; done) | (simp [*]; done)), (by first | rfl | (simp; done) | (simp [*]; done)), H', ⟨by first | omega | exact Nat.le_refl _⟩, ⟨by (with_reducible repeat (first | refine qj ?_ _ | refine qm ?_ | refine qi ?_ _)); exact BK160.out⟩, ⟨by repeat (first | (with_reducible first | exact HB.out | apply qg | apply qc | apply qh | refine ql ?_ GE160.out) | exact HB.out)⟩⟩
  ·rw [if_neg c8] at H
   have c8b0 : (a0_0 == 8) = false := beq_eq_false_iff_ne.mpr c8
   have c8b1 : (a0_0 != 8) = true := bne_iff_ne.mpr c8
   (first | rw [c8b0] | (simp only [i64_w, i32_w]; rw [c8b0]) | skip)
   by_cases c14 : a0_0 = 7
   ·rw [if_pos c14] at H
    have c14b0 : (a0_0 == 7) = true := beq_iff_eq.mpr c14
    have c14b1 : (a0_0 != 7) = false := bne_eq_false_iff_eq.mpr c14
    clear c14
    replace H := Option.bind_eq_some_iff.mp H
    obtain ⟨t164, A150, H⟩ := H
    replace H : (qbh.j0 k (a0_3.toList == ([] : List UInt8)) t164 0 a0_0 a0_1 a0_2 a0_3 a0_4 a0_5 a0_6 l0_7 l0_8 l0_9) = some r := H
    have A15 := qd.mk A150
    clear A150
    have H' := qd.mk H
    clear H
    have hcz16_0 : w6.cell? ⟨gb160, 0, none⟩ = some (.int .i64 a0_0) := (qb BK160.out 0).trans rfl
    have hcz16_1 : w6.cell? ⟨gb160, 1, none⟩ = some (.int .i64 a0_1) := (qb BK160.out 1).trans rfl
    have hcz16_2 : w6.cell? ⟨gb160, 2, none⟩ = some (.int .i64 a0_2) := (qb BK160.out 2).trans rfl
    have hcz16_3 : w6.cell? ⟨gb160, 3, none⟩ = some (.string a0_3) := (qb BK160.out 3).trans rfl
    have hcz16_4 : w6.cell? ⟨gb160, 4, none⟩ = some (.int .i64 a0_4) := (qb BK160.out 4).trans rfl
    have hcz16_5 : w6.cell? ⟨gb160, 5, none⟩ = some (.int .i64 a0_5) := (qb BK160.out 5).trans rfl
    have hcz16_6 : w6.cell? ⟨gb160, 6, none⟩ = some (.string a0_6) := (qb BK160.out 6).trans rfl
    have hcz16_7 : w6.cell? ⟨gb160, 7, none⟩ = some (.slice A0_7 l0_7.length c0_7) := (qb BK160.out 7).trans rfl
    have hcz16_8 : w6.cell? ⟨gb160, 8, none⟩ = some (.slice A0_8 l0_8.length c0_8) := (qb BK160.out 8).trans rfl
    have hcz16_9 : w6.cell? ⟨gb160, 9, none⟩ = some (.slice A0_9 l0_9.length c0_9) := (qb BK160.out 9).trans rfl
    have hfz16_0 := qa BK160.out 0
    have hfz16_1 := qa BK160.out 1
    have hfz16_2 := qa BK160.out 2
    have hfz16_3 := qa BK160.out 3
    have hfz16_4 := qa BK160.out 4
    have hfz16_5 := qa BK160.out 5
    have hfz16_6 := qa BK160.out 6
    have hfz16_7 := qa BK160.out 7
    have hfz16_8 := qa BK160.out 8
    have hfz16_9 := qa BK160.out 9
    go_wp2_with (first | ((with_reducible refine qb2 (f := 83) rfl ?_); refine qcn (some 28) rfl rfl Tryd.func83 (by kernel_rfl) rfl #[.agg #[.int .i64 a0_4, .int .i64 a0_5, .string a0_6, .slice A0_7 l0_7.length c0_7]] rfl (by (try simp only [List.map_toArray, List.map_cons, List.map_nil]); first | done | rfl | (simp only [List.length_drop, List.length_take]; rfl)) ?_; (with_reducible refine (qb7.calls k a0_4 a0_5 a0_6 _ _ l0_7 t164 _ ?side1 ?side2 ?side3 A15.out).mono ?_); (case side1 => repeat (first | exact (Kd.qbv HR0_7.out HB.out) | (with_reducible refine Kd.qb4 ?_ _) | (with_reducible refine Kd.qb1 ?_ _) | (with_reducible refine Kd.qb8 ?_))); (case side2 => exact HC0_7.out); (case side3 => exact Lay.below HLAY.out (by repeat (first | (with_reducible first | exact HB.out | apply qg | apply qc | apply qh | refine ql ?_ GE160.out) | exact HB.out))); rintro e w17 ⟨rfl, hb⟩; refine ⟨_, rfl, ?_⟩; have n0_ := qd.mk (qbb (g := gb160) (o := .cells #[.int .i64 a0_0, .int .i64 a0_1, .int .i64 a0_2, .string a0_3, .int .i64 a0_4, .int .i64 a0_5, .string a0_6, .slice A0_7 l0_7.length c0_7, .slice A0_8 l0_8.length c0_8, .slice A0_9 l0_9.length c0_9] 30 (0, 0)) (by (with_reducible repeat (first | refine qj ?_ _ | refine qm ?_ | refine qi ?_ _)); exact BK160.out) hb); have n1_ := qd.mk (qba (by repeat (first | (with_reducible first | exact HB.out | apply qg | apply qc | apply qh | refine ql ?_ GE160.out) | exact HB.out)) hb); clear BK160; clear HB; have BK160 := n0_; have HB := n1_; clear n0_ n1_; (try clear hb); (try clear hb2); (try clear hk); (try clear hi)))
    go_meet
    case rel => exact ⟨_, ((a0_3.toList == ([] : List UInt8))), (t164), (0), (by first | rfl | (simp; done) | (simp [*]; done)), (by first | rfl | (simp; done) | (simp [*]; done)), (by first | rfl | (simp; done) | (simp [*]; done)), H', ⟨by first | omega | exact Nat.le_refl _⟩, ⟨by (with_reducible repeat (first | refine qj ?_ _ | refine qm ?_ | refine qi ?_ _)); exact BK160.out⟩, ⟨by repeat (first | (with_reducible first | exact HB.out | apply qg | apply qc | apply qh | refine ql ?_ GE160.out) | exact HB.out)⟩⟩
   ·rw [if_neg c14] at H
    have c14b0 : (a0_0 == 7) = false := beq_eq_false_iff_ne.mpr c14
    have c14b1 : (a0_0 != 7) = true := bne_iff_ne.mpr c14
    by_cases c18 : a0_0 = 9
    ·rw [if_pos c18] at H
     have c18b0 : (a0_0 == 9) = true := beq_iff_eq.mpr c18
     have c18b1 : (a0_0 != 9) = false := bne_eq_false_iff_eq.mpr c18
     clear c18
     replace H := Option.bind_eq_some_iff.mp H
     obtain ⟨t165, A190, H⟩ := H
     replace H : (qbh.j0 k t165 t161 0 a0_0 a0_1 a0_2 a0_3 a0_4 a0_5 a0_6 l0_7 l0_8 l0_9) = some r := H
     have A19 := qd.mk A190
     clear A190
     have H' := qd.mk H
     clear H
     have hcz20_0 : w6.cell? ⟨gb160, 0, none⟩ = some (.int .i64 a0_0) := (qb BK160.out 0).trans rfl
     have hcz20_1 : w6.cell? ⟨gb160, 1, none⟩ = some (.int .i64 a0_1) := (qb BK160.out 1).trans rfl
     have hcz20_2 : w6.cell? ⟨gb160, 2, none⟩ = some (.int .i64 a0_2) := (qb BK160.out 2).trans rfl
     have hcz20_3 : w6.cell? ⟨gb160, 3, none⟩ = some (.string a0_3) := (qb BK160.out 3).trans rfl
     have hcz20_4 : w6.cell? ⟨gb160, 4, none⟩ = some (.int .i64 a0_4) := (qb BK160.out 4).trans rfl
     have hcz20_5 : w6.cell? ⟨gb160, 5, none⟩ = some (.int .i64 a0_5) := (qb BK160.out 5).trans rfl
     have hcz20_6 : w6.cell? ⟨gb160, 6, none⟩ = some (.string a0_6) := (qb BK160.out 6).trans rfl
     have hcz20_7 : w6.cell? ⟨gb160, 7, none⟩ = some (.slice A0_7 l0_7.length c0_7) := (qb BK160.out 7).trans rfl
     have hcz20_8 : w6.cell? ⟨gb160, 8, none⟩ = some (.slice A0_8 l0_8.length c0_8) := (qb BK160.out 8).trans rfl
     have hcz20_9 : w6.cell? ⟨gb160, 9, none⟩ = some (.slice A0_9 l0_9.length c0_9) := (qb BK160.out 9).trans rfl
     have hfz20_0 := qa BK160.out 0
     have hfz20_1 := qa BK160.out 1
     have hfz20_2 := qa BK160.out 2
     have hfz20_3 := qa BK160.out 3
     have hfz20_4 := qa BK160.out 4
     have hfz20_5 := qa BK160.out 5
     have hfz20_6 := qa BK160.out 6
     have hfz20_7 := qa BK160.out 7
     have hfz20_8 := qa BK160.out 8
     have hfz20_9 := qa BK160.out 9
     go_wp2_with (first | ((with_reducible refine qb2 (f := 82) rfl ?_); refine qcn (some 34) rfl rfl Tryd.func82 (by kernel_rfl) rfl #[.string a0_3] rfl (by (try simp only [List.map_toArray, List.map_cons, List.map_nil]); first | done | rfl | (simp only [List.length_drop, List.length_take]; rfl)) ?_; (with_reducible refine (qbz.calls k a0_3 t165 _ ?side1 A19.out).mono ?_); (case side1 => exact Lay.below HLAY.out (by repeat (first | (with_reducible first | exact HB.out | apply qg | apply qc | apply qh | refine ql ?_ GE160.out) | exact HB.out))); rintro e w21 ⟨rfl, hb⟩; refine ⟨_, rfl, ?_⟩; have n0_ := qd.mk (qbb (g := gb160) (o := .cells #[.int .i64 a0_0, .int .i64 a0_1, .int .i64 a0_2, .string a0_3, .int .i64 a0_4, .int .i64 a0_5, .string a0_6, .slice A0_7 l0_7.length c0_7, .slice A0_8 l0_8.length c0_8, .slice A0_9 l0_9.length c0_9] 30 (0, 0)) (by (with_reducible repeat (first | refine qj ?_ _ | refine qm ?_ | refine qi ?_ _)); exact BK160.out) hb); have n1_ := qd.mk (qba (by repeat (first | (with_reducible first | exact HB.out | apply qg | apply qc | apply qh | refine ql ?_ GE160.out) | exact HB.out)) hb); clear BK160; clear HB; have BK160 := n0_; have HB := n1_; clear n0_ n1_; (try clear hb); (try clear hb2); (try clear hk); (try clear hi)))
     go_meet
     case rel => exact ⟨_, (t165), (t161), (0), (by first | rfl | (simp; done) | (simp [*]; done)), (by first | rfl | (simp; done) | (simp [*]; done)), (by first | rfl | (simp; done) | (simp [*]; done)), H', ⟨by first | omega | exact Nat.le_refl _⟩, ⟨by (with_reducible repeat (first | refine qj ?_ _ | refine qm ?_ | refine qi ?_ _)); exact BK160.out⟩, ⟨by repeat (first | (with_reducible first | exact HB.out | apply qg | apply qc | apply qh | refine ql ?_ GE160.out) | exact HB.out)⟩⟩
    ·rw [if_neg c18] at H
     have c18b0 : (a0_0 == 9) = false := beq_eq_false_iff_ne.mpr c18
     have c18b1 : (a0_0 != 9) = true := bne_iff_ne.mpr c18
     by_cases c22 : a0_0 = 12
     ·rw [if_pos c22] at H
      have c22b0 : (a0_0 == 12) = true := beq_iff_eq.mpr c22
      have c22b1 : (a0_0 != 12) = false := bne_eq_false_iff_eq.mpr c22
      clear c22
      replace H := Option.bind_eq_some_iff.mp H
      obtain ⟨t166, A230, H⟩ := H
      replace H : (qbh.j0 k t166 t161 0 a0_0 a0_1 a0_2 a0_3 a0_4 a0_5 a0_6 l0_7 l0_8 l0_9) = some r := H
      have A23 := qd.mk A230
      clear A230
      have H' := qd.mk H
      clear H
      have hcz24_0 : w6.cell? ⟨gb160, 0, none⟩ = some (.int .i64 a0_0) := (qb BK160.out 0).trans rfl
      have hcz24_1 : w6.cell? ⟨gb160, 1, none⟩ = some (.int .i64 a0_1) := (qb BK160.out 1).trans rfl
      have hcz24_2 : w6.cell? ⟨gb160, 2, none⟩ = some (.int .i64 a0_2) := (qb BK160.out 2).trans rfl
      have hcz24_3 : w6.cell? ⟨gb160, 3, none⟩ = some (.string a0_3) := (qb BK160.out 3).trans rfl
      have hcz24_4 : w6.cell? ⟨gb160, 4, none⟩ = some (.int .i64 a0_4) := (qb BK160.out 4).trans rfl
      have hcz24_5 : w6.cell? ⟨gb160, 5, none⟩ = some (.int .i64 a0_5) := (qb BK160.out 5).trans rfl
      have hcz24_6 : w6.cell? ⟨gb160, 6, none⟩ = some (.string a0_6) := (qb BK160.out 6).trans rfl
      have hcz24_7 : w6.cell? ⟨gb160, 7, none⟩ = some (.slice A0_7 l0_7.length c0_7) := (qb BK160.out 7).trans rfl
      have hcz24_8 : w6.cell? ⟨gb160, 8, none⟩ = some (.slice A0_8 l0_8.length c0_8) := (qb BK160.out 8).trans rfl
      have hcz24_9 : w6.cell? ⟨gb160, 9, none⟩ = some (.slice A0_9 l0_9.length c0_9) := (qb BK160.out 9).trans rfl
      have hfz24_0 := qa BK160.out 0
      have hfz24_1 := qa BK160.out 1
      have hfz24_2 := qa BK160.out 2
      have hfz24_3 := qa BK160.out 3
      have hfz24_4 := qa BK160.out 4
      have hfz24_5 := qa BK160.out 5
      have hfz24_6 := qa BK160.out 6
      have hfz24_7 := qa BK160.out 7
      have hfz24_8 := qa BK160.out 8
      have hfz24_9 := qa BK160.out 9
      go_wp2_with (first | ((with_reducible refine qb2 (f := 82) rfl ?_); refine qcn (some 34) rfl rfl Tryd.func82 (by kernel_rfl) rfl #[.string a0_3] rfl (by (try simp only [List.map_toArray, List.map_cons, List.map_nil]); first | done | rfl | (simp only [List.length_drop, List.length_take]; rfl)) ?_; (with_reducible refine (qbz.calls k a0_3 t166 _ ?side1 A23.out).mono ?_); (case side1 => exact Lay.below HLAY.out (by repeat (first | (with_reducible first | exact HB.out | apply qg | apply qc | apply qh | refine ql ?_ GE160.out) | exact HB.out))); rintro e w25 ⟨rfl, hb⟩; refine ⟨_, rfl, ?_⟩; have n0_ := qd.mk (qbb (g := gb160) (o := .cells #[.int .i64 a0_0, .int .i64 a0_1, .int .i64 a0_2, .string a0_3, .int .i64 a0_4, .int .i64 a0_5, .string a0_6, .slice A0_7 l0_7.length c0_7, .slice A0_8 l0_8.length c0_8, .slice A0_9 l0_9.length c0_9] 30 (0, 0)) (by (with_reducible repeat (first | refine qj ?_ _ | refine qm ?_ | refine qi ?_ _)); exact BK160.out) hb); have n1_ := qd.mk (qba (by repeat (first | (with_reducible first | exact HB.out | apply qg | apply qc | apply qh | refine ql ?_ GE160.out) | exact HB.out)) hb); clear BK160; clear HB; have BK160 := n0_; have HB := n1_; clear n0_ n1_; (try clear hb); (try clear hb2); (try clear hk); (try clear hi)))
      go_meet
      case rel => exact ⟨_, (t166), (t161), (0), (by first | rfl | (simp; done) | (simp [*]; done)), (by first | rfl | (simp; done) | (simp [*]; done)), (by first | rfl | (simp; done) | (simp [*]; done)), H', ⟨by first | omega | exact Nat.le_refl _⟩, ⟨by (with_reducible repeat (first | refine qj ?_ _ | refine qm ?_ | refine qi ?_ _)); exact BK160.out⟩, ⟨by repeat (first | (with_reducible first | exact HB.out | apply qg | apply qc | apply qh | refine ql ?_ GE160.out) | exact HB.out)⟩⟩
     ·rw [if_neg c22] at H
      have c22b0 : (a0_0 == 12) = false := beq_eq_false_iff_ne.mpr c22
      have c22b1 : (a0_0 != 12) = true := bne_iff_ne.mpr c22
      by_cases c26 : a0_0 = 11
      ·rw [if_pos c26] at H
       have c26b0 : (a0_0 == 11) = true := beq_iff_eq.mpr c26
       have c26b1 : (a0_0 != 11) = false := bne_eq_false_iff_eq.mpr c26
       clear c26
       have H' := qd.mk H
       clear H
       have hcz27_0 : w6.cell? ⟨gb160, 0, none⟩ = some (.int .i64 a0_0) := (qb BK160.out 0).trans rfl
       have hcz27_1 : w6.cell? ⟨gb160, 1, none⟩ = some (.int .i64 a0_1) := (qb BK160.out 1).trans rfl
       have hcz27_2 : w6.cell? ⟨gb160, 2, none⟩ = some (.int .i64 a0_2) := (qb BK160.out 2).trans rfl
       have hcz27_3 : w6.cell? ⟨gb160, 3, none⟩ = some (.string a0_3) := (qb BK160.out 3).trans rfl
       have hcz27_4 : w6.cell? ⟨gb160, 4, none⟩ = some (.int .i64 a0_4) := (qb BK160.out 4).trans rfl
       have hcz27_5 : w6.cell? ⟨gb160, 5, none⟩ = some (.int .i64 a0_5) := (qb BK160.out 5).trans rfl
       have hcz27_6 : w6.cell? ⟨gb160, 6, none⟩ = some (.string a0_6) := (qb BK160.out 6).trans rfl
       have hcz27_7 : w6.cell? ⟨gb160, 7, none⟩ = some (.slice A0_7 l0_7.length c0_7) := (qb BK160.out 7).trans rfl
       have hcz27_8 : w6.cell? ⟨gb160, 8, none⟩ = some (.slice A0_8 l0_8.length c0_8) := (qb BK160.out 8).trans rfl
       have hcz27_9 : w6.cell? ⟨gb160, 9, none⟩ = some (.slice A0_9 l0_9.length c0_9) := (qb BK160.out 9).trans rfl
       have hfz27_0 := qa BK160.out 0
       have hfz27_1 := qa BK160.out 1
       have hfz27_2 := qa BK160.out 2
       have hfz27_3 := qa BK160.out 3
       have hfz27_4 := qa BK160.out 4
       have hfz27_5 := qa BK160.out 5
       have hfz27_6 := qa BK160.out 6
       have hfz27_7 := qa BK160.out 7
       have hfz27_8 := qa BK160.out 8
       have hfz27_9 := qa BK160.out 9
       go_wp2
       go_meet
       case rel => exact ⟨_, ((a0_3.toList == ([] : List UInt8))), (t161), ((l0_8.length : Int)), (by first | rfl | (simp; done) | (simp [*]; done)), (by first | rfl | (simp; done) | (simp [*]; done)), (by first | rfl | (simp; done) | (simp [*]; done)), H', ⟨by first | omega | exact Nat.le_refl _⟩, ⟨by (with_reducible repeat (first | refine qj ?_ _ | refine qm ?_ | refine qi ?_ _)); exact BK160.out⟩, ⟨by repeat (first | (with_reducible first | exact HB.out | apply qg | apply qc | apply qh | refine ql ?_ GE160.out) | exact HB.out)⟩⟩
      ·rw [if_neg c26] at H
       have c26b0 : (a0_0 == 11) = false := beq_eq_false_iff_ne.mpr c26
       have c26b1 : (a0_0 != 11) = true := bne_iff_ne.mpr c26
       have H' := qd.mk H
       clear H
       go_wp2
       go_meet
       case rel => exact ⟨_, ((a0_3.toList == ([] : List UInt8))), (t161), (0), (by first | rfl | (simp; done) | (simp [*]; done)), (by first | rfl | (simp; done) | (simp [*]; done)), (by first | rfl | (simp; done) | (simp [*]; done)), H', ⟨by first | omega | exact Nat.le_refl _⟩, ⟨by (with_reducible repeat (first | refine qj ?_ _ | refine qm ?_ | refine qi ?_ _)); exact BK160.out⟩, ⟨by repeat (first | (with_reducible first | exact HB.out | apply qg | apply qc | apply qh | refine ql ?_ GE160.out) | exact HB.out)⟩⟩
 case rest =>
  clear HC3
  (try clear c1); (try clear c2); (try clear p2); (try clear c6); (try clear c8); (try clear c8b0); (try clear c8b1); (try clear c14); (try clear c14b0); (try clear c14b1); (try clear c18); (try clear c18b0); (try clear c18b1); (try clear c22); (try clear c22b0); (try clear c22b1); (try clear c26); (try clear c26b0); (try clear c26b1); (try clear hcz16_0 hcz16_1 hcz16_2 hcz16_3 hcz16_4 hcz16_5 hcz16_6 hcz16_7 hcz16_8 hcz16_9); (try clear hcz20_0 hcz20_1 hcz20_2 hcz20_3 hcz20_4 hcz20_5 hcz20_6 hcz20_7 hcz20_8 hcz20_9); (try clear hcz24_0 hcz24_1 hcz24_2 hcz24_3 hcz24_4 hcz24_5 hcz24_6 hcz24_7 hcz24_8 hcz24_9); (try clear hcz27_0 hcz27_1 hcz27_2 hcz27_3 hcz27_4 hcz27_5 hcz27_6 hcz27_7 hcz27_8 hcz27_9); (try clear hcz7_0 hcz7_1 hcz7_2 hcz7_3 hcz7_4 hcz7_5 hcz7_6 hcz7_7 hcz7_8 hcz7_9); (try clear hfz16_0 hfz16_1 hfz16_2 hfz16_3 hfz16_4 hfz16_5 hfz16_6 hfz16_7 hfz16_8 hfz16_9); (try clear hfz20_0 hfz20_1 hfz20_2 hfz20_3 hfz20_4 hfz20_5 hfz20_6 hfz20_7 hfz20_8 hfz20_9); (try clear hfz24_0 hfz24_1 hfz24_2 hfz24_3 hfz24_4 hfz24_5 hfz24_6 hfz24_7 hfz24_8 hfz24_9); (try clear hfz27_0 hfz27_1 hfz27_2 hfz27_3 hfz27_4 hfz27_5 hfz27_6 hfz27_7 hfz27_8 hfz27_9); (try clear hfz7_0 hfz7_1 hfz7_2 hfz7_3 hfz7_4 hfz7_5 hfz7_6 hfz7_7 hfz7_8 hfz7_9)
  obtain ⟨kq, x3_2, x4_2, x5_2, rfl, rfl, rfl, HA, HJ2, BK160, HB⟩ := hcut
  cases kq with
  | zero => exact absurd HA.out (by simp [qbh.j0])
  | succ kj2 =>
   have H := HA.out
   clear HA
   simp only [qbh.j0] at H
   have H' := qd.mk H
   clear H
   have hcz28_0 : wc.cell? ⟨gb160, 0, none⟩ = some (.int .i64 a0_0) := (qb BK160.out 0).trans rfl
   have hcz28_1 : wc.cell? ⟨gb160, 1, none⟩ = some (.int .i64 a0_1) := (qb BK160.out 1).trans rfl
   have hcz28_2 : wc.cell? ⟨gb160, 2, none⟩ = some (.int .i64 a0_2) := (qb BK160.out 2).trans rfl
   have hcz28_3 : wc.cell? ⟨gb160, 3, none⟩ = some (.string a0_3) := (qb BK160.out 3).trans rfl
   have hcz28_4 : wc.cell? ⟨gb160, 4, none⟩ = some (.int .i64 a0_4) := (qb BK160.out 4).trans rfl
   have hcz28_5 : wc.cell? ⟨gb160, 5, none⟩ = some (.int .i64 a0_5) := (qb BK160.out 5).trans rfl
   have hcz28_6 : wc.cell? ⟨gb160, 6, none⟩ = some (.string a0_6) := (qb BK160.out 6).trans rfl
   have hcz28_7 : wc.cell? ⟨gb160, 7, none⟩ = some (.slice A0_7 l0_7.length c0_7) := (qb BK160.out 7).trans rfl
   have hcz28_8 : wc.cell? ⟨gb160, 8, none⟩ = some (.slice A0_8 l0_8.length c0_8) := (qb BK160.out 8).trans rfl
   have hcz28_9 : wc.cell? ⟨gb160, 9, none⟩ = some (.slice A0_9 l0_9.length c0_9) := (qb BK160.out 9).trans rfl
   have hfz28_0 := qa BK160.out 0
   have hfz28_1 := qa BK160.out 1
   have hfz28_2 := qa BK160.out 2
   have hfz28_3 := qa BK160.out 3
   have hfz28_4 := qa BK160.out 4
   have hfz28_5 := qa BK160.out 5
   have hfz28_6 := qa BK160.out 6
   have hfz28_7 := qa BK160.out 7
   have hfz28_8 := qa BK160.out 8
   have hfz28_9 := qa BK160.out 9
   go_wp2
   go_loopg [43] kj2 (fun kq v43 w' => ∃ (x43_2 : Int), v43 = .int .i64 x43_2 ∧ qd (qbh.l0 kq x3_2 x4_2 x5_2 l0_9 (l0_9.length : Int) x43_2 a0_0 a0_1 a0_2 a0_3 a0_4 a0_5 a0_6 l0_7 l0_8 l0_9 = some r) ∧ qd (kq ≤ kj2) ∧ qd (w'.heap[gb160]? = some (.cells #[.int .i64 a0_0, .int .i64 a0_1, .int .i64 a0_2, .string a0_3, .int .i64 a0_4, .int .i64 a0_5, .string a0_6, (.slice A0_7 l0_7.length c0_7), (.slice A0_8 l0_8.length c0_8), (.slice A0_9 l0_9.length c0_9)] 30 (0, 0))) ∧ qd (Below w.heap.size w w'))
   case atStart => exact ⟨(0), (by first | rfl | (simp; done) | (simp [*]; done)), H', ⟨Nat.le_refl _⟩, ⟨by (with_reducible repeat (first | refine qj ?_ _ | refine qm ?_ | refine qi ?_ _)); exact BK160.out⟩, ⟨by repeat (first | (with_reducible first | exact HB.out | apply qg | apply qc | apply qh | refine ql ?_ GE160.out) | exact HB.out)⟩⟩
   case round =>
    clear H'
    (try clear c1); (try clear c2); (try clear p2); (try clear c6); (try clear c8); (try clear c8b0); (try clear c8b1); (try clear c14); (try clear c14b0); (try clear c14b1); (try clear c18); (try clear c18b0); (try clear c18b1); (try clear c22); (try clear c22b0); (try clear c22b1); (try clear c26); (try clear c26b0); (try clear c26b1); (try clear hcz16_0 hcz16_1 hcz16_2 hcz16_3 hcz16_4 hcz16_5 hcz16_6 hcz16_7 hcz16_8 hcz16_9); (try clear hcz20_0 hcz20_1 hcz20_2 hcz20_3 hcz20_4 hcz20_5 hcz20_6 hcz20_7 hcz20_8 hcz20_9); (try clear hcz24_0 hcz24_1 hcz24_2 hcz24_3 hcz24_4 hcz24_5 hcz24_6 hcz24_7 hcz24_8 hcz24_9); (try clear hcz27_0 hcz27_1 hcz27_2 hcz27_3 hcz27_4 hcz27_5 hcz27_6 hcz27_7 hcz27_8 hcz27_9); (try clear hcz28_0 hcz28_1 hcz28_2 hcz28_3 hcz28_4 hcz28_5 hcz28_6 hcz28_7 hcz28_8 hcz28_9); (try clear hcz7_0 hcz7_1 hcz7_2 hcz7_3 hcz7_4 hcz7_5 hcz7_6 hcz7_7 hcz7_8 hcz7_9); (try clear hfz16_0 hfz16_1 hfz16_2 hfz16_3 hfz16_4 hfz16_5 hfz16_6 hfz16_7 hfz16_8 hfz16_9); (try clear hfz20_0 hfz20_1 hfz20_2 hfz20_3 hfz20_4 hfz20_5 hfz20_6 hfz20_7 hfz20_8 hfz20_9); (try clear hfz24_0 hfz24_1 hfz24_2 hfz24_3 hfz24_4 hfz24_5 hfz24_6 hfz24_7 hfz24_8 hfz24_9); (try clear hfz27_0 hfz27_1 hfz27_2 hfz27_3 hfz27_4 hfz27_5 hfz27_6 hfz27_7 hfz27_8 hfz27_9); (try clear hfz28_0 hfz28_1 hfz28_2 hfz28_3 hfz28_4 hfz28_5 hfz28_6 hfz28_7 hfz28_8 hfz28_9); (try clear hfz7_0 hfz7_1 hfz7_2 hfz7_3 hfz7_4 hfz7_5 hfz7_6 hfz7_7 hfz7_8 hfz7_9); (try clear p2)
    obtain ⟨x43_2, rfl, HA, HK2, BK160, HB⟩ := hrel
    cases gk with
    | zero => exact absurd HA.out (by simp [qbh.l0])
    | succ k2 =>
     have H := HA.out
     clear HA
     simp only [qbh.l0] at H
     by_cases c29 : x43_2 < (l0_9.length : Int)
     ·rw [if_pos c29] at H
      have c29b0 : decide (x43_2 < (l0_9.length : Int)) = true := decide_eq_true c29
      clear c29
      by_cases c30 : 0 ≤ x43_2
      ·rw [if_pos c30] at H
       have c30b0 : decide (0 ≤ x43_2) = true := decide_eq_true c30
       clear c30
       by_cases c31 : x43_2 < (l0_9.length : Int)
       ·rw [if_pos c31] at H
        have c31b0 : decide (x43_2 < (l0_9.length : Int)) = true := decide_eq_true c31
        clear c31
        replace H := Option.bind_eq_some_iff.mp H
        obtain ⟨t169, A320, H⟩ := H
        replace H : (if t169 = true then (qbh.l0 k2 x3_2 x4_2 x5_2 l0_9 (l0_9.length : Int) (wrap64 (x43_2 + 1)) a0_0 a0_1 a0_2 a0_3 a0_4 a0_5 a0_6 l0_7 l0_8 l0_9) else (some false)) = some r := H
        have A32 := qd.mk A320
        clear A320
        by_cases c33 : t169 = true
        ·subst c33
         have H1 : (qbh.l0 k2 x3_2 x4_2 x5_2 l0_9 (l0_9.length : Int) (wrap64 (x43_2 + 1)) a0_0 a0_1 a0_2 a0_3 a0_4 a0_5 a0_6 l0_7 l0_8 l0_9) = some r := by rw [if_pos rfl] at H; exact H
         clear H
         have H := H1
         clear H1
         have H' := qd.mk H
         clear H
         have p167 : 0 ≤ (x43_2 : Int) := of_decide_eq_true (by first | (with_reducible assumption) | assumption)
         have q167 : x43_2 < (l0_9.length : Int) := of_decide_eq_true (by first | (with_reducible assumption) | assumption)
         obtain ⟨ad167, A167_3, c167_3, e167, hx167_0, hx167_1, hx167_2, hx167_3, hl167_3, hi167_3⟩ := qd7 HR0_9.out x43_2 p167 q167
         cases e167
         replace hx167_0 := (HB.out.cell (World.block_lt_of_cell? w _ hx167_0)).trans hx167_0
         replace hx167_1 := (HB.out.cell (World.block_lt_of_cell? w _ hx167_1)).trans hx167_1
         replace hx167_2 := (HB.out.cell (World.block_lt_of_cell? w _ hx167_2)).trans hx167_2
         replace hx167_3 := (HB.out.cell (World.block_lt_of_cell? w _ hx167_3)).trans hx167_3
         have HR167_3 := qd.mk hi167_3
         have HC167_3 := qd.mk hl167_3
         clear hi167_3 hl167_3
         replace p167 := eq_true p167
         replace q167 := eq_true q167
         go_wp2_with (first | ((with_reducible refine qby (N := 7) rfl ?_); (try (refine qcb (by rfl) ?_; dsimp only)); refine qbx ?hg (N := 7) ?hd (cs := #[.int .i64 0, .int .i64 0, .string (⟨#[]⟩ : ByteArray), .slice none 0 0]) (t := 27) ?hr ?_; (case hd => rfl); (case hg => rfl); (case hr => first | (go_simp; done) | (go_simp; rfl)); intro gb168 hg w34 hbox hb; have n0_ := qd.mk (qbb (g := gb160) (o := .cells #[.int .i64 a0_0, .int .i64 a0_1, .int .i64 a0_2, .string a0_3, .int .i64 a0_4, .int .i64 a0_5, .string a0_6, .slice A0_7 l0_7.length c0_7, .slice A0_8 l0_8.length c0_8, .slice (some ad167) l0_9.length c0_9] 30 (0, 0)) (by (with_reducible repeat (first | refine qj ?_ _ | refine qm ?_ | refine qi ?_ _)); exact BK160.out) hb); have n1_ := qd.mk (qba (by repeat (first | (with_reducible first | exact HB.out | apply qg | apply qc | apply qh | refine ql ?_ GE160.out) | exact HB.out)) hb); have n2_ := qd.mk (hbox); have n3_ := qd.mk ((by rw [hg]; exact (qbc (by repeat (first | (with_reducible first | exact HB.out | apply qg | apply qc | apply qh | refine ql ?_ GE160.out) | exact HB.out))) : w.heap.size ≤ gb168)); have n4_ := qd.mk ((by rw [hg]; exact (qbc (by repeat (first | (with_reducible first | exact HB.out | apply qg | apply qc | apply qh | refine ql ?_ GE160.out) | exact HB.out))) : w.heap.size ≤ gb168)); have n5_ := qd.mk ((by rw [hg]; exact Nat.ne_of_lt (qb0 (g := gb160) (o := .cells #[.int .i64 a0_0, .int .i64 a0_1, .int .i64 a0_2, .string a0_3, .int .i64 a0_4, .int .i64 a0_5, .string a0_6, .slice A0_7 l0_7.length c0_7, .slice A0_8 l0_8.length c0_8, .slice (some ad167) l0_9.length c0_9] 30 (0, 0)) (by (with_reducible repeat (first | refine qj ?_ _ | refine qm ?_ | refine qi ?_ _)); exact BK160.out)) : gb160 ≠ gb168)); have n6_ := qd.mk ((by rw [hg]; exact Nat.ne_of_gt (qb0 (g := gb160) (o := .cells #[.int .i64 a0_0, .int .i64 a0_1, .int .i64 a0_2, .string a0_3, .int .i64 a0_4, .int .i64 a0_5, .string a0_6, .slice A0_7 l0_7.length c0_7, .slice A0_8 l0_8.length c0_8, .slice (some ad167) l0_9.length c0_9] 30 (0, 0)) (by (with_reducible repeat (first | refine qj ?_ _ | refine qm ?_ | refine qi ?_ _)); exact BK160.out)) : gb168 ≠ gb160)); clear BK160; clear HB; have BK160 := n0_; have HB := n1_; have BK168 := n2_; have GW168 := n3_; have GE168 := n4_; have NB160_168 := n5_; have NB168_160 := n6_; clear n0_ n1_ n2_ n3_ n4_ n5_ n6_; clear hb hbox hg; have hnb35 := NB168_160.out; have hnc35 := NB160_168.out; have hcz36_0 : w34.cell? ⟨gb168, 0, none⟩ = some (.int .i64 0) := (qb BK168.out 0).trans rfl; have hcz36_1 : w34.cell? ⟨gb168, 1, none⟩ = some (.int .i64 0) := (qb BK168.out 1).trans rfl; have hcz36_2 : w34.cell? ⟨gb168, 2, none⟩ = some (.string (⟨#[]⟩ : ByteArray)) := (qb BK168.out 2).trans rfl; have hcz36_3 : w34.cell? ⟨gb168, 3, none⟩ = some (.slice none 0 0) := (qb BK168.out 3).trans rfl; have hfz36_0 := qa BK168.out 0; have hfz36_1 := qa BK168.out 1; have hfz36_2 := qa BK168.out 2; have hfz36_3 := qa BK168.out 3) | ((with_reducible refine qb2 (f := 83) rfl ?_); refine qcn (some 48) rfl rfl Tryd.func83 (by kernel_rfl) rfl #[.agg #[.int .i64 ((qx l0_9 x43_2).f0), .int .i64 ((qx l0_9 x43_2).f1), .string ((qx l0_9 x43_2).f2), .slice A167_3 ((qx l0_9 x43_2).f3).length c167_3]] rfl (by (try simp only [List.map_toArray, List.map_cons, List.map_nil]); first | done | rfl | (simp only [List.length_drop, List.length_take]; rfl)) ?_; (with_reducible refine (qb7.calls k2 ((qx l0_9 x43_2).f0) ((qx l0_9 x43_2).f1) ((qx l0_9 x43_2).f2) _ _ ((qx l0_9 x43_2).f3) true _ ?side1 ?side2 ?side3 A32.out).mono ?_); (case side1 => exact Kd.qbv HR167_3.out (by repeat (first | (with_reducible first | exact HB.out | apply qg | apply qc | apply qh | refine ql ?_ GE160.out | refine ql ?_ GE168.out) | exact HB.out))); (case side2 => exact HC167_3.out); (case side3 => exact Lay.below HLAY.out (by repeat (first | (with_reducible first | exact HB.out | apply qg | apply qc | apply qh | refine ql ?_ GE160.out | refine ql ?_ GE168.out) | exact HB.out))); rintro e w37 ⟨rfl, hb⟩; refine ⟨_, rfl, ?_⟩; have n0_ := qd.mk (qbb (g := gb160) (o := .cells #[.int .i64 a0_0, .int .i64 a0_1, .int .i64 a0_2, .string a0_3, .int .i64 a0_4, .int .i64 a0_5, .string a0_6, .slice A0_7 l0_7.length c0_7, .slice A0_8 l0_8.length c0_8, .slice (some ad167) l0_9.length c0_9] 30 (0, 0)) (by (with_reducible repeat (first | refine qj ?_ _ | refine qm ?_ | refine qi ?_ _)); refine qbn ?_ NB160_168.out _; (with_reducible repeat (first | refine qj ?_ _ | refine qm ?_ | refine qi ?_ _)); refine qbn ?_ NB160_168.out _; (with_reducible repeat (first | refine qj ?_ _ | refine qm ?_ | refine qi ?_ _)); refine qbn ?_ NB160_168.out _; (with_reducible repeat (first | refine qj ?_ _ | refine qm ?_ | refine qi ?_ _)); refine qbn ?_ NB160_168.out _; (with_reducible repeat (first | refine qj ?_ _ | refine qm ?_ | refine qi ?_ _)); exact BK160.out) hb); have n1_ := qd.mk (qbb (g := gb168) (o := .cells #[.int .i64 ((qx l0_9 x43_2).f0), .int .i64 ((qx l0_9 x43_2).f1), .string ((qx l0_9 x43_2).f2), .slice A167_3 ((qx l0_9 x43_2).f3).length c167_3] 27 (0, 0)) (by (with_reducible repeat (first | refine qj ?_ _ | refine qm ?_ | refine qi ?_ _)); refine qbp (cs := #[.int .i64 ((qx l0_9 x43_2).f0), .int .i64 ((qx l0_9 x43_2).f1), .string ((qx l0_9 x43_2).f2), .slice none 0 0]) ?_ 3 _ rfl; (with_reducible repeat (first | refine qj ?_ _ | refine qm ?_ | refine qi ?_ _)); refine qbp (cs := #[.int .i64 ((qx l0_9 x43_2).f0), .int .i64 ((qx l0_9 x43_2).f1), .string (⟨#[]⟩ : ByteArray), .slice none 0 0]) ?_ 2 _ rfl; (with_reducible repeat (first | refine qj ?_ _ | refine qm ?_ | refine qi ?_ _)); refine qbp (cs := #[.int .i64 ((qx l0_9 x43_2).f0), .int .i64 0, .string (⟨#[]⟩ : ByteArray), .slice none 0 0]) ?_ 1 _ rfl; (with_reducible repeat (first | refine qj ?_ _ | refine qm ?_ | refine qi ?_ _)); refine qbp (cs := #[.int .i64 0, .int .i64 0, .string (⟨#[]⟩ : ByteArray), .slice none 0 0]) ?_ 0 _ rfl; (with_reducible repeat (first | refine qj ?_ _ | refine qm ?_ | refine qi ?_ _)); exact BK168.out) hb); have n2_ := qd.mk (qba (by repeat (first | (with_reducible first | exact HB.out | apply qg | apply qc | apply qh | refine ql ?_ GE160.out | refine ql ?_ GE168.out) | exact HB.out)) hb); clear BK160; clear BK168; clear HB; have BK160 := n0_; have BK168 := n1_; have HB := n2_; clear n0_ n1_ n2_; (try clear hb); (try clear hb2); (try clear hk); (try clear hi)))
         go_roundg k2
         case measure => have := HJ2.out; have := HK2.out; omega
         case rel => exact ⟨(wrap64 (x43_2 + 1)), (by first | rfl | (simp; done) | (simp [*]; done)), H', ⟨by have := HJ2.out; have := HK2.out; omega⟩, ⟨by (with_reducible repeat (first | refine qj ?_ _ | refine qm ?_ | refine qi ?_ _)); exact BK160.out⟩, ⟨by repeat (first | (with_reducible first | exact HB.out | apply qg | apply qc | apply qh | refine ql ?_ GE160.out | refine ql ?_ GE168.out) | exact HB.out)⟩⟩
        ·replace c33 := Bool.eq_false_iff.mpr c33
         subst c33
         have H1 : (some false) = some r := by rw [if_neg (show ¬ (false = true) by decide)] at H; exact H
         clear H
         have H := H1
         clear H1
         obtain rfl := Option.some.inj H
         have p167 : 0 ≤ (x43_2 : Int) := of_decide_eq_true (by first | (with_reducible assumption) | assumption)
         have q167 : x43_2 < (l0_9.length : Int) := of_decide_eq_true (by first | (with_reducible assumption) | assumption)
         obtain ⟨ad167, A167_3, c167_3, e167, hx167_0, hx167_1, hx167_2, hx167_3, hl167_3, hi167_3⟩ := qd7 HR0_9.out x43_2 p167 q167
         cases e167
         replace hx167_0 := (HB.out.cell (World.block_lt_of_cell? w _ hx167_0)).trans hx167_0
         replace hx167_1 := (HB.out.cell (World.block_lt_of_cell? w _ hx167_1)).trans hx167_1
         replace hx167_2 := (HB.out.cell (World.block_lt_of_cell? w _ hx167_2)).trans hx167_2
         replace hx167_3 := (HB.out.cell (World.block_lt_of_cell? w _ hx167_3)).trans hx167_3
         have HR167_3 := qd.mk hi167_3
         have HC167_3 := qd.mk hl167_3
         clear hi167_3 hl167_3
         replace p167 := eq_true p167
         replace q167 := eq_true q167
         go_wp2_with (first | ((with_reducible refine qby (N := 7) rfl ?_); (try (refine qcb (by rfl) ?_; dsimp only)); refine qbx ?hg (N := 7) ?hd (cs := #[.int .i64 0, .int .i64 0, .string (⟨#[]⟩ : ByteArray), .slice none 0 0]) (t := 27) ?hr ?_; (case hd => rfl); (case hg => rfl); (case hr => first | (go_simp; done) | (go_simp; rfl)); intro gb168 hg w38 hbox hb; have n0_ := qd.mk (qbb (g := gb160) (o := .cells #[.int .i64 a0_0, .int .i64 a0_1, .int .i64 a0_2, .string a0_3, .int .i64 a0_4, .int .i64 a0_5, .string a0_6, .slice A0_7 l0_7.length c0_7, .slice A0_8 l0_8.length c0_8, .slice (some ad167) l0_9.length c0_9] 30 (0, 0)) (by (with_reducible repeat (first | refine qj ?_ _ | refine qm ?_ | refine qi ?_ _)); exact BK160.out) hb); have n1_ := qd.mk (qba (by repeat (first | (with_reducible first | exact HB.out | apply qg | apply qc | apply qh | refine ql ?_ GE160.out) | exact HB.out)) hb); have n2_ := qd.mk (hbox); have n3_ := qd.mk ((by rw [hg]; exact (qbc (by repeat (first | (with_reducible first | exact HB.out | apply qg | apply qc | apply qh | refine ql ?_ GE160.out) | exact HB.out))) : w.heap.size ≤ gb168)); have n4_ := qd.mk ((by rw [hg]; exact (qbc (by repeat (first | (with_reducible first | exact HB.out | apply qg | apply qc | apply qh | refine ql ?_ GE160.out) | exact HB.out))) : w.heap.size ≤ gb168)); have n5_ := qd.mk ((by rw [hg]; exact Nat.ne_of_lt (qb0 (g := gb160) (o := .cells #[.int .i64 a0_0, .int .i64 a0_1, .int .i64 a0_2, .string a0_3, .int .i64 a0_4, .int .i64 a0_5, .string a0_6, .slice A0_7 l0_7.length c0_7, .slice A0_8 l0_8.length c0_8, .slice (some ad167) l0_9.length c0_9] 30 (0, 0)) (by (with_reducible repeat (first | refine qj ?_ _ | refine qm ?_ | refine qi ?_ _)); exact BK160.out)) : gb160 ≠ gb168)); have n6_ := qd.mk ((by rw [hg]; exact Nat.ne_of_gt (qb0 (g := gb160) (o := .cells #[.int .i64 a0_0, .int .i64 a0_1, .int .i64 a0_2, .string a0_3, .int .i64 a0_4, .int .i64 a0_5, .string a0_6, .slice A0_7 l0_7.length c0_7, .slice A0_8 l0_8.length c0_8, .slice (some ad167) l0_9.length c0_9] 30 (0, 0)) (by (with_reducible repeat (first | refine qj ?_ _ | refine qm ?_ | refine qi ?_ _)); exact BK160.out)) : gb168 ≠ gb160)); clear BK160; clear HB; have BK160 := n0_; have HB := n1_; have BK168 := n2_; have GW168 := n3_; have GE168 := n4_; have NB160_168 := n5_; have NB168_160 := n6_; clear n0_ n1_ n2_ n3_ n4_ n5_ n6_; clear hb hbox hg; have hnb39 := NB168_160.out; have hnc39 := NB160_168.out; have hcz40_0 : w38.cell? ⟨gb168, 0, none⟩ = some (.int .i64 0) := (qb BK168.out 0).trans rfl; have hcz40_1 : w38.cell? ⟨gb168, 1, none⟩ = some (.int .i64 0) := (qb BK168.out 1).trans rfl; have hcz40_2 : w38.cell? ⟨gb168, 2, none⟩ = some (.string (⟨#[]⟩ : ByteArray)) := (qb BK168.out 2).trans rfl; have hcz40_3 : w38.cell? ⟨gb168, 3, none⟩ = some (.slice none 0 0) := (qb BK168.out 3).trans rfl; have hfz40_0 := qa BK168.out 0; have hfz40_1 := qa BK168.out 1; have hfz40_2 := qa BK168.out 2; have hfz40_3 := qa BK168.out 3) | ((with_reducible refine qb2 (f := 83) rfl ?_); refine qcn (some 48) rfl rfl Tryd.func83 (by kernel_rfl) rfl #[.agg #[.int .i64 ((qx l0_9 x43_2).f0), .int .i64 ((qx l0_9 x43_2).f1), .string ((qx l0_9 x43_2).f2), .slice A167_3 ((qx l0_9 x43_2).f3).length c167_3]] rfl (by (try simp only [List.map_toArray, List.map_cons, List.map_nil]); first | done | rfl | (simp only [List.length_drop, List.length_take]; rfl)) ?_; (with_reducible refine (qb7.calls k2 ((qx l0_9 x43_2).f0) ((qx l0_9 x43_2).f1) ((qx l0_9 x43_2).f2) _ _ ((qx l0_9 x43_2).f3) false _ ?side1 ?side2 ?side3 A32.out).mono ?_); (case side1 => exact Kd.qbv HR167_3.out (by repeat (first | (with_reducible first | exact HB.out | apply qg | apply qc | apply qh | refine ql ?_ GE160.out | refine ql ?_ GE168.out) | exact HB.out))); (case side2 => exact HC167_3.out); (case side3 => exact Lay.below HLAY.out (by repeat (first | (with_reducible first | exact HB.out | apply qg | apply qc | apply qh | refine ql ?_ GE160.out | refine ql ?_ GE168.out) | exact HB.out))); rintro e w41 ⟨rfl, hb⟩; refine ⟨_, rfl, ?_⟩; have n0_ := qd.mk (qbb (g := gb160) (o := .cells #[.int .i64 a0_0, .int .i64 a0_1, .int .i64 a0_2, .string a0_3, .int .i64 a0_4, .int .i64 a0_5, .string a0_6, .slice A0_7 l0_7.length c0_7, .slice A0_8 l0_8.length c0_8, .slice (some ad167) l0_9.length c0_9] 30 (0, 0)) (by (with_reducible repeat (first | refine qj ?_ _ | refine qm ?_ | refine qi ?_ _)); refine qbn ?_ NB160_168.out _; (with_reducible repeat (first | refine qj ?_ _ | refine qm ?_ | refine qi ?_ _)); refine qbn ?_ NB160_168.out _; (with_reducible repeat (first | refine qj ?_ _ | refine qm ?_ | refine qi ?_ _)); refine qbn ?_ NB160_168.out _; (with_reducible repeat (first | refine qj ?_ _ | refine qm ?_ | refine qi ?_ _)); refine qbn ?_ NB160_168.out _; (with_reducible repeat (first | refine qj ?_ _ | refine qm ?_ | refine qi ?_ _)); exact BK160.out) hb); have n1_ := qd.mk (qbb (g := gb168) (o := .cells #[.int .i64 ((qx l0_9 x43_2).f0), .int .i64 ((qx l0_9 x43_2).f1), .string ((qx l0_9 x43_2).f2), .slice A167_3 ((qx l0_9 x43_2).f3).length c167_3] 27 (0, 0)) (by (with_reducible repeat (first | refine qj ?_ _ | refine qm ?_ | refine qi ?_ _)); refine qbp (cs := #[.int .i64 ((qx l0_9 x43_2).f0), .int .i64 ((qx l0_9 x43_2).f1), .string ((qx l0_9 x43_2).f2), .slice none 0 0]) ?_ 3 _ rfl; (with_reducible repeat (first | refine qj ?_ _ | refine qm ?_ | refine qi ?_ _)); refine qbp (cs := #[.int .i64 ((qx l0_9 x43_2).f0), .int .i64 ((qx l0_9 x43_2).f1), .string (⟨#[]⟩ : ByteArray), .slice none 0 0]) ?_ 2 _ rfl; (with_reducible repeat (first | refine qj ?_ _ | refine qm ?_ | refine qi ?_ _)); refine qbp (cs := #[.int .i64 ((qx l0_9 x43_2).f0), .int .i64 0, .string (⟨#[]⟩ : ByteArray), .slice none 0 0]) ?_ 1 _ rfl; (with_reducible repeat (first | refine qj ?_ _ | refine qm ?_ | refine qi ?_ _)); refine qbp (cs := #[.int .i64 0, .int .i64 0, .string (⟨#[]⟩ : ByteArray), .slice none 0 0]) ?_ 0 _ rfl; (with_reducible repeat (first | refine qj ?_ _ | refine qm ?_ | refine qi ?_ _)); exact BK168.out) hb); have n2_ := qd.mk (qba (by repeat (first | (with_reducible first | exact HB.out | apply qg | apply qc | apply qh | refine ql ?_ GE160.out | refine ql ?_ GE168.out) | exact HB.out)) hb); clear BK160; clear BK168; clear HB; have BK160 := n0_; have BK168 := n1_; have HB := n2_; clear n0_ n1_ n2_; (try clear hb); (try clear hb2); (try clear hk); (try clear hi)))
         go_ret
         exact ⟨by first | rfl | (simp [q9, qz] <;> rfl) | (simp [*, q9, qz] <;> rfl), by repeat (first | (with_reducible first | exact HB.out | apply qg | apply qc | apply qh | refine ql ?_ GE160.out | refine ql ?_ GE168.out) | exact HB.out)⟩
       ·rw [if_neg c31] at H
        exact absurd H (by simp)
      ·rw [if_neg c30] at H
       exact absurd H (by simp)
     ·rw [if_neg c29] at H
      have c29b0 : decide (x43_2 < (l0_9.length : Int)) = false := decide_eq_false c29
      clear c29
      by_cases c42 : x3_2 = true
      ·subst c42
       have H1 : (if x4_2 = true then (some ((l0_9.length : Int) == x5_2)) else (some false)) = some r := by rw [if_pos rfl] at H; exact H
       clear H
       have H := H1
       clear H1
       by_cases c43 : x4_2 = true
       ·subst c43
        have H1 : (some ((l0_9.length : Int) == x5_2)) = some r := by rw [if_pos rfl] at H; exact H
        clear H
        have H := H1
        clear H1
        obtain rfl := Option.some.inj H
        have hcz44_0 : wr.cell? ⟨gb160, 0, none⟩ = some (.int .i64 a0_0) := (qb BK160.out 0).trans rfl
        have hcz44_1 : wr.cell? ⟨gb160, 1, none⟩ = some (.int .i64 a0_1) := (qb BK160.out 1).trans rfl
        have hcz44_2 : wr.cell? ⟨gb160, 2, none⟩ = some (.int .i64 a0_2) := (qb BK160.out 2).trans rfl
        have hcz44_3 : wr.cell? ⟨gb160, 3, none⟩ = some (.string a0_3) := (qb BK160.out 3).trans rfl
        have hcz44_4 : wr.cell? ⟨gb160, 4, none⟩ = some (.int .i64 a0_4) := (qb BK160.out 4).trans rfl
        have hcz44_5 : wr.cell? ⟨gb160, 5, none⟩ = some (.int .i64 a0_5) := (qb BK160.out 5).trans rfl
        have hcz44_6 : wr.cell? ⟨gb160, 6, none⟩ = some (.string a0_6) := (qb BK160.out 6).trans rfl
        have hcz44_7 : wr.cell? ⟨gb160, 7, none⟩ = some (.slice A0_7 l0_7.length c0_7) := (qb BK160.out 7).trans rfl
        have hcz44_8 : wr.cell? ⟨gb160, 8, none⟩ = some (.slice A0_8 l0_8.length c0_8) := (qb BK160.out 8).trans rfl
        have hcz44_9 : wr.cell? ⟨gb160, 9, none⟩ = some (.slice A0_9 l0_9.length c0_9) := (qb BK160.out 9).trans rfl
        have hfz44_0 := qa BK160.out 0
        have hfz44_1 := qa BK160.out 1
        have hfz44_2 := qa BK160.out 2
        have hfz44_3 := qa BK160.out 3
        have hfz44_4 := qa BK160.out 4
        have hfz44_5 := qa BK160.out 5
        have hfz44_6 := qa BK160.out 6
        have hfz44_7 := qa BK160.out 7
        have hfz44_8 := qa BK160.out 8
        have hfz44_9 := qa BK160.out 9
        go_wp2
        go_ret
        exact ⟨by first | rfl | (simp [q9, qz] <;> rfl) | (simp [*, q9, qz] <;> rfl), by repeat (first | (with_reducible first | exact HB.out | apply qg | apply qc | apply qh | refine ql ?_ GE160.out) | exact HB.out)⟩
       ·replace c43 := Bool.eq_false_iff.mpr c43
        subst c43
        have H1 : (some false) = some r := by rw [if_neg (show ¬ (false = true) by decide)] at H; exact H
        clear H
        have H := H1
        clear H1
        obtain rfl := Option.some.inj H
        go_wp2
        go_ret
        exact ⟨by first | rfl | (simp [q9, qz] <;> rfl) | (simp [*, q9, qz] <;> rfl), by repeat (first | (with_reducible first | exact HB.out | apply qg | apply qc | apply qh | refine ql ?_ GE160.out) | exact HB.out)⟩
      ·replace c42 := Bool.eq_false_iff.mpr c42
       subst c42
       have H1 : (some false) = some r := by rw [if_neg (show ¬ (false = true) by decide)] at H; exact H
       clear H
       have H := H1
       clear H1
       obtain rfl := Option.some.inj H
       go_wp2
       go_ret
       exact ⟨by first | rfl | (simp [q9, qz] <;> rfl) | (simp [*, q9, qz] <;> rfl), by repeat (first | (with_reducible first | exact HB.out | apply qg | apply qc | apply qh | refine ql ?_ GE160.out) | exact HB.out)⟩
end Go.Proofs.YtpgkhmdfddejfaaDoor.PV
end
