import Derived.Test.YtpgkhmdfddejfaaDoorZTPVx0
import Derived.Test.YtpgkhmdfddejfaaDoorZTPVx3
import Derived.Test.YtpgkhmdfddejfaaDoorZTPVx4
import Derived.Test.YtpgkhmdfddejfaaDoorZTPVx5
section
namespace Go.Proofs.YtpgkhmdfddejfaaDoor.PV
open Go.RowKit Go.Proofs.YtpgkhmdfddejfaaDoorW.PrintWords Go.Proofs.YtpgkhmdfddejfaaDoorW.PrintLast Go.Proofs.YtpgkhmdfddejfaaDoorW.PrintMore
attribute [local go_sem] qcw qcv qdb qda qcr qcq qcu qcx   -- for this text's walks alone
set_option linter.unusedVariables false
set_option linter.unusedSimpArgs false
mutual
def qbh.j0 : Nat → Bool → Bool → Int → Int → Int → Int → ByteArray → Int → Int → ByteArray → List (S27) → List (S30) → List (S27) → Option (Bool)
 | 0, _, _, _, _, _, _, _, _, _, _, _, _, _ => none
 | k + 1, x3, x4, x5, qbcp, qbd4, qbcv, qbdt, qbaw, q9h, q8f, q7g, qbai, qul => qbh.l0 k x3 x4 x5 qul (qul.length : Int) 0 qbcp qbd4 qbcv qbdt qbaw q9h q8f q7g qbai qul
def qbh.l0 : Nat → Bool → Bool → Int → List (S27) → Int → Int → Int → Int → Int → ByteArray → Int → Int → ByteArray → List (S27) → List (S30) → List (S27) → Option (Bool)
 | 0, _, _, _, _, _, _, _, _, _, _, _, _, _, _, _, _ => none
 | k + 1, x3, x4, x5, x41, x42, x43, qbcp, qbd4, qbcv, qbdt, qbaw, q9h, q8f, q7g, qbai, qul => if x43 < x42 then (if 0 ≤ x43 then (if x43 < (x41.length : Int) then ((qce.f k ((qw x41 x43).f0) ((qw x41 x43).f1) ((qw x41 x43).f2) ((qw x41 x43).f3)).bind fun t169 => (if t169 = true then (qbh.l0 k x3 x4 x5 x41 x42 (wrap64 (x43 + 1)) qbcp qbd4 qbcv qbdt qbaw q9h q8f q7g qbai qul) else (some false))) else (none)) else (none)) else (if x3 = true then (if x4 = true then (some ((qul.length : Int) == x5)) else (some false)) else (some false))
end
def qbh.f (k : Nat) (a0_0 : Int) (a0_1 : Int) (a0_2 : Int) (a0_3 : ByteArray) (a0_4 : Int) (a0_5 : Int) (a0_6 : ByteArray) (l0_7 : List (S27)) (l0_8 : List (S30)) (l0_9 : List (S27)) : Option (Bool) := (qec.f a0_4 a0_5 a0_6 l0_7).bind fun t161 => (if a0_0 = 8 then ((qb2.f k a0_3).bind fun t162 => ((qce.f k a0_4 a0_5 a0_6 l0_7).bind fun t163 => (qbh.j0 k t162 t163 0 a0_0 a0_1 a0_2 a0_3 a0_4 a0_5 a0_6 l0_7 l0_8 l0_9))) else (if a0_0 = 7 then ((qce.f k a0_4 a0_5 a0_6 l0_7).bind fun t164 => (qbh.j0 k (a0_3.toList == ([] : List UInt8)) t164 0 a0_0 a0_1 a0_2 a0_3 a0_4 a0_5 a0_6 l0_7 l0_8 l0_9)) else (if a0_0 = 9 then ((qb2.f k a0_3).bind fun t165 => (qbh.j0 k t165 t161 0 a0_0 a0_1 a0_2 a0_3 a0_4 a0_5 a0_6 l0_7 l0_8 l0_9)) else (if a0_0 = 12 then ((qb2.f k a0_3).bind fun t166 => (qbh.j0 k t166 t161 0 a0_0 a0_1 a0_2 a0_3 a0_4 a0_5 a0_6 l0_7 l0_8 l0_9)) else (if a0_0 = 11 then (qbh.j0 k (a0_3.toList == ([] : List UInt8)) t161 (l0_8.length : Int) a0_0 a0_1 a0_2 a0_3 a0_4 a0_5 a0_6 l0_7 l0_8 l0_9) else (qbh.j0 k (a0_3.toList == ([] : List UInt8)) t161 0 a0_0 a0_1 a0_2 a0_3 a0_4 a0_5 a0_6 l0_7 l0_8 l0_9))))))
theorem qbh.qcg : ∀ k, (∀ y0 y1 y2 y3 y4 y5 y6 y7 y8 y9 y10 y11 y12, LeO (qbh.j0 k y0 y1 y2 y3 y4 y5 y6 y7 y8 y9 y10 y11 y12) (qbh.j0 (k + 1) y0 y1 y2 y3 y4 y5 y6 y7 y8 y9 y10 y11 y12)) ∧ (∀ y0 y1 y2 y3 y4 y5 y6 y7 y8 y9 y10 y11 y12 y13 y14 y15, LeO (qbh.l0 k y0 y1 y2 y3 y4 y5 y6 y7 y8 y9 y10 y11 y12 y13 y14 y15) (qbh.l0 (k + 1) y0 y1 y2 y3 y4 y5 y6 y7 y8 y9 y10 y11 y12 y13 y14 y15))
 | 0 => ⟨fun _ _ _ _ _ _ _ _ _ _ _ _ _ r h => by simp [qbh.j0] at h, fun _ _ _ _ _ _ _ _ _ _ _ _ _ _ _ _ r h => by simp [qbh.l0] at h⟩
 | k + 1 => by
  obtain ⟨ih0, ih1⟩ := qbh.qcg k
  refine ⟨?_, ?_⟩
  ·intro y0 y1 y2 y3 y4 y5 y6 y7 y8 y9 y10 y11 y12
   unfold qbh.j0
   repeat' first
   | (with_reducible exact ih0 _ _ _ _ _ _ _ _ _ _ _ _ _)
   | (with_reducible exact ih1 _ _ _ _ _ _ _ _ _ _ _ _ _ _ _ _)
   | (with_reducible exact qce.mono _ _ _ _ _)
   | (with_reducible exact qb2.mono _ _)
   | (with_reducible exact LeO.refl _)
   | (with_reducible exact LeO.none _)
   | (with_reducible refine LeO.ite ?_ ?_)
   | (with_reducible refine LeO.bind ?_ (fun _ => ?_))
   | exact ih0 _ _ _ _ _ _ _ _ _ _ _ _ _
   | exact ih1 _ _ _ _ _ _ _ _ _ _ _ _ _ _ _ _
   | exact qce.mono _ _ _ _ _
   | exact qb2.mono _ _
   | exact LeO.none _
   | refine LeO.ite ?_ ?_
   | refine LeO.bind ?_ (fun _ => ?_)
  ·intro y0 y1 y2 y3 y4 y5 y6 y7 y8 y9 y10 y11 y12 y13 y14 y15
   unfold qbh.l0
   repeat' first
   | (with_reducible exact ih0 _ _ _ _ _ _ _ _ _ _ _ _ _)
   | (with_reducible exact ih1 _ _ _ _ _ _ _ _ _ _ _ _ _ _ _ _)
   | (with_reducible exact qce.mono _ _ _ _ _)
   | (with_reducible exact qb2.mono _ _)
   | (with_reducible exact LeO.refl _)
   | (with_reducible exact LeO.none _)
   | (with_reducible refine LeO.ite ?_ ?_)
   | (with_reducible refine LeO.bind ?_ (fun _ => ?_))
   | exact ih0 _ _ _ _ _ _ _ _ _ _ _ _ _
   | exact ih1 _ _ _ _ _ _ _ _ _ _ _ _ _ _ _ _
   | exact qce.mono _ _ _ _ _
   | exact qb2.mono _ _
   | exact LeO.none _
   | refine LeO.ite ?_ ?_
   | refine LeO.bind ?_ (fun _ => ?_)
theorem qbh.mono : ∀ a0 a1 a2 a3 a4 a5 a6 a7 a8 a9 k, LeO (qbh.f k a0 a1 a2 a3 a4 a5 a6 a7 a8 a9) (qbh.f (k + 1) a0 a1 a2 a3 a4 a5 a6 a7 a8 a9) := by
 intro a0 a1 a2 a3 a4 a5 a6 a7 a8 a9 k
 obtain ⟨ih0, ih1⟩ := qbh.qcg k
 unfold qbh.f
 repeat' first
   | (with_reducible exact ih0 _ _ _ _ _ _ _ _ _ _ _ _ _)
   | (with_reducible exact ih1 _ _ _ _ _ _ _ _ _ _ _ _ _ _ _ _)
   | (with_reducible exact qce.mono _ _ _ _ _)
   | (with_reducible exact qb2.mono _ _)
   | (with_reducible exact LeO.refl _)
   | (with_reducible exact LeO.none _)
   | (with_reducible refine LeO.ite ?_ ?_)
   | (with_reducible refine LeO.bind ?_ (fun _ => ?_))
   | exact ih0 _ _ _ _ _ _ _ _ _ _ _ _ _
   | exact ih1 _ _ _ _ _ _ _ _ _ _ _ _ _ _ _ _
   | exact qce.mono _ _ _ _ _
   | exact qb2.mono _ _
   | exact LeO.none _
   | refine LeO.ite ?_ ?_
   | refine LeO.bind ?_ (fun _ => ?_)
def qbh.T1 : Bool × List (List Nat × List Nat) := (true, [([], []), ([0], [0]), ([1], [1]), ([], []), ([3], [3]), ([4], [4]), ([2, 5, 0, 1, 2], [2]), ([5, 6, 0, 1, 2, 3, 4, 5, 6], [5]), ([7, 0, 1, 2, 3, 4, 5, 6, 7], [])])
def qbh.B1 : List Nat := [0, 1, 3, 0, 8, 24, 63, 127, 255]
theorem qbh.tab1 : rtab .any (opsOf Tryd.f69 1) = qbh.T1 := by kernel_rfl
theorem qbh.bits1 : qen qbh.T1.2 qbh.B1 = true := by kernel_rfl
def qbh.T4 : Bool × List (List Nat × List Nat) := (true, [([], []), ([0], [0]), ([1], [1]), ([], []), ([3], [3]), ([4, 2], [4]), ([2, 5, 0, 1, 2], [2]), ([5, 6, 0, 1, 2, 3, 4, 5, 6], [5])])
def qbh.B4 : List Nat := [0, 1, 3, 0, 8, 31, 63, 127]
theorem qbh.tab4 : rtab .any (opsOf Tryd.f69 4) = qbh.T4 := by kernel_rfl
theorem qbh.bits4 : qen qbh.T4.2 qbh.B4 = true := by kernel_rfl
set_option maxHeartbeats 8000000 in
set_option maxRecDepth 100000 in
theorem qbh.calls (k : Nat) (a0_0 : Int) (a0_1 : Int) (a0_2 : Int) (a0_3 : ByteArray) (a0_4 : Int) (a0_5 : Int) (a0_6 : ByteArray) (A0_7 : Option Addr) (c0_7 : Nat) (l0_7 : List (S27)) (A0_8 : Option Addr) (c0_8 : Nat) (l0_8 : List (S30)) (A0_9 : Option Addr) (c0_9 : Nat) (l0_9 : List (S27)) (r : Bool) (w : World) (qj8 : Kd.C k27 w A0_7 l0_7.length l0_7) (qjs : l0_7.length ≤ c0_7) (qj2 : Kd.C k30 w A0_8 l0_8.length l0_8) (qjq : l0_8.length ≤ c0_8) (qiw : Kd.C k27 w A0_9 l0_9.length l0_9) (qiv : l0_9.length ≤ c0_9) (hG : Lay w) (h : qbh.f k a0_0 a0_1 a0_2 a0_3 a0_4 a0_5 a0_6 l0_7 l0_8 l0_9 = some r) :
  Calls Tryd.prog 69 #[.agg #[.int .i64 a0_0, .int .i64 a0_1, .int .i64 a0_2, .string a0_3, .int .i64 a0_4, .int .i64 a0_5, .string a0_6, .slice A0_7 l0_7.length c0_7, .slice A0_8 l0_8.length c0_8, .slice A0_9 l0_9.length c0_9]] w fun e w' => e = .returned (.bool r) ∧ Below w.heap.size w w' := by
 have hu30 := Tryd.underlying30
 have hu27 := Tryd.underlying27
 have qnk := qc.mk qj8
 have qnj := qc.mk qjs
 clear qj8 qjs
 have qop := qc.mk qj2
 have q3e := qc.mk qjq
 clear qj2 qjq
 have qql := qc.mk qiw
 have qzd := qc.mk qiv
 clear qiw qiv
 have HB := qc.mk (Below.refl w.heap.size w)
 have HLAY := qc.mk hG
 clear hG
 have H : ((qec.f a0_4 a0_5 a0_6 l0_7).bind fun t161 => (if a0_0 = 8 then ((qb2.f k a0_3).bind fun t162 => ((qce.f k a0_4 a0_5 a0_6 l0_7).bind fun t163 => (qbh.j0 k t162 t163 0 a0_0 a0_1 a0_2 a0_3 a0_4 a0_5 a0_6 l0_7 l0_8 l0_9))) else (if a0_0 = 7 then ((qce.f k a0_4 a0_5 a0_6 l0_7).bind fun t164 => (qbh.j0 k (a0_3.toList == ([] : List UInt8)) t164 0 a0_0 a0_1 a0_2 a0_3 a0_4 a0_5 a0_6 l0_7 l0_8 l0_9)) else (if a0_0 = 9 then ((qb2.f k a0_3).bind fun t165 => (qbh.j0 k t165 t161 0 a0_0 a0_1 a0_2 a0_3 a0_4 a0_5 a0_6 l0_7 l0_8 l0_9)) else (if a0_0 = 12 then ((qb2.f k a0_3).bind fun t166 => (qbh.j0 k t166 t161 0 a0_0 a0_1 a0_2 a0_3 a0_4 a0_5 a0_6 l0_7 l0_8 l0_9)) else (if a0_0 = 11 then (qbh.j0 k (a0_3.toList == ([] : List UInt8)) t161 (l0_8.length : Int) a0_0 a0_1 a0_2 a0_3 a0_4 a0_5 a0_6 l0_7 l0_8 l0_9) else (qbh.j0 k (a0_3.toList == ([] : List UInt8)) t161 0 a0_0 a0_1 a0_2 a0_3 a0_4 a0_5 a0_6 l0_7 l0_8 l0_9))))))) = some r := h
 clear h
 replace H := Option.bind_eq_some_iff.mp H
 obtain ⟨t161, A20, H⟩ := H
 replace H : (if a0_0 = 8 then ((qb2.f k a0_3).bind fun t162 => ((qce.f k a0_4 a0_5 a0_6 l0_7).bind fun t163 => (qbh.j0 k t162 t163 0 a0_0 a0_1 a0_2 a0_3 a0_4 a0_5 a0_6 l0_7 l0_8 l0_9))) else (if a0_0 = 7 then ((qce.f k a0_4 a0_5 a0_6 l0_7).bind fun t164 => (qbh.j0 k (a0_3.toList == ([] : List UInt8)) t164 0 a0_0 a0_1 a0_2 a0_3 a0_4 a0_5 a0_6 l0_7 l0_8 l0_9)) else (if a0_0 = 9 then ((qb2.f k a0_3).bind fun t165 => (qbh.j0 k t165 t161 0 a0_0 a0_1 a0_2 a0_3 a0_4 a0_5 a0_6 l0_7 l0_8 l0_9)) else (if a0_0 = 12 then ((qb2.f k a0_3).bind fun t166 => (qbh.j0 k t166 t161 0 a0_0 a0_1 a0_2 a0_3 a0_4 a0_5 a0_6 l0_7 l0_8 l0_9)) else (if a0_0 = 11 then (qbh.j0 k (a0_3.toList == ([] : List UInt8)) t161 (l0_8.length : Int) a0_0 a0_1 a0_2 a0_3 a0_4 a0_5 a0_6 l0_7 l0_8 l0_9) else (qbh.j0 k (a0_3.toList == ([] : List UInt8)) t161 0 a0_0 a0_1 a0_2 a0_3 a0_4 a0_5 a0_6 l0_7 l0_8 l0_9)))))) = some r := H
 have A2 := qc.mk A20
 clear A20
 have HC3 := qc.mk H
 clear H
 go_enter Tryd.func69, Tryd.ntmps69
 try go_wp2_with (first | ((with_reducible refine qb0 (N := 1) rfl ?_); (try (refine qcc (by rfl) ?_; dsimp only)); refine qby ?hg (N := 1) ?hd (cs := #[.int .i64 a0_0, .int .i64 a0_1, .int .i64 a0_2, .string a0_3, .int .i64 a0_4, .int .i64 a0_5, .string a0_6, .slice A0_7 l0_7.length c0_7, .slice A0_8 l0_8.length c0_8, .slice A0_9 l0_9.length c0_9]) (t := 30) ?hr ?_; (case hd => rfl); (case hg => rfl); (case hr => first | (go_simp; done) | (go_simp; rfl)); intro qf4 hg w4 hbox hb; have n0_ := qc.mk (q9 (by repeat (first | (with_reducible first | exact HB.out | apply qg | apply qd | apply qh) | exact HB.out)) hb); have n1_ := qc.mk (hbox); have n2_ := qc.mk ((by rw [hg]; exact (qba (by repeat (first | (with_reducible first | exact HB.out | apply qg | apply qd | apply qh) | exact HB.out))) : w.heap.size ≤ qf4)); have n3_ := qc.mk ((by rw [hg]; exact (qba (by repeat (first | (with_reducible first | exact HB.out | apply qg | apply qd | apply qh) | exact HB.out))) : w.heap.size ≤ qf4)); clear HB; have HB := n0_; have qfr := n1_; have qbxp := n2_; have qh1 := n3_; clear n0_ n1_ n2_ n3_; clear hb hbox hg))
 have n0_ := qc.mk (qm qfr.out)
 have n1_ := qc.mk (qh HB.out)
 clear qfr
 clear HB
 have qfr := n0_
 have HB := n1_
 clear n0_ n1_
 refine qe9 (n := 9) (S := fun w' => w'.cell? ⟨qf4, 0, none⟩ = some (.int .i64 a0_0) ∧ w'.cell? ⟨qf4, 1, none⟩ = some (.int .i64 a0_1) ∧ w'.cell? ⟨qf4, 2, none⟩ = some (.int .i64 a0_2) ∧ w'.cell? ⟨qf4, 3, none⟩ = some (.string a0_3) ∧ w'.cell? ⟨qf4, 4, none⟩ = some (.int .i64 a0_4) ∧ w'.cell? ⟨qf4, 5, none⟩ = some (.int .i64 a0_5) ∧ w'.cell? ⟨qf4, 6, none⟩ = some (.string a0_6) ∧ w'.cell? ⟨qf4, 7, none⟩ = some (.slice A0_7 l0_7.length c0_7) ∧ w'.cell? ⟨qf4, 8, none⟩ = some (.slice A0_8 l0_8.length c0_8) ∧ w'.cell? ⟨qf4, 9, none⟩ = some (.slice A0_9 l0_9.length c0_9)) (ds := []) #[false, false, false, false, false, false, false, false, false] (by kernel_rfl) rfl rfl ⟨(qb qfr.out 0).trans rfl, (qb qfr.out 1).trans rfl, (qb qfr.out 2).trans rfl, (qb qfr.out 3).trans rfl, (qb qfr.out 4).trans rfl, (qb qfr.out 5).trans rfl, (qb qfr.out 6).trans rfl, (qb qfr.out 7).trans rfl, (qb qfr.out 8).trans rfl, (qb qfr.out 9).trans rfl⟩ (fun hHeld => ?_); refine qei qbh.tab1 qbh.bits1 (fun HT_ HW_ => ?_)
 generalize w4.drew = w5 at qfr HB hHeld ⊢
 refine pure_ (i := 0) (N := some 8) (v := ?_) (a' := ?_) #[true, false, false, false, false, false, false, false, false] rfl rfl (qcf HT_.out (by kernel_rfl)) (fun _ _ _ h => h) (Or.inl ⟨by rfl, ?_⟩) ?_ ?_
 rotate_left
 ·intro w'
  go_simp
  with_reducible rfl
 rotate_left
 ·simp only [Act.put, List.setIfInBounds_toArray, List.set_cons_zero, List.set_cons_succ, i64_w, i32_w]
  rfl
 refine pure_ (i := 3) (N := some 11) (v := ?_) (a' := ?_) #[true, false, false, true, false, false, false, false, false] rfl rfl (qcf HT_.out (by kernel_rfl)) (fun _ _ _ h => h) (Or.inl ⟨by rfl, ?_⟩) ?_ ?_
 rotate_left
 ·intro w'
  go_simp
  with_reducible rfl
 rotate_left
 ·simp only [Act.put, List.setIfInBounds_toArray, List.set_cons_zero, List.set_cons_succ, i64_w, i32_w]
  rfl
 refine take_ (i := 1) (N := some 9) (v := ?_) (a' := ?_) #[true, true, false, true, false, false, false, false, false] rfl rfl (qcn HT_.out HW_.out (by kernel_rfl)) (fun _ _ _ h => h) (Or.inl ⟨by rfl, ?_⟩) hHeld ?_ ?_
 rotate_left
 ·rintro w' ⟨s0, s1, s2, s3, s4, s5, s6, s7, s8, s9⟩
  go_simp
  with_reducible rfl
 rotate_left
 ·simp only [Act.put, List.setIfInBounds_toArray, List.set_cons_zero, List.set_cons_succ, i64_w, i32_w]
  rfl
 refine pure_ (i := 2) (N := some 10) (v := ?_) (a' := ?_) #[true, true, true, true, false, false, false, false, false] rfl rfl (qcf HT_.out (by kernel_rfl)) (fun _ _ _ h => h) (Or.inl ⟨by rfl, ?_⟩) ?_ ?_
 rotate_left
 ·intro w'
  go_simp
  with_reducible rfl
 rotate_left
 ·simp only [Act.put, List.setIfInBounds_toArray, List.set_cons_zero, List.set_cons_succ, i64_w, i32_w]
  rfl
 refine take_ (i := 4) (N := some 12) (v := ?_) (a' := ?_) #[true, true, true, true, true, false, false, false, false] rfl rfl (qcn HT_.out HW_.out (by kernel_rfl)) (fun _ _ _ h => h) (Or.inl ⟨by rfl, ?_⟩) hHeld ?_ ?_
 rotate_left
 ·rintro w' ⟨s0, s1, s2, s3, s4, s5, s6, s7, s8, s9⟩
  go_simp
  with_reducible rfl
 rotate_left
 ·simp only [Act.put, List.setIfInBounds_toArray, List.set_cons_zero, List.set_cons_succ, i64_w, i32_w]
  rfl
 refine one_ (i := 5) (N := some 13) #[true, true, true, true, true, true, false, false, false] rfl rfl (qee HT_.out (by kernel_rfl)) (by decide) (fun K hK => ?_)
 refine goes_ Tryd.func81 (by kernel_rfl) rfl #[.agg #[.int .i64 a0_4, .int .i64 a0_5, .string a0_6, .slice A0_7 l0_7.length c0_7]] (by rfl) rfl rfl (by (try simp only [List.map_toArray, List.map_cons, List.map_nil]); first | done | rfl | (simp only [List.length_drop, List.length_take]; rfl)) ?_
 with_reducible refine (qec.calls a0_4 a0_5 a0_6 _ _ l0_7 t161 _ ?side1 ?side2 A2.out).mono ?_
 (case side1 => repeat (first | exact (Kd.qbw qnk.out HB.out) | (with_reducible refine Kd.qb3 ?_ _) | (with_reducible refine Kd.qb1 ?_ _) | (with_reducible refine Kd.qb7 ?_)))
 (case side2 => exact qnj.out)
 rintro e w6 ⟨rfl, hb⟩
 refine ⟨_, rfl, ?_⟩
 have n0_ := qc.mk (qbb (g := qf4) (o := .cells #[.int .i64 a0_0, .int .i64 a0_1, .int .i64 a0_2, .string a0_3, .int .i64 a0_4, .int .i64 a0_5, .string a0_6, .slice A0_7 l0_7.length c0_7, .slice A0_8 l0_8.length c0_8, .slice A0_9 l0_9.length c0_9] 30 (0, 0)) (by (with_reducible repeat (first | refine qj ?_ _ | refine qm ?_ | refine qi ?_ _)); exact qfr.out) hb)
 have n1_ := qc.mk (q9 (by repeat (first | (with_reducible first | exact HB.out | apply qg | apply qd | apply qh | refine ql ?_ qh1.out) | exact HB.out)) hb)
 clear qfr
 clear HB
 have qfr := n0_
 have HB := n1_
 clear n0_ n1_
 (try clear hb)
 (try clear hb2)
 (try clear hk)
 (try clear hi)
 refine hK.out _ _ ⟨(qb qfr.out 0).trans rfl, (qb qfr.out 1).trans rfl, (qb qfr.out 2).trans rfl, (qb qfr.out 3).trans rfl, (qb qfr.out 4).trans rfl, (qb qfr.out 5).trans rfl, (qb qfr.out 6).trans rfl, (qb qfr.out 7).trans rfl, (qb qfr.out 8).trans rfl, (qb qfr.out 9).trans rfl⟩ (fun hHeld => ?_)
 clear hK K
 refine norm_ (a' := ?_) ?_ ?_
 rotate_left
 ·show Act.put _ (some 13) _ = _
  simp only [Act.put, List.setIfInBounds_toArray, List.set_cons_zero, List.set_cons_succ, i64_w, i32_w]
  rfl
 refine pure_ (i := 6) (N := some 3) (v := ?_) (a' := ?_) #[true, true, true, true, true, true, true, false, false] rfl rfl (qcf HT_.out (by kernel_rfl)) (fun _ _ _ h => h) (Or.inl ⟨by rfl, ?_⟩) ?_ ?_
 rotate_left
 ·intro w'
  go_simp
  with_reducible rfl
 rotate_left
 ·simp only [Act.put, List.setIfInBounds_toArray, List.set_cons_zero, List.set_cons_succ, i64_w, i32_w]
  rfl
 refine pure_ (i := 7) (N := some 4) (v := ?_) (a' := ?_) #[true, true, true, true, true, true, true, true, false] rfl rfl (qcf HT_.out (by kernel_rfl)) (fun _ _ _ h => h) (Or.inl ⟨by rfl, ?_⟩) ?_ ?_
 rotate_left
 ·intro w'
  go_simp
  with_reducible rfl
 rotate_left
 ·simp only [Act.put, List.setIfInBounds_toArray, List.set_cons_zero, List.set_cons_succ, i64_w, i32_w]
  rfl
 refine pure_ (i := 8) (N := some 5) (v := ?_) (a' := ?_) #[true, true, true, true, true, true, true, true, true] rfl rfl (qcf HT_.out (by kernel_rfl)) (fun _ _ _ h => h) (Or.inl ⟨by rfl, ?_⟩) ?_ ?_
 rotate_left
 ·intro w'
  go_simp
  with_reducible rfl
 rotate_left
 ·simp only [Act.put, List.setIfInBounds_toArray, List.set_cons_zero, List.set_cons_succ, i64_w, i32_w]
  rfl
 refine done_ (qex HT_.out (by kernel_rfl)) ?_
 have qjl : w6.cell? ⟨qf4, 0, none⟩ = some (.int .i64 a0_0) := (qb qfr.out 0).trans rfl
 have qjm : w6.cell? ⟨qf4, 1, none⟩ = some (.int .i64 a0_1) := (qb qfr.out 1).trans rfl
 have qjj : w6.cell? ⟨qf4, 2, none⟩ = some (.int .i64 a0_2) := (qb qfr.out 2).trans rfl
 have qjk : w6.cell? ⟨qf4, 3, none⟩ = some (.string a0_3) := (qb qfr.out 3).trans rfl
 have qlg : w6.cell? ⟨qf4, 4, none⟩ = some (.int .i64 a0_4) := (qb qfr.out 4).trans rfl
 have qlf : w6.cell? ⟨qf4, 5, none⟩ = some (.int .i64 a0_5) := (qb qfr.out 5).trans rfl
 have qlm : w6.cell? ⟨qf4, 6, none⟩ = some (.string a0_6) := (qb qfr.out 6).trans rfl
 have qlk : w6.cell? ⟨qf4, 7, none⟩ = some (.slice A0_7 l0_7.length c0_7) := (qb qfr.out 7).trans rfl
 have qli : w6.cell? ⟨qf4, 8, none⟩ = some (.slice A0_8 l0_8.length c0_8) := (qb qfr.out 8).trans rfl
 have qld : w6.cell? ⟨qf4, 9, none⟩ = some (.slice A0_9 l0_9.length c0_9) := (qb qfr.out 9).trans rfl
 have qhj := qa qfr.out 0
 have qhl := qa qfr.out 1
 have qhm := qa qfr.out 2
 have qhk := qa qfr.out 3
 have qi2 := qa qfr.out 4
 have qix := qa qfr.out 5
 have qi0 := qa qfr.out 6
 have qi1 := qa qfr.out 7
 have qiy := qa qfr.out 8
 have qiz := qa qfr.out 9
 go_upto_block 0 with (fail)
 go_cut [3, 4, 5] (fun v3 v4 v5 wc => ∃ (kq : Nat) (x3_2 : Bool) (x4_2 : Bool) (x5_2 : Int), v3 = .bool x3_2 ∧ v4 = .bool x4_2 ∧ v5 = .int .i64 x5_2 ∧ qc (qbh.j0 kq x3_2 x4_2 x5_2 a0_0 a0_1 a0_2 a0_3 a0_4 a0_5 a0_6 l0_7 l0_8 l0_9 = some r) ∧ qc (kq ≤ k) ∧ qc (wc.heap[qf4]? = some (.cells #[.int .i64 a0_0, .int .i64 a0_1, .int .i64 a0_2, .string a0_3, .int .i64 a0_4, .int .i64 a0_5, .string a0_6, (.slice A0_7 l0_7.length c0_7), (.slice A0_8 l0_8.length c0_8), (.slice A0_9 l0_9.length c0_9)] 30 (0, 0))) ∧ qc (Below w.heap.size w wc))
 case first =>
  have H := HC3.out
  clear HC3
  by_cases c8 : a0_0 = 8
  ·rw [if_pos c8] at H
   have c8b0 : (a0_0 == 8) = true := beq_iff_eq.mpr c8
   have c8b1 : (a0_0 != 8) = false := bne_eq_false_iff_eq.mpr c8
   clear c8
   (first | rw [c8b0] | (simp only [i64_w, i32_w]; rw [c8b0]) | skip)
   replace H := Option.bind_eq_some_iff.mp H
   obtain ⟨t162, A90, H⟩ := H
   replace H : ((qce.f k a0_4 a0_5 a0_6 l0_7).bind fun t163 => (qbh.j0 k t162 t163 0 a0_0 a0_1 a0_2 a0_3 a0_4 a0_5 a0_6 l0_7 l0_8 l0_9)) = some r := H
   have A9 := qc.mk A90
   clear A90
   replace H := Option.bind_eq_some_iff.mp H
   obtain ⟨t163, A100, H⟩ := H
   replace H : (qbh.j0 k t162 t163 0 a0_0 a0_1 a0_2 a0_3 a0_4 a0_5 a0_6 l0_7 l0_8 l0_9) = some r := H
   have A10 := qc.mk A100
   clear A100
   have H' := qc.mk H
   clear H
   try go_wp2
   have n0_ := qc.mk (qm qfr.out)
   have n1_ := qc.mk (qh HB.out)
   clear qfr
   clear HB
   have qfr := n0_
   have HB := n1_
   clear n0_ n1_
   refine qe9 (n := 8) (S := fun w' => w'.cell? ⟨qf4, 0, none⟩ = some (.int .i64 a0_0) ∧ w'.cell? ⟨qf4, 1, none⟩ = some (.int .i64 a0_1) ∧ w'.cell? ⟨qf4, 2, none⟩ = some (.int .i64 a0_2) ∧ w'.cell? ⟨qf4, 3, none⟩ = some (.string a0_3) ∧ w'.cell? ⟨qf4, 4, none⟩ = some (.int .i64 a0_4) ∧ w'.cell? ⟨qf4, 5, none⟩ = some (.int .i64 a0_5) ∧ w'.cell? ⟨qf4, 6, none⟩ = some (.string a0_6) ∧ w'.cell? ⟨qf4, 7, none⟩ = some (.slice A0_7 l0_7.length c0_7) ∧ w'.cell? ⟨qf4, 8, none⟩ = some (.slice A0_8 l0_8.length c0_8) ∧ w'.cell? ⟨qf4, 9, none⟩ = some (.slice A0_9 l0_9.length c0_9)) (ds := []) #[false, false, false, false, false, false, false, false] (by kernel_rfl) rfl rfl ⟨(qb qfr.out 0).trans rfl, (qb qfr.out 1).trans rfl, (qb qfr.out 2).trans rfl, (qb qfr.out 3).trans rfl, (qb qfr.out 4).trans rfl, (qb qfr.out 5).trans rfl, (qb qfr.out 6).trans rfl, (qb qfr.out 7).trans rfl, (qb qfr.out 8).trans rfl, (qb qfr.out 9).trans rfl⟩ (fun hHeld => ?_); refine qei qbh.tab4 qbh.bits4 (fun HT_ HW_ => ?_)
   generalize w6.drew = w11 at qfr HB hHeld ⊢
   refine pure_ (i := 0) (N := some 18) (v := ?_) (a' := ?_) #[true, false, false, false, false, false, false, false] rfl rfl (qcf HT_.out (by kernel_rfl)) (fun _ _ _ h => h) (Or.inl ⟨by rfl, ?_⟩) ?_ ?_
   rotate_left
   ·intro w'
    go_simp
    with_reducible rfl
   rotate_left
   ·simp only [Act.put, List.setIfInBounds_toArray, List.set_cons_zero, List.set_cons_succ, i64_w, i32_w]
    rfl
   refine pure_ (i := 3) (N := some 21) (v := ?_) (a' := ?_) #[true, false, false, true, false, false, false, false] rfl rfl (qcf HT_.out (by kernel_rfl)) (fun _ _ _ h => h) (Or.inl ⟨by rfl, ?_⟩) ?_ ?_
   rotate_left
   ·intro w'
    go_simp
    with_reducible rfl
   rotate_left
   ·simp only [Act.put, List.setIfInBounds_toArray, List.set_cons_zero, List.set_cons_succ, i64_w, i32_w]
    rfl
   refine take_ (i := 1) (N := some 19) (v := ?_) (a' := ?_) #[true, true, false, true, false, false, false, false] rfl rfl (qcn HT_.out HW_.out (by kernel_rfl)) (fun _ _ _ h => h) (Or.inl ⟨by rfl, ?_⟩) hHeld ?_ ?_
   rotate_left
   ·rintro w' ⟨s0, s1, s2, s3, s4, s5, s6, s7, s8, s9⟩
    go_simp
    with_reducible rfl
   rotate_left
   ·simp only [Act.put, List.setIfInBounds_toArray, List.set_cons_zero, List.set_cons_succ, i64_w, i32_w]
    rfl
   refine take_ (i := 4) (N := some 22) (v := ?_) (a' := ?_) #[true, true, false, true, true, false, false, false] rfl rfl (qcn HT_.out HW_.out (by kernel_rfl)) (fun _ _ _ h => h) (Or.inl ⟨by rfl, ?_⟩) hHeld ?_ ?_
   rotate_left
   ·rintro w' ⟨s0, s1, s2, s3, s4, s5, s6, s7, s8, s9⟩
    go_simp
    with_reducible rfl
   rotate_left
   ·simp only [Act.put, List.setIfInBounds_toArray, List.set_cons_zero, List.set_cons_succ, i64_w, i32_w]
    rfl
   refine one_ (i := 2) (N := some 20) #[true, true, true, true, true, false, false, false] rfl rfl (qee HT_.out (by kernel_rfl)) (by decide) (fun K hK => ?_)
   refine goes_ Tryd.func82 (by kernel_rfl) rfl #[.string a0_3] (by rfl) rfl rfl (by (try simp only [List.map_toArray, List.map_cons, List.map_nil]); first | done | rfl | (simp only [List.length_drop, List.length_take]; rfl)) ?_
   with_reducible refine (qb2.calls k a0_3 t162 _ ?side1 A9.out).mono ?_
   (case side1 => exact Lay.below HLAY.out (by repeat (first | (with_reducible first | exact HB.out | apply qg | apply qd | apply qh | refine ql ?_ qh1.out) | exact HB.out)))
   rintro e w12 ⟨rfl, hb⟩
   refine ⟨_, rfl, ?_⟩
   have n0_ := qc.mk (qbb (g := qf4) (o := .cells #[.int .i64 a0_0, .int .i64 a0_1, .int .i64 a0_2, .string a0_3, .int .i64 a0_4, .int .i64 a0_5, .string a0_6, .slice A0_7 l0_7.length c0_7, .slice A0_8 l0_8.length c0_8, .slice A0_9 l0_9.length c0_9] 30 (0, 0)) (by (with_reducible repeat (first | refine qj ?_ _ | refine qm ?_ | refine qi ?_ _)); exact qfr.out) hb)
   have n1_ := qc.mk (q9 (by repeat (first | (with_reducible first | exact HB.out | apply qg | apply qd | apply qh | refine ql ?_ qh1.out) | exact HB.out)) hb)
   clear qfr
   clear HB
   have qfr := n0_
   have HB := n1_
   clear n0_ n1_
   (try clear hb)
   (try clear hb2)
   (try clear hk)
   (try clear hi)
   refine hK.out _ _ ⟨(qb qfr.out 0).trans rfl, (qb qfr.out 1).trans rfl, (qb qfr.out 2).trans rfl, (qb qfr.out 3).trans rfl, (qb qfr.out 4).trans rfl, (qb qfr.out 5).trans rfl, (qb qfr.out 6).trans rfl, (qb qfr.out 7).trans rfl, (qb qfr.out 8).trans rfl, (qb qfr.out 9).trans rfl⟩ (fun hHeld => ?_)
   clear hK K
   refine norm_ (a' := ?_) ?_ ?_
   rotate_left
   ·show Act.put _ (some 20) _ = _
    simp only [Act.put, List.setIfInBounds_toArray, List.set_cons_zero, List.set_cons_succ, i64_w, i32_w]
    rfl
   refine one_ (i := 5) (N := some 23) #[true, true, true, true, true, true, false, false] rfl rfl (qee HT_.out (by kernel_rfl)) (by decide) (fun K hK => ?_)
   refine goes_ Tryd.func83 (by kernel_rfl) rfl #[.agg #[.int .i64 a0_4, .int .i64 a0_5, .string a0_6, .slice A0_7 l0_7.length c0_7]] (by rfl) rfl rfl (by (try simp only [List.map_toArray, List.map_cons, List.map_nil]); first | done | rfl | (simp only [List.length_drop, List.length_take]; rfl)) ?_
   with_reducible refine (qce.calls k a0_4 a0_5 a0_6 _ _ l0_7 t163 _ ?side1 ?side2 ?side3 A10.out).mono ?_
   (case side1 => repeat (first | exact (Kd.qbw qnk.out HB.out) | (with_reducible refine Kd.qb3 ?_ _) | (with_reducible refine Kd.qb1 ?_ _) | (with_reducible refine Kd.qb7 ?_)))
   (case side2 => exact qnj.out)
   (case side3 => exact Lay.below HLAY.out (by repeat (first | (with_reducible first | exact HB.out | apply qg | apply qd | apply qh | refine ql ?_ qh1.out) | exact HB.out)))
   rintro e w13 ⟨rfl, hb⟩
   refine ⟨_, rfl, ?_⟩
   have n0_ := qc.mk (qbb (g := qf4) (o := .cells #[.int .i64 a0_0, .int .i64 a0_1, .int .i64 a0_2, .string a0_3, .int .i64 a0_4, .int .i64 a0_5, .string a0_6, .slice A0_7 l0_7.length c0_7, .slice A0_8 l0_8.length c0_8, .slice A0_9 l0_9.length c0_9] 30 (0, 0)) (by (with_reducible repeat (first | refine qj ?_ _ | refine qm ?_ | refine qi ?_ _)); exact qfr.out) hb)
   have n1_ := qc.mk (q9 (by repeat (first | (with_reducible first | exact HB.out | apply qg | apply qd | apply qh | refine ql ?_ qh1.out) | exact HB.out)) hb)
   clear qfr
   clear HB
   have qfr := n0_
   have HB := n1_
   clear n0_ n1_
   (try clear hb)
   (try clear hb2)
   (try clear hk)
   (try clear hi)
   refine hK.out _ _ ⟨(qb qfr.out 0).trans rfl, (qb qfr.out 1).trans rfl, (qb qfr.out 2).trans rfl, (qb qfr.out 3).trans rfl, (qb qfr.out 4).trans rfl, (qb qfr.out 5).trans rfl, (qb qfr.out 6).trans rfl, (qb qfr.out 7).trans rfl, (qb qfr.out 8).trans rfl, (qb qfr.out 9).trans rfl⟩ (fun hHeld => ?_)
   clear hK K
   refine norm_ (a' := ?_) ?_ ?_
   rotate_left
   ·show Act.put _ (some 23) _ = _
    simp only [Act.put, List.setIfInBounds_toArray, List.set_cons_zero, List.set_cons_succ, i64_w, i32_w]
    rfl
   refine pure_ (i := 6) (N := some 3) (v := ?_) (a' := ?_) #[true, true, true, true, true, true, true, false] rfl rfl (qcf HT_.out (by kernel_rfl)) (fun _ _ _ h => h) (Or.inl ⟨by rfl, ?_⟩) ?_ ?_
   rotate_left
   ·intro w'
    go_simp
    with_reducible rfl
   rotate_left
   ·simp only [Act.put, List.setIfInBounds_toArray, List.set_cons_zero, List.set_cons_succ, i64_w, i32_w]
    rfl
   refine pure_ (i := 7) (N := some 4) (v := ?_) (a' := ?_) #[true, true, true, true, true, true, true, true] rfl rfl (qcf HT_.out (by kernel_rfl)) (fun _ _ _ h => h) (Or.inl ⟨by rfl, ?_⟩) ?_ ?_
   rotate_left
   ·intro w'
    go_simp
    with_reducible rfl
   rotate_left
   ·simp only [Act.put, List.setIfInBounds_toArray, List.set_cons_zero, List.set_cons_succ, i64_w, i32_w]
    rfl
   refine done_ (qex HT_.out (by kernel_rfl)) ?_
   try go_wp2
   go_meet
   case rel => exact ⟨_, (t162), (t163), (0), (by first | rfl | (simp; done) | (simp [*]; done)), (by first | rfl | (simp; done) | (simp [*]; done)), (by first | rfl | (simp; done) | (simp [*]; done)), H', ⟨by first | omega | exact Nat.le_refl _⟩, ⟨by (with_reducible repeat (first | refine qj ?_ _ | refine qm ?_ | refine qi ?_ _)); exact qfr.out⟩, ⟨by repeat (first | (with_reducible first | exact HB.out | apply qg | apply qd | apply qh | refine ql ?_ qh1.out) | exact HB.out)⟩⟩
  ·rw [if_neg c8] at H
   have c8b0 : (a0_0 == 8) = false := beq_eq_false_iff_ne.mpr c8
   have c8b1 : (a0_0 != 8) = true := bne_iff_ne.mpr c8
   (first | rw [c8b0] | (simp only [i64_w, i32_w]; rw [c8b0]) | skip)
   by_cases c14 : a0_0 = 7
   ·rw [if_pos c14] at H
    have c14b0 : (a0_0 == 7) = true := beq_iff_eq.mpr c14
    have c14b1 : (a0_0 != 7) = false := bne_eq_false_iff_eq.mpr c14
    clear c14
    replace H := Option.bind_eq_some_iff.mp H
    obtain ⟨t164, A150, H⟩ := H
    replace H : (qbh.j0 k (a0_3.toList == ([] : List UInt8)) t164 0 a0_0 a0_1 a0_2 a0_3 a0_4 a0_5 a0_6 l0_7 l0_8 l0_9) = some r := H
    have A15 := qc.mk A150
    clear A150
    have H' := qc.mk H
    clear H
    have qjb : w6.cell? ⟨qf4, 0, none⟩ = some (.int .i64 a0_0) := (qb qfr.out 0).trans rfl
    have qjd : w6.cell? ⟨qf4, 1, none⟩ = some (.int .i64 a0_1) := (qb qfr.out 1).trans rfl
    have qjg : w6.cell? ⟨qf4, 2, none⟩ = some (.int .i64 a0_2) := (qb qfr.out 2).trans rfl
    have qi7 : w6.cell? ⟨qf4, 3, none⟩ = some (.string a0_3) := (qb qfr.out 3).trans rfl
    have qq9 : w6.cell? ⟨qf4, 4, none⟩ = some (.int .i64 a0_4) := (qb qfr.out 4).trans rfl
    have qq5 : w6.cell? ⟨qf4, 5, none⟩ = some (.int .i64 a0_5) := (qb qfr.out 5).trans rfl
    have qsq : w6.cell? ⟨qf4, 6, none⟩ = some (.string a0_6) := (qb qfr.out 6).trans rfl
    have qqt : w6.cell? ⟨qf4, 7, none⟩ = some (.slice A0_7 l0_7.length c0_7) := (qb qfr.out 7).trans rfl
    have qsx : w6.cell? ⟨qf4, 8, none⟩ = some (.slice A0_8 l0_8.length c0_8) := (qb qfr.out 8).trans rfl
    have qsi : w6.cell? ⟨qf4, 9, none⟩ = some (.slice A0_9 l0_9.length c0_9) := (qb qfr.out 9).trans rfl
    have qhb := qa qfr.out 0
    have qg8 := qa qfr.out 1
    have qhe := qa qfr.out 2
    have qhc := qa qfr.out 3
    have qiq := qa qfr.out 4
    have qiu := qa qfr.out 5
    have qip := qa qfr.out 6
    have qii := qa qfr.out 7
    have qim := qa qfr.out 8
    have qis := qa qfr.out 9
    go_wp2_with (first | ((with_reducible refine qb5 (f := 83) rfl ?_); refine qcj (some 28) rfl rfl Tryd.func83 (by kernel_rfl) rfl #[.agg #[.int .i64 a0_4, .int .i64 a0_5, .string a0_6, .slice A0_7 l0_7.length c0_7]] rfl (by (try simp only [List.map_toArray, List.map_cons, List.map_nil]); first | done | rfl | (simp only [List.length_drop, List.length_take]; rfl)) ?_; (with_reducible refine (qce.calls k a0_4 a0_5 a0_6 _ _ l0_7 t164 _ ?side1 ?side2 ?side3 A15.out).mono ?_); (case side1 => repeat (first | exact (Kd.qbw qnk.out HB.out) | (with_reducible refine Kd.qb3 ?_ _) | (with_reducible refine Kd.qb1 ?_ _) | (with_reducible refine Kd.qb7 ?_))); (case side2 => exact qnj.out); (case side3 => exact Lay.below HLAY.out (by repeat (first | (with_reducible first | exact HB.out | apply qg | apply qd | apply qh | refine ql ?_ qh1.out) | exact HB.out))); rintro e w17 ⟨rfl, hb⟩; refine ⟨_, rfl, ?_⟩; have n0_ := qc.mk (qbb (g := qf4) (o := .cells #[.int .i64 a0_0, .int .i64 a0_1, .int .i64 a0_2, .string a0_3, .int .i64 a0_4, .int .i64 a0_5, .string a0_6, .slice A0_7 l0_7.length c0_7, .slice A0_8 l0_8.length c0_8, .slice A0_9 l0_9.length c0_9] 30 (0, 0)) (by (with_reducible repeat (first | refine qj ?_ _ | refine qm ?_ | refine qi ?_ _)); exact qfr.out) hb); have n1_ := qc.mk (q9 (by repeat (first | (with_reducible first | exact HB.out | apply qg | apply qd | apply qh | refine ql ?_ qh1.out) | exact HB.out)) hb); clear qfr; clear HB; have qfr := n0_; have HB := n1_; clear n0_ n1_; (try clear hb); (try clear hb2); (try clear hk); (try clear hi)))
    go_meet
    case rel => exact ⟨_, ((a0_3.toList == ([] : List UInt8))), (t164), (0), (by first | rfl | (simp; done) | (simp [*]; done)), (by first | rfl | (simp; done) | (simp [*]; done)), (by first | rfl | (simp; done) | (simp [*]; done)), H', ⟨by first | omega | exact Nat.le_refl _⟩, ⟨by (with_reducible repeat (first | refine qj ?_ _ | refine qm ?_ | refine qi ?_ _)); exact qfr.out⟩, ⟨by repeat (first | (with_reducible first | exact HB.out | apply qg | apply qd | apply qh | refine ql ?_ qh1.out) | exact HB.out)⟩⟩
   ·rw [if_neg c14] at H
    have c14b0 : (a0_0 == 7) = false := beq_eq_false_iff_ne.mpr c14
    have c14b1 : (a0_0 != 7) = true := bne_iff_ne.mpr c14
    by_cases c18 : a0_0 = 9
    ·rw [if_pos c18] at H
     have c18b0 : (a0_0 == 9) = true := beq_iff_eq.mpr c18
     have c18b1 : (a0_0 != 9) = false := bne_eq_false_iff_eq.mpr c18
     clear c18
     replace H := Option.bind_eq_some_iff.mp H
     obtain ⟨t165, A190, H⟩ := H
     replace H : (qbh.j0 k t165 t161 0 a0_0 a0_1 a0_2 a0_3 a0_4 a0_5 a0_6 l0_7 l0_8 l0_9) = some r := H
     have A19 := qc.mk A190
     clear A190
     have H' := qc.mk H
     clear H
     have qml : w6.cell? ⟨qf4, 0, none⟩ = some (.int .i64 a0_0) := (qb qfr.out 0).trans rfl
     have ql9 : w6.cell? ⟨qf4, 1, none⟩ = some (.int .i64 a0_1) := (qb qfr.out 1).trans rfl
     have qmc : w6.cell? ⟨qf4, 2, none⟩ = some (.int .i64 a0_2) := (qb qfr.out 2).trans rfl
     have ql8 : w6.cell? ⟨qf4, 3, none⟩ = some (.string a0_3) := (qb qfr.out 3).trans rfl
     have qyh : w6.cell? ⟨qf4, 4, none⟩ = some (.int .i64 a0_4) := (qb qfr.out 4).trans rfl
     have qxx : w6.cell? ⟨qf4, 5, none⟩ = some (.int .i64 a0_5) := (qb qfr.out 5).trans rfl
     have qxz : w6.cell? ⟨qf4, 6, none⟩ = some (.string a0_6) := (qb qfr.out 6).trans rfl
     have qx8 : w6.cell? ⟨qf4, 7, none⟩ = some (.slice A0_7 l0_7.length c0_7) := (qb qfr.out 7).trans rfl
     have qyf : w6.cell? ⟨qf4, 8, none⟩ = some (.slice A0_8 l0_8.length c0_8) := (qb qfr.out 8).trans rfl
     have qw2 : w6.cell? ⟨qf4, 9, none⟩ = some (.slice A0_9 l0_9.length c0_9) := (qb qfr.out 9).trans rfl
     have qhv := qa qfr.out 0
     have qh2 := qa qfr.out 1
     have qh6 := qa qfr.out 2
     have qh0 := qa qfr.out 3
     have qj3 := qa qfr.out 4
     have qj0 := qa qfr.out 5
     have qjt := qa qfr.out 6
     have qjv := qa qfr.out 7
     have qj6 := qa qfr.out 8
     have qj9 := qa qfr.out 9
     go_wp2_with (first | ((with_reducible refine qb5 (f := 82) rfl ?_); refine qcj (some 34) rfl rfl Tryd.func82 (by kernel_rfl) rfl #[.string a0_3] rfl (by (try simp only [List.map_toArray, List.map_cons, List.map_nil]); first | done | rfl | (simp only [List.length_drop, List.length_take]; rfl)) ?_; (with_reducible refine (qb2.calls k a0_3 t165 _ ?side1 A19.out).mono ?_); (case side1 => exact Lay.below HLAY.out (by repeat (first | (with_reducible first | exact HB.out | apply qg | apply qd | apply qh | refine ql ?_ qh1.out) | exact HB.out))); rintro e w21 ⟨rfl, hb⟩; refine ⟨_, rfl, ?_⟩; have n0_ := qc.mk (qbb (g := qf4) (o := .cells #[.int .i64 a0_0, .int .i64 a0_1, .int .i64 a0_2, .string a0_3, .int .i64 a0_4, .int .i64 a0_5, .string a0_6, .slice A0_7 l0_7.length c0_7, .slice A0_8 l0_8.length c0_8, .slice A0_9 l0_9.length c0_9] 30 (0, 0)) (by (with_reducible repeat (first | refine qj ?_ _ | refine qm ?_ | refine qi ?_ _)); exact qfr.out) hb); have n1_ := qc.mk (q9 (by repeat (first | (with_reducible first | exact HB.out | apply qg | apply qd | apply qh | refine ql ?_ qh1.out) | exact HB.out)) hb); clear qfr; clear HB; have qfr := n0_; have HB := n1_; clear n0_ n1_; (try clear hb); (try clear hb2); (try clear hk); (try clear hi)))
     go_meet
     case rel => exact ⟨_, (t165), (t161), (0), (by first | rfl | (simp; done) | (simp [*]; done)), (by first | rfl | (simp; done) | (simp [*]; done)), (by first | rfl | (simp; done) | (simp [*]; done)), H', ⟨by first | omega | exact Nat.le_refl _⟩, ⟨by (with_reducible repeat (first | refine qj ?_ _ | refine qm ?_ | refine qi ?_ _)); exact qfr.out⟩, ⟨by repeat (first | (with_reducible first | exact HB.out | apply qg | apply qd | apply qh | refine ql ?_ qh1.out) | exact HB.out)⟩⟩
    ·rw [if_neg c18] at H
     have c18b0 : (a0_0 == 9) = false := beq_eq_false_iff_ne.mpr c18
     have c18b1 : (a0_0 != 9) = true := bne_iff_ne.mpr c18
     by_cases c22 : a0_0 = 12
     ·rw [if_pos c22] at H
      have c22b0 : (a0_0 == 12) = true := beq_iff_eq.mpr c22
      have c22b1 : (a0_0 != 12) = false := bne_eq_false_iff_eq.mpr c22
      clear c22
      replace H := Option.bind_eq_some_iff.mp H
      obtain ⟨t166, A230, H⟩ := H
      replace H : (qbh.j0 k t166 t161 0 a0_0 a0_1 a0_2 a0_3 a0_4 a0_5 a0_6 l0_7 l0_8 l0_9) = some r := H
      have A23 := qc.mk A230
      clear A230
      have H' := qc.mk H
      clear H
      have qbef : w6.cell? ⟨qf4, 0, none⟩ = some (.int .i64 a0_0) := (qb qfr.out 0).trans rfl
      have qbej : w6.cell? ⟨qf4, 1, none⟩ = some (.int .i64 a0_1) := (qb qfr.out 1).trans rfl
      have qbde : w6.cell? ⟨qf4, 2, none⟩ = some (.int .i64 a0_2) := (qb qfr.out 2).trans rfl
      have q9i : w6.cell? ⟨qf4, 3, none⟩ = some (.string a0_3) := (qb qfr.out 3).trans rfl
      have qbbw : w6.cell? ⟨qf4, 4, none⟩ = some (.int .i64 a0_4) := (qb qfr.out 4).trans rfl
      have qbdv : w6.cell? ⟨qf4, 5, none⟩ = some (.int .i64 a0_5) := (qb qfr.out 5).trans rfl
      have q8s : w6.cell? ⟨qf4, 6, none⟩ = some (.string a0_6) := (qb qfr.out 6).trans rfl
      have q9p : w6.cell? ⟨qf4, 7, none⟩ = some (.slice A0_7 l0_7.length c0_7) := (qb qfr.out 7).trans rfl
      have qbag : w6.cell? ⟨qf4, 8, none⟩ = some (.slice A0_8 l0_8.length c0_8) := (qb qfr.out 8).trans rfl
      have qbd2 : w6.cell? ⟨qf4, 9, none⟩ = some (.slice A0_9 l0_9.length c0_9) := (qb qfr.out 9).trans rfl
      have qbbl := qa qfr.out 0
      have q9f := qa qfr.out 1
      have q7q := qa qfr.out 2
      have q7f := qa qfr.out 3
      have qbc0 := qa qfr.out 4
      have qbel := qa qfr.out 5
      have qbea := qa qfr.out 6
      have q8v := qa qfr.out 7
      have q7o := qa qfr.out 8
      have qbbn := qa qfr.out 9
      go_wp2_with (first | ((with_reducible refine qb5 (f := 82) rfl ?_); refine qcj (some 34) rfl rfl Tryd.func82 (by kernel_rfl) rfl #[.string a0_3] rfl (by (try simp only [List.map_toArray, List.map_cons, List.map_nil]); first | done | rfl | (simp only [List.length_drop, List.length_take]; rfl)) ?_; (with_reducible refine (qb2.calls k a0_3 t166 _ ?side1 A23.out).mono ?_); (case side1 => exact Lay.below HLAY.out (by repeat (first | (with_reducible first | exact HB.out | apply qg | apply qd | apply qh | refine ql ?_ qh1.out) | exact HB.out))); rintro e w25 ⟨rfl, hb⟩; refine ⟨_, rfl, ?_⟩; have n0_ := qc.mk (qbb (g := qf4) (o := .cells #[.int .i64 a0_0, .int .i64 a0_1, .int .i64 a0_2, .string a0_3, .int .i64 a0_4, .int .i64 a0_5, .string a0_6, .slice A0_7 l0_7.length c0_7, .slice A0_8 l0_8.length c0_8, .slice A0_9 l0_9.length c0_9] 30 (0, 0)) (by (with_reducible repeat (first | refine qj ?_ _ | refine qm ?_ | refine qi ?_ _)); exact qfr.out) hb); have n1_ := qc.mk (q9 (by repeat (first | (with_reducible first | exact HB.out | apply qg | apply qd | apply qh | refine ql ?_ qh1.out) | exact HB.out)) hb); clear qfr; clear HB; have qfr := n0_; have HB := n1_; clear n0_ n1_; (try clear hb); (try clear hb2); (try clear hk); (try clear hi)))
      go_meet
      case rel => exact ⟨_, (t166), (t161), (0), (by first | rfl | (simp; done) | (simp [*]; done)), (by first | rfl | (simp; done) | (simp [*]; done)), (by first | rfl | (simp; done) | (simp [*]; done)), H', ⟨by first | omega | exact Nat.le_refl _⟩, ⟨by (with_reducible repeat (first | refine qj ?_ _ | refine qm ?_ | refine qi ?_ _)); exact qfr.out⟩, ⟨by repeat (first | (with_reducible first | exact HB.out | apply qg | apply qd | apply qh | refine ql ?_ qh1.out) | exact HB.out)⟩⟩
     ·rw [if_neg c22] at H
      have c22b0 : (a0_0 == 12) = false := beq_eq_false_iff_ne.mpr c22
      have c22b1 : (a0_0 != 12) = true := bne_iff_ne.mpr c22
      by_cases c26 : a0_0 = 11
      ·rw [if_pos c26] at H
       have c26b0 : (a0_0 == 11) = true := beq_iff_eq.mpr c26
       have c26b1 : (a0_0 != 11) = false := bne_eq_false_iff_eq.mpr c26
       clear c26
       have H' := qc.mk H
       clear H
       have qoe : w6.cell? ⟨qf4, 0, none⟩ = some (.int .i64 a0_0) := (qb qfr.out 0).trans rfl
       have qob : w6.cell? ⟨qf4, 1, none⟩ = some (.int .i64 a0_1) := (qb qfr.out 1).trans rfl
       have qoi : w6.cell? ⟨qf4, 2, none⟩ = some (.int .i64 a0_2) := (qb qfr.out 2).trans rfl
       have qnv : w6.cell? ⟨qf4, 3, none⟩ = some (.string a0_3) := (qb qfr.out 3).trans rfl
       have qbgg : w6.cell? ⟨qf4, 4, none⟩ = some (.int .i64 a0_4) := (qb qfr.out 4).trans rfl
       have qbf1 : w6.cell? ⟨qf4, 5, none⟩ = some (.int .i64 a0_5) := (qb qfr.out 5).trans rfl
       have qbka : w6.cell? ⟨qf4, 6, none⟩ = some (.string a0_6) := (qb qfr.out 6).trans rfl
       have qbje : w6.cell? ⟨qf4, 7, none⟩ = some (.slice A0_7 l0_7.length c0_7) := (qb qfr.out 7).trans rfl
       have qbh8 : w6.cell? ⟨qf4, 8, none⟩ = some (.slice A0_8 l0_8.length c0_8) := (qb qfr.out 8).trans rfl
       have qbki : w6.cell? ⟨qf4, 9, none⟩ = some (.slice A0_9 l0_9.length c0_9) := (qb qfr.out 9).trans rfl
       have qo6 := qa qfr.out 0
       have qoy := qa qfr.out 1
       have qn2 := qa qfr.out 2
       have qn3 := qa qfr.out 3
       have qbkv := qa qfr.out 4
       have qbkk := qa qfr.out 5
       have qbi1 := qa qfr.out 6
       have qbhv := qa qfr.out 7
       have qbgr := qa qfr.out 8
       have qbjc := qa qfr.out 9
       go_wp2
       go_meet
       case rel => exact ⟨_, ((a0_3.toList == ([] : List UInt8))), (t161), ((l0_8.length : Int)), (by first | rfl | (simp; done) | (simp [*]; done)), (by first | rfl | (simp; done) | (simp [*]; done)), (by first | rfl | (simp; done) | (simp [*]; done)), H', ⟨by first | omega | exact Nat.le_refl _⟩, ⟨by (with_reducible repeat (first | refine qj ?_ _ | refine qm ?_ | refine qi ?_ _)); exact qfr.out⟩, ⟨by repeat (first | (with_reducible first | exact HB.out | apply qg | apply qd | apply qh | refine ql ?_ qh1.out) | exact HB.out)⟩⟩
      ·rw [if_neg c26] at H
       have c26b0 : (a0_0 == 11) = false := beq_eq_false_iff_ne.mpr c26
       have c26b1 : (a0_0 != 11) = true := bne_iff_ne.mpr c26
       have H' := qc.mk H
       clear H
       go_wp2
       go_meet
       case rel => exact ⟨_, ((a0_3.toList == ([] : List UInt8))), (t161), (0), (by first | rfl | (simp; done) | (simp [*]; done)), (by first | rfl | (simp; done) | (simp [*]; done)), (by first | rfl | (simp; done) | (simp [*]; done)), H', ⟨by first | omega | exact Nat.le_refl _⟩, ⟨by (with_reducible repeat (first | refine qj ?_ _ | refine qm ?_ | refine qi ?_ _)); exact qfr.out⟩, ⟨by repeat (first | (with_reducible first | exact HB.out | apply qg | apply qd | apply qh | refine ql ?_ qh1.out) | exact HB.out)⟩⟩
 case rest =>
  clear HC3
  (try clear c1); (try clear c2); (try clear p2); (try clear c6); (try clear c8); (try clear c8b0); (try clear c8b1); (try clear c14); (try clear c14b0); (try clear c14b1); (try clear c18); (try clear c18b0); (try clear c18b1); (try clear c22); (try clear c22b0); (try clear c22b1); (try clear c26); (try clear c26b0); (try clear c26b1); (try clear qjb qjd qjg qi7 qq9 qq5 qsq qqt qsx qsi); (try clear qml ql9 qmc ql8 qyh qxx qxz qx8 qyf qw2); (try clear qbef qbej qbde q9i qbbw qbdv q8s q9p qbag qbd2); (try clear qoe qob qoi qnv qbgg qbf1 qbka qbje qbh8 qbki); (try clear qjl qjm qjj qjk qlg qlf qlm qlk qli qld); (try clear qhb qg8 qhe qhc qiq qiu qip qii qim qis); (try clear qhv qh2 qh6 qh0 qj3 qj0 qjt qjv qj6 qj9); (try clear qbbl q9f q7q q7f qbc0 qbel qbea q8v q7o qbbn); (try clear qo6 qoy qn2 qn3 qbkv qbkk qbi1 qbhv qbgr qbjc); (try clear qhj qhl qhm qhk qi2 qix qi0 qi1 qiy qiz)
  obtain ⟨kq, x3_2, x4_2, x5_2, rfl, rfl, rfl, HA, HJ2, qfr, HB⟩ := hcut
  cases kq with
  | zero => exact absurd HA.out (by simp [qbh.j0])
  | succ kj2 =>
   have H := HA.out
   clear HA
   simp only [qbh.j0] at H
   have H' := qc.mk H
   clear H
   have qbkw : wc.cell? ⟨qf4, 0, none⟩ = some (.int .i64 a0_0) := (qb qfr.out 0).trans rfl
   have qbib : wc.cell? ⟨qf4, 1, none⟩ = some (.int .i64 a0_1) := (qb qfr.out 1).trans rfl
   have qbj9 : wc.cell? ⟨qf4, 2, none⟩ = some (.int .i64 a0_2) := (qb qfr.out 2).trans rfl
   have qbgt : wc.cell? ⟨qf4, 3, none⟩ = some (.string a0_3) := (qb qfr.out 3).trans rfl
   have qbis : wc.cell? ⟨qf4, 4, none⟩ = some (.int .i64 a0_4) := (qb qfr.out 4).trans rfl
   have qbg1 : wc.cell? ⟨qf4, 5, none⟩ = some (.int .i64 a0_5) := (qb qfr.out 5).trans rfl
   have qbi8 : wc.cell? ⟨qf4, 6, none⟩ = some (.string a0_6) := (qb qfr.out 6).trans rfl
   have qbjl : wc.cell? ⟨qf4, 7, none⟩ = some (.slice A0_7 l0_7.length c0_7) := (qb qfr.out 7).trans rfl
   have qbkb : wc.cell? ⟨qf4, 8, none⟩ = some (.slice A0_8 l0_8.length c0_8) := (qb qfr.out 8).trans rfl
   have qbjm : wc.cell? ⟨qf4, 9, none⟩ = some (.slice A0_9 l0_9.length c0_9) := (qb qfr.out 9).trans rfl
   have qbf9 := qa qfr.out 0
   have qbgj := qa qfr.out 1
   have qbk9 := qa qfr.out 2
   have qbhn := qa qfr.out 3
   have qbk7 := qa qfr.out 4
   have qbgd := qa qfr.out 5
   have qbkh := qa qfr.out 6
   have qbgv := qa qfr.out 7
   have qbkp := qa qfr.out 8
   have qbfz := qa qfr.out 9
   go_wp2
   go_loopg [43] kj2 (fun kq v43 w' => ∃ (qgu : Int), v43 = .int .i64 qgu ∧ qc (qbh.l0 kq x3_2 x4_2 x5_2 l0_9 (l0_9.length : Int) qgu a0_0 a0_1 a0_2 a0_3 a0_4 a0_5 a0_6 l0_7 l0_8 l0_9 = some r) ∧ qc (kq ≤ kj2) ∧ qc (w'.heap[qf4]? = some (.cells #[.int .i64 a0_0, .int .i64 a0_1, .int .i64 a0_2, .string a0_3, .int .i64 a0_4, .int .i64 a0_5, .string a0_6, (.slice A0_7 l0_7.length c0_7), (.slice A0_8 l0_8.length c0_8), (.slice A0_9 l0_9.length c0_9)] 30 (0, 0))) ∧ qc (Below w.heap.size w w'))
   case atStart => exact ⟨(0), (by first | rfl | (simp; done) | (simp [*]; done)), H', ⟨Nat.le_refl _⟩, ⟨by (with_reducible repeat (first | refine qj ?_ _ | refine qm ?_ | refine qi ?_ _)); exact qfr.out⟩, ⟨by repeat (first | (with_reducible first | exact HB.out | apply qg | apply qd | apply qh | refine ql ?_ qh1.out) | exact HB.out)⟩⟩
   case round =>
    clear H'
    (try clear c1); (try clear c2); (try clear p2); (try clear c6); (try clear c8); (try clear c8b0); (try clear c8b1); (try clear c14); (try clear c14b0); (try clear c14b1); (try clear c18); (try clear c18b0); (try clear c18b1); (try clear c22); (try clear c22b0); (try clear c22b1); (try clear c26); (try clear c26b0); (try clear c26b1); (try clear qjb qjd qjg qi7 qq9 qq5 qsq qqt qsx qsi); (try clear qml ql9 qmc ql8 qyh qxx qxz qx8 qyf qw2); (try clear qbef qbej qbde q9i qbbw qbdv q8s q9p qbag qbd2); (try clear qoe qob qoi qnv qbgg qbf1 qbka qbje qbh8 qbki); (try clear qbkw qbib qbj9 qbgt qbis qbg1 qbi8 qbjl qbkb qbjm); (try clear qjl qjm qjj qjk qlg qlf qlm qlk qli qld); (try clear qhb qg8 qhe qhc qiq qiu qip qii qim qis); (try clear qhv qh2 qh6 qh0 qj3 qj0 qjt qjv qj6 qj9); (try clear qbbl q9f q7q q7f qbc0 qbel qbea q8v q7o qbbn); (try clear qo6 qoy qn2 qn3 qbkv qbkk qbi1 qbhv qbgr qbjc); (try clear qbf9 qbgj qbk9 qbhn qbk7 qbgd qbkh qbgv qbkp qbfz); (try clear qhj qhl qhm qhk qi2 qix qi0 qi1 qiy qiz); (try clear p2)
    obtain ⟨qgu, rfl, HA, HK2, qfr, HB⟩ := hrel
    cases gk with
    | zero => exact absurd HA.out (by simp [qbh.l0])
    | succ k2 =>
     have H := HA.out
     clear HA
     simp only [qbh.l0] at H
     by_cases c29 : qgu < (l0_9.length : Int)
     ·rw [if_pos c29] at H
      have c29b0 : decide (qgu < (l0_9.length : Int)) = true := decide_eq_true c29
      clear c29
      by_cases c30 : 0 ≤ qgu
      ·rw [if_pos c30] at H
       have c30b0 : decide (0 ≤ qgu) = true := decide_eq_true c30
       clear c30
       by_cases c31 : qgu < (l0_9.length : Int)
       ·rw [if_pos c31] at H
        have c31b0 : decide (qgu < (l0_9.length : Int)) = true := decide_eq_true c31
        clear c31
        replace H := Option.bind_eq_some_iff.mp H
        obtain ⟨t169, A320, H⟩ := H
        replace H : (if t169 = true then (qbh.l0 k2 x3_2 x4_2 x5_2 l0_9 (l0_9.length : Int) (wrap64 (qgu + 1)) a0_0 a0_1 a0_2 a0_3 a0_4 a0_5 a0_6 l0_7 l0_8 l0_9) else (some false)) = some r := H
        have A32 := qc.mk A320
        clear A320
        by_cases c33 : t169 = true
        ·subst c33
         have H1 : (qbh.l0 k2 x3_2 x4_2 x5_2 l0_9 (l0_9.length : Int) (wrap64 (qgu + 1)) a0_0 a0_1 a0_2 a0_3 a0_4 a0_5 a0_6 l0_7 l0_8 l0_9) = some r := by rw [if_pos rfl] at H; exact H
         clear H
         have H := H1
         clear H1
         have H' := qc.mk H
         clear H
         have p167 : 0 ≤ (qgu : Int) := of_decide_eq_true (by first | (with_reducible assumption) | assumption)
         have q167 : qgu < (l0_9.length : Int) := of_decide_eq_true (by first | (with_reducible assumption) | assumption)
         obtain ⟨q4f, q6y, q6t, e167, qqp, qtw, qta, qpu, qx0, qxj⟩ := qd6 qql.out qgu p167 q167
         cases e167
         replace qqp := (HB.out.cell (World.block_lt_of_cell? w _ qqp)).trans qqp
         replace qtw := (HB.out.cell (World.block_lt_of_cell? w _ qtw)).trans qtw
         replace qta := (HB.out.cell (World.block_lt_of_cell? w _ qta)).trans qta
         replace qpu := (HB.out.cell (World.block_lt_of_cell? w _ qpu)).trans qpu
         have qbcs := qc.mk qxj
         have q8m := qc.mk qx0
         clear qxj qx0
         replace p167 := eq_true p167
         replace q167 := eq_true q167
         go_wp2_with (first | ((with_reducible refine qb0 (N := 7) rfl ?_); (try (refine qcc (by rfl) ?_; dsimp only)); refine qby ?hg (N := 7) ?hd (cs := #[.int .i64 0, .int .i64 0, .string (⟨#[]⟩ : ByteArray), .slice none 0 0]) (t := 27) ?hr ?_; (case hd => rfl); (case hg => rfl); (case hr => first | (go_simp; done) | (go_simp; rfl)); intro qm6 hg w34 hbox hb; have n0_ := qc.mk (qbb (g := qf4) (o := .cells #[.int .i64 a0_0, .int .i64 a0_1, .int .i64 a0_2, .string a0_3, .int .i64 a0_4, .int .i64 a0_5, .string a0_6, .slice A0_7 l0_7.length c0_7, .slice A0_8 l0_8.length c0_8, .slice (some q4f) l0_9.length c0_9] 30 (0, 0)) (by (with_reducible repeat (first | refine qj ?_ _ | refine qm ?_ | refine qi ?_ _)); exact qfr.out) hb); have n1_ := qc.mk (q9 (by repeat (first | (with_reducible first | exact HB.out | apply qg | apply qd | apply qh | refine ql ?_ qh1.out) | exact HB.out)) hb); have n2_ := qc.mk (hbox); have n3_ := qc.mk ((by rw [hg]; exact (qba (by repeat (first | (with_reducible first | exact HB.out | apply qg | apply qd | apply qh | refine ql ?_ qh1.out) | exact HB.out))) : w.heap.size ≤ qm6)); have n4_ := qc.mk ((by rw [hg]; exact (qba (by repeat (first | (with_reducible first | exact HB.out | apply qg | apply qd | apply qh | refine ql ?_ qh1.out) | exact HB.out))) : w.heap.size ≤ qm6)); have n5_ := qc.mk ((by rw [hg]; exact Nat.ne_of_lt (qb4 (g := qf4) (o := .cells #[.int .i64 a0_0, .int .i64 a0_1, .int .i64 a0_2, .string a0_3, .int .i64 a0_4, .int .i64 a0_5, .string a0_6, .slice A0_7 l0_7.length c0_7, .slice A0_8 l0_8.length c0_8, .slice (some q4f) l0_9.length c0_9] 30 (0, 0)) (by (with_reducible repeat (first | refine qj ?_ _ | refine qm ?_ | refine qi ?_ _)); exact qfr.out)) : qf4 ≠ qm6)); have n6_ := qc.mk ((by rw [hg]; exact Nat.ne_of_gt (qb4 (g := qf4) (o := .cells #[.int .i64 a0_0, .int .i64 a0_1, .int .i64 a0_2, .string a0_3, .int .i64 a0_4, .int .i64 a0_5, .string a0_6, .slice A0_7 l0_7.length c0_7, .slice A0_8 l0_8.length c0_8, .slice (some q4f) l0_9.length c0_9] 30 (0, 0)) (by (with_reducible repeat (first | refine qj ?_ _ | refine qm ?_ | refine qi ?_ _)); exact qfr.out)) : qm6 ≠ qf4)); clear qfr; clear HB; have qfr := n0_; have HB := n1_; have qkd := n2_; have qbu4 := n3_; have qzw := n4_; have qho := n5_; have qw3 := n6_; clear n0_ n1_ n2_ n3_ n4_ n5_ n6_; clear hb hbox hg; have qbyh := qw3.out; have qbxg := qho.out; have q8a : w34.cell? ⟨qm6, 0, none⟩ = some (.int .i64 0) := (qb qkd.out 0).trans rfl; have qbc8 : w34.cell? ⟨qm6, 1, none⟩ = some (.int .i64 0) := (qb qkd.out 1).trans rfl; have qbdq : w34.cell? ⟨qm6, 2, none⟩ = some (.string (⟨#[]⟩ : ByteArray)) := (qb qkd.out 2).trans rfl; have qbcn : w34.cell? ⟨qm6, 3, none⟩ = some (.slice none 0 0) := (qb qkd.out 3).trans rfl; have qbab := qa qkd.out 0; have q98 := qa qkd.out 1; have qbd5 := qa qkd.out 2; have qbdw := qa qkd.out 3) | ((with_reducible refine qb5 (f := 83) rfl ?_); refine qcj (some 48) rfl rfl Tryd.func83 (by kernel_rfl) rfl #[.agg #[.int .i64 ((qw l0_9 qgu).f0), .int .i64 ((qw l0_9 qgu).f1), .string ((qw l0_9 qgu).f2), .slice q6y ((qw l0_9 qgu).f3).length q6t]] rfl (by (try simp only [List.map_toArray, List.map_cons, List.map_nil]); first | done | rfl | (simp only [List.length_drop, List.length_take]; rfl)) ?_; (with_reducible refine (qce.calls k2 ((qw l0_9 qgu).f0) ((qw l0_9 qgu).f1) ((qw l0_9 qgu).f2) _ _ ((qw l0_9 qgu).f3) true _ ?side1 ?side2 ?side3 A32.out).mono ?_); (case side1 => exact Kd.qbw qbcs.out (by repeat (first | (with_reducible first | exact HB.out | apply qg | apply qd | apply qh | refine ql ?_ qh1.out | refine ql ?_ qzw.out) | exact HB.out))); (case side2 => exact q8m.out); (case side3 => exact Lay.below HLAY.out (by repeat (first | (with_reducible first | exact HB.out | apply qg | apply qd | apply qh | refine ql ?_ qh1.out | refine ql ?_ qzw.out) | exact HB.out))); rintro e w37 ⟨rfl, hb⟩; refine ⟨_, rfl, ?_⟩; have n0_ := qc.mk (qbb (g := qf4) (o := .cells #[.int .i64 a0_0, .int .i64 a0_1, .int .i64 a0_2, .string a0_3, .int .i64 a0_4, .int .i64 a0_5, .string a0_6, .slice A0_7 l0_7.length c0_7, .slice A0_8 l0_8.length c0_8, .slice (some q4f) l0_9.length c0_9] 30 (0, 0)) (by (with_reducible repeat (first | refine qj ?_ _ | refine qm ?_ | refine qi ?_ _)); refine qbp ?_ qho.out _; (with_reducible repeat (first | refine qj ?_ _ | refine qm ?_ | refine qi ?_ _)); refine qbp ?_ qho.out _; (with_reducible repeat (first | refine qj ?_ _ | refine qm ?_ | refine qi ?_ _)); refine qbp ?_ qho.out _; (with_reducible repeat (first | refine qj ?_ _ | refine qm ?_ | refine qi ?_ _)); refine qbp ?_ qho.out _; (with_reducible repeat (first | refine qj ?_ _ | refine qm ?_ | refine qi ?_ _)); exact qfr.out) hb); have n1_ := qc.mk (qbb (g := qm6) (o := .cells #[.int .i64 ((qw l0_9 qgu).f0), .int .i64 ((qw l0_9 qgu).f1), .string ((qw l0_9 qgu).f2), .slice q6y ((qw l0_9 qgu).f3).length q6t] 27 (0, 0)) (by (with_reducible repeat (first | refine qj ?_ _ | refine qm ?_ | refine qi ?_ _)); refine qbr (cs := #[.int .i64 ((qw l0_9 qgu).f0), .int .i64 ((qw l0_9 qgu).f1), .string ((qw l0_9 qgu).f2), .slice none 0 0]) ?_ 3 _ rfl; (with_reducible repeat (first | refine qj ?_ _ | refine qm ?_ | refine qi ?_ _)); refine qbr (cs := #[.int .i64 ((qw l0_9 qgu).f0), .int .i64 ((qw l0_9 qgu).f1), .string (⟨#[]⟩ : ByteArray), .slice none 0 0]) ?_ 2 _ rfl; (with_reducible repeat (first | refine qj ?_ _ | refine qm ?_ | refine qi ?_ _)); refine qbr (cs := #[.int .i64 ((qw l0_9 qgu).f0), .int .i64 0, .string (⟨#[]⟩ : ByteArray), .slice none 0 0]) ?_ 1 _ rfl; (with_reducible repeat (first | refine qj ?_ _ | refine qm ?_ | refine qi ?_ _)); refine qbr (cs := #[.int .i64 0, .int .i64 0, .string (⟨#[]⟩ : ByteArray), .slice none 0 0]) ?_ 0 _ rfl; (with_reducible repeat (first | refine qj ?_ _ | refine qm ?_ | refine qi ?_ _)); exact qkd.out) hb); have n2_ := qc.mk (q9 (by repeat (first | (with_reducible first | exact HB.out | apply qg | apply qd | apply qh | refine ql ?_ qh1.out | refine ql ?_ qzw.out) | exact HB.out)) hb); clear qfr; clear qkd; clear HB; have qfr := n0_; have qkd := n1_; have HB := n2_; clear n0_ n1_ n2_; (try clear hb); (try clear hb2); (try clear hk); (try clear hi)))
         go_roundg k2
         case measure => have := HJ2.out; have := HK2.out; omega
         case rel => exact ⟨(wrap64 (qgu + 1)), (by first | rfl | (simp; done) | (simp [*]; done)), H', ⟨by have := HJ2.out; have := HK2.out; omega⟩, ⟨by (with_reducible repeat (first | refine qj ?_ _ | refine qm ?_ | refine qi ?_ _)); exact qfr.out⟩, ⟨by repeat (first | (with_reducible first | exact HB.out | apply qg | apply qd | apply qh | refine ql ?_ qh1.out | refine ql ?_ qzw.out) | exact HB.out)⟩⟩
        ·replace c33 := Bool.eq_false_iff.mpr c33
         subst c33
         have H1 : (some false) = some r := by rw [if_neg (show ¬ (false = true) by decide)] at H; exact H
         clear H
         have H := H1
         clear H1
         obtain rfl := Option.some.inj H
         have p167 : 0 ≤ (qgu : Int) := of_decide_eq_true (by first | (with_reducible assumption) | assumption)
         have q167 : qgu < (l0_9.length : Int) := of_decide_eq_true (by first | (with_reducible assumption) | assumption)
         obtain ⟨q4f, q6y, q6t, e167, qqp, qtw, qta, qpu, qx0, qxj⟩ := qd6 qql.out qgu p167 q167
         cases e167
         replace qqp := (HB.out.cell (World.block_lt_of_cell? w _ qqp)).trans qqp
         replace qtw := (HB.out.cell (World.block_lt_of_cell? w _ qtw)).trans qtw
         replace qta := (HB.out.cell (World.block_lt_of_cell? w _ qta)).trans qta
         replace qpu := (HB.out.cell (World.block_lt_of_cell? w _ qpu)).trans qpu
         have qbcs := qc.mk qxj
         have q8m := qc.mk qx0
         clear qxj qx0
         replace p167 := eq_true p167
         replace q167 := eq_true q167
         go_wp2_with (first | ((with_reducible refine qb0 (N := 7) rfl ?_); (try (refine qcc (by rfl) ?_; dsimp only)); refine qby ?hg (N := 7) ?hd (cs := #[.int .i64 0, .int .i64 0, .string (⟨#[]⟩ : ByteArray), .slice none 0 0]) (t := 27) ?hr ?_; (case hd => rfl); (case hg => rfl); (case hr => first | (go_simp; done) | (go_simp; rfl)); intro qm6 hg w38 hbox hb; have n0_ := qc.mk (qbb (g := qf4) (o := .cells #[.int .i64 a0_0, .int .i64 a0_1, .int .i64 a0_2, .string a0_3, .int .i64 a0_4, .int .i64 a0_5, .string a0_6, .slice A0_7 l0_7.length c0_7, .slice A0_8 l0_8.length c0_8, .slice (some q4f) l0_9.length c0_9] 30 (0, 0)) (by (with_reducible repeat (first | refine qj ?_ _ | refine qm ?_ | refine qi ?_ _)); exact qfr.out) hb); have n1_ := qc.mk (q9 (by repeat (first | (with_reducible first | exact HB.out | apply qg | apply qd | apply qh | refine ql ?_ qh1.out) | exact HB.out)) hb); have n2_ := qc.mk (hbox); have n3_ := qc.mk ((by rw [hg]; exact (qba (by repeat (first | (with_reducible first | exact HB.out | apply qg | apply qd | apply qh | refine ql ?_ qh1.out) | exact HB.out))) : w.heap.size ≤ qm6)); have n4_ := qc.mk ((by rw [hg]; exact (qba (by repeat (first | (with_reducible first | exact HB.out | apply qg | apply qd | apply qh | refine ql ?_ qh1.out) | exact HB.out))) : w.heap.size ≤ qm6)); have n5_ := qc.mk ((by rw [hg]; exact Nat.ne_of_lt (qb4 (g := qf4) (o := .cells #[.int .i64 a0_0, .int .i64 a0_1, .int .i64 a0_2, .string a0_3, .int .i64 a0_4, .int .i64 a0_5, .string a0_6, .slice A0_7 l0_7.length c0_7, .slice A0_8 l0_8.length c0_8, .slice (some q4f) l0_9.length c0_9] 30 (0, 0)) (by (with_reducible repeat (first | refine qj ?_ _ | refine qm ?_ | refine qi ?_ _)); exact qfr.out)) : qf4 ≠ qm6)); have n6_ := qc.mk ((by rw [hg]; exact Nat.ne_of_gt (qb4 (g := qf4) (o := .cells #[.int .i64 a0_0, .int .i64 a0_1, .int .i64 a0_2, .string a0_3, .int .i64 a0_4, .int .i64 a0_5, .string a0_6, .slice A0_7 l0_7.length c0_7, .slice A0_8 l0_8.length c0_8, .slice (some q4f) l0_9.length c0_9] 30 (0, 0)) (by (with_reducible repeat (first | refine qj ?_ _ | refine qm ?_ | refine qi ?_ _)); exact qfr.out)) : qm6 ≠ qf4)); clear qfr; clear HB; have qfr := n0_; have HB := n1_; have qkd := n2_; have qbu4 := n3_; have qzw := n4_; have qho := n5_; have qw3 := n6_; clear n0_ n1_ n2_ n3_ n4_ n5_ n6_; clear hb hbox hg; have qbyp := qw3.out; have qbx4 := qho.out; have qt8 : w38.cell? ⟨qm6, 0, none⟩ = some (.int .i64 0) := (qb qkd.out 0).trans rfl; have qvr : w38.cell? ⟨qm6, 1, none⟩ = some (.int .i64 0) := (qb qkd.out 1).trans rfl; have quv : w38.cell? ⟨qm6, 2, none⟩ = some (.string (⟨#[]⟩ : ByteArray)) := (qb qkd.out 2).trans rfl; have qu6 : w38.cell? ⟨qm6, 3, none⟩ = some (.slice none 0 0) := (qb qkd.out 3).trans rfl; have qvm := qa qkd.out 0; have qvj := qa qkd.out 1; have quu := qa qkd.out 2; have quh := qa qkd.out 3) | ((with_reducible refine qb5 (f := 83) rfl ?_); refine qcj (some 48) rfl rfl Tryd.func83 (by kernel_rfl) rfl #[.agg #[.int .i64 ((qw l0_9 qgu).f0), .int .i64 ((qw l0_9 qgu).f1), .string ((qw l0_9 qgu).f2), .slice q6y ((qw l0_9 qgu).f3).length q6t]] rfl (by (try simp only [List.map_toArray, List.map_cons, List.map_nil]); first | done | rfl | (simp only [List.length_drop, List.length_take]; rfl)) ?_; (with_reducible refine (qce.calls k2 ((qw l0_9 qgu).f0) ((qw l0_9 qgu).f1) ((qw l0_9 qgu).f2) _ _ ((qw l0_9 qgu).f3) false _ ?side1 ?side2 ?side3 A32.out).mono ?_); (case side1 => exact Kd.qbw qbcs.out (by repeat (first | (with_reducible first | exact HB.out | apply qg | apply qd | apply qh | refine ql ?_ qh1.out | refine ql ?_ qzw.out) | exact HB.out))); (case side2 => exact q8m.out); (case side3 => exact Lay.below HLAY.out (by repeat (first | (with_reducible first | exact HB.out | apply qg | apply qd | apply qh | refine ql ?_ qh1.out | refine ql ?_ qzw.out) | exact HB.out))); rintro e w41 ⟨rfl, hb⟩; refine ⟨_, rfl, ?_⟩; have n0_ := qc.mk (qbb (g := qf4) (o := .cells #[.int .i64 a0_0, .int .i64 a0_1, .int .i64 a0_2, .string a0_3, .int .i64 a0_4, .int .i64 a0_5, .string a0_6, .slice A0_7 l0_7.length c0_7, .slice A0_8 l0_8.length c0_8, .slice (some q4f) l0_9.length c0_9] 30 (0, 0)) (by (with_reducible repeat (first | refine qj ?_ _ | refine qm ?_ | refine qi ?_ _)); refine qbp ?_ qho.out _; (with_reducible repeat (first | refine qj ?_ _ | refine qm ?_ | refine qi ?_ _)); refine qbp ?_ qho.out _; (with_reducible repeat (first | refine qj ?_ _ | refine qm ?_ | refine qi ?_ _)); refine qbp ?_ qho.out _; (with_reducible repeat (first | refine qj ?_ _ | refine qm ?_ | refine qi ?_ _)); refine qbp ?_ qho.out _; (with_reducible repeat (first | refine qj ?_ _ | refine qm ?_ | refine qi ?_ _)); exact qfr.out) hb); have n1_ := qc.mk (qbb (g := qm6) (o := .cells #[.int .i64 ((qw l0_9 qgu).f0), .int .i64 ((qw l0_9 qgu).f1), .string ((qw l0_9 qgu).f2), .slice q6y ((qw l0_9 qgu).f3).length q6t] 27 (0, 0)) (by (with_reducible repeat (first | refine qj ?_ _ | refine qm ?_ | refine qi ?_ _)); refine qbr (cs := #[.int .i64 ((qw l0_9 qgu).f0), .int .i64 ((qw l0_9 qgu).f1), .string ((qw l0_9 qgu).f2), .slice none 0 0]) ?_ 3 _ rfl; (with_reducible repeat (first | refine qj ?_ _ | refine qm ?_ | refine qi ?_ _)); refine qbr (cs := #[.int .i64 ((qw l0_9 qgu).f0), .int .i64 ((qw l0_9 qgu).f1), .string (⟨#[]⟩ : ByteArray), .slice none 0 0]) ?_ 2 _ rfl; (with_reducible repeat (first | refine qj ?_ _ | refine qm ?_ | refine qi ?_ _)); refine qbr (cs := #[.int .i64 ((qw l0_9 qgu).f0), .int .i64 0, .string (⟨#[]⟩ : ByteArray), .slice none 0 0]) ?_ 1 _ rfl; (with_reducible repeat (first | refine qj ?_ _ | refine qm ?_ | refine qi ?_ _)); refine qbr (cs := #[.int .i64 0, .int .i64 0, .string (⟨#[]⟩ : ByteArray), .slice none 0 0]) ?_ 0 _ rfl; (with_reducible repeat (first | refine qj ?_ _ | refine qm ?_ | refine qi ?_ _)); exact qkd.out) hb); have n2_ := qc.mk (q9 (by repeat (first | (with_reducible first | exact HB.out | apply qg | apply qd | apply qh | refine ql ?_ qh1.out | refine ql ?_ qzw.out) | exact HB.out)) hb); clear qfr; clear qkd; clear HB; have qfr := n0_; have qkd := n1_; have HB := n2_; clear n0_ n1_ n2_; (try clear hb); (try clear hb2); (try clear hk); (try clear hi)))
         go_ret
         exact ⟨by first | rfl | (simp [qx, qy] <;> rfl) | (simp [*, qx, qy] <;> rfl), by repeat (first | (with_reducible first | exact HB.out | apply qg | apply qd | apply qh | refine ql ?_ qh1.out | refine ql ?_ qzw.out) | exact HB.out)⟩
       ·rw [if_neg c31] at H
        exact absurd H (by simp)
      ·rw [if_neg c30] at H
       exact absurd H (by simp)
     ·rw [if_neg c29] at H
      have c29b0 : decide (qgu < (l0_9.length : Int)) = false := decide_eq_false c29
      clear c29
      by_cases c42 : x3_2 = true
      ·subst c42
       have H1 : (if x4_2 = true then (some ((l0_9.length : Int) == x5_2)) else (some false)) = some r := by rw [if_pos rfl] at H; exact H
       clear H
       have H := H1
       clear H1
       by_cases c43 : x4_2 = true
       ·subst c43
        have H1 : (some ((l0_9.length : Int) == x5_2)) = some r := by rw [if_pos rfl] at H; exact H
        clear H
        have H := H1
        clear H1
        obtain rfl := Option.some.inj H
        have qrn : wr.cell? ⟨qf4, 0, none⟩ = some (.int .i64 a0_0) := (qb qfr.out 0).trans rfl
        have qsj : wr.cell? ⟨qf4, 1, none⟩ = some (.int .i64 a0_1) := (qb qfr.out 1).trans rfl
        have qsu : wr.cell? ⟨qf4, 2, none⟩ = some (.int .i64 a0_2) := (qb qfr.out 2).trans rfl
        have qty : wr.cell? ⟨qf4, 3, none⟩ = some (.string a0_3) := (qb qfr.out 3).trans rfl
        have q2j : wr.cell? ⟨qf4, 4, none⟩ = some (.int .i64 a0_4) := (qb qfr.out 4).trans rfl
        have q6j : wr.cell? ⟨qf4, 5, none⟩ = some (.int .i64 a0_5) := (qb qfr.out 5).trans rfl
        have q53 : wr.cell? ⟨qf4, 6, none⟩ = some (.string a0_6) := (qb qfr.out 6).trans rfl
        have q1f : wr.cell? ⟨qf4, 7, none⟩ = some (.slice A0_7 l0_7.length c0_7) := (qb qfr.out 7).trans rfl
        have q4t : wr.cell? ⟨qf4, 8, none⟩ = some (.slice A0_8 l0_8.length c0_8) := (qb qfr.out 8).trans rfl
        have q0t : wr.cell? ⟨qf4, 9, none⟩ = some (.slice A0_9 l0_9.length c0_9) := (qb qfr.out 9).trans rfl
        have qk4 := qa qfr.out 0
        have qlc := qa qfr.out 1
        have qlb := qa qfr.out 2
        have qkv := qa qfr.out 3
        have qnr := qa qfr.out 4
        have qoz := qa qfr.out 5
        have qn0 := qa qfr.out 6
        have qo0 := qa qfr.out 7
        have qoo := qa qfr.out 8
        have qnt := qa qfr.out 9
        go_wp2
        go_ret
        exact ⟨by first | rfl | (simp [qx, qy] <;> rfl) | (simp [*, qx, qy] <;> rfl), by repeat (first | (with_reducible first | exact HB.out | apply qg | apply qd | apply qh | refine ql ?_ qh1.out) | exact HB.out)⟩
       ·replace c43 := Bool.eq_false_iff.mpr c43
        subst c43
        have H1 : (some false) = some r := by rw [if_neg (show ¬ (false = true) by decide)] at H; exact H
        clear H
        have H := H1
        clear H1
        obtain rfl := Option.some.inj H
        go_wp2
        go_ret
        exact ⟨by first | rfl | (simp [qx, qy] <;> rfl) | (simp [*, qx, qy] <;> rfl), by repeat (first | (with_reducible first | exact HB.out | apply qg | apply qd | apply qh | refine ql ?_ qh1.out) | exact HB.out)⟩
      ·replace c42 := Bool.eq_false_iff.mpr c42
       subst c42
       have H1 : (some false) = some r := by rw [if_neg (show ¬ (false = true) by decide)] at H; exact H
       clear H
       have H := H1
       clear H1
       obtain rfl := Option.some.inj H
       go_wp2
       go_ret
       exact ⟨by first | rfl | (simp [qx, qy] <;> rfl) | (simp [*, qx, qy] <;> rfl), by repeat (first | (with_reducible first | exact HB.out | apply qg | apply qd | apply qh | refine ql ?_ qh1.out) | exact HB.out)⟩
end Go.Proofs.YtpgkhmdfddejfaaDoor.PV
end
