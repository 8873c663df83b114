import Derived.Test.YtpgkhmdfddejfaaDoorZXPVx0
import Derived.Test.YtpgkhmdfddejfaaDoorZXPVx4
section
namespace Go.Proofs.YtpgkhmdfddejfaaDoor.PV
open Go.RowKit Go.Proofs.YtpgkhmdfddejfaaDoorW.PrintWords Go.Proofs.YtpgkhmdfddejfaaDoorW.PrintLast Go.Proofs.YtpgkhmdfddejfaaDoorW.PrintMore
attribute [local go_sem] qcn qcp qdi qdj qb6 qb7 qco qcq   -- for this text's walks alone
set_option linter.unusedVariables false
set_option linter.unusedSimpArgs false
mutual
def ze.j0 : Nat → Int → Bool → Int → Int → ByteArray → List (S27) → Option (Bool)
 | 0, _, _, _, _, _, _ => none
 | k + 1, x1, x35, qeu, qf0, qf1, qgy => if x35 = true then (some false) else (if qeu = 0 then (ze.j2 k x1 qeu qf0 qf1 qgy 0 (mx qf0 (-9223372036854775807)) (⟨#[]⟩ : ByteArray)) else (if qeu = 1 then (ze.j2 k x1 qeu qf0 qf1 qgy 0 (Go.bits .and .i64 qf0 1) (⟨#[]⟩ : ByteArray)) else (if qeu = 2 then (ze.j1 k x1 (qeu == 2) qeu qf0 qf1 qgy 0 0 (⟨#[]⟩ : ByteArray)) else (ze.j1 k x1 (qeu == 3) qeu qf0 qf1 qgy 0 0 (⟨#[]⟩ : ByteArray)))))
def ze.j2 : Nat → Int → Int → Int → ByteArray → List (S27) → Int → Int → ByteArray → Option (Bool)
 | 0, _, _, _, _, _, _, _, _ => none
 | k + 1, x1, qeu, qf0, qf1, qgy, zgf, q6q, zgg => if q6q = qf0 then (ze.j3 k x1 (zgg.toList != qf1.toList) qeu qf0 qf1 qgy) else (ze.j3 k x1 true qeu qf0 qf1 qgy)
def ze.j3 : Nat → Int → Bool → Int → Int → ByteArray → List (S27) → Option (Bool)
 | 0, _, _, _, _, _, _ => none
 | k + 1, x1, x72, qeu, qf0, qf1, qgy => if x72 = true then (some false) else (ze.l0 k x1 qgy (qgy.length : Int) 0)
def ze.l0 : Nat → Int → List (S27) → Int → Int → Option (Bool)
 | 0, _, _, _, _ => none
 | k + 1, x1, x74, x75, x76 => if x76 < x75 then (if 0 ≤ x76 then (if x76 < (x74.length : Int) then ((ze.f k ((zf x74 x76).f0) ((zf x74 x76).f1) ((zf x74 x76).f2) ((zf x74 x76).f3) (wrap64 (x1 - 1))).bind fun t157 => (if t157 = true then (ze.l0 k x1 x74 x75 (wrap64 (x76 + 1))) else (some false))) else (none)) else (none)) else (some true)
def ze.j1 : Nat → Int → Bool → Int → Int → ByteArray → List (S27) → Int → Int → ByteArray → Option (Bool)
 | 0, _, _, _, _, _, _, _, _, _ => none
 | k + 1, x1, x51, qeu, qf0, qf1, qgy, zgf, q6q, zgg => if x51 = true then ((qaj.f k qf1).bind fun t154 => (if t154 = true then (ze.j2 k x1 qeu qf0 qf1 qgy zgf q6q qf1) else (some false))) else (ze.j2 k x1 qeu qf0 qf1 qgy zgf q6q zgg)
def ze.f : Nat → Int → Int → ByteArray → List (S27) → Int → Option (Bool)
 | 0, _, _, _, _, _ => none
 | k + 1, qw, qy, za, zm, a1 => (qd3.f).bind fun qod => (if a1 = 0 then (ze.j0 k a1 true qw qy za zm) else (if qw < 0 then (ze.j0 k a1 true qw qy za zm) else (if qw ≥ (qod.length : Int) then (ze.j0 k a1 true qw qy za zm) else (if 0 ≤ qw then (if qw < (qod.length : Int) then (ze.j0 k a1 ((zm.length : Int) != ((qs0 qod qw).f0)) qw qy za zm) else (none)) else (none)))))
end
theorem ze.qb2 : ∀ k, (∀ y0 y1 y2 y3 y4, LeO (ze.f k y0 y1 y2 y3 y4) (ze.f (k + 1) y0 y1 y2 y3 y4)) ∧ (∀ y0 y1 y2 y3 y4 y5, LeO (ze.j0 k y0 y1 y2 y3 y4 y5) (ze.j0 (k + 1) y0 y1 y2 y3 y4 y5)) ∧ (∀ y0 y1 y2 y3 y4 y5 y6 y7, LeO (ze.j2 k y0 y1 y2 y3 y4 y5 y6 y7) (ze.j2 (k + 1) y0 y1 y2 y3 y4 y5 y6 y7)) ∧ (∀ y0 y1 y2 y3 y4 y5, LeO (ze.j3 k y0 y1 y2 y3 y4 y5) (ze.j3 (k + 1) y0 y1 y2 y3 y4 y5)) ∧ (∀ y0 y1 y2 y3, LeO (ze.l0 k y0 y1 y2 y3) (ze.l0 (k + 1) y0 y1 y2 y3)) ∧ (∀ y0 y1 y2 y3 y4 y5 y6 y7 y8, LeO (ze.j1 k y0 y1 y2 y3 y4 y5 y6 y7 y8) (ze.j1 (k + 1) y0 y1 y2 y3 y4 y5 y6 y7 y8))
 | 0 => ⟨fun _ _ _ _ _ r h => by simp [ze.f] at h, fun _ _ _ _ _ _ r h => by simp [ze.j0] at h, fun _ _ _ _ _ _ _ _ r h => by simp [ze.j2] at h, fun _ _ _ _ _ _ r h => by simp [ze.j3] at h, fun _ _ _ _ r h => by simp [ze.l0] at h, fun _ _ _ _ _ _ _ _ _ r h => by simp [ze.j1] at h⟩
 | k + 1 => by
  obtain ⟨ih0, ih1, ih2, ih3, ih4, ih5⟩ := ze.qb2 k
  refine ⟨?_, ?_, ?_, ?_, ?_, ?_⟩
  ·intro y0 y1 y2 y3 y4
   unfold ze.f
   repeat' first
   | (with_reducible exact ih0 _ _ _ _ _)
   | (with_reducible exact ih1 _ _ _ _ _ _)
   | (with_reducible exact ih2 _ _ _ _ _ _ _ _)
   | (with_reducible exact ih3 _ _ _ _ _ _)
   | (with_reducible exact ih4 _ _ _ _)
   | (with_reducible exact ih5 _ _ _ _ _ _ _ _ _)
   | (with_reducible exact qaj.mono _ _)
   | (with_reducible exact LeO.refl _)
   | (with_reducible exact LeO.none _)
   | (with_reducible refine LeO.ite ?_ ?_)
   | (with_reducible refine LeO.bind ?_ (fun _ => ?_))
   | exact ih0 _ _ _ _ _
   | exact ih1 _ _ _ _ _ _
   | exact ih2 _ _ _ _ _ _ _ _
   | exact ih3 _ _ _ _ _ _
   | exact ih4 _ _ _ _
   | exact ih5 _ _ _ _ _ _ _ _ _
   | exact qaj.mono _ _
   | exact LeO.none _
   | refine LeO.ite ?_ ?_
   | refine LeO.bind ?_ (fun _ => ?_)
  ·intro y0 y1 y2 y3 y4 y5
   unfold ze.j0
   repeat' first
   | (with_reducible exact ih0 _ _ _ _ _)
   | (with_reducible exact ih1 _ _ _ _ _ _)
   | (with_reducible exact ih2 _ _ _ _ _ _ _ _)
   | (with_reducible exact ih3 _ _ _ _ _ _)
   | (with_reducible exact ih4 _ _ _ _)
   | (with_reducible exact ih5 _ _ _ _ _ _ _ _ _)
   | (with_reducible exact qaj.mono _ _)
   | (with_reducible exact LeO.refl _)
   | (with_reducible exact LeO.none _)
   | (with_reducible refine LeO.ite ?_ ?_)
   | (with_reducible refine LeO.bind ?_ (fun _ => ?_))
   | exact ih0 _ _ _ _ _
   | exact ih1 _ _ _ _ _ _
   | exact ih2 _ _ _ _ _ _ _ _
   | exact ih3 _ _ _ _ _ _
   | exact ih4 _ _ _ _
   | exact ih5 _ _ _ _ _ _ _ _ _
   | exact qaj.mono _ _
   | exact LeO.none _
   | refine LeO.ite ?_ ?_
   | refine LeO.bind ?_ (fun _ => ?_)
  ·intro y0 y1 y2 y3 y4 y5 y6 y7
   unfold ze.j2
   repeat' first
   | (with_reducible exact ih0 _ _ _ _ _)
   | (with_reducible exact ih1 _ _ _ _ _ _)
   | (with_reducible exact ih2 _ _ _ _ _ _ _ _)
   | (with_reducible exact ih3 _ _ _ _ _ _)
   | (with_reducible exact ih4 _ _ _ _)
   | (with_reducible exact ih5 _ _ _ _ _ _ _ _ _)
   | (with_reducible exact qaj.mono _ _)
   | (with_reducible exact LeO.refl _)
   | (with_reducible exact LeO.none _)
   | (with_reducible refine LeO.ite ?_ ?_)
   | (with_reducible refine LeO.bind ?_ (fun _ => ?_))
   | exact ih0 _ _ _ _ _
   | exact ih1 _ _ _ _ _ _
   | exact ih2 _ _ _ _ _ _ _ _
   | exact ih3 _ _ _ _ _ _
   | exact ih4 _ _ _ _
   | exact ih5 _ _ _ _ _ _ _ _ _
   | exact qaj.mono _ _
   | exact LeO.none _
   | refine LeO.ite ?_ ?_
   | refine LeO.bind ?_ (fun _ => ?_)
  ·intro y0 y1 y2 y3 y4 y5
   unfold ze.j3
   repeat' first
   | (with_reducible exact ih0 _ _ _ _ _)
   | (with_reducible exact ih1 _ _ _ _ _ _)
   | (with_reducible exact ih2 _ _ _ _ _ _ _ _)
   | (with_reducible exact ih3 _ _ _ _ _ _)
   | (with_reducible exact ih4 _ _ _ _)
   | (with_reducible exact ih5 _ _ _ _ _ _ _ _ _)
   | (with_reducible exact qaj.mono _ _)
   | (with_reducible exact LeO.refl _)
   | (with_reducible exact LeO.none _)
   | (with_reducible refine LeO.ite ?_ ?_)
   | (with_reducible refine LeO.bind ?_ (fun _ => ?_))
   | exact ih0 _ _ _ _ _
   | exact ih1 _ _ _ _ _ _
   | exact ih2 _ _ _ _ _ _ _ _
   | exact ih3 _ _ _ _ _ _
   | exact ih4 _ _ _ _
   | exact ih5 _ _ _ _ _ _ _ _ _
   | exact qaj.mono _ _
   | exact LeO.none _
   | refine LeO.ite ?_ ?_
   | refine LeO.bind ?_ (fun _ => ?_)
  ·intro y0 y1 y2 y3
   unfold ze.l0
   repeat' first
   | (with_reducible exact ih0 _ _ _ _ _)
   | (with_reducible exact ih1 _ _ _ _ _ _)
   | (with_reducible exact ih2 _ _ _ _ _ _ _ _)
   | (with_reducible exact ih3 _ _ _ _ _ _)
   | (with_reducible exact ih4 _ _ _ _)
   | (with_reducible exact ih5 _ _ _ _ _ _ _ _ _)
   | (with_reducible exact qaj.mono _ _)
   | (with_reducible exact LeO.refl _)
   | (with_reducible exact LeO.none _)
   | (with_reducible refine LeO.ite ?_ ?_)
   | (with_reducible refine LeO.bind ?_ (fun _ => ?_))
   | exact ih0 _ _ _ _ _
   | exact ih1 _ _ _ _ _ _
   | exact ih2 _ _ _ _ _ _ _ _
   | exact ih3 _ _ _ _ _ _
   | exact ih4 _ _ _ _
   | exact ih5 _ _ _ _ _ _ _ _ _
   | exact qaj.mono _ _
   | exact LeO.none _
   | refine LeO.ite ?_ ?_
   | refine LeO.bind ?_ (fun _ => ?_)
  ·intro y0 y1 y2 y3 y4 y5 y6 y7 y8
   unfold ze.j1
   repeat' first
   | (with_reducible exact ih0 _ _ _ _ _)
   | (with_reducible exact ih1 _ _ _ _ _ _)
   | (with_reducible exact ih2 _ _ _ _ _ _ _ _)
   | (with_reducible exact ih3 _ _ _ _ _ _)
   | (with_reducible exact ih4 _ _ _ _)
   | (with_reducible exact ih5 _ _ _ _ _ _ _ _ _)
   | (with_reducible exact qaj.mono _ _)
   | (with_reducible exact LeO.refl _)
   | (with_reducible exact LeO.none _)
   | (with_reducible refine LeO.ite ?_ ?_)
   | (with_reducible refine LeO.bind ?_ (fun _ => ?_))
   | exact ih0 _ _ _ _ _
   | exact ih1 _ _ _ _ _ _
   | exact ih2 _ _ _ _ _ _ _ _
   | exact ih3 _ _ _ _ _ _
   | exact ih4 _ _ _ _
   | exact ih5 _ _ _ _ _ _ _ _ _
   | exact qaj.mono _ _
   | exact LeO.none _
   | refine LeO.ite ?_ ?_
   | refine LeO.bind ?_ (fun _ => ?_)
theorem ze.mono : ∀ a0 a1 a2 a3 a4 k, LeO (ze.f k a0 a1 a2 a3 a4) (ze.f (k + 1) a0 a1 a2 a3 a4) := by
 intro a0 a1 a2 a3 a4 k
 obtain ⟨ih0, ih1, ih2, ih3, ih4, ih5⟩ := ze.qb2 k
 exact ih0 a0 a1 a2 a3 a4
set_option maxHeartbeats 8000000 in
set_option maxRecDepth 100000 in
theorem ze.calls (k : Nat) : ∀ (qw : Int) (qy : Int) (za : ByteArray) (jy : Option Addr) (jm : Nat) (zm : List (S27)) (a1 : Int) (r : Bool) (w : World) (qdg : Kd.C k27 w jy zm.length zm) (qdf : zm.length ≤ jm) (hG : Lay w) (h : ze.f k qw qy za zm a1 = some r),
  Calls Tryd.prog 88 #[.agg #[.int .i64 qw, .int .i64 qy, .string za, .slice jy zm.length jm], .int .i64 a1] w fun e w' => e = .returned (.bool r) ∧ Below w.heap.size w w' := by
 induction k using Nat.strongRecOn with
 | _ k ih =>
 intro qw qy za jy jm zm a1 r w qdg qdf hG h
 cases k with
 | zero => exact absurd h (by simp [ze.f])
 | succ k =>
 simp only [ze.f] at h
 have q0h := Tryd.underlying27
 have qlb := qf.mk qdg
 have qs3 := qf.mk qdf
 clear qdg qdf
 have HB := qf.mk (Below.refl w.heap.size w)
 have HLAY := qf.mk hG
 clear hG
 have H : ((qd3.f).bind fun qod => (if a1 = 0 then (ze.j0 k a1 true qw qy za zm) else (if qw < 0 then (ze.j0 k a1 true qw qy za zm) else (if qw ≥ (qod.length : Int) then (ze.j0 k a1 true qw qy za zm) else (if 0 ≤ qw then (if qw < (qod.length : Int) then (ze.j0 k a1 ((zm.length : Int) != ((qs0 qod qw).f0)) qw qy za zm) else (none)) else (none)))))) = some r := h
 clear h
 replace H := Option.bind_eq_some_iff.mp H
 obtain ⟨qod, A30, H⟩ := H
 replace H : (if a1 = 0 then (ze.j0 k a1 true qw qy za zm) else (if qw < 0 then (ze.j0 k a1 true qw qy za zm) else (if qw ≥ (qod.length : Int) then (ze.j0 k a1 true qw qy za zm) else (if 0 ≤ qw then (if qw < (qod.length : Int) then (ze.j0 k a1 ((zm.length : Int) != ((qs0 qod qw).f0)) qw qy za zm) else (none)) else (none))))) = some r := H
 have A3 := qf.mk A30
 clear A30
 have HC4 := qf.mk H
 clear H
 go_enter Tryd.func88, Tryd.ntmps88
 go_upto_region 2 with (first | ((with_reducible refine qah (N := 2) rfl ?_); (try (refine qbg (by rfl) ?_; dsimp only)); refine vk ?hg (N := 2) ?hd (cs := #[.int .i64 qw, .int .i64 qy, .string za, .slice jy zm.length jm]) (t := 27) ?hr ?_; (case hd => rfl); (case hg => rfl); (case hr => first | (go_simp; done) | (go_simp; rfl)); intro jv hg w5 hbox hb; have n0_ := qf.mk (zk (by repeat (first | (with_reducible first | exact HB.out | apply qg | apply qc | apply qh) | exact HB.out)) hb); have n1_ := qf.mk (hbox); have n2_ := qf.mk ((by rw [hg]; exact (zo (by repeat (first | (with_reducible first | exact HB.out | apply qg | apply qc | apply qh) | exact HB.out))) : w.heap.size ≤ jv)); have n3_ := qf.mk ((by rw [hg]; exact (zo (by repeat (first | (with_reducible first | exact HB.out | apply qg | apply qc | apply qh) | exact HB.out))) : w.heap.size ≤ jv)); clear HB; have HB := n0_; have yn := n1_; have zuh := n2_; have qa1 := n3_; clear n0_ n1_ n2_ n3_; clear hb hbox hg) | (go_at_call 93; (with_reducible refine (qd3.calls  qod _ A3.out).mono ?_); rintro e w6 ⟨zyq, rfl, ho0, hb⟩; have n0_ := qf.mk (Kd.qh1 ho0 (zo (by repeat (first | (with_reducible first | exact HB.out | apply qg | apply qc | apply qh | refine ql ?_ qa1.out) | exact HB.out)))); have n1_ := qf.mk (zl (g := jv) (o := .cells #[.int .i64 qw, .int .i64 qy, .string za, .slice jy zm.length jm] 27 (0, 0)) (by (with_reducible repeat (first | refine qj ?_ _ | refine qo ?_ | refine qi ?_ _)); exact yn.out) hb); have n2_ := qf.mk (zk (by repeat (first | (with_reducible first | exact HB.out | apply qg | apply qc | apply qh | refine ql ?_ qa1.out) | exact HB.out)) hb); clear yn; clear HB; have zg1 := n0_; have yn := n1_; have HB := n2_; clear n0_ n1_ n2_; (try clear hb); (try clear hb2); (try clear hk); (try clear hi); (try clear ho0)))
 repeat (go_quiet (first | ((with_reducible refine qah (N := 2) rfl ?_); (try (refine qbg (by rfl) ?_; dsimp only)); refine vk ?hg (N := 2) ?hd (cs := #[.int .i64 qw, .int .i64 qy, .string za, .slice jy zm.length jm]) (t := 27) ?hr ?_; (case hd => rfl); (case hg => rfl); (case hr => first | (go_simp; done) | (go_simp; rfl)); intro jv hg w5 hbox hb; have n0_ := qf.mk (zk (by repeat (first | (with_reducible first | exact HB.out | apply qg | apply qc | apply qh) | exact HB.out)) hb); have n1_ := qf.mk (hbox); have n2_ := qf.mk ((by rw [hg]; exact (zo (by repeat (first | (with_reducible first | exact HB.out | apply qg | apply qc | apply qh) | exact HB.out))) : w.heap.size ≤ jv)); have n3_ := qf.mk ((by rw [hg]; exact (zo (by repeat (first | (with_reducible first | exact HB.out | apply qg | apply qc | apply qh) | exact HB.out))) : w.heap.size ≤ jv)); clear HB; have HB := n0_; have yn := n1_; have zuh := n2_; have qa1 := n3_; clear n0_ n1_ n2_ n3_; clear hb hbox hg) | (go_at_call 93; (with_reducible refine (qd3.calls  qod _ A3.out).mono ?_); rintro e w6 ⟨zyq, rfl, ho0, hb⟩; have n0_ := qf.mk (Kd.qh1 ho0 (zo (by repeat (first | (with_reducible first | exact HB.out | apply qg | apply qc | apply qh | refine ql ?_ qa1.out) | exact HB.out)))); have n1_ := qf.mk (zl (g := jv) (o := .cells #[.int .i64 qw, .int .i64 qy, .string za, .slice jy zm.length jm] 27 (0, 0)) (by (with_reducible repeat (first | refine qj ?_ _ | refine qo ?_ | refine qi ?_ _)); exact yn.out) hb); have n2_ := qf.mk (zk (by repeat (first | (with_reducible first | exact HB.out | apply qg | apply qc | apply qh | refine ql ?_ qa1.out) | exact HB.out)) hb); clear yn; clear HB; have zg1 := n0_; have yn := n1_; have HB := n2_; clear n0_ n1_ n2_; (try clear hb); (try clear hb2); (try clear hk); (try clear hi); (try clear ho0))); go_upto_region 2 with (first | ((with_reducible refine qah (N := 2) rfl ?_); (try (refine qbg (by rfl) ?_; dsimp only)); refine vk ?hg (N := 2) ?hd (cs := #[.int .i64 qw, .int .i64 qy, .string za, .slice jy zm.length jm]) (t := 27) ?hr ?_; (case hd => rfl); (case hg => rfl); (case hr => first | (go_simp; done) | (go_simp; rfl)); intro jv hg w5 hbox hb; have n0_ := qf.mk (zk (by repeat (first | (with_reducible first | exact HB.out | apply qg | apply qc | apply qh) | exact HB.out)) hb); have n1_ := qf.mk (hbox); have n2_ := qf.mk ((by rw [hg]; exact (zo (by repeat (first | (with_reducible first | exact HB.out | apply qg | apply qc | apply qh) | exact HB.out))) : w.heap.size ≤ jv)); have n3_ := qf.mk ((by rw [hg]; exact (zo (by repeat (first | (with_reducible first | exact HB.out | apply qg | apply qc | apply qh) | exact HB.out))) : w.heap.size ≤ jv)); clear HB; have HB := n0_; have yn := n1_; have zuh := n2_; have qa1 := n3_; clear n0_ n1_ n2_ n3_; clear hb hbox hg) | (go_at_call 93; (with_reducible refine (qd3.calls  qod _ A3.out).mono ?_); rintro e w6 ⟨zyq, rfl, ho0, hb⟩; have n0_ := qf.mk (Kd.qh1 ho0 (zo (by repeat (first | (with_reducible first | exact HB.out | apply qg | apply qc | apply qh | refine ql ?_ qa1.out) | exact HB.out)))); have n1_ := qf.mk (zl (g := jv) (o := .cells #[.int .i64 qw, .int .i64 qy, .string za, .slice jy zm.length jm] 27 (0, 0)) (by (with_reducible repeat (first | refine qj ?_ _ | refine qo ?_ | refine qi ?_ _)); exact yn.out) hb); have n2_ := qf.mk (zk (by repeat (first | (with_reducible first | exact HB.out | apply qg | apply qc | apply qh | refine ql ?_ qa1.out) | exact HB.out)) hb); clear yn; clear HB; have zg1 := n0_; have yn := n1_; have HB := n2_; clear n0_ n1_ n2_; (try clear hb); (try clear hb2); (try clear hk); (try clear hi); (try clear ho0))))
 (try simp only [Act.put, List.setIfInBounds_toArray, List.set_cons_zero, List.set_cons_succ])
 go_cut [35] (fun v35 wc => ∃ (kq : Nat) (zn6 : Bool), v35 = .bool zn6 ∧ qf (ze.j0 kq a1 zn6 qw qy za zm = some r) ∧ qf (kq ≤ k) ∧ qf (wc.heap[jv]? = some (.cells #[.int .i64 qw, .int .i64 qy, .string za, (.slice jy zm.length jm)] 27 (0, 0))) ∧ qf (Below w.heap.size w wc))
 case first =>
  have H := HC4.out
  clear HC4
  by_cases c7 : a1 = 0
  ·rw [if_pos c7] at H
   have c7b0 : (a1 == 0) = true := beq_iff_eq.mpr c7
   have c7b1 : (a1 != 0) = false := bne_eq_false_iff_eq.mpr c7
   clear c7
   (first | rw [c7b0] | (simp only [vz, vw]; rw [c7b0]) | skip)
   have H' := qf.mk H
   clear H
   go_wp2
   repeat (go_quiet (fail); try go_wp2)
   go_meet
   case rel => exact ⟨_, (true), (by first | rfl | (simp; done) | (simp [*]; done)), H', ⟨by first | omega | exact Nat.le_refl _⟩, ⟨by (with_reducible repeat (first | refine qj ?_ _ | refine qo ?_ | refine qi ?_ _)); exact yn.out⟩, ⟨by repeat (first | (with_reducible first | exact HB.out | apply qg | apply qc | apply qh | refine ql ?_ qa1.out) | exact HB.out)⟩⟩
  ·rw [if_neg c7] at H
   have c7b0 : (a1 == 0) = false := beq_eq_false_iff_ne.mpr c7
   have c7b1 : (a1 != 0) = true := bne_iff_ne.mpr c7
   (first | rw [c7b0] | (simp only [vz, vw]; rw [c7b0]) | skip)
   by_cases c8 : qw < 0
   ·rw [if_pos c8] at H
    have c8b0 : decide (qw < 0) = true := decide_eq_true c8
    clear c8
    have H' := qf.mk H
    clear H
    have qd5 : w6.cell? ⟨jv, 0, none⟩ = some (.int .i64 qw) := (qb yn.out 0).trans rfl
    have qd6 : w6.cell? ⟨jv, 1, none⟩ = some (.int .i64 qy) := (qb yn.out 1).trans rfl
    have qd7 : w6.cell? ⟨jv, 2, none⟩ = some (.string za) := (qb yn.out 2).trans rfl
    have qd8 : w6.cell? ⟨jv, 3, none⟩ = some (.slice jy zm.length jm) := (qb yn.out 3).trans rfl
    have qc0 := qa yn.out 0
    have qc7 := qa yn.out 1
    have qc8 := qa yn.out 2
    have qc9 := qa yn.out 3
    go_wp2
    repeat (go_quiet (fail); try go_wp2)
    go_meet
    case rel => exact ⟨_, (true), (by first | rfl | (simp; done) | (simp [*]; done)), H', ⟨by first | omega | exact Nat.le_refl _⟩, ⟨by (with_reducible repeat (first | refine qj ?_ _ | refine qo ?_ | refine qi ?_ _)); exact yn.out⟩, ⟨by repeat (first | (with_reducible first | exact HB.out | apply qg | apply qc | apply qh | refine ql ?_ qa1.out) | exact HB.out)⟩⟩
   ·rw [if_neg c8] at H
    have c8b0 : decide (qw < 0) = false := decide_eq_false c8
    clear c8
    by_cases c10 : qw ≥ (qod.length : Int)
    ·rw [if_pos c10] at H
     have c10b0 : decide ((qod.length : Int) ≤ qw) = true := decide_eq_true c10
     clear c10
     have H' := qf.mk H
     clear H
     have qfr : w6.cell? ⟨jv, 0, none⟩ = some (.int .i64 qw) := (qb yn.out 0).trans rfl
     have qfs : w6.cell? ⟨jv, 1, none⟩ = some (.int .i64 qy) := (qb yn.out 1).trans rfl
     have qft : w6.cell? ⟨jv, 2, none⟩ = some (.string za) := (qb yn.out 2).trans rfl
     have qfu : w6.cell? ⟨jv, 3, none⟩ = some (.slice jy zm.length jm) := (qb yn.out 3).trans rfl
     have qfv := qa yn.out 0
     have qfw := qa yn.out 1
     have qfx := qa yn.out 2
     have qfy := qa yn.out 3
     obtain ⟨z3u, z3w, z04⟩ := Kd.qeb zg1.out
     subst z04
     go_wp2
     repeat (go_quiet (fail); try go_wp2)
     go_meet
     case rel => exact ⟨_, (true), (by first | rfl | (simp; done) | (simp [*]; done)), H', ⟨by first | omega | exact Nat.le_refl _⟩, ⟨by (with_reducible repeat (first | refine qj ?_ _ | refine qo ?_ | refine qi ?_ _)); exact yn.out⟩, ⟨by repeat (first | (with_reducible first | exact HB.out | apply qg | apply qc | apply qh | refine ql ?_ qa1.out) | exact HB.out)⟩⟩
    ·rw [if_neg c10] at H
     have c10b0 : decide ((qod.length : Int) ≤ qw) = false := decide_eq_false c10
     clear c10
     by_cases c13 : 0 ≤ qw
     ·rw [if_pos c13] at H
      have c13b0 : decide (0 ≤ qw) = true := decide_eq_true c13
      clear c13
      by_cases c14 : qw < (qod.length : Int)
      ·rw [if_pos c14] at H
       have c14b0 : decide (qw < (qod.length : Int)) = true := decide_eq_true c14
       clear c14
       have H' := qf.mk H
       clear H
       have qei : w6.cell? ⟨jv, 0, none⟩ = some (.int .i64 qw) := (qb yn.out 0).trans rfl
       have qej : w6.cell? ⟨jv, 1, none⟩ = some (.int .i64 qy) := (qb yn.out 1).trans rfl
       have qek : w6.cell? ⟨jv, 2, none⟩ = some (.string za) := (qb yn.out 2).trans rfl
       have qel : w6.cell? ⟨jv, 3, none⟩ = some (.slice jy zm.length jm) := (qb yn.out 3).trans rfl
       have qcr := qa yn.out 0
       have qcs := qa yn.out 1
       have qct := qa yn.out 2
       have qcu := qa yn.out 3
       obtain ⟨z3v, z3x, z05⟩ := Kd.qeb zg1.out
       subst z05
       have zh2 : 0 ≤ (qw : Int) := of_decide_eq_true (by first | (with_reducible assumption) | assumption)
       have zh4 : qw < (qod.length : Int) := of_decide_eq_true (by first | (with_reducible assumption) | assumption)
       obtain ⟨z2k, e152, qzn, qzo⟩ := at_T145 (Kd.qfe zg1.out).2.2 qw zh2 zh4
       cases e152
       replace zh2 := eq_true zh2
       replace zh4 := eq_true zh4
       go_wp2
       repeat (go_quiet (fail); try go_wp2)
       go_meet
       case rel => exact ⟨_, (((zm.length : Int) != ((qs0 qod qw).f0))), (by first | rfl | (simp; done) | (simp [*]; done)), H', ⟨by first | omega | exact Nat.le_refl _⟩, ⟨by (with_reducible repeat (first | refine qj ?_ _ | refine qo ?_ | refine qi ?_ _)); exact yn.out⟩, ⟨by repeat (first | (with_reducible first | exact HB.out | apply qg | apply qc | apply qh | refine ql ?_ qa1.out) | exact HB.out)⟩⟩
      ·rw [if_neg c14] at H
       exact absurd H (by simp)
     ·rw [if_neg c13] at H
      exact absurd H (by simp)
 case rest =>
  clear HC4
  (try clear c1); (try clear p1); (try clear q1); (try clear hx1); (try clear p2); (try clear c7); (try clear c7b0); (try clear c7b1); (try clear c8); (try clear c8b0); (try clear c10); (try clear c10b0); (try clear c13); (try clear c13b0); (try clear c14); (try clear c14b0); (try clear p15); (try clear q15); (try clear zt1); (try clear qfr qfs qft qfu); (try clear qei qej qek qel); (try clear qd5 qd6 qd7 qd8); (try clear qfv qfw qfx qfy); (try clear qcr qcs qct qcu); (try clear qc0 qc7 qc8 qc9); (try clear qzn); (try clear qzo); (try clear zh2); (try clear zh4)
  obtain ⟨kq, zn6, rfl, HA, HJ3, yn, HB⟩ := hcut
  cases kq with
  | zero => exact absurd HA.out (by simp [ze.j0])
  | succ kj3 =>
   have H := HA.out
   clear HA
   simp only [ze.j0] at H
   by_cases c17 : zn6 = true
   ·subst c17
    have H1 : (some false) = some r := by rw [if_pos rfl] at H; exact H
    clear H
    have H := H1
    clear H1
    obtain rfl := Option.some.inj H
    go_wp2
    repeat (go_quiet (fail); try go_wp2)
    go_ret
    exact ⟨by first | rfl | (simp [zg, zh] <;> rfl) | (simp [*, zg, zh] <;> rfl), by repeat (first | (with_reducible first | exact HB.out | apply qg | apply qc | apply qh | refine ql ?_ qa1.out) | exact HB.out)⟩
   ·replace c17 := Bool.eq_false_iff.mpr c17
    subst c17
    have H1 : (if qw = 0 then (ze.j2 kj3 a1 qw qy za zm 0 (mx qy (-9223372036854775807)) (⟨#[]⟩ : ByteArray)) else (if qw = 1 then (ze.j2 kj3 a1 qw qy za zm 0 (Go.bits .and .i64 qy 1) (⟨#[]⟩ : ByteArray)) else (if qw = 2 then (ze.j1 kj3 a1 (qw == 2) qw qy za zm 0 0 (⟨#[]⟩ : ByteArray)) else (ze.j1 kj3 a1 (qw == 3) qw qy za zm 0 0 (⟨#[]⟩ : ByteArray))))) = some r := by rw [if_neg (show ¬ (false = true) by decide)] at H; exact H
    clear H
    have H := H1
    clear H1
    have zij := qf.mk H
    clear H
    go_upto_block 0 with (first | ((with_reducible refine qah (N := 6) rfl ?_); (try (refine qbg (by rfl) ?_; dsimp only)); refine vk ?hg (N := 6) ?hd (cs := #[.int .i64 0, .int .i64 0, .string (⟨#[]⟩ : ByteArray), .slice none 0 0]) (t := 27) ?hr ?_; (case hd => rfl); (case hg => rfl); (case hr => first | (go_simp; done) | (go_simp; rfl)); intro qal hg w19 hbox hb; have n0_ := qf.mk (zl (g := jv) (o := .cells #[.int .i64 qw, .int .i64 qy, .string za, .slice jy zm.length jm] 27 (0, 0)) (by (with_reducible repeat (first | refine qj ?_ _ | refine qo ?_ | refine qi ?_ _)); exact yn.out) hb); have n1_ := qf.mk (zk (by repeat (first | (with_reducible first | exact HB.out | apply qg | apply qc | apply qh | refine ql ?_ qa1.out) | exact HB.out)) hb); have n2_ := qf.mk (hbox); have n3_ := qf.mk ((by rw [hg]; exact (zo (by repeat (first | (with_reducible first | exact HB.out | apply qg | apply qc | apply qh | refine ql ?_ qa1.out) | exact HB.out))) : w.heap.size ≤ qal)); have n4_ := qf.mk ((by rw [hg]; exact (zo (by repeat (first | (with_reducible first | exact HB.out | apply qg | apply qc | apply qh | refine ql ?_ qa1.out) | exact HB.out))) : w.heap.size ≤ qal)); have n5_ := qf.mk ((by rw [hg]; exact Nat.ne_of_lt (qax (g := jv) (o := .cells #[.int .i64 qw, .int .i64 qy, .string za, .slice jy zm.length jm] 27 (0, 0)) (by (with_reducible repeat (first | refine qj ?_ _ | refine qo ?_ | refine qi ?_ _)); exact yn.out)) : jv ≠ qal)); have n6_ := qf.mk ((by rw [hg]; exact Nat.ne_of_gt (qax (g := jv) (o := .cells #[.int .i64 qw, .int .i64 qy, .string za, .slice jy zm.length jm] 27 (0, 0)) (by (with_reducible repeat (first | refine qj ?_ _ | refine qo ?_ | refine qi ?_ _)); exact yn.out)) : qal ≠ jv)); clear yn; clear HB; have yn := n0_; have HB := n1_; have ji := n2_; have zui := n3_; have qbp := n4_; have qbf := n5_; have qee := n6_; clear n0_ n1_ n2_ n3_ n4_ n5_ n6_; clear hb hbox hg; have zrv := qee.out; have zrw := qbf.out; have qju : w19.cell? ⟨qal, 0, none⟩ = some (.int .i64 0) := (qb ji.out 0).trans rfl; have qjv : w19.cell? ⟨qal, 1, none⟩ = some (.int .i64 0) := (qb ji.out 1).trans rfl; have qjw : w19.cell? ⟨qal, 2, none⟩ = some (.string (⟨#[]⟩ : ByteArray)) := (qb ji.out 2).trans rfl; have qjx : w19.cell? ⟨qal, 3, none⟩ = some (.slice none 0 0) := (qb ji.out 3).trans rfl; have qj2 := qa ji.out 0; have qj3 := qa ji.out 1; have qj4 := qa ji.out 2; have qj5 := qa ji.out 3; have qmj : w19.cell? ⟨jv, 0, none⟩ = some (.int .i64 qw) := (qb yn.out 0).trans rfl; have qmk : w19.cell? ⟨jv, 1, none⟩ = some (.int .i64 qy) := (qb yn.out 1).trans rfl; have qml : w19.cell? ⟨jv, 2, none⟩ = some (.string za) := (qb yn.out 2).trans rfl; have qmm : w19.cell? ⟨jv, 3, none⟩ = some (.slice jy zm.length jm) := (qb yn.out 3).trans rfl; have qmw := qa yn.out 0; have qmx := qa yn.out 1; have qmy := qa yn.out 2; have qmz := qa yn.out 3))
    repeat (go_quiet (first | ((with_reducible refine qah (N := 6) rfl ?_); (try (refine qbg (by rfl) ?_; dsimp only)); refine vk ?hg (N := 6) ?hd (cs := #[.int .i64 0, .int .i64 0, .string (⟨#[]⟩ : ByteArray), .slice none 0 0]) (t := 27) ?hr ?_; (case hd => rfl); (case hg => rfl); (case hr => first | (go_simp; done) | (go_simp; rfl)); intro qal hg w19 hbox hb; have n0_ := qf.mk (zl (g := jv) (o := .cells #[.int .i64 qw, .int .i64 qy, .string za, .slice jy zm.length jm] 27 (0, 0)) (by (with_reducible repeat (first | refine qj ?_ _ | refine qo ?_ | refine qi ?_ _)); exact yn.out) hb); have n1_ := qf.mk (zk (by repeat (first | (with_reducible first | exact HB.out | apply qg | apply qc | apply qh | refine ql ?_ qa1.out) | exact HB.out)) hb); have n2_ := qf.mk (hbox); have n3_ := qf.mk ((by rw [hg]; exact (zo (by repeat (first | (with_reducible first | exact HB.out | apply qg | apply qc | apply qh | refine ql ?_ qa1.out) | exact HB.out))) : w.heap.size ≤ qal)); have n4_ := qf.mk ((by rw [hg]; exact (zo (by repeat (first | (with_reducible first | exact HB.out | apply qg | apply qc | apply qh | refine ql ?_ qa1.out) | exact HB.out))) : w.heap.size ≤ qal)); have n5_ := qf.mk ((by rw [hg]; exact Nat.ne_of_lt (qax (g := jv) (o := .cells #[.int .i64 qw, .int .i64 qy, .string za, .slice jy zm.length jm] 27 (0, 0)) (by (with_reducible repeat (first | refine qj ?_ _ | refine qo ?_ | refine qi ?_ _)); exact yn.out)) : jv ≠ qal)); have n6_ := qf.mk ((by rw [hg]; exact Nat.ne_of_gt (qax (g := jv) (o := .cells #[.int .i64 qw, .int .i64 qy, .string za, .slice jy zm.length jm] 27 (0, 0)) (by (with_reducible repeat (first | refine qj ?_ _ | refine qo ?_ | refine qi ?_ _)); exact yn.out)) : qal ≠ jv)); clear yn; clear HB; have yn := n0_; have HB := n1_; have ji := n2_; have zui := n3_; have qbp := n4_; have qbf := n5_; have qee := n6_; clear n0_ n1_ n2_ n3_ n4_ n5_ n6_; clear hb hbox hg; have zrv := qee.out; have zrw := qbf.out; have qju : w19.cell? ⟨qal, 0, none⟩ = some (.int .i64 0) := (qb ji.out 0).trans rfl; have qjv : w19.cell? ⟨qal, 1, none⟩ = some (.int .i64 0) := (qb ji.out 1).trans rfl; have qjw : w19.cell? ⟨qal, 2, none⟩ = some (.string (⟨#[]⟩ : ByteArray)) := (qb ji.out 2).trans rfl; have qjx : w19.cell? ⟨qal, 3, none⟩ = some (.slice none 0 0) := (qb ji.out 3).trans rfl; have qj2 := qa ji.out 0; have qj3 := qa ji.out 1; have qj4 := qa ji.out 2; have qj5 := qa ji.out 3; have qmj : w19.cell? ⟨jv, 0, none⟩ = some (.int .i64 qw) := (qb yn.out 0).trans rfl; have qmk : w19.cell? ⟨jv, 1, none⟩ = some (.int .i64 qy) := (qb yn.out 1).trans rfl; have qml : w19.cell? ⟨jv, 2, none⟩ = some (.string za) := (qb yn.out 2).trans rfl; have qmm : w19.cell? ⟨jv, 3, none⟩ = some (.slice jy zm.length jm) := (qb yn.out 3).trans rfl; have qmw := qa yn.out 0; have qmx := qa yn.out 1; have qmy := qa yn.out 2; have qmz := qa yn.out 3)); go_upto_block 0 with (first | ((with_reducible refine qah (N := 6) rfl ?_); (try (refine qbg (by rfl) ?_; dsimp only)); refine vk ?hg (N := 6) ?hd (cs := #[.int .i64 0, .int .i64 0, .string (⟨#[]⟩ : ByteArray), .slice none 0 0]) (t := 27) ?hr ?_; (case hd => rfl); (case hg => rfl); (case hr => first | (go_simp; done) | (go_simp; rfl)); intro qal hg w19 hbox hb; have n0_ := qf.mk (zl (g := jv) (o := .cells #[.int .i64 qw, .int .i64 qy, .string za, .slice jy zm.length jm] 27 (0, 0)) (by (with_reducible repeat (first | refine qj ?_ _ | refine qo ?_ | refine qi ?_ _)); exact yn.out) hb); have n1_ := qf.mk (zk (by repeat (first | (with_reducible first | exact HB.out | apply qg | apply qc | apply qh | refine ql ?_ qa1.out) | exact HB.out)) hb); have n2_ := qf.mk (hbox); have n3_ := qf.mk ((by rw [hg]; exact (zo (by repeat (first | (with_reducible first | exact HB.out | apply qg | apply qc | apply qh | refine ql ?_ qa1.out) | exact HB.out))) : w.heap.size ≤ qal)); have n4_ := qf.mk ((by rw [hg]; exact (zo (by repeat (first | (with_reducible first | exact HB.out | apply qg | apply qc | apply qh | refine ql ?_ qa1.out) | exact HB.out))) : w.heap.size ≤ qal)); have n5_ := qf.mk ((by rw [hg]; exact Nat.ne_of_lt (qax (g := jv) (o := .cells #[.int .i64 qw, .int .i64 qy, .string za, .slice jy zm.length jm] 27 (0, 0)) (by (with_reducible repeat (first | refine qj ?_ _ | refine qo ?_ | refine qi ?_ _)); exact yn.out)) : jv ≠ qal)); have n6_ := qf.mk ((by rw [hg]; exact Nat.ne_of_gt (qax (g := jv) (o := .cells #[.int .i64 qw, .int .i64 qy, .string za, .slice jy zm.length jm] 27 (0, 0)) (by (with_reducible repeat (first | refine qj ?_ _ | refine qo ?_ | refine qi ?_ _)); exact yn.out)) : qal ≠ jv)); clear yn; clear HB; have yn := n0_; have HB := n1_; have ji := n2_; have zui := n3_; have qbp := n4_; have qbf := n5_; have qee := n6_; clear n0_ n1_ n2_ n3_ n4_ n5_ n6_; clear hb hbox hg; have zrv := qee.out; have zrw := qbf.out; have qju : w19.cell? ⟨qal, 0, none⟩ = some (.int .i64 0) := (qb ji.out 0).trans rfl; have qjv : w19.cell? ⟨qal, 1, none⟩ = some (.int .i64 0) := (qb ji.out 1).trans rfl; have qjw : w19.cell? ⟨qal, 2, none⟩ = some (.string (⟨#[]⟩ : ByteArray)) := (qb ji.out 2).trans rfl; have qjx : w19.cell? ⟨qal, 3, none⟩ = some (.slice none 0 0) := (qb ji.out 3).trans rfl; have qj2 := qa ji.out 0; have qj3 := qa ji.out 1; have qj4 := qa ji.out 2; have qj5 := qa ji.out 3; have qmj : w19.cell? ⟨jv, 0, none⟩ = some (.int .i64 qw) := (qb yn.out 0).trans rfl; have qmk : w19.cell? ⟨jv, 1, none⟩ = some (.int .i64 qy) := (qb yn.out 1).trans rfl; have qml : w19.cell? ⟨jv, 2, none⟩ = some (.string za) := (qb yn.out 2).trans rfl; have qmm : w19.cell? ⟨jv, 3, none⟩ = some (.slice jy zm.length jm) := (qb yn.out 3).trans rfl; have qmw := qa yn.out 0; have qmx := qa yn.out 1; have qmy := qa yn.out 2; have qmz := qa yn.out 3)))
    (try simp only [Act.put, List.setIfInBounds_toArray, List.set_cons_zero, List.set_cons_succ])
    go_cut [] (fun wc => ∃ (kq : Nat) (qas : Int) (qay : ByteArray), qf (ze.j2 kq a1 qw qy za zm 0 qas qay = some r) ∧ qf (kq ≤ kj3) ∧ qf (wc.heap[jv]? = some (.cells #[.int .i64 qw, .int .i64 qy, .string za, (.slice jy zm.length jm)] 27 (0, 0))) ∧ qf (wc.heap[qal]? = some (.cells #[.int .i64 0, .int .i64 qas, .string qay, (.slice none 0 0)] 27 (0, 0))) ∧ qf (Below w.heap.size w wc))
    case first =>
     have H := zij.out
     clear zij
     by_cases c23 : qw = 0
     ·rw [if_pos c23] at H
      have c23b0 : (qw == 0) = true := beq_iff_eq.mpr c23
      have c23b1 : (qw != 0) = false := bne_eq_false_iff_eq.mpr c23
      clear c23
      (first | rw [c23b0] | (simp only [vz, vw]; rw [c23b0]) | skip)
      obtain ⟨zwe, zrs⟩ : ∃ j_ : Int, (mx qy (-9223372036854775807)) = j_ := ⟨_, rfl⟩
      replace H : (ze.j2 kj3 a1 qw qy za zm 0 zwe (⟨#[]⟩ : ByteArray)) = some r := by first | (rw [zrs] at H; exact H) | (simp only [zrs] at H ⊢; exact H)
      have hji24_ : (if qy < (-9223372036854775807) then (-9223372036854775807) else qy) = zwe := zrs
      have H' := qf.mk H
      clear H
      have zym := qbf.out
      have zyn := qee.out
      have qt0 : w19.cell? ⟨jv, 0, none⟩ = some (.int .i64 qw) := (qb yn.out 0).trans rfl
      have qt1 : w19.cell? ⟨jv, 1, none⟩ = some (.int .i64 qy) := (qb yn.out 1).trans rfl
      have qt2 : w19.cell? ⟨jv, 2, none⟩ = some (.string za) := (qb yn.out 2).trans rfl
      have qt3 : w19.cell? ⟨jv, 3, none⟩ = some (.slice jy zm.length jm) := (qb yn.out 3).trans rfl
      have qux := qa yn.out 0
      have quy := qa yn.out 1
      have quz := qa yn.out 2
      have qu0 := qa yn.out 3
      have qmn : w19.cell? ⟨qal, 0, none⟩ = some (.int .i64 0) := (qb ji.out 0).trans rfl
      have qmo : w19.cell? ⟨qal, 1, none⟩ = some (.int .i64 0) := (qb ji.out 1).trans rfl
      have qmp : w19.cell? ⟨qal, 2, none⟩ = some (.string (⟨#[]⟩ : ByteArray)) := (qb ji.out 2).trans rfl
      have qmq : w19.cell? ⟨qal, 3, none⟩ = some (.slice none 0 0) := (qb ji.out 3).trans rfl
      have qm0 := qa ji.out 0
      have qm1 := qa ji.out 1
      have qm2 := qa ji.out 2
      have qm3 := qa ji.out 3
      go_wp2
      repeat (go_quiet (fail); try go_wp2)
      go_meet
      case rel => exact ⟨_, (zwe), ((⟨#[]⟩ : ByteArray)), H', ⟨by have := HJ3.out; first | omega | exact Nat.le_refl _⟩, ⟨by (with_reducible repeat (first | refine qj ?_ _ | refine qo ?_ | refine qi ?_ _)); refine jb ?_ qbf.out _; (with_reducible repeat (first | refine qj ?_ _ | refine qo ?_ | refine qi ?_ _)); refine jb ?_ qbf.out _; (with_reducible repeat (first | refine qj ?_ _ | refine qo ?_ | refine qi ?_ _)); refine jb ?_ qbf.out _; (with_reducible repeat (first | refine qj ?_ _ | refine qo ?_ | refine qi ?_ _)); refine jb ?_ qbf.out _; (with_reducible repeat (first | refine qj ?_ _ | refine qo ?_ | refine qi ?_ _)); refine jb ?_ qbf.out _; (with_reducible repeat (first | refine qj ?_ _ | refine qo ?_ | refine qi ?_ _)); exact yn.out⟩, ⟨by (with_reducible repeat (first | refine qj ?_ _ | refine qo ?_ | refine qi ?_ _)); refine jc (cs := #[.int .i64 0, .int .i64 0, .string (⟨#[]⟩ : ByteArray), .slice none 0 0]) ?_ 1 _ rfl; (with_reducible repeat (first | refine qj ?_ _ | refine qo ?_ | refine qi ?_ _)); refine jc (cs := #[.int .i64 0, .int .i64 0, .string (⟨#[]⟩ : ByteArray), .slice none 0 0]) ?_ 3 _ rfl; (with_reducible repeat (first | refine qj ?_ _ | refine qo ?_ | refine qi ?_ _)); refine jc (cs := #[.int .i64 0, .int .i64 0, .string (⟨#[]⟩ : ByteArray), .slice none 0 0]) ?_ 2 _ rfl; (with_reducible repeat (first | refine qj ?_ _ | refine qo ?_ | refine qi ?_ _)); refine jc (cs := #[.int .i64 0, .int .i64 0, .string (⟨#[]⟩ : ByteArray), .slice none 0 0]) ?_ 1 _ rfl; (with_reducible repeat (first | refine qj ?_ _ | refine qo ?_ | refine qi ?_ _)); refine jc (cs := #[.int .i64 0, .int .i64 0, .string (⟨#[]⟩ : ByteArray), .slice none 0 0]) ?_ 0 _ rfl; (with_reducible repeat (first | refine qj ?_ _ | refine qo ?_ | refine qi ?_ _)); exact ji.out⟩, ⟨by repeat (first | (with_reducible first | exact HB.out | apply qg | apply qc | apply qh | refine ql ?_ qa1.out | refine ql ?_ qbp.out) | exact HB.out)⟩⟩
     ·rw [if_neg c23] at H
      have c23b0 : (qw == 0) = false := beq_eq_false_iff_ne.mpr c23
      have c23b1 : (qw != 0) = true := bne_iff_ne.mpr c23
      (first | rw [c23b0] | (simp only [vz, vw]; rw [c23b0]) | skip)
      by_cases c28 : qw = 1
      ·rw [if_pos c28] at H
       have c28b0 : (qw == 1) = true := beq_iff_eq.mpr c28
       have c28b1 : (qw != 1) = false := bne_eq_false_iff_eq.mpr c28
       clear c28
       have H' := qf.mk H
       clear H
       have z2x := qbf.out
       have z3j := qee.out
       have q1g : w19.cell? ⟨jv, 0, none⟩ = some (.int .i64 qw) := (qb yn.out 0).trans rfl
       have q1h : w19.cell? ⟨jv, 1, none⟩ = some (.int .i64 qy) := (qb yn.out 1).trans rfl
       have q1i : w19.cell? ⟨jv, 2, none⟩ = some (.string za) := (qb yn.out 2).trans rfl
       have q1j : w19.cell? ⟨jv, 3, none⟩ = some (.slice jy zm.length jm) := (qb yn.out 3).trans rfl
       have q3v := qa yn.out 0
       have q3w := qa yn.out 1
       have q3x := qa yn.out 2
       have q3y := qa yn.out 3
       have qlf : w19.cell? ⟨qal, 0, none⟩ = some (.int .i64 0) := (qb ji.out 0).trans rfl
       have qlg : w19.cell? ⟨qal, 1, none⟩ = some (.int .i64 0) := (qb ji.out 1).trans rfl
       have qlh : w19.cell? ⟨qal, 2, none⟩ = some (.string (⟨#[]⟩ : ByteArray)) := (qb ji.out 2).trans rfl
       have qli : w19.cell? ⟨qal, 3, none⟩ = some (.slice none 0 0) := (qb ji.out 3).trans rfl
       have qln := qa ji.out 0
       have qlo := qa ji.out 1
       have qlp := qa ji.out 2
       have qlq := qa ji.out 3
       go_wp2
       repeat (go_quiet (fail); try go_wp2)
       go_meet
       case rel => exact ⟨_, (Go.bits .and .i64 qy 1), ((⟨#[]⟩ : ByteArray)), H', ⟨by have := HJ3.out; first | omega | exact Nat.le_refl _⟩, ⟨by (with_reducible repeat (first | refine qj ?_ _ | refine qo ?_ | refine qi ?_ _)); refine jb ?_ qbf.out _; (with_reducible repeat (first | refine qj ?_ _ | refine qo ?_ | refine qi ?_ _)); refine jb ?_ qbf.out _; (with_reducible repeat (first | refine qj ?_ _ | refine qo ?_ | refine qi ?_ _)); refine jb ?_ qbf.out _; (with_reducible repeat (first | refine qj ?_ _ | refine qo ?_ | refine qi ?_ _)); refine jb ?_ qbf.out _; (with_reducible repeat (first | refine qj ?_ _ | refine qo ?_ | refine qi ?_ _)); refine jb ?_ qbf.out _; (with_reducible repeat (first | refine qj ?_ _ | refine qo ?_ | refine qi ?_ _)); exact yn.out⟩, ⟨by (with_reducible repeat (first | refine qj ?_ _ | refine qo ?_ | refine qi ?_ _)); refine jc (cs := #[.int .i64 0, .int .i64 0, .string (⟨#[]⟩ : ByteArray), .slice none 0 0]) ?_ 1 _ rfl; (with_reducible repeat (first | refine qj ?_ _ | refine qo ?_ | refine qi ?_ _)); refine jc (cs := #[.int .i64 0, .int .i64 0, .string (⟨#[]⟩ : ByteArray), .slice none 0 0]) ?_ 3 _ rfl; (with_reducible repeat (first | refine qj ?_ _ | refine qo ?_ | refine qi ?_ _)); refine jc (cs := #[.int .i64 0, .int .i64 0, .string (⟨#[]⟩ : ByteArray), .slice none 0 0]) ?_ 2 _ rfl; (with_reducible repeat (first | refine qj ?_ _ | refine qo ?_ | refine qi ?_ _)); refine jc (cs := #[.int .i64 0, .int .i64 0, .string (⟨#[]⟩ : ByteArray), .slice none 0 0]) ?_ 1 _ rfl; (with_reducible repeat (first | refine qj ?_ _ | refine qo ?_ | refine qi ?_ _)); refine jc (cs := #[.int .i64 0, .int .i64 0, .string (⟨#[]⟩ : ByteArray), .slice none 0 0]) ?_ 0 _ rfl; (with_reducible repeat (first | refine qj ?_ _ | refine qo ?_ | refine qi ?_ _)); exact ji.out⟩, ⟨by repeat (first | (with_reducible first | exact HB.out | apply qg | apply qc | apply qh | refine ql ?_ qa1.out | refine ql ?_ qbp.out) | exact HB.out)⟩⟩
      ·rw [if_neg c28] at H
       have c28b0 : (qw == 1) = false := beq_eq_false_iff_ne.mpr c28
       have c28b1 : (qw != 1) = true := bne_iff_ne.mpr c28
       have zu5 := qf.mk H
       clear H
       go_upto_if 51 with (fail)
       repeat (go_quiet (fail); go_upto_if 51 with (fail))
       go_cut [51] (fun v51 wc => ∃ (kq : Nat) (zgr : Bool), v51 = .bool zgr ∧ qf (ze.j1 kq a1 zgr qw qy za zm 0 0 (⟨#[]⟩ : ByteArray) = some r) ∧ qf (kq ≤ kj3) ∧ qf (wc.heap[jv]? = some (.cells #[.int .i64 qw, .int .i64 qy, .string za, (.slice jy zm.length jm)] 27 (0, 0))) ∧ qf (wc.heap[qal]? = some (.cells #[.int .i64 0, .int .i64 0, .string (⟨#[]⟩ : ByteArray), (.slice none 0 0)] 27 (0, 0))) ∧ qf (Below w.heap.size w wc))
       case first =>
        have H := zu5.out
        clear zu5
        by_cases c33 : qw = 2
        ·rw [if_pos c33] at H
         have c33b0 : (qw == 2) = true := beq_iff_eq.mpr c33
         have c33b1 : (qw != 2) = false := bne_eq_false_iff_eq.mpr c33
         clear c33
         (first | rw [c33b0] | (simp only [vz, vw]; rw [c33b0]) | skip)
         have H' := qf.mk H
         clear H
         go_wp2
         repeat (go_quiet (fail); try go_wp2)
         go_meet
         case rel => exact ⟨_, ((qw == 2)), (by first | rfl | (simp; done) | (simp [*]; done)), H', ⟨by have := HJ3.out; first | omega | exact Nat.le_refl _⟩, ⟨by (with_reducible repeat (first | refine qj ?_ _ | refine qo ?_ | refine qi ?_ _)); refine jb ?_ qbf.out _; (with_reducible repeat (first | refine qj ?_ _ | refine qo ?_ | refine qi ?_ _)); refine jb ?_ qbf.out _; (with_reducible repeat (first | refine qj ?_ _ | refine qo ?_ | refine qi ?_ _)); refine jb ?_ qbf.out _; (with_reducible repeat (first | refine qj ?_ _ | refine qo ?_ | refine qi ?_ _)); refine jb ?_ qbf.out _; (with_reducible repeat (first | refine qj ?_ _ | refine qo ?_ | refine qi ?_ _)); exact yn.out⟩, ⟨by (with_reducible repeat (first | refine qj ?_ _ | refine qo ?_ | refine qi ?_ _)); refine jc (cs := #[.int .i64 0, .int .i64 0, .string (⟨#[]⟩ : ByteArray), .slice none 0 0]) ?_ 3 _ rfl; (with_reducible repeat (first | refine qj ?_ _ | refine qo ?_ | refine qi ?_ _)); refine jc (cs := #[.int .i64 0, .int .i64 0, .string (⟨#[]⟩ : ByteArray), .slice none 0 0]) ?_ 2 _ rfl; (with_reducible repeat (first | refine qj ?_ _ | refine qo ?_ | refine qi ?_ _)); refine jc (cs := #[.int .i64 0, .int .i64 0, .string (⟨#[]⟩ : ByteArray), .slice none 0 0]) ?_ 1 _ rfl; (with_reducible repeat (first | refine qj ?_ _ | refine qo ?_ | refine qi ?_ _)); refine jc (cs := #[.int .i64 0, .int .i64 0, .string (⟨#[]⟩ : ByteArray), .slice none 0 0]) ?_ 0 _ rfl; (with_reducible repeat (first | refine qj ?_ _ | refine qo ?_ | refine qi ?_ _)); exact ji.out⟩, ⟨by repeat (first | (with_reducible first | exact HB.out | apply qg | apply qc | apply qh | refine ql ?_ qa1.out | refine ql ?_ qbp.out) | exact HB.out)⟩⟩
        ·rw [if_neg c33] at H
         have c33b0 : (qw == 2) = false := beq_eq_false_iff_ne.mpr c33
         have c33b1 : (qw != 2) = true := bne_iff_ne.mpr c33
         (first | rw [c33b0] | (simp only [vz, vw]; rw [c33b0]) | skip)
         have H' := qf.mk H
         clear H
         go_wp2
         repeat (go_quiet (fail); try go_wp2)
         go_meet
         case rel => exact ⟨_, ((qw == 3)), (by first | rfl | (simp; done) | (simp [*]; done)), H', ⟨by have := HJ3.out; first | omega | exact Nat.le_refl _⟩, ⟨by (with_reducible repeat (first | refine qj ?_ _ | refine qo ?_ | refine qi ?_ _)); refine jb ?_ qbf.out _; (with_reducible repeat (first | refine qj ?_ _ | refine qo ?_ | refine qi ?_ _)); refine jb ?_ qbf.out _; (with_reducible repeat (first | refine qj ?_ _ | refine qo ?_ | refine qi ?_ _)); refine jb ?_ qbf.out _; (with_reducible repeat (first | refine qj ?_ _ | refine qo ?_ | refine qi ?_ _)); refine jb ?_ qbf.out _; (with_reducible repeat (first | refine qj ?_ _ | refine qo ?_ | refine qi ?_ _)); exact yn.out⟩, ⟨by (with_reducible repeat (first | refine qj ?_ _ | refine qo ?_ | refine qi ?_ _)); refine jc (cs := #[.int .i64 0, .int .i64 0, .string (⟨#[]⟩ : ByteArray), .slice none 0 0]) ?_ 3 _ rfl; (with_reducible repeat (first | refine qj ?_ _ | refine qo ?_ | refine qi ?_ _)); refine jc (cs := #[.int .i64 0, .int .i64 0, .string (⟨#[]⟩ : ByteArray), .slice none 0 0]) ?_ 2 _ rfl; (with_reducible repeat (first | refine qj ?_ _ | refine qo ?_ | refine qi ?_ _)); refine jc (cs := #[.int .i64 0, .int .i64 0, .string (⟨#[]⟩ : ByteArray), .slice none 0 0]) ?_ 1 _ rfl; (with_reducible repeat (first | refine qj ?_ _ | refine qo ?_ | refine qi ?_ _)); refine jc (cs := #[.int .i64 0, .int .i64 0, .string (⟨#[]⟩ : ByteArray), .slice none 0 0]) ?_ 0 _ rfl; (with_reducible repeat (first | refine qj ?_ _ | refine qo ?_ | refine qi ?_ _)); exact ji.out⟩, ⟨by repeat (first | (with_reducible first | exact HB.out | apply qg | apply qc | apply qh | refine ql ?_ qa1.out | refine ql ?_ qbp.out) | exact HB.out)⟩⟩
       case rest =>
        clear zu5
        (try clear c1); (try clear p1); (try clear q1); (try clear hx1); (try clear c2); (try clear p2); (try clear c3); (try clear c7); (try clear c7b0); (try clear c7b1); (try clear c8); (try clear c8b0); (try clear c10); (try clear c10b0); (try clear c13); (try clear c13b0); (try clear c14); (try clear c14b0); (try clear p15); (try clear q15); (try clear zt1); (try clear c17); (try clear c20); (try clear c23); (try clear c23b0); (try clear c23b1); (try clear c25); (try clear c28); (try clear c28b0); (try clear c28b1); (try clear c29); (try clear c33); (try clear c33b0); (try clear c33b1); (try clear qfr qfs qft qfu); (try clear qei qej qek qel); (try clear qju qjv qjw qjx); (try clear qmj qmk qml qmm); (try clear qt0 qt1 qt2 qt3); (try clear qmn qmo qmp qmq); (try clear q1g q1h q1i q1j); (try clear qlf qlg qlh qli); (try clear qd5 qd6 qd7 qd8); (try clear qfv qfw qfx qfy); (try clear qcr qcs qct qcu); (try clear qj2 qj3 qj4 qj5); (try clear qmw qmx qmy qmz); (try clear qux quy quz qu0); (try clear qm0 qm1 qm2 qm3); (try clear q3v q3w q3x q3y); (try clear qln qlo qlp qlq); (try clear qc0 qc7 qc8 qc9); (try clear qzn); (try clear qzo); (try clear p1); (try clear p15); (try clear zh2); (try clear p2); (try clear q1); (try clear q15); (try clear zh4)
        obtain ⟨kq, zgr, rfl, HA, zw6, yn, ji, HB⟩ := hcut
        cases kq with
        | zero => exact absurd HA.out (by simp [ze.j1])
        | succ q8h =>
         have H := HA.out
         clear HA
         simp only [ze.j1] at H
         by_cases c34 : zgr = true
         ·subst c34
          have H1 : ((qaj.f q8h za).bind fun t154 => (if t154 = true then (ze.j2 q8h a1 qw qy za zm 0 0 za) else (some false))) = some r := by rw [if_pos rfl] at H; exact H
          clear H
          have H := H1
          clear H1
          replace H := Option.bind_eq_some_iff.mp H
          obtain ⟨t154, zwv, H⟩ := H
          replace H : (if t154 = true then (ze.j2 q8h a1 qw qy za zm 0 0 za) else (some false)) = some r := H
          have A35 := qf.mk zwv
          clear zwv
          by_cases c36 : t154 = true
          ·subst c36
           have H1 : (ze.j2 q8h a1 qw qy za zm 0 0 za) = some r := by rw [if_pos rfl] at H; exact H
           clear H
           have H := H1
           clear H1
           have H' := qf.mk H
           clear H
           have z3b := qbf.out
           have z3n := qee.out
           have za0 : wc.cell? ⟨jv, 0, none⟩ = some (.int .i64 qw) := (qb yn.out 0).trans rfl
           have za1 : wc.cell? ⟨jv, 1, none⟩ = some (.int .i64 qy) := (qb yn.out 1).trans rfl
           have za2 : wc.cell? ⟨jv, 2, none⟩ = some (.string za) := (qb yn.out 2).trans rfl
           have za3 : wc.cell? ⟨jv, 3, none⟩ = some (.slice jy zm.length jm) := (qb yn.out 3).trans rfl
           have zfh := qa yn.out 0
           have zfi := qa yn.out 1
           have zfj := qa yn.out 2
           have zfk := qa yn.out 3
           go_wp2_with (first | (go_at_call 82; (with_reducible refine (qaj.calls q8h za true _ ?side1 A35.out).mono ?_); (case side1 => exact Lay.below HLAY.out (by repeat (first | (with_reducible first | exact HB.out | apply qg | apply qc | apply qh | refine ql ?_ qa1.out | refine ql ?_ qbp.out) | exact HB.out))); rintro e w39 ⟨rfl, hb⟩; have n0_ := qf.mk (zl (g := jv) (o := .cells #[.int .i64 qw, .int .i64 qy, .string za, .slice jy zm.length jm] 27 (0, 0)) (by (with_reducible repeat (first | refine qj ?_ _ | refine qo ?_ | refine qi ?_ _)); exact yn.out) hb); have n1_ := qf.mk (zl (g := qal) (o := .cells #[.int .i64 0, .int .i64 0, .string (⟨#[]⟩ : ByteArray), .slice none 0 0] 27 (0, 0)) (by (with_reducible repeat (first | refine qj ?_ _ | refine qo ?_ | refine qi ?_ _)); exact ji.out) hb); have n2_ := qf.mk (zk (by repeat (first | (with_reducible first | exact HB.out | apply qg | apply qc | apply qh | refine ql ?_ qa1.out | refine ql ?_ qbp.out) | exact HB.out)) hb); clear yn; clear ji; clear HB; have yn := n0_; have ji := n1_; have HB := n2_; clear n0_ n1_ n2_; (try clear hb); (try clear hb2); (try clear hk); (try clear hi); have qt8 : w39.cell? ⟨jv, 0, none⟩ = some (.int .i64 qw) := (qb yn.out 0).trans rfl; have qt9 : w39.cell? ⟨jv, 1, none⟩ = some (.int .i64 qy) := (qb yn.out 1).trans rfl; have qua : w39.cell? ⟨jv, 2, none⟩ = some (.string za) := (qb yn.out 2).trans rfl; have qub : w39.cell? ⟨jv, 3, none⟩ = some (.slice jy zm.length jm) := (qb yn.out 3).trans rfl; have qu1 := qa yn.out 0; have qu2 := qa yn.out 1; have qu3 := qa yn.out 2; have qu4 := qa yn.out 3; have qmr : w39.cell? ⟨qal, 0, none⟩ = some (.int .i64 0) := (qb ji.out 0).trans rfl; have qms : w39.cell? ⟨qal, 1, none⟩ = some (.int .i64 0) := (qb ji.out 1).trans rfl; have qmt : w39.cell? ⟨qal, 2, none⟩ = some (.string (⟨#[]⟩ : ByteArray)) := (qb ji.out 2).trans rfl; have qmu : w39.cell? ⟨qal, 3, none⟩ = some (.slice none 0 0) := (qb ji.out 3).trans rfl; have qnk := qa ji.out 0; have qnl := qa ji.out 1; have qnm := qa ji.out 2; have qnn := qa ji.out 3))
           repeat (go_quiet (first | (go_at_call 82; (with_reducible refine (qaj.calls q8h za true _ ?side1 A35.out).mono ?_); (case side1 => exact Lay.below HLAY.out (by repeat (first | (with_reducible first | exact HB.out | apply qg | apply qc | apply qh | refine ql ?_ qa1.out | refine ql ?_ qbp.out) | exact HB.out))); rintro e w39 ⟨rfl, hb⟩; have n0_ := qf.mk (zl (g := jv) (o := .cells #[.int .i64 qw, .int .i64 qy, .string za, .slice jy zm.length jm] 27 (0, 0)) (by (with_reducible repeat (first | refine qj ?_ _ | refine qo ?_ | refine qi ?_ _)); exact yn.out) hb); have n1_ := qf.mk (zl (g := qal) (o := .cells #[.int .i64 0, .int .i64 0, .string (⟨#[]⟩ : ByteArray), .slice none 0 0] 27 (0, 0)) (by (with_reducible repeat (first | refine qj ?_ _ | refine qo ?_ | refine qi ?_ _)); exact ji.out) hb); have n2_ := qf.mk (zk (by repeat (first | (with_reducible first | exact HB.out | apply qg | apply qc | apply qh | refine ql ?_ qa1.out | refine ql ?_ qbp.out) | exact HB.out)) hb); clear yn; clear ji; clear HB; have yn := n0_; have ji := n1_; have HB := n2_; clear n0_ n1_ n2_; (try clear hb); (try clear hb2); (try clear hk); (try clear hi); have qt8 : w39.cell? ⟨jv, 0, none⟩ = some (.int .i64 qw) := (qb yn.out 0).trans rfl; have qt9 : w39.cell? ⟨jv, 1, none⟩ = some (.int .i64 qy) := (qb yn.out 1).trans rfl; have qua : w39.cell? ⟨jv, 2, none⟩ = some (.string za) := (qb yn.out 2).trans rfl; have qub : w39.cell? ⟨jv, 3, none⟩ = some (.slice jy zm.length jm) := (qb yn.out 3).trans rfl; have qu1 := qa yn.out 0; have qu2 := qa yn.out 1; have qu3 := qa yn.out 2; have qu4 := qa yn.out 3; have qmr : w39.cell? ⟨qal, 0, none⟩ = some (.int .i64 0) := (qb ji.out 0).trans rfl; have qms : w39.cell? ⟨qal, 1, none⟩ = some (.int .i64 0) := (qb ji.out 1).trans rfl; have qmt : w39.cell? ⟨qal, 2, none⟩ = some (.string (⟨#[]⟩ : ByteArray)) := (qb ji.out 2).trans rfl; have qmu : w39.cell? ⟨qal, 3, none⟩ = some (.slice none 0 0) := (qb ji.out 3).trans rfl; have qnk := qa ji.out 0; have qnl := qa ji.out 1; have qnm := qa ji.out 2; have qnn := qa ji.out 3)); try go_wp2_with (first | (go_at_call 82; (with_reducible refine (qaj.calls q8h za true _ ?side1 A35.out).mono ?_); (case side1 => exact Lay.below HLAY.out (by repeat (first | (with_reducible first | exact HB.out | apply qg | apply qc | apply qh | refine ql ?_ qa1.out | refine ql ?_ qbp.out) | exact HB.out))); rintro e w39 ⟨rfl, hb⟩; have n0_ := qf.mk (zl (g := jv) (o := .cells #[.int .i64 qw, .int .i64 qy, .string za, .slice jy zm.length jm] 27 (0, 0)) (by (with_reducible repeat (first | refine qj ?_ _ | refine qo ?_ | refine qi ?_ _)); exact yn.out) hb); have n1_ := qf.mk (zl (g := qal) (o := .cells #[.int .i64 0, .int .i64 0, .string (⟨#[]⟩ : ByteArray), .slice none 0 0] 27 (0, 0)) (by (with_reducible repeat (first | refine qj ?_ _ | refine qo ?_ | refine qi ?_ _)); exact ji.out) hb); have n2_ := qf.mk (zk (by repeat (first | (with_reducible first | exact HB.out | apply qg | apply qc | apply qh | refine ql ?_ qa1.out | refine ql ?_ qbp.out) | exact HB.out)) hb); clear yn; clear ji; clear HB; have yn := n0_; have ji := n1_; have HB := n2_; clear n0_ n1_ n2_; (try clear hb); (try clear hb2); (try clear hk); (try clear hi); have qt8 : w39.cell? ⟨jv, 0, none⟩ = some (.int .i64 qw) := (qb yn.out 0).trans rfl; have qt9 : w39.cell? ⟨jv, 1, none⟩ = some (.int .i64 qy) := (qb yn.out 1).trans rfl; have qua : w39.cell? ⟨jv, 2, none⟩ = some (.string za) := (qb yn.out 2).trans rfl; have qub : w39.cell? ⟨jv, 3, none⟩ = some (.slice jy zm.length jm) := (qb yn.out 3).trans rfl; have qu1 := qa yn.out 0; have qu2 := qa yn.out 1; have qu3 := qa yn.out 2; have qu4 := qa yn.out 3; have qmr : w39.cell? ⟨qal, 0, none⟩ = some (.int .i64 0) := (qb ji.out 0).trans rfl; have qms : w39.cell? ⟨qal, 1, none⟩ = some (.int .i64 0) := (qb ji.out 1).trans rfl; have qmt : w39.cell? ⟨qal, 2, none⟩ = some (.string (⟨#[]⟩ : ByteArray)) := (qb ji.out 2).trans rfl; have qmu : w39.cell? ⟨qal, 3, none⟩ = some (.slice none 0 0) := (qb ji.out 3).trans rfl; have qnk := qa ji.out 0; have qnl := qa ji.out 1; have qnm := qa ji.out 2; have qnn := qa ji.out 3)))
           go_meet
           case rel => exact ⟨_, (0), (za), H', ⟨by have := HJ3.out; have := zw6.out; first | omega | exact Nat.le_refl _⟩, ⟨by (with_reducible repeat (first | refine qj ?_ _ | refine qo ?_ | refine qi ?_ _)); refine jb ?_ qbf.out _; (with_reducible repeat (first | refine qj ?_ _ | refine qo ?_ | refine qi ?_ _)); exact yn.out⟩, ⟨by (with_reducible repeat (first | refine qj ?_ _ | refine qo ?_ | refine qi ?_ _)); refine jc (cs := #[.int .i64 0, .int .i64 0, .string (⟨#[]⟩ : ByteArray), .slice none 0 0]) ?_ 2 _ rfl; (with_reducible repeat (first | refine qj ?_ _ | refine qo ?_ | refine qi ?_ _)); exact ji.out⟩, ⟨by repeat (first | (with_reducible first | exact HB.out | apply qg | apply qc | apply qh | refine ql ?_ qa1.out | refine ql ?_ qbp.out) | exact HB.out)⟩⟩
          ·replace c36 := Bool.eq_false_iff.mpr c36
           subst c36
           have H1 : (some false) = some r := by rw [if_neg (show ¬ (false = true) by decide)] at H; exact H
           clear H
           have H := H1
           clear H1
           obtain rfl := Option.some.inj H
           have z3d := qbf.out
           have z3p := qee.out
           have quc : wc.cell? ⟨jv, 0, none⟩ = some (.int .i64 qw) := (qb yn.out 0).trans rfl
           have qud : wc.cell? ⟨jv, 1, none⟩ = some (.int .i64 qy) := (qb yn.out 1).trans rfl
           have que : wc.cell? ⟨jv, 2, none⟩ = some (.string za) := (qb yn.out 2).trans rfl
           have quf : wc.cell? ⟨jv, 3, none⟩ = some (.slice jy zm.length jm) := (qb yn.out 3).trans rfl
           have qu5 := qa yn.out 0
           have qu6 := qa yn.out 1
           have qu7 := qa yn.out 2
           have qu8 := qa yn.out 3
           go_wp2_with (first | (go_at_call 82; (with_reducible refine (qaj.calls q8h za false _ ?side1 A35.out).mono ?_); (case side1 => exact Lay.below HLAY.out (by repeat (first | (with_reducible first | exact HB.out | apply qg | apply qc | apply qh | refine ql ?_ qa1.out | refine ql ?_ qbp.out) | exact HB.out))); rintro e w44 ⟨rfl, hb⟩; have n0_ := qf.mk (zl (g := jv) (o := .cells #[.int .i64 qw, .int .i64 qy, .string za, .slice jy zm.length jm] 27 (0, 0)) (by (with_reducible repeat (first | refine qj ?_ _ | refine qo ?_ | refine qi ?_ _)); exact yn.out) hb); have n1_ := qf.mk (zl (g := qal) (o := .cells #[.int .i64 0, .int .i64 0, .string (⟨#[]⟩ : ByteArray), .slice none 0 0] 27 (0, 0)) (by (with_reducible repeat (first | refine qj ?_ _ | refine qo ?_ | refine qi ?_ _)); exact ji.out) hb); have n2_ := qf.mk (zk (by repeat (first | (with_reducible first | exact HB.out | apply qg | apply qc | apply qh | refine ql ?_ qa1.out | refine ql ?_ qbp.out) | exact HB.out)) hb); clear yn; clear ji; clear HB; have yn := n0_; have ji := n1_; have HB := n2_; clear n0_ n1_ n2_; (try clear hb); (try clear hb2); (try clear hk); (try clear hi)))
           repeat (go_quiet (first | (go_at_call 82; (with_reducible refine (qaj.calls q8h za false _ ?side1 A35.out).mono ?_); (case side1 => exact Lay.below HLAY.out (by repeat (first | (with_reducible first | exact HB.out | apply qg | apply qc | apply qh | refine ql ?_ qa1.out | refine ql ?_ qbp.out) | exact HB.out))); rintro e w44 ⟨rfl, hb⟩; have n0_ := qf.mk (zl (g := jv) (o := .cells #[.int .i64 qw, .int .i64 qy, .string za, .slice jy zm.length jm] 27 (0, 0)) (by (with_reducible repeat (first | refine qj ?_ _ | refine qo ?_ | refine qi ?_ _)); exact yn.out) hb); have n1_ := qf.mk (zl (g := qal) (o := .cells #[.int .i64 0, .int .i64 0, .string (⟨#[]⟩ : ByteArray), .slice none 0 0] 27 (0, 0)) (by (with_reducible repeat (first | refine qj ?_ _ | refine qo ?_ | refine qi ?_ _)); exact ji.out) hb); have n2_ := qf.mk (zk (by repeat (first | (with_reducible first | exact HB.out | apply qg | apply qc | apply qh | refine ql ?_ qa1.out | refine ql ?_ qbp.out) | exact HB.out)) hb); clear yn; clear ji; clear HB; have yn := n0_; have ji := n1_; have HB := n2_; clear n0_ n1_ n2_; (try clear hb); (try clear hb2); (try clear hk); (try clear hi))); try go_wp2_with (first | (go_at_call 82; (with_reducible refine (qaj.calls q8h za false _ ?side1 A35.out).mono ?_); (case side1 => exact Lay.below HLAY.out (by repeat (first | (with_reducible first | exact HB.out | apply qg | apply qc | apply qh | refine ql ?_ qa1.out | refine ql ?_ qbp.out) | exact HB.out))); rintro e w44 ⟨rfl, hb⟩; have n0_ := qf.mk (zl (g := jv) (o := .cells #[.int .i64 qw, .int .i64 qy, .string za, .slice jy zm.length jm] 27 (0, 0)) (by (with_reducible repeat (first | refine qj ?_ _ | refine qo ?_ | refine qi ?_ _)); exact yn.out) hb); have n1_ := qf.mk (zl (g := qal) (o := .cells #[.int .i64 0, .int .i64 0, .string (⟨#[]⟩ : ByteArray), .slice none 0 0] 27 (0, 0)) (by (with_reducible repeat (first | refine qj ?_ _ | refine qo ?_ | refine qi ?_ _)); exact ji.out) hb); have n2_ := qf.mk (zk (by repeat (first | (with_reducible first | exact HB.out | apply qg | apply qc | apply qh | refine ql ?_ qa1.out | refine ql ?_ qbp.out) | exact HB.out)) hb); clear yn; clear ji; clear HB; have yn := n0_; have ji := n1_; have HB := n2_; clear n0_ n1_ n2_; (try clear hb); (try clear hb2); (try clear hk); (try clear hi))))
           go_ret
           exact ⟨by first | rfl | (simp [zg, zh] <;> rfl) | (simp [*, zg, zh] <;> rfl), by repeat (first | (with_reducible first | exact HB.out | apply qg | apply qc | apply qh | refine ql ?_ qa1.out | refine ql ?_ qbp.out) | exact HB.out)⟩
         ·replace c34 := Bool.eq_false_iff.mpr c34
          subst c34
          have H1 : (ze.j2 q8h a1 qw qy za zm 0 0 (⟨#[]⟩ : ByteArray)) = some r := by rw [if_neg (show ¬ (false = true) by decide)] at H; exact H
          clear H
          have H := H1
          clear H1
          have H' := qf.mk H
          clear H
          go_wp2
          repeat (go_quiet (fail); try go_wp2)
          go_meet
          case rel => exact ⟨_, (0), ((⟨#[]⟩ : ByteArray)), H', ⟨by have := HJ3.out; have := zw6.out; first | omega | exact Nat.le_refl _⟩, ⟨by (with_reducible repeat (first | refine qj ?_ _ | refine qo ?_ | refine qi ?_ _)); exact yn.out⟩, ⟨by (with_reducible repeat (first | refine qj ?_ _ | refine qo ?_ | refine qi ?_ _)); exact ji.out⟩, ⟨by repeat (first | (with_reducible first | exact HB.out | apply qg | apply qc | apply qh | refine ql ?_ qa1.out | refine ql ?_ qbp.out) | exact HB.out)⟩⟩
    case rest =>
     clear zij
     (try clear c1); (try clear p1); (try clear q1); (try clear hx1); (try clear c2); (try clear p2); (try clear c3); (try clear c4); (try clear c7); (try clear c7b0); (try clear c7b1); (try clear c8); (try clear c8b0); (try clear c10); (try clear c10b0); (try clear c13); (try clear c13b0); (try clear c14); (try clear c14b0); (try clear p15); (try clear q15); (try clear zt1); (try clear c17); (try clear c20); (try clear c23); (try clear c23b0); (try clear c23b1); (try clear c25); (try clear c28); (try clear c28b0); (try clear c28b1); (try clear c29); (try clear c33); (try clear c33b0); (try clear c33b1); (try clear c34); (try clear c36); (try clear c37); (try clear c42); (try clear qfr qfs qft qfu); (try clear qei qej qek qel); (try clear qju qjv qjw qjx); (try clear qmj qmk qml qmm); (try clear qt0 qt1 qt2 qt3); (try clear qmn qmo qmp qmq); (try clear q1g q1h q1i q1j); (try clear qlf qlg qlh qli); (try clear za0 za1 za2 za3); (try clear qt8 qt9 qua qub); (try clear qmr qms qmt qmu); (try clear quc qud que quf); (try clear qd5 qd6 qd7 qd8); (try clear qfv qfw qfx qfy); (try clear qcr qcs qct qcu); (try clear qj2 qj3 qj4 qj5); (try clear qmw qmx qmy qmz); (try clear qux quy quz qu0); (try clear qm0 qm1 qm2 qm3); (try clear q3v q3w q3x q3y); (try clear qln qlo qlp qlq); (try clear zfh zfi zfj zfk); (try clear qu1 qu2 qu3 qu4); (try clear qnk qnl qnm qnn); (try clear qu5 qu6 qu7 qu8); (try clear qc0 qc7 qc8 qc9); (try clear qzn); (try clear qzo); (try clear p1); (try clear p15); (try clear zh2); (try clear p2); (try clear q1); (try clear q15); (try clear zh4)
     obtain ⟨kq, qas, qay, HA, qn4, yn, ji, HB⟩ := hcut
     cases kq with
     | zero => exact absurd HA.out (by simp [ze.j2])
     | succ q0i =>
      have H := HA.out
      clear HA
      simp only [ze.j2] at H
      have zu6 := qf.mk H
      clear H
      go_upto_region 15 with (fail)
      repeat (go_quiet (fail); go_upto_region 15 with (fail))
      go_cut [72] (fun v72 wc => ∃ (kq : Nat) (zgs : Bool), v72 = .bool zgs ∧ qf (ze.j3 kq a1 zgs qw qy za zm = some r) ∧ qf (kq ≤ q0i) ∧ qf (wc.heap[jv]? = some (.cells #[.int .i64 qw, .int .i64 qy, .string za, (.slice jy zm.length jm)] 27 (0, 0))) ∧ qf (wc.heap[qal]? = some (.cells #[.int .i64 0, .int .i64 qas, .string qay, (.slice none 0 0)] 27 (0, 0))) ∧ qf (Below w.heap.size w wc))
      case first =>
       have H := zu6.out
       clear zu6
       by_cases c46 : qas = qy
       ·rw [if_pos c46] at H
        have c46b0 : (qas == qy) = true := beq_iff_eq.mpr c46
        have c46b1 : (qas != qy) = false := bne_eq_false_iff_eq.mpr c46
        clear c46
        (first | rw [c46b0] | (simp only [vz, vw]; rw [c46b0]) | skip)
        have H' := qf.mk H
        clear H
        have z3e := qee.out
        have z3q := qbf.out
        have qxm : wc.cell? ⟨qal, 0, none⟩ = some (.int .i64 0) := (qb ji.out 0).trans rfl
        have qxn : wc.cell? ⟨qal, 1, none⟩ = some (.int .i64 qas) := (qb ji.out 1).trans rfl
        have qxo : wc.cell? ⟨qal, 2, none⟩ = some (.string qay) := (qb ji.out 2).trans rfl
        have qxp : wc.cell? ⟨qal, 3, none⟩ = some (.slice none 0 0) := (qb ji.out 3).trans rfl
        have qyj := qa ji.out 0
        have qyk := qa ji.out 1
        have qyl := qa ji.out 2
        have qym := qa ji.out 3
        have quk : wc.cell? ⟨jv, 0, none⟩ = some (.int .i64 qw) := (qb yn.out 0).trans rfl
        have qul : wc.cell? ⟨jv, 1, none⟩ = some (.int .i64 qy) := (qb yn.out 1).trans rfl
        have qum : wc.cell? ⟨jv, 2, none⟩ = some (.string za) := (qb yn.out 2).trans rfl
        have qun : wc.cell? ⟨jv, 3, none⟩ = some (.slice jy zm.length jm) := (qb yn.out 3).trans rfl
        have qke := qa yn.out 0
        have qkf := qa yn.out 1
        have qkg := qa yn.out 2
        have qkh := qa yn.out 3
        go_wp2
        repeat (go_quiet (fail); try go_wp2)
        go_meet
        case rel => exact ⟨_, ((qay.toList != za.toList)), (by first | rfl | (simp; done) | (simp [*]; done)), H', ⟨by have := HJ3.out; have := qn4.out; first | omega | exact Nat.le_refl _⟩, ⟨by (with_reducible repeat (first | refine qj ?_ _ | refine qo ?_ | refine qi ?_ _)); exact yn.out⟩, ⟨by (with_reducible repeat (first | refine qj ?_ _ | refine qo ?_ | refine qi ?_ _)); exact ji.out⟩, ⟨by repeat (first | (with_reducible first | exact HB.out | apply qg | apply qc | apply qh | refine ql ?_ qa1.out | refine ql ?_ qbp.out) | exact HB.out)⟩⟩
       ·rw [if_neg c46] at H
        have c46b0 : (qas == qy) = false := beq_eq_false_iff_ne.mpr c46
        have c46b1 : (qas != qy) = true := bne_iff_ne.mpr c46
        (first | rw [c46b0] | (simp only [vz, vw]; rw [c46b0]) | skip)
        have H' := qf.mk H
        clear H
        have z3f := qee.out
        have z3r := qbf.out
        have qlj : wc.cell? ⟨qal, 0, none⟩ = some (.int .i64 0) := (qb ji.out 0).trans rfl
        have qlk : wc.cell? ⟨qal, 1, none⟩ = some (.int .i64 qas) := (qb ji.out 1).trans rfl
        have qll : wc.cell? ⟨qal, 2, none⟩ = some (.string qay) := (qb ji.out 2).trans rfl
        have qlm : wc.cell? ⟨qal, 3, none⟩ = some (.slice none 0 0) := (qb ji.out 3).trans rfl
        have qgs := qa ji.out 0
        have qgt := qa ji.out 1
        have qgu := qa ji.out 2
        have qgv := qa ji.out 3
        have zk8 : wc.cell? ⟨jv, 0, none⟩ = some (.int .i64 qw) := (qb yn.out 0).trans rfl
        have zk9 : wc.cell? ⟨jv, 1, none⟩ = some (.int .i64 qy) := (qb yn.out 1).trans rfl
        have zla : wc.cell? ⟨jv, 2, none⟩ = some (.string za) := (qb yn.out 2).trans rfl
        have zlb : wc.cell? ⟨jv, 3, none⟩ = some (.slice jy zm.length jm) := (qb yn.out 3).trans rfl
        have znc := qa yn.out 0
        have znd := qa yn.out 1
        have zne := qa yn.out 2
        have znf := qa yn.out 3
        go_wp2
        repeat (go_quiet (fail); try go_wp2)
        go_meet
        case rel => exact ⟨_, (true), (by first | rfl | (simp; done) | (simp [*]; done)), H', ⟨by have := HJ3.out; have := qn4.out; first | omega | exact Nat.le_refl _⟩, ⟨by (with_reducible repeat (first | refine qj ?_ _ | refine qo ?_ | refine qi ?_ _)); exact yn.out⟩, ⟨by (with_reducible repeat (first | refine qj ?_ _ | refine qo ?_ | refine qi ?_ _)); exact ji.out⟩, ⟨by repeat (first | (with_reducible first | exact HB.out | apply qg | apply qc | apply qh | refine ql ?_ qa1.out | refine ql ?_ qbp.out) | exact HB.out)⟩⟩
      case rest =>
       clear zu6
       (try clear c1); (try clear p1); (try clear q1); (try clear hx1); (try clear c2); (try clear p2); (try clear c3); (try clear c4); (try clear c5); (try clear c7); (try clear c7b0); (try clear c7b1); (try clear c8); (try clear c8b0); (try clear c10); (try clear c10b0); (try clear c13); (try clear c13b0); (try clear c14); (try clear c14b0); (try clear p15); (try clear q15); (try clear zt1); (try clear c17); (try clear c20); (try clear c23); (try clear c23b0); (try clear c23b1); (try clear c25); (try clear c28); (try clear c28b0); (try clear c28b1); (try clear c29); (try clear c33); (try clear c33b0); (try clear c33b1); (try clear c34); (try clear c36); (try clear c37); (try clear c42); (try clear c46); (try clear c46b0); (try clear c46b1); (try clear c47); (try clear c50); (try clear qfr qfs qft qfu); (try clear qei qej qek qel); (try clear qju qjv qjw qjx); (try clear qmj qmk qml qmm); (try clear qt0 qt1 qt2 qt3); (try clear qmn qmo qmp qmq); (try clear q1g q1h q1i q1j); (try clear qlf qlg qlh qli); (try clear za0 za1 za2 za3); (try clear qt8 qt9 qua qub); (try clear qmr qms qmt qmu); (try clear quc qud que quf); (try clear qxm qxn qxo qxp); (try clear quk qul qum qun); (try clear qlj qlk qll qlm); (try clear zk8 zk9 zla zlb); (try clear qd5 qd6 qd7 qd8); (try clear qfv qfw qfx qfy); (try clear qcr qcs qct qcu); (try clear qj2 qj3 qj4 qj5); (try clear qmw qmx qmy qmz); (try clear qux quy quz qu0); (try clear qm0 qm1 qm2 qm3); (try clear q3v q3w q3x q3y); (try clear qln qlo qlp qlq); (try clear zfh zfi zfj zfk); (try clear qu1 qu2 qu3 qu4); (try clear qnk qnl qnm qnn); (try clear qu5 qu6 qu7 qu8); (try clear qyj qyk qyl qym); (try clear qke qkf qkg qkh); (try clear qgs qgt qgu qgv); (try clear znc znd zne znf); (try clear qc0 qc7 qc8 qc9); (try clear qzn); (try clear qzo); (try clear p1); (try clear p15); (try clear zh2); (try clear p2); (try clear q1); (try clear q15); (try clear zh4)
       obtain ⟨kq, zgs, rfl, HA, zg0, yn, ji, HB⟩ := hcut
       cases kq with
       | zero => exact absurd HA.out (by simp [ze.j3])
       | succ zwf =>
        have H := HA.out
        clear HA
        simp only [ze.j3] at H
        by_cases c53 : zgs = true
        ·subst c53
         have H1 : (some false) = some r := by rw [if_pos rfl] at H; exact H
         clear H
         have H := H1
         clear H1
         obtain rfl := Option.some.inj H
         go_wp2
         repeat (go_quiet (fail); try go_wp2)
         go_ret
         exact ⟨by first | rfl | (simp [zg, zh] <;> rfl) | (simp [*, zg, zh] <;> rfl), by repeat (first | (with_reducible first | exact HB.out | apply qg | apply qc | apply qh | refine ql ?_ qa1.out | refine ql ?_ qbp.out) | exact HB.out)⟩
        ·replace c53 := Bool.eq_false_iff.mpr c53
         subst c53
         have H1 : (ze.l0 zwf a1 zm (zm.length : Int) 0) = some r := by rw [if_neg (show ¬ (false = true) by decide)] at H; exact H
         clear H
         have H := H1
         clear H1
         have H' := qf.mk H
         clear H
         have z3g := qbf.out
         have z3s := qee.out
         have q19 : wc.cell? ⟨jv, 0, none⟩ = some (.int .i64 qw) := (qb yn.out 0).trans rfl
         have q2a : wc.cell? ⟨jv, 1, none⟩ = some (.int .i64 qy) := (qb yn.out 1).trans rfl
         have q2b : wc.cell? ⟨jv, 2, none⟩ = some (.string za) := (qb yn.out 2).trans rfl
         have q2c : wc.cell? ⟨jv, 3, none⟩ = some (.slice jy zm.length jm) := (qb yn.out 3).trans rfl
         have q30 := qa yn.out 0
         have q31 := qa yn.out 1
         have q33 := qa yn.out 2
         have q34 := qa yn.out 3
         go_wp2
         repeat (go_quiet (fail); try go_wp2)
         go_loopg [76] zwf (fun kq v76 w' => ∃ (qak : Int), v76 = .int .i64 qak ∧ qf (ze.l0 kq a1 zm (zm.length : Int) qak = some r) ∧ qf (kq ≤ zwf) ∧ qf (w'.heap[jv]? = some (.cells #[.int .i64 qw, .int .i64 qy, .string za, (.slice jy zm.length jm)] 27 (0, 0))) ∧ qf (w'.heap[qal]? = some (.cells #[.int .i64 0, .int .i64 qas, .string qay, (.slice none 0 0)] 27 (0, 0))) ∧ qf (Below w.heap.size w w'))
         case atStart => exact ⟨(0), (by first | rfl | (simp; done) | (simp [*]; done)), H', ⟨Nat.le_refl _⟩, ⟨by (with_reducible repeat (first | refine qj ?_ _ | refine qo ?_ | refine qi ?_ _)); exact yn.out⟩, ⟨by (with_reducible repeat (first | refine qj ?_ _ | refine qo ?_ | refine qi ?_ _)); exact ji.out⟩, ⟨by repeat (first | (with_reducible first | exact HB.out | apply qg | apply qc | apply qh | refine ql ?_ qa1.out | refine ql ?_ qbp.out) | exact HB.out)⟩⟩
         case round =>
          clear H'
          (try clear c1); (try clear p1); (try clear q1); (try clear hx1); (try clear c2); (try clear p2); (try clear c3); (try clear c4); (try clear c5); (try clear c7); (try clear c7b0); (try clear c7b1); (try clear c8); (try clear c8b0); (try clear c10); (try clear c10b0); (try clear c13); (try clear c13b0); (try clear c14); (try clear c14b0); (try clear p15); (try clear q15); (try clear zt1); (try clear c17); (try clear c20); (try clear c23); (try clear c23b0); (try clear c23b1); (try clear c25); (try clear c28); (try clear c28b0); (try clear c28b1); (try clear c29); (try clear c33); (try clear c33b0); (try clear c33b1); (try clear c34); (try clear c36); (try clear c37); (try clear c42); (try clear c46); (try clear c46b0); (try clear c46b1); (try clear c47); (try clear c50); (try clear c53); (try clear c54); (try clear qfr qfs qft qfu); (try clear qei qej qek qel); (try clear qju qjv qjw qjx); (try clear qmj qmk qml qmm); (try clear qt0 qt1 qt2 qt3); (try clear qmn qmo qmp qmq); (try clear q1g q1h q1i q1j); (try clear qlf qlg qlh qli); (try clear za0 za1 za2 za3); (try clear qt8 qt9 qua qub); (try clear qmr qms qmt qmu); (try clear quc qud que quf); (try clear qxm qxn qxo qxp); (try clear quk qul qum qun); (try clear qlj qlk qll qlm); (try clear zk8 zk9 zla zlb); (try clear q19 q2a q2b q2c); (try clear qd5 qd6 qd7 qd8); (try clear qfv qfw qfx qfy); (try clear qcr qcs qct qcu); (try clear qj2 qj3 qj4 qj5); (try clear qmw qmx qmy qmz); (try clear qux quy quz qu0); (try clear qm0 qm1 qm2 qm3); (try clear q3v q3w q3x q3y); (try clear qln qlo qlp qlq); (try clear zfh zfi zfj zfk); (try clear qu1 qu2 qu3 qu4); (try clear qnk qnl qnm qnn); (try clear qu5 qu6 qu7 qu8); (try clear qyj qyk qyl qym); (try clear qke qkf qkg qkh); (try clear qgs qgt qgu qgv); (try clear znc znd zne znf); (try clear q30 q31 q33 q34); (try clear qc0 qc7 qc8 qc9); (try clear qzn); (try clear qzo); (try clear p1); (try clear p15); (try clear zh2); (try clear p2); (try clear q1); (try clear q15); (try clear zh4)
          obtain ⟨qak, rfl, HA, HK4, yn, ji, HB⟩ := hrel
          cases gk with
          | zero => exact absurd HA.out (by simp [ze.l0])
          | succ k4 =>
           have H := HA.out
           clear HA
           simp only [ze.l0] at H
           by_cases c56 : qak < (zm.length : Int)
           ·rw [if_pos c56] at H
            have c56b0 : decide (qak < (zm.length : Int)) = true := decide_eq_true c56
            clear c56
            by_cases c57 : 0 ≤ qak
            ·rw [if_pos c57] at H
             have c57b0 : decide (0 ≤ qak) = true := decide_eq_true c57
             clear c57
             by_cases c58 : qak < (zm.length : Int)
             ·rw [if_pos c58] at H
              have c58b0 : decide (qak < (zm.length : Int)) = true := decide_eq_true c58
              clear c58
              replace H := Option.bind_eq_some_iff.mp H
              obtain ⟨t157, zww, H⟩ := H
              replace H : (if t157 = true then (ze.l0 k4 a1 zm (zm.length : Int) (wrap64 (qak + 1))) else (some false)) = some r := H
              have A59 := qf.mk zww
              clear zww
              by_cases c60 : t157 = true
              ·subst c60
               have H1 : (ze.l0 k4 a1 zm (zm.length : Int) (wrap64 (qak + 1))) = some r := by rw [if_pos rfl] at H; exact H
               clear H
               have H := H1
               clear H1
               have H' := qf.mk H
               clear H
               have zjk : 0 ≤ (qak : Int) := of_decide_eq_true (by first | (with_reducible assumption) | assumption)
               have zju : qak < (zm.length : Int) := of_decide_eq_true (by first | (with_reducible assumption) | assumption)
               obtain ⟨qff, qwg, qwk, zvc, qr1, qr2, qr3, qr4, qzb, qyz⟩ := qjh qlb.out qak zjk zju
               cases zvc
               replace qr1 := (HB.out.cell (World.block_lt_of_cell? w _ qr1)).trans qr1
               replace qr2 := (HB.out.cell (World.block_lt_of_cell? w _ qr2)).trans qr2
               replace qr3 := (HB.out.cell (World.block_lt_of_cell? w _ qr3)).trans qr3
               replace qr4 := (HB.out.cell (World.block_lt_of_cell? w _ qr4)).trans qr4
               have qov := qf.mk qyz
               have qor := qf.mk qzb
               clear qyz qzb
               replace zjk := eq_true zjk
               replace zju := eq_true zju
               go_wp2_with (first | ((with_reducible refine qah (N := 8) rfl ?_); (try (refine qbg (by rfl) ?_; dsimp only)); refine vk ?hg (N := 8) ?hd (cs := #[.int .i64 0, .int .i64 0, .string (⟨#[]⟩ : ByteArray), .slice none 0 0]) (t := 27) ?hr ?_; (case hd => rfl); (case hg => rfl); (case hr => first | (go_simp; done) | (go_simp; rfl)); intro qbl hg w61 hbox hb; have n0_ := qf.mk (zl (g := jv) (o := .cells #[.int .i64 qw, .int .i64 qy, .string za, .slice (some qff) zm.length jm] 27 (0, 0)) (by (with_reducible repeat (first | refine qj ?_ _ | refine qo ?_ | refine qi ?_ _)); exact yn.out) hb); have n1_ := qf.mk (zl (g := qal) (o := .cells #[.int .i64 0, .int .i64 qas, .string qay, .slice none 0 0] 27 (0, 0)) (by (with_reducible repeat (first | refine qj ?_ _ | refine qo ?_ | refine qi ?_ _)); exact ji.out) hb); have n2_ := qf.mk (zk (by repeat (first | (with_reducible first | exact HB.out | apply qg | apply qc | apply qh | refine ql ?_ qa1.out | refine ql ?_ qbp.out) | exact HB.out)) hb); have n3_ := qf.mk (hbox); have n4_ := qf.mk ((by rw [hg]; exact (zo (by repeat (first | (with_reducible first | exact HB.out | apply qg | apply qc | apply qh | refine ql ?_ qa1.out | refine ql ?_ qbp.out) | exact HB.out))) : w.heap.size ≤ qbl)); have n5_ := qf.mk ((by rw [hg]; exact (zo (by repeat (first | (with_reducible first | exact HB.out | apply qg | apply qc | apply qh | refine ql ?_ qa1.out | refine ql ?_ qbp.out) | exact HB.out))) : w.heap.size ≤ qbl)); have n6_ := qf.mk ((by rw [hg]; exact Nat.ne_of_lt (qax (g := jv) (o := .cells #[.int .i64 qw, .int .i64 qy, .string za, .slice (some qff) zm.length jm] 27 (0, 0)) (by (with_reducible repeat (first | refine qj ?_ _ | refine qo ?_ | refine qi ?_ _)); exact yn.out)) : jv ≠ qbl)); have n7_ := qf.mk ((by rw [hg]; exact Nat.ne_of_gt (qax (g := jv) (o := .cells #[.int .i64 qw, .int .i64 qy, .string za, .slice (some qff) zm.length jm] 27 (0, 0)) (by (with_reducible repeat (first | refine qj ?_ _ | refine qo ?_ | refine qi ?_ _)); exact yn.out)) : qbl ≠ jv)); have n8_ := qf.mk ((by rw [hg]; exact Nat.ne_of_lt (qax (g := qal) (o := .cells #[.int .i64 0, .int .i64 qas, .string qay, .slice none 0 0] 27 (0, 0)) (by (with_reducible repeat (first | refine qj ?_ _ | refine qo ?_ | refine qi ?_ _)); exact ji.out)) : qal ≠ qbl)); have n9_ := qf.mk ((by rw [hg]; exact Nat.ne_of_gt (qax (g := qal) (o := .cells #[.int .i64 0, .int .i64 qas, .string qay, .slice none 0 0] 27 (0, 0)) (by (with_reducible repeat (first | refine qj ?_ _ | refine qo ?_ | refine qi ?_ _)); exact ji.out)) : qbl ≠ qal)); clear yn; clear ji; clear HB; have yn := n0_; have ji := n1_; have HB := n2_; have qbk := n3_; have zgz := n4_; have qfd := n5_; have qa6 := n6_; have qew := n7_; have qa7 := n8_; have qex := n9_; clear n0_ n1_ n2_ n3_ n4_ n5_ n6_ n7_ n8_ n9_; clear hb hbox hg; have zup := qew.out; have zut := qa6.out; have zuq := qex.out; have zuu := qa7.out; have qxq : w61.cell? ⟨qbl, 0, none⟩ = some (.int .i64 0) := (qb qbk.out 0).trans rfl; have qxr : w61.cell? ⟨qbl, 1, none⟩ = some (.int .i64 0) := (qb qbk.out 1).trans rfl; have qxs : w61.cell? ⟨qbl, 2, none⟩ = some (.string (⟨#[]⟩ : ByteArray)) := (qb qbk.out 2).trans rfl; have qxt : w61.cell? ⟨qbl, 3, none⟩ = some (.slice none 0 0) := (qb qbk.out 3).trans rfl; have qlr := qa qbk.out 0; have qls := qa qbk.out 1; have qlt := qa qbk.out 2; have qlu := qa qbk.out 3) | (go_at_call 88; (with_reducible refine (ih k4 (by have := HJ3.out; have := qn4.out; have := zg0.out; have := HK4.out; omega) ((zf zm qak).f0) ((zf zm qak).f1) ((zf zm qak).f2) _ _ ((zf zm qak).f3) (wrap64 (a1 - 1)) true _ ?side1 ?side2 ?side3 A59.out).mono ?_); (case side1 => exact Kd.vv qov.out (by repeat (first | (with_reducible first | exact HB.out | apply qg | apply qc | apply qh | refine ql ?_ qa1.out | refine ql ?_ qbp.out | refine ql ?_ qfd.out) | exact HB.out))); (case side2 => exact qor.out); (case side3 => exact Lay.below HLAY.out (by repeat (first | (with_reducible first | exact HB.out | apply qg | apply qc | apply qh | refine ql ?_ qa1.out | refine ql ?_ qbp.out | refine ql ?_ qfd.out) | exact HB.out))); rintro e w65 ⟨rfl, hb⟩; have n0_ := qf.mk (zl (g := jv) (o := .cells #[.int .i64 qw, .int .i64 qy, .string za, .slice (some qff) zm.length jm] 27 (0, 0)) (by (with_reducible repeat (first | refine qj ?_ _ | refine qo ?_ | refine qi ?_ _)); refine jb ?_ qa6.out _; (with_reducible repeat (first | refine qj ?_ _ | refine qo ?_ | refine qi ?_ _)); refine jb ?_ qa6.out _; (with_reducible repeat (first | refine qj ?_ _ | refine qo ?_ | refine qi ?_ _)); refine jb ?_ qa6.out _; (with_reducible repeat (first | refine qj ?_ _ | refine qo ?_ | refine qi ?_ _)); refine jb ?_ qa6.out _; (with_reducible repeat (first | refine qj ?_ _ | refine qo ?_ | refine qi ?_ _)); exact yn.out) hb); have n1_ := qf.mk (zl (g := qal) (o := .cells #[.int .i64 0, .int .i64 qas, .string qay, .slice none 0 0] 27 (0, 0)) (by (with_reducible repeat (first | refine qj ?_ _ | refine qo ?_ | refine qi ?_ _)); refine jb ?_ qa7.out _; (with_reducible repeat (first | refine qj ?_ _ | refine qo ?_ | refine qi ?_ _)); refine jb ?_ qa7.out _; (with_reducible repeat (first | refine qj ?_ _ | refine qo ?_ | refine qi ?_ _)); refine jb ?_ qa7.out _; (with_reducible repeat (first | refine qj ?_ _ | refine qo ?_ | refine qi ?_ _)); refine jb ?_ qa7.out _; (with_reducible repeat (first | refine qj ?_ _ | refine qo ?_ | refine qi ?_ _)); exact ji.out) hb); have n2_ := qf.mk (zl (g := qbl) (o := .cells #[.int .i64 ((zf zm qak).f0), .int .i64 ((zf zm qak).f1), .string ((zf zm qak).f2), .slice qwg ((zf zm qak).f3).length qwk] 27 (0, 0)) (by (with_reducible repeat (first | refine qj ?_ _ | refine qo ?_ | refine qi ?_ _)); refine jc (cs := #[.int .i64 ((zf zm qak).f0), .int .i64 ((zf zm qak).f1), .string ((zf zm qak).f2), .slice none 0 0]) ?_ 3 _ rfl; (with_reducible repeat (first | refine qj ?_ _ | refine qo ?_ | refine qi ?_ _)); refine jc (cs := #[.int .i64 ((zf zm qak).f0), .int .i64 ((zf zm qak).f1), .string (⟨#[]⟩ : ByteArray), .slice none 0 0]) ?_ 2 _ rfl; (with_reducible repeat (first | refine qj ?_ _ | refine qo ?_ | refine qi ?_ _)); refine jc (cs := #[.int .i64 ((zf zm qak).f0), .int .i64 0, .string (⟨#[]⟩ : ByteArray), .slice none 0 0]) ?_ 1 _ rfl; (with_reducible repeat (first | refine qj ?_ _ | refine qo ?_ | refine qi ?_ _)); refine jc (cs := #[.int .i64 0, .int .i64 0, .string (⟨#[]⟩ : ByteArray), .slice none 0 0]) ?_ 0 _ rfl; (with_reducible repeat (first | refine qj ?_ _ | refine qo ?_ | refine qi ?_ _)); exact qbk.out) hb); have n3_ := qf.mk (zk (by repeat (first | (with_reducible first | exact HB.out | apply qg | apply qc | apply qh | refine ql ?_ qa1.out | refine ql ?_ qbp.out | refine ql ?_ qfd.out) | exact HB.out)) hb); clear yn; clear ji; clear qbk; clear HB; have yn := n0_; have ji := n1_; have qbk := n2_; have HB := n3_; clear n0_ n1_ n2_ n3_; (try clear hb); (try clear hb2); (try clear hk); (try clear hi)))
               repeat (go_quiet (first | ((with_reducible refine qah (N := 8) rfl ?_); (try (refine qbg (by rfl) ?_; dsimp only)); refine vk ?hg (N := 8) ?hd (cs := #[.int .i64 0, .int .i64 0, .string (⟨#[]⟩ : ByteArray), .slice none 0 0]) (t := 27) ?hr ?_; (case hd => rfl); (case hg => rfl); (case hr => first | (go_simp; done) | (go_simp; rfl)); intro qbl hg w61 hbox hb; have n0_ := qf.mk (zl (g := jv) (o := .cells #[.int .i64 qw, .int .i64 qy, .string za, .slice (some qff) zm.length jm] 27 (0, 0)) (by (with_reducible repeat (first | refine qj ?_ _ | refine qo ?_ | refine qi ?_ _)); exact yn.out) hb); have n1_ := qf.mk (zl (g := qal) (o := .cells #[.int .i64 0, .int .i64 qas, .string qay, .slice none 0 0] 27 (0, 0)) (by (with_reducible repeat (first | refine qj ?_ _ | refine qo ?_ | refine qi ?_ _)); exact ji.out) hb); have n2_ := qf.mk (zk (by repeat (first | (with_reducible first | exact HB.out | apply qg | apply qc | apply qh | refine ql ?_ qa1.out | refine ql ?_ qbp.out) | exact HB.out)) hb); have n3_ := qf.mk (hbox); have n4_ := qf.mk ((by rw [hg]; exact (zo (by repeat (first | (with_reducible first | exact HB.out | apply qg | apply qc | apply qh | refine ql ?_ qa1.out | refine ql ?_ qbp.out) | exact HB.out))) : w.heap.size ≤ qbl)); have n5_ := qf.mk ((by rw [hg]; exact (zo (by repeat (first | (with_reducible first | exact HB.out | apply qg | apply qc | apply qh | refine ql ?_ qa1.out | refine ql ?_ qbp.out) | exact HB.out))) : w.heap.size ≤ qbl)); have n6_ := qf.mk ((by rw [hg]; exact Nat.ne_of_lt (qax (g := jv) (o := .cells #[.int .i64 qw, .int .i64 qy, .string za, .slice (some qff) zm.length jm] 27 (0, 0)) (by (with_reducible repeat (first | refine qj ?_ _ | refine qo ?_ | refine qi ?_ _)); exact yn.out)) : jv ≠ qbl)); have n7_ := qf.mk ((by rw [hg]; exact Nat.ne_of_gt (qax (g := jv) (o := .cells #[.int .i64 qw, .int .i64 qy, .string za, .slice (some qff) zm.length jm] 27 (0, 0)) (by (with_reducible repeat (first | refine qj ?_ _ | refine qo ?_ | refine qi ?_ _)); exact yn.out)) : qbl ≠ jv)); have n8_ := qf.mk ((by rw [hg]; exact Nat.ne_of_lt (qax (g := qal) (o := .cells #[.int .i64 0, .int .i64 qas, .string qay, .slice none 0 0] 27 (0, 0)) (by (with_reducible repeat (first | refine qj ?_ _ | refine qo ?_ | refine qi ?_ _)); exact ji.out)) : qal ≠ qbl)); have n9_ := qf.mk ((by rw [hg]; exact Nat.ne_of_gt (qax (g := qal) (o := .cells #[.int .i64 0, .int .i64 qas, .string qay, .slice none 0 0] 27 (0, 0)) (by (with_reducible repeat (first | refine qj ?_ _ | refine qo ?_ | refine qi ?_ _)); exact ji.out)) : qbl ≠ qal)); clear yn; clear ji; clear HB; have yn := n0_; have ji := n1_; have HB := n2_; have qbk := n3_; have zgz := n4_; have qfd := n5_; have qa6 := n6_; have qew := n7_; have qa7 := n8_; have qex := n9_; clear n0_ n1_ n2_ n3_ n4_ n5_ n6_ n7_ n8_ n9_; clear hb hbox hg; have zup := qew.out; have zut := qa6.out; have zuq := qex.out; have zuu := qa7.out; have qxq : w61.cell? ⟨qbl, 0, none⟩ = some (.int .i64 0) := (qb qbk.out 0).trans rfl; have qxr : w61.cell? ⟨qbl, 1, none⟩ = some (.int .i64 0) := (qb qbk.out 1).trans rfl; have qxs : w61.cell? ⟨qbl, 2, none⟩ = some (.string (⟨#[]⟩ : ByteArray)) := (qb qbk.out 2).trans rfl; have qxt : w61.cell? ⟨qbl, 3, none⟩ = some (.slice none 0 0) := (qb qbk.out 3).trans rfl; have qlr := qa qbk.out 0; have qls := qa qbk.out 1; have qlt := qa qbk.out 2; have qlu := qa qbk.out 3) | (go_at_call 88; (with_reducible refine (ih k4 (by have := HJ3.out; have := qn4.out; have := zg0.out; have := HK4.out; omega) ((zf zm qak).f0) ((zf zm qak).f1) ((zf zm qak).f2) _ _ ((zf zm qak).f3) (wrap64 (a1 - 1)) true _ ?side1 ?side2 ?side3 A59.out).mono ?_); (case side1 => exact Kd.vv qov.out (by repeat (first | (with_reducible first | exact HB.out | apply qg | apply qc | apply qh | refine ql ?_ qa1.out | refine ql ?_ qbp.out | refine ql ?_ qfd.out) | exact HB.out))); (case side2 => exact qor.out); (case side3 => exact Lay.below HLAY.out (by repeat (first | (with_reducible first | exact HB.out | apply qg | apply qc | apply qh | refine ql ?_ qa1.out | refine ql ?_ qbp.out | refine ql ?_ qfd.out) | exact HB.out))); rintro e w65 ⟨rfl, hb⟩; have n0_ := qf.mk (zl (g := jv) (o := .cells #[.int .i64 qw, .int .i64 qy, .string za, .slice (some qff) zm.length jm] 27 (0, 0)) (by (with_reducible repeat (first | refine qj ?_ _ | refine qo ?_ | refine qi ?_ _)); refine jb ?_ qa6.out _; (with_reducible repeat (first | refine qj ?_ _ | refine qo ?_ | refine qi ?_ _)); refine jb ?_ qa6.out _; (with_reducible repeat (first | refine qj ?_ _ | refine qo ?_ | refine qi ?_ _)); refine jb ?_ qa6.out _; (with_reducible repeat (first | refine qj ?_ _ | refine qo ?_ | refine qi ?_ _)); refine jb ?_ qa6.out _; (with_reducible repeat (first | refine qj ?_ _ | refine qo ?_ | refine qi ?_ _)); exact yn.out) hb); have n1_ := qf.mk (zl (g := qal) (o := .cells #[.int .i64 0, .int .i64 qas, .string qay, .slice none 0 0] 27 (0, 0)) (by (with_reducible repeat (first | refine qj ?_ _ | refine qo ?_ | refine qi ?_ _)); refine jb ?_ qa7.out _; (with_reducible repeat (first | refine qj ?_ _ | refine qo ?_ | refine qi ?_ _)); refine jb ?_ qa7.out _; (with_reducible repeat (first | refine qj ?_ _ | refine qo ?_ | refine qi ?_ _)); refine jb ?_ qa7.out _; (with_reducible repeat (first | refine qj ?_ _ | refine qo ?_ | refine qi ?_ _)); refine jb ?_ qa7.out _; (with_reducible repeat (first | refine qj ?_ _ | refine qo ?_ | refine qi ?_ _)); exact ji.out) hb); have n2_ := qf.mk (zl (g := qbl) (o := .cells #[.int .i64 ((zf zm qak).f0), .int .i64 ((zf zm qak).f1), .string ((zf zm qak).f2), .slice qwg ((zf zm qak).f3).length qwk] 27 (0, 0)) (by (with_reducible repeat (first | refine qj ?_ _ | refine qo ?_ | refine qi ?_ _)); refine jc (cs := #[.int .i64 ((zf zm qak).f0), .int .i64 ((zf zm qak).f1), .string ((zf zm qak).f2), .slice none 0 0]) ?_ 3 _ rfl; (with_reducible repeat (first | refine qj ?_ _ | refine qo ?_ | refine qi ?_ _)); refine jc (cs := #[.int .i64 ((zf zm qak).f0), .int .i64 ((zf zm qak).f1), .string (⟨#[]⟩ : ByteArray), .slice none 0 0]) ?_ 2 _ rfl; (with_reducible repeat (first | refine qj ?_ _ | refine qo ?_ | refine qi ?_ _)); refine jc (cs := #[.int .i64 ((zf zm qak).f0), .int .i64 0, .string (⟨#[]⟩ : ByteArray), .slice none 0 0]) ?_ 1 _ rfl; (with_reducible repeat (first | refine qj ?_ _ | refine qo ?_ | refine qi ?_ _)); refine jc (cs := #[.int .i64 0, .int .i64 0, .string (⟨#[]⟩ : ByteArray), .slice none 0 0]) ?_ 0 _ rfl; (with_reducible repeat (first | refine qj ?_ _ | refine qo ?_ | refine qi ?_ _)); exact qbk.out) hb); have n3_ := qf.mk (zk (by repeat (first | (with_reducible first | exact HB.out | apply qg | apply qc | apply qh | refine ql ?_ qa1.out | refine ql ?_ qbp.out | refine ql ?_ qfd.out) | exact HB.out)) hb); clear yn; clear ji; clear qbk; clear HB; have yn := n0_; have ji := n1_; have qbk := n2_; have HB := n3_; clear n0_ n1_ n2_ n3_; (try clear hb); (try clear hb2); (try clear hk); (try clear hi))); try go_wp2_with (first | ((with_reducible refine qah (N := 8) rfl ?_); (try (refine qbg (by rfl) ?_; dsimp only)); refine vk ?hg (N := 8) ?hd (cs := #[.int .i64 0, .int .i64 0, .string (⟨#[]⟩ : ByteArray), .slice none 0 0]) (t := 27) ?hr ?_; (case hd => rfl); (case hg => rfl); (case hr => first | (go_simp; done) | (go_simp; rfl)); intro qbl hg w61 hbox hb; have n0_ := qf.mk (zl (g := jv) (o := .cells #[.int .i64 qw, .int .i64 qy, .string za, .slice (some qff) zm.length jm] 27 (0, 0)) (by (with_reducible repeat (first | refine qj ?_ _ | refine qo ?_ | refine qi ?_ _)); exact yn.out) hb); have n1_ := qf.mk (zl (g := qal) (o := .cells #[.int .i64 0, .int .i64 qas, .string qay, .slice none 0 0] 27 (0, 0)) (by (with_reducible repeat (first | refine qj ?_ _ | refine qo ?_ | refine qi ?_ _)); exact ji.out) hb); have n2_ := qf.mk (zk (by repeat (first | (with_reducible first | exact HB.out | apply qg | apply qc | apply qh | refine ql ?_ qa1.out | refine ql ?_ qbp.out) | exact HB.out)) hb); have n3_ := qf.mk (hbox); have n4_ := qf.mk ((by rw [hg]; exact (zo (by repeat (first | (with_reducible first | exact HB.out | apply qg | apply qc | apply qh | refine ql ?_ qa1.out | refine ql ?_ qbp.out) | exact HB.out))) : w.heap.size ≤ qbl)); have n5_ := qf.mk ((by rw [hg]; exact (zo (by repeat (first | (with_reducible first | exact HB.out | apply qg | apply qc | apply qh | refine ql ?_ qa1.out | refine ql ?_ qbp.out) | exact HB.out))) : w.heap.size ≤ qbl)); have n6_ := qf.mk ((by rw [hg]; exact Nat.ne_of_lt (qax (g := jv) (o := .cells #[.int .i64 qw, .int .i64 qy, .string za, .slice (some qff) zm.length jm] 27 (0, 0)) (by (with_reducible repeat (first | refine qj ?_ _ | refine qo ?_ | refine qi ?_ _)); exact yn.out)) : jv ≠ qbl)); have n7_ := qf.mk ((by rw [hg]; exact Nat.ne_of_gt (qax (g := jv) (o := .cells #[.int .i64 qw, .int .i64 qy, .string za, .slice (some qff) zm.length jm] 27 (0, 0)) (by (with_reducible repeat (first | refine qj ?_ _ | refine qo ?_ | refine qi ?_ _)); exact yn.out)) : qbl ≠ jv)); have n8_ := qf.mk ((by rw [hg]; exact Nat.ne_of_lt (qax (g := qal) (o := .cells #[.int .i64 0, .int .i64 qas, .string qay, .slice none 0 0] 27 (0, 0)) (by (with_reducible repeat (first | refine qj ?_ _ | refine qo ?_ | refine qi ?_ _)); exact ji.out)) : qal ≠ qbl)); have n9_ := qf.mk ((by rw [hg]; exact Nat.ne_of_gt (qax (g := qal) (o := .cells #[.int .i64 0, .int .i64 qas, .string qay, .slice none 0 0] 27 (0, 0)) (by (with_reducible repeat (first | refine qj ?_ _ | refine qo ?_ | refine qi ?_ _)); exact ji.out)) : qbl ≠ qal)); clear yn; clear ji; clear HB; have yn := n0_; have ji := n1_; have HB := n2_; have qbk := n3_; have zgz := n4_; have qfd := n5_; have qa6 := n6_; have qew := n7_; have qa7 := n8_; have qex := n9_; clear n0_ n1_ n2_ n3_ n4_ n5_ n6_ n7_ n8_ n9_; clear hb hbox hg; have zup := qew.out; have zut := qa6.out; have zuq := qex.out; have zuu := qa7.out; have qxq : w61.cell? ⟨qbl, 0, none⟩ = some (.int .i64 0) := (qb qbk.out 0).trans rfl; have qxr : w61.cell? ⟨qbl, 1, none⟩ = some (.int .i64 0) := (qb qbk.out 1).trans rfl; have qxs : w61.cell? ⟨qbl, 2, none⟩ = some (.string (⟨#[]⟩ : ByteArray)) := (qb qbk.out 2).trans rfl; have qxt : w61.cell? ⟨qbl, 3, none⟩ = some (.slice none 0 0) := (qb qbk.out 3).trans rfl; have qlr := qa qbk.out 0; have qls := qa qbk.out 1; have qlt := qa qbk.out 2; have qlu := qa qbk.out 3) | (go_at_call 88; (with_reducible refine (ih k4 (by have := HJ3.out; have := qn4.out; have := zg0.out; have := HK4.out; omega) ((zf zm qak).f0) ((zf zm qak).f1) ((zf zm qak).f2) _ _ ((zf zm qak).f3) (wrap64 (a1 - 1)) true _ ?side1 ?side2 ?side3 A59.out).mono ?_); (case side1 => exact Kd.vv qov.out (by repeat (first | (with_reducible first | exact HB.out | apply qg | apply qc | apply qh | refine ql ?_ qa1.out | refine ql ?_ qbp.out | refine ql ?_ qfd.out) | exact HB.out))); (case side2 => exact qor.out); (case side3 => exact Lay.below HLAY.out (by repeat (first | (with_reducible first | exact HB.out | apply qg | apply qc | apply qh | refine ql ?_ qa1.out | refine ql ?_ qbp.out | refine ql ?_ qfd.out) | exact HB.out))); rintro e w65 ⟨rfl, hb⟩; have n0_ := qf.mk (zl (g := jv) (o := .cells #[.int .i64 qw, .int .i64 qy, .string za, .slice (some qff) zm.length jm] 27 (0, 0)) (by (with_reducible repeat (first | refine qj ?_ _ | refine qo ?_ | refine qi ?_ _)); refine jb ?_ qa6.out _; (with_reducible repeat (first | refine qj ?_ _ | refine qo ?_ | refine qi ?_ _)); refine jb ?_ qa6.out _; (with_reducible repeat (first | refine qj ?_ _ | refine qo ?_ | refine qi ?_ _)); refine jb ?_ qa6.out _; (with_reducible repeat (first | refine qj ?_ _ | refine qo ?_ | refine qi ?_ _)); refine jb ?_ qa6.out _; (with_reducible repeat (first | refine qj ?_ _ | refine qo ?_ | refine qi ?_ _)); exact yn.out) hb); have n1_ := qf.mk (zl (g := qal) (o := .cells #[.int .i64 0, .int .i64 qas, .string qay, .slice none 0 0] 27 (0, 0)) (by (with_reducible repeat (first | refine qj ?_ _ | refine qo ?_ | refine qi ?_ _)); refine jb ?_ qa7.out _; (with_reducible repeat (first | refine qj ?_ _ | refine qo ?_ | refine qi ?_ _)); refine jb ?_ qa7.out _; (with_reducible repeat (first | refine qj ?_ _ | refine qo ?_ | refine qi ?_ _)); refine jb ?_ qa7.out _; (with_reducible repeat (first | refine qj ?_ _ | refine qo ?_ | refine qi ?_ _)); refine jb ?_ qa7.out _; (with_reducible repeat (first | refine qj ?_ _ | refine qo ?_ | refine qi ?_ _)); exact ji.out) hb); have n2_ := qf.mk (zl (g := qbl) (o := .cells #[.int .i64 ((zf zm qak).f0), .int .i64 ((zf zm qak).f1), .string ((zf zm qak).f2), .slice qwg ((zf zm qak).f3).length qwk] 27 (0, 0)) (by (with_reducible repeat (first | refine qj ?_ _ | refine qo ?_ | refine qi ?_ _)); refine jc (cs := #[.int .i64 ((zf zm qak).f0), .int .i64 ((zf zm qak).f1), .string ((zf zm qak).f2), .slice none 0 0]) ?_ 3 _ rfl; (with_reducible repeat (first | refine qj ?_ _ | refine qo ?_ | refine qi ?_ _)); refine jc (cs := #[.int .i64 ((zf zm qak).f0), .int .i64 ((zf zm qak).f1), .string (⟨#[]⟩ : ByteArray), .slice none 0 0]) ?_ 2 _ rfl; (with_reducible repeat (first | refine qj ?_ _ | refine qo ?_ | refine qi ?_ _)); refine jc (cs := #[.int .i64 ((zf zm qak).f0), .int .i64 0, .string (⟨#[]⟩ : ByteArray), .slice none 0 0]) ?_ 1 _ rfl; (with_reducible repeat (first | refine qj ?_ _ | refine qo ?_ | refine qi ?_ _)); refine jc (cs := #[.int .i64 0, .int .i64 0, .string (⟨#[]⟩ : ByteArray), .slice none 0 0]) ?_ 0 _ rfl; (with_reducible repeat (first | refine qj ?_ _ | refine qo ?_ | refine qi ?_ _)); exact qbk.out) hb); have n3_ := qf.mk (zk (by repeat (first | (with_reducible first | exact HB.out | apply qg | apply qc | apply qh | refine ql ?_ qa1.out | refine ql ?_ qbp.out | refine ql ?_ qfd.out) | exact HB.out)) hb); clear yn; clear ji; clear qbk; clear HB; have yn := n0_; have ji := n1_; have qbk := n2_; have HB := n3_; clear n0_ n1_ n2_ n3_; (try clear hb); (try clear hb2); (try clear hk); (try clear hi))))
               go_roundg k4
               case measure => have := HJ3.out; have := qn4.out; have := zg0.out; have := HK4.out; omega
               case rel => exact ⟨(wrap64 (qak + 1)), (by first | rfl | (simp; done) | (simp [*]; done)), H', ⟨by have := HJ3.out; have := qn4.out; have := zg0.out; have := HK4.out; omega⟩, ⟨by (with_reducible repeat (first | refine qj ?_ _ | refine qo ?_ | refine qi ?_ _)); exact yn.out⟩, ⟨by (with_reducible repeat (first | refine qj ?_ _ | refine qo ?_ | refine qi ?_ _)); exact ji.out⟩, ⟨by repeat (first | (with_reducible first | exact HB.out | apply qg | apply qc | apply qh | refine ql ?_ qa1.out | refine ql ?_ qbp.out | refine ql ?_ qfd.out) | exact HB.out)⟩⟩
              ·replace c60 := Bool.eq_false_iff.mpr c60
               subst c60
               have H1 : (some false) = some r := by rw [if_neg (show ¬ (false = true) by decide)] at H; exact H
               clear H
               have H := H1
               clear H1
               obtain rfl := Option.some.inj H
               have zjk : 0 ≤ (qak : Int) := of_decide_eq_true (by first | (with_reducible assumption) | assumption)
               have zju : qak < (zm.length : Int) := of_decide_eq_true (by first | (with_reducible assumption) | assumption)
               obtain ⟨qff, qwg, qwk, zvc, qr1, qr2, qr3, qr4, qzb, qyz⟩ := qjh qlb.out qak zjk zju
               cases zvc
               replace qr1 := (HB.out.cell (World.block_lt_of_cell? w _ qr1)).trans qr1
               replace qr2 := (HB.out.cell (World.block_lt_of_cell? w _ qr2)).trans qr2
               replace qr3 := (HB.out.cell (World.block_lt_of_cell? w _ qr3)).trans qr3
               replace qr4 := (HB.out.cell (World.block_lt_of_cell? w _ qr4)).trans qr4
               have qov := qf.mk qyz
               have qor := qf.mk qzb
               clear qyz qzb
               replace zjk := eq_true zjk
               replace zju := eq_true zju
               go_wp2_with (first | ((with_reducible refine qah (N := 8) rfl ?_); (try (refine qbg (by rfl) ?_; dsimp only)); refine vk ?hg (N := 8) ?hd (cs := #[.int .i64 0, .int .i64 0, .string (⟨#[]⟩ : ByteArray), .slice none 0 0]) (t := 27) ?hr ?_; (case hd => rfl); (case hg => rfl); (case hr => first | (go_simp; done) | (go_simp; rfl)); intro qbl hg w66 hbox hb; have n0_ := qf.mk (zl (g := jv) (o := .cells #[.int .i64 qw, .int .i64 qy, .string za, .slice (some qff) zm.length jm] 27 (0, 0)) (by (with_reducible repeat (first | refine qj ?_ _ | refine qo ?_ | refine qi ?_ _)); exact yn.out) hb); have n1_ := qf.mk (zl (g := qal) (o := .cells #[.int .i64 0, .int .i64 qas, .string qay, .slice none 0 0] 27 (0, 0)) (by (with_reducible repeat (first | refine qj ?_ _ | refine qo ?_ | refine qi ?_ _)); exact ji.out) hb); have n2_ := qf.mk (zk (by repeat (first | (with_reducible first | exact HB.out | apply qg | apply qc | apply qh | refine ql ?_ qa1.out | refine ql ?_ qbp.out) | exact HB.out)) hb); have n3_ := qf.mk (hbox); have n4_ := qf.mk ((by rw [hg]; exact (zo (by repeat (first | (with_reducible first | exact HB.out | apply qg | apply qc | apply qh | refine ql ?_ qa1.out | refine ql ?_ qbp.out) | exact HB.out))) : w.heap.size ≤ qbl)); have n5_ := qf.mk ((by rw [hg]; exact (zo (by repeat (first | (with_reducible first | exact HB.out | apply qg | apply qc | apply qh | refine ql ?_ qa1.out | refine ql ?_ qbp.out) | exact HB.out))) : w.heap.size ≤ qbl)); have n6_ := qf.mk ((by rw [hg]; exact Nat.ne_of_lt (qax (g := jv) (o := .cells #[.int .i64 qw, .int .i64 qy, .string za, .slice (some qff) zm.length jm] 27 (0, 0)) (by (with_reducible repeat (first | refine qj ?_ _ | refine qo ?_ | refine qi ?_ _)); exact yn.out)) : jv ≠ qbl)); have n7_ := qf.mk ((by rw [hg]; exact Nat.ne_of_gt (qax (g := jv) (o := .cells #[.int .i64 qw, .int .i64 qy, .string za, .slice (some qff) zm.length jm] 27 (0, 0)) (by (with_reducible repeat (first | refine qj ?_ _ | refine qo ?_ | refine qi ?_ _)); exact yn.out)) : qbl ≠ jv)); have n8_ := qf.mk ((by rw [hg]; exact Nat.ne_of_lt (qax (g := qal) (o := .cells #[.int .i64 0, .int .i64 qas, .string qay, .slice none 0 0] 27 (0, 0)) (by (with_reducible repeat (first | refine qj ?_ _ | refine qo ?_ | refine qi ?_ _)); exact ji.out)) : qal ≠ qbl)); have n9_ := qf.mk ((by rw [hg]; exact Nat.ne_of_gt (qax (g := qal) (o := .cells #[.int .i64 0, .int .i64 qas, .string qay, .slice none 0 0] 27 (0, 0)) (by (with_reducible repeat (first | refine qj ?_ _ | refine qo ?_ | refine qi ?_ _)); exact ji.out)) : qbl ≠ qal)); clear yn; clear ji; clear HB; have yn := n0_; have ji := n1_; have HB := n2_; have qbk := n3_; have zgz := n4_; have qfd := n5_; have qa6 := n6_; have qew := n7_; have qa7 := n8_; have qex := n9_; clear n0_ n1_ n2_ n3_ n4_ n5_ n6_ n7_ n8_ n9_; clear hb hbox hg; have zur := qew.out; have zuv := qa6.out; have zus := qex.out; have zuw := qa7.out; have q2d : w66.cell? ⟨qbl, 0, none⟩ = some (.int .i64 0) := (qb qbk.out 0).trans rfl; have q2e : w66.cell? ⟨qbl, 1, none⟩ = some (.int .i64 0) := (qb qbk.out 1).trans rfl; have q2f : w66.cell? ⟨qbl, 2, none⟩ = some (.string (⟨#[]⟩ : ByteArray)) := (qb qbk.out 2).trans rfl; have q2g : w66.cell? ⟨qbl, 3, none⟩ = some (.slice none 0 0) := (qb qbk.out 3).trans rfl; have qnu := qa qbk.out 0; have qnv := qa qbk.out 1; have qnw := qa qbk.out 2; have qnx := qa qbk.out 3) | (go_at_call 88; (with_reducible refine (ih k4 (by have := HJ3.out; have := qn4.out; have := zg0.out; have := HK4.out; omega) ((zf zm qak).f0) ((zf zm qak).f1) ((zf zm qak).f2) _ _ ((zf zm qak).f3) (wrap64 (a1 - 1)) false _ ?side1 ?side2 ?side3 A59.out).mono ?_); (case side1 => exact Kd.vv qov.out (by repeat (first | (with_reducible first | exact HB.out | apply qg | apply qc | apply qh | refine ql ?_ qa1.out | refine ql ?_ qbp.out | refine ql ?_ qfd.out) | exact HB.out))); (case side2 => exact qor.out); (case side3 => exact Lay.below HLAY.out (by repeat (first | (with_reducible first | exact HB.out | apply qg | apply qc | apply qh | refine ql ?_ qa1.out | refine ql ?_ qbp.out | refine ql ?_ qfd.out) | exact HB.out))); rintro e w70 ⟨rfl, hb⟩; have n0_ := qf.mk (zl (g := jv) (o := .cells #[.int .i64 qw, .int .i64 qy, .string za, .slice (some qff) zm.length jm] 27 (0, 0)) (by (with_reducible repeat (first | refine qj ?_ _ | refine qo ?_ | refine qi ?_ _)); refine jb ?_ qa6.out _; (with_reducible repeat (first | refine qj ?_ _ | refine qo ?_ | refine qi ?_ _)); refine jb ?_ qa6.out _; (with_reducible repeat (first | refine qj ?_ _ | refine qo ?_ | refine qi ?_ _)); refine jb ?_ qa6.out _; (with_reducible repeat (first | refine qj ?_ _ | refine qo ?_ | refine qi ?_ _)); refine jb ?_ qa6.out _; (with_reducible repeat (first | refine qj ?_ _ | refine qo ?_ | refine qi ?_ _)); exact yn.out) hb); have n1_ := qf.mk (zl (g := qal) (o := .cells #[.int .i64 0, .int .i64 qas, .string qay, .slice none 0 0] 27 (0, 0)) (by (with_reducible repeat (first | refine qj ?_ _ | refine qo ?_ | refine qi ?_ _)); refine jb ?_ qa7.out _; (with_reducible repeat (first | refine qj ?_ _ | refine qo ?_ | refine qi ?_ _)); refine jb ?_ qa7.out _; (with_reducible repeat (first | refine qj ?_ _ | refine qo ?_ | refine qi ?_ _)); refine jb ?_ qa7.out _; (with_reducible repeat (first | refine qj ?_ _ | refine qo ?_ | refine qi ?_ _)); refine jb ?_ qa7.out _; (with_reducible repeat (first | refine qj ?_ _ | refine qo ?_ | refine qi ?_ _)); exact ji.out) hb); have n2_ := qf.mk (zl (g := qbl) (o := .cells #[.int .i64 ((zf zm qak).f0), .int .i64 ((zf zm qak).f1), .string ((zf zm qak).f2), .slice qwg ((zf zm qak).f3).length qwk] 27 (0, 0)) (by (with_reducible repeat (first | refine qj ?_ _ | refine qo ?_ | refine qi ?_ _)); refine jc (cs := #[.int .i64 ((zf zm qak).f0), .int .i64 ((zf zm qak).f1), .string ((zf zm qak).f2), .slice none 0 0]) ?_ 3 _ rfl; (with_reducible repeat (first | refine qj ?_ _ | refine qo ?_ | refine qi ?_ _)); refine jc (cs := #[.int .i64 ((zf zm qak).f0), .int .i64 ((zf zm qak).f1), .string (⟨#[]⟩ : ByteArray), .slice none 0 0]) ?_ 2 _ rfl; (with_reducible repeat (first | refine qj ?_ _ | refine qo ?_ | refine qi ?_ _)); refine jc (cs := #[.int .i64 ((zf zm qak).f0), .int .i64 0, .string (⟨#[]⟩ : ByteArray), .slice none 0 0]) ?_ 1 _ rfl; (with_reducible repeat (first | refine qj ?_ _ | refine qo ?_ | refine qi ?_ _)); refine jc (cs := #[.int .i64 0, .int .i64 0, .string (⟨#[]⟩ : ByteArray), .slice none 0 0]) ?_ 0 _ rfl; (with_reducible repeat (first | refine qj ?_ _ | refine qo ?_ | refine qi ?_ _)); exact qbk.out) hb); have n3_ := qf.mk (zk (by repeat (first | (with_reducible first | exact HB.out | apply qg | apply qc | apply qh | refine ql ?_ qa1.out | refine ql ?_ qbp.out | refine ql ?_ qfd.out) | exact HB.out)) hb); clear yn; clear ji; clear qbk; clear HB; have yn := n0_; have ji := n1_; have qbk := n2_; have HB := n3_; clear n0_ n1_ n2_ n3_; (try clear hb); (try clear hb2); (try clear hk); (try clear hi)))
               repeat (go_quiet (first | ((with_reducible refine qah (N := 8) rfl ?_); (try (refine qbg (by rfl) ?_; dsimp only)); refine vk ?hg (N := 8) ?hd (cs := #[.int .i64 0, .int .i64 0, .string (⟨#[]⟩ : ByteArray), .slice none 0 0]) (t := 27) ?hr ?_; (case hd => rfl); (case hg => rfl); (case hr => first | (go_simp; done) | (go_simp; rfl)); intro qbl hg w66 hbox hb; have n0_ := qf.mk (zl (g := jv) (o := .cells #[.int .i64 qw, .int .i64 qy, .string za, .slice (some qff) zm.length jm] 27 (0, 0)) (by (with_reducible repeat (first | refine qj ?_ _ | refine qo ?_ | refine qi ?_ _)); exact yn.out) hb); have n1_ := qf.mk (zl (g := qal) (o := .cells #[.int .i64 0, .int .i64 qas, .string qay, .slice none 0 0] 27 (0, 0)) (by (with_reducible repeat (first | refine qj ?_ _ | refine qo ?_ | refine qi ?_ _)); exact ji.out) hb); have n2_ := qf.mk (zk (by repeat (first | (with_reducible first | exact HB.out | apply qg | apply qc | apply qh | refine ql ?_ qa1.out | refine ql ?_ qbp.out) | exact HB.out)) hb); have n3_ := qf.mk (hbox); have n4_ := qf.mk ((by rw [hg]; exact (zo (by repeat (first | (with_reducible first | exact HB.out | apply qg | apply qc | apply qh | refine ql ?_ qa1.out | refine ql ?_ qbp.out) | exact HB.out))) : w.heap.size ≤ qbl)); have n5_ := qf.mk ((by rw [hg]; exact (zo (by repeat (first | (with_reducible first | exact HB.out | apply qg | apply qc | apply qh | refine ql ?_ qa1.out | refine ql ?_ qbp.out) | exact HB.out))) : w.heap.size ≤ qbl)); have n6_ := qf.mk ((by rw [hg]; exact Nat.ne_of_lt (qax (g := jv) (o := .cells #[.int .i64 qw, .int .i64 qy, .string za, .slice (some qff) zm.length jm] 27 (0, 0)) (by (with_reducible repeat (first | refine qj ?_ _ | refine qo ?_ | refine qi ?_ _)); exact yn.out)) : jv ≠ qbl)); have n7_ := qf.mk ((by rw [hg]; exact Nat.ne_of_gt (qax (g := jv) (o := .cells #[.int .i64 qw, .int .i64 qy, .string za, .slice (some qff) zm.length jm] 27 (0, 0)) (by (with_reducible repeat (first | refine qj ?_ _ | refine qo ?_ | refine qi ?_ _)); exact yn.out)) : qbl ≠ jv)); have n8_ := qf.mk ((by rw [hg]; exact Nat.ne_of_lt (qax (g := qal) (o := .cells #[.int .i64 0, .int .i64 qas, .string qay, .slice none 0 0] 27 (0, 0)) (by (with_reducible repeat (first | refine qj ?_ _ | refine qo ?_ | refine qi ?_ _)); exact ji.out)) : qal ≠ qbl)); have n9_ := qf.mk ((by rw [hg]; exact Nat.ne_of_gt (qax (g := qal) (o := .cells #[.int .i64 0, .int .i64 qas, .string qay, .slice none 0 0] 27 (0, 0)) (by (with_reducible repeat (first | refine qj ?_ _ | refine qo ?_ | refine qi ?_ _)); exact ji.out)) : qbl ≠ qal)); clear yn; clear ji; clear HB; have yn := n0_; have ji := n1_; have HB := n2_; have qbk := n3_; have zgz := n4_; have qfd := n5_; have qa6 := n6_; have qew := n7_; have qa7 := n8_; have qex := n9_; clear n0_ n1_ n2_ n3_ n4_ n5_ n6_ n7_ n8_ n9_; clear hb hbox hg; have zur := qew.out; have zuv := qa6.out; have zus := qex.out; have zuw := qa7.out; have q2d : w66.cell? ⟨qbl, 0, none⟩ = some (.int .i64 0) := (qb qbk.out 0).trans rfl; have q2e : w66.cell? ⟨qbl, 1, none⟩ = some (.int .i64 0) := (qb qbk.out 1).trans rfl; have q2f : w66.cell? ⟨qbl, 2, none⟩ = some (.string (⟨#[]⟩ : ByteArray)) := (qb qbk.out 2).trans rfl; have q2g : w66.cell? ⟨qbl, 3, none⟩ = some (.slice none 0 0) := (qb qbk.out 3).trans rfl; have qnu := qa qbk.out 0; have qnv := qa qbk.out 1; have qnw := qa qbk.out 2; have qnx := qa qbk.out 3) | (go_at_call 88; (with_reducible refine (ih k4 (by have := HJ3.out; have := qn4.out; have := zg0.out; have := HK4.out; omega) ((zf zm qak).f0) ((zf zm qak).f1) ((zf zm qak).f2) _ _ ((zf zm qak).f3) (wrap64 (a1 - 1)) false _ ?side1 ?side2 ?side3 A59.out).mono ?_); (case side1 => exact Kd.vv qov.out (by repeat (first | (with_reducible first | exact HB.out | apply qg | apply qc | apply qh | refine ql ?_ qa1.out | refine ql ?_ qbp.out | refine ql ?_ qfd.out) | exact HB.out))); (case side2 => exact qor.out); (case side3 => exact Lay.below HLAY.out (by repeat (first | (with_reducible first | exact HB.out | apply qg | apply qc | apply qh | refine ql ?_ qa1.out | refine ql ?_ qbp.out | refine ql ?_ qfd.out) | exact HB.out))); rintro e w70 ⟨rfl, hb⟩; have n0_ := qf.mk (zl (g := jv) (o := .cells #[.int .i64 qw, .int .i64 qy, .string za, .slice (some qff) zm.length jm] 27 (0, 0)) (by (with_reducible repeat (first | refine qj ?_ _ | refine qo ?_ | refine qi ?_ _)); refine jb ?_ qa6.out _; (with_reducible repeat (first | refine qj ?_ _ | refine qo ?_ | refine qi ?_ _)); refine jb ?_ qa6.out _; (with_reducible repeat (first | refine qj ?_ _ | refine qo ?_ | refine qi ?_ _)); refine jb ?_ qa6.out _; (with_reducible repeat (first | refine qj ?_ _ | refine qo ?_ | refine qi ?_ _)); refine jb ?_ qa6.out _; (with_reducible repeat (first | refine qj ?_ _ | refine qo ?_ | refine qi ?_ _)); exact yn.out) hb); have n1_ := qf.mk (zl (g := qal) (o := .cells #[.int .i64 0, .int .i64 qas, .string qay, .slice none 0 0] 27 (0, 0)) (by (with_reducible repeat (first | refine qj ?_ _ | refine qo ?_ | refine qi ?_ _)); refine jb ?_ qa7.out _; (with_reducible repeat (first | refine qj ?_ _ | refine qo ?_ | refine qi ?_ _)); refine jb ?_ qa7.out _; (with_reducible repeat (first | refine qj ?_ _ | refine qo ?_ | refine qi ?_ _)); refine jb ?_ qa7.out _; (with_reducible repeat (first | refine qj ?_ _ | refine qo ?_ | refine qi ?_ _)); refine jb ?_ qa7.out _; (with_reducible repeat (first | refine qj ?_ _ | refine qo ?_ | refine qi ?_ _)); exact ji.out) hb); have n2_ := qf.mk (zl (g := qbl) (o := .cells #[.int .i64 ((zf zm qak).f0), .int .i64 ((zf zm qak).f1), .string ((zf zm qak).f2), .slice qwg ((zf zm qak).f3).length qwk] 27 (0, 0)) (by (with_reducible repeat (first | refine qj ?_ _ | refine qo ?_ | refine qi ?_ _)); refine jc (cs := #[.int .i64 ((zf zm qak).f0), .int .i64 ((zf zm qak).f1), .string ((zf zm qak).f2), .slice none 0 0]) ?_ 3 _ rfl; (with_reducible repeat (first | refine qj ?_ _ | refine qo ?_ | refine qi ?_ _)); refine jc (cs := #[.int .i64 ((zf zm qak).f0), .int .i64 ((zf zm qak).f1), .string (⟨#[]⟩ : ByteArray), .slice none 0 0]) ?_ 2 _ rfl; (with_reducible repeat (first | refine qj ?_ _ | refine qo ?_ | refine qi ?_ _)); refine jc (cs := #[.int .i64 ((zf zm qak).f0), .int .i64 0, .string (⟨#[]⟩ : ByteArray), .slice none 0 0]) ?_ 1 _ rfl; (with_reducible repeat (first | refine qj ?_ _ | refine qo ?_ | refine qi ?_ _)); refine jc (cs := #[.int .i64 0, .int .i64 0, .string (⟨#[]⟩ : ByteArray), .slice none 0 0]) ?_ 0 _ rfl; (with_reducible repeat (first | refine qj ?_ _ | refine qo ?_ | refine qi ?_ _)); exact qbk.out) hb); have n3_ := qf.mk (zk (by repeat (first | (with_reducible first | exact HB.out | apply qg | apply qc | apply qh | refine ql ?_ qa1.out | refine ql ?_ qbp.out | refine ql ?_ qfd.out) | exact HB.out)) hb); clear yn; clear ji; clear qbk; clear HB; have yn := n0_; have ji := n1_; have qbk := n2_; have HB := n3_; clear n0_ n1_ n2_ n3_; (try clear hb); (try clear hb2); (try clear hk); (try clear hi))); try go_wp2_with (first | ((with_reducible refine qah (N := 8) rfl ?_); (try (refine qbg (by rfl) ?_; dsimp only)); refine vk ?hg (N := 8) ?hd (cs := #[.int .i64 0, .int .i64 0, .string (⟨#[]⟩ : ByteArray), .slice none 0 0]) (t := 27) ?hr ?_; (case hd => rfl); (case hg => rfl); (case hr => first | (go_simp; done) | (go_simp; rfl)); intro qbl hg w66 hbox hb; have n0_ := qf.mk (zl (g := jv) (o := .cells #[.int .i64 qw, .int .i64 qy, .string za, .slice (some qff) zm.length jm] 27 (0, 0)) (by (with_reducible repeat (first | refine qj ?_ _ | refine qo ?_ | refine qi ?_ _)); exact yn.out) hb); have n1_ := qf.mk (zl (g := qal) (o := .cells #[.int .i64 0, .int .i64 qas, .string qay, .slice none 0 0] 27 (0, 0)) (by (with_reducible repeat (first | refine qj ?_ _ | refine qo ?_ | refine qi ?_ _)); exact ji.out) hb); have n2_ := qf.mk (zk (by repeat (first | (with_reducible first | exact HB.out | apply qg | apply qc | apply qh | refine ql ?_ qa1.out | refine ql ?_ qbp.out) | exact HB.out)) hb); have n3_ := qf.mk (hbox); have n4_ := qf.mk ((by rw [hg]; exact (zo (by repeat (first | (with_reducible first | exact HB.out | apply qg | apply qc | apply qh | refine ql ?_ qa1.out | refine ql ?_ qbp.out) | exact HB.out))) : w.heap.size ≤ qbl)); have n5_ := qf.mk ((by rw [hg]; exact (zo (by repeat (first | (with_reducible first | exact HB.out | apply qg | apply qc | apply qh | refine ql ?_ qa1.out | refine ql ?_ qbp.out) | exact HB.out))) : w.heap.size ≤ qbl)); have n6_ := qf.mk ((by rw [hg]; exact Nat.ne_of_lt (qax (g := jv) (o := .cells #[.int .i64 qw, .int .i64 qy, .string za, .slice (some qff) zm.length jm] 27 (0, 0)) (by (with_reducible repeat (first | refine qj ?_ _ | refine qo ?_ | refine qi ?_ _)); exact yn.out)) : jv ≠ qbl)); have n7_ := qf.mk ((by rw [hg]; exact Nat.ne_of_gt (qax (g := jv) (o := .cells #[.int .i64 qw, .int .i64 qy, .string za, .slice (some qff) zm.length jm] 27 (0, 0)) (by (with_reducible repeat (first | refine qj ?_ _ | refine qo ?_ | refine qi ?_ _)); exact yn.out)) : qbl ≠ jv)); have n8_ := qf.mk ((by rw [hg]; exact Nat.ne_of_lt (qax (g := qal) (o := .cells #[.int .i64 0, .int .i64 qas, .string qay, .slice none 0 0] 27 (0, 0)) (by (with_reducible repeat (first | refine qj ?_ _ | refine qo ?_ | refine qi ?_ _)); exact ji.out)) : qal ≠ qbl)); have n9_ := qf.mk ((by rw [hg]; exact Nat.ne_of_gt (qax (g := qal) (o := .cells #[.int .i64 0, .int .i64 qas, .string qay, .slice none 0 0] 27 (0, 0)) (by (with_reducible repeat (first | refine qj ?_ _ | refine qo ?_ | refine qi ?_ _)); exact ji.out)) : qbl ≠ qal)); clear yn; clear ji; clear HB; have yn := n0_; have ji := n1_; have HB := n2_; have qbk := n3_; have zgz := n4_; have qfd := n5_; have qa6 := n6_; have qew := n7_; have qa7 := n8_; have qex := n9_; clear n0_ n1_ n2_ n3_ n4_ n5_ n6_ n7_ n8_ n9_; clear hb hbox hg; have zur := qew.out; have zuv := qa6.out; have zus := qex.out; have zuw := qa7.out; have q2d : w66.cell? ⟨qbl, 0, none⟩ = some (.int .i64 0) := (qb qbk.out 0).trans rfl; have q2e : w66.cell? ⟨qbl, 1, none⟩ = some (.int .i64 0) := (qb qbk.out 1).trans rfl; have q2f : w66.cell? ⟨qbl, 2, none⟩ = some (.string (⟨#[]⟩ : ByteArray)) := (qb qbk.out 2).trans rfl; have q2g : w66.cell? ⟨qbl, 3, none⟩ = some (.slice none 0 0) := (qb qbk.out 3).trans rfl; have qnu := qa qbk.out 0; have qnv := qa qbk.out 1; have qnw := qa qbk.out 2; have qnx := qa qbk.out 3) | (go_at_call 88; (with_reducible refine (ih k4 (by have := HJ3.out; have := qn4.out; have := zg0.out; have := HK4.out; omega) ((zf zm qak).f0) ((zf zm qak).f1) ((zf zm qak).f2) _ _ ((zf zm qak).f3) (wrap64 (a1 - 1)) false _ ?side1 ?side2 ?side3 A59.out).mono ?_); (case side1 => exact Kd.vv qov.out (by repeat (first | (with_reducible first | exact HB.out | apply qg | apply qc | apply qh | refine ql ?_ qa1.out | refine ql ?_ qbp.out | refine ql ?_ qfd.out) | exact HB.out))); (case side2 => exact qor.out); (case side3 => exact Lay.below HLAY.out (by repeat (first | (with_reducible first | exact HB.out | apply qg | apply qc | apply qh | refine ql ?_ qa1.out | refine ql ?_ qbp.out | refine ql ?_ qfd.out) | exact HB.out))); rintro e w70 ⟨rfl, hb⟩; have n0_ := qf.mk (zl (g := jv) (o := .cells #[.int .i64 qw, .int .i64 qy, .string za, .slice (some qff) zm.length jm] 27 (0, 0)) (by (with_reducible repeat (first | refine qj ?_ _ | refine qo ?_ | refine qi ?_ _)); refine jb ?_ qa6.out _; (with_reducible repeat (first | refine qj ?_ _ | refine qo ?_ | refine qi ?_ _)); refine jb ?_ qa6.out _; (with_reducible repeat (first | refine qj ?_ _ | refine qo ?_ | refine qi ?_ _)); refine jb ?_ qa6.out _; (with_reducible repeat (first | refine qj ?_ _ | refine qo ?_ | refine qi ?_ _)); refine jb ?_ qa6.out _; (with_reducible repeat (first | refine qj ?_ _ | refine qo ?_ | refine qi ?_ _)); exact yn.out) hb); have n1_ := qf.mk (zl (g := qal) (o := .cells #[.int .i64 0, .int .i64 qas, .string qay, .slice none 0 0] 27 (0, 0)) (by (with_reducible repeat (first | refine qj ?_ _ | refine qo ?_ | refine qi ?_ _)); refine jb ?_ qa7.out _; (with_reducible repeat (first | refine qj ?_ _ | refine qo ?_ | refine qi ?_ _)); refine jb ?_ qa7.out _; (with_reducible repeat (first | refine qj ?_ _ | refine qo ?_ | refine qi ?_ _)); refine jb ?_ qa7.out _; (with_reducible repeat (first | refine qj ?_ _ | refine qo ?_ | refine qi ?_ _)); refine jb ?_ qa7.out _; (with_reducible repeat (first | refine qj ?_ _ | refine qo ?_ | refine qi ?_ _)); exact ji.out) hb); have n2_ := qf.mk (zl (g := qbl) (o := .cells #[.int .i64 ((zf zm qak).f0), .int .i64 ((zf zm qak).f1), .string ((zf zm qak).f2), .slice qwg ((zf zm qak).f3).length qwk] 27 (0, 0)) (by (with_reducible repeat (first | refine qj ?_ _ | refine qo ?_ | refine qi ?_ _)); refine jc (cs := #[.int .i64 ((zf zm qak).f0), .int .i64 ((zf zm qak).f1), .string ((zf zm qak).f2), .slice none 0 0]) ?_ 3 _ rfl; (with_reducible repeat (first | refine qj ?_ _ | refine qo ?_ | refine qi ?_ _)); refine jc (cs := #[.int .i64 ((zf zm qak).f0), .int .i64 ((zf zm qak).f1), .string (⟨#[]⟩ : ByteArray), .slice none 0 0]) ?_ 2 _ rfl; (with_reducible repeat (first | refine qj ?_ _ | refine qo ?_ | refine qi ?_ _)); refine jc (cs := #[.int .i64 ((zf zm qak).f0), .int .i64 0, .string (⟨#[]⟩ : ByteArray), .slice none 0 0]) ?_ 1 _ rfl; (with_reducible repeat (first | refine qj ?_ _ | refine qo ?_ | refine qi ?_ _)); refine jc (cs := #[.int .i64 0, .int .i64 0, .string (⟨#[]⟩ : ByteArray), .slice none 0 0]) ?_ 0 _ rfl; (with_reducible repeat (first | refine qj ?_ _ | refine qo ?_ | refine qi ?_ _)); exact qbk.out) hb); have n3_ := qf.mk (zk (by repeat (first | (with_reducible first | exact HB.out | apply qg | apply qc | apply qh | refine ql ?_ qa1.out | refine ql ?_ qbp.out | refine ql ?_ qfd.out) | exact HB.out)) hb); clear yn; clear ji; clear qbk; clear HB; have yn := n0_; have ji := n1_; have qbk := n2_; have HB := n3_; clear n0_ n1_ n2_ n3_; (try clear hb); (try clear hb2); (try clear hk); (try clear hi))))
               go_ret
               exact ⟨by first | rfl | (simp [zg, zh] <;> rfl) | (simp [*, zg, zh] <;> rfl), by repeat (first | (with_reducible first | exact HB.out | apply qg | apply qc | apply qh | refine ql ?_ qa1.out | refine ql ?_ qbp.out | refine ql ?_ qfd.out) | exact HB.out)⟩
             ·rw [if_neg c58] at H
              exact absurd H (by simp)
            ·rw [if_neg c57] at H
             exact absurd H (by simp)
           ·rw [if_neg c56] at H
            have c56b0 : decide (qak < (zm.length : Int)) = false := decide_eq_false c56
            clear c56
            obtain rfl := Option.some.inj H
            go_wp2
            repeat (go_quiet (fail); try go_wp2)
            go_ret
            exact ⟨by first | rfl | (simp [zg, zh] <;> rfl) | (simp [*, zg, zh] <;> rfl), by repeat (first | (with_reducible first | exact HB.out | apply qg | apply qc | apply qh | refine ql ?_ qa1.out | refine ql ?_ qbp.out) | exact HB.out)⟩
def qbe.f (k : Nat) (qw : Int) (qy : Int) (za : ByteArray) (zm : List (S27)) : Option (Bool) := (ze.f k qw qy za zm 40).bind fun t159 => (some t159)
theorem qbe.mono : ∀ a0 a1 a2 a3 k, LeO (qbe.f k a0 a1 a2 a3) (qbe.f (k + 1) a0 a1 a2 a3) := by
 intro a0 a1 a2 a3 k
 unfold qbe.f
 repeat' first
   | (with_reducible exact ze.mono _ _ _ _ _ _)
   | (with_reducible exact LeO.refl _)
   | (with_reducible exact LeO.none _)
   | (with_reducible refine LeO.ite ?_ ?_)
   | (with_reducible refine LeO.bind ?_ (fun _ => ?_))
   | exact ze.mono _ _ _ _ _ _
   | exact LeO.none _
   | refine LeO.ite ?_ ?_
   | refine LeO.bind ?_ (fun _ => ?_)
set_option maxHeartbeats 8000000 in
set_option maxRecDepth 100000 in
theorem qbe.calls (k : Nat) (qw : Int) (qy : Int) (za : ByteArray) (jy : Option Addr) (jm : Nat) (zm : List (S27)) (r : Bool) (w : World) (qdg : Kd.C k27 w jy zm.length zm) (qdf : zm.length ≤ jm) (hG : Lay w) (h : qbe.f k qw qy za zm = some r) :
  Calls Tryd.prog 83 #[.agg #[.int .i64 qw, .int .i64 qy, .string za, .slice jy zm.length jm]] w fun e w' => e = .returned (.bool r) ∧ Below w.heap.size w w' := by
 have q0h := Tryd.underlying27
 have qlb := qf.mk qdg
 have qs3 := qf.mk qdf
 clear qdg qdf
 have HB := qf.mk (Below.refl w.heap.size w)
 have HLAY := qf.mk hG
 clear hG
 have H : ((ze.f k qw qy za zm 40).bind fun t159 => (some t159)) = some r := h
 clear h
 replace H := Option.bind_eq_some_iff.mp H
 obtain ⟨t159, A20, H⟩ := H
 replace H : (some t159) = some r := H
 have A2 := qf.mk A20
 clear A20
 obtain rfl := Option.some.inj H
 go_enter Tryd.func83, Tryd.ntmps83
 go_wp2_with (first | ((with_reducible refine qah (N := 1) rfl ?_); refine vk ?hg (N := 1) ?hd (cs := #[.int .i64 qw, .int .i64 qy, .string za, .slice jy zm.length jm]) (t := 27) ?hr ?_; (case hd => rfl); (case hg => rfl); (case hr => first | (go_simp; done) | (go_simp; rfl)); intro q7h hg w3 hbox hb; have n0_ := qf.mk (zk (by repeat (first | (with_reducible first | exact HB.out | apply qg | apply qc | apply qh) | exact HB.out)) hb); have n1_ := qf.mk (hbox); have n2_ := qf.mk ((by rw [hg]; exact (zo (by repeat (first | (with_reducible first | exact HB.out | apply qg | apply qc | apply qh) | exact HB.out))) : w.heap.size ≤ q7h)); have n3_ := qf.mk ((by rw [hg]; exact (zo (by repeat (first | (with_reducible first | exact HB.out | apply qg | apply qc | apply qh) | exact HB.out))) : w.heap.size ≤ q7h)); clear HB; have HB := n0_; have qs7 := n1_; have z2c := n2_; have zor := n3_; clear n0_ n1_ n2_ n3_; clear hb hbox hg; have zqq : w3.cell? ⟨q7h, 0, none⟩ = some (.int .i64 qw) := (qb qs7.out 0).trans rfl; have zqr : w3.cell? ⟨q7h, 1, none⟩ = some (.int .i64 qy) := (qb qs7.out 1).trans rfl; have zqs : w3.cell? ⟨q7h, 2, none⟩ = some (.string za) := (qb qs7.out 2).trans rfl; have zqt : w3.cell? ⟨q7h, 3, none⟩ = some (.slice jy zm.length jm) := (qb qs7.out 3).trans rfl; have zro := qa qs7.out 0; have zrp := qa qs7.out 1; have zrq := qa qs7.out 2; have zrr := qa qs7.out 3) | ((with_reducible refine qaq (f := 88) rfl ?_); refine qcj (some 4) rfl rfl Tryd.func88 (by kernel_rfl) rfl #[.agg #[.int .i64 qw, .int .i64 qy, .string za, .slice jy zm.length jm], .int .i64 40] rfl (by (try simp only [List.map_toArray, List.map_cons, List.map_nil]); first | done | rfl | (simp only [List.length_drop, List.length_take]; rfl)) ?_; (with_reducible refine (ze.calls k qw qy za _ _ zm 40 t159 _ ?side1 ?side2 ?side3 A2.out).mono ?_); (case side1 => repeat (first | exact (Kd.vv qlb.out HB.out) | (with_reducible refine Kd.qba ?_ _) | (with_reducible refine Kd.qaz ?_ _) | (with_reducible refine Kd.qbq ?_))); (case side2 => exact qs3.out); (case side3 => exact Lay.below HLAY.out (by repeat (first | (with_reducible first | exact HB.out | apply qg | apply qc | apply qh | refine ql ?_ zor.out) | exact HB.out))); rintro e w5 ⟨rfl, hb⟩; refine ⟨_, rfl, ?_⟩; have n0_ := qf.mk (zl (g := q7h) (o := .cells #[.int .i64 qw, .int .i64 qy, .string za, .slice jy zm.length jm] 27 (0, 0)) (by (with_reducible repeat (first | refine qj ?_ _ | refine qo ?_ | refine qi ?_ _)); exact qs7.out) hb); have n1_ := qf.mk (zk (by repeat (first | (with_reducible first | exact HB.out | apply qg | apply qc | apply qh | refine ql ?_ zor.out) | exact HB.out)) hb); clear qs7; clear HB; have qs7 := n0_; have HB := n1_; clear n0_ n1_; (try clear hb); (try clear hb2); (try clear hk); (try clear hi)))
 go_ret
 exact ⟨by first | rfl | (simp [zg, zh] <;> rfl) | (simp [*, zg, zh] <;> rfl), by repeat (first | (with_reducible first | exact HB.out | apply qg | apply qc | apply qh | refine ql ?_ zor.out) | exact HB.out)⟩
end Go.Proofs.YtpgkhmdfddejfaaDoor.PV
end
