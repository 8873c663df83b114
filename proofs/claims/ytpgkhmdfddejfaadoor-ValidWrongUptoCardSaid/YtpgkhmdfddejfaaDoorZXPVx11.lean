import Derived.Test.YtpgkhmdfddejfaaDoorZXPVx0
import Derived.Test.YtpgkhmdfddejfaaDoorZXPVx9
import Derived.Test.YtpgkhmdfddejfaaDoorZXPVx10
section
namespace Go.Proofs.YtpgkhmdfddejfaaDoor.PV
open Go.RowKit Go.Proofs.YtpgkhmdfddejfaaDoorW.PrintWords Go.Proofs.YtpgkhmdfddejfaaDoorW.PrintLast Go.Proofs.YtpgkhmdfddejfaaDoorW.PrintMore
attribute [local go_sem] qcn qcp qdi qdj qb6 qb7 qco qcq   -- for this text's walks alone
set_option linter.unusedVariables false
set_option linter.unusedSimpArgs false
mutual
def qp.j0 : Nat → Int → Bool → Int → Int → ByteArray → List (S27) → Option (Bool)
 | 0, _, _, _, _, _, _ => none
 | k + 1, x1, x27, qby, qb8, qcw, qci => if x27 = true then (some false) else (if qby = 2 then (qp.j1 k x1 true qby qb8 qcw qci) else (qp.j1 k x1 (qby == 3) qby qb8 qcw qci))
def qp.j1 : Nat → Int → Bool → Int → Int → ByteArray → List (S27) → Option (Bool)
 | 0, _, _, _, _, _, _ => none
 | k + 1, x1, x5, qby, qb8, qcw, qci => if (x5 != (qcw.toList != ([] : List UInt8))) = true then (qp.j2 k x1 true qby qb8 qcw qci) else (if x5 = true then ((zt.f k qcw).bind fun t208 => (qp.j2 k x1 (!t208) qby qb8 qcw qci)) else (qp.j2 k x1 false qby qb8 qcw qci))
def qp.j3 : Nat → Int → Int → Int → ByteArray → List (S27) → Option (Bool)
 | 0, _, _, _, _, _ => none
 | k + 1, x1, qby, qb8, qcw, qci => qp.l0 k x1 0 qby qb8 qcw qci
def qp.l0 : Nat → Int → Int → Int → Int → ByteArray → List (S27) → Option (Bool)
 | 0, _, _, _, _, _, _ => none
 | k + 1, x1, x6, qby, qb8, qcw, qci => if x6 < (qci.length : Int) then (if 0 ≤ x6 then ((qp.f k ((zf qci x6).f0) ((zf qci x6).f1) ((zf qci x6).f2) ((zf qci x6).f3) (wrap64 (x1 + 1))).bind fun t210 => (if t210 = true then (qp.l0 k x1 (wrap64 (x6 + 1)) qby qb8 qcw qci) else (some false))) else (none)) else (some true)
def qp.j2 : Nat → Int → Bool → Int → Int → ByteArray → List (S27) → Option (Bool)
 | 0, _, _, _, _, _, _ => none
 | k + 1, x1, x36, qby, qb8, qcw, qci => if x36 = true then (some false) else (if qby = 1 then (if qb8 = 0 then (if qby = 0 then (if qb8 = (-9223372036854775808) then (some false) else (if qby > 1 then (qp.j3 k x1 qby qb8 qcw qci) else (qp.j3 k x1 qby qb8 qcw qci))) else (if qby > 1 then (qp.j3 k x1 qby qb8 qcw qci) else (qp.j3 k x1 qby qb8 qcw qci))) else (if qb8 = 1 then (if qby = 0 then (if qb8 = (-9223372036854775808) then (some false) else (if qby > 1 then (some false) else (qp.j3 k x1 qby qb8 qcw qci))) else (if qby > 1 then (some false) else (qp.j3 k x1 qby qb8 qcw qci))) else (some false))) else (if qby = 0 then (if qb8 = (-9223372036854775808) then (some false) else (if qby > 1 then (if qb8 = 0 then (qp.j3 k x1 qby qb8 qcw qci) else (some false)) else (qp.j3 k x1 qby qb8 qcw qci))) else (if qby > 1 then (if qb8 = 0 then (qp.j3 k x1 qby qb8 qcw qci) else (some false)) else (qp.j3 k x1 qby qb8 qcw qci))))
def qp.f : Nat → Int → Int → ByteArray → List (S27) → Int → Option (Bool)
 | 0, _, _, _, _, _ => none
 | k + 1, qw, qy, za, zm, a1 => if a1 > 40 then (qp.j0 k a1 true qw qy za zm) else (if qw < 0 then (qp.j0 k a1 true qw qy za zm) else (if qw > 19 then (qp.j0 k a1 true qw qy za zm) else ((z8.f k qw).bind fun zgd => (qp.j0 k a1 ((zm.length : Int) != zgd) qw qy za zm))))
end
theorem qp.qb2 : ∀ k, (∀ y0 y1 y2 y3 y4, LeO (qp.f k y0 y1 y2 y3 y4) (qp.f (k + 1) y0 y1 y2 y3 y4)) ∧ (∀ y0 y1 y2 y3 y4 y5, LeO (qp.j0 k y0 y1 y2 y3 y4 y5) (qp.j0 (k + 1) y0 y1 y2 y3 y4 y5)) ∧ (∀ y0 y1 y2 y3 y4 y5, LeO (qp.j1 k y0 y1 y2 y3 y4 y5) (qp.j1 (k + 1) y0 y1 y2 y3 y4 y5)) ∧ (∀ y0 y1 y2 y3 y4, LeO (qp.j3 k y0 y1 y2 y3 y4) (qp.j3 (k + 1) y0 y1 y2 y3 y4)) ∧ (∀ y0 y1 y2 y3 y4 y5, LeO (qp.l0 k y0 y1 y2 y3 y4 y5) (qp.l0 (k + 1) y0 y1 y2 y3 y4 y5)) ∧ (∀ y0 y1 y2 y3 y4 y5, LeO (qp.j2 k y0 y1 y2 y3 y4 y5) (qp.j2 (k + 1) y0 y1 y2 y3 y4 y5))
 | 0 => ⟨fun _ _ _ _ _ r h => by simp [qp.f] at h, fun _ _ _ _ _ _ r h => by simp [qp.j0] at h, fun _ _ _ _ _ _ r h => by simp [qp.j1] at h, fun _ _ _ _ _ r h => by simp [qp.j3] at h, fun _ _ _ _ _ _ r h => by simp [qp.l0] at h, fun _ _ _ _ _ _ r h => by simp [qp.j2] at h⟩
 | k + 1 => by
  obtain ⟨ih0, ih1, ih2, ih3, ih4, ih5⟩ := qp.qb2 k
  refine ⟨?_, ?_, ?_, ?_, ?_, ?_⟩
  ·intro y0 y1 y2 y3 y4
   unfold qp.f
   repeat' first
   | (with_reducible exact ih0 _ _ _ _ _)
   | (with_reducible exact ih1 _ _ _ _ _ _)
   | (with_reducible exact ih2 _ _ _ _ _ _)
   | (with_reducible exact ih3 _ _ _ _ _)
   | (with_reducible exact ih4 _ _ _ _ _ _)
   | (with_reducible exact ih5 _ _ _ _ _ _)
   | (with_reducible exact zt.mono _ _)
   | (with_reducible exact z8.mono _ _)
   | (with_reducible exact LeO.refl _)
   | (with_reducible exact LeO.none _)
   | (with_reducible refine LeO.ite ?_ ?_)
   | (with_reducible refine LeO.bind ?_ (fun _ => ?_))
   | exact ih0 _ _ _ _ _
   | exact ih1 _ _ _ _ _ _
   | exact ih2 _ _ _ _ _ _
   | exact ih3 _ _ _ _ _
   | exact ih4 _ _ _ _ _ _
   | exact ih5 _ _ _ _ _ _
   | exact zt.mono _ _
   | exact z8.mono _ _
   | exact LeO.none _
   | refine LeO.ite ?_ ?_
   | refine LeO.bind ?_ (fun _ => ?_)
  ·intro y0 y1 y2 y3 y4 y5
   unfold qp.j0
   repeat' first
   | (with_reducible exact ih0 _ _ _ _ _)
   | (with_reducible exact ih1 _ _ _ _ _ _)
   | (with_reducible exact ih2 _ _ _ _ _ _)
   | (with_reducible exact ih3 _ _ _ _ _)
   | (with_reducible exact ih4 _ _ _ _ _ _)
   | (with_reducible exact ih5 _ _ _ _ _ _)
   | (with_reducible exact zt.mono _ _)
   | (with_reducible exact z8.mono _ _)
   | (with_reducible exact LeO.refl _)
   | (with_reducible exact LeO.none _)
   | (with_reducible refine LeO.ite ?_ ?_)
   | (with_reducible refine LeO.bind ?_ (fun _ => ?_))
   | exact ih0 _ _ _ _ _
   | exact ih1 _ _ _ _ _ _
   | exact ih2 _ _ _ _ _ _
   | exact ih3 _ _ _ _ _
   | exact ih4 _ _ _ _ _ _
   | exact ih5 _ _ _ _ _ _
   | exact zt.mono _ _
   | exact z8.mono _ _
   | exact LeO.none _
   | refine LeO.ite ?_ ?_
   | refine LeO.bind ?_ (fun _ => ?_)
  ·intro y0 y1 y2 y3 y4 y5
   unfold qp.j1
   repeat' first
   | (with_reducible exact ih0 _ _ _ _ _)
   | (with_reducible exact ih1 _ _ _ _ _ _)
   | (with_reducible exact ih2 _ _ _ _ _ _)
   | (with_reducible exact ih3 _ _ _ _ _)
   | (with_reducible exact ih4 _ _ _ _ _ _)
   | (with_reducible exact ih5 _ _ _ _ _ _)
   | (with_reducible exact zt.mono _ _)
   | (with_reducible exact z8.mono _ _)
   | (with_reducible exact LeO.refl _)
   | (with_reducible exact LeO.none _)
   | (with_reducible refine LeO.ite ?_ ?_)
   | (with_reducible refine LeO.bind ?_ (fun _ => ?_))
   | exact ih0 _ _ _ _ _
   | exact ih1 _ _ _ _ _ _
   | exact ih2 _ _ _ _ _ _
   | exact ih3 _ _ _ _ _
   | exact ih4 _ _ _ _ _ _
   | exact ih5 _ _ _ _ _ _
   | exact zt.mono _ _
   | exact z8.mono _ _
   | exact LeO.none _
   | refine LeO.ite ?_ ?_
   | refine LeO.bind ?_ (fun _ => ?_)
  ·intro y0 y1 y2 y3 y4
   unfold qp.j3
   repeat' first
   | (with_reducible exact ih0 _ _ _ _ _)
   | (with_reducible exact ih1 _ _ _ _ _ _)
   | (with_reducible exact ih2 _ _ _ _ _ _)
   | (with_reducible exact ih3 _ _ _ _ _)
   | (with_reducible exact ih4 _ _ _ _ _ _)
   | (with_reducible exact ih5 _ _ _ _ _ _)
   | (with_reducible exact zt.mono _ _)
   | (with_reducible exact z8.mono _ _)
   | (with_reducible exact LeO.refl _)
   | (with_reducible exact LeO.none _)
   | (with_reducible refine LeO.ite ?_ ?_)
   | (with_reducible refine LeO.bind ?_ (fun _ => ?_))
   | exact ih0 _ _ _ _ _
   | exact ih1 _ _ _ _ _ _
   | exact ih2 _ _ _ _ _ _
   | exact ih3 _ _ _ _ _
   | exact ih4 _ _ _ _ _ _
   | exact ih5 _ _ _ _ _ _
   | exact zt.mono _ _
   | exact z8.mono _ _
   | exact LeO.none _
   | refine LeO.ite ?_ ?_
   | refine LeO.bind ?_ (fun _ => ?_)
  ·intro y0 y1 y2 y3 y4 y5
   unfold qp.l0
   repeat' first
   | (with_reducible exact ih0 _ _ _ _ _)
   | (with_reducible exact ih1 _ _ _ _ _ _)
   | (with_reducible exact ih2 _ _ _ _ _ _)
   | (with_reducible exact ih3 _ _ _ _ _)
   | (with_reducible exact ih4 _ _ _ _ _ _)
   | (with_reducible exact ih5 _ _ _ _ _ _)
   | (with_reducible exact zt.mono _ _)
   | (with_reducible exact z8.mono _ _)
   | (with_reducible exact LeO.refl _)
   | (with_reducible exact LeO.none _)
   | (with_reducible refine LeO.ite ?_ ?_)
   | (with_reducible refine LeO.bind ?_ (fun _ => ?_))
   | exact ih0 _ _ _ _ _
   | exact ih1 _ _ _ _ _ _
   | exact ih2 _ _ _ _ _ _
   | exact ih3 _ _ _ _ _
   | exact ih4 _ _ _ _ _ _
   | exact ih5 _ _ _ _ _ _
   | exact zt.mono _ _
   | exact z8.mono _ _
   | exact LeO.none _
   | refine LeO.ite ?_ ?_
   | refine LeO.bind ?_ (fun _ => ?_)
  ·intro y0 y1 y2 y3 y4 y5
   unfold qp.j2
   repeat' first
   | (with_reducible exact ih0 _ _ _ _ _)
   | (with_reducible exact ih1 _ _ _ _ _ _)
   | (with_reducible exact ih2 _ _ _ _ _ _)
   | (with_reducible exact ih3 _ _ _ _ _)
   | (with_reducible exact ih4 _ _ _ _ _ _)
   | (with_reducible exact ih5 _ _ _ _ _ _)
   | (with_reducible exact zt.mono _ _)
   | (with_reducible exact z8.mono _ _)
   | (with_reducible exact LeO.refl _)
   | (with_reducible exact LeO.none _)
   | (with_reducible refine LeO.ite ?_ ?_)
   | (with_reducible refine LeO.bind ?_ (fun _ => ?_))
   | exact ih0 _ _ _ _ _
   | exact ih1 _ _ _ _ _ _
   | exact ih2 _ _ _ _ _ _
   | exact ih3 _ _ _ _ _
   | exact ih4 _ _ _ _ _ _
   | exact ih5 _ _ _ _ _ _
   | exact zt.mono _ _
   | exact z8.mono _ _
   | exact LeO.none _
   | refine LeO.ite ?_ ?_
   | refine LeO.bind ?_ (fun _ => ?_)
theorem qp.mono : ∀ a0 a1 a2 a3 a4 k, LeO (qp.f k a0 a1 a2 a3 a4) (qp.f (k + 1) a0 a1 a2 a3 a4) := by
 intro a0 a1 a2 a3 a4 k
 obtain ⟨ih0, ih1, ih2, ih3, ih4, ih5⟩ := qp.qb2 k
 exact ih0 a0 a1 a2 a3 a4
set_option maxHeartbeats 8000000 in
set_option maxRecDepth 100000 in
theorem qp.calls (k : Nat) : ∀ (qw : Int) (qy : Int) (za : ByteArray) (jy : Option Addr) (jm : Nat) (zm : List (S27)) (a1 : Int) (r : Bool) (w : World) (qdg : Kd.C k27 w jy zm.length zm) (qdf : zm.length ≤ jm) (h : qp.f k qw qy za zm a1 = some r),
  Calls Tryd.prog 47 #[.agg #[.int .i64 qw, .int .i64 qy, .string za, .slice jy zm.length jm], .int .i64 a1] w fun e w' => e = .returned (.bool r) ∧ Below w.heap.size w w' := by
 induction k using Nat.strongRecOn with
 | _ k ih =>
 intro qw qy za jy jm zm a1 r w qdg qdf h
 cases k with
 | zero => exact absurd h (by simp [qp.f])
 | succ k =>
 simp only [qp.f] at h
 have q0h := Tryd.underlying27
 have qlb := qf.mk qdg
 have qs3 := qf.mk qdf
 clear qdg qdf
 have HB := qf.mk (Below.refl w.heap.size w)
 have H : (if a1 > 40 then (qp.j0 k a1 true qw qy za zm) else (if qw < 0 then (qp.j0 k a1 true qw qy za zm) else (if qw > 19 then (qp.j0 k a1 true qw qy za zm) else ((z8.f k qw).bind fun zgd => (qp.j0 k a1 ((zm.length : Int) != zgd) qw qy za zm))))) = some r := h
 clear h
 have HC3 := qf.mk H
 clear H
 go_enter Tryd.func47, Tryd.ntmps47
 go_upto_region 1 with (first | ((with_reducible refine qah (N := 2) rfl ?_); (try (refine qbg (by rfl) ?_; dsimp only)); refine vk ?hg (N := 2) ?hd (cs := #[.int .i64 qw, .int .i64 qy, .string za, .slice jy zm.length jm]) (t := 27) ?hr ?_; (case hd => rfl); (case hg => rfl); (case hr => first | (go_simp; done) | (go_simp; rfl)); intro jr hg w4 hbox hb; have n0_ := qf.mk (zk (by repeat (first | (with_reducible first | exact HB.out | apply qg | apply qc | apply qh) | exact HB.out)) hb); have n1_ := qf.mk (hbox); have n2_ := qf.mk ((by rw [hg]; exact (zo (by repeat (first | (with_reducible first | exact HB.out | apply qg | apply qc | apply qh) | exact HB.out))) : w.heap.size ≤ jr)); have n3_ := qf.mk ((by rw [hg]; exact (zo (by repeat (first | (with_reducible first | exact HB.out | apply qg | apply qc | apply qh) | exact HB.out))) : w.heap.size ≤ jr)); clear HB; have HB := n0_; have zu := n1_; have zuj := n2_; have qcd := n3_; clear n0_ n1_ n2_ n3_; clear hb hbox hg))
 repeat (go_quiet (first | ((with_reducible refine qah (N := 2) rfl ?_); (try (refine qbg (by rfl) ?_; dsimp only)); refine vk ?hg (N := 2) ?hd (cs := #[.int .i64 qw, .int .i64 qy, .string za, .slice jy zm.length jm]) (t := 27) ?hr ?_; (case hd => rfl); (case hg => rfl); (case hr => first | (go_simp; done) | (go_simp; rfl)); intro jr hg w4 hbox hb; have n0_ := qf.mk (zk (by repeat (first | (with_reducible first | exact HB.out | apply qg | apply qc | apply qh) | exact HB.out)) hb); have n1_ := qf.mk (hbox); have n2_ := qf.mk ((by rw [hg]; exact (zo (by repeat (first | (with_reducible first | exact HB.out | apply qg | apply qc | apply qh) | exact HB.out))) : w.heap.size ≤ jr)); have n3_ := qf.mk ((by rw [hg]; exact (zo (by repeat (first | (with_reducible first | exact HB.out | apply qg | apply qc | apply qh) | exact HB.out))) : w.heap.size ≤ jr)); clear HB; have HB := n0_; have zu := n1_; have zuj := n2_; have qcd := n3_; clear n0_ n1_ n2_ n3_; clear hb hbox hg)); go_upto_region 1 with (first | ((with_reducible refine qah (N := 2) rfl ?_); (try (refine qbg (by rfl) ?_; dsimp only)); refine vk ?hg (N := 2) ?hd (cs := #[.int .i64 qw, .int .i64 qy, .string za, .slice jy zm.length jm]) (t := 27) ?hr ?_; (case hd => rfl); (case hg => rfl); (case hr => first | (go_simp; done) | (go_simp; rfl)); intro jr hg w4 hbox hb; have n0_ := qf.mk (zk (by repeat (first | (with_reducible first | exact HB.out | apply qg | apply qc | apply qh) | exact HB.out)) hb); have n1_ := qf.mk (hbox); have n2_ := qf.mk ((by rw [hg]; exact (zo (by repeat (first | (with_reducible first | exact HB.out | apply qg | apply qc | apply qh) | exact HB.out))) : w.heap.size ≤ jr)); have n3_ := qf.mk ((by rw [hg]; exact (zo (by repeat (first | (with_reducible first | exact HB.out | apply qg | apply qc | apply qh) | exact HB.out))) : w.heap.size ≤ jr)); clear HB; have HB := n0_; have zu := n1_; have zuj := n2_; have qcd := n3_; clear n0_ n1_ n2_ n3_; clear hb hbox hg)))
 (try simp only [Act.put, List.setIfInBounds_toArray, List.set_cons_zero, List.set_cons_succ])
 go_cut [27] (fun v27 wc => ∃ (kq : Nat) (zn4 : Bool), v27 = .bool zn4 ∧ qf (qp.j0 kq a1 zn4 qw qy za zm = some r) ∧ qf (kq ≤ k) ∧ qf (wc.heap[jr]? = some (.cells #[.int .i64 qw, .int .i64 qy, .string za, (.slice jy zm.length jm)] 27 (0, 0))) ∧ qf (Below w.heap.size w wc))
 case first =>
  have H := HC3.out
  clear HC3
  by_cases c5 : a1 > 40
  ·rw [if_pos c5] at H
   have c5b0 : decide (40 < a1) = true := decide_eq_true c5
   clear c5
   (first | rw [c5b0] | (simp only [vz, vw]; rw [c5b0]) | skip)
   have H' := qf.mk H
   clear H
   go_wp2
   repeat (go_quiet (fail); try go_wp2)
   go_meet
   case rel => exact ⟨_, (true), (by first | rfl | (simp; done) | (simp [*]; done)), H', ⟨by first | omega | exact Nat.le_refl _⟩, ⟨by (with_reducible repeat (first | refine qj ?_ _ | refine qo ?_ | refine qi ?_ _)); exact zu.out⟩, ⟨by repeat (first | (with_reducible first | exact HB.out | apply qg | apply qc | apply qh | refine ql ?_ qcd.out) | exact HB.out)⟩⟩
  ·rw [if_neg c5] at H
   have c5b0 : decide (40 < a1) = false := decide_eq_false c5
   clear c5
   (first | rw [c5b0] | (simp only [vz, vw]; rw [c5b0]) | skip)
   by_cases c6 : qw < 0
   ·rw [if_pos c6] at H
    have c6b0 : decide (qw < 0) = true := decide_eq_true c6
    clear c6
    have H' := qf.mk H
    clear H
    have qf7 : w4.cell? ⟨jr, 0, none⟩ = some (.int .i64 qw) := (qb zu.out 0).trans rfl
    have qf8 : w4.cell? ⟨jr, 1, none⟩ = some (.int .i64 qy) := (qb zu.out 1).trans rfl
    have qf9 : w4.cell? ⟨jr, 2, none⟩ = some (.string za) := (qb zu.out 2).trans rfl
    have qga : w4.cell? ⟨jr, 3, none⟩ = some (.slice jy zm.length jm) := (qb zu.out 3).trans rfl
    have qdu := qa zu.out 0
    have qdv := qa zu.out 1
    have qdw := qa zu.out 2
    have qdx := qa zu.out 3
    go_wp2
    repeat (go_quiet (fail); try go_wp2)
    go_meet
    case rel => exact ⟨_, (true), (by first | rfl | (simp; done) | (simp [*]; done)), H', ⟨by first | omega | exact Nat.le_refl _⟩, ⟨by (with_reducible repeat (first | refine qj ?_ _ | refine qo ?_ | refine qi ?_ _)); exact zu.out⟩, ⟨by repeat (first | (with_reducible first | exact HB.out | apply qg | apply qc | apply qh | refine ql ?_ qcd.out) | exact HB.out)⟩⟩
   ·rw [if_neg c6] at H
    have c6b0 : decide (qw < 0) = false := decide_eq_false c6
    clear c6
    by_cases c8 : qw > 19
    ·rw [if_pos c8] at H
     have c8b0 : decide (19 < qw) = true := decide_eq_true c8
     clear c8
     have H' := qf.mk H
     clear H
     have qd5 : w4.cell? ⟨jr, 0, none⟩ = some (.int .i64 qw) := (qb zu.out 0).trans rfl
     have qd6 : w4.cell? ⟨jr, 1, none⟩ = some (.int .i64 qy) := (qb zu.out 1).trans rfl
     have qd7 : w4.cell? ⟨jr, 2, none⟩ = some (.string za) := (qb zu.out 2).trans rfl
     have qd8 : w4.cell? ⟨jr, 3, none⟩ = some (.slice jy zm.length jm) := (qb zu.out 3).trans rfl
     have qc0 := qa zu.out 0
     have qc7 := qa zu.out 1
     have qc8 := qa zu.out 2
     have qc9 := qa zu.out 3
     go_wp2
     repeat (go_quiet (fail); try go_wp2)
     go_meet
     case rel => exact ⟨_, (true), (by first | rfl | (simp; done) | (simp [*]; done)), H', ⟨by first | omega | exact Nat.le_refl _⟩, ⟨by (with_reducible repeat (first | refine qj ?_ _ | refine qo ?_ | refine qi ?_ _)); exact zu.out⟩, ⟨by repeat (first | (with_reducible first | exact HB.out | apply qg | apply qc | apply qh | refine ql ?_ qcd.out) | exact HB.out)⟩⟩
    ·rw [if_neg c8] at H
     have c8b0 : decide (19 < qw) = false := decide_eq_false c8
     clear c8
     replace H := Option.bind_eq_some_iff.mp H
     obtain ⟨zgd, q8s, H⟩ := H
     replace H : (qp.j0 k a1 ((zm.length : Int) != zgd) qw qy za zm) = some r := H
     have A10 := qf.mk q8s
     clear q8s
     have H' := qf.mk H
     clear H
     have qfr : w4.cell? ⟨jr, 0, none⟩ = some (.int .i64 qw) := (qb zu.out 0).trans rfl
     have qfs : w4.cell? ⟨jr, 1, none⟩ = some (.int .i64 qy) := (qb zu.out 1).trans rfl
     have qft : w4.cell? ⟨jr, 2, none⟩ = some (.string za) := (qb zu.out 2).trans rfl
     have qfu : w4.cell? ⟨jr, 3, none⟩ = some (.slice jy zm.length jm) := (qb zu.out 3).trans rfl
     have qfv := qa zu.out 0
     have qfw := qa zu.out 1
     have qfx := qa zu.out 2
     have qfy := qa zu.out 3
     go_wp2_with (first | (go_at_call 70; (with_reducible refine (z8.calls k qw zgd _ A10.out).mono ?_); rintro e w' ⟨rfl, ⟨nd, rfl⟩⟩; (try first | exact ⟨rfl, _, World.drewN_drewN _ _ _⟩ | exact ⟨rfl, _, Eq.trans (World.drewN_drewN _ _ _) (congrArg (World.drewN _) (Nat.add_assoc _ _ _))⟩)))
     repeat (go_quiet (first | (go_at_call 70; (with_reducible refine (z8.calls k qw zgd _ A10.out).mono ?_); rintro e w' ⟨rfl, ⟨nd, rfl⟩⟩; (try first | exact ⟨rfl, _, World.drewN_drewN _ _ _⟩ | exact ⟨rfl, _, Eq.trans (World.drewN_drewN _ _ _) (congrArg (World.drewN _) (Nat.add_assoc _ _ _))⟩))); try go_wp2_with (first | (go_at_call 70; (with_reducible refine (z8.calls k qw zgd _ A10.out).mono ?_); rintro e w' ⟨rfl, ⟨nd, rfl⟩⟩; (try first | exact ⟨rfl, _, World.drewN_drewN _ _ _⟩ | exact ⟨rfl, _, Eq.trans (World.drewN_drewN _ _ _) (congrArg (World.drewN _) (Nat.add_assoc _ _ _))⟩))))
     go_meet
     case rel => exact ⟨_, (((zm.length : Int) != zgd)), (by first | rfl | (simp; done) | (simp [*]; done)), H', ⟨by first | omega | exact Nat.le_refl _⟩, ⟨by (with_reducible repeat (first | refine qj ?_ _ | refine qo ?_ | refine qi ?_ _)); exact zu.out⟩, ⟨by repeat (first | (with_reducible first | exact HB.out | apply qg | apply qc | apply qh | refine ql ?_ qcd.out) | exact HB.out)⟩⟩
 case rest =>
  clear HC3
  (try clear p2); (try clear c4); (try clear c5); (try clear c5b0); (try clear c6); (try clear c6b0); (try clear c8); (try clear c8b0); (try clear qfr qfs qft qfu); (try clear qf7 qf8 qf9 qga); (try clear qd5 qd6 qd7 qd8); (try clear qfv qfw qfx qfy); (try clear qdu qdv qdw qdx); (try clear qc0 qc7 qc8 qc9)
  obtain ⟨kq, zn4, rfl, HA, HJ2, zu, HB⟩ := hcut
  cases kq with
  | zero => exact absurd HA.out (by simp [qp.j0])
  | succ kj2 =>
   have H := HA.out
   clear HA
   simp only [qp.j0] at H
   by_cases c12 : zn4 = true
   ·subst c12
    have H1 : (some false) = some r := by rw [if_pos rfl] at H; exact H
    clear H
    have H := H1
    clear H1
    obtain rfl := Option.some.inj H
    go_wp2
    repeat (go_quiet (fail); try go_wp2)
    go_ret
    exact ⟨by first | rfl | (simp [zg, zh] <;> rfl) | (simp [*, zg, zh] <;> rfl), by repeat (first | (with_reducible first | exact HB.out | apply qg | apply qc | apply qh | refine ql ?_ qcd.out) | exact HB.out)⟩
   ·replace c12 := Bool.eq_false_iff.mpr c12
    subst c12
    have H1 : (if qw = 2 then (qp.j1 kj2 a1 true qw qy za zm) else (qp.j1 kj2 a1 (qw == 3) qw qy za zm)) = some r := by rw [if_neg (show ¬ (false = true) by decide)] at H; exact H
    clear H
    have H := H1
    clear H1
    have zu1 := qf.mk H
    clear H
    go_upto_region 3 with (fail)
    repeat (go_quiet (fail); go_upto_region 3 with (fail))
    go_cut [5] (fun v5 wc => ∃ (kq : Nat) (zn8 : Bool), v5 = .bool zn8 ∧ qf (qp.j1 kq a1 zn8 qw qy za zm = some r) ∧ qf (kq ≤ kj2) ∧ qf (wc.heap[jr]? = some (.cells #[.int .i64 qw, .int .i64 qy, .string za, (.slice jy zm.length jm)] 27 (0, 0))) ∧ qf (Below w.heap.size w wc))
    case first =>
     have H := zu1.out
     clear zu1
     by_cases c14 : qw = 2
     ·rw [if_pos c14] at H
      have c14b0 : (qw == 2) = true := beq_iff_eq.mpr c14
      have c14b1 : (qw != 2) = false := bne_eq_false_iff_eq.mpr c14
      clear c14
      (first | rw [c14b0] | (simp only [vz, vw]; rw [c14b0]) | skip)
      have H' := qf.mk H
      clear H
      have qei : wc.cell? ⟨jr, 0, none⟩ = some (.int .i64 qw) := (qb zu.out 0).trans rfl
      have qej : wc.cell? ⟨jr, 1, none⟩ = some (.int .i64 qy) := (qb zu.out 1).trans rfl
      have qek : wc.cell? ⟨jr, 2, none⟩ = some (.string za) := (qb zu.out 2).trans rfl
      have qel : wc.cell? ⟨jr, 3, none⟩ = some (.slice jy zm.length jm) := (qb zu.out 3).trans rfl
      have qcr := qa zu.out 0
      have qcs := qa zu.out 1
      have qct := qa zu.out 2
      have qcu := qa zu.out 3
      go_wp2
      repeat (go_quiet (fail); try go_wp2)
      go_meet
      case rel => exact ⟨_, (true), (by first | rfl | (simp; done) | (simp [*]; done)), H', ⟨by have := HJ2.out; first | omega | exact Nat.le_refl _⟩, ⟨by (with_reducible repeat (first | refine qj ?_ _ | refine qo ?_ | refine qi ?_ _)); exact zu.out⟩, ⟨by repeat (first | (with_reducible first | exact HB.out | apply qg | apply qc | apply qh | refine ql ?_ qcd.out) | exact HB.out)⟩⟩
     ·rw [if_neg c14] at H
      have c14b0 : (qw == 2) = false := beq_eq_false_iff_ne.mpr c14
      have c14b1 : (qw != 2) = true := bne_iff_ne.mpr c14
      (first | rw [c14b0] | (simp only [vz, vw]; rw [c14b0]) | skip)
      have H' := qf.mk H
      clear H
      have qg6 : wc.cell? ⟨jr, 0, none⟩ = some (.int .i64 qw) := (qb zu.out 0).trans rfl
      have qg7 : wc.cell? ⟨jr, 1, none⟩ = some (.int .i64 qy) := (qb zu.out 1).trans rfl
      have qg8 : wc.cell? ⟨jr, 2, none⟩ = some (.string za) := (qb zu.out 2).trans rfl
      have qg9 : wc.cell? ⟨jr, 3, none⟩ = some (.slice jy zm.length jm) := (qb zu.out 3).trans rfl
      have qdq := qa zu.out 0
      have qdr := qa zu.out 1
      have qds := qa zu.out 2
      have qdt := qa zu.out 3
      go_wp2
      repeat (go_quiet (fail); try go_wp2)
      go_meet
      case rel => exact ⟨_, ((qw == 3)), (by first | rfl | (simp; done) | (simp [*]; done)), H', ⟨by have := HJ2.out; first | omega | exact Nat.le_refl _⟩, ⟨by (with_reducible repeat (first | refine qj ?_ _ | refine qo ?_ | refine qi ?_ _)); exact zu.out⟩, ⟨by repeat (first | (with_reducible first | exact HB.out | apply qg | apply qc | apply qh | refine ql ?_ qcd.out) | exact HB.out)⟩⟩
    case rest =>
     clear zu1
     (try clear c1); (try clear p2); (try clear c4); (try clear c5); (try clear c5b0); (try clear c6); (try clear c6b0); (try clear c8); (try clear c8b0); (try clear c12); (try clear c14); (try clear c14b0); (try clear c14b1); (try clear qfr qfs qft qfu); (try clear qei qej qek qel); (try clear qg6 qg7 qg8 qg9); (try clear qf7 qf8 qf9 qga); (try clear qd5 qd6 qd7 qd8); (try clear qfv qfw qfx qfy); (try clear qcr qcs qct qcu); (try clear qdq qdr qds qdt); (try clear qdu qdv qdw qdx); (try clear qc0 qc7 qc8 qc9); (try clear p2)
     obtain ⟨kq, zn8, rfl, HA, qmf, zu, HB⟩ := hcut
     cases kq with
     | zero => exact absurd HA.out (by simp [qp.j1])
     | succ zfz =>
      have H := HA.out
      clear HA
      simp only [qp.j1] at H
      have zii := qf.mk H
      clear H
      go_upto_block 0 with (fail)
      repeat (go_quiet (fail); go_upto_block 0 with (fail))
      go_cut [] (fun wc => ∃ (kq : Nat), qf (qp.j3 kq a1 qw qy za zm = some r) ∧ qf (kq ≤ zfz) ∧ qf (wc.heap[jr]? = some (.cells #[.int .i64 qw, .int .i64 qy, .string za, (.slice jy zm.length jm)] 27 (0, 0))) ∧ qf (Below w.heap.size w wc))
      case first =>
       have H := zii.out
       clear zii
       have zij := qf.mk H
       clear H
       go_upto_region 4 with (fail)
       repeat (go_quiet (fail); go_upto_region 4 with (fail))
       go_cut [36] (fun v36 wc => ∃ (kq : Nat) (zgq : Bool), v36 = .bool zgq ∧ qf (qp.j2 kq a1 zgq qw qy za zm = some r) ∧ qf (kq ≤ zfz) ∧ qf (wc.heap[jr]? = some (.cells #[.int .i64 qw, .int .i64 qy, .string za, (.slice jy zm.length jm)] 27 (0, 0))) ∧ qf (Below w.heap.size w wc))
       case first =>
        have H := zij.out
        clear zij
        cases zn8 with
        | true =>
          by_cases hE : za.toList = []
          ·rw [if_pos (by simp [hE])] at H
           have hz2 : za.toList.isEmpty = true := by simp [hE]
           have H' := qf.mk H
           clear H
           have qjq : wc.cell? ⟨jr, 0, none⟩ = some (.int .i64 qw) := (qb zu.out 0).trans rfl
           have qjr : wc.cell? ⟨jr, 1, none⟩ = some (.int .i64 qy) := (qb zu.out 1).trans rfl
           have qjs : wc.cell? ⟨jr, 2, none⟩ = some (.string za) := (qb zu.out 2).trans rfl
           have qjt : wc.cell? ⟨jr, 3, none⟩ = some (.slice jy zm.length jm) := (qb zu.out 3).trans rfl
           have qem := qa zu.out 0
           have qen := qa zu.out 1
           have qeo := qa zu.out 2
           have qep := qa zu.out 3
           go_wp2
           repeat (go_quiet (fail); try go_wp2)
           go_meet
           case rel => exact ⟨_, (true), (by first | rfl | (simp; done) | (simp [*]; done)), H', ⟨by have := HJ2.out; have := qmf.out; first | omega | exact Nat.le_refl _⟩, ⟨by (with_reducible repeat (first | refine qj ?_ _ | refine qo ?_ | refine qi ?_ _)); exact zu.out⟩, ⟨by repeat (first | (with_reducible first | exact HB.out | apply qg | apply qc | apply qh | refine ql ?_ qcd.out) | exact HB.out)⟩⟩
          ·rw [if_neg (by simp [hE])] at H
           have hz2 : za.toList.isEmpty = false := by simp [hE]
           have H1 : ((zt.f zfz za).bind fun t208 => (qp.j2 zfz a1 (!t208) qw qy za zm)) = some r := by rw [if_pos rfl] at H; exact H
           clear H
           have H := H1
           clear H1
           replace H := Option.bind_eq_some_iff.mp H
           obtain ⟨t208, zwr, H⟩ := H
           replace H : (qp.j2 zfz a1 (!t208) qw qy za zm) = some r := H
           have A22 := qf.mk zwr
           clear zwr
           have H' := qf.mk H
           clear H
           have qxi : wc.cell? ⟨jr, 0, none⟩ = some (.int .i64 qw) := (qb zu.out 0).trans rfl
           have qxj : wc.cell? ⟨jr, 1, none⟩ = some (.int .i64 qy) := (qb zu.out 1).trans rfl
           have qxk : wc.cell? ⟨jr, 2, none⟩ = some (.string za) := (qb zu.out 2).trans rfl
           have qxl : wc.cell? ⟨jr, 3, none⟩ = some (.slice jy zm.length jm) := (qb zu.out 3).trans rfl
           have qyf := qa zu.out 0
           have qyg := qa zu.out 1
           have qyh := qa zu.out 2
           have qyi := qa zu.out 3
           go_wp2_with (first | (go_at_call 21; (with_reducible refine (zt.calls zfz za t208 _ A22.out).mono ?_); rintro e w24 ⟨rfl, hb⟩; have n0_ := qf.mk (zl (g := jr) (o := .cells #[.int .i64 qw, .int .i64 qy, .string za, .slice jy zm.length jm] 27 (0, 0)) (by (with_reducible repeat (first | refine qj ?_ _ | refine qo ?_ | refine qi ?_ _)); exact zu.out) hb); have n1_ := qf.mk (zk (by repeat (first | (with_reducible first | exact HB.out | apply qg | apply qc | apply qh | refine ql ?_ qcd.out) | exact HB.out)) hb); clear zu; clear HB; have zu := n0_; have HB := n1_; clear n0_ n1_; (try clear hb); (try clear hb2); (try clear hk); (try clear hi)))
           repeat (go_quiet (first | (go_at_call 21; (with_reducible refine (zt.calls zfz za t208 _ A22.out).mono ?_); rintro e w24 ⟨rfl, hb⟩; have n0_ := qf.mk (zl (g := jr) (o := .cells #[.int .i64 qw, .int .i64 qy, .string za, .slice jy zm.length jm] 27 (0, 0)) (by (with_reducible repeat (first | refine qj ?_ _ | refine qo ?_ | refine qi ?_ _)); exact zu.out) hb); have n1_ := qf.mk (zk (by repeat (first | (with_reducible first | exact HB.out | apply qg | apply qc | apply qh | refine ql ?_ qcd.out) | exact HB.out)) hb); clear zu; clear HB; have zu := n0_; have HB := n1_; clear n0_ n1_; (try clear hb); (try clear hb2); (try clear hk); (try clear hi))); try go_wp2_with (first | (go_at_call 21; (with_reducible refine (zt.calls zfz za t208 _ A22.out).mono ?_); rintro e w24 ⟨rfl, hb⟩; have n0_ := qf.mk (zl (g := jr) (o := .cells #[.int .i64 qw, .int .i64 qy, .string za, .slice jy zm.length jm] 27 (0, 0)) (by (with_reducible repeat (first | refine qj ?_ _ | refine qo ?_ | refine qi ?_ _)); exact zu.out) hb); have n1_ := qf.mk (zk (by repeat (first | (with_reducible first | exact HB.out | apply qg | apply qc | apply qh | refine ql ?_ qcd.out) | exact HB.out)) hb); clear zu; clear HB; have zu := n0_; have HB := n1_; clear n0_ n1_; (try clear hb); (try clear hb2); (try clear hk); (try clear hi))))
           go_meet
           case rel => exact ⟨_, (!t208), (by first | rfl | (simp; done) | (simp [*]; done)), H', ⟨by have := HJ2.out; have := qmf.out; first | omega | exact Nat.le_refl _⟩, ⟨by (with_reducible repeat (first | refine qj ?_ _ | refine qo ?_ | refine qi ?_ _)); exact zu.out⟩, ⟨by repeat (first | (with_reducible first | exact HB.out | apply qg | apply qc | apply qh | refine ql ?_ qcd.out) | exact HB.out)⟩⟩
        | false =>
          by_cases hE : za.toList = []
          ·rw [if_neg (by simp [hE])] at H
           have hz2 : za.toList.isEmpty = true := by simp [hE]
           have H1 : (qp.j2 zfz a1 false qw qy za zm) = some r := by rw [if_neg (show ¬ (false = true) by decide)] at H; exact H
           clear H
           have H := H1
           clear H1
           have H' := qf.mk H
           clear H
           have zal : wc.cell? ⟨jr, 0, none⟩ = some (.int .i64 qw) := (qb zu.out 0).trans rfl
           have zam : wc.cell? ⟨jr, 1, none⟩ = some (.int .i64 qy) := (qb zu.out 1).trans rfl
           have zan : wc.cell? ⟨jr, 2, none⟩ = some (.string za) := (qb zu.out 2).trans rfl
           have zao : wc.cell? ⟨jr, 3, none⟩ = some (.slice jy zm.length jm) := (qb zu.out 3).trans rfl
           have ze9 := qa zu.out 0
           have zfa := qa zu.out 1
           have zfb := qa zu.out 2
           have zfc := qa zu.out 3
           go_wp2
           repeat (go_quiet (fail); try go_wp2)
           go_meet
           case rel => exact ⟨_, (false), (by first | rfl | (simp; done) | (simp [*]; done)), H', ⟨by have := HJ2.out; have := qmf.out; first | omega | exact Nat.le_refl _⟩, ⟨by (with_reducible repeat (first | refine qj ?_ _ | refine qo ?_ | refine qi ?_ _)); exact zu.out⟩, ⟨by repeat (first | (with_reducible first | exact HB.out | apply qg | apply qc | apply qh | refine ql ?_ qcd.out) | exact HB.out)⟩⟩
          ·rw [if_pos (by simp [hE])] at H
           have hz2 : za.toList.isEmpty = false := by simp [hE]
           have H' := qf.mk H
           clear H
           have qjq : wc.cell? ⟨jr, 0, none⟩ = some (.int .i64 qw) := (qb zu.out 0).trans rfl
           have qjr : wc.cell? ⟨jr, 1, none⟩ = some (.int .i64 qy) := (qb zu.out 1).trans rfl
           have qjs : wc.cell? ⟨jr, 2, none⟩ = some (.string za) := (qb zu.out 2).trans rfl
           have qjt : wc.cell? ⟨jr, 3, none⟩ = some (.slice jy zm.length jm) := (qb zu.out 3).trans rfl
           have qem := qa zu.out 0
           have qen := qa zu.out 1
           have qeo := qa zu.out 2
           have qep := qa zu.out 3
           go_wp2
           repeat (go_quiet (fail); try go_wp2)
           go_meet
           case rel => exact ⟨_, (true), (by first | rfl | (simp; done) | (simp [*]; done)), H', ⟨by have := HJ2.out; have := qmf.out; first | omega | exact Nat.le_refl _⟩, ⟨by (with_reducible repeat (first | refine qj ?_ _ | refine qo ?_ | refine qi ?_ _)); exact zu.out⟩, ⟨by repeat (first | (with_reducible first | exact HB.out | apply qg | apply qc | apply qh | refine ql ?_ qcd.out) | exact HB.out)⟩⟩
       case rest =>
        clear zij
        (try clear c1); (try clear c2); (try clear p2); (try clear c4); (try clear c5); (try clear c5b0); (try clear c6); (try clear c6b0); (try clear c8); (try clear c8b0); (try clear c12); (try clear c14); (try clear c14b0); (try clear c14b1); (try clear c19); (try clear c19b0); (try clear c19b1); (try clear c19b2); (try clear c21); (try clear qfr qfs qft qfu); (try clear qei qej qek qel); (try clear qg6 qg7 qg8 qg9); (try clear qjq qjr qjs qjt); (try clear qxi qxj qxk qxl); (try clear zal zam zan zao); (try clear qf7 qf8 qf9 qga); (try clear qd5 qd6 qd7 qd8); (try clear qfv qfw qfx qfy); (try clear qcr qcs qct qcu); (try clear qdq qdr qds qdt); (try clear qem qen qeo qep); (try clear qyf qyg qyh qyi); (try clear ze9 zfa zfb zfc); (try clear qdu qdv qdw qdx); (try clear qc0 qc7 qc8 qc9); (try clear p2)
        obtain ⟨kq, zgq, rfl, HA, qn4, zu, HB⟩ := hcut
        cases kq with
        | zero => exact absurd HA.out (by simp [qp.j2])
        | succ q0i =>
         have H := HA.out
         clear HA
         simp only [qp.j2] at H
         by_cases c26 : zgq = true
         ·subst c26
          have H1 : (some false) = some r := by rw [if_pos rfl] at H; exact H
          clear H
          have H := H1
          clear H1
          obtain rfl := Option.some.inj H
          go_wp2
          repeat (go_quiet (fail); try go_wp2)
          go_ret
          exact ⟨by first | rfl | (simp [zg, zh] <;> rfl) | (simp [*, zg, zh] <;> rfl), by repeat (first | (with_reducible first | exact HB.out | apply qg | apply qc | apply qh | refine ql ?_ qcd.out) | exact HB.out)⟩
         ·replace c26 := Bool.eq_false_iff.mpr c26
          subst c26
          have H1 : (if qw = 1 then (if qy = 0 then (if qw = 0 then (if qy = (-9223372036854775808) then (some false) else (if qw > 1 then (qp.j3 q0i a1 qw qy za zm) else (qp.j3 q0i a1 qw qy za zm))) else (if qw > 1 then (qp.j3 q0i a1 qw qy za zm) else (qp.j3 q0i a1 qw qy za zm))) else (if qy = 1 then (if qw = 0 then (if qy = (-9223372036854775808) then (some false) else (if qw > 1 then (some false) else (qp.j3 q0i a1 qw qy za zm))) else (if qw > 1 then (some false) else (qp.j3 q0i a1 qw qy za zm))) else (some false))) else (if qw = 0 then (if qy = (-9223372036854775808) then (some false) else (if qw > 1 then (if qy = 0 then (qp.j3 q0i a1 qw qy za zm) else (some false)) else (qp.j3 q0i a1 qw qy za zm))) else (if qw > 1 then (if qy = 0 then (qp.j3 q0i a1 qw qy za zm) else (some false)) else (qp.j3 q0i a1 qw qy za zm)))) = some r := by rw [if_neg (show ¬ (false = true) by decide)] at H; exact H
          clear H
          have H := H1
          clear H1
          by_cases c27 : qw = 1
          ·rw [if_pos c27] at H
           have c27b0 : (qw == 1) = true := beq_iff_eq.mpr c27
           have c27b1 : (qw != 1) = false := bne_eq_false_iff_eq.mpr c27
           clear c27
           by_cases c28 : qy = 0
           ·rw [if_pos c28] at H
            have c28b0 : (qy == 0) = true := beq_iff_eq.mpr c28
            have c28b1 : (qy != 0) = false := bne_eq_false_iff_eq.mpr c28
            clear c28
            by_cases c29 : qw = 0
            ·rw [if_pos c29] at H
             have c29b0 : (qw == 0) = true := beq_iff_eq.mpr c29
             have c29b1 : (qw != 0) = false := bne_eq_false_iff_eq.mpr c29
             clear c29
             by_cases c30 : qy = (-9223372036854775808)
             ·rw [if_pos c30] at H
              have c30b0 : (qy == (-9223372036854775808)) = true := beq_iff_eq.mpr c30
              have c30b1 : (qy != (-9223372036854775808)) = false := bne_eq_false_iff_eq.mpr c30
              clear c30
              obtain rfl := Option.some.inj H
              have qlf : wc.cell? ⟨jr, 0, none⟩ = some (.int .i64 qw) := (qb zu.out 0).trans rfl
              have qlg : wc.cell? ⟨jr, 1, none⟩ = some (.int .i64 qy) := (qb zu.out 1).trans rfl
              have qlh : wc.cell? ⟨jr, 2, none⟩ = some (.string za) := (qb zu.out 2).trans rfl
              have qli : wc.cell? ⟨jr, 3, none⟩ = some (.slice jy zm.length jm) := (qb zu.out 3).trans rfl
              have qln := qa zu.out 0
              have qlo := qa zu.out 1
              have qlp := qa zu.out 2
              have qlq := qa zu.out 3
              go_wp2
              repeat (go_quiet (fail); try go_wp2)
              go_ret
              exact ⟨by first | rfl | (simp [zg, zh] <;> rfl) | (simp [*, zg, zh] <;> rfl), by repeat (first | (with_reducible first | exact HB.out | apply qg | apply qc | apply qh | refine ql ?_ qcd.out) | exact HB.out)⟩
             ·rw [if_neg c30] at H
              have c30b0 : (qy == (-9223372036854775808)) = false := beq_eq_false_iff_ne.mpr c30
              have c30b1 : (qy != (-9223372036854775808)) = true := bne_iff_ne.mpr c30
              by_cases c32 : qw > 1
              ·rw [if_pos c32] at H
               have c32b0 : decide (1 < qw) = true := decide_eq_true c32
               clear c32
               have H' := qf.mk H
               clear H
               have qo5 : wc.cell? ⟨jr, 0, none⟩ = some (.int .i64 qw) := (qb zu.out 0).trans rfl
               have qo6 : wc.cell? ⟨jr, 1, none⟩ = some (.int .i64 qy) := (qb zu.out 1).trans rfl
               have qo7 : wc.cell? ⟨jr, 2, none⟩ = some (.string za) := (qb zu.out 2).trans rfl
               have qo8 : wc.cell? ⟨jr, 3, none⟩ = some (.slice jy zm.length jm) := (qb zu.out 3).trans rfl
               have qir := qa zu.out 0
               have qis := qa zu.out 1
               have qit := qa zu.out 2
               have qiu := qa zu.out 3
               go_wp2
               repeat (go_quiet (fail); try go_wp2)
               go_meet
               case rel => exact ⟨_, H', ⟨by have := HJ2.out; have := qmf.out; have := qn4.out; first | omega | exact Nat.le_refl _⟩, ⟨by (with_reducible repeat (first | refine qj ?_ _ | refine qo ?_ | refine qi ?_ _)); exact zu.out⟩, ⟨by repeat (first | (with_reducible first | exact HB.out | apply qg | apply qc | apply qh | refine ql ?_ qcd.out) | exact HB.out)⟩⟩
              ·rw [if_neg c32] at H
               have c32b0 : decide (1 < qw) = false := decide_eq_false c32
               clear c32
               have H' := qf.mk H
               clear H
               have zk0 : wc.cell? ⟨jr, 0, none⟩ = some (.int .i64 qw) := (qb zu.out 0).trans rfl
               have zk1 : wc.cell? ⟨jr, 1, none⟩ = some (.int .i64 qy) := (qb zu.out 1).trans rfl
               have zk2 : wc.cell? ⟨jr, 2, none⟩ = some (.string za) := (qb zu.out 2).trans rfl
               have zk3 : wc.cell? ⟨jr, 3, none⟩ = some (.slice jy zm.length jm) := (qb zu.out 3).trans rfl
               have zm4 := qa zu.out 0
               have zm5 := qa zu.out 1
               have zm6 := qa zu.out 2
               have zm7 := qa zu.out 3
               go_wp2
               repeat (go_quiet (fail); try go_wp2)
               go_meet
               case rel => exact ⟨_, H', ⟨by have := HJ2.out; have := qmf.out; have := qn4.out; first | omega | exact Nat.le_refl _⟩, ⟨by (with_reducible repeat (first | refine qj ?_ _ | refine qo ?_ | refine qi ?_ _)); exact zu.out⟩, ⟨by repeat (first | (with_reducible first | exact HB.out | apply qg | apply qc | apply qh | refine ql ?_ qcd.out) | exact HB.out)⟩⟩
            ·rw [if_neg c29] at H
             have c29b0 : (qw == 0) = false := beq_eq_false_iff_ne.mpr c29
             have c29b1 : (qw != 0) = true := bne_iff_ne.mpr c29
             by_cases c35 : qw > 1
             ·rw [if_pos c35] at H
              have c35b0 : decide (1 < qw) = true := decide_eq_true c35
              clear c35
              have H' := qf.mk H
              clear H
              have zaq : wc.cell? ⟨jr, 0, none⟩ = some (.int .i64 qw) := (qb zu.out 0).trans rfl
              have zar : wc.cell? ⟨jr, 1, none⟩ = some (.int .i64 qy) := (qb zu.out 1).trans rfl
              have zas : wc.cell? ⟨jr, 2, none⟩ = some (.string za) := (qb zu.out 2).trans rfl
              have zat : wc.cell? ⟨jr, 3, none⟩ = some (.slice jy zm.length jm) := (qb zu.out 3).trans rfl
              have zfd := qa zu.out 0
              have zfe := qa zu.out 1
              have zff := qa zu.out 2
              have zfg := qa zu.out 3
              go_wp2
              repeat (go_quiet (fail); try go_wp2)
              go_meet
              case rel => exact ⟨_, H', ⟨by have := HJ2.out; have := qmf.out; have := qn4.out; first | omega | exact Nat.le_refl _⟩, ⟨by (with_reducible repeat (first | refine qj ?_ _ | refine qo ?_ | refine qi ?_ _)); exact zu.out⟩, ⟨by repeat (first | (with_reducible first | exact HB.out | apply qg | apply qc | apply qh | refine ql ?_ qcd.out) | exact HB.out)⟩⟩
             ·rw [if_neg c35] at H
              have c35b0 : decide (1 < qw) = false := decide_eq_false c35
              clear c35
              have H' := qf.mk H
              clear H
              have qt4 : wc.cell? ⟨jr, 0, none⟩ = some (.int .i64 qw) := (qb zu.out 0).trans rfl
              have qt5 : wc.cell? ⟨jr, 1, none⟩ = some (.int .i64 qy) := (qb zu.out 1).trans rfl
              have qt6 : wc.cell? ⟨jr, 2, none⟩ = some (.string za) := (qb zu.out 2).trans rfl
              have qt7 : wc.cell? ⟨jr, 3, none⟩ = some (.slice jy zm.length jm) := (qb zu.out 3).trans rfl
              have qj6 := qa zu.out 0
              have qj7 := qa zu.out 1
              have qj8 := qa zu.out 2
              have qj9 := qa zu.out 3
              go_wp2
              repeat (go_quiet (fail); try go_wp2)
              go_meet
              case rel => exact ⟨_, H', ⟨by have := HJ2.out; have := qmf.out; have := qn4.out; first | omega | exact Nat.le_refl _⟩, ⟨by (with_reducible repeat (first | refine qj ?_ _ | refine qo ?_ | refine qi ?_ _)); exact zu.out⟩, ⟨by repeat (first | (with_reducible first | exact HB.out | apply qg | apply qc | apply qh | refine ql ?_ qcd.out) | exact HB.out)⟩⟩
           ·rw [if_neg c28] at H
            have c28b0 : (qy == 0) = false := beq_eq_false_iff_ne.mpr c28
            have c28b1 : (qy != 0) = true := bne_iff_ne.mpr c28
            by_cases c38 : qy = 1
            ·rw [if_pos c38] at H
             have c38b0 : (qy == 1) = true := beq_iff_eq.mpr c38
             have c38b1 : (qy != 1) = false := bne_eq_false_iff_eq.mpr c38
             clear c38
             by_cases c39 : qw = 0
             ·rw [if_pos c39] at H
              have c39b0 : (qw == 0) = true := beq_iff_eq.mpr c39
              have c39b1 : (qw != 0) = false := bne_eq_false_iff_eq.mpr c39
              clear c39
              by_cases c40 : qy = (-9223372036854775808)
              ·rw [if_pos c40] at H
               have c40b0 : (qy == (-9223372036854775808)) = true := beq_iff_eq.mpr c40
               have c40b1 : (qy != (-9223372036854775808)) = false := bne_eq_false_iff_eq.mpr c40
               clear c40
               obtain rfl := Option.some.inj H
               have qmr : wc.cell? ⟨jr, 0, none⟩ = some (.int .i64 qw) := (qb zu.out 0).trans rfl
               have qms : wc.cell? ⟨jr, 1, none⟩ = some (.int .i64 qy) := (qb zu.out 1).trans rfl
               have qmt : wc.cell? ⟨jr, 2, none⟩ = some (.string za) := (qb zu.out 2).trans rfl
               have qmu : wc.cell? ⟨jr, 3, none⟩ = some (.slice jy zm.length jm) := (qb zu.out 3).trans rfl
               have qnk := qa zu.out 0
               have qnl := qa zu.out 1
               have qnm := qa zu.out 2
               have qnn := qa zu.out 3
               go_wp2
               repeat (go_quiet (fail); try go_wp2)
               go_ret
               exact ⟨by first | rfl | (simp [zg, zh] <;> rfl) | (simp [*, zg, zh] <;> rfl), by repeat (first | (with_reducible first | exact HB.out | apply qg | apply qc | apply qh | refine ql ?_ qcd.out) | exact HB.out)⟩
              ·rw [if_neg c40] at H
               have c40b0 : (qy == (-9223372036854775808)) = false := beq_eq_false_iff_ne.mpr c40
               have c40b1 : (qy != (-9223372036854775808)) = true := bne_iff_ne.mpr c40
               by_cases c42 : qw > 1
               ·rw [if_pos c42] at H
                have c42b0 : decide (1 < qw) = true := decide_eq_true c42
                clear c42
                obtain rfl := Option.some.inj H
                have quc : wc.cell? ⟨jr, 0, none⟩ = some (.int .i64 qw) := (qb zu.out 0).trans rfl
                have qud : wc.cell? ⟨jr, 1, none⟩ = some (.int .i64 qy) := (qb zu.out 1).trans rfl
                have que : wc.cell? ⟨jr, 2, none⟩ = some (.string za) := (qb zu.out 2).trans rfl
                have quf : wc.cell? ⟨jr, 3, none⟩ = some (.slice jy zm.length jm) := (qb zu.out 3).trans rfl
                have qu5 := qa zu.out 0
                have qu6 := qa zu.out 1
                have qu7 := qa zu.out 2
                have qu8 := qa zu.out 3
                go_wp2
                repeat (go_quiet (fail); try go_wp2)
                go_ret
                exact ⟨by first | rfl | (simp [zg, zh] <;> rfl) | (simp [*, zg, zh] <;> rfl), by repeat (first | (with_reducible first | exact HB.out | apply qg | apply qc | apply qh | refine ql ?_ qcd.out) | exact HB.out)⟩
               ·rw [if_neg c42] at H
                have c42b0 : decide (1 < qw) = false := decide_eq_false c42
                clear c42
                have H' := qf.mk H
                clear H
                have qo9 : wc.cell? ⟨jr, 0, none⟩ = some (.int .i64 qw) := (qb zu.out 0).trans rfl
                have qpa : wc.cell? ⟨jr, 1, none⟩ = some (.int .i64 qy) := (qb zu.out 1).trans rfl
                have qpb : wc.cell? ⟨jr, 2, none⟩ = some (.string za) := (qb zu.out 2).trans rfl
                have qpc : wc.cell? ⟨jr, 3, none⟩ = some (.slice jy zm.length jm) := (qb zu.out 3).trans rfl
                have qiv := qa zu.out 0
                have qiw := qa zu.out 1
                have qix := qa zu.out 2
                have qiy := qa zu.out 3
                go_wp2
                repeat (go_quiet (fail); try go_wp2)
                go_meet
                case rel => exact ⟨_, H', ⟨by have := HJ2.out; have := qmf.out; have := qn4.out; first | omega | exact Nat.le_refl _⟩, ⟨by (with_reducible repeat (first | refine qj ?_ _ | refine qo ?_ | refine qi ?_ _)); exact zu.out⟩, ⟨by repeat (first | (with_reducible first | exact HB.out | apply qg | apply qc | apply qh | refine ql ?_ qcd.out) | exact HB.out)⟩⟩
             ·rw [if_neg c39] at H
              have c39b0 : (qw == 0) = false := beq_eq_false_iff_ne.mpr c39
              have c39b1 : (qw != 0) = true := bne_iff_ne.mpr c39
              by_cases c45 : qw > 1
              ·rw [if_pos c45] at H
               have c45b0 : decide (1 < qw) = true := decide_eq_true c45
               clear c45
               obtain rfl := Option.some.inj H
               have qug : wc.cell? ⟨jr, 0, none⟩ = some (.int .i64 qw) := (qb zu.out 0).trans rfl
               have quh : wc.cell? ⟨jr, 1, none⟩ = some (.int .i64 qy) := (qb zu.out 1).trans rfl
               have qui : wc.cell? ⟨jr, 2, none⟩ = some (.string za) := (qb zu.out 2).trans rfl
               have quj : wc.cell? ⟨jr, 3, none⟩ = some (.slice jy zm.length jm) := (qb zu.out 3).trans rfl
               have qka := qa zu.out 0
               have qkb := qa zu.out 1
               have qkc := qa zu.out 2
               have qkd := qa zu.out 3
               go_wp2
               repeat (go_quiet (fail); try go_wp2)
               go_ret
               exact ⟨by first | rfl | (simp [zg, zh] <;> rfl) | (simp [*, zg, zh] <;> rfl), by repeat (first | (with_reducible first | exact HB.out | apply qg | apply qc | apply qh | refine ql ?_ qcd.out) | exact HB.out)⟩
              ·rw [if_neg c45] at H
               have c45b0 : decide (1 < qw) = false := decide_eq_false c45
               clear c45
               have H' := qf.mk H
               clear H
               have zk4 : wc.cell? ⟨jr, 0, none⟩ = some (.int .i64 qw) := (qb zu.out 0).trans rfl
               have zk5 : wc.cell? ⟨jr, 1, none⟩ = some (.int .i64 qy) := (qb zu.out 1).trans rfl
               have zk6 : wc.cell? ⟨jr, 2, none⟩ = some (.string za) := (qb zu.out 2).trans rfl
               have zk7 : wc.cell? ⟨jr, 3, none⟩ = some (.slice jy zm.length jm) := (qb zu.out 3).trans rfl
               have zm8 := qa zu.out 0
               have zm9 := qa zu.out 1
               have zna := qa zu.out 2
               have znb := qa zu.out 3
               go_wp2
               repeat (go_quiet (fail); try go_wp2)
               go_meet
               case rel => exact ⟨_, H', ⟨by have := HJ2.out; have := qmf.out; have := qn4.out; first | omega | exact Nat.le_refl _⟩, ⟨by (with_reducible repeat (first | refine qj ?_ _ | refine qo ?_ | refine qi ?_ _)); exact zu.out⟩, ⟨by repeat (first | (with_reducible first | exact HB.out | apply qg | apply qc | apply qh | refine ql ?_ qcd.out) | exact HB.out)⟩⟩
            ·rw [if_neg c38] at H
             have c38b0 : (qy == 1) = false := beq_eq_false_iff_ne.mpr c38
             have c38b1 : (qy != 1) = true := bne_iff_ne.mpr c38
             obtain rfl := Option.some.inj H
             have qxm : wc.cell? ⟨jr, 0, none⟩ = some (.int .i64 qw) := (qb zu.out 0).trans rfl
             have qxn : wc.cell? ⟨jr, 1, none⟩ = some (.int .i64 qy) := (qb zu.out 1).trans rfl
             have qxo : wc.cell? ⟨jr, 2, none⟩ = some (.string za) := (qb zu.out 2).trans rfl
             have qxp : wc.cell? ⟨jr, 3, none⟩ = some (.slice jy zm.length jm) := (qb zu.out 3).trans rfl
             have qyj := qa zu.out 0
             have qyk := qa zu.out 1
             have qyl := qa zu.out 2
             have qym := qa zu.out 3
             go_wp2
             repeat (go_quiet (fail); try go_wp2)
             go_ret
             exact ⟨by first | rfl | (simp [zg, zh] <;> rfl) | (simp [*, zg, zh] <;> rfl), by repeat (first | (with_reducible first | exact HB.out | apply qg | apply qc | apply qh | refine ql ?_ qcd.out) | exact HB.out)⟩
          ·rw [if_neg c27] at H
           have c27b0 : (qw == 1) = false := beq_eq_false_iff_ne.mpr c27
           have c27b1 : (qw != 1) = true := bne_iff_ne.mpr c27
           by_cases c49 : qw = 0
           ·rw [if_pos c49] at H
            have c49b0 : (qw == 0) = true := beq_iff_eq.mpr c49
            have c49b1 : (qw != 0) = false := bne_eq_false_iff_eq.mpr c49
            clear c49
            by_cases c50 : qy = (-9223372036854775808)
            ·rw [if_pos c50] at H
             have c50b0 : (qy == (-9223372036854775808)) = true := beq_iff_eq.mpr c50
             have c50b1 : (qy != (-9223372036854775808)) = false := bne_eq_false_iff_eq.mpr c50
             clear c50
             obtain rfl := Option.some.inj H
             have qlj : wc.cell? ⟨jr, 0, none⟩ = some (.int .i64 qw) := (qb zu.out 0).trans rfl
             have qlk : wc.cell? ⟨jr, 1, none⟩ = some (.int .i64 qy) := (qb zu.out 1).trans rfl
             have qll : wc.cell? ⟨jr, 2, none⟩ = some (.string za) := (qb zu.out 2).trans rfl
             have qlm : wc.cell? ⟨jr, 3, none⟩ = some (.slice jy zm.length jm) := (qb zu.out 3).trans rfl
             have qgs := qa zu.out 0
             have qgt := qa zu.out 1
             have qgu := qa zu.out 2
             have qgv := qa zu.out 3
             go_wp2
             repeat (go_quiet (fail); try go_wp2)
             go_ret
             exact ⟨by first | rfl | (simp [zg, zh] <;> rfl) | (simp [*, zg, zh] <;> rfl), by repeat (first | (with_reducible first | exact HB.out | apply qg | apply qc | apply qh | refine ql ?_ qcd.out) | exact HB.out)⟩
            ·rw [if_neg c50] at H
             have c50b0 : (qy == (-9223372036854775808)) = false := beq_eq_false_iff_ne.mpr c50
             have c50b1 : (qy != (-9223372036854775808)) = true := bne_iff_ne.mpr c50
             by_cases c52 : qw > 1
             ·rw [if_pos c52] at H
              have c52b0 : decide (1 < qw) = true := decide_eq_true c52
              clear c52
              by_cases c53 : qy = 0
              ·rw [if_pos c53] at H
               have c53b0 : (qy == 0) = true := beq_iff_eq.mpr c53
               have c53b1 : (qy != 0) = false := bne_eq_false_iff_eq.mpr c53
               clear c53
               have H' := qf.mk H
               clear H
               have qup : wc.cell? ⟨jr, 0, none⟩ = some (.int .i64 qw) := (qb zu.out 0).trans rfl
               have quq : wc.cell? ⟨jr, 1, none⟩ = some (.int .i64 qy) := (qb zu.out 1).trans rfl
               have qur : wc.cell? ⟨jr, 2, none⟩ = some (.string za) := (qb zu.out 2).trans rfl
               have qus : wc.cell? ⟨jr, 3, none⟩ = some (.slice jy zm.length jm) := (qb zu.out 3).trans rfl
               have qki := qa zu.out 0
               have qkj := qa zu.out 1
               have qkk := qa zu.out 2
               have qkl := qa zu.out 3
               go_wp2
               repeat (go_quiet (fail); try go_wp2)
               go_meet
               case rel => exact ⟨_, H', ⟨by have := HJ2.out; have := qmf.out; have := qn4.out; first | omega | exact Nat.le_refl _⟩, ⟨by (with_reducible repeat (first | refine qj ?_ _ | refine qo ?_ | refine qi ?_ _)); exact zu.out⟩, ⟨by repeat (first | (with_reducible first | exact HB.out | apply qg | apply qc | apply qh | refine ql ?_ qcd.out) | exact HB.out)⟩⟩
              ·rw [if_neg c53] at H
               have c53b0 : (qy == 0) = false := beq_eq_false_iff_ne.mpr c53
               have c53b1 : (qy != 0) = true := bne_iff_ne.mpr c53
               obtain rfl := Option.some.inj H
               have q19 : wc.cell? ⟨jr, 0, none⟩ = some (.int .i64 qw) := (qb zu.out 0).trans rfl
               have q2a : wc.cell? ⟨jr, 1, none⟩ = some (.int .i64 qy) := (qb zu.out 1).trans rfl
               have q2b : wc.cell? ⟨jr, 2, none⟩ = some (.string za) := (qb zu.out 2).trans rfl
               have q2c : wc.cell? ⟨jr, 3, none⟩ = some (.slice jy zm.length jm) := (qb zu.out 3).trans rfl
               have q30 := qa zu.out 0
               have q31 := qa zu.out 1
               have q33 := qa zu.out 2
               have q34 := qa zu.out 3
               go_wp2
               repeat (go_quiet (fail); try go_wp2)
               go_ret
               exact ⟨by first | rfl | (simp [zg, zh] <;> rfl) | (simp [*, zg, zh] <;> rfl), by repeat (first | (with_reducible first | exact HB.out | apply qg | apply qc | apply qh | refine ql ?_ qcd.out) | exact HB.out)⟩
             ·rw [if_neg c52] at H
              have c52b0 : decide (1 < qw) = false := decide_eq_false c52
              clear c52
              have H' := qf.mk H
              clear H
              have zlc : wc.cell? ⟨jr, 0, none⟩ = some (.int .i64 qw) := (qb zu.out 0).trans rfl
              have zld : wc.cell? ⟨jr, 1, none⟩ = some (.int .i64 qy) := (qb zu.out 1).trans rfl
              have zle : wc.cell? ⟨jr, 2, none⟩ = some (.string za) := (qb zu.out 2).trans rfl
              have zlf : wc.cell? ⟨jr, 3, none⟩ = some (.slice jy zm.length jm) := (qb zu.out 3).trans rfl
              have zng := qa zu.out 0
              have znh := qa zu.out 1
              have zni := qa zu.out 2
              have znj := qa zu.out 3
              go_wp2
              repeat (go_quiet (fail); try go_wp2)
              go_meet
              case rel => exact ⟨_, H', ⟨by have := HJ2.out; have := qmf.out; have := qn4.out; first | omega | exact Nat.le_refl _⟩, ⟨by (with_reducible repeat (first | refine qj ?_ _ | refine qo ?_ | refine qi ?_ _)); exact zu.out⟩, ⟨by repeat (first | (with_reducible first | exact HB.out | apply qg | apply qc | apply qh | refine ql ?_ qcd.out) | exact HB.out)⟩⟩
           ·rw [if_neg c49] at H
            have c49b0 : (qw == 0) = false := beq_eq_false_iff_ne.mpr c49
            have c49b1 : (qw != 0) = true := bne_iff_ne.mpr c49
            by_cases c57 : qw > 1
            ·rw [if_pos c57] at H
             have c57b0 : decide (1 < qw) = true := decide_eq_true c57
             clear c57
             by_cases c58 : qy = 0
             ·rw [if_pos c58] at H
              have c58b0 : (qy == 0) = true := beq_iff_eq.mpr c58
              have c58b1 : (qy != 0) = false := bne_eq_false_iff_eq.mpr c58
              clear c58
              have H' := qf.mk H
              clear H
              have qut : wc.cell? ⟨jr, 0, none⟩ = some (.int .i64 qw) := (qb zu.out 0).trans rfl
              have quu : wc.cell? ⟨jr, 1, none⟩ = some (.int .i64 qy) := (qb zu.out 1).trans rfl
              have quv : wc.cell? ⟨jr, 2, none⟩ = some (.string za) := (qb zu.out 2).trans rfl
              have quw : wc.cell? ⟨jr, 3, none⟩ = some (.slice jy zm.length jm) := (qb zu.out 3).trans rfl
              have qkm := qa zu.out 0
              have qkn := qa zu.out 1
              have qko := qa zu.out 2
              have qkp := qa zu.out 3
              go_wp2
              repeat (go_quiet (fail); try go_wp2)
              go_meet
              case rel => exact ⟨_, H', ⟨by have := HJ2.out; have := qmf.out; have := qn4.out; first | omega | exact Nat.le_refl _⟩, ⟨by (with_reducible repeat (first | refine qj ?_ _ | refine qo ?_ | refine qi ?_ _)); exact zu.out⟩, ⟨by repeat (first | (with_reducible first | exact HB.out | apply qg | apply qc | apply qh | refine ql ?_ qcd.out) | exact HB.out)⟩⟩
             ·rw [if_neg c58] at H
              have c58b0 : (qy == 0) = false := beq_eq_false_iff_ne.mpr c58
              have c58b1 : (qy != 0) = true := bne_iff_ne.mpr c58
              obtain rfl := Option.some.inj H
              have zlg : wc.cell? ⟨jr, 0, none⟩ = some (.int .i64 qw) := (qb zu.out 0).trans rfl
              have zlh : wc.cell? ⟨jr, 1, none⟩ = some (.int .i64 qy) := (qb zu.out 1).trans rfl
              have zli : wc.cell? ⟨jr, 2, none⟩ = some (.string za) := (qb zu.out 2).trans rfl
              have zlj : wc.cell? ⟨jr, 3, none⟩ = some (.slice jy zm.length jm) := (qb zu.out 3).trans rfl
              have znk := qa zu.out 0
              have znl := qa zu.out 1
              have znm := qa zu.out 2
              have znn := qa zu.out 3
              go_wp2
              repeat (go_quiet (fail); try go_wp2)
              go_ret
              exact ⟨by first | rfl | (simp [zg, zh] <;> rfl) | (simp [*, zg, zh] <;> rfl), by repeat (first | (with_reducible first | exact HB.out | apply qg | apply qc | apply qh | refine ql ?_ qcd.out) | exact HB.out)⟩
            ·rw [if_neg c57] at H
             have c57b0 : decide (1 < qw) = false := decide_eq_false c57
             clear c57
             have H' := qf.mk H
             clear H
             have zlk : wc.cell? ⟨jr, 0, none⟩ = some (.int .i64 qw) := (qb zu.out 0).trans rfl
             have zll : wc.cell? ⟨jr, 1, none⟩ = some (.int .i64 qy) := (qb zu.out 1).trans rfl
             have zlm : wc.cell? ⟨jr, 2, none⟩ = some (.string za) := (qb zu.out 2).trans rfl
             have zln : wc.cell? ⟨jr, 3, none⟩ = some (.slice jy zm.length jm) := (qb zu.out 3).trans rfl
             have zno := qa zu.out 0
             have znp := qa zu.out 1
             have znq := qa zu.out 2
             have znr := qa zu.out 3
             go_wp2
             repeat (go_quiet (fail); try go_wp2)
             go_meet
             case rel => exact ⟨_, H', ⟨by have := HJ2.out; have := qmf.out; have := qn4.out; first | omega | exact Nat.le_refl _⟩, ⟨by (with_reducible repeat (first | refine qj ?_ _ | refine qo ?_ | refine qi ?_ _)); exact zu.out⟩, ⟨by repeat (first | (with_reducible first | exact HB.out | apply qg | apply qc | apply qh | refine ql ?_ qcd.out) | exact HB.out)⟩⟩
      case rest =>
       clear zii
       (try clear c1); (try clear c2); (try clear p2); (try clear c3); (try clear c4); (try clear c5); (try clear c5b0); (try clear c6); (try clear c6b0); (try clear c8); (try clear c8b0); (try clear c12); (try clear c14); (try clear c14b0); (try clear c14b1); (try clear c19); (try clear c19b0); (try clear c19b1); (try clear c19b2); (try clear c21); (try clear c26); (try clear c27); (try clear c27b0); (try clear c27b1); (try clear c28); (try clear c28b0); (try clear c28b1); (try clear c29); (try clear c29b0); (try clear c29b1); (try clear c30); (try clear c30b0); (try clear c30b1); (try clear c32); (try clear c32b0); (try clear c35); (try clear c35b0); (try clear c38); (try clear c38b0); (try clear c38b1); (try clear c39); (try clear c39b0); (try clear c39b1); (try clear c40); (try clear c40b0); (try clear c40b1); (try clear c42); (try clear c42b0); (try clear c45); (try clear c45b0); (try clear c49); (try clear c49b0); (try clear c49b1); (try clear c50); (try clear c50b0); (try clear c50b1); (try clear c52); (try clear c52b0); (try clear c53); (try clear c53b0); (try clear c53b1); (try clear c57); (try clear c57b0); (try clear c58); (try clear c58b0); (try clear c58b1); (try clear qfr qfs qft qfu); (try clear qei qej qek qel); (try clear qg6 qg7 qg8 qg9); (try clear qjq qjr qjs qjt); (try clear qxi qxj qxk qxl); (try clear zal zam zan zao); (try clear qlf qlg qlh qli); (try clear qo5 qo6 qo7 qo8); (try clear zk0 zk1 zk2 zk3); (try clear zaq zar zas zat); (try clear qt4 qt5 qt6 qt7); (try clear qmr qms qmt qmu); (try clear quc qud que quf); (try clear qo9 qpa qpb qpc); (try clear qug quh qui quj); (try clear zk4 zk5 zk6 zk7); (try clear qxm qxn qxo qxp); (try clear qlj qlk qll qlm); (try clear qup quq qur qus); (try clear q19 q2a q2b q2c); (try clear zlc zld zle zlf); (try clear qut quu quv quw); (try clear zlg zlh zli zlj); (try clear zlk zll zlm zln); (try clear qf7 qf8 qf9 qga); (try clear qd5 qd6 qd7 qd8); (try clear qfv qfw qfx qfy); (try clear qcr qcs qct qcu); (try clear qdq qdr qds qdt); (try clear qem qen qeo qep); (try clear qyf qyg qyh qyi); (try clear ze9 zfa zfb zfc); (try clear qln qlo qlp qlq); (try clear qir qis qit qiu); (try clear zm4 zm5 zm6 zm7); (try clear zfd zfe zff zfg); (try clear qj6 qj7 qj8 qj9); (try clear qnk qnl qnm qnn); (try clear qu5 qu6 qu7 qu8); (try clear qiv qiw qix qiy); (try clear qka qkb qkc qkd); (try clear zm8 zm9 zna znb); (try clear qyj qyk qyl qym); (try clear qgs qgt qgu qgv); (try clear qki qkj qkk qkl); (try clear q30 q31 q33 q34); (try clear zng znh zni znj); (try clear qkm qkn qko qkp); (try clear znk znl znm znn); (try clear zno znp znq znr); (try clear qdu qdv qdw qdx); (try clear qc0 qc7 qc8 qc9); (try clear p2)
       obtain ⟨kq, HA, qet, zu, HB⟩ := hcut
       cases kq with
       | zero => exact absurd HA.out (by simp [qp.j3])
       | succ qs6 =>
        have H := HA.out
        clear HA
        simp only [qp.j3] at H
        have H' := qf.mk H
        clear H
        go_wp2
        repeat (go_quiet (fail); try go_wp2)
        go_loopg [6] qs6 (fun kq v6 w' => ∃ (qe3 : Int), v6 = .int .i64 qe3 ∧ qf (qp.l0 kq a1 qe3 qw qy za zm = some r) ∧ qf (kq ≤ qs6) ∧ qf (w'.heap[jr]? = some (.cells #[.int .i64 qw, .int .i64 qy, .string za, (.slice jy zm.length jm)] 27 (0, 0))) ∧ qf (Below w.heap.size w w'))
        case atStart => exact ⟨(0), (by first | rfl | (simp; done) | (simp [*]; done)), H', ⟨Nat.le_refl _⟩, ⟨by (with_reducible repeat (first | refine qj ?_ _ | refine qo ?_ | refine qi ?_ _)); exact zu.out⟩, ⟨by repeat (first | (with_reducible first | exact HB.out | apply qg | apply qc | apply qh | refine ql ?_ qcd.out) | exact HB.out)⟩⟩
        case round =>
         clear H'
         (try clear c1); (try clear c2); (try clear p2); (try clear c3); (try clear c4); (try clear c5); (try clear c5b0); (try clear c6); (try clear c6b0); (try clear c8); (try clear c8b0); (try clear c12); (try clear c14); (try clear c14b0); (try clear c14b1); (try clear c19); (try clear c19b0); (try clear c19b1); (try clear c19b2); (try clear c21); (try clear c26); (try clear c27); (try clear c27b0); (try clear c27b1); (try clear c28); (try clear c28b0); (try clear c28b1); (try clear c29); (try clear c29b0); (try clear c29b1); (try clear c30); (try clear c30b0); (try clear c30b1); (try clear c32); (try clear c32b0); (try clear c35); (try clear c35b0); (try clear c38); (try clear c38b0); (try clear c38b1); (try clear c39); (try clear c39b0); (try clear c39b1); (try clear c40); (try clear c40b0); (try clear c40b1); (try clear c42); (try clear c42b0); (try clear c45); (try clear c45b0); (try clear c49); (try clear c49b0); (try clear c49b1); (try clear c50); (try clear c50b0); (try clear c50b1); (try clear c52); (try clear c52b0); (try clear c53); (try clear c53b0); (try clear c53b1); (try clear c57); (try clear c57b0); (try clear c58); (try clear c58b0); (try clear c58b1); (try clear qfr qfs qft qfu); (try clear qei qej qek qel); (try clear qg6 qg7 qg8 qg9); (try clear qjq qjr qjs qjt); (try clear qxi qxj qxk qxl); (try clear zal zam zan zao); (try clear qlf qlg qlh qli); (try clear qo5 qo6 qo7 qo8); (try clear zk0 zk1 zk2 zk3); (try clear zaq zar zas zat); (try clear qt4 qt5 qt6 qt7); (try clear qmr qms qmt qmu); (try clear quc qud que quf); (try clear qo9 qpa qpb qpc); (try clear qug quh qui quj); (try clear zk4 zk5 zk6 zk7); (try clear qxm qxn qxo qxp); (try clear qlj qlk qll qlm); (try clear qup quq qur qus); (try clear q19 q2a q2b q2c); (try clear zlc zld zle zlf); (try clear qut quu quv quw); (try clear zlg zlh zli zlj); (try clear zlk zll zlm zln); (try clear qf7 qf8 qf9 qga); (try clear qd5 qd6 qd7 qd8); (try clear qfv qfw qfx qfy); (try clear qcr qcs qct qcu); (try clear qdq qdr qds qdt); (try clear qem qen qeo qep); (try clear qyf qyg qyh qyi); (try clear ze9 zfa zfb zfc); (try clear qln qlo qlp qlq); (try clear qir qis qit qiu); (try clear zm4 zm5 zm6 zm7); (try clear zfd zfe zff zfg); (try clear qj6 qj7 qj8 qj9); (try clear qnk qnl qnm qnn); (try clear qu5 qu6 qu7 qu8); (try clear qiv qiw qix qiy); (try clear qka qkb qkc qkd); (try clear zm8 zm9 zna znb); (try clear qyj qyk qyl qym); (try clear qgs qgt qgu qgv); (try clear qki qkj qkk qkl); (try clear q30 q31 q33 q34); (try clear zng znh zni znj); (try clear qkm qkn qko qkp); (try clear znk znl znm znn); (try clear zno znp znq znr); (try clear qdu qdv qdw qdx); (try clear qc0 qc7 qc8 qc9); (try clear p2)
         obtain ⟨qe3, rfl, HA, HK4, zu, HB⟩ := hrel
         cases gk with
         | zero => exact absurd HA.out (by simp [qp.l0])
         | succ k4 =>
          have H := HA.out
          clear HA
          simp only [qp.l0] at H
          by_cases c62 : qe3 < (zm.length : Int)
          ·rw [if_pos c62] at H
           have c62b0 : decide (qe3 < (zm.length : Int)) = true := decide_eq_true c62
           clear c62
           by_cases c63 : 0 ≤ qe3
           ·rw [if_pos c63] at H
            have c63b0 : decide (0 ≤ qe3) = true := decide_eq_true c63
            clear c63
            replace H := Option.bind_eq_some_iff.mp H
            obtain ⟨t210, zwx, H⟩ := H
            replace H : (if t210 = true then (qp.l0 k4 a1 (wrap64 (qe3 + 1)) qw qy za zm) else (some false)) = some r := H
            have A64 := qf.mk zwx
            clear zwx
            by_cases c65 : t210 = true
            ·subst c65
             have H1 : (qp.l0 k4 a1 (wrap64 (qe3 + 1)) qw qy za zm) = some r := by rw [if_pos rfl] at H; exact H
             clear H
             have H := H1
             clear H1
             have H' := qf.mk H
             clear H
             have zy9 : wr.cell? ⟨jr, 0, none⟩ = some (.int .i64 qw) := (qb zu.out 0).trans rfl
             have zza : wr.cell? ⟨jr, 1, none⟩ = some (.int .i64 qy) := (qb zu.out 1).trans rfl
             have zzb : wr.cell? ⟨jr, 2, none⟩ = some (.string za) := (qb zu.out 2).trans rfl
             have zzc : wr.cell? ⟨jr, 3, none⟩ = some (.slice jy zm.length jm) := (qb zu.out 3).trans rfl
             have zzx := qa zu.out 0
             have zzy := qa zu.out 1
             have zzz := qa zu.out 2
             have zz0 := qa zu.out 3
             have zjo : 0 ≤ (qe3 : Int) := of_decide_eq_true (by first | (with_reducible assumption) | assumption)
             have zjy : qe3 < (zm.length : Int) := of_decide_eq_true (by first | (with_reducible assumption) | assumption)
             obtain ⟨q64, zux, zvb, e209, qsj, qsk, qsl, qsm, qzg, qy4⟩ := qjh qlb.out qe3 zjo zjy
             cases e209
             replace qsj := (HB.out.cell (World.block_lt_of_cell? w _ qsj)).trans qsj
             replace qsk := (HB.out.cell (World.block_lt_of_cell? w _ qsk)).trans qsk
             replace qsl := (HB.out.cell (World.block_lt_of_cell? w _ qsl)).trans qsl
             replace qsm := (HB.out.cell (World.block_lt_of_cell? w _ qsm)).trans qsm
             have qow := qf.mk qy4
             have qot := qf.mk qzg
             clear qy4 qzg
             replace zjo := eq_true zjo
             replace zjy := eq_true zjy
             go_wp2_with (first | (go_at_call 47; (with_reducible refine (ih k4 (by have := HJ2.out; have := qmf.out; have := qet.out; have := HK4.out; omega) ((zf zm qe3).f0) ((zf zm qe3).f1) ((zf zm qe3).f2) _ _ ((zf zm qe3).f3) (wrap64 (a1 + 1)) true _ ?side1 ?side2 A64.out).mono ?_); (case side1 => repeat (first | exact (Kd.vv qow.out HB.out) | (with_reducible refine Kd.qba ?_ _) | (with_reducible refine Kd.qaz ?_ _) | (with_reducible refine Kd.qbq ?_))); (case side2 => exact qot.out); rintro e w67 ⟨rfl, hb⟩; have n0_ := qf.mk (zl (g := jr) (o := .cells #[.int .i64 qw, .int .i64 qy, .string za, .slice (some q64) zm.length jm] 27 (0, 0)) (by (with_reducible repeat (first | refine qj ?_ _ | refine qo ?_ | refine qi ?_ _)); exact zu.out) hb); have n1_ := qf.mk (zk (by repeat (first | (with_reducible first | exact HB.out | apply qg | apply qc | apply qh | refine ql ?_ qcd.out) | exact HB.out)) hb); clear zu; clear HB; have zu := n0_; have HB := n1_; clear n0_ n1_; (try clear hb); (try clear hb2); (try clear hk); (try clear hi)))
             repeat (go_quiet (first | (go_at_call 47; (with_reducible refine (ih k4 (by have := HJ2.out; have := qmf.out; have := qet.out; have := HK4.out; omega) ((zf zm qe3).f0) ((zf zm qe3).f1) ((zf zm qe3).f2) _ _ ((zf zm qe3).f3) (wrap64 (a1 + 1)) true _ ?side1 ?side2 A64.out).mono ?_); (case side1 => repeat (first | exact (Kd.vv qow.out HB.out) | (with_reducible refine Kd.qba ?_ _) | (with_reducible refine Kd.qaz ?_ _) | (with_reducible refine Kd.qbq ?_))); (case side2 => exact qot.out); rintro e w67 ⟨rfl, hb⟩; have n0_ := qf.mk (zl (g := jr) (o := .cells #[.int .i64 qw, .int .i64 qy, .string za, .slice (some q64) zm.length jm] 27 (0, 0)) (by (with_reducible repeat (first | refine qj ?_ _ | refine qo ?_ | refine qi ?_ _)); exact zu.out) hb); have n1_ := qf.mk (zk (by repeat (first | (with_reducible first | exact HB.out | apply qg | apply qc | apply qh | refine ql ?_ qcd.out) | exact HB.out)) hb); clear zu; clear HB; have zu := n0_; have HB := n1_; clear n0_ n1_; (try clear hb); (try clear hb2); (try clear hk); (try clear hi))); try go_wp2_with (first | (go_at_call 47; (with_reducible refine (ih k4 (by have := HJ2.out; have := qmf.out; have := qet.out; have := HK4.out; omega) ((zf zm qe3).f0) ((zf zm qe3).f1) ((zf zm qe3).f2) _ _ ((zf zm qe3).f3) (wrap64 (a1 + 1)) true _ ?side1 ?side2 A64.out).mono ?_); (case side1 => repeat (first | exact (Kd.vv qow.out HB.out) | (with_reducible refine Kd.qba ?_ _) | (with_reducible refine Kd.qaz ?_ _) | (with_reducible refine Kd.qbq ?_))); (case side2 => exact qot.out); rintro e w67 ⟨rfl, hb⟩; have n0_ := qf.mk (zl (g := jr) (o := .cells #[.int .i64 qw, .int .i64 qy, .string za, .slice (some q64) zm.length jm] 27 (0, 0)) (by (with_reducible repeat (first | refine qj ?_ _ | refine qo ?_ | refine qi ?_ _)); exact zu.out) hb); have n1_ := qf.mk (zk (by repeat (first | (with_reducible first | exact HB.out | apply qg | apply qc | apply qh | refine ql ?_ qcd.out) | exact HB.out)) hb); clear zu; clear HB; have zu := n0_; have HB := n1_; clear n0_ n1_; (try clear hb); (try clear hb2); (try clear hk); (try clear hi))))
             go_roundg k4
             case measure => have := HJ2.out; have := qmf.out; have := qet.out; have := HK4.out; omega
             case rel => exact ⟨(wrap64 (qe3 + 1)), (by first | rfl | (simp; done) | (simp [*]; done)), H', ⟨by have := HJ2.out; have := qmf.out; have := qet.out; have := HK4.out; omega⟩, ⟨by (with_reducible repeat (first | refine qj ?_ _ | refine qo ?_ | refine qi ?_ _)); exact zu.out⟩, ⟨by repeat (first | (with_reducible first | exact HB.out | apply qg | apply qc | apply qh | refine ql ?_ qcd.out) | exact HB.out)⟩⟩
            ·replace c65 := Bool.eq_false_iff.mpr c65
             subst c65
             have H1 : (some false) = some r := by rw [if_neg (show ¬ (false = true) by decide)] at H; exact H
             clear H
             have H := H1
             clear H1
             obtain rfl := Option.some.inj H
             have zme : wr.cell? ⟨jr, 0, none⟩ = some (.int .i64 qw) := (qb zu.out 0).trans rfl
             have zmf : wr.cell? ⟨jr, 1, none⟩ = some (.int .i64 qy) := (qb zu.out 1).trans rfl
             have zmg : wr.cell? ⟨jr, 2, none⟩ = some (.string za) := (qb zu.out 2).trans rfl
             have zmh : wr.cell? ⟨jr, 3, none⟩ = some (.slice jy zm.length jm) := (qb zu.out 3).trans rfl
             have qvz := qa zu.out 0
             have qv0 := qa zu.out 1
             have qv1 := qa zu.out 2
             have qv2 := qa zu.out 3
             have zjo : 0 ≤ (qe3 : Int) := of_decide_eq_true (by first | (with_reducible assumption) | assumption)
             have zjy : qe3 < (zm.length : Int) := of_decide_eq_true (by first | (with_reducible assumption) | assumption)
             obtain ⟨q64, zux, zvb, e209, qsj, qsk, qsl, qsm, qzg, qy4⟩ := qjh qlb.out qe3 zjo zjy
             cases e209
             replace qsj := (HB.out.cell (World.block_lt_of_cell? w _ qsj)).trans qsj
             replace qsk := (HB.out.cell (World.block_lt_of_cell? w _ qsk)).trans qsk
             replace qsl := (HB.out.cell (World.block_lt_of_cell? w _ qsl)).trans qsl
             replace qsm := (HB.out.cell (World.block_lt_of_cell? w _ qsm)).trans qsm
             have qow := qf.mk qy4
             have qot := qf.mk qzg
             clear qy4 qzg
             replace zjo := eq_true zjo
             replace zjy := eq_true zjy
             go_wp2_with (first | (go_at_call 47; (with_reducible refine (ih k4 (by have := HJ2.out; have := qmf.out; have := qet.out; have := HK4.out; omega) ((zf zm qe3).f0) ((zf zm qe3).f1) ((zf zm qe3).f2) _ _ ((zf zm qe3).f3) (wrap64 (a1 + 1)) false _ ?side1 ?side2 A64.out).mono ?_); (case side1 => repeat (first | exact (Kd.vv qow.out HB.out) | (with_reducible refine Kd.qba ?_ _) | (with_reducible refine Kd.qaz ?_ _) | (with_reducible refine Kd.qbq ?_))); (case side2 => exact qot.out); rintro e w69 ⟨rfl, hb⟩; have n0_ := qf.mk (zl (g := jr) (o := .cells #[.int .i64 qw, .int .i64 qy, .string za, .slice (some q64) zm.length jm] 27 (0, 0)) (by (with_reducible repeat (first | refine qj ?_ _ | refine qo ?_ | refine qi ?_ _)); exact zu.out) hb); have n1_ := qf.mk (zk (by repeat (first | (with_reducible first | exact HB.out | apply qg | apply qc | apply qh | refine ql ?_ qcd.out) | exact HB.out)) hb); clear zu; clear HB; have zu := n0_; have HB := n1_; clear n0_ n1_; (try clear hb); (try clear hb2); (try clear hk); (try clear hi)))
             repeat (go_quiet (first | (go_at_call 47; (with_reducible refine (ih k4 (by have := HJ2.out; have := qmf.out; have := qet.out; have := HK4.out; omega) ((zf zm qe3).f0) ((zf zm qe3).f1) ((zf zm qe3).f2) _ _ ((zf zm qe3).f3) (wrap64 (a1 + 1)) false _ ?side1 ?side2 A64.out).mono ?_); (case side1 => repeat (first | exact (Kd.vv qow.out HB.out) | (with_reducible refine Kd.qba ?_ _) | (with_reducible refine Kd.qaz ?_ _) | (with_reducible refine Kd.qbq ?_))); (case side2 => exact qot.out); rintro e w69 ⟨rfl, hb⟩; have n0_ := qf.mk (zl (g := jr) (o := .cells #[.int .i64 qw, .int .i64 qy, .string za, .slice (some q64) zm.length jm] 27 (0, 0)) (by (with_reducible repeat (first | refine qj ?_ _ | refine qo ?_ | refine qi ?_ _)); exact zu.out) hb); have n1_ := qf.mk (zk (by repeat (first | (with_reducible first | exact HB.out | apply qg | apply qc | apply qh | refine ql ?_ qcd.out) | exact HB.out)) hb); clear zu; clear HB; have zu := n0_; have HB := n1_; clear n0_ n1_; (try clear hb); (try clear hb2); (try clear hk); (try clear hi))); try go_wp2_with (first | (go_at_call 47; (with_reducible refine (ih k4 (by have := HJ2.out; have := qmf.out; have := qet.out; have := HK4.out; omega) ((zf zm qe3).f0) ((zf zm qe3).f1) ((zf zm qe3).f2) _ _ ((zf zm qe3).f3) (wrap64 (a1 + 1)) false _ ?side1 ?side2 A64.out).mono ?_); (case side1 => repeat (first | exact (Kd.vv qow.out HB.out) | (with_reducible refine Kd.qba ?_ _) | (with_reducible refine Kd.qaz ?_ _) | (with_reducible refine Kd.qbq ?_))); (case side2 => exact qot.out); rintro e w69 ⟨rfl, hb⟩; have n0_ := qf.mk (zl (g := jr) (o := .cells #[.int .i64 qw, .int .i64 qy, .string za, .slice (some q64) zm.length jm] 27 (0, 0)) (by (with_reducible repeat (first | refine qj ?_ _ | refine qo ?_ | refine qi ?_ _)); exact zu.out) hb); have n1_ := qf.mk (zk (by repeat (first | (with_reducible first | exact HB.out | apply qg | apply qc | apply qh | refine ql ?_ qcd.out) | exact HB.out)) hb); clear zu; clear HB; have zu := n0_; have HB := n1_; clear n0_ n1_; (try clear hb); (try clear hb2); (try clear hk); (try clear hi))))
             go_ret
             exact ⟨by first | rfl | (simp [zg, zh] <;> rfl) | (simp [*, zg, zh] <;> rfl), by repeat (first | (with_reducible first | exact HB.out | apply qg | apply qc | apply qh | refine ql ?_ qcd.out) | exact HB.out)⟩
           ·rw [if_neg c63] at H
            exact absurd H (by simp)
          ·rw [if_neg c62] at H
           have c62b0 : decide (qe3 < (zm.length : Int)) = false := decide_eq_false c62
           clear c62
           obtain rfl := Option.some.inj H
           have zzd : wr.cell? ⟨jr, 0, none⟩ = some (.int .i64 qw) := (qb zu.out 0).trans rfl
           have zze : wr.cell? ⟨jr, 1, none⟩ = some (.int .i64 qy) := (qb zu.out 1).trans rfl
           have zzf : wr.cell? ⟨jr, 2, none⟩ = some (.string za) := (qb zu.out 2).trans rfl
           have zzg : wr.cell? ⟨jr, 3, none⟩ = some (.slice jy zm.length jm) := (qb zu.out 3).trans rfl
           have zz1 := qa zu.out 0
           have zz2 := qa zu.out 1
           have zz3 := qa zu.out 2
           have zz4 := qa zu.out 3
           go_wp2
           repeat (go_quiet (fail); try go_wp2)
           go_ret
           exact ⟨by first | rfl | (simp [zg, zh] <;> rfl) | (simp [*, zg, zh] <;> rfl), by repeat (first | (with_reducible first | exact HB.out | apply qg | apply qc | apply qh | refine ql ?_ qcd.out) | exact HB.out)⟩
end Go.Proofs.YtpgkhmdfddejfaaDoor.PV
end
