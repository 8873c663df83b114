import Derived.Test.YtpgkhmdfddejfaaDoorZTPVx0
import Derived.Test.YtpgkhmdfddejfaaDoorZTPVx9
import Derived.Test.YtpgkhmdfddejfaaDoorZTPVx10
section
namespace Go.Proofs.YtpgkhmdfddejfaaDoor.PV
open Go.RowKit Go.Proofs.YtpgkhmdfddejfaaDoorW.PrintWords Go.Proofs.YtpgkhmdfddejfaaDoorW.PrintLast Go.Proofs.YtpgkhmdfddejfaaDoorW.PrintMore
attribute [local go_sem] qcw qcv qdb qda qcr qcq qcu qcx   -- for this text's walks alone
set_option linter.unusedVariables false
set_option linter.unusedSimpArgs false
mutual
def qo.j0 : Nat → Int → Bool → Int → Int → ByteArray → List (S27) → Option (Bool)
 | 0, _, _, _, _, _, _ => none
 | k + 1, x1, x27, qgq, qgt, qg3, qgv => if x27 = true then (some false) else (if qgq = 2 then (qo.j1 k x1 true qgq qgt qg3 qgv) else (qo.j1 k x1 (qgq == 3) qgq qgt qg3 qgv))
def qo.j1 : Nat → Int → Bool → Int → Int → ByteArray → List (S27) → Option (Bool)
 | 0, _, _, _, _, _, _ => none
 | k + 1, x1, x5, qgq, qgt, qg3, qgv => if (x5 != (qg3.toList != ([] : List UInt8))) = true then (qo.j2 k x1 true qgq qgt qg3 qgv) else (if x5 = true then ((qbg.f k qg3).bind fun t208 => (qo.j2 k x1 (!t208) qgq qgt qg3 qgv)) else (qo.j2 k x1 false qgq qgt qg3 qgv))
def qo.j3 : Nat → Int → Int → Int → ByteArray → List (S27) → Option (Bool)
 | 0, _, _, _, _, _ => none
 | k + 1, x1, qgq, qgt, qg3, qgv => qo.l0 k x1 0 qgq qgt qg3 qgv
def qo.l0 : Nat → Int → Int → Int → Int → ByteArray → List (S27) → Option (Bool)
 | 0, _, _, _, _, _, _ => none
 | k + 1, x1, x6, qgq, qgt, qg3, qgv => if x6 < (qgv.length : Int) then (if 0 ≤ x6 then ((qo.f k ((qw qgv x6).f0) ((qw qgv x6).f1) ((qw qgv x6).f2) ((qw qgv x6).f3) (wrap64 (x1 + 1))).bind fun t210 => (if t210 = true then (qo.l0 k x1 (wrap64 (x6 + 1)) qgq qgt qg3 qgv) else (some false))) else (none)) else (some true)
def qo.j2 : Nat → Int → Bool → Int → Int → ByteArray → List (S27) → Option (Bool)
 | 0, _, _, _, _, _, _ => none
 | k + 1, x1, x36, qgq, qgt, qg3, qgv => if x36 = true then (some false) else (if qgq = 1 then (if qgt = 0 then (if qgq = 0 then (if qgt = (-9223372036854775808) then (some false) else (if qgq > 1 then (qo.j3 k x1 qgq qgt qg3 qgv) else (qo.j3 k x1 qgq qgt qg3 qgv))) else (if qgq > 1 then (qo.j3 k x1 qgq qgt qg3 qgv) else (qo.j3 k x1 qgq qgt qg3 qgv))) else (if qgt = 1 then (if qgq = 0 then (if qgt = (-9223372036854775808) then (some false) else (if qgq > 1 then (some false) else (qo.j3 k x1 qgq qgt qg3 qgv))) else (if qgq > 1 then (some false) else (qo.j3 k x1 qgq qgt qg3 qgv))) else (some false))) else (if qgq = 0 then (if qgt = (-9223372036854775808) then (some false) else (if qgq > 1 then (if qgt = 0 then (qo.j3 k x1 qgq qgt qg3 qgv) else (some false)) else (qo.j3 k x1 qgq qgt qg3 qgv))) else (if qgq > 1 then (if qgt = 0 then (qo.j3 k x1 qgq qgt qg3 qgv) else (some false)) else (qo.j3 k x1 qgq qgt qg3 qgv))))
def qo.f : Nat → Int → Int → ByteArray → List (S27) → Int → Option (Bool)
 | 0, _, _, _, _, _ => none
 | k + 1, a0_0, a0_1, a0_2, l0_3, a1 => if a1 > 40 then (qo.j0 k a1 true a0_0 a0_1 a0_2 l0_3) else (if a0_0 < 0 then (qo.j0 k a1 true a0_0 a0_1 a0_2 l0_3) else (if a0_0 > 19 then (qo.j0 k a1 true a0_0 a0_1 a0_2 l0_3) else ((qbj.f k a0_0).bind fun t207 => (qo.j0 k a1 ((l0_3.length : Int) != t207) a0_0 a0_1 a0_2 l0_3))))
end
theorem qo.qcg : ∀ k, (∀ y0 y1 y2 y3 y4, LeO (qo.f k y0 y1 y2 y3 y4) (qo.f (k + 1) y0 y1 y2 y3 y4)) ∧ (∀ y0 y1 y2 y3 y4 y5, LeO (qo.j0 k y0 y1 y2 y3 y4 y5) (qo.j0 (k + 1) y0 y1 y2 y3 y4 y5)) ∧ (∀ y0 y1 y2 y3 y4 y5, LeO (qo.j1 k y0 y1 y2 y3 y4 y5) (qo.j1 (k + 1) y0 y1 y2 y3 y4 y5)) ∧ (∀ y0 y1 y2 y3 y4, LeO (qo.j3 k y0 y1 y2 y3 y4) (qo.j3 (k + 1) y0 y1 y2 y3 y4)) ∧ (∀ y0 y1 y2 y3 y4 y5, LeO (qo.l0 k y0 y1 y2 y3 y4 y5) (qo.l0 (k + 1) y0 y1 y2 y3 y4 y5)) ∧ (∀ y0 y1 y2 y3 y4 y5, LeO (qo.j2 k y0 y1 y2 y3 y4 y5) (qo.j2 (k + 1) y0 y1 y2 y3 y4 y5))
 | 0 => ⟨fun _ _ _ _ _ r h => by simp [qo.f] at h, fun _ _ _ _ _ _ r h => by simp [qo.j0] at h, fun _ _ _ _ _ _ r h => by simp [qo.j1] at h, fun _ _ _ _ _ r h => by simp [qo.j3] at h, fun _ _ _ _ _ _ r h => by simp [qo.l0] at h, fun _ _ _ _ _ _ r h => by simp [qo.j2] at h⟩
 | k + 1 => by
  obtain ⟨ih0, ih1, ih2, ih3, ih4, ih5⟩ := qo.qcg k
  refine ⟨?_, ?_, ?_, ?_, ?_, ?_⟩
  ·intro y0 y1 y2 y3 y4
   unfold qo.f
   repeat' first
   | (with_reducible exact ih0 _ _ _ _ _)
   | (with_reducible exact ih1 _ _ _ _ _ _)
   | (with_reducible exact ih2 _ _ _ _ _ _)
   | (with_reducible exact ih3 _ _ _ _ _)
   | (with_reducible exact ih4 _ _ _ _ _ _)
   | (with_reducible exact ih5 _ _ _ _ _ _)
   | (with_reducible exact qbg.mono _ _)
   | (with_reducible exact qbj.mono _ _)
   | (with_reducible exact LeO.refl _)
   | (with_reducible exact LeO.none _)
   | (with_reducible refine LeO.ite ?_ ?_)
   | (with_reducible refine LeO.bind ?_ (fun _ => ?_))
   | exact ih0 _ _ _ _ _
   | exact ih1 _ _ _ _ _ _
   | exact ih2 _ _ _ _ _ _
   | exact ih3 _ _ _ _ _
   | exact ih4 _ _ _ _ _ _
   | exact ih5 _ _ _ _ _ _
   | exact qbg.mono _ _
   | exact qbj.mono _ _
   | exact LeO.none _
   | refine LeO.ite ?_ ?_
   | refine LeO.bind ?_ (fun _ => ?_)
  ·intro y0 y1 y2 y3 y4 y5
   unfold qo.j0
   repeat' first
   | (with_reducible exact ih0 _ _ _ _ _)
   | (with_reducible exact ih1 _ _ _ _ _ _)
   | (with_reducible exact ih2 _ _ _ _ _ _)
   | (with_reducible exact ih3 _ _ _ _ _)
   | (with_reducible exact ih4 _ _ _ _ _ _)
   | (with_reducible exact ih5 _ _ _ _ _ _)
   | (with_reducible exact qbg.mono _ _)
   | (with_reducible exact qbj.mono _ _)
   | (with_reducible exact LeO.refl _)
   | (with_reducible exact LeO.none _)
   | (with_reducible refine LeO.ite ?_ ?_)
   | (with_reducible refine LeO.bind ?_ (fun _ => ?_))
   | exact ih0 _ _ _ _ _
   | exact ih1 _ _ _ _ _ _
   | exact ih2 _ _ _ _ _ _
   | exact ih3 _ _ _ _ _
   | exact ih4 _ _ _ _ _ _
   | exact ih5 _ _ _ _ _ _
   | exact qbg.mono _ _
   | exact qbj.mono _ _
   | exact LeO.none _
   | refine LeO.ite ?_ ?_
   | refine LeO.bind ?_ (fun _ => ?_)
  ·intro y0 y1 y2 y3 y4 y5
   unfold qo.j1
   repeat' first
   | (with_reducible exact ih0 _ _ _ _ _)
   | (with_reducible exact ih1 _ _ _ _ _ _)
   | (with_reducible exact ih2 _ _ _ _ _ _)
   | (with_reducible exact ih3 _ _ _ _ _)
   | (with_reducible exact ih4 _ _ _ _ _ _)
   | (with_reducible exact ih5 _ _ _ _ _ _)
   | (with_reducible exact qbg.mono _ _)
   | (with_reducible exact qbj.mono _ _)
   | (with_reducible exact LeO.refl _)
   | (with_reducible exact LeO.none _)
   | (with_reducible refine LeO.ite ?_ ?_)
   | (with_reducible refine LeO.bind ?_ (fun _ => ?_))
   | exact ih0 _ _ _ _ _
   | exact ih1 _ _ _ _ _ _
   | exact ih2 _ _ _ _ _ _
   | exact ih3 _ _ _ _ _
   | exact ih4 _ _ _ _ _ _
   | exact ih5 _ _ _ _ _ _
   | exact qbg.mono _ _
   | exact qbj.mono _ _
   | exact LeO.none _
   | refine LeO.ite ?_ ?_
   | refine LeO.bind ?_ (fun _ => ?_)
  ·intro y0 y1 y2 y3 y4
   unfold qo.j3
   repeat' first
   | (with_reducible exact ih0 _ _ _ _ _)
   | (with_reducible exact ih1 _ _ _ _ _ _)
   | (with_reducible exact ih2 _ _ _ _ _ _)
   | (with_reducible exact ih3 _ _ _ _ _)
   | (with_reducible exact ih4 _ _ _ _ _ _)
   | (with_reducible exact ih5 _ _ _ _ _ _)
   | (with_reducible exact qbg.mono _ _)
   | (with_reducible exact qbj.mono _ _)
   | (with_reducible exact LeO.refl _)
   | (with_reducible exact LeO.none _)
   | (with_reducible refine LeO.ite ?_ ?_)
   | (with_reducible refine LeO.bind ?_ (fun _ => ?_))
   | exact ih0 _ _ _ _ _
   | exact ih1 _ _ _ _ _ _
   | exact ih2 _ _ _ _ _ _
   | exact ih3 _ _ _ _ _
   | exact ih4 _ _ _ _ _ _
   | exact ih5 _ _ _ _ _ _
   | exact qbg.mono _ _
   | exact qbj.mono _ _
   | exact LeO.none _
   | refine LeO.ite ?_ ?_
   | refine LeO.bind ?_ (fun _ => ?_)
  ·intro y0 y1 y2 y3 y4 y5
   unfold qo.l0
   repeat' first
   | (with_reducible exact ih0 _ _ _ _ _)
   | (with_reducible exact ih1 _ _ _ _ _ _)
   | (with_reducible exact ih2 _ _ _ _ _ _)
   | (with_reducible exact ih3 _ _ _ _ _)
   | (with_reducible exact ih4 _ _ _ _ _ _)
   | (with_reducible exact ih5 _ _ _ _ _ _)
   | (with_reducible exact qbg.mono _ _)
   | (with_reducible exact qbj.mono _ _)
   | (with_reducible exact LeO.refl _)
   | (with_reducible exact LeO.none _)
   | (with_reducible refine LeO.ite ?_ ?_)
   | (with_reducible refine LeO.bind ?_ (fun _ => ?_))
   | exact ih0 _ _ _ _ _
   | exact ih1 _ _ _ _ _ _
   | exact ih2 _ _ _ _ _ _
   | exact ih3 _ _ _ _ _
   | exact ih4 _ _ _ _ _ _
   | exact ih5 _ _ _ _ _ _
   | exact qbg.mono _ _
   | exact qbj.mono _ _
   | exact LeO.none _
   | refine LeO.ite ?_ ?_
   | refine LeO.bind ?_ (fun _ => ?_)
  ·intro y0 y1 y2 y3 y4 y5
   unfold qo.j2
   repeat' first
   | (with_reducible exact ih0 _ _ _ _ _)
   | (with_reducible exact ih1 _ _ _ _ _ _)
   | (with_reducible exact ih2 _ _ _ _ _ _)
   | (with_reducible exact ih3 _ _ _ _ _)
   | (with_reducible exact ih4 _ _ _ _ _ _)
   | (with_reducible exact ih5 _ _ _ _ _ _)
   | (with_reducible exact qbg.mono _ _)
   | (with_reducible exact qbj.mono _ _)
   | (with_reducible exact LeO.refl _)
   | (with_reducible exact LeO.none _)
   | (with_reducible refine LeO.ite ?_ ?_)
   | (with_reducible refine LeO.bind ?_ (fun _ => ?_))
   | exact ih0 _ _ _ _ _
   | exact ih1 _ _ _ _ _ _
   | exact ih2 _ _ _ _ _ _
   | exact ih3 _ _ _ _ _
   | exact ih4 _ _ _ _ _ _
   | exact ih5 _ _ _ _ _ _
   | exact qbg.mono _ _
   | exact qbj.mono _ _
   | exact LeO.none _
   | refine LeO.ite ?_ ?_
   | refine LeO.bind ?_ (fun _ => ?_)
theorem qo.mono : ∀ a0 a1 a2 a3 a4 k, LeO (qo.f k a0 a1 a2 a3 a4) (qo.f (k + 1) a0 a1 a2 a3 a4) := by
 intro a0 a1 a2 a3 a4 k
 obtain ⟨ih0, ih1, ih2, ih3, ih4, ih5⟩ := qo.qcg k
 exact ih0 a0 a1 a2 a3 a4
set_option maxHeartbeats 8000000 in
set_option maxRecDepth 100000 in
theorem qo.calls (k : Nat) : ∀ (a0_0 : Int) (a0_1 : Int) (a0_2 : ByteArray) (A0_3 : Option Addr) (c0_3 : Nat) (l0_3 : List (S27)) (a1 : Int) (r : Bool) (w : World) (qh5 : Kd.C k27 w A0_3 l0_3.length l0_3) (qhr : l0_3.length ≤ c0_3) (h : qo.f k a0_0 a0_1 a0_2 l0_3 a1 = some r),
  Calls Tryd.prog 47 #[.agg #[.int .i64 a0_0, .int .i64 a0_1, .string a0_2, .slice A0_3 l0_3.length c0_3], .int .i64 a1] w fun e w' => e = .returned (.bool r) ∧ Below w.heap.size w w' := by
 induction k using Nat.strongRecOn with
 | _ k ih =>
 intro a0_0 a0_1 a0_2 A0_3 c0_3 l0_3 a1 r w qh5 qhr h
 cases k with
 | zero => exact absurd h (by simp [qo.f])
 | succ k =>
 simp only [qo.f] at h
 have hu27 := Tryd.underlying27
 have qo8 := qc.mk qh5
 have qwf := qc.mk qhr
 clear qh5 qhr
 have HB := qc.mk (Below.refl w.heap.size w)
 have H : (if a1 > 40 then (qo.j0 k a1 true a0_0 a0_1 a0_2 l0_3) else (if a0_0 < 0 then (qo.j0 k a1 true a0_0 a0_1 a0_2 l0_3) else (if a0_0 > 19 then (qo.j0 k a1 true a0_0 a0_1 a0_2 l0_3) else ((qbj.f k a0_0).bind fun t207 => (qo.j0 k a1 ((l0_3.length : Int) != t207) a0_0 a0_1 a0_2 l0_3))))) = some r := h
 clear h
 have HC3 := qc.mk H
 clear H
 go_enter Tryd.func47, Tryd.ntmps47
 go_upto_region 1 with (first | ((with_reducible refine qb0 (N := 2) rfl ?_); (try (refine qcc (by rfl) ?_; dsimp only)); refine qby ?hg (N := 2) ?hd (cs := #[.int .i64 a0_0, .int .i64 a0_1, .string a0_2, .slice A0_3 l0_3.length c0_3]) (t := 27) ?hr ?_; (case hd => rfl); (case hg => rfl); (case hr => first | (go_simp; done) | (go_simp; rfl)); intro qfy hg w4 hbox hb; have n0_ := qc.mk (q9 (by repeat (first | (with_reducible first | exact HB.out | apply qg | apply qd | apply qh) | exact HB.out)) hb); have n1_ := qc.mk (hbox); have n2_ := qc.mk ((by rw [hg]; exact (qba (by repeat (first | (with_reducible first | exact HB.out | apply qg | apply qd | apply qh) | exact HB.out))) : w.heap.size ≤ qfy)); have n3_ := qc.mk ((by rw [hg]; exact (qba (by repeat (first | (with_reducible first | exact HB.out | apply qg | apply qd | apply qh) | exact HB.out))) : w.heap.size ≤ qfy)); clear HB; have HB := n0_; have qfp := n1_; have qbrj := n2_; have qg7 := n3_; clear n0_ n1_ n2_ n3_; clear hb hbox hg))
 repeat (go_quiet (first | ((with_reducible refine qb0 (N := 2) rfl ?_); (try (refine qcc (by rfl) ?_; dsimp only)); refine qby ?hg (N := 2) ?hd (cs := #[.int .i64 a0_0, .int .i64 a0_1, .string a0_2, .slice A0_3 l0_3.length c0_3]) (t := 27) ?hr ?_; (case hd => rfl); (case hg => rfl); (case hr => first | (go_simp; done) | (go_simp; rfl)); intro qfy hg w4 hbox hb; have n0_ := qc.mk (q9 (by repeat (first | (with_reducible first | exact HB.out | apply qg | apply qd | apply qh) | exact HB.out)) hb); have n1_ := qc.mk (hbox); have n2_ := qc.mk ((by rw [hg]; exact (qba (by repeat (first | (with_reducible first | exact HB.out | apply qg | apply qd | apply qh) | exact HB.out))) : w.heap.size ≤ qfy)); have n3_ := qc.mk ((by rw [hg]; exact (qba (by repeat (first | (with_reducible first | exact HB.out | apply qg | apply qd | apply qh) | exact HB.out))) : w.heap.size ≤ qfy)); clear HB; have HB := n0_; have qfp := n1_; have qbrj := n2_; have qg7 := n3_; clear n0_ n1_ n2_ n3_; clear hb hbox hg)); go_upto_region 1 with (first | ((with_reducible refine qb0 (N := 2) rfl ?_); (try (refine qcc (by rfl) ?_; dsimp only)); refine qby ?hg (N := 2) ?hd (cs := #[.int .i64 a0_0, .int .i64 a0_1, .string a0_2, .slice A0_3 l0_3.length c0_3]) (t := 27) ?hr ?_; (case hd => rfl); (case hg => rfl); (case hr => first | (go_simp; done) | (go_simp; rfl)); intro qfy hg w4 hbox hb; have n0_ := qc.mk (q9 (by repeat (first | (with_reducible first | exact HB.out | apply qg | apply qd | apply qh) | exact HB.out)) hb); have n1_ := qc.mk (hbox); have n2_ := qc.mk ((by rw [hg]; exact (qba (by repeat (first | (with_reducible first | exact HB.out | apply qg | apply qd | apply qh) | exact HB.out))) : w.heap.size ≤ qfy)); have n3_ := qc.mk ((by rw [hg]; exact (qba (by repeat (first | (with_reducible first | exact HB.out | apply qg | apply qd | apply qh) | exact HB.out))) : w.heap.size ≤ qfy)); clear HB; have HB := n0_; have qfp := n1_; have qbrj := n2_; have qg7 := n3_; clear n0_ n1_ n2_ n3_; clear hb hbox hg)))
 (try simp only [Act.put, List.setIfInBounds_toArray, List.set_cons_zero, List.set_cons_succ])
 go_cut [27] (fun v27 wc => ∃ (kq : Nat) (qbm0 : Bool), v27 = .bool qbm0 ∧ qc (qo.j0 kq a1 qbm0 a0_0 a0_1 a0_2 l0_3 = some r) ∧ qc (kq ≤ k) ∧ qc (wc.heap[qfy]? = some (.cells #[.int .i64 a0_0, .int .i64 a0_1, .string a0_2, (.slice A0_3 l0_3.length c0_3)] 27 (0, 0))) ∧ qc (Below w.heap.size w wc))
 case first =>
  have H := HC3.out
  clear HC3
  by_cases c5 : a1 > 40
  ·rw [if_pos c5] at H
   have c5b0 : decide (40 < a1) = true := decide_eq_true c5
   clear c5
   (first | rw [c5b0] | (simp only [i64_w, i32_w]; rw [c5b0]) | skip)
   have H' := qc.mk H
   clear H
   go_wp2
   repeat (go_quiet (fail); try go_wp2)
   go_meet
   case rel => exact ⟨_, (true), (by first | rfl | (simp; done) | (simp [*]; done)), H', ⟨by first | omega | exact Nat.le_refl _⟩, ⟨by (with_reducible repeat (first | refine qj ?_ _ | refine qm ?_ | refine qi ?_ _)); exact qfp.out⟩, ⟨by repeat (first | (with_reducible first | exact HB.out | apply qg | apply qd | apply qh | refine ql ?_ qg7.out) | exact HB.out)⟩⟩
  ·rw [if_neg c5] at H
   have c5b0 : decide (40 < a1) = false := decide_eq_false c5
   clear c5
   (first | rw [c5b0] | (simp only [i64_w, i32_w]; rw [c5b0]) | skip)
   by_cases c6 : a0_0 < 0
   ·rw [if_pos c6] at H
    have c6b0 : decide (a0_0 < 0) = true := decide_eq_true c6
    clear c6
    have H' := qc.mk H
    clear H
    have qjl : w4.cell? ⟨qfy, 0, none⟩ = some (.int .i64 a0_0) := (qb qfp.out 0).trans rfl
    have qjm : w4.cell? ⟨qfy, 1, none⟩ = some (.int .i64 a0_1) := (qb qfp.out 1).trans rfl
    have qjj : w4.cell? ⟨qfy, 2, none⟩ = some (.string a0_2) := (qb qfp.out 2).trans rfl
    have qjk : w4.cell? ⟨qfy, 3, none⟩ = some (.slice A0_3 l0_3.length c0_3) := (qb qfp.out 3).trans rfl
    have qhj := qa qfp.out 0
    have qhl := qa qfp.out 1
    have qhm := qa qfp.out 2
    have qhk := qa qfp.out 3
    go_wp2
    repeat (go_quiet (fail); try go_wp2)
    go_meet
    case rel => exact ⟨_, (true), (by first | rfl | (simp; done) | (simp [*]; done)), H', ⟨by first | omega | exact Nat.le_refl _⟩, ⟨by (with_reducible repeat (first | refine qj ?_ _ | refine qm ?_ | refine qi ?_ _)); exact qfp.out⟩, ⟨by repeat (first | (with_reducible first | exact HB.out | apply qg | apply qd | apply qh | refine ql ?_ qg7.out) | exact HB.out)⟩⟩
   ·rw [if_neg c6] at H
    have c6b0 : decide (a0_0 < 0) = false := decide_eq_false c6
    clear c6
    by_cases c8 : a0_0 > 19
    ·rw [if_pos c8] at H
     have c8b0 : decide (19 < a0_0) = true := decide_eq_true c8
     clear c8
     have H' := qc.mk H
     clear H
     have qh4 : w4.cell? ⟨qfy, 0, none⟩ = some (.int .i64 a0_0) := (qb qfp.out 0).trans rfl
     have qhu : w4.cell? ⟨qfy, 1, none⟩ = some (.int .i64 a0_1) := (qb qfp.out 1).trans rfl
     have qh7 : w4.cell? ⟨qfy, 2, none⟩ = some (.string a0_2) := (qb qfp.out 2).trans rfl
     have qhx : w4.cell? ⟨qfy, 3, none⟩ = some (.slice A0_3 l0_3.length c0_3) := (qb qfp.out 3).trans rfl
     have qhd := qa qfp.out 0
     have qg9 := qa qfp.out 1
     have qhf := qa qfp.out 2
     have qha := qa qfp.out 3
     go_wp2
     repeat (go_quiet (fail); try go_wp2)
     go_meet
     case rel => exact ⟨_, (true), (by first | rfl | (simp; done) | (simp [*]; done)), H', ⟨by first | omega | exact Nat.le_refl _⟩, ⟨by (with_reducible repeat (first | refine qj ?_ _ | refine qm ?_ | refine qi ?_ _)); exact qfp.out⟩, ⟨by repeat (first | (with_reducible first | exact HB.out | apply qg | apply qd | apply qh | refine ql ?_ qg7.out) | exact HB.out)⟩⟩
    ·rw [if_neg c8] at H
     have c8b0 : decide (19 < a0_0) = false := decide_eq_false c8
     clear c8
     replace H := Option.bind_eq_some_iff.mp H
     obtain ⟨t207, A100, H⟩ := H
     replace H : (qo.j0 k a1 ((l0_3.length : Int) != t207) a0_0 a0_1 a0_2 l0_3) = some r := H
     have A10 := qc.mk A100
     clear A100
     have H' := qc.mk H
     clear H
     have qit : w4.cell? ⟨qfy, 0, none⟩ = some (.int .i64 a0_0) := (qb qfp.out 0).trans rfl
     have qig : w4.cell? ⟨qfy, 1, none⟩ = some (.int .i64 a0_1) := (qb qfp.out 1).trans rfl
     have qij : w4.cell? ⟨qfy, 2, none⟩ = some (.string a0_2) := (qb qfp.out 2).trans rfl
     have qih : w4.cell? ⟨qfy, 3, none⟩ = some (.slice A0_3 l0_3.length c0_3) := (qb qfp.out 3).trans rfl
     have qif := qa qfp.out 0
     have qin := qa qfp.out 1
     have qik := qa qfp.out 2
     have qio := qa qfp.out 3
     go_wp2_with (first | (go_at_call 70; (with_reducible refine (qbj.calls k a0_0 t207 _ A10.out).mono ?_); rintro e w' ⟨rfl, ⟨nd, rfl⟩⟩; (try first | exact ⟨rfl, _, World.drewN_drewN _ _ _⟩ | exact ⟨rfl, _, Eq.trans (World.drewN_drewN _ _ _) (congrArg (World.drewN _) (Nat.add_assoc _ _ _))⟩)))
     repeat (go_quiet (first | (go_at_call 70; (with_reducible refine (qbj.calls k a0_0 t207 _ A10.out).mono ?_); rintro e w' ⟨rfl, ⟨nd, rfl⟩⟩; (try first | exact ⟨rfl, _, World.drewN_drewN _ _ _⟩ | exact ⟨rfl, _, Eq.trans (World.drewN_drewN _ _ _) (congrArg (World.drewN _) (Nat.add_assoc _ _ _))⟩))); try go_wp2_with (first | (go_at_call 70; (with_reducible refine (qbj.calls k a0_0 t207 _ A10.out).mono ?_); rintro e w' ⟨rfl, ⟨nd, rfl⟩⟩; (try first | exact ⟨rfl, _, World.drewN_drewN _ _ _⟩ | exact ⟨rfl, _, Eq.trans (World.drewN_drewN _ _ _) (congrArg (World.drewN _) (Nat.add_assoc _ _ _))⟩))))
     go_meet
     case rel => exact ⟨_, (((l0_3.length : Int) != t207)), (by first | rfl | (simp; done) | (simp [*]; done)), H', ⟨by first | omega | exact Nat.le_refl _⟩, ⟨by (with_reducible repeat (first | refine qj ?_ _ | refine qm ?_ | refine qi ?_ _)); exact qfp.out⟩, ⟨by repeat (first | (with_reducible first | exact HB.out | apply qg | apply qd | apply qh | refine ql ?_ qg7.out) | exact HB.out)⟩⟩
 case rest =>
  clear HC3
  (try clear p2); (try clear c4); (try clear c5); (try clear c5b0); (try clear c6); (try clear c6b0); (try clear c8); (try clear c8b0); (try clear qit qig qij qih); (try clear qjl qjm qjj qjk); (try clear qh4 qhu qh7 qhx); (try clear qif qin qik qio); (try clear qhj qhl qhm qhk); (try clear qhd qg9 qhf qha)
  obtain ⟨kq, qbm0, rfl, HA, HJ2, qfp, HB⟩ := hcut
  cases kq with
  | zero => exact absurd HA.out (by simp [qo.j0])
  | succ kj2 =>
   have H := HA.out
   clear HA
   simp only [qo.j0] at H
   by_cases c12 : qbm0 = true
   ·subst c12
    have H1 : (some false) = some r := by rw [if_pos rfl] at H; exact H
    clear H
    have H := H1
    clear H1
    obtain rfl := Option.some.inj H
    go_wp2
    repeat (go_quiet (fail); try go_wp2)
    go_ret
    exact ⟨by first | rfl | (simp [qx, qy] <;> rfl) | (simp [*, qx, qy] <;> rfl), by repeat (first | (with_reducible first | exact HB.out | apply qg | apply qd | apply qh | refine ql ?_ qg7.out) | exact HB.out)⟩
   ·replace c12 := Bool.eq_false_iff.mpr c12
    subst c12
    have H1 : (if a0_0 = 2 then (qo.j1 kj2 a1 true a0_0 a0_1 a0_2 l0_3) else (qo.j1 kj2 a1 (a0_0 == 3) a0_0 a0_1 a0_2 l0_3)) = some r := by rw [if_neg (show ¬ (false = true) by decide)] at H; exact H
    clear H
    have H := H1
    clear H1
    have HC13 := qc.mk H
    clear H
    go_upto_region 3 with (fail)
    repeat (go_quiet (fail); go_upto_region 3 with (fail))
    go_cut [5] (fun v5 wc => ∃ (kq : Nat) (qbm6 : Bool), v5 = .bool qbm6 ∧ qc (qo.j1 kq a1 qbm6 a0_0 a0_1 a0_2 l0_3 = some r) ∧ qc (kq ≤ kj2) ∧ qc (wc.heap[qfy]? = some (.cells #[.int .i64 a0_0, .int .i64 a0_1, .string a0_2, (.slice A0_3 l0_3.length c0_3)] 27 (0, 0))) ∧ qc (Below w.heap.size w wc))
    case first =>
     have H := HC13.out
     clear HC13
     by_cases c14 : a0_0 = 2
     ·rw [if_pos c14] at H
      have c14b0 : (a0_0 == 2) = true := beq_iff_eq.mpr c14
      have c14b1 : (a0_0 != 2) = false := bne_eq_false_iff_eq.mpr c14
      clear c14
      (first | rw [c14b0] | (simp only [i64_w, i32_w]; rw [c14b0]) | skip)
      have H' := qc.mk H
      clear H
      have qh3 : wc.cell? ⟨qfy, 0, none⟩ = some (.int .i64 a0_0) := (qb qfp.out 0).trans rfl
      have qhw : wc.cell? ⟨qfy, 1, none⟩ = some (.int .i64 a0_1) := (qb qfp.out 1).trans rfl
      have qht : wc.cell? ⟨qfy, 2, none⟩ = some (.string a0_2) := (qb qfp.out 2).trans rfl
      have qhp : wc.cell? ⟨qfy, 3, none⟩ = some (.slice A0_3 l0_3.length c0_3) := (qb qfp.out 3).trans rfl
      have qg0 := qa qfp.out 0
      have qgx := qa qfp.out 1
      have qgz := qa qfp.out 2
      have qgy := qa qfp.out 3
      go_wp2
      repeat (go_quiet (fail); try go_wp2)
      go_meet
      case rel => exact ⟨_, (true), (by first | rfl | (simp; done) | (simp [*]; done)), H', ⟨by have := HJ2.out; first | omega | exact Nat.le_refl _⟩, ⟨by (with_reducible repeat (first | refine qj ?_ _ | refine qm ?_ | refine qi ?_ _)); exact qfp.out⟩, ⟨by repeat (first | (with_reducible first | exact HB.out | apply qg | apply qd | apply qh | refine ql ?_ qg7.out) | exact HB.out)⟩⟩
     ·rw [if_neg c14] at H
      have c14b0 : (a0_0 == 2) = false := beq_eq_false_iff_ne.mpr c14
      have c14b1 : (a0_0 != 2) = true := bne_iff_ne.mpr c14
      (first | rw [c14b0] | (simp only [i64_w, i32_w]; rw [c14b0]) | skip)
      have H' := qc.mk H
      clear H
      have qjb : wc.cell? ⟨qfy, 0, none⟩ = some (.int .i64 a0_0) := (qb qfp.out 0).trans rfl
      have qjd : wc.cell? ⟨qfy, 1, none⟩ = some (.int .i64 a0_1) := (qb qfp.out 1).trans rfl
      have qjg : wc.cell? ⟨qfy, 2, none⟩ = some (.string a0_2) := (qb qfp.out 2).trans rfl
      have qi7 : wc.cell? ⟨qfy, 3, none⟩ = some (.slice A0_3 l0_3.length c0_3) := (qb qfp.out 3).trans rfl
      have qhb := qa qfp.out 0
      have qg8 := qa qfp.out 1
      have qhe := qa qfp.out 2
      have qhc := qa qfp.out 3
      go_wp2
      repeat (go_quiet (fail); try go_wp2)
      go_meet
      case rel => exact ⟨_, ((a0_0 == 3)), (by first | rfl | (simp; done) | (simp [*]; done)), H', ⟨by have := HJ2.out; first | omega | exact Nat.le_refl _⟩, ⟨by (with_reducible repeat (first | refine qj ?_ _ | refine qm ?_ | refine qi ?_ _)); exact qfp.out⟩, ⟨by repeat (first | (with_reducible first | exact HB.out | apply qg | apply qd | apply qh | refine ql ?_ qg7.out) | exact HB.out)⟩⟩
    case rest =>
     clear HC13
     (try clear c1); (try clear p2); (try clear c4); (try clear c5); (try clear c5b0); (try clear c6); (try clear c6b0); (try clear c8); (try clear c8b0); (try clear c12); (try clear c14); (try clear c14b0); (try clear c14b1); (try clear qit qig qij qih); (try clear qh3 qhw qht qhp); (try clear qjb qjd qjg qi7); (try clear qjl qjm qjj qjk); (try clear qh4 qhu qh7 qhx); (try clear qif qin qik qio); (try clear qg0 qgx qgz qgy); (try clear qhb qg8 qhe qhc); (try clear qhj qhl qhm qhk); (try clear qhd qg9 qhf qha); (try clear p2)
     obtain ⟨kq, qbm6, rfl, HA, HJ12, qfp, HB⟩ := hcut
     cases kq with
     | zero => exact absurd HA.out (by simp [qo.j1])
     | succ kj12 =>
      have H := HA.out
      clear HA
      simp only [qo.j1] at H
      have HC17 := qc.mk H
      clear H
      go_upto_block 0 with (fail)
      repeat (go_quiet (fail); go_upto_block 0 with (fail))
      go_cut [] (fun wc => ∃ (kq : Nat), qc (qo.j3 kq a1 a0_0 a0_1 a0_2 l0_3 = some r) ∧ qc (kq ≤ kj12) ∧ qc (wc.heap[qfy]? = some (.cells #[.int .i64 a0_0, .int .i64 a0_1, .string a0_2, (.slice A0_3 l0_3.length c0_3)] 27 (0, 0))) ∧ qc (Below w.heap.size w wc))
      case first =>
       have H := HC17.out
       clear HC17
       have HC18 := qc.mk H
       clear H
       go_upto_region 4 with (fail)
       repeat (go_quiet (fail); go_upto_region 4 with (fail))
       go_cut [36] (fun v36 wc => ∃ (kq : Nat) (qbfj : Bool), v36 = .bool qbfj ∧ qc (qo.j2 kq a1 qbfj a0_0 a0_1 a0_2 l0_3 = some r) ∧ qc (kq ≤ kj12) ∧ qc (wc.heap[qfy]? = some (.cells #[.int .i64 a0_0, .int .i64 a0_1, .string a0_2, (.slice A0_3 l0_3.length c0_3)] 27 (0, 0))) ∧ qc (Below w.heap.size w wc))
       case first =>
        have H := HC18.out
        clear HC18
        cases qbm6 with
        | true =>
          by_cases hE : a0_2.toList = []
          ·rw [if_pos (by simp [hE])] at H
           have hz2 : a0_2.toList.isEmpty = true := by simp [hE]
           have H' := qc.mk H
           clear H
           have qml : wc.cell? ⟨qfy, 0, none⟩ = some (.int .i64 a0_0) := (qb qfp.out 0).trans rfl
           have ql9 : wc.cell? ⟨qfy, 1, none⟩ = some (.int .i64 a0_1) := (qb qfp.out 1).trans rfl
           have qmc : wc.cell? ⟨qfy, 2, none⟩ = some (.string a0_2) := (qb qfp.out 2).trans rfl
           have ql8 : wc.cell? ⟨qfy, 3, none⟩ = some (.slice A0_3 l0_3.length c0_3) := (qb qfp.out 3).trans rfl
           have qhv := qa qfp.out 0
           have qh2 := qa qfp.out 1
           have qh6 := qa qfp.out 2
           have qh0 := qa qfp.out 3
           go_wp2
           repeat (go_quiet (fail); try go_wp2)
           go_meet
           case rel => exact ⟨_, (true), (by first | rfl | (simp; done) | (simp [*]; done)), H', ⟨by have := HJ2.out; have := HJ12.out; first | omega | exact Nat.le_refl _⟩, ⟨by (with_reducible repeat (first | refine qj ?_ _ | refine qm ?_ | refine qi ?_ _)); exact qfp.out⟩, ⟨by repeat (first | (with_reducible first | exact HB.out | apply qg | apply qd | apply qh | refine ql ?_ qg7.out) | exact HB.out)⟩⟩
          ·rw [if_neg (by simp [hE])] at H
           have hz2 : a0_2.toList.isEmpty = false := by simp [hE]
           have H1 : ((qbg.f kj12 a0_2).bind fun t208 => (qo.j2 kj12 a1 (!t208) a0_0 a0_1 a0_2 l0_3)) = some r := by rw [if_pos rfl] at H; exact H
           clear H
           have H := H1
           clear H1
           replace H := Option.bind_eq_some_iff.mp H
           obtain ⟨t208, A220, H⟩ := H
           replace H : (qo.j2 kj12 a1 (!t208) a0_0 a0_1 a0_2 l0_3) = some r := H
           have A22 := qc.mk A220
           clear A220
           have H' := qc.mk H
           clear H
           have qxy : wc.cell? ⟨qfy, 0, none⟩ = some (.int .i64 a0_0) := (qb qfp.out 0).trans rfl
           have qxl : wc.cell? ⟨qfy, 1, none⟩ = some (.int .i64 a0_1) := (qb qfp.out 1).trans rfl
           have qxd : wc.cell? ⟨qfy, 2, none⟩ = some (.string a0_2) := (qb qfp.out 2).trans rfl
           have qyz : wc.cell? ⟨qfy, 3, none⟩ = some (.slice A0_3 l0_3.length c0_3) := (qb qfp.out 3).trans rfl
           have qzm := qa qfp.out 0
           have qxo := qa qfp.out 1
           have qxh := qa qfp.out 2
           have qxf := qa qfp.out 3
           go_wp2_with (first | (go_at_call 21; (with_reducible refine (qbg.calls kj12 a0_2 t208 _ A22.out).mono ?_); rintro e w24 ⟨rfl, hb⟩; have n0_ := qc.mk (qbb (g := qfy) (o := .cells #[.int .i64 a0_0, .int .i64 a0_1, .string a0_2, .slice A0_3 l0_3.length c0_3] 27 (0, 0)) (by (with_reducible repeat (first | refine qj ?_ _ | refine qm ?_ | refine qi ?_ _)); exact qfp.out) hb); have n1_ := qc.mk (q9 (by repeat (first | (with_reducible first | exact HB.out | apply qg | apply qd | apply qh | refine ql ?_ qg7.out) | exact HB.out)) hb); clear qfp; clear HB; have qfp := n0_; have HB := n1_; clear n0_ n1_; (try clear hb); (try clear hb2); (try clear hk); (try clear hi)))
           repeat (go_quiet (first | (go_at_call 21; (with_reducible refine (qbg.calls kj12 a0_2 t208 _ A22.out).mono ?_); rintro e w24 ⟨rfl, hb⟩; have n0_ := qc.mk (qbb (g := qfy) (o := .cells #[.int .i64 a0_0, .int .i64 a0_1, .string a0_2, .slice A0_3 l0_3.length c0_3] 27 (0, 0)) (by (with_reducible repeat (first | refine qj ?_ _ | refine qm ?_ | refine qi ?_ _)); exact qfp.out) hb); have n1_ := qc.mk (q9 (by repeat (first | (with_reducible first | exact HB.out | apply qg | apply qd | apply qh | refine ql ?_ qg7.out) | exact HB.out)) hb); clear qfp; clear HB; have qfp := n0_; have HB := n1_; clear n0_ n1_; (try clear hb); (try clear hb2); (try clear hk); (try clear hi))); try go_wp2_with (first | (go_at_call 21; (with_reducible refine (qbg.calls kj12 a0_2 t208 _ A22.out).mono ?_); rintro e w24 ⟨rfl, hb⟩; have n0_ := qc.mk (qbb (g := qfy) (o := .cells #[.int .i64 a0_0, .int .i64 a0_1, .string a0_2, .slice A0_3 l0_3.length c0_3] 27 (0, 0)) (by (with_reducible repeat (first | refine qj ?_ _ | refine qm ?_ | refine qi ?_ _)); exact qfp.out) hb); have n1_ := qc.mk (q9 (by repeat (first | (with_reducible first | exact HB.out | apply qg | apply qd | apply qh | refine ql ?_ qg7.out) | exact HB.out)) hb); clear qfp; clear HB; have qfp := n0_; have HB := n1_; clear n0_ n1_; (try clear hb); (try clear hb2); (try clear hk); (try clear hi))))
           go_meet
           case rel => exact ⟨_, (!t208), (by first | rfl | (simp; done) | (simp [*]; done)), H', ⟨by have := HJ2.out; have := HJ12.out; first | omega | exact Nat.le_refl _⟩, ⟨by (with_reducible repeat (first | refine qj ?_ _ | refine qm ?_ | refine qi ?_ _)); exact qfp.out⟩, ⟨by repeat (first | (with_reducible first | exact HB.out | apply qg | apply qd | apply qh | refine ql ?_ qg7.out) | exact HB.out)⟩⟩
        | false =>
          by_cases hE : a0_2.toList = []
          ·rw [if_neg (by simp [hE])] at H
           have hz2 : a0_2.toList.isEmpty = true := by simp [hE]
           have H1 : (qo.j2 kj12 a1 false a0_0 a0_1 a0_2 l0_3) = some r := by rw [if_neg (show ¬ (false = true) by decide)] at H; exact H
           clear H
           have H := H1
           clear H1
           have H' := qc.mk H
           clear H
           have q80 : wc.cell? ⟨qfy, 0, none⟩ = some (.int .i64 a0_0) := (qb qfp.out 0).trans rfl
           have qbem : wc.cell? ⟨qfy, 1, none⟩ = some (.int .i64 a0_1) := (qb qfp.out 1).trans rfl
           have qbeb : wc.cell? ⟨qfy, 2, none⟩ = some (.string a0_2) := (qb qfp.out 2).trans rfl
           have q97 : wc.cell? ⟨qfy, 3, none⟩ = some (.slice A0_3 l0_3.length c0_3) := (qb qfp.out 3).trans rfl
           have qbec := qa qfp.out 0
           have q9e := qa qfp.out 1
           have q94 := qa qfp.out 2
           have qbbs := qa qfp.out 3
           go_wp2
           repeat (go_quiet (fail); try go_wp2)
           go_meet
           case rel => exact ⟨_, (false), (by first | rfl | (simp; done) | (simp [*]; done)), H', ⟨by have := HJ2.out; have := HJ12.out; first | omega | exact Nat.le_refl _⟩, ⟨by (with_reducible repeat (first | refine qj ?_ _ | refine qm ?_ | refine qi ?_ _)); exact qfp.out⟩, ⟨by repeat (first | (with_reducible first | exact HB.out | apply qg | apply qd | apply qh | refine ql ?_ qg7.out) | exact HB.out)⟩⟩
          ·rw [if_pos (by simp [hE])] at H
           have hz2 : a0_2.toList.isEmpty = false := by simp [hE]
           have H' := qc.mk H
           clear H
           have qml : wc.cell? ⟨qfy, 0, none⟩ = some (.int .i64 a0_0) := (qb qfp.out 0).trans rfl
           have ql9 : wc.cell? ⟨qfy, 1, none⟩ = some (.int .i64 a0_1) := (qb qfp.out 1).trans rfl
           have qmc : wc.cell? ⟨qfy, 2, none⟩ = some (.string a0_2) := (qb qfp.out 2).trans rfl
           have ql8 : wc.cell? ⟨qfy, 3, none⟩ = some (.slice A0_3 l0_3.length c0_3) := (qb qfp.out 3).trans rfl
           have qhv := qa qfp.out 0
           have qh2 := qa qfp.out 1
           have qh6 := qa qfp.out 2
           have qh0 := qa qfp.out 3
           go_wp2
           repeat (go_quiet (fail); try go_wp2)
           go_meet
           case rel => exact ⟨_, (true), (by first | rfl | (simp; done) | (simp [*]; done)), H', ⟨by have := HJ2.out; have := HJ12.out; first | omega | exact Nat.le_refl _⟩, ⟨by (with_reducible repeat (first | refine qj ?_ _ | refine qm ?_ | refine qi ?_ _)); exact qfp.out⟩, ⟨by repeat (first | (with_reducible first | exact HB.out | apply qg | apply qd | apply qh | refine ql ?_ qg7.out) | exact HB.out)⟩⟩
       case rest =>
        clear HC18
        (try clear c1); (try clear c2); (try clear p2); (try clear c4); (try clear c5); (try clear c5b0); (try clear c6); (try clear c6b0); (try clear c8); (try clear c8b0); (try clear c12); (try clear c14); (try clear c14b0); (try clear c14b1); (try clear c19); (try clear c19b0); (try clear c19b1); (try clear c19b2); (try clear c21); (try clear qit qig qij qih); (try clear qh3 qhw qht qhp); (try clear qjb qjd qjg qi7); (try clear qml ql9 qmc ql8); (try clear qxy qxl qxd qyz); (try clear q80 qbem qbeb q97); (try clear qjl qjm qjj qjk); (try clear qh4 qhu qh7 qhx); (try clear qif qin qik qio); (try clear qg0 qgx qgz qgy); (try clear qhb qg8 qhe qhc); (try clear qhv qh2 qh6 qh0); (try clear qzm qxo qxh qxf); (try clear qbec q9e q94 qbbs); (try clear qhj qhl qhm qhk); (try clear qhd qg9 qhf qha); (try clear p2)
        obtain ⟨kq, qbfj, rfl, HA, HJ17, qfp, HB⟩ := hcut
        cases kq with
        | zero => exact absurd HA.out (by simp [qo.j2])
        | succ kj17 =>
         have H := HA.out
         clear HA
         simp only [qo.j2] at H
         by_cases c26 : qbfj = true
         ·subst c26
          have H1 : (some false) = some r := by rw [if_pos rfl] at H; exact H
          clear H
          have H := H1
          clear H1
          obtain rfl := Option.some.inj H
          go_wp2
          repeat (go_quiet (fail); try go_wp2)
          go_ret
          exact ⟨by first | rfl | (simp [qx, qy] <;> rfl) | (simp [*, qx, qy] <;> rfl), by repeat (first | (with_reducible first | exact HB.out | apply qg | apply qd | apply qh | refine ql ?_ qg7.out) | exact HB.out)⟩
         ·replace c26 := Bool.eq_false_iff.mpr c26
          subst c26
          have H1 : (if a0_0 = 1 then (if a0_1 = 0 then (if a0_0 = 0 then (if a0_1 = (-9223372036854775808) then (some false) else (if a0_0 > 1 then (qo.j3 kj17 a1 a0_0 a0_1 a0_2 l0_3) else (qo.j3 kj17 a1 a0_0 a0_1 a0_2 l0_3))) else (if a0_0 > 1 then (qo.j3 kj17 a1 a0_0 a0_1 a0_2 l0_3) else (qo.j3 kj17 a1 a0_0 a0_1 a0_2 l0_3))) else (if a0_1 = 1 then (if a0_0 = 0 then (if a0_1 = (-9223372036854775808) then (some false) else (if a0_0 > 1 then (some false) else (qo.j3 kj17 a1 a0_0 a0_1 a0_2 l0_3))) else (if a0_0 > 1 then (some false) else (qo.j3 kj17 a1 a0_0 a0_1 a0_2 l0_3))) else (some false))) else (if a0_0 = 0 then (if a0_1 = (-9223372036854775808) then (some false) else (if a0_0 > 1 then (if a0_1 = 0 then (qo.j3 kj17 a1 a0_0 a0_1 a0_2 l0_3) else (some false)) else (qo.j3 kj17 a1 a0_0 a0_1 a0_2 l0_3))) else (if a0_0 > 1 then (if a0_1 = 0 then (qo.j3 kj17 a1 a0_0 a0_1 a0_2 l0_3) else (some false)) else (qo.j3 kj17 a1 a0_0 a0_1 a0_2 l0_3)))) = some r := by rw [if_neg (show ¬ (false = true) by decide)] at H; exact H
          clear H
          have H := H1
          clear H1
          by_cases c27 : a0_0 = 1
          ·rw [if_pos c27] at H
           have c27b0 : (a0_0 == 1) = true := beq_iff_eq.mpr c27
           have c27b1 : (a0_0 != 1) = false := bne_eq_false_iff_eq.mpr c27
           clear c27
           by_cases c28 : a0_1 = 0
           ·rw [if_pos c28] at H
            have c28b0 : (a0_1 == 0) = true := beq_iff_eq.mpr c28
            have c28b1 : (a0_1 != 0) = false := bne_eq_false_iff_eq.mpr c28
            clear c28
            by_cases c29 : a0_0 = 0
            ·rw [if_pos c29] at H
             have c29b0 : (a0_0 == 0) = true := beq_iff_eq.mpr c29
             have c29b1 : (a0_0 != 0) = false := bne_eq_false_iff_eq.mpr c29
             clear c29
             by_cases c30 : a0_1 = (-9223372036854775808)
             ·rw [if_pos c30] at H
              have c30b0 : (a0_1 == (-9223372036854775808)) = true := beq_iff_eq.mpr c30
              have c30b1 : (a0_1 != (-9223372036854775808)) = false := bne_eq_false_iff_eq.mpr c30
              clear c30
              obtain rfl := Option.some.inj H
              have qm0 : wc.cell? ⟨qfy, 0, none⟩ = some (.int .i64 a0_0) := (qb qfp.out 0).trans rfl
              have qm9 : wc.cell? ⟨qfy, 1, none⟩ = some (.int .i64 a0_1) := (qb qfp.out 1).trans rfl
              have qmw : wc.cell? ⟨qfy, 2, none⟩ = some (.string a0_2) := (qb qfp.out 2).trans rfl
              have qna : wc.cell? ⟨qfy, 3, none⟩ = some (.slice A0_3 l0_3.length c0_3) := (qb qfp.out 3).trans rfl
              have qm4 := qa qfp.out 0
              have qng := qa qfp.out 1
              have qm3 := qa qfp.out 2
              have qm1 := qa qfp.out 3
              go_wp2
              repeat (go_quiet (fail); try go_wp2)
              go_ret
              exact ⟨by first | rfl | (simp [qx, qy] <;> rfl) | (simp [*, qx, qy] <;> rfl), by repeat (first | (with_reducible first | exact HB.out | apply qg | apply qd | apply qh | refine ql ?_ qg7.out) | exact HB.out)⟩
             ·rw [if_neg c30] at H
              have c30b0 : (a0_1 == (-9223372036854775808)) = false := beq_eq_false_iff_ne.mpr c30
              have c30b1 : (a0_1 != (-9223372036854775808)) = true := bne_iff_ne.mpr c30
              by_cases c32 : a0_0 > 1
              ·rw [if_pos c32] at H
               have c32b0 : decide (1 < a0_0) = true := decide_eq_true c32
               clear c32
               have H' := qc.mk H
               clear H
               have qs2 : wc.cell? ⟨qfy, 0, none⟩ = some (.int .i64 a0_0) := (qb qfp.out 0).trans rfl
               have qsn : wc.cell? ⟨qfy, 1, none⟩ = some (.int .i64 a0_1) := (qb qfp.out 1).trans rfl
               have qr6 : wc.cell? ⟨qfy, 2, none⟩ = some (.string a0_2) := (qb qfp.out 2).trans rfl
               have qpt : wc.cell? ⟨qfy, 3, none⟩ = some (.slice A0_3 l0_3.length c0_3) := (qb qfp.out 3).trans rfl
               have qkm := qa qfp.out 0
               have qkt := qa qfp.out 1
               have qkx := qa qfp.out 2
               have qk6 := qa qfp.out 3
               go_wp2
               repeat (go_quiet (fail); try go_wp2)
               go_meet
               case rel => exact ⟨_, H', ⟨by have := HJ2.out; have := HJ12.out; have := HJ17.out; first | omega | exact Nat.le_refl _⟩, ⟨by (with_reducible repeat (first | refine qj ?_ _ | refine qm ?_ | refine qi ?_ _)); exact qfp.out⟩, ⟨by repeat (first | (with_reducible first | exact HB.out | apply qg | apply qd | apply qh | refine ql ?_ qg7.out) | exact HB.out)⟩⟩
              ·rw [if_neg c32] at H
               have c32b0 : decide (1 < a0_0) = false := decide_eq_false c32
               clear c32
               have H' := qc.mk H
               clear H
               have qbiw : wc.cell? ⟨qfy, 0, none⟩ = some (.int .i64 a0_0) := (qb qfp.out 0).trans rfl
               have qbhw : wc.cell? ⟨qfy, 1, none⟩ = some (.int .i64 a0_1) := (qb qfp.out 1).trans rfl
               have qbhd : wc.cell? ⟨qfy, 2, none⟩ = some (.string a0_2) := (qb qfp.out 2).trans rfl
               have qbhc : wc.cell? ⟨qfy, 3, none⟩ = some (.slice A0_3 l0_3.length c0_3) := (qb qfp.out 3).trans rfl
               have qbjx := qa qfp.out 0
               have qbgz := qa qfp.out 1
               have qbht := qa qfp.out 2
               have qbgy := qa qfp.out 3
               go_wp2
               repeat (go_quiet (fail); try go_wp2)
               go_meet
               case rel => exact ⟨_, H', ⟨by have := HJ2.out; have := HJ12.out; have := HJ17.out; first | omega | exact Nat.le_refl _⟩, ⟨by (with_reducible repeat (first | refine qj ?_ _ | refine qm ?_ | refine qi ?_ _)); exact qfp.out⟩, ⟨by repeat (first | (with_reducible first | exact HB.out | apply qg | apply qd | apply qh | refine ql ?_ qg7.out) | exact HB.out)⟩⟩
            ·rw [if_neg c29] at H
             have c29b0 : (a0_0 == 0) = false := beq_eq_false_iff_ne.mpr c29
             have c29b1 : (a0_0 != 0) = true := bne_iff_ne.mpr c29
             by_cases c35 : a0_0 > 1
             ·rw [if_pos c35] at H
              have c35b0 : decide (1 < a0_0) = true := decide_eq_true c35
              clear c35
              have H' := qc.mk H
              clear H
              have q8a : wc.cell? ⟨qfy, 0, none⟩ = some (.int .i64 a0_0) := (qb qfp.out 0).trans rfl
              have qbc8 : wc.cell? ⟨qfy, 1, none⟩ = some (.int .i64 a0_1) := (qb qfp.out 1).trans rfl
              have qbdq : wc.cell? ⟨qfy, 2, none⟩ = some (.string a0_2) := (qb qfp.out 2).trans rfl
              have qbcn : wc.cell? ⟨qfy, 3, none⟩ = some (.slice A0_3 l0_3.length c0_3) := (qb qfp.out 3).trans rfl
              have qbab := qa qfp.out 0
              have q98 := qa qfp.out 1
              have qbd5 := qa qfp.out 2
              have qbdw := qa qfp.out 3
              go_wp2
              repeat (go_quiet (fail); try go_wp2)
              go_meet
              case rel => exact ⟨_, H', ⟨by have := HJ2.out; have := HJ12.out; have := HJ17.out; first | omega | exact Nat.le_refl _⟩, ⟨by (with_reducible repeat (first | refine qj ?_ _ | refine qm ?_ | refine qi ?_ _)); exact qfp.out⟩, ⟨by repeat (first | (with_reducible first | exact HB.out | apply qg | apply qd | apply qh | refine ql ?_ qg7.out) | exact HB.out)⟩⟩
             ·rw [if_neg c35] at H
              have c35b0 : decide (1 < a0_0) = false := decide_eq_false c35
              clear c35
              have H' := qc.mk H
              clear H
              have qvp : wc.cell? ⟨qfy, 0, none⟩ = some (.int .i64 a0_0) := (qb qfp.out 0).trans rfl
              have qvi : wc.cell? ⟨qfy, 1, none⟩ = some (.int .i64 a0_1) := (qb qfp.out 1).trans rfl
              have qu8 : wc.cell? ⟨qfy, 2, none⟩ = some (.string a0_2) := (qb qfp.out 2).trans rfl
              have qv9 : wc.cell? ⟨qfy, 3, none⟩ = some (.slice A0_3 l0_3.length c0_3) := (qb qfp.out 3).trans rfl
              have qmf := qa qfp.out 0
              have qmk := qa qfp.out 1
              have qmn := qa qfp.out 2
              have qmd := qa qfp.out 3
              go_wp2
              repeat (go_quiet (fail); try go_wp2)
              go_meet
              case rel => exact ⟨_, H', ⟨by have := HJ2.out; have := HJ12.out; have := HJ17.out; first | omega | exact Nat.le_refl _⟩, ⟨by (with_reducible repeat (first | refine qj ?_ _ | refine qm ?_ | refine qi ?_ _)); exact qfp.out⟩, ⟨by repeat (first | (with_reducible first | exact HB.out | apply qg | apply qd | apply qh | refine ql ?_ qg7.out) | exact HB.out)⟩⟩
           ·rw [if_neg c28] at H
            have c28b0 : (a0_1 == 0) = false := beq_eq_false_iff_ne.mpr c28
            have c28b1 : (a0_1 != 0) = true := bne_iff_ne.mpr c28
            by_cases c38 : a0_1 = 1
            ·rw [if_pos c38] at H
             have c38b0 : (a0_1 == 1) = true := beq_iff_eq.mpr c38
             have c38b1 : (a0_1 != 1) = false := bne_eq_false_iff_eq.mpr c38
             clear c38
             by_cases c39 : a0_0 = 0
             ·rw [if_pos c39] at H
              have c39b0 : (a0_0 == 0) = true := beq_iff_eq.mpr c39
              have c39b1 : (a0_0 != 0) = false := bne_eq_false_iff_eq.mpr c39
              clear c39
              by_cases c40 : a0_1 = (-9223372036854775808)
              ·rw [if_pos c40] at H
               have c40b0 : (a0_1 == (-9223372036854775808)) = true := beq_iff_eq.mpr c40
               have c40b1 : (a0_1 != (-9223372036854775808)) = false := bne_eq_false_iff_eq.mpr c40
               clear c40
               obtain rfl := Option.some.inj H
               have qoq : wc.cell? ⟨qfy, 0, none⟩ = some (.int .i64 a0_0) := (qb qfp.out 0).trans rfl
               have qoa : wc.cell? ⟨qfy, 1, none⟩ = some (.int .i64 a0_1) := (qb qfp.out 1).trans rfl
               have qow : wc.cell? ⟨qfy, 2, none⟩ = some (.string a0_2) := (qb qfp.out 2).trans rfl
               have qno : wc.cell? ⟨qfy, 3, none⟩ = some (.slice A0_3 l0_3.length c0_3) := (qb qfp.out 3).trans rfl
               have qox := qa qfp.out 0
               have qnz := qa qfp.out 1
               have qns := qa qfp.out 2
               have qo3 := qa qfp.out 3
               go_wp2
               repeat (go_quiet (fail); try go_wp2)
               go_ret
               exact ⟨by first | rfl | (simp [qx, qy] <;> rfl) | (simp [*, qx, qy] <;> rfl), by repeat (first | (with_reducible first | exact HB.out | apply qg | apply qd | apply qh | refine ql ?_ qg7.out) | exact HB.out)⟩
              ·rw [if_neg c40] at H
               have c40b0 : (a0_1 == (-9223372036854775808)) = false := beq_eq_false_iff_ne.mpr c40
               have c40b1 : (a0_1 != (-9223372036854775808)) = true := bne_iff_ne.mpr c40
               by_cases c42 : a0_0 > 1
               ·rw [if_pos c42] at H
                have c42b0 : decide (1 < a0_0) = true := decide_eq_true c42
                clear c42
                obtain rfl := Option.some.inj H
                have quy : wc.cell? ⟨qfy, 0, none⟩ = some (.int .i64 a0_0) := (qb qfp.out 0).trans rfl
                have qvg : wc.cell? ⟨qfy, 1, none⟩ = some (.int .i64 a0_1) := (qb qfp.out 1).trans rfl
                have qvq : wc.cell? ⟨qfy, 2, none⟩ = some (.string a0_2) := (qb qfp.out 2).trans rfl
                have qu5 : wc.cell? ⟨qfy, 3, none⟩ = some (.slice A0_3 l0_3.length c0_3) := (qb qfp.out 3).trans rfl
                have qvc := qa qfp.out 0
                have qu1 := qa qfp.out 1
                have qvh := qa qfp.out 2
                have que := qa qfp.out 3
                go_wp2
                repeat (go_quiet (fail); try go_wp2)
                go_ret
                exact ⟨by first | rfl | (simp [qx, qy] <;> rfl) | (simp [*, qx, qy] <;> rfl), by repeat (first | (with_reducible first | exact HB.out | apply qg | apply qd | apply qh | refine ql ?_ qg7.out) | exact HB.out)⟩
               ·rw [if_neg c42] at H
                have c42b0 : decide (1 < a0_0) = false := decide_eq_false c42
                clear c42
                have H' := qc.mk H
                clear H
                have qrn : wc.cell? ⟨qfy, 0, none⟩ = some (.int .i64 a0_0) := (qb qfp.out 0).trans rfl
                have qsj : wc.cell? ⟨qfy, 1, none⟩ = some (.int .i64 a0_1) := (qb qfp.out 1).trans rfl
                have qsu : wc.cell? ⟨qfy, 2, none⟩ = some (.string a0_2) := (qb qfp.out 2).trans rfl
                have qty : wc.cell? ⟨qfy, 3, none⟩ = some (.slice A0_3 l0_3.length c0_3) := (qb qfp.out 3).trans rfl
                have qk4 := qa qfp.out 0
                have qlc := qa qfp.out 1
                have qlb := qa qfp.out 2
                have qkv := qa qfp.out 3
                go_wp2
                repeat (go_quiet (fail); try go_wp2)
                go_meet
                case rel => exact ⟨_, H', ⟨by have := HJ2.out; have := HJ12.out; have := HJ17.out; first | omega | exact Nat.le_refl _⟩, ⟨by (with_reducible repeat (first | refine qj ?_ _ | refine qm ?_ | refine qi ?_ _)); exact qfp.out⟩, ⟨by repeat (first | (with_reducible first | exact HB.out | apply qg | apply qd | apply qh | refine ql ?_ qg7.out) | exact HB.out)⟩⟩
             ·rw [if_neg c39] at H
              have c39b0 : (a0_0 == 0) = false := beq_eq_false_iff_ne.mpr c39
              have c39b1 : (a0_0 != 0) = true := bne_iff_ne.mpr c39
              by_cases c45 : a0_0 > 1
              ·rw [if_pos c45] at H
               have c45b0 : decide (1 < a0_0) = true := decide_eq_true c45
               clear c45
               obtain rfl := Option.some.inj H
               have qwe : wc.cell? ⟨qfy, 0, none⟩ = some (.int .i64 a0_0) := (qb qfp.out 0).trans rfl
               have qwb : wc.cell? ⟨qfy, 1, none⟩ = some (.int .i64 a0_1) := (qb qfp.out 1).trans rfl
               have qu4 : wc.cell? ⟨qfy, 2, none⟩ = some (.string a0_2) := (qb qfp.out 2).trans rfl
               have quk : wc.cell? ⟨qfy, 3, none⟩ = some (.slice A0_3 l0_3.length c0_3) := (qb qfp.out 3).trans rfl
               have qmh := qa qfp.out 0
               have qls := qa qfp.out 1
               have qlw := qa qfp.out 2
               have qmj := qa qfp.out 3
               go_wp2
               repeat (go_quiet (fail); try go_wp2)
               go_ret
               exact ⟨by first | rfl | (simp [qx, qy] <;> rfl) | (simp [*, qx, qy] <;> rfl), by repeat (first | (with_reducible first | exact HB.out | apply qg | apply qd | apply qh | refine ql ?_ qg7.out) | exact HB.out)⟩
              ·rw [if_neg c45] at H
               have c45b0 : decide (1 < a0_0) = false := decide_eq_false c45
               clear c45
               have H' := qc.mk H
               clear H
               have qbgn : wc.cell? ⟨qfy, 0, none⟩ = some (.int .i64 a0_0) := (qb qfp.out 0).trans rfl
               have qbhj : wc.cell? ⟨qfy, 1, none⟩ = some (.int .i64 a0_1) := (qb qfp.out 1).trans rfl
               have qbhb : wc.cell? ⟨qfy, 2, none⟩ = some (.string a0_2) := (qb qfp.out 2).trans rfl
               have qbkd : wc.cell? ⟨qfy, 3, none⟩ = some (.slice A0_3 l0_3.length c0_3) := (qb qfp.out 3).trans rfl
               have qbig := qa qfp.out 0
               have qbla := qa qfp.out 1
               have qbkr := qa qfp.out 2
               have qbhq := qa qfp.out 3
               go_wp2
               repeat (go_quiet (fail); try go_wp2)
               go_meet
               case rel => exact ⟨_, H', ⟨by have := HJ2.out; have := HJ12.out; have := HJ17.out; first | omega | exact Nat.le_refl _⟩, ⟨by (with_reducible repeat (first | refine qj ?_ _ | refine qm ?_ | refine qi ?_ _)); exact qfp.out⟩, ⟨by repeat (first | (with_reducible first | exact HB.out | apply qg | apply qd | apply qh | refine ql ?_ qg7.out) | exact HB.out)⟩⟩
            ·rw [if_neg c38] at H
             have c38b0 : (a0_1 == 1) = false := beq_eq_false_iff_ne.mpr c38
             have c38b1 : (a0_1 != 1) = true := bne_iff_ne.mpr c38
             obtain rfl := Option.some.inj H
             have qyq : wc.cell? ⟨qfy, 0, none⟩ = some (.int .i64 a0_0) := (qb qfp.out 0).trans rfl
             have qxt : wc.cell? ⟨qfy, 1, none⟩ = some (.int .i64 a0_1) := (qb qfp.out 1).trans rfl
             have qy5 : wc.cell? ⟨qfy, 2, none⟩ = some (.string a0_2) := (qb qfp.out 2).trans rfl
             have qxn : wc.cell? ⟨qfy, 3, none⟩ = some (.slice A0_3 l0_3.length c0_3) := (qb qfp.out 3).trans rfl
             have qxa := qa qfp.out 0
             have qx3 := qa qfp.out 1
             have qxg := qa qfp.out 2
             have qw7 := qa qfp.out 3
             go_wp2
             repeat (go_quiet (fail); try go_wp2)
             go_ret
             exact ⟨by first | rfl | (simp [qx, qy] <;> rfl) | (simp [*, qx, qy] <;> rfl), by repeat (first | (with_reducible first | exact HB.out | apply qg | apply qd | apply qh | refine ql ?_ qg7.out) | exact HB.out)⟩
          ·rw [if_neg c27] at H
           have c27b0 : (a0_0 == 1) = false := beq_eq_false_iff_ne.mpr c27
           have c27b1 : (a0_0 != 1) = true := bne_iff_ne.mpr c27
           by_cases c49 : a0_0 = 0
           ·rw [if_pos c49] at H
            have c49b0 : (a0_0 == 0) = true := beq_iff_eq.mpr c49
            have c49b1 : (a0_0 != 0) = false := bne_eq_false_iff_eq.mpr c49
            clear c49
            by_cases c50 : a0_1 = (-9223372036854775808)
            ·rw [if_pos c50] at H
             have c50b0 : (a0_1 == (-9223372036854775808)) = true := beq_iff_eq.mpr c50
             have c50b1 : (a0_1 != (-9223372036854775808)) = false := bne_eq_false_iff_eq.mpr c50
             clear c50
             obtain rfl := Option.some.inj H
             have qnb : wc.cell? ⟨qfy, 0, none⟩ = some (.int .i64 a0_0) := (qb qfp.out 0).trans rfl
             have qmx : wc.cell? ⟨qfy, 1, none⟩ = some (.int .i64 a0_1) := (qb qfp.out 1).trans rfl
             have qnc : wc.cell? ⟨qfy, 2, none⟩ = some (.string a0_2) := (qb qfp.out 2).trans rfl
             have qni : wc.cell? ⟨qfy, 3, none⟩ = some (.slice A0_3 l0_3.length c0_3) := (qb qfp.out 3).trans rfl
             have qji := qa qfp.out 0
             have qi3 := qa qfp.out 1
             have qi9 := qa qfp.out 2
             have qjc := qa qfp.out 3
             go_wp2
             repeat (go_quiet (fail); try go_wp2)
             go_ret
             exact ⟨by first | rfl | (simp [qx, qy] <;> rfl) | (simp [*, qx, qy] <;> rfl), by repeat (first | (with_reducible first | exact HB.out | apply qg | apply qd | apply qh | refine ql ?_ qg7.out) | exact HB.out)⟩
            ·rw [if_neg c50] at H
             have c50b0 : (a0_1 == (-9223372036854775808)) = false := beq_eq_false_iff_ne.mpr c50
             have c50b1 : (a0_1 != (-9223372036854775808)) = true := bne_iff_ne.mpr c50
             by_cases c52 : a0_0 > 1
             ·rw [if_pos c52] at H
              have c52b0 : decide (1 < a0_0) = true := decide_eq_true c52
              clear c52
              by_cases c53 : a0_1 = 0
              ·rw [if_pos c53] at H
               have c53b0 : (a0_1 == 0) = true := beq_iff_eq.mpr c53
               have c53b1 : (a0_1 != 0) = false := bne_eq_false_iff_eq.mpr c53
               clear c53
               have H' := qc.mk H
               clear H
               have qu0 : wc.cell? ⟨qfy, 0, none⟩ = some (.int .i64 a0_0) := (qb qfp.out 0).trans rfl
               have qut : wc.cell? ⟨qfy, 1, none⟩ = some (.int .i64 a0_1) := (qb qfp.out 1).trans rfl
               have qun : wc.cell? ⟨qfy, 2, none⟩ = some (.string a0_2) := (qb qfp.out 2).trans rfl
               have qua : wc.cell? ⟨qfy, 3, none⟩ = some (.slice A0_3 l0_3.length c0_3) := (qb qfp.out 3).trans rfl
               have ql1 := qa qfp.out 0
               have qmi := qa qfp.out 1
               have qlq := qa qfp.out 2
               have ql4 := qa qfp.out 3
               go_wp2
               repeat (go_quiet (fail); try go_wp2)
               go_meet
               case rel => exact ⟨_, H', ⟨by have := HJ2.out; have := HJ12.out; have := HJ17.out; first | omega | exact Nat.le_refl _⟩, ⟨by (with_reducible repeat (first | refine qj ?_ _ | refine qm ?_ | refine qi ?_ _)); exact qfp.out⟩, ⟨by repeat (first | (with_reducible first | exact HB.out | apply qg | apply qd | apply qh | refine ql ?_ qg7.out) | exact HB.out)⟩⟩
              ·rw [if_neg c53] at H
               have c53b0 : (a0_1 == 0) = false := beq_eq_false_iff_ne.mpr c53
               have c53b1 : (a0_1 != 0) = true := bne_iff_ne.mpr c53
               obtain rfl := Option.some.inj H
               have q3v : wc.cell? ⟨qfy, 0, none⟩ = some (.int .i64 a0_0) := (qb qfp.out 0).trans rfl
               have q1i : wc.cell? ⟨qfy, 1, none⟩ = some (.int .i64 a0_1) := (qb qfp.out 1).trans rfl
               have q4i : wc.cell? ⟨qfy, 2, none⟩ = some (.string a0_2) := (qb qfp.out 2).trans rfl
               have q3r : wc.cell? ⟨qfy, 3, none⟩ = some (.slice A0_3 l0_3.length c0_3) := (qb qfp.out 3).trans rfl
               have q1e := qa qfp.out 0
               have q0a := qa qfp.out 1
               have q54 := qa qfp.out 2
               have q5v := qa qfp.out 3
               go_wp2
               repeat (go_quiet (fail); try go_wp2)
               go_ret
               exact ⟨by first | rfl | (simp [qx, qy] <;> rfl) | (simp [*, qx, qy] <;> rfl), by repeat (first | (with_reducible first | exact HB.out | apply qg | apply qd | apply qh | refine ql ?_ qg7.out) | exact HB.out)⟩
             ·rw [if_neg c52] at H
              have c52b0 : decide (1 < a0_0) = false := decide_eq_false c52
              clear c52
              have H' := qc.mk H
              clear H
              have qbg8 : wc.cell? ⟨qfy, 0, none⟩ = some (.int .i64 a0_0) := (qb qfp.out 0).trans rfl
              have qbgw : wc.cell? ⟨qfy, 1, none⟩ = some (.int .i64 a0_1) := (qb qfp.out 1).trans rfl
              have qbim : wc.cell? ⟨qfy, 2, none⟩ = some (.string a0_2) := (qb qfp.out 2).trans rfl
              have qbk4 : wc.cell? ⟨qfy, 3, none⟩ = some (.slice A0_3 l0_3.length c0_3) := (qb qfp.out 3).trans rfl
              have qbj8 := qa qfp.out 0
              have qbg6 := qa qfp.out 1
              have qbip := qa qfp.out 2
              have qbju := qa qfp.out 3
              go_wp2
              repeat (go_quiet (fail); try go_wp2)
              go_meet
              case rel => exact ⟨_, H', ⟨by have := HJ2.out; have := HJ12.out; have := HJ17.out; first | omega | exact Nat.le_refl _⟩, ⟨by (with_reducible repeat (first | refine qj ?_ _ | refine qm ?_ | refine qi ?_ _)); exact qfp.out⟩, ⟨by repeat (first | (with_reducible first | exact HB.out | apply qg | apply qd | apply qh | refine ql ?_ qg7.out) | exact HB.out)⟩⟩
           ·rw [if_neg c49] at H
            have c49b0 : (a0_0 == 0) = false := beq_eq_false_iff_ne.mpr c49
            have c49b1 : (a0_0 != 0) = true := bne_iff_ne.mpr c49
            by_cases c57 : a0_0 > 1
            ·rw [if_pos c57] at H
             have c57b0 : decide (1 < a0_0) = true := decide_eq_true c57
             clear c57
             by_cases c58 : a0_1 = 0
             ·rw [if_pos c58] at H
              have c58b0 : (a0_1 == 0) = true := beq_iff_eq.mpr c58
              have c58b1 : (a0_1 != 0) = false := bne_eq_false_iff_eq.mpr c58
              clear c58
              have H' := qc.mk H
              clear H
              have qt5 : wc.cell? ⟨qfy, 0, none⟩ = some (.int .i64 a0_0) := (qb qfp.out 0).trans rfl
              have qv6 : wc.cell? ⟨qfy, 1, none⟩ = some (.int .i64 a0_1) := (qb qfp.out 1).trans rfl
              have qv8 : wc.cell? ⟨qfy, 2, none⟩ = some (.string a0_2) := (qb qfp.out 2).trans rfl
              have qvn : wc.cell? ⟨qfy, 3, none⟩ = some (.slice A0_3 l0_3.length c0_3) := (qb qfp.out 3).trans rfl
              have qmb := qa qfp.out 0
              have qmm := qa qfp.out 1
              have qly := qa qfp.out 2
              have qlx := qa qfp.out 3
              go_wp2
              repeat (go_quiet (fail); try go_wp2)
              go_meet
              case rel => exact ⟨_, H', ⟨by have := HJ2.out; have := HJ12.out; have := HJ17.out; first | omega | exact Nat.le_refl _⟩, ⟨by (with_reducible repeat (first | refine qj ?_ _ | refine qm ?_ | refine qi ?_ _)); exact qfp.out⟩, ⟨by repeat (first | (with_reducible first | exact HB.out | apply qg | apply qd | apply qh | refine ql ?_ qg7.out) | exact HB.out)⟩⟩
             ·rw [if_neg c58] at H
              have c58b0 : (a0_1 == 0) = false := beq_eq_false_iff_ne.mpr c58
              have c58b1 : (a0_1 != 0) = true := bne_iff_ne.mpr c58
              obtain rfl := Option.some.inj H
              have qbi2 : wc.cell? ⟨qfy, 0, none⟩ = some (.int .i64 a0_0) := (qb qfp.out 0).trans rfl
              have qbk8 : wc.cell? ⟨qfy, 1, none⟩ = some (.int .i64 a0_1) := (qb qfp.out 1).trans rfl
              have qbg4 : wc.cell? ⟨qfy, 2, none⟩ = some (.string a0_2) := (qb qfp.out 2).trans rfl
              have qbjf : wc.cell? ⟨qfy, 3, none⟩ = some (.slice A0_3 l0_3.length c0_3) := (qb qfp.out 3).trans rfl
              have qbke := qa qfp.out 0
              have qbkt := qa qfp.out 1
              have qbjv := qa qfp.out 2
              have qbi3 := qa qfp.out 3
              go_wp2
              repeat (go_quiet (fail); try go_wp2)
              go_ret
              exact ⟨by first | rfl | (simp [qx, qy] <;> rfl) | (simp [*, qx, qy] <;> rfl), by repeat (first | (with_reducible first | exact HB.out | apply qg | apply qd | apply qh | refine ql ?_ qg7.out) | exact HB.out)⟩
            ·rw [if_neg c57] at H
             have c57b0 : decide (1 < a0_0) = false := decide_eq_false c57
             clear c57
             have H' := qc.mk H
             clear H
             have qbgm : wc.cell? ⟨qfy, 0, none⟩ = some (.int .i64 a0_0) := (qb qfp.out 0).trans rfl
             have qbji : wc.cell? ⟨qfy, 1, none⟩ = some (.int .i64 a0_1) := (qb qfp.out 1).trans rfl
             have qbhp : wc.cell? ⟨qfy, 2, none⟩ = some (.string a0_2) := (qb qfp.out 2).trans rfl
             have qbiv : wc.cell? ⟨qfy, 3, none⟩ = some (.slice A0_3 l0_3.length c0_3) := (qb qfp.out 3).trans rfl
             have qbjs := qa qfp.out 0
             have qbf2 := qa qfp.out 1
             have qbj1 := qa qfp.out 2
             have qbks := qa qfp.out 3
             go_wp2
             repeat (go_quiet (fail); try go_wp2)
             go_meet
             case rel => exact ⟨_, H', ⟨by have := HJ2.out; have := HJ12.out; have := HJ17.out; first | omega | exact Nat.le_refl _⟩, ⟨by (with_reducible repeat (first | refine qj ?_ _ | refine qm ?_ | refine qi ?_ _)); exact qfp.out⟩, ⟨by repeat (first | (with_reducible first | exact HB.out | apply qg | apply qd | apply qh | refine ql ?_ qg7.out) | exact HB.out)⟩⟩
      case rest =>
       clear HC17
       (try clear c1); (try clear c2); (try clear p2); (try clear c3); (try clear c4); (try clear c5); (try clear c5b0); (try clear c6); (try clear c6b0); (try clear c8); (try clear c8b0); (try clear c12); (try clear c14); (try clear c14b0); (try clear c14b1); (try clear c19); (try clear c19b0); (try clear c19b1); (try clear c19b2); (try clear c21); (try clear c26); (try clear c27); (try clear c27b0); (try clear c27b1); (try clear c28); (try clear c28b0); (try clear c28b1); (try clear c29); (try clear c29b0); (try clear c29b1); (try clear c30); (try clear c30b0); (try clear c30b1); (try clear c32); (try clear c32b0); (try clear c35); (try clear c35b0); (try clear c38); (try clear c38b0); (try clear c38b1); (try clear c39); (try clear c39b0); (try clear c39b1); (try clear c40); (try clear c40b0); (try clear c40b1); (try clear c42); (try clear c42b0); (try clear c45); (try clear c45b0); (try clear c49); (try clear c49b0); (try clear c49b1); (try clear c50); (try clear c50b0); (try clear c50b1); (try clear c52); (try clear c52b0); (try clear c53); (try clear c53b0); (try clear c53b1); (try clear c57); (try clear c57b0); (try clear c58); (try clear c58b0); (try clear c58b1); (try clear qit qig qij qih); (try clear qh3 qhw qht qhp); (try clear qjb qjd qjg qi7); (try clear qml ql9 qmc ql8); (try clear qxy qxl qxd qyz); (try clear q80 qbem qbeb q97); (try clear qm0 qm9 qmw qna); (try clear qs2 qsn qr6 qpt); (try clear qbiw qbhw qbhd qbhc); (try clear q8a qbc8 qbdq qbcn); (try clear qvp qvi qu8 qv9); (try clear qoq qoa qow qno); (try clear quy qvg qvq qu5); (try clear qrn qsj qsu qty); (try clear qwe qwb qu4 quk); (try clear qbgn qbhj qbhb qbkd); (try clear qyq qxt qy5 qxn); (try clear qnb qmx qnc qni); (try clear qu0 qut qun qua); (try clear q3v q1i q4i q3r); (try clear qbg8 qbgw qbim qbk4); (try clear qt5 qv6 qv8 qvn); (try clear qbi2 qbk8 qbg4 qbjf); (try clear qbgm qbji qbhp qbiv); (try clear qjl qjm qjj qjk); (try clear qh4 qhu qh7 qhx); (try clear qif qin qik qio); (try clear qg0 qgx qgz qgy); (try clear qhb qg8 qhe qhc); (try clear qhv qh2 qh6 qh0); (try clear qzm qxo qxh qxf); (try clear qbec q9e q94 qbbs); (try clear qm4 qng qm3 qm1); (try clear qkm qkt qkx qk6); (try clear qbjx qbgz qbht qbgy); (try clear qbab q98 qbd5 qbdw); (try clear qmf qmk qmn qmd); (try clear qox qnz qns qo3); (try clear qvc qu1 qvh que); (try clear qk4 qlc qlb qkv); (try clear qmh qls qlw qmj); (try clear qbig qbla qbkr qbhq); (try clear qxa qx3 qxg qw7); (try clear qji qi3 qi9 qjc); (try clear ql1 qmi qlq ql4); (try clear q1e q0a q54 q5v); (try clear qbj8 qbg6 qbip qbju); (try clear qmb qmm qly qlx); (try clear qbke qbkt qbjv qbi3); (try clear qbjs qbf2 qbj1 qbks); (try clear qhj qhl qhm qhk); (try clear qhd qg9 qhf qha); (try clear p2)
       obtain ⟨kq, HA, HJ16, qfp, HB⟩ := hcut
       cases kq with
       | zero => exact absurd HA.out (by simp [qo.j3])
       | succ kj16 =>
        have H := HA.out
        clear HA
        simp only [qo.j3] at H
        have H' := qc.mk H
        clear H
        go_wp2
        repeat (go_quiet (fail); try go_wp2)
        go_loopg [6] kj16 (fun kq v6 w' => ∃ (x6_4 : Int), v6 = .int .i64 x6_4 ∧ qc (qo.l0 kq a1 x6_4 a0_0 a0_1 a0_2 l0_3 = some r) ∧ qc (kq ≤ kj16) ∧ qc (w'.heap[qfy]? = some (.cells #[.int .i64 a0_0, .int .i64 a0_1, .string a0_2, (.slice A0_3 l0_3.length c0_3)] 27 (0, 0))) ∧ qc (Below w.heap.size w w'))
        case atStart => exact ⟨(0), (by first | rfl | (simp; done) | (simp [*]; done)), H', ⟨Nat.le_refl _⟩, ⟨by (with_reducible repeat (first | refine qj ?_ _ | refine qm ?_ | refine qi ?_ _)); exact qfp.out⟩, ⟨by repeat (first | (with_reducible first | exact HB.out | apply qg | apply qd | apply qh | refine ql ?_ qg7.out) | exact HB.out)⟩⟩
        case round =>
         clear H'
         (try clear c1); (try clear c2); (try clear p2); (try clear c3); (try clear c4); (try clear c5); (try clear c5b0); (try clear c6); (try clear c6b0); (try clear c8); (try clear c8b0); (try clear c12); (try clear c14); (try clear c14b0); (try clear c14b1); (try clear c19); (try clear c19b0); (try clear c19b1); (try clear c19b2); (try clear c21); (try clear c26); (try clear c27); (try clear c27b0); (try clear c27b1); (try clear c28); (try clear c28b0); (try clear c28b1); (try clear c29); (try clear c29b0); (try clear c29b1); (try clear c30); (try clear c30b0); (try clear c30b1); (try clear c32); (try clear c32b0); (try clear c35); (try clear c35b0); (try clear c38); (try clear c38b0); (try clear c38b1); (try clear c39); (try clear c39b0); (try clear c39b1); (try clear c40); (try clear c40b0); (try clear c40b1); (try clear c42); (try clear c42b0); (try clear c45); (try clear c45b0); (try clear c49); (try clear c49b0); (try clear c49b1); (try clear c50); (try clear c50b0); (try clear c50b1); (try clear c52); (try clear c52b0); (try clear c53); (try clear c53b0); (try clear c53b1); (try clear c57); (try clear c57b0); (try clear c58); (try clear c58b0); (try clear c58b1); (try clear qit qig qij qih); (try clear qh3 qhw qht qhp); (try clear qjb qjd qjg qi7); (try clear qml ql9 qmc ql8); (try clear qxy qxl qxd qyz); (try clear q80 qbem qbeb q97); (try clear qm0 qm9 qmw qna); (try clear qs2 qsn qr6 qpt); (try clear qbiw qbhw qbhd qbhc); (try clear q8a qbc8 qbdq qbcn); (try clear qvp qvi qu8 qv9); (try clear qoq qoa qow qno); (try clear quy qvg qvq qu5); (try clear qrn qsj qsu qty); (try clear qwe qwb qu4 quk); (try clear qbgn qbhj qbhb qbkd); (try clear qyq qxt qy5 qxn); (try clear qnb qmx qnc qni); (try clear qu0 qut qun qua); (try clear q3v q1i q4i q3r); (try clear qbg8 qbgw qbim qbk4); (try clear qt5 qv6 qv8 qvn); (try clear qbi2 qbk8 qbg4 qbjf); (try clear qbgm qbji qbhp qbiv); (try clear qjl qjm qjj qjk); (try clear qh4 qhu qh7 qhx); (try clear qif qin qik qio); (try clear qg0 qgx qgz qgy); (try clear qhb qg8 qhe qhc); (try clear qhv qh2 qh6 qh0); (try clear qzm qxo qxh qxf); (try clear qbec q9e q94 qbbs); (try clear qm4 qng qm3 qm1); (try clear qkm qkt qkx qk6); (try clear qbjx qbgz qbht qbgy); (try clear qbab q98 qbd5 qbdw); (try clear qmf qmk qmn qmd); (try clear qox qnz qns qo3); (try clear qvc qu1 qvh que); (try clear qk4 qlc qlb qkv); (try clear qmh qls qlw qmj); (try clear qbig qbla qbkr qbhq); (try clear qxa qx3 qxg qw7); (try clear qji qi3 qi9 qjc); (try clear ql1 qmi qlq ql4); (try clear q1e q0a q54 q5v); (try clear qbj8 qbg6 qbip qbju); (try clear qmb qmm qly qlx); (try clear qbke qbkt qbjv qbi3); (try clear qbjs qbf2 qbj1 qbks); (try clear qhj qhl qhm qhk); (try clear qhd qg9 qhf qha); (try clear p2)
         obtain ⟨x6_4, rfl, HA, HK4, qfp, HB⟩ := hrel
         cases gk with
         | zero => exact absurd HA.out (by simp [qo.l0])
         | succ k4 =>
          have H := HA.out
          clear HA
          simp only [qo.l0] at H
          by_cases c62 : x6_4 < (l0_3.length : Int)
          ·rw [if_pos c62] at H
           have c62b0 : decide (x6_4 < (l0_3.length : Int)) = true := decide_eq_true c62
           clear c62
           by_cases c63 : 0 ≤ x6_4
           ·rw [if_pos c63] at H
            have c63b0 : decide (0 ≤ x6_4) = true := decide_eq_true c63
            clear c63
            replace H := Option.bind_eq_some_iff.mp H
            obtain ⟨t210, A640, H⟩ := H
            replace H : (if t210 = true then (qo.l0 k4 a1 (wrap64 (x6_4 + 1)) a0_0 a0_1 a0_2 l0_3) else (some false)) = some r := H
            have A64 := qc.mk A640
            clear A640
            by_cases c65 : t210 = true
            ·subst c65
             have H1 : (qo.l0 k4 a1 (wrap64 (x6_4 + 1)) a0_0 a0_1 a0_2 l0_3) = some r := by rw [if_pos rfl] at H; exact H
             clear H
             have H := H1
             clear H1
             have H' := qc.mk H
             clear H
             have qbue : wr.cell? ⟨qfy, 0, none⟩ = some (.int .i64 a0_0) := (qb qfp.out 0).trans rfl
             have qbwt : wr.cell? ⟨qfy, 1, none⟩ = some (.int .i64 a0_1) := (qb qfp.out 1).trans rfl
             have qbwu : wr.cell? ⟨qfy, 2, none⟩ = some (.string a0_2) := (qb qfp.out 2).trans rfl
             have qbuv : wr.cell? ⟨qfy, 3, none⟩ = some (.slice A0_3 l0_3.length c0_3) := (qb qfp.out 3).trans rfl
             have qbwh := qa qfp.out 0
             have qbvb := qa qfp.out 1
             have qbwi := qa qfp.out 2
             have qbv7 := qa qfp.out 3
             have p209 : 0 ≤ (x6_4 : Int) := of_decide_eq_true (by first | (with_reducible assumption) | assumption)
             have q209 : x6_4 < (l0_3.length : Int) := of_decide_eq_true (by first | (with_reducible assumption) | assumption)
             obtain ⟨qbb4, qbro, qbr6, e209, qqg, qrq, qtc, qtl, qxi, qzj⟩ := qd6 qo8.out x6_4 p209 q209
             cases e209
             replace qqg := (HB.out.cell (World.block_lt_of_cell? w _ qqg)).trans qqg
             replace qrq := (HB.out.cell (World.block_lt_of_cell? w _ qrq)).trans qrq
             replace qtc := (HB.out.cell (World.block_lt_of_cell? w _ qtc)).trans qtc
             replace qtl := (HB.out.cell (World.block_lt_of_cell? w _ qtl)).trans qtl
             have qrl := qc.mk qzj
             have qr0 := qc.mk qxi
             clear qzj qxi
             replace p209 := eq_true p209
             replace q209 := eq_true q209
             go_wp2_with (first | (go_at_call 47; (with_reducible refine (ih k4 (by have := HJ2.out; have := HJ12.out; have := HJ16.out; have := HK4.out; omega) ((qw l0_3 x6_4).f0) ((qw l0_3 x6_4).f1) ((qw l0_3 x6_4).f2) _ _ ((qw l0_3 x6_4).f3) (wrap64 (a1 + 1)) true _ ?side1 ?side2 A64.out).mono ?_); (case side1 => repeat (first | exact (Kd.qbw qrl.out HB.out) | (with_reducible refine Kd.qb3 ?_ _) | (with_reducible refine Kd.qb1 ?_ _) | (with_reducible refine Kd.qb7 ?_))); (case side2 => exact qr0.out); rintro e w67 ⟨rfl, hb⟩; have n0_ := qc.mk (qbb (g := qfy) (o := .cells #[.int .i64 a0_0, .int .i64 a0_1, .string a0_2, .slice (some qbb4) l0_3.length c0_3] 27 (0, 0)) (by (with_reducible repeat (first | refine qj ?_ _ | refine qm ?_ | refine qi ?_ _)); exact qfp.out) hb); have n1_ := qc.mk (q9 (by repeat (first | (with_reducible first | exact HB.out | apply qg | apply qd | apply qh | refine ql ?_ qg7.out) | exact HB.out)) hb); clear qfp; clear HB; have qfp := n0_; have HB := n1_; clear n0_ n1_; (try clear hb); (try clear hb2); (try clear hk); (try clear hi)))
             repeat (go_quiet (first | (go_at_call 47; (with_reducible refine (ih k4 (by have := HJ2.out; have := HJ12.out; have := HJ16.out; have := HK4.out; omega) ((qw l0_3 x6_4).f0) ((qw l0_3 x6_4).f1) ((qw l0_3 x6_4).f2) _ _ ((qw l0_3 x6_4).f3) (wrap64 (a1 + 1)) true _ ?side1 ?side2 A64.out).mono ?_); (case side1 => repeat (first | exact (Kd.qbw qrl.out HB.out) | (with_reducible refine Kd.qb3 ?_ _) | (with_reducible refine Kd.qb1 ?_ _) | (with_reducible refine Kd.qb7 ?_))); (case side2 => exact qr0.out); rintro e w67 ⟨rfl, hb⟩; have n0_ := qc.mk (qbb (g := qfy) (o := .cells #[.int .i64 a0_0, .int .i64 a0_1, .string a0_2, .slice (some qbb4) l0_3.length c0_3] 27 (0, 0)) (by (with_reducible repeat (first | refine qj ?_ _ | refine qm ?_ | refine qi ?_ _)); exact qfp.out) hb); have n1_ := qc.mk (q9 (by repeat (first | (with_reducible first | exact HB.out | apply qg | apply qd | apply qh | refine ql ?_ qg7.out) | exact HB.out)) hb); clear qfp; clear HB; have qfp := n0_; have HB := n1_; clear n0_ n1_; (try clear hb); (try clear hb2); (try clear hk); (try clear hi))); try go_wp2_with (first | (go_at_call 47; (with_reducible refine (ih k4 (by have := HJ2.out; have := HJ12.out; have := HJ16.out; have := HK4.out; omega) ((qw l0_3 x6_4).f0) ((qw l0_3 x6_4).f1) ((qw l0_3 x6_4).f2) _ _ ((qw l0_3 x6_4).f3) (wrap64 (a1 + 1)) true _ ?side1 ?side2 A64.out).mono ?_); (case side1 => repeat (first | exact (Kd.qbw qrl.out HB.out) | (with_reducible refine Kd.qb3 ?_ _) | (with_reducible refine Kd.qb1 ?_ _) | (with_reducible refine Kd.qb7 ?_))); (case side2 => exact qr0.out); rintro e w67 ⟨rfl, hb⟩; have n0_ := qc.mk (qbb (g := qfy) (o := .cells #[.int .i64 a0_0, .int .i64 a0_1, .string a0_2, .slice (some qbb4) l0_3.length c0_3] 27 (0, 0)) (by (with_reducible repeat (first | refine qj ?_ _ | refine qm ?_ | refine qi ?_ _)); exact qfp.out) hb); have n1_ := qc.mk (q9 (by repeat (first | (with_reducible first | exact HB.out | apply qg | apply qd | apply qh | refine ql ?_ qg7.out) | exact HB.out)) hb); clear qfp; clear HB; have qfp := n0_; have HB := n1_; clear n0_ n1_; (try clear hb); (try clear hb2); (try clear hk); (try clear hi))))
             go_roundg k4
             case measure => have := HJ2.out; have := HJ12.out; have := HJ16.out; have := HK4.out; omega
             case rel => exact ⟨(wrap64 (x6_4 + 1)), (by first | rfl | (simp; done) | (simp [*]; done)), H', ⟨by have := HJ2.out; have := HJ12.out; have := HJ16.out; have := HK4.out; omega⟩, ⟨by (with_reducible repeat (first | refine qj ?_ _ | refine qm ?_ | refine qi ?_ _)); exact qfp.out⟩, ⟨by repeat (first | (with_reducible first | exact HB.out | apply qg | apply qd | apply qh | refine ql ?_ qg7.out) | exact HB.out)⟩⟩
            ·replace c65 := Bool.eq_false_iff.mpr c65
             subst c65
             have H1 : (some false) = some r := by rw [if_neg (show ¬ (false = true) by decide)] at H; exact H
             clear H
             have H := H1
             clear H1
             obtain rfl := Option.some.inj H
             have qbh0 : wr.cell? ⟨qfy, 0, none⟩ = some (.int .i64 a0_0) := (qb qfp.out 0).trans rfl
             have qbj0 : wr.cell? ⟨qfy, 1, none⟩ = some (.int .i64 a0_1) := (qb qfp.out 1).trans rfl
             have qbhh : wr.cell? ⟨qfy, 2, none⟩ = some (.string a0_2) := (qb qfp.out 2).trans rfl
             have qbhy : wr.cell? ⟨qfy, 3, none⟩ = some (.slice A0_3 l0_3.length c0_3) := (qb qfp.out 3).trans rfl
             have qui := qa qfp.out 0
             have qwd := qa qfp.out 1
             have qvv := qa qfp.out 2
             have qv4 := qa qfp.out 3
             have p209 : 0 ≤ (x6_4 : Int) := of_decide_eq_true (by first | (with_reducible assumption) | assumption)
             have q209 : x6_4 < (l0_3.length : Int) := of_decide_eq_true (by first | (with_reducible assumption) | assumption)
             obtain ⟨qbb4, qbro, qbr6, e209, qqg, qrq, qtc, qtl, qxi, qzj⟩ := qd6 qo8.out x6_4 p209 q209
             cases e209
             replace qqg := (HB.out.cell (World.block_lt_of_cell? w _ qqg)).trans qqg
             replace qrq := (HB.out.cell (World.block_lt_of_cell? w _ qrq)).trans qrq
             replace qtc := (HB.out.cell (World.block_lt_of_cell? w _ qtc)).trans qtc
             replace qtl := (HB.out.cell (World.block_lt_of_cell? w _ qtl)).trans qtl
             have qrl := qc.mk qzj
             have qr0 := qc.mk qxi
             clear qzj qxi
             replace p209 := eq_true p209
             replace q209 := eq_true q209
             go_wp2_with (first | (go_at_call 47; (with_reducible refine (ih k4 (by have := HJ2.out; have := HJ12.out; have := HJ16.out; have := HK4.out; omega) ((qw l0_3 x6_4).f0) ((qw l0_3 x6_4).f1) ((qw l0_3 x6_4).f2) _ _ ((qw l0_3 x6_4).f3) (wrap64 (a1 + 1)) false _ ?side1 ?side2 A64.out).mono ?_); (case side1 => repeat (first | exact (Kd.qbw qrl.out HB.out) | (with_reducible refine Kd.qb3 ?_ _) | (with_reducible refine Kd.qb1 ?_ _) | (with_reducible refine Kd.qb7 ?_))); (case side2 => exact qr0.out); rintro e w69 ⟨rfl, hb⟩; have n0_ := qc.mk (qbb (g := qfy) (o := .cells #[.int .i64 a0_0, .int .i64 a0_1, .string a0_2, .slice (some qbb4) l0_3.length c0_3] 27 (0, 0)) (by (with_reducible repeat (first | refine qj ?_ _ | refine qm ?_ | refine qi ?_ _)); exact qfp.out) hb); have n1_ := qc.mk (q9 (by repeat (first | (with_reducible first | exact HB.out | apply qg | apply qd | apply qh | refine ql ?_ qg7.out) | exact HB.out)) hb); clear qfp; clear HB; have qfp := n0_; have HB := n1_; clear n0_ n1_; (try clear hb); (try clear hb2); (try clear hk); (try clear hi)))
             repeat (go_quiet (first | (go_at_call 47; (with_reducible refine (ih k4 (by have := HJ2.out; have := HJ12.out; have := HJ16.out; have := HK4.out; omega) ((qw l0_3 x6_4).f0) ((qw l0_3 x6_4).f1) ((qw l0_3 x6_4).f2) _ _ ((qw l0_3 x6_4).f3) (wrap64 (a1 + 1)) false _ ?side1 ?side2 A64.out).mono ?_); (case side1 => repeat (first | exact (Kd.qbw qrl.out HB.out) | (with_reducible refine Kd.qb3 ?_ _) | (with_reducible refine Kd.qb1 ?_ _) | (with_reducible refine Kd.qb7 ?_))); (case side2 => exact qr0.out); rintro e w69 ⟨rfl, hb⟩; have n0_ := qc.mk (qbb (g := qfy) (o := .cells #[.int .i64 a0_0, .int .i64 a0_1, .string a0_2, .slice (some qbb4) l0_3.length c0_3] 27 (0, 0)) (by (with_reducible repeat (first | refine qj ?_ _ | refine qm ?_ | refine qi ?_ _)); exact qfp.out) hb); have n1_ := qc.mk (q9 (by repeat (first | (with_reducible first | exact HB.out | apply qg | apply qd | apply qh | refine ql ?_ qg7.out) | exact HB.out)) hb); clear qfp; clear HB; have qfp := n0_; have HB := n1_; clear n0_ n1_; (try clear hb); (try clear hb2); (try clear hk); (try clear hi))); try go_wp2_with (first | (go_at_call 47; (with_reducible refine (ih k4 (by have := HJ2.out; have := HJ12.out; have := HJ16.out; have := HK4.out; omega) ((qw l0_3 x6_4).f0) ((qw l0_3 x6_4).f1) ((qw l0_3 x6_4).f2) _ _ ((qw l0_3 x6_4).f3) (wrap64 (a1 + 1)) false _ ?side1 ?side2 A64.out).mono ?_); (case side1 => repeat (first | exact (Kd.qbw qrl.out HB.out) | (with_reducible refine Kd.qb3 ?_ _) | (with_reducible refine Kd.qb1 ?_ _) | (with_reducible refine Kd.qb7 ?_))); (case side2 => exact qr0.out); rintro e w69 ⟨rfl, hb⟩; have n0_ := qc.mk (qbb (g := qfy) (o := .cells #[.int .i64 a0_0, .int .i64 a0_1, .string a0_2, .slice (some qbb4) l0_3.length c0_3] 27 (0, 0)) (by (with_reducible repeat (first | refine qj ?_ _ | refine qm ?_ | refine qi ?_ _)); exact qfp.out) hb); have n1_ := qc.mk (q9 (by repeat (first | (with_reducible first | exact HB.out | apply qg | apply qd | apply qh | refine ql ?_ qg7.out) | exact HB.out)) hb); clear qfp; clear HB; have qfp := n0_; have HB := n1_; clear n0_ n1_; (try clear hb); (try clear hb2); (try clear hk); (try clear hi))))
             go_ret
             exact ⟨by first | rfl | (simp [qx, qy] <;> rfl) | (simp [*, qx, qy] <;> rfl), by repeat (first | (with_reducible first | exact HB.out | apply qg | apply qd | apply qh | refine ql ?_ qg7.out) | exact HB.out)⟩
           ·rw [if_neg c63] at H
            exact absurd H (by simp)
          ·rw [if_neg c62] at H
           have c62b0 : decide (x6_4 < (l0_3.length : Int)) = false := decide_eq_false c62
           clear c62
           obtain rfl := Option.some.inj H
           have qbv6 : wr.cell? ⟨qfy, 0, none⟩ = some (.int .i64 a0_0) := (qb qfp.out 0).trans rfl
           have qbug : wr.cell? ⟨qfy, 1, none⟩ = some (.int .i64 a0_1) := (qb qfp.out 1).trans rfl
           have qbvy : wr.cell? ⟨qfy, 2, none⟩ = some (.string a0_2) := (qb qfp.out 2).trans rfl
           have qbuh : wr.cell? ⟨qfy, 3, none⟩ = some (.slice A0_3 l0_3.length c0_3) := (qb qfp.out 3).trans rfl
           have qbu7 := qa qfp.out 0
           have qbt4 := qa qfp.out 1
           have qbuk := qa qfp.out 2
           have qbvq := qa qfp.out 3
           go_wp2
           repeat (go_quiet (fail); try go_wp2)
           go_ret
           exact ⟨by first | rfl | (simp [qx, qy] <;> rfl) | (simp [*, qx, qy] <;> rfl), by repeat (first | (with_reducible first | exact HB.out | apply qg | apply qd | apply qh | refine ql ?_ qg7.out) | exact HB.out)⟩
end Go.Proofs.YtpgkhmdfddejfaaDoor.PV
end
