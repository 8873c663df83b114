import Derived.Test.YtpgkhmdfddejfaaDoorZLPVx0
import Derived.Test.YtpgkhmdfddejfaaDoorZLPVx9
import Derived.Test.YtpgkhmdfddejfaaDoorZLPVx10
section
namespace Go.Proofs.YtpgkhmdfddejfaaDoor.PV
open Go.RowKit Go.Proofs.YtpgkhmdfddejfaaDoorW.PrintWords Go.Proofs.YtpgkhmdfddejfaaDoorW.PrintLast Go.Proofs.YtpgkhmdfddejfaaDoorW.PrintMore
attribute [local go_sem] qcz qcx qdc qdb qcr qcq qcv qcy   -- for this text's walks alone
set_option linter.unusedVariables false
set_option linter.unusedSimpArgs false
mutual
def qo.j0 : Nat → Int → Bool → Int → Int → ByteArray → List (S27) → Option (Bool)
 | 0, _, _, _, _, _, _ => none
 | k + 1, x1, x27, x207000, x207001, x207002, x207003 => if x27 = true then (some false) else (if x207000 = 2 then (qo.j1 k x1 true x207000 x207001 x207002 x207003) else (qo.j1 k x1 (x207000 == 3) x207000 x207001 x207002 x207003))
def qo.j1 : Nat → Int → Bool → Int → Int → ByteArray → List (S27) → Option (Bool)
 | 0, _, _, _, _, _, _ => none
 | k + 1, x1, x5, x207000, x207001, x207002, x207003 => if (x5 != (x207002.toList != ([] : List UInt8))) = true then (qo.j2 k x1 true x207000 x207001 x207002 x207003) else (if x5 = true then ((qbg.f k x207002).bind fun t208 => (qo.j2 k x1 (!t208) x207000 x207001 x207002 x207003)) else (qo.j2 k x1 false x207000 x207001 x207002 x207003))
def qo.j3 : Nat → Int → Int → Int → ByteArray → List (S27) → Option (Bool)
 | 0, _, _, _, _, _ => none
 | k + 1, x1, x207000, x207001, x207002, x207003 => qo.l0 k x1 0 x207000 x207001 x207002 x207003
def qo.l0 : Nat → Int → Int → Int → Int → ByteArray → List (S27) → Option (Bool)
 | 0, _, _, _, _, _, _ => none
 | k + 1, x1, x6, x207000, x207001, x207002, x207003 => if x6 < (x207003.length : Int) then (if 0 ≤ x6 then ((qo.f k ((qx x207003 x6).f0) ((qx x207003 x6).f1) ((qx x207003 x6).f2) ((qx x207003 x6).f3) (wrap64 (x1 + 1))).bind fun t210 => (if t210 = true then (qo.l0 k x1 (wrap64 (x6 + 1)) x207000 x207001 x207002 x207003) else (some false))) else (none)) else (some true)
def qo.j2 : Nat → Int → Bool → Int → Int → ByteArray → List (S27) → Option (Bool)
 | 0, _, _, _, _, _, _ => none
 | k + 1, x1, x36, x207000, x207001, x207002, x207003 => if x36 = true then (some false) else (if x207000 = 1 then (if x207001 = 0 then (if x207000 = 0 then (if x207001 = (-9223372036854775808) then (some false) else (if x207000 > 1 then (qo.j3 k x1 x207000 x207001 x207002 x207003) else (qo.j3 k x1 x207000 x207001 x207002 x207003))) else (if x207000 > 1 then (qo.j3 k x1 x207000 x207001 x207002 x207003) else (qo.j3 k x1 x207000 x207001 x207002 x207003))) else (if x207001 = 1 then (if x207000 = 0 then (if x207001 = (-9223372036854775808) then (some false) else (if x207000 > 1 then (some false) else (qo.j3 k x1 x207000 x207001 x207002 x207003))) else (if x207000 > 1 then (some false) else (qo.j3 k x1 x207000 x207001 x207002 x207003))) else (some false))) else (if x207000 = 0 then (if x207001 = (-9223372036854775808) then (some false) else (if x207000 > 1 then (if x207001 = 0 then (qo.j3 k x1 x207000 x207001 x207002 x207003) else (some false)) else (qo.j3 k x1 x207000 x207001 x207002 x207003))) else (if x207000 > 1 then (if x207001 = 0 then (qo.j3 k x1 x207000 x207001 x207002 x207003) else (some false)) else (qo.j3 k x1 x207000 x207001 x207002 x207003))))
def qo.f : Nat → Int → Int → ByteArray → List (S27) → Int → Option (Bool)
 | 0, _, _, _, _, _ => none
 | k + 1, a0_0, a0_1, a0_2, l0_3, a1 => if a1 > 40 then (qo.j0 k a1 true a0_0 a0_1 a0_2 l0_3) else (if a0_0 < 0 then (qo.j0 k a1 true a0_0 a0_1 a0_2 l0_3) else (if a0_0 > 19 then (qo.j0 k a1 true a0_0 a0_1 a0_2 l0_3) else ((qbi.f k a0_0).bind fun t207 => (qo.j0 k a1 ((l0_3.length : Int) != t207) a0_0 a0_1 a0_2 l0_3))))
end
theorem qo.qch : ∀ k, (∀ y0 y1 y2 y3 y4, LeO (qo.f k y0 y1 y2 y3 y4) (qo.f (k + 1) y0 y1 y2 y3 y4)) ∧ (∀ y0 y1 y2 y3 y4 y5, LeO (qo.j0 k y0 y1 y2 y3 y4 y5) (qo.j0 (k + 1) y0 y1 y2 y3 y4 y5)) ∧ (∀ y0 y1 y2 y3 y4 y5, LeO (qo.j1 k y0 y1 y2 y3 y4 y5) (qo.j1 (k + 1) y0 y1 y2 y3 y4 y5)) ∧ (∀ y0 y1 y2 y3 y4, LeO (qo.j3 k y0 y1 y2 y3 y4) (qo.j3 (k + 1) y0 y1 y2 y3 y4)) ∧ (∀ y0 y1 y2 y3 y4 y5, LeO (qo.l0 k y0 y1 y2 y3 y4 y5) (qo.l0 (k + 1) y0 y1 y2 y3 y4 y5)) ∧ (∀ y0 y1 y2 y3 y4 y5, LeO (qo.j2 k y0 y1 y2 y3 y4 y5) (qo.j2 (k + 1) y0 y1 y2 y3 y4 y5))
 | 0 => ⟨fun _ _ _ _ _ r h => by simp [qo.f] at h, fun _ _ _ _ _ _ r h => by simp [qo.j0] at h, fun _ _ _ _ _ _ r h => by simp [qo.j1] at h, fun _ _ _ _ _ r h => by simp [qo.j3] at h, fun _ _ _ _ _ _ r h => by simp [qo.l0] at h, fun _ _ _ _ _ _ r h => by simp [qo.j2] at h⟩
 | k + 1 => by
  obtain ⟨ih0, ih1, ih2, ih3, ih4, ih5⟩ := qo.qch k
  refine ⟨?_, ?_, ?_, ?_, ?_, ?_⟩
  ·intro y0 y1 y2 y3 y4
   unfold qo.f
   repeat' first
   | (with_reducible exact ih0 _ _ _ _ _)
   | (with_reducible exact ih1 _ _ _ _ _ _)
   | (with_reducible exact ih2 _ _ _ _ _ _)
   | (with_reducible exact ih3 _ _ _ _ _)
   | (with_reducible exact ih4 _ _ _ _ _ _)
   | (with_reducible exact ih5 _ _ _ _ _ _)
   | (with_reducible exact qbg.mono _ _)
   | (with_reducible exact qbi.mono _ _)
   | (with_reducible exact LeO.refl _)
   | (with_reducible exact LeO.none _)
   | (with_reducible refine LeO.ite ?_ ?_)
   | (with_reducible refine LeO.bind ?_ (fun _ => ?_))
   | exact ih0 _ _ _ _ _
   | exact ih1 _ _ _ _ _ _
   | exact ih2 _ _ _ _ _ _
   | exact ih3 _ _ _ _ _
   | exact ih4 _ _ _ _ _ _
   | exact ih5 _ _ _ _ _ _
   | exact qbg.mono _ _
   | exact qbi.mono _ _
   | exact LeO.none _
   | refine LeO.ite ?_ ?_
   | refine LeO.bind ?_ (fun _ => ?_)
  ·intro y0 y1 y2 y3 y4 y5
   unfold qo.j0
   repeat' first
   | (with_reducible exact ih0 _ _ _ _ _)
   | (with_reducible exact ih1 _ _ _ _ _ _)
   | (with_reducible exact ih2 _ _ _ _ _ _)
   | (with_reducible exact ih3 _ _ _ _ _)
   | (with_reducible exact ih4 _ _ _ _ _ _)
   | (with_reducible exact ih5 _ _ _ _ _ _)
   | (with_reducible exact qbg.mono _ _)
   | (with_reducible exact qbi.mono _ _)
   | (with_reducible exact LeO.refl _)
   | (with_reducible exact LeO.none _)
   | (with_reducible refine LeO.ite ?_ ?_)
   | (with_reducible refine LeO.bind ?_ (fun _ => ?_))
   | exact ih0 _ _ _ _ _
   | exact ih1 _ _ _ _ _ _
   | exact ih2 _ _ _ _ _ _
   | exact ih3 _ _ _ _ _
   | exact ih4 _ _ _ _ _ _
   | exact ih5 _ _ _ _ _ _
   | exact qbg.mono _ _
   | exact qbi.mono _ _
   | exact LeO.none _
   | refine LeO.ite ?_ ?_
   | refine LeO.bind ?_ (fun _ => ?_)
  ·intro y0 y1 y2 y3 y4 y5
   unfold qo.j1
   repeat' first
   | (with_reducible exact ih0 _ _ _ _ _)
   | (with_reducible exact ih1 _ _ _ _ _ _)
   | (with_reducible exact ih2 _ _ _ _ _ _)
   | (with_reducible exact ih3 _ _ _ _ _)
   | (with_reducible exact ih4 _ _ _ _ _ _)
   | (with_reducible exact ih5 _ _ _ _ _ _)
   | (with_reducible exact qbg.mono _ _)
   | (with_reducible exact qbi.mono _ _)
   | (with_reducible exact LeO.refl _)
   | (with_reducible exact LeO.none _)
   | (with_reducible refine LeO.ite ?_ ?_)
   | (with_reducible refine LeO.bind ?_ (fun _ => ?_))
   | exact ih0 _ _ _ _ _
   | exact ih1 _ _ _ _ _ _
   | exact ih2 _ _ _ _ _ _
   | exact ih3 _ _ _ _ _
   | exact ih4 _ _ _ _ _ _
   | exact ih5 _ _ _ _ _ _
   | exact qbg.mono _ _
   | exact qbi.mono _ _
   | exact LeO.none _
   | refine LeO.ite ?_ ?_
   | refine LeO.bind ?_ (fun _ => ?_)
  ·intro y0 y1 y2 y3 y4
   unfold qo.j3
   repeat' first
   | (with_reducible exact ih0 _ _ _ _ _)
   | (with_reducible exact ih1 _ _ _ _ _ _)
   | (with_reducible exact ih2 _ _ _ _ _ _)
   | (with_reducible exact ih3 _ _ _ _ _)
   | (with_reducible exact ih4 _ _ _ _ _ _)
   | (with_reducible exact ih5 _ _ _ _ _ _)
   | (with_reducible exact qbg.mono _ _)
   | (with_reducible exact qbi.mono _ _)
   | (with_reducible exact LeO.refl _)
   | (with_reducible exact LeO.none _)
   | (with_reducible refine LeO.ite ?_ ?_)
   | (with_reducible refine LeO.bind ?_ (fun _ => ?_))
   | exact ih0 _ _ _ _ _
   | exact ih1 _ _ _ _ _ _
   | exact ih2 _ _ _ _ _ _
   | exact ih3 _ _ _ _ _
   | exact ih4 _ _ _ _ _ _
   | exact ih5 _ _ _ _ _ _
   | exact qbg.mono _ _
   | exact qbi.mono _ _
   | exact LeO.none _
   | refine LeO.ite ?_ ?_
   | refine LeO.bind ?_ (fun _ => ?_)
  ·intro y0 y1 y2 y3 y4 y5
   unfold qo.l0
   repeat' first
   | (with_reducible exact ih0 _ _ _ _ _)
   | (with_reducible exact ih1 _ _ _ _ _ _)
   | (with_reducible exact ih2 _ _ _ _ _ _)
   | (with_reducible exact ih3 _ _ _ _ _)
   | (with_reducible exact ih4 _ _ _ _ _ _)
   | (with_reducible exact ih5 _ _ _ _ _ _)
   | (with_reducible exact qbg.mono _ _)
   | (with_reducible exact qbi.mono _ _)
   | (with_reducible exact LeO.refl _)
   | (with_reducible exact LeO.none _)
   | (with_reducible refine LeO.ite ?_ ?_)
   | (with_reducible refine LeO.bind ?_ (fun _ => ?_))
   | exact ih0 _ _ _ _ _
   | exact ih1 _ _ _ _ _ _
   | exact ih2 _ _ _ _ _ _
   | exact ih3 _ _ _ _ _
   | exact ih4 _ _ _ _ _ _
   | exact ih5 _ _ _ _ _ _
   | exact qbg.mono _ _
   | exact qbi.mono _ _
   | exact LeO.none _
   | refine LeO.ite ?_ ?_
   | refine LeO.bind ?_ (fun _ => ?_)
  ·intro y0 y1 y2 y3 y4 y5
   unfold qo.j2
   repeat' first
   | (with_reducible exact ih0 _ _ _ _ _)
   | (with_reducible exact ih1 _ _ _ _ _ _)
   | (with_reducible exact ih2 _ _ _ _ _ _)
   | (with_reducible exact ih3 _ _ _ _ _)
   | (with_reducible exact ih4 _ _ _ _ _ _)
   | (with_reducible exact ih5 _ _ _ _ _ _)
   | (with_reducible exact qbg.mono _ _)
   | (with_reducible exact qbi.mono _ _)
   | (with_reducible exact LeO.refl _)
   | (with_reducible exact LeO.none _)
   | (with_reducible refine LeO.ite ?_ ?_)
   | (with_reducible refine LeO.bind ?_ (fun _ => ?_))
   | exact ih0 _ _ _ _ _
   | exact ih1 _ _ _ _ _ _
   | exact ih2 _ _ _ _ _ _
   | exact ih3 _ _ _ _ _
   | exact ih4 _ _ _ _ _ _
   | exact ih5 _ _ _ _ _ _
   | exact qbg.mono _ _
   | exact qbi.mono _ _
   | exact LeO.none _
   | refine LeO.ite ?_ ?_
   | refine LeO.bind ?_ (fun _ => ?_)
theorem qo.mono : ∀ a0 a1 a2 a3 a4 k, LeO (qo.f k a0 a1 a2 a3 a4) (qo.f (k + 1) a0 a1 a2 a3 a4) := by
 intro a0 a1 a2 a3 a4 k
 obtain ⟨ih0, ih1, ih2, ih3, ih4, ih5⟩ := qo.qch k
 exact ih0 a0 a1 a2 a3 a4
set_option maxHeartbeats 8000000 in
set_option maxRecDepth 100000 in
theorem qo.calls (k : Nat) : ∀ (a0_0 : Int) (a0_1 : Int) (a0_2 : ByteArray) (A0_3 : Option Addr) (c0_3 : Nat) (l0_3 : List (S27)) (a1 : Int) (r : Bool) (w : World) (hr0_3 : Kd.C k27 w A0_3 l0_3.length l0_3) (hc0_3 : l0_3.length ≤ c0_3) (h : qo.f k a0_0 a0_1 a0_2 l0_3 a1 = some r),
  Calls Tryd.prog 47 #[.agg #[.int .i64 a0_0, .int .i64 a0_1, .string a0_2, .slice A0_3 l0_3.length c0_3], .int .i64 a1] w fun e w' => e = .returned (.bool r) ∧ Below w.heap.size w w' := by
 induction k using Nat.strongRecOn with
 | _ k ih =>
 intro a0_0 a0_1 a0_2 A0_3 c0_3 l0_3 a1 r w hr0_3 hc0_3 h
 cases k with
 | zero => exact absurd h (by simp [qo.f])
 | succ k =>
 simp only [qo.f] at h
 have hu27 := Tryd.underlying27
 have HR0_3 := qd.mk hr0_3
 have HC0_3 := qd.mk hc0_3
 clear hr0_3 hc0_3
 have HB := qd.mk (Below.refl w.heap.size w)
 have H : (if a1 > 40 then (qo.j0 k a1 true a0_0 a0_1 a0_2 l0_3) else (if a0_0 < 0 then (qo.j0 k a1 true a0_0 a0_1 a0_2 l0_3) else (if a0_0 > 19 then (qo.j0 k a1 true a0_0 a0_1 a0_2 l0_3) else ((qbi.f k a0_0).bind fun t207 => (qo.j0 k a1 ((l0_3.length : Int) != t207) a0_0 a0_1 a0_2 l0_3))))) = some r := h
 clear h
 have HC3 := qd.mk H
 clear H
 go_enter Tryd.func47, Tryd.ntmps47
 go_upto_region 1 with (first | ((with_reducible refine qby (N := 2) rfl ?_); (try (refine qcb (by rfl) ?_; dsimp only)); refine qbx ?hg (N := 2) ?hd (cs := #[.int .i64 a0_0, .int .i64 a0_1, .string a0_2, .slice A0_3 l0_3.length c0_3]) (t := 27) ?hr ?_; (case hd => rfl); (case hg => rfl); (case hr => first | (go_simp; done) | (go_simp; rfl)); intro gb206 hg w4 hbox hb; have n0_ := qd.mk (qba (by repeat (first | (with_reducible first | exact HB.out | apply qg | apply qc | apply qh) | exact HB.out)) hb); have n1_ := qd.mk (hbox); have n2_ := qd.mk ((by rw [hg]; exact (qbc (by repeat (first | (with_reducible first | exact HB.out | apply qg | apply qc | apply qh) | exact HB.out))) : w.heap.size ≤ gb206)); have n3_ := qd.mk ((by rw [hg]; exact (qbc (by repeat (first | (with_reducible first | exact HB.out | apply qg | apply qc | apply qh) | exact HB.out))) : w.heap.size ≤ gb206)); clear HB; have HB := n0_; have BK206 := n1_; have GW206 := n2_; have GE206 := n3_; clear n0_ n1_ n2_ n3_; clear hb hbox hg))
 repeat (go_quiet (first | ((with_reducible refine qby (N := 2) rfl ?_); (try (refine qcb (by rfl) ?_; dsimp only)); refine qbx ?hg (N := 2) ?hd (cs := #[.int .i64 a0_0, .int .i64 a0_1, .string a0_2, .slice A0_3 l0_3.length c0_3]) (t := 27) ?hr ?_; (case hd => rfl); (case hg => rfl); (case hr => first | (go_simp; done) | (go_simp; rfl)); intro gb206 hg w4 hbox hb; have n0_ := qd.mk (qba (by repeat (first | (with_reducible first | exact HB.out | apply qg | apply qc | apply qh) | exact HB.out)) hb); have n1_ := qd.mk (hbox); have n2_ := qd.mk ((by rw [hg]; exact (qbc (by repeat (first | (with_reducible first | exact HB.out | apply qg | apply qc | apply qh) | exact HB.out))) : w.heap.size ≤ gb206)); have n3_ := qd.mk ((by rw [hg]; exact (qbc (by repeat (first | (with_reducible first | exact HB.out | apply qg | apply qc | apply qh) | exact HB.out))) : w.heap.size ≤ gb206)); clear HB; have HB := n0_; have BK206 := n1_; have GW206 := n2_; have GE206 := n3_; clear n0_ n1_ n2_ n3_; clear hb hbox hg)); go_upto_region 1 with (first | ((with_reducible refine qby (N := 2) rfl ?_); (try (refine qcb (by rfl) ?_; dsimp only)); refine qbx ?hg (N := 2) ?hd (cs := #[.int .i64 a0_0, .int .i64 a0_1, .string a0_2, .slice A0_3 l0_3.length c0_3]) (t := 27) ?hr ?_; (case hd => rfl); (case hg => rfl); (case hr => first | (go_simp; done) | (go_simp; rfl)); intro gb206 hg w4 hbox hb; have n0_ := qd.mk (qba (by repeat (first | (with_reducible first | exact HB.out | apply qg | apply qc | apply qh) | exact HB.out)) hb); have n1_ := qd.mk (hbox); have n2_ := qd.mk ((by rw [hg]; exact (qbc (by repeat (first | (with_reducible first | exact HB.out | apply qg | apply qc | apply qh) | exact HB.out))) : w.heap.size ≤ gb206)); have n3_ := qd.mk ((by rw [hg]; exact (qbc (by repeat (first | (with_reducible first | exact HB.out | apply qg | apply qc | apply qh) | exact HB.out))) : w.heap.size ≤ gb206)); clear HB; have HB := n0_; have BK206 := n1_; have GW206 := n2_; have GE206 := n3_; clear n0_ n1_ n2_ n3_; clear hb hbox hg)))
 (try simp only [Act.put, List.setIfInBounds_toArray, List.set_cons_zero, List.set_cons_succ])
 go_cut [27] (fun v27 wc => ∃ (kq : Nat) (x27_2 : Bool), v27 = .bool x27_2 ∧ qd (qo.j0 kq a1 x27_2 a0_0 a0_1 a0_2 l0_3 = some r) ∧ qd (kq ≤ k) ∧ qd (wc.heap[gb206]? = some (.cells #[.int .i64 a0_0, .int .i64 a0_1, .string a0_2, (.slice A0_3 l0_3.length c0_3)] 27 (0, 0))) ∧ qd (Below w.heap.size w wc))
 case first =>
  have H := HC3.out
  clear HC3
  by_cases c5 : a1 > 40
  ·rw [if_pos c5] at H
   have c5b0 : decide (40 < a1) = true := decide_eq_true c5
   clear c5
   (first | rw [c5b0] | (simp only [i64_w, i32_w]; rw [c5b0]) | skip)
   have H' := qd.mk H
   clear H
   go_wp2
   repeat (go_quiet (fail); try go_wp2)
   go_meet
   case rel => exact ⟨_, (true), (by first | rfl | (simp; done) | (simp [*]; done)), H', ⟨by first | omega | exact Nat.le_refl _⟩, ⟨by (with_reducible repeat (first | refine qj ?_ _ | refine qm ?_ | refine qi ?_ _)); exact BK206.out⟩, ⟨by repeat (first | (with_reducible first | exact HB.out | apply qg | apply qc | apply qh | refine ql ?_ GE206.out) | exact HB.out)⟩⟩
  ·rw [if_neg c5] at H
   have c5b0 : decide (40 < a1) = false := decide_eq_false c5
   clear c5
   (first | rw [c5b0] | (simp only [i64_w, i32_w]; rw [c5b0]) | skip)
   by_cases c6 : a0_0 < 0
   ·rw [if_pos c6] at H
    have c6b0 : decide (a0_0 < 0) = true := decide_eq_true c6
    clear c6
    have H' := qd.mk H
    clear H
    have hcz7_0 : w4.cell? ⟨gb206, 0, none⟩ = some (.int .i64 a0_0) := (qb BK206.out 0).trans rfl
    have hcz7_1 : w4.cell? ⟨gb206, 1, none⟩ = some (.int .i64 a0_1) := (qb BK206.out 1).trans rfl
    have hcz7_2 : w4.cell? ⟨gb206, 2, none⟩ = some (.string a0_2) := (qb BK206.out 2).trans rfl
    have hcz7_3 : w4.cell? ⟨gb206, 3, none⟩ = some (.slice A0_3 l0_3.length c0_3) := (qb BK206.out 3).trans rfl
    have hfz7_0 := qa BK206.out 0
    have hfz7_1 := qa BK206.out 1
    have hfz7_2 := qa BK206.out 2
    have hfz7_3 := qa BK206.out 3
    go_wp2
    repeat (go_quiet (fail); try go_wp2)
    go_meet
    case rel => exact ⟨_, (true), (by first | rfl | (simp; done) | (simp [*]; done)), H', ⟨by first | omega | exact Nat.le_refl _⟩, ⟨by (with_reducible repeat (first | refine qj ?_ _ | refine qm ?_ | refine qi ?_ _)); exact BK206.out⟩, ⟨by repeat (first | (with_reducible first | exact HB.out | apply qg | apply qc | apply qh | refine ql ?_ GE206.out) | exact HB.out)⟩⟩
   ·rw [if_neg c6] at H
    have c6b0 : decide (a0_0 < 0) = false := decide_eq_false c6
    clear c6
    by_cases c8 : a0_0 > 19
    ·rw [if_pos c8] at H
     have c8b0 : decide (19 < a0_0) = true := decide_eq_true c8
     clear c8
     have H' := qd.mk H
     clear H
     have hcz9_0 : w4.cell? ⟨gb206, 0, none⟩ = some (.int .i64 a0_0) := (qb BK206.out 0).trans rfl
     have hcz9_1 : w4.cell? ⟨gb206, 1, none⟩ = some (.int .i64 a0_1) := (qb BK206.out 1).trans rfl
     have hcz9_2 : w4.cell? ⟨gb206, 2, none⟩ = some (.string a0_2) := (qb BK206.out 2).trans rfl
     have hcz9_3 : w4.cell? ⟨gb206, 3, none⟩ = some (.slice A0_3 l0_3.length c0_3) := (qb BK206.out 3).trans rfl
     have hfz9_0 := qa BK206.out 0
     have hfz9_1 := qa BK206.out 1
     have hfz9_2 := qa BK206.out 2
     have hfz9_3 := qa BK206.out 3
     go_wp2
     repeat (go_quiet (fail); try go_wp2)
     go_meet
     case rel => exact ⟨_, (true), (by first | rfl | (simp; done) | (simp [*]; done)), H', ⟨by first | omega | exact Nat.le_refl _⟩, ⟨by (with_reducible repeat (first | refine qj ?_ _ | refine qm ?_ | refine qi ?_ _)); exact BK206.out⟩, ⟨by repeat (first | (with_reducible first | exact HB.out | apply qg | apply qc | apply qh | refine ql ?_ GE206.out) | exact HB.out)⟩⟩
    ·rw [if_neg c8] at H
     have c8b0 : decide (19 < a0_0) = false := decide_eq_false c8
     clear c8
     replace H := Option.bind_eq_some_iff.mp H
     obtain ⟨t207, A100, H⟩ := H
     replace H : (qo.j0 k a1 ((l0_3.length : Int) != t207) a0_0 a0_1 a0_2 l0_3) = some r := H
     have A10 := qd.mk A100
     clear A100
     have H' := qd.mk H
     clear H
     have hcz11_0 : w4.cell? ⟨gb206, 0, none⟩ = some (.int .i64 a0_0) := (qb BK206.out 0).trans rfl
     have hcz11_1 : w4.cell? ⟨gb206, 1, none⟩ = some (.int .i64 a0_1) := (qb BK206.out 1).trans rfl
     have hcz11_2 : w4.cell? ⟨gb206, 2, none⟩ = some (.string a0_2) := (qb BK206.out 2).trans rfl
     have hcz11_3 : w4.cell? ⟨gb206, 3, none⟩ = some (.slice A0_3 l0_3.length c0_3) := (qb BK206.out 3).trans rfl
     have hfz11_0 := qa BK206.out 0
     have hfz11_1 := qa BK206.out 1
     have hfz11_2 := qa BK206.out 2
     have hfz11_3 := qa BK206.out 3
     go_wp2_with (first | (go_at_call 70; (with_reducible refine (qbi.calls k a0_0 t207 _ A10.out).mono ?_); rintro e w' ⟨rfl, ⟨nd, rfl⟩⟩; (try first | exact ⟨rfl, _, World.drewN_drewN _ _ _⟩ | exact ⟨rfl, _, Eq.trans (World.drewN_drewN _ _ _) (congrArg (World.drewN _) (Nat.add_assoc _ _ _))⟩)))
     repeat (go_quiet (first | (go_at_call 70; (with_reducible refine (qbi.calls k a0_0 t207 _ A10.out).mono ?_); rintro e w' ⟨rfl, ⟨nd, rfl⟩⟩; (try first | exact ⟨rfl, _, World.drewN_drewN _ _ _⟩ | exact ⟨rfl, _, Eq.trans (World.drewN_drewN _ _ _) (congrArg (World.drewN _) (Nat.add_assoc _ _ _))⟩))); try go_wp2_with (first | (go_at_call 70; (with_reducible refine (qbi.calls k a0_0 t207 _ A10.out).mono ?_); rintro e w' ⟨rfl, ⟨nd, rfl⟩⟩; (try first | exact ⟨rfl, _, World.drewN_drewN _ _ _⟩ | exact ⟨rfl, _, Eq.trans (World.drewN_drewN _ _ _) (congrArg (World.drewN _) (Nat.add_assoc _ _ _))⟩))))
     go_meet
     case rel => exact ⟨_, (((l0_3.length : Int) != t207)), (by first | rfl | (simp; done) | (simp [*]; done)), H', ⟨by first | omega | exact Nat.le_refl _⟩, ⟨by (with_reducible repeat (first | refine qj ?_ _ | refine qm ?_ | refine qi ?_ _)); exact BK206.out⟩, ⟨by repeat (first | (with_reducible first | exact HB.out | apply qg | apply qc | apply qh | refine ql ?_ GE206.out) | exact HB.out)⟩⟩
 case rest =>
  clear HC3
  (try clear p2); (try clear c4); (try clear c5); (try clear c5b0); (try clear c6); (try clear c6b0); (try clear c8); (try clear c8b0); (try clear hcz11_0 hcz11_1 hcz11_2 hcz11_3); (try clear hcz7_0 hcz7_1 hcz7_2 hcz7_3); (try clear hcz9_0 hcz9_1 hcz9_2 hcz9_3); (try clear hfz11_0 hfz11_1 hfz11_2 hfz11_3); (try clear hfz7_0 hfz7_1 hfz7_2 hfz7_3); (try clear hfz9_0 hfz9_1 hfz9_2 hfz9_3)
  obtain ⟨kq, x27_2, rfl, HA, HJ2, BK206, HB⟩ := hcut
  cases kq with
  | zero => exact absurd HA.out (by simp [qo.j0])
  | succ kj2 =>
   have H := HA.out
   clear HA
   simp only [qo.j0] at H
   by_cases c12 : x27_2 = true
   ·subst c12
    have H1 : (some false) = some r := by rw [if_pos rfl] at H; exact H
    clear H
    have H := H1
    clear H1
    obtain rfl := Option.some.inj H
    go_wp2
    repeat (go_quiet (fail); try go_wp2)
    go_ret
    exact ⟨by first | rfl | (simp [q9, qz] <;> rfl) | (simp [*, q9, qz] <;> rfl), by repeat (first | (with_reducible first | exact HB.out | apply qg | apply qc | apply qh | refine ql ?_ GE206.out) | exact HB.out)⟩
   ·replace c12 := Bool.eq_false_iff.mpr c12
    subst c12
    have H1 : (if a0_0 = 2 then (qo.j1 kj2 a1 true a0_0 a0_1 a0_2 l0_3) else (qo.j1 kj2 a1 (a0_0 == 3) a0_0 a0_1 a0_2 l0_3)) = some r := by rw [if_neg (show ¬ (false = true) by decide)] at H; exact H
    clear H
    have H := H1
    clear H1
    have HC13 := qd.mk H
    clear H
    go_upto_region 3 with (fail)
    repeat (go_quiet (fail); go_upto_region 3 with (fail))
    go_cut [5] (fun v5 wc => ∃ (kq : Nat) (x5_12 : Bool), v5 = .bool x5_12 ∧ qd (qo.j1 kq a1 x5_12 a0_0 a0_1 a0_2 l0_3 = some r) ∧ qd (kq ≤ kj2) ∧ qd (wc.heap[gb206]? = some (.cells #[.int .i64 a0_0, .int .i64 a0_1, .string a0_2, (.slice A0_3 l0_3.length c0_3)] 27 (0, 0))) ∧ qd (Below w.heap.size w wc))
    case first =>
     have H := HC13.out
     clear HC13
     by_cases c14 : a0_0 = 2
     ·rw [if_pos c14] at H
      have c14b0 : (a0_0 == 2) = true := beq_iff_eq.mpr c14
      have c14b1 : (a0_0 != 2) = false := bne_eq_false_iff_eq.mpr c14
      clear c14
      (first | rw [c14b0] | (simp only [i64_w, i32_w]; rw [c14b0]) | skip)
      have H' := qd.mk H
      clear H
      have hcz15_0 : wc.cell? ⟨gb206, 0, none⟩ = some (.int .i64 a0_0) := (qb BK206.out 0).trans rfl
      have hcz15_1 : wc.cell? ⟨gb206, 1, none⟩ = some (.int .i64 a0_1) := (qb BK206.out 1).trans rfl
      have hcz15_2 : wc.cell? ⟨gb206, 2, none⟩ = some (.string a0_2) := (qb BK206.out 2).trans rfl
      have hcz15_3 : wc.cell? ⟨gb206, 3, none⟩ = some (.slice A0_3 l0_3.length c0_3) := (qb BK206.out 3).trans rfl
      have hfz15_0 := qa BK206.out 0
      have hfz15_1 := qa BK206.out 1
      have hfz15_2 := qa BK206.out 2
      have hfz15_3 := qa BK206.out 3
      go_wp2
      repeat (go_quiet (fail); try go_wp2)
      go_meet
      case rel => exact ⟨_, (true), (by first | rfl | (simp; done) | (simp [*]; done)), H', ⟨by have := HJ2.out; first | omega | exact Nat.le_refl _⟩, ⟨by (with_reducible repeat (first | refine qj ?_ _ | refine qm ?_ | refine qi ?_ _)); exact BK206.out⟩, ⟨by repeat (first | (with_reducible first | exact HB.out | apply qg | apply qc | apply qh | refine ql ?_ GE206.out) | exact HB.out)⟩⟩
     ·rw [if_neg c14] at H
      have c14b0 : (a0_0 == 2) = false := beq_eq_false_iff_ne.mpr c14
      have c14b1 : (a0_0 != 2) = true := bne_iff_ne.mpr c14
      (first | rw [c14b0] | (simp only [i64_w, i32_w]; rw [c14b0]) | skip)
      have H' := qd.mk H
      clear H
      have hcz16_0 : wc.cell? ⟨gb206, 0, none⟩ = some (.int .i64 a0_0) := (qb BK206.out 0).trans rfl
      have hcz16_1 : wc.cell? ⟨gb206, 1, none⟩ = some (.int .i64 a0_1) := (qb BK206.out 1).trans rfl
      have hcz16_2 : wc.cell? ⟨gb206, 2, none⟩ = some (.string a0_2) := (qb BK206.out 2).trans rfl
      have hcz16_3 : wc.cell? ⟨gb206, 3, none⟩ = some (.slice A0_3 l0_3.length c0_3) := (qb BK206.out 3).trans rfl
      have hfz16_0 := qa BK206.out 0
      have hfz16_1 := qa BK206.out 1
      have hfz16_2 := qa BK206.out 2
      have hfz16_3 := qa BK206.out 3
      go_wp2
      repeat (go_quiet (fail); try go_wp2)
      go_meet
      case rel => exact ⟨_, ((a0_0 == 3)), (by first | rfl | (simp; done) | (simp [*]; done)), H', ⟨by have := HJ2.out; first | omega | exact Nat.le_refl _⟩, ⟨by (with_reducible repeat (first | refine qj ?_ _ | refine qm ?_ | refine qi ?_ _)); exact BK206.out⟩, ⟨by repeat (first | (with_reducible first | exact HB.out | apply qg | apply qc | apply qh | refine ql ?_ GE206.out) | exact HB.out)⟩⟩
    case rest =>
     clear HC13
     (try clear c1); (try clear p2); (try clear c4); (try clear c5); (try clear c5b0); (try clear c6); (try clear c6b0); (try clear c8); (try clear c8b0); (try clear c12); (try clear c14); (try clear c14b0); (try clear c14b1); (try clear hcz11_0 hcz11_1 hcz11_2 hcz11_3); (try clear hcz15_0 hcz15_1 hcz15_2 hcz15_3); (try clear hcz16_0 hcz16_1 hcz16_2 hcz16_3); (try clear hcz7_0 hcz7_1 hcz7_2 hcz7_3); (try clear hcz9_0 hcz9_1 hcz9_2 hcz9_3); (try clear hfz11_0 hfz11_1 hfz11_2 hfz11_3); (try clear hfz15_0 hfz15_1 hfz15_2 hfz15_3); (try clear hfz16_0 hfz16_1 hfz16_2 hfz16_3); (try clear hfz7_0 hfz7_1 hfz7_2 hfz7_3); (try clear hfz9_0 hfz9_1 hfz9_2 hfz9_3); (try clear p2)
     obtain ⟨kq, x5_12, rfl, HA, HJ12, BK206, HB⟩ := hcut
     cases kq with
     | zero => exact absurd HA.out (by simp [qo.j1])
     | succ kj12 =>
      have H := HA.out
      clear HA
      simp only [qo.j1] at H
      have HC17 := qd.mk H
      clear H
      go_upto_block 0 with (fail)
      repeat (go_quiet (fail); go_upto_block 0 with (fail))
      go_cut [] (fun wc => ∃ (kq : Nat), qd (qo.j3 kq a1 a0_0 a0_1 a0_2 l0_3 = some r) ∧ qd (kq ≤ kj12) ∧ qd (wc.heap[gb206]? = some (.cells #[.int .i64 a0_0, .int .i64 a0_1, .string a0_2, (.slice A0_3 l0_3.length c0_3)] 27 (0, 0))) ∧ qd (Below w.heap.size w wc))
      case first =>
       have H := HC17.out
       clear HC17
       have HC18 := qd.mk H
       clear H
       go_upto_region 4 with (fail)
       repeat (go_quiet (fail); go_upto_region 4 with (fail))
       go_cut [36] (fun v36 wc => ∃ (kq : Nat) (x36_17 : Bool), v36 = .bool x36_17 ∧ qd (qo.j2 kq a1 x36_17 a0_0 a0_1 a0_2 l0_3 = some r) ∧ qd (kq ≤ kj12) ∧ qd (wc.heap[gb206]? = some (.cells #[.int .i64 a0_0, .int .i64 a0_1, .string a0_2, (.slice A0_3 l0_3.length c0_3)] 27 (0, 0))) ∧ qd (Below w.heap.size w wc))
       case first =>
        have H := HC18.out
        clear HC18
        cases x5_12 with
        | true =>
          by_cases hE : a0_2.toList = []
          ·rw [if_pos (by simp [hE])] at H
           have hz2 : a0_2.toList.isEmpty = true := by simp [hE]
           have H' := qd.mk H
           clear H
           have hcz20_0 : wc.cell? ⟨gb206, 0, none⟩ = some (.int .i64 a0_0) := (qb BK206.out 0).trans rfl
           have hcz20_1 : wc.cell? ⟨gb206, 1, none⟩ = some (.int .i64 a0_1) := (qb BK206.out 1).trans rfl
           have hcz20_2 : wc.cell? ⟨gb206, 2, none⟩ = some (.string a0_2) := (qb BK206.out 2).trans rfl
           have hcz20_3 : wc.cell? ⟨gb206, 3, none⟩ = some (.slice A0_3 l0_3.length c0_3) := (qb BK206.out 3).trans rfl
           have hfz20_0 := qa BK206.out 0
           have hfz20_1 := qa BK206.out 1
           have hfz20_2 := qa BK206.out 2
           have hfz20_3 := qa BK206.out 3
           go_wp2
           repeat (go_quiet (fail); try go_wp2)
           go_meet
           case rel => exact ⟨_, (true), (by first | rfl | (simp; done) | (simp [*]; done)), H', ⟨by have := HJ2.out; have := HJ12.out; first | omega | exact Nat.le_refl _⟩, ⟨by (with_reducible repeat (first | refine qj ?_ _ | refine qm ?_ | refine qi ?_ _)); exact BK206.out⟩, ⟨by repeat (first | (with_reducible first | exact HB.out | apply qg | apply qc | apply qh | refine ql ?_ GE206.out) | exact HB.out)⟩⟩
          ·rw [if_neg (by simp [hE])] at H
           have hz2 : a0_2.toList.isEmpty = false := by simp [hE]
           have H1 : ((qbg.f kj12 a0_2).bind fun t208 => (qo.j2 kj12 a1 (!t208) a0_0 a0_1 a0_2 l0_3)) = some r := by rw [if_pos rfl] at H; exact H
           clear H
           have H := H1
           clear H1
           replace H := Option.bind_eq_some_iff.mp H
           obtain ⟨t208, A220, H⟩ := H
           replace H : (qo.j2 kj12 a1 (!t208) a0_0 a0_1 a0_2 l0_3) = some r := H
           have A22 := qd.mk A220
           clear A220
           have H' := qd.mk H
           clear H
           have hcz23_0 : wc.cell? ⟨gb206, 0, none⟩ = some (.int .i64 a0_0) := (qb BK206.out 0).trans rfl
           have hcz23_1 : wc.cell? ⟨gb206, 1, none⟩ = some (.int .i64 a0_1) := (qb BK206.out 1).trans rfl
           have hcz23_2 : wc.cell? ⟨gb206, 2, none⟩ = some (.string a0_2) := (qb BK206.out 2).trans rfl
           have hcz23_3 : wc.cell? ⟨gb206, 3, none⟩ = some (.slice A0_3 l0_3.length c0_3) := (qb BK206.out 3).trans rfl
           have hfz23_0 := qa BK206.out 0
           have hfz23_1 := qa BK206.out 1
           have hfz23_2 := qa BK206.out 2
           have hfz23_3 := qa BK206.out 3
           go_wp2_with (first | (go_at_call 21; (with_reducible refine (qbg.calls kj12 a0_2 t208 _ A22.out).mono ?_); rintro e w24 ⟨rfl, hb⟩; have n0_ := qd.mk (qbb (g := gb206) (o := .cells #[.int .i64 a0_0, .int .i64 a0_1, .string a0_2, .slice A0_3 l0_3.length c0_3] 27 (0, 0)) (by (with_reducible repeat (first | refine qj ?_ _ | refine qm ?_ | refine qi ?_ _)); exact BK206.out) hb); have n1_ := qd.mk (qba (by repeat (first | (with_reducible first | exact HB.out | apply qg | apply qc | apply qh | refine ql ?_ GE206.out) | exact HB.out)) hb); clear BK206; clear HB; have BK206 := n0_; have HB := n1_; clear n0_ n1_; (try clear hb); (try clear hb2); (try clear hk); (try clear hi)))
           repeat (go_quiet (first | (go_at_call 21; (with_reducible refine (qbg.calls kj12 a0_2 t208 _ A22.out).mono ?_); rintro e w24 ⟨rfl, hb⟩; have n0_ := qd.mk (qbb (g := gb206) (o := .cells #[.int .i64 a0_0, .int .i64 a0_1, .string a0_2, .slice A0_3 l0_3.length c0_3] 27 (0, 0)) (by (with_reducible repeat (first | refine qj ?_ _ | refine qm ?_ | refine qi ?_ _)); exact BK206.out) hb); have n1_ := qd.mk (qba (by repeat (first | (with_reducible first | exact HB.out | apply qg | apply qc | apply qh | refine ql ?_ GE206.out) | exact HB.out)) hb); clear BK206; clear HB; have BK206 := n0_; have HB := n1_; clear n0_ n1_; (try clear hb); (try clear hb2); (try clear hk); (try clear hi))); try go_wp2_with (first | (go_at_call 21; (with_reducible refine (qbg.calls kj12 a0_2 t208 _ A22.out).mono ?_); rintro e w24 ⟨rfl, hb⟩; have n0_ := qd.mk (qbb (g := gb206) (o := .cells #[.int .i64 a0_0, .int .i64 a0_1, .string a0_2, .slice A0_3 l0_3.length c0_3] 27 (0, 0)) (by (with_reducible repeat (first | refine qj ?_ _ | refine qm ?_ | refine qi ?_ _)); exact BK206.out) hb); have n1_ := qd.mk (qba (by repeat (first | (with_reducible first | exact HB.out | apply qg | apply qc | apply qh | refine ql ?_ GE206.out) | exact HB.out)) hb); clear BK206; clear HB; have BK206 := n0_; have HB := n1_; clear n0_ n1_; (try clear hb); (try clear hb2); (try clear hk); (try clear hi))))
           go_meet
           case rel => exact ⟨_, (!t208), (by first | rfl | (simp; done) | (simp [*]; done)), H', ⟨by have := HJ2.out; have := HJ12.out; first | omega | exact Nat.le_refl _⟩, ⟨by (with_reducible repeat (first | refine qj ?_ _ | refine qm ?_ | refine qi ?_ _)); exact BK206.out⟩, ⟨by repeat (first | (with_reducible first | exact HB.out | apply qg | apply qc | apply qh | refine ql ?_ GE206.out) | exact HB.out)⟩⟩
        | false =>
          by_cases hE : a0_2.toList = []
          ·rw [if_neg (by simp [hE])] at H
           have hz2 : a0_2.toList.isEmpty = true := by simp [hE]
           have H1 : (qo.j2 kj12 a1 false a0_0 a0_1 a0_2 l0_3) = some r := by rw [if_neg (show ¬ (false = true) by decide)] at H; exact H
           clear H
           have H := H1
           clear H1
           have H' := qd.mk H
           clear H
           have hcz25_0 : wc.cell? ⟨gb206, 0, none⟩ = some (.int .i64 a0_0) := (qb BK206.out 0).trans rfl
           have hcz25_1 : wc.cell? ⟨gb206, 1, none⟩ = some (.int .i64 a0_1) := (qb BK206.out 1).trans rfl
           have hcz25_2 : wc.cell? ⟨gb206, 2, none⟩ = some (.string a0_2) := (qb BK206.out 2).trans rfl
           have hcz25_3 : wc.cell? ⟨gb206, 3, none⟩ = some (.slice A0_3 l0_3.length c0_3) := (qb BK206.out 3).trans rfl
           have hfz25_0 := qa BK206.out 0
           have hfz25_1 := qa BK206.out 1
           have hfz25_2 := qa BK206.out 2
           have hfz25_3 := qa BK206.out 3
           go_wp2
           repeat (go_quiet (fail); try go_wp2)
           go_meet
           case rel => exact ⟨_, (false), (by first | rfl | (simp; done) | (simp [*]; done)), H', ⟨by have := HJ2.out; have := HJ12.out; first | omega | exact Nat.le_refl _⟩, ⟨by (with_reducible repeat (first | refine qj ?_ _ | refine qm ?_ | refine qi ?_ _)); exact BK206.out⟩, ⟨by repeat (first | (with_reducible first | exact HB.out | apply qg | apply qc | apply qh | refine ql ?_ GE206.out) | exact HB.out)⟩⟩
          ·rw [if_pos (by simp [hE])] at H
           have hz2 : a0_2.toList.isEmpty = false := by simp [hE]
           have H' := qd.mk H
           clear H
           have hcz20_0 : wc.cell? ⟨gb206, 0, none⟩ = some (.int .i64 a0_0) := (qb BK206.out 0).trans rfl
           have hcz20_1 : wc.cell? ⟨gb206, 1, none⟩ = some (.int .i64 a0_1) := (qb BK206.out 1).trans rfl
           have hcz20_2 : wc.cell? ⟨gb206, 2, none⟩ = some (.string a0_2) := (qb BK206.out 2).trans rfl
           have hcz20_3 : wc.cell? ⟨gb206, 3, none⟩ = some (.slice A0_3 l0_3.length c0_3) := (qb BK206.out 3).trans rfl
           have hfz20_0 := qa BK206.out 0
           have hfz20_1 := qa BK206.out 1
           have hfz20_2 := qa BK206.out 2
           have hfz20_3 := qa BK206.out 3
           go_wp2
           repeat (go_quiet (fail); try go_wp2)
           go_meet
           case rel => exact ⟨_, (true), (by first | rfl | (simp; done) | (simp [*]; done)), H', ⟨by have := HJ2.out; have := HJ12.out; first | omega | exact Nat.le_refl _⟩, ⟨by (with_reducible repeat (first | refine qj ?_ _ | refine qm ?_ | refine qi ?_ _)); exact BK206.out⟩, ⟨by repeat (first | (with_reducible first | exact HB.out | apply qg | apply qc | apply qh | refine ql ?_ GE206.out) | exact HB.out)⟩⟩
       case rest =>
        clear HC18
        (try clear c1); (try clear c2); (try clear p2); (try clear c4); (try clear c5); (try clear c5b0); (try clear c6); (try clear c6b0); (try clear c8); (try clear c8b0); (try clear c12); (try clear c14); (try clear c14b0); (try clear c14b1); (try clear c19); (try clear c19b0); (try clear c19b1); (try clear c19b2); (try clear c21); (try clear hcz11_0 hcz11_1 hcz11_2 hcz11_3); (try clear hcz15_0 hcz15_1 hcz15_2 hcz15_3); (try clear hcz16_0 hcz16_1 hcz16_2 hcz16_3); (try clear hcz20_0 hcz20_1 hcz20_2 hcz20_3); (try clear hcz23_0 hcz23_1 hcz23_2 hcz23_3); (try clear hcz25_0 hcz25_1 hcz25_2 hcz25_3); (try clear hcz7_0 hcz7_1 hcz7_2 hcz7_3); (try clear hcz9_0 hcz9_1 hcz9_2 hcz9_3); (try clear hfz11_0 hfz11_1 hfz11_2 hfz11_3); (try clear hfz15_0 hfz15_1 hfz15_2 hfz15_3); (try clear hfz16_0 hfz16_1 hfz16_2 hfz16_3); (try clear hfz20_0 hfz20_1 hfz20_2 hfz20_3); (try clear hfz23_0 hfz23_1 hfz23_2 hfz23_3); (try clear hfz25_0 hfz25_1 hfz25_2 hfz25_3); (try clear hfz7_0 hfz7_1 hfz7_2 hfz7_3); (try clear hfz9_0 hfz9_1 hfz9_2 hfz9_3); (try clear p2)
        obtain ⟨kq, x36_17, rfl, HA, HJ17, BK206, HB⟩ := hcut
        cases kq with
        | zero => exact absurd HA.out (by simp [qo.j2])
        | succ kj17 =>
         have H := HA.out
         clear HA
         simp only [qo.j2] at H
         by_cases c26 : x36_17 = true
         ·subst c26
          have H1 : (some false) = some r := by rw [if_pos rfl] at H; exact H
          clear H
          have H := H1
          clear H1
          obtain rfl := Option.some.inj H
          go_wp2
          repeat (go_quiet (fail); try go_wp2)
          go_ret
          exact ⟨by first | rfl | (simp [q9, qz] <;> rfl) | (simp [*, q9, qz] <;> rfl), by repeat (first | (with_reducible first | exact HB.out | apply qg | apply qc | apply qh | refine ql ?_ GE206.out) | exact HB.out)⟩
         ·replace c26 := Bool.eq_false_iff.mpr c26
          subst c26
          have H1 : (if a0_0 = 1 then (if a0_1 = 0 then (if a0_0 = 0 then (if a0_1 = (-9223372036854775808) then (some false) else (if a0_0 > 1 then (qo.j3 kj17 a1 a0_0 a0_1 a0_2 l0_3) else (qo.j3 kj17 a1 a0_0 a0_1 a0_2 l0_3))) else (if a0_0 > 1 then (qo.j3 kj17 a1 a0_0 a0_1 a0_2 l0_3) else (qo.j3 kj17 a1 a0_0 a0_1 a0_2 l0_3))) else (if a0_1 = 1 then (if a0_0 = 0 then (if a0_1 = (-9223372036854775808) then (some false) else (if a0_0 > 1 then (some false) else (qo.j3 kj17 a1 a0_0 a0_1 a0_2 l0_3))) else (if a0_0 > 1 then (some false) else (qo.j3 kj17 a1 a0_0 a0_1 a0_2 l0_3))) else (some false))) else (if a0_0 = 0 then (if a0_1 = (-9223372036854775808) then (some false) else (if a0_0 > 1 then (if a0_1 = 0 then (qo.j3 kj17 a1 a0_0 a0_1 a0_2 l0_3) else (some false)) else (qo.j3 kj17 a1 a0_0 a0_1 a0_2 l0_3))) else (if a0_0 > 1 then (if a0_1 = 0 then (qo.j3 kj17 a1 a0_0 a0_1 a0_2 l0_3) else (some false)) else (qo.j3 kj17 a1 a0_0 a0_1 a0_2 l0_3)))) = some r := by rw [if_neg (show ¬ (false = true) by decide)] at H; exact H
          clear H
          have H := H1
          clear H1
          by_cases c27 : a0_0 = 1
          ·rw [if_pos c27] at H
           have c27b0 : (a0_0 == 1) = true := beq_iff_eq.mpr c27
           have c27b1 : (a0_0 != 1) = false := bne_eq_false_iff_eq.mpr c27
           clear c27
           by_cases c28 : a0_1 = 0
           ·rw [if_pos c28] at H
            have c28b0 : (a0_1 == 0) = true := beq_iff_eq.mpr c28
            have c28b1 : (a0_1 != 0) = false := bne_eq_false_iff_eq.mpr c28
            clear c28
            by_cases c29 : a0_0 = 0
            ·rw [if_pos c29] at H
             have c29b0 : (a0_0 == 0) = true := beq_iff_eq.mpr c29
             have c29b1 : (a0_0 != 0) = false := bne_eq_false_iff_eq.mpr c29
             clear c29
             by_cases c30 : a0_1 = (-9223372036854775808)
             ·rw [if_pos c30] at H
              have c30b0 : (a0_1 == (-9223372036854775808)) = true := beq_iff_eq.mpr c30
              have c30b1 : (a0_1 != (-9223372036854775808)) = false := bne_eq_false_iff_eq.mpr c30
              clear c30
              obtain rfl := Option.some.inj H
              have hcz31_0 : wc.cell? ⟨gb206, 0, none⟩ = some (.int .i64 a0_0) := (qb BK206.out 0).trans rfl
              have hcz31_1 : wc.cell? ⟨gb206, 1, none⟩ = some (.int .i64 a0_1) := (qb BK206.out 1).trans rfl
              have hcz31_2 : wc.cell? ⟨gb206, 2, none⟩ = some (.string a0_2) := (qb BK206.out 2).trans rfl
              have hcz31_3 : wc.cell? ⟨gb206, 3, none⟩ = some (.slice A0_3 l0_3.length c0_3) := (qb BK206.out 3).trans rfl
              have hfz31_0 := qa BK206.out 0
              have hfz31_1 := qa BK206.out 1
              have hfz31_2 := qa BK206.out 2
              have hfz31_3 := qa BK206.out 3
              go_wp2
              repeat (go_quiet (fail); try go_wp2)
              go_ret
              exact ⟨by first | rfl | (simp [q9, qz] <;> rfl) | (simp [*, q9, qz] <;> rfl), by repeat (first | (with_reducible first | exact HB.out | apply qg | apply qc | apply qh | refine ql ?_ GE206.out) | exact HB.out)⟩
             ·rw [if_neg c30] at H
              have c30b0 : (a0_1 == (-9223372036854775808)) = false := beq_eq_false_iff_ne.mpr c30
              have c30b1 : (a0_1 != (-9223372036854775808)) = true := bne_iff_ne.mpr c30
              by_cases c32 : a0_0 > 1
              ·rw [if_pos c32] at H
               have c32b0 : decide (1 < a0_0) = true := decide_eq_true c32
               clear c32
               have H' := qd.mk H
               clear H
               have hcz33_0 : wc.cell? ⟨gb206, 0, none⟩ = some (.int .i64 a0_0) := (qb BK206.out 0).trans rfl
               have hcz33_1 : wc.cell? ⟨gb206, 1, none⟩ = some (.int .i64 a0_1) := (qb BK206.out 1).trans rfl
               have hcz33_2 : wc.cell? ⟨gb206, 2, none⟩ = some (.string a0_2) := (qb BK206.out 2).trans rfl
               have hcz33_3 : wc.cell? ⟨gb206, 3, none⟩ = some (.slice A0_3 l0_3.length c0_3) := (qb BK206.out 3).trans rfl
               have hfz33_0 := qa BK206.out 0
               have hfz33_1 := qa BK206.out 1
               have hfz33_2 := qa BK206.out 2
               have hfz33_3 := qa BK206.out 3
               go_wp2
               repeat (go_quiet (fail); try go_wp2)
               go_meet
               case rel => exact ⟨_, H', ⟨by have := HJ2.out; have := HJ12.out; have := HJ17.out; first | omega | exact Nat.le_refl _⟩, ⟨by (with_reducible repeat (first | refine qj ?_ _ | refine qm ?_ | refine qi ?_ _)); exact BK206.out⟩, ⟨by repeat (first | (with_reducible first | exact HB.out | apply qg | apply qc | apply qh | refine ql ?_ GE206.out) | exact HB.out)⟩⟩
              ·rw [if_neg c32] at H
               have c32b0 : decide (1 < a0_0) = false := decide_eq_false c32
               clear c32
               have H' := qd.mk H
               clear H
               have hcz34_0 : wc.cell? ⟨gb206, 0, none⟩ = some (.int .i64 a0_0) := (qb BK206.out 0).trans rfl
               have hcz34_1 : wc.cell? ⟨gb206, 1, none⟩ = some (.int .i64 a0_1) := (qb BK206.out 1).trans rfl
               have hcz34_2 : wc.cell? ⟨gb206, 2, none⟩ = some (.string a0_2) := (qb BK206.out 2).trans rfl
               have hcz34_3 : wc.cell? ⟨gb206, 3, none⟩ = some (.slice A0_3 l0_3.length c0_3) := (qb BK206.out 3).trans rfl
               have hfz34_0 := qa BK206.out 0
               have hfz34_1 := qa BK206.out 1
               have hfz34_2 := qa BK206.out 2
               have hfz34_3 := qa BK206.out 3
               go_wp2
               repeat (go_quiet (fail); try go_wp2)
               go_meet
               case rel => exact ⟨_, H', ⟨by have := HJ2.out; have := HJ12.out; have := HJ17.out; first | omega | exact Nat.le_refl _⟩, ⟨by (with_reducible repeat (first | refine qj ?_ _ | refine qm ?_ | refine qi ?_ _)); exact BK206.out⟩, ⟨by repeat (first | (with_reducible first | exact HB.out | apply qg | apply qc | apply qh | refine ql ?_ GE206.out) | exact HB.out)⟩⟩
            ·rw [if_neg c29] at H
             have c29b0 : (a0_0 == 0) = false := beq_eq_false_iff_ne.mpr c29
             have c29b1 : (a0_0 != 0) = true := bne_iff_ne.mpr c29
             by_cases c35 : a0_0 > 1
             ·rw [if_pos c35] at H
              have c35b0 : decide (1 < a0_0) = true := decide_eq_true c35
              clear c35
              have H' := qd.mk H
              clear H
              have hcz36_0 : wc.cell? ⟨gb206, 0, none⟩ = some (.int .i64 a0_0) := (qb BK206.out 0).trans rfl
              have hcz36_1 : wc.cell? ⟨gb206, 1, none⟩ = some (.int .i64 a0_1) := (qb BK206.out 1).trans rfl
              have hcz36_2 : wc.cell? ⟨gb206, 2, none⟩ = some (.string a0_2) := (qb BK206.out 2).trans rfl
              have hcz36_3 : wc.cell? ⟨gb206, 3, none⟩ = some (.slice A0_3 l0_3.length c0_3) := (qb BK206.out 3).trans rfl
              have hfz36_0 := qa BK206.out 0
              have hfz36_1 := qa BK206.out 1
              have hfz36_2 := qa BK206.out 2
              have hfz36_3 := qa BK206.out 3
              go_wp2
              repeat (go_quiet (fail); try go_wp2)
              go_meet
              case rel => exact ⟨_, H', ⟨by have := HJ2.out; have := HJ12.out; have := HJ17.out; first | omega | exact Nat.le_refl _⟩, ⟨by (with_reducible repeat (first | refine qj ?_ _ | refine qm ?_ | refine qi ?_ _)); exact BK206.out⟩, ⟨by repeat (first | (with_reducible first | exact HB.out | apply qg | apply qc | apply qh | refine ql ?_ GE206.out) | exact HB.out)⟩⟩
             ·rw [if_neg c35] at H
              have c35b0 : decide (1 < a0_0) = false := decide_eq_false c35
              clear c35
              have H' := qd.mk H
              clear H
              have hcz37_0 : wc.cell? ⟨gb206, 0, none⟩ = some (.int .i64 a0_0) := (qb BK206.out 0).trans rfl
              have hcz37_1 : wc.cell? ⟨gb206, 1, none⟩ = some (.int .i64 a0_1) := (qb BK206.out 1).trans rfl
              have hcz37_2 : wc.cell? ⟨gb206, 2, none⟩ = some (.string a0_2) := (qb BK206.out 2).trans rfl
              have hcz37_3 : wc.cell? ⟨gb206, 3, none⟩ = some (.slice A0_3 l0_3.length c0_3) := (qb BK206.out 3).trans rfl
              have hfz37_0 := qa BK206.out 0
              have hfz37_1 := qa BK206.out 1
              have hfz37_2 := qa BK206.out 2
              have hfz37_3 := qa BK206.out 3
              go_wp2
              repeat (go_quiet (fail); try go_wp2)
              go_meet
              case rel => exact ⟨_, H', ⟨by have := HJ2.out; have := HJ12.out; have := HJ17.out; first | omega | exact Nat.le_refl _⟩, ⟨by (with_reducible repeat (first | refine qj ?_ _ | refine qm ?_ | refine qi ?_ _)); exact BK206.out⟩, ⟨by repeat (first | (with_reducible first | exact HB.out | apply qg | apply qc | apply qh | refine ql ?_ GE206.out) | exact HB.out)⟩⟩
           ·rw [if_neg c28] at H
            have c28b0 : (a0_1 == 0) = false := beq_eq_false_iff_ne.mpr c28
            have c28b1 : (a0_1 != 0) = true := bne_iff_ne.mpr c28
            by_cases c38 : a0_1 = 1
            ·rw [if_pos c38] at H
             have c38b0 : (a0_1 == 1) = true := beq_iff_eq.mpr c38
             have c38b1 : (a0_1 != 1) = false := bne_eq_false_iff_eq.mpr c38
             clear c38
             by_cases c39 : a0_0 = 0
             ·rw [if_pos c39] at H
              have c39b0 : (a0_0 == 0) = true := beq_iff_eq.mpr c39
              have c39b1 : (a0_0 != 0) = false := bne_eq_false_iff_eq.mpr c39
              clear c39
              by_cases c40 : a0_1 = (-9223372036854775808)
              ·rw [if_pos c40] at H
               have c40b0 : (a0_1 == (-9223372036854775808)) = true := beq_iff_eq.mpr c40
               have c40b1 : (a0_1 != (-9223372036854775808)) = false := bne_eq_false_iff_eq.mpr c40
               clear c40
               obtain rfl := Option.some.inj H
               have hcz41_0 : wc.cell? ⟨gb206, 0, none⟩ = some (.int .i64 a0_0) := (qb BK206.out 0).trans rfl
               have hcz41_1 : wc.cell? ⟨gb206, 1, none⟩ = some (.int .i64 a0_1) := (qb BK206.out 1).trans rfl
               have hcz41_2 : wc.cell? ⟨gb206, 2, none⟩ = some (.string a0_2) := (qb BK206.out 2).trans rfl
               have hcz41_3 : wc.cell? ⟨gb206, 3, none⟩ = some (.slice A0_3 l0_3.length c0_3) := (qb BK206.out 3).trans rfl
               have hfz41_0 := qa BK206.out 0
               have hfz41_1 := qa BK206.out 1
               have hfz41_2 := qa BK206.out 2
               have hfz41_3 := qa BK206.out 3
               go_wp2
               repeat (go_quiet (fail); try go_wp2)
               go_ret
               exact ⟨by first | rfl | (simp [q9, qz] <;> rfl) | (simp [*, q9, qz] <;> rfl), by repeat (first | (with_reducible first | exact HB.out | apply qg | apply qc | apply qh | refine ql ?_ GE206.out) | exact HB.out)⟩
              ·rw [if_neg c40] at H
               have c40b0 : (a0_1 == (-9223372036854775808)) = false := beq_eq_false_iff_ne.mpr c40
               have c40b1 : (a0_1 != (-9223372036854775808)) = true := bne_iff_ne.mpr c40
               by_cases c42 : a0_0 > 1
               ·rw [if_pos c42] at H
                have c42b0 : decide (1 < a0_0) = true := decide_eq_true c42
                clear c42
                obtain rfl := Option.some.inj H
                have hcz43_0 : wc.cell? ⟨gb206, 0, none⟩ = some (.int .i64 a0_0) := (qb BK206.out 0).trans rfl
                have hcz43_1 : wc.cell? ⟨gb206, 1, none⟩ = some (.int .i64 a0_1) := (qb BK206.out 1).trans rfl
                have hcz43_2 : wc.cell? ⟨gb206, 2, none⟩ = some (.string a0_2) := (qb BK206.out 2).trans rfl
                have hcz43_3 : wc.cell? ⟨gb206, 3, none⟩ = some (.slice A0_3 l0_3.length c0_3) := (qb BK206.out 3).trans rfl
                have hfz43_0 := qa BK206.out 0
                have hfz43_1 := qa BK206.out 1
                have hfz43_2 := qa BK206.out 2
                have hfz43_3 := qa BK206.out 3
                go_wp2
                repeat (go_quiet (fail); try go_wp2)
                go_ret
                exact ⟨by first | rfl | (simp [q9, qz] <;> rfl) | (simp [*, q9, qz] <;> rfl), by repeat (first | (with_reducible first | exact HB.out | apply qg | apply qc | apply qh | refine ql ?_ GE206.out) | exact HB.out)⟩
               ·rw [if_neg c42] at H
                have c42b0 : decide (1 < a0_0) = false := decide_eq_false c42
                clear c42
                have H' := qd.mk H
                clear H
                have hcz44_0 : wc.cell? ⟨gb206, 0, none⟩ = some (.int .i64 a0_0) := (qb BK206.out 0).trans rfl
                have hcz44_1 : wc.cell? ⟨gb206, 1, none⟩ = some (.int .i64 a0_1) := (qb BK206.out 1).trans rfl
                have hcz44_2 : wc.cell? ⟨gb206, 2, none⟩ = some (.string a0_2) := (qb BK206.out 2).trans rfl
                have hcz44_3 : wc.cell? ⟨gb206, 3, none⟩ = some (.slice A0_3 l0_3.length c0_3) := (qb BK206.out 3).trans rfl
                have hfz44_0 := qa BK206.out 0
                have hfz44_1 := qa BK206.out 1
                have hfz44_2 := qa BK206.out 2
                have hfz44_3 := qa BK206.out 3
                go_wp2
                repeat (go_quiet (fail); try go_wp2)
                go_meet
                case rel => exact ⟨_, H', ⟨by have := HJ2.out; have := HJ12.out; have := HJ17.out; first | omega | exact Nat.le_refl _⟩, ⟨by (with_reducible repeat (first | refine qj ?_ _ | refine qm ?_ | refine qi ?_ _)); exact BK206.out⟩, ⟨by repeat (first | (with_reducible first | exact HB.out | apply qg | apply qc | apply qh | refine ql ?_ GE206.out) | exact HB.out)⟩⟩
             ·rw [if_neg c39] at H
              have c39b0 : (a0_0 == 0) = false := beq_eq_false_iff_ne.mpr c39
              have c39b1 : (a0_0 != 0) = true := bne_iff_ne.mpr c39
              by_cases c45 : a0_0 > 1
              ·rw [if_pos c45] at H
               have c45b0 : decide (1 < a0_0) = true := decide_eq_true c45
               clear c45
               obtain rfl := Option.some.inj H
               have hcz46_0 : wc.cell? ⟨gb206, 0, none⟩ = some (.int .i64 a0_0) := (qb BK206.out 0).trans rfl
               have hcz46_1 : wc.cell? ⟨gb206, 1, none⟩ = some (.int .i64 a0_1) := (qb BK206.out 1).trans rfl
               have hcz46_2 : wc.cell? ⟨gb206, 2, none⟩ = some (.string a0_2) := (qb BK206.out 2).trans rfl
               have hcz46_3 : wc.cell? ⟨gb206, 3, none⟩ = some (.slice A0_3 l0_3.length c0_3) := (qb BK206.out 3).trans rfl
               have hfz46_0 := qa BK206.out 0
               have hfz46_1 := qa BK206.out 1
               have hfz46_2 := qa BK206.out 2
               have hfz46_3 := qa BK206.out 3
               go_wp2
               repeat (go_quiet (fail); try go_wp2)
               go_ret
               exact ⟨by first | rfl | (simp [q9, qz] <;> rfl) | (simp [*, q9, qz] <;> rfl), by repeat (first | (with_reducible first | exact HB.out | apply qg | apply qc | apply qh | refine ql ?_ GE206.out) | exact HB.out)⟩
              ·rw [if_neg c45] at H
               have c45b0 : decide (1 < a0_0) = false := decide_eq_false c45
               clear c45
               have H' := qd.mk H
               clear H
               have hcz47_0 : wc.cell? ⟨gb206, 0, none⟩ = some (.int .i64 a0_0) := (qb BK206.out 0).trans rfl
               have hcz47_1 : wc.cell? ⟨gb206, 1, none⟩ = some (.int .i64 a0_1) := (qb BK206.out 1).trans rfl
               have hcz47_2 : wc.cell? ⟨gb206, 2, none⟩ = some (.string a0_2) := (qb BK206.out 2).trans rfl
               have hcz47_3 : wc.cell? ⟨gb206, 3, none⟩ = some (.slice A0_3 l0_3.length c0_3) := (qb BK206.out 3).trans rfl
               have hfz47_0 := qa BK206.out 0
               have hfz47_1 := qa BK206.out 1
               have hfz47_2 := qa BK206.out 2
               have hfz47_3 := qa BK206.out 3
               go_wp2
               repeat (go_quiet (fail); try go_wp2)
               go_meet
               case rel => exact ⟨_, H', ⟨by have := HJ2.out; have := HJ12.out; have := HJ17.out; first | omega | exact Nat.le_refl _⟩, ⟨by (with_reducible repeat (first | refine qj ?_ _ | refine qm ?_ | refine qi ?_ _)); exact BK206.out⟩, ⟨by repeat (first | (with_reducible first | exact HB.out | apply qg | apply qc | apply qh | refine ql ?_ GE206.out) | exact HB.out)⟩⟩
            ·rw [if_neg c38] at H
             have c38b0 : (a0_1 == 1) = false := beq_eq_false_iff_ne.mpr c38
             have c38b1 : (a0_1 != 1) = true := bne_iff_ne.mpr c38
             obtain rfl := Option.some.inj H
             have hcz48_0 : wc.cell? ⟨gb206, 0, none⟩ = some (.int .i64 a0_0) := (qb BK206.out 0).trans rfl
             have hcz48_1 : wc.cell? ⟨gb206, 1, none⟩ = some (.int .i64 a0_1) := (qb BK206.out 1).trans rfl
             have hcz48_2 : wc.cell? ⟨gb206, 2, none⟩ = some (.string a0_2) := (qb BK206.out 2).trans rfl
             have hcz48_3 : wc.cell? ⟨gb206, 3, none⟩ = some (.slice A0_3 l0_3.length c0_3) := (qb BK206.out 3).trans rfl
             have hfz48_0 := qa BK206.out 0
             have hfz48_1 := qa BK206.out 1
             have hfz48_2 := qa BK206.out 2
             have hfz48_3 := qa BK206.out 3
             go_wp2
             repeat (go_quiet (fail); try go_wp2)
             go_ret
             exact ⟨by first | rfl | (simp [q9, qz] <;> rfl) | (simp [*, q9, qz] <;> rfl), by repeat (first | (with_reducible first | exact HB.out | apply qg | apply qc | apply qh | refine ql ?_ GE206.out) | exact HB.out)⟩
          ·rw [if_neg c27] at H
           have c27b0 : (a0_0 == 1) = false := beq_eq_false_iff_ne.mpr c27
           have c27b1 : (a0_0 != 1) = true := bne_iff_ne.mpr c27
           by_cases c49 : a0_0 = 0
           ·rw [if_pos c49] at H
            have c49b0 : (a0_0 == 0) = true := beq_iff_eq.mpr c49
            have c49b1 : (a0_0 != 0) = false := bne_eq_false_iff_eq.mpr c49
            clear c49
            by_cases c50 : a0_1 = (-9223372036854775808)
            ·rw [if_pos c50] at H
             have c50b0 : (a0_1 == (-9223372036854775808)) = true := beq_iff_eq.mpr c50
             have c50b1 : (a0_1 != (-9223372036854775808)) = false := bne_eq_false_iff_eq.mpr c50
             clear c50
             obtain rfl := Option.some.inj H
             have hcz51_0 : wc.cell? ⟨gb206, 0, none⟩ = some (.int .i64 a0_0) := (qb BK206.out 0).trans rfl
             have hcz51_1 : wc.cell? ⟨gb206, 1, none⟩ = some (.int .i64 a0_1) := (qb BK206.out 1).trans rfl
             have hcz51_2 : wc.cell? ⟨gb206, 2, none⟩ = some (.string a0_2) := (qb BK206.out 2).trans rfl
             have hcz51_3 : wc.cell? ⟨gb206, 3, none⟩ = some (.slice A0_3 l0_3.length c0_3) := (qb BK206.out 3).trans rfl
             have hfz51_0 := qa BK206.out 0
             have hfz51_1 := qa BK206.out 1
             have hfz51_2 := qa BK206.out 2
             have hfz51_3 := qa BK206.out 3
             go_wp2
             repeat (go_quiet (fail); try go_wp2)
             go_ret
             exact ⟨by first | rfl | (simp [q9, qz] <;> rfl) | (simp [*, q9, qz] <;> rfl), by repeat (first | (with_reducible first | exact HB.out | apply qg | apply qc | apply qh | refine ql ?_ GE206.out) | exact HB.out)⟩
            ·rw [if_neg c50] at H
             have c50b0 : (a0_1 == (-9223372036854775808)) = false := beq_eq_false_iff_ne.mpr c50
             have c50b1 : (a0_1 != (-9223372036854775808)) = true := bne_iff_ne.mpr c50
             by_cases c52 : a0_0 > 1
             ·rw [if_pos c52] at H
              have c52b0 : decide (1 < a0_0) = true := decide_eq_true c52
              clear c52
              by_cases c53 : a0_1 = 0
              ·rw [if_pos c53] at H
               have c53b0 : (a0_1 == 0) = true := beq_iff_eq.mpr c53
               have c53b1 : (a0_1 != 0) = false := bne_eq_false_iff_eq.mpr c53
               clear c53
               have H' := qd.mk H
               clear H
               have hcz54_0 : wc.cell? ⟨gb206, 0, none⟩ = some (.int .i64 a0_0) := (qb BK206.out 0).trans rfl
               have hcz54_1 : wc.cell? ⟨gb206, 1, none⟩ = some (.int .i64 a0_1) := (qb BK206.out 1).trans rfl
               have hcz54_2 : wc.cell? ⟨gb206, 2, none⟩ = some (.string a0_2) := (qb BK206.out 2).trans rfl
               have hcz54_3 : wc.cell? ⟨gb206, 3, none⟩ = some (.slice A0_3 l0_3.length c0_3) := (qb BK206.out 3).trans rfl
               have hfz54_0 := qa BK206.out 0
               have hfz54_1 := qa BK206.out 1
               have hfz54_2 := qa BK206.out 2
               have hfz54_3 := qa BK206.out 3
               go_wp2
               repeat (go_quiet (fail); try go_wp2)
               go_meet
               case rel => exact ⟨_, H', ⟨by have := HJ2.out; have := HJ12.out; have := HJ17.out; first | omega | exact Nat.le_refl _⟩, ⟨by (with_reducible repeat (first | refine qj ?_ _ | refine qm ?_ | refine qi ?_ _)); exact BK206.out⟩, ⟨by repeat (first | (with_reducible first | exact HB.out | apply qg | apply qc | apply qh | refine ql ?_ GE206.out) | exact HB.out)⟩⟩
              ·rw [if_neg c53] at H
               have c53b0 : (a0_1 == 0) = false := beq_eq_false_iff_ne.mpr c53
               have c53b1 : (a0_1 != 0) = true := bne_iff_ne.mpr c53
               obtain rfl := Option.some.inj H
               have hcz55_0 : wc.cell? ⟨gb206, 0, none⟩ = some (.int .i64 a0_0) := (qb BK206.out 0).trans rfl
               have hcz55_1 : wc.cell? ⟨gb206, 1, none⟩ = some (.int .i64 a0_1) := (qb BK206.out 1).trans rfl
               have hcz55_2 : wc.cell? ⟨gb206, 2, none⟩ = some (.string a0_2) := (qb BK206.out 2).trans rfl
               have hcz55_3 : wc.cell? ⟨gb206, 3, none⟩ = some (.slice A0_3 l0_3.length c0_3) := (qb BK206.out 3).trans rfl
               have hfz55_0 := qa BK206.out 0
               have hfz55_1 := qa BK206.out 1
               have hfz55_2 := qa BK206.out 2
               have hfz55_3 := qa BK206.out 3
               go_wp2
               repeat (go_quiet (fail); try go_wp2)
               go_ret
               exact ⟨by first | rfl | (simp [q9, qz] <;> rfl) | (simp [*, q9, qz] <;> rfl), by repeat (first | (with_reducible first | exact HB.out | apply qg | apply qc | apply qh | refine ql ?_ GE206.out) | exact HB.out)⟩
             ·rw [if_neg c52] at H
              have c52b0 : decide (1 < a0_0) = false := decide_eq_false c52
              clear c52
              have H' := qd.mk H
              clear H
              have hcz56_0 : wc.cell? ⟨gb206, 0, none⟩ = some (.int .i64 a0_0) := (qb BK206.out 0).trans rfl
              have hcz56_1 : wc.cell? ⟨gb206, 1, none⟩ = some (.int .i64 a0_1) := (qb BK206.out 1).trans rfl
              have hcz56_2 : wc.cell? ⟨gb206, 2, none⟩ = some (.string a0_2) := (qb BK206.out 2).trans rfl
              have hcz56_3 : wc.cell? ⟨gb206, 3, none⟩ = some (.slice A0_3 l0_3.length c0_3) := (qb BK206.out 3).trans rfl
              have hfz56_0 := qa BK206.out 0
              have hfz56_1 := qa BK206.out 1
              have hfz56_2 := qa BK206.out 2
              have hfz56_3 := qa BK206.out 3
              go_wp2
              repeat (go_quiet (fail); try go_wp2)
              go_meet
              case rel => exact ⟨_, H', ⟨by have := HJ2.out; have := HJ12.out; have := HJ17.out; first | omega | exact Nat.le_refl _⟩, ⟨by (with_reducible repeat (first | refine qj ?_ _ | refine qm ?_ | refine qi ?_ _)); exact BK206.out⟩, ⟨by repeat (first | (with_reducible first | exact HB.out | apply qg | apply qc | apply qh | refine ql ?_ GE206.out) | exact HB.out)⟩⟩
           ·rw [if_neg c49] at H
            have c49b0 : (a0_0 == 0) = false := beq_eq_false_iff_ne.mpr c49
            have c49b1 : (a0_0 != 0) = true := bne_iff_ne.mpr c49
            by_cases c57 : a0_0 > 1
            ·rw [if_pos c57] at H
             have c57b0 : decide (1 < a0_0) = true := decide_eq_true c57
             clear c57
             by_cases c58 : a0_1 = 0
             ·rw [if_pos c58] at H
              have c58b0 : (a0_1 == 0) = true := beq_iff_eq.mpr c58
              have c58b1 : (a0_1 != 0) = false := bne_eq_false_iff_eq.mpr c58
              clear c58
              have H' := qd.mk H
              clear H
              have hcz59_0 : wc.cell? ⟨gb206, 0, none⟩ = some (.int .i64 a0_0) := (qb BK206.out 0).trans rfl
              have hcz59_1 : wc.cell? ⟨gb206, 1, none⟩ = some (.int .i64 a0_1) := (qb BK206.out 1).trans rfl
              have hcz59_2 : wc.cell? ⟨gb206, 2, none⟩ = some (.string a0_2) := (qb BK206.out 2).trans rfl
              have hcz59_3 : wc.cell? ⟨gb206, 3, none⟩ = some (.slice A0_3 l0_3.length c0_3) := (qb BK206.out 3).trans rfl
              have hfz59_0 := qa BK206.out 0
              have hfz59_1 := qa BK206.out 1
              have hfz59_2 := qa BK206.out 2
              have hfz59_3 := qa BK206.out 3
              go_wp2
              repeat (go_quiet (fail); try go_wp2)
              go_meet
              case rel => exact ⟨_, H', ⟨by have := HJ2.out; have := HJ12.out; have := HJ17.out; first | omega | exact Nat.le_refl _⟩, ⟨by (with_reducible repeat (first | refine qj ?_ _ | refine qm ?_ | refine qi ?_ _)); exact BK206.out⟩, ⟨by repeat (first | (with_reducible first | exact HB.out | apply qg | apply qc | apply qh | refine ql ?_ GE206.out) | exact HB.out)⟩⟩
             ·rw [if_neg c58] at H
              have c58b0 : (a0_1 == 0) = false := beq_eq_false_iff_ne.mpr c58
              have c58b1 : (a0_1 != 0) = true := bne_iff_ne.mpr c58
              obtain rfl := Option.some.inj H
              have hcz60_0 : wc.cell? ⟨gb206, 0, none⟩ = some (.int .i64 a0_0) := (qb BK206.out 0).trans rfl
              have hcz60_1 : wc.cell? ⟨gb206, 1, none⟩ = some (.int .i64 a0_1) := (qb BK206.out 1).trans rfl
              have hcz60_2 : wc.cell? ⟨gb206, 2, none⟩ = some (.string a0_2) := (qb BK206.out 2).trans rfl
              have hcz60_3 : wc.cell? ⟨gb206, 3, none⟩ = some (.slice A0_3 l0_3.length c0_3) := (qb BK206.out 3).trans rfl
              have hfz60_0 := qa BK206.out 0
              have hfz60_1 := qa BK206.out 1
              have hfz60_2 := qa BK206.out 2
              have hfz60_3 := qa BK206.out 3
              go_wp2
              repeat (go_quiet (fail); try go_wp2)
              go_ret
              exact ⟨by first | rfl | (simp [q9, qz] <;> rfl) | (simp [*, q9, qz] <;> rfl), by repeat (first | (with_reducible first | exact HB.out | apply qg | apply qc | apply qh | refine ql ?_ GE206.out) | exact HB.out)⟩
            ·rw [if_neg c57] at H
             have c57b0 : decide (1 < a0_0) = false := decide_eq_false c57
             clear c57
             have H' := qd.mk H
             clear H
             have hcz61_0 : wc.cell? ⟨gb206, 0, none⟩ = some (.int .i64 a0_0) := (qb BK206.out 0).trans rfl
             have hcz61_1 : wc.cell? ⟨gb206, 1, none⟩ = some (.int .i64 a0_1) := (qb BK206.out 1).trans rfl
             have hcz61_2 : wc.cell? ⟨gb206, 2, none⟩ = some (.string a0_2) := (qb BK206.out 2).trans rfl
             have hcz61_3 : wc.cell? ⟨gb206, 3, none⟩ = some (.slice A0_3 l0_3.length c0_3) := (qb BK206.out 3).trans rfl
             have hfz61_0 := qa BK206.out 0
             have hfz61_1 := qa BK206.out 1
             have hfz61_2 := qa BK206.out 2
             have hfz61_3 := qa BK206.out 3
             go_wp2
             repeat (go_quiet (fail); try go_wp2)
             go_meet
             case rel => exact ⟨_, H', ⟨by have := HJ2.out; have := HJ12.out; have := HJ17.out; first | omega | exact Nat.le_refl _⟩, ⟨by (with_reducible repeat (first | refine qj ?_ _ | refine qm ?_ | refine qi ?_ _)); exact BK206.out⟩, ⟨by repeat (first | (with_reducible first | exact HB.out | apply qg | apply qc | apply qh | refine ql ?_ GE206.out) | exact HB.out)⟩⟩
      case rest =>
       clear HC17
       (try clear c1); (try clear c2); (try clear p2); (try clear c3); (try clear c4); (try clear c5); (try clear c5b0); (try clear c6); (try clear c6b0); (try clear c8); (try clear c8b0); (try clear c12); (try clear c14); (try clear c14b0); (try clear c14b1); (try clear c19); (try clear c19b0); (try clear c19b1); (try clear c19b2); (try clear c21); (try clear c26); (try clear c27); (try clear c27b0); (try clear c27b1); (try clear c28); (try clear c28b0); (try clear c28b1); (try clear c29); (try clear c29b0); (try clear c29b1); (try clear c30); (try clear c30b0); (try clear c30b1); (try clear c32); (try clear c32b0); (try clear c35); (try clear c35b0); (try clear c38); (try clear c38b0); (try clear c38b1); (try clear c39); (try clear c39b0); (try clear c39b1); (try clear c40); (try clear c40b0); (try clear c40b1); (try clear c42); (try clear c42b0); (try clear c45); (try clear c45b0); (try clear c49); (try clear c49b0); (try clear c49b1); (try clear c50); (try clear c50b0); (try clear c50b1); (try clear c52); (try clear c52b0); (try clear c53); (try clear c53b0); (try clear c53b1); (try clear c57); (try clear c57b0); (try clear c58); (try clear c58b0); (try clear c58b1); (try clear hcz11_0 hcz11_1 hcz11_2 hcz11_3); (try clear hcz15_0 hcz15_1 hcz15_2 hcz15_3); (try clear hcz16_0 hcz16_1 hcz16_2 hcz16_3); (try clear hcz20_0 hcz20_1 hcz20_2 hcz20_3); (try clear hcz23_0 hcz23_1 hcz23_2 hcz23_3); (try clear hcz25_0 hcz25_1 hcz25_2 hcz25_3); (try clear hcz31_0 hcz31_1 hcz31_2 hcz31_3); (try clear hcz33_0 hcz33_1 hcz33_2 hcz33_3); (try clear hcz34_0 hcz34_1 hcz34_2 hcz34_3); (try clear hcz36_0 hcz36_1 hcz36_2 hcz36_3); (try clear hcz37_0 hcz37_1 hcz37_2 hcz37_3); (try clear hcz41_0 hcz41_1 hcz41_2 hcz41_3); (try clear hcz43_0 hcz43_1 hcz43_2 hcz43_3); (try clear hcz44_0 hcz44_1 hcz44_2 hcz44_3); (try clear hcz46_0 hcz46_1 hcz46_2 hcz46_3); (try clear hcz47_0 hcz47_1 hcz47_2 hcz47_3); (try clear hcz48_0 hcz48_1 hcz48_2 hcz48_3); (try clear hcz51_0 hcz51_1 hcz51_2 hcz51_3); (try clear hcz54_0 hcz54_1 hcz54_2 hcz54_3); (try clear hcz55_0 hcz55_1 hcz55_2 hcz55_3); (try clear hcz56_0 hcz56_1 hcz56_2 hcz56_3); (try clear hcz59_0 hcz59_1 hcz59_2 hcz59_3); (try clear hcz60_0 hcz60_1 hcz60_2 hcz60_3); (try clear hcz61_0 hcz61_1 hcz61_2 hcz61_3); (try clear hcz7_0 hcz7_1 hcz7_2 hcz7_3); (try clear hcz9_0 hcz9_1 hcz9_2 hcz9_3); (try clear hfz11_0 hfz11_1 hfz11_2 hfz11_3); (try clear hfz15_0 hfz15_1 hfz15_2 hfz15_3); (try clear hfz16_0 hfz16_1 hfz16_2 hfz16_3); (try clear hfz20_0 hfz20_1 hfz20_2 hfz20_3); (try clear hfz23_0 hfz23_1 hfz23_2 hfz23_3); (try clear hfz25_0 hfz25_1 hfz25_2 hfz25_3); (try clear hfz31_0 hfz31_1 hfz31_2 hfz31_3); (try clear hfz33_0 hfz33_1 hfz33_2 hfz33_3); (try clear hfz34_0 hfz34_1 hfz34_2 hfz34_3); (try clear hfz36_0 hfz36_1 hfz36_2 hfz36_3); (try clear hfz37_0 hfz37_1 hfz37_2 hfz37_3); (try clear hfz41_0 hfz41_1 hfz41_2 hfz41_3); (try clear hfz43_0 hfz43_1 hfz43_2 hfz43_3); (try clear hfz44_0 hfz44_1 hfz44_2 hfz44_3); (try clear hfz46_0 hfz46_1 hfz46_2 hfz46_3); (try clear hfz47_0 hfz47_1 hfz47_2 hfz47_3); (try clear hfz48_0 hfz48_1 hfz48_2 hfz48_3); (try clear hfz51_0 hfz51_1 hfz51_2 hfz51_3); (try clear hfz54_0 hfz54_1 hfz54_2 hfz54_3); (try clear hfz55_0 hfz55_1 hfz55_2 hfz55_3); (try clear hfz56_0 hfz56_1 hfz56_2 hfz56_3); (try clear hfz59_0 hfz59_1 hfz59_2 hfz59_3); (try clear hfz60_0 hfz60_1 hfz60_2 hfz60_3); (try clear hfz61_0 hfz61_1 hfz61_2 hfz61_3); (try clear hfz7_0 hfz7_1 hfz7_2 hfz7_3); (try clear hfz9_0 hfz9_1 hfz9_2 hfz9_3); (try clear p2)
       obtain ⟨kq, HA, HJ16, BK206, HB⟩ := hcut
       cases kq with
       | zero => exact absurd HA.out (by simp [qo.j3])
       | succ kj16 =>
        have H := HA.out
        clear HA
        simp only [qo.j3] at H
        have H' := qd.mk H
        clear H
        go_wp2
        repeat (go_quiet (fail); try go_wp2)
        go_loopg [6] kj16 (fun kq v6 w' => ∃ (x6_4 : Int), v6 = .int .i64 x6_4 ∧ qd (qo.l0 kq a1 x6_4 a0_0 a0_1 a0_2 l0_3 = some r) ∧ qd (kq ≤ kj16) ∧ qd (w'.heap[gb206]? = some (.cells #[.int .i64 a0_0, .int .i64 a0_1, .string a0_2, (.slice A0_3 l0_3.length c0_3)] 27 (0, 0))) ∧ qd (Below w.heap.size w w'))
        case atStart => exact ⟨(0), (by first | rfl | (simp; done) | (simp [*]; done)), H', ⟨Nat.le_refl _⟩, ⟨by (with_reducible repeat (first | refine qj ?_ _ | refine qm ?_ | refine qi ?_ _)); exact BK206.out⟩, ⟨by repeat (first | (with_reducible first | exact HB.out | apply qg | apply qc | apply qh | refine ql ?_ GE206.out) | exact HB.out)⟩⟩
        case round =>
         clear H'
         (try clear c1); (try clear c2); (try clear p2); (try clear c3); (try clear c4); (try clear c5); (try clear c5b0); (try clear c6); (try clear c6b0); (try clear c8); (try clear c8b0); (try clear c12); (try clear c14); (try clear c14b0); (try clear c14b1); (try clear c19); (try clear c19b0); (try clear c19b1); (try clear c19b2); (try clear c21); (try clear c26); (try clear c27); (try clear c27b0); (try clear c27b1); (try clear c28); (try clear c28b0); (try clear c28b1); (try clear c29); (try clear c29b0); (try clear c29b1); (try clear c30); (try clear c30b0); (try clear c30b1); (try clear c32); (try clear c32b0); (try clear c35); (try clear c35b0); (try clear c38); (try clear c38b0); (try clear c38b1); (try clear c39); (try clear c39b0); (try clear c39b1); (try clear c40); (try clear c40b0); (try clear c40b1); (try clear c42); (try clear c42b0); (try clear c45); (try clear c45b0); (try clear c49); (try clear c49b0); (try clear c49b1); (try clear c50); (try clear c50b0); (try clear c50b1); (try clear c52); (try clear c52b0); (try clear c53); (try clear c53b0); (try clear c53b1); (try clear c57); (try clear c57b0); (try clear c58); (try clear c58b0); (try clear c58b1); (try clear hcz11_0 hcz11_1 hcz11_2 hcz11_3); (try clear hcz15_0 hcz15_1 hcz15_2 hcz15_3); (try clear hcz16_0 hcz16_1 hcz16_2 hcz16_3); (try clear hcz20_0 hcz20_1 hcz20_2 hcz20_3); (try clear hcz23_0 hcz23_1 hcz23_2 hcz23_3); (try clear hcz25_0 hcz25_1 hcz25_2 hcz25_3); (try clear hcz31_0 hcz31_1 hcz31_2 hcz31_3); (try clear hcz33_0 hcz33_1 hcz33_2 hcz33_3); (try clear hcz34_0 hcz34_1 hcz34_2 hcz34_3); (try clear hcz36_0 hcz36_1 hcz36_2 hcz36_3); (try clear hcz37_0 hcz37_1 hcz37_2 hcz37_3); (try clear hcz41_0 hcz41_1 hcz41_2 hcz41_3); (try clear hcz43_0 hcz43_1 hcz43_2 hcz43_3); (try clear hcz44_0 hcz44_1 hcz44_2 hcz44_3); (try clear hcz46_0 hcz46_1 hcz46_2 hcz46_3); (try clear hcz47_0 hcz47_1 hcz47_2 hcz47_3); (try clear hcz48_0 hcz48_1 hcz48_2 hcz48_3); (try clear hcz51_0 hcz51_1 hcz51_2 hcz51_3); (try clear hcz54_0 hcz54_1 hcz54_2 hcz54_3); (try clear hcz55_0 hcz55_1 hcz55_2 hcz55_3); (try clear hcz56_0 hcz56_1 hcz56_2 hcz56_3); (try clear hcz59_0 hcz59_1 hcz59_2 hcz59_3); (try clear hcz60_0 hcz60_1 hcz60_2 hcz60_3); (try clear hcz61_0 hcz61_1 hcz61_2 hcz61_3); (try clear hcz7_0 hcz7_1 hcz7_2 hcz7_3); (try clear hcz9_0 hcz9_1 hcz9_2 hcz9_3); (try clear hfz11_0 hfz11_1 hfz11_2 hfz11_3); (try clear hfz15_0 hfz15_1 hfz15_2 hfz15_3); (try clear hfz16_0 hfz16_1 hfz16_2 hfz16_3); (try clear hfz20_0 hfz20_1 hfz20_2 hfz20_3); (try clear hfz23_0 hfz23_1 hfz23_2 hfz23_3); (try clear hfz25_0 hfz25_1 hfz25_2 hfz25_3); (try clear hfz31_0 hfz31_1 hfz31_2 hfz31_3); (try clear hfz33_0 hfz33_1 hfz33_2 hfz33_3); (try clear hfz34_0 hfz34_1 hfz34_2 hfz34_3); (try clear hfz36_0 hfz36_1 hfz36_2 hfz36_3); (try clear hfz37_0 hfz37_1 hfz37_2 hfz37_3); (try clear hfz41_0 hfz41_1 hfz41_2 hfz41_3); (try clear hfz43_0 hfz43_1 hfz43_2 hfz43_3); (try clear hfz44_0 hfz44_1 hfz44_2 hfz44_3); (try clear hfz46_0 hfz46_1 hfz46_2 hfz46_3); (try clear hfz47_0 hfz47_1 hfz47_2 hfz47_3); (try clear hfz48_0 hfz48_1 hfz48_2 hfz48_3); (try clear hfz51_0 hfz51_1 hfz51_2 hfz51_3); (try clear hfz54_0 hfz54_1 hfz54_2 hfz54_3); (try clear hfz55_0 hfz55_1 hfz55_2 hfz55_3); (try clear hfz56_0 hfz56_1 hfz56_2 hfz56_3); (try clear hfz59_0 hfz59_1 hfz59_2 hfz59_3); (try clear hfz60_0 hfz60_1 hfz60_2 hfz60_3); (try clear hfz61_0 hfz61_1 hfz61_2 hfz61_3); (try clear hfz7_0 hfz7_1 hfz7_2 hfz7_3); (try clear hfz9_0 hfz9_1 hfz9_2 hfz9_3); (try clear p2)
         obtain ⟨x6_4, rfl, HA, HK4, BK206, HB⟩ := hrel
         cases gk with
         | zero => exact absurd HA.out (by simp [qo.l0])
         | succ k4 =>
          have H := HA.out
          clear HA
          simp only [qo.l0] at H
          by_cases c62 : x6_4 < (l0_3.length : Int)
          ·rw [if_pos c62] at H
           have c62b0 : decide (x6_4 < (l0_3.length : Int)) = true := decide_eq_true c62
           clear c62
           by_cases c63 : 0 ≤ x6_4
           ·rw [if_pos c63] at H
            have c63b0 : decide (0 ≤ x6_4) = true := decide_eq_true c63
            clear c63
            replace H := Option.bind_eq_some_iff.mp H
            obtain ⟨t210, A640, H⟩ := H
            replace H : (if t210 = true then (qo.l0 k4 a1 (wrap64 (x6_4 + 1)) a0_0 a0_1 a0_2 l0_3) else (some false)) = some r := H
            have A64 := qd.mk A640
            clear A640
            by_cases c65 : t210 = true
            ·subst c65
             have H1 : (qo.l0 k4 a1 (wrap64 (x6_4 + 1)) a0_0 a0_1 a0_2 l0_3) = some r := by rw [if_pos rfl] at H; exact H
             clear H
             have H := H1
             clear H1
             have H' := qd.mk H
             clear H
             have hcz66_0 : wr.cell? ⟨gb206, 0, none⟩ = some (.int .i64 a0_0) := (qb BK206.out 0).trans rfl
             have hcz66_1 : wr.cell? ⟨gb206, 1, none⟩ = some (.int .i64 a0_1) := (qb BK206.out 1).trans rfl
             have hcz66_2 : wr.cell? ⟨gb206, 2, none⟩ = some (.string a0_2) := (qb BK206.out 2).trans rfl
             have hcz66_3 : wr.cell? ⟨gb206, 3, none⟩ = some (.slice A0_3 l0_3.length c0_3) := (qb BK206.out 3).trans rfl
             have hfz66_0 := qa BK206.out 0
             have hfz66_1 := qa BK206.out 1
             have hfz66_2 := qa BK206.out 2
             have hfz66_3 := qa BK206.out 3
             have p209 : 0 ≤ (x6_4 : Int) := of_decide_eq_true (by first | (with_reducible assumption) | assumption)
             have q209 : x6_4 < (l0_3.length : Int) := of_decide_eq_true (by first | (with_reducible assumption) | assumption)
             obtain ⟨ad209, A209_3, c209_3, e209, hx209_0, hx209_1, hx209_2, hx209_3, hl209_3, hi209_3⟩ := qd7 HR0_3.out x6_4 p209 q209
             cases e209
             replace hx209_0 := (HB.out.cell (World.block_lt_of_cell? w _ hx209_0)).trans hx209_0
             replace hx209_1 := (HB.out.cell (World.block_lt_of_cell? w _ hx209_1)).trans hx209_1
             replace hx209_2 := (HB.out.cell (World.block_lt_of_cell? w _ hx209_2)).trans hx209_2
             replace hx209_3 := (HB.out.cell (World.block_lt_of_cell? w _ hx209_3)).trans hx209_3
             have HR209_3 := qd.mk hi209_3
             have HC209_3 := qd.mk hl209_3
             clear hi209_3 hl209_3
             replace p209 := eq_true p209
             replace q209 := eq_true q209
             go_wp2_with (first | (go_at_call 47; (with_reducible refine (ih k4 (by have := HJ2.out; have := HJ12.out; have := HJ16.out; have := HK4.out; omega) ((qx l0_3 x6_4).f0) ((qx l0_3 x6_4).f1) ((qx l0_3 x6_4).f2) _ _ ((qx l0_3 x6_4).f3) (wrap64 (a1 + 1)) true _ ?side1 ?side2 A64.out).mono ?_); (case side1 => repeat (first | exact (Kd.qbv HR209_3.out HB.out) | (with_reducible refine Kd.qb4 ?_ _) | (with_reducible refine Kd.qb1 ?_ _) | (with_reducible refine Kd.qb8 ?_))); (case side2 => exact HC209_3.out); rintro e w67 ⟨rfl, hb⟩; have n0_ := qd.mk (qbb (g := gb206) (o := .cells #[.int .i64 a0_0, .int .i64 a0_1, .string a0_2, .slice (some ad209) l0_3.length c0_3] 27 (0, 0)) (by (with_reducible repeat (first | refine qj ?_ _ | refine qm ?_ | refine qi ?_ _)); exact BK206.out) hb); have n1_ := qd.mk (qba (by repeat (first | (with_reducible first | exact HB.out | apply qg | apply qc | apply qh | refine ql ?_ GE206.out) | exact HB.out)) hb); clear BK206; clear HB; have BK206 := n0_; have HB := n1_; clear n0_ n1_; (try clear hb); (try clear hb2); (try clear hk); (try clear hi)))
             repeat (go_quiet (first | (go_at_call 47; (with_reducible refine (ih k4 (by have := HJ2.out; have := HJ12.out; have := HJ16.out; have := HK4.out; omega) ((qx l0_3 x6_4).f0) ((qx l0_3 x6_4).f1) ((qx l0_3 x6_4).f2) _ _ ((qx l0_3 x6_4).f3) (wrap64 (a1 + 1)) true _ ?side1 ?side2 A64.out).mono ?_); (case side1 => repeat (first | exact (Kd.qbv HR209_3.out HB.out) | (with_reducible refine Kd.qb4 ?_ _) | (with_reducible refine Kd.qb1 ?_ _) | (with_reducible refine Kd.qb8 ?_))); (case side2 => exact HC209_3.out); rintro e w67 ⟨rfl, hb⟩; have n0_ := qd.mk (qbb (g := gb206) (o := .cells #[.int .i64 a0_0, .int .i64 a0_1, .string a0_2, .slice (some ad209) l0_3.length c0_3] 27 (0, 0)) (by (with_reducible repeat (first | refine qj ?_ _ | refine qm ?_ | refine qi ?_ _)); exact BK206.out) hb); have n1_ := qd.mk (qba (by repeat (first | (with_reducible first | exact HB.out | apply qg | apply qc | apply qh | refine ql ?_ GE206.out) | exact HB.out)) hb); clear BK206; clear HB; have BK206 := n0_; have HB := n1_; clear n0_ n1_; (try clear hb); (try clear hb2); (try clear hk); (try clear hi))); try go_wp2_with (first | (go_at_call 47; (with_reducible refine (ih k4 (by have := HJ2.out; have := HJ12.out; have := HJ16.out; have := HK4.out; omega) ((qx l0_3 x6_4).f0) ((qx l0_3 x6_4).f1) ((qx l0_3 x6_4).f2) _ _ ((qx l0_3 x6_4).f3) (wrap64 (a1 + 1)) true _ ?side1 ?side2 A64.out).mono ?_); (case side1 => repeat (first | exact (Kd.qbv HR209_3.out HB.out) | (with_reducible refine Kd.qb4 ?_ _) | (with_reducible refine Kd.qb1 ?_ _) | (with_reducible refine Kd.qb8 ?_))); (case side2 => exact HC209_3.out); rintro e w67 ⟨rfl, hb⟩; have n0_ := qd.mk (qbb (g := gb206) (o := .cells #[.int .i64 a0_0, .int .i64 a0_1, .string a0_2, .slice (some ad209) l0_3.length c0_3] 27 (0, 0)) (by (with_reducible repeat (first | refine qj ?_ _ | refine qm ?_ | refine qi ?_ _)); exact BK206.out) hb); have n1_ := qd.mk (qba (by repeat (first | (with_reducible first | exact HB.out | apply qg | apply qc | apply qh | refine ql ?_ GE206.out) | exact HB.out)) hb); clear BK206; clear HB; have BK206 := n0_; have HB := n1_; clear n0_ n1_; (try clear hb); (try clear hb2); (try clear hk); (try clear hi))))
             go_roundg k4
             case measure => have := HJ2.out; have := HJ12.out; have := HJ16.out; have := HK4.out; omega
             case rel => exact ⟨(wrap64 (x6_4 + 1)), (by first | rfl | (simp; done) | (simp [*]; done)), H', ⟨by have := HJ2.out; have := HJ12.out; have := HJ16.out; have := HK4.out; omega⟩, ⟨by (with_reducible repeat (first | refine qj ?_ _ | refine qm ?_ | refine qi ?_ _)); exact BK206.out⟩, ⟨by repeat (first | (with_reducible first | exact HB.out | apply qg | apply qc | apply qh | refine ql ?_ GE206.out) | exact HB.out)⟩⟩
            ·replace c65 := Bool.eq_false_iff.mpr c65
             subst c65
             have H1 : (some false) = some r := by rw [if_neg (show ¬ (false = true) by decide)] at H; exact H
             clear H
             have H := H1
             clear H1
             obtain rfl := Option.some.inj H
             have hcz68_0 : wr.cell? ⟨gb206, 0, none⟩ = some (.int .i64 a0_0) := (qb BK206.out 0).trans rfl
             have hcz68_1 : wr.cell? ⟨gb206, 1, none⟩ = some (.int .i64 a0_1) := (qb BK206.out 1).trans rfl
             have hcz68_2 : wr.cell? ⟨gb206, 2, none⟩ = some (.string a0_2) := (qb BK206.out 2).trans rfl
             have hcz68_3 : wr.cell? ⟨gb206, 3, none⟩ = some (.slice A0_3 l0_3.length c0_3) := (qb BK206.out 3).trans rfl
             have hfz68_0 := qa BK206.out 0
             have hfz68_1 := qa BK206.out 1
             have hfz68_2 := qa BK206.out 2
             have hfz68_3 := qa BK206.out 3
             have p209 : 0 ≤ (x6_4 : Int) := of_decide_eq_true (by first | (with_reducible assumption) | assumption)
             have q209 : x6_4 < (l0_3.length : Int) := of_decide_eq_true (by first | (with_reducible assumption) | assumption)
             obtain ⟨ad209, A209_3, c209_3, e209, hx209_0, hx209_1, hx209_2, hx209_3, hl209_3, hi209_3⟩ := qd7 HR0_3.out x6_4 p209 q209
             cases e209
             replace hx209_0 := (HB.out.cell (World.block_lt_of_cell? w _ hx209_0)).trans hx209_0
             replace hx209_1 := (HB.out.cell (World.block_lt_of_cell? w _ hx209_1)).trans hx209_1
             replace hx209_2 := (HB.out.cell (World.block_lt_of_cell? w _ hx209_2)).trans hx209_2
             replace hx209_3 := (HB.out.cell (World.block_lt_of_cell? w _ hx209_3)).trans hx209_3
             have HR209_3 := qd.mk hi209_3
             have HC209_3 := qd.mk hl209_3
             clear hi209_3 hl209_3
             replace p209 := eq_true p209
             replace q209 := eq_true q209
             go_wp2_with (first | (go_at_call 47; (with_reducible refine (ih k4 (by have := HJ2.out; have := HJ12.out; have := HJ16.out; have := HK4.out; omega) ((qx l0_3 x6_4).f0) ((qx l0_3 x6_4).f1) ((qx l0_3 x6_4).f2) _ _ ((qx l0_3 x6_4).f3) (wrap64 (a1 + 1)) false _ ?side1 ?side2 A64.out).mono ?_); (case side1 => repeat (first | exact (Kd.qbv HR209_3.out HB.out) | (with_reducible refine Kd.qb4 ?_ _) | (with_reducible refine Kd.qb1 ?_ _) | (with_reducible refine Kd.qb8 ?_))); (case side2 => exact HC209_3.out); rintro e w69 ⟨rfl, hb⟩; have n0_ := qd.mk (qbb (g := gb206) (o := .cells #[.int .i64 a0_0, .int .i64 a0_1, .string a0_2, .slice (some ad209) l0_3.length c0_3] 27 (0, 0)) (by (with_reducible repeat (first | refine qj ?_ _ | refine qm ?_ | refine qi ?_ _)); exact BK206.out) hb); have n1_ := qd.mk (qba (by repeat (first | (with_reducible first | exact HB.out | apply qg | apply qc | apply qh | refine ql ?_ GE206.out) | exact HB.out)) hb); clear BK206; clear HB; have BK206 := n0_; have HB := n1_; clear n0_ n1_; (try clear hb); (try clear hb2); (try clear hk); (try clear hi)))
             repeat (go_quiet (first | (go_at_call 47; (with_reducible refine (ih k4 (by have := HJ2.out; have := HJ12.out; have := HJ16.out; have := HK4.out; omega) ((qx l0_3 x6_4).f0) ((qx l0_3 x6_4).f1) ((qx l0_3 x6_4).f2) _ _ ((qx l0_3 x6_4).f3) (wrap64 (a1 + 1)) false _ ?side1 ?side2 A64.out).mono ?_); (case side1 => repeat (first | exact (Kd.qbv HR209_3.out HB.out) | (with_reducible refine Kd.qb4 ?_ _) | (with_reducible refine Kd.qb1 ?_ _) | (with_reducible refine Kd.qb8 ?_))); (case side2 => exact HC209_3.out); rintro e w69 ⟨rfl, hb⟩; have n0_ := qd.mk (qbb (g := gb206) (o := .cells #[.int .i64 a0_0, .int .i64 a0_1, .string a0_2, .slice (some ad209) l0_3.length c0_3] 27 (0, 0)) (by (with_reducible repeat (first | refine qj ?_ _ | refine qm ?_ | refine qi ?_ _)); exact BK206.out) hb); have n1_ := qd.mk (qba (by repeat (first | (with_reducible first | exact HB.out | apply qg | apply qc | apply qh | refine ql ?_ GE206.out) | exact HB.out)) hb); clear BK206; clear HB; have BK206 := n0_; have HB := n1_; clear n0_ n1_; (try clear hb); (try clear hb2); (try clear hk); (try clear hi))); try go_wp2_with (first | (go_at_call 47; (with_reducible refine (ih k4 (by have := HJ2.out; have := HJ12.out; have := HJ16.out; have := HK4.out; omega) ((qx l0_3 x6_4).f0) ((qx l0_3 x6_4).f1) ((qx l0_3 x6_4).f2) _ _ ((qx l0_3 x6_4).f3) (wrap64 (a1 + 1)) false _ ?side1 ?side2 A64.out).mono ?_); (case side1 => repeat (first | exact (Kd.qbv HR209_3.out HB.out) | (with_reducible refine Kd.qb4 ?_ _) | (with_reducible refine Kd.qb1 ?_ _) | (with_reducible refine Kd.qb8 ?_))); (case side2 => exact HC209_3.out); rintro e w69 ⟨rfl, hb⟩; have n0_ := qd.mk (qbb (g := gb206) (o := .cells #[.int .i64 a0_0, .int .i64 a0_1, .string a0_2, .slice (some ad209) l0_3.length c0_3] 27 (0, 0)) (by (with_reducible repeat (first | refine qj ?_ _ | refine qm ?_ | refine qi ?_ _)); exact BK206.out) hb); have n1_ := qd.mk (qba (by repeat (first | (with_reducible first | exact HB.out | apply qg | apply qc | apply qh | refine ql ?_ GE206.out) | exact HB.out)) hb); clear BK206; clear HB; have BK206 := n0_; have HB := n1_; clear n0_ n1_; (try clear hb); (try clear hb2); (try clear hk); (try clear hi))))
             go_ret
             exact ⟨by first | rfl | (simp [q9, qz] <;> rfl) | (simp [*, q9, qz] <;> rfl), by repeat (first | (with_reducible first | exact HB.out | apply qg | apply qc | apply qh | refine ql ?_ GE206.out) | exact HB.out)⟩
           ·rw [if_neg c63] at H
            exact absurd H (by simp)
          ·rw [if_neg c62] at H
           have c62b0 : decide (x6_4 < (l0_3.length : Int)) = false := decide_eq_false c62
           clear c62
           obtain rfl := Option.some.inj H
           have hcz70_0 : wr.cell? ⟨gb206, 0, none⟩ = some (.int .i64 a0_0) := (qb BK206.out 0).trans rfl
           have hcz70_1 : wr.cell? ⟨gb206, 1, none⟩ = some (.int .i64 a0_1) := (qb BK206.out 1).trans rfl
           have hcz70_2 : wr.cell? ⟨gb206, 2, none⟩ = some (.string a0_2) := (qb BK206.out 2).trans rfl
           have hcz70_3 : wr.cell? ⟨gb206, 3, none⟩ = some (.slice A0_3 l0_3.length c0_3) := (qb BK206.out 3).trans rfl
           have hfz70_0 := qa BK206.out 0
           have hfz70_1 := qa BK206.out 1
           have hfz70_2 := qa BK206.out 2
           have hfz70_3 := qa BK206.out 3
           go_wp2
           repeat (go_quiet (fail); try go_wp2)
           go_ret
           exact ⟨by first | rfl | (simp [q9, qz] <;> rfl) | (simp [*, q9, qz] <;> rfl), by repeat (first | (with_reducible first | exact HB.out | apply qg | apply qc | apply qh | refine ql ?_ GE206.out) | exact HB.out)⟩
end Go.Proofs.YtpgkhmdfddejfaaDoor.PV
end
