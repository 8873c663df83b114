import Derived.Test.YtpgkhmdfddejfaaDoorZLPVx0
import Derived.Test.YtpgkhmdfddejfaaDoorZLPVx3
import Derived.Test.YtpgkhmdfddejfaaDoorZLPVx6
section
namespace Go.Proofs.YtpgkhmdfddejfaaDoor.PV
open Go.RowKit Go.Proofs.YtpgkhmdfddejfaaDoorW.PrintWords Go.Proofs.YtpgkhmdfddejfaaDoorW.PrintLast Go.Proofs.YtpgkhmdfddejfaaDoorW.PrintMore
attribute [local go_sem] qcz qcx qdc qdb qcr qcq qcv qcy   -- for this text's walks alone
set_option linter.unusedVariables false
set_option linter.unusedSimpArgs false
mutual
def qbo.j0 : Nat → Bool → Int → Int → Int → ByteArray → Int → Int → ByteArray → List (S27) → List (S30) → List (S27) → Option (Bool)
 | 0, _, _, _, _, _, _, _, _, _, _, _ => none
 | k + 1, x36, x171000, x171001, x171002, x171003, x171004, x171005, x171006, x171007, x171008, x171009 => if x36 = true then (some false) else (qbo.l0 k x171008 (x171008.length : Int) 0)
def qbo.l0 : Nat → List (S30) → Int → Int → Option (Bool)
 | 0, _, _, _ => none
 | k + 1, x38, x39, x40 => if x40 < x39 then (if 0 ≤ x40 then (if x40 < (x38.length : Int) then ((qbo.f k ((qp x38 x40).f0) ((qp x38 x40).f1) ((qp x38 x40).f2) ((qp x38 x40).f3) ((qp x38 x40).f4.f0) ((qp x38 x40).f4.f1) ((qp x38 x40).f4.f2) ((qp x38 x40).f4.f3) ((qp x38 x40).f5) ((qp x38 x40).f6)).bind fun t176 => (if t176 = true then (qbo.l0 k x38 x39 (wrap64 (x40 + 1))) else (some false))) else (none)) else (none)) else (some true)
def qbo.f : Nat → Int → Int → Int → ByteArray → Int → Int → ByteArray → List (S27) → List (S30) → List (S27) → Option (Bool)
 | 0, _, _, _, _, _, _, _, _, _, _ => none
 | k + 1, a0_0, a0_1, a0_2, a0_3, a0_4, a0_5, a0_6, l0_7, l0_8, l0_9 => if a0_0 < 0 then (qbo.j0 k true a0_0 a0_1 a0_2 a0_3 a0_4 a0_5 a0_6 l0_7 l0_8 l0_9) else (if a0_0 > 15 then (qbo.j0 k true a0_0 a0_1 a0_2 a0_3 a0_4 a0_5 a0_6 l0_7 l0_8 l0_9) else (if a0_0 = 10 then (qbo.j0 k true a0_0 a0_1 a0_2 a0_3 a0_4 a0_5 a0_6 l0_7 l0_8 l0_9) else ((qbw.f k a0_0 (l0_8.length : Int)).bind fun t171 => (if t171 = true then ((qce.f a0_0 a0_1 a0_2 a0_3 a0_4 a0_5 a0_6 l0_7 l0_8 l0_9).bind fun t172 => (if t172 = true then ((qbh.f k a0_0 a0_1 a0_2 a0_3 a0_4 a0_5 a0_6 l0_7 l0_8 l0_9).bind fun t173 => (qbo.j0 k (!t173) a0_0 a0_1 a0_2 a0_3 a0_4 a0_5 a0_6 l0_7 l0_8 l0_9)) else (qbo.j0 k true a0_0 a0_1 a0_2 a0_3 a0_4 a0_5 a0_6 l0_7 l0_8 l0_9))) else (qbo.j0 k true a0_0 a0_1 a0_2 a0_3 a0_4 a0_5 a0_6 l0_7 l0_8 l0_9)))))
end
theorem qbo.qch : ∀ k, (∀ y0 y1 y2 y3 y4 y5 y6 y7 y8 y9, LeO (qbo.f k y0 y1 y2 y3 y4 y5 y6 y7 y8 y9) (qbo.f (k + 1) y0 y1 y2 y3 y4 y5 y6 y7 y8 y9)) ∧ (∀ y0 y1 y2 y3 y4 y5 y6 y7 y8 y9 y10, LeO (qbo.j0 k y0 y1 y2 y3 y4 y5 y6 y7 y8 y9 y10) (qbo.j0 (k + 1) y0 y1 y2 y3 y4 y5 y6 y7 y8 y9 y10)) ∧ (∀ y0 y1 y2, LeO (qbo.l0 k y0 y1 y2) (qbo.l0 (k + 1) y0 y1 y2))
 | 0 => ⟨fun _ _ _ _ _ _ _ _ _ _ r h => by simp [qbo.f] at h, fun _ _ _ _ _ _ _ _ _ _ _ r h => by simp [qbo.j0] at h, fun _ _ _ r h => by simp [qbo.l0] at h⟩
 | k + 1 => by
  obtain ⟨ih0, ih1, ih2⟩ := qbo.qch k
  refine ⟨?_, ?_, ?_⟩
  ·intro y0 y1 y2 y3 y4 y5 y6 y7 y8 y9
   unfold qbo.f
   repeat' first
   | (with_reducible exact ih0 _ _ _ _ _ _ _ _ _ _)
   | (with_reducible exact ih1 _ _ _ _ _ _ _ _ _ _ _)
   | (with_reducible exact ih2 _ _ _)
   | (with_reducible exact qbw.mono _ _ _)
   | (with_reducible exact qbh.mono _ _ _ _ _ _ _ _ _ _ _)
   | (with_reducible exact LeO.refl _)
   | (with_reducible exact LeO.none _)
   | (with_reducible refine LeO.ite ?_ ?_)
   | (with_reducible refine LeO.bind ?_ (fun _ => ?_))
   | exact ih0 _ _ _ _ _ _ _ _ _ _
   | exact ih1 _ _ _ _ _ _ _ _ _ _ _
   | exact ih2 _ _ _
   | exact qbw.mono _ _ _
   | exact qbh.mono _ _ _ _ _ _ _ _ _ _ _
   | exact LeO.none _
   | refine LeO.ite ?_ ?_
   | refine LeO.bind ?_ (fun _ => ?_)
  ·intro y0 y1 y2 y3 y4 y5 y6 y7 y8 y9 y10
   unfold qbo.j0
   repeat' first
   | (with_reducible exact ih0 _ _ _ _ _ _ _ _ _ _)
   | (with_reducible exact ih1 _ _ _ _ _ _ _ _ _ _ _)
   | (with_reducible exact ih2 _ _ _)
   | (with_reducible exact qbw.mono _ _ _)
   | (with_reducible exact qbh.mono _ _ _ _ _ _ _ _ _ _ _)
   | (with_reducible exact LeO.refl _)
   | (with_reducible exact LeO.none _)
   | (with_reducible refine LeO.ite ?_ ?_)
   | (with_reducible refine LeO.bind ?_ (fun _ => ?_))
   | exact ih0 _ _ _ _ _ _ _ _ _ _
   | exact ih1 _ _ _ _ _ _ _ _ _ _ _
   | exact ih2 _ _ _
   | exact qbw.mono _ _ _
   | exact qbh.mono _ _ _ _ _ _ _ _ _ _ _
   | exact LeO.none _
   | refine LeO.ite ?_ ?_
   | refine LeO.bind ?_ (fun _ => ?_)
  ·intro y0 y1 y2
   unfold qbo.l0
   repeat' first
   | (with_reducible exact ih0 _ _ _ _ _ _ _ _ _ _)
   | (with_reducible exact ih1 _ _ _ _ _ _ _ _ _ _ _)
   | (with_reducible exact ih2 _ _ _)
   | (with_reducible exact qbw.mono _ _ _)
   | (with_reducible exact qbh.mono _ _ _ _ _ _ _ _ _ _ _)
   | (with_reducible exact LeO.refl _)
   | (with_reducible exact LeO.none _)
   | (with_reducible refine LeO.ite ?_ ?_)
   | (with_reducible refine LeO.bind ?_ (fun _ => ?_))
   | exact ih0 _ _ _ _ _ _ _ _ _ _
   | exact ih1 _ _ _ _ _ _ _ _ _ _ _
   | exact ih2 _ _ _
   | exact qbw.mono _ _ _
   | exact qbh.mono _ _ _ _ _ _ _ _ _ _ _
   | exact LeO.none _
   | refine LeO.ite ?_ ?_
   | refine LeO.bind ?_ (fun _ => ?_)
theorem qbo.mono : ∀ a0 a1 a2 a3 a4 a5 a6 a7 a8 a9 k, LeO (qbo.f k a0 a1 a2 a3 a4 a5 a6 a7 a8 a9) (qbo.f (k + 1) a0 a1 a2 a3 a4 a5 a6 a7 a8 a9) := by
 intro a0 a1 a2 a3 a4 a5 a6 a7 a8 a9 k
 obtain ⟨ih0, ih1, ih2⟩ := qbo.qch k
 exact ih0 a0 a1 a2 a3 a4 a5 a6 a7 a8 a9
set_option maxHeartbeats 8000000 in
set_option maxRecDepth 100000 in
theorem qbo.calls (k : Nat) : ∀ (a0_0 : Int) (a0_1 : Int) (a0_2 : Int) (a0_3 : ByteArray) (a0_4 : Int) (a0_5 : Int) (a0_6 : ByteArray) (A0_7 : Option Addr) (c0_7 : Nat) (l0_7 : List (S27)) (A0_8 : Option Addr) (c0_8 : Nat) (l0_8 : List (S30)) (A0_9 : Option Addr) (c0_9 : Nat) (l0_9 : List (S27)) (r : Bool) (w : World) (hr0_7 : Kd.C k27 w A0_7 l0_7.length l0_7) (hc0_7 : l0_7.length ≤ c0_7) (hr0_8 : Kd.C k30 w A0_8 l0_8.length l0_8) (hc0_8 : l0_8.length ≤ c0_8) (hr0_9 : Kd.C k27 w A0_9 l0_9.length l0_9) (hc0_9 : l0_9.length ≤ c0_9) (hG : Lay w) (h : qbo.f k a0_0 a0_1 a0_2 a0_3 a0_4 a0_5 a0_6 l0_7 l0_8 l0_9 = some r),
  Calls Tryd.prog 43 #[.agg #[.int .i64 a0_0, .int .i64 a0_1, .int .i64 a0_2, .string a0_3, .int .i64 a0_4, .int .i64 a0_5, .string a0_6, .slice A0_7 l0_7.length c0_7, .slice A0_8 l0_8.length c0_8, .slice A0_9 l0_9.length c0_9]] w fun e w' => e = .returned (.bool r) ∧ Below w.heap.size w w' := by
 induction k using Nat.strongRecOn with
 | _ k ih =>
 intro a0_0 a0_1 a0_2 a0_3 a0_4 a0_5 a0_6 A0_7 c0_7 l0_7 A0_8 c0_8 l0_8 A0_9 c0_9 l0_9 r w hr0_7 hc0_7 hr0_8 hc0_8 hr0_9 hc0_9 hG h
 cases k with
 | zero => exact absurd h (by simp [qbo.f])
 | succ k =>
 simp only [qbo.f] at h
 have hu30 := Tryd.underlying30
 have HR0_7 := qd.mk hr0_7
 have HC0_7 := qd.mk hc0_7
 clear hr0_7 hc0_7
 have HR0_8 := qd.mk hr0_8
 have HC0_8 := qd.mk hc0_8
 clear hr0_8 hc0_8
 have HR0_9 := qd.mk hr0_9
 have HC0_9 := qd.mk hc0_9
 clear hr0_9 hc0_9
 have HB := qd.mk (Below.refl w.heap.size w)
 have HLAY := qd.mk hG
 clear hG
 have H : (if a0_0 < 0 then (qbo.j0 k true a0_0 a0_1 a0_2 a0_3 a0_4 a0_5 a0_6 l0_7 l0_8 l0_9) else (if a0_0 > 15 then (qbo.j0 k true a0_0 a0_1 a0_2 a0_3 a0_4 a0_5 a0_6 l0_7 l0_8 l0_9) else (if a0_0 = 10 then (qbo.j0 k true a0_0 a0_1 a0_2 a0_3 a0_4 a0_5 a0_6 l0_7 l0_8 l0_9) else ((qbw.f k a0_0 (l0_8.length : Int)).bind fun t171 => (if t171 = true then ((qce.f a0_0 a0_1 a0_2 a0_3 a0_4 a0_5 a0_6 l0_7 l0_8 l0_9).bind fun t172 => (if t172 = true then ((qbh.f k a0_0 a0_1 a0_2 a0_3 a0_4 a0_5 a0_6 l0_7 l0_8 l0_9).bind fun t173 => (qbo.j0 k (!t173) a0_0 a0_1 a0_2 a0_3 a0_4 a0_5 a0_6 l0_7 l0_8 l0_9)) else (qbo.j0 k true a0_0 a0_1 a0_2 a0_3 a0_4 a0_5 a0_6 l0_7 l0_8 l0_9))) else (qbo.j0 k true a0_0 a0_1 a0_2 a0_3 a0_4 a0_5 a0_6 l0_7 l0_8 l0_9)))))) = some r := h
 clear h
 have HC2 := qd.mk H
 clear H
 go_enter Tryd.func43, Tryd.ntmps43
 go_upto_region 1 with (first | ((with_reducible refine qby (N := 1) rfl ?_); (try (refine qcb (by rfl) ?_; dsimp only)); refine qbx ?hg (N := 1) ?hd (cs := #[.int .i64 a0_0, .int .i64 a0_1, .int .i64 a0_2, .string a0_3, .int .i64 a0_4, .int .i64 a0_5, .string a0_6, .slice A0_7 l0_7.length c0_7, .slice A0_8 l0_8.length c0_8, .slice A0_9 l0_9.length c0_9]) (t := 30) ?hr ?_; (case hd => rfl); (case hg => rfl); (case hr => first | (go_simp; done) | (go_simp; rfl)); intro gb170 hg w3 hbox hb; have n0_ := qd.mk (qba (by repeat (first | (with_reducible first | exact HB.out | apply qg | apply qc | apply qh) | exact HB.out)) hb); have n1_ := qd.mk (hbox); have n2_ := qd.mk ((by rw [hg]; exact (qbc (by repeat (first | (with_reducible first | exact HB.out | apply qg | apply qc | apply qh) | exact HB.out))) : w.heap.size ≤ gb170)); have n3_ := qd.mk ((by rw [hg]; exact (qbc (by repeat (first | (with_reducible first | exact HB.out | apply qg | apply qc | apply qh) | exact HB.out))) : w.heap.size ≤ gb170)); clear HB; have HB := n0_; have BK170 := n1_; have GW170 := n2_; have GE170 := n3_; clear n0_ n1_ n2_ n3_; clear hb hbox hg))
 (try simp only [Act.put, List.setIfInBounds_toArray, List.set_cons_zero, List.set_cons_succ])
 go_cut [36] (fun v36 wc => ∃ (kq : Nat) (x36_1 : Bool), v36 = .bool x36_1 ∧ qd (qbo.j0 kq x36_1 a0_0 a0_1 a0_2 a0_3 a0_4 a0_5 a0_6 l0_7 l0_8 l0_9 = some r) ∧ qd (kq ≤ k) ∧ qd (wc.heap[gb170]? = some (.cells #[.int .i64 a0_0, .int .i64 a0_1, .int .i64 a0_2, .string a0_3, .int .i64 a0_4, .int .i64 a0_5, .string a0_6, (.slice A0_7 l0_7.length c0_7), (.slice A0_8 l0_8.length c0_8), (.slice A0_9 l0_9.length c0_9)] 30 (0, 0))) ∧ qd (Below w.heap.size w wc))
 case first =>
  have H := HC2.out
  clear HC2
  by_cases c4 : a0_0 < 0
  ·rw [if_pos c4] at H
   have c4b0 : decide (a0_0 < 0) = true := decide_eq_true c4
   clear c4
   (first | rw [c4b0] | (simp only [i64_w, i32_w]; rw [c4b0]) | skip)
   have H' := qd.mk H
   clear H
   have hcz5_0 : w3.cell? ⟨gb170, 0, none⟩ = some (.int .i64 a0_0) := (qb BK170.out 0).trans rfl
   have hcz5_1 : w3.cell? ⟨gb170, 1, none⟩ = some (.int .i64 a0_1) := (qb BK170.out 1).trans rfl
   have hcz5_2 : w3.cell? ⟨gb170, 2, none⟩ = some (.int .i64 a0_2) := (qb BK170.out 2).trans rfl
   have hcz5_3 : w3.cell? ⟨gb170, 3, none⟩ = some (.string a0_3) := (qb BK170.out 3).trans rfl
   have hcz5_4 : w3.cell? ⟨gb170, 4, none⟩ = some (.int .i64 a0_4) := (qb BK170.out 4).trans rfl
   have hcz5_5 : w3.cell? ⟨gb170, 5, none⟩ = some (.int .i64 a0_5) := (qb BK170.out 5).trans rfl
   have hcz5_6 : w3.cell? ⟨gb170, 6, none⟩ = some (.string a0_6) := (qb BK170.out 6).trans rfl
   have hcz5_7 : w3.cell? ⟨gb170, 7, none⟩ = some (.slice A0_7 l0_7.length c0_7) := (qb BK170.out 7).trans rfl
   have hcz5_8 : w3.cell? ⟨gb170, 8, none⟩ = some (.slice A0_8 l0_8.length c0_8) := (qb BK170.out 8).trans rfl
   have hcz5_9 : w3.cell? ⟨gb170, 9, none⟩ = some (.slice A0_9 l0_9.length c0_9) := (qb BK170.out 9).trans rfl
   have hfz5_0 := qa BK170.out 0
   have hfz5_1 := qa BK170.out 1
   have hfz5_2 := qa BK170.out 2
   have hfz5_3 := qa BK170.out 3
   have hfz5_4 := qa BK170.out 4
   have hfz5_5 := qa BK170.out 5
   have hfz5_6 := qa BK170.out 6
   have hfz5_7 := qa BK170.out 7
   have hfz5_8 := qa BK170.out 8
   have hfz5_9 := qa BK170.out 9
   go_wp2
   go_meet
   case rel => exact ⟨_, (true), (by first | rfl | (simp; done) | (simp [*]; done)), H', ⟨by first | omega | exact Nat.le_refl _⟩, ⟨by (with_reducible repeat (first | refine qj ?_ _ | refine qm ?_ | refine qi ?_ _)); exact BK170.out⟩, ⟨by repeat (first | (with_reducible first | exact HB.out | apply qg | apply qc | apply qh | refine ql ?_ GE170.out) | exact HB.out)⟩⟩
  ·rw [if_neg c4] at H
   have c4b0 : decide (a0_0 < 0) = false := decide_eq_false c4
   clear c4
   (first | rw [c4b0] | (simp only [i64_w, i32_w]; rw [c4b0]) | skip)
   by_cases c6 : a0_0 > 15
   ·rw [if_pos c6] at H
    have c6b0 : decide (15 < a0_0) = true := decide_eq_true c6
    clear c6
    have H' := qd.mk H
    clear H
    have hcz7_0 : w3.cell? ⟨gb170, 0, none⟩ = some (.int .i64 a0_0) := (qb BK170.out 0).trans rfl
    have hcz7_1 : w3.cell? ⟨gb170, 1, none⟩ = some (.int .i64 a0_1) := (qb BK170.out 1).trans rfl
    have hcz7_2 : w3.cell? ⟨gb170, 2, none⟩ = some (.int .i64 a0_2) := (qb BK170.out 2).trans rfl
    have hcz7_3 : w3.cell? ⟨gb170, 3, none⟩ = some (.string a0_3) := (qb BK170.out 3).trans rfl
    have hcz7_4 : w3.cell? ⟨gb170, 4, none⟩ = some (.int .i64 a0_4) := (qb BK170.out 4).trans rfl
    have hcz7_5 : w3.cell? ⟨gb170, 5, none⟩ = some (.int .i64 a0_5) := (qb BK170.out 5).trans rfl
    have hcz7_6 : w3.cell? ⟨gb170, 6, none⟩ = some (.string a0_6) := (qb BK170.out 6).trans rfl
    have hcz7_7 : w3.cell? ⟨gb170, 7, none⟩ = some (.slice A0_7 l0_7.length c0_7) := (qb BK170.out 7).trans rfl
    have hcz7_8 : w3.cell? ⟨gb170, 8, none⟩ = some (.slice A0_8 l0_8.length c0_8) := (qb BK170.out 8).trans rfl
    have hcz7_9 : w3.cell? ⟨gb170, 9, none⟩ = some (.slice A0_9 l0_9.length c0_9) := (qb BK170.out 9).trans rfl
    have hfz7_0 := qa BK170.out 0
    have hfz7_1 := qa BK170.out 1
    have hfz7_2 := qa BK170.out 2
    have hfz7_3 := qa BK170.out 3
    have hfz7_4 := qa BK170.out 4
    have hfz7_5 := qa BK170.out 5
    have hfz7_6 := qa BK170.out 6
    have hfz7_7 := qa BK170.out 7
    have hfz7_8 := qa BK170.out 8
    have hfz7_9 := qa BK170.out 9
    go_wp2
    go_meet
    case rel => exact ⟨_, (true), (by first | rfl | (simp; done) | (simp [*]; done)), H', ⟨by first | omega | exact Nat.le_refl _⟩, ⟨by (with_reducible repeat (first | refine qj ?_ _ | refine qm ?_ | refine qi ?_ _)); exact BK170.out⟩, ⟨by repeat (first | (with_reducible first | exact HB.out | apply qg | apply qc | apply qh | refine ql ?_ GE170.out) | exact HB.out)⟩⟩
   ·rw [if_neg c6] at H
    have c6b0 : decide (15 < a0_0) = false := decide_eq_false c6
    clear c6
    by_cases c8 : a0_0 = 10
    ·rw [if_pos c8] at H
     have c8b0 : (a0_0 == 10) = true := beq_iff_eq.mpr c8
     have c8b1 : (a0_0 != 10) = false := bne_eq_false_iff_eq.mpr c8
     clear c8
     have H' := qd.mk H
     clear H
     have hcz9_0 : w3.cell? ⟨gb170, 0, none⟩ = some (.int .i64 a0_0) := (qb BK170.out 0).trans rfl
     have hcz9_1 : w3.cell? ⟨gb170, 1, none⟩ = some (.int .i64 a0_1) := (qb BK170.out 1).trans rfl
     have hcz9_2 : w3.cell? ⟨gb170, 2, none⟩ = some (.int .i64 a0_2) := (qb BK170.out 2).trans rfl
     have hcz9_3 : w3.cell? ⟨gb170, 3, none⟩ = some (.string a0_3) := (qb BK170.out 3).trans rfl
     have hcz9_4 : w3.cell? ⟨gb170, 4, none⟩ = some (.int .i64 a0_4) := (qb BK170.out 4).trans rfl
     have hcz9_5 : w3.cell? ⟨gb170, 5, none⟩ = some (.int .i64 a0_5) := (qb BK170.out 5).trans rfl
     have hcz9_6 : w3.cell? ⟨gb170, 6, none⟩ = some (.string a0_6) := (qb BK170.out 6).trans rfl
     have hcz9_7 : w3.cell? ⟨gb170, 7, none⟩ = some (.slice A0_7 l0_7.length c0_7) := (qb BK170.out 7).trans rfl
     have hcz9_8 : w3.cell? ⟨gb170, 8, none⟩ = some (.slice A0_8 l0_8.length c0_8) := (qb BK170.out 8).trans rfl
     have hcz9_9 : w3.cell? ⟨gb170, 9, none⟩ = some (.slice A0_9 l0_9.length c0_9) := (qb BK170.out 9).trans rfl
     have hfz9_0 := qa BK170.out 0
     have hfz9_1 := qa BK170.out 1
     have hfz9_2 := qa BK170.out 2
     have hfz9_3 := qa BK170.out 3
     have hfz9_4 := qa BK170.out 4
     have hfz9_5 := qa BK170.out 5
     have hfz9_6 := qa BK170.out 6
     have hfz9_7 := qa BK170.out 7
     have hfz9_8 := qa BK170.out 8
     have hfz9_9 := qa BK170.out 9
     go_wp2
     go_meet
     case rel => exact ⟨_, (true), (by first | rfl | (simp; done) | (simp [*]; done)), H', ⟨by first | omega | exact Nat.le_refl _⟩, ⟨by (with_reducible repeat (first | refine qj ?_ _ | refine qm ?_ | refine qi ?_ _)); exact BK170.out⟩, ⟨by repeat (first | (with_reducible first | exact HB.out | apply qg | apply qc | apply qh | refine ql ?_ GE170.out) | exact HB.out)⟩⟩
    ·rw [if_neg c8] at H
     have c8b0 : (a0_0 == 10) = false := beq_eq_false_iff_ne.mpr c8
     have c8b1 : (a0_0 != 10) = true := bne_iff_ne.mpr c8
     replace H := Option.bind_eq_some_iff.mp H
     obtain ⟨t171, A100, H⟩ := H
     replace H : (if t171 = true then ((qce.f a0_0 a0_1 a0_2 a0_3 a0_4 a0_5 a0_6 l0_7 l0_8 l0_9).bind fun t172 => (if t172 = true then ((qbh.f k a0_0 a0_1 a0_2 a0_3 a0_4 a0_5 a0_6 l0_7 l0_8 l0_9).bind fun t173 => (qbo.j0 k (!t173) a0_0 a0_1 a0_2 a0_3 a0_4 a0_5 a0_6 l0_7 l0_8 l0_9)) else (qbo.j0 k true a0_0 a0_1 a0_2 a0_3 a0_4 a0_5 a0_6 l0_7 l0_8 l0_9))) else (qbo.j0 k true a0_0 a0_1 a0_2 a0_3 a0_4 a0_5 a0_6 l0_7 l0_8 l0_9)) = some r := H
     have A10 := qd.mk A100
     clear A100
     by_cases c11 : t171 = true
     ·subst c11
      have H1 : ((qce.f a0_0 a0_1 a0_2 a0_3 a0_4 a0_5 a0_6 l0_7 l0_8 l0_9).bind fun t172 => (if t172 = true then ((qbh.f k a0_0 a0_1 a0_2 a0_3 a0_4 a0_5 a0_6 l0_7 l0_8 l0_9).bind fun t173 => (qbo.j0 k (!t173) a0_0 a0_1 a0_2 a0_3 a0_4 a0_5 a0_6 l0_7 l0_8 l0_9)) else (qbo.j0 k true a0_0 a0_1 a0_2 a0_3 a0_4 a0_5 a0_6 l0_7 l0_8 l0_9))) = some r := by rw [if_pos rfl] at H; exact H
      clear H
      have H := H1
      clear H1
      replace H := Option.bind_eq_some_iff.mp H
      obtain ⟨t172, A120, H⟩ := H
      replace H : (if t172 = true then ((qbh.f k a0_0 a0_1 a0_2 a0_3 a0_4 a0_5 a0_6 l0_7 l0_8 l0_9).bind fun t173 => (qbo.j0 k (!t173) a0_0 a0_1 a0_2 a0_3 a0_4 a0_5 a0_6 l0_7 l0_8 l0_9)) else (qbo.j0 k true a0_0 a0_1 a0_2 a0_3 a0_4 a0_5 a0_6 l0_7 l0_8 l0_9)) = some r := H
      have A12 := qd.mk A120
      clear A120
      by_cases c13 : t172 = true
      ·subst c13
       have H1 : ((qbh.f k a0_0 a0_1 a0_2 a0_3 a0_4 a0_5 a0_6 l0_7 l0_8 l0_9).bind fun t173 => (qbo.j0 k (!t173) a0_0 a0_1 a0_2 a0_3 a0_4 a0_5 a0_6 l0_7 l0_8 l0_9)) = some r := by rw [if_pos rfl] at H; exact H
       clear H
       have H := H1
       clear H1
       replace H := Option.bind_eq_some_iff.mp H
       obtain ⟨t173, A140, H⟩ := H
       replace H : (qbo.j0 k (!t173) a0_0 a0_1 a0_2 a0_3 a0_4 a0_5 a0_6 l0_7 l0_8 l0_9) = some r := H
       have A14 := qd.mk A140
       clear A140
       have H' := qd.mk H
       clear H
       have hcz15_0 : w3.cell? ⟨gb170, 0, none⟩ = some (.int .i64 a0_0) := (qb BK170.out 0).trans rfl
       have hcz15_1 : w3.cell? ⟨gb170, 1, none⟩ = some (.int .i64 a0_1) := (qb BK170.out 1).trans rfl
       have hcz15_2 : w3.cell? ⟨gb170, 2, none⟩ = some (.int .i64 a0_2) := (qb BK170.out 2).trans rfl
       have hcz15_3 : w3.cell? ⟨gb170, 3, none⟩ = some (.string a0_3) := (qb BK170.out 3).trans rfl
       have hcz15_4 : w3.cell? ⟨gb170, 4, none⟩ = some (.int .i64 a0_4) := (qb BK170.out 4).trans rfl
       have hcz15_5 : w3.cell? ⟨gb170, 5, none⟩ = some (.int .i64 a0_5) := (qb BK170.out 5).trans rfl
       have hcz15_6 : w3.cell? ⟨gb170, 6, none⟩ = some (.string a0_6) := (qb BK170.out 6).trans rfl
       have hcz15_7 : w3.cell? ⟨gb170, 7, none⟩ = some (.slice A0_7 l0_7.length c0_7) := (qb BK170.out 7).trans rfl
       have hcz15_8 : w3.cell? ⟨gb170, 8, none⟩ = some (.slice A0_8 l0_8.length c0_8) := (qb BK170.out 8).trans rfl
       have hcz15_9 : w3.cell? ⟨gb170, 9, none⟩ = some (.slice A0_9 l0_9.length c0_9) := (qb BK170.out 9).trans rfl
       have hfz15_0 := qa BK170.out 0
       have hfz15_1 := qa BK170.out 1
       have hfz15_2 := qa BK170.out 2
       have hfz15_3 := qa BK170.out 3
       have hfz15_4 := qa BK170.out 4
       have hfz15_5 := qa BK170.out 5
       have hfz15_6 := qa BK170.out 6
       have hfz15_7 := qa BK170.out 7
       have hfz15_8 := qa BK170.out 8
       have hfz15_9 := qa BK170.out 9
       go_wp2_with (first | (go_at_call 67; (with_reducible refine (qbw.calls k a0_0 (l0_8.length : Int) true _ A10.out).mono ?_); rintro e w' ⟨rfl, ⟨nd, rfl⟩⟩) | (go_at_call 68; (with_reducible refine (qce.calls a0_0 a0_1 a0_2 a0_3 a0_4 a0_5 a0_6 _ _ l0_7 _ _ l0_8 _ _ l0_9 true _ ?side1 ?side2 ?side3 ?side4 ?side5 ?side6 A12.out).mono ?_); (case side1 => repeat (first | exact (Kd.qbv HR0_7.out (by repeat (first | (with_reducible first | exact HB.out | apply qg | apply qc | apply qh | refine ql ?_ GE170.out) | exact HB.out))) | (with_reducible refine Kd.qb4 ?_ _) | (with_reducible refine Kd.qb1 ?_ _) | (with_reducible refine Kd.qb8 ?_))); (case side2 => exact HC0_7.out); (case side3 => repeat (first | exact (Kd.qbv HR0_8.out (by repeat (first | (with_reducible first | exact HB.out | apply qg | apply qc | apply qh | refine ql ?_ GE170.out) | exact HB.out))) | (with_reducible refine Kd.qb4 ?_ _) | (with_reducible refine Kd.qb1 ?_ _) | (with_reducible refine Kd.qb8 ?_))); (case side4 => exact HC0_8.out); (case side5 => repeat (first | exact (Kd.qbv HR0_9.out (by repeat (first | (with_reducible first | exact HB.out | apply qg | apply qc | apply qh | refine ql ?_ GE170.out) | exact HB.out))) | (with_reducible refine Kd.qb4 ?_ _) | (with_reducible refine Kd.qb1 ?_ _) | (with_reducible refine Kd.qb8 ?_))); (case side6 => exact HC0_9.out); rintro e w16 ⟨rfl, hb⟩; have n0_ := qd.mk (qbb (g := gb170) (o := .cells #[.int .i64 a0_0, .int .i64 a0_1, .int .i64 a0_2, .string a0_3, .int .i64 a0_4, .int .i64 a0_5, .string a0_6, .slice A0_7 l0_7.length c0_7, .slice A0_8 l0_8.length c0_8, .slice A0_9 l0_9.length c0_9] 30 (0, 0)) (by (with_reducible repeat (first | refine qj ?_ _ | refine qm ?_ | refine qi ?_ _)); exact BK170.out) hb); have n1_ := qd.mk (qba (by repeat (first | (with_reducible first | exact HB.out | apply qg | apply qc | apply qh | refine ql ?_ GE170.out) | exact HB.out)) hb); clear BK170; clear HB; have BK170 := n0_; have HB := n1_; clear n0_ n1_; (try clear hb); (try clear hb2); (try clear hk); (try clear hi); have hcz17_0 : w16.cell? ⟨gb170, 0, none⟩ = some (.int .i64 a0_0) := (qb BK170.out 0).trans rfl; have hcz17_1 : w16.cell? ⟨gb170, 1, none⟩ = some (.int .i64 a0_1) := (qb BK170.out 1).trans rfl; have hcz17_2 : w16.cell? ⟨gb170, 2, none⟩ = some (.int .i64 a0_2) := (qb BK170.out 2).trans rfl; have hcz17_3 : w16.cell? ⟨gb170, 3, none⟩ = some (.string a0_3) := (qb BK170.out 3).trans rfl; have hcz17_4 : w16.cell? ⟨gb170, 4, none⟩ = some (.int .i64 a0_4) := (qb BK170.out 4).trans rfl; have hcz17_5 : w16.cell? ⟨gb170, 5, none⟩ = some (.int .i64 a0_5) := (qb BK170.out 5).trans rfl; have hcz17_6 : w16.cell? ⟨gb170, 6, none⟩ = some (.string a0_6) := (qb BK170.out 6).trans rfl; have hcz17_7 : w16.cell? ⟨gb170, 7, none⟩ = some (.slice A0_7 l0_7.length c0_7) := (qb BK170.out 7).trans rfl; have hcz17_8 : w16.cell? ⟨gb170, 8, none⟩ = some (.slice A0_8 l0_8.length c0_8) := (qb BK170.out 8).trans rfl; have hcz17_9 : w16.cell? ⟨gb170, 9, none⟩ = some (.slice A0_9 l0_9.length c0_9) := (qb BK170.out 9).trans rfl; have hfz17_0 := qa BK170.out 0; have hfz17_1 := qa BK170.out 1; have hfz17_2 := qa BK170.out 2; have hfz17_3 := qa BK170.out 3; have hfz17_4 := qa BK170.out 4; have hfz17_5 := qa BK170.out 5; have hfz17_6 := qa BK170.out 6; have hfz17_7 := qa BK170.out 7; have hfz17_8 := qa BK170.out 8; have hfz17_9 := qa BK170.out 9) | (go_at_call 69; (with_reducible refine (qbh.calls k a0_0 a0_1 a0_2 a0_3 a0_4 a0_5 a0_6 _ _ l0_7 _ _ l0_8 _ _ l0_9 t173 _ ?side1 ?side2 ?side3 ?side4 ?side5 ?side6 ?side7 A14.out).mono ?_); (case side1 => repeat (first | exact (Kd.qbv HR0_7.out HB.out) | (with_reducible refine Kd.qb4 ?_ _) | (with_reducible refine Kd.qb1 ?_ _) | (with_reducible refine Kd.qb8 ?_))); (case side2 => exact HC0_7.out); (case side3 => repeat (first | exact (Kd.qbv HR0_8.out HB.out) | (with_reducible refine Kd.qb4 ?_ _) | (with_reducible refine Kd.qb1 ?_ _) | (with_reducible refine Kd.qb8 ?_))); (case side4 => exact HC0_8.out); (case side5 => repeat (first | exact (Kd.qbv HR0_9.out HB.out) | (with_reducible refine Kd.qb4 ?_ _) | (with_reducible refine Kd.qb1 ?_ _) | (with_reducible refine Kd.qb8 ?_))); (case side6 => exact HC0_9.out); (case side7 => exact Lay.below HLAY.out (by repeat (first | (with_reducible first | exact HB.out | apply qg | apply qc | apply qh | refine ql ?_ GE170.out) | exact HB.out))); rintro e w18 ⟨rfl, hb⟩; have n0_ := qd.mk (qbb (g := gb170) (o := .cells #[.int .i64 a0_0, .int .i64 a0_1, .int .i64 a0_2, .string a0_3, .int .i64 a0_4, .int .i64 a0_5, .string a0_6, .slice A0_7 l0_7.length c0_7, .slice A0_8 l0_8.length c0_8, .slice A0_9 l0_9.length c0_9] 30 (0, 0)) (by (with_reducible repeat (first | refine qj ?_ _ | refine qm ?_ | refine qi ?_ _)); exact BK170.out) hb); have n1_ := qd.mk (qba (by repeat (first | (with_reducible first | exact HB.out | apply qg | apply qc | apply qh | refine ql ?_ GE170.out) | exact HB.out)) hb); clear BK170; clear HB; have BK170 := n0_; have HB := n1_; clear n0_ n1_; (try clear hb); (try clear hb2); (try clear hk); (try clear hi)))
       go_meet
       case rel => exact ⟨_, (!t173), (by first | rfl | (simp; done) | (simp [*]; done)), H', ⟨by first | omega | exact Nat.le_refl _⟩, ⟨by (with_reducible repeat (first | refine qj ?_ _ | refine qm ?_ | refine qi ?_ _)); exact BK170.out⟩, ⟨by repeat (first | (with_reducible first | exact HB.out | apply qg | apply qc | apply qh | refine ql ?_ GE170.out) | exact HB.out)⟩⟩
      ·replace c13 := Bool.eq_false_iff.mpr c13
       subst c13
       have H1 : (qbo.j0 k true a0_0 a0_1 a0_2 a0_3 a0_4 a0_5 a0_6 l0_7 l0_8 l0_9) = some r := by rw [if_neg (show ¬ (false = true) by decide)] at H; exact H
       clear H
       have H := H1
       clear H1
       have H' := qd.mk H
       clear H
       have hcz19_0 : w3.cell? ⟨gb170, 0, none⟩ = some (.int .i64 a0_0) := (qb BK170.out 0).trans rfl
       have hcz19_1 : w3.cell? ⟨gb170, 1, none⟩ = some (.int .i64 a0_1) := (qb BK170.out 1).trans rfl
       have hcz19_2 : w3.cell? ⟨gb170, 2, none⟩ = some (.int .i64 a0_2) := (qb BK170.out 2).trans rfl
       have hcz19_3 : w3.cell? ⟨gb170, 3, none⟩ = some (.string a0_3) := (qb BK170.out 3).trans rfl
       have hcz19_4 : w3.cell? ⟨gb170, 4, none⟩ = some (.int .i64 a0_4) := (qb BK170.out 4).trans rfl
       have hcz19_5 : w3.cell? ⟨gb170, 5, none⟩ = some (.int .i64 a0_5) := (qb BK170.out 5).trans rfl
       have hcz19_6 : w3.cell? ⟨gb170, 6, none⟩ = some (.string a0_6) := (qb BK170.out 6).trans rfl
       have hcz19_7 : w3.cell? ⟨gb170, 7, none⟩ = some (.slice A0_7 l0_7.length c0_7) := (qb BK170.out 7).trans rfl
       have hcz19_8 : w3.cell? ⟨gb170, 8, none⟩ = some (.slice A0_8 l0_8.length c0_8) := (qb BK170.out 8).trans rfl
       have hcz19_9 : w3.cell? ⟨gb170, 9, none⟩ = some (.slice A0_9 l0_9.length c0_9) := (qb BK170.out 9).trans rfl
       have hfz19_0 := qa BK170.out 0
       have hfz19_1 := qa BK170.out 1
       have hfz19_2 := qa BK170.out 2
       have hfz19_3 := qa BK170.out 3
       have hfz19_4 := qa BK170.out 4
       have hfz19_5 := qa BK170.out 5
       have hfz19_6 := qa BK170.out 6
       have hfz19_7 := qa BK170.out 7
       have hfz19_8 := qa BK170.out 8
       have hfz19_9 := qa BK170.out 9
       go_wp2_with (first | (go_at_call 67; (with_reducible refine (qbw.calls k a0_0 (l0_8.length : Int) true _ A10.out).mono ?_); rintro e w' ⟨rfl, ⟨nd, rfl⟩⟩) | (go_at_call 68; (with_reducible refine (qce.calls a0_0 a0_1 a0_2 a0_3 a0_4 a0_5 a0_6 _ _ l0_7 _ _ l0_8 _ _ l0_9 false _ ?side1 ?side2 ?side3 ?side4 ?side5 ?side6 A12.out).mono ?_); (case side1 => repeat (first | exact (Kd.qbv HR0_7.out (by repeat (first | (with_reducible first | exact HB.out | apply qg | apply qc | apply qh | refine ql ?_ GE170.out) | exact HB.out))) | (with_reducible refine Kd.qb4 ?_ _) | (with_reducible refine Kd.qb1 ?_ _) | (with_reducible refine Kd.qb8 ?_))); (case side2 => exact HC0_7.out); (case side3 => repeat (first | exact (Kd.qbv HR0_8.out (by repeat (first | (with_reducible first | exact HB.out | apply qg | apply qc | apply qh | refine ql ?_ GE170.out) | exact HB.out))) | (with_reducible refine Kd.qb4 ?_ _) | (with_reducible refine Kd.qb1 ?_ _) | (with_reducible refine Kd.qb8 ?_))); (case side4 => exact HC0_8.out); (case side5 => repeat (first | exact (Kd.qbv HR0_9.out (by repeat (first | (with_reducible first | exact HB.out | apply qg | apply qc | apply qh | refine ql ?_ GE170.out) | exact HB.out))) | (with_reducible refine Kd.qb4 ?_ _) | (with_reducible refine Kd.qb1 ?_ _) | (with_reducible refine Kd.qb8 ?_))); (case side6 => exact HC0_9.out); rintro e w20 ⟨rfl, hb⟩; have n0_ := qd.mk (qbb (g := gb170) (o := .cells #[.int .i64 a0_0, .int .i64 a0_1, .int .i64 a0_2, .string a0_3, .int .i64 a0_4, .int .i64 a0_5, .string a0_6, .slice A0_7 l0_7.length c0_7, .slice A0_8 l0_8.length c0_8, .slice A0_9 l0_9.length c0_9] 30 (0, 0)) (by (with_reducible repeat (first | refine qj ?_ _ | refine qm ?_ | refine qi ?_ _)); exact BK170.out) hb); have n1_ := qd.mk (qba (by repeat (first | (with_reducible first | exact HB.out | apply qg | apply qc | apply qh | refine ql ?_ GE170.out) | exact HB.out)) hb); clear BK170; clear HB; have BK170 := n0_; have HB := n1_; clear n0_ n1_; (try clear hb); (try clear hb2); (try clear hk); (try clear hi)))
       go_meet
       case rel => exact ⟨_, (true), (by first | rfl | (simp; done) | (simp [*]; done)), H', ⟨by first | omega | exact Nat.le_refl _⟩, ⟨by (with_reducible repeat (first | refine qj ?_ _ | refine qm ?_ | refine qi ?_ _)); exact BK170.out⟩, ⟨by repeat (first | (with_reducible first | exact HB.out | apply qg | apply qc | apply qh | refine ql ?_ GE170.out) | exact HB.out)⟩⟩
     ·replace c11 := Bool.eq_false_iff.mpr c11
      subst c11
      have H1 : (qbo.j0 k true a0_0 a0_1 a0_2 a0_3 a0_4 a0_5 a0_6 l0_7 l0_8 l0_9) = some r := by rw [if_neg (show ¬ (false = true) by decide)] at H; exact H
      clear H
      have H := H1
      clear H1
      have H' := qd.mk H
      clear H
      have hcz21_0 : w3.cell? ⟨gb170, 0, none⟩ = some (.int .i64 a0_0) := (qb BK170.out 0).trans rfl
      have hcz21_1 : w3.cell? ⟨gb170, 1, none⟩ = some (.int .i64 a0_1) := (qb BK170.out 1).trans rfl
      have hcz21_2 : w3.cell? ⟨gb170, 2, none⟩ = some (.int .i64 a0_2) := (qb BK170.out 2).trans rfl
      have hcz21_3 : w3.cell? ⟨gb170, 3, none⟩ = some (.string a0_3) := (qb BK170.out 3).trans rfl
      have hcz21_4 : w3.cell? ⟨gb170, 4, none⟩ = some (.int .i64 a0_4) := (qb BK170.out 4).trans rfl
      have hcz21_5 : w3.cell? ⟨gb170, 5, none⟩ = some (.int .i64 a0_5) := (qb BK170.out 5).trans rfl
      have hcz21_6 : w3.cell? ⟨gb170, 6, none⟩ = some (.string a0_6) := (qb BK170.out 6).trans rfl
      have hcz21_7 : w3.cell? ⟨gb170, 7, none⟩ = some (.slice A0_7 l0_7.length c0_7) := (qb BK170.out 7).trans rfl
      have hcz21_8 : w3.cell? ⟨gb170, 8, none⟩ = some (.slice A0_8 l0_8.length c0_8) := (qb BK170.out 8).trans rfl
      have hcz21_9 : w3.cell? ⟨gb170, 9, none⟩ = some (.slice A0_9 l0_9.length c0_9) := (qb BK170.out 9).trans rfl
      have hfz21_0 := qa BK170.out 0
      have hfz21_1 := qa BK170.out 1
      have hfz21_2 := qa BK170.out 2
      have hfz21_3 := qa BK170.out 3
      have hfz21_4 := qa BK170.out 4
      have hfz21_5 := qa BK170.out 5
      have hfz21_6 := qa BK170.out 6
      have hfz21_7 := qa BK170.out 7
      have hfz21_8 := qa BK170.out 8
      have hfz21_9 := qa BK170.out 9
      go_wp2_with (first | (go_at_call 67; (with_reducible refine (qbw.calls k a0_0 (l0_8.length : Int) false _ A10.out).mono ?_); rintro e w' ⟨rfl, ⟨nd, rfl⟩⟩))
      go_meet
      case rel => exact ⟨_, (true), (by first | rfl | (simp; done) | (simp [*]; done)), H', ⟨by first | omega | exact Nat.le_refl _⟩, ⟨by (with_reducible repeat (first | refine qj ?_ _ | refine qm ?_ | refine qi ?_ _)); exact BK170.out⟩, ⟨by repeat (first | (with_reducible first | exact HB.out | apply qg | apply qc | apply qh | refine ql ?_ GE170.out) | exact HB.out)⟩⟩
 case rest =>
  clear HC2
  (try clear c1); (try clear p2); (try clear c4); (try clear c4b0); (try clear c6); (try clear c6b0); (try clear c8); (try clear c8b0); (try clear c8b1); (try clear c11); (try clear c13); (try clear hcz15_0 hcz15_1 hcz15_2 hcz15_3 hcz15_4 hcz15_5 hcz15_6 hcz15_7 hcz15_8 hcz15_9); (try clear hcz17_0 hcz17_1 hcz17_2 hcz17_3 hcz17_4 hcz17_5 hcz17_6 hcz17_7 hcz17_8 hcz17_9); (try clear hcz19_0 hcz19_1 hcz19_2 hcz19_3 hcz19_4 hcz19_5 hcz19_6 hcz19_7 hcz19_8 hcz19_9); (try clear hcz21_0 hcz21_1 hcz21_2 hcz21_3 hcz21_4 hcz21_5 hcz21_6 hcz21_7 hcz21_8 hcz21_9); (try clear hcz5_0 hcz5_1 hcz5_2 hcz5_3 hcz5_4 hcz5_5 hcz5_6 hcz5_7 hcz5_8 hcz5_9); (try clear hcz7_0 hcz7_1 hcz7_2 hcz7_3 hcz7_4 hcz7_5 hcz7_6 hcz7_7 hcz7_8 hcz7_9); (try clear hcz9_0 hcz9_1 hcz9_2 hcz9_3 hcz9_4 hcz9_5 hcz9_6 hcz9_7 hcz9_8 hcz9_9); (try clear hfz15_0 hfz15_1 hfz15_2 hfz15_3 hfz15_4 hfz15_5 hfz15_6 hfz15_7 hfz15_8 hfz15_9); (try clear hfz17_0 hfz17_1 hfz17_2 hfz17_3 hfz17_4 hfz17_5 hfz17_6 hfz17_7 hfz17_8 hfz17_9); (try clear hfz19_0 hfz19_1 hfz19_2 hfz19_3 hfz19_4 hfz19_5 hfz19_6 hfz19_7 hfz19_8 hfz19_9); (try clear hfz21_0 hfz21_1 hfz21_2 hfz21_3 hfz21_4 hfz21_5 hfz21_6 hfz21_7 hfz21_8 hfz21_9); (try clear hfz5_0 hfz5_1 hfz5_2 hfz5_3 hfz5_4 hfz5_5 hfz5_6 hfz5_7 hfz5_8 hfz5_9); (try clear hfz7_0 hfz7_1 hfz7_2 hfz7_3 hfz7_4 hfz7_5 hfz7_6 hfz7_7 hfz7_8 hfz7_9); (try clear hfz9_0 hfz9_1 hfz9_2 hfz9_3 hfz9_4 hfz9_5 hfz9_6 hfz9_7 hfz9_8 hfz9_9)
  obtain ⟨kq, x36_1, rfl, HA, HJ1, BK170, HB⟩ := hcut
  cases kq with
  | zero => exact absurd HA.out (by simp [qbo.j0])
  | succ kj1 =>
   have H := HA.out
   clear HA
   simp only [qbo.j0] at H
   by_cases c22 : x36_1 = true
   ·subst c22
    have H1 : (some false) = some r := by rw [if_pos rfl] at H; exact H
    clear H
    have H := H1
    clear H1
    obtain rfl := Option.some.inj H
    go_wp2
    go_ret
    exact ⟨by first | rfl | (simp [q9, qz] <;> rfl) | (simp [*, q9, qz] <;> rfl), by repeat (first | (with_reducible first | exact HB.out | apply qg | apply qc | apply qh | refine ql ?_ GE170.out) | exact HB.out)⟩
   ·replace c22 := Bool.eq_false_iff.mpr c22
    subst c22
    have H1 : (qbo.l0 kj1 l0_8 (l0_8.length : Int) 0) = some r := by rw [if_neg (show ¬ (false = true) by decide)] at H; exact H
    clear H
    have H := H1
    clear H1
    have H' := qd.mk H
    clear H
    have hcz23_0 : wc.cell? ⟨gb170, 0, none⟩ = some (.int .i64 a0_0) := (qb BK170.out 0).trans rfl
    have hcz23_1 : wc.cell? ⟨gb170, 1, none⟩ = some (.int .i64 a0_1) := (qb BK170.out 1).trans rfl
    have hcz23_2 : wc.cell? ⟨gb170, 2, none⟩ = some (.int .i64 a0_2) := (qb BK170.out 2).trans rfl
    have hcz23_3 : wc.cell? ⟨gb170, 3, none⟩ = some (.string a0_3) := (qb BK170.out 3).trans rfl
    have hcz23_4 : wc.cell? ⟨gb170, 4, none⟩ = some (.int .i64 a0_4) := (qb BK170.out 4).trans rfl
    have hcz23_5 : wc.cell? ⟨gb170, 5, none⟩ = some (.int .i64 a0_5) := (qb BK170.out 5).trans rfl
    have hcz23_6 : wc.cell? ⟨gb170, 6, none⟩ = some (.string a0_6) := (qb BK170.out 6).trans rfl
    have hcz23_7 : wc.cell? ⟨gb170, 7, none⟩ = some (.slice A0_7 l0_7.length c0_7) := (qb BK170.out 7).trans rfl
    have hcz23_8 : wc.cell? ⟨gb170, 8, none⟩ = some (.slice A0_8 l0_8.length c0_8) := (qb BK170.out 8).trans rfl
    have hcz23_9 : wc.cell? ⟨gb170, 9, none⟩ = some (.slice A0_9 l0_9.length c0_9) := (qb BK170.out 9).trans rfl
    have hfz23_0 := qa BK170.out 0
    have hfz23_1 := qa BK170.out 1
    have hfz23_2 := qa BK170.out 2
    have hfz23_3 := qa BK170.out 3
    have hfz23_4 := qa BK170.out 4
    have hfz23_5 := qa BK170.out 5
    have hfz23_6 := qa BK170.out 6
    have hfz23_7 := qa BK170.out 7
    have hfz23_8 := qa BK170.out 8
    have hfz23_9 := qa BK170.out 9
    go_wp2
    go_loopg [40] kj1 (fun kq v40 w' => ∃ (x40_2 : Int), v40 = .int .i64 x40_2 ∧ qd (qbo.l0 kq l0_8 (l0_8.length : Int) x40_2 = some r) ∧ qd (kq ≤ kj1) ∧ qd (w'.heap[gb170]? = some (.cells #[.int .i64 a0_0, .int .i64 a0_1, .int .i64 a0_2, .string a0_3, .int .i64 a0_4, .int .i64 a0_5, .string a0_6, (.slice A0_7 l0_7.length c0_7), (.slice A0_8 l0_8.length c0_8), (.slice A0_9 l0_9.length c0_9)] 30 (0, 0))) ∧ qd (Below w.heap.size w w'))
    case atStart => exact ⟨(0), (by first | rfl | (simp; done) | (simp [*]; done)), H', ⟨Nat.le_refl _⟩, ⟨by (with_reducible repeat (first | refine qj ?_ _ | refine qm ?_ | refine qi ?_ _)); exact BK170.out⟩, ⟨by repeat (first | (with_reducible first | exact HB.out | apply qg | apply qc | apply qh | refine ql ?_ GE170.out) | exact HB.out)⟩⟩
    case round =>
     clear H'
     (try clear c1); (try clear c2); (try clear p2); (try clear c4); (try clear c4b0); (try clear c6); (try clear c6b0); (try clear c8); (try clear c8b0); (try clear c8b1); (try clear c11); (try clear c13); (try clear c22); (try clear hcz15_0 hcz15_1 hcz15_2 hcz15_3 hcz15_4 hcz15_5 hcz15_6 hcz15_7 hcz15_8 hcz15_9); (try clear hcz17_0 hcz17_1 hcz17_2 hcz17_3 hcz17_4 hcz17_5 hcz17_6 hcz17_7 hcz17_8 hcz17_9); (try clear hcz19_0 hcz19_1 hcz19_2 hcz19_3 hcz19_4 hcz19_5 hcz19_6 hcz19_7 hcz19_8 hcz19_9); (try clear hcz21_0 hcz21_1 hcz21_2 hcz21_3 hcz21_4 hcz21_5 hcz21_6 hcz21_7 hcz21_8 hcz21_9); (try clear hcz23_0 hcz23_1 hcz23_2 hcz23_3 hcz23_4 hcz23_5 hcz23_6 hcz23_7 hcz23_8 hcz23_9); (try clear hcz5_0 hcz5_1 hcz5_2 hcz5_3 hcz5_4 hcz5_5 hcz5_6 hcz5_7 hcz5_8 hcz5_9); (try clear hcz7_0 hcz7_1 hcz7_2 hcz7_3 hcz7_4 hcz7_5 hcz7_6 hcz7_7 hcz7_8 hcz7_9); (try clear hcz9_0 hcz9_1 hcz9_2 hcz9_3 hcz9_4 hcz9_5 hcz9_6 hcz9_7 hcz9_8 hcz9_9); (try clear hfz15_0 hfz15_1 hfz15_2 hfz15_3 hfz15_4 hfz15_5 hfz15_6 hfz15_7 hfz15_8 hfz15_9); (try clear hfz17_0 hfz17_1 hfz17_2 hfz17_3 hfz17_4 hfz17_5 hfz17_6 hfz17_7 hfz17_8 hfz17_9); (try clear hfz19_0 hfz19_1 hfz19_2 hfz19_3 hfz19_4 hfz19_5 hfz19_6 hfz19_7 hfz19_8 hfz19_9); (try clear hfz21_0 hfz21_1 hfz21_2 hfz21_3 hfz21_4 hfz21_5 hfz21_6 hfz21_7 hfz21_8 hfz21_9); (try clear hfz23_0 hfz23_1 hfz23_2 hfz23_3 hfz23_4 hfz23_5 hfz23_6 hfz23_7 hfz23_8 hfz23_9); (try clear hfz5_0 hfz5_1 hfz5_2 hfz5_3 hfz5_4 hfz5_5 hfz5_6 hfz5_7 hfz5_8 hfz5_9); (try clear hfz7_0 hfz7_1 hfz7_2 hfz7_3 hfz7_4 hfz7_5 hfz7_6 hfz7_7 hfz7_8 hfz7_9); (try clear hfz9_0 hfz9_1 hfz9_2 hfz9_3 hfz9_4 hfz9_5 hfz9_6 hfz9_7 hfz9_8 hfz9_9); (try clear p2)
     obtain ⟨x40_2, rfl, HA, HK2, BK170, HB⟩ := hrel
     cases gk with
     | zero => exact absurd HA.out (by simp [qbo.l0])
     | succ k2 =>
      have H := HA.out
      clear HA
      simp only [qbo.l0] at H
      by_cases c24 : x40_2 < (l0_8.length : Int)
      ·rw [if_pos c24] at H
       have c24b0 : decide (x40_2 < (l0_8.length : Int)) = true := decide_eq_true c24
       clear c24
       by_cases c25 : 0 ≤ x40_2
       ·rw [if_pos c25] at H
        have c25b0 : decide (0 ≤ x40_2) = true := decide_eq_true c25
        clear c25
        by_cases c26 : x40_2 < (l0_8.length : Int)
        ·rw [if_pos c26] at H
         have c26b0 : decide (x40_2 < (l0_8.length : Int)) = true := decide_eq_true c26
         clear c26
         replace H := Option.bind_eq_some_iff.mp H
         obtain ⟨t176, A270, H⟩ := H
         replace H : (if t176 = true then (qbo.l0 k2 l0_8 (l0_8.length : Int) (wrap64 (x40_2 + 1))) else (some false)) = some r := H
         have A27 := qd.mk A270
         clear A270
         by_cases c28 : t176 = true
         ·subst c28
          have H1 : (qbo.l0 k2 l0_8 (l0_8.length : Int) (wrap64 (x40_2 + 1))) = some r := by rw [if_pos rfl] at H; exact H
          clear H
          have H := H1
          clear H1
          have H' := qd.mk H
          clear H
          have p174 : 0 ≤ (x40_2 : Int) := of_decide_eq_true (by first | (with_reducible assumption) | assumption)
          have q174 : x40_2 < (l0_8.length : Int) := of_decide_eq_true (by first | (with_reducible assumption) | assumption)
          obtain ⟨ad174, A174_7, c174_7, A174_8, c174_8, A174_9, c174_9, e174, hx174_0, hx174_1, hx174_2, hx174_3, hx174_4, hx174_5, hx174_6, hx174_7, hx174_8, hx174_9, hl174_7, hi174_7, hl174_8, hi174_8, hl174_9, hi174_9⟩ := qfg HR0_8.out x40_2 p174 q174
          cases e174
          replace hx174_0 := (HB.out.cell (World.block_lt_of_cell? w _ hx174_0)).trans hx174_0
          replace hx174_1 := (HB.out.cell (World.block_lt_of_cell? w _ hx174_1)).trans hx174_1
          replace hx174_2 := (HB.out.cell (World.block_lt_of_cell? w _ hx174_2)).trans hx174_2
          replace hx174_3 := (HB.out.cell (World.block_lt_of_cell? w _ hx174_3)).trans hx174_3
          replace hx174_4 := (HB.out.cell (World.block_lt_of_cell? w _ hx174_4)).trans hx174_4
          replace hx174_5 := (HB.out.cell (World.block_lt_of_cell? w _ hx174_5)).trans hx174_5
          replace hx174_6 := (HB.out.cell (World.block_lt_of_cell? w _ hx174_6)).trans hx174_6
          replace hx174_7 := (HB.out.cell (World.block_lt_of_cell? w _ hx174_7)).trans hx174_7
          replace hx174_8 := (HB.out.cell (World.block_lt_of_cell? w _ hx174_8)).trans hx174_8
          replace hx174_9 := (HB.out.cell (World.block_lt_of_cell? w _ hx174_9)).trans hx174_9
          have HR174_7 := qd.mk hi174_7
          have HC174_7 := qd.mk hl174_7
          clear hi174_7 hl174_7
          have HR174_8 := qd.mk hi174_8
          have HC174_8 := qd.mk hl174_8
          clear hi174_8 hl174_8
          have HR174_9 := qd.mk hi174_9
          have HC174_9 := qd.mk hl174_9
          clear hi174_9 hl174_9
          replace p174 := eq_true p174
          replace q174 := eq_true q174
          go_wp2_with (first | ((with_reducible refine qby (N := 4) rfl ?_); (try (refine qcb (by rfl) ?_; dsimp only)); refine qbx ?hg (N := 4) ?hd (cs := #[.int .i64 0, .int .i64 0, .int .i64 0, .string (⟨#[]⟩ : ByteArray), .int .i64 0, .int .i64 0, .string (⟨#[]⟩ : ByteArray), .slice none 0 0, .slice none 0 0, .slice none 0 0]) (t := 30) ?hr ?_; (case hd => rfl); (case hg => rfl); (case hr => first | (go_simp; done) | (go_simp; rfl)); intro gb175 hg w29 hbox hb; have n0_ := qd.mk (qbb (g := gb170) (o := .cells #[.int .i64 a0_0, .int .i64 a0_1, .int .i64 a0_2, .string a0_3, .int .i64 a0_4, .int .i64 a0_5, .string a0_6, .slice A0_7 l0_7.length c0_7, .slice (some ad174) l0_8.length c0_8, .slice A0_9 l0_9.length c0_9] 30 (0, 0)) (by (with_reducible repeat (first | refine qj ?_ _ | refine qm ?_ | refine qi ?_ _)); exact BK170.out) hb); have n1_ := qd.mk (qba (by repeat (first | (with_reducible first | exact HB.out | apply qg | apply qc | apply qh | refine ql ?_ GE170.out) | exact HB.out)) hb); have n2_ := qd.mk (hbox); have n3_ := qd.mk ((by rw [hg]; exact (qbc (by repeat (first | (with_reducible first | exact HB.out | apply qg | apply qc | apply qh | refine ql ?_ GE170.out) | exact HB.out))) : w.heap.size ≤ gb175)); have n4_ := qd.mk ((by rw [hg]; exact (qbc (by repeat (first | (with_reducible first | exact HB.out | apply qg | apply qc | apply qh | refine ql ?_ GE170.out) | exact HB.out))) : w.heap.size ≤ gb175)); have n5_ := qd.mk ((by rw [hg]; exact Nat.ne_of_lt (qb0 (g := gb170) (o := .cells #[.int .i64 a0_0, .int .i64 a0_1, .int .i64 a0_2, .string a0_3, .int .i64 a0_4, .int .i64 a0_5, .string a0_6, .slice A0_7 l0_7.length c0_7, .slice (some ad174) l0_8.length c0_8, .slice A0_9 l0_9.length c0_9] 30 (0, 0)) (by (with_reducible repeat (first | refine qj ?_ _ | refine qm ?_ | refine qi ?_ _)); exact BK170.out)) : gb170 ≠ gb175)); have n6_ := qd.mk ((by rw [hg]; exact Nat.ne_of_gt (qb0 (g := gb170) (o := .cells #[.int .i64 a0_0, .int .i64 a0_1, .int .i64 a0_2, .string a0_3, .int .i64 a0_4, .int .i64 a0_5, .string a0_6, .slice A0_7 l0_7.length c0_7, .slice (some ad174) l0_8.length c0_8, .slice A0_9 l0_9.length c0_9] 30 (0, 0)) (by (with_reducible repeat (first | refine qj ?_ _ | refine qm ?_ | refine qi ?_ _)); exact BK170.out)) : gb175 ≠ gb170)); clear BK170; clear HB; have BK170 := n0_; have HB := n1_; have BK175 := n2_; have GW175 := n3_; have GE175 := n4_; have NB170_175 := n5_; have NB175_170 := n6_; clear n0_ n1_ n2_ n3_ n4_ n5_ n6_; clear hb hbox hg; have hnb30 := NB175_170.out; have hnc30 := NB170_175.out; have hcz31_0 : w29.cell? ⟨gb175, 0, none⟩ = some (.int .i64 0) := (qb BK175.out 0).trans rfl; have hcz31_1 : w29.cell? ⟨gb175, 1, none⟩ = some (.int .i64 0) := (qb BK175.out 1).trans rfl; have hcz31_2 : w29.cell? ⟨gb175, 2, none⟩ = some (.int .i64 0) := (qb BK175.out 2).trans rfl; have hcz31_3 : w29.cell? ⟨gb175, 3, none⟩ = some (.string (⟨#[]⟩ : ByteArray)) := (qb BK175.out 3).trans rfl; have hcz31_4 : w29.cell? ⟨gb175, 4, none⟩ = some (.int .i64 0) := (qb BK175.out 4).trans rfl; have hcz31_5 : w29.cell? ⟨gb175, 5, none⟩ = some (.int .i64 0) := (qb BK175.out 5).trans rfl; have hcz31_6 : w29.cell? ⟨gb175, 6, none⟩ = some (.string (⟨#[]⟩ : ByteArray)) := (qb BK175.out 6).trans rfl; have hcz31_7 : w29.cell? ⟨gb175, 7, none⟩ = some (.slice none 0 0) := (qb BK175.out 7).trans rfl; have hcz31_8 : w29.cell? ⟨gb175, 8, none⟩ = some (.slice none 0 0) := (qb BK175.out 8).trans rfl; have hcz31_9 : w29.cell? ⟨gb175, 9, none⟩ = some (.slice none 0 0) := (qb BK175.out 9).trans rfl; have hfz31_0 := qa BK175.out 0; have hfz31_1 := qa BK175.out 1; have hfz31_2 := qa BK175.out 2; have hfz31_3 := qa BK175.out 3; have hfz31_4 := qa BK175.out 4; have hfz31_5 := qa BK175.out 5; have hfz31_6 := qa BK175.out 6; have hfz31_7 := qa BK175.out 7; have hfz31_8 := qa BK175.out 8; have hfz31_9 := qa BK175.out 9) | ((with_reducible refine qb2 (f := 43) rfl ?_); refine qcn (some 45) rfl rfl Tryd.func43 (by kernel_rfl) rfl #[.agg #[.int .i64 ((qp l0_8 x40_2).f0), .int .i64 ((qp l0_8 x40_2).f1), .int .i64 ((qp l0_8 x40_2).f2), .string ((qp l0_8 x40_2).f3), .int .i64 ((qp l0_8 x40_2).f4.f0), .int .i64 ((qp l0_8 x40_2).f4.f1), .string ((qp l0_8 x40_2).f4.f2), .slice A174_7 ((qp l0_8 x40_2).f4.f3).length c174_7, .slice A174_8 ((qp l0_8 x40_2).f5).length c174_8, .slice A174_9 ((qp l0_8 x40_2).f6).length c174_9]] rfl (by (try simp only [List.map_toArray, List.map_cons, List.map_nil]); first | done | rfl | (simp only [List.length_drop, List.length_take]; rfl)) ?_; (with_reducible refine (ih k2 (by have := HJ1.out; have := HK2.out; omega) ((qp l0_8 x40_2).f0) ((qp l0_8 x40_2).f1) ((qp l0_8 x40_2).f2) ((qp l0_8 x40_2).f3) ((qp l0_8 x40_2).f4.f0) ((qp l0_8 x40_2).f4.f1) ((qp l0_8 x40_2).f4.f2) _ _ ((qp l0_8 x40_2).f4.f3) _ _ ((qp l0_8 x40_2).f5) _ _ ((qp l0_8 x40_2).f6) true _ ?side1 ?side2 ?side3 ?side4 ?side5 ?side6 ?side7 A27.out).mono ?_); (case side1 => exact Kd.qbv HR174_7.out (by repeat (first | (with_reducible first | exact HB.out | apply qg | apply qc | apply qh | refine ql ?_ GE170.out | refine ql ?_ GE175.out) | exact HB.out))); (case side2 => exact HC174_7.out); (case side3 => exact Kd.qbv HR174_8.out (by repeat (first | (with_reducible first | exact HB.out | apply qg | apply qc | apply qh | refine ql ?_ GE170.out | refine ql ?_ GE175.out) | exact HB.out))); (case side4 => exact HC174_8.out); (case side5 => exact Kd.qbv HR174_9.out (by repeat (first | (with_reducible first | exact HB.out | apply qg | apply qc | apply qh | refine ql ?_ GE170.out | refine ql ?_ GE175.out) | exact HB.out))); (case side6 => exact HC174_9.out); (case side7 => exact Lay.below HLAY.out (by repeat (first | (with_reducible first | exact HB.out | apply qg | apply qc | apply qh | refine ql ?_ GE170.out | refine ql ?_ GE175.out) | exact HB.out))); rintro e w32 ⟨rfl, hb⟩; refine ⟨_, rfl, ?_⟩; have n0_ := qd.mk (qbb (g := gb170) (o := .cells #[.int .i64 a0_0, .int .i64 a0_1, .int .i64 a0_2, .string a0_3, .int .i64 a0_4, .int .i64 a0_5, .string a0_6, .slice A0_7 l0_7.length c0_7, .slice (some ad174) l0_8.length c0_8, .slice A0_9 l0_9.length c0_9] 30 (0, 0)) (by (with_reducible repeat (first | refine qj ?_ _ | refine qm ?_ | refine qi ?_ _)); refine qbn ?_ NB170_175.out _; (with_reducible repeat (first | refine qj ?_ _ | refine qm ?_ | refine qi ?_ _)); refine qbn ?_ NB170_175.out _; (with_reducible repeat (first | refine qj ?_ _ | refine qm ?_ | refine qi ?_ _)); refine qbn ?_ NB170_175.out _; (with_reducible repeat (first | refine qj ?_ _ | refine qm ?_ | refine qi ?_ _)); refine qbn ?_ NB170_175.out _; (with_reducible repeat (first | refine qj ?_ _ | refine qm ?_ | refine qi ?_ _)); refine qbn ?_ NB170_175.out _; (with_reducible repeat (first | refine qj ?_ _ | refine qm ?_ | refine qi ?_ _)); refine qbn ?_ NB170_175.out _; (with_reducible repeat (first | refine qj ?_ _ | refine qm ?_ | refine qi ?_ _)); refine qbn ?_ NB170_175.out _; (with_reducible repeat (first | refine qj ?_ _ | refine qm ?_ | refine qi ?_ _)); refine qbn ?_ NB170_175.out _; (with_reducible repeat (first | refine qj ?_ _ | refine qm ?_ | refine qi ?_ _)); refine qbn ?_ NB170_175.out _; (with_reducible repeat (first | refine qj ?_ _ | refine qm ?_ | refine qi ?_ _)); refine qbn ?_ NB170_175.out _; (with_reducible repeat (first | refine qj ?_ _ | refine qm ?_ | refine qi ?_ _)); exact BK170.out) hb); have n1_ := qd.mk (qbb (g := gb175) (o := .cells #[.int .i64 ((qp l0_8 x40_2).f0), .int .i64 ((qp l0_8 x40_2).f1), .int .i64 ((qp l0_8 x40_2).f2), .string ((qp l0_8 x40_2).f3), .int .i64 ((qp l0_8 x40_2).f4.f0), .int .i64 ((qp l0_8 x40_2).f4.f1), .string ((qp l0_8 x40_2).f4.f2), .slice A174_7 ((qp l0_8 x40_2).f4.f3).length c174_7, .slice A174_8 ((qp l0_8 x40_2).f5).length c174_8, .slice A174_9 ((qp l0_8 x40_2).f6).length c174_9] 30 (0, 0)) (by (with_reducible repeat (first | refine qj ?_ _ | refine qm ?_ | refine qi ?_ _)); refine qbp (cs := #[.int .i64 ((qp l0_8 x40_2).f0), .int .i64 ((qp l0_8 x40_2).f1), .int .i64 ((qp l0_8 x40_2).f2), .string ((qp l0_8 x40_2).f3), .int .i64 ((qp l0_8 x40_2).f4.f0), .int .i64 ((qp l0_8 x40_2).f4.f1), .string ((qp l0_8 x40_2).f4.f2), .slice A174_7 ((qp l0_8 x40_2).f4.f3).length c174_7, .slice A174_8 ((qp l0_8 x40_2).f5).length c174_8, .slice none 0 0]) ?_ 9 _ rfl; (with_reducible repeat (first | refine qj ?_ _ | refine qm ?_ | refine qi ?_ _)); refine qbp (cs := #[.int .i64 ((qp l0_8 x40_2).f0), .int .i64 ((qp l0_8 x40_2).f1), .int .i64 ((qp l0_8 x40_2).f2), .string ((qp l0_8 x40_2).f3), .int .i64 ((qp l0_8 x40_2).f4.f0), .int .i64 ((qp l0_8 x40_2).f4.f1), .string ((qp l0_8 x40_2).f4.f2), .slice A174_7 ((qp l0_8 x40_2).f4.f3).length c174_7, .slice none 0 0, .slice none 0 0]) ?_ 8 _ rfl; (with_reducible repeat (first | refine qj ?_ _ | refine qm ?_ | refine qi ?_ _)); refine qbp (cs := #[.int .i64 ((qp l0_8 x40_2).f0), .int .i64 ((qp l0_8 x40_2).f1), .int .i64 ((qp l0_8 x40_2).f2), .string ((qp l0_8 x40_2).f3), .int .i64 ((qp l0_8 x40_2).f4.f0), .int .i64 ((qp l0_8 x40_2).f4.f1), .string ((qp l0_8 x40_2).f4.f2), .slice none 0 0, .slice none 0 0, .slice none 0 0]) ?_ 7 _ rfl; (with_reducible repeat (first | refine qj ?_ _ | refine qm ?_ | refine qi ?_ _)); refine qbp (cs := #[.int .i64 ((qp l0_8 x40_2).f0), .int .i64 ((qp l0_8 x40_2).f1), .int .i64 ((qp l0_8 x40_2).f2), .string ((qp l0_8 x40_2).f3), .int .i64 ((qp l0_8 x40_2).f4.f0), .int .i64 ((qp l0_8 x40_2).f4.f1), .string (⟨#[]⟩ : ByteArray), .slice none 0 0, .slice none 0 0, .slice none 0 0]) ?_ 6 _ rfl; (with_reducible repeat (first | refine qj ?_ _ | refine qm ?_ | refine qi ?_ _)); refine qbp (cs := #[.int .i64 ((qp l0_8 x40_2).f0), .int .i64 ((qp l0_8 x40_2).f1), .int .i64 ((qp l0_8 x40_2).f2), .string ((qp l0_8 x40_2).f3), .int .i64 ((qp l0_8 x40_2).f4.f0), .int .i64 0, .string (⟨#[]⟩ : ByteArray), .slice none 0 0, .slice none 0 0, .slice none 0 0]) ?_ 5 _ rfl; (with_reducible repeat (first | refine qj ?_ _ | refine qm ?_ | refine qi ?_ _)); refine qbp (cs := #[.int .i64 ((qp l0_8 x40_2).f0), .int .i64 ((qp l0_8 x40_2).f1), .int .i64 ((qp l0_8 x40_2).f2), .string ((qp l0_8 x40_2).f3), .int .i64 0, .int .i64 0, .string (⟨#[]⟩ : ByteArray), .slice none 0 0, .slice none 0 0, .slice none 0 0]) ?_ 4 _ rfl; (with_reducible repeat (first | refine qj ?_ _ | refine qm ?_ | refine qi ?_ _)); refine qbp (cs := #[.int .i64 ((qp l0_8 x40_2).f0), .int .i64 ((qp l0_8 x40_2).f1), .int .i64 ((qp l0_8 x40_2).f2), .string (⟨#[]⟩ : ByteArray), .int .i64 0, .int .i64 0, .string (⟨#[]⟩ : ByteArray), .slice none 0 0, .slice none 0 0, .slice none 0 0]) ?_ 3 _ rfl; (with_reducible repeat (first | refine qj ?_ _ | refine qm ?_ | refine qi ?_ _)); refine qbp (cs := #[.int .i64 ((qp l0_8 x40_2).f0), .int .i64 ((qp l0_8 x40_2).f1), .int .i64 0, .string (⟨#[]⟩ : ByteArray), .int .i64 0, .int .i64 0, .string (⟨#[]⟩ : ByteArray), .slice none 0 0, .slice none 0 0, .slice none 0 0]) ?_ 2 _ rfl; (with_reducible repeat (first | refine qj ?_ _ | refine qm ?_ | refine qi ?_ _)); refine qbp (cs := #[.int .i64 ((qp l0_8 x40_2).f0), .int .i64 0, .int .i64 0, .string (⟨#[]⟩ : ByteArray), .int .i64 0, .int .i64 0, .string (⟨#[]⟩ : ByteArray), .slice none 0 0, .slice none 0 0, .slice none 0 0]) ?_ 1 _ rfl; (with_reducible repeat (first | refine qj ?_ _ | refine qm ?_ | refine qi ?_ _)); refine qbp (cs := #[.int .i64 0, .int .i64 0, .int .i64 0, .string (⟨#[]⟩ : ByteArray), .int .i64 0, .int .i64 0, .string (⟨#[]⟩ : ByteArray), .slice none 0 0, .slice none 0 0, .slice none 0 0]) ?_ 0 _ rfl; (with_reducible repeat (first | refine qj ?_ _ | refine qm ?_ | refine qi ?_ _)); exact BK175.out) hb); have n2_ := qd.mk (qba (by repeat (first | (with_reducible first | exact HB.out | apply qg | apply qc | apply qh | refine ql ?_ GE170.out | refine ql ?_ GE175.out) | exact HB.out)) hb); clear BK170; clear BK175; clear HB; have BK170 := n0_; have BK175 := n1_; have HB := n2_; clear n0_ n1_ n2_; (try clear hb); (try clear hb2); (try clear hk); (try clear hi)))
          go_roundg k2
          case measure => have := HJ1.out; have := HK2.out; omega
          case rel => exact ⟨(wrap64 (x40_2 + 1)), (by first | rfl | (simp; done) | (simp [*]; done)), H', ⟨by have := HJ1.out; have := HK2.out; omega⟩, ⟨by (with_reducible repeat (first | refine qj ?_ _ | refine qm ?_ | refine qi ?_ _)); exact BK170.out⟩, ⟨by repeat (first | (with_reducible first | exact HB.out | apply qg | apply qc | apply qh | refine ql ?_ GE170.out | refine ql ?_ GE175.out) | exact HB.out)⟩⟩
         ·replace c28 := Bool.eq_false_iff.mpr c28
          subst c28
          have H1 : (some false) = some r := by rw [if_neg (show ¬ (false = true) by decide)] at H; exact H
          clear H
          have H := H1
          clear H1
          obtain rfl := Option.some.inj H
          have p174 : 0 ≤ (x40_2 : Int) := of_decide_eq_true (by first | (with_reducible assumption) | assumption)
          have q174 : x40_2 < (l0_8.length : Int) := of_decide_eq_true (by first | (with_reducible assumption) | assumption)
          obtain ⟨ad174, A174_7, c174_7, A174_8, c174_8, A174_9, c174_9, e174, hx174_0, hx174_1, hx174_2, hx174_3, hx174_4, hx174_5, hx174_6, hx174_7, hx174_8, hx174_9, hl174_7, hi174_7, hl174_8, hi174_8, hl174_9, hi174_9⟩ := qfg HR0_8.out x40_2 p174 q174
          cases e174
          replace hx174_0 := (HB.out.cell (World.block_lt_of_cell? w _ hx174_0)).trans hx174_0
          replace hx174_1 := (HB.out.cell (World.block_lt_of_cell? w _ hx174_1)).trans hx174_1
          replace hx174_2 := (HB.out.cell (World.block_lt_of_cell? w _ hx174_2)).trans hx174_2
          replace hx174_3 := (HB.out.cell (World.block_lt_of_cell? w _ hx174_3)).trans hx174_3
          replace hx174_4 := (HB.out.cell (World.block_lt_of_cell? w _ hx174_4)).trans hx174_4
          replace hx174_5 := (HB.out.cell (World.block_lt_of_cell? w _ hx174_5)).trans hx174_5
          replace hx174_6 := (HB.out.cell (World.block_lt_of_cell? w _ hx174_6)).trans hx174_6
          replace hx174_7 := (HB.out.cell (World.block_lt_of_cell? w _ hx174_7)).trans hx174_7
          replace hx174_8 := (HB.out.cell (World.block_lt_of_cell? w _ hx174_8)).trans hx174_8
          replace hx174_9 := (HB.out.cell (World.block_lt_of_cell? w _ hx174_9)).trans hx174_9
          have HR174_7 := qd.mk hi174_7
          have HC174_7 := qd.mk hl174_7
          clear hi174_7 hl174_7
          have HR174_8 := qd.mk hi174_8
          have HC174_8 := qd.mk hl174_8
          clear hi174_8 hl174_8
          have HR174_9 := qd.mk hi174_9
          have HC174_9 := qd.mk hl174_9
          clear hi174_9 hl174_9
          replace p174 := eq_true p174
          replace q174 := eq_true q174
          go_wp2_with (first | ((with_reducible refine qby (N := 4) rfl ?_); (try (refine qcb (by rfl) ?_; dsimp only)); refine qbx ?hg (N := 4) ?hd (cs := #[.int .i64 0, .int .i64 0, .int .i64 0, .string (⟨#[]⟩ : ByteArray), .int .i64 0, .int .i64 0, .string (⟨#[]⟩ : ByteArray), .slice none 0 0, .slice none 0 0, .slice none 0 0]) (t := 30) ?hr ?_; (case hd => rfl); (case hg => rfl); (case hr => first | (go_simp; done) | (go_simp; rfl)); intro gb175 hg w33 hbox hb; have n0_ := qd.mk (qbb (g := gb170) (o := .cells #[.int .i64 a0_0, .int .i64 a0_1, .int .i64 a0_2, .string a0_3, .int .i64 a0_4, .int .i64 a0_5, .string a0_6, .slice A0_7 l0_7.length c0_7, .slice (some ad174) l0_8.length c0_8, .slice A0_9 l0_9.length c0_9] 30 (0, 0)) (by (with_reducible repeat (first | refine qj ?_ _ | refine qm ?_ | refine qi ?_ _)); exact BK170.out) hb); have n1_ := qd.mk (qba (by repeat (first | (with_reducible first | exact HB.out | apply qg | apply qc | apply qh | refine ql ?_ GE170.out) | exact HB.out)) hb); have n2_ := qd.mk (hbox); have n3_ := qd.mk ((by rw [hg]; exact (qbc (by repeat (first | (with_reducible first | exact HB.out | apply qg | apply qc | apply qh | refine ql ?_ GE170.out) | exact HB.out))) : w.heap.size ≤ gb175)); have n4_ := qd.mk ((by rw [hg]; exact (qbc (by repeat (first | (with_reducible first | exact HB.out | apply qg | apply qc | apply qh | refine ql ?_ GE170.out) | exact HB.out))) : w.heap.size ≤ gb175)); have n5_ := qd.mk ((by rw [hg]; exact Nat.ne_of_lt (qb0 (g := gb170) (o := .cells #[.int .i64 a0_0, .int .i64 a0_1, .int .i64 a0_2, .string a0_3, .int .i64 a0_4, .int .i64 a0_5, .string a0_6, .slice A0_7 l0_7.length c0_7, .slice (some ad174) l0_8.length c0_8, .slice A0_9 l0_9.length c0_9] 30 (0, 0)) (by (with_reducible repeat (first | refine qj ?_ _ | refine qm ?_ | refine qi ?_ _)); exact BK170.out)) : gb170 ≠ gb175)); have n6_ := qd.mk ((by rw [hg]; exact Nat.ne_of_gt (qb0 (g := gb170) (o := .cells #[.int .i64 a0_0, .int .i64 a0_1, .int .i64 a0_2, .string a0_3, .int .i64 a0_4, .int .i64 a0_5, .string a0_6, .slice A0_7 l0_7.length c0_7, .slice (some ad174) l0_8.length c0_8, .slice A0_9 l0_9.length c0_9] 30 (0, 0)) (by (with_reducible repeat (first | refine qj ?_ _ | refine qm ?_ | refine qi ?_ _)); exact BK170.out)) : gb175 ≠ gb170)); clear BK170; clear HB; have BK170 := n0_; have HB := n1_; have BK175 := n2_; have GW175 := n3_; have GE175 := n4_; have NB170_175 := n5_; have NB175_170 := n6_; clear n0_ n1_ n2_ n3_ n4_ n5_ n6_; clear hb hbox hg; have hnb34 := NB175_170.out; have hnc34 := NB170_175.out; have hcz35_0 : w33.cell? ⟨gb175, 0, none⟩ = some (.int .i64 0) := (qb BK175.out 0).trans rfl; have hcz35_1 : w33.cell? ⟨gb175, 1, none⟩ = some (.int .i64 0) := (qb BK175.out 1).trans rfl; have hcz35_2 : w33.cell? ⟨gb175, 2, none⟩ = some (.int .i64 0) := (qb BK175.out 2).trans rfl; have hcz35_3 : w33.cell? ⟨gb175, 3, none⟩ = some (.string (⟨#[]⟩ : ByteArray)) := (qb BK175.out 3).trans rfl; have hcz35_4 : w33.cell? ⟨gb175, 4, none⟩ = some (.int .i64 0) := (qb BK175.out 4).trans rfl; have hcz35_5 : w33.cell? ⟨gb175, 5, none⟩ = some (.int .i64 0) := (qb BK175.out 5).trans rfl; have hcz35_6 : w33.cell? ⟨gb175, 6, none⟩ = some (.string (⟨#[]⟩ : ByteArray)) := (qb BK175.out 6).trans rfl; have hcz35_7 : w33.cell? ⟨gb175, 7, none⟩ = some (.slice none 0 0) := (qb BK175.out 7).trans rfl; have hcz35_8 : w33.cell? ⟨gb175, 8, none⟩ = some (.slice none 0 0) := (qb BK175.out 8).trans rfl; have hcz35_9 : w33.cell? ⟨gb175, 9, none⟩ = some (.slice none 0 0) := (qb BK175.out 9).trans rfl; have hfz35_0 := qa BK175.out 0; have hfz35_1 := qa BK175.out 1; have hfz35_2 := qa BK175.out 2; have hfz35_3 := qa BK175.out 3; have hfz35_4 := qa BK175.out 4; have hfz35_5 := qa BK175.out 5; have hfz35_6 := qa BK175.out 6; have hfz35_7 := qa BK175.out 7; have hfz35_8 := qa BK175.out 8; have hfz35_9 := qa BK175.out 9) | ((with_reducible refine qb2 (f := 43) rfl ?_); refine qcn (some 45) rfl rfl Tryd.func43 (by kernel_rfl) rfl #[.agg #[.int .i64 ((qp l0_8 x40_2).f0), .int .i64 ((qp l0_8 x40_2).f1), .int .i64 ((qp l0_8 x40_2).f2), .string ((qp l0_8 x40_2).f3), .int .i64 ((qp l0_8 x40_2).f4.f0), .int .i64 ((qp l0_8 x40_2).f4.f1), .string ((qp l0_8 x40_2).f4.f2), .slice A174_7 ((qp l0_8 x40_2).f4.f3).length c174_7, .slice A174_8 ((qp l0_8 x40_2).f5).length c174_8, .slice A174_9 ((qp l0_8 x40_2).f6).length c174_9]] rfl (by (try simp only [List.map_toArray, List.map_cons, List.map_nil]); first | done | rfl | (simp only [List.length_drop, List.length_take]; rfl)) ?_; (with_reducible refine (ih k2 (by have := HJ1.out; have := HK2.out; omega) ((qp l0_8 x40_2).f0) ((qp l0_8 x40_2).f1) ((qp l0_8 x40_2).f2) ((qp l0_8 x40_2).f3) ((qp l0_8 x40_2).f4.f0) ((qp l0_8 x40_2).f4.f1) ((qp l0_8 x40_2).f4.f2) _ _ ((qp l0_8 x40_2).f4.f3) _ _ ((qp l0_8 x40_2).f5) _ _ ((qp l0_8 x40_2).f6) false _ ?side1 ?side2 ?side3 ?side4 ?side5 ?side6 ?side7 A27.out).mono ?_); (case side1 => exact Kd.qbv HR174_7.out (by repeat (first | (with_reducible first | exact HB.out | apply qg | apply qc | apply qh | refine ql ?_ GE170.out | refine ql ?_ GE175.out) | exact HB.out))); (case side2 => exact HC174_7.out); (case side3 => exact Kd.qbv HR174_8.out (by repeat (first | (with_reducible first | exact HB.out | apply qg | apply qc | apply qh | refine ql ?_ GE170.out | refine ql ?_ GE175.out) | exact HB.out))); (case side4 => exact HC174_8.out); (case side5 => exact Kd.qbv HR174_9.out (by repeat (first | (with_reducible first | exact HB.out | apply qg | apply qc | apply qh | refine ql ?_ GE170.out | refine ql ?_ GE175.out) | exact HB.out))); (case side6 => exact HC174_9.out); (case side7 => exact Lay.below HLAY.out (by repeat (first | (with_reducible first | exact HB.out | apply qg | apply qc | apply qh | refine ql ?_ GE170.out | refine ql ?_ GE175.out) | exact HB.out))); rintro e w36 ⟨rfl, hb⟩; refine ⟨_, rfl, ?_⟩; have n0_ := qd.mk (qbb (g := gb170) (o := .cells #[.int .i64 a0_0, .int .i64 a0_1, .int .i64 a0_2, .string a0_3, .int .i64 a0_4, .int .i64 a0_5, .string a0_6, .slice A0_7 l0_7.length c0_7, .slice (some ad174) l0_8.length c0_8, .slice A0_9 l0_9.length c0_9] 30 (0, 0)) (by (with_reducible repeat (first | refine qj ?_ _ | refine qm ?_ | refine qi ?_ _)); refine qbn ?_ NB170_175.out _; (with_reducible repeat (first | refine qj ?_ _ | refine qm ?_ | refine qi ?_ _)); refine qbn ?_ NB170_175.out _; (with_reducible repeat (first | refine qj ?_ _ | refine qm ?_ | refine qi ?_ _)); refine qbn ?_ NB170_175.out _; (with_reducible repeat (first | refine qj ?_ _ | refine qm ?_ | refine qi ?_ _)); refine qbn ?_ NB170_175.out _; (with_reducible repeat (first | refine qj ?_ _ | refine qm ?_ | refine qi ?_ _)); refine qbn ?_ NB170_175.out _; (with_reducible repeat (first | refine qj ?_ _ | refine qm ?_ | refine qi ?_ _)); refine qbn ?_ NB170_175.out _; (with_reducible repeat (first | refine qj ?_ _ | refine qm ?_ | refine qi ?_ _)); refine qbn ?_ NB170_175.out _; (with_reducible repeat (first | refine qj ?_ _ | refine qm ?_ | refine qi ?_ _)); refine qbn ?_ NB170_175.out _; (with_reducible repeat (first | refine qj ?_ _ | refine qm ?_ | refine qi ?_ _)); refine qbn ?_ NB170_175.out _; (with_reducible repeat (first | refine qj ?_ _ | refine qm ?_ | refine qi ?_ _)); refine qbn ?_ NB170_175.out _; (with_reducible repeat (first | refine qj ?_ _ | refine qm ?_ | refine qi ?_ _)); exact BK170.out) hb); have n1_ := qd.mk (qbb (g := gb175) (o := .cells #[.int .i64 ((qp l0_8 x40_2).f0), .int .i64 ((qp l0_8 x40_2).f1), .int .i64 ((qp l0_8 x40_2).f2), .string ((qp l0_8 x40_2).f3), .int .i64 ((qp l0_8 x40_2).f4.f0), .int .i64 ((qp l0_8 x40_2).f4.f1), .string ((qp l0_8 x40_2).f4.f2), .slice A174_7 ((qp l0_8 x40_2).f4.f3).length c174_7, .slice A174_8 ((qp l0_8 x40_2).f5).length c174_8, .slice A174_9 ((qp l0_8 x40_2).f6).length c174_9] 30 (0, 0)) (by (with_reducible repeat (first | refine qj ?_ _ | refine qm ?_ | refine qi ?_ _)); refine qbp (cs := #[.int .i64 ((qp l0_8 x40_2).f0), .int .i64 ((qp l0_8 x40_2).f1), .int .i64 ((qp l0_8 x40_2).f2), .string ((qp l0_8 x40_2).f3), .int .i64 ((qp l0_8 x40_2).f4.f0), .int .i64 ((qp l0_8 x40_2).f4.f1), .string ((qp l0_8 x40_2).f4.f2), .slice A174_7 ((qp l0_8 x40_2).f4.f3).length c174_7, .slice A174_8 ((qp l0_8 x40_2).f5).length c174_8, .slice none 0 0]) ?_ 9 _ rfl; (with_reducible repeat (first | refine qj ?_ _ | refine qm ?_ | refine qi ?_ _)); refine qbp (cs := #[.int .i64 ((qp l0_8 x40_2).f0), .int .i64 ((qp l0_8 x40_2).f1), .int .i64 ((qp l0_8 x40_2).f2), .string ((qp l0_8 x40_2).f3), .int .i64 ((qp l0_8 x40_2).f4.f0), .int .i64 ((qp l0_8 x40_2).f4.f1), .string ((qp l0_8 x40_2).f4.f2), .slice A174_7 ((qp l0_8 x40_2).f4.f3).length c174_7, .slice none 0 0, .slice none 0 0]) ?_ 8 _ rfl; (with_reducible repeat (first | refine qj ?_ _ | refine qm ?_ | refine qi ?_ _)); refine qbp (cs := #[.int .i64 ((qp l0_8 x40_2).f0), .int .i64 ((qp l0_8 x40_2).f1), .int .i64 ((qp l0_8 x40_2).f2), .string ((qp l0_8 x40_2).f3), .int .i64 ((qp l0_8 x40_2).f4.f0), .int .i64 ((qp l0_8 x40_2).f4.f1), .string ((qp l0_8 x40_2).f4.f2), .slice none 0 0, .slice none 0 0, .slice none 0 0]) ?_ 7 _ rfl; (with_reducible repeat (first | refine qj ?_ _ | refine qm ?_ | refine qi ?_ _)); refine qbp (cs := #[.int .i64 ((qp l0_8 x40_2).f0), .int .i64 ((qp l0_8 x40_2).f1), .int .i64 ((qp l0_8 x40_2).f2), .string ((qp l0_8 x40_2).f3), .int .i64 ((qp l0_8 x40_2).f4.f0), .int .i64 ((qp l0_8 x40_2).f4.f1), .string (⟨#[]⟩ : ByteArray), .slice none 0 0, .slice none 0 0, .slice none 0 0]) ?_ 6 _ rfl; (with_reducible repeat (first | refine qj ?_ _ | refine qm ?_ | refine qi ?_ _)); refine qbp (cs := #[.int .i64 ((qp l0_8 x40_2).f0), .int .i64 ((qp l0_8 x40_2).f1), .int .i64 ((qp l0_8 x40_2).f2), .string ((qp l0_8 x40_2).f3), .int .i64 ((qp l0_8 x40_2).f4.f0), .int .i64 0, .string (⟨#[]⟩ : ByteArray), .slice none 0 0, .slice none 0 0, .slice none 0 0]) ?_ 5 _ rfl; (with_reducible repeat (first | refine qj ?_ _ | refine qm ?_ | refine qi ?_ _)); refine qbp (cs := #[.int .i64 ((qp l0_8 x40_2).f0), .int .i64 ((qp l0_8 x40_2).f1), .int .i64 ((qp l0_8 x40_2).f2), .string ((qp l0_8 x40_2).f3), .int .i64 0, .int .i64 0, .string (⟨#[]⟩ : ByteArray), .slice none 0 0, .slice none 0 0, .slice none 0 0]) ?_ 4 _ rfl; (with_reducible repeat (first | refine qj ?_ _ | refine qm ?_ | refine qi ?_ _)); refine qbp (cs := #[.int .i64 ((qp l0_8 x40_2).f0), .int .i64 ((qp l0_8 x40_2).f1), .int .i64 ((qp l0_8 x40_2).f2), .string (⟨#[]⟩ : ByteArray), .int .i64 0, .int .i64 0, .string (⟨#[]⟩ : ByteArray), .slice none 0 0, .slice none 0 0, .slice none 0 0]) ?_ 3 _ rfl; (with_reducible repeat (first | refine qj ?_ _ | refine qm ?_ | refine qi ?_ _)); refine qbp (cs := #[.int .i64 ((qp l0_8 x40_2).f0), .int .i64 ((qp l0_8 x40_2).f1), .int .i64 0, .string (⟨#[]⟩ : ByteArray), .int .i64 0, .int .i64 0, .string (⟨#[]⟩ : ByteArray), .slice none 0 0, .slice none 0 0, .slice none 0 0]) ?_ 2 _ rfl; (with_reducible repeat (first | refine qj ?_ _ | refine qm ?_ | refine qi ?_ _)); refine qbp (cs := #[.int .i64 ((qp l0_8 x40_2).f0), .int .i64 0, .int .i64 0, .string (⟨#[]⟩ : ByteArray), .int .i64 0, .int .i64 0, .string (⟨#[]⟩ : ByteArray), .slice none 0 0, .slice none 0 0, .slice none 0 0]) ?_ 1 _ rfl; (with_reducible repeat (first | refine qj ?_ _ | refine qm ?_ | refine qi ?_ _)); refine qbp (cs := #[.int .i64 0, .int .i64 0, .int .i64 0, .string (⟨#[]⟩ : ByteArray), .int .i64 0, .int .i64 0, .string (⟨#[]⟩ : ByteArray), .slice none 0 0, .slice none 0 0, .slice none 0 0]) ?_ 0 _ rfl; (with_reducible repeat (first | refine qj ?_ _ | refine qm ?_ | refine qi ?_ _)); exact BK175.out) hb); have n2_ := qd.mk (qba (by repeat (first | (with_reducible first | exact HB.out | apply qg | apply qc | apply qh | refine ql ?_ GE170.out | refine ql ?_ GE175.out) | exact HB.out)) hb); clear BK170; clear BK175; clear HB; have BK170 := n0_; have BK175 := n1_; have HB := n2_; clear n0_ n1_ n2_; (try clear hb); (try clear hb2); (try clear hk); (try clear hi)))
          go_ret
          exact ⟨by first | rfl | (simp [q9, qz] <;> rfl) | (simp [*, q9, qz] <;> rfl), by repeat (first | (with_reducible first | exact HB.out | apply qg | apply qc | apply qh | refine ql ?_ GE170.out | refine ql ?_ GE175.out) | exact HB.out)⟩
        ·rw [if_neg c26] at H
         exact absurd H (by simp)
       ·rw [if_neg c25] at H
        exact absurd H (by simp)
      ·rw [if_neg c24] at H
       have c24b0 : decide (x40_2 < (l0_8.length : Int)) = false := decide_eq_false c24
       clear c24
       obtain rfl := Option.some.inj H
       go_wp2
       go_ret
       exact ⟨by first | rfl | (simp [q9, qz] <;> rfl) | (simp [*, q9, qz] <;> rfl), by repeat (first | (with_reducible first | exact HB.out | apply qg | apply qc | apply qh | refine ql ?_ GE170.out) | exact HB.out)⟩
end Go.Proofs.YtpgkhmdfddejfaaDoor.PV
end
