import Derived.Test.YtpgkhmdfddejfaaDoorZLPVx0
import Derived.Test.YtpgkhmdfddejfaaDoorZLPVx9
import Derived.Test.YtpgkhmdfddejfaaDoorZLPVx12
import Derived.Test.YtpgkhmdfddejfaaDoorZLPVx13d
section
namespace Go.Proofs.YtpgkhmdfddejfaaDoor.PV
open Go.RowKit Go.Proofs.YtpgkhmdfddejfaaDoorW.PrintWords Go.Proofs.YtpgkhmdfddejfaaDoorW.PrintLast Go.Proofs.YtpgkhmdfddejfaaDoorW.PrintMore
attribute [local go_sem] qcz qcx qdc qdb qcr qcq qcv qcy   -- for this text's walks alone
set_option linter.unusedVariables false
set_option linter.unusedSimpArgs false
set_option maxHeartbeats 8000000 in
set_option maxRecDepth 100000 in
theorem qf.calls (k : Nat) : ∀ (a0_0 : Int) (a0_1 : Int) (a0_2 : Int) (a0_3 : ByteArray) (a0_4 : Int) (a0_5 : Int) (a0_6 : ByteArray) (A0_7 : Option Addr) (c0_7 : Nat) (l0_7 : List (S27)) (A0_8 : Option Addr) (c0_8 : Nat) (l0_8 : List (S30)) (A0_9 : Option Addr) (c0_9 : Nat) (l0_9 : List (S27)) (a1 : Int) (r : Bool) (w : World) (hr0_7 : Kd.C k27 w A0_7 l0_7.length l0_7) (hc0_7 : l0_7.length ≤ c0_7) (hr0_8 : Kd.C k30 w A0_8 l0_8.length l0_8) (hc0_8 : l0_8.length ≤ c0_8) (hr0_9 : Kd.C k27 w A0_9 l0_9.length l0_9) (hc0_9 : l0_9.length ≤ c0_9) (h : qf.f k a0_0 a0_1 a0_2 a0_3 a0_4 a0_5 a0_6 l0_7 l0_8 l0_9 a1 = some r),
  Calls Tryd.prog 13 #[.agg #[.int .i64 a0_0, .int .i64 a0_1, .int .i64 a0_2, .string a0_3, .int .i64 a0_4, .int .i64 a0_5, .string a0_6, .slice A0_7 l0_7.length c0_7, .slice A0_8 l0_8.length c0_8, .slice A0_9 l0_9.length c0_9], .int .i64 a1] w fun e w' => e = .returned (.bool r) ∧ Below w.heap.size w w' := by
 induction k using Nat.strongRecOn with
 | _ k ih =>
 intro a0_0 a0_1 a0_2 a0_3 a0_4 a0_5 a0_6 A0_7 c0_7 l0_7 A0_8 c0_8 l0_8 A0_9 c0_9 l0_9 a1 r w hr0_7 hc0_7 hr0_8 hc0_8 hr0_9 hc0_9 h
 cases k with
 | zero => exact absurd h (by simp [qf.f])
 | succ k =>
 simp only [qf.f] at h
 have hu30 := Tryd.underlying30
 have hu27 := Tryd.underlying27
 have HR0_7 := qd.mk hr0_7
 have HC0_7 := qd.mk hc0_7
 clear hr0_7 hc0_7
 have HR0_8 := qd.mk hr0_8
 have HC0_8 := qd.mk hc0_8
 clear hr0_8 hc0_8
 have HR0_9 := qd.mk hr0_9
 have HC0_9 := qd.mk hc0_9
 clear hr0_9 hc0_9
 have HB := qd.mk (Below.refl w.heap.size w)
 have H : (if a1 > 40 then (qf.j0 k a1 true a0_0 a0_1 a0_2 a0_3 a0_4 a0_5 a0_6 l0_7 l0_8 l0_9) else (if a0_0 < 0 then (qf.j0 k a1 true a0_0 a0_1 a0_2 a0_3 a0_4 a0_5 a0_6 l0_7 l0_8 l0_9) else (if a0_0 > 15 then (qf.j0 k a1 true a0_0 a0_1 a0_2 a0_3 a0_4 a0_5 a0_6 l0_7 l0_8 l0_9) else (qf.j0 k a1 (a0_0 == 10) a0_0 a0_1 a0_2 a0_3 a0_4 a0_5 a0_6 l0_7 l0_8 l0_9)))) = some r := h
 clear h
 have HC3 := qd.mk H
 clear H
 go_enter Tryd.func13, Tryd.ntmps13
 go_upto_region 1 with (first | ((with_reducible refine qby (N := 2) rfl ?_); (try (refine qcb (by rfl) ?_; dsimp only)); refine qbx ?hg (N := 2) ?hd (cs := #[.int .i64 a0_0, .int .i64 a0_1, .int .i64 a0_2, .string a0_3, .int .i64 a0_4, .int .i64 a0_5, .string a0_6, .slice A0_7 l0_7.length c0_7, .slice A0_8 l0_8.length c0_8, .slice A0_9 l0_9.length c0_9]) (t := 30) ?hr ?_; (case hd => rfl); (case hg => rfl); (case hr => first | (go_simp; done) | (go_simp; rfl)); intro gb221 hg w4 hbox hb; have n0_ := qd.mk (qba (by repeat (first | (with_reducible first | exact HB.out | apply qg | apply qc | apply qh) | exact HB.out)) hb); have n1_ := qd.mk (hbox); have n2_ := qd.mk ((by rw [hg]; exact (qbc (by repeat (first | (with_reducible first | exact HB.out | apply qg | apply qc | apply qh) | exact HB.out))) : w.heap.size ≤ gb221)); have n3_ := qd.mk ((by rw [hg]; exact (qbc (by repeat (first | (with_reducible first | exact HB.out | apply qg | apply qc | apply qh) | exact HB.out))) : w.heap.size ≤ gb221)); clear HB; have HB := n0_; have BK221 := n1_; have GW221 := n2_; have GE221 := n3_; clear n0_ n1_ n2_ n3_; clear hb hbox hg))
 (try simp only [Act.put, List.setIfInBounds_toArray, List.set_cons_zero, List.set_cons_succ])
 go_cut [28] (fun v28 wc => ∃ (kq : Nat) (x28_2 : Bool), v28 = .bool x28_2 ∧ qd (qf.j0 kq a1 x28_2 a0_0 a0_1 a0_2 a0_3 a0_4 a0_5 a0_6 l0_7 l0_8 l0_9 = some r) ∧ qd (kq ≤ k) ∧ qd (wc.heap[gb221]? = some (.cells #[.int .i64 a0_0, .int .i64 a0_1, .int .i64 a0_2, .string a0_3, .int .i64 a0_4, .int .i64 a0_5, .string a0_6, (.slice A0_7 l0_7.length c0_7), (.slice A0_8 l0_8.length c0_8), (.slice A0_9 l0_9.length c0_9)] 30 (0, 0))) ∧ qd (Below w.heap.size w wc))
 case first =>
  as_aux_lemma =>
   have H := HC3.out
   clear HC3
   by_cases c5 : a1 > 40
   ·rw [if_pos c5] at H
    have c5b0 : decide (40 < a1) = true := decide_eq_true c5
    clear c5
    (first | rw [c5b0] | (simp only [i64_w, i32_w]; rw [c5b0]) | skip)
    have H' := qd.mk H
    clear H
    go_wp2
    go_meet
    case rel => exact ⟨_, (true), (by first | rfl | (simp; done) | (simp [*]; done)), H', ⟨by first | omega | exact Nat.le_refl _⟩, ⟨by (with_reducible repeat (first | refine qj ?_ _ | refine qm ?_ | refine qi ?_ _)); exact BK221.out⟩, ⟨by repeat (first | (with_reducible first | exact HB.out | apply qg | apply qc | apply qh | refine ql ?_ GE221.out) | exact HB.out)⟩⟩
   ·rw [if_neg c5] at H
    have c5b0 : decide (40 < a1) = false := decide_eq_false c5
    clear c5
    (first | rw [c5b0] | (simp only [i64_w, i32_w]; rw [c5b0]) | skip)
    by_cases c6 : a0_0 < 0
    ·rw [if_pos c6] at H
     have c6b0 : decide (a0_0 < 0) = true := decide_eq_true c6
     clear c6
     have H' := qd.mk H
     clear H
     have hcz7_0 : w4.cell? ⟨gb221, 0, none⟩ = some (.int .i64 a0_0) := (qb BK221.out 0).trans rfl
     have hcz7_1 : w4.cell? ⟨gb221, 1, none⟩ = some (.int .i64 a0_1) := (qb BK221.out 1).trans rfl
     have hcz7_2 : w4.cell? ⟨gb221, 2, none⟩ = some (.int .i64 a0_2) := (qb BK221.out 2).trans rfl
     have hcz7_3 : w4.cell? ⟨gb221, 3, none⟩ = some (.string a0_3) := (qb BK221.out 3).trans rfl
     have hcz7_4 : w4.cell? ⟨gb221, 4, none⟩ = some (.int .i64 a0_4) := (qb BK221.out 4).trans rfl
     have hcz7_5 : w4.cell? ⟨gb221, 5, none⟩ = some (.int .i64 a0_5) := (qb BK221.out 5).trans rfl
     have hcz7_6 : w4.cell? ⟨gb221, 6, none⟩ = some (.string a0_6) := (qb BK221.out 6).trans rfl
     have hcz7_7 : w4.cell? ⟨gb221, 7, none⟩ = some (.slice A0_7 l0_7.length c0_7) := (qb BK221.out 7).trans rfl
     have hcz7_8 : w4.cell? ⟨gb221, 8, none⟩ = some (.slice A0_8 l0_8.length c0_8) := (qb BK221.out 8).trans rfl
     have hcz7_9 : w4.cell? ⟨gb221, 9, none⟩ = some (.slice A0_9 l0_9.length c0_9) := (qb BK221.out 9).trans rfl
     have hfz7_0 := qa BK221.out 0
     have hfz7_1 := qa BK221.out 1
     have hfz7_2 := qa BK221.out 2
     have hfz7_3 := qa BK221.out 3
     have hfz7_4 := qa BK221.out 4
     have hfz7_5 := qa BK221.out 5
     have hfz7_6 := qa BK221.out 6
     have hfz7_7 := qa BK221.out 7
     have hfz7_8 := qa BK221.out 8
     have hfz7_9 := qa BK221.out 9
     go_wp2
     go_meet
     case rel => exact ⟨_, (true), (by first | rfl | (simp; done) | (simp [*]; done)), H', ⟨by first | omega | exact Nat.le_refl _⟩, ⟨by (with_reducible repeat (first | refine qj ?_ _ | refine qm ?_ | refine qi ?_ _)); exact BK221.out⟩, ⟨by repeat (first | (with_reducible first | exact HB.out | apply qg | apply qc | apply qh | refine ql ?_ GE221.out) | exact HB.out)⟩⟩
    ·rw [if_neg c6] at H
     have c6b0 : decide (a0_0 < 0) = false := decide_eq_false c6
     clear c6
     by_cases c8 : a0_0 > 15
     ·rw [if_pos c8] at H
      have c8b0 : decide (15 < a0_0) = true := decide_eq_true c8
      clear c8
      have H' := qd.mk H
      clear H
      have hcz9_0 : w4.cell? ⟨gb221, 0, none⟩ = some (.int .i64 a0_0) := (qb BK221.out 0).trans rfl
      have hcz9_1 : w4.cell? ⟨gb221, 1, none⟩ = some (.int .i64 a0_1) := (qb BK221.out 1).trans rfl
      have hcz9_2 : w4.cell? ⟨gb221, 2, none⟩ = some (.int .i64 a0_2) := (qb BK221.out 2).trans rfl
      have hcz9_3 : w4.cell? ⟨gb221, 3, none⟩ = some (.string a0_3) := (qb BK221.out 3).trans rfl
      have hcz9_4 : w4.cell? ⟨gb221, 4, none⟩ = some (.int .i64 a0_4) := (qb BK221.out 4).trans rfl
      have hcz9_5 : w4.cell? ⟨gb221, 5, none⟩ = some (.int .i64 a0_5) := (qb BK221.out 5).trans rfl
      have hcz9_6 : w4.cell? ⟨gb221, 6, none⟩ = some (.string a0_6) := (qb BK221.out 6).trans rfl
      have hcz9_7 : w4.cell? ⟨gb221, 7, none⟩ = some (.slice A0_7 l0_7.length c0_7) := (qb BK221.out 7).trans rfl
      have hcz9_8 : w4.cell? ⟨gb221, 8, none⟩ = some (.slice A0_8 l0_8.length c0_8) := (qb BK221.out 8).trans rfl
      have hcz9_9 : w4.cell? ⟨gb221, 9, none⟩ = some (.slice A0_9 l0_9.length c0_9) := (qb BK221.out 9).trans rfl
      have hfz9_0 := qa BK221.out 0
      have hfz9_1 := qa BK221.out 1
      have hfz9_2 := qa BK221.out 2
      have hfz9_3 := qa BK221.out 3
      have hfz9_4 := qa BK221.out 4
      have hfz9_5 := qa BK221.out 5
      have hfz9_6 := qa BK221.out 6
      have hfz9_7 := qa BK221.out 7
      have hfz9_8 := qa BK221.out 8
      have hfz9_9 := qa BK221.out 9
      go_wp2
      go_meet
      case rel => exact ⟨_, (true), (by first | rfl | (simp; done) | (simp [*]; done)), H', ⟨by first | omega | exact Nat.le_refl _⟩, ⟨by (with_reducible repeat (first | refine qj ?_ _ | refine qm ?_ | refine qi ?_ _)); exact BK221.out⟩, ⟨by repeat (first | (with_reducible first | exact HB.out | apply qg | apply qc | apply qh | refine ql ?_ GE221.out) | exact HB.out)⟩⟩
     ·rw [if_neg c8] at H
      have c8b0 : decide (15 < a0_0) = false := decide_eq_false c8
      clear c8
      have H' := qd.mk H
      clear H
      have hcz10_0 : w4.cell? ⟨gb221, 0, none⟩ = some (.int .i64 a0_0) := (qb BK221.out 0).trans rfl
      have hcz10_1 : w4.cell? ⟨gb221, 1, none⟩ = some (.int .i64 a0_1) := (qb BK221.out 1).trans rfl
      have hcz10_2 : w4.cell? ⟨gb221, 2, none⟩ = some (.int .i64 a0_2) := (qb BK221.out 2).trans rfl
      have hcz10_3 : w4.cell? ⟨gb221, 3, none⟩ = some (.string a0_3) := (qb BK221.out 3).trans rfl
      have hcz10_4 : w4.cell? ⟨gb221, 4, none⟩ = some (.int .i64 a0_4) := (qb BK221.out 4).trans rfl
      have hcz10_5 : w4.cell? ⟨gb221, 5, none⟩ = some (.int .i64 a0_5) := (qb BK221.out 5).trans rfl
      have hcz10_6 : w4.cell? ⟨gb221, 6, none⟩ = some (.string a0_6) := (qb BK221.out 6).trans rfl
      have hcz10_7 : w4.cell? ⟨gb221, 7, none⟩ = some (.slice A0_7 l0_7.length c0_7) := (qb BK221.out 7).trans rfl
      have hcz10_8 : w4.cell? ⟨gb221, 8, none⟩ = some (.slice A0_8 l0_8.length c0_8) := (qb BK221.out 8).trans rfl
      have hcz10_9 : w4.cell? ⟨gb221, 9, none⟩ = some (.slice A0_9 l0_9.length c0_9) := (qb BK221.out 9).trans rfl
      have hfz10_0 := qa BK221.out 0
      have hfz10_1 := qa BK221.out 1
      have hfz10_2 := qa BK221.out 2
      have hfz10_3 := qa BK221.out 3
      have hfz10_4 := qa BK221.out 4
      have hfz10_5 := qa BK221.out 5
      have hfz10_6 := qa BK221.out 6
      have hfz10_7 := qa BK221.out 7
      have hfz10_8 := qa BK221.out 8
      have hfz10_9 := qa BK221.out 9
      go_wp2
      go_meet
      case rel => exact ⟨_, ((a0_0 == 10)), (by first | rfl | (simp; done) | (simp [*]; done)), H', ⟨by first | omega | exact Nat.le_refl _⟩, ⟨by (with_reducible repeat (first | refine qj ?_ _ | refine qm ?_ | refine qi ?_ _)); exact BK221.out⟩, ⟨by repeat (first | (with_reducible first | exact HB.out | apply qg | apply qc | apply qh | refine ql ?_ GE221.out) | exact HB.out)⟩⟩
 case rest =>
  clear HC3
  (try clear c1); (try clear p2); (try clear c5); (try clear c5b0); (try clear c6); (try clear c6b0); (try clear c8); (try clear c8b0); (try clear hcz10_0 hcz10_1 hcz10_2 hcz10_3 hcz10_4 hcz10_5 hcz10_6 hcz10_7 hcz10_8 hcz10_9); (try clear hcz7_0 hcz7_1 hcz7_2 hcz7_3 hcz7_4 hcz7_5 hcz7_6 hcz7_7 hcz7_8 hcz7_9); (try clear hcz9_0 hcz9_1 hcz9_2 hcz9_3 hcz9_4 hcz9_5 hcz9_6 hcz9_7 hcz9_8 hcz9_9); (try clear hfz10_0 hfz10_1 hfz10_2 hfz10_3 hfz10_4 hfz10_5 hfz10_6 hfz10_7 hfz10_8 hfz10_9); (try clear hfz7_0 hfz7_1 hfz7_2 hfz7_3 hfz7_4 hfz7_5 hfz7_6 hfz7_7 hfz7_8 hfz7_9); (try clear hfz9_0 hfz9_1 hfz9_2 hfz9_3 hfz9_4 hfz9_5 hfz9_6 hfz9_7 hfz9_8 hfz9_9)
  obtain ⟨kq, x28_2, rfl, HA, HJ2, BK221, HB⟩ := hcut
  cases kq with
  | zero => exact absurd HA.out (by simp [qf.j0])
  | succ kj2 =>
   have H := HA.out
   clear HA
   simp only [qf.j0] at H
   by_cases c11 : x28_2 = true
   ·subst c11
    have H1 : (some false) = some r := by rw [if_pos rfl] at H; exact H
    clear H
    have H := H1
    clear H1
    obtain rfl := Option.some.inj H
    go_wp2
    go_ret
    exact ⟨by first | rfl | (simp [q9, qz] <;> rfl) | (simp [*, q9, qz] <;> rfl), by repeat (first | (with_reducible first | exact HB.out | apply qg | apply qc | apply qh | refine ql ?_ GE221.out) | exact HB.out)⟩
   ·replace c11 := Bool.eq_false_iff.mpr c11
    subst c11
    have H1 : (if a0_0 ≤ 4 then (qf.j1 kj2 a1 (l0_8.length : Int) true a0_0 a0_1 a0_2 a0_3 a0_4 a0_5 a0_6 l0_7 l0_8 l0_9) else (qf.j1 kj2 a1 (l0_8.length : Int) (a0_0 == 11) a0_0 a0_1 a0_2 a0_3 a0_4 a0_5 a0_6 l0_7 l0_8 l0_9)) = some r := by rw [if_neg (show ¬ (false = true) by decide)] at H; exact H
    clear H
    have H := H1
    clear H1
    have HC12 := qd.mk H
    clear H
    have hcz13_0 : wc.cell? ⟨gb221, 0, none⟩ = some (.int .i64 a0_0) := (qb BK221.out 0).trans rfl
    have hcz13_1 : wc.cell? ⟨gb221, 1, none⟩ = some (.int .i64 a0_1) := (qb BK221.out 1).trans rfl
    have hcz13_2 : wc.cell? ⟨gb221, 2, none⟩ = some (.int .i64 a0_2) := (qb BK221.out 2).trans rfl
    have hcz13_3 : wc.cell? ⟨gb221, 3, none⟩ = some (.string a0_3) := (qb BK221.out 3).trans rfl
    have hcz13_4 : wc.cell? ⟨gb221, 4, none⟩ = some (.int .i64 a0_4) := (qb BK221.out 4).trans rfl
    have hcz13_5 : wc.cell? ⟨gb221, 5, none⟩ = some (.int .i64 a0_5) := (qb BK221.out 5).trans rfl
    have hcz13_6 : wc.cell? ⟨gb221, 6, none⟩ = some (.string a0_6) := (qb BK221.out 6).trans rfl
    have hcz13_7 : wc.cell? ⟨gb221, 7, none⟩ = some (.slice A0_7 l0_7.length c0_7) := (qb BK221.out 7).trans rfl
    have hcz13_8 : wc.cell? ⟨gb221, 8, none⟩ = some (.slice A0_8 l0_8.length c0_8) := (qb BK221.out 8).trans rfl
    have hcz13_9 : wc.cell? ⟨gb221, 9, none⟩ = some (.slice A0_9 l0_9.length c0_9) := (qb BK221.out 9).trans rfl
    have hfz13_0 := qa BK221.out 0
    have hfz13_1 := qa BK221.out 1
    have hfz13_2 := qa BK221.out 2
    have hfz13_3 := qa BK221.out 3
    have hfz13_4 := qa BK221.out 4
    have hfz13_5 := qa BK221.out 5
    have hfz13_6 := qa BK221.out 6
    have hfz13_7 := qa BK221.out 7
    have hfz13_8 := qa BK221.out 8
    have hfz13_9 := qa BK221.out 9
    go_upto_region 4 with (fail)
    go_cut [6] (fun v6 wc => ∃ (kq : Nat) (x6_11 : Bool), v6 = .bool x6_11 ∧ qd (qf.j1 kq a1 (l0_8.length : Int) x6_11 a0_0 a0_1 a0_2 a0_3 a0_4 a0_5 a0_6 l0_7 l0_8 l0_9 = some r) ∧ qd (kq ≤ kj2) ∧ qd (wc.heap[gb221]? = some (.cells #[.int .i64 a0_0, .int .i64 a0_1, .int .i64 a0_2, .string a0_3, .int .i64 a0_4, .int .i64 a0_5, .string a0_6, (.slice A0_7 l0_7.length c0_7), (.slice A0_8 l0_8.length c0_8), (.slice A0_9 l0_9.length c0_9)] 30 (0, 0))) ∧ qd (Below w.heap.size w wc))
    case first =>
     as_aux_lemma =>
      have H := HC12.out
      clear HC12
      by_cases c14 : a0_0 ≤ 4
      ·rw [if_pos c14] at H
       have c14b0 : decide (a0_0 ≤ 4) = true := decide_eq_true c14
       clear c14
       (first | rw [c14b0] | (simp only [i64_w, i32_w]; rw [c14b0]) | skip)
       have H' := qd.mk H
       clear H
       have hcz15_0 : wc.cell? ⟨gb221, 0, none⟩ = some (.int .i64 a0_0) := (qb BK221.out 0).trans rfl
       have hcz15_1 : wc.cell? ⟨gb221, 1, none⟩ = some (.int .i64 a0_1) := (qb BK221.out 1).trans rfl
       have hcz15_2 : wc.cell? ⟨gb221, 2, none⟩ = some (.int .i64 a0_2) := (qb BK221.out 2).trans rfl
       have hcz15_3 : wc.cell? ⟨gb221, 3, none⟩ = some (.string a0_3) := (qb BK221.out 3).trans rfl
       have hcz15_4 : wc.cell? ⟨gb221, 4, none⟩ = some (.int .i64 a0_4) := (qb BK221.out 4).trans rfl
       have hcz15_5 : wc.cell? ⟨gb221, 5, none⟩ = some (.int .i64 a0_5) := (qb BK221.out 5).trans rfl
       have hcz15_6 : wc.cell? ⟨gb221, 6, none⟩ = some (.string a0_6) := (qb BK221.out 6).trans rfl
       have hcz15_7 : wc.cell? ⟨gb221, 7, none⟩ = some (.slice A0_7 l0_7.length c0_7) := (qb BK221.out 7).trans rfl
       have hcz15_8 : wc.cell? ⟨gb221, 8, none⟩ = some (.slice A0_8 l0_8.length c0_8) := (qb BK221.out 8).trans rfl
       have hcz15_9 : wc.cell? ⟨gb221, 9, none⟩ = some (.slice A0_9 l0_9.length c0_9) := (qb BK221.out 9).trans rfl
       have hfz15_0 := qa BK221.out 0
       have hfz15_1 := qa BK221.out 1
       have hfz15_2 := qa BK221.out 2
       have hfz15_3 := qa BK221.out 3
       have hfz15_4 := qa BK221.out 4
       have hfz15_5 := qa BK221.out 5
       have hfz15_6 := qa BK221.out 6
       have hfz15_7 := qa BK221.out 7
       have hfz15_8 := qa BK221.out 8
       have hfz15_9 := qa BK221.out 9
       go_wp2
       go_meet
       case rel => exact ⟨_, (true), (by first | rfl | (simp; done) | (simp [*]; done)), H', ⟨by have := HJ2.out; first | omega | exact Nat.le_refl _⟩, ⟨by (with_reducible repeat (first | refine qj ?_ _ | refine qm ?_ | refine qi ?_ _)); exact BK221.out⟩, ⟨by repeat (first | (with_reducible first | exact HB.out | apply qg | apply qc | apply qh | refine ql ?_ GE221.out) | exact HB.out)⟩⟩
      ·rw [if_neg c14] at H
       have c14b0 : decide (a0_0 ≤ 4) = false := decide_eq_false c14
       clear c14
       (first | rw [c14b0] | (simp only [i64_w, i32_w]; rw [c14b0]) | skip)
       have H' := qd.mk H
       clear H
       have hcz16_0 : wc.cell? ⟨gb221, 0, none⟩ = some (.int .i64 a0_0) := (qb BK221.out 0).trans rfl
       have hcz16_1 : wc.cell? ⟨gb221, 1, none⟩ = some (.int .i64 a0_1) := (qb BK221.out 1).trans rfl
       have hcz16_2 : wc.cell? ⟨gb221, 2, none⟩ = some (.int .i64 a0_2) := (qb BK221.out 2).trans rfl
       have hcz16_3 : wc.cell? ⟨gb221, 3, none⟩ = some (.string a0_3) := (qb BK221.out 3).trans rfl
       have hcz16_4 : wc.cell? ⟨gb221, 4, none⟩ = some (.int .i64 a0_4) := (qb BK221.out 4).trans rfl
       have hcz16_5 : wc.cell? ⟨gb221, 5, none⟩ = some (.int .i64 a0_5) := (qb BK221.out 5).trans rfl
       have hcz16_6 : wc.cell? ⟨gb221, 6, none⟩ = some (.string a0_6) := (qb BK221.out 6).trans rfl
       have hcz16_7 : wc.cell? ⟨gb221, 7, none⟩ = some (.slice A0_7 l0_7.length c0_7) := (qb BK221.out 7).trans rfl
       have hcz16_8 : wc.cell? ⟨gb221, 8, none⟩ = some (.slice A0_8 l0_8.length c0_8) := (qb BK221.out 8).trans rfl
       have hcz16_9 : wc.cell? ⟨gb221, 9, none⟩ = some (.slice A0_9 l0_9.length c0_9) := (qb BK221.out 9).trans rfl
       have hfz16_0 := qa BK221.out 0
       have hfz16_1 := qa BK221.out 1
       have hfz16_2 := qa BK221.out 2
       have hfz16_3 := qa BK221.out 3
       have hfz16_4 := qa BK221.out 4
       have hfz16_5 := qa BK221.out 5
       have hfz16_6 := qa BK221.out 6
       have hfz16_7 := qa BK221.out 7
       have hfz16_8 := qa BK221.out 8
       have hfz16_9 := qa BK221.out 9
       go_wp2
       go_meet
       case rel => exact ⟨_, ((a0_0 == 11)), (by first | rfl | (simp; done) | (simp [*]; done)), H', ⟨by have := HJ2.out; first | omega | exact Nat.le_refl _⟩, ⟨by (with_reducible repeat (first | refine qj ?_ _ | refine qm ?_ | refine qi ?_ _)); exact BK221.out⟩, ⟨by repeat (first | (with_reducible first | exact HB.out | apply qg | apply qc | apply qh | refine ql ?_ GE221.out) | exact HB.out)⟩⟩
    case rest =>
     clear HC12
     (try clear c1); (try clear p2); (try clear c5); (try clear c5b0); (try clear c6); (try clear c6b0); (try clear c8); (try clear c8b0); (try clear c11); (try clear c13); (try clear c14); (try clear c14b0); (try clear hcz10_0 hcz10_1 hcz10_2 hcz10_3 hcz10_4 hcz10_5 hcz10_6 hcz10_7 hcz10_8 hcz10_9); (try clear hcz13_0 hcz13_1 hcz13_2 hcz13_3 hcz13_4 hcz13_5 hcz13_6 hcz13_7 hcz13_8 hcz13_9); (try clear hcz15_0 hcz15_1 hcz15_2 hcz15_3 hcz15_4 hcz15_5 hcz15_6 hcz15_7 hcz15_8 hcz15_9); (try clear hcz16_0 hcz16_1 hcz16_2 hcz16_3 hcz16_4 hcz16_5 hcz16_6 hcz16_7 hcz16_8 hcz16_9); (try clear hcz7_0 hcz7_1 hcz7_2 hcz7_3 hcz7_4 hcz7_5 hcz7_6 hcz7_7 hcz7_8 hcz7_9); (try clear hcz9_0 hcz9_1 hcz9_2 hcz9_3 hcz9_4 hcz9_5 hcz9_6 hcz9_7 hcz9_8 hcz9_9); (try clear hfz10_0 hfz10_1 hfz10_2 hfz10_3 hfz10_4 hfz10_5 hfz10_6 hfz10_7 hfz10_8 hfz10_9); (try clear hfz13_0 hfz13_1 hfz13_2 hfz13_3 hfz13_4 hfz13_5 hfz13_6 hfz13_7 hfz13_8 hfz13_9); (try clear hfz15_0 hfz15_1 hfz15_2 hfz15_3 hfz15_4 hfz15_5 hfz15_6 hfz15_7 hfz15_8 hfz15_9); (try clear hfz16_0 hfz16_1 hfz16_2 hfz16_3 hfz16_4 hfz16_5 hfz16_6 hfz16_7 hfz16_8 hfz16_9); (try clear hfz7_0 hfz7_1 hfz7_2 hfz7_3 hfz7_4 hfz7_5 hfz7_6 hfz7_7 hfz7_8 hfz7_9); (try clear hfz9_0 hfz9_1 hfz9_2 hfz9_3 hfz9_4 hfz9_5 hfz9_6 hfz9_7 hfz9_8 hfz9_9); (try clear p2)
     obtain ⟨kq, x6_11, rfl, HA, HJ11, BK221, HB⟩ := hcut
     cases kq with
     | zero => exact absurd HA.out (by simp [qf.j1])
     | succ kj11 =>
      have H := HA.out
      clear HA
      simp only [qf.j1] at H
      have HC17 := qd.mk H
      clear H
      go_upto_region 5 with (fail)
      go_cut [7] (fun v7 wc => ∃ (kq : Nat) (x7_16 : Bool), v7 = .bool x7_16 ∧ qd (qf.j2 kq a1 (l0_8.length : Int) x6_11 x7_16 a0_0 a0_1 a0_2 a0_3 a0_4 a0_5 a0_6 l0_7 l0_8 l0_9 = some r) ∧ qd (kq ≤ kj11) ∧ qd (wc.heap[gb221]? = some (.cells #[.int .i64 a0_0, .int .i64 a0_1, .int .i64 a0_2, .string a0_3, .int .i64 a0_4, .int .i64 a0_5, .string a0_6, (.slice A0_7 l0_7.length c0_7), (.slice A0_8 l0_8.length c0_8), (.slice A0_9 l0_9.length c0_9)] 30 (0, 0))) ∧ qd (Below w.heap.size w wc))
      case first =>
       as_aux_lemma =>
        have H := HC17.out
        clear HC17
        by_cases c18 : a0_0 = 5
        ·rw [if_pos c18] at H
         have c18b0 : (a0_0 == 5) = true := beq_iff_eq.mpr c18
         have c18b1 : (a0_0 != 5) = false := bne_eq_false_iff_eq.mpr c18
         clear c18
         (first | rw [c18b0] | (simp only [i64_w, i32_w]; rw [c18b0]) | skip)
         have H' := qd.mk H
         clear H
         have hcz19_0 : wc.cell? ⟨gb221, 0, none⟩ = some (.int .i64 a0_0) := (qb BK221.out 0).trans rfl
         have hcz19_1 : wc.cell? ⟨gb221, 1, none⟩ = some (.int .i64 a0_1) := (qb BK221.out 1).trans rfl
         have hcz19_2 : wc.cell? ⟨gb221, 2, none⟩ = some (.int .i64 a0_2) := (qb BK221.out 2).trans rfl
         have hcz19_3 : wc.cell? ⟨gb221, 3, none⟩ = some (.string a0_3) := (qb BK221.out 3).trans rfl
         have hcz19_4 : wc.cell? ⟨gb221, 4, none⟩ = some (.int .i64 a0_4) := (qb BK221.out 4).trans rfl
         have hcz19_5 : wc.cell? ⟨gb221, 5, none⟩ = some (.int .i64 a0_5) := (qb BK221.out 5).trans rfl
         have hcz19_6 : wc.cell? ⟨gb221, 6, none⟩ = some (.string a0_6) := (qb BK221.out 6).trans rfl
         have hcz19_7 : wc.cell? ⟨gb221, 7, none⟩ = some (.slice A0_7 l0_7.length c0_7) := (qb BK221.out 7).trans rfl
         have hcz19_8 : wc.cell? ⟨gb221, 8, none⟩ = some (.slice A0_8 l0_8.length c0_8) := (qb BK221.out 8).trans rfl
         have hcz19_9 : wc.cell? ⟨gb221, 9, none⟩ = some (.slice A0_9 l0_9.length c0_9) := (qb BK221.out 9).trans rfl
         have hfz19_0 := qa BK221.out 0
         have hfz19_1 := qa BK221.out 1
         have hfz19_2 := qa BK221.out 2
         have hfz19_3 := qa BK221.out 3
         have hfz19_4 := qa BK221.out 4
         have hfz19_5 := qa BK221.out 5
         have hfz19_6 := qa BK221.out 6
         have hfz19_7 := qa BK221.out 7
         have hfz19_8 := qa BK221.out 8
         have hfz19_9 := qa BK221.out 9
         go_wp2
         go_meet
         case rel => exact ⟨_, (true), (by first | rfl | (simp; done) | (simp [*]; done)), H', ⟨by have := HJ2.out; have := HJ11.out; first | omega | exact Nat.le_refl _⟩, ⟨by (with_reducible repeat (first | refine qj ?_ _ | refine qm ?_ | refine qi ?_ _)); exact BK221.out⟩, ⟨by repeat (first | (with_reducible first | exact HB.out | apply qg | apply qc | apply qh | refine ql ?_ GE221.out) | exact HB.out)⟩⟩
        ·rw [if_neg c18] at H
         have c18b0 : (a0_0 == 5) = false := beq_eq_false_iff_ne.mpr c18
         have c18b1 : (a0_0 != 5) = true := bne_iff_ne.mpr c18
         (first | rw [c18b0] | (simp only [i64_w, i32_w]; rw [c18b0]) | skip)
         have H' := qd.mk H
         clear H
         have hcz20_0 : wc.cell? ⟨gb221, 0, none⟩ = some (.int .i64 a0_0) := (qb BK221.out 0).trans rfl
         have hcz20_1 : wc.cell? ⟨gb221, 1, none⟩ = some (.int .i64 a0_1) := (qb BK221.out 1).trans rfl
         have hcz20_2 : wc.cell? ⟨gb221, 2, none⟩ = some (.int .i64 a0_2) := (qb BK221.out 2).trans rfl
         have hcz20_3 : wc.cell? ⟨gb221, 3, none⟩ = some (.string a0_3) := (qb BK221.out 3).trans rfl
         have hcz20_4 : wc.cell? ⟨gb221, 4, none⟩ = some (.int .i64 a0_4) := (qb BK221.out 4).trans rfl
         have hcz20_5 : wc.cell? ⟨gb221, 5, none⟩ = some (.int .i64 a0_5) := (qb BK221.out 5).trans rfl
         have hcz20_6 : wc.cell? ⟨gb221, 6, none⟩ = some (.string a0_6) := (qb BK221.out 6).trans rfl
         have hcz20_7 : wc.cell? ⟨gb221, 7, none⟩ = some (.slice A0_7 l0_7.length c0_7) := (qb BK221.out 7).trans rfl
         have hcz20_8 : wc.cell? ⟨gb221, 8, none⟩ = some (.slice A0_8 l0_8.length c0_8) := (qb BK221.out 8).trans rfl
         have hcz20_9 : wc.cell? ⟨gb221, 9, none⟩ = some (.slice A0_9 l0_9.length c0_9) := (qb BK221.out 9).trans rfl
         have hfz20_0 := qa BK221.out 0
         have hfz20_1 := qa BK221.out 1
         have hfz20_2 := qa BK221.out 2
         have hfz20_3 := qa BK221.out 3
         have hfz20_4 := qa BK221.out 4
         have hfz20_5 := qa BK221.out 5
         have hfz20_6 := qa BK221.out 6
         have hfz20_7 := qa BK221.out 7
         have hfz20_8 := qa BK221.out 8
         have hfz20_9 := qa BK221.out 9
         go_wp2
         go_meet
         case rel => exact ⟨_, ((a0_0 == 6)), (by first | rfl | (simp; done) | (simp [*]; done)), H', ⟨by have := HJ2.out; have := HJ11.out; first | omega | exact Nat.le_refl _⟩, ⟨by (with_reducible repeat (first | refine qj ?_ _ | refine qm ?_ | refine qi ?_ _)); exact BK221.out⟩, ⟨by repeat (first | (with_reducible first | exact HB.out | apply qg | apply qc | apply qh | refine ql ?_ GE221.out) | exact HB.out)⟩⟩
      case rest =>
       clear HC17
       (try clear c1); (try clear p2); (try clear c5); (try clear c5b0); (try clear c6); (try clear c6b0); (try clear c8); (try clear c8b0); (try clear c11); (try clear c13); (try clear c14); (try clear c14b0); (try clear c18); (try clear c18b0); (try clear c18b1); (try clear hcz10_0 hcz10_1 hcz10_2 hcz10_3 hcz10_4 hcz10_5 hcz10_6 hcz10_7 hcz10_8 hcz10_9); (try clear hcz13_0 hcz13_1 hcz13_2 hcz13_3 hcz13_4 hcz13_5 hcz13_6 hcz13_7 hcz13_8 hcz13_9); (try clear hcz15_0 hcz15_1 hcz15_2 hcz15_3 hcz15_4 hcz15_5 hcz15_6 hcz15_7 hcz15_8 hcz15_9); (try clear hcz16_0 hcz16_1 hcz16_2 hcz16_3 hcz16_4 hcz16_5 hcz16_6 hcz16_7 hcz16_8 hcz16_9); (try clear hcz19_0 hcz19_1 hcz19_2 hcz19_3 hcz19_4 hcz19_5 hcz19_6 hcz19_7 hcz19_8 hcz19_9); (try clear hcz20_0 hcz20_1 hcz20_2 hcz20_3 hcz20_4 hcz20_5 hcz20_6 hcz20_7 hcz20_8 hcz20_9); (try clear hcz7_0 hcz7_1 hcz7_2 hcz7_3 hcz7_4 hcz7_5 hcz7_6 hcz7_7 hcz7_8 hcz7_9); (try clear hcz9_0 hcz9_1 hcz9_2 hcz9_3 hcz9_4 hcz9_5 hcz9_6 hcz9_7 hcz9_8 hcz9_9); (try clear hfz10_0 hfz10_1 hfz10_2 hfz10_3 hfz10_4 hfz10_5 hfz10_6 hfz10_7 hfz10_8 hfz10_9); (try clear hfz13_0 hfz13_1 hfz13_2 hfz13_3 hfz13_4 hfz13_5 hfz13_6 hfz13_7 hfz13_8 hfz13_9); (try clear hfz15_0 hfz15_1 hfz15_2 hfz15_3 hfz15_4 hfz15_5 hfz15_6 hfz15_7 hfz15_8 hfz15_9); (try clear hfz16_0 hfz16_1 hfz16_2 hfz16_3 hfz16_4 hfz16_5 hfz16_6 hfz16_7 hfz16_8 hfz16_9); (try clear hfz19_0 hfz19_1 hfz19_2 hfz19_3 hfz19_4 hfz19_5 hfz19_6 hfz19_7 hfz19_8 hfz19_9); (try clear hfz20_0 hfz20_1 hfz20_2 hfz20_3 hfz20_4 hfz20_5 hfz20_6 hfz20_7 hfz20_8 hfz20_9); (try clear hfz7_0 hfz7_1 hfz7_2 hfz7_3 hfz7_4 hfz7_5 hfz7_6 hfz7_7 hfz7_8 hfz7_9); (try clear hfz9_0 hfz9_1 hfz9_2 hfz9_3 hfz9_4 hfz9_5 hfz9_6 hfz9_7 hfz9_8 hfz9_9); (try clear p2)
       obtain ⟨kq, x7_16, rfl, HA, HJ16, BK221, HB⟩ := hcut
       cases kq with
       | zero => exact absurd HA.out (by simp [qf.j2])
       | succ kj16 =>
        have H := HA.out
        clear HA
        simp only [qf.j2] at H
        have HC21 := qd.mk H
        clear H
        go_upto_region 6 with (fail)
        go_cut [75] (fun v75 wc => ∃ (kq : Nat) (x75_20 : Bool), v75 = .bool x75_20 ∧ qd (qf.j3 kq a1 (l0_8.length : Int) x75_20 a0_0 a0_1 a0_2 a0_3 a0_4 a0_5 a0_6 l0_7 l0_8 l0_9 = some r) ∧ qd (kq ≤ kj16) ∧ qd (wc.heap[gb221]? = some (.cells #[.int .i64 a0_0, .int .i64 a0_1, .int .i64 a0_2, .string a0_3, .int .i64 a0_4, .int .i64 a0_5, .string a0_6, (.slice A0_7 l0_7.length c0_7), (.slice A0_8 l0_8.length c0_8), (.slice A0_9 l0_9.length c0_9)] 30 (0, 0))) ∧ qd (Below w.heap.size w wc))
        case first =>
         as_aux_lemma =>
          have H := HC21.out
          clear HC21
          by_cases c22 : x6_11 = true
          ·subst c22
           have H1 : (if (l0_8.length : Int) < 1 then (qf.j3 kj16 a1 (l0_8.length : Int) true a0_0 a0_1 a0_2 a0_3 a0_4 a0_5 a0_6 l0_7 l0_8 l0_9) else (if (l0_8.length : Int) > 16 then (qf.j3 kj16 a1 (l0_8.length : Int) true a0_0 a0_1 a0_2 a0_3 a0_4 a0_5 a0_6 l0_7 l0_8 l0_9) else (if x7_16 = true then (if (l0_8.length : Int) = 1 then (qf.j3 kj16 a1 (l0_8.length : Int) false a0_0 a0_1 a0_2 a0_3 a0_4 a0_5 a0_6 l0_7 l0_8 l0_9) else (qf.j3 kj16 a1 (l0_8.length : Int) true a0_0 a0_1 a0_2 a0_3 a0_4 a0_5 a0_6 l0_7 l0_8 l0_9)) else (qf.j3 kj16 a1 (l0_8.length : Int) false a0_0 a0_1 a0_2 a0_3 a0_4 a0_5 a0_6 l0_7 l0_8 l0_9)))) = some r := by rw [if_pos rfl] at H; exact H
           clear H
           have H := H1
           clear H1
           by_cases c23 : (l0_8.length : Int) < 1
           ·rw [if_pos c23] at H
            have c23b0 : decide ((l0_8.length : Int) < 1) = true := decide_eq_true c23
            have c23b1 : decide (l0_8.length < 1) = true := decide_eq_true (by omega)
            clear c23
            (first | rw [c23b0] | (simp only [i64_w, i32_w]; rw [c23b0]) | skip)
            have H' := qd.mk H
            clear H
            go_wp2
            go_meet
            case rel => exact ⟨_, (true), (by first | rfl | (simp; done) | (simp [*]; done)), H', ⟨by have := HJ2.out; have := HJ11.out; have := HJ16.out; first | omega | exact Nat.le_refl _⟩, ⟨by (with_reducible repeat (first | refine qj ?_ _ | refine qm ?_ | refine qi ?_ _)); exact BK221.out⟩, ⟨by repeat (first | (with_reducible first | exact HB.out | apply qg | apply qc | apply qh | refine ql ?_ GE221.out) | exact HB.out)⟩⟩
           ·rw [if_neg c23] at H
            have c23b0 : decide ((l0_8.length : Int) < 1) = false := decide_eq_false c23
            have c23b1 : decide (l0_8.length < 1) = false := decide_eq_false (by omega)
            clear c23
            (first | rw [c23b0] | (simp only [i64_w, i32_w]; rw [c23b0]) | skip)
            by_cases c24 : (l0_8.length : Int) > 16
            ·rw [if_pos c24] at H
             have c24b0 : decide (16 < (l0_8.length : Int)) = true := decide_eq_true c24
             have c24b1 : decide (16 < l0_8.length) = true := decide_eq_true (by omega)
             clear c24
             have H' := qd.mk H
             clear H
             go_wp2
             go_meet
             case rel => exact ⟨_, (true), (by first | rfl | (simp; done) | (simp [*]; done)), H', ⟨by have := HJ2.out; have := HJ11.out; have := HJ16.out; first | omega | exact Nat.le_refl _⟩, ⟨by (with_reducible repeat (first | refine qj ?_ _ | refine qm ?_ | refine qi ?_ _)); exact BK221.out⟩, ⟨by repeat (first | (with_reducible first | exact HB.out | apply qg | apply qc | apply qh | refine ql ?_ GE221.out) | exact HB.out)⟩⟩
            ·rw [if_neg c24] at H
             have c24b0 : decide (16 < (l0_8.length : Int)) = false := decide_eq_false c24
             have c24b1 : decide (16 < l0_8.length) = false := decide_eq_false (by omega)
             clear c24
             by_cases c25 : x7_16 = true
             ·subst c25
              have H1 : (if (l0_8.length : Int) = 1 then (qf.j3 kj16 a1 (l0_8.length : Int) false a0_0 a0_1 a0_2 a0_3 a0_4 a0_5 a0_6 l0_7 l0_8 l0_9) else (qf.j3 kj16 a1 (l0_8.length : Int) true a0_0 a0_1 a0_2 a0_3 a0_4 a0_5 a0_6 l0_7 l0_8 l0_9)) = some r := by rw [if_pos rfl] at H; exact H
              clear H
              have H := H1
              clear H1
              by_cases c26 : (l0_8.length : Int) = 1
              ·rw [if_pos c26] at H
               have c26b0 : ((l0_8.length : Int) == 1) = true := beq_iff_eq.mpr c26
               have c26b1 : ((l0_8.length : Int) != 1) = false := bne_eq_false_iff_eq.mpr c26
               clear c26
               have H' := qd.mk H
               clear H
               go_wp2
               go_meet
               case rel => exact ⟨_, (false), (by first | rfl | (simp; done) | (simp [*]; done)), H', ⟨by have := HJ2.out; have := HJ11.out; have := HJ16.out; first | omega | exact Nat.le_refl _⟩, ⟨by (with_reducible repeat (first | refine qj ?_ _ | refine qm ?_ | refine qi ?_ _)); exact BK221.out⟩, ⟨by repeat (first | (with_reducible first | exact HB.out | apply qg | apply qc | apply qh | refine ql ?_ GE221.out) | exact HB.out)⟩⟩
              ·rw [if_neg c26] at H
               have c26b0 : ((l0_8.length : Int) == 1) = false := beq_eq_false_iff_ne.mpr c26
               have c26b1 : ((l0_8.length : Int) != 1) = true := bne_iff_ne.mpr c26
               have H' := qd.mk H
               clear H
               go_wp2
               go_meet
               case rel => exact ⟨_, (true), (by first | rfl | (simp; done) | (simp [*]; done)), H', ⟨by have := HJ2.out; have := HJ11.out; have := HJ16.out; first | omega | exact Nat.le_refl _⟩, ⟨by (with_reducible repeat (first | refine qj ?_ _ | refine qm ?_ | refine qi ?_ _)); exact BK221.out⟩, ⟨by repeat (first | (with_reducible first | exact HB.out | apply qg | apply qc | apply qh | refine ql ?_ GE221.out) | exact HB.out)⟩⟩
             ·replace c25 := Bool.eq_false_iff.mpr c25
              subst c25
              have H1 : (qf.j3 kj16 a1 (l0_8.length : Int) false a0_0 a0_1 a0_2 a0_3 a0_4 a0_5 a0_6 l0_7 l0_8 l0_9) = some r := by rw [if_neg (show ¬ (false = true) by decide)] at H; exact H
              clear H
              have H := H1
              clear H1
              have H' := qd.mk H
              clear H
              go_wp2
              go_meet
              case rel => exact ⟨_, (false), (by first | rfl | (simp; done) | (simp [*]; done)), H', ⟨by have := HJ2.out; have := HJ11.out; have := HJ16.out; first | omega | exact Nat.le_refl _⟩, ⟨by (with_reducible repeat (first | refine qj ?_ _ | refine qm ?_ | refine qi ?_ _)); exact BK221.out⟩, ⟨by repeat (first | (with_reducible first | exact HB.out | apply qg | apply qc | apply qh | refine ql ?_ GE221.out) | exact HB.out)⟩⟩
          ·replace c22 := Bool.eq_false_iff.mpr c22
           subst c22
           have H1 : (if x7_16 = true then (if (l0_8.length : Int) = 1 then (qf.j3 kj16 a1 (l0_8.length : Int) false a0_0 a0_1 a0_2 a0_3 a0_4 a0_5 a0_6 l0_7 l0_8 l0_9) else (qf.j3 kj16 a1 (l0_8.length : Int) true a0_0 a0_1 a0_2 a0_3 a0_4 a0_5 a0_6 l0_7 l0_8 l0_9)) else (qf.j3 kj16 a1 (l0_8.length : Int) ((l0_8.length : Int) != 0) a0_0 a0_1 a0_2 a0_3 a0_4 a0_5 a0_6 l0_7 l0_8 l0_9)) = some r := by rw [if_neg (show ¬ (false = true) by decide)] at H; exact H
           clear H
           have H := H1
           clear H1
           by_cases c27 : x7_16 = true
           ·subst c27
            have H1 : (if (l0_8.length : Int) = 1 then (qf.j3 kj16 a1 (l0_8.length : Int) false a0_0 a0_1 a0_2 a0_3 a0_4 a0_5 a0_6 l0_7 l0_8 l0_9) else (qf.j3 kj16 a1 (l0_8.length : Int) true a0_0 a0_1 a0_2 a0_3 a0_4 a0_5 a0_6 l0_7 l0_8 l0_9)) = some r := by rw [if_pos rfl] at H; exact H
            clear H
            have H := H1
            clear H1
            by_cases c28 : (l0_8.length : Int) = 1
            ·rw [if_pos c28] at H
             have c28b0 : ((l0_8.length : Int) == 1) = true := beq_iff_eq.mpr c28
             have c28b1 : ((l0_8.length : Int) != 1) = false := bne_eq_false_iff_eq.mpr c28
             clear c28
             have H' := qd.mk H
             clear H
             go_wp2
             go_meet
             case rel => exact ⟨_, (false), (by first | rfl | (simp; done) | (simp [*]; done)), H', ⟨by have := HJ2.out; have := HJ11.out; have := HJ16.out; first | omega | exact Nat.le_refl _⟩, ⟨by (with_reducible repeat (first | refine qj ?_ _ | refine qm ?_ | refine qi ?_ _)); exact BK221.out⟩, ⟨by repeat (first | (with_reducible first | exact HB.out | apply qg | apply qc | apply qh | refine ql ?_ GE221.out) | exact HB.out)⟩⟩
            ·rw [if_neg c28] at H
             have c28b0 : ((l0_8.length : Int) == 1) = false := beq_eq_false_iff_ne.mpr c28
             have c28b1 : ((l0_8.length : Int) != 1) = true := bne_iff_ne.mpr c28
             have H' := qd.mk H
             clear H
             go_wp2
             go_meet
             case rel => exact ⟨_, (true), (by first | rfl | (simp; done) | (simp [*]; done)), H', ⟨by have := HJ2.out; have := HJ11.out; have := HJ16.out; first | omega | exact Nat.le_refl _⟩, ⟨by (with_reducible repeat (first | refine qj ?_ _ | refine qm ?_ | refine qi ?_ _)); exact BK221.out⟩, ⟨by repeat (first | (with_reducible first | exact HB.out | apply qg | apply qc | apply qh | refine ql ?_ GE221.out) | exact HB.out)⟩⟩
           ·replace c27 := Bool.eq_false_iff.mpr c27
            subst c27
            have H1 : (qf.j3 kj16 a1 (l0_8.length : Int) ((l0_8.length : Int) != 0) a0_0 a0_1 a0_2 a0_3 a0_4 a0_5 a0_6 l0_7 l0_8 l0_9) = some r := by rw [if_neg (show ¬ (false = true) by decide)] at H; exact H
            clear H
            have H := H1
            clear H1
            have H' := qd.mk H
            clear H
            go_wp2
            go_meet
            case rel => exact ⟨_, (((l0_8.length : Int) != 0)), (by first | rfl | (simp; done) | (simp [*]; done)), H', ⟨by have := HJ2.out; have := HJ11.out; have := HJ16.out; first | omega | exact Nat.le_refl _⟩, ⟨by (with_reducible repeat (first | refine qj ?_ _ | refine qm ?_ | refine qi ?_ _)); exact BK221.out⟩, ⟨by repeat (first | (with_reducible first | exact HB.out | apply qg | apply qc | apply qh | refine ql ?_ GE221.out) | exact HB.out)⟩⟩
        case rest =>
         clear HC21
         (try clear c1); (try clear c2); (try clear p2); (try clear c5); (try clear c5b0); (try clear c6); (try clear c6b0); (try clear c8); (try clear c8b0); (try clear c11); (try clear c13); (try clear c14); (try clear c14b0); (try clear c18); (try clear c18b0); (try clear c18b1); (try clear c22); (try clear c23); (try clear c23b0); (try clear c23b1); (try clear c24); (try clear c24b0); (try clear c24b1); (try clear c25); (try clear c26); (try clear c26b0); (try clear c26b1); (try clear c27); (try clear c28); (try clear c28b0); (try clear c28b1); (try clear hcz10_0 hcz10_1 hcz10_2 hcz10_3 hcz10_4 hcz10_5 hcz10_6 hcz10_7 hcz10_8 hcz10_9); (try clear hcz13_0 hcz13_1 hcz13_2 hcz13_3 hcz13_4 hcz13_5 hcz13_6 hcz13_7 hcz13_8 hcz13_9); (try clear hcz15_0 hcz15_1 hcz15_2 hcz15_3 hcz15_4 hcz15_5 hcz15_6 hcz15_7 hcz15_8 hcz15_9); (try clear hcz16_0 hcz16_1 hcz16_2 hcz16_3 hcz16_4 hcz16_5 hcz16_6 hcz16_7 hcz16_8 hcz16_9); (try clear hcz19_0 hcz19_1 hcz19_2 hcz19_3 hcz19_4 hcz19_5 hcz19_6 hcz19_7 hcz19_8 hcz19_9); (try clear hcz20_0 hcz20_1 hcz20_2 hcz20_3 hcz20_4 hcz20_5 hcz20_6 hcz20_7 hcz20_8 hcz20_9); (try clear hcz7_0 hcz7_1 hcz7_2 hcz7_3 hcz7_4 hcz7_5 hcz7_6 hcz7_7 hcz7_8 hcz7_9); (try clear hcz9_0 hcz9_1 hcz9_2 hcz9_3 hcz9_4 hcz9_5 hcz9_6 hcz9_7 hcz9_8 hcz9_9); (try clear hfz10_0 hfz10_1 hfz10_2 hfz10_3 hfz10_4 hfz10_5 hfz10_6 hfz10_7 hfz10_8 hfz10_9); (try clear hfz13_0 hfz13_1 hfz13_2 hfz13_3 hfz13_4 hfz13_5 hfz13_6 hfz13_7 hfz13_8 hfz13_9); (try clear hfz15_0 hfz15_1 hfz15_2 hfz15_3 hfz15_4 hfz15_5 hfz15_6 hfz15_7 hfz15_8 hfz15_9); (try clear hfz16_0 hfz16_1 hfz16_2 hfz16_3 hfz16_4 hfz16_5 hfz16_6 hfz16_7 hfz16_8 hfz16_9); (try clear hfz19_0 hfz19_1 hfz19_2 hfz19_3 hfz19_4 hfz19_5 hfz19_6 hfz19_7 hfz19_8 hfz19_9); (try clear hfz20_0 hfz20_1 hfz20_2 hfz20_3 hfz20_4 hfz20_5 hfz20_6 hfz20_7 hfz20_8 hfz20_9); (try clear hfz7_0 hfz7_1 hfz7_2 hfz7_3 hfz7_4 hfz7_5 hfz7_6 hfz7_7 hfz7_8 hfz7_9); (try clear hfz9_0 hfz9_1 hfz9_2 hfz9_3 hfz9_4 hfz9_5 hfz9_6 hfz9_7 hfz9_8 hfz9_9); (try clear p2)
         obtain ⟨kq, x75_20, rfl, HA, HJ20, BK221, HB⟩ := hcut
         cases kq with
         | zero => exact absurd HA.out (by simp [qf.j3])
         | succ kj20 =>
          have H := HA.out
          clear HA
          simp only [qf.j3] at H
          by_cases c29 : x75_20 = true
          ·subst c29
           have H1 : (some false) = some r := by rw [if_pos rfl] at H; exact H
           clear H
           have H := H1
           clear H1
           obtain rfl := Option.some.inj H
           go_wp2
           go_ret
           exact ⟨by first | rfl | (simp [q9, qz] <;> rfl) | (simp [*, q9, qz] <;> rfl), by repeat (first | (with_reducible first | exact HB.out | apply qg | apply qc | apply qh | refine ql ?_ GE221.out) | exact HB.out)⟩
          ·replace c29 := Bool.eq_false_iff.mpr c29
           subst c29
           have H1 : (if a0_0 = 4 then (if a0_1 < 1 then (some false) else (if a0_2 < 1 then (some false) else (if a0_1 > (l0_8.length : Int) then (some false) else (if a0_2 > (l0_8.length : Int) then (some false) else (if a0_0 = 6 then (if a0_1 > 1000 then (some false) else (if a0_2 = 0 then (qf.j4 kj20 a1 (l0_8.length : Int) a0_0 a0_1 a0_2 a0_3 a0_4 a0_5 a0_6 l0_7 l0_8 l0_9) else (some false))) else (qf.j4 kj20 a1 (l0_8.length : Int) a0_0 a0_1 a0_2 a0_3 a0_4 a0_5 a0_6 l0_7 l0_8 l0_9)))))) else (if a0_0 = 6 then (if a0_1 < 1 then (some false) else (if a0_1 > 1000 then (some false) else (if a0_2 = 0 then (qf.j4 kj20 a1 (l0_8.length : Int) a0_0 a0_1 a0_2 a0_3 a0_4 a0_5 a0_6 l0_7 l0_8 l0_9) else (some false)))) else (if a0_1 = 0 then (if a0_2 = 0 then (qf.j4 kj20 a1 (l0_8.length : Int) a0_0 a0_1 a0_2 a0_3 a0_4 a0_5 a0_6 l0_7 l0_8 l0_9) else (some false)) else (some false)))) = some r := by rw [if_neg (show ¬ (false = true) by decide)] at H; exact H
           clear H
           have H := H1
           clear H1
           have HC30 := qd.mk H
           clear H
           go_upto_block 0 with (fail)
           go_cut [] (fun wc => ∃ (kq : Nat), qd (qf.j4 kq a1 (l0_8.length : Int) a0_0 a0_1 a0_2 a0_3 a0_4 a0_5 a0_6 l0_7 l0_8 l0_9 = some r) ∧ qd (kq ≤ kj20) ∧ qd (wc.heap[gb221]? = some (.cells #[.int .i64 a0_0, .int .i64 a0_1, .int .i64 a0_2, .string a0_3, .int .i64 a0_4, .int .i64 a0_5, .string a0_6, (.slice A0_7 l0_7.length c0_7), (.slice A0_8 l0_8.length c0_8), (.slice A0_9 l0_9.length c0_9)] 30 (0, 0))) ∧ qd (Below w.heap.size w wc))
           case first =>
            as_aux_lemma =>
             have H := HC30.out
             clear HC30
             by_cases c31 : a0_0 = 4
             ·rw [if_pos c31] at H
              have c31b0 : (a0_0 == 4) = true := beq_iff_eq.mpr c31
              have c31b1 : (a0_0 != 4) = false := bne_eq_false_iff_eq.mpr c31
              clear c31
              (first | rw [c31b0] | (simp only [i64_w, i32_w]; rw [c31b0]) | skip)
              by_cases c32 : a0_1 < 1
              ·rw [if_pos c32] at H
               have c32b0 : decide (a0_1 < 1) = true := decide_eq_true c32
               clear c32
               obtain rfl := Option.some.inj H
               have hcz33_0 : wc.cell? ⟨gb221, 0, none⟩ = some (.int .i64 a0_0) := (qb BK221.out 0).trans rfl
               have hcz33_1 : wc.cell? ⟨gb221, 1, none⟩ = some (.int .i64 a0_1) := (qb BK221.out 1).trans rfl
               have hcz33_2 : wc.cell? ⟨gb221, 2, none⟩ = some (.int .i64 a0_2) := (qb BK221.out 2).trans rfl
               have hcz33_3 : wc.cell? ⟨gb221, 3, none⟩ = some (.string a0_3) := (qb BK221.out 3).trans rfl
               have hcz33_4 : wc.cell? ⟨gb221, 4, none⟩ = some (.int .i64 a0_4) := (qb BK221.out 4).trans rfl
               have hcz33_5 : wc.cell? ⟨gb221, 5, none⟩ = some (.int .i64 a0_5) := (qb BK221.out 5).trans rfl
               have hcz33_6 : wc.cell? ⟨gb221, 6, none⟩ = some (.string a0_6) := (qb BK221.out 6).trans rfl
               have hcz33_7 : wc.cell? ⟨gb221, 7, none⟩ = some (.slice A0_7 l0_7.length c0_7) := (qb BK221.out 7).trans rfl
               have hcz33_8 : wc.cell? ⟨gb221, 8, none⟩ = some (.slice A0_8 l0_8.length c0_8) := (qb BK221.out 8).trans rfl
               have hcz33_9 : wc.cell? ⟨gb221, 9, none⟩ = some (.slice A0_9 l0_9.length c0_9) := (qb BK221.out 9).trans rfl
               have hfz33_0 := qa BK221.out 0
               have hfz33_1 := qa BK221.out 1
               have hfz33_2 := qa BK221.out 2
               have hfz33_3 := qa BK221.out 3
               have hfz33_4 := qa BK221.out 4
               have hfz33_5 := qa BK221.out 5
               have hfz33_6 := qa BK221.out 6
               have hfz33_7 := qa BK221.out 7
               have hfz33_8 := qa BK221.out 8
               have hfz33_9 := qa BK221.out 9
               go_wp2
               go_ret
               exact ⟨by first | rfl | (simp [q9, qz] <;> rfl) | (simp [*, q9, qz] <;> rfl), by repeat (first | (with_reducible first | exact HB.out | apply qg | apply qc | apply qh | refine ql ?_ GE221.out) | exact HB.out)⟩
              ·rw [if_neg c32] at H
               have c32b0 : decide (a0_1 < 1) = false := decide_eq_false c32
               clear c32
               by_cases c34 : a0_2 < 1
               ·rw [if_pos c34] at H
                have c34b0 : decide (a0_2 < 1) = true := decide_eq_true c34
                clear c34
                obtain rfl := Option.some.inj H
                have hcz35_0 : wc.cell? ⟨gb221, 0, none⟩ = some (.int .i64 a0_0) := (qb BK221.out 0).trans rfl
                have hcz35_1 : wc.cell? ⟨gb221, 1, none⟩ = some (.int .i64 a0_1) := (qb BK221.out 1).trans rfl
                have hcz35_2 : wc.cell? ⟨gb221, 2, none⟩ = some (.int .i64 a0_2) := (qb BK221.out 2).trans rfl
                have hcz35_3 : wc.cell? ⟨gb221, 3, none⟩ = some (.string a0_3) := (qb BK221.out 3).trans rfl
                have hcz35_4 : wc.cell? ⟨gb221, 4, none⟩ = some (.int .i64 a0_4) := (qb BK221.out 4).trans rfl
                have hcz35_5 : wc.cell? ⟨gb221, 5, none⟩ = some (.int .i64 a0_5) := (qb BK221.out 5).trans rfl
                have hcz35_6 : wc.cell? ⟨gb221, 6, none⟩ = some (.string a0_6) := (qb BK221.out 6).trans rfl
                have hcz35_7 : wc.cell? ⟨gb221, 7, none⟩ = some (.slice A0_7 l0_7.length c0_7) := (qb BK221.out 7).trans rfl
                have hcz35_8 : wc.cell? ⟨gb221, 8, none⟩ = some (.slice A0_8 l0_8.length c0_8) := (qb BK221.out 8).trans rfl
                have hcz35_9 : wc.cell? ⟨gb221, 9, none⟩ = some (.slice A0_9 l0_9.length c0_9) := (qb BK221.out 9).trans rfl
                have hfz35_0 := qa BK221.out 0
                have hfz35_1 := qa BK221.out 1
                have hfz35_2 := qa BK221.out 2
                have hfz35_3 := qa BK221.out 3
                have hfz35_4 := qa BK221.out 4
                have hfz35_5 := qa BK221.out 5
                have hfz35_6 := qa BK221.out 6
                have hfz35_7 := qa BK221.out 7
                have hfz35_8 := qa BK221.out 8
                have hfz35_9 := qa BK221.out 9
                go_wp2
                go_ret
                exact ⟨by first | rfl | (simp [q9, qz] <;> rfl) | (simp [*, q9, qz] <;> rfl), by repeat (first | (with_reducible first | exact HB.out | apply qg | apply qc | apply qh | refine ql ?_ GE221.out) | exact HB.out)⟩
               ·rw [if_neg c34] at H
                have c34b0 : decide (a0_2 < 1) = false := decide_eq_false c34
                clear c34
                by_cases c36 : a0_1 > (l0_8.length : Int)
                ·rw [if_pos c36] at H
                 have c36b0 : decide ((l0_8.length : Int) < a0_1) = true := decide_eq_true c36
                 clear c36
                 obtain rfl := Option.some.inj H
                 have hcz37_0 : wc.cell? ⟨gb221, 0, none⟩ = some (.int .i64 a0_0) := (qb BK221.out 0).trans rfl
                 have hcz37_1 : wc.cell? ⟨gb221, 1, none⟩ = some (.int .i64 a0_1) := (qb BK221.out 1).trans rfl
                 have hcz37_2 : wc.cell? ⟨gb221, 2, none⟩ = some (.int .i64 a0_2) := (qb BK221.out 2).trans rfl
                 have hcz37_3 : wc.cell? ⟨gb221, 3, none⟩ = some (.string a0_3) := (qb BK221.out 3).trans rfl
                 have hcz37_4 : wc.cell? ⟨gb221, 4, none⟩ = some (.int .i64 a0_4) := (qb BK221.out 4).trans rfl
                 have hcz37_5 : wc.cell? ⟨gb221, 5, none⟩ = some (.int .i64 a0_5) := (qb BK221.out 5).trans rfl
                 have hcz37_6 : wc.cell? ⟨gb221, 6, none⟩ = some (.string a0_6) := (qb BK221.out 6).trans rfl
                 have hcz37_7 : wc.cell? ⟨gb221, 7, none⟩ = some (.slice A0_7 l0_7.length c0_7) := (qb BK221.out 7).trans rfl
                 have hcz37_8 : wc.cell? ⟨gb221, 8, none⟩ = some (.slice A0_8 l0_8.length c0_8) := (qb BK221.out 8).trans rfl
                 have hcz37_9 : wc.cell? ⟨gb221, 9, none⟩ = some (.slice A0_9 l0_9.length c0_9) := (qb BK221.out 9).trans rfl
                 have hfz37_0 := qa BK221.out 0
                 have hfz37_1 := qa BK221.out 1
                 have hfz37_2 := qa BK221.out 2
                 have hfz37_3 := qa BK221.out 3
                 have hfz37_4 := qa BK221.out 4
                 have hfz37_5 := qa BK221.out 5
                 have hfz37_6 := qa BK221.out 6
                 have hfz37_7 := qa BK221.out 7
                 have hfz37_8 := qa BK221.out 8
                 have hfz37_9 := qa BK221.out 9
                 go_wp2
                 go_ret
                 exact ⟨by first | rfl | (simp [q9, qz] <;> rfl) | (simp [*, q9, qz] <;> rfl), by repeat (first | (with_reducible first | exact HB.out | apply qg | apply qc | apply qh | refine ql ?_ GE221.out) | exact HB.out)⟩
                ·rw [if_neg c36] at H
                 have c36b0 : decide ((l0_8.length : Int) < a0_1) = false := decide_eq_false c36
                 clear c36
                 by_cases c38 : a0_2 > (l0_8.length : Int)
                 ·rw [if_pos c38] at H
                  have c38b0 : decide ((l0_8.length : Int) < a0_2) = true := decide_eq_true c38
                  clear c38
                  obtain rfl := Option.some.inj H
                  have hcz39_0 : wc.cell? ⟨gb221, 0, none⟩ = some (.int .i64 a0_0) := (qb BK221.out 0).trans rfl
                  have hcz39_1 : wc.cell? ⟨gb221, 1, none⟩ = some (.int .i64 a0_1) := (qb BK221.out 1).trans rfl
                  have hcz39_2 : wc.cell? ⟨gb221, 2, none⟩ = some (.int .i64 a0_2) := (qb BK221.out 2).trans rfl
                  have hcz39_3 : wc.cell? ⟨gb221, 3, none⟩ = some (.string a0_3) := (qb BK221.out 3).trans rfl
                  have hcz39_4 : wc.cell? ⟨gb221, 4, none⟩ = some (.int .i64 a0_4) := (qb BK221.out 4).trans rfl
                  have hcz39_5 : wc.cell? ⟨gb221, 5, none⟩ = some (.int .i64 a0_5) := (qb BK221.out 5).trans rfl
                  have hcz39_6 : wc.cell? ⟨gb221, 6, none⟩ = some (.string a0_6) := (qb BK221.out 6).trans rfl
                  have hcz39_7 : wc.cell? ⟨gb221, 7, none⟩ = some (.slice A0_7 l0_7.length c0_7) := (qb BK221.out 7).trans rfl
                  have hcz39_8 : wc.cell? ⟨gb221, 8, none⟩ = some (.slice A0_8 l0_8.length c0_8) := (qb BK221.out 8).trans rfl
                  have hcz39_9 : wc.cell? ⟨gb221, 9, none⟩ = some (.slice A0_9 l0_9.length c0_9) := (qb BK221.out 9).trans rfl
                  have hfz39_0 := qa BK221.out 0
                  have hfz39_1 := qa BK221.out 1
                  have hfz39_2 := qa BK221.out 2
                  have hfz39_3 := qa BK221.out 3
                  have hfz39_4 := qa BK221.out 4
                  have hfz39_5 := qa BK221.out 5
                  have hfz39_6 := qa BK221.out 6
                  have hfz39_7 := qa BK221.out 7
                  have hfz39_8 := qa BK221.out 8
                  have hfz39_9 := qa BK221.out 9
                  go_wp2
                  go_ret
                  exact ⟨by first | rfl | (simp [q9, qz] <;> rfl) | (simp [*, q9, qz] <;> rfl), by repeat (first | (with_reducible first | exact HB.out | apply qg | apply qc | apply qh | refine ql ?_ GE221.out) | exact HB.out)⟩
                 ·rw [if_neg c38] at H
                  have c38b0 : decide ((l0_8.length : Int) < a0_2) = false := decide_eq_false c38
                  clear c38
                  by_cases c40 : a0_0 = 6
                  ·rw [if_pos c40] at H
                   have c40b0 : (a0_0 == 6) = true := beq_iff_eq.mpr c40
                   have c40b1 : (a0_0 != 6) = false := bne_eq_false_iff_eq.mpr c40
                   clear c40
                   by_cases c41 : a0_1 > 1000
                   ·rw [if_pos c41] at H
                    have c41b0 : decide (1000 < a0_1) = true := decide_eq_true c41
                    clear c41
                    obtain rfl := Option.some.inj H
                    have hcz42_0 : wc.cell? ⟨gb221, 0, none⟩ = some (.int .i64 a0_0) := (qb BK221.out 0).trans rfl
                    have hcz42_1 : wc.cell? ⟨gb221, 1, none⟩ = some (.int .i64 a0_1) := (qb BK221.out 1).trans rfl
                    have hcz42_2 : wc.cell? ⟨gb221, 2, none⟩ = some (.int .i64 a0_2) := (qb BK221.out 2).trans rfl
                    have hcz42_3 : wc.cell? ⟨gb221, 3, none⟩ = some (.string a0_3) := (qb BK221.out 3).trans rfl
                    have hcz42_4 : wc.cell? ⟨gb221, 4, none⟩ = some (.int .i64 a0_4) := (qb BK221.out 4).trans rfl
                    have hcz42_5 : wc.cell? ⟨gb221, 5, none⟩ = some (.int .i64 a0_5) := (qb BK221.out 5).trans rfl
                    have hcz42_6 : wc.cell? ⟨gb221, 6, none⟩ = some (.string a0_6) := (qb BK221.out 6).trans rfl
                    have hcz42_7 : wc.cell? ⟨gb221, 7, none⟩ = some (.slice A0_7 l0_7.length c0_7) := (qb BK221.out 7).trans rfl
                    have hcz42_8 : wc.cell? ⟨gb221, 8, none⟩ = some (.slice A0_8 l0_8.length c0_8) := (qb BK221.out 8).trans rfl
                    have hcz42_9 : wc.cell? ⟨gb221, 9, none⟩ = some (.slice A0_9 l0_9.length c0_9) := (qb BK221.out 9).trans rfl
                    have hfz42_0 := qa BK221.out 0
                    have hfz42_1 := qa BK221.out 1
                    have hfz42_2 := qa BK221.out 2
                    have hfz42_3 := qa BK221.out 3
                    have hfz42_4 := qa BK221.out 4
                    have hfz42_5 := qa BK221.out 5
                    have hfz42_6 := qa BK221.out 6
                    have hfz42_7 := qa BK221.out 7
                    have hfz42_8 := qa BK221.out 8
                    have hfz42_9 := qa BK221.out 9
                    go_wp2
                    go_ret
                    exact ⟨by first | rfl | (simp [q9, qz] <;> rfl) | (simp [*, q9, qz] <;> rfl), by repeat (first | (with_reducible first | exact HB.out | apply qg | apply qc | apply qh | refine ql ?_ GE221.out) | exact HB.out)⟩
                   ·rw [if_neg c41] at H
                    have c41b0 : decide (1000 < a0_1) = false := decide_eq_false c41
                    clear c41
                    by_cases c43 : a0_2 = 0
                    ·rw [if_pos c43] at H
                     have c43b0 : (a0_2 == 0) = true := beq_iff_eq.mpr c43
                     have c43b1 : (a0_2 != 0) = false := bne_eq_false_iff_eq.mpr c43
                     clear c43
                     have H' := qd.mk H
                     clear H
                     have hcz44_0 : wc.cell? ⟨gb221, 0, none⟩ = some (.int .i64 a0_0) := (qb BK221.out 0).trans rfl
                     have hcz44_1 : wc.cell? ⟨gb221, 1, none⟩ = some (.int .i64 a0_1) := (qb BK221.out 1).trans rfl
                     have hcz44_2 : wc.cell? ⟨gb221, 2, none⟩ = some (.int .i64 a0_2) := (qb BK221.out 2).trans rfl
                     have hcz44_3 : wc.cell? ⟨gb221, 3, none⟩ = some (.string a0_3) := (qb BK221.out 3).trans rfl
                     have hcz44_4 : wc.cell? ⟨gb221, 4, none⟩ = some (.int .i64 a0_4) := (qb BK221.out 4).trans rfl
                     have hcz44_5 : wc.cell? ⟨gb221, 5, none⟩ = some (.int .i64 a0_5) := (qb BK221.out 5).trans rfl
                     have hcz44_6 : wc.cell? ⟨gb221, 6, none⟩ = some (.string a0_6) := (qb BK221.out 6).trans rfl
                     have hcz44_7 : wc.cell? ⟨gb221, 7, none⟩ = some (.slice A0_7 l0_7.length c0_7) := (qb BK221.out 7).trans rfl
                     have hcz44_8 : wc.cell? ⟨gb221, 8, none⟩ = some (.slice A0_8 l0_8.length c0_8) := (qb BK221.out 8).trans rfl
                     have hcz44_9 : wc.cell? ⟨gb221, 9, none⟩ = some (.slice A0_9 l0_9.length c0_9) := (qb BK221.out 9).trans rfl
                     have hfz44_0 := qa BK221.out 0
                     have hfz44_1 := qa BK221.out 1
                     have hfz44_2 := qa BK221.out 2
                     have hfz44_3 := qa BK221.out 3
                     have hfz44_4 := qa BK221.out 4
                     have hfz44_5 := qa BK221.out 5
                     have hfz44_6 := qa BK221.out 6
                     have hfz44_7 := qa BK221.out 7
                     have hfz44_8 := qa BK221.out 8
                     have hfz44_9 := qa BK221.out 9
                     go_wp2
                     go_meet
                     case rel => exact ⟨_, H', ⟨by have := HJ2.out; have := HJ11.out; have := HJ16.out; have := HJ20.out; first | omega | exact Nat.le_refl _⟩, ⟨by (with_reducible repeat (first | refine qj ?_ _ | refine qm ?_ | refine qi ?_ _)); exact BK221.out⟩, ⟨by repeat (first | (with_reducible first | exact HB.out | apply qg | apply qc | apply qh | refine ql ?_ GE221.out) | exact HB.out)⟩⟩
                    ·rw [if_neg c43] at H
                     have c43b0 : (a0_2 == 0) = false := beq_eq_false_iff_ne.mpr c43
                     have c43b1 : (a0_2 != 0) = true := bne_iff_ne.mpr c43
                     obtain rfl := Option.some.inj H
                     have hcz45_0 : wc.cell? ⟨gb221, 0, none⟩ = some (.int .i64 a0_0) := (qb BK221.out 0).trans rfl
                     have hcz45_1 : wc.cell? ⟨gb221, 1, none⟩ = some (.int .i64 a0_1) := (qb BK221.out 1).trans rfl
                     have hcz45_2 : wc.cell? ⟨gb221, 2, none⟩ = some (.int .i64 a0_2) := (qb BK221.out 2).trans rfl
                     have hcz45_3 : wc.cell? ⟨gb221, 3, none⟩ = some (.string a0_3) := (qb BK221.out 3).trans rfl
                     have hcz45_4 : wc.cell? ⟨gb221, 4, none⟩ = some (.int .i64 a0_4) := (qb BK221.out 4).trans rfl
                     have hcz45_5 : wc.cell? ⟨gb221, 5, none⟩ = some (.int .i64 a0_5) := (qb BK221.out 5).trans rfl
                     have hcz45_6 : wc.cell? ⟨gb221, 6, none⟩ = some (.string a0_6) := (qb BK221.out 6).trans rfl
                     have hcz45_7 : wc.cell? ⟨gb221, 7, none⟩ = some (.slice A0_7 l0_7.length c0_7) := (qb BK221.out 7).trans rfl
                     have hcz45_8 : wc.cell? ⟨gb221, 8, none⟩ = some (.slice A0_8 l0_8.length c0_8) := (qb BK221.out 8).trans rfl
                     have hcz45_9 : wc.cell? ⟨gb221, 9, none⟩ = some (.slice A0_9 l0_9.length c0_9) := (qb BK221.out 9).trans rfl
                     have hfz45_0 := qa BK221.out 0
                     have hfz45_1 := qa BK221.out 1
                     have hfz45_2 := qa BK221.out 2
                     have hfz45_3 := qa BK221.out 3
                     have hfz45_4 := qa BK221.out 4
                     have hfz45_5 := qa BK221.out 5
                     have hfz45_6 := qa BK221.out 6
                     have hfz45_7 := qa BK221.out 7
                     have hfz45_8 := qa BK221.out 8
                     have hfz45_9 := qa BK221.out 9
                     go_wp2
                     go_ret
                     exact ⟨by first | rfl | (simp [q9, qz] <;> rfl) | (simp [*, q9, qz] <;> rfl), by repeat (first | (with_reducible first | exact HB.out | apply qg | apply qc | apply qh | refine ql ?_ GE221.out) | exact HB.out)⟩
                  ·rw [if_neg c40] at H
                   have c40b0 : (a0_0 == 6) = false := beq_eq_false_iff_ne.mpr c40
                   have c40b1 : (a0_0 != 6) = true := bne_iff_ne.mpr c40
                   have H' := qd.mk H
                   clear H
                   have hcz46_0 : wc.cell? ⟨gb221, 0, none⟩ = some (.int .i64 a0_0) := (qb BK221.out 0).trans rfl
                   have hcz46_1 : wc.cell? ⟨gb221, 1, none⟩ = some (.int .i64 a0_1) := (qb BK221.out 1).trans rfl
                   have hcz46_2 : wc.cell? ⟨gb221, 2, none⟩ = some (.int .i64 a0_2) := (qb BK221.out 2).trans rfl
                   have hcz46_3 : wc.cell? ⟨gb221, 3, none⟩ = some (.string a0_3) := (qb BK221.out 3).trans rfl
                   have hcz46_4 : wc.cell? ⟨gb221, 4, none⟩ = some (.int .i64 a0_4) := (qb BK221.out 4).trans rfl
                   have hcz46_5 : wc.cell? ⟨gb221, 5, none⟩ = some (.int .i64 a0_5) := (qb BK221.out 5).trans rfl
                   have hcz46_6 : wc.cell? ⟨gb221, 6, none⟩ = some (.string a0_6) := (qb BK221.out 6).trans rfl
                   have hcz46_7 : wc.cell? ⟨gb221, 7, none⟩ = some (.slice A0_7 l0_7.length c0_7) := (qb BK221.out 7).trans rfl
                   have hcz46_8 : wc.cell? ⟨gb221, 8, none⟩ = some (.slice A0_8 l0_8.length c0_8) := (qb BK221.out 8).trans rfl
                   have hcz46_9 : wc.cell? ⟨gb221, 9, none⟩ = some (.slice A0_9 l0_9.length c0_9) := (qb BK221.out 9).trans rfl
                   have hfz46_0 := qa BK221.out 0
                   have hfz46_1 := qa BK221.out 1
                   have hfz46_2 := qa BK221.out 2
                   have hfz46_3 := qa BK221.out 3
                   have hfz46_4 := qa BK221.out 4
                   have hfz46_5 := qa BK221.out 5
                   have hfz46_6 := qa BK221.out 6
                   have hfz46_7 := qa BK221.out 7
                   have hfz46_8 := qa BK221.out 8
                   have hfz46_9 := qa BK221.out 9
                   go_wp2
                   go_meet
                   case rel => exact ⟨_, H', ⟨by have := HJ2.out; have := HJ11.out; have := HJ16.out; have := HJ20.out; first | omega | exact Nat.le_refl _⟩, ⟨by (with_reducible repeat (first | refine qj ?_ _ | refine qm ?_ | refine qi ?_ _)); exact BK221.out⟩, ⟨by repeat (first | (with_reducible first | exact HB.out | apply qg | apply qc | apply qh | refine ql ?_ GE221.out) | exact HB.out)⟩⟩
             ·rw [if_neg c31] at H
              have c31b0 : (a0_0 == 4) = false := beq_eq_false_iff_ne.mpr c31
              have c31b1 : (a0_0 != 4) = true := bne_iff_ne.mpr c31
              (first | rw [c31b0] | (simp only [i64_w, i32_w]; rw [c31b0]) | skip)
              by_cases c47 : a0_0 = 6
              ·rw [if_pos c47] at H
               have c47b0 : (a0_0 == 6) = true := beq_iff_eq.mpr c47
               have c47b1 : (a0_0 != 6) = false := bne_eq_false_iff_eq.mpr c47
               clear c47
               by_cases c48 : a0_1 < 1
               ·rw [if_pos c48] at H
                have c48b0 : decide (a0_1 < 1) = true := decide_eq_true c48
                clear c48
                obtain rfl := Option.some.inj H
                have hcz49_0 : wc.cell? ⟨gb221, 0, none⟩ = some (.int .i64 a0_0) := (qb BK221.out 0).trans rfl
                have hcz49_1 : wc.cell? ⟨gb221, 1, none⟩ = some (.int .i64 a0_1) := (qb BK221.out 1).trans rfl
                have hcz49_2 : wc.cell? ⟨gb221, 2, none⟩ = some (.int .i64 a0_2) := (qb BK221.out 2).trans rfl
                have hcz49_3 : wc.cell? ⟨gb221, 3, none⟩ = some (.string a0_3) := (qb BK221.out 3).trans rfl
                have hcz49_4 : wc.cell? ⟨gb221, 4, none⟩ = some (.int .i64 a0_4) := (qb BK221.out 4).trans rfl
                have hcz49_5 : wc.cell? ⟨gb221, 5, none⟩ = some (.int .i64 a0_5) := (qb BK221.out 5).trans rfl
                have hcz49_6 : wc.cell? ⟨gb221, 6, none⟩ = some (.string a0_6) := (qb BK221.out 6).trans rfl
                have hcz49_7 : wc.cell? ⟨gb221, 7, none⟩ = some (.slice A0_7 l0_7.length c0_7) := (qb BK221.out 7).trans rfl
                have hcz49_8 : wc.cell? ⟨gb221, 8, none⟩ = some (.slice A0_8 l0_8.length c0_8) := (qb BK221.out 8).trans rfl
                have hcz49_9 : wc.cell? ⟨gb221, 9, none⟩ = some (.slice A0_9 l0_9.length c0_9) := (qb BK221.out 9).trans rfl
                have hfz49_0 := qa BK221.out 0
                have hfz49_1 := qa BK221.out 1
                have hfz49_2 := qa BK221.out 2
                have hfz49_3 := qa BK221.out 3
                have hfz49_4 := qa BK221.out 4
                have hfz49_5 := qa BK221.out 5
                have hfz49_6 := qa BK221.out 6
                have hfz49_7 := qa BK221.out 7
                have hfz49_8 := qa BK221.out 8
                have hfz49_9 := qa BK221.out 9
                go_wp2
                go_ret
                exact ⟨by first | rfl | (simp [q9, qz] <;> rfl) | (simp [*, q9, qz] <;> rfl), by repeat (first | (with_reducible first | exact HB.out | apply qg | apply qc | apply qh | refine ql ?_ GE221.out) | exact HB.out)⟩
               ·rw [if_neg c48] at H
                have c48b0 : decide (a0_1 < 1) = false := decide_eq_false c48
                clear c48
                by_cases c50 : a0_1 > 1000
                ·rw [if_pos c50] at H
                 have c50b0 : decide (1000 < a0_1) = true := decide_eq_true c50
                 clear c50
                 obtain rfl := Option.some.inj H
                 have hcz51_0 : wc.cell? ⟨gb221, 0, none⟩ = some (.int .i64 a0_0) := (qb BK221.out 0).trans rfl
                 have hcz51_1 : wc.cell? ⟨gb221, 1, none⟩ = some (.int .i64 a0_1) := (qb BK221.out 1).trans rfl
                 have hcz51_2 : wc.cell? ⟨gb221, 2, none⟩ = some (.int .i64 a0_2) := (qb BK221.out 2).trans rfl
                 have hcz51_3 : wc.cell? ⟨gb221, 3, none⟩ = some (.string a0_3) := (qb BK221.out 3).trans rfl
                 have hcz51_4 : wc.cell? ⟨gb221, 4, none⟩ = some (.int .i64 a0_4) := (qb BK221.out 4).trans rfl
                 have hcz51_5 : wc.cell? ⟨gb221, 5, none⟩ = some (.int .i64 a0_5) := (qb BK221.out 5).trans rfl
                 have hcz51_6 : wc.cell? ⟨gb221, 6, none⟩ = some (.string a0_6) := (qb BK221.out 6).trans rfl
                 have hcz51_7 : wc.cell? ⟨gb221, 7, none⟩ = some (.slice A0_7 l0_7.length c0_7) := (qb BK221.out 7).trans rfl
                 have hcz51_8 : wc.cell? ⟨gb221, 8, none⟩ = some (.slice A0_8 l0_8.length c0_8) := (qb BK221.out 8).trans rfl
                 have hcz51_9 : wc.cell? ⟨gb221, 9, none⟩ = some (.slice A0_9 l0_9.length c0_9) := (qb BK221.out 9).trans rfl
                 have hfz51_0 := qa BK221.out 0
                 have hfz51_1 := qa BK221.out 1
                 have hfz51_2 := qa BK221.out 2
                 have hfz51_3 := qa BK221.out 3
                 have hfz51_4 := qa BK221.out 4
                 have hfz51_5 := qa BK221.out 5
                 have hfz51_6 := qa BK221.out 6
                 have hfz51_7 := qa BK221.out 7
                 have hfz51_8 := qa BK221.out 8
                 have hfz51_9 := qa BK221.out 9
                 go_wp2
                 go_ret
                 exact ⟨by first | rfl | (simp [q9, qz] <;> rfl) | (simp [*, q9, qz] <;> rfl), by repeat (first | (with_reducible first | exact HB.out | apply qg | apply qc | apply qh | refine ql ?_ GE221.out) | exact HB.out)⟩
                ·rw [if_neg c50] at H
                 have c50b0 : decide (1000 < a0_1) = false := decide_eq_false c50
                 clear c50
                 by_cases c52 : a0_2 = 0
                 ·rw [if_pos c52] at H
                  have c52b0 : (a0_2 == 0) = true := beq_iff_eq.mpr c52
                  have c52b1 : (a0_2 != 0) = false := bne_eq_false_iff_eq.mpr c52
                  clear c52
                  have H' := qd.mk H
                  clear H
                  have hcz53_0 : wc.cell? ⟨gb221, 0, none⟩ = some (.int .i64 a0_0) := (qb BK221.out 0).trans rfl
                  have hcz53_1 : wc.cell? ⟨gb221, 1, none⟩ = some (.int .i64 a0_1) := (qb BK221.out 1).trans rfl
                  have hcz53_2 : wc.cell? ⟨gb221, 2, none⟩ = some (.int .i64 a0_2) := (qb BK221.out 2).trans rfl
                  have hcz53_3 : wc.cell? ⟨gb221, 3, none⟩ = some (.string a0_3) := (qb BK221.out 3).trans rfl
                  have hcz53_4 : wc.cell? ⟨gb221, 4, none⟩ = some (.int .i64 a0_4) := (qb BK221.out 4).trans rfl
                  have hcz53_5 : wc.cell? ⟨gb221, 5, none⟩ = some (.int .i64 a0_5) := (qb BK221.out 5).trans rfl
                  have hcz53_6 : wc.cell? ⟨gb221, 6, none⟩ = some (.string a0_6) := (qb BK221.out 6).trans rfl
                  have hcz53_7 : wc.cell? ⟨gb221, 7, none⟩ = some (.slice A0_7 l0_7.length c0_7) := (qb BK221.out 7).trans rfl
                  have hcz53_8 : wc.cell? ⟨gb221, 8, none⟩ = some (.slice A0_8 l0_8.length c0_8) := (qb BK221.out 8).trans rfl
                  have hcz53_9 : wc.cell? ⟨gb221, 9, none⟩ = some (.slice A0_9 l0_9.length c0_9) := (qb BK221.out 9).trans rfl
                  have hfz53_0 := qa BK221.out 0
                  have hfz53_1 := qa BK221.out 1
                  have hfz53_2 := qa BK221.out 2
                  have hfz53_3 := qa BK221.out 3
                  have hfz53_4 := qa BK221.out 4
                  have hfz53_5 := qa BK221.out 5
                  have hfz53_6 := qa BK221.out 6
                  have hfz53_7 := qa BK221.out 7
                  have hfz53_8 := qa BK221.out 8
                  have hfz53_9 := qa BK221.out 9
                  go_wp2
                  go_meet
                  case rel => exact ⟨_, H', ⟨by have := HJ2.out; have := HJ11.out; have := HJ16.out; have := HJ20.out; first | omega | exact Nat.le_refl _⟩, ⟨by (with_reducible repeat (first | refine qj ?_ _ | refine qm ?_ | refine qi ?_ _)); exact BK221.out⟩, ⟨by repeat (first | (with_reducible first | exact HB.out | apply qg | apply qc | apply qh | refine ql ?_ GE221.out) | exact HB.out)⟩⟩
                 ·rw [if_neg c52] at H
                  have c52b0 : (a0_2 == 0) = false := beq_eq_false_iff_ne.mpr c52
                  have c52b1 : (a0_2 != 0) = true := bne_iff_ne.mpr c52
                  obtain rfl := Option.some.inj H
                  have hcz54_0 : wc.cell? ⟨gb221, 0, none⟩ = some (.int .i64 a0_0) := (qb BK221.out 0).trans rfl
                  have hcz54_1 : wc.cell? ⟨gb221, 1, none⟩ = some (.int .i64 a0_1) := (qb BK221.out 1).trans rfl
                  have hcz54_2 : wc.cell? ⟨gb221, 2, none⟩ = some (.int .i64 a0_2) := (qb BK221.out 2).trans rfl
                  have hcz54_3 : wc.cell? ⟨gb221, 3, none⟩ = some (.string a0_3) := (qb BK221.out 3).trans rfl
                  have hcz54_4 : wc.cell? ⟨gb221, 4, none⟩ = some (.int .i64 a0_4) := (qb BK221.out 4).trans rfl
                  have hcz54_5 : wc.cell? ⟨gb221, 5, none⟩ = some (.int .i64 a0_5) := (qb BK221.out 5).trans rfl
                  have hcz54_6 : wc.cell? ⟨gb221, 6, none⟩ = some (.string a0_6) := (qb BK221.out 6).trans rfl
                  have hcz54_7 : wc.cell? ⟨gb221, 7, none⟩ = some (.slice A0_7 l0_7.length c0_7) := (qb BK221.out 7).trans rfl
                  have hcz54_8 : wc.cell? ⟨gb221, 8, none⟩ = some (.slice A0_8 l0_8.length c0_8) := (qb BK221.out 8).trans rfl
                  have hcz54_9 : wc.cell? ⟨gb221, 9, none⟩ = some (.slice A0_9 l0_9.length c0_9) := (qb BK221.out 9).trans rfl
                  have hfz54_0 := qa BK221.out 0
                  have hfz54_1 := qa BK221.out 1
                  have hfz54_2 := qa BK221.out 2
                  have hfz54_3 := qa BK221.out 3
                  have hfz54_4 := qa BK221.out 4
                  have hfz54_5 := qa BK221.out 5
                  have hfz54_6 := qa BK221.out 6
                  have hfz54_7 := qa BK221.out 7
                  have hfz54_8 := qa BK221.out 8
                  have hfz54_9 := qa BK221.out 9
                  go_wp2
                  go_ret
                  exact ⟨by first | rfl | (simp [q9, qz] <;> rfl) | (simp [*, q9, qz] <;> rfl), by repeat (first | (with_reducible first | exact HB.out | apply qg | apply qc | apply qh | refine ql ?_ GE221.out) | exact HB.out)⟩
              ·rw [if_neg c47] at H
               have c47b0 : (a0_0 == 6) = false := beq_eq_false_iff_ne.mpr c47
               have c47b1 : (a0_0 != 6) = true := bne_iff_ne.mpr c47
               by_cases c55 : a0_1 = 0
               ·rw [if_pos c55] at H
                have c55b0 : (a0_1 == 0) = true := beq_iff_eq.mpr c55
                have c55b1 : (a0_1 != 0) = false := bne_eq_false_iff_eq.mpr c55
                clear c55
                by_cases c56 : a0_2 = 0
                ·rw [if_pos c56] at H
                 have c56b0 : (a0_2 == 0) = true := beq_iff_eq.mpr c56
                 have c56b1 : (a0_2 != 0) = false := bne_eq_false_iff_eq.mpr c56
                 clear c56
                 have H' := qd.mk H
                 clear H
                 have hcz57_0 : wc.cell? ⟨gb221, 0, none⟩ = some (.int .i64 a0_0) := (qb BK221.out 0).trans rfl
                 have hcz57_1 : wc.cell? ⟨gb221, 1, none⟩ = some (.int .i64 a0_1) := (qb BK221.out 1).trans rfl
                 have hcz57_2 : wc.cell? ⟨gb221, 2, none⟩ = some (.int .i64 a0_2) := (qb BK221.out 2).trans rfl
                 have hcz57_3 : wc.cell? ⟨gb221, 3, none⟩ = some (.string a0_3) := (qb BK221.out 3).trans rfl
                 have hcz57_4 : wc.cell? ⟨gb221, 4, none⟩ = some (.int .i64 a0_4) := (qb BK221.out 4).trans rfl
                 have hcz57_5 : wc.cell? ⟨gb221, 5, none⟩ = some (.int .i64 a0_5) := (qb BK221.out 5).trans rfl
                 have hcz57_6 : wc.cell? ⟨gb221, 6, none⟩ = some (.string a0_6) := (qb BK221.out 6).trans rfl
                 have hcz57_7 : wc.cell? ⟨gb221, 7, none⟩ = some (.slice A0_7 l0_7.length c0_7) := (qb BK221.out 7).trans rfl
                 have hcz57_8 : wc.cell? ⟨gb221, 8, none⟩ = some (.slice A0_8 l0_8.length c0_8) := (qb BK221.out 8).trans rfl
                 have hcz57_9 : wc.cell? ⟨gb221, 9, none⟩ = some (.slice A0_9 l0_9.length c0_9) := (qb BK221.out 9).trans rfl
                 have hfz57_0 := qa BK221.out 0
                 have hfz57_1 := qa BK221.out 1
                 have hfz57_2 := qa BK221.out 2
                 have hfz57_3 := qa BK221.out 3
                 have hfz57_4 := qa BK221.out 4
                 have hfz57_5 := qa BK221.out 5
                 have hfz57_6 := qa BK221.out 6
                 have hfz57_7 := qa BK221.out 7
                 have hfz57_8 := qa BK221.out 8
                 have hfz57_9 := qa BK221.out 9
                 go_wp2
                 go_meet
                 case rel => exact ⟨_, H', ⟨by have := HJ2.out; have := HJ11.out; have := HJ16.out; have := HJ20.out; first | omega | exact Nat.le_refl _⟩, ⟨by (with_reducible repeat (first | refine qj ?_ _ | refine qm ?_ | refine qi ?_ _)); exact BK221.out⟩, ⟨by repeat (first | (with_reducible first | exact HB.out | apply qg | apply qc | apply qh | refine ql ?_ GE221.out) | exact HB.out)⟩⟩
                ·rw [if_neg c56] at H
                 have c56b0 : (a0_2 == 0) = false := beq_eq_false_iff_ne.mpr c56
                 have c56b1 : (a0_2 != 0) = true := bne_iff_ne.mpr c56
                 obtain rfl := Option.some.inj H
                 have hcz58_0 : wc.cell? ⟨gb221, 0, none⟩ = some (.int .i64 a0_0) := (qb BK221.out 0).trans rfl
                 have hcz58_1 : wc.cell? ⟨gb221, 1, none⟩ = some (.int .i64 a0_1) := (qb BK221.out 1).trans rfl
                 have hcz58_2 : wc.cell? ⟨gb221, 2, none⟩ = some (.int .i64 a0_2) := (qb BK221.out 2).trans rfl
                 have hcz58_3 : wc.cell? ⟨gb221, 3, none⟩ = some (.string a0_3) := (qb BK221.out 3).trans rfl
                 have hcz58_4 : wc.cell? ⟨gb221, 4, none⟩ = some (.int .i64 a0_4) := (qb BK221.out 4).trans rfl
                 have hcz58_5 : wc.cell? ⟨gb221, 5, none⟩ = some (.int .i64 a0_5) := (qb BK221.out 5).trans rfl
                 have hcz58_6 : wc.cell? ⟨gb221, 6, none⟩ = some (.string a0_6) := (qb BK221.out 6).trans rfl
                 have hcz58_7 : wc.cell? ⟨gb221, 7, none⟩ = some (.slice A0_7 l0_7.length c0_7) := (qb BK221.out 7).trans rfl
                 have hcz58_8 : wc.cell? ⟨gb221, 8, none⟩ = some (.slice A0_8 l0_8.length c0_8) := (qb BK221.out 8).trans rfl
                 have hcz58_9 : wc.cell? ⟨gb221, 9, none⟩ = some (.slice A0_9 l0_9.length c0_9) := (qb BK221.out 9).trans rfl
                 have hfz58_0 := qa BK221.out 0
                 have hfz58_1 := qa BK221.out 1
                 have hfz58_2 := qa BK221.out 2
                 have hfz58_3 := qa BK221.out 3
                 have hfz58_4 := qa BK221.out 4
                 have hfz58_5 := qa BK221.out 5
                 have hfz58_6 := qa BK221.out 6
                 have hfz58_7 := qa BK221.out 7
                 have hfz58_8 := qa BK221.out 8
                 have hfz58_9 := qa BK221.out 9
                 go_wp2
                 go_ret
                 exact ⟨by first | rfl | (simp [q9, qz] <;> rfl) | (simp [*, q9, qz] <;> rfl), by repeat (first | (with_reducible first | exact HB.out | apply qg | apply qc | apply qh | refine ql ?_ GE221.out) | exact HB.out)⟩
               ·rw [if_neg c55] at H
                have c55b0 : (a0_1 == 0) = false := beq_eq_false_iff_ne.mpr c55
                have c55b1 : (a0_1 != 0) = true := bne_iff_ne.mpr c55
                obtain rfl := Option.some.inj H
                have hcz59_0 : wc.cell? ⟨gb221, 0, none⟩ = some (.int .i64 a0_0) := (qb BK221.out 0).trans rfl
                have hcz59_1 : wc.cell? ⟨gb221, 1, none⟩ = some (.int .i64 a0_1) := (qb BK221.out 1).trans rfl
                have hcz59_2 : wc.cell? ⟨gb221, 2, none⟩ = some (.int .i64 a0_2) := (qb BK221.out 2).trans rfl
                have hcz59_3 : wc.cell? ⟨gb221, 3, none⟩ = some (.string a0_3) := (qb BK221.out 3).trans rfl
                have hcz59_4 : wc.cell? ⟨gb221, 4, none⟩ = some (.int .i64 a0_4) := (qb BK221.out 4).trans rfl
                have hcz59_5 : wc.cell? ⟨gb221, 5, none⟩ = some (.int .i64 a0_5) := (qb BK221.out 5).trans rfl
                have hcz59_6 : wc.cell? ⟨gb221, 6, none⟩ = some (.string a0_6) := (qb BK221.out 6).trans rfl
                have hcz59_7 : wc.cell? ⟨gb221, 7, none⟩ = some (.slice A0_7 l0_7.length c0_7) := (qb BK221.out 7).trans rfl
                have hcz59_8 : wc.cell? ⟨gb221, 8, none⟩ = some (.slice A0_8 l0_8.length c0_8) := (qb BK221.out 8).trans rfl
                have hcz59_9 : wc.cell? ⟨gb221, 9, none⟩ = some (.slice A0_9 l0_9.length c0_9) := (qb BK221.out 9).trans rfl
                have hfz59_0 := qa BK221.out 0
                have hfz59_1 := qa BK221.out 1
                have hfz59_2 := qa BK221.out 2
                have hfz59_3 := qa BK221.out 3
                have hfz59_4 := qa BK221.out 4
                have hfz59_5 := qa BK221.out 5
                have hfz59_6 := qa BK221.out 6
                have hfz59_7 := qa BK221.out 7
                have hfz59_8 := qa BK221.out 8
                have hfz59_9 := qa BK221.out 9
                go_wp2
                go_ret
                exact ⟨by first | rfl | (simp [q9, qz] <;> rfl) | (simp [*, q9, qz] <;> rfl), by repeat (first | (with_reducible first | exact HB.out | apply qg | apply qc | apply qh | refine ql ?_ GE221.out) | exact HB.out)⟩
           case rest =>
            clear HC30
            (try clear c2); (try clear p2); (try clear c3); (try clear c4); (try clear c5); (try clear c29); (try clear c31); (try clear c31b0); (try clear c31b1); (try clear c32); (try clear c32b0); (try clear c34); (try clear c34b0); (try clear c36); (try clear c36b0); (try clear c38); (try clear c38b0); (try clear c40); (try clear c40b0); (try clear c40b1); (try clear c41); (try clear c41b0); (try clear c43); (try clear c43b0); (try clear c43b1); (try clear c47); (try clear c47b0); (try clear c47b1); (try clear c48); (try clear c48b0); (try clear c50); (try clear c50b0); (try clear c52); (try clear c52b0); (try clear c52b1); (try clear c55); (try clear c55b0); (try clear c55b1); (try clear c56); (try clear c56b0); (try clear c56b1); (try clear hcz33_0 hcz33_1 hcz33_2 hcz33_3 hcz33_4 hcz33_5 hcz33_6 hcz33_7 hcz33_8 hcz33_9); (try clear hcz35_0 hcz35_1 hcz35_2 hcz35_3 hcz35_4 hcz35_5 hcz35_6 hcz35_7 hcz35_8 hcz35_9); (try clear hcz37_0 hcz37_1 hcz37_2 hcz37_3 hcz37_4 hcz37_5 hcz37_6 hcz37_7 hcz37_8 hcz37_9); (try clear hcz39_0 hcz39_1 hcz39_2 hcz39_3 hcz39_4 hcz39_5 hcz39_6 hcz39_7 hcz39_8 hcz39_9); (try clear hcz42_0 hcz42_1 hcz42_2 hcz42_3 hcz42_4 hcz42_5 hcz42_6 hcz42_7 hcz42_8 hcz42_9); (try clear hcz44_0 hcz44_1 hcz44_2 hcz44_3 hcz44_4 hcz44_5 hcz44_6 hcz44_7 hcz44_8 hcz44_9); (try clear hcz45_0 hcz45_1 hcz45_2 hcz45_3 hcz45_4 hcz45_5 hcz45_6 hcz45_7 hcz45_8 hcz45_9); (try clear hcz46_0 hcz46_1 hcz46_2 hcz46_3 hcz46_4 hcz46_5 hcz46_6 hcz46_7 hcz46_8 hcz46_9); (try clear hcz49_0 hcz49_1 hcz49_2 hcz49_3 hcz49_4 hcz49_5 hcz49_6 hcz49_7 hcz49_8 hcz49_9); (try clear hcz51_0 hcz51_1 hcz51_2 hcz51_3 hcz51_4 hcz51_5 hcz51_6 hcz51_7 hcz51_8 hcz51_9); (try clear hcz53_0 hcz53_1 hcz53_2 hcz53_3 hcz53_4 hcz53_5 hcz53_6 hcz53_7 hcz53_8 hcz53_9); (try clear hcz54_0 hcz54_1 hcz54_2 hcz54_3 hcz54_4 hcz54_5 hcz54_6 hcz54_7 hcz54_8 hcz54_9); (try clear hcz57_0 hcz57_1 hcz57_2 hcz57_3 hcz57_4 hcz57_5 hcz57_6 hcz57_7 hcz57_8 hcz57_9); (try clear hcz58_0 hcz58_1 hcz58_2 hcz58_3 hcz58_4 hcz58_5 hcz58_6 hcz58_7 hcz58_8 hcz58_9); (try clear hcz59_0 hcz59_1 hcz59_2 hcz59_3 hcz59_4 hcz59_5 hcz59_6 hcz59_7 hcz59_8 hcz59_9); (try clear hcz7_4 hcz7_5 hcz7_6 hcz7_7 hcz7_8 hcz7_9); (try clear hcz9_0 hcz9_1 hcz9_2 hcz9_3 hcz9_4 hcz9_5 hcz9_6 hcz9_7 hcz9_8 hcz9_9); (try clear hfz10_0 hfz10_1 hfz10_2 hfz10_3 hfz10_4 hfz10_5 hfz10_6 hfz10_7 hfz10_8 hfz10_9); (try clear hfz13_0 hfz13_1 hfz13_2 hfz13_3 hfz13_4 hfz13_5 hfz13_6 hfz13_7 hfz13_8 hfz13_9); (try clear hfz15_0 hfz15_1 hfz15_2 hfz15_3 hfz15_4 hfz15_5 hfz15_6 hfz15_7 hfz15_8 hfz15_9); (try clear hfz16_0 hfz16_1 hfz16_2 hfz16_3 hfz16_4 hfz16_5 hfz16_6 hfz16_7 hfz16_8 hfz16_9); (try clear hfz19_0 hfz19_1 hfz19_2 hfz19_3 hfz19_4 hfz19_5 hfz19_6 hfz19_7 hfz19_8 hfz19_9); (try clear hfz20_0 hfz20_1 hfz20_2 hfz20_3 hfz20_4 hfz20_5 hfz20_6 hfz20_7 hfz20_8 hfz20_9); (try clear hfz33_0 hfz33_1 hfz33_2 hfz33_3 hfz33_4 hfz33_5 hfz33_6 hfz33_7 hfz33_8 hfz33_9); (try clear hfz35_0 hfz35_1 hfz35_2 hfz35_3 hfz35_4 hfz35_5 hfz35_6 hfz35_7 hfz35_8 hfz35_9); (try clear hfz37_0 hfz37_1 hfz37_2 hfz37_3 hfz37_4 hfz37_5 hfz37_6 hfz37_7 hfz37_8 hfz37_9); (try clear hfz39_0 hfz39_1 hfz39_2 hfz39_3 hfz39_4 hfz39_5 hfz39_6 hfz39_7 hfz39_8 hfz39_9); (try clear hfz42_0 hfz42_1 hfz42_2 hfz42_3 hfz42_4 hfz42_5 hfz42_6 hfz42_7 hfz42_8 hfz42_9); (try clear hfz44_0 hfz44_1 hfz44_2 hfz44_3 hfz44_4 hfz44_5 hfz44_6 hfz44_7 hfz44_8 hfz44_9); (try clear hfz45_0 hfz45_1 hfz45_2 hfz45_3 hfz45_4 hfz45_5 hfz45_6 hfz45_7 hfz45_8 hfz45_9); (try clear hfz46_0 hfz46_1 hfz46_2 hfz46_3 hfz46_4 hfz46_5 hfz46_6 hfz46_7 hfz46_8 hfz46_9); (try clear hfz49_0 hfz49_1 hfz49_2 hfz49_3 hfz49_4 hfz49_5 hfz49_6 hfz49_7 hfz49_8 hfz49_9); (try clear hfz51_0 hfz51_1 hfz51_2 hfz51_3 hfz51_4 hfz51_5 hfz51_6 hfz51_7 hfz51_8 hfz51_9); (try clear hfz53_0 hfz53_1 hfz53_2 hfz53_3 hfz53_4 hfz53_5 hfz53_6 hfz53_7 hfz53_8 hfz53_9); (try clear hfz54_0 hfz54_1 hfz54_2 hfz54_3 hfz54_4 hfz54_5 hfz54_6 hfz54_7 hfz54_8 hfz54_9); (try clear hfz57_0 hfz57_1 hfz57_2 hfz57_3 hfz57_4 hfz57_5 hfz57_6 hfz57_7 hfz57_8 hfz57_9); (try clear hfz58_0 hfz58_1 hfz58_2 hfz58_3 hfz58_4 hfz58_5 hfz58_6 hfz58_7 hfz58_8 hfz58_9); (try clear hfz59_0 hfz59_1 hfz59_2 hfz59_3 hfz59_4 hfz59_5 hfz59_6 hfz59_7 hfz59_8 hfz59_9); (try clear hfz7_0 hfz7_1 hfz7_2 hfz7_3 hfz7_4 hfz7_5 hfz7_6 hfz7_7 hfz7_8 hfz7_9); (try clear hfz9_0 hfz9_1 hfz9_2 hfz9_3 hfz9_4 hfz9_5 hfz9_6 hfz9_7 hfz9_8 hfz9_9); (try clear p2)
            obtain ⟨kq, HA, HJ29, BK221, HB⟩ := hcut
            cases kq with
            | zero => exact absurd HA.out (by simp [qf.j4])
            | succ kj29 =>
             have H := HA.out
             clear HA
             simp only [qf.j4] at H
             have HC60 := qd.mk H
             clear H
             go_upto_region 14 with (fail)
             go_cut [8] (fun v8 wc => ∃ (kq : Nat) (x8_59 : Bool), v8 = .bool x8_59 ∧ qd (qf.j5 kq a1 (l0_8.length : Int) x8_59 a0_0 a0_1 a0_2 a0_3 a0_4 a0_5 a0_6 l0_7 l0_8 l0_9 = some r) ∧ qd (kq ≤ kj29) ∧ qd (wc.heap[gb221]? = some (.cells #[.int .i64 a0_0, .int .i64 a0_1, .int .i64 a0_2, .string a0_3, .int .i64 a0_4, .int .i64 a0_5, .string a0_6, (.slice A0_7 l0_7.length c0_7), (.slice A0_8 l0_8.length c0_8), (.slice A0_9 l0_9.length c0_9)] 30 (0, 0))) ∧ qd (Below w.heap.size w wc))
             case first =>
              as_aux_lemma =>
               have H := HC60.out
               clear HC60
               by_cases c61 : a0_0 = 8
               ·rw [if_pos c61] at H
                have c61b0 : (a0_0 == 8) = true := beq_iff_eq.mpr c61
                have c61b1 : (a0_0 != 8) = false := bne_eq_false_iff_eq.mpr c61
                clear c61
                (first | rw [c61b0] | (simp only [i64_w, i32_w]; rw [c61b0]) | skip)
                have H' := qd.mk H
                clear H
                have hcz62_0 : wc.cell? ⟨gb221, 0, none⟩ = some (.int .i64 a0_0) := (qb BK221.out 0).trans rfl
                have hcz62_1 : wc.cell? ⟨gb221, 1, none⟩ = some (.int .i64 a0_1) := (qb BK221.out 1).trans rfl
                have hcz62_2 : wc.cell? ⟨gb221, 2, none⟩ = some (.int .i64 a0_2) := (qb BK221.out 2).trans rfl
                have hcz62_3 : wc.cell? ⟨gb221, 3, none⟩ = some (.string a0_3) := (qb BK221.out 3).trans rfl
                have hcz62_4 : wc.cell? ⟨gb221, 4, none⟩ = some (.int .i64 a0_4) := (qb BK221.out 4).trans rfl
                have hcz62_5 : wc.cell? ⟨gb221, 5, none⟩ = some (.int .i64 a0_5) := (qb BK221.out 5).trans rfl
                have hcz62_6 : wc.cell? ⟨gb221, 6, none⟩ = some (.string a0_6) := (qb BK221.out 6).trans rfl
                have hcz62_7 : wc.cell? ⟨gb221, 7, none⟩ = some (.slice A0_7 l0_7.length c0_7) := (qb BK221.out 7).trans rfl
                have hcz62_8 : wc.cell? ⟨gb221, 8, none⟩ = some (.slice A0_8 l0_8.length c0_8) := (qb BK221.out 8).trans rfl
                have hcz62_9 : wc.cell? ⟨gb221, 9, none⟩ = some (.slice A0_9 l0_9.length c0_9) := (qb BK221.out 9).trans rfl
                have hfz62_0 := qa BK221.out 0
                have hfz62_1 := qa BK221.out 1
                have hfz62_2 := qa BK221.out 2
                have hfz62_3 := qa BK221.out 3
                have hfz62_4 := qa BK221.out 4
                have hfz62_5 := qa BK221.out 5
                have hfz62_6 := qa BK221.out 6
                have hfz62_7 := qa BK221.out 7
                have hfz62_8 := qa BK221.out 8
                have hfz62_9 := qa BK221.out 9
                go_wp2
                go_meet
                case rel => exact ⟨_, (true), (by first | rfl | (simp; done) | (simp [*]; done)), H', ⟨by have := HJ2.out; have := HJ11.out; have := HJ16.out; have := HJ20.out; have := HJ29.out; first | omega | exact Nat.le_refl _⟩, ⟨by (with_reducible repeat (first | refine qj ?_ _ | refine qm ?_ | refine qi ?_ _)); exact BK221.out⟩, ⟨by repeat (first | (with_reducible first | exact HB.out | apply qg | apply qc | apply qh | refine ql ?_ GE221.out) | exact HB.out)⟩⟩
               ·rw [if_neg c61] at H
                have c61b0 : (a0_0 == 8) = false := beq_eq_false_iff_ne.mpr c61
                have c61b1 : (a0_0 != 8) = true := bne_iff_ne.mpr c61
                (first | rw [c61b0] | (simp only [i64_w, i32_w]; rw [c61b0]) | skip)
                by_cases c63 : a0_0 = 9
                ·rw [if_pos c63] at H
                 have c63b0 : (a0_0 == 9) = true := beq_iff_eq.mpr c63
                 have c63b1 : (a0_0 != 9) = false := bne_eq_false_iff_eq.mpr c63
                 clear c63
                 have H' := qd.mk H
                 clear H
                 have hcz64_0 : wc.cell? ⟨gb221, 0, none⟩ = some (.int .i64 a0_0) := (qb BK221.out 0).trans rfl
                 have hcz64_1 : wc.cell? ⟨gb221, 1, none⟩ = some (.int .i64 a0_1) := (qb BK221.out 1).trans rfl
                 have hcz64_2 : wc.cell? ⟨gb221, 2, none⟩ = some (.int .i64 a0_2) := (qb BK221.out 2).trans rfl
                 have hcz64_3 : wc.cell? ⟨gb221, 3, none⟩ = some (.string a0_3) := (qb BK221.out 3).trans rfl
                 have hcz64_4 : wc.cell? ⟨gb221, 4, none⟩ = some (.int .i64 a0_4) := (qb BK221.out 4).trans rfl
                 have hcz64_5 : wc.cell? ⟨gb221, 5, none⟩ = some (.int .i64 a0_5) := (qb BK221.out 5).trans rfl
                 have hcz64_6 : wc.cell? ⟨gb221, 6, none⟩ = some (.string a0_6) := (qb BK221.out 6).trans rfl
                 have hcz64_7 : wc.cell? ⟨gb221, 7, none⟩ = some (.slice A0_7 l0_7.length c0_7) := (qb BK221.out 7).trans rfl
                 have hcz64_8 : wc.cell? ⟨gb221, 8, none⟩ = some (.slice A0_8 l0_8.length c0_8) := (qb BK221.out 8).trans rfl
                 have hcz64_9 : wc.cell? ⟨gb221, 9, none⟩ = some (.slice A0_9 l0_9.length c0_9) := (qb BK221.out 9).trans rfl
                 have hfz64_0 := qa BK221.out 0
                 have hfz64_1 := qa BK221.out 1
                 have hfz64_2 := qa BK221.out 2
                 have hfz64_3 := qa BK221.out 3
                 have hfz64_4 := qa BK221.out 4
                 have hfz64_5 := qa BK221.out 5
                 have hfz64_6 := qa BK221.out 6
                 have hfz64_7 := qa BK221.out 7
                 have hfz64_8 := qa BK221.out 8
                 have hfz64_9 := qa BK221.out 9
                 go_wp2
                 go_meet
                 case rel => exact ⟨_, (true), (by first | rfl | (simp; done) | (simp [*]; done)), H', ⟨by have := HJ2.out; have := HJ11.out; have := HJ16.out; have := HJ20.out; have := HJ29.out; first | omega | exact Nat.le_refl _⟩, ⟨by (with_reducible repeat (first | refine qj ?_ _ | refine qm ?_ | refine qi ?_ _)); exact BK221.out⟩, ⟨by repeat (first | (with_reducible first | exact HB.out | apply qg | apply qc | apply qh | refine ql ?_ GE221.out) | exact HB.out)⟩⟩
                ·rw [if_neg c63] at H
                 have c63b0 : (a0_0 == 9) = false := beq_eq_false_iff_ne.mpr c63
                 have c63b1 : (a0_0 != 9) = true := bne_iff_ne.mpr c63
                 have H' := qd.mk H
                 clear H
                 have hcz65_0 : wc.cell? ⟨gb221, 0, none⟩ = some (.int .i64 a0_0) := (qb BK221.out 0).trans rfl
                 have hcz65_1 : wc.cell? ⟨gb221, 1, none⟩ = some (.int .i64 a0_1) := (qb BK221.out 1).trans rfl
                 have hcz65_2 : wc.cell? ⟨gb221, 2, none⟩ = some (.int .i64 a0_2) := (qb BK221.out 2).trans rfl
                 have hcz65_3 : wc.cell? ⟨gb221, 3, none⟩ = some (.string a0_3) := (qb BK221.out 3).trans rfl
                 have hcz65_4 : wc.cell? ⟨gb221, 4, none⟩ = some (.int .i64 a0_4) := (qb BK221.out 4).trans rfl
                 have hcz65_5 : wc.cell? ⟨gb221, 5, none⟩ = some (.int .i64 a0_5) := (qb BK221.out 5).trans rfl
                 have hcz65_6 : wc.cell? ⟨gb221, 6, none⟩ = some (.string a0_6) := (qb BK221.out 6).trans rfl
                 have hcz65_7 : wc.cell? ⟨gb221, 7, none⟩ = some (.slice A0_7 l0_7.length c0_7) := (qb BK221.out 7).trans rfl
                 have hcz65_8 : wc.cell? ⟨gb221, 8, none⟩ = some (.slice A0_8 l0_8.length c0_8) := (qb BK221.out 8).trans rfl
                 have hcz65_9 : wc.cell? ⟨gb221, 9, none⟩ = some (.slice A0_9 l0_9.length c0_9) := (qb BK221.out 9).trans rfl
                 have hfz65_0 := qa BK221.out 0
                 have hfz65_1 := qa BK221.out 1
                 have hfz65_2 := qa BK221.out 2
                 have hfz65_3 := qa BK221.out 3
                 have hfz65_4 := qa BK221.out 4
                 have hfz65_5 := qa BK221.out 5
                 have hfz65_6 := qa BK221.out 6
                 have hfz65_7 := qa BK221.out 7
                 have hfz65_8 := qa BK221.out 8
                 have hfz65_9 := qa BK221.out 9
                 go_wp2
                 go_meet
                 case rel => exact ⟨_, ((a0_0 == 12)), (by first | rfl | (simp; done) | (simp [*]; done)), H', ⟨by have := HJ2.out; have := HJ11.out; have := HJ16.out; have := HJ20.out; have := HJ29.out; first | omega | exact Nat.le_refl _⟩, ⟨by (with_reducible repeat (first | refine qj ?_ _ | refine qm ?_ | refine qi ?_ _)); exact BK221.out⟩, ⟨by repeat (first | (with_reducible first | exact HB.out | apply qg | apply qc | apply qh | refine ql ?_ GE221.out) | exact HB.out)⟩⟩
             case rest =>
              clear HC60
              (try clear c2); (try clear p2); (try clear c3); (try clear c4); (try clear c5); (try clear c6); (try clear c29); (try clear c31); (try clear c31b0); (try clear c31b1); (try clear c32); (try clear c32b0); (try clear c34); (try clear c34b0); (try clear c36); (try clear c36b0); (try clear c38); (try clear c38b0); (try clear c40); (try clear c40b0); (try clear c40b1); (try clear c41); (try clear c41b0); (try clear c43); (try clear c43b0); (try clear c43b1); (try clear c47); (try clear c47b0); (try clear c47b1); (try clear c48); (try clear c48b0); (try clear c50); (try clear c50b0); (try clear c52); (try clear c52b0); (try clear c52b1); (try clear c55); (try clear c55b0); (try clear c55b1); (try clear c56); (try clear c56b0); (try clear c56b1); (try clear c61); (try clear c61b0); (try clear c61b1); (try clear c63); (try clear c63b0); (try clear c63b1); (try clear hcz33_0 hcz33_1 hcz33_2 hcz33_3 hcz33_4 hcz33_5 hcz33_6 hcz33_7 hcz33_8 hcz33_9); (try clear hcz35_0 hcz35_1 hcz35_2 hcz35_3 hcz35_4 hcz35_5 hcz35_6 hcz35_7 hcz35_8 hcz35_9); (try clear hcz37_0 hcz37_1 hcz37_2 hcz37_3 hcz37_4 hcz37_5 hcz37_6 hcz37_7 hcz37_8 hcz37_9); (try clear hcz39_0 hcz39_1 hcz39_2 hcz39_3 hcz39_4 hcz39_5 hcz39_6 hcz39_7 hcz39_8 hcz39_9); (try clear hcz42_0 hcz42_1 hcz42_2 hcz42_3 hcz42_4 hcz42_5 hcz42_6 hcz42_7 hcz42_8 hcz42_9); (try clear hcz44_0 hcz44_1 hcz44_2 hcz44_3 hcz44_4 hcz44_5 hcz44_6 hcz44_7 hcz44_8 hcz44_9); (try clear hcz45_0 hcz45_1 hcz45_2 hcz45_3 hcz45_4 hcz45_5 hcz45_6 hcz45_7 hcz45_8 hcz45_9); (try clear hcz46_0 hcz46_1 hcz46_2 hcz46_3 hcz46_4 hcz46_5 hcz46_6 hcz46_7 hcz46_8 hcz46_9); (try clear hcz49_0 hcz49_1 hcz49_2 hcz49_3 hcz49_4 hcz49_5 hcz49_6 hcz49_7 hcz49_8 hcz49_9); (try clear hcz51_0 hcz51_1 hcz51_2 hcz51_3 hcz51_4 hcz51_5 hcz51_6 hcz51_7 hcz51_8 hcz51_9); (try clear hcz53_0 hcz53_1 hcz53_2 hcz53_3 hcz53_4 hcz53_5 hcz53_6 hcz53_7 hcz53_8 hcz53_9); (try clear hcz54_0 hcz54_1 hcz54_2 hcz54_3 hcz54_4 hcz54_5 hcz54_6 hcz54_7 hcz54_8 hcz54_9); (try clear hcz57_0 hcz57_1 hcz57_2 hcz57_3 hcz57_4 hcz57_5 hcz57_6 hcz57_7 hcz57_8 hcz57_9); (try clear hcz58_0 hcz58_1 hcz58_2 hcz58_3 hcz58_4 hcz58_5 hcz58_6 hcz58_7 hcz58_8 hcz58_9); (try clear hcz59_0 hcz59_1 hcz59_2 hcz59_3 hcz59_4 hcz59_5 hcz59_6 hcz59_7 hcz59_8 hcz59_9); (try clear hcz62_0 hcz62_1 hcz62_2 hcz62_3 hcz62_4 hcz62_5 hcz62_6 hcz62_7 hcz62_8 hcz62_9); (try clear hcz64_0 hcz64_1 hcz64_2 hcz64_3 hcz64_4 hcz64_5 hcz64_6 hcz64_7 hcz64_8 hcz64_9); (try clear hcz65_0 hcz65_1 hcz65_2 hcz65_3 hcz65_4 hcz65_5 hcz65_6 hcz65_7 hcz65_8 hcz65_9); (try clear hcz7_4 hcz7_5 hcz7_6 hcz7_7 hcz7_8 hcz7_9); (try clear hcz9_0 hcz9_1 hcz9_2 hcz9_3 hcz9_4 hcz9_5 hcz9_6 hcz9_7 hcz9_8 hcz9_9); (try clear hfz10_0 hfz10_1 hfz10_2 hfz10_3 hfz10_4 hfz10_5 hfz10_6 hfz10_7 hfz10_8 hfz10_9); (try clear hfz13_0 hfz13_1 hfz13_2 hfz13_3 hfz13_4 hfz13_5 hfz13_6 hfz13_7 hfz13_8 hfz13_9); (try clear hfz15_0 hfz15_1 hfz15_2 hfz15_3 hfz15_4 hfz15_5 hfz15_6 hfz15_7 hfz15_8 hfz15_9); (try clear hfz16_0 hfz16_1 hfz16_2 hfz16_3 hfz16_4 hfz16_5 hfz16_6 hfz16_7 hfz16_8 hfz16_9); (try clear hfz19_0 hfz19_1 hfz19_2 hfz19_3 hfz19_4 hfz19_5 hfz19_6 hfz19_7 hfz19_8 hfz19_9); (try clear hfz20_0 hfz20_1 hfz20_2 hfz20_3 hfz20_4 hfz20_5 hfz20_6 hfz20_7 hfz20_8 hfz20_9); (try clear hfz33_0 hfz33_1 hfz33_2 hfz33_3 hfz33_4 hfz33_5 hfz33_6 hfz33_7 hfz33_8 hfz33_9); (try clear hfz35_0 hfz35_1 hfz35_2 hfz35_3 hfz35_4 hfz35_5 hfz35_6 hfz35_7 hfz35_8 hfz35_9); (try clear hfz37_0 hfz37_1 hfz37_2 hfz37_3 hfz37_4 hfz37_5 hfz37_6 hfz37_7 hfz37_8 hfz37_9); (try clear hfz39_0 hfz39_1 hfz39_2 hfz39_3 hfz39_4 hfz39_5 hfz39_6 hfz39_7 hfz39_8 hfz39_9); (try clear hfz42_0 hfz42_1 hfz42_2 hfz42_3 hfz42_4 hfz42_5 hfz42_6 hfz42_7 hfz42_8 hfz42_9); (try clear hfz44_0 hfz44_1 hfz44_2 hfz44_3 hfz44_4 hfz44_5 hfz44_6 hfz44_7 hfz44_8 hfz44_9); (try clear hfz45_0 hfz45_1 hfz45_2 hfz45_3 hfz45_4 hfz45_5 hfz45_6 hfz45_7 hfz45_8 hfz45_9); (try clear hfz46_0 hfz46_1 hfz46_2 hfz46_3 hfz46_4 hfz46_5 hfz46_6 hfz46_7 hfz46_8 hfz46_9); (try clear hfz49_0 hfz49_1 hfz49_2 hfz49_3 hfz49_4 hfz49_5 hfz49_6 hfz49_7 hfz49_8 hfz49_9); (try clear hfz51_0 hfz51_1 hfz51_2 hfz51_3 hfz51_4 hfz51_5 hfz51_6 hfz51_7 hfz51_8 hfz51_9); (try clear hfz53_0 hfz53_1 hfz53_2 hfz53_3 hfz53_4 hfz53_5 hfz53_6 hfz53_7 hfz53_8 hfz53_9); (try clear hfz54_0 hfz54_1 hfz54_2 hfz54_3 hfz54_4 hfz54_5 hfz54_6 hfz54_7 hfz54_8 hfz54_9); (try clear hfz57_0 hfz57_1 hfz57_2 hfz57_3 hfz57_4 hfz57_5 hfz57_6 hfz57_7 hfz57_8 hfz57_9); (try clear hfz58_0 hfz58_1 hfz58_2 hfz58_3 hfz58_4 hfz58_5 hfz58_6 hfz58_7 hfz58_8 hfz58_9); (try clear hfz59_0 hfz59_1 hfz59_2 hfz59_3 hfz59_4 hfz59_5 hfz59_6 hfz59_7 hfz59_8 hfz59_9); (try clear hfz62_0 hfz62_1 hfz62_2 hfz62_3 hfz62_4 hfz62_5 hfz62_6 hfz62_7 hfz62_8 hfz62_9); (try clear hfz64_0 hfz64_1 hfz64_2 hfz64_3 hfz64_4 hfz64_5 hfz64_6 hfz64_7 hfz64_8 hfz64_9); (try clear hfz65_0 hfz65_1 hfz65_2 hfz65_3 hfz65_4 hfz65_5 hfz65_6 hfz65_7 hfz65_8 hfz65_9); (try clear hfz7_0 hfz7_1 hfz7_2 hfz7_3 hfz7_4 hfz7_5 hfz7_6 hfz7_7 hfz7_8 hfz7_9); (try clear hfz9_0 hfz9_1 hfz9_2 hfz9_3 hfz9_4 hfz9_5 hfz9_6 hfz9_7 hfz9_8 hfz9_9); (try clear p2)
              obtain ⟨kq, x8_59, rfl, HA, HJ59, BK221, HB⟩ := hcut
              cases kq with
              | zero => exact absurd HA.out (by simp [qf.j5])
              | succ kj59 =>
               have H := HA.out
               clear HA
               simp only [qf.j5] at H
               have HC66 := qd.mk H
               clear H
               go_upto_region 15 with (fail)
               go_cut [9] (fun v9 wc => ∃ (kq : Nat) (x9_65 : Bool), v9 = .bool x9_65 ∧ qd (qf.j6 kq a1 (l0_8.length : Int) x8_59 x9_65 a0_0 a0_1 a0_2 a0_3 a0_4 a0_5 a0_6 l0_7 l0_8 l0_9 = some r) ∧ qd (kq ≤ kj59) ∧ qd (wc.heap[gb221]? = some (.cells #[.int .i64 a0_0, .int .i64 a0_1, .int .i64 a0_2, .string a0_3, .int .i64 a0_4, .int .i64 a0_5, .string a0_6, (.slice A0_7 l0_7.length c0_7), (.slice A0_8 l0_8.length c0_8), (.slice A0_9 l0_9.length c0_9)] 30 (0, 0))) ∧ qd (Below w.heap.size w wc))
               case first =>
                as_aux_lemma =>
                 have H := HC66.out
                 clear HC66
                 by_cases c67 : a0_0 = 7
                 ·rw [if_pos c67] at H
                  have c67b0 : (a0_0 == 7) = true := beq_iff_eq.mpr c67
                  have c67b1 : (a0_0 != 7) = false := bne_eq_false_iff_eq.mpr c67
                  clear c67
                  (first | rw [c67b0] | (simp only [i64_w, i32_w]; rw [c67b0]) | skip)
                  have H' := qd.mk H
                  clear H
                  have hcz68_0 : wc.cell? ⟨gb221, 0, none⟩ = some (.int .i64 a0_0) := (qb BK221.out 0).trans rfl
                  have hcz68_1 : wc.cell? ⟨gb221, 1, none⟩ = some (.int .i64 a0_1) := (qb BK221.out 1).trans rfl
                  have hcz68_2 : wc.cell? ⟨gb221, 2, none⟩ = some (.int .i64 a0_2) := (qb BK221.out 2).trans rfl
                  have hcz68_3 : wc.cell? ⟨gb221, 3, none⟩ = some (.string a0_3) := (qb BK221.out 3).trans rfl
                  have hcz68_4 : wc.cell? ⟨gb221, 4, none⟩ = some (.int .i64 a0_4) := (qb BK221.out 4).trans rfl
                  have hcz68_5 : wc.cell? ⟨gb221, 5, none⟩ = some (.int .i64 a0_5) := (qb BK221.out 5).trans rfl
                  have hcz68_6 : wc.cell? ⟨gb221, 6, none⟩ = some (.string a0_6) := (qb BK221.out 6).trans rfl
                  have hcz68_7 : wc.cell? ⟨gb221, 7, none⟩ = some (.slice A0_7 l0_7.length c0_7) := (qb BK221.out 7).trans rfl
                  have hcz68_8 : wc.cell? ⟨gb221, 8, none⟩ = some (.slice A0_8 l0_8.length c0_8) := (qb BK221.out 8).trans rfl
                  have hcz68_9 : wc.cell? ⟨gb221, 9, none⟩ = some (.slice A0_9 l0_9.length c0_9) := (qb BK221.out 9).trans rfl
                  have hfz68_0 := qa BK221.out 0
                  have hfz68_1 := qa BK221.out 1
                  have hfz68_2 := qa BK221.out 2
                  have hfz68_3 := qa BK221.out 3
                  have hfz68_4 := qa BK221.out 4
                  have hfz68_5 := qa BK221.out 5
                  have hfz68_6 := qa BK221.out 6
                  have hfz68_7 := qa BK221.out 7
                  have hfz68_8 := qa BK221.out 8
                  have hfz68_9 := qa BK221.out 9
                  go_wp2
                  go_meet
                  case rel => exact ⟨_, (true), (by first | rfl | (simp; done) | (simp [*]; done)), H', ⟨by have := HJ2.out; have := HJ11.out; have := HJ16.out; have := HJ20.out; have := HJ29.out; have := HJ59.out; first | omega | exact Nat.le_refl _⟩, ⟨by (with_reducible repeat (first | refine qj ?_ _ | refine qm ?_ | refine qi ?_ _)); exact BK221.out⟩, ⟨by repeat (first | (with_reducible first | exact HB.out | apply qg | apply qc | apply qh | refine ql ?_ GE221.out) | exact HB.out)⟩⟩
                 ·rw [if_neg c67] at H
                  have c67b0 : (a0_0 == 7) = false := beq_eq_false_iff_ne.mpr c67
                  have c67b1 : (a0_0 != 7) = true := bne_iff_ne.mpr c67
                  (first | rw [c67b0] | (simp only [i64_w, i32_w]; rw [c67b0]) | skip)
                  have H' := qd.mk H
                  clear H
                  have hcz69_0 : wc.cell? ⟨gb221, 0, none⟩ = some (.int .i64 a0_0) := (qb BK221.out 0).trans rfl
                  have hcz69_1 : wc.cell? ⟨gb221, 1, none⟩ = some (.int .i64 a0_1) := (qb BK221.out 1).trans rfl
                  have hcz69_2 : wc.cell? ⟨gb221, 2, none⟩ = some (.int .i64 a0_2) := (qb BK221.out 2).trans rfl
                  have hcz69_3 : wc.cell? ⟨gb221, 3, none⟩ = some (.string a0_3) := (qb BK221.out 3).trans rfl
                  have hcz69_4 : wc.cell? ⟨gb221, 4, none⟩ = some (.int .i64 a0_4) := (qb BK221.out 4).trans rfl
                  have hcz69_5 : wc.cell? ⟨gb221, 5, none⟩ = some (.int .i64 a0_5) := (qb BK221.out 5).trans rfl
                  have hcz69_6 : wc.cell? ⟨gb221, 6, none⟩ = some (.string a0_6) := (qb BK221.out 6).trans rfl
                  have hcz69_7 : wc.cell? ⟨gb221, 7, none⟩ = some (.slice A0_7 l0_7.length c0_7) := (qb BK221.out 7).trans rfl
                  have hcz69_8 : wc.cell? ⟨gb221, 8, none⟩ = some (.slice A0_8 l0_8.length c0_8) := (qb BK221.out 8).trans rfl
                  have hcz69_9 : wc.cell? ⟨gb221, 9, none⟩ = some (.slice A0_9 l0_9.length c0_9) := (qb BK221.out 9).trans rfl
                  have hfz69_0 := qa BK221.out 0
                  have hfz69_1 := qa BK221.out 1
                  have hfz69_2 := qa BK221.out 2
                  have hfz69_3 := qa BK221.out 3
                  have hfz69_4 := qa BK221.out 4
                  have hfz69_5 := qa BK221.out 5
                  have hfz69_6 := qa BK221.out 6
                  have hfz69_7 := qa BK221.out 7
                  have hfz69_8 := qa BK221.out 8
                  have hfz69_9 := qa BK221.out 9
                  go_wp2
                  go_meet
                  case rel => exact ⟨_, ((a0_0 == 8)), (by first | rfl | (simp; done) | (simp [*]; done)), H', ⟨by have := HJ2.out; have := HJ11.out; have := HJ16.out; have := HJ20.out; have := HJ29.out; have := HJ59.out; first | omega | exact Nat.le_refl _⟩, ⟨by (with_reducible repeat (first | refine qj ?_ _ | refine qm ?_ | refine qi ?_ _)); exact BK221.out⟩, ⟨by repeat (first | (with_reducible first | exact HB.out | apply qg | apply qc | apply qh | refine ql ?_ GE221.out) | exact HB.out)⟩⟩
               case rest =>
                clear HC66
                (try clear c2); (try clear p2); (try clear c3); (try clear c4); (try clear c5); (try clear c6); (try clear c29); (try clear c31); (try clear c31b0); (try clear c31b1); (try clear c32); (try clear c32b0); (try clear c34); (try clear c34b0); (try clear c36); (try clear c36b0); (try clear c38); (try clear c38b0); (try clear c40); (try clear c40b0); (try clear c40b1); (try clear c41); (try clear c41b0); (try clear c43); (try clear c43b0); (try clear c43b1); (try clear c47); (try clear c47b0); (try clear c47b1); (try clear c48); (try clear c48b0); (try clear c50); (try clear c50b0); (try clear c52); (try clear c52b0); (try clear c52b1); (try clear c55); (try clear c55b0); (try clear c55b1); (try clear c56); (try clear c56b0); (try clear c56b1); (try clear c61); (try clear c61b0); (try clear c61b1); (try clear c63); (try clear c63b0); (try clear c63b1); (try clear c67); (try clear c67b0); (try clear c67b1); (try clear hcz33_0 hcz33_1 hcz33_2 hcz33_3 hcz33_4 hcz33_5 hcz33_6 hcz33_7 hcz33_8 hcz33_9); (try clear hcz35_0 hcz35_1 hcz35_2 hcz35_3 hcz35_4 hcz35_5 hcz35_6 hcz35_7 hcz35_8 hcz35_9); (try clear hcz37_0 hcz37_1 hcz37_2 hcz37_3 hcz37_4 hcz37_5 hcz37_6 hcz37_7 hcz37_8 hcz37_9); (try clear hcz39_0 hcz39_1 hcz39_2 hcz39_3 hcz39_4 hcz39_5 hcz39_6 hcz39_7 hcz39_8 hcz39_9); (try clear hcz42_0 hcz42_1 hcz42_2 hcz42_3 hcz42_4 hcz42_5 hcz42_6 hcz42_7 hcz42_8 hcz42_9); (try clear hcz44_0 hcz44_1 hcz44_2 hcz44_3 hcz44_4 hcz44_5 hcz44_6 hcz44_7 hcz44_8 hcz44_9); (try clear hcz45_0 hcz45_1 hcz45_2 hcz45_3 hcz45_4 hcz45_5 hcz45_6 hcz45_7 hcz45_8 hcz45_9); (try clear hcz46_0 hcz46_1 hcz46_2 hcz46_3 hcz46_4 hcz46_5 hcz46_6 hcz46_7 hcz46_8 hcz46_9); (try clear hcz49_0 hcz49_1 hcz49_2 hcz49_3 hcz49_4 hcz49_5 hcz49_6 hcz49_7 hcz49_8 hcz49_9); (try clear hcz51_0 hcz51_1 hcz51_2 hcz51_3 hcz51_4 hcz51_5 hcz51_6 hcz51_7 hcz51_8 hcz51_9); (try clear hcz53_0 hcz53_1 hcz53_2 hcz53_3 hcz53_4 hcz53_5 hcz53_6 hcz53_7 hcz53_8 hcz53_9); (try clear hcz54_0 hcz54_1 hcz54_2 hcz54_3 hcz54_4 hcz54_5 hcz54_6 hcz54_7 hcz54_8 hcz54_9); (try clear hcz57_0 hcz57_1 hcz57_2 hcz57_3 hcz57_4 hcz57_5 hcz57_6 hcz57_7 hcz57_8 hcz57_9); (try clear hcz58_0 hcz58_1 hcz58_2 hcz58_3 hcz58_4 hcz58_5 hcz58_6 hcz58_7 hcz58_8 hcz58_9); (try clear hcz59_0 hcz59_1 hcz59_2 hcz59_3 hcz59_4 hcz59_5 hcz59_6 hcz59_7 hcz59_8 hcz59_9); (try clear hcz62_0 hcz62_1 hcz62_2 hcz62_3 hcz62_4 hcz62_5 hcz62_6 hcz62_7 hcz62_8 hcz62_9); (try clear hcz64_0 hcz64_1 hcz64_2 hcz64_3 hcz64_4 hcz64_5 hcz64_6 hcz64_7 hcz64_8 hcz64_9); (try clear hcz65_0 hcz65_1 hcz65_2 hcz65_3 hcz65_4 hcz65_5 hcz65_6 hcz65_7 hcz65_8 hcz65_9); (try clear hcz68_0 hcz68_1 hcz68_2 hcz68_3 hcz68_4 hcz68_5 hcz68_6 hcz68_7 hcz68_8 hcz68_9); (try clear hcz69_0 hcz69_1 hcz69_2 hcz69_3 hcz69_4 hcz69_5 hcz69_6 hcz69_7 hcz69_8 hcz69_9); (try clear hcz7_4 hcz7_5 hcz7_6 hcz7_7 hcz7_8 hcz7_9); (try clear hcz9_0 hcz9_1 hcz9_2 hcz9_3 hcz9_4 hcz9_5 hcz9_6 hcz9_7 hcz9_8 hcz9_9); (try clear hfz10_0 hfz10_1 hfz10_2 hfz10_3 hfz10_4 hfz10_5 hfz10_6 hfz10_7 hfz10_8 hfz10_9); (try clear hfz13_0 hfz13_1 hfz13_2 hfz13_3 hfz13_4 hfz13_5 hfz13_6 hfz13_7 hfz13_8 hfz13_9); (try clear hfz15_0 hfz15_1 hfz15_2 hfz15_3 hfz15_4 hfz15_5 hfz15_6 hfz15_7 hfz15_8 hfz15_9); (try clear hfz16_0 hfz16_1 hfz16_2 hfz16_3 hfz16_4 hfz16_5 hfz16_6 hfz16_7 hfz16_8 hfz16_9); (try clear hfz19_0 hfz19_1 hfz19_2 hfz19_3 hfz19_4 hfz19_5 hfz19_6 hfz19_7 hfz19_8 hfz19_9); (try clear hfz20_0 hfz20_1 hfz20_2 hfz20_3 hfz20_4 hfz20_5 hfz20_6 hfz20_7 hfz20_8 hfz20_9); (try clear hfz33_0 hfz33_1 hfz33_2 hfz33_3 hfz33_4 hfz33_5 hfz33_6 hfz33_7 hfz33_8 hfz33_9); (try clear hfz35_0 hfz35_1 hfz35_2 hfz35_3 hfz35_4 hfz35_5 hfz35_6 hfz35_7 hfz35_8 hfz35_9); (try clear hfz37_0 hfz37_1 hfz37_2 hfz37_3 hfz37_4 hfz37_5 hfz37_6 hfz37_7 hfz37_8 hfz37_9); (try clear hfz39_0 hfz39_1 hfz39_2 hfz39_3 hfz39_4 hfz39_5 hfz39_6 hfz39_7 hfz39_8 hfz39_9); (try clear hfz42_0 hfz42_1 hfz42_2 hfz42_3 hfz42_4 hfz42_5 hfz42_6 hfz42_7 hfz42_8 hfz42_9); (try clear hfz44_0 hfz44_1 hfz44_2 hfz44_3 hfz44_4 hfz44_5 hfz44_6 hfz44_7 hfz44_8 hfz44_9); (try clear hfz45_0 hfz45_1 hfz45_2 hfz45_3 hfz45_4 hfz45_5 hfz45_6 hfz45_7 hfz45_8 hfz45_9); (try clear hfz46_0 hfz46_1 hfz46_2 hfz46_3 hfz46_4 hfz46_5 hfz46_6 hfz46_7 hfz46_8 hfz46_9); (try clear hfz49_0 hfz49_1 hfz49_2 hfz49_3 hfz49_4 hfz49_5 hfz49_6 hfz49_7 hfz49_8 hfz49_9); (try clear hfz51_0 hfz51_1 hfz51_2 hfz51_3 hfz51_4 hfz51_5 hfz51_6 hfz51_7 hfz51_8 hfz51_9); (try clear hfz53_0 hfz53_1 hfz53_2 hfz53_3 hfz53_4 hfz53_5 hfz53_6 hfz53_7 hfz53_8 hfz53_9); (try clear hfz54_0 hfz54_1 hfz54_2 hfz54_3 hfz54_4 hfz54_5 hfz54_6 hfz54_7 hfz54_8 hfz54_9); (try clear hfz57_0 hfz57_1 hfz57_2 hfz57_3 hfz57_4 hfz57_5 hfz57_6 hfz57_7 hfz57_8 hfz57_9); (try clear hfz58_0 hfz58_1 hfz58_2 hfz58_3 hfz58_4 hfz58_5 hfz58_6 hfz58_7 hfz58_8 hfz58_9); (try clear hfz59_0 hfz59_1 hfz59_2 hfz59_3 hfz59_4 hfz59_5 hfz59_6 hfz59_7 hfz59_8 hfz59_9); (try clear hfz62_0 hfz62_1 hfz62_2 hfz62_3 hfz62_4 hfz62_5 hfz62_6 hfz62_7 hfz62_8 hfz62_9); (try clear hfz64_0 hfz64_1 hfz64_2 hfz64_3 hfz64_4 hfz64_5 hfz64_6 hfz64_7 hfz64_8 hfz64_9); (try clear hfz65_0 hfz65_1 hfz65_2 hfz65_3 hfz65_4 hfz65_5 hfz65_6 hfz65_7 hfz65_8 hfz65_9); (try clear hfz68_0 hfz68_1 hfz68_2 hfz68_3 hfz68_4 hfz68_5 hfz68_6 hfz68_7 hfz68_8 hfz68_9); (try clear hfz69_0 hfz69_1 hfz69_2 hfz69_3 hfz69_4 hfz69_5 hfz69_6 hfz69_7 hfz69_8 hfz69_9); (try clear hfz7_0 hfz7_1 hfz7_2 hfz7_3 hfz7_4 hfz7_5 hfz7_6 hfz7_7 hfz7_8 hfz7_9); (try clear hfz9_0 hfz9_1 hfz9_2 hfz9_3 hfz9_4 hfz9_5 hfz9_6 hfz9_7 hfz9_8 hfz9_9); (try clear p2)
                obtain ⟨kq, x9_65, rfl, HA, HJ65, BK221, HB⟩ := hcut
                cases kq with
                | zero => exact absurd HA.out (by simp [qf.j6])
                | succ kj65 =>
                 have H := HA.out
                 clear HA
                 simp only [qf.j6] at H
                 have HC70 := qd.mk H
                 clear H
                 go_upto_region 16 with (fail)
                 go_cut [195] (fun v195 wc => ∃ (kq : Nat) (x195_69 : Bool), v195 = .bool x195_69 ∧ qd (qf.j7 kq a1 (l0_8.length : Int) x195_69 a0_0 a0_1 a0_2 a0_3 a0_4 a0_5 a0_6 l0_7 l0_8 l0_9 = some r) ∧ qd (kq ≤ kj65) ∧ qd (wc.heap[gb221]? = some (.cells #[.int .i64 a0_0, .int .i64 a0_1, .int .i64 a0_2, .string a0_3, .int .i64 a0_4, .int .i64 a0_5, .string a0_6, (.slice A0_7 l0_7.length c0_7), (.slice A0_8 l0_8.length c0_8), (.slice A0_9 l0_9.length c0_9)] 30 (0, 0))) ∧ qd (Below w.heap.size w wc))
                 case first =>
                  as_aux_lemma =>
                   have H := HC70.out
                   clear HC70
                   by_cases c71 : x8_59 = true
                   ·subst c71
                    have H1 : ((qbg.f kj65 a0_3).bind fun t222 => (if t222 = true then (if x9_65 = true then ((qbd.f kj65 a0_4 a0_5 a0_6 l0_7).bind fun t223 => (if t223 = true then (qf.j7 kj65 a1 (l0_8.length : Int) false a0_0 a0_1 a0_2 a0_3 a0_4 a0_5 a0_6 l0_7 l0_8 l0_9) else (qf.j7 kj65 a1 (l0_8.length : Int) true a0_0 a0_1 a0_2 a0_3 a0_4 a0_5 a0_6 l0_7 l0_8 l0_9))) else ((qbm.f kj65 a0_4 a0_5 a0_6 l0_7).bind fun t224 => (qf.j7 kj65 a1 (l0_8.length : Int) (!t224) a0_0 a0_1 a0_2 a0_3 a0_4 a0_5 a0_6 l0_7 l0_8 l0_9))) else (qf.j7 kj65 a1 (l0_8.length : Int) true a0_0 a0_1 a0_2 a0_3 a0_4 a0_5 a0_6 l0_7 l0_8 l0_9))) = some r := by rw [if_pos rfl] at H; exact H
                    clear H
                    have H := H1
                    clear H1
                    replace H := Option.bind_eq_some_iff.mp H
                    obtain ⟨t222, A720, H⟩ := H
                    replace H : (if t222 = true then (if x9_65 = true then ((qbd.f kj65 a0_4 a0_5 a0_6 l0_7).bind fun t223 => (if t223 = true then (qf.j7 kj65 a1 (l0_8.length : Int) false a0_0 a0_1 a0_2 a0_3 a0_4 a0_5 a0_6 l0_7 l0_8 l0_9) else (qf.j7 kj65 a1 (l0_8.length : Int) true a0_0 a0_1 a0_2 a0_3 a0_4 a0_5 a0_6 l0_7 l0_8 l0_9))) else ((qbm.f kj65 a0_4 a0_5 a0_6 l0_7).bind fun t224 => (qf.j7 kj65 a1 (l0_8.length : Int) (!t224) a0_0 a0_1 a0_2 a0_3 a0_4 a0_5 a0_6 l0_7 l0_8 l0_9))) else (qf.j7 kj65 a1 (l0_8.length : Int) true a0_0 a0_1 a0_2 a0_3 a0_4 a0_5 a0_6 l0_7 l0_8 l0_9)) = some r := H
                    have A72 := qd.mk A720
                    clear A720
                    by_cases c73 : t222 = true
                    ·subst c73
                     have H1 : (if x9_65 = true then ((qbd.f kj65 a0_4 a0_5 a0_6 l0_7).bind fun t223 => (if t223 = true then (qf.j7 kj65 a1 (l0_8.length : Int) false a0_0 a0_1 a0_2 a0_3 a0_4 a0_5 a0_6 l0_7 l0_8 l0_9) else (qf.j7 kj65 a1 (l0_8.length : Int) true a0_0 a0_1 a0_2 a0_3 a0_4 a0_5 a0_6 l0_7 l0_8 l0_9))) else ((qbm.f kj65 a0_4 a0_5 a0_6 l0_7).bind fun t224 => (qf.j7 kj65 a1 (l0_8.length : Int) (!t224) a0_0 a0_1 a0_2 a0_3 a0_4 a0_5 a0_6 l0_7 l0_8 l0_9))) = some r := by rw [if_pos rfl] at H; exact H
                     clear H
                     have H := H1
                     clear H1
                     by_cases c74 : x9_65 = true
                     ·subst c74
                      have H1 : ((qbd.f kj65 a0_4 a0_5 a0_6 l0_7).bind fun t223 => (if t223 = true then (qf.j7 kj65 a1 (l0_8.length : Int) false a0_0 a0_1 a0_2 a0_3 a0_4 a0_5 a0_6 l0_7 l0_8 l0_9) else (qf.j7 kj65 a1 (l0_8.length : Int) true a0_0 a0_1 a0_2 a0_3 a0_4 a0_5 a0_6 l0_7 l0_8 l0_9))) = some r := by rw [if_pos rfl] at H; exact H
                      clear H
                      have H := H1
                      clear H1
                      replace H := Option.bind_eq_some_iff.mp H
                      obtain ⟨t223, A750, H⟩ := H
                      replace H : (if t223 = true then (qf.j7 kj65 a1 (l0_8.length : Int) false a0_0 a0_1 a0_2 a0_3 a0_4 a0_5 a0_6 l0_7 l0_8 l0_9) else (qf.j7 kj65 a1 (l0_8.length : Int) true a0_0 a0_1 a0_2 a0_3 a0_4 a0_5 a0_6 l0_7 l0_8 l0_9)) = some r := H
                      have A75 := qd.mk A750
                      clear A750
                      by_cases c76 : t223 = true
                      ·subst c76
                       have H1 : (qf.j7 kj65 a1 (l0_8.length : Int) false a0_0 a0_1 a0_2 a0_3 a0_4 a0_5 a0_6 l0_7 l0_8 l0_9) = some r := by rw [if_pos rfl] at H; exact H
                       clear H
                       have H := H1
                       clear H1
                       have H' := qd.mk H
                       clear H
                       have hcz77_0 : wc.cell? ⟨gb221, 0, none⟩ = some (.int .i64 a0_0) := (qb BK221.out 0).trans rfl
                       have hcz77_1 : wc.cell? ⟨gb221, 1, none⟩ = some (.int .i64 a0_1) := (qb BK221.out 1).trans rfl
                       have hcz77_2 : wc.cell? ⟨gb221, 2, none⟩ = some (.int .i64 a0_2) := (qb BK221.out 2).trans rfl
                       have hcz77_3 : wc.cell? ⟨gb221, 3, none⟩ = some (.string a0_3) := (qb BK221.out 3).trans rfl
                       have hcz77_4 : wc.cell? ⟨gb221, 4, none⟩ = some (.int .i64 a0_4) := (qb BK221.out 4).trans rfl
                       have hcz77_5 : wc.cell? ⟨gb221, 5, none⟩ = some (.int .i64 a0_5) := (qb BK221.out 5).trans rfl
                       have hcz77_6 : wc.cell? ⟨gb221, 6, none⟩ = some (.string a0_6) := (qb BK221.out 6).trans rfl
                       have hcz77_7 : wc.cell? ⟨gb221, 7, none⟩ = some (.slice A0_7 l0_7.length c0_7) := (qb BK221.out 7).trans rfl
                       have hcz77_8 : wc.cell? ⟨gb221, 8, none⟩ = some (.slice A0_8 l0_8.length c0_8) := (qb BK221.out 8).trans rfl
                       have hcz77_9 : wc.cell? ⟨gb221, 9, none⟩ = some (.slice A0_9 l0_9.length c0_9) := (qb BK221.out 9).trans rfl
                       have hfz77_0 := qa BK221.out 0
                       have hfz77_1 := qa BK221.out 1
                       have hfz77_2 := qa BK221.out 2
                       have hfz77_3 := qa BK221.out 3
                       have hfz77_4 := qa BK221.out 4
                       have hfz77_5 := qa BK221.out 5
                       have hfz77_6 := qa BK221.out 6
                       have hfz77_7 := qa BK221.out 7
                       have hfz77_8 := qa BK221.out 8
                       have hfz77_9 := qa BK221.out 9
                       go_wp2_with (first | (go_at_call 21; (with_reducible refine (qbg.calls kj65 a0_3 true _ A72.out).mono ?_); rintro e w78 ⟨rfl, hb⟩; have n0_ := qd.mk (qbb (g := gb221) (o := .cells #[.int .i64 a0_0, .int .i64 a0_1, .int .i64 a0_2, .string a0_3, .int .i64 a0_4, .int .i64 a0_5, .string a0_6, .slice A0_7 l0_7.length c0_7, .slice A0_8 l0_8.length c0_8, .slice A0_9 l0_9.length c0_9] 30 (0, 0)) (by (with_reducible repeat (first | refine qj ?_ _ | refine qm ?_ | refine qi ?_ _)); exact BK221.out) hb); have n1_ := qd.mk (qba (by repeat (first | (with_reducible first | exact HB.out | apply qg | apply qc | apply qh | refine ql ?_ GE221.out) | exact HB.out)) hb); clear BK221; clear HB; have BK221 := n0_; have HB := n1_; clear n0_ n1_; (try clear hb); (try clear hb2); (try clear hk); (try clear hi); have hcz79_0 : w78.cell? ⟨gb221, 0, none⟩ = some (.int .i64 a0_0) := (qb BK221.out 0).trans rfl; have hcz79_1 : w78.cell? ⟨gb221, 1, none⟩ = some (.int .i64 a0_1) := (qb BK221.out 1).trans rfl; have hcz79_2 : w78.cell? ⟨gb221, 2, none⟩ = some (.int .i64 a0_2) := (qb BK221.out 2).trans rfl; have hcz79_3 : w78.cell? ⟨gb221, 3, none⟩ = some (.string a0_3) := (qb BK221.out 3).trans rfl; have hcz79_4 : w78.cell? ⟨gb221, 4, none⟩ = some (.int .i64 a0_4) := (qb BK221.out 4).trans rfl; have hcz79_5 : w78.cell? ⟨gb221, 5, none⟩ = some (.int .i64 a0_5) := (qb BK221.out 5).trans rfl; have hcz79_6 : w78.cell? ⟨gb221, 6, none⟩ = some (.string a0_6) := (qb BK221.out 6).trans rfl; have hcz79_7 : w78.cell? ⟨gb221, 7, none⟩ = some (.slice A0_7 l0_7.length c0_7) := (qb BK221.out 7).trans rfl; have hcz79_8 : w78.cell? ⟨gb221, 8, none⟩ = some (.slice A0_8 l0_8.length c0_8) := (qb BK221.out 8).trans rfl; have hcz79_9 : w78.cell? ⟨gb221, 9, none⟩ = some (.slice A0_9 l0_9.length c0_9) := (qb BK221.out 9).trans rfl; have hfz79_0 := qa BK221.out 0; have hfz79_1 := qa BK221.out 1; have hfz79_2 := qa BK221.out 2; have hfz79_3 := qa BK221.out 3; have hfz79_4 := qa BK221.out 4; have hfz79_5 := qa BK221.out 5; have hfz79_6 := qa BK221.out 6; have hfz79_7 := qa BK221.out 7; have hfz79_8 := qa BK221.out 8; have hfz79_9 := qa BK221.out 9) | (go_at_call 22; (with_reducible refine (qbd.calls kj65 a0_4 a0_5 a0_6 _ _ l0_7 true _ ?side1 ?side2 A75.out).mono ?_); (case side1 => repeat (first | exact (Kd.qbv HR0_7.out HB.out) | (with_reducible refine Kd.qb4 ?_ _) | (with_reducible refine Kd.qb1 ?_ _) | (with_reducible refine Kd.qb8 ?_))); (case side2 => exact HC0_7.out); rintro e w80 ⟨rfl, hb⟩; have n0_ := qd.mk (qbb (g := gb221) (o := .cells #[.int .i64 a0_0, .int .i64 a0_1, .int .i64 a0_2, .string a0_3, .int .i64 a0_4, .int .i64 a0_5, .string a0_6, .slice A0_7 l0_7.length c0_7, .slice A0_8 l0_8.length c0_8, .slice A0_9 l0_9.length c0_9] 30 (0, 0)) (by (with_reducible repeat (first | refine qj ?_ _ | refine qm ?_ | refine qi ?_ _)); exact BK221.out) hb); have n1_ := qd.mk (qba (by repeat (first | (with_reducible first | exact HB.out | apply qg | apply qc | apply qh | refine ql ?_ GE221.out) | exact HB.out)) hb); clear BK221; clear HB; have BK221 := n0_; have HB := n1_; clear n0_ n1_; (try clear hb); (try clear hb2); (try clear hk); (try clear hi)))
                       go_meet
                       case rel => exact ⟨_, (false), (by first | rfl | (simp; done) | (simp [*]; done)), H', ⟨by have := HJ2.out; have := HJ11.out; have := HJ16.out; have := HJ20.out; have := HJ29.out; have := HJ59.out; have := HJ65.out; first | omega | exact Nat.le_refl _⟩, ⟨by (with_reducible repeat (first | refine qj ?_ _ | refine qm ?_ | refine qi ?_ _)); exact BK221.out⟩, ⟨by repeat (first | (with_reducible first | exact HB.out | apply qg | apply qc | apply qh | refine ql ?_ GE221.out) | exact HB.out)⟩⟩
                      ·replace c76 := Bool.eq_false_iff.mpr c76
                       subst c76
                       have H1 : (qf.j7 kj65 a1 (l0_8.length : Int) true a0_0 a0_1 a0_2 a0_3 a0_4 a0_5 a0_6 l0_7 l0_8 l0_9) = some r := by rw [if_neg (show ¬ (false = true) by decide)] at H; exact H
                       clear H
                       have H := H1
                       clear H1
                       have H' := qd.mk H
                       clear H
                       have hcz81_0 : wc.cell? ⟨gb221, 0, none⟩ = some (.int .i64 a0_0) := (qb BK221.out 0).trans rfl
                       have hcz81_1 : wc.cell? ⟨gb221, 1, none⟩ = some (.int .i64 a0_1) := (qb BK221.out 1).trans rfl
                       have hcz81_2 : wc.cell? ⟨gb221, 2, none⟩ = some (.int .i64 a0_2) := (qb BK221.out 2).trans rfl
                       have hcz81_3 : wc.cell? ⟨gb221, 3, none⟩ = some (.string a0_3) := (qb BK221.out 3).trans rfl
                       have hcz81_4 : wc.cell? ⟨gb221, 4, none⟩ = some (.int .i64 a0_4) := (qb BK221.out 4).trans rfl
                       have hcz81_5 : wc.cell? ⟨gb221, 5, none⟩ = some (.int .i64 a0_5) := (qb BK221.out 5).trans rfl
                       have hcz81_6 : wc.cell? ⟨gb221, 6, none⟩ = some (.string a0_6) := (qb BK221.out 6).trans rfl
                       have hcz81_7 : wc.cell? ⟨gb221, 7, none⟩ = some (.slice A0_7 l0_7.length c0_7) := (qb BK221.out 7).trans rfl
                       have hcz81_8 : wc.cell? ⟨gb221, 8, none⟩ = some (.slice A0_8 l0_8.length c0_8) := (qb BK221.out 8).trans rfl
                       have hcz81_9 : wc.cell? ⟨gb221, 9, none⟩ = some (.slice A0_9 l0_9.length c0_9) := (qb BK221.out 9).trans rfl
                       have hfz81_0 := qa BK221.out 0
                       have hfz81_1 := qa BK221.out 1
                       have hfz81_2 := qa BK221.out 2
                       have hfz81_3 := qa BK221.out 3
                       have hfz81_4 := qa BK221.out 4
                       have hfz81_5 := qa BK221.out 5
                       have hfz81_6 := qa BK221.out 6
                       have hfz81_7 := qa BK221.out 7
                       have hfz81_8 := qa BK221.out 8
                       have hfz81_9 := qa BK221.out 9
                       go_wp2_with (first | (go_at_call 21; (with_reducible refine (qbg.calls kj65 a0_3 true _ A72.out).mono ?_); rintro e w82 ⟨rfl, hb⟩; have n0_ := qd.mk (qbb (g := gb221) (o := .cells #[.int .i64 a0_0, .int .i64 a0_1, .int .i64 a0_2, .string a0_3, .int .i64 a0_4, .int .i64 a0_5, .string a0_6, .slice A0_7 l0_7.length c0_7, .slice A0_8 l0_8.length c0_8, .slice A0_9 l0_9.length c0_9] 30 (0, 0)) (by (with_reducible repeat (first | refine qj ?_ _ | refine qm ?_ | refine qi ?_ _)); exact BK221.out) hb); have n1_ := qd.mk (qba (by repeat (first | (with_reducible first | exact HB.out | apply qg | apply qc | apply qh | refine ql ?_ GE221.out) | exact HB.out)) hb); clear BK221; clear HB; have BK221 := n0_; have HB := n1_; clear n0_ n1_; (try clear hb); (try clear hb2); (try clear hk); (try clear hi); have hcz83_0 : w82.cell? ⟨gb221, 0, none⟩ = some (.int .i64 a0_0) := (qb BK221.out 0).trans rfl; have hcz83_1 : w82.cell? ⟨gb221, 1, none⟩ = some (.int .i64 a0_1) := (qb BK221.out 1).trans rfl; have hcz83_2 : w82.cell? ⟨gb221, 2, none⟩ = some (.int .i64 a0_2) := (qb BK221.out 2).trans rfl; have hcz83_3 : w82.cell? ⟨gb221, 3, none⟩ = some (.string a0_3) := (qb BK221.out 3).trans rfl; have hcz83_4 : w82.cell? ⟨gb221, 4, none⟩ = some (.int .i64 a0_4) := (qb BK221.out 4).trans rfl; have hcz83_5 : w82.cell? ⟨gb221, 5, none⟩ = some (.int .i64 a0_5) := (qb BK221.out 5).trans rfl; have hcz83_6 : w82.cell? ⟨gb221, 6, none⟩ = some (.string a0_6) := (qb BK221.out 6).trans rfl; have hcz83_7 : w82.cell? ⟨gb221, 7, none⟩ = some (.slice A0_7 l0_7.length c0_7) := (qb BK221.out 7).trans rfl; have hcz83_8 : w82.cell? ⟨gb221, 8, none⟩ = some (.slice A0_8 l0_8.length c0_8) := (qb BK221.out 8).trans rfl; have hcz83_9 : w82.cell? ⟨gb221, 9, none⟩ = some (.slice A0_9 l0_9.length c0_9) := (qb BK221.out 9).trans rfl; have hfz83_0 := qa BK221.out 0; have hfz83_1 := qa BK221.out 1; have hfz83_2 := qa BK221.out 2; have hfz83_3 := qa BK221.out 3; have hfz83_4 := qa BK221.out 4; have hfz83_5 := qa BK221.out 5; have hfz83_6 := qa BK221.out 6; have hfz83_7 := qa BK221.out 7; have hfz83_8 := qa BK221.out 8; have hfz83_9 := qa BK221.out 9) | (go_at_call 22; (with_reducible refine (qbd.calls kj65 a0_4 a0_5 a0_6 _ _ l0_7 false _ ?side1 ?side2 A75.out).mono ?_); (case side1 => repeat (first | exact (Kd.qbv HR0_7.out HB.out) | (with_reducible refine Kd.qb4 ?_ _) | (with_reducible refine Kd.qb1 ?_ _) | (with_reducible refine Kd.qb8 ?_))); (case side2 => exact HC0_7.out); rintro e w84 ⟨rfl, hb⟩; have n0_ := qd.mk (qbb (g := gb221) (o := .cells #[.int .i64 a0_0, .int .i64 a0_1, .int .i64 a0_2, .string a0_3, .int .i64 a0_4, .int .i64 a0_5, .string a0_6, .slice A0_7 l0_7.length c0_7, .slice A0_8 l0_8.length c0_8, .slice A0_9 l0_9.length c0_9] 30 (0, 0)) (by (with_reducible repeat (first | refine qj ?_ _ | refine qm ?_ | refine qi ?_ _)); exact BK221.out) hb); have n1_ := qd.mk (qba (by repeat (first | (with_reducible first | exact HB.out | apply qg | apply qc | apply qh | refine ql ?_ GE221.out) | exact HB.out)) hb); clear BK221; clear HB; have BK221 := n0_; have HB := n1_; clear n0_ n1_; (try clear hb); (try clear hb2); (try clear hk); (try clear hi)))
                       go_meet
                       case rel => exact ⟨_, (true), (by first | rfl | (simp; done) | (simp [*]; done)), H', ⟨by have := HJ2.out; have := HJ11.out; have := HJ16.out; have := HJ20.out; have := HJ29.out; have := HJ59.out; have := HJ65.out; first | omega | exact Nat.le_refl _⟩, ⟨by (with_reducible repeat (first | refine qj ?_ _ | refine qm ?_ | refine qi ?_ _)); exact BK221.out⟩, ⟨by repeat (first | (with_reducible first | exact HB.out | apply qg | apply qc | apply qh | refine ql ?_ GE221.out) | exact HB.out)⟩⟩
                     ·replace c74 := Bool.eq_false_iff.mpr c74
                      subst c74
                      have H1 : ((qbm.f kj65 a0_4 a0_5 a0_6 l0_7).bind fun t224 => (qf.j7 kj65 a1 (l0_8.length : Int) (!t224) a0_0 a0_1 a0_2 a0_3 a0_4 a0_5 a0_6 l0_7 l0_8 l0_9)) = some r := by rw [if_neg (show ¬ (false = true) by decide)] at H; exact H
                      clear H
                      have H := H1
                      clear H1
                      replace H := Option.bind_eq_some_iff.mp H
                      obtain ⟨t224, A850, H⟩ := H
                      replace H : (qf.j7 kj65 a1 (l0_8.length : Int) (!t224) a0_0 a0_1 a0_2 a0_3 a0_4 a0_5 a0_6 l0_7 l0_8 l0_9) = some r := H
                      have A85 := qd.mk A850
                      clear A850
                      have H' := qd.mk H
                      clear H
                      have hcz86_0 : wc.cell? ⟨gb221, 0, none⟩ = some (.int .i64 a0_0) := (qb BK221.out 0).trans rfl
                      have hcz86_1 : wc.cell? ⟨gb221, 1, none⟩ = some (.int .i64 a0_1) := (qb BK221.out 1).trans rfl
                      have hcz86_2 : wc.cell? ⟨gb221, 2, none⟩ = some (.int .i64 a0_2) := (qb BK221.out 2).trans rfl
                      have hcz86_3 : wc.cell? ⟨gb221, 3, none⟩ = some (.string a0_3) := (qb BK221.out 3).trans rfl
                      have hcz86_4 : wc.cell? ⟨gb221, 4, none⟩ = some (.int .i64 a0_4) := (qb BK221.out 4).trans rfl
                      have hcz86_5 : wc.cell? ⟨gb221, 5, none⟩ = some (.int .i64 a0_5) := (qb BK221.out 5).trans rfl
                      have hcz86_6 : wc.cell? ⟨gb221, 6, none⟩ = some (.string a0_6) := (qb BK221.out 6).trans rfl
                      have hcz86_7 : wc.cell? ⟨gb221, 7, none⟩ = some (.slice A0_7 l0_7.length c0_7) := (qb BK221.out 7).trans rfl
                      have hcz86_8 : wc.cell? ⟨gb221, 8, none⟩ = some (.slice A0_8 l0_8.length c0_8) := (qb BK221.out 8).trans rfl
                      have hcz86_9 : wc.cell? ⟨gb221, 9, none⟩ = some (.slice A0_9 l0_9.length c0_9) := (qb BK221.out 9).trans rfl
                      have hfz86_0 := qa BK221.out 0
                      have hfz86_1 := qa BK221.out 1
                      have hfz86_2 := qa BK221.out 2
                      have hfz86_3 := qa BK221.out 3
                      have hfz86_4 := qa BK221.out 4
                      have hfz86_5 := qa BK221.out 5
                      have hfz86_6 := qa BK221.out 6
                      have hfz86_7 := qa BK221.out 7
                      have hfz86_8 := qa BK221.out 8
                      have hfz86_9 := qa BK221.out 9
                      go_wp2_with (first | (go_at_call 21; (with_reducible refine (qbg.calls kj65 a0_3 true _ A72.out).mono ?_); rintro e w87 ⟨rfl, hb⟩; have n0_ := qd.mk (qbb (g := gb221) (o := .cells #[.int .i64 a0_0, .int .i64 a0_1, .int .i64 a0_2, .string a0_3, .int .i64 a0_4, .int .i64 a0_5, .string a0_6, .slice A0_7 l0_7.length c0_7, .slice A0_8 l0_8.length c0_8, .slice A0_9 l0_9.length c0_9] 30 (0, 0)) (by (with_reducible repeat (first | refine qj ?_ _ | refine qm ?_ | refine qi ?_ _)); exact BK221.out) hb); have n1_ := qd.mk (qba (by repeat (first | (with_reducible first | exact HB.out | apply qg | apply qc | apply qh | refine ql ?_ GE221.out) | exact HB.out)) hb); clear BK221; clear HB; have BK221 := n0_; have HB := n1_; clear n0_ n1_; (try clear hb); (try clear hb2); (try clear hk); (try clear hi); have hcz88_0 : w87.cell? ⟨gb221, 0, none⟩ = some (.int .i64 a0_0) := (qb BK221.out 0).trans rfl; have hcz88_1 : w87.cell? ⟨gb221, 1, none⟩ = some (.int .i64 a0_1) := (qb BK221.out 1).trans rfl; have hcz88_2 : w87.cell? ⟨gb221, 2, none⟩ = some (.int .i64 a0_2) := (qb BK221.out 2).trans rfl; have hcz88_3 : w87.cell? ⟨gb221, 3, none⟩ = some (.string a0_3) := (qb BK221.out 3).trans rfl; have hcz88_4 : w87.cell? ⟨gb221, 4, none⟩ = some (.int .i64 a0_4) := (qb BK221.out 4).trans rfl; have hcz88_5 : w87.cell? ⟨gb221, 5, none⟩ = some (.int .i64 a0_5) := (qb BK221.out 5).trans rfl; have hcz88_6 : w87.cell? ⟨gb221, 6, none⟩ = some (.string a0_6) := (qb BK221.out 6).trans rfl; have hcz88_7 : w87.cell? ⟨gb221, 7, none⟩ = some (.slice A0_7 l0_7.length c0_7) := (qb BK221.out 7).trans rfl; have hcz88_8 : w87.cell? ⟨gb221, 8, none⟩ = some (.slice A0_8 l0_8.length c0_8) := (qb BK221.out 8).trans rfl; have hcz88_9 : w87.cell? ⟨gb221, 9, none⟩ = some (.slice A0_9 l0_9.length c0_9) := (qb BK221.out 9).trans rfl; have hfz88_0 := qa BK221.out 0; have hfz88_1 := qa BK221.out 1; have hfz88_2 := qa BK221.out 2; have hfz88_3 := qa BK221.out 3; have hfz88_4 := qa BK221.out 4; have hfz88_5 := qa BK221.out 5; have hfz88_6 := qa BK221.out 6; have hfz88_7 := qa BK221.out 7; have hfz88_8 := qa BK221.out 8; have hfz88_9 := qa BK221.out 9) | (go_at_call 23; (with_reducible refine (qbm.calls kj65 a0_4 a0_5 a0_6 _ _ l0_7 t224 _ ?side1 ?side2 A85.out).mono ?_); (case side1 => repeat (first | exact (Kd.qbv HR0_7.out HB.out) | (with_reducible refine Kd.qb4 ?_ _) | (with_reducible refine Kd.qb1 ?_ _) | (with_reducible refine Kd.qb8 ?_))); (case side2 => exact HC0_7.out); rintro e w89 ⟨rfl, hb⟩; have n0_ := qd.mk (qbb (g := gb221) (o := .cells #[.int .i64 a0_0, .int .i64 a0_1, .int .i64 a0_2, .string a0_3, .int .i64 a0_4, .int .i64 a0_5, .string a0_6, .slice A0_7 l0_7.length c0_7, .slice A0_8 l0_8.length c0_8, .slice A0_9 l0_9.length c0_9] 30 (0, 0)) (by (with_reducible repeat (first | refine qj ?_ _ | refine qm ?_ | refine qi ?_ _)); exact BK221.out) hb); have n1_ := qd.mk (qba (by repeat (first | (with_reducible first | exact HB.out | apply qg | apply qc | apply qh | refine ql ?_ GE221.out) | exact HB.out)) hb); clear BK221; clear HB; have BK221 := n0_; have HB := n1_; clear n0_ n1_; (try clear hb); (try clear hb2); (try clear hk); (try clear hi)))
                      go_meet
                      case rel => exact ⟨_, (!t224), (by first | rfl | (simp; done) | (simp [*]; done)), H', ⟨by have := HJ2.out; have := HJ11.out; have := HJ16.out; have := HJ20.out; have := HJ29.out; have := HJ59.out; have := HJ65.out; first | omega | exact Nat.le_refl _⟩, ⟨by (with_reducible repeat (first | refine qj ?_ _ | refine qm ?_ | refine qi ?_ _)); exact BK221.out⟩, ⟨by repeat (first | (with_reducible first | exact HB.out | apply qg | apply qc | apply qh | refine ql ?_ GE221.out) | exact HB.out)⟩⟩
                    ·replace c73 := Bool.eq_false_iff.mpr c73
                     subst c73
                     have H1 : (qf.j7 kj65 a1 (l0_8.length : Int) true a0_0 a0_1 a0_2 a0_3 a0_4 a0_5 a0_6 l0_7 l0_8 l0_9) = some r := by rw [if_neg (show ¬ (false = true) by decide)] at H; exact H
                     clear H
                     have H := H1
                     clear H1
                     have H' := qd.mk H
                     clear H
                     have hcz90_0 : wc.cell? ⟨gb221, 0, none⟩ = some (.int .i64 a0_0) := (qb BK221.out 0).trans rfl
                     have hcz90_1 : wc.cell? ⟨gb221, 1, none⟩ = some (.int .i64 a0_1) := (qb BK221.out 1).trans rfl
                     have hcz90_2 : wc.cell? ⟨gb221, 2, none⟩ = some (.int .i64 a0_2) := (qb BK221.out 2).trans rfl
                     have hcz90_3 : wc.cell? ⟨gb221, 3, none⟩ = some (.string a0_3) := (qb BK221.out 3).trans rfl
                     have hcz90_4 : wc.cell? ⟨gb221, 4, none⟩ = some (.int .i64 a0_4) := (qb BK221.out 4).trans rfl
                     have hcz90_5 : wc.cell? ⟨gb221, 5, none⟩ = some (.int .i64 a0_5) := (qb BK221.out 5).trans rfl
                     have hcz90_6 : wc.cell? ⟨gb221, 6, none⟩ = some (.string a0_6) := (qb BK221.out 6).trans rfl
                     have hcz90_7 : wc.cell? ⟨gb221, 7, none⟩ = some (.slice A0_7 l0_7.length c0_7) := (qb BK221.out 7).trans rfl
                     have hcz90_8 : wc.cell? ⟨gb221, 8, none⟩ = some (.slice A0_8 l0_8.length c0_8) := (qb BK221.out 8).trans rfl
                     have hcz90_9 : wc.cell? ⟨gb221, 9, none⟩ = some (.slice A0_9 l0_9.length c0_9) := (qb BK221.out 9).trans rfl
                     have hfz90_0 := qa BK221.out 0
                     have hfz90_1 := qa BK221.out 1
                     have hfz90_2 := qa BK221.out 2
                     have hfz90_3 := qa BK221.out 3
                     have hfz90_4 := qa BK221.out 4
                     have hfz90_5 := qa BK221.out 5
                     have hfz90_6 := qa BK221.out 6
                     have hfz90_7 := qa BK221.out 7
                     have hfz90_8 := qa BK221.out 8
                     have hfz90_9 := qa BK221.out 9
                     go_wp2_with (first | (go_at_call 21; (with_reducible refine (qbg.calls kj65 a0_3 false _ A72.out).mono ?_); rintro e w91 ⟨rfl, hb⟩; have n0_ := qd.mk (qbb (g := gb221) (o := .cells #[.int .i64 a0_0, .int .i64 a0_1, .int .i64 a0_2, .string a0_3, .int .i64 a0_4, .int .i64 a0_5, .string a0_6, .slice A0_7 l0_7.length c0_7, .slice A0_8 l0_8.length c0_8, .slice A0_9 l0_9.length c0_9] 30 (0, 0)) (by (with_reducible repeat (first | refine qj ?_ _ | refine qm ?_ | refine qi ?_ _)); exact BK221.out) hb); have n1_ := qd.mk (qba (by repeat (first | (with_reducible first | exact HB.out | apply qg | apply qc | apply qh | refine ql ?_ GE221.out) | exact HB.out)) hb); clear BK221; clear HB; have BK221 := n0_; have HB := n1_; clear n0_ n1_; (try clear hb); (try clear hb2); (try clear hk); (try clear hi)))
                     go_meet
                     case rel => exact ⟨_, (true), (by first | rfl | (simp; done) | (simp [*]; done)), H', ⟨by have := HJ2.out; have := HJ11.out; have := HJ16.out; have := HJ20.out; have := HJ29.out; have := HJ59.out; have := HJ65.out; first | omega | exact Nat.le_refl _⟩, ⟨by (with_reducible repeat (first | refine qj ?_ _ | refine qm ?_ | refine qi ?_ _)); exact BK221.out⟩, ⟨by repeat (first | (with_reducible first | exact HB.out | apply qg | apply qc | apply qh | refine ql ?_ GE221.out) | exact HB.out)⟩⟩
                   ·replace c71 := Bool.eq_false_iff.mpr c71
                    subst c71
                    have H1 : (if a0_3.toList = ([] : List UInt8) then (if x9_65 = true then ((qbd.f kj65 a0_4 a0_5 a0_6 l0_7).bind fun t225 => (if t225 = true then (qf.j7 kj65 a1 (l0_8.length : Int) false a0_0 a0_1 a0_2 a0_3 a0_4 a0_5 a0_6 l0_7 l0_8 l0_9) else (qf.j7 kj65 a1 (l0_8.length : Int) true a0_0 a0_1 a0_2 a0_3 a0_4 a0_5 a0_6 l0_7 l0_8 l0_9))) else ((qbm.f kj65 a0_4 a0_5 a0_6 l0_7).bind fun t226 => (qf.j7 kj65 a1 (l0_8.length : Int) (!t226) a0_0 a0_1 a0_2 a0_3 a0_4 a0_5 a0_6 l0_7 l0_8 l0_9))) else (qf.j7 kj65 a1 (l0_8.length : Int) true a0_0 a0_1 a0_2 a0_3 a0_4 a0_5 a0_6 l0_7 l0_8 l0_9)) = some r := by rw [if_neg (show ¬ (false = true) by decide)] at H; exact H
                    clear H
                    have H := H1
                    clear H1
                    by_cases c92 : a0_3.toList = ([] : List UInt8)
                    ·rw [if_pos c92] at H
                     have c92b0 : (a0_3.toList == ([] : List UInt8)) = true := beq_iff_eq.mpr c92
                     have c92b1 : (a0_3.toList != ([] : List UInt8)) = false := bne_eq_false_iff_eq.mpr c92
                     clear c92
                     (first | rw [c92b0] | (simp only [i64_w, i32_w]; rw [c92b0]) | skip)
                     by_cases c93 : x9_65 = true
                     ·subst c93
                      have H1 : ((qbd.f kj65 a0_4 a0_5 a0_6 l0_7).bind fun t225 => (if t225 = true then (qf.j7 kj65 a1 (l0_8.length : Int) false a0_0 a0_1 a0_2 a0_3 a0_4 a0_5 a0_6 l0_7 l0_8 l0_9) else (qf.j7 kj65 a1 (l0_8.length : Int) true a0_0 a0_1 a0_2 a0_3 a0_4 a0_5 a0_6 l0_7 l0_8 l0_9))) = some r := by rw [if_pos rfl] at H; exact H
                      clear H
                      have H := H1
                      clear H1
                      replace H := Option.bind_eq_some_iff.mp H
                      obtain ⟨t225, A940, H⟩ := H
                      replace H : (if t225 = true then (qf.j7 kj65 a1 (l0_8.length : Int) false a0_0 a0_1 a0_2 a0_3 a0_4 a0_5 a0_6 l0_7 l0_8 l0_9) else (qf.j7 kj65 a1 (l0_8.length : Int) true a0_0 a0_1 a0_2 a0_3 a0_4 a0_5 a0_6 l0_7 l0_8 l0_9)) = some r := H
                      have A94 := qd.mk A940
                      clear A940
                      by_cases c95 : t225 = true
                      ·subst c95
                       have H1 : (qf.j7 kj65 a1 (l0_8.length : Int) false a0_0 a0_1 a0_2 a0_3 a0_4 a0_5 a0_6 l0_7 l0_8 l0_9) = some r := by rw [if_pos rfl] at H; exact H
                       clear H
                       have H := H1
                       clear H1
                       have H' := qd.mk H
                       clear H
                       have hcz96_0 : wc.cell? ⟨gb221, 0, none⟩ = some (.int .i64 a0_0) := (qb BK221.out 0).trans rfl
                       have hcz96_1 : wc.cell? ⟨gb221, 1, none⟩ = some (.int .i64 a0_1) := (qb BK221.out 1).trans rfl
                       have hcz96_2 : wc.cell? ⟨gb221, 2, none⟩ = some (.int .i64 a0_2) := (qb BK221.out 2).trans rfl
                       have hcz96_3 : wc.cell? ⟨gb221, 3, none⟩ = some (.string a0_3) := (qb BK221.out 3).trans rfl
                       have hcz96_4 : wc.cell? ⟨gb221, 4, none⟩ = some (.int .i64 a0_4) := (qb BK221.out 4).trans rfl
                       have hcz96_5 : wc.cell? ⟨gb221, 5, none⟩ = some (.int .i64 a0_5) := (qb BK221.out 5).trans rfl
                       have hcz96_6 : wc.cell? ⟨gb221, 6, none⟩ = some (.string a0_6) := (qb BK221.out 6).trans rfl
                       have hcz96_7 : wc.cell? ⟨gb221, 7, none⟩ = some (.slice A0_7 l0_7.length c0_7) := (qb BK221.out 7).trans rfl
                       have hcz96_8 : wc.cell? ⟨gb221, 8, none⟩ = some (.slice A0_8 l0_8.length c0_8) := (qb BK221.out 8).trans rfl
                       have hcz96_9 : wc.cell? ⟨gb221, 9, none⟩ = some (.slice A0_9 l0_9.length c0_9) := (qb BK221.out 9).trans rfl
                       have hfz96_0 := qa BK221.out 0
                       have hfz96_1 := qa BK221.out 1
                       have hfz96_2 := qa BK221.out 2
                       have hfz96_3 := qa BK221.out 3
                       have hfz96_4 := qa BK221.out 4
                       have hfz96_5 := qa BK221.out 5
                       have hfz96_6 := qa BK221.out 6
                       have hfz96_7 := qa BK221.out 7
                       have hfz96_8 := qa BK221.out 8
                       have hfz96_9 := qa BK221.out 9
                       go_wp2_with (first | (go_at_call 22; (with_reducible refine (qbd.calls kj65 a0_4 a0_5 a0_6 _ _ l0_7 true _ ?side1 ?side2 A94.out).mono ?_); (case side1 => repeat (first | exact (Kd.qbv HR0_7.out HB.out) | (with_reducible refine Kd.qb4 ?_ _) | (with_reducible refine Kd.qb1 ?_ _) | (with_reducible refine Kd.qb8 ?_))); (case side2 => exact HC0_7.out); rintro e w97 ⟨rfl, hb⟩; have n0_ := qd.mk (qbb (g := gb221) (o := .cells #[.int .i64 a0_0, .int .i64 a0_1, .int .i64 a0_2, .string a0_3, .int .i64 a0_4, .int .i64 a0_5, .string a0_6, .slice A0_7 l0_7.length c0_7, .slice A0_8 l0_8.length c0_8, .slice A0_9 l0_9.length c0_9] 30 (0, 0)) (by (with_reducible repeat (first | refine qj ?_ _ | refine qm ?_ | refine qi ?_ _)); exact BK221.out) hb); have n1_ := qd.mk (qba (by repeat (first | (with_reducible first | exact HB.out | apply qg | apply qc | apply qh | refine ql ?_ GE221.out) | exact HB.out)) hb); clear BK221; clear HB; have BK221 := n0_; have HB := n1_; clear n0_ n1_; (try clear hb); (try clear hb2); (try clear hk); (try clear hi)))
                       go_meet
                       case rel => exact ⟨_, (false), (by first | rfl | (simp; done) | (simp [*]; done)), H', ⟨by have := HJ2.out; have := HJ11.out; have := HJ16.out; have := HJ20.out; have := HJ29.out; have := HJ59.out; have := HJ65.out; first | omega | exact Nat.le_refl _⟩, ⟨by (with_reducible repeat (first | refine qj ?_ _ | refine qm ?_ | refine qi ?_ _)); exact BK221.out⟩, ⟨by repeat (first | (with_reducible first | exact HB.out | apply qg | apply qc | apply qh | refine ql ?_ GE221.out) | exact HB.out)⟩⟩
                      ·replace c95 := Bool.eq_false_iff.mpr c95
                       subst c95
                       have H1 : (qf.j7 kj65 a1 (l0_8.length : Int) true a0_0 a0_1 a0_2 a0_3 a0_4 a0_5 a0_6 l0_7 l0_8 l0_9) = some r := by rw [if_neg (show ¬ (false = true) by decide)] at H; exact H
                       clear H
                       have H := H1
                       clear H1
                       have H' := qd.mk H
                       clear H
                       have hcz98_0 : wc.cell? ⟨gb221, 0, none⟩ = some (.int .i64 a0_0) := (qb BK221.out 0).trans rfl
                       have hcz98_1 : wc.cell? ⟨gb221, 1, none⟩ = some (.int .i64 a0_1) := (qb BK221.out 1).trans rfl
                       have hcz98_2 : wc.cell? ⟨gb221, 2, none⟩ = some (.int .i64 a0_2) := (qb BK221.out 2).trans rfl
                       have hcz98_3 : wc.cell? ⟨gb221, 3, none⟩ = some (.string a0_3) := (qb BK221.out 3).trans rfl
                       have hcz98_4 : wc.cell? ⟨gb221, 4, none⟩ = some (.int .i64 a0_4) := (qb BK221.out 4).trans rfl
                       have hcz98_5 : wc.cell? ⟨gb221, 5, none⟩ = some (.int .i64 a0_5) := (qb BK221.out 5).trans rfl
                       have hcz98_6 : wc.cell? ⟨gb221, 6, none⟩ = some (.string a0_6) := (qb BK221.out 6).trans rfl
                       have hcz98_7 : wc.cell? ⟨gb221, 7, none⟩ = some (.slice A0_7 l0_7.length c0_7) := (qb BK221.out 7).trans rfl
                       have hcz98_8 : wc.cell? ⟨gb221, 8, none⟩ = some (.slice A0_8 l0_8.length c0_8) := (qb BK221.out 8).trans rfl
                       have hcz98_9 : wc.cell? ⟨gb221, 9, none⟩ = some (.slice A0_9 l0_9.length c0_9) := (qb BK221.out 9).trans rfl
                       have hfz98_0 := qa BK221.out 0
                       have hfz98_1 := qa BK221.out 1
                       have hfz98_2 := qa BK221.out 2
                       have hfz98_3 := qa BK221.out 3
                       have hfz98_4 := qa BK221.out 4
                       have hfz98_5 := qa BK221.out 5
                       have hfz98_6 := qa BK221.out 6
                       have hfz98_7 := qa BK221.out 7
                       have hfz98_8 := qa BK221.out 8
                       have hfz98_9 := qa BK221.out 9
                       go_wp2_with (first | (go_at_call 22; (with_reducible refine (qbd.calls kj65 a0_4 a0_5 a0_6 _ _ l0_7 false _ ?side1 ?side2 A94.out).mono ?_); (case side1 => repeat (first | exact (Kd.qbv HR0_7.out HB.out) | (with_reducible refine Kd.qb4 ?_ _) | (with_reducible refine Kd.qb1 ?_ _) | (with_reducible refine Kd.qb8 ?_))); (case side2 => exact HC0_7.out); rintro e w99 ⟨rfl, hb⟩; have n0_ := qd.mk (qbb (g := gb221) (o := .cells #[.int .i64 a0_0, .int .i64 a0_1, .int .i64 a0_2, .string a0_3, .int .i64 a0_4, .int .i64 a0_5, .string a0_6, .slice A0_7 l0_7.length c0_7, .slice A0_8 l0_8.length c0_8, .slice A0_9 l0_9.length c0_9] 30 (0, 0)) (by (with_reducible repeat (first | refine qj ?_ _ | refine qm ?_ | refine qi ?_ _)); exact BK221.out) hb); have n1_ := qd.mk (qba (by repeat (first | (with_reducible first | exact HB.out | apply qg | apply qc | apply qh | refine ql ?_ GE221.out) | exact HB.out)) hb); clear BK221; clear HB; have BK221 := n0_; have HB := n1_; clear n0_ n1_; (try clear hb); (try clear hb2); (try clear hk); (try clear hi)))
                       go_meet
                       case rel => exact ⟨_, (true), (by first | rfl | (simp; done) | (simp [*]; done)), H', ⟨by have := HJ2.out; have := HJ11.out; have := HJ16.out; have := HJ20.out; have := HJ29.out; have := HJ59.out; have := HJ65.out; first | omega | exact Nat.le_refl _⟩, ⟨by (with_reducible repeat (first | refine qj ?_ _ | refine qm ?_ | refine qi ?_ _)); exact BK221.out⟩, ⟨by repeat (first | (with_reducible first | exact HB.out | apply qg | apply qc | apply qh | refine ql ?_ GE221.out) | exact HB.out)⟩⟩
                     ·replace c93 := Bool.eq_false_iff.mpr c93
                      subst c93
                      have H1 : ((qbm.f kj65 a0_4 a0_5 a0_6 l0_7).bind fun t226 => (qf.j7 kj65 a1 (l0_8.length : Int) (!t226) a0_0 a0_1 a0_2 a0_3 a0_4 a0_5 a0_6 l0_7 l0_8 l0_9)) = some r := by rw [if_neg (show ¬ (false = true) by decide)] at H; exact H
                      clear H
                      have H := H1
                      clear H1
                      replace H := Option.bind_eq_some_iff.mp H
                      obtain ⟨t226, A1000, H⟩ := H
                      replace H : (qf.j7 kj65 a1 (l0_8.length : Int) (!t226) a0_0 a0_1 a0_2 a0_3 a0_4 a0_5 a0_6 l0_7 l0_8 l0_9) = some r := H
                      have A100 := qd.mk A1000
                      clear A1000
                      have H' := qd.mk H
                      clear H
                      have hcz101_0 : wc.cell? ⟨gb221, 0, none⟩ = some (.int .i64 a0_0) := (qb BK221.out 0).trans rfl
                      have hcz101_1 : wc.cell? ⟨gb221, 1, none⟩ = some (.int .i64 a0_1) := (qb BK221.out 1).trans rfl
                      have hcz101_2 : wc.cell? ⟨gb221, 2, none⟩ = some (.int .i64 a0_2) := (qb BK221.out 2).trans rfl
                      have hcz101_3 : wc.cell? ⟨gb221, 3, none⟩ = some (.string a0_3) := (qb BK221.out 3).trans rfl
                      have hcz101_4 : wc.cell? ⟨gb221, 4, none⟩ = some (.int .i64 a0_4) := (qb BK221.out 4).trans rfl
                      have hcz101_5 : wc.cell? ⟨gb221, 5, none⟩ = some (.int .i64 a0_5) := (qb BK221.out 5).trans rfl
                      have hcz101_6 : wc.cell? ⟨gb221, 6, none⟩ = some (.string a0_6) := (qb BK221.out 6).trans rfl
                      have hcz101_7 : wc.cell? ⟨gb221, 7, none⟩ = some (.slice A0_7 l0_7.length c0_7) := (qb BK221.out 7).trans rfl
                      have hcz101_8 : wc.cell? ⟨gb221, 8, none⟩ = some (.slice A0_8 l0_8.length c0_8) := (qb BK221.out 8).trans rfl
                      have hcz101_9 : wc.cell? ⟨gb221, 9, none⟩ = some (.slice A0_9 l0_9.length c0_9) := (qb BK221.out 9).trans rfl
                      have hfz101_0 := qa BK221.out 0
                      have hfz101_1 := qa BK221.out 1
                      have hfz101_2 := qa BK221.out 2
                      have hfz101_3 := qa BK221.out 3
                      have hfz101_4 := qa BK221.out 4
                      have hfz101_5 := qa BK221.out 5
                      have hfz101_6 := qa BK221.out 6
                      have hfz101_7 := qa BK221.out 7
                      have hfz101_8 := qa BK221.out 8
                      have hfz101_9 := qa BK221.out 9
                      go_wp2_with (first | (go_at_call 23; (with_reducible refine (qbm.calls kj65 a0_4 a0_5 a0_6 _ _ l0_7 t226 _ ?side1 ?side2 A100.out).mono ?_); (case side1 => repeat (first | exact (Kd.qbv HR0_7.out HB.out) | (with_reducible refine Kd.qb4 ?_ _) | (with_reducible refine Kd.qb1 ?_ _) | (with_reducible refine Kd.qb8 ?_))); (case side2 => exact HC0_7.out); rintro e w102 ⟨rfl, hb⟩; have n0_ := qd.mk (qbb (g := gb221) (o := .cells #[.int .i64 a0_0, .int .i64 a0_1, .int .i64 a0_2, .string a0_3, .int .i64 a0_4, .int .i64 a0_5, .string a0_6, .slice A0_7 l0_7.length c0_7, .slice A0_8 l0_8.length c0_8, .slice A0_9 l0_9.length c0_9] 30 (0, 0)) (by (with_reducible repeat (first | refine qj ?_ _ | refine qm ?_ | refine qi ?_ _)); exact BK221.out) hb); have n1_ := qd.mk (qba (by repeat (first | (with_reducible first | exact HB.out | apply qg | apply qc | apply qh | refine ql ?_ GE221.out) | exact HB.out)) hb); clear BK221; clear HB; have BK221 := n0_; have HB := n1_; clear n0_ n1_; (try clear hb); (try clear hb2); (try clear hk); (try clear hi)))
                      go_meet
                      case rel => exact ⟨_, (!t226), (by first | rfl | (simp; done) | (simp [*]; done)), H', ⟨by have := HJ2.out; have := HJ11.out; have := HJ16.out; have := HJ20.out; have := HJ29.out; have := HJ59.out; have := HJ65.out; first | omega | exact Nat.le_refl _⟩, ⟨by (with_reducible repeat (first | refine qj ?_ _ | refine qm ?_ | refine qi ?_ _)); exact BK221.out⟩, ⟨by repeat (first | (with_reducible first | exact HB.out | apply qg | apply qc | apply qh | refine ql ?_ GE221.out) | exact HB.out)⟩⟩
                    ·rw [if_neg c92] at H
                     have c92b0 : (a0_3.toList == ([] : List UInt8)) = false := beq_eq_false_iff_ne.mpr c92
                     have c92b1 : (a0_3.toList != ([] : List UInt8)) = true := bne_iff_ne.mpr c92
                     (first | rw [c92b0] | (simp only [i64_w, i32_w]; rw [c92b0]) | skip)
                     have H' := qd.mk H
                     clear H
                     have hcz103_0 : wc.cell? ⟨gb221, 0, none⟩ = some (.int .i64 a0_0) := (qb BK221.out 0).trans rfl
                     have hcz103_1 : wc.cell? ⟨gb221, 1, none⟩ = some (.int .i64 a0_1) := (qb BK221.out 1).trans rfl
                     have hcz103_2 : wc.cell? ⟨gb221, 2, none⟩ = some (.int .i64 a0_2) := (qb BK221.out 2).trans rfl
                     have hcz103_3 : wc.cell? ⟨gb221, 3, none⟩ = some (.string a0_3) := (qb BK221.out 3).trans rfl
                     have hcz103_4 : wc.cell? ⟨gb221, 4, none⟩ = some (.int .i64 a0_4) := (qb BK221.out 4).trans rfl
                     have hcz103_5 : wc.cell? ⟨gb221, 5, none⟩ = some (.int .i64 a0_5) := (qb BK221.out 5).trans rfl
                     have hcz103_6 : wc.cell? ⟨gb221, 6, none⟩ = some (.string a0_6) := (qb BK221.out 6).trans rfl
                     have hcz103_7 : wc.cell? ⟨gb221, 7, none⟩ = some (.slice A0_7 l0_7.length c0_7) := (qb BK221.out 7).trans rfl
                     have hcz103_8 : wc.cell? ⟨gb221, 8, none⟩ = some (.slice A0_8 l0_8.length c0_8) := (qb BK221.out 8).trans rfl
                     have hcz103_9 : wc.cell? ⟨gb221, 9, none⟩ = some (.slice A0_9 l0_9.length c0_9) := (qb BK221.out 9).trans rfl
                     have hfz103_0 := qa BK221.out 0
                     have hfz103_1 := qa BK221.out 1
                     have hfz103_2 := qa BK221.out 2
                     have hfz103_3 := qa BK221.out 3
                     have hfz103_4 := qa BK221.out 4
                     have hfz103_5 := qa BK221.out 5
                     have hfz103_6 := qa BK221.out 6
                     have hfz103_7 := qa BK221.out 7
                     have hfz103_8 := qa BK221.out 8
                     have hfz103_9 := qa BK221.out 9
                     go_wp2
                     go_meet
                     case rel => exact ⟨_, (true), (by first | rfl | (simp; done) | (simp [*]; done)), H', ⟨by have := HJ2.out; have := HJ11.out; have := HJ16.out; have := HJ20.out; have := HJ29.out; have := HJ59.out; have := HJ65.out; first | omega | exact Nat.le_refl _⟩, ⟨by (with_reducible repeat (first | refine qj ?_ _ | refine qm ?_ | refine qi ?_ _)); exact BK221.out⟩, ⟨by repeat (first | (with_reducible first | exact HB.out | apply qg | apply qc | apply qh | refine ql ?_ GE221.out) | exact HB.out)⟩⟩
                 case rest =>
                  clear HC70
                  (try clear p2); (try clear c7); (try clear c9); (try clear c71); (try clear c73); (try clear c74); (try clear c76); (try clear c92); (try clear c92b0); (try clear c92b1); (try clear c93); (try clear c95); (try clear hcz101_0 hcz101_1 hcz101_2 hcz101_3 hcz101_4 hcz101_5 hcz101_6 hcz101_7 hcz101_8 hcz101_9); (try clear hcz103_0 hcz103_1 hcz103_2 hcz103_3 hcz103_4 hcz103_5 hcz103_6 hcz103_7 hcz103_8 hcz103_9); (try clear hcz77_0 hcz77_1 hcz77_2 hcz77_3 hcz77_4 hcz77_5 hcz77_6 hcz77_7 hcz77_8 hcz77_9); (try clear hcz79_0 hcz79_1 hcz79_2 hcz79_3 hcz79_4 hcz79_5 hcz79_6 hcz79_7 hcz79_8 hcz79_9); (try clear hcz81_0 hcz81_1 hcz81_2 hcz81_3 hcz81_4 hcz81_5 hcz81_6 hcz81_7 hcz81_8 hcz81_9); (try clear hcz83_0 hcz83_1 hcz83_2 hcz83_3 hcz83_4 hcz83_5 hcz83_6 hcz83_7 hcz83_8 hcz83_9); (try clear hcz86_0 hcz86_1 hcz86_2 hcz86_3 hcz86_4 hcz86_5 hcz86_6 hcz86_7 hcz86_8 hcz86_9); (try clear hcz88_0 hcz88_1 hcz88_2 hcz88_3 hcz88_4 hcz88_5 hcz88_6 hcz88_7 hcz88_8 hcz88_9); (try clear hcz90_0 hcz90_1 hcz90_2 hcz90_3 hcz90_4 hcz90_5 hcz90_6 hcz90_7 hcz90_8 hcz90_9); (try clear hcz96_0 hcz96_1 hcz96_2 hcz96_3 hcz96_4 hcz96_5 hcz96_6 hcz96_7 hcz96_8 hcz96_9); (try clear hcz98_0 hcz98_1 hcz98_2 hcz98_3 hcz98_4 hcz98_5 hcz98_6 hcz98_7 hcz98_8 hcz98_9); (try clear hfz101_0 hfz101_1 hfz101_2 hfz101_3 hfz101_4 hfz101_5 hfz101_6 hfz101_7 hfz101_8 hfz101_9); (try clear hfz103_0 hfz103_1 hfz103_2 hfz103_3 hfz103_4 hfz103_5 hfz103_6 hfz103_7 hfz103_8 hfz103_9); (try clear hfz10_4 hfz10_5 hfz10_6 hfz10_7 hfz10_8 hfz10_9); (try clear hfz13_0 hfz13_1 hfz13_2 hfz13_3 hfz13_4 hfz13_5 hfz13_6 hfz13_7 hfz13_8 hfz13_9); (try clear hfz15_0 hfz15_1 hfz15_2 hfz15_3 hfz15_4 hfz15_5 hfz15_6 hfz15_7 hfz15_8 hfz15_9); (try clear hfz16_0 hfz16_1 hfz16_2 hfz16_3 hfz16_4 hfz16_5 hfz16_6 hfz16_7 hfz16_8 hfz16_9); (try clear hfz19_0 hfz19_1 hfz19_2 hfz19_3 hfz19_4 hfz19_5 hfz19_6 hfz19_7 hfz19_8 hfz19_9); (try clear hfz20_0 hfz20_1 hfz20_2 hfz20_3 hfz20_4 hfz20_5 hfz20_6 hfz20_7 hfz20_8 hfz20_9); (try clear hfz33_0 hfz33_1 hfz33_2 hfz33_3 hfz33_4 hfz33_5 hfz33_6 hfz33_7 hfz33_8 hfz33_9); (try clear hfz35_0 hfz35_1 hfz35_2 hfz35_3 hfz35_4 hfz35_5 hfz35_6 hfz35_7 hfz35_8 hfz35_9); (try clear hfz37_0 hfz37_1 hfz37_2 hfz37_3 hfz37_4 hfz37_5 hfz37_6 hfz37_7 hfz37_8 hfz37_9); (try clear hfz39_0 hfz39_1 hfz39_2 hfz39_3 hfz39_4 hfz39_5 hfz39_6 hfz39_7 hfz39_8 hfz39_9); (try clear hfz42_0 hfz42_1 hfz42_2 hfz42_3 hfz42_4 hfz42_5 hfz42_6 hfz42_7 hfz42_8 hfz42_9); (try clear hfz44_0 hfz44_1 hfz44_2 hfz44_3 hfz44_4 hfz44_5 hfz44_6 hfz44_7 hfz44_8 hfz44_9); (try clear hfz45_0 hfz45_1 hfz45_2 hfz45_3 hfz45_4 hfz45_5 hfz45_6 hfz45_7 hfz45_8 hfz45_9); (try clear hfz46_0 hfz46_1 hfz46_2 hfz46_3 hfz46_4 hfz46_5 hfz46_6 hfz46_7 hfz46_8 hfz46_9); (try clear hfz49_0 hfz49_1 hfz49_2 hfz49_3 hfz49_4 hfz49_5 hfz49_6 hfz49_7 hfz49_8 hfz49_9); (try clear hfz51_0 hfz51_1 hfz51_2 hfz51_3 hfz51_4 hfz51_5 hfz51_6 hfz51_7 hfz51_8 hfz51_9); (try clear hfz53_0 hfz53_1 hfz53_2 hfz53_3 hfz53_4 hfz53_5 hfz53_6 hfz53_7 hfz53_8 hfz53_9); (try clear hfz54_0 hfz54_1 hfz54_2 hfz54_3 hfz54_4 hfz54_5 hfz54_6 hfz54_7 hfz54_8 hfz54_9); (try clear hfz57_0 hfz57_1 hfz57_2 hfz57_3 hfz57_4 hfz57_5 hfz57_6 hfz57_7 hfz57_8 hfz57_9); (try clear hfz58_0 hfz58_1 hfz58_2 hfz58_3 hfz58_4 hfz58_5 hfz58_6 hfz58_7 hfz58_8 hfz58_9); (try clear hfz59_0 hfz59_1 hfz59_2 hfz59_3 hfz59_4 hfz59_5 hfz59_6 hfz59_7 hfz59_8 hfz59_9); (try clear hfz62_0 hfz62_1 hfz62_2 hfz62_3 hfz62_4 hfz62_5 hfz62_6 hfz62_7 hfz62_8 hfz62_9); (try clear hfz64_0 hfz64_1 hfz64_2 hfz64_3 hfz64_4 hfz64_5 hfz64_6 hfz64_7 hfz64_8 hfz64_9); (try clear hfz65_0 hfz65_1 hfz65_2 hfz65_3 hfz65_4 hfz65_5 hfz65_6 hfz65_7 hfz65_8 hfz65_9); (try clear hfz68_0 hfz68_1 hfz68_2 hfz68_3 hfz68_4 hfz68_5 hfz68_6 hfz68_7 hfz68_8 hfz68_9); (try clear hfz69_0 hfz69_1 hfz69_2 hfz69_3 hfz69_4 hfz69_5 hfz69_6 hfz69_7 hfz69_8 hfz69_9); (try clear hfz77_0 hfz77_1 hfz77_2 hfz77_3 hfz77_4 hfz77_5 hfz77_6 hfz77_7 hfz77_8 hfz77_9); (try clear hfz79_0 hfz79_1 hfz79_2 hfz79_3 hfz79_4 hfz79_5 hfz79_6 hfz79_7 hfz79_8 hfz79_9); (try clear hfz7_0 hfz7_1 hfz7_2 hfz7_3 hfz7_4 hfz7_5 hfz7_6 hfz7_7 hfz7_8 hfz7_9); (try clear hfz81_0 hfz81_1 hfz81_2 hfz81_3 hfz81_4 hfz81_5 hfz81_6 hfz81_7 hfz81_8 hfz81_9); (try clear hfz83_0 hfz83_1 hfz83_2 hfz83_3 hfz83_4 hfz83_5 hfz83_6 hfz83_7 hfz83_8 hfz83_9); (try clear hfz86_0 hfz86_1 hfz86_2 hfz86_3 hfz86_4 hfz86_5 hfz86_6 hfz86_7 hfz86_8 hfz86_9); (try clear hfz88_0 hfz88_1 hfz88_2 hfz88_3 hfz88_4 hfz88_5 hfz88_6 hfz88_7 hfz88_8 hfz88_9); (try clear hfz90_0 hfz90_1 hfz90_2 hfz90_3 hfz90_4 hfz90_5 hfz90_6 hfz90_7 hfz90_8 hfz90_9); (try clear hfz96_0 hfz96_1 hfz96_2 hfz96_3 hfz96_4 hfz96_5 hfz96_6 hfz96_7 hfz96_8 hfz96_9); (try clear hfz98_0 hfz98_1 hfz98_2 hfz98_3 hfz98_4 hfz98_5 hfz98_6 hfz98_7 hfz98_8 hfz98_9); (try clear hfz9_0 hfz9_1 hfz9_2 hfz9_3 hfz9_4 hfz9_5 hfz9_6 hfz9_7 hfz9_8 hfz9_9); (try clear p2)
                  obtain ⟨kq, x195_69, rfl, HA, HJ69, BK221, HB⟩ := hcut
                  cases kq with
                  | zero => exact absurd HA.out (by simp [qf.j7])
                  | succ kj69 =>
                   have H := HA.out
                   clear HA
                   simp only [qf.j7] at H
                   by_cases c104 : x195_69 = true
                   ·subst c104
                    have H1 : (some false) = some r := by rw [if_pos rfl] at H; exact H
                    clear H
                    have H := H1
                    clear H1
                    obtain rfl := Option.some.inj H
                    go_wp2
                    go_ret
                    exact ⟨by first | rfl | (simp [q9, qz] <;> rfl) | (simp [*, q9, qz] <;> rfl), by repeat (first | (with_reducible first | exact HB.out | apply qg | apply qc | apply qh | refine ql ?_ GE221.out) | exact HB.out)⟩
                   ·replace c104 := Bool.eq_false_iff.mpr c104
                    subst c104
                    have H1 : (if a0_0 = 11 then (if (l0_9.length : Int) = (l0_8.length : Int) then (qf.j8 kj69 a1 (l0_8.length : Int) false a0_0 a0_1 a0_2 a0_3 a0_4 a0_5 a0_6 l0_7 l0_8 l0_9) else (qf.j8 kj69 a1 (l0_8.length : Int) true a0_0 a0_1 a0_2 a0_3 a0_4 a0_5 a0_6 l0_7 l0_8 l0_9)) else (qf.j8 kj69 a1 (l0_8.length : Int) (decide ((l0_9.length : Int) > 0)) a0_0 a0_1 a0_2 a0_3 a0_4 a0_5 a0_6 l0_7 l0_8 l0_9)) = some r := by rw [if_neg (show ¬ (false = true) by decide)] at H; exact H
                    clear H
                    have H := H1
                    clear H1
                    have HC105 := qd.mk H
                    clear H
                    go_upto_region 18 with (fail)
                    go_cut [216] (fun v216 wc => ∃ (kq : Nat) (x216_104 : Bool), v216 = .bool x216_104 ∧ qd (qf.j8 kq a1 (l0_8.length : Int) x216_104 a0_0 a0_1 a0_2 a0_3 a0_4 a0_5 a0_6 l0_7 l0_8 l0_9 = some r) ∧ qd (kq ≤ kj69) ∧ qd (wc.heap[gb221]? = some (.cells #[.int .i64 a0_0, .int .i64 a0_1, .int .i64 a0_2, .string a0_3, .int .i64 a0_4, .int .i64 a0_5, .string a0_6, (.slice A0_7 l0_7.length c0_7), (.slice A0_8 l0_8.length c0_8), (.slice A0_9 l0_9.length c0_9)] 30 (0, 0))) ∧ qd (Below w.heap.size w wc))
                    case first =>
                     as_aux_lemma =>
                      have H := HC105.out
                      clear HC105
                      by_cases c106 : a0_0 = 11
                      ·rw [if_pos c106] at H
                       have c106b0 : (a0_0 == 11) = true := beq_iff_eq.mpr c106
                       have c106b1 : (a0_0 != 11) = false := bne_eq_false_iff_eq.mpr c106
                       clear c106
                       (first | rw [c106b0] | (simp only [i64_w, i32_w]; rw [c106b0]) | skip)
                       by_cases c107 : (l0_9.length : Int) = (l0_8.length : Int)
                       ·rw [if_pos c107] at H
                        have c107b0 : ((l0_9.length : Int) == (l0_8.length : Int)) = true := beq_iff_eq.mpr c107
                        have c107b1 : ((l0_9.length : Int) != (l0_8.length : Int)) = false := bne_eq_false_iff_eq.mpr c107
                        have c107b2 : (l0_9.length == l0_8.length) = true := by first | simpa using c107 | (simp at c107 ⊢; omega)
                        clear c107
                        have H' := qd.mk H
                        clear H
                        have hcz108_0 : wc.cell? ⟨gb221, 0, none⟩ = some (.int .i64 a0_0) := (qb BK221.out 0).trans rfl
                        have hcz108_1 : wc.cell? ⟨gb221, 1, none⟩ = some (.int .i64 a0_1) := (qb BK221.out 1).trans rfl
                        have hcz108_2 : wc.cell? ⟨gb221, 2, none⟩ = some (.int .i64 a0_2) := (qb BK221.out 2).trans rfl
                        have hcz108_3 : wc.cell? ⟨gb221, 3, none⟩ = some (.string a0_3) := (qb BK221.out 3).trans rfl
                        have hcz108_4 : wc.cell? ⟨gb221, 4, none⟩ = some (.int .i64 a0_4) := (qb BK221.out 4).trans rfl
                        have hcz108_5 : wc.cell? ⟨gb221, 5, none⟩ = some (.int .i64 a0_5) := (qb BK221.out 5).trans rfl
                        have hcz108_6 : wc.cell? ⟨gb221, 6, none⟩ = some (.string a0_6) := (qb BK221.out 6).trans rfl
                        have hcz108_7 : wc.cell? ⟨gb221, 7, none⟩ = some (.slice A0_7 l0_7.length c0_7) := (qb BK221.out 7).trans rfl
                        have hcz108_8 : wc.cell? ⟨gb221, 8, none⟩ = some (.slice A0_8 l0_8.length c0_8) := (qb BK221.out 8).trans rfl
                        have hcz108_9 : wc.cell? ⟨gb221, 9, none⟩ = some (.slice A0_9 l0_9.length c0_9) := (qb BK221.out 9).trans rfl
                        have hfz108_0 := qa BK221.out 0
                        have hfz108_1 := qa BK221.out 1
                        have hfz108_2 := qa BK221.out 2
                        have hfz108_3 := qa BK221.out 3
                        have hfz108_4 := qa BK221.out 4
                        have hfz108_5 := qa BK221.out 5
                        have hfz108_6 := qa BK221.out 6
                        have hfz108_7 := qa BK221.out 7
                        have hfz108_8 := qa BK221.out 8
                        have hfz108_9 := qa BK221.out 9
                        go_wp2
                        go_meet
                        case rel => exact ⟨_, (false), (by first | rfl | (simp; done) | (simp [*]; done)), H', ⟨by have := HJ2.out; have := HJ11.out; have := HJ16.out; have := HJ20.out; have := HJ29.out; have := HJ59.out; have := HJ65.out; have := HJ69.out; first | omega | exact Nat.le_refl _⟩, ⟨by (with_reducible repeat (first | refine qj ?_ _ | refine qm ?_ | refine qi ?_ _)); exact BK221.out⟩, ⟨by repeat (first | (with_reducible first | exact HB.out | apply qg | apply qc | apply qh | refine ql ?_ GE221.out) | exact HB.out)⟩⟩
                       ·rw [if_neg c107] at H
                        have c107b0 : ((l0_9.length : Int) == (l0_8.length : Int)) = false := beq_eq_false_iff_ne.mpr c107
                        have c107b1 : ((l0_9.length : Int) != (l0_8.length : Int)) = true := bne_iff_ne.mpr c107
                        have c107b2 : (l0_9.length == l0_8.length) = false := by first | simpa using c107 | (simp at c107 ⊢; omega)
                        have H' := qd.mk H
                        clear H
                        have hcz109_0 : wc.cell? ⟨gb221, 0, none⟩ = some (.int .i64 a0_0) := (qb BK221.out 0).trans rfl
                        have hcz109_1 : wc.cell? ⟨gb221, 1, none⟩ = some (.int .i64 a0_1) := (qb BK221.out 1).trans rfl
                        have hcz109_2 : wc.cell? ⟨gb221, 2, none⟩ = some (.int .i64 a0_2) := (qb BK221.out 2).trans rfl
                        have hcz109_3 : wc.cell? ⟨gb221, 3, none⟩ = some (.string a0_3) := (qb BK221.out 3).trans rfl
                        have hcz109_4 : wc.cell? ⟨gb221, 4, none⟩ = some (.int .i64 a0_4) := (qb BK221.out 4).trans rfl
                        have hcz109_5 : wc.cell? ⟨gb221, 5, none⟩ = some (.int .i64 a0_5) := (qb BK221.out 5).trans rfl
                        have hcz109_6 : wc.cell? ⟨gb221, 6, none⟩ = some (.string a0_6) := (qb BK221.out 6).trans rfl
                        have hcz109_7 : wc.cell? ⟨gb221, 7, none⟩ = some (.slice A0_7 l0_7.length c0_7) := (qb BK221.out 7).trans rfl
                        have hcz109_8 : wc.cell? ⟨gb221, 8, none⟩ = some (.slice A0_8 l0_8.length c0_8) := (qb BK221.out 8).trans rfl
                        have hcz109_9 : wc.cell? ⟨gb221, 9, none⟩ = some (.slice A0_9 l0_9.length c0_9) := (qb BK221.out 9).trans rfl
                        have hfz109_0 := qa BK221.out 0
                        have hfz109_1 := qa BK221.out 1
                        have hfz109_2 := qa BK221.out 2
                        have hfz109_3 := qa BK221.out 3
                        have hfz109_4 := qa BK221.out 4
                        have hfz109_5 := qa BK221.out 5
                        have hfz109_6 := qa BK221.out 6
                        have hfz109_7 := qa BK221.out 7
                        have hfz109_8 := qa BK221.out 8
                        have hfz109_9 := qa BK221.out 9
                        go_wp2
                        go_meet
                        case rel => exact ⟨_, (true), (by first | rfl | (simp; done) | (simp [*]; done)), H', ⟨by have := HJ2.out; have := HJ11.out; have := HJ16.out; have := HJ20.out; have := HJ29.out; have := HJ59.out; have := HJ65.out; have := HJ69.out; first | omega | exact Nat.le_refl _⟩, ⟨by (with_reducible repeat (first | refine qj ?_ _ | refine qm ?_ | refine qi ?_ _)); exact BK221.out⟩, ⟨by repeat (first | (with_reducible first | exact HB.out | apply qg | apply qc | apply qh | refine ql ?_ GE221.out) | exact HB.out)⟩⟩
                      ·rw [if_neg c106] at H
                       have c106b0 : (a0_0 == 11) = false := beq_eq_false_iff_ne.mpr c106
                       have c106b1 : (a0_0 != 11) = true := bne_iff_ne.mpr c106
                       (first | rw [c106b0] | (simp only [i64_w, i32_w]; rw [c106b0]) | skip)
                       have H' := qd.mk H
                       clear H
                       have hcz110_0 : wc.cell? ⟨gb221, 0, none⟩ = some (.int .i64 a0_0) := (qb BK221.out 0).trans rfl
                       have hcz110_1 : wc.cell? ⟨gb221, 1, none⟩ = some (.int .i64 a0_1) := (qb BK221.out 1).trans rfl
                       have hcz110_2 : wc.cell? ⟨gb221, 2, none⟩ = some (.int .i64 a0_2) := (qb BK221.out 2).trans rfl
                       have hcz110_3 : wc.cell? ⟨gb221, 3, none⟩ = some (.string a0_3) := (qb BK221.out 3).trans rfl
                       have hcz110_4 : wc.cell? ⟨gb221, 4, none⟩ = some (.int .i64 a0_4) := (qb BK221.out 4).trans rfl
                       have hcz110_5 : wc.cell? ⟨gb221, 5, none⟩ = some (.int .i64 a0_5) := (qb BK221.out 5).trans rfl
                       have hcz110_6 : wc.cell? ⟨gb221, 6, none⟩ = some (.string a0_6) := (qb BK221.out 6).trans rfl
                       have hcz110_7 : wc.cell? ⟨gb221, 7, none⟩ = some (.slice A0_7 l0_7.length c0_7) := (qb BK221.out 7).trans rfl
                       have hcz110_8 : wc.cell? ⟨gb221, 8, none⟩ = some (.slice A0_8 l0_8.length c0_8) := (qb BK221.out 8).trans rfl
                       have hcz110_9 : wc.cell? ⟨gb221, 9, none⟩ = some (.slice A0_9 l0_9.length c0_9) := (qb BK221.out 9).trans rfl
                       have hfz110_0 := qa BK221.out 0
                       have hfz110_1 := qa BK221.out 1
                       have hfz110_2 := qa BK221.out 2
                       have hfz110_3 := qa BK221.out 3
                       have hfz110_4 := qa BK221.out 4
                       have hfz110_5 := qa BK221.out 5
                       have hfz110_6 := qa BK221.out 6
                       have hfz110_7 := qa BK221.out 7
                       have hfz110_8 := qa BK221.out 8
                       have hfz110_9 := qa BK221.out 9
                       go_wp2
                       go_meet
                       case rel => exact ⟨_, (decide ((l0_9.length : Int) > 0)), (by first | rfl | (simp; done) | (simp [*]; done)), H', ⟨by have := HJ2.out; have := HJ11.out; have := HJ16.out; have := HJ20.out; have := HJ29.out; have := HJ59.out; have := HJ65.out; have := HJ69.out; first | omega | exact Nat.le_refl _⟩, ⟨by (with_reducible repeat (first | refine qj ?_ _ | refine qm ?_ | refine qi ?_ _)); exact BK221.out⟩, ⟨by repeat (first | (with_reducible first | exact HB.out | apply qg | apply qc | apply qh | refine ql ?_ GE221.out) | exact HB.out)⟩⟩
                    case rest =>
                     clear HC105
                     (try clear c1); (try clear p2); (try clear c10); (try clear c104); (try clear c106); (try clear c106b0); (try clear c106b1); (try clear c107); (try clear c107b0); (try clear c107b1); (try clear c107b2); (try clear hcz108_0 hcz108_1 hcz108_2 hcz108_3 hcz108_4 hcz108_5 hcz108_6 hcz108_7 hcz108_8 hcz108_9); (try clear hcz109_0 hcz109_1 hcz109_2 hcz109_3 hcz109_4 hcz109_5 hcz109_6 hcz109_7 hcz109_8 hcz109_9); (try clear hcz110_0 hcz110_1 hcz110_2 hcz110_3 hcz110_4 hcz110_5 hcz110_6 hcz110_7 hcz110_8 hcz110_9); (try clear hcz77_4 hcz77_5 hcz77_6 hcz77_7 hcz77_8 hcz77_9); (try clear hcz79_0 hcz79_1 hcz79_2 hcz79_3 hcz79_4 hcz79_5 hcz79_6 hcz79_7 hcz79_8 hcz79_9); (try clear hcz81_0 hcz81_1 hcz81_2 hcz81_3 hcz81_4 hcz81_5 hcz81_6 hcz81_7 hcz81_8 hcz81_9); (try clear hcz83_0 hcz83_1 hcz83_2 hcz83_3 hcz83_4 hcz83_5 hcz83_6 hcz83_7 hcz83_8 hcz83_9); (try clear hcz86_0 hcz86_1 hcz86_2 hcz86_3 hcz86_4 hcz86_5 hcz86_6 hcz86_7 hcz86_8 hcz86_9); (try clear hcz88_0 hcz88_1 hcz88_2 hcz88_3 hcz88_4 hcz88_5 hcz88_6 hcz88_7 hcz88_8 hcz88_9); (try clear hcz90_0 hcz90_1 hcz90_2 hcz90_3 hcz90_4 hcz90_5 hcz90_6 hcz90_7 hcz90_8 hcz90_9); (try clear hcz96_0 hcz96_1 hcz96_2 hcz96_3 hcz96_4 hcz96_5 hcz96_6 hcz96_7 hcz96_8 hcz96_9); (try clear hcz98_0 hcz98_1 hcz98_2 hcz98_3 hcz98_4 hcz98_5 hcz98_6 hcz98_7 hcz98_8 hcz98_9); (try clear hfz101_0 hfz101_1 hfz101_2 hfz101_3 hfz101_4 hfz101_5 hfz101_6 hfz101_7 hfz101_8 hfz101_9); (try clear hfz103_0 hfz103_1 hfz103_2 hfz103_3 hfz103_4 hfz103_5 hfz103_6 hfz103_7 hfz103_8 hfz103_9); (try clear hfz108_0 hfz108_1 hfz108_2 hfz108_3 hfz108_4 hfz108_5 hfz108_6 hfz108_7 hfz108_8 hfz108_9); (try clear hfz109_0 hfz109_1 hfz109_2 hfz109_3 hfz109_4 hfz109_5 hfz109_6 hfz109_7 hfz109_8 hfz109_9); (try clear hfz10_4 hfz10_5 hfz10_6 hfz10_7 hfz10_8 hfz10_9); (try clear hfz110_0 hfz110_1 hfz110_2 hfz110_3 hfz110_4 hfz110_5 hfz110_6 hfz110_7 hfz110_8 hfz110_9); (try clear hfz13_0 hfz13_1 hfz13_2 hfz13_3 hfz13_4 hfz13_5 hfz13_6 hfz13_7 hfz13_8 hfz13_9); (try clear hfz15_0 hfz15_1 hfz15_2 hfz15_3 hfz15_4 hfz15_5 hfz15_6 hfz15_7 hfz15_8 hfz15_9); (try clear hfz16_0 hfz16_1 hfz16_2 hfz16_3 hfz16_4 hfz16_5 hfz16_6 hfz16_7 hfz16_8 hfz16_9); (try clear hfz19_0 hfz19_1 hfz19_2 hfz19_3 hfz19_4 hfz19_5 hfz19_6 hfz19_7 hfz19_8 hfz19_9); (try clear hfz20_0 hfz20_1 hfz20_2 hfz20_3 hfz20_4 hfz20_5 hfz20_6 hfz20_7 hfz20_8 hfz20_9); (try clear hfz33_0 hfz33_1 hfz33_2 hfz33_3 hfz33_4 hfz33_5 hfz33_6 hfz33_7 hfz33_8 hfz33_9); (try clear hfz35_0 hfz35_1 hfz35_2 hfz35_3 hfz35_4 hfz35_5 hfz35_6 hfz35_7 hfz35_8 hfz35_9); (try clear hfz37_0 hfz37_1 hfz37_2 hfz37_3 hfz37_4 hfz37_5 hfz37_6 hfz37_7 hfz37_8 hfz37_9); (try clear hfz39_0 hfz39_1 hfz39_2 hfz39_3 hfz39_4 hfz39_5 hfz39_6 hfz39_7 hfz39_8 hfz39_9); (try clear hfz42_0 hfz42_1 hfz42_2 hfz42_3 hfz42_4 hfz42_5 hfz42_6 hfz42_7 hfz42_8 hfz42_9); (try clear hfz44_0 hfz44_1 hfz44_2 hfz44_3 hfz44_4 hfz44_5 hfz44_6 hfz44_7 hfz44_8 hfz44_9); (try clear hfz45_0 hfz45_1 hfz45_2 hfz45_3 hfz45_4 hfz45_5 hfz45_6 hfz45_7 hfz45_8 hfz45_9); (try clear hfz46_0 hfz46_1 hfz46_2 hfz46_3 hfz46_4 hfz46_5 hfz46_6 hfz46_7 hfz46_8 hfz46_9); (try clear hfz49_0 hfz49_1 hfz49_2 hfz49_3 hfz49_4 hfz49_5 hfz49_6 hfz49_7 hfz49_8 hfz49_9); (try clear hfz51_0 hfz51_1 hfz51_2 hfz51_3 hfz51_4 hfz51_5 hfz51_6 hfz51_7 hfz51_8 hfz51_9); (try clear hfz53_0 hfz53_1 hfz53_2 hfz53_3 hfz53_4 hfz53_5 hfz53_6 hfz53_7 hfz53_8 hfz53_9); (try clear hfz54_0 hfz54_1 hfz54_2 hfz54_3 hfz54_4 hfz54_5 hfz54_6 hfz54_7 hfz54_8 hfz54_9); (try clear hfz57_0 hfz57_1 hfz57_2 hfz57_3 hfz57_4 hfz57_5 hfz57_6 hfz57_7 hfz57_8 hfz57_9); (try clear hfz58_0 hfz58_1 hfz58_2 hfz58_3 hfz58_4 hfz58_5 hfz58_6 hfz58_7 hfz58_8 hfz58_9); (try clear hfz59_0 hfz59_1 hfz59_2 hfz59_3 hfz59_4 hfz59_5 hfz59_6 hfz59_7 hfz59_8 hfz59_9); (try clear hfz62_0 hfz62_1 hfz62_2 hfz62_3 hfz62_4 hfz62_5 hfz62_6 hfz62_7 hfz62_8 hfz62_9); (try clear hfz64_0 hfz64_1 hfz64_2 hfz64_3 hfz64_4 hfz64_5 hfz64_6 hfz64_7 hfz64_8 hfz64_9); (try clear hfz65_0 hfz65_1 hfz65_2 hfz65_3 hfz65_4 hfz65_5 hfz65_6 hfz65_7 hfz65_8 hfz65_9); (try clear hfz68_0 hfz68_1 hfz68_2 hfz68_3 hfz68_4 hfz68_5 hfz68_6 hfz68_7 hfz68_8 hfz68_9); (try clear hfz69_0 hfz69_1 hfz69_2 hfz69_3 hfz69_4 hfz69_5 hfz69_6 hfz69_7 hfz69_8 hfz69_9); (try clear hfz77_0 hfz77_1 hfz77_2 hfz77_3 hfz77_4 hfz77_5 hfz77_6 hfz77_7 hfz77_8 hfz77_9); (try clear hfz79_0 hfz79_1 hfz79_2 hfz79_3 hfz79_4 hfz79_5 hfz79_6 hfz79_7 hfz79_8 hfz79_9); (try clear hfz7_0 hfz7_1 hfz7_2 hfz7_3 hfz7_4 hfz7_5 hfz7_6 hfz7_7 hfz7_8 hfz7_9); (try clear hfz81_0 hfz81_1 hfz81_2 hfz81_3 hfz81_4 hfz81_5 hfz81_6 hfz81_7 hfz81_8 hfz81_9); (try clear hfz83_0 hfz83_1 hfz83_2 hfz83_3 hfz83_4 hfz83_5 hfz83_6 hfz83_7 hfz83_8 hfz83_9); (try clear hfz86_0 hfz86_1 hfz86_2 hfz86_3 hfz86_4 hfz86_5 hfz86_6 hfz86_7 hfz86_8 hfz86_9); (try clear hfz88_0 hfz88_1 hfz88_2 hfz88_3 hfz88_4 hfz88_5 hfz88_6 hfz88_7 hfz88_8 hfz88_9); (try clear hfz90_0 hfz90_1 hfz90_2 hfz90_3 hfz90_4 hfz90_5 hfz90_6 hfz90_7 hfz90_8 hfz90_9); (try clear hfz96_0 hfz96_1 hfz96_2 hfz96_3 hfz96_4 hfz96_5 hfz96_6 hfz96_7 hfz96_8 hfz96_9); (try clear hfz98_0 hfz98_1 hfz98_2 hfz98_3 hfz98_4 hfz98_5 hfz98_6 hfz98_7 hfz98_8 hfz98_9); (try clear hfz9_0 hfz9_1 hfz9_2 hfz9_3 hfz9_4 hfz9_5 hfz9_6 hfz9_7 hfz9_8 hfz9_9); (try clear p2)
                     obtain ⟨kq, x216_104, rfl, HA, HJ104, BK221, HB⟩ := hcut
                     cases kq with
                     | zero => exact absurd HA.out (by simp [qf.j8])
                     | succ kj104 =>
                      have H := HA.out
                      clear HA
                      simp only [qf.j8] at H
                      by_cases c111 : x216_104 = true
                      ·subst c111
                       have H1 : (some false) = some r := by rw [if_pos rfl] at H; exact H
                       clear H
                       have H := H1
                       clear H1
                       obtain rfl := Option.some.inj H
                       go_wp2
                       go_ret
                       exact ⟨by first | rfl | (simp [q9, qz] <;> rfl) | (simp [*, q9, qz] <;> rfl), by repeat (first | (with_reducible first | exact HB.out | apply qg | apply qc | apply qh | refine ql ?_ GE221.out) | exact HB.out)⟩
                      ·replace c111 := Bool.eq_false_iff.mpr c111
                       subst c111
                       have H1 : (qf.l0 kj104 a1 (l0_8.length : Int) 0 a0_0 a0_1 a0_2 a0_3 a0_4 a0_5 a0_6 l0_7 l0_8 l0_9) = some r := by rw [if_neg (show ¬ (false = true) by decide)] at H; exact H
                       clear H
                       have H := H1
                       clear H1
                       have H' := qd.mk H
                       clear H
                       go_wp2
                       go_loopg [10] kj104 (fun kq v10 w' => ∃ (x10_10 : Int), v10 = .int .i64 x10_10 ∧ qd (qf.l0 kq a1 (l0_8.length : Int) x10_10 a0_0 a0_1 a0_2 a0_3 a0_4 a0_5 a0_6 l0_7 l0_8 l0_9 = some r) ∧ qd (kq ≤ kj104) ∧ qd (w'.heap[gb221]? = some (.cells #[.int .i64 a0_0, .int .i64 a0_1, .int .i64 a0_2, .string a0_3, .int .i64 a0_4, .int .i64 a0_5, .string a0_6, (.slice A0_7 l0_7.length c0_7), (.slice A0_8 l0_8.length c0_8), (.slice A0_9 l0_9.length c0_9)] 30 (0, 0))) ∧ qd (Below w.heap.size w w'))
                       case atStart => exact ⟨(0), (by first | rfl | (simp; done) | (simp [*]; done)), H', ⟨Nat.le_refl _⟩, ⟨by (with_reducible repeat (first | refine qj ?_ _ | refine qm ?_ | refine qi ?_ _)); exact BK221.out⟩, ⟨by repeat (first | (with_reducible first | exact HB.out | apply qg | apply qc | apply qh | refine ql ?_ GE221.out) | exact HB.out)⟩⟩
                       case round =>
                        clear H'
                        (try clear c1); (try clear p2); (try clear c10); (try clear c11); (try clear c104); (try clear c106); (try clear c106b0); (try clear c106b1); (try clear c107); (try clear c107b0); (try clear c107b1); (try clear c107b2); (try clear c111); (try clear hcz108_0 hcz108_1 hcz108_2 hcz108_3 hcz108_4 hcz108_5 hcz108_6 hcz108_7 hcz108_8 hcz108_9); (try clear hcz109_0 hcz109_1 hcz109_2 hcz109_3 hcz109_4 hcz109_5 hcz109_6 hcz109_7 hcz109_8 hcz109_9); (try clear hcz110_0 hcz110_1 hcz110_2 hcz110_3 hcz110_4 hcz110_5 hcz110_6 hcz110_7 hcz110_8 hcz110_9); (try clear hcz77_4 hcz77_5 hcz77_6 hcz77_7 hcz77_8 hcz77_9); (try clear hcz79_0 hcz79_1 hcz79_2 hcz79_3 hcz79_4 hcz79_5 hcz79_6 hcz79_7 hcz79_8 hcz79_9); (try clear hcz81_0 hcz81_1 hcz81_2 hcz81_3 hcz81_4 hcz81_5 hcz81_6 hcz81_7 hcz81_8 hcz81_9); (try clear hcz83_0 hcz83_1 hcz83_2 hcz83_3 hcz83_4 hcz83_5 hcz83_6 hcz83_7 hcz83_8 hcz83_9); (try clear hcz86_0 hcz86_1 hcz86_2 hcz86_3 hcz86_4 hcz86_5 hcz86_6 hcz86_7 hcz86_8 hcz86_9); (try clear hcz88_0 hcz88_1 hcz88_2 hcz88_3 hcz88_4 hcz88_5 hcz88_6 hcz88_7 hcz88_8 hcz88_9); (try clear hcz90_0 hcz90_1 hcz90_2 hcz90_3 hcz90_4 hcz90_5 hcz90_6 hcz90_7 hcz90_8 hcz90_9); (try clear hcz96_0 hcz96_1 hcz96_2 hcz96_3 hcz96_4 hcz96_5 hcz96_6 hcz96_7 hcz96_8 hcz96_9); (try clear hcz98_0 hcz98_1 hcz98_2 hcz98_3 hcz98_4 hcz98_5 hcz98_6 hcz98_7 hcz98_8 hcz98_9); (try clear hfz101_0 hfz101_1 hfz101_2 hfz101_3 hfz101_4 hfz101_5 hfz101_6 hfz101_7 hfz101_8 hfz101_9); (try clear hfz103_0 hfz103_1 hfz103_2 hfz103_3 hfz103_4 hfz103_5 hfz103_6 hfz103_7 hfz103_8 hfz103_9); (try clear hfz108_0 hfz108_1 hfz108_2 hfz108_3 hfz108_4 hfz108_5 hfz108_6 hfz108_7 hfz108_8 hfz108_9); (try clear hfz109_0 hfz109_1 hfz109_2 hfz109_3 hfz109_4 hfz109_5 hfz109_6 hfz109_7 hfz109_8 hfz109_9); (try clear hfz10_4 hfz10_5 hfz10_6 hfz10_7 hfz10_8 hfz10_9); (try clear hfz110_0 hfz110_1 hfz110_2 hfz110_3 hfz110_4 hfz110_5 hfz110_6 hfz110_7 hfz110_8 hfz110_9); (try clear hfz13_0 hfz13_1 hfz13_2 hfz13_3 hfz13_4 hfz13_5 hfz13_6 hfz13_7 hfz13_8 hfz13_9); (try clear hfz15_0 hfz15_1 hfz15_2 hfz15_3 hfz15_4 hfz15_5 hfz15_6 hfz15_7 hfz15_8 hfz15_9); (try clear hfz16_0 hfz16_1 hfz16_2 hfz16_3 hfz16_4 hfz16_5 hfz16_6 hfz16_7 hfz16_8 hfz16_9); (try clear hfz19_0 hfz19_1 hfz19_2 hfz19_3 hfz19_4 hfz19_5 hfz19_6 hfz19_7 hfz19_8 hfz19_9); (try clear hfz20_0 hfz20_1 hfz20_2 hfz20_3 hfz20_4 hfz20_5 hfz20_6 hfz20_7 hfz20_8 hfz20_9); (try clear hfz33_0 hfz33_1 hfz33_2 hfz33_3 hfz33_4 hfz33_5 hfz33_6 hfz33_7 hfz33_8 hfz33_9); (try clear hfz35_0 hfz35_1 hfz35_2 hfz35_3 hfz35_4 hfz35_5 hfz35_6 hfz35_7 hfz35_8 hfz35_9); (try clear hfz37_0 hfz37_1 hfz37_2 hfz37_3 hfz37_4 hfz37_5 hfz37_6 hfz37_7 hfz37_8 hfz37_9); (try clear hfz39_0 hfz39_1 hfz39_2 hfz39_3 hfz39_4 hfz39_5 hfz39_6 hfz39_7 hfz39_8 hfz39_9); (try clear hfz42_0 hfz42_1 hfz42_2 hfz42_3 hfz42_4 hfz42_5 hfz42_6 hfz42_7 hfz42_8 hfz42_9); (try clear hfz44_0 hfz44_1 hfz44_2 hfz44_3 hfz44_4 hfz44_5 hfz44_6 hfz44_7 hfz44_8 hfz44_9); (try clear hfz45_0 hfz45_1 hfz45_2 hfz45_3 hfz45_4 hfz45_5 hfz45_6 hfz45_7 hfz45_8 hfz45_9); (try clear hfz46_0 hfz46_1 hfz46_2 hfz46_3 hfz46_4 hfz46_5 hfz46_6 hfz46_7 hfz46_8 hfz46_9); (try clear hfz49_0 hfz49_1 hfz49_2 hfz49_3 hfz49_4 hfz49_5 hfz49_6 hfz49_7 hfz49_8 hfz49_9); (try clear hfz51_0 hfz51_1 hfz51_2 hfz51_3 hfz51_4 hfz51_5 hfz51_6 hfz51_7 hfz51_8 hfz51_9); (try clear hfz53_0 hfz53_1 hfz53_2 hfz53_3 hfz53_4 hfz53_5 hfz53_6 hfz53_7 hfz53_8 hfz53_9); (try clear hfz54_0 hfz54_1 hfz54_2 hfz54_3 hfz54_4 hfz54_5 hfz54_6 hfz54_7 hfz54_8 hfz54_9); (try clear hfz57_0 hfz57_1 hfz57_2 hfz57_3 hfz57_4 hfz57_5 hfz57_6 hfz57_7 hfz57_8 hfz57_9); (try clear hfz58_0 hfz58_1 hfz58_2 hfz58_3 hfz58_4 hfz58_5 hfz58_6 hfz58_7 hfz58_8 hfz58_9); (try clear hfz59_0 hfz59_1 hfz59_2 hfz59_3 hfz59_4 hfz59_5 hfz59_6 hfz59_7 hfz59_8 hfz59_9); (try clear hfz62_0 hfz62_1 hfz62_2 hfz62_3 hfz62_4 hfz62_5 hfz62_6 hfz62_7 hfz62_8 hfz62_9); (try clear hfz64_0 hfz64_1 hfz64_2 hfz64_3 hfz64_4 hfz64_5 hfz64_6 hfz64_7 hfz64_8 hfz64_9); (try clear hfz65_0 hfz65_1 hfz65_2 hfz65_3 hfz65_4 hfz65_5 hfz65_6 hfz65_7 hfz65_8 hfz65_9); (try clear hfz68_0 hfz68_1 hfz68_2 hfz68_3 hfz68_4 hfz68_5 hfz68_6 hfz68_7 hfz68_8 hfz68_9); (try clear hfz69_0 hfz69_1 hfz69_2 hfz69_3 hfz69_4 hfz69_5 hfz69_6 hfz69_7 hfz69_8 hfz69_9); (try clear hfz77_0 hfz77_1 hfz77_2 hfz77_3 hfz77_4 hfz77_5 hfz77_6 hfz77_7 hfz77_8 hfz77_9); (try clear hfz79_0 hfz79_1 hfz79_2 hfz79_3 hfz79_4 hfz79_5 hfz79_6 hfz79_7 hfz79_8 hfz79_9); (try clear hfz7_0 hfz7_1 hfz7_2 hfz7_3 hfz7_4 hfz7_5 hfz7_6 hfz7_7 hfz7_8 hfz7_9); (try clear hfz81_0 hfz81_1 hfz81_2 hfz81_3 hfz81_4 hfz81_5 hfz81_6 hfz81_7 hfz81_8 hfz81_9); (try clear hfz83_0 hfz83_1 hfz83_2 hfz83_3 hfz83_4 hfz83_5 hfz83_6 hfz83_7 hfz83_8 hfz83_9); (try clear hfz86_0 hfz86_1 hfz86_2 hfz86_3 hfz86_4 hfz86_5 hfz86_6 hfz86_7 hfz86_8 hfz86_9); (try clear hfz88_0 hfz88_1 hfz88_2 hfz88_3 hfz88_4 hfz88_5 hfz88_6 hfz88_7 hfz88_8 hfz88_9); (try clear hfz90_0 hfz90_1 hfz90_2 hfz90_3 hfz90_4 hfz90_5 hfz90_6 hfz90_7 hfz90_8 hfz90_9); (try clear hfz96_0 hfz96_1 hfz96_2 hfz96_3 hfz96_4 hfz96_5 hfz96_6 hfz96_7 hfz96_8 hfz96_9); (try clear hfz98_0 hfz98_1 hfz98_2 hfz98_3 hfz98_4 hfz98_5 hfz98_6 hfz98_7 hfz98_8 hfz98_9); (try clear hfz9_0 hfz9_1 hfz9_2 hfz9_3 hfz9_4 hfz9_5 hfz9_6 hfz9_7 hfz9_8 hfz9_9); (try clear p2)
                        obtain ⟨x10_10, rfl, HA, HK10, BK221, HB⟩ := hrel
                        cases gk with
                        | zero => exact absurd HA.out (by simp [qf.l0])
                        | succ k10 =>
                         have H := HA.out
                         clear HA
                         simp only [qf.l0] at H
                         by_cases c112 : x10_10 < (l0_9.length : Int)
                         ·rw [if_pos c112] at H
                          have c112b0 : decide (x10_10 < (l0_9.length : Int)) = true := decide_eq_true c112
                          clear c112
                          by_cases c113 : 0 ≤ x10_10
                          ·rw [if_pos c113] at H
                           have c113b0 : decide (0 ≤ x10_10) = true := decide_eq_true c113
                           clear c113
                           replace H := Option.bind_eq_some_iff.mp H
                           obtain ⟨t228, A1140, H⟩ := H
                           replace H : (if t228 = true then (qf.l0 k10 a1 (l0_8.length : Int) (wrap64 (x10_10 + 1)) a0_0 a0_1 a0_2 a0_3 a0_4 a0_5 a0_6 l0_7 l0_8 l0_9) else (some false)) = some r := H
                           have A114 := qd.mk A1140
                           clear A1140
                           by_cases c115 : t228 = true
                           ·subst c115
                            have H1 : (qf.l0 k10 a1 (l0_8.length : Int) (wrap64 (x10_10 + 1)) a0_0 a0_1 a0_2 a0_3 a0_4 a0_5 a0_6 l0_7 l0_8 l0_9) = some r := by rw [if_pos rfl] at H; exact H
                            clear H
                            have H := H1
                            clear H1
                            have H' := qd.mk H
                            clear H
                            have hcz116_0 : wr.cell? ⟨gb221, 0, none⟩ = some (.int .i64 a0_0) := (qb BK221.out 0).trans rfl
                            have hcz116_1 : wr.cell? ⟨gb221, 1, none⟩ = some (.int .i64 a0_1) := (qb BK221.out 1).trans rfl
                            have hcz116_2 : wr.cell? ⟨gb221, 2, none⟩ = some (.int .i64 a0_2) := (qb BK221.out 2).trans rfl
                            have hcz116_3 : wr.cell? ⟨gb221, 3, none⟩ = some (.string a0_3) := (qb BK221.out 3).trans rfl
                            have hcz116_4 : wr.cell? ⟨gb221, 4, none⟩ = some (.int .i64 a0_4) := (qb BK221.out 4).trans rfl
                            have hcz116_5 : wr.cell? ⟨gb221, 5, none⟩ = some (.int .i64 a0_5) := (qb BK221.out 5).trans rfl
                            have hcz116_6 : wr.cell? ⟨gb221, 6, none⟩ = some (.string a0_6) := (qb BK221.out 6).trans rfl
                            have hcz116_7 : wr.cell? ⟨gb221, 7, none⟩ = some (.slice A0_7 l0_7.length c0_7) := (qb BK221.out 7).trans rfl
                            have hcz116_8 : wr.cell? ⟨gb221, 8, none⟩ = some (.slice A0_8 l0_8.length c0_8) := (qb BK221.out 8).trans rfl
                            have hcz116_9 : wr.cell? ⟨gb221, 9, none⟩ = some (.slice A0_9 l0_9.length c0_9) := (qb BK221.out 9).trans rfl
                            have hfz116_0 := qa BK221.out 0
                            have hfz116_1 := qa BK221.out 1
                            have hfz116_2 := qa BK221.out 2
                            have hfz116_3 := qa BK221.out 3
                            have hfz116_4 := qa BK221.out 4
                            have hfz116_5 := qa BK221.out 5
                            have hfz116_6 := qa BK221.out 6
                            have hfz116_7 := qa BK221.out 7
                            have hfz116_8 := qa BK221.out 8
                            have hfz116_9 := qa BK221.out 9
                            have p227 : 0 ≤ (x10_10 : Int) := of_decide_eq_true (by first | (with_reducible assumption) | assumption)
                            have q227 : x10_10 < (l0_9.length : Int) := of_decide_eq_true (by first | (with_reducible assumption) | assumption)
                            obtain ⟨ad227, A227_3, c227_3, e227, hx227_0, hx227_1, hx227_2, hx227_3, hl227_3, hi227_3⟩ := qd7 HR0_9.out x10_10 p227 q227
                            cases e227
                            replace hx227_0 := (HB.out.cell (World.block_lt_of_cell? w _ hx227_0)).trans hx227_0
                            replace hx227_1 := (HB.out.cell (World.block_lt_of_cell? w _ hx227_1)).trans hx227_1
                            replace hx227_2 := (HB.out.cell (World.block_lt_of_cell? w _ hx227_2)).trans hx227_2
                            replace hx227_3 := (HB.out.cell (World.block_lt_of_cell? w _ hx227_3)).trans hx227_3
                            have HR227_3 := qd.mk hi227_3
                            have HC227_3 := qd.mk hl227_3
                            clear hi227_3 hl227_3
                            replace p227 := eq_true p227
                            replace q227 := eq_true q227
                            go_wp2_with (first | ((with_reducible refine qb2 (f := 22) rfl ?_); refine qcn (some 229) rfl rfl Tryd.func22 (by kernel_rfl) rfl #[.agg #[.int .i64 ((qx l0_9 x10_10).f0), .int .i64 ((qx l0_9 x10_10).f1), .string ((qx l0_9 x10_10).f2), .slice A227_3 ((qx l0_9 x10_10).f3).length c227_3]] rfl (by (try simp only [List.map_toArray, List.map_cons, List.map_nil]); first | done | rfl | (simp only [List.length_drop, List.length_take]; rfl)) ?_; (with_reducible refine (qbd.calls k10 ((qx l0_9 x10_10).f0) ((qx l0_9 x10_10).f1) ((qx l0_9 x10_10).f2) _ _ ((qx l0_9 x10_10).f3) true _ ?side1 ?side2 A114.out).mono ?_); (case side1 => repeat (first | exact (Kd.qbv HR227_3.out HB.out) | (with_reducible refine Kd.qb4 ?_ _) | (with_reducible refine Kd.qb1 ?_ _) | (with_reducible refine Kd.qb8 ?_))); (case side2 => exact HC227_3.out); rintro e w117 ⟨rfl, hb⟩; refine ⟨_, rfl, ?_⟩; have n0_ := qd.mk (qbb (g := gb221) (o := .cells #[.int .i64 a0_0, .int .i64 a0_1, .int .i64 a0_2, .string a0_3, .int .i64 a0_4, .int .i64 a0_5, .string a0_6, .slice A0_7 l0_7.length c0_7, .slice A0_8 l0_8.length c0_8, .slice (some ad227) l0_9.length c0_9] 30 (0, 0)) (by (with_reducible repeat (first | refine qj ?_ _ | refine qm ?_ | refine qi ?_ _)); exact BK221.out) hb); have n1_ := qd.mk (qba (by repeat (first | (with_reducible first | exact HB.out | apply qg | apply qc | apply qh | refine ql ?_ GE221.out) | exact HB.out)) hb); clear BK221; clear HB; have BK221 := n0_; have HB := n1_; clear n0_ n1_; (try clear hb); (try clear hb2); (try clear hk); (try clear hi)))
                            go_roundg k10
                            case measure => have := HJ2.out; have := HJ11.out; have := HJ16.out; have := HJ20.out; have := HJ29.out; have := HJ59.out; have := HJ65.out; have := HJ69.out; have := HJ104.out; have := HK10.out; omega
                            case rel => exact ⟨(wrap64 (x10_10 + 1)), (by first | rfl | (simp; done) | (simp [*]; done)), H', ⟨by have := HJ2.out; have := HJ11.out; have := HJ16.out; have := HJ20.out; have := HJ29.out; have := HJ59.out; have := HJ65.out; have := HJ69.out; have := HJ104.out; have := HK10.out; omega⟩, ⟨by (with_reducible repeat (first | refine qj ?_ _ | refine qm ?_ | refine qi ?_ _)); exact BK221.out⟩, ⟨by repeat (first | (with_reducible first | exact HB.out | apply qg | apply qc | apply qh | refine ql ?_ GE221.out) | exact HB.out)⟩⟩
                           ·replace c115 := Bool.eq_false_iff.mpr c115
                            subst c115
                            have H1 : (some false) = some r := by rw [if_neg (show ¬ (false = true) by decide)] at H; exact H
                            clear H
                            have H := H1
                            clear H1
                            obtain rfl := Option.some.inj H
                            have hcz118_0 : wr.cell? ⟨gb221, 0, none⟩ = some (.int .i64 a0_0) := (qb BK221.out 0).trans rfl
                            have hcz118_1 : wr.cell? ⟨gb221, 1, none⟩ = some (.int .i64 a0_1) := (qb BK221.out 1).trans rfl
                            have hcz118_2 : wr.cell? ⟨gb221, 2, none⟩ = some (.int .i64 a0_2) := (qb BK221.out 2).trans rfl
                            have hcz118_3 : wr.cell? ⟨gb221, 3, none⟩ = some (.string a0_3) := (qb BK221.out 3).trans rfl
                            have hcz118_4 : wr.cell? ⟨gb221, 4, none⟩ = some (.int .i64 a0_4) := (qb BK221.out 4).trans rfl
                            have hcz118_5 : wr.cell? ⟨gb221, 5, none⟩ = some (.int .i64 a0_5) := (qb BK221.out 5).trans rfl
                            have hcz118_6 : wr.cell? ⟨gb221, 6, none⟩ = some (.string a0_6) := (qb BK221.out 6).trans rfl
                            have hcz118_7 : wr.cell? ⟨gb221, 7, none⟩ = some (.slice A0_7 l0_7.length c0_7) := (qb BK221.out 7).trans rfl
                            have hcz118_8 : wr.cell? ⟨gb221, 8, none⟩ = some (.slice A0_8 l0_8.length c0_8) := (qb BK221.out 8).trans rfl
                            have hcz118_9 : wr.cell? ⟨gb221, 9, none⟩ = some (.slice A0_9 l0_9.length c0_9) := (qb BK221.out 9).trans rfl
                            have hfz118_0 := qa BK221.out 0
                            have hfz118_1 := qa BK221.out 1
                            have hfz118_2 := qa BK221.out 2
                            have hfz118_3 := qa BK221.out 3
                            have hfz118_4 := qa BK221.out 4
                            have hfz118_5 := qa BK221.out 5
                            have hfz118_6 := qa BK221.out 6
                            have hfz118_7 := qa BK221.out 7
                            have hfz118_8 := qa BK221.out 8
                            have hfz118_9 := qa BK221.out 9
                            have p227 : 0 ≤ (x10_10 : Int) := of_decide_eq_true (by first | (with_reducible assumption) | assumption)
                            have q227 : x10_10 < (l0_9.length : Int) := of_decide_eq_true (by first | (with_reducible assumption) | assumption)
                            obtain ⟨ad227, A227_3, c227_3, e227, hx227_0, hx227_1, hx227_2, hx227_3, hl227_3, hi227_3⟩ := qd7 HR0_9.out x10_10 p227 q227
                            cases e227
                            replace hx227_0 := (HB.out.cell (World.block_lt_of_cell? w _ hx227_0)).trans hx227_0
                            replace hx227_1 := (HB.out.cell (World.block_lt_of_cell? w _ hx227_1)).trans hx227_1
                            replace hx227_2 := (HB.out.cell (World.block_lt_of_cell? w _ hx227_2)).trans hx227_2
                            replace hx227_3 := (HB.out.cell (World.block_lt_of_cell? w _ hx227_3)).trans hx227_3
                            have HR227_3 := qd.mk hi227_3
                            have HC227_3 := qd.mk hl227_3
                            clear hi227_3 hl227_3
                            replace p227 := eq_true p227
                            replace q227 := eq_true q227
                            go_wp2_with (first | ((with_reducible refine qb2 (f := 22) rfl ?_); refine qcn (some 229) rfl rfl Tryd.func22 (by kernel_rfl) rfl #[.agg #[.int .i64 ((qx l0_9 x10_10).f0), .int .i64 ((qx l0_9 x10_10).f1), .string ((qx l0_9 x10_10).f2), .slice A227_3 ((qx l0_9 x10_10).f3).length c227_3]] rfl (by (try simp only [List.map_toArray, List.map_cons, List.map_nil]); first | done | rfl | (simp only [List.length_drop, List.length_take]; rfl)) ?_; (with_reducible refine (qbd.calls k10 ((qx l0_9 x10_10).f0) ((qx l0_9 x10_10).f1) ((qx l0_9 x10_10).f2) _ _ ((qx l0_9 x10_10).f3) false _ ?side1 ?side2 A114.out).mono ?_); (case side1 => repeat (first | exact (Kd.qbv HR227_3.out HB.out) | (with_reducible refine Kd.qb4 ?_ _) | (with_reducible refine Kd.qb1 ?_ _) | (with_reducible refine Kd.qb8 ?_))); (case side2 => exact HC227_3.out); rintro e w119 ⟨rfl, hb⟩; refine ⟨_, rfl, ?_⟩; have n0_ := qd.mk (qbb (g := gb221) (o := .cells #[.int .i64 a0_0, .int .i64 a0_1, .int .i64 a0_2, .string a0_3, .int .i64 a0_4, .int .i64 a0_5, .string a0_6, .slice A0_7 l0_7.length c0_7, .slice A0_8 l0_8.length c0_8, .slice (some ad227) l0_9.length c0_9] 30 (0, 0)) (by (with_reducible repeat (first | refine qj ?_ _ | refine qm ?_ | refine qi ?_ _)); exact BK221.out) hb); have n1_ := qd.mk (qba (by repeat (first | (with_reducible first | exact HB.out | apply qg | apply qc | apply qh | refine ql ?_ GE221.out) | exact HB.out)) hb); clear BK221; clear HB; have BK221 := n0_; have HB := n1_; clear n0_ n1_; (try clear hb); (try clear hb2); (try clear hk); (try clear hi)))
                            go_ret
                            exact ⟨by first | rfl | (simp [q9, qz] <;> rfl) | (simp [*, q9, qz] <;> rfl), by repeat (first | (with_reducible first | exact HB.out | apply qg | apply qc | apply qh | refine ql ?_ GE221.out) | exact HB.out)⟩
                          ·rw [if_neg c113] at H
                           exact absurd H (by simp)
                         ·rw [if_neg c112] at H
                          have c112b0 : decide (x10_10 < (l0_9.length : Int)) = false := decide_eq_false c112
                          clear c112
                          have H' := qd.mk H
                          clear H
                          have hcz120_0 : wr.cell? ⟨gb221, 0, none⟩ = some (.int .i64 a0_0) := (qb BK221.out 0).trans rfl
                          have hcz120_1 : wr.cell? ⟨gb221, 1, none⟩ = some (.int .i64 a0_1) := (qb BK221.out 1).trans rfl
                          have hcz120_2 : wr.cell? ⟨gb221, 2, none⟩ = some (.int .i64 a0_2) := (qb BK221.out 2).trans rfl
                          have hcz120_3 : wr.cell? ⟨gb221, 3, none⟩ = some (.string a0_3) := (qb BK221.out 3).trans rfl
                          have hcz120_4 : wr.cell? ⟨gb221, 4, none⟩ = some (.int .i64 a0_4) := (qb BK221.out 4).trans rfl
                          have hcz120_5 : wr.cell? ⟨gb221, 5, none⟩ = some (.int .i64 a0_5) := (qb BK221.out 5).trans rfl
                          have hcz120_6 : wr.cell? ⟨gb221, 6, none⟩ = some (.string a0_6) := (qb BK221.out 6).trans rfl
                          have hcz120_7 : wr.cell? ⟨gb221, 7, none⟩ = some (.slice A0_7 l0_7.length c0_7) := (qb BK221.out 7).trans rfl
                          have hcz120_8 : wr.cell? ⟨gb221, 8, none⟩ = some (.slice A0_8 l0_8.length c0_8) := (qb BK221.out 8).trans rfl
                          have hcz120_9 : wr.cell? ⟨gb221, 9, none⟩ = some (.slice A0_9 l0_9.length c0_9) := (qb BK221.out 9).trans rfl
                          have hfz120_0 := qa BK221.out 0
                          have hfz120_1 := qa BK221.out 1
                          have hfz120_2 := qa BK221.out 2
                          have hfz120_3 := qa BK221.out 3
                          have hfz120_4 := qa BK221.out 4
                          have hfz120_5 := qa BK221.out 5
                          have hfz120_6 := qa BK221.out 6
                          have hfz120_7 := qa BK221.out 7
                          have hfz120_8 := qa BK221.out 8
                          have hfz120_9 := qa BK221.out 9
                          go_wp2
                          go_loopg [11] k10 (fun kq v11 w' => ∃ (x11_11 : Int), v11 = .int .i64 x11_11 ∧ qd (qf.l1 kq a1 (l0_8.length : Int) x11_11 a0_0 a0_1 a0_2 a0_3 a0_4 a0_5 a0_6 l0_7 l0_8 l0_9 = some r) ∧ qd (kq ≤ k10) ∧ qd (w'.heap[gb221]? = some (.cells #[.int .i64 a0_0, .int .i64 a0_1, .int .i64 a0_2, .string a0_3, .int .i64 a0_4, .int .i64 a0_5, .string a0_6, (.slice A0_7 l0_7.length c0_7), (.slice A0_8 l0_8.length c0_8), (.slice A0_9 l0_9.length c0_9)] 30 (0, 0))) ∧ qd (Below w.heap.size w w'))
                          case atStart => exact ⟨(0), (by first | rfl | (simp; done) | (simp [*]; done)), H', ⟨Nat.le_refl _⟩, ⟨by (with_reducible repeat (first | refine qj ?_ _ | refine qm ?_ | refine qi ?_ _)); exact BK221.out⟩, ⟨by repeat (first | (with_reducible first | exact HB.out | apply qg | apply qc | apply qh | refine ql ?_ GE221.out) | exact HB.out)⟩⟩
                          case round =>
                           clear H'
                           (try clear c1); (try clear c2); (try clear p2); (try clear q2); (try clear hx2); (try clear p6); (try clear c11); (try clear c22); (try clear p22); (try clear q22); (try clear hx22); (try clear p64); (try clear c112); (try clear c112b0); (try clear c113); (try clear c113b0); (try clear c115); (try clear hcz116_0 hcz116_1 hcz116_2 hcz116_3 hcz116_4 hcz116_5 hcz116_6 hcz116_7 hcz116_8 hcz116_9); (try clear hcz118_0 hcz118_1 hcz118_2 hcz118_3 hcz118_4 hcz118_5 hcz118_6 hcz118_7 hcz118_8 hcz118_9); (try clear hcz120_0 hcz120_1 hcz120_2 hcz120_3 hcz120_4 hcz120_5 hcz120_6 hcz120_7 hcz120_8 hcz120_9); (try clear hcz86_7 hcz86_8 hcz86_9); (try clear hcz88_0 hcz88_1 hcz88_2 hcz88_3 hcz88_4 hcz88_5 hcz88_6 hcz88_7 hcz88_8 hcz88_9); (try clear hcz90_0 hcz90_1 hcz90_2 hcz90_3 hcz90_4 hcz90_5 hcz90_6 hcz90_7 hcz90_8 hcz90_9); (try clear hcz96_0 hcz96_1 hcz96_2 hcz96_3 hcz96_4 hcz96_5 hcz96_6 hcz96_7 hcz96_8 hcz96_9); (try clear hcz98_0 hcz98_1 hcz98_2 hcz98_3 hcz98_4 hcz98_5 hcz98_6 hcz98_7 hcz98_8 hcz98_9); (try clear hfz101_0 hfz101_1 hfz101_2 hfz101_3 hfz101_4 hfz101_5 hfz101_6 hfz101_7 hfz101_8 hfz101_9); (try clear hfz103_0 hfz103_1 hfz103_2 hfz103_3 hfz103_4 hfz103_5 hfz103_6 hfz103_7 hfz103_8 hfz103_9); (try clear hfz108_0 hfz108_1 hfz108_2 hfz108_3 hfz108_4 hfz108_5 hfz108_6 hfz108_7 hfz108_8 hfz108_9); (try clear hfz109_0 hfz109_1 hfz109_2 hfz109_3 hfz109_4 hfz109_5 hfz109_6 hfz109_7 hfz109_8 hfz109_9); (try clear hfz10_4 hfz10_5 hfz10_6 hfz10_7 hfz10_8 hfz10_9); (try clear hfz110_0 hfz110_1 hfz110_2 hfz110_3 hfz110_4 hfz110_5 hfz110_6 hfz110_7 hfz110_8 hfz110_9); (try clear hfz116_0 hfz116_1 hfz116_2 hfz116_3 hfz116_4 hfz116_5 hfz116_6 hfz116_7 hfz116_8 hfz116_9); (try clear hfz118_0 hfz118_1 hfz118_2 hfz118_3 hfz118_4 hfz118_5 hfz118_6 hfz118_7 hfz118_8 hfz118_9); (try clear hfz120_0 hfz120_1 hfz120_2 hfz120_3 hfz120_4 hfz120_5 hfz120_6 hfz120_7 hfz120_8 hfz120_9); (try clear hfz13_0 hfz13_1 hfz13_2 hfz13_3 hfz13_4 hfz13_5 hfz13_6 hfz13_7 hfz13_8 hfz13_9); (try clear hfz15_0 hfz15_1 hfz15_2 hfz15_3 hfz15_4 hfz15_5 hfz15_6 hfz15_7 hfz15_8 hfz15_9); (try clear hfz16_0 hfz16_1 hfz16_2 hfz16_3 hfz16_4 hfz16_5 hfz16_6 hfz16_7 hfz16_8 hfz16_9); (try clear hfz19_0 hfz19_1 hfz19_2 hfz19_3 hfz19_4 hfz19_5 hfz19_6 hfz19_7 hfz19_8 hfz19_9); (try clear hfz20_0 hfz20_1 hfz20_2 hfz20_3 hfz20_4 hfz20_5 hfz20_6 hfz20_7 hfz20_8 hfz20_9); (try clear hfz33_0 hfz33_1 hfz33_2 hfz33_3 hfz33_4 hfz33_5 hfz33_6 hfz33_7 hfz33_8 hfz33_9); (try clear hfz35_0 hfz35_1 hfz35_2 hfz35_3 hfz35_4 hfz35_5 hfz35_6 hfz35_7 hfz35_8 hfz35_9); (try clear hfz37_0 hfz37_1 hfz37_2 hfz37_3 hfz37_4 hfz37_5 hfz37_6 hfz37_7 hfz37_8 hfz37_9); (try clear hfz39_0 hfz39_1 hfz39_2 hfz39_3 hfz39_4 hfz39_5 hfz39_6 hfz39_7 hfz39_8 hfz39_9); (try clear hfz42_0 hfz42_1 hfz42_2 hfz42_3 hfz42_4 hfz42_5 hfz42_6 hfz42_7 hfz42_8 hfz42_9); (try clear hfz44_0 hfz44_1 hfz44_2 hfz44_3 hfz44_4 hfz44_5 hfz44_6 hfz44_7 hfz44_8 hfz44_9); (try clear hfz45_0 hfz45_1 hfz45_2 hfz45_3 hfz45_4 hfz45_5 hfz45_6 hfz45_7 hfz45_8 hfz45_9); (try clear hfz46_0 hfz46_1 hfz46_2 hfz46_3 hfz46_4 hfz46_5 hfz46_6 hfz46_7 hfz46_8 hfz46_9); (try clear hfz49_0 hfz49_1 hfz49_2 hfz49_3 hfz49_4 hfz49_5 hfz49_6 hfz49_7 hfz49_8 hfz49_9); (try clear hfz51_0 hfz51_1 hfz51_2 hfz51_3 hfz51_4 hfz51_5 hfz51_6 hfz51_7 hfz51_8 hfz51_9); (try clear hfz53_0 hfz53_1 hfz53_2 hfz53_3 hfz53_4 hfz53_5 hfz53_6 hfz53_7 hfz53_8 hfz53_9); (try clear hfz54_0 hfz54_1 hfz54_2 hfz54_3 hfz54_4 hfz54_5 hfz54_6 hfz54_7 hfz54_8 hfz54_9); (try clear hfz57_0 hfz57_1 hfz57_2 hfz57_3 hfz57_4 hfz57_5 hfz57_6 hfz57_7 hfz57_8 hfz57_9); (try clear hfz58_0 hfz58_1 hfz58_2 hfz58_3 hfz58_4 hfz58_5 hfz58_6 hfz58_7 hfz58_8 hfz58_9); (try clear hfz59_0 hfz59_1 hfz59_2 hfz59_3 hfz59_4 hfz59_5 hfz59_6 hfz59_7 hfz59_8 hfz59_9); (try clear hfz62_0 hfz62_1 hfz62_2 hfz62_3 hfz62_4 hfz62_5 hfz62_6 hfz62_7 hfz62_8 hfz62_9); (try clear hfz64_0 hfz64_1 hfz64_2 hfz64_3 hfz64_4 hfz64_5 hfz64_6 hfz64_7 hfz64_8 hfz64_9); (try clear hfz65_0 hfz65_1 hfz65_2 hfz65_3 hfz65_4 hfz65_5 hfz65_6 hfz65_7 hfz65_8 hfz65_9); (try clear hfz68_0 hfz68_1 hfz68_2 hfz68_3 hfz68_4 hfz68_5 hfz68_6 hfz68_7 hfz68_8 hfz68_9); (try clear hfz69_0 hfz69_1 hfz69_2 hfz69_3 hfz69_4 hfz69_5 hfz69_6 hfz69_7 hfz69_8 hfz69_9); (try clear hfz77_0 hfz77_1 hfz77_2 hfz77_3 hfz77_4 hfz77_5 hfz77_6 hfz77_7 hfz77_8 hfz77_9); (try clear hfz79_0 hfz79_1 hfz79_2 hfz79_3 hfz79_4 hfz79_5 hfz79_6 hfz79_7 hfz79_8 hfz79_9); (try clear hfz7_0 hfz7_1 hfz7_2 hfz7_3 hfz7_4 hfz7_5 hfz7_6 hfz7_7 hfz7_8 hfz7_9); (try clear hfz81_0 hfz81_1 hfz81_2 hfz81_3 hfz81_4 hfz81_5 hfz81_6 hfz81_7 hfz81_8 hfz81_9); (try clear hfz83_0 hfz83_1 hfz83_2 hfz83_3 hfz83_4 hfz83_5 hfz83_6 hfz83_7 hfz83_8 hfz83_9); (try clear hfz86_0 hfz86_1 hfz86_2 hfz86_3 hfz86_4 hfz86_5 hfz86_6 hfz86_7 hfz86_8 hfz86_9); (try clear hfz88_0 hfz88_1 hfz88_2 hfz88_3 hfz88_4 hfz88_5 hfz88_6 hfz88_7 hfz88_8 hfz88_9); (try clear hfz90_0 hfz90_1 hfz90_2 hfz90_3 hfz90_4 hfz90_5 hfz90_6 hfz90_7 hfz90_8 hfz90_9); (try clear hfz96_0 hfz96_1 hfz96_2 hfz96_3 hfz96_4 hfz96_5 hfz96_6 hfz96_7 hfz96_8 hfz96_9); (try clear hfz98_0 hfz98_1 hfz98_2 hfz98_3 hfz98_4 hfz98_5 hfz98_6 hfz98_7 hfz98_8 hfz98_9); (try clear hfz9_0 hfz9_1 hfz9_2 hfz9_3 hfz9_4 hfz9_5 hfz9_6 hfz9_7 hfz9_8 hfz9_9); (try clear hx227_0); (try clear hx227_1); (try clear hx227_2); (try clear hx227_3); (try clear p2); (try clear p227); (try clear q227)
                           obtain ⟨x11_11, rfl, HA, HK11, BK221, HB⟩ := hrel
                           cases gk with
                           | zero => exact absurd HA.out (by simp [qf.l1])
                           | succ k11 =>
                            have H := HA.out
                            clear HA
                            simp only [qf.l1] at H
                            by_cases c121 : x11_11 < (l0_8.length : Int)
                            ·rw [if_pos c121] at H
                             have c121b0 : decide (x11_11 < (l0_8.length : Int)) = true := decide_eq_true c121
                             clear c121
                             by_cases c122 : 0 ≤ x11_11
                             ·rw [if_pos c122] at H
                              have c122b0 : decide (0 ≤ x11_11) = true := decide_eq_true c122
                              clear c122
                              by_cases c123 : x11_11 < (l0_8.length : Int)
                              ·rw [if_pos c123] at H
                               have c123b0 : decide (x11_11 < (l0_8.length : Int)) = true := decide_eq_true c123
                               clear c123
                               replace H := Option.bind_eq_some_iff.mp H
                               obtain ⟨t230, A1240, H⟩ := H
                               replace H : (if t230 = true then (qf.l1 k11 a1 (l0_8.length : Int) (wrap64 (x11_11 + 1)) a0_0 a0_1 a0_2 a0_3 a0_4 a0_5 a0_6 l0_7 l0_8 l0_9) else (some false)) = some r := H
                               have A124 := qd.mk A1240
                               clear A1240
                               by_cases c125 : t230 = true
                               ·subst c125
                                have H1 : (qf.l1 k11 a1 (l0_8.length : Int) (wrap64 (x11_11 + 1)) a0_0 a0_1 a0_2 a0_3 a0_4 a0_5 a0_6 l0_7 l0_8 l0_9) = some r := by rw [if_pos rfl] at H; exact H
                                clear H
                                have H := H1
                                clear H1
                                have H' := qd.mk H
                                clear H
                                have hcz126_0 : wr.cell? ⟨gb221, 0, none⟩ = some (.int .i64 a0_0) := (qb BK221.out 0).trans rfl
                                have hcz126_1 : wr.cell? ⟨gb221, 1, none⟩ = some (.int .i64 a0_1) := (qb BK221.out 1).trans rfl
                                have hcz126_2 : wr.cell? ⟨gb221, 2, none⟩ = some (.int .i64 a0_2) := (qb BK221.out 2).trans rfl
                                have hcz126_3 : wr.cell? ⟨gb221, 3, none⟩ = some (.string a0_3) := (qb BK221.out 3).trans rfl
                                have hcz126_4 : wr.cell? ⟨gb221, 4, none⟩ = some (.int .i64 a0_4) := (qb BK221.out 4).trans rfl
                                have hcz126_5 : wr.cell? ⟨gb221, 5, none⟩ = some (.int .i64 a0_5) := (qb BK221.out 5).trans rfl
                                have hcz126_6 : wr.cell? ⟨gb221, 6, none⟩ = some (.string a0_6) := (qb BK221.out 6).trans rfl
                                have hcz126_7 : wr.cell? ⟨gb221, 7, none⟩ = some (.slice A0_7 l0_7.length c0_7) := (qb BK221.out 7).trans rfl
                                have hcz126_8 : wr.cell? ⟨gb221, 8, none⟩ = some (.slice A0_8 l0_8.length c0_8) := (qb BK221.out 8).trans rfl
                                have hcz126_9 : wr.cell? ⟨gb221, 9, none⟩ = some (.slice A0_9 l0_9.length c0_9) := (qb BK221.out 9).trans rfl
                                have hfz126_0 := qa BK221.out 0
                                have hfz126_1 := qa BK221.out 1
                                have hfz126_2 := qa BK221.out 2
                                have hfz126_3 := qa BK221.out 3
                                have hfz126_4 := qa BK221.out 4
                                have hfz126_5 := qa BK221.out 5
                                have hfz126_6 := qa BK221.out 6
                                have hfz126_7 := qa BK221.out 7
                                have hfz126_8 := qa BK221.out 8
                                have hfz126_9 := qa BK221.out 9
                                have p229 : 0 ≤ (x11_11 : Int) := of_decide_eq_true (by first | (with_reducible assumption) | assumption)
                                have q229 : x11_11 < (l0_8.length : Int) := of_decide_eq_true (by first | (with_reducible assumption) | assumption)
                                obtain ⟨ad229, A229_7, c229_7, A229_8, c229_8, A229_9, c229_9, e229, hx229_0, hx229_1, hx229_2, hx229_3, hx229_4, hx229_5, hx229_6, hx229_7, hx229_8, hx229_9, hl229_7, hi229_7, hl229_8, hi229_8, hl229_9, hi229_9⟩ := qfg HR0_8.out x11_11 p229 q229
                                cases e229
                                replace hx229_0 := (HB.out.cell (World.block_lt_of_cell? w _ hx229_0)).trans hx229_0
                                replace hx229_1 := (HB.out.cell (World.block_lt_of_cell? w _ hx229_1)).trans hx229_1
                                replace hx229_2 := (HB.out.cell (World.block_lt_of_cell? w _ hx229_2)).trans hx229_2
                                replace hx229_3 := (HB.out.cell (World.block_lt_of_cell? w _ hx229_3)).trans hx229_3
                                replace hx229_4 := (HB.out.cell (World.block_lt_of_cell? w _ hx229_4)).trans hx229_4
                                replace hx229_5 := (HB.out.cell (World.block_lt_of_cell? w _ hx229_5)).trans hx229_5
                                replace hx229_6 := (HB.out.cell (World.block_lt_of_cell? w _ hx229_6)).trans hx229_6
                                replace hx229_7 := (HB.out.cell (World.block_lt_of_cell? w _ hx229_7)).trans hx229_7
                                replace hx229_8 := (HB.out.cell (World.block_lt_of_cell? w _ hx229_8)).trans hx229_8
                                replace hx229_9 := (HB.out.cell (World.block_lt_of_cell? w _ hx229_9)).trans hx229_9
                                have HR229_7 := qd.mk hi229_7
                                have HC229_7 := qd.mk hl229_7
                                clear hi229_7 hl229_7
                                have HR229_8 := qd.mk hi229_8
                                have HC229_8 := qd.mk hl229_8
                                clear hi229_8 hl229_8
                                have HR229_9 := qd.mk hi229_9
                                have HC229_9 := qd.mk hl229_9
                                clear hi229_9 hl229_9
                                replace p229 := eq_true p229
                                replace q229 := eq_true q229
                                go_wp2_with (first | ((with_reducible refine qb2 (f := 13) rfl ?_); refine qcn (some 243) rfl rfl Tryd.func13 (by kernel_rfl) rfl #[.agg #[.int .i64 ((qp l0_8 x11_11).f0), .int .i64 ((qp l0_8 x11_11).f1), .int .i64 ((qp l0_8 x11_11).f2), .string ((qp l0_8 x11_11).f3), .int .i64 ((qp l0_8 x11_11).f4.f0), .int .i64 ((qp l0_8 x11_11).f4.f1), .string ((qp l0_8 x11_11).f4.f2), .slice A229_7 ((qp l0_8 x11_11).f4.f3).length c229_7, .slice A229_8 ((qp l0_8 x11_11).f5).length c229_8, .slice A229_9 ((qp l0_8 x11_11).f6).length c229_9], .int .i64 (wrap64 (a1 + 1))] rfl (by (try simp only [List.map_toArray, List.map_cons, List.map_nil]); first | done | rfl | (simp only [List.length_drop, List.length_take]; rfl)) ?_; (with_reducible refine (ih k11 (by have := HJ2.out; have := HJ11.out; have := HJ16.out; have := HJ20.out; have := HJ29.out; have := HJ59.out; have := HJ65.out; have := HJ69.out; have := HJ104.out; have := HK10.out; have := HK11.out; omega) ((qp l0_8 x11_11).f0) ((qp l0_8 x11_11).f1) ((qp l0_8 x11_11).f2) ((qp l0_8 x11_11).f3) ((qp l0_8 x11_11).f4.f0) ((qp l0_8 x11_11).f4.f1) ((qp l0_8 x11_11).f4.f2) _ _ ((qp l0_8 x11_11).f4.f3) _ _ ((qp l0_8 x11_11).f5) _ _ ((qp l0_8 x11_11).f6) (wrap64 (a1 + 1)) true _ ?side1 ?side2 ?side3 ?side4 ?side5 ?side6 A124.out).mono ?_); (case side1 => repeat (first | exact (Kd.qbv HR229_7.out HB.out) | (with_reducible refine Kd.qb4 ?_ _) | (with_reducible refine Kd.qb1 ?_ _) | (with_reducible refine Kd.qb8 ?_))); (case side2 => exact HC229_7.out); (case side3 => repeat (first | exact (Kd.qbv HR229_8.out HB.out) | (with_reducible refine Kd.qb4 ?_ _) | (with_reducible refine Kd.qb1 ?_ _) | (with_reducible refine Kd.qb8 ?_))); (case side4 => exact HC229_8.out); (case side5 => repeat (first | exact (Kd.qbv HR229_9.out HB.out) | (with_reducible refine Kd.qb4 ?_ _) | (with_reducible refine Kd.qb1 ?_ _) | (with_reducible refine Kd.qb8 ?_))); (case side6 => exact HC229_9.out); rintro e w127 ⟨rfl, hb⟩; refine ⟨_, rfl, ?_⟩; have n0_ := qd.mk (qbb (g := gb221) (o := .cells #[.int .i64 a0_0, .int .i64 a0_1, .int .i64 a0_2, .string a0_3, .int .i64 a0_4, .int .i64 a0_5, .string a0_6, .slice A0_7 l0_7.length c0_7, .slice (some ad229) l0_8.length c0_8, .slice A0_9 l0_9.length c0_9] 30 (0, 0)) (by (with_reducible repeat (first | refine qj ?_ _ | refine qm ?_ | refine qi ?_ _)); exact BK221.out) hb); have n1_ := qd.mk (qba (by repeat (first | (with_reducible first | exact HB.out | apply qg | apply qc | apply qh | refine ql ?_ GE221.out) | exact HB.out)) hb); clear BK221; clear HB; have BK221 := n0_; have HB := n1_; clear n0_ n1_; (try clear hb); (try clear hb2); (try clear hk); (try clear hi)))
                                go_roundg k11
                                case measure => have := HJ2.out; have := HJ11.out; have := HJ16.out; have := HJ20.out; have := HJ29.out; have := HJ59.out; have := HJ65.out; have := HJ69.out; have := HJ104.out; have := HK10.out; have := HK11.out; omega
                                case rel => exact ⟨(wrap64 (x11_11 + 1)), (by first | rfl | (simp; done) | (simp [*]; done)), H', ⟨by have := HJ2.out; have := HJ11.out; have := HJ16.out; have := HJ20.out; have := HJ29.out; have := HJ59.out; have := HJ65.out; have := HJ69.out; have := HJ104.out; have := HK10.out; have := HK11.out; omega⟩, ⟨by (with_reducible repeat (first | refine qj ?_ _ | refine qm ?_ | refine qi ?_ _)); exact BK221.out⟩, ⟨by repeat (first | (with_reducible first | exact HB.out | apply qg | apply qc | apply qh | refine ql ?_ GE221.out) | exact HB.out)⟩⟩
                               ·replace c125 := Bool.eq_false_iff.mpr c125
                                subst c125
                                have H1 : (some false) = some r := by rw [if_neg (show ¬ (false = true) by decide)] at H; exact H
                                clear H
                                have H := H1
                                clear H1
                                obtain rfl := Option.some.inj H
                                have hcz128_0 : wr.cell? ⟨gb221, 0, none⟩ = some (.int .i64 a0_0) := (qb BK221.out 0).trans rfl
                                have hcz128_1 : wr.cell? ⟨gb221, 1, none⟩ = some (.int .i64 a0_1) := (qb BK221.out 1).trans rfl
                                have hcz128_2 : wr.cell? ⟨gb221, 2, none⟩ = some (.int .i64 a0_2) := (qb BK221.out 2).trans rfl
                                have hcz128_3 : wr.cell? ⟨gb221, 3, none⟩ = some (.string a0_3) := (qb BK221.out 3).trans rfl
                                have hcz128_4 : wr.cell? ⟨gb221, 4, none⟩ = some (.int .i64 a0_4) := (qb BK221.out 4).trans rfl
                                have hcz128_5 : wr.cell? ⟨gb221, 5, none⟩ = some (.int .i64 a0_5) := (qb BK221.out 5).trans rfl
                                have hcz128_6 : wr.cell? ⟨gb221, 6, none⟩ = some (.string a0_6) := (qb BK221.out 6).trans rfl
                                have hcz128_7 : wr.cell? ⟨gb221, 7, none⟩ = some (.slice A0_7 l0_7.length c0_7) := (qb BK221.out 7).trans rfl
                                have hcz128_8 : wr.cell? ⟨gb221, 8, none⟩ = some (.slice A0_8 l0_8.length c0_8) := (qb BK221.out 8).trans rfl
                                have hcz128_9 : wr.cell? ⟨gb221, 9, none⟩ = some (.slice A0_9 l0_9.length c0_9) := (qb BK221.out 9).trans rfl
                                have hfz128_0 := qa BK221.out 0
                                have hfz128_1 := qa BK221.out 1
                                have hfz128_2 := qa BK221.out 2
                                have hfz128_3 := qa BK221.out 3
                                have hfz128_4 := qa BK221.out 4
                                have hfz128_5 := qa BK221.out 5
                                have hfz128_6 := qa BK221.out 6
                                have hfz128_7 := qa BK221.out 7
                                have hfz128_8 := qa BK221.out 8
                                have hfz128_9 := qa BK221.out 9
                                have p229 : 0 ≤ (x11_11 : Int) := of_decide_eq_true (by first | (with_reducible assumption) | assumption)
                                have q229 : x11_11 < (l0_8.length : Int) := of_decide_eq_true (by first | (with_reducible assumption) | assumption)
                                obtain ⟨ad229, A229_7, c229_7, A229_8, c229_8, A229_9, c229_9, e229, hx229_0, hx229_1, hx229_2, hx229_3, hx229_4, hx229_5, hx229_6, hx229_7, hx229_8, hx229_9, hl229_7, hi229_7, hl229_8, hi229_8, hl229_9, hi229_9⟩ := qfg HR0_8.out x11_11 p229 q229
                                cases e229
                                replace hx229_0 := (HB.out.cell (World.block_lt_of_cell? w _ hx229_0)).trans hx229_0
                                replace hx229_1 := (HB.out.cell (World.block_lt_of_cell? w _ hx229_1)).trans hx229_1
                                replace hx229_2 := (HB.out.cell (World.block_lt_of_cell? w _ hx229_2)).trans hx229_2
                                replace hx229_3 := (HB.out.cell (World.block_lt_of_cell? w _ hx229_3)).trans hx229_3
                                replace hx229_4 := (HB.out.cell (World.block_lt_of_cell? w _ hx229_4)).trans hx229_4
                                replace hx229_5 := (HB.out.cell (World.block_lt_of_cell? w _ hx229_5)).trans hx229_5
                                replace hx229_6 := (HB.out.cell (World.block_lt_of_cell? w _ hx229_6)).trans hx229_6
                                replace hx229_7 := (HB.out.cell (World.block_lt_of_cell? w _ hx229_7)).trans hx229_7
                                replace hx229_8 := (HB.out.cell (World.block_lt_of_cell? w _ hx229_8)).trans hx229_8
                                replace hx229_9 := (HB.out.cell (World.block_lt_of_cell? w _ hx229_9)).trans hx229_9
                                have HR229_7 := qd.mk hi229_7
                                have HC229_7 := qd.mk hl229_7
                                clear hi229_7 hl229_7
                                have HR229_8 := qd.mk hi229_8
                                have HC229_8 := qd.mk hl229_8
                                clear hi229_8 hl229_8
                                have HR229_9 := qd.mk hi229_9
                                have HC229_9 := qd.mk hl229_9
                                clear hi229_9 hl229_9
                                replace p229 := eq_true p229
                                replace q229 := eq_true q229
                                go_wp2_with (first | ((with_reducible refine qb2 (f := 13) rfl ?_); refine qcn (some 243) rfl rfl Tryd.func13 (by kernel_rfl) rfl #[.agg #[.int .i64 ((qp l0_8 x11_11).f0), .int .i64 ((qp l0_8 x11_11).f1), .int .i64 ((qp l0_8 x11_11).f2), .string ((qp l0_8 x11_11).f3), .int .i64 ((qp l0_8 x11_11).f4.f0), .int .i64 ((qp l0_8 x11_11).f4.f1), .string ((qp l0_8 x11_11).f4.f2), .slice A229_7 ((qp l0_8 x11_11).f4.f3).length c229_7, .slice A229_8 ((qp l0_8 x11_11).f5).length c229_8, .slice A229_9 ((qp l0_8 x11_11).f6).length c229_9], .int .i64 (wrap64 (a1 + 1))] rfl (by (try simp only [List.map_toArray, List.map_cons, List.map_nil]); first | done | rfl | (simp only [List.length_drop, List.length_take]; rfl)) ?_; (with_reducible refine (ih k11 (by have := HJ2.out; have := HJ11.out; have := HJ16.out; have := HJ20.out; have := HJ29.out; have := HJ59.out; have := HJ65.out; have := HJ69.out; have := HJ104.out; have := HK10.out; have := HK11.out; omega) ((qp l0_8 x11_11).f0) ((qp l0_8 x11_11).f1) ((qp l0_8 x11_11).f2) ((qp l0_8 x11_11).f3) ((qp l0_8 x11_11).f4.f0) ((qp l0_8 x11_11).f4.f1) ((qp l0_8 x11_11).f4.f2) _ _ ((qp l0_8 x11_11).f4.f3) _ _ ((qp l0_8 x11_11).f5) _ _ ((qp l0_8 x11_11).f6) (wrap64 (a1 + 1)) false _ ?side1 ?side2 ?side3 ?side4 ?side5 ?side6 A124.out).mono ?_); (case side1 => repeat (first | exact (Kd.qbv HR229_7.out HB.out) | (with_reducible refine Kd.qb4 ?_ _) | (with_reducible refine Kd.qb1 ?_ _) | (with_reducible refine Kd.qb8 ?_))); (case side2 => exact HC229_7.out); (case side3 => repeat (first | exact (Kd.qbv HR229_8.out HB.out) | (with_reducible refine Kd.qb4 ?_ _) | (with_reducible refine Kd.qb1 ?_ _) | (with_reducible refine Kd.qb8 ?_))); (case side4 => exact HC229_8.out); (case side5 => repeat (first | exact (Kd.qbv HR229_9.out HB.out) | (with_reducible refine Kd.qb4 ?_ _) | (with_reducible refine Kd.qb1 ?_ _) | (with_reducible refine Kd.qb8 ?_))); (case side6 => exact HC229_9.out); rintro e w129 ⟨rfl, hb⟩; refine ⟨_, rfl, ?_⟩; have n0_ := qd.mk (qbb (g := gb221) (o := .cells #[.int .i64 a0_0, .int .i64 a0_1, .int .i64 a0_2, .string a0_3, .int .i64 a0_4, .int .i64 a0_5, .string a0_6, .slice A0_7 l0_7.length c0_7, .slice (some ad229) l0_8.length c0_8, .slice A0_9 l0_9.length c0_9] 30 (0, 0)) (by (with_reducible repeat (first | refine qj ?_ _ | refine qm ?_ | refine qi ?_ _)); exact BK221.out) hb); have n1_ := qd.mk (qba (by repeat (first | (with_reducible first | exact HB.out | apply qg | apply qc | apply qh | refine ql ?_ GE221.out) | exact HB.out)) hb); clear BK221; clear HB; have BK221 := n0_; have HB := n1_; clear n0_ n1_; (try clear hb); (try clear hb2); (try clear hk); (try clear hi)))
                                go_ret
                                exact ⟨by first | rfl | (simp [q9, qz] <;> rfl) | (simp [*, q9, qz] <;> rfl), by repeat (first | (with_reducible first | exact HB.out | apply qg | apply qc | apply qh | refine ql ?_ GE221.out) | exact HB.out)⟩
                              ·rw [if_neg c123] at H
                               exact absurd H (by simp)
                             ·rw [if_neg c122] at H
                              exact absurd H (by simp)
                            ·rw [if_neg c121] at H
                             have c121b0 : decide (x11_11 < (l0_8.length : Int)) = false := decide_eq_false c121
                             clear c121
                             obtain rfl := Option.some.inj H
                             go_wp2
                             go_ret
                             exact ⟨by first | rfl | (simp [q9, qz] <;> rfl) | (simp [*, q9, qz] <;> rfl), by repeat (first | (with_reducible first | exact HB.out | apply qg | apply qc | apply qh | refine ql ?_ GE221.out) | exact HB.out)⟩
end Go.Proofs.YtpgkhmdfddejfaaDoor.PV
end
