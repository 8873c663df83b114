import Derived.Test.YtpgkhmdfddejfaaDoorZXPVx0
section
namespace Go.Proofs.YtpgkhmdfddejfaaDoor.PV
open Go.RowKit Go.Proofs.YtpgkhmdfddejfaaDoorW.PrintWords Go.Proofs.YtpgkhmdfddejfaaDoorW.PrintLast Go.Proofs.YtpgkhmdfddejfaaDoorW.PrintMore
attribute [local go_sem] qcn qcp qdi qdj qb6 qb7 qco qcq   -- for this text's walks alone
set_option linter.unusedVariables false
set_option linter.unusedSimpArgs false
def z8.j0 : Nat → Int → Bool → Option (Int)
 | 0, _, _ => none
 | k + 1, x0, x3 => if x3 = true then (some 2) else (if x0 = 14 then (some 1) else (if x0 ≥ 16 then (if x0 ≤ 18 then (some 1) else (some 0)) else (some 0)))
def z8.f (k : Nat) (a0 : Int) : Option (Int) := if a0 ≥ 6 then (if a0 ≤ 13 then (z8.j0 k a0 true) else (if a0 = 15 then (z8.j0 k a0 true) else (z8.j0 k a0 (a0 == 19)))) else (if a0 = 15 then (z8.j0 k a0 true) else (z8.j0 k a0 (a0 == 19)))
theorem z8.qb2 : ∀ k, (∀ y0 y1, LeO (z8.j0 k y0 y1) (z8.j0 (k + 1) y0 y1))
 | 0 => fun _ _ r h => by simp [z8.j0] at h
 | k + 1 => by
  have ih0 := z8.qb2 k
  ·intro y0 y1
   unfold z8.j0
   repeat' first
   | (with_reducible exact ih0 _ _)
   | (with_reducible exact LeO.refl _)
   | (with_reducible exact LeO.none _)
   | (with_reducible refine LeO.ite ?_ ?_)
   | (with_reducible refine LeO.bind ?_ (fun _ => ?_))
   | exact ih0 _ _
   | exact LeO.none _
   | refine LeO.ite ?_ ?_
   | refine LeO.bind ?_ (fun _ => ?_)
theorem z8.mono : ∀ a0 k, LeO (z8.f k a0) (z8.f (k + 1) a0) := by
 intro a0 k
 have ih0 := z8.qb2 k
 unfold z8.f
 repeat' first
   | (with_reducible exact ih0 _ _)
   | (with_reducible exact LeO.refl _)
   | (with_reducible exact LeO.none _)
   | (with_reducible refine LeO.ite ?_ ?_)
   | (with_reducible refine LeO.bind ?_ (fun _ => ?_))
   | exact ih0 _ _
   | exact LeO.none _
   | refine LeO.ite ?_ ?_
   | refine LeO.bind ?_ (fun _ => ?_)
set_option maxHeartbeats 8000000 in
set_option maxRecDepth 100000 in
theorem z8.calls (k : Nat) (a0 : Int) (r : Int) (w : World) (h : z8.f k a0 = some r) :
  Calls Tryd.prog 70 #[.int .i64 a0] w fun e w' => e = .returned (.int .i64 r) ∧ yx w w' := by
 have H : (if a0 ≥ 6 then (if a0 ≤ 13 then (z8.j0 k a0 true) else (if a0 = 15 then (z8.j0 k a0 true) else (z8.j0 k a0 (a0 == 19)))) else (if a0 = 15 then (z8.j0 k a0 true) else (z8.j0 k a0 (a0 == 19)))) = some r := h
 clear h
 have HC2 := qf.mk H
 clear H
 go_enter Tryd.func70, Tryd.ntmps70
 go_upto_region 1 with (fail)
 go_cut [3] (fun v3 wc => ∃ (kq : Nat) (jk : Bool), v3 = .bool jk ∧ qf (z8.j0 kq a0 jk = some r) ∧ qf (kq ≤ k) ∧ yx w wc)
 case first =>
  have H := HC2.out
  clear HC2
  by_cases c3 : a0 ≥ 6
  ·rw [if_pos c3] at H
   have c3b0 : decide (6 ≤ a0) = true := decide_eq_true c3
   clear c3
   (first | rw [c3b0] | (simp only [vz, vw]; rw [c3b0]) | skip)
   by_cases c4 : a0 ≤ 13
   ·rw [if_pos c4] at H
    have c4b0 : decide (a0 ≤ 13) = true := decide_eq_true c4
    clear c4
    have H' := qf.mk H
    clear H
    go_wp2
    go_meet
    case rel => exact ⟨_, (true), (by first | rfl | (simp; done) | (simp [*]; done)), H', ⟨by first | omega | exact Nat.le_refl _⟩, by repeat (first | exact yx.refl _ | apply yx.step)⟩
   ·rw [if_neg c4] at H
    have c4b0 : decide (a0 ≤ 13) = false := decide_eq_false c4
    clear c4
    by_cases c5 : a0 = 15
    ·rw [if_pos c5] at H
     have c5b0 : (a0 == 15) = true := beq_iff_eq.mpr c5
     have c5b1 : (a0 != 15) = false := bne_eq_false_iff_eq.mpr c5
     clear c5
     have H' := qf.mk H
     clear H
     go_wp2
     go_meet
     case rel => exact ⟨_, (true), (by first | rfl | (simp; done) | (simp [*]; done)), H', ⟨by first | omega | exact Nat.le_refl _⟩, by repeat (first | exact yx.refl _ | apply yx.step)⟩
    ·rw [if_neg c5] at H
     have c5b0 : (a0 == 15) = false := beq_eq_false_iff_ne.mpr c5
     have c5b1 : (a0 != 15) = true := bne_iff_ne.mpr c5
     have H' := qf.mk H
     clear H
     go_wp2
     go_meet
     case rel => exact ⟨_, ((a0 == 19)), (by first | rfl | (simp; done) | (simp [*]; done)), H', ⟨by first | omega | exact Nat.le_refl _⟩, by repeat (first | exact yx.refl _ | apply yx.step)⟩
  ·rw [if_neg c3] at H
   have c3b0 : decide (6 ≤ a0) = false := decide_eq_false c3
   clear c3
   (first | rw [c3b0] | (simp only [vz, vw]; rw [c3b0]) | skip)
   by_cases c6 : a0 = 15
   ·rw [if_pos c6] at H
    have c6b0 : (a0 == 15) = true := beq_iff_eq.mpr c6
    have c6b1 : (a0 != 15) = false := bne_eq_false_iff_eq.mpr c6
    clear c6
    have H' := qf.mk H
    clear H
    go_wp2
    go_meet
    case rel => exact ⟨_, (true), (by first | rfl | (simp; done) | (simp [*]; done)), H', ⟨by first | omega | exact Nat.le_refl _⟩, by repeat (first | exact yx.refl _ | apply yx.step)⟩
   ·rw [if_neg c6] at H
    have c6b0 : (a0 == 15) = false := beq_eq_false_iff_ne.mpr c6
    have c6b1 : (a0 != 15) = true := bne_iff_ne.mpr c6
    have H' := qf.mk H
    clear H
    go_wp2
    go_meet
    case rel => exact ⟨_, ((a0 == 19)), (by first | rfl | (simp; done) | (simp [*]; done)), H', ⟨by first | omega | exact Nat.le_refl _⟩, by repeat (first | exact yx.refl _ | apply yx.step)⟩
 case rest =>
  clear HC2
  (try clear p2); (try clear c3); (try clear c3b0); (try clear c4); (try clear c4b0); (try clear c5); (try clear c5b0); (try clear c5b1); (try clear c6); (try clear c6b0); (try clear c6b1)
  obtain ⟨kq, jk, rfl, HA, HJ1, ⟨mc1, rfl⟩⟩ := hcut
  cases kq with
  | zero => exact absurd HA.out (by simp [z8.j0])
  | succ kj1 =>
   have H := HA.out
   clear HA
   simp only [z8.j0] at H
   by_cases c7 : jk = true
   ·subst c7
    have H1 : (some 2) = some r := by rw [if_pos rfl] at H; exact H
    clear H
    have H := H1
    clear H1
    obtain rfl := Option.some.inj H
    go_wp2
    go_ret
    exact ⟨by first | rfl | (simp; done) | (simp [*]; done), by repeat (first | exact yx.refl _ | apply yx.step)⟩
   ·replace c7 := Bool.eq_false_iff.mpr c7
    subst c7
    have H1 : (if a0 = 14 then (some 1) else (if a0 ≥ 16 then (if a0 ≤ 18 then (some 1) else (some 0)) else (some 0))) = some r := by rw [if_neg (show ¬ (false = true) by decide)] at H; exact H
    clear H
    have H := H1
    clear H1
    by_cases c8 : a0 = 14
    ·rw [if_pos c8] at H
     have c8b0 : (a0 == 14) = true := beq_iff_eq.mpr c8
     have c8b1 : (a0 != 14) = false := bne_eq_false_iff_eq.mpr c8
     clear c8
     obtain rfl := Option.some.inj H
     go_wp2
     go_ret
     exact ⟨by first | rfl | (simp; done) | (simp [*]; done), by repeat (first | exact yx.refl _ | apply yx.step)⟩
    ·rw [if_neg c8] at H
     have c8b0 : (a0 == 14) = false := beq_eq_false_iff_ne.mpr c8
     have c8b1 : (a0 != 14) = true := bne_iff_ne.mpr c8
     by_cases c9 : a0 ≥ 16
     ·rw [if_pos c9] at H
      have c9b0 : decide (16 ≤ a0) = true := decide_eq_true c9
      clear c9
      by_cases c10 : a0 ≤ 18
      ·rw [if_pos c10] at H
       have c10b0 : decide (a0 ≤ 18) = true := decide_eq_true c10
       clear c10
       obtain rfl := Option.some.inj H
       go_wp2
       go_ret
       exact ⟨by first | rfl | (simp; done) | (simp [*]; done), by repeat (first | exact yx.refl _ | apply yx.step)⟩
      ·rw [if_neg c10] at H
       have c10b0 : decide (a0 ≤ 18) = false := decide_eq_false c10
       clear c10
       obtain rfl := Option.some.inj H
       go_wp2
       go_ret
       exact ⟨by first | rfl | (simp; done) | (simp [*]; done), by repeat (first | exact yx.refl _ | apply yx.step)⟩
     ·rw [if_neg c9] at H
      have c9b0 : decide (16 ≤ a0) = false := decide_eq_false c9
      clear c9
      obtain rfl := Option.some.inj H
      go_wp2
      go_ret
      exact ⟨by first | rfl | (simp; done) | (simp [*]; done), by repeat (first | exact yx.refl _ | apply yx.step)⟩
end Go.Proofs.YtpgkhmdfddejfaaDoor.PV
end
