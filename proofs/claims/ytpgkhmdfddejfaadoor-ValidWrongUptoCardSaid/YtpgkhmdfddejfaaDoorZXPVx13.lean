import Derived.Test.YtpgkhmdfddejfaaDoorZXPVx0
import Derived.Test.YtpgkhmdfddejfaaDoorZXPVx9
import Derived.Test.YtpgkhmdfddejfaaDoorZXPVx12
import Derived.Test.YtpgkhmdfddejfaaDoorZXPVx13d
section
namespace Go.Proofs.YtpgkhmdfddejfaaDoor.PV
open Go.RowKit Go.Proofs.YtpgkhmdfddejfaaDoorW.PrintWords Go.Proofs.YtpgkhmdfddejfaaDoorW.PrintLast Go.Proofs.YtpgkhmdfddejfaaDoorW.PrintMore
attribute [local go_sem] qcn qcp qdi qdj qb6 qb7 qco qcq   -- for this text's walks alone
set_option linter.unusedVariables false
set_option linter.unusedSimpArgs false
set_option maxHeartbeats 8000000 in
set_option maxRecDepth 100000 in
theorem qd.calls (k : Nat) : ∀ (qw : Int) (qy : Int) (za : Int) (yg : ByteArray) (ym : Int) (yf : Int) (yh : ByteArray) (qaa : Option Addr) (qab : Nat) (yj : List (S27)) (qai : Option Addr) (qaf : Nat) (qx : List (S30)) (qac : Option Addr) (vo : Nat) (zx : List (S27)) (a1 : Int) (r : Bool) (w : World) (qkx : Kd.C k27 w qaa yj.length yj) (qkv : yj.length ≤ qab) (qky : Kd.C k30 w qai qx.length qx) (qkw : qx.length ≤ qaf) (qhy : Kd.C k27 w qac zx.length zx) (qhx : zx.length ≤ vo) (h : qd.f k qw qy za yg ym yf yh yj qx zx a1 = some r),
  Calls Tryd.prog 13 #[.agg #[.int .i64 qw, .int .i64 qy, .int .i64 za, .string yg, .int .i64 ym, .int .i64 yf, .string yh, .slice qaa yj.length qab, .slice qai qx.length qaf, .slice qac zx.length vo], .int .i64 a1] w fun e w' => e = .returned (.bool r) ∧ Below w.heap.size w w' := by
 induction k using Nat.strongRecOn with
 | _ k ih =>
 intro qw qy za yg ym yf yh qaa qab yj qai qaf qx qac vo zx a1 r w qkx qkv qky qkw qhy qhx h
 cases k with
 | zero => exact absurd h (by simp [qd.f])
 | succ k =>
 simp only [qd.f] at h
 have qwm := Tryd.underlying30
 have q0h := Tryd.underlying27
 have qlc := qf.mk qkx
 have qla := qf.mk qkv
 clear qkx qkv
 have qs4 := qf.mk qky
 have q61 := qf.mk qkw
 clear qky qkw
 have qoh := qf.mk qhy
 have qwq := qf.mk qhx
 clear qhy qhx
 have HB := qf.mk (Below.refl w.heap.size w)
 have H : (if a1 > 40 then (qd.j0 k a1 true qw qy za yg ym yf yh yj qx zx) else (if qw < 0 then (qd.j0 k a1 true qw qy za yg ym yf yh yj qx zx) else (if qw > 15 then (qd.j0 k a1 true qw qy za yg ym yf yh yj qx zx) else (qd.j0 k a1 (qw == 10) qw qy za yg ym yf yh yj qx zx)))) = some r := h
 clear h
 have HC3 := qf.mk H
 clear H
 go_enter Tryd.func13, Tryd.ntmps13
 go_upto_region 1 with (first | ((with_reducible refine qah (N := 2) rfl ?_); (try (refine qbg (by rfl) ?_; dsimp only)); refine vk ?hg (N := 2) ?hd (cs := #[.int .i64 qw, .int .i64 qy, .int .i64 za, .string yg, .int .i64 ym, .int .i64 yf, .string yh, .slice qaa yj.length qab, .slice qai qx.length qaf, .slice qac zx.length vo]) (t := 30) ?hr ?_; (case hd => rfl); (case hg => rfl); (case hr => first | (go_simp; done) | (go_simp; rfl)); intro q9 hg w4 hbox hb; have n0_ := qf.mk (zk (by repeat (first | (with_reducible first | exact HB.out | apply qg | apply qc | apply qh) | exact HB.out)) hb); have n1_ := qf.mk (hbox); have n2_ := qf.mk ((by rw [hg]; exact (zo (by repeat (first | (with_reducible first | exact HB.out | apply qg | apply qc | apply qh) | exact HB.out))) : w.heap.size ≤ q9)); have n3_ := qf.mk ((by rw [hg]; exact (zo (by repeat (first | (with_reducible first | exact HB.out | apply qg | apply qc | apply qh) | exact HB.out))) : w.heap.size ≤ q9)); clear HB; have HB := n0_; have qm := n1_; have z2i := n2_; have qbj := n3_; clear n0_ n1_ n2_ n3_; clear hb hbox hg))
 (try simp only [Act.put, List.setIfInBounds_toArray, List.set_cons_zero, List.set_cons_succ])
 go_cut [28] (fun v28 wc => ∃ (kq : Nat) (zn5 : Bool), v28 = .bool zn5 ∧ qf (qd.j0 kq a1 zn5 qw qy za yg ym yf yh yj qx zx = some r) ∧ qf (kq ≤ k) ∧ qf (wc.heap[q9]? = some (.cells #[.int .i64 qw, .int .i64 qy, .int .i64 za, .string yg, .int .i64 ym, .int .i64 yf, .string yh, (.slice qaa yj.length qab), (.slice qai qx.length qaf), (.slice qac zx.length vo)] 30 (0, 0))) ∧ qf (Below w.heap.size w wc))
 case first =>
  as_aux_lemma =>
   have H := HC3.out
   clear HC3
   by_cases c5 : a1 > 40
   ·rw [if_pos c5] at H
    have c5b0 : decide (40 < a1) = true := decide_eq_true c5
    clear c5
    (first | rw [c5b0] | (simp only [vz, vw]; rw [c5b0]) | skip)
    have H' := qf.mk H
    clear H
    go_wp2
    go_meet
    case rel => exact ⟨_, (true), (by first | rfl | (simp; done) | (simp [*]; done)), H', ⟨by first | omega | exact Nat.le_refl _⟩, ⟨by (with_reducible repeat (first | refine qj ?_ _ | refine qo ?_ | refine qi ?_ _)); exact qm.out⟩, ⟨by repeat (first | (with_reducible first | exact HB.out | apply qg | apply qc | apply qh | refine ql ?_ qbj.out) | exact HB.out)⟩⟩
   ·rw [if_neg c5] at H
    have c5b0 : decide (40 < a1) = false := decide_eq_false c5
    clear c5
    (first | rw [c5b0] | (simp only [vz, vw]; rw [c5b0]) | skip)
    by_cases c6 : qw < 0
    ·rw [if_pos c6] at H
     have c6b0 : decide (qw < 0) = true := decide_eq_true c6
     clear c6
     have H' := qf.mk H
     clear H
     have qf7 : w4.cell? ⟨q9, 0, none⟩ = some (.int .i64 qw) := (qb qm.out 0).trans rfl
     have qf8 : w4.cell? ⟨q9, 1, none⟩ = some (.int .i64 qy) := (qb qm.out 1).trans rfl
     have qf9 : w4.cell? ⟨q9, 2, none⟩ = some (.int .i64 za) := (qb qm.out 2).trans rfl
     have qga : w4.cell? ⟨q9, 3, none⟩ = some (.string yg) := (qb qm.out 3).trans rfl
     have qh5 : w4.cell? ⟨q9, 4, none⟩ = some (.int .i64 ym) := (qb qm.out 4).trans rfl
     have qh6 : w4.cell? ⟨q9, 5, none⟩ = some (.int .i64 yf) := (qb qm.out 5).trans rfl
     have qh7 : w4.cell? ⟨q9, 6, none⟩ = some (.string yh) := (qb qm.out 6).trans rfl
     have qh8 : w4.cell? ⟨q9, 7, none⟩ = some (.slice qaa yj.length qab) := (qb qm.out 7).trans rfl
     have qh9 : w4.cell? ⟨q9, 8, none⟩ = some (.slice qai qx.length qaf) := (qb qm.out 8).trans rfl
     have qia : w4.cell? ⟨q9, 9, none⟩ = some (.slice qac zx.length vo) := (qb qm.out 9).trans rfl
     have qdu := qa qm.out 0
     have qdv := qa qm.out 1
     have qdw := qa qm.out 2
     have qdx := qa qm.out 3
     have qfl := qa qm.out 4
     have qfm := qa qm.out 5
     have qfn := qa qm.out 6
     have qfo := qa qm.out 7
     have qfp := qa qm.out 8
     have qfq := qa qm.out 9
     go_wp2
     go_meet
     case rel => exact ⟨_, (true), (by first | rfl | (simp; done) | (simp [*]; done)), H', ⟨by first | omega | exact Nat.le_refl _⟩, ⟨by (with_reducible repeat (first | refine qj ?_ _ | refine qo ?_ | refine qi ?_ _)); exact qm.out⟩, ⟨by repeat (first | (with_reducible first | exact HB.out | apply qg | apply qc | apply qh | refine ql ?_ qbj.out) | exact HB.out)⟩⟩
    ·rw [if_neg c6] at H
     have c6b0 : decide (qw < 0) = false := decide_eq_false c6
     clear c6
     by_cases c8 : qw > 15
     ·rw [if_pos c8] at H
      have c8b0 : decide (15 < qw) = true := decide_eq_true c8
      clear c8
      have H' := qf.mk H
      clear H
      have qd5 : w4.cell? ⟨q9, 0, none⟩ = some (.int .i64 qw) := (qb qm.out 0).trans rfl
      have qd6 : w4.cell? ⟨q9, 1, none⟩ = some (.int .i64 qy) := (qb qm.out 1).trans rfl
      have qd7 : w4.cell? ⟨q9, 2, none⟩ = some (.int .i64 za) := (qb qm.out 2).trans rfl
      have qd8 : w4.cell? ⟨q9, 3, none⟩ = some (.string yg) := (qb qm.out 3).trans rfl
      have qn5 : w4.cell? ⟨q9, 4, none⟩ = some (.int .i64 ym) := (qb qm.out 4).trans rfl
      have qn6 : w4.cell? ⟨q9, 5, none⟩ = some (.int .i64 yf) := (qb qm.out 5).trans rfl
      have qn7 : w4.cell? ⟨q9, 6, none⟩ = some (.string yh) := (qb qm.out 6).trans rfl
      have qn8 : w4.cell? ⟨q9, 7, none⟩ = some (.slice qaa yj.length qab) := (qb qm.out 7).trans rfl
      have qn9 : w4.cell? ⟨q9, 8, none⟩ = some (.slice qai qx.length qaf) := (qb qm.out 8).trans rfl
      have qoa : w4.cell? ⟨q9, 9, none⟩ = some (.slice qac zx.length vo) := (qb qm.out 9).trans rfl
      have qc0 := qa qm.out 0
      have qc7 := qa qm.out 1
      have qc8 := qa qm.out 2
      have qc9 := qa qm.out 3
      have qiz := qa qm.out 4
      have qi0 := qa qm.out 5
      have qi1 := qa qm.out 6
      have qi2 := qa qm.out 7
      have qi3 := qa qm.out 8
      have qi4 := qa qm.out 9
      go_wp2
      go_meet
      case rel => exact ⟨_, (true), (by first | rfl | (simp; done) | (simp [*]; done)), H', ⟨by first | omega | exact Nat.le_refl _⟩, ⟨by (with_reducible repeat (first | refine qj ?_ _ | refine qo ?_ | refine qi ?_ _)); exact qm.out⟩, ⟨by repeat (first | (with_reducible first | exact HB.out | apply qg | apply qc | apply qh | refine ql ?_ qbj.out) | exact HB.out)⟩⟩
     ·rw [if_neg c8] at H
      have c8b0 : decide (15 < qw) = false := decide_eq_false c8
      clear c8
      have H' := qf.mk H
      clear H
      have qo1 : w4.cell? ⟨q9, 0, none⟩ = some (.int .i64 qw) := (qb qm.out 0).trans rfl
      have qo2 : w4.cell? ⟨q9, 1, none⟩ = some (.int .i64 qy) := (qb qm.out 1).trans rfl
      have qo3 : w4.cell? ⟨q9, 2, none⟩ = some (.int .i64 za) := (qb qm.out 2).trans rfl
      have qo4 : w4.cell? ⟨q9, 3, none⟩ = some (.string yg) := (qb qm.out 3).trans rfl
      have q0u : w4.cell? ⟨q9, 4, none⟩ = some (.int .i64 ym) := (qb qm.out 4).trans rfl
      have q0v : w4.cell? ⟨q9, 5, none⟩ = some (.int .i64 yf) := (qb qm.out 5).trans rfl
      have q0w : w4.cell? ⟨q9, 6, none⟩ = some (.string yh) := (qb qm.out 6).trans rfl
      have q0x : w4.cell? ⟨q9, 7, none⟩ = some (.slice qaa yj.length qab) := (qb qm.out 7).trans rfl
      have q0y : w4.cell? ⟨q9, 8, none⟩ = some (.slice qai qx.length qaf) := (qb qm.out 8).trans rfl
      have q00 : w4.cell? ⟨q9, 9, none⟩ = some (.slice qac zx.length vo) := (qb qm.out 9).trans rfl
      have qjy := qa qm.out 0
      have qjz := qa qm.out 1
      have qj0 := qa qm.out 2
      have qj1 := qa qm.out 3
      have qib := qa qm.out 4
      have qic := qa qm.out 5
      have qid := qa qm.out 6
      have qie := qa qm.out 7
      have qif := qa qm.out 8
      have qig := qa qm.out 9
      go_wp2
      go_meet
      case rel => exact ⟨_, ((qw == 10)), (by first | rfl | (simp; done) | (simp [*]; done)), H', ⟨by first | omega | exact Nat.le_refl _⟩, ⟨by (with_reducible repeat (first | refine qj ?_ _ | refine qo ?_ | refine qi ?_ _)); exact qm.out⟩, ⟨by repeat (first | (with_reducible first | exact HB.out | apply qg | apply qc | apply qh | refine ql ?_ qbj.out) | exact HB.out)⟩⟩
 case rest =>
  clear HC3
  (try clear c1); (try clear p2); (try clear c5); (try clear c5b0); (try clear c6); (try clear c6b0); (try clear c8); (try clear c8b0); (try clear qo1 qo2 qo3 qo4 q0u q0v q0w q0x q0y q00); (try clear qf7 qf8 qf9 qga qh5 qh6 qh7 qh8 qh9 qia); (try clear qd5 qd6 qd7 qd8 qn5 qn6 qn7 qn8 qn9 qoa); (try clear qjy qjz qj0 qj1 qib qic qid qie qif qig); (try clear qdu qdv qdw qdx qfl qfm qfn qfo qfp qfq); (try clear qc0 qc7 qc8 qc9 qiz qi0 qi1 qi2 qi3 qi4)
  obtain ⟨kq, zn5, rfl, HA, HJ2, qm, HB⟩ := hcut
  cases kq with
  | zero => exact absurd HA.out (by simp [qd.j0])
  | succ kj2 =>
   have H := HA.out
   clear HA
   simp only [qd.j0] at H
   by_cases c11 : zn5 = true
   ·subst c11
    have H1 : (some false) = some r := by rw [if_pos rfl] at H; exact H
    clear H
    have H := H1
    clear H1
    obtain rfl := Option.some.inj H
    go_wp2
    go_ret
    exact ⟨by first | rfl | (simp [zg, zh] <;> rfl) | (simp [*, zg, zh] <;> rfl), by repeat (first | (with_reducible first | exact HB.out | apply qg | apply qc | apply qh | refine ql ?_ qbj.out) | exact HB.out)⟩
   ·replace c11 := Bool.eq_false_iff.mpr c11
    subst c11
    have H1 : (if qw ≤ 4 then (qd.j1 kj2 a1 (qx.length : Int) true qw qy za yg ym yf yh yj qx zx) else (qd.j1 kj2 a1 (qx.length : Int) (qw == 11) qw qy za yg ym yf yh yj qx zx)) = some r := by rw [if_neg (show ¬ (false = true) by decide)] at H; exact H
    clear H
    have H := H1
    clear H1
    have zu0 := qf.mk H
    clear H
    have q02 : wc.cell? ⟨q9, 0, none⟩ = some (.int .i64 qw) := (qb qm.out 0).trans rfl
    have q03 : wc.cell? ⟨q9, 1, none⟩ = some (.int .i64 qy) := (qb qm.out 1).trans rfl
    have q04 : wc.cell? ⟨q9, 2, none⟩ = some (.int .i64 za) := (qb qm.out 2).trans rfl
    have q05 : wc.cell? ⟨q9, 3, none⟩ = some (.string yg) := (qb qm.out 3).trans rfl
    have q06 : wc.cell? ⟨q9, 4, none⟩ = some (.int .i64 ym) := (qb qm.out 4).trans rfl
    have q07 : wc.cell? ⟨q9, 5, none⟩ = some (.int .i64 yf) := (qb qm.out 5).trans rfl
    have q08 : wc.cell? ⟨q9, 6, none⟩ = some (.string yh) := (qb qm.out 6).trans rfl
    have q09 : wc.cell? ⟨q9, 7, none⟩ = some (.slice qaa yj.length qab) := (qb qm.out 7).trans rfl
    have q1a : wc.cell? ⟨q9, 8, none⟩ = some (.slice qai qx.length qaf) := (qb qm.out 8).trans rfl
    have q1b : wc.cell? ⟨q9, 9, none⟩ = some (.slice qac zx.length vo) := (qb qm.out 9).trans rfl
    have qih := qa qm.out 0
    have qii := qa qm.out 1
    have qij := qa qm.out 2
    have qik := qa qm.out 3
    have qil := qa qm.out 4
    have qim := qa qm.out 5
    have qin := qa qm.out 6
    have qio := qa qm.out 7
    have qip := qa qm.out 8
    have qiq := qa qm.out 9
    go_upto_region 4 with (fail)
    go_cut [6] (fun v6 wc => ∃ (kq : Nat) (zia : Bool), v6 = .bool zia ∧ qf (qd.j1 kq a1 (qx.length : Int) zia qw qy za yg ym yf yh yj qx zx = some r) ∧ qf (kq ≤ kj2) ∧ qf (wc.heap[q9]? = some (.cells #[.int .i64 qw, .int .i64 qy, .int .i64 za, .string yg, .int .i64 ym, .int .i64 yf, .string yh, (.slice qaa yj.length qab), (.slice qai qx.length qaf), (.slice qac zx.length vo)] 30 (0, 0))) ∧ qf (Below w.heap.size w wc))
    case first =>
     as_aux_lemma =>
      have H := zu0.out
      clear zu0
      by_cases c14 : qw ≤ 4
      ·rw [if_pos c14] at H
       have c14b0 : decide (qw ≤ 4) = true := decide_eq_true c14
       clear c14
       (first | rw [c14b0] | (simp only [vz, vw]; rw [c14b0]) | skip)
       have H' := qf.mk H
       clear H
       have qei : wc.cell? ⟨q9, 0, none⟩ = some (.int .i64 qw) := (qb qm.out 0).trans rfl
       have qej : wc.cell? ⟨q9, 1, none⟩ = some (.int .i64 qy) := (qb qm.out 1).trans rfl
       have qek : wc.cell? ⟨q9, 2, none⟩ = some (.int .i64 za) := (qb qm.out 2).trans rfl
       have qel : wc.cell? ⟨q9, 3, none⟩ = some (.string yg) := (qb qm.out 3).trans rfl
       have qto : wc.cell? ⟨q9, 4, none⟩ = some (.int .i64 ym) := (qb qm.out 4).trans rfl
       have qtp : wc.cell? ⟨q9, 5, none⟩ = some (.int .i64 yf) := (qb qm.out 5).trans rfl
       have qtq : wc.cell? ⟨q9, 6, none⟩ = some (.string yh) := (qb qm.out 6).trans rfl
       have qtr : wc.cell? ⟨q9, 7, none⟩ = some (.slice qaa yj.length qab) := (qb qm.out 7).trans rfl
       have qts : wc.cell? ⟨q9, 8, none⟩ = some (.slice qai qx.length qaf) := (qb qm.out 8).trans rfl
       have qtt : wc.cell? ⟨q9, 9, none⟩ = some (.slice qac zx.length vo) := (qb qm.out 9).trans rfl
       have qcr := qa qm.out 0
       have qcs := qa qm.out 1
       have qct := qa qm.out 2
       have qcu := qa qm.out 3
       have qgg := qa qm.out 4
       have qgh := qa qm.out 5
       have qgi := qa qm.out 6
       have qgj := qa qm.out 7
       have qgk := qa qm.out 8
       have qgl := qa qm.out 9
       go_wp2
       go_meet
       case rel => exact ⟨_, (true), (by first | rfl | (simp; done) | (simp [*]; done)), H', ⟨by have := HJ2.out; first | omega | exact Nat.le_refl _⟩, ⟨by (with_reducible repeat (first | refine qj ?_ _ | refine qo ?_ | refine qi ?_ _)); exact qm.out⟩, ⟨by repeat (first | (with_reducible first | exact HB.out | apply qg | apply qc | apply qh | refine ql ?_ qbj.out) | exact HB.out)⟩⟩
      ·rw [if_neg c14] at H
       have c14b0 : decide (qw ≤ 4) = false := decide_eq_false c14
       clear c14
       (first | rw [c14b0] | (simp only [vz, vw]; rw [c14b0]) | skip)
       have H' := qf.mk H
       clear H
       have qg6 : wc.cell? ⟨q9, 0, none⟩ = some (.int .i64 qw) := (qb qm.out 0).trans rfl
       have qg7 : wc.cell? ⟨q9, 1, none⟩ = some (.int .i64 qy) := (qb qm.out 1).trans rfl
       have qg8 : wc.cell? ⟨q9, 2, none⟩ = some (.int .i64 za) := (qb qm.out 2).trans rfl
       have qg9 : wc.cell? ⟨q9, 3, none⟩ = some (.string yg) := (qb qm.out 3).trans rfl
       have qtu : wc.cell? ⟨q9, 4, none⟩ = some (.int .i64 ym) := (qb qm.out 4).trans rfl
       have qtv : wc.cell? ⟨q9, 5, none⟩ = some (.int .i64 yf) := (qb qm.out 5).trans rfl
       have qtw : wc.cell? ⟨q9, 6, none⟩ = some (.string yh) := (qb qm.out 6).trans rfl
       have qtx : wc.cell? ⟨q9, 7, none⟩ = some (.slice qaa yj.length qab) := (qb qm.out 7).trans rfl
       have qty : wc.cell? ⟨q9, 8, none⟩ = some (.slice qai qx.length qaf) := (qb qm.out 8).trans rfl
       have qtz : wc.cell? ⟨q9, 9, none⟩ = some (.slice qac zx.length vo) := (qb qm.out 9).trans rfl
       have qdq := qa qm.out 0
       have qdr := qa qm.out 1
       have qds := qa qm.out 2
       have qdt := qa qm.out 3
       have qgm := qa qm.out 4
       have qgn := qa qm.out 5
       have qgo := qa qm.out 6
       have qgp := qa qm.out 7
       have qgq := qa qm.out 8
       have qgr := qa qm.out 9
       go_wp2
       go_meet
       case rel => exact ⟨_, ((qw == 11)), (by first | rfl | (simp; done) | (simp [*]; done)), H', ⟨by have := HJ2.out; first | omega | exact Nat.le_refl _⟩, ⟨by (with_reducible repeat (first | refine qj ?_ _ | refine qo ?_ | refine qi ?_ _)); exact qm.out⟩, ⟨by repeat (first | (with_reducible first | exact HB.out | apply qg | apply qc | apply qh | refine ql ?_ qbj.out) | exact HB.out)⟩⟩
    case rest =>
     clear zu0
     (try clear c1); (try clear p2); (try clear c5); (try clear c5b0); (try clear c6); (try clear c6b0); (try clear c8); (try clear c8b0); (try clear c11); (try clear c13); (try clear c14); (try clear c14b0); (try clear qo1 qo2 qo3 qo4 q0u q0v q0w q0x q0y q00); (try clear q02 q03 q04 q05 q06 q07 q08 q09 q1a q1b); (try clear qei qej qek qel qto qtp qtq qtr qts qtt); (try clear qg6 qg7 qg8 qg9 qtu qtv qtw qtx qty qtz); (try clear qf7 qf8 qf9 qga qh5 qh6 qh7 qh8 qh9 qia); (try clear qd5 qd6 qd7 qd8 qn5 qn6 qn7 qn8 qn9 qoa); (try clear qjy qjz qj0 qj1 qib qic qid qie qif qig); (try clear qih qii qij qik qil qim qin qio qip qiq); (try clear qcr qcs qct qcu qgg qgh qgi qgj qgk qgl); (try clear qdq qdr qds qdt qgm qgn qgo qgp qgq qgr); (try clear qdu qdv qdw qdx qfl qfm qfn qfo qfp qfq); (try clear qc0 qc7 qc8 qc9 qiz qi0 qi1 qi2 qi3 qi4); (try clear p2)
     obtain ⟨kq, zia, rfl, HA, qf2, qm, HB⟩ := hcut
     cases kq with
     | zero => exact absurd HA.out (by simp [qd.j1])
     | succ z1l =>
      have H := HA.out
      clear HA
      simp only [qd.j1] at H
      have zii := qf.mk H
      clear H
      go_upto_region 5 with (fail)
      go_cut [7] (fun v7 wc => ∃ (kq : Nat) (q8r : Bool), v7 = .bool q8r ∧ qf (qd.j2 kq a1 (qx.length : Int) zia q8r qw qy za yg ym yf yh yj qx zx = some r) ∧ qf (kq ≤ z1l) ∧ qf (wc.heap[q9]? = some (.cells #[.int .i64 qw, .int .i64 qy, .int .i64 za, .string yg, .int .i64 ym, .int .i64 yf, .string yh, (.slice qaa yj.length qab), (.slice qai qx.length qaf), (.slice qac zx.length vo)] 30 (0, 0))) ∧ qf (Below w.heap.size w wc))
      case first =>
       as_aux_lemma =>
        have H := zii.out
        clear zii
        by_cases c18 : qw = 5
        ·rw [if_pos c18] at H
         have c18b0 : (qw == 5) = true := beq_iff_eq.mpr c18
         have c18b1 : (qw != 5) = false := bne_eq_false_iff_eq.mpr c18
         clear c18
         (first | rw [c18b0] | (simp only [vz, vw]; rw [c18b0]) | skip)
         have H' := qf.mk H
         clear H
         have qw2 : wc.cell? ⟨q9, 0, none⟩ = some (.int .i64 qw) := (qb qm.out 0).trans rfl
         have qw3 : wc.cell? ⟨q9, 1, none⟩ = some (.int .i64 qy) := (qb qm.out 1).trans rfl
         have qw4 : wc.cell? ⟨q9, 2, none⟩ = some (.int .i64 za) := (qb qm.out 2).trans rfl
         have qw5 : wc.cell? ⟨q9, 3, none⟩ = some (.string yg) := (qb qm.out 3).trans rfl
         have qw6 : wc.cell? ⟨q9, 4, none⟩ = some (.int .i64 ym) := (qb qm.out 4).trans rfl
         have qw7 : wc.cell? ⟨q9, 5, none⟩ = some (.int .i64 yf) := (qb qm.out 5).trans rfl
         have qw8 : wc.cell? ⟨q9, 6, none⟩ = some (.string yh) := (qb qm.out 6).trans rfl
         have qw9 : wc.cell? ⟨q9, 7, none⟩ = some (.slice qaa yj.length qab) := (qb qm.out 7).trans rfl
         have qxa : wc.cell? ⟨q9, 8, none⟩ = some (.slice qai qx.length qaf) := (qb qm.out 8).trans rfl
         have qxb : wc.cell? ⟨q9, 9, none⟩ = some (.slice qac zx.length vo) := (qb qm.out 9).trans rfl
         have qha := qa qm.out 0
         have qhb := qa qm.out 1
         have qhc := qa qm.out 2
         have qhd := qa qm.out 3
         have qhe := qa qm.out 4
         have qhf := qa qm.out 5
         have qhg := qa qm.out 6
         have qhh := qa qm.out 7
         have qhi := qa qm.out 8
         have qhj := qa qm.out 9
         go_wp2
         go_meet
         case rel => exact ⟨_, (true), (by first | rfl | (simp; done) | (simp [*]; done)), H', ⟨by have := HJ2.out; have := qf2.out; first | omega | exact Nat.le_refl _⟩, ⟨by (with_reducible repeat (first | refine qj ?_ _ | refine qo ?_ | refine qi ?_ _)); exact qm.out⟩, ⟨by repeat (first | (with_reducible first | exact HB.out | apply qg | apply qc | apply qh | refine ql ?_ qbj.out) | exact HB.out)⟩⟩
        ·rw [if_neg c18] at H
         have c18b0 : (qw == 5) = false := beq_eq_false_iff_ne.mpr c18
         have c18b1 : (qw != 5) = true := bne_iff_ne.mpr c18
         (first | rw [c18b0] | (simp only [vz, vw]; rw [c18b0]) | skip)
         have H' := qf.mk H
         clear H
         have qjq : wc.cell? ⟨q9, 0, none⟩ = some (.int .i64 qw) := (qb qm.out 0).trans rfl
         have qjr : wc.cell? ⟨q9, 1, none⟩ = some (.int .i64 qy) := (qb qm.out 1).trans rfl
         have qjs : wc.cell? ⟨q9, 2, none⟩ = some (.int .i64 za) := (qb qm.out 2).trans rfl
         have qjt : wc.cell? ⟨q9, 3, none⟩ = some (.string yg) := (qb qm.out 3).trans rfl
         have qxc : wc.cell? ⟨q9, 4, none⟩ = some (.int .i64 ym) := (qb qm.out 4).trans rfl
         have qxd : wc.cell? ⟨q9, 5, none⟩ = some (.int .i64 yf) := (qb qm.out 5).trans rfl
         have qxe : wc.cell? ⟨q9, 6, none⟩ = some (.string yh) := (qb qm.out 6).trans rfl
         have qxf : wc.cell? ⟨q9, 7, none⟩ = some (.slice qaa yj.length qab) := (qb qm.out 7).trans rfl
         have qxg : wc.cell? ⟨q9, 8, none⟩ = some (.slice qai qx.length qaf) := (qb qm.out 8).trans rfl
         have qxh : wc.cell? ⟨q9, 9, none⟩ = some (.slice qac zx.length vo) := (qb qm.out 9).trans rfl
         have qem := qa qm.out 0
         have qen := qa qm.out 1
         have qeo := qa qm.out 2
         have qep := qa qm.out 3
         have qhk := qa qm.out 4
         have qhl := qa qm.out 5
         have qhm := qa qm.out 6
         have qhn := qa qm.out 7
         have qho := qa qm.out 8
         have qhp := qa qm.out 9
         go_wp2
         go_meet
         case rel => exact ⟨_, ((qw == 6)), (by first | rfl | (simp; done) | (simp [*]; done)), H', ⟨by have := HJ2.out; have := qf2.out; first | omega | exact Nat.le_refl _⟩, ⟨by (with_reducible repeat (first | refine qj ?_ _ | refine qo ?_ | refine qi ?_ _)); exact qm.out⟩, ⟨by repeat (first | (with_reducible first | exact HB.out | apply qg | apply qc | apply qh | refine ql ?_ qbj.out) | exact HB.out)⟩⟩
      case rest =>
       clear zii
       (try clear c1); (try clear p2); (try clear c5); (try clear c5b0); (try clear c6); (try clear c6b0); (try clear c8); (try clear c8b0); (try clear c11); (try clear c13); (try clear c14); (try clear c14b0); (try clear c18); (try clear c18b0); (try clear c18b1); (try clear qo1 qo2 qo3 qo4 q0u q0v q0w q0x q0y q00); (try clear q02 q03 q04 q05 q06 q07 q08 q09 q1a q1b); (try clear qei qej qek qel qto qtp qtq qtr qts qtt); (try clear qg6 qg7 qg8 qg9 qtu qtv qtw qtx qty qtz); (try clear qw2 qw3 qw4 qw5 qw6 qw7 qw8 qw9 qxa qxb); (try clear qjq qjr qjs qjt qxc qxd qxe qxf qxg qxh); (try clear qf7 qf8 qf9 qga qh5 qh6 qh7 qh8 qh9 qia); (try clear qd5 qd6 qd7 qd8 qn5 qn6 qn7 qn8 qn9 qoa); (try clear qjy qjz qj0 qj1 qib qic qid qie qif qig); (try clear qih qii qij qik qil qim qin qio qip qiq); (try clear qcr qcs qct qcu qgg qgh qgi qgj qgk qgl); (try clear qdq qdr qds qdt qgm qgn qgo qgp qgq qgr); (try clear qha qhb qhc qhd qhe qhf qhg qhh qhi qhj); (try clear qem qen qeo qep qhk qhl qhm qhn qho qhp); (try clear qdu qdv qdw qdx qfl qfm qfn qfo qfp qfq); (try clear qc0 qc7 qc8 qc9 qiz qi0 qi1 qi2 qi3 qi4); (try clear p2)
       obtain ⟨kq, q8r, rfl, HA, qet, qm, HB⟩ := hcut
       cases kq with
       | zero => exact absurd HA.out (by simp [qd.j2])
       | succ qs6 =>
        have H := HA.out
        clear HA
        simp only [qd.j2] at H
        have zu3 := qf.mk H
        clear H
        go_upto_region 6 with (fail)
        go_cut [75] (fun v75 wc => ∃ (kq : Nat) (zgt : Bool), v75 = .bool zgt ∧ qf (qd.j3 kq a1 (qx.length : Int) zgt qw qy za yg ym yf yh yj qx zx = some r) ∧ qf (kq ≤ qs6) ∧ qf (wc.heap[q9]? = some (.cells #[.int .i64 qw, .int .i64 qy, .int .i64 za, .string yg, .int .i64 ym, .int .i64 yf, .string yh, (.slice qaa yj.length qab), (.slice qai qx.length qaf), (.slice qac zx.length vo)] 30 (0, 0))) ∧ qf (Below w.heap.size w wc))
        case first =>
         as_aux_lemma =>
          have H := zu3.out
          clear zu3
          by_cases c22 : zia = true
          ·subst c22
           have H1 : (if (qx.length : Int) < 1 then (qd.j3 qs6 a1 (qx.length : Int) true qw qy za yg ym yf yh yj qx zx) else (if (qx.length : Int) > 16 then (qd.j3 qs6 a1 (qx.length : Int) true qw qy za yg ym yf yh yj qx zx) else (if q8r = true then (if (qx.length : Int) = 1 then (qd.j3 qs6 a1 (qx.length : Int) false qw qy za yg ym yf yh yj qx zx) else (qd.j3 qs6 a1 (qx.length : Int) true qw qy za yg ym yf yh yj qx zx)) else (qd.j3 qs6 a1 (qx.length : Int) false qw qy za yg ym yf yh yj qx zx)))) = some r := by rw [if_pos rfl] at H; exact H
           clear H
           have H := H1
           clear H1
           by_cases c23 : (qx.length : Int) < 1
           ·rw [if_pos c23] at H
            have c23b0 : decide ((qx.length : Int) < 1) = true := decide_eq_true c23
            have c23b1 : decide (qx.length < 1) = true := decide_eq_true (by omega)
            clear c23
            (first | rw [c23b0] | (simp only [vz, vw]; rw [c23b0]) | skip)
            have H' := qf.mk H
            clear H
            go_wp2
            go_meet
            case rel => exact ⟨_, (true), (by first | rfl | (simp; done) | (simp [*]; done)), H', ⟨by have := HJ2.out; have := qf2.out; have := qet.out; first | omega | exact Nat.le_refl _⟩, ⟨by (with_reducible repeat (first | refine qj ?_ _ | refine qo ?_ | refine qi ?_ _)); exact qm.out⟩, ⟨by repeat (first | (with_reducible first | exact HB.out | apply qg | apply qc | apply qh | refine ql ?_ qbj.out) | exact HB.out)⟩⟩
           ·rw [if_neg c23] at H
            have c23b0 : decide ((qx.length : Int) < 1) = false := decide_eq_false c23
            have c23b1 : decide (qx.length < 1) = false := decide_eq_false (by omega)
            clear c23
            (first | rw [c23b0] | (simp only [vz, vw]; rw [c23b0]) | skip)
            by_cases c24 : (qx.length : Int) > 16
            ·rw [if_pos c24] at H
             have c24b0 : decide (16 < (qx.length : Int)) = true := decide_eq_true c24
             have c24b1 : decide (16 < qx.length) = true := decide_eq_true (by omega)
             clear c24
             have H' := qf.mk H
             clear H
             go_wp2
             go_meet
             case rel => exact ⟨_, (true), (by first | rfl | (simp; done) | (simp [*]; done)), H', ⟨by have := HJ2.out; have := qf2.out; have := qet.out; first | omega | exact Nat.le_refl _⟩, ⟨by (with_reducible repeat (first | refine qj ?_ _ | refine qo ?_ | refine qi ?_ _)); exact qm.out⟩, ⟨by repeat (first | (with_reducible first | exact HB.out | apply qg | apply qc | apply qh | refine ql ?_ qbj.out) | exact HB.out)⟩⟩
            ·rw [if_neg c24] at H
             have c24b0 : decide (16 < (qx.length : Int)) = false := decide_eq_false c24
             have c24b1 : decide (16 < qx.length) = false := decide_eq_false (by omega)
             clear c24
             by_cases c25 : q8r = true
             ·subst c25
              have H1 : (if (qx.length : Int) = 1 then (qd.j3 qs6 a1 (qx.length : Int) false qw qy za yg ym yf yh yj qx zx) else (qd.j3 qs6 a1 (qx.length : Int) true qw qy za yg ym yf yh yj qx zx)) = some r := by rw [if_pos rfl] at H; exact H
              clear H
              have H := H1
              clear H1
              by_cases c26 : (qx.length : Int) = 1
              ·rw [if_pos c26] at H
               have c26b0 : ((qx.length : Int) == 1) = true := beq_iff_eq.mpr c26
               have c26b1 : ((qx.length : Int) != 1) = false := bne_eq_false_iff_eq.mpr c26
               clear c26
               have H' := qf.mk H
               clear H
               go_wp2
               go_meet
               case rel => exact ⟨_, (false), (by first | rfl | (simp; done) | (simp [*]; done)), H', ⟨by have := HJ2.out; have := qf2.out; have := qet.out; first | omega | exact Nat.le_refl _⟩, ⟨by (with_reducible repeat (first | refine qj ?_ _ | refine qo ?_ | refine qi ?_ _)); exact qm.out⟩, ⟨by repeat (first | (with_reducible first | exact HB.out | apply qg | apply qc | apply qh | refine ql ?_ qbj.out) | exact HB.out)⟩⟩
              ·rw [if_neg c26] at H
               have c26b0 : ((qx.length : Int) == 1) = false := beq_eq_false_iff_ne.mpr c26
               have c26b1 : ((qx.length : Int) != 1) = true := bne_iff_ne.mpr c26
               have H' := qf.mk H
               clear H
               go_wp2
               go_meet
               case rel => exact ⟨_, (true), (by first | rfl | (simp; done) | (simp [*]; done)), H', ⟨by have := HJ2.out; have := qf2.out; have := qet.out; first | omega | exact Nat.le_refl _⟩, ⟨by (with_reducible repeat (first | refine qj ?_ _ | refine qo ?_ | refine qi ?_ _)); exact qm.out⟩, ⟨by repeat (first | (with_reducible first | exact HB.out | apply qg | apply qc | apply qh | refine ql ?_ qbj.out) | exact HB.out)⟩⟩
             ·replace c25 := Bool.eq_false_iff.mpr c25
              subst c25
              have H1 : (qd.j3 qs6 a1 (qx.length : Int) false qw qy za yg ym yf yh yj qx zx) = some r := by rw [if_neg (show ¬ (false = true) by decide)] at H; exact H
              clear H
              have H := H1
              clear H1
              have H' := qf.mk H
              clear H
              go_wp2
              go_meet
              case rel => exact ⟨_, (false), (by first | rfl | (simp; done) | (simp [*]; done)), H', ⟨by have := HJ2.out; have := qf2.out; have := qet.out; first | omega | exact Nat.le_refl _⟩, ⟨by (with_reducible repeat (first | refine qj ?_ _ | refine qo ?_ | refine qi ?_ _)); exact qm.out⟩, ⟨by repeat (first | (with_reducible first | exact HB.out | apply qg | apply qc | apply qh | refine ql ?_ qbj.out) | exact HB.out)⟩⟩
          ·replace c22 := Bool.eq_false_iff.mpr c22
           subst c22
           have H1 : (if q8r = true then (if (qx.length : Int) = 1 then (qd.j3 qs6 a1 (qx.length : Int) false qw qy za yg ym yf yh yj qx zx) else (qd.j3 qs6 a1 (qx.length : Int) true qw qy za yg ym yf yh yj qx zx)) else (qd.j3 qs6 a1 (qx.length : Int) ((qx.length : Int) != 0) qw qy za yg ym yf yh yj qx zx)) = some r := by rw [if_neg (show ¬ (false = true) by decide)] at H; exact H
           clear H
           have H := H1
           clear H1
           by_cases c27 : q8r = true
           ·subst c27
            have H1 : (if (qx.length : Int) = 1 then (qd.j3 qs6 a1 (qx.length : Int) false qw qy za yg ym yf yh yj qx zx) else (qd.j3 qs6 a1 (qx.length : Int) true qw qy za yg ym yf yh yj qx zx)) = some r := by rw [if_pos rfl] at H; exact H
            clear H
            have H := H1
            clear H1
            by_cases c28 : (qx.length : Int) = 1
            ·rw [if_pos c28] at H
             have c28b0 : ((qx.length : Int) == 1) = true := beq_iff_eq.mpr c28
             have c28b1 : ((qx.length : Int) != 1) = false := bne_eq_false_iff_eq.mpr c28
             clear c28
             have H' := qf.mk H
             clear H
             go_wp2
             go_meet
             case rel => exact ⟨_, (false), (by first | rfl | (simp; done) | (simp [*]; done)), H', ⟨by have := HJ2.out; have := qf2.out; have := qet.out; first | omega | exact Nat.le_refl _⟩, ⟨by (with_reducible repeat (first | refine qj ?_ _ | refine qo ?_ | refine qi ?_ _)); exact qm.out⟩, ⟨by repeat (first | (with_reducible first | exact HB.out | apply qg | apply qc | apply qh | refine ql ?_ qbj.out) | exact HB.out)⟩⟩
            ·rw [if_neg c28] at H
             have c28b0 : ((qx.length : Int) == 1) = false := beq_eq_false_iff_ne.mpr c28
             have c28b1 : ((qx.length : Int) != 1) = true := bne_iff_ne.mpr c28
             have H' := qf.mk H
             clear H
             go_wp2
             go_meet
             case rel => exact ⟨_, (true), (by first | rfl | (simp; done) | (simp [*]; done)), H', ⟨by have := HJ2.out; have := qf2.out; have := qet.out; first | omega | exact Nat.le_refl _⟩, ⟨by (with_reducible repeat (first | refine qj ?_ _ | refine qo ?_ | refine qi ?_ _)); exact qm.out⟩, ⟨by repeat (first | (with_reducible first | exact HB.out | apply qg | apply qc | apply qh | refine ql ?_ qbj.out) | exact HB.out)⟩⟩
           ·replace c27 := Bool.eq_false_iff.mpr c27
            subst c27
            have H1 : (qd.j3 qs6 a1 (qx.length : Int) ((qx.length : Int) != 0) qw qy za yg ym yf yh yj qx zx) = some r := by rw [if_neg (show ¬ (false = true) by decide)] at H; exact H
            clear H
            have H := H1
            clear H1
            have H' := qf.mk H
            clear H
            go_wp2
            go_meet
            case rel => exact ⟨_, (((qx.length : Int) != 0)), (by first | rfl | (simp; done) | (simp [*]; done)), H', ⟨by have := HJ2.out; have := qf2.out; have := qet.out; first | omega | exact Nat.le_refl _⟩, ⟨by (with_reducible repeat (first | refine qj ?_ _ | refine qo ?_ | refine qi ?_ _)); exact qm.out⟩, ⟨by repeat (first | (with_reducible first | exact HB.out | apply qg | apply qc | apply qh | refine ql ?_ qbj.out) | exact HB.out)⟩⟩
        case rest =>
         clear zu3
         (try clear c1); (try clear c2); (try clear p2); (try clear c5); (try clear c5b0); (try clear c6); (try clear c6b0); (try clear c8); (try clear c8b0); (try clear c11); (try clear c13); (try clear c14); (try clear c14b0); (try clear c18); (try clear c18b0); (try clear c18b1); (try clear c22); (try clear c23); (try clear c23b0); (try clear c23b1); (try clear c24); (try clear c24b0); (try clear c24b1); (try clear c25); (try clear c26); (try clear c26b0); (try clear c26b1); (try clear c27); (try clear c28); (try clear c28b0); (try clear c28b1); (try clear qo1 qo2 qo3 qo4 q0u q0v q0w q0x q0y q00); (try clear q02 q03 q04 q05 q06 q07 q08 q09 q1a q1b); (try clear qei qej qek qel qto qtp qtq qtr qts qtt); (try clear qg6 qg7 qg8 qg9 qtu qtv qtw qtx qty qtz); (try clear qw2 qw3 qw4 qw5 qw6 qw7 qw8 qw9 qxa qxb); (try clear qjq qjr qjs qjt qxc qxd qxe qxf qxg qxh); (try clear qf7 qf8 qf9 qga qh5 qh6 qh7 qh8 qh9 qia); (try clear qd5 qd6 qd7 qd8 qn5 qn6 qn7 qn8 qn9 qoa); (try clear qjy qjz qj0 qj1 qib qic qid qie qif qig); (try clear qih qii qij qik qil qim qin qio qip qiq); (try clear qcr qcs qct qcu qgg qgh qgi qgj qgk qgl); (try clear qdq qdr qds qdt qgm qgn qgo qgp qgq qgr); (try clear qha qhb qhc qhd qhe qhf qhg qhh qhi qhj); (try clear qem qen qeo qep qhk qhl qhm qhn qho qhp); (try clear qdu qdv qdw qdx qfl qfm qfn qfo qfp qfq); (try clear qc0 qc7 qc8 qc9 qiz qi0 qi1 qi2 qi3 qi4); (try clear p2)
         obtain ⟨kq, zgt, rfl, HA, qkt, qm, HB⟩ := hcut
         cases kq with
         | zero => exact absurd HA.out (by simp [qd.j3])
         | succ zr0 =>
          have H := HA.out
          clear HA
          simp only [qd.j3] at H
          by_cases c29 : zgt = true
          ·subst c29
           have H1 : (some false) = some r := by rw [if_pos rfl] at H; exact H
           clear H
           have H := H1
           clear H1
           obtain rfl := Option.some.inj H
           go_wp2
           go_ret
           exact ⟨by first | rfl | (simp [zg, zh] <;> rfl) | (simp [*, zg, zh] <;> rfl), by repeat (first | (with_reducible first | exact HB.out | apply qg | apply qc | apply qh | refine ql ?_ qbj.out) | exact HB.out)⟩
          ·replace c29 := Bool.eq_false_iff.mpr c29
           subst c29
           have H1 : (if qw = 4 then (if qy < 1 then (some false) else (if za < 1 then (some false) else (if qy > (qx.length : Int) then (some false) else (if za > (qx.length : Int) then (some false) else (if qw = 6 then (if qy > 1000 then (some false) else (if za = 0 then (qd.j4 zr0 a1 (qx.length : Int) qw qy za yg ym yf yh yj qx zx) else (some false))) else (qd.j4 zr0 a1 (qx.length : Int) qw qy za yg ym yf yh yj qx zx)))))) else (if qw = 6 then (if qy < 1 then (some false) else (if qy > 1000 then (some false) else (if za = 0 then (qd.j4 zr0 a1 (qx.length : Int) qw qy za yg ym yf yh yj qx zx) else (some false)))) else (if qy = 0 then (if za = 0 then (qd.j4 zr0 a1 (qx.length : Int) qw qy za yg ym yf yh yj qx zx) else (some false)) else (some false)))) = some r := by rw [if_neg (show ¬ (false = true) by decide)] at H; exact H
           clear H
           have H := H1
           clear H1
           have zu4 := qf.mk H
           clear H
           go_upto_block 0 with (fail)
           go_cut [] (fun wc => ∃ (kq : Nat), qf (qd.j4 kq a1 (qx.length : Int) qw qy za yg ym yf yh yj qx zx = some r) ∧ qf (kq ≤ zr0) ∧ qf (wc.heap[q9]? = some (.cells #[.int .i64 qw, .int .i64 qy, .int .i64 za, .string yg, .int .i64 ym, .int .i64 yf, .string yh, (.slice qaa yj.length qab), (.slice qai qx.length qaf), (.slice qac zx.length vo)] 30 (0, 0))) ∧ qf (Below w.heap.size w wc))
           case first =>
            as_aux_lemma =>
             have H := zu4.out
             clear zu4
             by_cases c31 : qw = 4
             ·rw [if_pos c31] at H
              have c31b0 : (qw == 4) = true := beq_iff_eq.mpr c31
              have c31b1 : (qw != 4) = false := bne_eq_false_iff_eq.mpr c31
              clear c31
              (first | rw [c31b0] | (simp only [vz, vw]; rw [c31b0]) | skip)
              by_cases c32 : qy < 1
              ·rw [if_pos c32] at H
               have c32b0 : decide (qy < 1) = true := decide_eq_true c32
               clear c32
               obtain rfl := Option.some.inj H
               have qo5 : wc.cell? ⟨q9, 0, none⟩ = some (.int .i64 qw) := (qb qm.out 0).trans rfl
               have qo6 : wc.cell? ⟨q9, 1, none⟩ = some (.int .i64 qy) := (qb qm.out 1).trans rfl
               have qo7 : wc.cell? ⟨q9, 2, none⟩ = some (.int .i64 za) := (qb qm.out 2).trans rfl
               have qo8 : wc.cell? ⟨q9, 3, none⟩ = some (.string yg) := (qb qm.out 3).trans rfl
               have q1k : wc.cell? ⟨q9, 4, none⟩ = some (.int .i64 ym) := (qb qm.out 4).trans rfl
               have q1l : wc.cell? ⟨q9, 5, none⟩ = some (.int .i64 yf) := (qb qm.out 5).trans rfl
               have q1m : wc.cell? ⟨q9, 6, none⟩ = some (.string yh) := (qb qm.out 6).trans rfl
               have q1n : wc.cell? ⟨q9, 7, none⟩ = some (.slice qaa yj.length qab) := (qb qm.out 7).trans rfl
               have q1o : wc.cell? ⟨q9, 8, none⟩ = some (.slice qai qx.length qaf) := (qb qm.out 8).trans rfl
               have q1p : wc.cell? ⟨q9, 9, none⟩ = some (.slice qac zx.length vo) := (qb qm.out 9).trans rfl
               have qir := qa qm.out 0
               have qis := qa qm.out 1
               have qit := qa qm.out 2
               have qiu := qa qm.out 3
               have qm4 := qa qm.out 4
               have qm5 := qa qm.out 5
               have qm6 := qa qm.out 6
               have qm7 := qa qm.out 7
               have qm8 := qa qm.out 8
               have qm9 := qa qm.out 9
               go_wp2
               go_ret
               exact ⟨by first | rfl | (simp [zg, zh] <;> rfl) | (simp [*, zg, zh] <;> rfl), by repeat (first | (with_reducible first | exact HB.out | apply qg | apply qc | apply qh | refine ql ?_ qbj.out) | exact HB.out)⟩
              ·rw [if_neg c32] at H
               have c32b0 : decide (qy < 1) = false := decide_eq_false c32
               clear c32
               by_cases c34 : za < 1
               ·rw [if_pos c34] at H
                have c34b0 : decide (za < 1) = true := decide_eq_true c34
                clear c34
                obtain rfl := Option.some.inj H
                have q1q : wc.cell? ⟨q9, 0, none⟩ = some (.int .i64 qw) := (qb qm.out 0).trans rfl
                have q1r : wc.cell? ⟨q9, 1, none⟩ = some (.int .i64 qy) := (qb qm.out 1).trans rfl
                have q1s : wc.cell? ⟨q9, 2, none⟩ = some (.int .i64 za) := (qb qm.out 2).trans rfl
                have q1t : wc.cell? ⟨q9, 3, none⟩ = some (.string yg) := (qb qm.out 3).trans rfl
                have q1u : wc.cell? ⟨q9, 4, none⟩ = some (.int .i64 ym) := (qb qm.out 4).trans rfl
                have q1v : wc.cell? ⟨q9, 5, none⟩ = some (.int .i64 yf) := (qb qm.out 5).trans rfl
                have q1w : wc.cell? ⟨q9, 6, none⟩ = some (.string yh) := (qb qm.out 6).trans rfl
                have q1x : wc.cell? ⟨q9, 7, none⟩ = some (.slice qaa yj.length qab) := (qb qm.out 7).trans rfl
                have q1y : wc.cell? ⟨q9, 8, none⟩ = some (.slice qai qx.length qaf) := (qb qm.out 8).trans rfl
                have q10 : wc.cell? ⟨q9, 9, none⟩ = some (.slice qac zx.length vo) := (qb qm.out 9).trans rfl
                have qna := qa qm.out 0
                have qnb := qa qm.out 1
                have qnc := qa qm.out 2
                have qnd := qa qm.out 3
                have qne := qa qm.out 4
                have qnf := qa qm.out 5
                have qng := qa qm.out 6
                have qnh := qa qm.out 7
                have qni := qa qm.out 8
                have qnj := qa qm.out 9
                go_wp2
                go_ret
                exact ⟨by first | rfl | (simp [zg, zh] <;> rfl) | (simp [*, zg, zh] <;> rfl), by repeat (first | (with_reducible first | exact HB.out | apply qg | apply qc | apply qh | refine ql ?_ qbj.out) | exact HB.out)⟩
               ·rw [if_neg c34] at H
                have c34b0 : decide (za < 1) = false := decide_eq_false c34
                clear c34
                by_cases c36 : qy > (qx.length : Int)
                ·rw [if_pos c36] at H
                 have c36b0 : decide ((qx.length : Int) < qy) = true := decide_eq_true c36
                 clear c36
                 obtain rfl := Option.some.inj H
                 have qt4 : wc.cell? ⟨q9, 0, none⟩ = some (.int .i64 qw) := (qb qm.out 0).trans rfl
                 have qt5 : wc.cell? ⟨q9, 1, none⟩ = some (.int .i64 qy) := (qb qm.out 1).trans rfl
                 have qt6 : wc.cell? ⟨q9, 2, none⟩ = some (.int .i64 za) := (qb qm.out 2).trans rfl
                 have qt7 : wc.cell? ⟨q9, 3, none⟩ = some (.string yg) := (qb qm.out 3).trans rfl
                 have zau : wc.cell? ⟨q9, 4, none⟩ = some (.int .i64 ym) := (qb qm.out 4).trans rfl
                 have zav : wc.cell? ⟨q9, 5, none⟩ = some (.int .i64 yf) := (qb qm.out 5).trans rfl
                 have zaw : wc.cell? ⟨q9, 6, none⟩ = some (.string yh) := (qb qm.out 6).trans rfl
                 have zax : wc.cell? ⟨q9, 7, none⟩ = some (.slice qaa yj.length qab) := (qb qm.out 7).trans rfl
                 have zay : wc.cell? ⟨q9, 8, none⟩ = some (.slice qai qx.length qaf) := (qb qm.out 8).trans rfl
                 have zaz : wc.cell? ⟨q9, 9, none⟩ = some (.slice qac zx.length vo) := (qb qm.out 9).trans rfl
                 have qj6 := qa qm.out 0
                 have qj7 := qa qm.out 1
                 have qj8 := qa qm.out 2
                 have qj9 := qa qm.out 3
                 have qpd := qa qm.out 4
                 have qpe := qa qm.out 5
                 have qpf := qa qm.out 6
                 have qpg := qa qm.out 7
                 have qph := qa qm.out 8
                 have qpi := qa qm.out 9
                 go_wp2
                 go_ret
                 exact ⟨by first | rfl | (simp [zg, zh] <;> rfl) | (simp [*, zg, zh] <;> rfl), by repeat (first | (with_reducible first | exact HB.out | apply qg | apply qc | apply qh | refine ql ?_ qbj.out) | exact HB.out)⟩
                ·rw [if_neg c36] at H
                 have c36b0 : decide ((qx.length : Int) < qy) = false := decide_eq_false c36
                 clear c36
                 by_cases c38 : za > (qx.length : Int)
                 ·rw [if_pos c38] at H
                  have c38b0 : decide ((qx.length : Int) < za) = true := decide_eq_true c38
                  clear c38
                  obtain rfl := Option.some.inj H
                  have za4 : wc.cell? ⟨q9, 0, none⟩ = some (.int .i64 qw) := (qb qm.out 0).trans rfl
                  have za5 : wc.cell? ⟨q9, 1, none⟩ = some (.int .i64 qy) := (qb qm.out 1).trans rfl
                  have za6 : wc.cell? ⟨q9, 2, none⟩ = some (.int .i64 za) := (qb qm.out 2).trans rfl
                  have za7 : wc.cell? ⟨q9, 3, none⟩ = some (.string yg) := (qb qm.out 3).trans rfl
                  have za8 : wc.cell? ⟨q9, 4, none⟩ = some (.int .i64 ym) := (qb qm.out 4).trans rfl
                  have za9 : wc.cell? ⟨q9, 5, none⟩ = some (.int .i64 yf) := (qb qm.out 5).trans rfl
                  have zba : wc.cell? ⟨q9, 6, none⟩ = some (.string yh) := (qb qm.out 6).trans rfl
                  have zbb : wc.cell? ⟨q9, 7, none⟩ = some (.slice qaa yj.length qab) := (qb qm.out 7).trans rfl
                  have zbc : wc.cell? ⟨q9, 8, none⟩ = some (.slice qai qx.length qaf) := (qb qm.out 8).trans rfl
                  have zbd : wc.cell? ⟨q9, 9, none⟩ = some (.slice qac zx.length vo) := (qb qm.out 9).trans rfl
                  have qpj := qa qm.out 0
                  have qpk := qa qm.out 1
                  have qpl := qa qm.out 2
                  have qpm := qa qm.out 3
                  have qpn := qa qm.out 4
                  have qpo := qa qm.out 5
                  have qpp := qa qm.out 6
                  have qpq := qa qm.out 7
                  have qpr := qa qm.out 8
                  have qps := qa qm.out 9
                  go_wp2
                  go_ret
                  exact ⟨by first | rfl | (simp [zg, zh] <;> rfl) | (simp [*, zg, zh] <;> rfl), by repeat (first | (with_reducible first | exact HB.out | apply qg | apply qc | apply qh | refine ql ?_ qbj.out) | exact HB.out)⟩
                 ·rw [if_neg c38] at H
                  have c38b0 : decide ((qx.length : Int) < za) = false := decide_eq_false c38
                  clear c38
                  by_cases c40 : qw = 6
                  ·rw [if_pos c40] at H
                   have c40b0 : (qw == 6) = true := beq_iff_eq.mpr c40
                   have c40b1 : (qw != 6) = false := bne_eq_false_iff_eq.mpr c40
                   clear c40
                   by_cases c41 : qy > 1000
                   ·rw [if_pos c41] at H
                    have c41b0 : decide (1000 < qy) = true := decide_eq_true c41
                    clear c41
                    obtain rfl := Option.some.inj H
                    have zbe : wc.cell? ⟨q9, 0, none⟩ = some (.int .i64 qw) := (qb qm.out 0).trans rfl
                    have zbf : wc.cell? ⟨q9, 1, none⟩ = some (.int .i64 qy) := (qb qm.out 1).trans rfl
                    have zbg : wc.cell? ⟨q9, 2, none⟩ = some (.int .i64 za) := (qb qm.out 2).trans rfl
                    have zbh : wc.cell? ⟨q9, 3, none⟩ = some (.string yg) := (qb qm.out 3).trans rfl
                    have zbi : wc.cell? ⟨q9, 4, none⟩ = some (.int .i64 ym) := (qb qm.out 4).trans rfl
                    have zbj : wc.cell? ⟨q9, 5, none⟩ = some (.int .i64 yf) := (qb qm.out 5).trans rfl
                    have zbk : wc.cell? ⟨q9, 6, none⟩ = some (.string yh) := (qb qm.out 6).trans rfl
                    have zbl : wc.cell? ⟨q9, 7, none⟩ = some (.slice qaa yj.length qab) := (qb qm.out 7).trans rfl
                    have zbm : wc.cell? ⟨q9, 8, none⟩ = some (.slice qai qx.length qaf) := (qb qm.out 8).trans rfl
                    have zbn : wc.cell? ⟨q9, 9, none⟩ = some (.slice qac zx.length vo) := (qb qm.out 9).trans rfl
                    have qpt := qa qm.out 0
                    have qpu := qa qm.out 1
                    have qpv := qa qm.out 2
                    have qpw := qa qm.out 3
                    have qpx := qa qm.out 4
                    have qpy := qa qm.out 5
                    have qpz := qa qm.out 6
                    have qp0 := qa qm.out 7
                    have qp1 := qa qm.out 8
                    have qp2 := qa qm.out 9
                    go_wp2
                    go_ret
                    exact ⟨by first | rfl | (simp [zg, zh] <;> rfl) | (simp [*, zg, zh] <;> rfl), by repeat (first | (with_reducible first | exact HB.out | apply qg | apply qc | apply qh | refine ql ?_ qbj.out) | exact HB.out)⟩
                   ·rw [if_neg c41] at H
                    have c41b0 : decide (1000 < qy) = false := decide_eq_false c41
                    clear c41
                    by_cases c43 : za = 0
                    ·rw [if_pos c43] at H
                     have c43b0 : (za == 0) = true := beq_iff_eq.mpr c43
                     have c43b1 : (za != 0) = false := bne_eq_false_iff_eq.mpr c43
                     clear c43
                     have H' := qf.mk H
                     clear H
                     have qo9 : wc.cell? ⟨q9, 0, none⟩ = some (.int .i64 qw) := (qb qm.out 0).trans rfl
                     have qpa : wc.cell? ⟨q9, 1, none⟩ = some (.int .i64 qy) := (qb qm.out 1).trans rfl
                     have qpb : wc.cell? ⟨q9, 2, none⟩ = some (.int .i64 za) := (qb qm.out 2).trans rfl
                     have qpc : wc.cell? ⟨q9, 3, none⟩ = some (.string yg) := (qb qm.out 3).trans rfl
                     have q11 : wc.cell? ⟨q9, 4, none⟩ = some (.int .i64 ym) := (qb qm.out 4).trans rfl
                     have q12 : wc.cell? ⟨q9, 5, none⟩ = some (.int .i64 yf) := (qb qm.out 5).trans rfl
                     have q13 : wc.cell? ⟨q9, 6, none⟩ = some (.string yh) := (qb qm.out 6).trans rfl
                     have q14 : wc.cell? ⟨q9, 7, none⟩ = some (.slice qaa yj.length qab) := (qb qm.out 7).trans rfl
                     have q17 : wc.cell? ⟨q9, 8, none⟩ = some (.slice qai qx.length qaf) := (qb qm.out 8).trans rfl
                     have q18 : wc.cell? ⟨q9, 9, none⟩ = some (.slice qac zx.length vo) := (qb qm.out 9).trans rfl
                     have qiv := qa qm.out 0
                     have qiw := qa qm.out 1
                     have qix := qa qm.out 2
                     have qiy := qa qm.out 3
                     have qno := qa qm.out 4
                     have qnp := qa qm.out 5
                     have qnq := qa qm.out 6
                     have qnr := qa qm.out 7
                     have qns := qa qm.out 8
                     have qnt := qa qm.out 9
                     go_wp2
                     go_meet
                     case rel => exact ⟨_, H', ⟨by have := HJ2.out; have := qf2.out; have := qet.out; have := qkt.out; first | omega | exact Nat.le_refl _⟩, ⟨by (with_reducible repeat (first | refine qj ?_ _ | refine qo ?_ | refine qi ?_ _)); exact qm.out⟩, ⟨by repeat (first | (with_reducible first | exact HB.out | apply qg | apply qc | apply qh | refine ql ?_ qbj.out) | exact HB.out)⟩⟩
                    ·rw [if_neg c43] at H
                     have c43b0 : (za == 0) = false := beq_eq_false_iff_ne.mpr c43
                     have c43b1 : (za != 0) = true := bne_iff_ne.mpr c43
                     obtain rfl := Option.some.inj H
                     have zbo : wc.cell? ⟨q9, 0, none⟩ = some (.int .i64 qw) := (qb qm.out 0).trans rfl
                     have zbp : wc.cell? ⟨q9, 1, none⟩ = some (.int .i64 qy) := (qb qm.out 1).trans rfl
                     have zbq : wc.cell? ⟨q9, 2, none⟩ = some (.int .i64 za) := (qb qm.out 2).trans rfl
                     have zbr : wc.cell? ⟨q9, 3, none⟩ = some (.string yg) := (qb qm.out 3).trans rfl
                     have zbs : wc.cell? ⟨q9, 4, none⟩ = some (.int .i64 ym) := (qb qm.out 4).trans rfl
                     have zbt : wc.cell? ⟨q9, 5, none⟩ = some (.int .i64 yf) := (qb qm.out 5).trans rfl
                     have zbu : wc.cell? ⟨q9, 6, none⟩ = some (.string yh) := (qb qm.out 6).trans rfl
                     have zbv : wc.cell? ⟨q9, 7, none⟩ = some (.slice qaa yj.length qab) := (qb qm.out 7).trans rfl
                     have zbw : wc.cell? ⟨q9, 8, none⟩ = some (.slice qai qx.length qaf) := (qb qm.out 8).trans rfl
                     have zbx : wc.cell? ⟨q9, 9, none⟩ = some (.slice qac zx.length vo) := (qb qm.out 9).trans rfl
                     have qp3 := qa qm.out 0
                     have qp4 := qa qm.out 1
                     have qp5 := qa qm.out 2
                     have qp6 := qa qm.out 3
                     have qp7 := qa qm.out 4
                     have qp8 := qa qm.out 5
                     have qp9 := qa qm.out 6
                     have qqa := qa qm.out 7
                     have qqb := qa qm.out 8
                     have qqc := qa qm.out 9
                     go_wp2
                     go_ret
                     exact ⟨by first | rfl | (simp [zg, zh] <;> rfl) | (simp [*, zg, zh] <;> rfl), by repeat (first | (with_reducible first | exact HB.out | apply qg | apply qc | apply qh | refine ql ?_ qbj.out) | exact HB.out)⟩
                  ·rw [if_neg c40] at H
                   have c40b0 : (qw == 6) = false := beq_eq_false_iff_ne.mpr c40
                   have c40b1 : (qw != 6) = true := bne_iff_ne.mpr c40
                   have H' := qf.mk H
                   clear H
                   have qug : wc.cell? ⟨q9, 0, none⟩ = some (.int .i64 qw) := (qb qm.out 0).trans rfl
                   have quh : wc.cell? ⟨q9, 1, none⟩ = some (.int .i64 qy) := (qb qm.out 1).trans rfl
                   have qui : wc.cell? ⟨q9, 2, none⟩ = some (.int .i64 za) := (qb qm.out 2).trans rfl
                   have quj : wc.cell? ⟨q9, 3, none⟩ = some (.string yg) := (qb qm.out 3).trans rfl
                   have zby : wc.cell? ⟨q9, 4, none⟩ = some (.int .i64 ym) := (qb qm.out 4).trans rfl
                   have zbz : wc.cell? ⟨q9, 5, none⟩ = some (.int .i64 yf) := (qb qm.out 5).trans rfl
                   have zb0 : wc.cell? ⟨q9, 6, none⟩ = some (.string yh) := (qb qm.out 6).trans rfl
                   have zb1 : wc.cell? ⟨q9, 7, none⟩ = some (.slice qaa yj.length qab) := (qb qm.out 7).trans rfl
                   have zb2 : wc.cell? ⟨q9, 8, none⟩ = some (.slice qai qx.length qaf) := (qb qm.out 8).trans rfl
                   have zb3 : wc.cell? ⟨q9, 9, none⟩ = some (.slice qac zx.length vo) := (qb qm.out 9).trans rfl
                   have qka := qa qm.out 0
                   have qkb := qa qm.out 1
                   have qkc := qa qm.out 2
                   have qkd := qa qm.out 3
                   have qqd := qa qm.out 4
                   have qqe := qa qm.out 5
                   have qqf := qa qm.out 6
                   have qqg := qa qm.out 7
                   have qqh := qa qm.out 8
                   have qqi := qa qm.out 9
                   go_wp2
                   go_meet
                   case rel => exact ⟨_, H', ⟨by have := HJ2.out; have := qf2.out; have := qet.out; have := qkt.out; first | omega | exact Nat.le_refl _⟩, ⟨by (with_reducible repeat (first | refine qj ?_ _ | refine qo ?_ | refine qi ?_ _)); exact qm.out⟩, ⟨by repeat (first | (with_reducible first | exact HB.out | apply qg | apply qc | apply qh | refine ql ?_ qbj.out) | exact HB.out)⟩⟩
             ·rw [if_neg c31] at H
              have c31b0 : (qw == 4) = false := beq_eq_false_iff_ne.mpr c31
              have c31b1 : (qw != 4) = true := bne_iff_ne.mpr c31
              (first | rw [c31b0] | (simp only [vz, vw]; rw [c31b0]) | skip)
              by_cases c47 : qw = 6
              ·rw [if_pos c47] at H
               have c47b0 : (qw == 6) = true := beq_iff_eq.mpr c47
               have c47b1 : (qw != 6) = false := bne_eq_false_iff_eq.mpr c47
               clear c47
               by_cases c48 : qy < 1
               ·rw [if_pos c48] at H
                have c48b0 : decide (qy < 1) = true := decide_eq_true c48
                clear c48
                obtain rfl := Option.some.inj H
                have quk : wc.cell? ⟨q9, 0, none⟩ = some (.int .i64 qw) := (qb qm.out 0).trans rfl
                have qul : wc.cell? ⟨q9, 1, none⟩ = some (.int .i64 qy) := (qb qm.out 1).trans rfl
                have qum : wc.cell? ⟨q9, 2, none⟩ = some (.int .i64 za) := (qb qm.out 2).trans rfl
                have qun : wc.cell? ⟨q9, 3, none⟩ = some (.string yg) := (qb qm.out 3).trans rfl
                have zb4 : wc.cell? ⟨q9, 4, none⟩ = some (.int .i64 ym) := (qb qm.out 4).trans rfl
                have zb5 : wc.cell? ⟨q9, 5, none⟩ = some (.int .i64 yf) := (qb qm.out 5).trans rfl
                have zb6 : wc.cell? ⟨q9, 6, none⟩ = some (.string yh) := (qb qm.out 6).trans rfl
                have zb7 : wc.cell? ⟨q9, 7, none⟩ = some (.slice qaa yj.length qab) := (qb qm.out 7).trans rfl
                have zb8 : wc.cell? ⟨q9, 8, none⟩ = some (.slice qai qx.length qaf) := (qb qm.out 8).trans rfl
                have zb9 : wc.cell? ⟨q9, 9, none⟩ = some (.slice qac zx.length vo) := (qb qm.out 9).trans rfl
                have qke := qa qm.out 0
                have qkf := qa qm.out 1
                have qkg := qa qm.out 2
                have qkh := qa qm.out 3
                have qqj := qa qm.out 4
                have qqk := qa qm.out 5
                have qql := qa qm.out 6
                have qqm := qa qm.out 7
                have qqn := qa qm.out 8
                have qqo := qa qm.out 9
                go_wp2
                go_ret
                exact ⟨by first | rfl | (simp [zg, zh] <;> rfl) | (simp [*, zg, zh] <;> rfl), by repeat (first | (with_reducible first | exact HB.out | apply qg | apply qc | apply qh | refine ql ?_ qbj.out) | exact HB.out)⟩
               ·rw [if_neg c48] at H
                have c48b0 : decide (qy < 1) = false := decide_eq_false c48
                clear c48
                by_cases c50 : qy > 1000
                ·rw [if_pos c50] at H
                 have c50b0 : decide (1000 < qy) = true := decide_eq_true c50
                 clear c50
                 obtain rfl := Option.some.inj H
                 have qlj : wc.cell? ⟨q9, 0, none⟩ = some (.int .i64 qw) := (qb qm.out 0).trans rfl
                 have qlk : wc.cell? ⟨q9, 1, none⟩ = some (.int .i64 qy) := (qb qm.out 1).trans rfl
                 have qll : wc.cell? ⟨q9, 2, none⟩ = some (.int .i64 za) := (qb qm.out 2).trans rfl
                 have qlm : wc.cell? ⟨q9, 3, none⟩ = some (.string yg) := (qb qm.out 3).trans rfl
                 have zca : wc.cell? ⟨q9, 4, none⟩ = some (.int .i64 ym) := (qb qm.out 4).trans rfl
                 have zcb : wc.cell? ⟨q9, 5, none⟩ = some (.int .i64 yf) := (qb qm.out 5).trans rfl
                 have zcc : wc.cell? ⟨q9, 6, none⟩ = some (.string yh) := (qb qm.out 6).trans rfl
                 have zcd : wc.cell? ⟨q9, 7, none⟩ = some (.slice qaa yj.length qab) := (qb qm.out 7).trans rfl
                 have zce : wc.cell? ⟨q9, 8, none⟩ = some (.slice qai qx.length qaf) := (qb qm.out 8).trans rfl
                 have zcf : wc.cell? ⟨q9, 9, none⟩ = some (.slice qac zx.length vo) := (qb qm.out 9).trans rfl
                 have qgs := qa qm.out 0
                 have qgt := qa qm.out 1
                 have qgu := qa qm.out 2
                 have qgv := qa qm.out 3
                 have qqp := qa qm.out 4
                 have qqq := qa qm.out 5
                 have qqr := qa qm.out 6
                 have qqs := qa qm.out 7
                 have qqt := qa qm.out 8
                 have qqu := qa qm.out 9
                 go_wp2
                 go_ret
                 exact ⟨by first | rfl | (simp [zg, zh] <;> rfl) | (simp [*, zg, zh] <;> rfl), by repeat (first | (with_reducible first | exact HB.out | apply qg | apply qc | apply qh | refine ql ?_ qbj.out) | exact HB.out)⟩
                ·rw [if_neg c50] at H
                 have c50b0 : decide (1000 < qy) = false := decide_eq_false c50
                 clear c50
                 by_cases c52 : za = 0
                 ·rw [if_pos c52] at H
                  have c52b0 : (za == 0) = true := beq_iff_eq.mpr c52
                  have c52b1 : (za != 0) = false := bne_eq_false_iff_eq.mpr c52
                  clear c52
                  have H' := qf.mk H
                  clear H
                  have zcg : wc.cell? ⟨q9, 0, none⟩ = some (.int .i64 qw) := (qb qm.out 0).trans rfl
                  have zch : wc.cell? ⟨q9, 1, none⟩ = some (.int .i64 qy) := (qb qm.out 1).trans rfl
                  have zci : wc.cell? ⟨q9, 2, none⟩ = some (.int .i64 za) := (qb qm.out 2).trans rfl
                  have zcj : wc.cell? ⟨q9, 3, none⟩ = some (.string yg) := (qb qm.out 3).trans rfl
                  have zck : wc.cell? ⟨q9, 4, none⟩ = some (.int .i64 ym) := (qb qm.out 4).trans rfl
                  have zcl : wc.cell? ⟨q9, 5, none⟩ = some (.int .i64 yf) := (qb qm.out 5).trans rfl
                  have zcm : wc.cell? ⟨q9, 6, none⟩ = some (.string yh) := (qb qm.out 6).trans rfl
                  have zcn : wc.cell? ⟨q9, 7, none⟩ = some (.slice qaa yj.length qab) := (qb qm.out 7).trans rfl
                  have zco : wc.cell? ⟨q9, 8, none⟩ = some (.slice qai qx.length qaf) := (qb qm.out 8).trans rfl
                  have zcp : wc.cell? ⟨q9, 9, none⟩ = some (.slice qac zx.length vo) := (qb qm.out 9).trans rfl
                  have qqv := qa qm.out 0
                  have qqw := qa qm.out 1
                  have qqx := qa qm.out 2
                  have qqy := qa qm.out 3
                  have qqz := qa qm.out 4
                  have qq0 := qa qm.out 5
                  have qq1 := qa qm.out 6
                  have qq2 := qa qm.out 7
                  have qq3 := qa qm.out 8
                  have qq4 := qa qm.out 9
                  go_wp2
                  go_meet
                  case rel => exact ⟨_, H', ⟨by have := HJ2.out; have := qf2.out; have := qet.out; have := qkt.out; first | omega | exact Nat.le_refl _⟩, ⟨by (with_reducible repeat (first | refine qj ?_ _ | refine qo ?_ | refine qi ?_ _)); exact qm.out⟩, ⟨by repeat (first | (with_reducible first | exact HB.out | apply qg | apply qc | apply qh | refine ql ?_ qbj.out) | exact HB.out)⟩⟩
                 ·rw [if_neg c52] at H
                  have c52b0 : (za == 0) = false := beq_eq_false_iff_ne.mpr c52
                  have c52b1 : (za != 0) = true := bne_iff_ne.mpr c52
                  obtain rfl := Option.some.inj H
                  have qup : wc.cell? ⟨q9, 0, none⟩ = some (.int .i64 qw) := (qb qm.out 0).trans rfl
                  have quq : wc.cell? ⟨q9, 1, none⟩ = some (.int .i64 qy) := (qb qm.out 1).trans rfl
                  have qur : wc.cell? ⟨q9, 2, none⟩ = some (.int .i64 za) := (qb qm.out 2).trans rfl
                  have qus : wc.cell? ⟨q9, 3, none⟩ = some (.string yg) := (qb qm.out 3).trans rfl
                  have zcq : wc.cell? ⟨q9, 4, none⟩ = some (.int .i64 ym) := (qb qm.out 4).trans rfl
                  have zcr : wc.cell? ⟨q9, 5, none⟩ = some (.int .i64 yf) := (qb qm.out 5).trans rfl
                  have zcs : wc.cell? ⟨q9, 6, none⟩ = some (.string yh) := (qb qm.out 6).trans rfl
                  have zct : wc.cell? ⟨q9, 7, none⟩ = some (.slice qaa yj.length qab) := (qb qm.out 7).trans rfl
                  have zcu : wc.cell? ⟨q9, 8, none⟩ = some (.slice qai qx.length qaf) := (qb qm.out 8).trans rfl
                  have zcv : wc.cell? ⟨q9, 9, none⟩ = some (.slice qac zx.length vo) := (qb qm.out 9).trans rfl
                  have qki := qa qm.out 0
                  have qkj := qa qm.out 1
                  have qkk := qa qm.out 2
                  have qkl := qa qm.out 3
                  have qq5 := qa qm.out 4
                  have qq6 := qa qm.out 5
                  have qq7 := qa qm.out 6
                  have qq8 := qa qm.out 7
                  have qq9 := qa qm.out 8
                  have qra := qa qm.out 9
                  go_wp2
                  go_ret
                  exact ⟨by first | rfl | (simp [zg, zh] <;> rfl) | (simp [*, zg, zh] <;> rfl), by repeat (first | (with_reducible first | exact HB.out | apply qg | apply qc | apply qh | refine ql ?_ qbj.out) | exact HB.out)⟩
              ·rw [if_neg c47] at H
               have c47b0 : (qw == 6) = false := beq_eq_false_iff_ne.mpr c47
               have c47b1 : (qw != 6) = true := bne_iff_ne.mpr c47
               by_cases c55 : qy = 0
               ·rw [if_pos c55] at H
                have c55b0 : (qy == 0) = true := beq_iff_eq.mpr c55
                have c55b1 : (qy != 0) = false := bne_eq_false_iff_eq.mpr c55
                clear c55
                by_cases c56 : za = 0
                ·rw [if_pos c56] at H
                 have c56b0 : (za == 0) = true := beq_iff_eq.mpr c56
                 have c56b1 : (za != 0) = false := bne_eq_false_iff_eq.mpr c56
                 clear c56
                 have H' := qf.mk H
                 clear H
                 have zcw : wc.cell? ⟨q9, 0, none⟩ = some (.int .i64 qw) := (qb qm.out 0).trans rfl
                 have zcx : wc.cell? ⟨q9, 1, none⟩ = some (.int .i64 qy) := (qb qm.out 1).trans rfl
                 have zcy : wc.cell? ⟨q9, 2, none⟩ = some (.int .i64 za) := (qb qm.out 2).trans rfl
                 have zcz : wc.cell? ⟨q9, 3, none⟩ = some (.string yg) := (qb qm.out 3).trans rfl
                 have zc0 : wc.cell? ⟨q9, 4, none⟩ = some (.int .i64 ym) := (qb qm.out 4).trans rfl
                 have zc1 : wc.cell? ⟨q9, 5, none⟩ = some (.int .i64 yf) := (qb qm.out 5).trans rfl
                 have zc2 : wc.cell? ⟨q9, 6, none⟩ = some (.string yh) := (qb qm.out 6).trans rfl
                 have zc3 : wc.cell? ⟨q9, 7, none⟩ = some (.slice qaa yj.length qab) := (qb qm.out 7).trans rfl
                 have zc4 : wc.cell? ⟨q9, 8, none⟩ = some (.slice qai qx.length qaf) := (qb qm.out 8).trans rfl
                 have zc5 : wc.cell? ⟨q9, 9, none⟩ = some (.slice qac zx.length vo) := (qb qm.out 9).trans rfl
                 have qrb := qa qm.out 0
                 have qrc := qa qm.out 1
                 have qrd := qa qm.out 2
                 have qre := qa qm.out 3
                 have qrf := qa qm.out 4
                 have qrg := qa qm.out 5
                 have qrh := qa qm.out 6
                 have qri := qa qm.out 7
                 have qrj := qa qm.out 8
                 have qrk := qa qm.out 9
                 go_wp2
                 go_meet
                 case rel => exact ⟨_, H', ⟨by have := HJ2.out; have := qf2.out; have := qet.out; have := qkt.out; first | omega | exact Nat.le_refl _⟩, ⟨by (with_reducible repeat (first | refine qj ?_ _ | refine qo ?_ | refine qi ?_ _)); exact qm.out⟩, ⟨by repeat (first | (with_reducible first | exact HB.out | apply qg | apply qc | apply qh | refine ql ?_ qbj.out) | exact HB.out)⟩⟩
                ·rw [if_neg c56] at H
                 have c56b0 : (za == 0) = false := beq_eq_false_iff_ne.mpr c56
                 have c56b1 : (za != 0) = true := bne_iff_ne.mpr c56
                 obtain rfl := Option.some.inj H
                 have zc6 : wc.cell? ⟨q9, 0, none⟩ = some (.int .i64 qw) := (qb qm.out 0).trans rfl
                 have zc7 : wc.cell? ⟨q9, 1, none⟩ = some (.int .i64 qy) := (qb qm.out 1).trans rfl
                 have zc8 : wc.cell? ⟨q9, 2, none⟩ = some (.int .i64 za) := (qb qm.out 2).trans rfl
                 have zc9 : wc.cell? ⟨q9, 3, none⟩ = some (.string yg) := (qb qm.out 3).trans rfl
                 have zda : wc.cell? ⟨q9, 4, none⟩ = some (.int .i64 ym) := (qb qm.out 4).trans rfl
                 have zdb : wc.cell? ⟨q9, 5, none⟩ = some (.int .i64 yf) := (qb qm.out 5).trans rfl
                 have zdc : wc.cell? ⟨q9, 6, none⟩ = some (.string yh) := (qb qm.out 6).trans rfl
                 have zdd : wc.cell? ⟨q9, 7, none⟩ = some (.slice qaa yj.length qab) := (qb qm.out 7).trans rfl
                 have zde : wc.cell? ⟨q9, 8, none⟩ = some (.slice qai qx.length qaf) := (qb qm.out 8).trans rfl
                 have zdf : wc.cell? ⟨q9, 9, none⟩ = some (.slice qac zx.length vo) := (qb qm.out 9).trans rfl
                 have qrl := qa qm.out 0
                 have qrm := qa qm.out 1
                 have qrn := qa qm.out 2
                 have qro := qa qm.out 3
                 have qrp := qa qm.out 4
                 have qrq := qa qm.out 5
                 have qrr := qa qm.out 6
                 have qrs := qa qm.out 7
                 have qrt := qa qm.out 8
                 have qru := qa qm.out 9
                 go_wp2
                 go_ret
                 exact ⟨by first | rfl | (simp [zg, zh] <;> rfl) | (simp [*, zg, zh] <;> rfl), by repeat (first | (with_reducible first | exact HB.out | apply qg | apply qc | apply qh | refine ql ?_ qbj.out) | exact HB.out)⟩
               ·rw [if_neg c55] at H
                have c55b0 : (qy == 0) = false := beq_eq_false_iff_ne.mpr c55
                have c55b1 : (qy != 0) = true := bne_iff_ne.mpr c55
                obtain rfl := Option.some.inj H
                have qut : wc.cell? ⟨q9, 0, none⟩ = some (.int .i64 qw) := (qb qm.out 0).trans rfl
                have quu : wc.cell? ⟨q9, 1, none⟩ = some (.int .i64 qy) := (qb qm.out 1).trans rfl
                have quv : wc.cell? ⟨q9, 2, none⟩ = some (.int .i64 za) := (qb qm.out 2).trans rfl
                have quw : wc.cell? ⟨q9, 3, none⟩ = some (.string yg) := (qb qm.out 3).trans rfl
                have zdg : wc.cell? ⟨q9, 4, none⟩ = some (.int .i64 ym) := (qb qm.out 4).trans rfl
                have zdh : wc.cell? ⟨q9, 5, none⟩ = some (.int .i64 yf) := (qb qm.out 5).trans rfl
                have zdi : wc.cell? ⟨q9, 6, none⟩ = some (.string yh) := (qb qm.out 6).trans rfl
                have zdj : wc.cell? ⟨q9, 7, none⟩ = some (.slice qaa yj.length qab) := (qb qm.out 7).trans rfl
                have zdk : wc.cell? ⟨q9, 8, none⟩ = some (.slice qai qx.length qaf) := (qb qm.out 8).trans rfl
                have zdl : wc.cell? ⟨q9, 9, none⟩ = some (.slice qac zx.length vo) := (qb qm.out 9).trans rfl
                have qkm := qa qm.out 0
                have qkn := qa qm.out 1
                have qko := qa qm.out 2
                have qkp := qa qm.out 3
                have qrv := qa qm.out 4
                have qrw := qa qm.out 5
                have qrx := qa qm.out 6
                have qry := qa qm.out 7
                have qrz := qa qm.out 8
                have qr0 := qa qm.out 9
                go_wp2
                go_ret
                exact ⟨by first | rfl | (simp [zg, zh] <;> rfl) | (simp [*, zg, zh] <;> rfl), by repeat (first | (with_reducible first | exact HB.out | apply qg | apply qc | apply qh | refine ql ?_ qbj.out) | exact HB.out)⟩
           case rest =>
            clear zu4
            (try clear c2); (try clear p2); (try clear c3); (try clear c4); (try clear c5); (try clear c29); (try clear c31); (try clear c31b0); (try clear c31b1); (try clear c32); (try clear c32b0); (try clear c34); (try clear c34b0); (try clear c36); (try clear c36b0); (try clear c38); (try clear c38b0); (try clear c40); (try clear c40b0); (try clear c40b1); (try clear c41); (try clear c41b0); (try clear c43); (try clear c43b0); (try clear c43b1); (try clear c47); (try clear c47b0); (try clear c47b1); (try clear c48); (try clear c48b0); (try clear c50); (try clear c50b0); (try clear c52); (try clear c52b0); (try clear c52b1); (try clear c55); (try clear c55b0); (try clear c55b1); (try clear c56); (try clear c56b0); (try clear c56b1); (try clear qo5 qo6 qo7 qo8 q1k q1l q1m q1n q1o q1p); (try clear q1q q1r q1s q1t q1u q1v q1w q1x q1y q10); (try clear qt4 qt5 qt6 qt7 zau zav zaw zax zay zaz); (try clear za4 za5 za6 za7 za8 za9 zba zbb zbc zbd); (try clear zbe zbf zbg zbh zbi zbj zbk zbl zbm zbn); (try clear qo9 qpa qpb qpc q11 q12 q13 q14 q17 q18); (try clear zbo zbp zbq zbr zbs zbt zbu zbv zbw zbx); (try clear qug quh qui quj zby zbz zb0 zb1 zb2 zb3); (try clear quk qul qum qun zb4 zb5 zb6 zb7 zb8 zb9); (try clear qlj qlk qll qlm zca zcb zcc zcd zce zcf); (try clear zcg zch zci zcj zck zcl zcm zcn zco zcp); (try clear qup quq qur qus zcq zcr zcs zct zcu zcv); (try clear zcw zcx zcy zcz zc0 zc1 zc2 zc3 zc4 zc5); (try clear zc6 zc7 zc8 zc9 zda zdb zdc zdd zde zdf); (try clear qut quu quv quw zdg zdh zdi zdj zdk zdl); (try clear qh5 qh6 qh7 qh8 qh9 qia); (try clear qd5 qd6 qd7 qd8 qn5 qn6 qn7 qn8 qn9 qoa); (try clear qjy qjz qj0 qj1 qib qic qid qie qif qig); (try clear qih qii qij qik qil qim qin qio qip qiq); (try clear qcr qcs qct qcu qgg qgh qgi qgj qgk qgl); (try clear qdq qdr qds qdt qgm qgn qgo qgp qgq qgr); (try clear qha qhb qhc qhd qhe qhf qhg qhh qhi qhj); (try clear qem qen qeo qep qhk qhl qhm qhn qho qhp); (try clear qir qis qit qiu qm4 qm5 qm6 qm7 qm8 qm9); (try clear qna qnb qnc qnd qne qnf qng qnh qni qnj); (try clear qj6 qj7 qj8 qj9 qpd qpe qpf qpg qph qpi); (try clear qpj qpk qpl qpm qpn qpo qpp qpq qpr qps); (try clear qpt qpu qpv qpw qpx qpy qpz qp0 qp1 qp2); (try clear qiv qiw qix qiy qno qnp qnq qnr qns qnt); (try clear qp3 qp4 qp5 qp6 qp7 qp8 qp9 qqa qqb qqc); (try clear qka qkb qkc qkd qqd qqe qqf qqg qqh qqi); (try clear qke qkf qkg qkh qqj qqk qql qqm qqn qqo); (try clear qgs qgt qgu qgv qqp qqq qqr qqs qqt qqu); (try clear qqv qqw qqx qqy qqz qq0 qq1 qq2 qq3 qq4); (try clear qki qkj qkk qkl qq5 qq6 qq7 qq8 qq9 qra); (try clear qrb qrc qrd qre qrf qrg qrh qri qrj qrk); (try clear qrl qrm qrn qro qrp qrq qrr qrs qrt qru); (try clear qkm qkn qko qkp qrv qrw qrx qry qrz qr0); (try clear qdu qdv qdw qdx qfl qfm qfn qfo qfp qfq); (try clear qc0 qc7 qc8 qc9 qiz qi0 qi1 qi2 qi3 qi4); (try clear p2)
            obtain ⟨kq, HA, qmg, qm, HB⟩ := hcut
            cases kq with
            | zero => exact absurd HA.out (by simp [qd.j4])
            | succ z1m =>
             have H := HA.out
             clear HA
             simp only [qd.j4] at H
             have zu7 := qf.mk H
             clear H
             go_upto_region 14 with (fail)
             go_cut [8] (fun v8 wc => ∃ (kq : Nat) (zib : Bool), v8 = .bool zib ∧ qf (qd.j5 kq a1 (qx.length : Int) zib qw qy za yg ym yf yh yj qx zx = some r) ∧ qf (kq ≤ z1m) ∧ qf (wc.heap[q9]? = some (.cells #[.int .i64 qw, .int .i64 qy, .int .i64 za, .string yg, .int .i64 ym, .int .i64 yf, .string yh, (.slice qaa yj.length qab), (.slice qai qx.length qaf), (.slice qac zx.length vo)] 30 (0, 0))) ∧ qf (Below w.heap.size w wc))
             case first =>
              as_aux_lemma =>
               have H := zu7.out
               clear zu7
               by_cases c61 : qw = 8
               ·rw [if_pos c61] at H
                have c61b0 : (qw == 8) = true := beq_iff_eq.mpr c61
                have c61b1 : (qw != 8) = false := bne_eq_false_iff_eq.mpr c61
                clear c61
                (first | rw [c61b0] | (simp only [vz, vw]; rw [c61b0]) | skip)
                have H' := qf.mk H
                clear H
                have zlo : wc.cell? ⟨q9, 0, none⟩ = some (.int .i64 qw) := (qb qm.out 0).trans rfl
                have zlp : wc.cell? ⟨q9, 1, none⟩ = some (.int .i64 qy) := (qb qm.out 1).trans rfl
                have zlq : wc.cell? ⟨q9, 2, none⟩ = some (.int .i64 za) := (qb qm.out 2).trans rfl
                have zlr : wc.cell? ⟨q9, 3, none⟩ = some (.string yg) := (qb qm.out 3).trans rfl
                have zls : wc.cell? ⟨q9, 4, none⟩ = some (.int .i64 ym) := (qb qm.out 4).trans rfl
                have zlt : wc.cell? ⟨q9, 5, none⟩ = some (.int .i64 yf) := (qb qm.out 5).trans rfl
                have zlu : wc.cell? ⟨q9, 6, none⟩ = some (.string yh) := (qb qm.out 6).trans rfl
                have zlv : wc.cell? ⟨q9, 7, none⟩ = some (.slice qaa yj.length qab) := (qb qm.out 7).trans rfl
                have zlw : wc.cell? ⟨q9, 8, none⟩ = some (.slice qai qx.length qaf) := (qb qm.out 8).trans rfl
                have zlx : wc.cell? ⟨q9, 9, none⟩ = some (.slice qac zx.length vo) := (qb qm.out 9).trans rfl
                have qu9 := qa qm.out 0
                have qva := qa qm.out 1
                have qvb := qa qm.out 2
                have qvc := qa qm.out 3
                have qvd := qa qm.out 4
                have qve := qa qm.out 5
                have qvf := qa qm.out 6
                have qvg := qa qm.out 7
                have qvh := qa qm.out 8
                have qvi := qa qm.out 9
                go_wp2
                go_meet
                case rel => exact ⟨_, (true), (by first | rfl | (simp; done) | (simp [*]; done)), H', ⟨by have := HJ2.out; have := qf2.out; have := qet.out; have := qkt.out; have := qmg.out; first | omega | exact Nat.le_refl _⟩, ⟨by (with_reducible repeat (first | refine qj ?_ _ | refine qo ?_ | refine qi ?_ _)); exact qm.out⟩, ⟨by repeat (first | (with_reducible first | exact HB.out | apply qg | apply qc | apply qh | refine ql ?_ qbj.out) | exact HB.out)⟩⟩
               ·rw [if_neg c61] at H
                have c61b0 : (qw == 8) = false := beq_eq_false_iff_ne.mpr c61
                have c61b1 : (qw != 8) = true := bne_iff_ne.mpr c61
                (first | rw [c61b0] | (simp only [vz, vw]; rw [c61b0]) | skip)
                by_cases c63 : qw = 9
                ·rw [if_pos c63] at H
                 have c63b0 : (qw == 9) = true := beq_iff_eq.mpr c63
                 have c63b1 : (qw != 9) = false := bne_eq_false_iff_eq.mpr c63
                 clear c63
                 have H' := qf.mk H
                 clear H
                 have qxq : wc.cell? ⟨q9, 0, none⟩ = some (.int .i64 qw) := (qb qm.out 0).trans rfl
                 have qxr : wc.cell? ⟨q9, 1, none⟩ = some (.int .i64 qy) := (qb qm.out 1).trans rfl
                 have qxs : wc.cell? ⟨q9, 2, none⟩ = some (.int .i64 za) := (qb qm.out 2).trans rfl
                 have qxt : wc.cell? ⟨q9, 3, none⟩ = some (.string yg) := (qb qm.out 3).trans rfl
                 have zly : wc.cell? ⟨q9, 4, none⟩ = some (.int .i64 ym) := (qb qm.out 4).trans rfl
                 have zlz : wc.cell? ⟨q9, 5, none⟩ = some (.int .i64 yf) := (qb qm.out 5).trans rfl
                 have zl0 : wc.cell? ⟨q9, 6, none⟩ = some (.string yh) := (qb qm.out 6).trans rfl
                 have zl1 : wc.cell? ⟨q9, 7, none⟩ = some (.slice qaa yj.length qab) := (qb qm.out 7).trans rfl
                 have zl2 : wc.cell? ⟨q9, 8, none⟩ = some (.slice qai qx.length qaf) := (qb qm.out 8).trans rfl
                 have zl3 : wc.cell? ⟨q9, 9, none⟩ = some (.slice qac zx.length vo) := (qb qm.out 9).trans rfl
                 have qlr := qa qm.out 0
                 have qls := qa qm.out 1
                 have qlt := qa qm.out 2
                 have qlu := qa qm.out 3
                 have qvj := qa qm.out 4
                 have qvk := qa qm.out 5
                 have qvl := qa qm.out 6
                 have qvm := qa qm.out 7
                 have qvn := qa qm.out 8
                 have qvo := qa qm.out 9
                 go_wp2
                 go_meet
                 case rel => exact ⟨_, (true), (by first | rfl | (simp; done) | (simp [*]; done)), H', ⟨by have := HJ2.out; have := qf2.out; have := qet.out; have := qkt.out; have := qmg.out; first | omega | exact Nat.le_refl _⟩, ⟨by (with_reducible repeat (first | refine qj ?_ _ | refine qo ?_ | refine qi ?_ _)); exact qm.out⟩, ⟨by repeat (first | (with_reducible first | exact HB.out | apply qg | apply qc | apply qh | refine ql ?_ qbj.out) | exact HB.out)⟩⟩
                ·rw [if_neg c63] at H
                 have c63b0 : (qw == 9) = false := beq_eq_false_iff_ne.mpr c63
                 have c63b1 : (qw != 9) = true := bne_iff_ne.mpr c63
                 have H' := qf.mk H
                 clear H
                 have zl4 : wc.cell? ⟨q9, 0, none⟩ = some (.int .i64 qw) := (qb qm.out 0).trans rfl
                 have zl5 : wc.cell? ⟨q9, 1, none⟩ = some (.int .i64 qy) := (qb qm.out 1).trans rfl
                 have zl6 : wc.cell? ⟨q9, 2, none⟩ = some (.int .i64 za) := (qb qm.out 2).trans rfl
                 have zl7 : wc.cell? ⟨q9, 3, none⟩ = some (.string yg) := (qb qm.out 3).trans rfl
                 have zl8 : wc.cell? ⟨q9, 4, none⟩ = some (.int .i64 ym) := (qb qm.out 4).trans rfl
                 have zl9 : wc.cell? ⟨q9, 5, none⟩ = some (.int .i64 yf) := (qb qm.out 5).trans rfl
                 have zma : wc.cell? ⟨q9, 6, none⟩ = some (.string yh) := (qb qm.out 6).trans rfl
                 have zmb : wc.cell? ⟨q9, 7, none⟩ = some (.slice qaa yj.length qab) := (qb qm.out 7).trans rfl
                 have zmc : wc.cell? ⟨q9, 8, none⟩ = some (.slice qai qx.length qaf) := (qb qm.out 8).trans rfl
                 have zmd : wc.cell? ⟨q9, 9, none⟩ = some (.slice qac zx.length vo) := (qb qm.out 9).trans rfl
                 have qvp := qa qm.out 0
                 have qvq := qa qm.out 1
                 have qvr := qa qm.out 2
                 have qvs := qa qm.out 3
                 have qvt := qa qm.out 4
                 have qvu := qa qm.out 5
                 have qvv := qa qm.out 6
                 have qvw := qa qm.out 7
                 have qvx := qa qm.out 8
                 have qvy := qa qm.out 9
                 go_wp2
                 go_meet
                 case rel => exact ⟨_, ((qw == 12)), (by first | rfl | (simp; done) | (simp [*]; done)), H', ⟨by have := HJ2.out; have := qf2.out; have := qet.out; have := qkt.out; have := qmg.out; first | omega | exact Nat.le_refl _⟩, ⟨by (with_reducible repeat (first | refine qj ?_ _ | refine qo ?_ | refine qi ?_ _)); exact qm.out⟩, ⟨by repeat (first | (with_reducible first | exact HB.out | apply qg | apply qc | apply qh | refine ql ?_ qbj.out) | exact HB.out)⟩⟩
             case rest =>
              clear zu7
              (try clear c2); (try clear p2); (try clear c3); (try clear c4); (try clear c5); (try clear c6); (try clear c29); (try clear c31); (try clear c31b0); (try clear c31b1); (try clear c32); (try clear c32b0); (try clear c34); (try clear c34b0); (try clear c36); (try clear c36b0); (try clear c38); (try clear c38b0); (try clear c40); (try clear c40b0); (try clear c40b1); (try clear c41); (try clear c41b0); (try clear c43); (try clear c43b0); (try clear c43b1); (try clear c47); (try clear c47b0); (try clear c47b1); (try clear c48); (try clear c48b0); (try clear c50); (try clear c50b0); (try clear c52); (try clear c52b0); (try clear c52b1); (try clear c55); (try clear c55b0); (try clear c55b1); (try clear c56); (try clear c56b0); (try clear c56b1); (try clear c61); (try clear c61b0); (try clear c61b1); (try clear c63); (try clear c63b0); (try clear c63b1); (try clear qo5 qo6 qo7 qo8 q1k q1l q1m q1n q1o q1p); (try clear q1q q1r q1s q1t q1u q1v q1w q1x q1y q10); (try clear qt4 qt5 qt6 qt7 zau zav zaw zax zay zaz); (try clear za4 za5 za6 za7 za8 za9 zba zbb zbc zbd); (try clear zbe zbf zbg zbh zbi zbj zbk zbl zbm zbn); (try clear qo9 qpa qpb qpc q11 q12 q13 q14 q17 q18); (try clear zbo zbp zbq zbr zbs zbt zbu zbv zbw zbx); (try clear qug quh qui quj zby zbz zb0 zb1 zb2 zb3); (try clear quk qul qum qun zb4 zb5 zb6 zb7 zb8 zb9); (try clear qlj qlk qll qlm zca zcb zcc zcd zce zcf); (try clear zcg zch zci zcj zck zcl zcm zcn zco zcp); (try clear qup quq qur qus zcq zcr zcs zct zcu zcv); (try clear zcw zcx zcy zcz zc0 zc1 zc2 zc3 zc4 zc5); (try clear zc6 zc7 zc8 zc9 zda zdb zdc zdd zde zdf); (try clear qut quu quv quw zdg zdh zdi zdj zdk zdl); (try clear zlo zlp zlq zlr zls zlt zlu zlv zlw zlx); (try clear qxq qxr qxs qxt zly zlz zl0 zl1 zl2 zl3); (try clear zl4 zl5 zl6 zl7 zl8 zl9 zma zmb zmc zmd); (try clear qh5 qh6 qh7 qh8 qh9 qia); (try clear qd5 qd6 qd7 qd8 qn5 qn6 qn7 qn8 qn9 qoa); (try clear qjy qjz qj0 qj1 qib qic qid qie qif qig); (try clear qih qii qij qik qil qim qin qio qip qiq); (try clear qcr qcs qct qcu qgg qgh qgi qgj qgk qgl); (try clear qdq qdr qds qdt qgm qgn qgo qgp qgq qgr); (try clear qha qhb qhc qhd qhe qhf qhg qhh qhi qhj); (try clear qem qen qeo qep qhk qhl qhm qhn qho qhp); (try clear qir qis qit qiu qm4 qm5 qm6 qm7 qm8 qm9); (try clear qna qnb qnc qnd qne qnf qng qnh qni qnj); (try clear qj6 qj7 qj8 qj9 qpd qpe qpf qpg qph qpi); (try clear qpj qpk qpl qpm qpn qpo qpp qpq qpr qps); (try clear qpt qpu qpv qpw qpx qpy qpz qp0 qp1 qp2); (try clear qiv qiw qix qiy qno qnp qnq qnr qns qnt); (try clear qp3 qp4 qp5 qp6 qp7 qp8 qp9 qqa qqb qqc); (try clear qka qkb qkc qkd qqd qqe qqf qqg qqh qqi); (try clear qke qkf qkg qkh qqj qqk qql qqm qqn qqo); (try clear qgs qgt qgu qgv qqp qqq qqr qqs qqt qqu); (try clear qqv qqw qqx qqy qqz qq0 qq1 qq2 qq3 qq4); (try clear qki qkj qkk qkl qq5 qq6 qq7 qq8 qq9 qra); (try clear qrb qrc qrd qre qrf qrg qrh qri qrj qrk); (try clear qrl qrm qrn qro qrp qrq qrr qrs qrt qru); (try clear qkm qkn qko qkp qrv qrw qrx qry qrz qr0); (try clear qu9 qva qvb qvc qvd qve qvf qvg qvh qvi); (try clear qlr qls qlt qlu qvj qvk qvl qvm qvn qvo); (try clear qvp qvq qvr qvs qvt qvu qvv qvw qvx qvy); (try clear qdu qdv qdw qdx qfl qfm qfn qfo qfp qfq); (try clear qc0 qc7 qc8 qc9 qiz qi0 qi1 qi2 qi3 qi4); (try clear p2)
              obtain ⟨kq, zib, rfl, HA, qou, qm, HB⟩ := hcut
              cases kq with
              | zero => exact absurd HA.out (by simp [qd.j5])
              | succ z1n =>
               have H := HA.out
               clear HA
               simp only [qd.j5] at H
               have zu8 := qf.mk H
               clear H
               go_upto_region 15 with (fail)
               go_cut [9] (fun v9 wc => ∃ (kq : Nat) (qzx : Bool), v9 = .bool qzx ∧ qf (qd.j6 kq a1 (qx.length : Int) zib qzx qw qy za yg ym yf yh yj qx zx = some r) ∧ qf (kq ≤ z1n) ∧ qf (wc.heap[q9]? = some (.cells #[.int .i64 qw, .int .i64 qy, .int .i64 za, .string yg, .int .i64 ym, .int .i64 yf, .string yh, (.slice qaa yj.length qab), (.slice qai qx.length qaf), (.slice qac zx.length vo)] 30 (0, 0))) ∧ qf (Below w.heap.size w wc))
               case first =>
                as_aux_lemma =>
                 have H := zu8.out
                 clear zu8
                 by_cases c67 : qw = 7
                 ·rw [if_pos c67] at H
                  have c67b0 : (qw == 7) = true := beq_iff_eq.mpr c67
                  have c67b1 : (qw != 7) = false := bne_eq_false_iff_eq.mpr c67
                  clear c67
                  (first | rw [c67b0] | (simp only [vz, vw]; rw [c67b0]) | skip)
                  have H' := qf.mk H
                  clear H
                  have zme : wc.cell? ⟨q9, 0, none⟩ = some (.int .i64 qw) := (qb qm.out 0).trans rfl
                  have zmf : wc.cell? ⟨q9, 1, none⟩ = some (.int .i64 qy) := (qb qm.out 1).trans rfl
                  have zmg : wc.cell? ⟨q9, 2, none⟩ = some (.int .i64 za) := (qb qm.out 2).trans rfl
                  have zmh : wc.cell? ⟨q9, 3, none⟩ = some (.string yg) := (qb qm.out 3).trans rfl
                  have zsz : wc.cell? ⟨q9, 4, none⟩ = some (.int .i64 ym) := (qb qm.out 4).trans rfl
                  have zs1 : wc.cell? ⟨q9, 5, none⟩ = some (.int .i64 yf) := (qb qm.out 5).trans rfl
                  have zs2 : wc.cell? ⟨q9, 6, none⟩ = some (.string yh) := (qb qm.out 6).trans rfl
                  have zs3 : wc.cell? ⟨q9, 7, none⟩ = some (.slice qaa yj.length qab) := (qb qm.out 7).trans rfl
                  have zs4 : wc.cell? ⟨q9, 8, none⟩ = some (.slice qai qx.length qaf) := (qb qm.out 8).trans rfl
                  have zs5 : wc.cell? ⟨q9, 9, none⟩ = some (.slice qac zx.length vo) := (qb qm.out 9).trans rfl
                  have qvz := qa qm.out 0
                  have qv0 := qa qm.out 1
                  have qv1 := qa qm.out 2
                  have qv2 := qa qm.out 3
                  have qyn := qa qm.out 4
                  have qyo := qa qm.out 5
                  have qyp := qa qm.out 6
                  have qyq := qa qm.out 7
                  have qyr := qa qm.out 8
                  have qys := qa qm.out 9
                  go_wp2
                  go_meet
                  case rel => exact ⟨_, (true), (by first | rfl | (simp; done) | (simp [*]; done)), H', ⟨by have := HJ2.out; have := qf2.out; have := qet.out; have := qkt.out; have := qmg.out; have := qou.out; first | omega | exact Nat.le_refl _⟩, ⟨by (with_reducible repeat (first | refine qj ?_ _ | refine qo ?_ | refine qi ?_ _)); exact qm.out⟩, ⟨by repeat (first | (with_reducible first | exact HB.out | apply qg | apply qc | apply qh | refine ql ?_ qbj.out) | exact HB.out)⟩⟩
                 ·rw [if_neg c67] at H
                  have c67b0 : (qw == 7) = false := beq_eq_false_iff_ne.mpr c67
                  have c67b1 : (qw != 7) = true := bne_iff_ne.mpr c67
                  (first | rw [c67b0] | (simp only [vz, vw]; rw [c67b0]) | skip)
                  have H' := qf.mk H
                  clear H
                  have q2d : wc.cell? ⟨q9, 0, none⟩ = some (.int .i64 qw) := (qb qm.out 0).trans rfl
                  have q2e : wc.cell? ⟨q9, 1, none⟩ = some (.int .i64 qy) := (qb qm.out 1).trans rfl
                  have q2f : wc.cell? ⟨q9, 2, none⟩ = some (.int .i64 za) := (qb qm.out 2).trans rfl
                  have q2g : wc.cell? ⟨q9, 3, none⟩ = some (.string yg) := (qb qm.out 3).trans rfl
                  have zs6 : wc.cell? ⟨q9, 4, none⟩ = some (.int .i64 ym) := (qb qm.out 4).trans rfl
                  have zs7 : wc.cell? ⟨q9, 5, none⟩ = some (.int .i64 yf) := (qb qm.out 5).trans rfl
                  have zs8 : wc.cell? ⟨q9, 6, none⟩ = some (.string yh) := (qb qm.out 6).trans rfl
                  have zs9 : wc.cell? ⟨q9, 7, none⟩ = some (.slice qaa yj.length qab) := (qb qm.out 7).trans rfl
                  have zta : wc.cell? ⟨q9, 8, none⟩ = some (.slice qai qx.length qaf) := (qb qm.out 8).trans rfl
                  have ztb : wc.cell? ⟨q9, 9, none⟩ = some (.slice qac zx.length vo) := (qb qm.out 9).trans rfl
                  have qnu := qa qm.out 0
                  have qnv := qa qm.out 1
                  have qnw := qa qm.out 2
                  have qnx := qa qm.out 3
                  have qyt := qa qm.out 4
                  have qyu := qa qm.out 5
                  have qyv := qa qm.out 6
                  have qyw := qa qm.out 7
                  have qyx := qa qm.out 8
                  have qyy := qa qm.out 9
                  go_wp2
                  go_meet
                  case rel => exact ⟨_, ((qw == 8)), (by first | rfl | (simp; done) | (simp [*]; done)), H', ⟨by have := HJ2.out; have := qf2.out; have := qet.out; have := qkt.out; have := qmg.out; have := qou.out; first | omega | exact Nat.le_refl _⟩, ⟨by (with_reducible repeat (first | refine qj ?_ _ | refine qo ?_ | refine qi ?_ _)); exact qm.out⟩, ⟨by repeat (first | (with_reducible first | exact HB.out | apply qg | apply qc | apply qh | refine ql ?_ qbj.out) | exact HB.out)⟩⟩
               case rest =>
                clear zu8
                (try clear c2); (try clear p2); (try clear c3); (try clear c4); (try clear c5); (try clear c6); (try clear c29); (try clear c31); (try clear c31b0); (try clear c31b1); (try clear c32); (try clear c32b0); (try clear c34); (try clear c34b0); (try clear c36); (try clear c36b0); (try clear c38); (try clear c38b0); (try clear c40); (try clear c40b0); (try clear c40b1); (try clear c41); (try clear c41b0); (try clear c43); (try clear c43b0); (try clear c43b1); (try clear c47); (try clear c47b0); (try clear c47b1); (try clear c48); (try clear c48b0); (try clear c50); (try clear c50b0); (try clear c52); (try clear c52b0); (try clear c52b1); (try clear c55); (try clear c55b0); (try clear c55b1); (try clear c56); (try clear c56b0); (try clear c56b1); (try clear c61); (try clear c61b0); (try clear c61b1); (try clear c63); (try clear c63b0); (try clear c63b1); (try clear c67); (try clear c67b0); (try clear c67b1); (try clear qo5 qo6 qo7 qo8 q1k q1l q1m q1n q1o q1p); (try clear q1q q1r q1s q1t q1u q1v q1w q1x q1y q10); (try clear qt4 qt5 qt6 qt7 zau zav zaw zax zay zaz); (try clear za4 za5 za6 za7 za8 za9 zba zbb zbc zbd); (try clear zbe zbf zbg zbh zbi zbj zbk zbl zbm zbn); (try clear qo9 qpa qpb qpc q11 q12 q13 q14 q17 q18); (try clear zbo zbp zbq zbr zbs zbt zbu zbv zbw zbx); (try clear qug quh qui quj zby zbz zb0 zb1 zb2 zb3); (try clear quk qul qum qun zb4 zb5 zb6 zb7 zb8 zb9); (try clear qlj qlk qll qlm zca zcb zcc zcd zce zcf); (try clear zcg zch zci zcj zck zcl zcm zcn zco zcp); (try clear qup quq qur qus zcq zcr zcs zct zcu zcv); (try clear zcw zcx zcy zcz zc0 zc1 zc2 zc3 zc4 zc5); (try clear zc6 zc7 zc8 zc9 zda zdb zdc zdd zde zdf); (try clear qut quu quv quw zdg zdh zdi zdj zdk zdl); (try clear zlo zlp zlq zlr zls zlt zlu zlv zlw zlx); (try clear qxq qxr qxs qxt zly zlz zl0 zl1 zl2 zl3); (try clear zl4 zl5 zl6 zl7 zl8 zl9 zma zmb zmc zmd); (try clear zme zmf zmg zmh zsz zs1 zs2 zs3 zs4 zs5); (try clear q2d q2e q2f q2g zs6 zs7 zs8 zs9 zta ztb); (try clear qh5 qh6 qh7 qh8 qh9 qia); (try clear qd5 qd6 qd7 qd8 qn5 qn6 qn7 qn8 qn9 qoa); (try clear qjy qjz qj0 qj1 qib qic qid qie qif qig); (try clear qih qii qij qik qil qim qin qio qip qiq); (try clear qcr qcs qct qcu qgg qgh qgi qgj qgk qgl); (try clear qdq qdr qds qdt qgm qgn qgo qgp qgq qgr); (try clear qha qhb qhc qhd qhe qhf qhg qhh qhi qhj); (try clear qem qen qeo qep qhk qhl qhm qhn qho qhp); (try clear qir qis qit qiu qm4 qm5 qm6 qm7 qm8 qm9); (try clear qna qnb qnc qnd qne qnf qng qnh qni qnj); (try clear qj6 qj7 qj8 qj9 qpd qpe qpf qpg qph qpi); (try clear qpj qpk qpl qpm qpn qpo qpp qpq qpr qps); (try clear qpt qpu qpv qpw qpx qpy qpz qp0 qp1 qp2); (try clear qiv qiw qix qiy qno qnp qnq qnr qns qnt); (try clear qp3 qp4 qp5 qp6 qp7 qp8 qp9 qqa qqb qqc); (try clear qka qkb qkc qkd qqd qqe qqf qqg qqh qqi); (try clear qke qkf qkg qkh qqj qqk qql qqm qqn qqo); (try clear qgs qgt qgu qgv qqp qqq qqr qqs qqt qqu); (try clear qqv qqw qqx qqy qqz qq0 qq1 qq2 qq3 qq4); (try clear qki qkj qkk qkl qq5 qq6 qq7 qq8 qq9 qra); (try clear qrb qrc qrd qre qrf qrg qrh qri qrj qrk); (try clear qrl qrm qrn qro qrp qrq qrr qrs qrt qru); (try clear qkm qkn qko qkp qrv qrw qrx qry qrz qr0); (try clear qu9 qva qvb qvc qvd qve qvf qvg qvh qvi); (try clear qlr qls qlt qlu qvj qvk qvl qvm qvn qvo); (try clear qvp qvq qvr qvs qvt qvu qvv qvw qvx qvy); (try clear qvz qv0 qv1 qv2 qyn qyo qyp qyq qyr qys); (try clear qnu qnv qnw qnx qyt qyu qyv qyw qyx qyy); (try clear qdu qdv qdw qdx qfl qfm qfn qfo qfp qfq); (try clear qc0 qc7 qc8 qc9 qiz qi0 qi1 qi2 qi3 qi4); (try clear p2)
                obtain ⟨kq, qzx, rfl, HA, qtb, qm, HB⟩ := hcut
                cases kq with
                | zero => exact absurd HA.out (by simp [qd.j6])
                | succ qcz =>
                 have H := HA.out
                 clear HA
                 simp only [qd.j6] at H
                 have zu9 := qf.mk H
                 clear H
                 go_upto_region 16 with (fail)
                 go_cut [195] (fun z1x wc => ∃ (kq : Nat) (q6r : Bool), z1x = .bool q6r ∧ qf (qd.j7 kq a1 (qx.length : Int) q6r qw qy za yg ym yf yh yj qx zx = some r) ∧ qf (kq ≤ qcz) ∧ qf (wc.heap[q9]? = some (.cells #[.int .i64 qw, .int .i64 qy, .int .i64 za, .string yg, .int .i64 ym, .int .i64 yf, .string yh, (.slice qaa yj.length qab), (.slice qai qx.length qaf), (.slice qac zx.length vo)] 30 (0, 0))) ∧ qf (Below w.heap.size w wc))
                 case first =>
                  as_aux_lemma =>
                   have H := zu9.out
                   clear zu9
                   by_cases c71 : zib = true
                   ·subst c71
                    have H1 : ((zt.f qcz yg).bind fun t222 => (if t222 = true then (if qzx = true then ((zi.f qcz ym yf yh yj).bind fun q0l => (if q0l = true then (qd.j7 qcz a1 (qx.length : Int) false qw qy za yg ym yf yh yj qx zx) else (qd.j7 qcz a1 (qx.length : Int) true qw qy za yg ym yf yh yj qx zx))) else ((yo.f qcz ym yf yh yj).bind fun q0b => (qd.j7 qcz a1 (qx.length : Int) (!q0b) qw qy za yg ym yf yh yj qx zx))) else (qd.j7 qcz a1 (qx.length : Int) true qw qy za yg ym yf yh yj qx zx))) = some r := by rw [if_pos rfl] at H; exact H
                    clear H
                    have H := H1
                    clear H1
                    replace H := Option.bind_eq_some_iff.mp H
                    obtain ⟨t222, zwy, H⟩ := H
                    replace H : (if t222 = true then (if qzx = true then ((zi.f qcz ym yf yh yj).bind fun q0l => (if q0l = true then (qd.j7 qcz a1 (qx.length : Int) false qw qy za yg ym yf yh yj qx zx) else (qd.j7 qcz a1 (qx.length : Int) true qw qy za yg ym yf yh yj qx zx))) else ((yo.f qcz ym yf yh yj).bind fun q0b => (qd.j7 qcz a1 (qx.length : Int) (!q0b) qw qy za yg ym yf yh yj qx zx))) else (qd.j7 qcz a1 (qx.length : Int) true qw qy za yg ym yf yh yj qx zx)) = some r := H
                    have A72 := qf.mk zwy
                    clear zwy
                    by_cases c73 : t222 = true
                    ·subst c73
                     have H1 : (if qzx = true then ((zi.f qcz ym yf yh yj).bind fun q0l => (if q0l = true then (qd.j7 qcz a1 (qx.length : Int) false qw qy za yg ym yf yh yj qx zx) else (qd.j7 qcz a1 (qx.length : Int) true qw qy za yg ym yf yh yj qx zx))) else ((yo.f qcz ym yf yh yj).bind fun q0b => (qd.j7 qcz a1 (qx.length : Int) (!q0b) qw qy za yg ym yf yh yj qx zx))) = some r := by rw [if_pos rfl] at H; exact H
                     clear H
                     have H := H1
                     clear H1
                     by_cases c74 : qzx = true
                     ·subst c74
                      have H1 : ((zi.f qcz ym yf yh yj).bind fun q0l => (if q0l = true then (qd.j7 qcz a1 (qx.length : Int) false qw qy za yg ym yf yh yj qx zx) else (qd.j7 qcz a1 (qx.length : Int) true qw qy za yg ym yf yh yj qx zx))) = some r := by rw [if_pos rfl] at H; exact H
                      clear H
                      have H := H1
                      clear H1
                      replace H := Option.bind_eq_some_iff.mp H
                      obtain ⟨q0l, zwz, H⟩ := H
                      replace H : (if q0l = true then (qd.j7 qcz a1 (qx.length : Int) false qw qy za yg ym yf yh yj qx zx) else (qd.j7 qcz a1 (qx.length : Int) true qw qy za yg ym yf yh yj qx zx)) = some r := H
                      have A75 := qf.mk zwz
                      clear zwz
                      by_cases c76 : q0l = true
                      ·subst c76
                       have H1 : (qd.j7 qcz a1 (qx.length : Int) false qw qy za yg ym yf yh yj qx zx) = some r := by rw [if_pos rfl] at H; exact H
                       clear H
                       have H := H1
                       clear H1
                       have H' := qf.mk H
                       clear H
                       have ztc : wc.cell? ⟨q9, 0, none⟩ = some (.int .i64 qw) := (qb qm.out 0).trans rfl
                       have ztd : wc.cell? ⟨q9, 1, none⟩ = some (.int .i64 qy) := (qb qm.out 1).trans rfl
                       have zte : wc.cell? ⟨q9, 2, none⟩ = some (.int .i64 za) := (qb qm.out 2).trans rfl
                       have ztf : wc.cell? ⟨q9, 3, none⟩ = some (.string yg) := (qb qm.out 3).trans rfl
                       have zdm : wc.cell? ⟨q9, 4, none⟩ = some (.int .i64 ym) := (qb qm.out 4).trans rfl
                       have zdn : wc.cell? ⟨q9, 5, none⟩ = some (.int .i64 yf) := (qb qm.out 5).trans rfl
                       have zdo : wc.cell? ⟨q9, 6, none⟩ = some (.string yh) := (qb qm.out 6).trans rfl
                       have zdp : wc.cell? ⟨q9, 7, none⟩ = some (.slice qaa yj.length qab) := (qb qm.out 7).trans rfl
                       have zdq : wc.cell? ⟨q9, 8, none⟩ = some (.slice qai qx.length qaf) := (qb qm.out 8).trans rfl
                       have zdr : wc.cell? ⟨q9, 9, none⟩ = some (.slice qac zx.length vo) := (qb qm.out 9).trans rfl
                       have q35 := qa qm.out 0
                       have q36 := qa qm.out 1
                       have q37 := qa qm.out 2
                       have q38 := qa qm.out 3
                       have q39 := qa qm.out 4
                       have q4a := qa qm.out 5
                       have q4b := qa qm.out 6
                       have q4c := qa qm.out 7
                       have q4d := qa qm.out 8
                       have q4e := qa qm.out 9
                       go_wp2_with (first | (go_at_call 21; (with_reducible refine (zt.calls qcz yg true _ A72.out).mono ?_); rintro e w78 ⟨rfl, hb⟩; have n0_ := qf.mk (zl (g := q9) (o := .cells #[.int .i64 qw, .int .i64 qy, .int .i64 za, .string yg, .int .i64 ym, .int .i64 yf, .string yh, .slice qaa yj.length qab, .slice qai qx.length qaf, .slice qac zx.length vo] 30 (0, 0)) (by (with_reducible repeat (first | refine qj ?_ _ | refine qo ?_ | refine qi ?_ _)); exact qm.out) hb); have n1_ := qf.mk (zk (by repeat (first | (with_reducible first | exact HB.out | apply qg | apply qc | apply qh | refine ql ?_ qbj.out) | exact HB.out)) hb); clear qm; clear HB; have qm := n0_; have HB := n1_; clear n0_ n1_; (try clear hb); (try clear hb2); (try clear hk); (try clear hi); have zds : w78.cell? ⟨q9, 0, none⟩ = some (.int .i64 qw) := (qb qm.out 0).trans rfl; have zdt : w78.cell? ⟨q9, 1, none⟩ = some (.int .i64 qy) := (qb qm.out 1).trans rfl; have zdu : w78.cell? ⟨q9, 2, none⟩ = some (.int .i64 za) := (qb qm.out 2).trans rfl; have zdv : w78.cell? ⟨q9, 3, none⟩ = some (.string yg) := (qb qm.out 3).trans rfl; have zdw : w78.cell? ⟨q9, 4, none⟩ = some (.int .i64 ym) := (qb qm.out 4).trans rfl; have zdx : w78.cell? ⟨q9, 5, none⟩ = some (.int .i64 yf) := (qb qm.out 5).trans rfl; have zdy : w78.cell? ⟨q9, 6, none⟩ = some (.string yh) := (qb qm.out 6).trans rfl; have zdz : w78.cell? ⟨q9, 7, none⟩ = some (.slice qaa yj.length qab) := (qb qm.out 7).trans rfl; have zd0 : w78.cell? ⟨q9, 8, none⟩ = some (.slice qai qx.length qaf) := (qb qm.out 8).trans rfl; have zd1 : w78.cell? ⟨q9, 9, none⟩ = some (.slice qac zx.length vo) := (qb qm.out 9).trans rfl; have q4f := qa qm.out 0; have q4g := qa qm.out 1; have q4h := qa qm.out 2; have q4i := qa qm.out 3; have q4j := qa qm.out 4; have q4k := qa qm.out 5; have q4l := qa qm.out 6; have q4m := qa qm.out 7; have q4n := qa qm.out 8; have q4o := qa qm.out 9) | (go_at_call 22; (with_reducible refine (zi.calls qcz ym yf yh _ _ yj true _ ?side1 ?side2 A75.out).mono ?_); (case side1 => repeat (first | exact (Kd.vv qlc.out HB.out) | (with_reducible refine Kd.qba ?_ _) | (with_reducible refine Kd.qaz ?_ _) | (with_reducible refine Kd.qbq ?_))); (case side2 => exact qla.out); rintro e w80 ⟨rfl, hb⟩; have n0_ := qf.mk (zl (g := q9) (o := .cells #[.int .i64 qw, .int .i64 qy, .int .i64 za, .string yg, .int .i64 ym, .int .i64 yf, .string yh, .slice qaa yj.length qab, .slice qai qx.length qaf, .slice qac zx.length vo] 30 (0, 0)) (by (with_reducible repeat (first | refine qj ?_ _ | refine qo ?_ | refine qi ?_ _)); exact qm.out) hb); have n1_ := qf.mk (zk (by repeat (first | (with_reducible first | exact HB.out | apply qg | apply qc | apply qh | refine ql ?_ qbj.out) | exact HB.out)) hb); clear qm; clear HB; have qm := n0_; have HB := n1_; clear n0_ n1_; (try clear hb); (try clear hb2); (try clear hk); (try clear hi)))
                       go_meet
                       case rel => exact ⟨_, (false), (by first | rfl | (simp; done) | (simp [*]; done)), H', ⟨by have := HJ2.out; have := qf2.out; have := qet.out; have := qkt.out; have := qmg.out; have := qou.out; have := qtb.out; first | omega | exact Nat.le_refl _⟩, ⟨by (with_reducible repeat (first | refine qj ?_ _ | refine qo ?_ | refine qi ?_ _)); exact qm.out⟩, ⟨by repeat (first | (with_reducible first | exact HB.out | apply qg | apply qc | apply qh | refine ql ?_ qbj.out) | exact HB.out)⟩⟩
                      ·replace c76 := Bool.eq_false_iff.mpr c76
                       subst c76
                       have H1 : (qd.j7 qcz a1 (qx.length : Int) true qw qy za yg ym yf yh yj qx zx) = some r := by rw [if_neg (show ¬ (false = true) by decide)] at H; exact H
                       clear H
                       have H := H1
                       clear H1
                       have H' := qf.mk H
                       clear H
                       have zd2 : wc.cell? ⟨q9, 0, none⟩ = some (.int .i64 qw) := (qb qm.out 0).trans rfl
                       have zd3 : wc.cell? ⟨q9, 1, none⟩ = some (.int .i64 qy) := (qb qm.out 1).trans rfl
                       have zd4 : wc.cell? ⟨q9, 2, none⟩ = some (.int .i64 za) := (qb qm.out 2).trans rfl
                       have zd5 : wc.cell? ⟨q9, 3, none⟩ = some (.string yg) := (qb qm.out 3).trans rfl
                       have zd6 : wc.cell? ⟨q9, 4, none⟩ = some (.int .i64 ym) := (qb qm.out 4).trans rfl
                       have zd7 : wc.cell? ⟨q9, 5, none⟩ = some (.int .i64 yf) := (qb qm.out 5).trans rfl
                       have zd8 : wc.cell? ⟨q9, 6, none⟩ = some (.string yh) := (qb qm.out 6).trans rfl
                       have zd9 : wc.cell? ⟨q9, 7, none⟩ = some (.slice qaa yj.length qab) := (qb qm.out 7).trans rfl
                       have zea : wc.cell? ⟨q9, 8, none⟩ = some (.slice qai qx.length qaf) := (qb qm.out 8).trans rfl
                       have zeb : wc.cell? ⟨q9, 9, none⟩ = some (.slice qac zx.length vo) := (qb qm.out 9).trans rfl
                       have q4p := qa qm.out 0
                       have q4q := qa qm.out 1
                       have q4r := qa qm.out 2
                       have q4s := qa qm.out 3
                       have q4t := qa qm.out 4
                       have q4u := qa qm.out 5
                       have q4v := qa qm.out 6
                       have q4w := qa qm.out 7
                       have q4x := qa qm.out 8
                       have q4y := qa qm.out 9
                       go_wp2_with (first | (go_at_call 21; (with_reducible refine (zt.calls qcz yg true _ A72.out).mono ?_); rintro e w82 ⟨rfl, hb⟩; have n0_ := qf.mk (zl (g := q9) (o := .cells #[.int .i64 qw, .int .i64 qy, .int .i64 za, .string yg, .int .i64 ym, .int .i64 yf, .string yh, .slice qaa yj.length qab, .slice qai qx.length qaf, .slice qac zx.length vo] 30 (0, 0)) (by (with_reducible repeat (first | refine qj ?_ _ | refine qo ?_ | refine qi ?_ _)); exact qm.out) hb); have n1_ := qf.mk (zk (by repeat (first | (with_reducible first | exact HB.out | apply qg | apply qc | apply qh | refine ql ?_ qbj.out) | exact HB.out)) hb); clear qm; clear HB; have qm := n0_; have HB := n1_; clear n0_ n1_; (try clear hb); (try clear hb2); (try clear hk); (try clear hi); have zec : w82.cell? ⟨q9, 0, none⟩ = some (.int .i64 qw) := (qb qm.out 0).trans rfl; have zed : w82.cell? ⟨q9, 1, none⟩ = some (.int .i64 qy) := (qb qm.out 1).trans rfl; have zee : w82.cell? ⟨q9, 2, none⟩ = some (.int .i64 za) := (qb qm.out 2).trans rfl; have zef : w82.cell? ⟨q9, 3, none⟩ = some (.string yg) := (qb qm.out 3).trans rfl; have zeg : w82.cell? ⟨q9, 4, none⟩ = some (.int .i64 ym) := (qb qm.out 4).trans rfl; have zeh : w82.cell? ⟨q9, 5, none⟩ = some (.int .i64 yf) := (qb qm.out 5).trans rfl; have zei : w82.cell? ⟨q9, 6, none⟩ = some (.string yh) := (qb qm.out 6).trans rfl; have zej : w82.cell? ⟨q9, 7, none⟩ = some (.slice qaa yj.length qab) := (qb qm.out 7).trans rfl; have zek : w82.cell? ⟨q9, 8, none⟩ = some (.slice qai qx.length qaf) := (qb qm.out 8).trans rfl; have zel : w82.cell? ⟨q9, 9, none⟩ = some (.slice qac zx.length vo) := (qb qm.out 9).trans rfl; have q40 := qa qm.out 0; have q41 := qa qm.out 1; have q42 := qa qm.out 2; have q43 := qa qm.out 3; have q44 := qa qm.out 4; have q45 := qa qm.out 5; have q46 := qa qm.out 6; have q47 := qa qm.out 7; have q48 := qa qm.out 8; have q49 := qa qm.out 9) | (go_at_call 22; (with_reducible refine (zi.calls qcz ym yf yh _ _ yj false _ ?side1 ?side2 A75.out).mono ?_); (case side1 => repeat (first | exact (Kd.vv qlc.out HB.out) | (with_reducible refine Kd.qba ?_ _) | (with_reducible refine Kd.qaz ?_ _) | (with_reducible refine Kd.qbq ?_))); (case side2 => exact qla.out); rintro e w84 ⟨rfl, hb⟩; have n0_ := qf.mk (zl (g := q9) (o := .cells #[.int .i64 qw, .int .i64 qy, .int .i64 za, .string yg, .int .i64 ym, .int .i64 yf, .string yh, .slice qaa yj.length qab, .slice qai qx.length qaf, .slice qac zx.length vo] 30 (0, 0)) (by (with_reducible repeat (first | refine qj ?_ _ | refine qo ?_ | refine qi ?_ _)); exact qm.out) hb); have n1_ := qf.mk (zk (by repeat (first | (with_reducible first | exact HB.out | apply qg | apply qc | apply qh | refine ql ?_ qbj.out) | exact HB.out)) hb); clear qm; clear HB; have qm := n0_; have HB := n1_; clear n0_ n1_; (try clear hb); (try clear hb2); (try clear hk); (try clear hi)))
                       go_meet
                       case rel => exact ⟨_, (true), (by first | rfl | (simp; done) | (simp [*]; done)), H', ⟨by have := HJ2.out; have := qf2.out; have := qet.out; have := qkt.out; have := qmg.out; have := qou.out; have := qtb.out; first | omega | exact Nat.le_refl _⟩, ⟨by (with_reducible repeat (first | refine qj ?_ _ | refine qo ?_ | refine qi ?_ _)); exact qm.out⟩, ⟨by repeat (first | (with_reducible first | exact HB.out | apply qg | apply qc | apply qh | refine ql ?_ qbj.out) | exact HB.out)⟩⟩
                     ·replace c74 := Bool.eq_false_iff.mpr c74
                      subst c74
                      have H1 : ((yo.f qcz ym yf yh yj).bind fun q0b => (qd.j7 qcz a1 (qx.length : Int) (!q0b) qw qy za yg ym yf yh yj qx zx)) = some r := by rw [if_neg (show ¬ (false = true) by decide)] at H; exact H
                      clear H
                      have H := H1
                      clear H1
                      replace H := Option.bind_eq_some_iff.mp H
                      obtain ⟨q0b, zw0, H⟩ := H
                      replace H : (qd.j7 qcz a1 (qx.length : Int) (!q0b) qw qy za yg ym yf yh yj qx zx) = some r := H
                      have A85 := qf.mk zw0
                      clear zw0
                      have H' := qf.mk H
                      clear H
                      have zem : wc.cell? ⟨q9, 0, none⟩ = some (.int .i64 qw) := (qb qm.out 0).trans rfl
                      have zen : wc.cell? ⟨q9, 1, none⟩ = some (.int .i64 qy) := (qb qm.out 1).trans rfl
                      have zeo : wc.cell? ⟨q9, 2, none⟩ = some (.int .i64 za) := (qb qm.out 2).trans rfl
                      have zep : wc.cell? ⟨q9, 3, none⟩ = some (.string yg) := (qb qm.out 3).trans rfl
                      have zeq : wc.cell? ⟨q9, 4, none⟩ = some (.int .i64 ym) := (qb qm.out 4).trans rfl
                      have zer : wc.cell? ⟨q9, 5, none⟩ = some (.int .i64 yf) := (qb qm.out 5).trans rfl
                      have zes : wc.cell? ⟨q9, 6, none⟩ = some (.string yh) := (qb qm.out 6).trans rfl
                      have q2h : wc.cell? ⟨q9, 7, none⟩ = some (.slice qaa yj.length qab) := (qb qm.out 7).trans rfl
                      have q2i : wc.cell? ⟨q9, 8, none⟩ = some (.slice qai qx.length qaf) := (qb qm.out 8).trans rfl
                      have q2j : wc.cell? ⟨q9, 9, none⟩ = some (.slice qac zx.length vo) := (qb qm.out 9).trans rfl
                      have q5a := qa qm.out 0
                      have q5b := qa qm.out 1
                      have q5c := qa qm.out 2
                      have q5d := qa qm.out 3
                      have q5e := qa qm.out 4
                      have q5f := qa qm.out 5
                      have q5g := qa qm.out 6
                      have q5h := qa qm.out 7
                      have q5i := qa qm.out 8
                      have q5j := qa qm.out 9
                      go_wp2_with (first | (go_at_call 21; (with_reducible refine (zt.calls qcz yg true _ A72.out).mono ?_); rintro e w87 ⟨rfl, hb⟩; have n0_ := qf.mk (zl (g := q9) (o := .cells #[.int .i64 qw, .int .i64 qy, .int .i64 za, .string yg, .int .i64 ym, .int .i64 yf, .string yh, .slice qaa yj.length qab, .slice qai qx.length qaf, .slice qac zx.length vo] 30 (0, 0)) (by (with_reducible repeat (first | refine qj ?_ _ | refine qo ?_ | refine qi ?_ _)); exact qm.out) hb); have n1_ := qf.mk (zk (by repeat (first | (with_reducible first | exact HB.out | apply qg | apply qc | apply qh | refine ql ?_ qbj.out) | exact HB.out)) hb); clear qm; clear HB; have qm := n0_; have HB := n1_; clear n0_ n1_; (try clear hb); (try clear hb2); (try clear hk); (try clear hi); have q2k : w87.cell? ⟨q9, 0, none⟩ = some (.int .i64 qw) := (qb qm.out 0).trans rfl; have q2l : w87.cell? ⟨q9, 1, none⟩ = some (.int .i64 qy) := (qb qm.out 1).trans rfl; have q2m : w87.cell? ⟨q9, 2, none⟩ = some (.int .i64 za) := (qb qm.out 2).trans rfl; have q2n : w87.cell? ⟨q9, 3, none⟩ = some (.string yg) := (qb qm.out 3).trans rfl; have q2o : w87.cell? ⟨q9, 4, none⟩ = some (.int .i64 ym) := (qb qm.out 4).trans rfl; have q2p : w87.cell? ⟨q9, 5, none⟩ = some (.int .i64 yf) := (qb qm.out 5).trans rfl; have q2q : w87.cell? ⟨q9, 6, none⟩ = some (.string yh) := (qb qm.out 6).trans rfl; have q2r : w87.cell? ⟨q9, 7, none⟩ = some (.slice qaa yj.length qab) := (qb qm.out 7).trans rfl; have q2s : w87.cell? ⟨q9, 8, none⟩ = some (.slice qai qx.length qaf) := (qb qm.out 8).trans rfl; have q2t : w87.cell? ⟨q9, 9, none⟩ = some (.slice qac zx.length vo) := (qb qm.out 9).trans rfl; have q5k := qa qm.out 0; have q5l := qa qm.out 1; have q5m := qa qm.out 2; have q5n := qa qm.out 3; have q5o := qa qm.out 4; have q5p := qa qm.out 5; have q5q := qa qm.out 6; have q5r := qa qm.out 7; have q5s := qa qm.out 8; have q5t := qa qm.out 9) | (go_at_call 23; (with_reducible refine (yo.calls qcz ym yf yh _ _ yj q0b _ ?side1 ?side2 A85.out).mono ?_); (case side1 => repeat (first | exact (Kd.vv qlc.out HB.out) | (with_reducible refine Kd.qba ?_ _) | (with_reducible refine Kd.qaz ?_ _) | (with_reducible refine Kd.qbq ?_))); (case side2 => exact qla.out); rintro e w89 ⟨rfl, hb⟩; have n0_ := qf.mk (zl (g := q9) (o := .cells #[.int .i64 qw, .int .i64 qy, .int .i64 za, .string yg, .int .i64 ym, .int .i64 yf, .string yh, .slice qaa yj.length qab, .slice qai qx.length qaf, .slice qac zx.length vo] 30 (0, 0)) (by (with_reducible repeat (first | refine qj ?_ _ | refine qo ?_ | refine qi ?_ _)); exact qm.out) hb); have n1_ := qf.mk (zk (by repeat (first | (with_reducible first | exact HB.out | apply qg | apply qc | apply qh | refine ql ?_ qbj.out) | exact HB.out)) hb); clear qm; clear HB; have qm := n0_; have HB := n1_; clear n0_ n1_; (try clear hb); (try clear hb2); (try clear hk); (try clear hi)))
                      go_meet
                      case rel => exact ⟨_, (!q0b), (by first | rfl | (simp; done) | (simp [*]; done)), H', ⟨by have := HJ2.out; have := qf2.out; have := qet.out; have := qkt.out; have := qmg.out; have := qou.out; have := qtb.out; first | omega | exact Nat.le_refl _⟩, ⟨by (with_reducible repeat (first | refine qj ?_ _ | refine qo ?_ | refine qi ?_ _)); exact qm.out⟩, ⟨by repeat (first | (with_reducible first | exact HB.out | apply qg | apply qc | apply qh | refine ql ?_ qbj.out) | exact HB.out)⟩⟩
                    ·replace c73 := Bool.eq_false_iff.mpr c73
                     subst c73
                     have H1 : (qd.j7 qcz a1 (qx.length : Int) true qw qy za yg ym yf yh yj qx zx) = some r := by rw [if_neg (show ¬ (false = true) by decide)] at H; exact H
                     clear H
                     have H := H1
                     clear H1
                     have H' := qf.mk H
                     clear H
                     have q2u : wc.cell? ⟨q9, 0, none⟩ = some (.int .i64 qw) := (qb qm.out 0).trans rfl
                     have q2v : wc.cell? ⟨q9, 1, none⟩ = some (.int .i64 qy) := (qb qm.out 1).trans rfl
                     have q2w : wc.cell? ⟨q9, 2, none⟩ = some (.int .i64 za) := (qb qm.out 2).trans rfl
                     have q2x : wc.cell? ⟨q9, 3, none⟩ = some (.string yg) := (qb qm.out 3).trans rfl
                     have q2y : wc.cell? ⟨q9, 4, none⟩ = some (.int .i64 ym) := (qb qm.out 4).trans rfl
                     have q20 : wc.cell? ⟨q9, 5, none⟩ = some (.int .i64 yf) := (qb qm.out 5).trans rfl
                     have q21 : wc.cell? ⟨q9, 6, none⟩ = some (.string yh) := (qb qm.out 6).trans rfl
                     have q23 : wc.cell? ⟨q9, 7, none⟩ = some (.slice qaa yj.length qab) := (qb qm.out 7).trans rfl
                     have q25 : wc.cell? ⟨q9, 8, none⟩ = some (.slice qai qx.length qaf) := (qb qm.out 8).trans rfl
                     have q26 : wc.cell? ⟨q9, 9, none⟩ = some (.slice qac zx.length vo) := (qb qm.out 9).trans rfl
                     have q5u := qa qm.out 0
                     have q5v := qa qm.out 1
                     have q5w := qa qm.out 2
                     have q5x := qa qm.out 3
                     have q5y := qa qm.out 4
                     have q50 := qa qm.out 5
                     have q51 := qa qm.out 6
                     have q52 := qa qm.out 7
                     have q53 := qa qm.out 8
                     have q54 := qa qm.out 9
                     go_wp2_with (first | (go_at_call 21; (with_reducible refine (zt.calls qcz yg false _ A72.out).mono ?_); rintro e w91 ⟨rfl, hb⟩; have n0_ := qf.mk (zl (g := q9) (o := .cells #[.int .i64 qw, .int .i64 qy, .int .i64 za, .string yg, .int .i64 ym, .int .i64 yf, .string yh, .slice qaa yj.length qab, .slice qai qx.length qaf, .slice qac zx.length vo] 30 (0, 0)) (by (with_reducible repeat (first | refine qj ?_ _ | refine qo ?_ | refine qi ?_ _)); exact qm.out) hb); have n1_ := qf.mk (zk (by repeat (first | (with_reducible first | exact HB.out | apply qg | apply qc | apply qh | refine ql ?_ qbj.out) | exact HB.out)) hb); clear qm; clear HB; have qm := n0_; have HB := n1_; clear n0_ n1_; (try clear hb); (try clear hb2); (try clear hk); (try clear hi)))
                     go_meet
                     case rel => exact ⟨_, (true), (by first | rfl | (simp; done) | (simp [*]; done)), H', ⟨by have := HJ2.out; have := qf2.out; have := qet.out; have := qkt.out; have := qmg.out; have := qou.out; have := qtb.out; first | omega | exact Nat.le_refl _⟩, ⟨by (with_reducible repeat (first | refine qj ?_ _ | refine qo ?_ | refine qi ?_ _)); exact qm.out⟩, ⟨by repeat (first | (with_reducible first | exact HB.out | apply qg | apply qc | apply qh | refine ql ?_ qbj.out) | exact HB.out)⟩⟩
                   ·replace c71 := Bool.eq_false_iff.mpr c71
                    subst c71
                    have H1 : (if yg.toList = ([] : List UInt8) then (if qzx = true then ((zi.f qcz ym yf yh yj).bind fun zh7 => (if zh7 = true then (qd.j7 qcz a1 (qx.length : Int) false qw qy za yg ym yf yh yj qx zx) else (qd.j7 qcz a1 (qx.length : Int) true qw qy za yg ym yf yh yj qx zx))) else ((yo.f qcz ym yf yh yj).bind fun t226 => (qd.j7 qcz a1 (qx.length : Int) (!t226) qw qy za yg ym yf yh yj qx zx))) else (qd.j7 qcz a1 (qx.length : Int) true qw qy za yg ym yf yh yj qx zx)) = some r := by rw [if_neg (show ¬ (false = true) by decide)] at H; exact H
                    clear H
                    have H := H1
                    clear H1
                    by_cases c92 : yg.toList = ([] : List UInt8)
                    ·rw [if_pos c92] at H
                     have c92b0 : (yg.toList == ([] : List UInt8)) = true := beq_iff_eq.mpr c92
                     have c92b1 : (yg.toList != ([] : List UInt8)) = false := bne_eq_false_iff_eq.mpr c92
                     clear c92
                     (first | rw [c92b0] | (simp only [vz, vw]; rw [c92b0]) | skip)
                     by_cases c93 : qzx = true
                     ·subst c93
                      have H1 : ((zi.f qcz ym yf yh yj).bind fun zh7 => (if zh7 = true then (qd.j7 qcz a1 (qx.length : Int) false qw qy za yg ym yf yh yj qx zx) else (qd.j7 qcz a1 (qx.length : Int) true qw qy za yg ym yf yh yj qx zx))) = some r := by rw [if_pos rfl] at H; exact H
                      clear H
                      have H := H1
                      clear H1
                      replace H := Option.bind_eq_some_iff.mp H
                      obtain ⟨zh7, zw1, H⟩ := H
                      replace H : (if zh7 = true then (qd.j7 qcz a1 (qx.length : Int) false qw qy za yg ym yf yh yj qx zx) else (qd.j7 qcz a1 (qx.length : Int) true qw qy za yg ym yf yh yj qx zx)) = some r := H
                      have A94 := qf.mk zw1
                      clear zw1
                      by_cases c95 : zh7 = true
                      ·subst c95
                       have H1 : (qd.j7 qcz a1 (qx.length : Int) false qw qy za yg ym yf yh yj qx zx) = some r := by rw [if_pos rfl] at H; exact H
                       clear H
                       have H := H1
                       clear H1
                       have H' := qf.mk H
                       clear H
                       have q27 : wc.cell? ⟨q9, 0, none⟩ = some (.int .i64 qw) := (qb qm.out 0).trans rfl
                       have q28 : wc.cell? ⟨q9, 1, none⟩ = some (.int .i64 qy) := (qb qm.out 1).trans rfl
                       have q29 : wc.cell? ⟨q9, 2, none⟩ = some (.int .i64 za) := (qb qm.out 2).trans rfl
                       have q3a : wc.cell? ⟨q9, 3, none⟩ = some (.string yg) := (qb qm.out 3).trans rfl
                       have q3b : wc.cell? ⟨q9, 4, none⟩ = some (.int .i64 ym) := (qb qm.out 4).trans rfl
                       have q3c : wc.cell? ⟨q9, 5, none⟩ = some (.int .i64 yf) := (qb qm.out 5).trans rfl
                       have q3d : wc.cell? ⟨q9, 6, none⟩ = some (.string yh) := (qb qm.out 6).trans rfl
                       have q3e : wc.cell? ⟨q9, 7, none⟩ = some (.slice qaa yj.length qab) := (qb qm.out 7).trans rfl
                       have q3f : wc.cell? ⟨q9, 8, none⟩ = some (.slice qai qx.length qaf) := (qb qm.out 8).trans rfl
                       have q3g : wc.cell? ⟨q9, 9, none⟩ = some (.slice qac zx.length vo) := (qb qm.out 9).trans rfl
                       have q55 := qa qm.out 0
                       have q56 := qa qm.out 1
                       have q57 := qa qm.out 2
                       have q58 := qa qm.out 3
                       have q59 := qa qm.out 4
                       have q6a := qa qm.out 5
                       have q6b := qa qm.out 6
                       have q6c := qa qm.out 7
                       have q6d := qa qm.out 8
                       have q6e := qa qm.out 9
                       go_wp2_with (first | (go_at_call 22; (with_reducible refine (zi.calls qcz ym yf yh _ _ yj true _ ?side1 ?side2 A94.out).mono ?_); (case side1 => repeat (first | exact (Kd.vv qlc.out HB.out) | (with_reducible refine Kd.qba ?_ _) | (with_reducible refine Kd.qaz ?_ _) | (with_reducible refine Kd.qbq ?_))); (case side2 => exact qla.out); rintro e w97 ⟨rfl, hb⟩; have n0_ := qf.mk (zl (g := q9) (o := .cells #[.int .i64 qw, .int .i64 qy, .int .i64 za, .string yg, .int .i64 ym, .int .i64 yf, .string yh, .slice qaa yj.length qab, .slice qai qx.length qaf, .slice qac zx.length vo] 30 (0, 0)) (by (with_reducible repeat (first | refine qj ?_ _ | refine qo ?_ | refine qi ?_ _)); exact qm.out) hb); have n1_ := qf.mk (zk (by repeat (first | (with_reducible first | exact HB.out | apply qg | apply qc | apply qh | refine ql ?_ qbj.out) | exact HB.out)) hb); clear qm; clear HB; have qm := n0_; have HB := n1_; clear n0_ n1_; (try clear hb); (try clear hb2); (try clear hk); (try clear hi)))
                       go_meet
                       case rel => exact ⟨_, (false), (by first | rfl | (simp; done) | (simp [*]; done)), H', ⟨by have := HJ2.out; have := qf2.out; have := qet.out; have := qkt.out; have := qmg.out; have := qou.out; have := qtb.out; first | omega | exact Nat.le_refl _⟩, ⟨by (with_reducible repeat (first | refine qj ?_ _ | refine qo ?_ | refine qi ?_ _)); exact qm.out⟩, ⟨by repeat (first | (with_reducible first | exact HB.out | apply qg | apply qc | apply qh | refine ql ?_ qbj.out) | exact HB.out)⟩⟩
                      ·replace c95 := Bool.eq_false_iff.mpr c95
                       subst c95
                       have H1 : (qd.j7 qcz a1 (qx.length : Int) true qw qy za yg ym yf yh yj qx zx) = some r := by rw [if_neg (show ¬ (false = true) by decide)] at H; exact H
                       clear H
                       have H := H1
                       clear H1
                       have H' := qf.mk H
                       clear H
                       have q3h : wc.cell? ⟨q9, 0, none⟩ = some (.int .i64 qw) := (qb qm.out 0).trans rfl
                       have q3i : wc.cell? ⟨q9, 1, none⟩ = some (.int .i64 qy) := (qb qm.out 1).trans rfl
                       have q3j : wc.cell? ⟨q9, 2, none⟩ = some (.int .i64 za) := (qb qm.out 2).trans rfl
                       have q3k : wc.cell? ⟨q9, 3, none⟩ = some (.string yg) := (qb qm.out 3).trans rfl
                       have q3l : wc.cell? ⟨q9, 4, none⟩ = some (.int .i64 ym) := (qb qm.out 4).trans rfl
                       have q3m : wc.cell? ⟨q9, 5, none⟩ = some (.int .i64 yf) := (qb qm.out 5).trans rfl
                       have q3n : wc.cell? ⟨q9, 6, none⟩ = some (.string yh) := (qb qm.out 6).trans rfl
                       have q3o : wc.cell? ⟨q9, 7, none⟩ = some (.slice qaa yj.length qab) := (qb qm.out 7).trans rfl
                       have q3p : wc.cell? ⟨q9, 8, none⟩ = some (.slice qai qx.length qaf) := (qb qm.out 8).trans rfl
                       have q3q : wc.cell? ⟨q9, 9, none⟩ = some (.slice qac zx.length vo) := (qb qm.out 9).trans rfl
                       have q6f := qa qm.out 0
                       have q6g := qa qm.out 1
                       have q6h := qa qm.out 2
                       have q6i := qa qm.out 3
                       have q6j := qa qm.out 4
                       have q6k := qa qm.out 5
                       have q6l := qa qm.out 6
                       have q6m := qa qm.out 7
                       have q6n := qa qm.out 8
                       have q6o := qa qm.out 9
                       go_wp2_with (first | (go_at_call 22; (with_reducible refine (zi.calls qcz ym yf yh _ _ yj false _ ?side1 ?side2 A94.out).mono ?_); (case side1 => repeat (first | exact (Kd.vv qlc.out HB.out) | (with_reducible refine Kd.qba ?_ _) | (with_reducible refine Kd.qaz ?_ _) | (with_reducible refine Kd.qbq ?_))); (case side2 => exact qla.out); rintro e w99 ⟨rfl, hb⟩; have n0_ := qf.mk (zl (g := q9) (o := .cells #[.int .i64 qw, .int .i64 qy, .int .i64 za, .string yg, .int .i64 ym, .int .i64 yf, .string yh, .slice qaa yj.length qab, .slice qai qx.length qaf, .slice qac zx.length vo] 30 (0, 0)) (by (with_reducible repeat (first | refine qj ?_ _ | refine qo ?_ | refine qi ?_ _)); exact qm.out) hb); have n1_ := qf.mk (zk (by repeat (first | (with_reducible first | exact HB.out | apply qg | apply qc | apply qh | refine ql ?_ qbj.out) | exact HB.out)) hb); clear qm; clear HB; have qm := n0_; have HB := n1_; clear n0_ n1_; (try clear hb); (try clear hb2); (try clear hk); (try clear hi)))
                       go_meet
                       case rel => exact ⟨_, (true), (by first | rfl | (simp; done) | (simp [*]; done)), H', ⟨by have := HJ2.out; have := qf2.out; have := qet.out; have := qkt.out; have := qmg.out; have := qou.out; have := qtb.out; first | omega | exact Nat.le_refl _⟩, ⟨by (with_reducible repeat (first | refine qj ?_ _ | refine qo ?_ | refine qi ?_ _)); exact qm.out⟩, ⟨by repeat (first | (with_reducible first | exact HB.out | apply qg | apply qc | apply qh | refine ql ?_ qbj.out) | exact HB.out)⟩⟩
                     ·replace c93 := Bool.eq_false_iff.mpr c93
                      subst c93
                      have H1 : ((yo.f qcz ym yf yh yj).bind fun t226 => (qd.j7 qcz a1 (qx.length : Int) (!t226) qw qy za yg ym yf yh yj qx zx)) = some r := by rw [if_neg (show ¬ (false = true) by decide)] at H; exact H
                      clear H
                      have H := H1
                      clear H1
                      replace H := Option.bind_eq_some_iff.mp H
                      obtain ⟨t226, zt9, H⟩ := H
                      replace H : (qd.j7 qcz a1 (qx.length : Int) (!t226) qw qy za yg ym yf yh yj qx zx) = some r := H
                      have q8s := qf.mk zt9
                      clear zt9
                      have H' := qf.mk H
                      clear H
                      have zpc : wc.cell? ⟨q9, 0, none⟩ = some (.int .i64 qw) := (qb qm.out 0).trans rfl
                      have zpd : wc.cell? ⟨q9, 1, none⟩ = some (.int .i64 qy) := (qb qm.out 1).trans rfl
                      have zpe : wc.cell? ⟨q9, 2, none⟩ = some (.int .i64 za) := (qb qm.out 2).trans rfl
                      have zpf : wc.cell? ⟨q9, 3, none⟩ = some (.string yg) := (qb qm.out 3).trans rfl
                      have zpg : wc.cell? ⟨q9, 4, none⟩ = some (.int .i64 ym) := (qb qm.out 4).trans rfl
                      have zph : wc.cell? ⟨q9, 5, none⟩ = some (.int .i64 yf) := (qb qm.out 5).trans rfl
                      have zpi : wc.cell? ⟨q9, 6, none⟩ = some (.string yh) := (qb qm.out 6).trans rfl
                      have zpj : wc.cell? ⟨q9, 7, none⟩ = some (.slice qaa yj.length qab) := (qb qm.out 7).trans rfl
                      have zpk : wc.cell? ⟨q9, 8, none⟩ = some (.slice qai qx.length qaf) := (qb qm.out 8).trans rfl
                      have zpl : wc.cell? ⟨q9, 9, none⟩ = some (.slice qac zx.length vo) := (qb qm.out 9).trans rfl
                      have qxv := qa qm.out 0
                      have qxw := qa qm.out 1
                      have qxx := qa qm.out 2
                      have qxy := qa qm.out 3
                      have qxz := qa qm.out 4
                      have qx0 := qa qm.out 5
                      have qx1 := qa qm.out 6
                      have qx2 := qa qm.out 7
                      have qx3 := qa qm.out 8
                      have qx4 := qa qm.out 9
                      go_wp2_with (first | (go_at_call 23; (with_reducible refine (yo.calls qcz ym yf yh _ _ yj t226 _ ?side1 ?side2 q8s.out).mono ?_); (case side1 => repeat (first | exact (Kd.vv qlc.out HB.out) | (with_reducible refine Kd.qba ?_ _) | (with_reducible refine Kd.qaz ?_ _) | (with_reducible refine Kd.qbq ?_))); (case side2 => exact qla.out); rintro e z5h ⟨rfl, hb⟩; have n0_ := qf.mk (zl (g := q9) (o := .cells #[.int .i64 qw, .int .i64 qy, .int .i64 za, .string yg, .int .i64 ym, .int .i64 yf, .string yh, .slice qaa yj.length qab, .slice qai qx.length qaf, .slice qac zx.length vo] 30 (0, 0)) (by (with_reducible repeat (first | refine qj ?_ _ | refine qo ?_ | refine qi ?_ _)); exact qm.out) hb); have n1_ := qf.mk (zk (by repeat (first | (with_reducible first | exact HB.out | apply qg | apply qc | apply qh | refine ql ?_ qbj.out) | exact HB.out)) hb); clear qm; clear HB; have qm := n0_; have HB := n1_; clear n0_ n1_; (try clear hb); (try clear hb2); (try clear hk); (try clear hi)))
                      go_meet
                      case rel => exact ⟨_, (!t226), (by first | rfl | (simp; done) | (simp [*]; done)), H', ⟨by have := HJ2.out; have := qf2.out; have := qet.out; have := qkt.out; have := qmg.out; have := qou.out; have := qtb.out; first | omega | exact Nat.le_refl _⟩, ⟨by (with_reducible repeat (first | refine qj ?_ _ | refine qo ?_ | refine qi ?_ _)); exact qm.out⟩, ⟨by repeat (first | (with_reducible first | exact HB.out | apply qg | apply qc | apply qh | refine ql ?_ qbj.out) | exact HB.out)⟩⟩
                    ·rw [if_neg c92] at H
                     have c92b0 : (yg.toList == ([] : List UInt8)) = false := beq_eq_false_iff_ne.mpr c92
                     have c92b1 : (yg.toList != ([] : List UInt8)) = true := bne_iff_ne.mpr c92
                     (first | rw [c92b0] | (simp only [vz, vw]; rw [c92b0]) | skip)
                     have H' := qf.mk H
                     clear H
                     have zpm : wc.cell? ⟨q9, 0, none⟩ = some (.int .i64 qw) := (qb qm.out 0).trans rfl
                     have zpn : wc.cell? ⟨q9, 1, none⟩ = some (.int .i64 qy) := (qb qm.out 1).trans rfl
                     have zpo : wc.cell? ⟨q9, 2, none⟩ = some (.int .i64 za) := (qb qm.out 2).trans rfl
                     have zpp : wc.cell? ⟨q9, 3, none⟩ = some (.string yg) := (qb qm.out 3).trans rfl
                     have zpq : wc.cell? ⟨q9, 4, none⟩ = some (.int .i64 ym) := (qb qm.out 4).trans rfl
                     have zpr : wc.cell? ⟨q9, 5, none⟩ = some (.int .i64 yf) := (qb qm.out 5).trans rfl
                     have zps : wc.cell? ⟨q9, 6, none⟩ = some (.string yh) := (qb qm.out 6).trans rfl
                     have zpt : wc.cell? ⟨q9, 7, none⟩ = some (.slice qaa yj.length qab) := (qb qm.out 7).trans rfl
                     have zpu : wc.cell? ⟨q9, 8, none⟩ = some (.slice qai qx.length qaf) := (qb qm.out 8).trans rfl
                     have zpv : wc.cell? ⟨q9, 9, none⟩ = some (.slice qac zx.length vo) := (qb qm.out 9).trans rfl
                     have qx5 := qa qm.out 0
                     have qx6 := qa qm.out 1
                     have qx7 := qa qm.out 2
                     have qx8 := qa qm.out 3
                     have qx9 := qa qm.out 4
                     have qya := qa qm.out 5
                     have qyb := qa qm.out 6
                     have qyc := qa qm.out 7
                     have qyd := qa qm.out 8
                     have qye := qa qm.out 9
                     go_wp2
                     go_meet
                     case rel => exact ⟨_, (true), (by first | rfl | (simp; done) | (simp [*]; done)), H', ⟨by have := HJ2.out; have := qf2.out; have := qet.out; have := qkt.out; have := qmg.out; have := qou.out; have := qtb.out; first | omega | exact Nat.le_refl _⟩, ⟨by (with_reducible repeat (first | refine qj ?_ _ | refine qo ?_ | refine qi ?_ _)); exact qm.out⟩, ⟨by repeat (first | (with_reducible first | exact HB.out | apply qg | apply qc | apply qh | refine ql ?_ qbj.out) | exact HB.out)⟩⟩
                 case rest =>
                  clear zu9
                  (try clear p2); (try clear c7); (try clear c9); (try clear c71); (try clear c73); (try clear c74); (try clear c76); (try clear c92); (try clear c92b0); (try clear c92b1); (try clear c93); (try clear c95); (try clear zpc zpd zpe zpf zpg zph zpi zpj zpk zpl); (try clear zpm zpn zpo zpp zpq zpr zps zpt zpu zpv); (try clear ztc ztd zte ztf zdm zdn zdo zdp zdq zdr); (try clear zds zdt zdu zdv zdw zdx zdy zdz zd0 zd1); (try clear zd2 zd3 zd4 zd5 zd6 zd7 zd8 zd9 zea zeb); (try clear zec zed zee zef zeg zeh zei zej zek zel); (try clear zem zen zeo zep zeq zer zes q2h q2i q2j); (try clear q2k q2l q2m q2n q2o q2p q2q q2r q2s q2t); (try clear q2u q2v q2w q2x q2y q20 q21 q23 q25 q26); (try clear q27 q28 q29 q3a q3b q3c q3d q3e q3f q3g); (try clear q3h q3i q3j q3k q3l q3m q3n q3o q3p q3q); (try clear qxv qxw qxx qxy qxz qx0 qx1 qx2 qx3 qx4); (try clear qx5 qx6 qx7 qx8 qx9 qya qyb qyc qyd qye); (try clear qib qic qid qie qif qig); (try clear qih qii qij qik qil qim qin qio qip qiq); (try clear qcr qcs qct qcu qgg qgh qgi qgj qgk qgl); (try clear qdq qdr qds qdt qgm qgn qgo qgp qgq qgr); (try clear qha qhb qhc qhd qhe qhf qhg qhh qhi qhj); (try clear qem qen qeo qep qhk qhl qhm qhn qho qhp); (try clear qir qis qit qiu qm4 qm5 qm6 qm7 qm8 qm9); (try clear qna qnb qnc qnd qne qnf qng qnh qni qnj); (try clear qj6 qj7 qj8 qj9 qpd qpe qpf qpg qph qpi); (try clear qpj qpk qpl qpm qpn qpo qpp qpq qpr qps); (try clear qpt qpu qpv qpw qpx qpy qpz qp0 qp1 qp2); (try clear qiv qiw qix qiy qno qnp qnq qnr qns qnt); (try clear qp3 qp4 qp5 qp6 qp7 qp8 qp9 qqa qqb qqc); (try clear qka qkb qkc qkd qqd qqe qqf qqg qqh qqi); (try clear qke qkf qkg qkh qqj qqk qql qqm qqn qqo); (try clear qgs qgt qgu qgv qqp qqq qqr qqs qqt qqu); (try clear qqv qqw qqx qqy qqz qq0 qq1 qq2 qq3 qq4); (try clear qki qkj qkk qkl qq5 qq6 qq7 qq8 qq9 qra); (try clear qrb qrc qrd qre qrf qrg qrh qri qrj qrk); (try clear qrl qrm qrn qro qrp qrq qrr qrs qrt qru); (try clear qkm qkn qko qkp qrv qrw qrx qry qrz qr0); (try clear qu9 qva qvb qvc qvd qve qvf qvg qvh qvi); (try clear qlr qls qlt qlu qvj qvk qvl qvm qvn qvo); (try clear qvp qvq qvr qvs qvt qvu qvv qvw qvx qvy); (try clear qvz qv0 qv1 qv2 qyn qyo qyp qyq qyr qys); (try clear qnu qnv qnw qnx qyt qyu qyv qyw qyx qyy); (try clear q35 q36 q37 q38 q39 q4a q4b q4c q4d q4e); (try clear q4f q4g q4h q4i q4j q4k q4l q4m q4n q4o); (try clear qdu qdv qdw qdx qfl qfm qfn qfo qfp qfq); (try clear q4p q4q q4r q4s q4t q4u q4v q4w q4x q4y); (try clear q40 q41 q42 q43 q44 q45 q46 q47 q48 q49); (try clear q5a q5b q5c q5d q5e q5f q5g q5h q5i q5j); (try clear q5k q5l q5m q5n q5o q5p q5q q5r q5s q5t); (try clear q5u q5v q5w q5x q5y q50 q51 q52 q53 q54); (try clear q55 q56 q57 q58 q59 q6a q6b q6c q6d q6e); (try clear q6f q6g q6h q6i q6j q6k q6l q6m q6n q6o); (try clear qc0 qc7 qc8 qc9 qiz qi0 qi1 qi2 qi3 qi4); (try clear p2)
                  obtain ⟨kq, q6r, rfl, HA, q9h, qm, HB⟩ := hcut
                  cases kq with
                  | zero => exact absurd HA.out (by simp [qd.j7])
                  | succ zt3 =>
                   have H := HA.out
                   clear HA
                   simp only [qd.j7] at H
                   by_cases zod : q6r = true
                   ·subst zod
                    have H1 : (some false) = some r := by rw [if_pos rfl] at H; exact H
                    clear H
                    have H := H1
                    clear H1
                    obtain rfl := Option.some.inj H
                    go_wp2
                    go_ret
                    exact ⟨by first | rfl | (simp [zg, zh] <;> rfl) | (simp [*, zg, zh] <;> rfl), by repeat (first | (with_reducible first | exact HB.out | apply qg | apply qc | apply qh | refine ql ?_ qbj.out) | exact HB.out)⟩
                   ·replace zod := Bool.eq_false_iff.mpr zod
                    subst zod
                    have H1 : (if qw = 11 then (if (zx.length : Int) = (qx.length : Int) then (qd.j8 zt3 a1 (qx.length : Int) false qw qy za yg ym yf yh yj qx zx) else (qd.j8 zt3 a1 (qx.length : Int) true qw qy za yg ym yf yh yj qx zx)) else (qd.j8 zt3 a1 (qx.length : Int) (decide ((zx.length : Int) > 0)) qw qy za yg ym yf yh yj qx zx)) = some r := by rw [if_neg (show ¬ (false = true) by decide)] at H; exact H
                    clear H
                    have H := H1
                    clear H1
                    have zov := qf.mk H
                    clear H
                    go_upto_region 18 with (fail)
                    go_cut [216] (fun z1y wc => ∃ (kq : Nat) (qzw : Bool), z1y = .bool qzw ∧ qf (qd.j8 kq a1 (qx.length : Int) qzw qw qy za yg ym yf yh yj qx zx = some r) ∧ qf (kq ≤ zt3) ∧ qf (wc.heap[q9]? = some (.cells #[.int .i64 qw, .int .i64 qy, .int .i64 za, .string yg, .int .i64 ym, .int .i64 yf, .string yh, (.slice qaa yj.length qab), (.slice qai qx.length qaf), (.slice qac zx.length vo)] 30 (0, 0))) ∧ qf (Below w.heap.size w wc))
                    case first =>
                     as_aux_lemma =>
                      have H := zov.out
                      clear zov
                      by_cases q9y : qw = 11
                      ·rw [if_pos q9y] at H
                       have c106b0 : (qw == 11) = true := beq_iff_eq.mpr q9y
                       have c106b1 : (qw != 11) = false := bne_eq_false_iff_eq.mpr q9y
                       clear q9y
                       (first | rw [c106b0] | (simp only [vz, vw]; rw [c106b0]) | skip)
                       by_cases c107 : (zx.length : Int) = (qx.length : Int)
                       ·rw [if_pos c107] at H
                        have c107b0 : ((zx.length : Int) == (qx.length : Int)) = true := beq_iff_eq.mpr c107
                        have c107b1 : ((zx.length : Int) != (qx.length : Int)) = false := bne_eq_false_iff_eq.mpr c107
                        have c107b2 : (zx.length == qx.length) = true := by first | simpa using c107 | (simp at c107 ⊢; omega)
                        clear c107
                        have H' := qf.mk H
                        clear H
                        have zg3 : wc.cell? ⟨q9, 0, none⟩ = some (.int .i64 qw) := (qb qm.out 0).trans rfl
                        have zg4 : wc.cell? ⟨q9, 1, none⟩ = some (.int .i64 qy) := (qb qm.out 1).trans rfl
                        have zg5 : wc.cell? ⟨q9, 2, none⟩ = some (.int .i64 za) := (qb qm.out 2).trans rfl
                        have zg6 : wc.cell? ⟨q9, 3, none⟩ = some (.string yg) := (qb qm.out 3).trans rfl
                        have zg7 : wc.cell? ⟨q9, 4, none⟩ = some (.int .i64 ym) := (qb qm.out 4).trans rfl
                        have zg8 : wc.cell? ⟨q9, 5, none⟩ = some (.int .i64 yf) := (qb qm.out 5).trans rfl
                        have zg9 : wc.cell? ⟨q9, 6, none⟩ = some (.string yh) := (qb qm.out 6).trans rfl
                        have zha : wc.cell? ⟨q9, 7, none⟩ = some (.slice qaa yj.length qab) := (qb qm.out 7).trans rfl
                        have zhb : wc.cell? ⟨q9, 8, none⟩ = some (.slice qai qx.length qaf) := (qb qm.out 8).trans rfl
                        have zhc : wc.cell? ⟨q9, 9, none⟩ = some (.slice qac zx.length vo) := (qb qm.out 9).trans rfl
                        have q7m := qa qm.out 0
                        have q7n := qa qm.out 1
                        have q7o := qa qm.out 2
                        have q7p := qa qm.out 3
                        have q7q := qa qm.out 4
                        have q7r := qa qm.out 5
                        have q7s := qa qm.out 6
                        have q7t := qa qm.out 7
                        have q7u := qa qm.out 8
                        have q7v := qa qm.out 9
                        go_wp2
                        go_meet
                        case rel => exact ⟨_, (false), (by first | rfl | (simp; done) | (simp [*]; done)), H', ⟨by have := HJ2.out; have := qf2.out; have := qet.out; have := qkt.out; have := qmg.out; have := qou.out; have := qtb.out; have := q9h.out; first | omega | exact Nat.le_refl _⟩, ⟨by (with_reducible repeat (first | refine qj ?_ _ | refine qo ?_ | refine qi ?_ _)); exact qm.out⟩, ⟨by repeat (first | (with_reducible first | exact HB.out | apply qg | apply qc | apply qh | refine ql ?_ qbj.out) | exact HB.out)⟩⟩
                       ·rw [if_neg c107] at H
                        have c107b0 : ((zx.length : Int) == (qx.length : Int)) = false := beq_eq_false_iff_ne.mpr c107
                        have c107b1 : ((zx.length : Int) != (qx.length : Int)) = true := bne_iff_ne.mpr c107
                        have c107b2 : (zx.length == qx.length) = false := by first | simpa using c107 | (simp at c107 ⊢; omega)
                        have H' := qf.mk H
                        clear H
                        have zhd : wc.cell? ⟨q9, 0, none⟩ = some (.int .i64 qw) := (qb qm.out 0).trans rfl
                        have zhe : wc.cell? ⟨q9, 1, none⟩ = some (.int .i64 qy) := (qb qm.out 1).trans rfl
                        have zhf : wc.cell? ⟨q9, 2, none⟩ = some (.int .i64 za) := (qb qm.out 2).trans rfl
                        have zhg : wc.cell? ⟨q9, 3, none⟩ = some (.string yg) := (qb qm.out 3).trans rfl
                        have zhh : wc.cell? ⟨q9, 4, none⟩ = some (.int .i64 ym) := (qb qm.out 4).trans rfl
                        have zhi : wc.cell? ⟨q9, 5, none⟩ = some (.int .i64 yf) := (qb qm.out 5).trans rfl
                        have zhj : wc.cell? ⟨q9, 6, none⟩ = some (.string yh) := (qb qm.out 6).trans rfl
                        have zhk : wc.cell? ⟨q9, 7, none⟩ = some (.slice qaa yj.length qab) := (qb qm.out 7).trans rfl
                        have zhl : wc.cell? ⟨q9, 8, none⟩ = some (.slice qai qx.length qaf) := (qb qm.out 8).trans rfl
                        have zhm : wc.cell? ⟨q9, 9, none⟩ = some (.slice qac zx.length vo) := (qb qm.out 9).trans rfl
                        have q7w := qa qm.out 0
                        have q7x := qa qm.out 1
                        have q7y := qa qm.out 2
                        have q7z := qa qm.out 3
                        have q70 := qa qm.out 4
                        have q71 := qa qm.out 5
                        have q72 := qa qm.out 6
                        have q73 := qa qm.out 7
                        have q74 := qa qm.out 8
                        have q75 := qa qm.out 9
                        go_wp2
                        go_meet
                        case rel => exact ⟨_, (true), (by first | rfl | (simp; done) | (simp [*]; done)), H', ⟨by have := HJ2.out; have := qf2.out; have := qet.out; have := qkt.out; have := qmg.out; have := qou.out; have := qtb.out; have := q9h.out; first | omega | exact Nat.le_refl _⟩, ⟨by (with_reducible repeat (first | refine qj ?_ _ | refine qo ?_ | refine qi ?_ _)); exact qm.out⟩, ⟨by repeat (first | (with_reducible first | exact HB.out | apply qg | apply qc | apply qh | refine ql ?_ qbj.out) | exact HB.out)⟩⟩
                      ·rw [if_neg q9y] at H
                       have c106b0 : (qw == 11) = false := beq_eq_false_iff_ne.mpr q9y
                       have c106b1 : (qw != 11) = true := bne_iff_ne.mpr q9y
                       (first | rw [c106b0] | (simp only [vz, vw]; rw [c106b0]) | skip)
                       have H' := qf.mk H
                       clear H
                       have zhn : wc.cell? ⟨q9, 0, none⟩ = some (.int .i64 qw) := (qb qm.out 0).trans rfl
                       have zho : wc.cell? ⟨q9, 1, none⟩ = some (.int .i64 qy) := (qb qm.out 1).trans rfl
                       have zhp : wc.cell? ⟨q9, 2, none⟩ = some (.int .i64 za) := (qb qm.out 2).trans rfl
                       have zhq : wc.cell? ⟨q9, 3, none⟩ = some (.string yg) := (qb qm.out 3).trans rfl
                       have zhr : wc.cell? ⟨q9, 4, none⟩ = some (.int .i64 ym) := (qb qm.out 4).trans rfl
                       have zhs : wc.cell? ⟨q9, 5, none⟩ = some (.int .i64 yf) := (qb qm.out 5).trans rfl
                       have zht : wc.cell? ⟨q9, 6, none⟩ = some (.string yh) := (qb qm.out 6).trans rfl
                       have zhu : wc.cell? ⟨q9, 7, none⟩ = some (.slice qaa yj.length qab) := (qb qm.out 7).trans rfl
                       have zhv : wc.cell? ⟨q9, 8, none⟩ = some (.slice qai qx.length qaf) := (qb qm.out 8).trans rfl
                       have zhw : wc.cell? ⟨q9, 9, none⟩ = some (.slice qac zx.length vo) := (qb qm.out 9).trans rfl
                       have q76 := qa qm.out 0
                       have q77 := qa qm.out 1
                       have q78 := qa qm.out 2
                       have q79 := qa qm.out 3
                       have q8a := qa qm.out 4
                       have q8b := qa qm.out 5
                       have q8c := qa qm.out 6
                       have q8d := qa qm.out 7
                       have q8e := qa qm.out 8
                       have q8f := qa qm.out 9
                       go_wp2
                       go_meet
                       case rel => exact ⟨_, (decide ((zx.length : Int) > 0)), (by first | rfl | (simp; done) | (simp [*]; done)), H', ⟨by have := HJ2.out; have := qf2.out; have := qet.out; have := qkt.out; have := qmg.out; have := qou.out; have := qtb.out; have := q9h.out; first | omega | exact Nat.le_refl _⟩, ⟨by (with_reducible repeat (first | refine qj ?_ _ | refine qo ?_ | refine qi ?_ _)); exact qm.out⟩, ⟨by repeat (first | (with_reducible first | exact HB.out | apply qg | apply qc | apply qh | refine ql ?_ qbj.out) | exact HB.out)⟩⟩
                    case rest =>
                     clear zov
                     (try clear c1); (try clear p2); (try clear c10); (try clear zod); (try clear q9y); (try clear c106b0); (try clear c106b1); (try clear c107); (try clear c107b0); (try clear c107b1); (try clear c107b2); (try clear zg3 zg4 zg5 zg6 zg7 zg8 zg9 zha zhb zhc); (try clear zhd zhe zhf zhg zhh zhi zhj zhk zhl zhm); (try clear zhn zho zhp zhq zhr zhs zht zhu zhv zhw); (try clear zdm zdn zdo zdp zdq zdr); (try clear zds zdt zdu zdv zdw zdx zdy zdz zd0 zd1); (try clear zd2 zd3 zd4 zd5 zd6 zd7 zd8 zd9 zea zeb); (try clear zec zed zee zef zeg zeh zei zej zek zel); (try clear zem zen zeo zep zeq zer zes q2h q2i q2j); (try clear q2k q2l q2m q2n q2o q2p q2q q2r q2s q2t); (try clear q2u q2v q2w q2x q2y q20 q21 q23 q25 q26); (try clear q27 q28 q29 q3a q3b q3c q3d q3e q3f q3g); (try clear q3h q3i q3j q3k q3l q3m q3n q3o q3p q3q); (try clear qxv qxw qxx qxy qxz qx0 qx1 qx2 qx3 qx4); (try clear qx5 qx6 qx7 qx8 qx9 qya qyb qyc qyd qye); (try clear q7m q7n q7o q7p q7q q7r q7s q7t q7u q7v); (try clear q7w q7x q7y q7z q70 q71 q72 q73 q74 q75); (try clear qib qic qid qie qif qig); (try clear q76 q77 q78 q79 q8a q8b q8c q8d q8e q8f); (try clear qih qii qij qik qil qim qin qio qip qiq); (try clear qcr qcs qct qcu qgg qgh qgi qgj qgk qgl); (try clear qdq qdr qds qdt qgm qgn qgo qgp qgq qgr); (try clear qha qhb qhc qhd qhe qhf qhg qhh qhi qhj); (try clear qem qen qeo qep qhk qhl qhm qhn qho qhp); (try clear qir qis qit qiu qm4 qm5 qm6 qm7 qm8 qm9); (try clear qna qnb qnc qnd qne qnf qng qnh qni qnj); (try clear qj6 qj7 qj8 qj9 qpd qpe qpf qpg qph qpi); (try clear qpj qpk qpl qpm qpn qpo qpp qpq qpr qps); (try clear qpt qpu qpv qpw qpx qpy qpz qp0 qp1 qp2); (try clear qiv qiw qix qiy qno qnp qnq qnr qns qnt); (try clear qp3 qp4 qp5 qp6 qp7 qp8 qp9 qqa qqb qqc); (try clear qka qkb qkc qkd qqd qqe qqf qqg qqh qqi); (try clear qke qkf qkg qkh qqj qqk qql qqm qqn qqo); (try clear qgs qgt qgu qgv qqp qqq qqr qqs qqt qqu); (try clear qqv qqw qqx qqy qqz qq0 qq1 qq2 qq3 qq4); (try clear qki qkj qkk qkl qq5 qq6 qq7 qq8 qq9 qra); (try clear qrb qrc qrd qre qrf qrg qrh qri qrj qrk); (try clear qrl qrm qrn qro qrp qrq qrr qrs qrt qru); (try clear qkm qkn qko qkp qrv qrw qrx qry qrz qr0); (try clear qu9 qva qvb qvc qvd qve qvf qvg qvh qvi); (try clear qlr qls qlt qlu qvj qvk qvl qvm qvn qvo); (try clear qvp qvq qvr qvs qvt qvu qvv qvw qvx qvy); (try clear qvz qv0 qv1 qv2 qyn qyo qyp qyq qyr qys); (try clear qnu qnv qnw qnx qyt qyu qyv qyw qyx qyy); (try clear q35 q36 q37 q38 q39 q4a q4b q4c q4d q4e); (try clear q4f q4g q4h q4i q4j q4k q4l q4m q4n q4o); (try clear qdu qdv qdw qdx qfl qfm qfn qfo qfp qfq); (try clear q4p q4q q4r q4s q4t q4u q4v q4w q4x q4y); (try clear q40 q41 q42 q43 q44 q45 q46 q47 q48 q49); (try clear q5a q5b q5c q5d q5e q5f q5g q5h q5i q5j); (try clear q5k q5l q5m q5n q5o q5p q5q q5r q5s q5t); (try clear q5u q5v q5w q5x q5y q50 q51 q52 q53 q54); (try clear q55 q56 q57 q58 q59 q6a q6b q6c q6d q6e); (try clear q6f q6g q6h q6i q6j q6k q6l q6m q6n q6o); (try clear qc0 qc7 qc8 qc9 qiz qi0 qi1 qi2 qi3 qi4); (try clear p2)
                     obtain ⟨kq, qzw, rfl, HA, q8z, qm, HB⟩ := hcut
                     cases kq with
                     | zero => exact absurd HA.out (by simp [qd.j8])
                     | succ zrz =>
                      have H := HA.out
                      clear HA
                      simp only [qd.j8] at H
                      by_cases zo6 : qzw = true
                      ·subst zo6
                       have H1 : (some false) = some r := by rw [if_pos rfl] at H; exact H
                       clear H
                       have H := H1
                       clear H1
                       obtain rfl := Option.some.inj H
                       go_wp2
                       go_ret
                       exact ⟨by first | rfl | (simp [zg, zh] <;> rfl) | (simp [*, zg, zh] <;> rfl), by repeat (first | (with_reducible first | exact HB.out | apply qg | apply qc | apply qh | refine ql ?_ qbj.out) | exact HB.out)⟩
                      ·replace zo6 := Bool.eq_false_iff.mpr zo6
                       subst zo6
                       have H1 : (qd.l0 zrz a1 (qx.length : Int) 0 qw qy za yg ym yf yh yj qx zx) = some r := by rw [if_neg (show ¬ (false = true) by decide)] at H; exact H
                       clear H
                       have H := H1
                       clear H1
                       have H' := qf.mk H
                       clear H
                       go_wp2
                       go_loopg [10] zrz (fun kq v10 w' => ∃ (qcg : Int), v10 = .int .i64 qcg ∧ qf (qd.l0 kq a1 (qx.length : Int) qcg qw qy za yg ym yf yh yj qx zx = some r) ∧ qf (kq ≤ zrz) ∧ qf (w'.heap[q9]? = some (.cells #[.int .i64 qw, .int .i64 qy, .int .i64 za, .string yg, .int .i64 ym, .int .i64 yf, .string yh, (.slice qaa yj.length qab), (.slice qai qx.length qaf), (.slice qac zx.length vo)] 30 (0, 0))) ∧ qf (Below w.heap.size w w'))
                       case atStart => exact ⟨(0), (by first | rfl | (simp; done) | (simp [*]; done)), H', ⟨Nat.le_refl _⟩, ⟨by (with_reducible repeat (first | refine qj ?_ _ | refine qo ?_ | refine qi ?_ _)); exact qm.out⟩, ⟨by repeat (first | (with_reducible first | exact HB.out | apply qg | apply qc | apply qh | refine ql ?_ qbj.out) | exact HB.out)⟩⟩
                       case round =>
                        clear H'
                        (try clear c1); (try clear p2); (try clear c10); (try clear c11); (try clear zod); (try clear q9y); (try clear c106b0); (try clear c106b1); (try clear c107); (try clear c107b0); (try clear c107b1); (try clear c107b2); (try clear zo6); (try clear zg3 zg4 zg5 zg6 zg7 zg8 zg9 zha zhb zhc); (try clear zhd zhe zhf zhg zhh zhi zhj zhk zhl zhm); (try clear zhn zho zhp zhq zhr zhs zht zhu zhv zhw); (try clear zdm zdn zdo zdp zdq zdr); (try clear zds zdt zdu zdv zdw zdx zdy zdz zd0 zd1); (try clear zd2 zd3 zd4 zd5 zd6 zd7 zd8 zd9 zea zeb); (try clear zec zed zee zef zeg zeh zei zej zek zel); (try clear zem zen zeo zep zeq zer zes q2h q2i q2j); (try clear q2k q2l q2m q2n q2o q2p q2q q2r q2s q2t); (try clear q2u q2v q2w q2x q2y q20 q21 q23 q25 q26); (try clear q27 q28 q29 q3a q3b q3c q3d q3e q3f q3g); (try clear q3h q3i q3j q3k q3l q3m q3n q3o q3p q3q); (try clear qxv qxw qxx qxy qxz qx0 qx1 qx2 qx3 qx4); (try clear qx5 qx6 qx7 qx8 qx9 qya qyb qyc qyd qye); (try clear q7m q7n q7o q7p q7q q7r q7s q7t q7u q7v); (try clear q7w q7x q7y q7z q70 q71 q72 q73 q74 q75); (try clear qib qic qid qie qif qig); (try clear q76 q77 q78 q79 q8a q8b q8c q8d q8e q8f); (try clear qih qii qij qik qil qim qin qio qip qiq); (try clear qcr qcs qct qcu qgg qgh qgi qgj qgk qgl); (try clear qdq qdr qds qdt qgm qgn qgo qgp qgq qgr); (try clear qha qhb qhc qhd qhe qhf qhg qhh qhi qhj); (try clear qem qen qeo qep qhk qhl qhm qhn qho qhp); (try clear qir qis qit qiu qm4 qm5 qm6 qm7 qm8 qm9); (try clear qna qnb qnc qnd qne qnf qng qnh qni qnj); (try clear qj6 qj7 qj8 qj9 qpd qpe qpf qpg qph qpi); (try clear qpj qpk qpl qpm qpn qpo qpp qpq qpr qps); (try clear qpt qpu qpv qpw qpx qpy qpz qp0 qp1 qp2); (try clear qiv qiw qix qiy qno qnp qnq qnr qns qnt); (try clear qp3 qp4 qp5 qp6 qp7 qp8 qp9 qqa qqb qqc); (try clear qka qkb qkc qkd qqd qqe qqf qqg qqh qqi); (try clear qke qkf qkg qkh qqj qqk qql qqm qqn qqo); (try clear qgs qgt qgu qgv qqp qqq qqr qqs qqt qqu); (try clear qqv qqw qqx qqy qqz qq0 qq1 qq2 qq3 qq4); (try clear qki qkj qkk qkl qq5 qq6 qq7 qq8 qq9 qra); (try clear qrb qrc qrd qre qrf qrg qrh qri qrj qrk); (try clear qrl qrm qrn qro qrp qrq qrr qrs qrt qru); (try clear qkm qkn qko qkp qrv qrw qrx qry qrz qr0); (try clear qu9 qva qvb qvc qvd qve qvf qvg qvh qvi); (try clear qlr qls qlt qlu qvj qvk qvl qvm qvn qvo); (try clear qvp qvq qvr qvs qvt qvu qvv qvw qvx qvy); (try clear qvz qv0 qv1 qv2 qyn qyo qyp qyq qyr qys); (try clear qnu qnv qnw qnx qyt qyu qyv qyw qyx qyy); (try clear q35 q36 q37 q38 q39 q4a q4b q4c q4d q4e); (try clear q4f q4g q4h q4i q4j q4k q4l q4m q4n q4o); (try clear qdu qdv qdw qdx qfl qfm qfn qfo qfp qfq); (try clear q4p q4q q4r q4s q4t q4u q4v q4w q4x q4y); (try clear q40 q41 q42 q43 q44 q45 q46 q47 q48 q49); (try clear q5a q5b q5c q5d q5e q5f q5g q5h q5i q5j); (try clear q5k q5l q5m q5n q5o q5p q5q q5r q5s q5t); (try clear q5u q5v q5w q5x q5y q50 q51 q52 q53 q54); (try clear q55 q56 q57 q58 q59 q6a q6b q6c q6d q6e); (try clear q6f q6g q6h q6i q6j q6k q6l q6m q6n q6o); (try clear qc0 qc7 qc8 qc9 qiz qi0 qi1 qi2 qi3 qi4); (try clear p2)
                        obtain ⟨qcg, rfl, HA, zoa, qm, HB⟩ := hrel
                        cases gk with
                        | zero => exact absurd HA.out (by simp [qd.l0])
                        | succ k10 =>
                         have H := HA.out
                         clear HA
                         simp only [qd.l0] at H
                         by_cases zio : qcg < (zx.length : Int)
                         ·rw [if_pos zio] at H
                          have c112b0 : decide (qcg < (zx.length : Int)) = true := decide_eq_true zio
                          clear zio
                          by_cases zo7 : 0 ≤ qcg
                          ·rw [if_pos zo7] at H
                           have c113b0 : decide (0 ≤ qcg) = true := decide_eq_true zo7
                           clear zo7
                           replace H := Option.bind_eq_some_iff.mp H
                           obtain ⟨t228, zua, H⟩ := H
                           replace H : (if t228 = true then (qd.l0 k10 a1 (qx.length : Int) (wrap64 (qcg + 1)) qw qy za yg ym yf yh yj qx zx) else (some false)) = some r := H
                           have zwm := qf.mk zua
                           clear zua
                           by_cases zo8 : t228 = true
                           ·subst zo8
                            have H1 : (qd.l0 k10 a1 (qx.length : Int) (wrap64 (qcg + 1)) qw qy za yg ym yf yh yj qx zx) = some r := by rw [if_pos rfl] at H; exact H
                            clear H
                            have H := H1
                            clear H1
                            have H' := qf.mk H
                            clear H
                            have zpw : wr.cell? ⟨q9, 0, none⟩ = some (.int .i64 qw) := (qb qm.out 0).trans rfl
                            have zpx : wr.cell? ⟨q9, 1, none⟩ = some (.int .i64 qy) := (qb qm.out 1).trans rfl
                            have zpy : wr.cell? ⟨q9, 2, none⟩ = some (.int .i64 za) := (qb qm.out 2).trans rfl
                            have zpz : wr.cell? ⟨q9, 3, none⟩ = some (.string yg) := (qb qm.out 3).trans rfl
                            have zp0 : wr.cell? ⟨q9, 4, none⟩ = some (.int .i64 ym) := (qb qm.out 4).trans rfl
                            have zp1 : wr.cell? ⟨q9, 5, none⟩ = some (.int .i64 yf) := (qb qm.out 5).trans rfl
                            have zp2 : wr.cell? ⟨q9, 6, none⟩ = some (.string yh) := (qb qm.out 6).trans rfl
                            have zp3 : wr.cell? ⟨q9, 7, none⟩ = some (.slice qaa yj.length qab) := (qb qm.out 7).trans rfl
                            have zp4 : wr.cell? ⟨q9, 8, none⟩ = some (.slice qai qx.length qaf) := (qb qm.out 8).trans rfl
                            have zp5 : wr.cell? ⟨q9, 9, none⟩ = some (.slice qac zx.length vo) := (qb qm.out 9).trans rfl
                            have zqu := qa qm.out 0
                            have zqv := qa qm.out 1
                            have zqw := qa qm.out 2
                            have zqx := qa qm.out 3
                            have zqy := qa qm.out 4
                            have zqz := qa qm.out 5
                            have zq0 := qa qm.out 6
                            have zq1 := qa qm.out 7
                            have zq2 := qa qm.out 8
                            have zq3 := qa qm.out 9
                            have zh3 : 0 ≤ (qcg : Int) := of_decide_eq_true (by first | (with_reducible assumption) | assumption)
                            have zh5 : qcg < (zx.length : Int) := of_decide_eq_true (by first | (with_reducible assumption) | assumption)
                            obtain ⟨zo1, zid, zir, e227, qny, qnz, qn0, qn1, qzj, qy7⟩ := qjh qoh.out qcg zh3 zh5
                            cases e227
                            replace qny := (HB.out.cell (World.block_lt_of_cell? w _ qny)).trans qny
                            replace qnz := (HB.out.cell (World.block_lt_of_cell? w _ qnz)).trans qnz
                            replace qn0 := (HB.out.cell (World.block_lt_of_cell? w _ qn0)).trans qn0
                            replace qn1 := (HB.out.cell (World.block_lt_of_cell? w _ qn1)).trans qn1
                            have q9m := qf.mk qy7
                            have q9d := qf.mk qzj
                            clear qy7 qzj
                            replace zh3 := eq_true zh3
                            replace zh5 := eq_true zh5
                            go_wp2_with (first | ((with_reducible refine qaq (f := 22) rfl ?_); refine qcj (some 229) rfl rfl Tryd.func22 (by kernel_rfl) rfl #[.agg #[.int .i64 ((zf zx qcg).f0), .int .i64 ((zf zx qcg).f1), .string ((zf zx qcg).f2), .slice zid ((zf zx qcg).f3).length zir]] rfl (by (try simp only [List.map_toArray, List.map_cons, List.map_nil]); first | done | rfl | (simp only [List.length_drop, List.length_take]; rfl)) ?_; (with_reducible refine (zi.calls k10 ((zf zx qcg).f0) ((zf zx qcg).f1) ((zf zx qcg).f2) _ _ ((zf zx qcg).f3) true _ ?side1 ?side2 zwm.out).mono ?_); (case side1 => repeat (first | exact (Kd.vv q9m.out HB.out) | (with_reducible refine Kd.qba ?_ _) | (with_reducible refine Kd.qaz ?_ _) | (with_reducible refine Kd.qbq ?_))); (case side2 => exact q9d.out); rintro e z5i ⟨rfl, hb⟩; refine ⟨_, rfl, ?_⟩; have n0_ := qf.mk (zl (g := q9) (o := .cells #[.int .i64 qw, .int .i64 qy, .int .i64 za, .string yg, .int .i64 ym, .int .i64 yf, .string yh, .slice qaa yj.length qab, .slice qai qx.length qaf, .slice (some zo1) zx.length vo] 30 (0, 0)) (by (with_reducible repeat (first | refine qj ?_ _ | refine qo ?_ | refine qi ?_ _)); exact qm.out) hb); have n1_ := qf.mk (zk (by repeat (first | (with_reducible first | exact HB.out | apply qg | apply qc | apply qh | refine ql ?_ qbj.out) | exact HB.out)) hb); clear qm; clear HB; have qm := n0_; have HB := n1_; clear n0_ n1_; (try clear hb); (try clear hb2); (try clear hk); (try clear hi)))
                            go_roundg k10
                            case measure => have := HJ2.out; have := qf2.out; have := qet.out; have := qkt.out; have := qmg.out; have := qou.out; have := qtb.out; have := q9h.out; have := q8z.out; have := zoa.out; omega
                            case rel => exact ⟨(wrap64 (qcg + 1)), (by first | rfl | (simp; done) | (simp [*]; done)), H', ⟨by have := HJ2.out; have := qf2.out; have := qet.out; have := qkt.out; have := qmg.out; have := qou.out; have := qtb.out; have := q9h.out; have := q8z.out; have := zoa.out; omega⟩, ⟨by (with_reducible repeat (first | refine qj ?_ _ | refine qo ?_ | refine qi ?_ _)); exact qm.out⟩, ⟨by repeat (first | (with_reducible first | exact HB.out | apply qg | apply qc | apply qh | refine ql ?_ qbj.out) | exact HB.out)⟩⟩
                           ·replace zo8 := Bool.eq_false_iff.mpr zo8
                            subst zo8
                            have H1 : (some false) = some r := by rw [if_neg (show ¬ (false = true) by decide)] at H; exact H
                            clear H
                            have H := H1
                            clear H1
                            obtain rfl := Option.some.inj H
                            have zp6 : wr.cell? ⟨q9, 0, none⟩ = some (.int .i64 qw) := (qb qm.out 0).trans rfl
                            have zp7 : wr.cell? ⟨q9, 1, none⟩ = some (.int .i64 qy) := (qb qm.out 1).trans rfl
                            have zp8 : wr.cell? ⟨q9, 2, none⟩ = some (.int .i64 za) := (qb qm.out 2).trans rfl
                            have zp9 : wr.cell? ⟨q9, 3, none⟩ = some (.string yg) := (qb qm.out 3).trans rfl
                            have zqa : wr.cell? ⟨q9, 4, none⟩ = some (.int .i64 ym) := (qb qm.out 4).trans rfl
                            have zqb : wr.cell? ⟨q9, 5, none⟩ = some (.int .i64 yf) := (qb qm.out 5).trans rfl
                            have zqc : wr.cell? ⟨q9, 6, none⟩ = some (.string yh) := (qb qm.out 6).trans rfl
                            have zqd : wr.cell? ⟨q9, 7, none⟩ = some (.slice qaa yj.length qab) := (qb qm.out 7).trans rfl
                            have zqe : wr.cell? ⟨q9, 8, none⟩ = some (.slice qai qx.length qaf) := (qb qm.out 8).trans rfl
                            have zqf : wr.cell? ⟨q9, 9, none⟩ = some (.slice qac zx.length vo) := (qb qm.out 9).trans rfl
                            have zq4 := qa qm.out 0
                            have zq5 := qa qm.out 1
                            have zq6 := qa qm.out 2
                            have zq7 := qa qm.out 3
                            have zq8 := qa qm.out 4
                            have zq9 := qa qm.out 5
                            have zra := qa qm.out 6
                            have zrb := qa qm.out 7
                            have zrc := qa qm.out 8
                            have zrd := qa qm.out 9
                            have zh3 : 0 ≤ (qcg : Int) := of_decide_eq_true (by first | (with_reducible assumption) | assumption)
                            have zh5 : qcg < (zx.length : Int) := of_decide_eq_true (by first | (with_reducible assumption) | assumption)
                            obtain ⟨zo1, zid, zir, e227, qny, qnz, qn0, qn1, qzj, qy7⟩ := qjh qoh.out qcg zh3 zh5
                            cases e227
                            replace qny := (HB.out.cell (World.block_lt_of_cell? w _ qny)).trans qny
                            replace qnz := (HB.out.cell (World.block_lt_of_cell? w _ qnz)).trans qnz
                            replace qn0 := (HB.out.cell (World.block_lt_of_cell? w _ qn0)).trans qn0
                            replace qn1 := (HB.out.cell (World.block_lt_of_cell? w _ qn1)).trans qn1
                            have q9m := qf.mk qy7
                            have q9d := qf.mk qzj
                            clear qy7 qzj
                            replace zh3 := eq_true zh3
                            replace zh5 := eq_true zh5
                            go_wp2_with (first | ((with_reducible refine qaq (f := 22) rfl ?_); refine qcj (some 229) rfl rfl Tryd.func22 (by kernel_rfl) rfl #[.agg #[.int .i64 ((zf zx qcg).f0), .int .i64 ((zf zx qcg).f1), .string ((zf zx qcg).f2), .slice zid ((zf zx qcg).f3).length zir]] rfl (by (try simp only [List.map_toArray, List.map_cons, List.map_nil]); first | done | rfl | (simp only [List.length_drop, List.length_take]; rfl)) ?_; (with_reducible refine (zi.calls k10 ((zf zx qcg).f0) ((zf zx qcg).f1) ((zf zx qcg).f2) _ _ ((zf zx qcg).f3) false _ ?side1 ?side2 zwm.out).mono ?_); (case side1 => repeat (first | exact (Kd.vv q9m.out HB.out) | (with_reducible refine Kd.qba ?_ _) | (with_reducible refine Kd.qaz ?_ _) | (with_reducible refine Kd.qbq ?_))); (case side2 => exact q9d.out); rintro e z5j ⟨rfl, hb⟩; refine ⟨_, rfl, ?_⟩; have n0_ := qf.mk (zl (g := q9) (o := .cells #[.int .i64 qw, .int .i64 qy, .int .i64 za, .string yg, .int .i64 ym, .int .i64 yf, .string yh, .slice qaa yj.length qab, .slice qai qx.length qaf, .slice (some zo1) zx.length vo] 30 (0, 0)) (by (with_reducible repeat (first | refine qj ?_ _ | refine qo ?_ | refine qi ?_ _)); exact qm.out) hb); have n1_ := qf.mk (zk (by repeat (first | (with_reducible first | exact HB.out | apply qg | apply qc | apply qh | refine ql ?_ qbj.out) | exact HB.out)) hb); clear qm; clear HB; have qm := n0_; have HB := n1_; clear n0_ n1_; (try clear hb); (try clear hb2); (try clear hk); (try clear hi)))
                            go_ret
                            exact ⟨by first | rfl | (simp [zg, zh] <;> rfl) | (simp [*, zg, zh] <;> rfl), by repeat (first | (with_reducible first | exact HB.out | apply qg | apply qc | apply qh | refine ql ?_ qbj.out) | exact HB.out)⟩
                          ·rw [if_neg zo7] at H
                           exact absurd H (by simp)
                         ·rw [if_neg zio] at H
                          have c112b0 : decide (qcg < (zx.length : Int)) = false := decide_eq_false zio
                          clear zio
                          have H' := qf.mk H
                          clear H
                          have zqg : wr.cell? ⟨q9, 0, none⟩ = some (.int .i64 qw) := (qb qm.out 0).trans rfl
                          have zqh : wr.cell? ⟨q9, 1, none⟩ = some (.int .i64 qy) := (qb qm.out 1).trans rfl
                          have zqi : wr.cell? ⟨q9, 2, none⟩ = some (.int .i64 za) := (qb qm.out 2).trans rfl
                          have zqj : wr.cell? ⟨q9, 3, none⟩ = some (.string yg) := (qb qm.out 3).trans rfl
                          have zqk : wr.cell? ⟨q9, 4, none⟩ = some (.int .i64 ym) := (qb qm.out 4).trans rfl
                          have zql : wr.cell? ⟨q9, 5, none⟩ = some (.int .i64 yf) := (qb qm.out 5).trans rfl
                          have zqm : wr.cell? ⟨q9, 6, none⟩ = some (.string yh) := (qb qm.out 6).trans rfl
                          have zqn : wr.cell? ⟨q9, 7, none⟩ = some (.slice qaa yj.length qab) := (qb qm.out 7).trans rfl
                          have zqo : wr.cell? ⟨q9, 8, none⟩ = some (.slice qai qx.length qaf) := (qb qm.out 8).trans rfl
                          have zqp : wr.cell? ⟨q9, 9, none⟩ = some (.slice qac zx.length vo) := (qb qm.out 9).trans rfl
                          have zre := qa qm.out 0
                          have zrf := qa qm.out 1
                          have zrg := qa qm.out 2
                          have zrh := qa qm.out 3
                          have zri := qa qm.out 4
                          have zrj := qa qm.out 5
                          have zrk := qa qm.out 6
                          have zrl := qa qm.out 7
                          have zrm := qa qm.out 8
                          have zrn := qa qm.out 9
                          go_wp2
                          go_loopg [11] k10 (fun kq v11 w' => ∃ (qbd : Int), v11 = .int .i64 qbd ∧ qf (qd.l1 kq a1 (qx.length : Int) qbd qw qy za yg ym yf yh yj qx zx = some r) ∧ qf (kq ≤ k10) ∧ qf (w'.heap[q9]? = some (.cells #[.int .i64 qw, .int .i64 qy, .int .i64 za, .string yg, .int .i64 ym, .int .i64 yf, .string yh, (.slice qaa yj.length qab), (.slice qai qx.length qaf), (.slice qac zx.length vo)] 30 (0, 0))) ∧ qf (Below w.heap.size w w'))
                          case atStart => exact ⟨(0), (by first | rfl | (simp; done) | (simp [*]; done)), H', ⟨Nat.le_refl _⟩, ⟨by (with_reducible repeat (first | refine qj ?_ _ | refine qo ?_ | refine qi ?_ _)); exact qm.out⟩, ⟨by repeat (first | (with_reducible first | exact HB.out | apply qg | apply qc | apply qh | refine ql ?_ qbj.out) | exact HB.out)⟩⟩
                          case round =>
                           clear H'
                           (try clear c1); (try clear c2); (try clear p2); (try clear q2); (try clear hx2); (try clear p6); (try clear c11); (try clear c22); (try clear p22); (try clear q22); (try clear z4o); (try clear p64); (try clear zio); (try clear c112b0); (try clear zo7); (try clear c113b0); (try clear zo8); (try clear zpw zpx zpy zpz zp0 zp1 zp2 zp3 zp4 zp5); (try clear zp6 zp7 zp8 zp9 zqa zqb zqc zqd zqe zqf); (try clear zqg zqh zqi zqj zqk zql zqm zqn zqo zqp); (try clear q2h q2i q2j); (try clear q2k q2l q2m q2n q2o q2p q2q q2r q2s q2t); (try clear q2u q2v q2w q2x q2y q20 q21 q23 q25 q26); (try clear q27 q28 q29 q3a q3b q3c q3d q3e q3f q3g); (try clear q3h q3i q3j q3k q3l q3m q3n q3o q3p q3q); (try clear qxv qxw qxx qxy qxz qx0 qx1 qx2 qx3 qx4); (try clear qx5 qx6 qx7 qx8 qx9 qya qyb qyc qyd qye); (try clear q7m q7n q7o q7p q7q q7r q7s q7t q7u q7v); (try clear q7w q7x q7y q7z q70 q71 q72 q73 q74 q75); (try clear qib qic qid qie qif qig); (try clear q76 q77 q78 q79 q8a q8b q8c q8d q8e q8f); (try clear zqu zqv zqw zqx zqy zqz zq0 zq1 zq2 zq3); (try clear zq4 zq5 zq6 zq7 zq8 zq9 zra zrb zrc zrd); (try clear zre zrf zrg zrh zri zrj zrk zrl zrm zrn); (try clear qih qii qij qik qil qim qin qio qip qiq); (try clear qcr qcs qct qcu qgg qgh qgi qgj qgk qgl); (try clear qdq qdr qds qdt qgm qgn qgo qgp qgq qgr); (try clear qha qhb qhc qhd qhe qhf qhg qhh qhi qhj); (try clear qem qen qeo qep qhk qhl qhm qhn qho qhp); (try clear qir qis qit qiu qm4 qm5 qm6 qm7 qm8 qm9); (try clear qna qnb qnc qnd qne qnf qng qnh qni qnj); (try clear qj6 qj7 qj8 qj9 qpd qpe qpf qpg qph qpi); (try clear qpj qpk qpl qpm qpn qpo qpp qpq qpr qps); (try clear qpt qpu qpv qpw qpx qpy qpz qp0 qp1 qp2); (try clear qiv qiw qix qiy qno qnp qnq qnr qns qnt); (try clear qp3 qp4 qp5 qp6 qp7 qp8 qp9 qqa qqb qqc); (try clear qka qkb qkc qkd qqd qqe qqf qqg qqh qqi); (try clear qke qkf qkg qkh qqj qqk qql qqm qqn qqo); (try clear qgs qgt qgu qgv qqp qqq qqr qqs qqt qqu); (try clear qqv qqw qqx qqy qqz qq0 qq1 qq2 qq3 qq4); (try clear qki qkj qkk qkl qq5 qq6 qq7 qq8 qq9 qra); (try clear qrb qrc qrd qre qrf qrg qrh qri qrj qrk); (try clear qrl qrm qrn qro qrp qrq qrr qrs qrt qru); (try clear qkm qkn qko qkp qrv qrw qrx qry qrz qr0); (try clear qu9 qva qvb qvc qvd qve qvf qvg qvh qvi); (try clear qlr qls qlt qlu qvj qvk qvl qvm qvn qvo); (try clear qvp qvq qvr qvs qvt qvu qvv qvw qvx qvy); (try clear qvz qv0 qv1 qv2 qyn qyo qyp qyq qyr qys); (try clear qnu qnv qnw qnx qyt qyu qyv qyw qyx qyy); (try clear q35 q36 q37 q38 q39 q4a q4b q4c q4d q4e); (try clear q4f q4g q4h q4i q4j q4k q4l q4m q4n q4o); (try clear qdu qdv qdw qdx qfl qfm qfn qfo qfp qfq); (try clear q4p q4q q4r q4s q4t q4u q4v q4w q4x q4y); (try clear q40 q41 q42 q43 q44 q45 q46 q47 q48 q49); (try clear q5a q5b q5c q5d q5e q5f q5g q5h q5i q5j); (try clear q5k q5l q5m q5n q5o q5p q5q q5r q5s q5t); (try clear q5u q5v q5w q5x q5y q50 q51 q52 q53 q54); (try clear q55 q56 q57 q58 q59 q6a q6b q6c q6d q6e); (try clear q6f q6g q6h q6i q6j q6k q6l q6m q6n q6o); (try clear qc0 qc7 qc8 qc9 qiz qi0 qi1 qi2 qi3 qi4); (try clear qny); (try clear qnz); (try clear qn0); (try clear qn1); (try clear p2); (try clear zh3); (try clear zh5)
                           obtain ⟨qbd, rfl, HA, zr9, qm, HB⟩ := hrel
                           cases gk with
                           | zero => exact absurd HA.out (by simp [qd.l1])
                           | succ k11 =>
                            have H := HA.out
                            clear HA
                            simp only [qd.l1] at H
                            by_cases zoe : qbd < (qx.length : Int)
                            ·rw [if_pos zoe] at H
                             have c121b0 : decide (qbd < (qx.length : Int)) = true := decide_eq_true zoe
                             clear zoe
                             by_cases zse : 0 ≤ qbd
                             ·rw [if_pos zse] at H
                              have c122b0 : decide (0 ≤ qbd) = true := decide_eq_true zse
                              clear zse
                              by_cases zsf : qbd < (qx.length : Int)
                              ·rw [if_pos zsf] at H
                               have c123b0 : decide (qbd < (qx.length : Int)) = true := decide_eq_true zsf
                               clear zsf
                               replace H := Option.bind_eq_some_iff.mp H
                               obtain ⟨zt7, zue, H⟩ := H
                               replace H : (if zt7 = true then (qd.l1 k11 a1 (qx.length : Int) (wrap64 (qbd + 1)) qw qy za yg ym yf yh yj qx zx) else (some false)) = some r := H
                               have zwo := qf.mk zue
                               clear zue
                               by_cases zsg : zt7 = true
                               ·subst zsg
                                have H1 : (qd.l1 k11 a1 (qx.length : Int) (wrap64 (qbd + 1)) qw qy za yg ym yf yh yj qx zx) = some r := by rw [if_pos rfl] at H; exact H
                                clear H
                                have H := H1
                                clear H1
                                have H' := qf.mk H
                                clear H
                                have zxf : wr.cell? ⟨q9, 0, none⟩ = some (.int .i64 qw) := (qb qm.out 0).trans rfl
                                have zxg : wr.cell? ⟨q9, 1, none⟩ = some (.int .i64 qy) := (qb qm.out 1).trans rfl
                                have zxh : wr.cell? ⟨q9, 2, none⟩ = some (.int .i64 za) := (qb qm.out 2).trans rfl
                                have zxi : wr.cell? ⟨q9, 3, none⟩ = some (.string yg) := (qb qm.out 3).trans rfl
                                have zxj : wr.cell? ⟨q9, 4, none⟩ = some (.int .i64 ym) := (qb qm.out 4).trans rfl
                                have zxk : wr.cell? ⟨q9, 5, none⟩ = some (.int .i64 yf) := (qb qm.out 5).trans rfl
                                have zxl : wr.cell? ⟨q9, 6, none⟩ = some (.string yh) := (qb qm.out 6).trans rfl
                                have zxm : wr.cell? ⟨q9, 7, none⟩ = some (.slice qaa yj.length qab) := (qb qm.out 7).trans rfl
                                have zxn : wr.cell? ⟨q9, 8, none⟩ = some (.slice qai qx.length qaf) := (qb qm.out 8).trans rfl
                                have zxo : wr.cell? ⟨q9, 9, none⟩ = some (.slice qac zx.length vo) := (qb qm.out 9).trans rfl
                                have zx1 := qa qm.out 0
                                have zx2 := qa qm.out 1
                                have zx3 := qa qm.out 2
                                have zx4 := qa qm.out 3
                                have zx5 := qa qm.out 4
                                have zx6 := qa qm.out 5
                                have zx7 := qa qm.out 6
                                have zx8 := qa qm.out 7
                                have zx9 := qa qm.out 8
                                have zya := qa qm.out 9
                                have zjs : 0 ≤ (qbd : Int) := of_decide_eq_true (by first | (with_reducible assumption) | assumption)
                                have zj1 : qbd < (qx.length : Int) := of_decide_eq_true (by first | (with_reducible assumption) | assumption)
                                obtain ⟨zo2, zie, zis, zif, zit, zih, ziu, e229, qsn, qso, qsp, qsq, qsr, qss, qst, qsu, qsv, qsw, qzk, qy8, qzl, qy9, qzm, qza⟩ := q65 qs4.out qbd zjs zj1
                                cases e229
                                replace qsn := (HB.out.cell (World.block_lt_of_cell? w _ qsn)).trans qsn
                                replace qso := (HB.out.cell (World.block_lt_of_cell? w _ qso)).trans qso
                                replace qsp := (HB.out.cell (World.block_lt_of_cell? w _ qsp)).trans qsp
                                replace qsq := (HB.out.cell (World.block_lt_of_cell? w _ qsq)).trans qsq
                                replace qsr := (HB.out.cell (World.block_lt_of_cell? w _ qsr)).trans qsr
                                replace qss := (HB.out.cell (World.block_lt_of_cell? w _ qss)).trans qss
                                replace qst := (HB.out.cell (World.block_lt_of_cell? w _ qst)).trans qst
                                replace qsu := (HB.out.cell (World.block_lt_of_cell? w _ qsu)).trans qsu
                                replace qsv := (HB.out.cell (World.block_lt_of_cell? w _ qsv)).trans qsv
                                replace qsw := (HB.out.cell (World.block_lt_of_cell? w _ qsw)).trans qsw
                                have q9n := qf.mk qy8
                                have q9e := qf.mk qzk
                                clear qy8 qzk
                                have q9o := qf.mk qy9
                                have q9f := qf.mk qzl
                                clear qy9 qzl
                                have q9p := qf.mk qza
                                have q9g := qf.mk qzm
                                clear qza qzm
                                replace zjs := eq_true zjs
                                replace zj1 := eq_true zj1
                                go_wp2_with (first | ((with_reducible refine qaq (f := 13) rfl ?_); refine qcj (some 243) rfl rfl Tryd.func13 (by kernel_rfl) rfl #[.agg #[.int .i64 ((zb qx qbd).f0), .int .i64 ((zb qx qbd).f1), .int .i64 ((zb qx qbd).f2), .string ((zb qx qbd).f3), .int .i64 ((zb qx qbd).f4.f0), .int .i64 ((zb qx qbd).f4.f1), .string ((zb qx qbd).f4.f2), .slice zie ((zb qx qbd).f4.f3).length zis, .slice zif ((zb qx qbd).f5).length zit, .slice zih ((zb qx qbd).f6).length ziu], .int .i64 (wrap64 (a1 + 1))] rfl (by (try simp only [List.map_toArray, List.map_cons, List.map_nil]); first | done | rfl | (simp only [List.length_drop, List.length_take]; rfl)) ?_; (with_reducible refine (ih k11 (by have := HJ2.out; have := qf2.out; have := qet.out; have := qkt.out; have := qmg.out; have := qou.out; have := qtb.out; have := q9h.out; have := q8z.out; have := zoa.out; have := zr9.out; omega) ((zb qx qbd).f0) ((zb qx qbd).f1) ((zb qx qbd).f2) ((zb qx qbd).f3) ((zb qx qbd).f4.f0) ((zb qx qbd).f4.f1) ((zb qx qbd).f4.f2) _ _ ((zb qx qbd).f4.f3) _ _ ((zb qx qbd).f5) _ _ ((zb qx qbd).f6) (wrap64 (a1 + 1)) true _ ?side1 ?side2 ?side3 ?side4 ?side5 ?side6 zwo.out).mono ?_); (case side1 => repeat (first | exact (Kd.vv q9n.out HB.out) | (with_reducible refine Kd.qba ?_ _) | (with_reducible refine Kd.qaz ?_ _) | (with_reducible refine Kd.qbq ?_))); (case side2 => exact q9e.out); (case side3 => repeat (first | exact (Kd.vv q9o.out HB.out) | (with_reducible refine Kd.qba ?_ _) | (with_reducible refine Kd.qaz ?_ _) | (with_reducible refine Kd.qbq ?_))); (case side4 => exact q9f.out); (case side5 => repeat (first | exact (Kd.vv q9p.out HB.out) | (with_reducible refine Kd.qba ?_ _) | (with_reducible refine Kd.qaz ?_ _) | (with_reducible refine Kd.qbq ?_))); (case side6 => exact q9g.out); rintro e z5k ⟨rfl, hb⟩; refine ⟨_, rfl, ?_⟩; have n0_ := qf.mk (zl (g := q9) (o := .cells #[.int .i64 qw, .int .i64 qy, .int .i64 za, .string yg, .int .i64 ym, .int .i64 yf, .string yh, .slice qaa yj.length qab, .slice (some zo2) qx.length qaf, .slice qac zx.length vo] 30 (0, 0)) (by (with_reducible repeat (first | refine qj ?_ _ | refine qo ?_ | refine qi ?_ _)); exact qm.out) hb); have n1_ := qf.mk (zk (by repeat (first | (with_reducible first | exact HB.out | apply qg | apply qc | apply qh | refine ql ?_ qbj.out) | exact HB.out)) hb); clear qm; clear HB; have qm := n0_; have HB := n1_; clear n0_ n1_; (try clear hb); (try clear hb2); (try clear hk); (try clear hi)))
                                go_roundg k11
                                case measure => have := HJ2.out; have := qf2.out; have := qet.out; have := qkt.out; have := qmg.out; have := qou.out; have := qtb.out; have := q9h.out; have := q8z.out; have := zoa.out; have := zr9.out; omega
                                case rel => exact ⟨(wrap64 (qbd + 1)), (by first | rfl | (simp; done) | (simp [*]; done)), H', ⟨by have := HJ2.out; have := qf2.out; have := qet.out; have := qkt.out; have := qmg.out; have := qou.out; have := qtb.out; have := q9h.out; have := q8z.out; have := zoa.out; have := zr9.out; omega⟩, ⟨by (with_reducible repeat (first | refine qj ?_ _ | refine qo ?_ | refine qi ?_ _)); exact qm.out⟩, ⟨by repeat (first | (with_reducible first | exact HB.out | apply qg | apply qc | apply qh | refine ql ?_ qbj.out) | exact HB.out)⟩⟩
                               ·replace zsg := Bool.eq_false_iff.mpr zsg
                                subst zsg
                                have H1 : (some false) = some r := by rw [if_neg (show ¬ (false = true) by decide)] at H; exact H
                                clear H
                                have H := H1
                                clear H1
                                obtain rfl := Option.some.inj H
                                have zxp : wr.cell? ⟨q9, 0, none⟩ = some (.int .i64 qw) := (qb qm.out 0).trans rfl
                                have zxq : wr.cell? ⟨q9, 1, none⟩ = some (.int .i64 qy) := (qb qm.out 1).trans rfl
                                have zxr : wr.cell? ⟨q9, 2, none⟩ = some (.int .i64 za) := (qb qm.out 2).trans rfl
                                have zxs : wr.cell? ⟨q9, 3, none⟩ = some (.string yg) := (qb qm.out 3).trans rfl
                                have zxt : wr.cell? ⟨q9, 4, none⟩ = some (.int .i64 ym) := (qb qm.out 4).trans rfl
                                have zxu : wr.cell? ⟨q9, 5, none⟩ = some (.int .i64 yf) := (qb qm.out 5).trans rfl
                                have zxv : wr.cell? ⟨q9, 6, none⟩ = some (.string yh) := (qb qm.out 6).trans rfl
                                have zxw : wr.cell? ⟨q9, 7, none⟩ = some (.slice qaa yj.length qab) := (qb qm.out 7).trans rfl
                                have zxx : wr.cell? ⟨q9, 8, none⟩ = some (.slice qai qx.length qaf) := (qb qm.out 8).trans rfl
                                have zxy : wr.cell? ⟨q9, 9, none⟩ = some (.slice qac zx.length vo) := (qb qm.out 9).trans rfl
                                have zyb := qa qm.out 0
                                have zyc := qa qm.out 1
                                have zyd := qa qm.out 2
                                have zye := qa qm.out 3
                                have zyf := qa qm.out 4
                                have zyg := qa qm.out 5
                                have zyh := qa qm.out 6
                                have zyi := qa qm.out 7
                                have zyj := qa qm.out 8
                                have zyk := qa qm.out 9
                                have zjs : 0 ≤ (qbd : Int) := of_decide_eq_true (by first | (with_reducible assumption) | assumption)
                                have zj1 : qbd < (qx.length : Int) := of_decide_eq_true (by first | (with_reducible assumption) | assumption)
                                obtain ⟨zo2, zie, zis, zif, zit, zih, ziu, e229, qsn, qso, qsp, qsq, qsr, qss, qst, qsu, qsv, qsw, qzk, qy8, qzl, qy9, qzm, qza⟩ := q65 qs4.out qbd zjs zj1
                                cases e229
                                replace qsn := (HB.out.cell (World.block_lt_of_cell? w _ qsn)).trans qsn
                                replace qso := (HB.out.cell (World.block_lt_of_cell? w _ qso)).trans qso
                                replace qsp := (HB.out.cell (World.block_lt_of_cell? w _ qsp)).trans qsp
                                replace qsq := (HB.out.cell (World.block_lt_of_cell? w _ qsq)).trans qsq
                                replace qsr := (HB.out.cell (World.block_lt_of_cell? w _ qsr)).trans qsr
                                replace qss := (HB.out.cell (World.block_lt_of_cell? w _ qss)).trans qss
                                replace qst := (HB.out.cell (World.block_lt_of_cell? w _ qst)).trans qst
                                replace qsu := (HB.out.cell (World.block_lt_of_cell? w _ qsu)).trans qsu
                                replace qsv := (HB.out.cell (World.block_lt_of_cell? w _ qsv)).trans qsv
                                replace qsw := (HB.out.cell (World.block_lt_of_cell? w _ qsw)).trans qsw
                                have q9n := qf.mk qy8
                                have q9e := qf.mk qzk
                                clear qy8 qzk
                                have q9o := qf.mk qy9
                                have q9f := qf.mk qzl
                                clear qy9 qzl
                                have q9p := qf.mk qza
                                have q9g := qf.mk qzm
                                clear qza qzm
                                replace zjs := eq_true zjs
                                replace zj1 := eq_true zj1
                                go_wp2_with (first | ((with_reducible refine qaq (f := 13) rfl ?_); refine qcj (some 243) rfl rfl Tryd.func13 (by kernel_rfl) rfl #[.agg #[.int .i64 ((zb qx qbd).f0), .int .i64 ((zb qx qbd).f1), .int .i64 ((zb qx qbd).f2), .string ((zb qx qbd).f3), .int .i64 ((zb qx qbd).f4.f0), .int .i64 ((zb qx qbd).f4.f1), .string ((zb qx qbd).f4.f2), .slice zie ((zb qx qbd).f4.f3).length zis, .slice zif ((zb qx qbd).f5).length zit, .slice zih ((zb qx qbd).f6).length ziu], .int .i64 (wrap64 (a1 + 1))] rfl (by (try simp only [List.map_toArray, List.map_cons, List.map_nil]); first | done | rfl | (simp only [List.length_drop, List.length_take]; rfl)) ?_; (with_reducible refine (ih k11 (by have := HJ2.out; have := qf2.out; have := qet.out; have := qkt.out; have := qmg.out; have := qou.out; have := qtb.out; have := q9h.out; have := q8z.out; have := zoa.out; have := zr9.out; omega) ((zb qx qbd).f0) ((zb qx qbd).f1) ((zb qx qbd).f2) ((zb qx qbd).f3) ((zb qx qbd).f4.f0) ((zb qx qbd).f4.f1) ((zb qx qbd).f4.f2) _ _ ((zb qx qbd).f4.f3) _ _ ((zb qx qbd).f5) _ _ ((zb qx qbd).f6) (wrap64 (a1 + 1)) false _ ?side1 ?side2 ?side3 ?side4 ?side5 ?side6 zwo.out).mono ?_); (case side1 => repeat (first | exact (Kd.vv q9n.out HB.out) | (with_reducible refine Kd.qba ?_ _) | (with_reducible refine Kd.qaz ?_ _) | (with_reducible refine Kd.qbq ?_))); (case side2 => exact q9e.out); (case side3 => repeat (first | exact (Kd.vv q9o.out HB.out) | (with_reducible refine Kd.qba ?_ _) | (with_reducible refine Kd.qaz ?_ _) | (with_reducible refine Kd.qbq ?_))); (case side4 => exact q9f.out); (case side5 => repeat (first | exact (Kd.vv q9p.out HB.out) | (with_reducible refine Kd.qba ?_ _) | (with_reducible refine Kd.qaz ?_ _) | (with_reducible refine Kd.qbq ?_))); (case side6 => exact q9g.out); rintro e z5l ⟨rfl, hb⟩; refine ⟨_, rfl, ?_⟩; have n0_ := qf.mk (zl (g := q9) (o := .cells #[.int .i64 qw, .int .i64 qy, .int .i64 za, .string yg, .int .i64 ym, .int .i64 yf, .string yh, .slice qaa yj.length qab, .slice (some zo2) qx.length qaf, .slice qac zx.length vo] 30 (0, 0)) (by (with_reducible repeat (first | refine qj ?_ _ | refine qo ?_ | refine qi ?_ _)); exact qm.out) hb); have n1_ := qf.mk (zk (by repeat (first | (with_reducible first | exact HB.out | apply qg | apply qc | apply qh | refine ql ?_ qbj.out) | exact HB.out)) hb); clear qm; clear HB; have qm := n0_; have HB := n1_; clear n0_ n1_; (try clear hb); (try clear hb2); (try clear hk); (try clear hi)))
                                go_ret
                                exact ⟨by first | rfl | (simp [zg, zh] <;> rfl) | (simp [*, zg, zh] <;> rfl), by repeat (first | (with_reducible first | exact HB.out | apply qg | apply qc | apply qh | refine ql ?_ qbj.out) | exact HB.out)⟩
                              ·rw [if_neg zsf] at H
                               exact absurd H (by simp)
                             ·rw [if_neg zse] at H
                              exact absurd H (by simp)
                            ·rw [if_neg zoe] at H
                             have c121b0 : decide (qbd < (qx.length : Int)) = false := decide_eq_false zoe
                             clear zoe
                             obtain rfl := Option.some.inj H
                             go_wp2
                             go_ret
                             exact ⟨by first | rfl | (simp [zg, zh] <;> rfl) | (simp [*, zg, zh] <;> rfl), by repeat (first | (with_reducible first | exact HB.out | apply qg | apply qc | apply qh | refine ql ?_ qbj.out) | exact HB.out)⟩
end Go.Proofs.YtpgkhmdfddejfaaDoor.PV
end
