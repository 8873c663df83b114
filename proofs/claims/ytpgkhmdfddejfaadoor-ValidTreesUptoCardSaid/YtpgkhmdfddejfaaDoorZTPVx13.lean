import Derived.Test.YtpgkhmdfddejfaaDoorZTPVx0
import Derived.Test.YtpgkhmdfddejfaaDoorZTPVx9
import Derived.Test.YtpgkhmdfddejfaaDoorZTPVx12
import Derived.Test.YtpgkhmdfddejfaaDoorZTPVx13d
section
namespace Go.Proofs.YtpgkhmdfddejfaaDoor.PV
open Go.RowKit Go.Proofs.YtpgkhmdfddejfaaDoorW.PrintWords Go.Proofs.YtpgkhmdfddejfaaDoorW.PrintLast Go.Proofs.YtpgkhmdfddejfaaDoorW.PrintMore
attribute [local go_sem] qcw qcv qdb qda qcr qcq qcu qcx   -- for this text's walks alone
set_option linter.unusedVariables false
set_option linter.unusedSimpArgs false
set_option maxHeartbeats 8000000 in
set_option maxRecDepth 100000 in
theorem qf.calls (k : Nat) : ∀ (a0_0 : Int) (a0_1 : Int) (a0_2 : Int) (a0_3 : ByteArray) (a0_4 : Int) (a0_5 : Int) (a0_6 : ByteArray) (A0_7 : Option Addr) (c0_7 : Nat) (l0_7 : List (S27)) (A0_8 : Option Addr) (c0_8 : Nat) (l0_8 : List (S30)) (A0_9 : Option Addr) (c0_9 : Nat) (l0_9 : List (S27)) (a1 : Int) (r : Bool) (w : World) (qj8 : Kd.C k27 w A0_7 l0_7.length l0_7) (qjs : l0_7.length ≤ c0_7) (qj2 : Kd.C k30 w A0_8 l0_8.length l0_8) (qjq : l0_8.length ≤ c0_8) (qiw : Kd.C k27 w A0_9 l0_9.length l0_9) (qiv : l0_9.length ≤ c0_9) (h : qf.f k a0_0 a0_1 a0_2 a0_3 a0_4 a0_5 a0_6 l0_7 l0_8 l0_9 a1 = some r),
  Calls Tryd.prog 13 #[.agg #[.int .i64 a0_0, .int .i64 a0_1, .int .i64 a0_2, .string a0_3, .int .i64 a0_4, .int .i64 a0_5, .string a0_6, .slice A0_7 l0_7.length c0_7, .slice A0_8 l0_8.length c0_8, .slice A0_9 l0_9.length c0_9], .int .i64 a1] w fun e w' => e = .returned (.bool r) ∧ Below w.heap.size w w' := by
 induction k using Nat.strongRecOn with
 | _ k ih =>
 intro a0_0 a0_1 a0_2 a0_3 a0_4 a0_5 a0_6 A0_7 c0_7 l0_7 A0_8 c0_8 l0_8 A0_9 c0_9 l0_9 a1 r w qj8 qjs qj2 qjq qiw qiv h
 cases k with
 | zero => exact absurd h (by simp [qf.f])
 | succ k =>
 simp only [qf.f] at h
 have hu30 := Tryd.underlying30
 have hu27 := Tryd.underlying27
 have qnk := qc.mk qj8
 have qnj := qc.mk qjs
 clear qj8 qjs
 have qop := qc.mk qj2
 have q3e := qc.mk qjq
 clear qj2 qjq
 have qql := qc.mk qiw
 have qzd := qc.mk qiv
 clear qiw qiv
 have HB := qc.mk (Below.refl w.heap.size w)
 have H : (if a1 > 40 then (qf.j0 k a1 true a0_0 a0_1 a0_2 a0_3 a0_4 a0_5 a0_6 l0_7 l0_8 l0_9) else (if a0_0 < 0 then (qf.j0 k a1 true a0_0 a0_1 a0_2 a0_3 a0_4 a0_5 a0_6 l0_7 l0_8 l0_9) else (if a0_0 > 15 then (qf.j0 k a1 true a0_0 a0_1 a0_2 a0_3 a0_4 a0_5 a0_6 l0_7 l0_8 l0_9) else (qf.j0 k a1 (a0_0 == 10) a0_0 a0_1 a0_2 a0_3 a0_4 a0_5 a0_6 l0_7 l0_8 l0_9)))) = some r := h
 clear h
 have HC3 := qc.mk H
 clear H
 go_enter Tryd.func13, Tryd.ntmps13
 go_upto_region 1 with (first | ((with_reducible refine qb0 (N := 2) rfl ?_); (try (refine qcc (by rfl) ?_; dsimp only)); refine qby ?hg (N := 2) ?hd (cs := #[.int .i64 a0_0, .int .i64 a0_1, .int .i64 a0_2, .string a0_3, .int .i64 a0_4, .int .i64 a0_5, .string a0_6, .slice A0_7 l0_7.length c0_7, .slice A0_8 l0_8.length c0_8, .slice A0_9 l0_9.length c0_9]) (t := 30) ?hr ?_; (case hd => rfl); (case hg => rfl); (case hr => first | (go_simp; done) | (go_simp; rfl)); intro qfn hg w4 hbox hb; have n0_ := qc.mk (q9 (by repeat (first | (with_reducible first | exact HB.out | apply qg | apply qd | apply qh) | exact HB.out)) hb); have n1_ := qc.mk (hbox); have n2_ := qc.mk ((by rw [hg]; exact (qba (by repeat (first | (with_reducible first | exact HB.out | apply qg | apply qd | apply qh) | exact HB.out))) : w.heap.size ≤ qfn)); have n3_ := qc.mk ((by rw [hg]; exact (qba (by repeat (first | (with_reducible first | exact HB.out | apply qg | apply qd | apply qh) | exact HB.out))) : w.heap.size ≤ qfn)); clear HB; have HB := n0_; have qfm := n1_; have qbxr := n2_; have qgm := n3_; clear n0_ n1_ n2_ n3_; clear hb hbox hg))
 (try simp only [Act.put, List.setIfInBounds_toArray, List.set_cons_zero, List.set_cons_succ])
 go_cut [28] (fun v28 wc => ∃ (kq : Nat) (qbl9 : Bool), v28 = .bool qbl9 ∧ qc (qf.j0 kq a1 qbl9 a0_0 a0_1 a0_2 a0_3 a0_4 a0_5 a0_6 l0_7 l0_8 l0_9 = some r) ∧ qc (kq ≤ k) ∧ qc (wc.heap[qfn]? = some (.cells #[.int .i64 a0_0, .int .i64 a0_1, .int .i64 a0_2, .string a0_3, .int .i64 a0_4, .int .i64 a0_5, .string a0_6, (.slice A0_7 l0_7.length c0_7), (.slice A0_8 l0_8.length c0_8), (.slice A0_9 l0_9.length c0_9)] 30 (0, 0))) ∧ qc (Below w.heap.size w wc))
 case first =>
  as_aux_lemma =>
   have H := HC3.out
   clear HC3
   by_cases c5 : a1 > 40
   ·rw [if_pos c5] at H
    have c5b0 : decide (40 < a1) = true := decide_eq_true c5
    clear c5
    (first | rw [c5b0] | (simp only [i64_w, i32_w]; rw [c5b0]) | skip)
    have H' := qc.mk H
    clear H
    go_wp2
    go_meet
    case rel => exact ⟨_, (true), (by first | rfl | (simp; done) | (simp [*]; done)), H', ⟨by first | omega | exact Nat.le_refl _⟩, ⟨by (with_reducible repeat (first | refine qj ?_ _ | refine qm ?_ | refine qi ?_ _)); exact qfm.out⟩, ⟨by repeat (first | (with_reducible first | exact HB.out | apply qg | apply qd | apply qh | refine ql ?_ qgm.out) | exact HB.out)⟩⟩
   ·rw [if_neg c5] at H
    have c5b0 : decide (40 < a1) = false := decide_eq_false c5
    clear c5
    (first | rw [c5b0] | (simp only [i64_w, i32_w]; rw [c5b0]) | skip)
    by_cases c6 : a0_0 < 0
    ·rw [if_pos c6] at H
     have c6b0 : decide (a0_0 < 0) = true := decide_eq_true c6
     clear c6
     have H' := qc.mk H
     clear H
     have qjl : w4.cell? ⟨qfn, 0, none⟩ = some (.int .i64 a0_0) := (qb qfm.out 0).trans rfl
     have qjm : w4.cell? ⟨qfn, 1, none⟩ = some (.int .i64 a0_1) := (qb qfm.out 1).trans rfl
     have qjj : w4.cell? ⟨qfn, 2, none⟩ = some (.int .i64 a0_2) := (qb qfm.out 2).trans rfl
     have qjk : w4.cell? ⟨qfn, 3, none⟩ = some (.string a0_3) := (qb qfm.out 3).trans rfl
     have qlg : w4.cell? ⟨qfn, 4, none⟩ = some (.int .i64 a0_4) := (qb qfm.out 4).trans rfl
     have qlf : w4.cell? ⟨qfn, 5, none⟩ = some (.int .i64 a0_5) := (qb qfm.out 5).trans rfl
     have qlm : w4.cell? ⟨qfn, 6, none⟩ = some (.string a0_6) := (qb qfm.out 6).trans rfl
     have qlk : w4.cell? ⟨qfn, 7, none⟩ = some (.slice A0_7 l0_7.length c0_7) := (qb qfm.out 7).trans rfl
     have qli : w4.cell? ⟨qfn, 8, none⟩ = some (.slice A0_8 l0_8.length c0_8) := (qb qfm.out 8).trans rfl
     have qld : w4.cell? ⟨qfn, 9, none⟩ = some (.slice A0_9 l0_9.length c0_9) := (qb qfm.out 9).trans rfl
     have qhj := qa qfm.out 0
     have qhl := qa qfm.out 1
     have qhm := qa qfm.out 2
     have qhk := qa qfm.out 3
     have qi2 := qa qfm.out 4
     have qix := qa qfm.out 5
     have qi0 := qa qfm.out 6
     have qi1 := qa qfm.out 7
     have qiy := qa qfm.out 8
     have qiz := qa qfm.out 9
     go_wp2
     go_meet
     case rel => exact ⟨_, (true), (by first | rfl | (simp; done) | (simp [*]; done)), H', ⟨by first | omega | exact Nat.le_refl _⟩, ⟨by (with_reducible repeat (first | refine qj ?_ _ | refine qm ?_ | refine qi ?_ _)); exact qfm.out⟩, ⟨by repeat (first | (with_reducible first | exact HB.out | apply qg | apply qd | apply qh | refine ql ?_ qgm.out) | exact HB.out)⟩⟩
    ·rw [if_neg c6] at H
     have c6b0 : decide (a0_0 < 0) = false := decide_eq_false c6
     clear c6
     by_cases c8 : a0_0 > 15
     ·rw [if_pos c8] at H
      have c8b0 : decide (15 < a0_0) = true := decide_eq_true c8
      clear c8
      have H' := qc.mk H
      clear H
      have qh4 : w4.cell? ⟨qfn, 0, none⟩ = some (.int .i64 a0_0) := (qb qfm.out 0).trans rfl
      have qhu : w4.cell? ⟨qfn, 1, none⟩ = some (.int .i64 a0_1) := (qb qfm.out 1).trans rfl
      have qh7 : w4.cell? ⟨qfn, 2, none⟩ = some (.int .i64 a0_2) := (qb qfm.out 2).trans rfl
      have qhx : w4.cell? ⟨qfn, 3, none⟩ = some (.string a0_3) := (qb qfm.out 3).trans rfl
      have qpc : w4.cell? ⟨qfn, 4, none⟩ = some (.int .i64 a0_4) := (qb qfm.out 4).trans rfl
      have qpe : w4.cell? ⟨qfn, 5, none⟩ = some (.int .i64 a0_5) := (qb qfm.out 5).trans rfl
      have qpd : w4.cell? ⟨qfn, 6, none⟩ = some (.string a0_6) := (qb qfm.out 6).trans rfl
      have qpf : w4.cell? ⟨qfn, 7, none⟩ = some (.slice A0_7 l0_7.length c0_7) := (qb qfm.out 7).trans rfl
      have qpa : w4.cell? ⟨qfn, 8, none⟩ = some (.slice A0_8 l0_8.length c0_8) := (qb qfm.out 8).trans rfl
      have qpb : w4.cell? ⟨qfn, 9, none⟩ = some (.slice A0_9 l0_9.length c0_9) := (qb qfm.out 9).trans rfl
      have qhd := qa qfm.out 0
      have qg9 := qa qfm.out 1
      have qhf := qa qfm.out 2
      have qha := qa qfm.out 3
      have qlh := qa qfm.out 4
      have qln := qa qfm.out 5
      have qlo := qa qfm.out 6
      have qll := qa qfm.out 7
      have qle := qa qfm.out 8
      have qlj := qa qfm.out 9
      go_wp2
      go_meet
      case rel => exact ⟨_, (true), (by first | rfl | (simp; done) | (simp [*]; done)), H', ⟨by first | omega | exact Nat.le_refl _⟩, ⟨by (with_reducible repeat (first | refine qj ?_ _ | refine qm ?_ | refine qi ?_ _)); exact qfm.out⟩, ⟨by repeat (first | (with_reducible first | exact HB.out | apply qg | apply qd | apply qh | refine ql ?_ qgm.out) | exact HB.out)⟩⟩
     ·rw [if_neg c8] at H
      have c8b0 : decide (15 < a0_0) = false := decide_eq_false c8
      clear c8
      have H' := qc.mk H
      clear H
      have qqf : w4.cell? ⟨qfn, 0, none⟩ = some (.int .i64 a0_0) := (qb qfm.out 0).trans rfl
      have qpy : w4.cell? ⟨qfn, 1, none⟩ = some (.int .i64 a0_1) := (qb qfm.out 1).trans rfl
      have qs1 : w4.cell? ⟨qfn, 2, none⟩ = some (.int .i64 a0_2) := (qb qfm.out 2).trans rfl
      have qp8 : w4.cell? ⟨qfn, 3, none⟩ = some (.string a0_3) := (qb qfm.out 3).trans rfl
      have q0b : w4.cell? ⟨qfn, 4, none⟩ = some (.int .i64 a0_4) := (qb qfm.out 4).trans rfl
      have q03 : w4.cell? ⟨qfn, 5, none⟩ = some (.int .i64 a0_5) := (qb qfm.out 5).trans rfl
      have q07 : w4.cell? ⟨qfn, 6, none⟩ = some (.string a0_6) := (qb qfm.out 6).trans rfl
      have q2c : w4.cell? ⟨qfn, 7, none⟩ = some (.slice A0_7 l0_7.length c0_7) := (qb qfm.out 7).trans rfl
      have q17 : w4.cell? ⟨qfn, 8, none⟩ = some (.slice A0_8 l0_8.length c0_8) := (qb qfm.out 8).trans rfl
      have q04 : w4.cell? ⟨qfn, 9, none⟩ = some (.slice A0_9 l0_9.length c0_9) := (qb qfm.out 9).trans rfl
      have qlu := qa qfm.out 0
      have qmg := qa qfm.out 1
      have ql6 := qa qfm.out 2
      have ql5 := qa qfm.out 3
      have qkn := qa qfm.out 4
      have qk0 := qa qfm.out 5
      have qkr := qa qfm.out 6
      have qki := qa qfm.out 7
      have qla := qa qfm.out 8
      have qk2 := qa qfm.out 9
      go_wp2
      go_meet
      case rel => exact ⟨_, ((a0_0 == 10)), (by first | rfl | (simp; done) | (simp [*]; done)), H', ⟨by first | omega | exact Nat.le_refl _⟩, ⟨by (with_reducible repeat (first | refine qj ?_ _ | refine qm ?_ | refine qi ?_ _)); exact qfm.out⟩, ⟨by repeat (first | (with_reducible first | exact HB.out | apply qg | apply qd | apply qh | refine ql ?_ qgm.out) | exact HB.out)⟩⟩
 case rest =>
  clear HC3
  (try clear c1); (try clear p2); (try clear c5); (try clear c5b0); (try clear c6); (try clear c6b0); (try clear c8); (try clear c8b0); (try clear qqf qpy qs1 qp8 q0b q03 q07 q2c q17 q04); (try clear qjl qjm qjj qjk qlg qlf qlm qlk qli qld); (try clear qh4 qhu qh7 qhx qpc qpe qpd qpf qpa qpb); (try clear qlu qmg ql6 ql5 qkn qk0 qkr qki qla qk2); (try clear qhj qhl qhm qhk qi2 qix qi0 qi1 qiy qiz); (try clear qhd qg9 qhf qha qlh qln qlo qll qle qlj)
  obtain ⟨kq, qbl9, rfl, HA, HJ2, qfm, HB⟩ := hcut
  cases kq with
  | zero => exact absurd HA.out (by simp [qf.j0])
  | succ kj2 =>
   have H := HA.out
   clear HA
   simp only [qf.j0] at H
   by_cases c11 : qbl9 = true
   ·subst c11
    have H1 : (some false) = some r := by rw [if_pos rfl] at H; exact H
    clear H
    have H := H1
    clear H1
    obtain rfl := Option.some.inj H
    go_wp2
    go_ret
    exact ⟨by first | rfl | (simp [qx, qy] <;> rfl) | (simp [*, qx, qy] <;> rfl), by repeat (first | (with_reducible first | exact HB.out | apply qg | apply qd | apply qh | refine ql ?_ qgm.out) | exact HB.out)⟩
   ·replace c11 := Bool.eq_false_iff.mpr c11
    subst c11
    have H1 : (if a0_0 ≤ 4 then (qf.j1 kj2 a1 (l0_8.length : Int) true a0_0 a0_1 a0_2 a0_3 a0_4 a0_5 a0_6 l0_7 l0_8 l0_9) else (qf.j1 kj2 a1 (l0_8.length : Int) (a0_0 == 11) a0_0 a0_1 a0_2 a0_3 a0_4 a0_5 a0_6 l0_7 l0_8 l0_9)) = some r := by rw [if_neg (show ¬ (false = true) by decide)] at H; exact H
    clear H
    have H := H1
    clear H1
    have HC12 := qc.mk H
    clear H
    have q12 : wc.cell? ⟨qfn, 0, none⟩ = some (.int .i64 a0_0) := (qb qfm.out 0).trans rfl
    have q3k : wc.cell? ⟨qfn, 1, none⟩ = some (.int .i64 a0_1) := (qb qfm.out 1).trans rfl
    have qzv : wc.cell? ⟨qfn, 2, none⟩ = some (.int .i64 a0_2) := (qb qfm.out 2).trans rfl
    have q1h : wc.cell? ⟨qfn, 3, none⟩ = some (.string a0_3) := (qb qfm.out 3).trans rfl
    have q4k : wc.cell? ⟨qfn, 4, none⟩ = some (.int .i64 a0_4) := (qb qfm.out 4).trans rfl
    have q3q : wc.cell? ⟨qfn, 5, none⟩ = some (.int .i64 a0_5) := (qb qfm.out 5).trans rfl
    have q6e : wc.cell? ⟨qfn, 6, none⟩ = some (.string a0_6) := (qb qfm.out 6).trans rfl
    have q4r : wc.cell? ⟨qfn, 7, none⟩ = some (.slice A0_7 l0_7.length c0_7) := (qb qfm.out 7).trans rfl
    have q4e : wc.cell? ⟨qfn, 8, none⟩ = some (.slice A0_8 l0_8.length c0_8) := (qb qfm.out 8).trans rfl
    have q39 : wc.cell? ⟨qfn, 9, none⟩ = some (.slice A0_9 l0_9.length c0_9) := (qb qfm.out 9).trans rfl
    have qk1 := qa qfm.out 0
    have qk3 := qa qfm.out 1
    have qkh := qa qfm.out 2
    have qkc := qa qfm.out 3
    have qk9 := qa qfm.out 4
    have qke := qa qfm.out 5
    have qkf := qa qfm.out 6
    have qkw := qa qfm.out 7
    have qko := qa qfm.out 8
    have qkz := qa qfm.out 9
    go_upto_region 4 with (fail)
    go_cut [6] (fun v6 wc => ∃ (kq : Nat) (qbjk : Bool), v6 = .bool qbjk ∧ qc (qf.j1 kq a1 (l0_8.length : Int) qbjk a0_0 a0_1 a0_2 a0_3 a0_4 a0_5 a0_6 l0_7 l0_8 l0_9 = some r) ∧ qc (kq ≤ kj2) ∧ qc (wc.heap[qfn]? = some (.cells #[.int .i64 a0_0, .int .i64 a0_1, .int .i64 a0_2, .string a0_3, .int .i64 a0_4, .int .i64 a0_5, .string a0_6, (.slice A0_7 l0_7.length c0_7), (.slice A0_8 l0_8.length c0_8), (.slice A0_9 l0_9.length c0_9)] 30 (0, 0))) ∧ qc (Below w.heap.size w wc))
    case first =>
     as_aux_lemma =>
      have H := HC12.out
      clear HC12
      by_cases c14 : a0_0 ≤ 4
      ·rw [if_pos c14] at H
       have c14b0 : decide (a0_0 ≤ 4) = true := decide_eq_true c14
       clear c14
       (first | rw [c14b0] | (simp only [i64_w, i32_w]; rw [c14b0]) | skip)
       have H' := qc.mk H
       clear H
       have qh3 : wc.cell? ⟨qfn, 0, none⟩ = some (.int .i64 a0_0) := (qb qfm.out 0).trans rfl
       have qhw : wc.cell? ⟨qfn, 1, none⟩ = some (.int .i64 a0_1) := (qb qfm.out 1).trans rfl
       have qht : wc.cell? ⟨qfn, 2, none⟩ = some (.int .i64 a0_2) := (qb qfm.out 2).trans rfl
       have qhp : wc.cell? ⟨qfn, 3, none⟩ = some (.string a0_3) := (qb qfm.out 3).trans rfl
       have qvl : wc.cell? ⟨qfn, 4, none⟩ = some (.int .i64 a0_4) := (qb qfm.out 4).trans rfl
       have qup : wc.cell? ⟨qfn, 5, none⟩ = some (.int .i64 a0_5) := (qb qfm.out 5).trans rfl
       have qus : wc.cell? ⟨qfn, 6, none⟩ = some (.string a0_6) := (qb qfm.out 6).trans rfl
       have qu3 : wc.cell? ⟨qfn, 7, none⟩ = some (.slice A0_7 l0_7.length c0_7) := (qb qfm.out 7).trans rfl
       have qvf : wc.cell? ⟨qfn, 8, none⟩ = some (.slice A0_8 l0_8.length c0_8) := (qb qfm.out 8).trans rfl
       have qvd : wc.cell? ⟨qfn, 9, none⟩ = some (.slice A0_9 l0_9.length c0_9) := (qb qfm.out 9).trans rfl
       have qg0 := qa qfm.out 0
       have qgx := qa qfm.out 1
       have qgz := qa qfm.out 2
       have qgy := qa qfm.out 3
       have qi6 := qa qfm.out 4
       have qjh := qa qfm.out 5
       have qi4 := qa qfm.out 6
       have qjf := qa qfm.out 7
       have qje := qa qfm.out 8
       have qi8 := qa qfm.out 9
       go_wp2
       go_meet
       case rel => exact ⟨_, (true), (by first | rfl | (simp; done) | (simp [*]; done)), H', ⟨by have := HJ2.out; first | omega | exact Nat.le_refl _⟩, ⟨by (with_reducible repeat (first | refine qj ?_ _ | refine qm ?_ | refine qi ?_ _)); exact qfm.out⟩, ⟨by repeat (first | (with_reducible first | exact HB.out | apply qg | apply qd | apply qh | refine ql ?_ qgm.out) | exact HB.out)⟩⟩
      ·rw [if_neg c14] at H
       have c14b0 : decide (a0_0 ≤ 4) = false := decide_eq_false c14
       clear c14
       (first | rw [c14b0] | (simp only [i64_w, i32_w]; rw [c14b0]) | skip)
       have H' := qc.mk H
       clear H
       have qjb : wc.cell? ⟨qfn, 0, none⟩ = some (.int .i64 a0_0) := (qb qfm.out 0).trans rfl
       have qjd : wc.cell? ⟨qfn, 1, none⟩ = some (.int .i64 a0_1) := (qb qfm.out 1).trans rfl
       have qjg : wc.cell? ⟨qfn, 2, none⟩ = some (.int .i64 a0_2) := (qb qfm.out 2).trans rfl
       have qi7 : wc.cell? ⟨qfn, 3, none⟩ = some (.string a0_3) := (qb qfm.out 3).trans rfl
       have qq9 : wc.cell? ⟨qfn, 4, none⟩ = some (.int .i64 a0_4) := (qb qfm.out 4).trans rfl
       have qq5 : wc.cell? ⟨qfn, 5, none⟩ = some (.int .i64 a0_5) := (qb qfm.out 5).trans rfl
       have qsq : wc.cell? ⟨qfn, 6, none⟩ = some (.string a0_6) := (qb qfm.out 6).trans rfl
       have qqt : wc.cell? ⟨qfn, 7, none⟩ = some (.slice A0_7 l0_7.length c0_7) := (qb qfm.out 7).trans rfl
       have qsx : wc.cell? ⟨qfn, 8, none⟩ = some (.slice A0_8 l0_8.length c0_8) := (qb qfm.out 8).trans rfl
       have qsi : wc.cell? ⟨qfn, 9, none⟩ = some (.slice A0_9 l0_9.length c0_9) := (qb qfm.out 9).trans rfl
       have qhb := qa qfm.out 0
       have qg8 := qa qfm.out 1
       have qhe := qa qfm.out 2
       have qhc := qa qfm.out 3
       have qiq := qa qfm.out 4
       have qiu := qa qfm.out 5
       have qip := qa qfm.out 6
       have qii := qa qfm.out 7
       have qim := qa qfm.out 8
       have qis := qa qfm.out 9
       go_wp2
       go_meet
       case rel => exact ⟨_, ((a0_0 == 11)), (by first | rfl | (simp; done) | (simp [*]; done)), H', ⟨by have := HJ2.out; first | omega | exact Nat.le_refl _⟩, ⟨by (with_reducible repeat (first | refine qj ?_ _ | refine qm ?_ | refine qi ?_ _)); exact qfm.out⟩, ⟨by repeat (first | (with_reducible first | exact HB.out | apply qg | apply qd | apply qh | refine ql ?_ qgm.out) | exact HB.out)⟩⟩
    case rest =>
     clear HC12
     (try clear c1); (try clear p2); (try clear c5); (try clear c5b0); (try clear c6); (try clear c6b0); (try clear c8); (try clear c8b0); (try clear c11); (try clear c13); (try clear c14); (try clear c14b0); (try clear qqf qpy qs1 qp8 q0b q03 q07 q2c q17 q04); (try clear q12 q3k qzv q1h q4k q3q q6e q4r q4e q39); (try clear qh3 qhw qht qhp qvl qup qus qu3 qvf qvd); (try clear qjb qjd qjg qi7 qq9 qq5 qsq qqt qsx qsi); (try clear qjl qjm qjj qjk qlg qlf qlm qlk qli qld); (try clear qh4 qhu qh7 qhx qpc qpe qpd qpf qpa qpb); (try clear qlu qmg ql6 ql5 qkn qk0 qkr qki qla qk2); (try clear qk1 qk3 qkh qkc qk9 qke qkf qkw qko qkz); (try clear qg0 qgx qgz qgy qi6 qjh qi4 qjf qje qi8); (try clear qhb qg8 qhe qhc qiq qiu qip qii qim qis); (try clear qhj qhl qhm qhk qi2 qix qi0 qi1 qiy qiz); (try clear qhd qg9 qhf qha qlh qln qlo qll qle qlj); (try clear p2)
     obtain ⟨kq, qbjk, rfl, HA, HJ11, qfm, HB⟩ := hcut
     cases kq with
     | zero => exact absurd HA.out (by simp [qf.j1])
     | succ kj11 =>
      have H := HA.out
      clear HA
      simp only [qf.j1] at H
      have HC17 := qc.mk H
      clear H
      go_upto_region 5 with (fail)
      go_cut [7] (fun v7 wc => ∃ (kq : Nat) (qbd0 : Bool), v7 = .bool qbd0 ∧ qc (qf.j2 kq a1 (l0_8.length : Int) qbjk qbd0 a0_0 a0_1 a0_2 a0_3 a0_4 a0_5 a0_6 l0_7 l0_8 l0_9 = some r) ∧ qc (kq ≤ kj11) ∧ qc (wc.heap[qfn]? = some (.cells #[.int .i64 a0_0, .int .i64 a0_1, .int .i64 a0_2, .string a0_3, .int .i64 a0_4, .int .i64 a0_5, .string a0_6, (.slice A0_7 l0_7.length c0_7), (.slice A0_8 l0_8.length c0_8), (.slice A0_9 l0_9.length c0_9)] 30 (0, 0))) ∧ qc (Below w.heap.size w wc))
      case first =>
       as_aux_lemma =>
        have H := HC17.out
        clear HC17
        by_cases c18 : a0_0 = 5
        ·rw [if_pos c18] at H
         have c18b0 : (a0_0 == 5) = true := beq_iff_eq.mpr c18
         have c18b1 : (a0_0 != 5) = false := bne_eq_false_iff_eq.mpr c18
         clear c18
         (first | rw [c18b0] | (simp only [i64_w, i32_w]; rw [c18b0]) | skip)
         have H' := qc.mk H
         clear H
         have qx1 : wc.cell? ⟨qfn, 0, none⟩ = some (.int .i64 a0_0) := (qb qfm.out 0).trans rfl
         have qzk : wc.cell? ⟨qfn, 1, none⟩ = some (.int .i64 a0_1) := (qb qfm.out 1).trans rfl
         have qyx : wc.cell? ⟨qfn, 2, none⟩ = some (.int .i64 a0_2) := (qb qfm.out 2).trans rfl
         have qw1 : wc.cell? ⟨qfn, 3, none⟩ = some (.string a0_3) := (qb qfm.out 3).trans rfl
         have qy1 : wc.cell? ⟨qfn, 4, none⟩ = some (.int .i64 a0_4) := (qb qfm.out 4).trans rfl
         have qy9 : wc.cell? ⟨qfn, 5, none⟩ = some (.int .i64 a0_5) := (qb qfm.out 5).trans rfl
         have qxc : wc.cell? ⟨qfn, 6, none⟩ = some (.string a0_6) := (qb qfm.out 6).trans rfl
         have qya : wc.cell? ⟨qfn, 7, none⟩ = some (.slice A0_7 l0_7.length c0_7) := (qb qfm.out 7).trans rfl
         have qzh : wc.cell? ⟨qfn, 8, none⟩ = some (.slice A0_8 l0_8.length c0_8) := (qb qfm.out 8).trans rfl
         have qw8 : wc.cell? ⟨qfn, 9, none⟩ = some (.slice A0_9 l0_9.length c0_9) := (qb qfm.out 9).trans rfl
         have qjp := qa qfm.out 0
         have qka := qa qfm.out 1
         have qjn := qa qfm.out 2
         have qj7 := qa qfm.out 3
         have qjy := qa qfm.out 4
         have qju := qa qfm.out 5
         have qj4 := qa qfm.out 6
         have qj5 := qa qfm.out 7
         have qjz := qa qfm.out 8
         have qjo := qa qfm.out 9
         go_wp2
         go_meet
         case rel => exact ⟨_, (true), (by first | rfl | (simp; done) | (simp [*]; done)), H', ⟨by have := HJ2.out; have := HJ11.out; first | omega | exact Nat.le_refl _⟩, ⟨by (with_reducible repeat (first | refine qj ?_ _ | refine qm ?_ | refine qi ?_ _)); exact qfm.out⟩, ⟨by repeat (first | (with_reducible first | exact HB.out | apply qg | apply qd | apply qh | refine ql ?_ qgm.out) | exact HB.out)⟩⟩
        ·rw [if_neg c18] at H
         have c18b0 : (a0_0 == 5) = false := beq_eq_false_iff_ne.mpr c18
         have c18b1 : (a0_0 != 5) = true := bne_iff_ne.mpr c18
         (first | rw [c18b0] | (simp only [i64_w, i32_w]; rw [c18b0]) | skip)
         have H' := qc.mk H
         clear H
         have qml : wc.cell? ⟨qfn, 0, none⟩ = some (.int .i64 a0_0) := (qb qfm.out 0).trans rfl
         have ql9 : wc.cell? ⟨qfn, 1, none⟩ = some (.int .i64 a0_1) := (qb qfm.out 1).trans rfl
         have qmc : wc.cell? ⟨qfn, 2, none⟩ = some (.int .i64 a0_2) := (qb qfm.out 2).trans rfl
         have ql8 : wc.cell? ⟨qfn, 3, none⟩ = some (.string a0_3) := (qb qfm.out 3).trans rfl
         have qyh : wc.cell? ⟨qfn, 4, none⟩ = some (.int .i64 a0_4) := (qb qfm.out 4).trans rfl
         have qxx : wc.cell? ⟨qfn, 5, none⟩ = some (.int .i64 a0_5) := (qb qfm.out 5).trans rfl
         have qxz : wc.cell? ⟨qfn, 6, none⟩ = some (.string a0_6) := (qb qfm.out 6).trans rfl
         have qx8 : wc.cell? ⟨qfn, 7, none⟩ = some (.slice A0_7 l0_7.length c0_7) := (qb qfm.out 7).trans rfl
         have qyf : wc.cell? ⟨qfn, 8, none⟩ = some (.slice A0_8 l0_8.length c0_8) := (qb qfm.out 8).trans rfl
         have qw2 : wc.cell? ⟨qfn, 9, none⟩ = some (.slice A0_9 l0_9.length c0_9) := (qb qfm.out 9).trans rfl
         have qhv := qa qfm.out 0
         have qh2 := qa qfm.out 1
         have qh6 := qa qfm.out 2
         have qh0 := qa qfm.out 3
         have qj3 := qa qfm.out 4
         have qj0 := qa qfm.out 5
         have qjt := qa qfm.out 6
         have qjv := qa qfm.out 7
         have qj6 := qa qfm.out 8
         have qj9 := qa qfm.out 9
         go_wp2
         go_meet
         case rel => exact ⟨_, ((a0_0 == 6)), (by first | rfl | (simp; done) | (simp [*]; done)), H', ⟨by have := HJ2.out; have := HJ11.out; first | omega | exact Nat.le_refl _⟩, ⟨by (with_reducible repeat (first | refine qj ?_ _ | refine qm ?_ | refine qi ?_ _)); exact qfm.out⟩, ⟨by repeat (first | (with_reducible first | exact HB.out | apply qg | apply qd | apply qh | refine ql ?_ qgm.out) | exact HB.out)⟩⟩
      case rest =>
       clear HC17
       (try clear c1); (try clear p2); (try clear c5); (try clear c5b0); (try clear c6); (try clear c6b0); (try clear c8); (try clear c8b0); (try clear c11); (try clear c13); (try clear c14); (try clear c14b0); (try clear c18); (try clear c18b0); (try clear c18b1); (try clear qqf qpy qs1 qp8 q0b q03 q07 q2c q17 q04); (try clear q12 q3k qzv q1h q4k q3q q6e q4r q4e q39); (try clear qh3 qhw qht qhp qvl qup qus qu3 qvf qvd); (try clear qjb qjd qjg qi7 qq9 qq5 qsq qqt qsx qsi); (try clear qx1 qzk qyx qw1 qy1 qy9 qxc qya qzh qw8); (try clear qml ql9 qmc ql8 qyh qxx qxz qx8 qyf qw2); (try clear qjl qjm qjj qjk qlg qlf qlm qlk qli qld); (try clear qh4 qhu qh7 qhx qpc qpe qpd qpf qpa qpb); (try clear qlu qmg ql6 ql5 qkn qk0 qkr qki qla qk2); (try clear qk1 qk3 qkh qkc qk9 qke qkf qkw qko qkz); (try clear qg0 qgx qgz qgy qi6 qjh qi4 qjf qje qi8); (try clear qhb qg8 qhe qhc qiq qiu qip qii qim qis); (try clear qjp qka qjn qj7 qjy qju qj4 qj5 qjz qjo); (try clear qhv qh2 qh6 qh0 qj3 qj0 qjt qjv qj6 qj9); (try clear qhj qhl qhm qhk qi2 qix qi0 qi1 qiy qiz); (try clear qhd qg9 qhf qha qlh qln qlo qll qle qlj); (try clear p2)
       obtain ⟨kq, qbd0, rfl, HA, HJ16, qfm, HB⟩ := hcut
       cases kq with
       | zero => exact absurd HA.out (by simp [qf.j2])
       | succ kj16 =>
        have H := HA.out
        clear HA
        simp only [qf.j2] at H
        have HC21 := qc.mk H
        clear H
        go_upto_region 6 with (fail)
        go_cut [75] (fun v75 wc => ∃ (kq : Nat) (qbe9 : Bool), v75 = .bool qbe9 ∧ qc (qf.j3 kq a1 (l0_8.length : Int) qbe9 a0_0 a0_1 a0_2 a0_3 a0_4 a0_5 a0_6 l0_7 l0_8 l0_9 = some r) ∧ qc (kq ≤ kj16) ∧ qc (wc.heap[qfn]? = some (.cells #[.int .i64 a0_0, .int .i64 a0_1, .int .i64 a0_2, .string a0_3, .int .i64 a0_4, .int .i64 a0_5, .string a0_6, (.slice A0_7 l0_7.length c0_7), (.slice A0_8 l0_8.length c0_8), (.slice A0_9 l0_9.length c0_9)] 30 (0, 0))) ∧ qc (Below w.heap.size w wc))
        case first =>
         as_aux_lemma =>
          have H := HC21.out
          clear HC21
          by_cases c22 : qbjk = true
          ·subst c22
           have H1 : (if (l0_8.length : Int) < 1 then (qf.j3 kj16 a1 (l0_8.length : Int) true a0_0 a0_1 a0_2 a0_3 a0_4 a0_5 a0_6 l0_7 l0_8 l0_9) else (if (l0_8.length : Int) > 16 then (qf.j3 kj16 a1 (l0_8.length : Int) true a0_0 a0_1 a0_2 a0_3 a0_4 a0_5 a0_6 l0_7 l0_8 l0_9) else (if qbd0 = true then (if (l0_8.length : Int) = 1 then (qf.j3 kj16 a1 (l0_8.length : Int) false a0_0 a0_1 a0_2 a0_3 a0_4 a0_5 a0_6 l0_7 l0_8 l0_9) else (qf.j3 kj16 a1 (l0_8.length : Int) true a0_0 a0_1 a0_2 a0_3 a0_4 a0_5 a0_6 l0_7 l0_8 l0_9)) else (qf.j3 kj16 a1 (l0_8.length : Int) false a0_0 a0_1 a0_2 a0_3 a0_4 a0_5 a0_6 l0_7 l0_8 l0_9)))) = some r := by rw [if_pos rfl] at H; exact H
           clear H
           have H := H1
           clear H1
           by_cases c23 : (l0_8.length : Int) < 1
           ·rw [if_pos c23] at H
            have c23b0 : decide ((l0_8.length : Int) < 1) = true := decide_eq_true c23
            have c23b1 : decide (l0_8.length < 1) = true := decide_eq_true (by omega)
            clear c23
            (first | rw [c23b0] | (simp only [i64_w, i32_w]; rw [c23b0]) | skip)
            have H' := qc.mk H
            clear H
            go_wp2
            go_meet
            case rel => exact ⟨_, (true), (by first | rfl | (simp; done) | (simp [*]; done)), H', ⟨by have := HJ2.out; have := HJ11.out; have := HJ16.out; first | omega | exact Nat.le_refl _⟩, ⟨by (with_reducible repeat (first | refine qj ?_ _ | refine qm ?_ | refine qi ?_ _)); exact qfm.out⟩, ⟨by repeat (first | (with_reducible first | exact HB.out | apply qg | apply qd | apply qh | refine ql ?_ qgm.out) | exact HB.out)⟩⟩
           ·rw [if_neg c23] at H
            have c23b0 : decide ((l0_8.length : Int) < 1) = false := decide_eq_false c23
            have c23b1 : decide (l0_8.length < 1) = false := decide_eq_false (by omega)
            clear c23
            (first | rw [c23b0] | (simp only [i64_w, i32_w]; rw [c23b0]) | skip)
            by_cases c24 : (l0_8.length : Int) > 16
            ·rw [if_pos c24] at H
             have c24b0 : decide (16 < (l0_8.length : Int)) = true := decide_eq_true c24
             have c24b1 : decide (16 < l0_8.length) = true := decide_eq_true (by omega)
             clear c24
             have H' := qc.mk H
             clear H
             go_wp2
             go_meet
             case rel => exact ⟨_, (true), (by first | rfl | (simp; done) | (simp [*]; done)), H', ⟨by have := HJ2.out; have := HJ11.out; have := HJ16.out; first | omega | exact Nat.le_refl _⟩, ⟨by (with_reducible repeat (first | refine qj ?_ _ | refine qm ?_ | refine qi ?_ _)); exact qfm.out⟩, ⟨by repeat (first | (with_reducible first | exact HB.out | apply qg | apply qd | apply qh | refine ql ?_ qgm.out) | exact HB.out)⟩⟩
            ·rw [if_neg c24] at H
             have c24b0 : decide (16 < (l0_8.length : Int)) = false := decide_eq_false c24
             have c24b1 : decide (16 < l0_8.length) = false := decide_eq_false (by omega)
             clear c24
             by_cases c25 : qbd0 = true
             ·subst c25
              have H1 : (if (l0_8.length : Int) = 1 then (qf.j3 kj16 a1 (l0_8.length : Int) false a0_0 a0_1 a0_2 a0_3 a0_4 a0_5 a0_6 l0_7 l0_8 l0_9) else (qf.j3 kj16 a1 (l0_8.length : Int) true a0_0 a0_1 a0_2 a0_3 a0_4 a0_5 a0_6 l0_7 l0_8 l0_9)) = some r := by rw [if_pos rfl] at H; exact H
              clear H
              have H := H1
              clear H1
              by_cases c26 : (l0_8.length : Int) = 1
              ·rw [if_pos c26] at H
               have c26b0 : ((l0_8.length : Int) == 1) = true := beq_iff_eq.mpr c26
               have c26b1 : ((l0_8.length : Int) != 1) = false := bne_eq_false_iff_eq.mpr c26
               clear c26
               have H' := qc.mk H
               clear H
               go_wp2
               go_meet
               case rel => exact ⟨_, (false), (by first | rfl | (simp; done) | (simp [*]; done)), H', ⟨by have := HJ2.out; have := HJ11.out; have := HJ16.out; first | omega | exact Nat.le_refl _⟩, ⟨by (with_reducible repeat (first | refine qj ?_ _ | refine qm ?_ | refine qi ?_ _)); exact qfm.out⟩, ⟨by repeat (first | (with_reducible first | exact HB.out | apply qg | apply qd | apply qh | refine ql ?_ qgm.out) | exact HB.out)⟩⟩
              ·rw [if_neg c26] at H
               have c26b0 : ((l0_8.length : Int) == 1) = false := beq_eq_false_iff_ne.mpr c26
               have c26b1 : ((l0_8.length : Int) != 1) = true := bne_iff_ne.mpr c26
               have H' := qc.mk H
               clear H
               go_wp2
               go_meet
               case rel => exact ⟨_, (true), (by first | rfl | (simp; done) | (simp [*]; done)), H', ⟨by have := HJ2.out; have := HJ11.out; have := HJ16.out; first | omega | exact Nat.le_refl _⟩, ⟨by (with_reducible repeat (first | refine qj ?_ _ | refine qm ?_ | refine qi ?_ _)); exact qfm.out⟩, ⟨by repeat (first | (with_reducible first | exact HB.out | apply qg | apply qd | apply qh | refine ql ?_ qgm.out) | exact HB.out)⟩⟩
             ·replace c25 := Bool.eq_false_iff.mpr c25
              subst c25
              have H1 : (qf.j3 kj16 a1 (l0_8.length : Int) false a0_0 a0_1 a0_2 a0_3 a0_4 a0_5 a0_6 l0_7 l0_8 l0_9) = some r := by rw [if_neg (show ¬ (false = true) by decide)] at H; exact H
              clear H
              have H := H1
              clear H1
              have H' := qc.mk H
              clear H
              go_wp2
              go_meet
              case rel => exact ⟨_, (false), (by first | rfl | (simp; done) | (simp [*]; done)), H', ⟨by have := HJ2.out; have := HJ11.out; have := HJ16.out; first | omega | exact Nat.le_refl _⟩, ⟨by (with_reducible repeat (first | refine qj ?_ _ | refine qm ?_ | refine qi ?_ _)); exact qfm.out⟩, ⟨by repeat (first | (with_reducible first | exact HB.out | apply qg | apply qd | apply qh | refine ql ?_ qgm.out) | exact HB.out)⟩⟩
          ·replace c22 := Bool.eq_false_iff.mpr c22
           subst c22
           have H1 : (if qbd0 = true then (if (l0_8.length : Int) = 1 then (qf.j3 kj16 a1 (l0_8.length : Int) false a0_0 a0_1 a0_2 a0_3 a0_4 a0_5 a0_6 l0_7 l0_8 l0_9) else (qf.j3 kj16 a1 (l0_8.length : Int) true a0_0 a0_1 a0_2 a0_3 a0_4 a0_5 a0_6 l0_7 l0_8 l0_9)) else (qf.j3 kj16 a1 (l0_8.length : Int) ((l0_8.length : Int) != 0) a0_0 a0_1 a0_2 a0_3 a0_4 a0_5 a0_6 l0_7 l0_8 l0_9)) = some r := by rw [if_neg (show ¬ (false = true) by decide)] at H; exact H
           clear H
           have H := H1
           clear H1
           by_cases c27 : qbd0 = true
           ·subst c27
            have H1 : (if (l0_8.length : Int) = 1 then (qf.j3 kj16 a1 (l0_8.length : Int) false a0_0 a0_1 a0_2 a0_3 a0_4 a0_5 a0_6 l0_7 l0_8 l0_9) else (qf.j3 kj16 a1 (l0_8.length : Int) true a0_0 a0_1 a0_2 a0_3 a0_4 a0_5 a0_6 l0_7 l0_8 l0_9)) = some r := by rw [if_pos rfl] at H; exact H
            clear H
            have H := H1
            clear H1
            by_cases c28 : (l0_8.length : Int) = 1
            ·rw [if_pos c28] at H
             have c28b0 : ((l0_8.length : Int) == 1) = true := beq_iff_eq.mpr c28
             have c28b1 : ((l0_8.length : Int) != 1) = false := bne_eq_false_iff_eq.mpr c28
             clear c28
             have H' := qc.mk H
             clear H
             go_wp2
             go_meet
             case rel => exact ⟨_, (false), (by first | rfl | (simp; done) | (simp [*]; done)), H', ⟨by have := HJ2.out; have := HJ11.out; have := HJ16.out; first | omega | exact Nat.le_refl _⟩, ⟨by (with_reducible repeat (first | refine qj ?_ _ | refine qm ?_ | refine qi ?_ _)); exact qfm.out⟩, ⟨by repeat (first | (with_reducible first | exact HB.out | apply qg | apply qd | apply qh | refine ql ?_ qgm.out) | exact HB.out)⟩⟩
            ·rw [if_neg c28] at H
             have c28b0 : ((l0_8.length : Int) == 1) = false := beq_eq_false_iff_ne.mpr c28
             have c28b1 : ((l0_8.length : Int) != 1) = true := bne_iff_ne.mpr c28
             have H' := qc.mk H
             clear H
             go_wp2
             go_meet
             case rel => exact ⟨_, (true), (by first | rfl | (simp; done) | (simp [*]; done)), H', ⟨by have := HJ2.out; have := HJ11.out; have := HJ16.out; first | omega | exact Nat.le_refl _⟩, ⟨by (with_reducible repeat (first | refine qj ?_ _ | refine qm ?_ | refine qi ?_ _)); exact qfm.out⟩, ⟨by repeat (first | (with_reducible first | exact HB.out | apply qg | apply qd | apply qh | refine ql ?_ qgm.out) | exact HB.out)⟩⟩
           ·replace c27 := Bool.eq_false_iff.mpr c27
            subst c27
            have H1 : (qf.j3 kj16 a1 (l0_8.length : Int) ((l0_8.length : Int) != 0) a0_0 a0_1 a0_2 a0_3 a0_4 a0_5 a0_6 l0_7 l0_8 l0_9) = some r := by rw [if_neg (show ¬ (false = true) by decide)] at H; exact H
            clear H
            have H := H1
            clear H1
            have H' := qc.mk H
            clear H
            go_wp2
            go_meet
            case rel => exact ⟨_, (((l0_8.length : Int) != 0)), (by first | rfl | (simp; done) | (simp [*]; done)), H', ⟨by have := HJ2.out; have := HJ11.out; have := HJ16.out; first | omega | exact Nat.le_refl _⟩, ⟨by (with_reducible repeat (first | refine qj ?_ _ | refine qm ?_ | refine qi ?_ _)); exact qfm.out⟩, ⟨by repeat (first | (with_reducible first | exact HB.out | apply qg | apply qd | apply qh | refine ql ?_ qgm.out) | exact HB.out)⟩⟩
        case rest =>
         clear HC21
         (try clear c1); (try clear c2); (try clear p2); (try clear c5); (try clear c5b0); (try clear c6); (try clear c6b0); (try clear c8); (try clear c8b0); (try clear c11); (try clear c13); (try clear c14); (try clear c14b0); (try clear c18); (try clear c18b0); (try clear c18b1); (try clear c22); (try clear c23); (try clear c23b0); (try clear c23b1); (try clear c24); (try clear c24b0); (try clear c24b1); (try clear c25); (try clear c26); (try clear c26b0); (try clear c26b1); (try clear c27); (try clear c28); (try clear c28b0); (try clear c28b1); (try clear qqf qpy qs1 qp8 q0b q03 q07 q2c q17 q04); (try clear q12 q3k qzv q1h q4k q3q q6e q4r q4e q39); (try clear qh3 qhw qht qhp qvl qup qus qu3 qvf qvd); (try clear qjb qjd qjg qi7 qq9 qq5 qsq qqt qsx qsi); (try clear qx1 qzk qyx qw1 qy1 qy9 qxc qya qzh qw8); (try clear qml ql9 qmc ql8 qyh qxx qxz qx8 qyf qw2); (try clear qjl qjm qjj qjk qlg qlf qlm qlk qli qld); (try clear qh4 qhu qh7 qhx qpc qpe qpd qpf qpa qpb); (try clear qlu qmg ql6 ql5 qkn qk0 qkr qki qla qk2); (try clear qk1 qk3 qkh qkc qk9 qke qkf qkw qko qkz); (try clear qg0 qgx qgz qgy qi6 qjh qi4 qjf qje qi8); (try clear qhb qg8 qhe qhc qiq qiu qip qii qim qis); (try clear qjp qka qjn qj7 qjy qju qj4 qj5 qjz qjo); (try clear qhv qh2 qh6 qh0 qj3 qj0 qjt qjv qj6 qj9); (try clear qhj qhl qhm qhk qi2 qix qi0 qi1 qiy qiz); (try clear qhd qg9 qhf qha qlh qln qlo qll qle qlj); (try clear p2)
         obtain ⟨kq, qbe9, rfl, HA, HJ20, qfm, HB⟩ := hcut
         cases kq with
         | zero => exact absurd HA.out (by simp [qf.j3])
         | succ kj20 =>
          have H := HA.out
          clear HA
          simp only [qf.j3] at H
          by_cases c29 : qbe9 = true
          ·subst c29
           have H1 : (some false) = some r := by rw [if_pos rfl] at H; exact H
           clear H
           have H := H1
           clear H1
           obtain rfl := Option.some.inj H
           go_wp2
           go_ret
           exact ⟨by first | rfl | (simp [qx, qy] <;> rfl) | (simp [*, qx, qy] <;> rfl), by repeat (first | (with_reducible first | exact HB.out | apply qg | apply qd | apply qh | refine ql ?_ qgm.out) | exact HB.out)⟩
          ·replace c29 := Bool.eq_false_iff.mpr c29
           subst c29
           have H1 : (if a0_0 = 4 then (if a0_1 < 1 then (some false) else (if a0_2 < 1 then (some false) else (if a0_1 > (l0_8.length : Int) then (some false) else (if a0_2 > (l0_8.length : Int) then (some false) else (if a0_0 = 6 then (if a0_1 > 1000 then (some false) else (if a0_2 = 0 then (qf.j4 kj20 a1 (l0_8.length : Int) a0_0 a0_1 a0_2 a0_3 a0_4 a0_5 a0_6 l0_7 l0_8 l0_9) else (some false))) else (qf.j4 kj20 a1 (l0_8.length : Int) a0_0 a0_1 a0_2 a0_3 a0_4 a0_5 a0_6 l0_7 l0_8 l0_9)))))) else (if a0_0 = 6 then (if a0_1 < 1 then (some false) else (if a0_1 > 1000 then (some false) else (if a0_2 = 0 then (qf.j4 kj20 a1 (l0_8.length : Int) a0_0 a0_1 a0_2 a0_3 a0_4 a0_5 a0_6 l0_7 l0_8 l0_9) else (some false)))) else (if a0_1 = 0 then (if a0_2 = 0 then (qf.j4 kj20 a1 (l0_8.length : Int) a0_0 a0_1 a0_2 a0_3 a0_4 a0_5 a0_6 l0_7 l0_8 l0_9) else (some false)) else (some false)))) = some r := by rw [if_neg (show ¬ (false = true) by decide)] at H; exact H
           clear H
           have H := H1
           clear H1
           have HC30 := qc.mk H
           clear H
           go_upto_block 0 with (fail)
           go_cut [] (fun wc => ∃ (kq : Nat), qc (qf.j4 kq a1 (l0_8.length : Int) a0_0 a0_1 a0_2 a0_3 a0_4 a0_5 a0_6 l0_7 l0_8 l0_9 = some r) ∧ qc (kq ≤ kj20) ∧ qc (wc.heap[qfn]? = some (.cells #[.int .i64 a0_0, .int .i64 a0_1, .int .i64 a0_2, .string a0_3, .int .i64 a0_4, .int .i64 a0_5, .string a0_6, (.slice A0_7 l0_7.length c0_7), (.slice A0_8 l0_8.length c0_8), (.slice A0_9 l0_9.length c0_9)] 30 (0, 0))) ∧ qc (Below w.heap.size w wc))
           case first =>
            as_aux_lemma =>
             have H := HC30.out
             clear HC30
             by_cases c31 : a0_0 = 4
             ·rw [if_pos c31] at H
              have c31b0 : (a0_0 == 4) = true := beq_iff_eq.mpr c31
              have c31b1 : (a0_0 != 4) = false := bne_eq_false_iff_eq.mpr c31
              clear c31
              (first | rw [c31b0] | (simp only [i64_w, i32_w]; rw [c31b0]) | skip)
              by_cases c32 : a0_1 < 1
              ·rw [if_pos c32] at H
               have c32b0 : decide (a0_1 < 1) = true := decide_eq_true c32
               clear c32
               obtain rfl := Option.some.inj H
               have qs2 : wc.cell? ⟨qfn, 0, none⟩ = some (.int .i64 a0_0) := (qb qfm.out 0).trans rfl
               have qsn : wc.cell? ⟨qfn, 1, none⟩ = some (.int .i64 a0_1) := (qb qfm.out 1).trans rfl
               have qr6 : wc.cell? ⟨qfn, 2, none⟩ = some (.int .i64 a0_2) := (qb qfm.out 2).trans rfl
               have qpt : wc.cell? ⟨qfn, 3, none⟩ = some (.string a0_3) := (qb qfm.out 3).trans rfl
               have q5s : wc.cell? ⟨qfn, 4, none⟩ = some (.int .i64 a0_4) := (qb qfm.out 4).trans rfl
               have q2r : wc.cell? ⟨qfn, 5, none⟩ = some (.int .i64 a0_5) := (qb qfm.out 5).trans rfl
               have q4n : wc.cell? ⟨qfn, 6, none⟩ = some (.string a0_6) := (qb qfm.out 6).trans rfl
               have q11 : wc.cell? ⟨qfn, 7, none⟩ = some (.slice A0_7 l0_7.length c0_7) := (qb qfm.out 7).trans rfl
               have q1p : wc.cell? ⟨qfn, 8, none⟩ = some (.slice A0_8 l0_8.length c0_8) := (qb qfm.out 8).trans rfl
               have q0w : wc.cell? ⟨qfn, 9, none⟩ = some (.slice A0_9 l0_9.length c0_9) := (qb qfm.out 9).trans rfl
               have qkm := qa qfm.out 0
               have qkt := qa qfm.out 1
               have qkx := qa qfm.out 2
               have qk6 := qa qfm.out 3
               have qol := qa qfm.out 4
               have qor := qa qfm.out 5
               have qnp := qa qfm.out 6
               have qoh := qa qfm.out 7
               have qo2 := qa qfm.out 8
               have qo4 := qa qfm.out 9
               go_wp2
               go_ret
               exact ⟨by first | rfl | (simp [qx, qy] <;> rfl) | (simp [*, qx, qy] <;> rfl), by repeat (first | (with_reducible first | exact HB.out | apply qg | apply qd | apply qh | refine ql ?_ qgm.out) | exact HB.out)⟩
              ·rw [if_neg c32] at H
               have c32b0 : decide (a0_1 < 1) = false := decide_eq_false c32
               clear c32
               by_cases c34 : a0_2 < 1
               ·rw [if_pos c34] at H
                have c34b0 : decide (a0_2 < 1) = true := decide_eq_true c34
                clear c34
                obtain rfl := Option.some.inj H
                have q3s : wc.cell? ⟨qfn, 0, none⟩ = some (.int .i64 a0_0) := (qb qfm.out 0).trans rfl
                have q2l : wc.cell? ⟨qfn, 1, none⟩ = some (.int .i64 a0_1) := (qb qfm.out 1).trans rfl
                have q6k : wc.cell? ⟨qfn, 2, none⟩ = some (.int .i64 a0_2) := (qb qfm.out 2).trans rfl
                have q0e : wc.cell? ⟨qfn, 3, none⟩ = some (.string a0_3) := (qb qfm.out 3).trans rfl
                have qzs : wc.cell? ⟨qfn, 4, none⟩ = some (.int .i64 a0_4) := (qb qfm.out 4).trans rfl
                have q34 : wc.cell? ⟨qfn, 5, none⟩ = some (.int .i64 a0_5) := (qb qfm.out 5).trans rfl
                have q6a : wc.cell? ⟨qfn, 6, none⟩ = some (.string a0_6) := (qb qfm.out 6).trans rfl
                have q0l : wc.cell? ⟨qfn, 7, none⟩ = some (.slice A0_7 l0_7.length c0_7) := (qb qfm.out 7).trans rfl
                have q1u : wc.cell? ⟨qfn, 8, none⟩ = some (.slice A0_8 l0_8.length c0_8) := (qb qfm.out 8).trans rfl
                have q0g : wc.cell? ⟨qfn, 9, none⟩ = some (.slice A0_9 l0_9.length c0_9) := (qb qfm.out 9).trans rfl
                have qnx := qa qfm.out 0
                have qn5 := qa qfm.out 1
                have qot := qa qfm.out 2
                have qnq := qa qfm.out 3
                have qoc := qa qfm.out 4
                have qn9 := qa qfm.out 5
                have qou := qa qfm.out 6
                have qoj := qa qfm.out 7
                have qnn := qa qfm.out 8
                have qod := qa qfm.out 9
                go_wp2
                go_ret
                exact ⟨by first | rfl | (simp [qx, qy] <;> rfl) | (simp [*, qx, qy] <;> rfl), by repeat (first | (with_reducible first | exact HB.out | apply qg | apply qd | apply qh | refine ql ?_ qgm.out) | exact HB.out)⟩
               ·rw [if_neg c34] at H
                have c34b0 : decide (a0_2 < 1) = false := decide_eq_false c34
                clear c34
                by_cases c36 : a0_1 > (l0_8.length : Int)
                ·rw [if_pos c36] at H
                 have c36b0 : decide ((l0_8.length : Int) < a0_1) = true := decide_eq_true c36
                 clear c36
                 obtain rfl := Option.some.inj H
                 have qvp : wc.cell? ⟨qfn, 0, none⟩ = some (.int .i64 a0_0) := (qb qfm.out 0).trans rfl
                 have qvi : wc.cell? ⟨qfn, 1, none⟩ = some (.int .i64 a0_1) := (qb qfm.out 1).trans rfl
                 have qu8 : wc.cell? ⟨qfn, 2, none⟩ = some (.int .i64 a0_2) := (qb qfm.out 2).trans rfl
                 have qv9 : wc.cell? ⟨qfn, 3, none⟩ = some (.string a0_3) := (qb qfm.out 3).trans rfl
                 have qbdf : wc.cell? ⟨qfn, 4, none⟩ = some (.int .i64 a0_4) := (qb qfm.out 4).trans rfl
                 have qbei : wc.cell? ⟨qfn, 5, none⟩ = some (.int .i64 a0_5) := (qb qfm.out 5).trans rfl
                 have qbaq : wc.cell? ⟨qfn, 6, none⟩ = some (.string a0_6) := (qb qfm.out 6).trans rfl
                 have qbdy : wc.cell? ⟨qfn, 7, none⟩ = some (.slice A0_7 l0_7.length c0_7) := (qb qfm.out 7).trans rfl
                 have q8q : wc.cell? ⟨qfn, 8, none⟩ = some (.slice A0_8 l0_8.length c0_8) := (qb qfm.out 8).trans rfl
                 have qbba : wc.cell? ⟨qfn, 9, none⟩ = some (.slice A0_9 l0_9.length c0_9) := (qb qfm.out 9).trans rfl
                 have qmf := qa qfm.out 0
                 have qmk := qa qfm.out 1
                 have qmn := qa qfm.out 2
                 have qmd := qa qfm.out 3
                 have qtn := qa qfm.out 4
                 have qqb := qa qfm.out 5
                 have qts := qa qfm.out 6
                 have qpw := qa qfm.out 7
                 have qpk := qa qfm.out 8
                 have qs7 := qa qfm.out 9
                 go_wp2
                 go_ret
                 exact ⟨by first | rfl | (simp [qx, qy] <;> rfl) | (simp [*, qx, qy] <;> rfl), by repeat (first | (with_reducible first | exact HB.out | apply qg | apply qd | apply qh | refine ql ?_ qgm.out) | exact HB.out)⟩
                ·rw [if_neg c36] at H
                 have c36b0 : decide ((l0_8.length : Int) < a0_1) = false := decide_eq_false c36
                 clear c36
                 by_cases c38 : a0_2 > (l0_8.length : Int)
                 ·rw [if_pos c38] at H
                  have c38b0 : decide ((l0_8.length : Int) < a0_2) = true := decide_eq_true c38
                  clear c38
                  obtain rfl := Option.some.inj H
                  have qbdi : wc.cell? ⟨qfn, 0, none⟩ = some (.int .i64 a0_0) := (qb qfm.out 0).trans rfl
                  have qben : wc.cell? ⟨qfn, 1, none⟩ = some (.int .i64 a0_1) := (qb qfm.out 1).trans rfl
                  have q95 : wc.cell? ⟨qfn, 2, none⟩ = some (.int .i64 a0_2) := (qb qfm.out 2).trans rfl
                  have qbda : wc.cell? ⟨qfn, 3, none⟩ = some (.string a0_3) := (qb qfm.out 3).trans rfl
                  have q7a : wc.cell? ⟨qfn, 4, none⟩ = some (.int .i64 a0_4) := (qb qfm.out 4).trans rfl
                  have qbd7 : wc.cell? ⟨qfn, 5, none⟩ = some (.int .i64 a0_5) := (qb qfm.out 5).trans rfl
                  have q7x : wc.cell? ⟨qfn, 6, none⟩ = some (.string a0_6) := (qb qfm.out 6).trans rfl
                  have qba1 : wc.cell? ⟨qfn, 7, none⟩ = some (.slice A0_7 l0_7.length c0_7) := (qb qfm.out 7).trans rfl
                  have q8p : wc.cell? ⟨qfn, 8, none⟩ = some (.slice A0_8 l0_8.length c0_8) := (qb qfm.out 8).trans rfl
                  have qbek : wc.cell? ⟨qfn, 9, none⟩ = some (.slice A0_9 l0_9.length c0_9) := (qb qfm.out 9).trans rfl
                  have qqn := qa qfm.out 0
                  have qtp := qa qfm.out 1
                  have qsa := qa qfm.out 2
                  have qtv := qa qfm.out 3
                  have qpx := qa qfm.out 4
                  have qq2 := qa qfm.out 5
                  have qq0 := qa qfm.out 6
                  have qq6 := qa qfm.out 7
                  have qsr := qa qfm.out 8
                  have qqo := qa qfm.out 9
                  go_wp2
                  go_ret
                  exact ⟨by first | rfl | (simp [qx, qy] <;> rfl) | (simp [*, qx, qy] <;> rfl), by repeat (first | (with_reducible first | exact HB.out | apply qg | apply qd | apply qh | refine ql ?_ qgm.out) | exact HB.out)⟩
                 ·rw [if_neg c38] at H
                  have c38b0 : decide ((l0_8.length : Int) < a0_2) = false := decide_eq_false c38
                  clear c38
                  by_cases c40 : a0_0 = 6
                  ·rw [if_pos c40] at H
                   have c40b0 : (a0_0 == 6) = true := beq_iff_eq.mpr c40
                   have c40b1 : (a0_0 != 6) = false := bne_eq_false_iff_eq.mpr c40
                   clear c40
                   by_cases c41 : a0_1 > 1000
                   ·rw [if_pos c41] at H
                    have c41b0 : decide (1000 < a0_1) = true := decide_eq_true c41
                    clear c41
                    obtain rfl := Option.some.inj H
                    have qba4 : wc.cell? ⟨qfn, 0, none⟩ = some (.int .i64 a0_0) := (qb qfm.out 0).trans rfl
                    have qbbu : wc.cell? ⟨qfn, 1, none⟩ = some (.int .i64 a0_1) := (qb qfm.out 1).trans rfl
                    have qbcf : wc.cell? ⟨qfn, 2, none⟩ = some (.int .i64 a0_2) := (qb qfm.out 2).trans rfl
                    have qbd3 : wc.cell? ⟨qfn, 3, none⟩ = some (.string a0_3) := (qb qfm.out 3).trans rfl
                    have qba8 : wc.cell? ⟨qfn, 4, none⟩ = some (.int .i64 a0_4) := (qb qfm.out 4).trans rfl
                    have q7n : wc.cell? ⟨qfn, 5, none⟩ = some (.int .i64 a0_5) := (qb qfm.out 5).trans rfl
                    have qbae : wc.cell? ⟨qfn, 6, none⟩ = some (.string a0_6) := (qb qfm.out 6).trans rfl
                    have qbce : wc.cell? ⟨qfn, 7, none⟩ = some (.slice A0_7 l0_7.length c0_7) := (qb qfm.out 7).trans rfl
                    have q8d : wc.cell? ⟨qfn, 8, none⟩ = some (.slice A0_8 l0_8.length c0_8) := (qb qfm.out 8).trans rfl
                    have qbds : wc.cell? ⟨qfn, 9, none⟩ = some (.slice A0_9 l0_9.length c0_9) := (qb qfm.out 9).trans rfl
                    have qsk := qa qfm.out 0
                    have qrd := qa qfm.out 1
                    have qse := qa qfm.out 2
                    have qq1 := qa qfm.out 3
                    have qte := qa qfm.out 4
                    have qtf := qa qfm.out 5
                    have qqx := qa qfm.out 6
                    have qr4 := qa qfm.out 7
                    have qqv := qa qfm.out 8
                    have qr9 := qa qfm.out 9
                    go_wp2
                    go_ret
                    exact ⟨by first | rfl | (simp [qx, qy] <;> rfl) | (simp [*, qx, qy] <;> rfl), by repeat (first | (with_reducible first | exact HB.out | apply qg | apply qd | apply qh | refine ql ?_ qgm.out) | exact HB.out)⟩
                   ·rw [if_neg c41] at H
                    have c41b0 : decide (1000 < a0_1) = false := decide_eq_false c41
                    clear c41
                    by_cases c43 : a0_2 = 0
                    ·rw [if_pos c43] at H
                     have c43b0 : (a0_2 == 0) = true := beq_iff_eq.mpr c43
                     have c43b1 : (a0_2 != 0) = false := bne_eq_false_iff_eq.mpr c43
                     clear c43
                     have H' := qc.mk H
                     clear H
                     have qrn : wc.cell? ⟨qfn, 0, none⟩ = some (.int .i64 a0_0) := (qb qfm.out 0).trans rfl
                     have qsj : wc.cell? ⟨qfn, 1, none⟩ = some (.int .i64 a0_1) := (qb qfm.out 1).trans rfl
                     have qsu : wc.cell? ⟨qfn, 2, none⟩ = some (.int .i64 a0_2) := (qb qfm.out 2).trans rfl
                     have qty : wc.cell? ⟨qfn, 3, none⟩ = some (.string a0_3) := (qb qfm.out 3).trans rfl
                     have q2j : wc.cell? ⟨qfn, 4, none⟩ = some (.int .i64 a0_4) := (qb qfm.out 4).trans rfl
                     have q6j : wc.cell? ⟨qfn, 5, none⟩ = some (.int .i64 a0_5) := (qb qfm.out 5).trans rfl
                     have q53 : wc.cell? ⟨qfn, 6, none⟩ = some (.string a0_6) := (qb qfm.out 6).trans rfl
                     have q1f : wc.cell? ⟨qfn, 7, none⟩ = some (.slice A0_7 l0_7.length c0_7) := (qb qfm.out 7).trans rfl
                     have q4t : wc.cell? ⟨qfn, 8, none⟩ = some (.slice A0_8 l0_8.length c0_8) := (qb qfm.out 8).trans rfl
                     have q0t : wc.cell? ⟨qfn, 9, none⟩ = some (.slice A0_9 l0_9.length c0_9) := (qb qfm.out 9).trans rfl
                     have qk4 := qa qfm.out 0
                     have qlc := qa qfm.out 1
                     have qlb := qa qfm.out 2
                     have qkv := qa qfm.out 3
                     have qnr := qa qfm.out 4
                     have qoz := qa qfm.out 5
                     have qn0 := qa qfm.out 6
                     have qo0 := qa qfm.out 7
                     have qoo := qa qfm.out 8
                     have qnt := qa qfm.out 9
                     go_wp2
                     go_meet
                     case rel => exact ⟨_, H', ⟨by have := HJ2.out; have := HJ11.out; have := HJ16.out; have := HJ20.out; first | omega | exact Nat.le_refl _⟩, ⟨by (with_reducible repeat (first | refine qj ?_ _ | refine qm ?_ | refine qi ?_ _)); exact qfm.out⟩, ⟨by repeat (first | (with_reducible first | exact HB.out | apply qg | apply qd | apply qh | refine ql ?_ qgm.out) | exact HB.out)⟩⟩
                    ·rw [if_neg c43] at H
                     have c43b0 : (a0_2 == 0) = false := beq_eq_false_iff_ne.mpr c43
                     have c43b1 : (a0_2 != 0) = true := bne_iff_ne.mpr c43
                     obtain rfl := Option.some.inj H
                     have qbd1 : wc.cell? ⟨qfn, 0, none⟩ = some (.int .i64 a0_0) := (qb qfm.out 0).trans rfl
                     have qba3 : wc.cell? ⟨qfn, 1, none⟩ = some (.int .i64 a0_1) := (qb qfm.out 1).trans rfl
                     have qbby : wc.cell? ⟨qfn, 2, none⟩ = some (.int .i64 a0_2) := (qb qfm.out 2).trans rfl
                     have q74 : wc.cell? ⟨qfn, 3, none⟩ = some (.string a0_3) := (qb qfm.out 3).trans rfl
                     have qba0 : wc.cell? ⟨qfn, 4, none⟩ = some (.int .i64 a0_4) := (qb qfm.out 4).trans rfl
                     have qbeh : wc.cell? ⟨qfn, 5, none⟩ = some (.int .i64 a0_5) := (qb qfm.out 5).trans rfl
                     have qbbd : wc.cell? ⟨qfn, 6, none⟩ = some (.string a0_6) := (qb qfm.out 6).trans rfl
                     have qbbc : wc.cell? ⟨qfn, 7, none⟩ = some (.slice A0_7 l0_7.length c0_7) := (qb qfm.out 7).trans rfl
                     have q82 : wc.cell? ⟨qfn, 8, none⟩ = some (.slice A0_8 l0_8.length c0_8) := (qb qfm.out 8).trans rfl
                     have qbdk : wc.cell? ⟨qfn, 9, none⟩ = some (.slice A0_9 l0_9.length c0_9) := (qb qfm.out 9).trans rfl
                     have qr3 := qa qfm.out 0
                     have qrt := qa qfm.out 1
                     have qq7 := qa qfm.out 2
                     have qs9 := qa qfm.out 3
                     have qtb := qa qfm.out 4
                     have qqd := qa qfm.out 5
                     have qsh := qa qfm.out 6
                     have qqe := qa qfm.out 7
                     have qs4 := qa qfm.out 8
                     have qto := qa qfm.out 9
                     go_wp2
                     go_ret
                     exact ⟨by first | rfl | (simp [qx, qy] <;> rfl) | (simp [*, qx, qy] <;> rfl), by repeat (first | (with_reducible first | exact HB.out | apply qg | apply qd | apply qh | refine ql ?_ qgm.out) | exact HB.out)⟩
                  ·rw [if_neg c40] at H
                   have c40b0 : (a0_0 == 6) = false := beq_eq_false_iff_ne.mpr c40
                   have c40b1 : (a0_0 != 6) = true := bne_iff_ne.mpr c40
                   have H' := qc.mk H
                   clear H
                   have qwe : wc.cell? ⟨qfn, 0, none⟩ = some (.int .i64 a0_0) := (qb qfm.out 0).trans rfl
                   have qwb : wc.cell? ⟨qfn, 1, none⟩ = some (.int .i64 a0_1) := (qb qfm.out 1).trans rfl
                   have qu4 : wc.cell? ⟨qfn, 2, none⟩ = some (.int .i64 a0_2) := (qb qfm.out 2).trans rfl
                   have quk : wc.cell? ⟨qfn, 3, none⟩ = some (.string a0_3) := (qb qfm.out 3).trans rfl
                   have qbc5 : wc.cell? ⟨qfn, 4, none⟩ = some (.int .i64 a0_4) := (qb qfm.out 4).trans rfl
                   have q90 : wc.cell? ⟨qfn, 5, none⟩ = some (.int .i64 a0_5) := (qb qfm.out 5).trans rfl
                   have q9y : wc.cell? ⟨qfn, 6, none⟩ = some (.string a0_6) := (qb qfm.out 6).trans rfl
                   have q7b : wc.cell? ⟨qfn, 7, none⟩ = some (.slice A0_7 l0_7.length c0_7) := (qb qfm.out 7).trans rfl
                   have q7k : wc.cell? ⟨qfn, 8, none⟩ = some (.slice A0_8 l0_8.length c0_8) := (qb qfm.out 8).trans rfl
                   have q9o : wc.cell? ⟨qfn, 9, none⟩ = some (.slice A0_9 l0_9.length c0_9) := (qb qfm.out 9).trans rfl
                   have qmh := qa qfm.out 0
                   have qls := qa qfm.out 1
                   have qlw := qa qfm.out 2
                   have qmj := qa qfm.out 3
                   have qp1 := qa qfm.out 4
                   have qpm := qa qfm.out 5
                   have qsy := qa qfm.out 6
                   have qs5 := qa qfm.out 7
                   have qrv := qa qfm.out 8
                   have qso := qa qfm.out 9
                   go_wp2
                   go_meet
                   case rel => exact ⟨_, H', ⟨by have := HJ2.out; have := HJ11.out; have := HJ16.out; have := HJ20.out; first | omega | exact Nat.le_refl _⟩, ⟨by (with_reducible repeat (first | refine qj ?_ _ | refine qm ?_ | refine qi ?_ _)); exact qfm.out⟩, ⟨by repeat (first | (with_reducible first | exact HB.out | apply qg | apply qd | apply qh | refine ql ?_ qgm.out) | exact HB.out)⟩⟩
             ·rw [if_neg c31] at H
              have c31b0 : (a0_0 == 4) = false := beq_eq_false_iff_ne.mpr c31
              have c31b1 : (a0_0 != 4) = true := bne_iff_ne.mpr c31
              (first | rw [c31b0] | (simp only [i64_w, i32_w]; rw [c31b0]) | skip)
              by_cases c47 : a0_0 = 6
              ·rw [if_pos c47] at H
               have c47b0 : (a0_0 == 6) = true := beq_iff_eq.mpr c47
               have c47b1 : (a0_0 != 6) = false := bne_eq_false_iff_eq.mpr c47
               clear c47
               by_cases c48 : a0_1 < 1
               ·rw [if_pos c48] at H
                have c48b0 : decide (a0_1 < 1) = true := decide_eq_true c48
                clear c48
                obtain rfl := Option.some.inj H
                have qu2 : wc.cell? ⟨qfn, 0, none⟩ = some (.int .i64 a0_0) := (qb qfm.out 0).trans rfl
                have qvk : wc.cell? ⟨qfn, 1, none⟩ = some (.int .i64 a0_1) := (qb qfm.out 1).trans rfl
                have qub : wc.cell? ⟨qfn, 2, none⟩ = some (.int .i64 a0_2) := (qb qfm.out 2).trans rfl
                have qv3 : wc.cell? ⟨qfn, 3, none⟩ = some (.string a0_3) := (qb qfm.out 3).trans rfl
                have q73 : wc.cell? ⟨qfn, 4, none⟩ = some (.int .i64 a0_4) := (qb qfm.out 4).trans rfl
                have qbdx : wc.cell? ⟨qfn, 5, none⟩ = some (.int .i64 a0_5) := (qb qfm.out 5).trans rfl
                have q93 : wc.cell? ⟨qfn, 6, none⟩ = some (.string a0_6) := (qb qfm.out 6).trans rfl
                have qbat : wc.cell? ⟨qfn, 7, none⟩ = some (.slice A0_7 l0_7.length c0_7) := (qb qfm.out 7).trans rfl
                have qbeq : wc.cell? ⟨qfn, 8, none⟩ = some (.slice A0_8 l0_8.length c0_8) := (qb qfm.out 8).trans rfl
                have q68 : wc.cell? ⟨qfn, 9, none⟩ = some (.slice A0_9 l0_9.length c0_9) := (qb qfm.out 9).trans rfl
                have qlr := qa qfm.out 0
                have ql7 := qa qfm.out 1
                have qlt := qa qfm.out 2
                have ql2 := qa qfm.out 3
                have qpp := qa qfm.out 4
                have qpq := qa qfm.out 5
                have qs3 := qa qfm.out 6
                have qtg := qa qfm.out 7
                have qps := qa qfm.out 8
                have qth := qa qfm.out 9
                go_wp2
                go_ret
                exact ⟨by first | rfl | (simp [qx, qy] <;> rfl) | (simp [*, qx, qy] <;> rfl), by repeat (first | (with_reducible first | exact HB.out | apply qg | apply qd | apply qh | refine ql ?_ qgm.out) | exact HB.out)⟩
               ·rw [if_neg c48] at H
                have c48b0 : decide (a0_1 < 1) = false := decide_eq_false c48
                clear c48
                by_cases c50 : a0_1 > 1000
                ·rw [if_pos c50] at H
                 have c50b0 : decide (1000 < a0_1) = true := decide_eq_true c50
                 clear c50
                 obtain rfl := Option.some.inj H
                 have qnb : wc.cell? ⟨qfn, 0, none⟩ = some (.int .i64 a0_0) := (qb qfm.out 0).trans rfl
                 have qmx : wc.cell? ⟨qfn, 1, none⟩ = some (.int .i64 a0_1) := (qb qfm.out 1).trans rfl
                 have qnc : wc.cell? ⟨qfn, 2, none⟩ = some (.int .i64 a0_2) := (qb qfm.out 2).trans rfl
                 have qni : wc.cell? ⟨qfn, 3, none⟩ = some (.string a0_3) := (qb qfm.out 3).trans rfl
                 have qbci : wc.cell? ⟨qfn, 4, none⟩ = some (.int .i64 a0_4) := (qb qfm.out 4).trans rfl
                 have q9s : wc.cell? ⟨qfn, 5, none⟩ = some (.int .i64 a0_5) := (qb qfm.out 5).trans rfl
                 have q70 : wc.cell? ⟨qfn, 6, none⟩ = some (.string a0_6) := (qb qfm.out 6).trans rfl
                 have q92 : wc.cell? ⟨qfn, 7, none⟩ = some (.slice A0_7 l0_7.length c0_7) := (qb qfm.out 7).trans rfl
                 have qbbr : wc.cell? ⟨qfn, 8, none⟩ = some (.slice A0_8 l0_8.length c0_8) := (qb qfm.out 8).trans rfl
                 have qbdh : wc.cell? ⟨qfn, 9, none⟩ = some (.slice A0_9 l0_9.length c0_9) := (qb qfm.out 9).trans rfl
                 have qji := qa qfm.out 0
                 have qi3 := qa qfm.out 1
                 have qi9 := qa qfm.out 2
                 have qjc := qa qfm.out 3
                 have qtk := qa qfm.out 4
                 have qsc := qa qfm.out 5
                 have qst := qa qfm.out 6
                 have qsw := qa qfm.out 7
                 have qqq := qa qfm.out 8
                 have qrm := qa qfm.out 9
                 go_wp2
                 go_ret
                 exact ⟨by first | rfl | (simp [qx, qy] <;> rfl) | (simp [*, qx, qy] <;> rfl), by repeat (first | (with_reducible first | exact HB.out | apply qg | apply qd | apply qh | refine ql ?_ qgm.out) | exact HB.out)⟩
                ·rw [if_neg c50] at H
                 have c50b0 : decide (1000 < a0_1) = false := decide_eq_false c50
                 clear c50
                 by_cases c52 : a0_2 = 0
                 ·rw [if_pos c52] at H
                  have c52b0 : (a0_2 == 0) = true := beq_iff_eq.mpr c52
                  have c52b1 : (a0_2 != 0) = false := bne_eq_false_iff_eq.mpr c52
                  clear c52
                  have H' := qc.mk H
                  clear H
                  have q69 : wc.cell? ⟨qfn, 0, none⟩ = some (.int .i64 a0_0) := (qb qfm.out 0).trans rfl
                  have qbcz : wc.cell? ⟨qfn, 1, none⟩ = some (.int .i64 a0_1) := (qb qfm.out 1).trans rfl
                  have q86 : wc.cell? ⟨qfn, 2, none⟩ = some (.int .i64 a0_2) := (qb qfm.out 2).trans rfl
                  have q9k : wc.cell? ⟨qfn, 3, none⟩ = some (.string a0_3) := (qb qfm.out 3).trans rfl
                  have q8k : wc.cell? ⟨qfn, 4, none⟩ = some (.int .i64 a0_4) := (qb qfm.out 4).trans rfl
                  have q8z : wc.cell? ⟨qfn, 5, none⟩ = some (.int .i64 a0_5) := (qb qfm.out 5).trans rfl
                  have q79 : wc.cell? ⟨qfn, 6, none⟩ = some (.string a0_6) := (qb qfm.out 6).trans rfl
                  have q8x : wc.cell? ⟨qfn, 7, none⟩ = some (.slice A0_7 l0_7.length c0_7) := (qb qfm.out 7).trans rfl
                  have qba6 : wc.cell? ⟨qfn, 8, none⟩ = some (.slice A0_8 l0_8.length c0_8) := (qb qfm.out 8).trans rfl
                  have qbao : wc.cell? ⟨qfn, 9, none⟩ = some (.slice A0_9 l0_9.length c0_9) := (qb qfm.out 9).trans rfl
                  have qru := qa qfm.out 0
                  have qqm := qa qfm.out 1
                  have qsl := qa qfm.out 2
                  have qp3 := qa qfm.out 3
                  have qqu := qa qfm.out 4
                  have qqi := qa qfm.out 5
                  have qqj := qa qfm.out 6
                  have qrx := qa qfm.out 7
                  have qsf := qa qfm.out 8
                  have qro := qa qfm.out 9
                  go_wp2
                  go_meet
                  case rel => exact ⟨_, H', ⟨by have := HJ2.out; have := HJ11.out; have := HJ16.out; have := HJ20.out; first | omega | exact Nat.le_refl _⟩, ⟨by (with_reducible repeat (first | refine qj ?_ _ | refine qm ?_ | refine qi ?_ _)); exact qfm.out⟩, ⟨by repeat (first | (with_reducible first | exact HB.out | apply qg | apply qd | apply qh | refine ql ?_ qgm.out) | exact HB.out)⟩⟩
                 ·rw [if_neg c52] at H
                  have c52b0 : (a0_2 == 0) = false := beq_eq_false_iff_ne.mpr c52
                  have c52b1 : (a0_2 != 0) = true := bne_iff_ne.mpr c52
                  obtain rfl := Option.some.inj H
                  have qu0 : wc.cell? ⟨qfn, 0, none⟩ = some (.int .i64 a0_0) := (qb qfm.out 0).trans rfl
                  have qut : wc.cell? ⟨qfn, 1, none⟩ = some (.int .i64 a0_1) := (qb qfm.out 1).trans rfl
                  have qun : wc.cell? ⟨qfn, 2, none⟩ = some (.int .i64 a0_2) := (qb qfm.out 2).trans rfl
                  have qua : wc.cell? ⟨qfn, 3, none⟩ = some (.string a0_3) := (qb qfm.out 3).trans rfl
                  have q7i : wc.cell? ⟨qfn, 4, none⟩ = some (.int .i64 a0_4) := (qb qfm.out 4).trans rfl
                  have q9g : wc.cell? ⟨qfn, 5, none⟩ = some (.int .i64 a0_5) := (qb qfm.out 5).trans rfl
                  have q85 : wc.cell? ⟨qfn, 6, none⟩ = some (.string a0_6) := (qb qfm.out 6).trans rfl
                  have q76 : wc.cell? ⟨qfn, 7, none⟩ = some (.slice A0_7 l0_7.length c0_7) := (qb qfm.out 7).trans rfl
                  have qbcw : wc.cell? ⟨qfn, 8, none⟩ = some (.slice A0_8 l0_8.length c0_8) := (qb qfm.out 8).trans rfl
                  have q9d : wc.cell? ⟨qfn, 9, none⟩ = some (.slice A0_9 l0_9.length c0_9) := (qb qfm.out 9).trans rfl
                  have ql1 := qa qfm.out 0
                  have qmi := qa qfm.out 1
                  have qlq := qa qfm.out 2
                  have ql4 := qa qfm.out 3
                  have qrw := qa qfm.out 4
                  have qrj := qa qfm.out 5
                  have qtu := qa qfm.out 6
                  have qqr := qa qfm.out 7
                  have qs6 := qa qfm.out 8
                  have qti := qa qfm.out 9
                  go_wp2
                  go_ret
                  exact ⟨by first | rfl | (simp [qx, qy] <;> rfl) | (simp [*, qx, qy] <;> rfl), by repeat (first | (with_reducible first | exact HB.out | apply qg | apply qd | apply qh | refine ql ?_ qgm.out) | exact HB.out)⟩
              ·rw [if_neg c47] at H
               have c47b0 : (a0_0 == 6) = false := beq_eq_false_iff_ne.mpr c47
               have c47b1 : (a0_0 != 6) = true := bne_iff_ne.mpr c47
               by_cases c55 : a0_1 = 0
               ·rw [if_pos c55] at H
                have c55b0 : (a0_1 == 0) = true := beq_iff_eq.mpr c55
                have c55b1 : (a0_1 != 0) = false := bne_eq_false_iff_eq.mpr c55
                clear c55
                by_cases c56 : a0_2 = 0
                ·rw [if_pos c56] at H
                 have c56b0 : (a0_2 == 0) = true := beq_iff_eq.mpr c56
                 have c56b1 : (a0_2 != 0) = false := bne_eq_false_iff_eq.mpr c56
                 clear c56
                 have H' := qc.mk H
                 clear H
                 have qbee : wc.cell? ⟨qfn, 0, none⟩ = some (.int .i64 a0_0) := (qb qfm.out 0).trans rfl
                 have qbcx : wc.cell? ⟨qfn, 1, none⟩ = some (.int .i64 a0_1) := (qb qfm.out 1).trans rfl
                 have qbcq : wc.cell? ⟨qfn, 2, none⟩ = some (.int .i64 a0_2) := (qb qfm.out 2).trans rfl
                 have qbdp : wc.cell? ⟨qfn, 3, none⟩ = some (.string a0_3) := (qb qfm.out 3).trans rfl
                 have q9a : wc.cell? ⟨qfn, 4, none⟩ = some (.int .i64 a0_4) := (qb qfm.out 4).trans rfl
                 have qbbk : wc.cell? ⟨qfn, 5, none⟩ = some (.int .i64 a0_5) := (qb qfm.out 5).trans rfl
                 have qbcr : wc.cell? ⟨qfn, 6, none⟩ = some (.string a0_6) := (qb qfm.out 6).trans rfl
                 have qbb0 : wc.cell? ⟨qfn, 7, none⟩ = some (.slice A0_7 l0_7.length c0_7) := (qb qfm.out 7).trans rfl
                 have q7z : wc.cell? ⟨qfn, 8, none⟩ = some (.slice A0_8 l0_8.length c0_8) := (qb qfm.out 8).trans rfl
                 have qbb1 : wc.cell? ⟨qfn, 9, none⟩ = some (.slice A0_9 l0_9.length c0_9) := (qb qfm.out 9).trans rfl
                 have qp5 := qa qfm.out 0
                 have qs0 := qa qfm.out 1
                 have qq8 := qa qfm.out 2
                 have qtz := qa qfm.out 3
                 have qp7 := qa qfm.out 4
                 have qqz := qa qfm.out 5
                 have qp0 := qa qfm.out 6
                 have qtj := qa qfm.out 7
                 have qq3 := qa qfm.out 8
                 have qrs := qa qfm.out 9
                 go_wp2
                 go_meet
                 case rel => exact ⟨_, H', ⟨by have := HJ2.out; have := HJ11.out; have := HJ16.out; have := HJ20.out; first | omega | exact Nat.le_refl _⟩, ⟨by (with_reducible repeat (first | refine qj ?_ _ | refine qm ?_ | refine qi ?_ _)); exact qfm.out⟩, ⟨by repeat (first | (with_reducible first | exact HB.out | apply qg | apply qd | apply qh | refine ql ?_ qgm.out) | exact HB.out)⟩⟩
                ·rw [if_neg c56] at H
                 have c56b0 : (a0_2 == 0) = false := beq_eq_false_iff_ne.mpr c56
                 have c56b1 : (a0_2 != 0) = true := bne_iff_ne.mpr c56
                 obtain rfl := Option.some.inj H
                 have q7r : wc.cell? ⟨qfn, 0, none⟩ = some (.int .i64 a0_0) := (qb qfm.out 0).trans rfl
                 have qbc7 : wc.cell? ⟨qfn, 1, none⟩ = some (.int .i64 a0_1) := (qb qfm.out 1).trans rfl
                 have qbed : wc.cell? ⟨qfn, 2, none⟩ = some (.int .i64 a0_2) := (qb qfm.out 2).trans rfl
                 have qbak : wc.cell? ⟨qfn, 3, none⟩ = some (.string a0_3) := (qb qfm.out 3).trans rfl
                 have qbdg : wc.cell? ⟨qfn, 4, none⟩ = some (.int .i64 a0_4) := (qb qfm.out 4).trans rfl
                 have q7c : wc.cell? ⟨qfn, 5, none⟩ = some (.int .i64 a0_5) := (qb qfm.out 5).trans rfl
                 have qbcj : wc.cell? ⟨qfn, 6, none⟩ = some (.string a0_6) := (qb qfm.out 6).trans rfl
                 have qbc2 : wc.cell? ⟨qfn, 7, none⟩ = some (.slice A0_7 l0_7.length c0_7) := (qb qfm.out 7).trans rfl
                 have qbal : wc.cell? ⟨qfn, 8, none⟩ = some (.slice A0_8 l0_8.length c0_8) := (qb qfm.out 8).trans rfl
                 have q8y : wc.cell? ⟨qfn, 9, none⟩ = some (.slice A0_9 l0_9.length c0_9) := (qb qfm.out 9).trans rfl
                 have qr5 := qa qfm.out 0
                 have qs8 := qa qfm.out 1
                 have qp4 := qa qfm.out 2
                 have qpg := qa qfm.out 3
                 have qph := qa qfm.out 4
                 have qtm := qa qfm.out 5
                 have qpz := qa qfm.out 6
                 have qrg := qa qfm.out 7
                 have qpr := qa qfm.out 8
                 have qrk := qa qfm.out 9
                 go_wp2
                 go_ret
                 exact ⟨by first | rfl | (simp [qx, qy] <;> rfl) | (simp [*, qx, qy] <;> rfl), by repeat (first | (with_reducible first | exact HB.out | apply qg | apply qd | apply qh | refine ql ?_ qgm.out) | exact HB.out)⟩
               ·rw [if_neg c55] at H
                have c55b0 : (a0_1 == 0) = false := beq_eq_false_iff_ne.mpr c55
                have c55b1 : (a0_1 != 0) = true := bne_iff_ne.mpr c55
                obtain rfl := Option.some.inj H
                have qt5 : wc.cell? ⟨qfn, 0, none⟩ = some (.int .i64 a0_0) := (qb qfm.out 0).trans rfl
                have qv6 : wc.cell? ⟨qfn, 1, none⟩ = some (.int .i64 a0_1) := (qb qfm.out 1).trans rfl
                have qv8 : wc.cell? ⟨qfn, 2, none⟩ = some (.int .i64 a0_2) := (qb qfm.out 2).trans rfl
                have qvn : wc.cell? ⟨qfn, 3, none⟩ = some (.string a0_3) := (qb qfm.out 3).trans rfl
                have qbbf : wc.cell? ⟨qfn, 4, none⟩ = some (.int .i64 a0_4) := (qb qfm.out 4).trans rfl
                have q71 : wc.cell? ⟨qfn, 5, none⟩ = some (.int .i64 a0_5) := (qb qfm.out 5).trans rfl
                have qbeg : wc.cell? ⟨qfn, 6, none⟩ = some (.string a0_6) := (qb qfm.out 6).trans rfl
                have qbdn : wc.cell? ⟨qfn, 7, none⟩ = some (.slice A0_7 l0_7.length c0_7) := (qb qfm.out 7).trans rfl
                have qbb2 : wc.cell? ⟨qfn, 8, none⟩ = some (.slice A0_8 l0_8.length c0_8) := (qb qfm.out 8).trans rfl
                have qbas : wc.cell? ⟨qfn, 9, none⟩ = some (.slice A0_9 l0_9.length c0_9) := (qb qfm.out 9).trans rfl
                have qmb := qa qfm.out 0
                have qmm := qa qfm.out 1
                have qly := qa qfm.out 2
                have qlx := qa qfm.out 3
                have qqa := qa qfm.out 4
                have qq4 := qa qfm.out 5
                have qrz := qa qfm.out 6
                have qr8 := qa qfm.out 7
                have qp9 := qa qfm.out 8
                have qr7 := qa qfm.out 9
                go_wp2
                go_ret
                exact ⟨by first | rfl | (simp [qx, qy] <;> rfl) | (simp [*, qx, qy] <;> rfl), by repeat (first | (with_reducible first | exact HB.out | apply qg | apply qd | apply qh | refine ql ?_ qgm.out) | exact HB.out)⟩
           case rest =>
            clear HC30
            (try clear c2); (try clear p2); (try clear c3); (try clear c4); (try clear c5); (try clear c29); (try clear c31); (try clear c31b0); (try clear c31b1); (try clear c32); (try clear c32b0); (try clear c34); (try clear c34b0); (try clear c36); (try clear c36b0); (try clear c38); (try clear c38b0); (try clear c40); (try clear c40b0); (try clear c40b1); (try clear c41); (try clear c41b0); (try clear c43); (try clear c43b0); (try clear c43b1); (try clear c47); (try clear c47b0); (try clear c47b1); (try clear c48); (try clear c48b0); (try clear c50); (try clear c50b0); (try clear c52); (try clear c52b0); (try clear c52b1); (try clear c55); (try clear c55b0); (try clear c55b1); (try clear c56); (try clear c56b0); (try clear c56b1); (try clear qs2 qsn qr6 qpt q5s q2r q4n q11 q1p q0w); (try clear q3s q2l q6k q0e qzs q34 q6a q0l q1u q0g); (try clear qvp qvi qu8 qv9 qbdf qbei qbaq qbdy q8q qbba); (try clear qbdi qben q95 qbda q7a qbd7 q7x qba1 q8p qbek); (try clear qba4 qbbu qbcf qbd3 qba8 q7n qbae qbce q8d qbds); (try clear qrn qsj qsu qty q2j q6j q53 q1f q4t q0t); (try clear qbd1 qba3 qbby q74 qba0 qbeh qbbd qbbc q82 qbdk); (try clear qwe qwb qu4 quk qbc5 q90 q9y q7b q7k q9o); (try clear qu2 qvk qub qv3 q73 qbdx q93 qbat qbeq q68); (try clear qnb qmx qnc qni qbci q9s q70 q92 qbbr qbdh); (try clear q69 qbcz q86 q9k q8k q8z q79 q8x qba6 qbao); (try clear qu0 qut qun qua q7i q9g q85 q76 qbcw q9d); (try clear qbee qbcx qbcq qbdp q9a qbbk qbcr qbb0 q7z qbb1); (try clear q7r qbc7 qbed qbak qbdg q7c qbcj qbc2 qbal q8y); (try clear qt5 qv6 qv8 qvn qbbf q71 qbeg qbdn qbb2 qbas); (try clear qlg qlf qlm qlk qli qld); (try clear qh4 qhu qh7 qhx qpc qpe qpd qpf qpa qpb); (try clear qlu qmg ql6 ql5 qkn qk0 qkr qki qla qk2); (try clear qk1 qk3 qkh qkc qk9 qke qkf qkw qko qkz); (try clear qg0 qgx qgz qgy qi6 qjh qi4 qjf qje qi8); (try clear qhb qg8 qhe qhc qiq qiu qip qii qim qis); (try clear qjp qka qjn qj7 qjy qju qj4 qj5 qjz qjo); (try clear qhv qh2 qh6 qh0 qj3 qj0 qjt qjv qj6 qj9); (try clear qkm qkt qkx qk6 qol qor qnp qoh qo2 qo4); (try clear qnx qn5 qot qnq qoc qn9 qou qoj qnn qod); (try clear qmf qmk qmn qmd qtn qqb qts qpw qpk qs7); (try clear qqn qtp qsa qtv qpx qq2 qq0 qq6 qsr qqo); (try clear qsk qrd qse qq1 qte qtf qqx qr4 qqv qr9); (try clear qk4 qlc qlb qkv qnr qoz qn0 qo0 qoo qnt); (try clear qr3 qrt qq7 qs9 qtb qqd qsh qqe qs4 qto); (try clear qmh qls qlw qmj qp1 qpm qsy qs5 qrv qso); (try clear qlr ql7 qlt ql2 qpp qpq qs3 qtg qps qth); (try clear qji qi3 qi9 qjc qtk qsc qst qsw qqq qrm); (try clear qru qqm qsl qp3 qqu qqi qqj qrx qsf qro); (try clear ql1 qmi qlq ql4 qrw qrj qtu qqr qs6 qti); (try clear qp5 qs0 qq8 qtz qp7 qqz qp0 qtj qq3 qrs); (try clear qr5 qs8 qp4 qpg qph qtm qpz qrg qpr qrk); (try clear qmb qmm qly qlx qqa qq4 qrz qr8 qp9 qr7); (try clear qhj qhl qhm qhk qi2 qix qi0 qi1 qiy qiz); (try clear qhd qg9 qhf qha qlh qln qlo qll qle qlj); (try clear p2)
            obtain ⟨kq, HA, HJ29, qfm, HB⟩ := hcut
            cases kq with
            | zero => exact absurd HA.out (by simp [qf.j4])
            | succ kj29 =>
             have H := HA.out
             clear HA
             simp only [qf.j4] at H
             have HC60 := qc.mk H
             clear H
             go_upto_region 14 with (fail)
             go_cut [8] (fun v8 wc => ∃ (kq : Nat) (qbjb : Bool), v8 = .bool qbjb ∧ qc (qf.j5 kq a1 (l0_8.length : Int) qbjb a0_0 a0_1 a0_2 a0_3 a0_4 a0_5 a0_6 l0_7 l0_8 l0_9 = some r) ∧ qc (kq ≤ kj29) ∧ qc (wc.heap[qfn]? = some (.cells #[.int .i64 a0_0, .int .i64 a0_1, .int .i64 a0_2, .string a0_3, .int .i64 a0_4, .int .i64 a0_5, .string a0_6, (.slice A0_7 l0_7.length c0_7), (.slice A0_8 l0_8.length c0_8), (.slice A0_9 l0_9.length c0_9)] 30 (0, 0))) ∧ qc (Below w.heap.size w wc))
             case first =>
              as_aux_lemma =>
               have H := HC60.out
               clear HC60
               by_cases c61 : a0_0 = 8
               ·rw [if_pos c61] at H
                have c61b0 : (a0_0 == 8) = true := beq_iff_eq.mpr c61
                have c61b1 : (a0_0 != 8) = false := bne_eq_false_iff_eq.mpr c61
                clear c61
                (first | rw [c61b0] | (simp only [i64_w, i32_w]; rw [c61b0]) | skip)
                have H' := qc.mk H
                clear H
                have qbg9 : wc.cell? ⟨qfn, 0, none⟩ = some (.int .i64 a0_0) := (qb qfm.out 0).trans rfl
                have qbg0 : wc.cell? ⟨qfn, 1, none⟩ = some (.int .i64 a0_1) := (qb qfm.out 1).trans rfl
                have qbj6 : wc.cell? ⟨qfn, 2, none⟩ = some (.int .i64 a0_2) := (qb qfm.out 2).trans rfl
                have qbh1 : wc.cell? ⟨qfn, 3, none⟩ = some (.string a0_3) := (qb qfm.out 3).trans rfl
                have qbk3 : wc.cell? ⟨qfn, 4, none⟩ = some (.int .i64 a0_4) := (qb qfm.out 4).trans rfl
                have qbhe : wc.cell? ⟨qfn, 5, none⟩ = some (.int .i64 a0_5) := (qb qfm.out 5).trans rfl
                have qbit : wc.cell? ⟨qfn, 6, none⟩ = some (.string a0_6) := (qb qfm.out 6).trans rfl
                have qbir : wc.cell? ⟨qfn, 7, none⟩ = some (.slice A0_7 l0_7.length c0_7) := (qb qfm.out 7).trans rfl
                have qbjg : wc.cell? ⟨qfn, 8, none⟩ = some (.slice A0_8 l0_8.length c0_8) := (qb qfm.out 8).trans rfl
                have qbie : wc.cell? ⟨qfn, 9, none⟩ = some (.slice A0_9 l0_9.length c0_9) := (qb qfm.out 9).trans rfl
                have qt9 := qa qfm.out 0
                have qv7 := qa qfm.out 1
                have qvs := qa qfm.out 2
                have quw := qa qfm.out 3
                have qve := qa qfm.out 4
                have qv5 := qa qfm.out 5
                have qv2 := qa qfm.out 6
                have qwa := qa qfm.out 7
                have qva := qa qfm.out 8
                have quf := qa qfm.out 9
                go_wp2
                go_meet
                case rel => exact ⟨_, (true), (by first | rfl | (simp; done) | (simp [*]; done)), H', ⟨by have := HJ2.out; have := HJ11.out; have := HJ16.out; have := HJ20.out; have := HJ29.out; first | omega | exact Nat.le_refl _⟩, ⟨by (with_reducible repeat (first | refine qj ?_ _ | refine qm ?_ | refine qi ?_ _)); exact qfm.out⟩, ⟨by repeat (first | (with_reducible first | exact HB.out | apply qg | apply qd | apply qh | refine ql ?_ qgm.out) | exact HB.out)⟩⟩
               ·rw [if_neg c61] at H
                have c61b0 : (a0_0 == 8) = false := beq_eq_false_iff_ne.mpr c61
                have c61b1 : (a0_0 != 8) = true := bne_iff_ne.mpr c61
                (first | rw [c61b0] | (simp only [i64_w, i32_w]; rw [c61b0]) | skip)
                by_cases c63 : a0_0 = 9
                ·rw [if_pos c63] at H
                 have c63b0 : (a0_0 == 9) = true := beq_iff_eq.mpr c63
                 have c63b1 : (a0_0 != 9) = false := bne_eq_false_iff_eq.mpr c63
                 clear c63
                 have H' := qc.mk H
                 clear H
                 have qx2 : wc.cell? ⟨qfn, 0, none⟩ = some (.int .i64 a0_0) := (qb qfm.out 0).trans rfl
                 have qx5 : wc.cell? ⟨qfn, 1, none⟩ = some (.int .i64 a0_1) := (qb qfm.out 1).trans rfl
                 have qyu : wc.cell? ⟨qfn, 2, none⟩ = some (.int .i64 a0_2) := (qb qfm.out 2).trans rfl
                 have qyb : wc.cell? ⟨qfn, 3, none⟩ = some (.string a0_3) := (qb qfm.out 3).trans rfl
                 have qbjn : wc.cell? ⟨qfn, 4, none⟩ = some (.int .i64 a0_4) := (qb qfm.out 4).trans rfl
                 have qbix : wc.cell? ⟨qfn, 5, none⟩ = some (.int .i64 a0_5) := (qb qfm.out 5).trans rfl
                 have qbin : wc.cell? ⟨qfn, 6, none⟩ = some (.string a0_6) := (qb qfm.out 6).trans rfl
                 have qbgk : wc.cell? ⟨qfn, 7, none⟩ = some (.slice A0_7 l0_7.length c0_7) := (qb qfm.out 7).trans rfl
                 have qbkx : wc.cell? ⟨qfn, 8, none⟩ = some (.slice A0_8 l0_8.length c0_8) := (qb qfm.out 8).trans rfl
                 have qbhz : wc.cell? ⟨qfn, 9, none⟩ = some (.slice A0_9 l0_9.length c0_9) := (qb qfm.out 9).trans rfl
                 have qne := qa qfm.out 0
                 have qm7 := qa qfm.out 1
                 have qms := qa qfm.out 2
                 have qmu := qa qfm.out 3
                 have qvw := qa qfm.out 4
                 have qvt := qa qfm.out 5
                 have qvo := qa qfm.out 6
                 have qud := qa qfm.out 7
                 have qur := qa qfm.out 8
                 have quq := qa qfm.out 9
                 go_wp2
                 go_meet
                 case rel => exact ⟨_, (true), (by first | rfl | (simp; done) | (simp [*]; done)), H', ⟨by have := HJ2.out; have := HJ11.out; have := HJ16.out; have := HJ20.out; have := HJ29.out; first | omega | exact Nat.le_refl _⟩, ⟨by (with_reducible repeat (first | refine qj ?_ _ | refine qm ?_ | refine qi ?_ _)); exact qfm.out⟩, ⟨by repeat (first | (with_reducible first | exact HB.out | apply qg | apply qd | apply qh | refine ql ?_ qgm.out) | exact HB.out)⟩⟩
                ·rw [if_neg c63] at H
                 have c63b0 : (a0_0 == 9) = false := beq_eq_false_iff_ne.mpr c63
                 have c63b1 : (a0_0 != 9) = true := bne_iff_ne.mpr c63
                 have H' := qc.mk H
                 clear H
                 have qbk5 : wc.cell? ⟨qfn, 0, none⟩ = some (.int .i64 a0_0) := (qb qfm.out 0).trans rfl
                 have qbko : wc.cell? ⟨qfn, 1, none⟩ = some (.int .i64 a0_1) := (qb qfm.out 1).trans rfl
                 have qbjp : wc.cell? ⟨qfn, 2, none⟩ = some (.int .i64 a0_2) := (qb qfm.out 2).trans rfl
                 have qbif : wc.cell? ⟨qfn, 3, none⟩ = some (.string a0_3) := (qb qfm.out 3).trans rfl
                 have qbkm : wc.cell? ⟨qfn, 4, none⟩ = some (.int .i64 a0_4) := (qb qfm.out 4).trans rfl
                 have qbf0 : wc.cell? ⟨qfn, 5, none⟩ = some (.int .i64 a0_5) := (qb qfm.out 5).trans rfl
                 have qbjw : wc.cell? ⟨qfn, 6, none⟩ = some (.string a0_6) := (qb qfm.out 6).trans rfl
                 have qbh2 : wc.cell? ⟨qfn, 7, none⟩ = some (.slice A0_7 l0_7.length c0_7) := (qb qfm.out 7).trans rfl
                 have qbid : wc.cell? ⟨qfn, 8, none⟩ = some (.slice A0_8 l0_8.length c0_8) := (qb qfm.out 8).trans rfl
                 have qbf5 : wc.cell? ⟨qfn, 9, none⟩ = some (.slice A0_9 l0_9.length c0_9) := (qb qfm.out 9).trans rfl
                 have qwc := qa qfm.out 0
                 have qu7 := qa qfm.out 1
                 have qux := qa qfm.out 2
                 have qvx := qa qfm.out 3
                 have qt4 := qa qfm.out 4
                 have qvz := qa qfm.out 5
                 have quz := qa qfm.out 6
                 have qug := qa qfm.out 7
                 have qvy := qa qfm.out 8
                 have quc := qa qfm.out 9
                 go_wp2
                 go_meet
                 case rel => exact ⟨_, ((a0_0 == 12)), (by first | rfl | (simp; done) | (simp [*]; done)), H', ⟨by have := HJ2.out; have := HJ11.out; have := HJ16.out; have := HJ20.out; have := HJ29.out; first | omega | exact Nat.le_refl _⟩, ⟨by (with_reducible repeat (first | refine qj ?_ _ | refine qm ?_ | refine qi ?_ _)); exact qfm.out⟩, ⟨by repeat (first | (with_reducible first | exact HB.out | apply qg | apply qd | apply qh | refine ql ?_ qgm.out) | exact HB.out)⟩⟩
             case rest =>
              clear HC60
              (try clear c2); (try clear p2); (try clear c3); (try clear c4); (try clear c5); (try clear c6); (try clear c29); (try clear c31); (try clear c31b0); (try clear c31b1); (try clear c32); (try clear c32b0); (try clear c34); (try clear c34b0); (try clear c36); (try clear c36b0); (try clear c38); (try clear c38b0); (try clear c40); (try clear c40b0); (try clear c40b1); (try clear c41); (try clear c41b0); (try clear c43); (try clear c43b0); (try clear c43b1); (try clear c47); (try clear c47b0); (try clear c47b1); (try clear c48); (try clear c48b0); (try clear c50); (try clear c50b0); (try clear c52); (try clear c52b0); (try clear c52b1); (try clear c55); (try clear c55b0); (try clear c55b1); (try clear c56); (try clear c56b0); (try clear c56b1); (try clear c61); (try clear c61b0); (try clear c61b1); (try clear c63); (try clear c63b0); (try clear c63b1); (try clear qs2 qsn qr6 qpt q5s q2r q4n q11 q1p q0w); (try clear q3s q2l q6k q0e qzs q34 q6a q0l q1u q0g); (try clear qvp qvi qu8 qv9 qbdf qbei qbaq qbdy q8q qbba); (try clear qbdi qben q95 qbda q7a qbd7 q7x qba1 q8p qbek); (try clear qba4 qbbu qbcf qbd3 qba8 q7n qbae qbce q8d qbds); (try clear qrn qsj qsu qty q2j q6j q53 q1f q4t q0t); (try clear qbd1 qba3 qbby q74 qba0 qbeh qbbd qbbc q82 qbdk); (try clear qwe qwb qu4 quk qbc5 q90 q9y q7b q7k q9o); (try clear qu2 qvk qub qv3 q73 qbdx q93 qbat qbeq q68); (try clear qnb qmx qnc qni qbci q9s q70 q92 qbbr qbdh); (try clear q69 qbcz q86 q9k q8k q8z q79 q8x qba6 qbao); (try clear qu0 qut qun qua q7i q9g q85 q76 qbcw q9d); (try clear qbee qbcx qbcq qbdp q9a qbbk qbcr qbb0 q7z qbb1); (try clear q7r qbc7 qbed qbak qbdg q7c qbcj qbc2 qbal q8y); (try clear qt5 qv6 qv8 qvn qbbf q71 qbeg qbdn qbb2 qbas); (try clear qbg9 qbg0 qbj6 qbh1 qbk3 qbhe qbit qbir qbjg qbie); (try clear qx2 qx5 qyu qyb qbjn qbix qbin qbgk qbkx qbhz); (try clear qbk5 qbko qbjp qbif qbkm qbf0 qbjw qbh2 qbid qbf5); (try clear qlg qlf qlm qlk qli qld); (try clear qh4 qhu qh7 qhx qpc qpe qpd qpf qpa qpb); (try clear qlu qmg ql6 ql5 qkn qk0 qkr qki qla qk2); (try clear qk1 qk3 qkh qkc qk9 qke qkf qkw qko qkz); (try clear qg0 qgx qgz qgy qi6 qjh qi4 qjf qje qi8); (try clear qhb qg8 qhe qhc qiq qiu qip qii qim qis); (try clear qjp qka qjn qj7 qjy qju qj4 qj5 qjz qjo); (try clear qhv qh2 qh6 qh0 qj3 qj0 qjt qjv qj6 qj9); (try clear qkm qkt qkx qk6 qol qor qnp qoh qo2 qo4); (try clear qnx qn5 qot qnq qoc qn9 qou qoj qnn qod); (try clear qmf qmk qmn qmd qtn qqb qts qpw qpk qs7); (try clear qqn qtp qsa qtv qpx qq2 qq0 qq6 qsr qqo); (try clear qsk qrd qse qq1 qte qtf qqx qr4 qqv qr9); (try clear qk4 qlc qlb qkv qnr qoz qn0 qo0 qoo qnt); (try clear qr3 qrt qq7 qs9 qtb qqd qsh qqe qs4 qto); (try clear qmh qls qlw qmj qp1 qpm qsy qs5 qrv qso); (try clear qlr ql7 qlt ql2 qpp qpq qs3 qtg qps qth); (try clear qji qi3 qi9 qjc qtk qsc qst qsw qqq qrm); (try clear qru qqm qsl qp3 qqu qqi qqj qrx qsf qro); (try clear ql1 qmi qlq ql4 qrw qrj qtu qqr qs6 qti); (try clear qp5 qs0 qq8 qtz qp7 qqz qp0 qtj qq3 qrs); (try clear qr5 qs8 qp4 qpg qph qtm qpz qrg qpr qrk); (try clear qmb qmm qly qlx qqa qq4 qrz qr8 qp9 qr7); (try clear qt9 qv7 qvs quw qve qv5 qv2 qwa qva quf); (try clear qne qm7 qms qmu qvw qvt qvo qud qur quq); (try clear qwc qu7 qux qvx qt4 qvz quz qug qvy quc); (try clear qhj qhl qhm qhk qi2 qix qi0 qi1 qiy qiz); (try clear qhd qg9 qhf qha qlh qln qlo qll qle qlj); (try clear p2)
              obtain ⟨kq, qbjb, rfl, HA, HJ59, qfm, HB⟩ := hcut
              cases kq with
              | zero => exact absurd HA.out (by simp [qf.j5])
              | succ kj59 =>
               have H := HA.out
               clear HA
               simp only [qf.j5] at H
               have HC66 := qc.mk H
               clear H
               go_upto_region 15 with (fail)
               go_cut [9] (fun v9 wc => ∃ (kq : Nat) (q49 : Bool), v9 = .bool q49 ∧ qc (qf.j6 kq a1 (l0_8.length : Int) qbjb q49 a0_0 a0_1 a0_2 a0_3 a0_4 a0_5 a0_6 l0_7 l0_8 l0_9 = some r) ∧ qc (kq ≤ kj59) ∧ qc (wc.heap[qfn]? = some (.cells #[.int .i64 a0_0, .int .i64 a0_1, .int .i64 a0_2, .string a0_3, .int .i64 a0_4, .int .i64 a0_5, .string a0_6, (.slice A0_7 l0_7.length c0_7), (.slice A0_8 l0_8.length c0_8), (.slice A0_9 l0_9.length c0_9)] 30 (0, 0))) ∧ qc (Below w.heap.size w wc))
               case first =>
                as_aux_lemma =>
                 have H := HC66.out
                 clear HC66
                 by_cases c67 : a0_0 = 7
                 ·rw [if_pos c67] at H
                  have c67b0 : (a0_0 == 7) = true := beq_iff_eq.mpr c67
                  have c67b1 : (a0_0 != 7) = false := bne_eq_false_iff_eq.mpr c67
                  clear c67
                  (first | rw [c67b0] | (simp only [i64_w, i32_w]; rw [c67b0]) | skip)
                  have H' := qc.mk H
                  clear H
                  have qbh0 : wc.cell? ⟨qfn, 0, none⟩ = some (.int .i64 a0_0) := (qb qfm.out 0).trans rfl
                  have qbj0 : wc.cell? ⟨qfn, 1, none⟩ = some (.int .i64 a0_1) := (qb qfm.out 1).trans rfl
                  have qbhh : wc.cell? ⟨qfn, 2, none⟩ = some (.int .i64 a0_2) := (qb qfm.out 2).trans rfl
                  have qbhy : wc.cell? ⟨qfn, 3, none⟩ = some (.string a0_3) := (qb qfm.out 3).trans rfl
                  have qbpy : wc.cell? ⟨qfn, 4, none⟩ = some (.int .i64 a0_4) := (qb qfm.out 4).trans rfl
                  have qbp6 : wc.cell? ⟨qfn, 5, none⟩ = some (.int .i64 a0_5) := (qb qfm.out 5).trans rfl
                  have qbov : wc.cell? ⟨qfn, 6, none⟩ = some (.string a0_6) := (qb qfm.out 6).trans rfl
                  have qbpo : wc.cell? ⟨qfn, 7, none⟩ = some (.slice A0_7 l0_7.length c0_7) := (qb qfm.out 7).trans rfl
                  have qbql : wc.cell? ⟨qfn, 8, none⟩ = some (.slice A0_8 l0_8.length c0_8) := (qb qfm.out 8).trans rfl
                  have qbq3 : wc.cell? ⟨qfn, 9, none⟩ = some (.slice A0_9 l0_9.length c0_9) := (qb qfm.out 9).trans rfl
                  have qui := qa qfm.out 0
                  have qwd := qa qfm.out 1
                  have qvv := qa qfm.out 2
                  have qv4 := qa qfm.out 3
                  have qx4 := qa qfm.out 4
                  have qzg := qa qfm.out 5
                  have qxe := qa qfm.out 6
                  have qx7 := qa qfm.out 7
                  have qzl := qa qfm.out 8
                  have qx6 := qa qfm.out 9
                  go_wp2
                  go_meet
                  case rel => exact ⟨_, (true), (by first | rfl | (simp; done) | (simp [*]; done)), H', ⟨by have := HJ2.out; have := HJ11.out; have := HJ16.out; have := HJ20.out; have := HJ29.out; have := HJ59.out; first | omega | exact Nat.le_refl _⟩, ⟨by (with_reducible repeat (first | refine qj ?_ _ | refine qm ?_ | refine qi ?_ _)); exact qfm.out⟩, ⟨by repeat (first | (with_reducible first | exact HB.out | apply qg | apply qd | apply qh | refine ql ?_ qgm.out) | exact HB.out)⟩⟩
                 ·rw [if_neg c67] at H
                  have c67b0 : (a0_0 == 7) = false := beq_eq_false_iff_ne.mpr c67
                  have c67b1 : (a0_0 != 7) = true := bne_iff_ne.mpr c67
                  (first | rw [c67b0] | (simp only [i64_w, i32_w]; rw [c67b0]) | skip)
                  have H' := qc.mk H
                  clear H
                  have q31 : wc.cell? ⟨qfn, 0, none⟩ = some (.int .i64 a0_0) := (qb qfm.out 0).trans rfl
                  have qzz : wc.cell? ⟨qfn, 1, none⟩ = some (.int .i64 a0_1) := (qb qfm.out 1).trans rfl
                  have q1r : wc.cell? ⟨qfn, 2, none⟩ = some (.int .i64 a0_2) := (qb qfm.out 2).trans rfl
                  have q5o : wc.cell? ⟨qfn, 3, none⟩ = some (.string a0_3) := (qb qfm.out 3).trans rfl
                  have qbqv : wc.cell? ⟨qfn, 4, none⟩ = some (.int .i64 a0_4) := (qb qfm.out 4).trans rfl
                  have qbp4 : wc.cell? ⟨qfn, 5, none⟩ = some (.int .i64 a0_5) := (qb qfm.out 5).trans rfl
                  have qbq8 : wc.cell? ⟨qfn, 6, none⟩ = some (.string a0_6) := (qb qfm.out 6).trans rfl
                  have qbq9 : wc.cell? ⟨qfn, 7, none⟩ = some (.slice A0_7 l0_7.length c0_7) := (qb qfm.out 7).trans rfl
                  have qbpa : wc.cell? ⟨qfn, 8, none⟩ = some (.slice A0_8 l0_8.length c0_8) := (qb qfm.out 8).trans rfl
                  have qbqt : wc.cell? ⟨qfn, 9, none⟩ = some (.slice A0_9 l0_9.length c0_9) := (qb qfm.out 9).trans rfl
                  have qo1 := qa qfm.out 0
                  have qnu := qa qfm.out 1
                  have qom := qa qfm.out 2
                  have qnm := qa qfm.out 3
                  have qw6 := qa qfm.out 4
                  have qyk := qa qfm.out 5
                  have qw4 := qa qfm.out 6
                  have qy4 := qa qfm.out 7
                  have qyp := qa qfm.out 8
                  have qyj := qa qfm.out 9
                  go_wp2
                  go_meet
                  case rel => exact ⟨_, ((a0_0 == 8)), (by first | rfl | (simp; done) | (simp [*]; done)), H', ⟨by have := HJ2.out; have := HJ11.out; have := HJ16.out; have := HJ20.out; have := HJ29.out; have := HJ59.out; first | omega | exact Nat.le_refl _⟩, ⟨by (with_reducible repeat (first | refine qj ?_ _ | refine qm ?_ | refine qi ?_ _)); exact qfm.out⟩, ⟨by repeat (first | (with_reducible first | exact HB.out | apply qg | apply qd | apply qh | refine ql ?_ qgm.out) | exact HB.out)⟩⟩
               case rest =>
                clear HC66
                (try clear c2); (try clear p2); (try clear c3); (try clear c4); (try clear c5); (try clear c6); (try clear c29); (try clear c31); (try clear c31b0); (try clear c31b1); (try clear c32); (try clear c32b0); (try clear c34); (try clear c34b0); (try clear c36); (try clear c36b0); (try clear c38); (try clear c38b0); (try clear c40); (try clear c40b0); (try clear c40b1); (try clear c41); (try clear c41b0); (try clear c43); (try clear c43b0); (try clear c43b1); (try clear c47); (try clear c47b0); (try clear c47b1); (try clear c48); (try clear c48b0); (try clear c50); (try clear c50b0); (try clear c52); (try clear c52b0); (try clear c52b1); (try clear c55); (try clear c55b0); (try clear c55b1); (try clear c56); (try clear c56b0); (try clear c56b1); (try clear c61); (try clear c61b0); (try clear c61b1); (try clear c63); (try clear c63b0); (try clear c63b1); (try clear c67); (try clear c67b0); (try clear c67b1); (try clear qs2 qsn qr6 qpt q5s q2r q4n q11 q1p q0w); (try clear q3s q2l q6k q0e qzs q34 q6a q0l q1u q0g); (try clear qvp qvi qu8 qv9 qbdf qbei qbaq qbdy q8q qbba); (try clear qbdi qben q95 qbda q7a qbd7 q7x qba1 q8p qbek); (try clear qba4 qbbu qbcf qbd3 qba8 q7n qbae qbce q8d qbds); (try clear qrn qsj qsu qty q2j q6j q53 q1f q4t q0t); (try clear qbd1 qba3 qbby q74 qba0 qbeh qbbd qbbc q82 qbdk); (try clear qwe qwb qu4 quk qbc5 q90 q9y q7b q7k q9o); (try clear qu2 qvk qub qv3 q73 qbdx q93 qbat qbeq q68); (try clear qnb qmx qnc qni qbci q9s q70 q92 qbbr qbdh); (try clear q69 qbcz q86 q9k q8k q8z q79 q8x qba6 qbao); (try clear qu0 qut qun qua q7i q9g q85 q76 qbcw q9d); (try clear qbee qbcx qbcq qbdp q9a qbbk qbcr qbb0 q7z qbb1); (try clear q7r qbc7 qbed qbak qbdg q7c qbcj qbc2 qbal q8y); (try clear qt5 qv6 qv8 qvn qbbf q71 qbeg qbdn qbb2 qbas); (try clear qbg9 qbg0 qbj6 qbh1 qbk3 qbhe qbit qbir qbjg qbie); (try clear qx2 qx5 qyu qyb qbjn qbix qbin qbgk qbkx qbhz); (try clear qbk5 qbko qbjp qbif qbkm qbf0 qbjw qbh2 qbid qbf5); (try clear qbh0 qbj0 qbhh qbhy qbpy qbp6 qbov qbpo qbql qbq3); (try clear q31 qzz q1r q5o qbqv qbp4 qbq8 qbq9 qbpa qbqt); (try clear qlg qlf qlm qlk qli qld); (try clear qh4 qhu qh7 qhx qpc qpe qpd qpf qpa qpb); (try clear qlu qmg ql6 ql5 qkn qk0 qkr qki qla qk2); (try clear qk1 qk3 qkh qkc qk9 qke qkf qkw qko qkz); (try clear qg0 qgx qgz qgy qi6 qjh qi4 qjf qje qi8); (try clear qhb qg8 qhe qhc qiq qiu qip qii qim qis); (try clear qjp qka qjn qj7 qjy qju qj4 qj5 qjz qjo); (try clear qhv qh2 qh6 qh0 qj3 qj0 qjt qjv qj6 qj9); (try clear qkm qkt qkx qk6 qol qor qnp qoh qo2 qo4); (try clear qnx qn5 qot qnq qoc qn9 qou qoj qnn qod); (try clear qmf qmk qmn qmd qtn qqb qts qpw qpk qs7); (try clear qqn qtp qsa qtv qpx qq2 qq0 qq6 qsr qqo); (try clear qsk qrd qse qq1 qte qtf qqx qr4 qqv qr9); (try clear qk4 qlc qlb qkv qnr qoz qn0 qo0 qoo qnt); (try clear qr3 qrt qq7 qs9 qtb qqd qsh qqe qs4 qto); (try clear qmh qls qlw qmj qp1 qpm qsy qs5 qrv qso); (try clear qlr ql7 qlt ql2 qpp qpq qs3 qtg qps qth); (try clear qji qi3 qi9 qjc qtk qsc qst qsw qqq qrm); (try clear qru qqm qsl qp3 qqu qqi qqj qrx qsf qro); (try clear ql1 qmi qlq ql4 qrw qrj qtu qqr qs6 qti); (try clear qp5 qs0 qq8 qtz qp7 qqz qp0 qtj qq3 qrs); (try clear qr5 qs8 qp4 qpg qph qtm qpz qrg qpr qrk); (try clear qmb qmm qly qlx qqa qq4 qrz qr8 qp9 qr7); (try clear qt9 qv7 qvs quw qve qv5 qv2 qwa qva quf); (try clear qne qm7 qms qmu qvw qvt qvo qud qur quq); (try clear qwc qu7 qux qvx qt4 qvz quz qug qvy quc); (try clear qui qwd qvv qv4 qx4 qzg qxe qx7 qzl qx6); (try clear qo1 qnu qom qnm qw6 qyk qw4 qy4 qyp qyj); (try clear qhj qhl qhm qhk qi2 qix qi0 qi1 qiy qiz); (try clear qhd qg9 qhf qha qlh qln qlo qll qle qlj); (try clear p2)
                obtain ⟨kq, q49, rfl, HA, HJ65, qfm, HB⟩ := hcut
                cases kq with
                | zero => exact absurd HA.out (by simp [qf.j6])
                | succ kj65 =>
                 have H := HA.out
                 clear HA
                 simp only [qf.j6] at H
                 have HC70 := qc.mk H
                 clear H
                 go_upto_region 16 with (fail)
                 go_cut [195] (fun v195 wc => ∃ (kq : Nat) (q5w : Bool), v195 = .bool q5w ∧ qc (qf.j7 kq a1 (l0_8.length : Int) q5w a0_0 a0_1 a0_2 a0_3 a0_4 a0_5 a0_6 l0_7 l0_8 l0_9 = some r) ∧ qc (kq ≤ kj65) ∧ qc (wc.heap[qfn]? = some (.cells #[.int .i64 a0_0, .int .i64 a0_1, .int .i64 a0_2, .string a0_3, .int .i64 a0_4, .int .i64 a0_5, .string a0_6, (.slice A0_7 l0_7.length c0_7), (.slice A0_8 l0_8.length c0_8), (.slice A0_9 l0_9.length c0_9)] 30 (0, 0))) ∧ qc (Below w.heap.size w wc))
                 case first =>
                  as_aux_lemma =>
                   have H := HC70.out
                   clear HC70
                   by_cases c71 : qbjb = true
                   ·subst c71
                    have H1 : ((qbg.f kj65 a0_3).bind fun t222 => (if t222 = true then (if q49 = true then ((qbd.f kj65 a0_4 a0_5 a0_6 l0_7).bind fun t223 => (if t223 = true then (qf.j7 kj65 a1 (l0_8.length : Int) false a0_0 a0_1 a0_2 a0_3 a0_4 a0_5 a0_6 l0_7 l0_8 l0_9) else (qf.j7 kj65 a1 (l0_8.length : Int) true a0_0 a0_1 a0_2 a0_3 a0_4 a0_5 a0_6 l0_7 l0_8 l0_9))) else ((qbm.f kj65 a0_4 a0_5 a0_6 l0_7).bind fun t224 => (qf.j7 kj65 a1 (l0_8.length : Int) (!t224) a0_0 a0_1 a0_2 a0_3 a0_4 a0_5 a0_6 l0_7 l0_8 l0_9))) else (qf.j7 kj65 a1 (l0_8.length : Int) true a0_0 a0_1 a0_2 a0_3 a0_4 a0_5 a0_6 l0_7 l0_8 l0_9))) = some r := by rw [if_pos rfl] at H; exact H
                    clear H
                    have H := H1
                    clear H1
                    replace H := Option.bind_eq_some_iff.mp H
                    obtain ⟨t222, A720, H⟩ := H
                    replace H : (if t222 = true then (if q49 = true then ((qbd.f kj65 a0_4 a0_5 a0_6 l0_7).bind fun t223 => (if t223 = true then (qf.j7 kj65 a1 (l0_8.length : Int) false a0_0 a0_1 a0_2 a0_3 a0_4 a0_5 a0_6 l0_7 l0_8 l0_9) else (qf.j7 kj65 a1 (l0_8.length : Int) true a0_0 a0_1 a0_2 a0_3 a0_4 a0_5 a0_6 l0_7 l0_8 l0_9))) else ((qbm.f kj65 a0_4 a0_5 a0_6 l0_7).bind fun t224 => (qf.j7 kj65 a1 (l0_8.length : Int) (!t224) a0_0 a0_1 a0_2 a0_3 a0_4 a0_5 a0_6 l0_7 l0_8 l0_9))) else (qf.j7 kj65 a1 (l0_8.length : Int) true a0_0 a0_1 a0_2 a0_3 a0_4 a0_5 a0_6 l0_7 l0_8 l0_9)) = some r := H
                    have A72 := qc.mk A720
                    clear A720
                    by_cases c73 : t222 = true
                    ·subst c73
                     have H1 : (if q49 = true then ((qbd.f kj65 a0_4 a0_5 a0_6 l0_7).bind fun t223 => (if t223 = true then (qf.j7 kj65 a1 (l0_8.length : Int) false a0_0 a0_1 a0_2 a0_3 a0_4 a0_5 a0_6 l0_7 l0_8 l0_9) else (qf.j7 kj65 a1 (l0_8.length : Int) true a0_0 a0_1 a0_2 a0_3 a0_4 a0_5 a0_6 l0_7 l0_8 l0_9))) else ((qbm.f kj65 a0_4 a0_5 a0_6 l0_7).bind fun t224 => (qf.j7 kj65 a1 (l0_8.length : Int) (!t224) a0_0 a0_1 a0_2 a0_3 a0_4 a0_5 a0_6 l0_7 l0_8 l0_9))) = some r := by rw [if_pos rfl] at H; exact H
                     clear H
                     have H := H1
                     clear H1
                     by_cases c74 : q49 = true
                     ·subst c74
                      have H1 : ((qbd.f kj65 a0_4 a0_5 a0_6 l0_7).bind fun t223 => (if t223 = true then (qf.j7 kj65 a1 (l0_8.length : Int) false a0_0 a0_1 a0_2 a0_3 a0_4 a0_5 a0_6 l0_7 l0_8 l0_9) else (qf.j7 kj65 a1 (l0_8.length : Int) true a0_0 a0_1 a0_2 a0_3 a0_4 a0_5 a0_6 l0_7 l0_8 l0_9))) = some r := by rw [if_pos rfl] at H; exact H
                      clear H
                      have H := H1
                      clear H1
                      replace H := Option.bind_eq_some_iff.mp H
                      obtain ⟨t223, A750, H⟩ := H
                      replace H : (if t223 = true then (qf.j7 kj65 a1 (l0_8.length : Int) false a0_0 a0_1 a0_2 a0_3 a0_4 a0_5 a0_6 l0_7 l0_8 l0_9) else (qf.j7 kj65 a1 (l0_8.length : Int) true a0_0 a0_1 a0_2 a0_3 a0_4 a0_5 a0_6 l0_7 l0_8 l0_9)) = some r := H
                      have A75 := qc.mk A750
                      clear A750
                      by_cases c76 : t223 = true
                      ·subst c76
                       have H1 : (qf.j7 kj65 a1 (l0_8.length : Int) false a0_0 a0_1 a0_2 a0_3 a0_4 a0_5 a0_6 l0_7 l0_8 l0_9) = some r := by rw [if_pos rfl] at H; exact H
                       clear H
                       have H := H1
                       clear H1
                       have H' := qc.mk H
                       clear H
                       have qbqq : wc.cell? ⟨qfn, 0, none⟩ = some (.int .i64 a0_0) := (qb qfm.out 0).trans rfl
                       have qbpg : wc.cell? ⟨qfn, 1, none⟩ = some (.int .i64 a0_1) := (qb qfm.out 1).trans rfl
                       have qbqd : wc.cell? ⟨qfn, 2, none⟩ = some (.int .i64 a0_2) := (qb qfm.out 2).trans rfl
                       have qboy : wc.cell? ⟨qfn, 3, none⟩ = some (.string a0_3) := (qb qfm.out 3).trans rfl
                       have qbc3 : wc.cell? ⟨qfn, 4, none⟩ = some (.int .i64 a0_4) := (qb qfm.out 4).trans rfl
                       have qbar : wc.cell? ⟨qfn, 5, none⟩ = some (.int .i64 a0_5) := (qb qfm.out 5).trans rfl
                       have qbah : wc.cell? ⟨qfn, 6, none⟩ = some (.string a0_6) := (qb qfm.out 6).trans rfl
                       have qbb5 : wc.cell? ⟨qfn, 7, none⟩ = some (.slice A0_7 l0_7.length c0_7) := (qb qfm.out 7).trans rfl
                       have q78 : wc.cell? ⟨qfn, 8, none⟩ = some (.slice A0_8 l0_8.length c0_8) := (qb qfm.out 8).trans rfl
                       have q8t : wc.cell? ⟨qfn, 9, none⟩ = some (.slice A0_9 l0_9.length c0_9) := (qb qfm.out 9).trans rfl
                       have q4b := qa qfm.out 0
                       have q1t := qa qfm.out 1
                       have q5y := qa qfm.out 2
                       have q5n := qa qfm.out 3
                       have q4s := qa qfm.out 4
                       have q6h := qa qfm.out 5
                       have q4d := qa qfm.out 6
                       have q0m := qa qfm.out 7
                       have q0f := qa qfm.out 8
                       have q2e := qa qfm.out 9
                       go_wp2_with (first | (go_at_call 21; (with_reducible refine (qbg.calls kj65 a0_3 true _ A72.out).mono ?_); rintro e w78 ⟨rfl, hb⟩; have n0_ := qc.mk (qbb (g := qfn) (o := .cells #[.int .i64 a0_0, .int .i64 a0_1, .int .i64 a0_2, .string a0_3, .int .i64 a0_4, .int .i64 a0_5, .string a0_6, .slice A0_7 l0_7.length c0_7, .slice A0_8 l0_8.length c0_8, .slice A0_9 l0_9.length c0_9] 30 (0, 0)) (by (with_reducible repeat (first | refine qj ?_ _ | refine qm ?_ | refine qi ?_ _)); exact qfm.out) hb); have n1_ := qc.mk (q9 (by repeat (first | (with_reducible first | exact HB.out | apply qg | apply qd | apply qh | refine ql ?_ qgm.out) | exact HB.out)) hb); clear qfm; clear HB; have qfm := n0_; have HB := n1_; clear n0_ n1_; (try clear hb); (try clear hb2); (try clear hk); (try clear hi); have qbco : w78.cell? ⟨qfn, 0, none⟩ = some (.int .i64 a0_0) := (qb qfm.out 0).trans rfl; have qbeo : w78.cell? ⟨qfn, 1, none⟩ = some (.int .i64 a0_1) := (qb qfm.out 1).trans rfl; have qbb7 : w78.cell? ⟨qfn, 2, none⟩ = some (.int .i64 a0_2) := (qb qfm.out 2).trans rfl; have qbc4 : w78.cell? ⟨qfn, 3, none⟩ = some (.string a0_3) := (qb qfm.out 3).trans rfl; have q8g : w78.cell? ⟨qfn, 4, none⟩ = some (.int .i64 a0_4) := (qb qfm.out 4).trans rfl; have qbap : w78.cell? ⟨qfn, 5, none⟩ = some (.int .i64 a0_5) := (qb qfm.out 5).trans rfl; have qbaa : w78.cell? ⟨qfn, 6, none⟩ = some (.string a0_6) := (qb qfm.out 6).trans rfl; have qba9 : w78.cell? ⟨qfn, 7, none⟩ = some (.slice A0_7 l0_7.length c0_7) := (qb qfm.out 7).trans rfl; have q7j : w78.cell? ⟨qfn, 8, none⟩ = some (.slice A0_8 l0_8.length c0_8) := (qb qfm.out 8).trans rfl; have q7y : w78.cell? ⟨qfn, 9, none⟩ = some (.slice A0_9 l0_9.length c0_9) := (qb qfm.out 9).trans rfl; have q3y := qa qfm.out 0; have q2y := qa qfm.out 1; have qz3 := qa qfm.out 2; have q4y := qa qfm.out 3; have qzu := qa qfm.out 4; have q6g := qa qfm.out 5; have q3t := qa qfm.out 6; have q26 := qa qfm.out 7; have q0j := qa qfm.out 8; have q0c := qa qfm.out 9) | (go_at_call 22; (with_reducible refine (qbd.calls kj65 a0_4 a0_5 a0_6 _ _ l0_7 true _ ?side1 ?side2 A75.out).mono ?_); (case side1 => repeat (first | exact (Kd.qbw qnk.out HB.out) | (with_reducible refine Kd.qb3 ?_ _) | (with_reducible refine Kd.qb1 ?_ _) | (with_reducible refine Kd.qb7 ?_))); (case side2 => exact qnj.out); rintro e w80 ⟨rfl, hb⟩; have n0_ := qc.mk (qbb (g := qfn) (o := .cells #[.int .i64 a0_0, .int .i64 a0_1, .int .i64 a0_2, .string a0_3, .int .i64 a0_4, .int .i64 a0_5, .string a0_6, .slice A0_7 l0_7.length c0_7, .slice A0_8 l0_8.length c0_8, .slice A0_9 l0_9.length c0_9] 30 (0, 0)) (by (with_reducible repeat (first | refine qj ?_ _ | refine qm ?_ | refine qi ?_ _)); exact qfm.out) hb); have n1_ := qc.mk (q9 (by repeat (first | (with_reducible first | exact HB.out | apply qg | apply qd | apply qh | refine ql ?_ qgm.out) | exact HB.out)) hb); clear qfm; clear HB; have qfm := n0_; have HB := n1_; clear n0_ n1_; (try clear hb); (try clear hb2); (try clear hk); (try clear hi)))
                       go_meet
                       case rel => exact ⟨_, (false), (by first | rfl | (simp; done) | (simp [*]; done)), H', ⟨by have := HJ2.out; have := HJ11.out; have := HJ16.out; have := HJ20.out; have := HJ29.out; have := HJ59.out; have := HJ65.out; first | omega | exact Nat.le_refl _⟩, ⟨by (with_reducible repeat (first | refine qj ?_ _ | refine qm ?_ | refine qi ?_ _)); exact qfm.out⟩, ⟨by repeat (first | (with_reducible first | exact HB.out | apply qg | apply qd | apply qh | refine ql ?_ qgm.out) | exact HB.out)⟩⟩
                      ·replace c76 := Bool.eq_false_iff.mpr c76
                       subst c76
                       have H1 : (qf.j7 kj65 a1 (l0_8.length : Int) true a0_0 a0_1 a0_2 a0_3 a0_4 a0_5 a0_6 l0_7 l0_8 l0_9) = some r := by rw [if_neg (show ¬ (false = true) by decide)] at H; exact H
                       clear H
                       have H := H1
                       clear H1
                       have H' := qc.mk H
                       clear H
                       have qbb6 : wc.cell? ⟨qfn, 0, none⟩ = some (.int .i64 a0_0) := (qb qfm.out 0).trans rfl
                       have q8h : wc.cell? ⟨qfn, 1, none⟩ = some (.int .i64 a0_1) := (qb qfm.out 1).trans rfl
                       have qbc1 : wc.cell? ⟨qfn, 2, none⟩ = some (.int .i64 a0_2) := (qb qfm.out 2).trans rfl
                       have qbep : wc.cell? ⟨qfn, 3, none⟩ = some (.string a0_3) := (qb qfm.out 3).trans rfl
                       have q9r : wc.cell? ⟨qfn, 4, none⟩ = some (.int .i64 a0_4) := (qb qfm.out 4).trans rfl
                       have qbbx : wc.cell? ⟨qfn, 5, none⟩ = some (.int .i64 a0_5) := (qb qfm.out 5).trans rfl
                       have q8w : wc.cell? ⟨qfn, 6, none⟩ = some (.string a0_6) := (qb qfm.out 6).trans rfl
                       have q75 : wc.cell? ⟨qfn, 7, none⟩ = some (.slice A0_7 l0_7.length c0_7) := (qb qfm.out 7).trans rfl
                       have qbay : wc.cell? ⟨qfn, 8, none⟩ = some (.slice A0_8 l0_8.length c0_8) := (qb qfm.out 8).trans rfl
                       have qbdl : wc.cell? ⟨qfn, 9, none⟩ = some (.slice A0_9 l0_9.length c0_9) := (qb qfm.out 9).trans rfl
                       have q5d := qa qfm.out 0
                       have q41 := qa qfm.out 1
                       have q3m := qa qfm.out 2
                       have q46 := qa qfm.out 3
                       have q5j := qa qfm.out 4
                       have q1y := qa qfm.out 5
                       have q05 := qa qfm.out 6
                       have q0o := qa qfm.out 7
                       have q0h := qa qfm.out 8
                       have qzr := qa qfm.out 9
                       go_wp2_with (first | (go_at_call 21; (with_reducible refine (qbg.calls kj65 a0_3 true _ A72.out).mono ?_); rintro e w82 ⟨rfl, hb⟩; have n0_ := qc.mk (qbb (g := qfn) (o := .cells #[.int .i64 a0_0, .int .i64 a0_1, .int .i64 a0_2, .string a0_3, .int .i64 a0_4, .int .i64 a0_5, .string a0_6, .slice A0_7 l0_7.length c0_7, .slice A0_8 l0_8.length c0_8, .slice A0_9 l0_9.length c0_9] 30 (0, 0)) (by (with_reducible repeat (first | refine qj ?_ _ | refine qm ?_ | refine qi ?_ _)); exact qfm.out) hb); have n1_ := qc.mk (q9 (by repeat (first | (with_reducible first | exact HB.out | apply qg | apply qd | apply qh | refine ql ?_ qgm.out) | exact HB.out)) hb); clear qfm; clear HB; have qfm := n0_; have HB := n1_; clear n0_ n1_; (try clear hb); (try clear hb2); (try clear hk); (try clear hi); have qbd6 : w82.cell? ⟨qfn, 0, none⟩ = some (.int .i64 a0_0) := (qb qfm.out 0).trans rfl; have qbc6 : w82.cell? ⟨qfn, 1, none⟩ = some (.int .i64 a0_1) := (qb qfm.out 1).trans rfl; have qbcl : w82.cell? ⟨qfn, 2, none⟩ = some (.int .i64 a0_2) := (qb qfm.out 2).trans rfl; have qbca : w82.cell? ⟨qfn, 3, none⟩ = some (.string a0_3) := (qb qfm.out 3).trans rfl; have qbbh : w82.cell? ⟨qfn, 4, none⟩ = some (.int .i64 a0_4) := (qb qfm.out 4).trans rfl; have q81 : w82.cell? ⟨qfn, 5, none⟩ = some (.int .i64 a0_5) := (qb qfm.out 5).trans rfl; have qbcg : w82.cell? ⟨qfn, 6, none⟩ = some (.string a0_6) := (qb qfm.out 6).trans rfl; have q9n : w82.cell? ⟨qfn, 7, none⟩ = some (.slice A0_7 l0_7.length c0_7) := (qb qfm.out 7).trans rfl; have q8e : w82.cell? ⟨qfn, 8, none⟩ = some (.slice A0_8 l0_8.length c0_8) := (qb qfm.out 8).trans rfl; have qbaz : w82.cell? ⟨qfn, 9, none⟩ = some (.slice A0_9 l0_9.length c0_9) := (qb qfm.out 9).trans rfl; have q45 := qa qfm.out 0; have q6f := qa qfm.out 1; have q23 := qa qfm.out 2; have q2x := qa qfm.out 3; have q4q := qa qfm.out 4; have q38 := qa qfm.out 5; have q57 := qa qfm.out 6; have q13 := qa qfm.out 7; have q3g := qa qfm.out 8; have q1m := qa qfm.out 9) | (go_at_call 22; (with_reducible refine (qbd.calls kj65 a0_4 a0_5 a0_6 _ _ l0_7 false _ ?side1 ?side2 A75.out).mono ?_); (case side1 => repeat (first | exact (Kd.qbw qnk.out HB.out) | (with_reducible refine Kd.qb3 ?_ _) | (with_reducible refine Kd.qb1 ?_ _) | (with_reducible refine Kd.qb7 ?_))); (case side2 => exact qnj.out); rintro e w84 ⟨rfl, hb⟩; have n0_ := qc.mk (qbb (g := qfn) (o := .cells #[.int .i64 a0_0, .int .i64 a0_1, .int .i64 a0_2, .string a0_3, .int .i64 a0_4, .int .i64 a0_5, .string a0_6, .slice A0_7 l0_7.length c0_7, .slice A0_8 l0_8.length c0_8, .slice A0_9 l0_9.length c0_9] 30 (0, 0)) (by (with_reducible repeat (first | refine qj ?_ _ | refine qm ?_ | refine qi ?_ _)); exact qfm.out) hb); have n1_ := qc.mk (q9 (by repeat (first | (with_reducible first | exact HB.out | apply qg | apply qd | apply qh | refine ql ?_ qgm.out) | exact HB.out)) hb); clear qfm; clear HB; have qfm := n0_; have HB := n1_; clear n0_ n1_; (try clear hb); (try clear hb2); (try clear hk); (try clear hi)))
                       go_meet
                       case rel => exact ⟨_, (true), (by first | rfl | (simp; done) | (simp [*]; done)), H', ⟨by have := HJ2.out; have := HJ11.out; have := HJ16.out; have := HJ20.out; have := HJ29.out; have := HJ59.out; have := HJ65.out; first | omega | exact Nat.le_refl _⟩, ⟨by (with_reducible repeat (first | refine qj ?_ _ | refine qm ?_ | refine qi ?_ _)); exact qfm.out⟩, ⟨by repeat (first | (with_reducible first | exact HB.out | apply qg | apply qd | apply qh | refine ql ?_ qgm.out) | exact HB.out)⟩⟩
                     ·replace c74 := Bool.eq_false_iff.mpr c74
                      subst c74
                      have H1 : ((qbm.f kj65 a0_4 a0_5 a0_6 l0_7).bind fun t224 => (qf.j7 kj65 a1 (l0_8.length : Int) (!t224) a0_0 a0_1 a0_2 a0_3 a0_4 a0_5 a0_6 l0_7 l0_8 l0_9)) = some r := by rw [if_neg (show ¬ (false = true) by decide)] at H; exact H
                      clear H
                      have H := H1
                      clear H1
                      replace H := Option.bind_eq_some_iff.mp H
                      obtain ⟨t224, A850, H⟩ := H
                      replace H : (qf.j7 kj65 a1 (l0_8.length : Int) (!t224) a0_0 a0_1 a0_2 a0_3 a0_4 a0_5 a0_6 l0_7 l0_8 l0_9) = some r := H
                      have A85 := qc.mk A850
                      clear A850
                      have H' := qc.mk H
                      clear H
                      have q8o : wc.cell? ⟨qfn, 0, none⟩ = some (.int .i64 a0_0) := (qb qfm.out 0).trans rfl
                      have qbbb : wc.cell? ⟨qfn, 1, none⟩ = some (.int .i64 a0_1) := (qb qfm.out 1).trans rfl
                      have q77 : wc.cell? ⟨qfn, 2, none⟩ = some (.int .i64 a0_2) := (qb qfm.out 2).trans rfl
                      have q8l : wc.cell? ⟨qfn, 3, none⟩ = some (.string a0_3) := (qb qfm.out 3).trans rfl
                      have q9l : wc.cell? ⟨qfn, 4, none⟩ = some (.int .i64 a0_4) := (qb qfm.out 4).trans rfl
                      have qbcu : wc.cell? ⟨qfn, 5, none⟩ = some (.int .i64 a0_5) := (qb qfm.out 5).trans rfl
                      have q8u : wc.cell? ⟨qfn, 6, none⟩ = some (.string a0_6) := (qb qfm.out 6).trans rfl
                      have q4u : wc.cell? ⟨qfn, 7, none⟩ = some (.slice A0_7 l0_7.length c0_7) := (qb qfm.out 7).trans rfl
                      have q5t : wc.cell? ⟨qfn, 8, none⟩ = some (.slice A0_8 l0_8.length c0_8) := (qb qfm.out 8).trans rfl
                      have q56 : wc.cell? ⟨qfn, 9, none⟩ = some (.slice A0_9 l0_9.length c0_9) := (qb qfm.out 9).trans rfl
                      have q2s := qa qfm.out 0
                      have q6l := qa qfm.out 1
                      have q4a := qa qfm.out 2
                      have q1d := qa qfm.out 3
                      have q2o := qa qfm.out 4
                      have q5h := qa qfm.out 5
                      have q1j := qa qfm.out 6
                      have q5i := qa qfm.out 7
                      have q00 := qa qfm.out 8
                      have q52 := qa qfm.out 9
                      go_wp2_with (first | (go_at_call 21; (with_reducible refine (qbg.calls kj65 a0_3 true _ A72.out).mono ?_); rintro e w87 ⟨rfl, hb⟩; have n0_ := qc.mk (qbb (g := qfn) (o := .cells #[.int .i64 a0_0, .int .i64 a0_1, .int .i64 a0_2, .string a0_3, .int .i64 a0_4, .int .i64 a0_5, .string a0_6, .slice A0_7 l0_7.length c0_7, .slice A0_8 l0_8.length c0_8, .slice A0_9 l0_9.length c0_9] 30 (0, 0)) (by (with_reducible repeat (first | refine qj ?_ _ | refine qm ?_ | refine qi ?_ _)); exact qfm.out) hb); have n1_ := qc.mk (q9 (by repeat (first | (with_reducible first | exact HB.out | apply qg | apply qd | apply qh | refine ql ?_ qgm.out) | exact HB.out)) hb); clear qfm; clear HB; have qfm := n0_; have HB := n1_; clear n0_ n1_; (try clear hb); (try clear hb2); (try clear hk); (try clear hi); have qzt : w87.cell? ⟨qfn, 0, none⟩ = some (.int .i64 a0_0) := (qb qfm.out 0).trans rfl; have q2f : w87.cell? ⟨qfn, 1, none⟩ = some (.int .i64 a0_1) := (qb qfm.out 1).trans rfl; have q2u : w87.cell? ⟨qfn, 2, none⟩ = some (.int .i64 a0_2) := (qb qfm.out 2).trans rfl; have q1x : w87.cell? ⟨qfn, 3, none⟩ = some (.string a0_3) := (qb qfm.out 3).trans rfl; have q5r : w87.cell? ⟨qfn, 4, none⟩ = some (.int .i64 a0_4) := (qb qfm.out 4).trans rfl; have q21 : w87.cell? ⟨qfn, 5, none⟩ = some (.int .i64 a0_5) := (qb qfm.out 5).trans rfl; have q4h : w87.cell? ⟨qfn, 6, none⟩ = some (.string a0_6) := (qb qfm.out 6).trans rfl; have qz6 : w87.cell? ⟨qfn, 7, none⟩ = some (.slice A0_7 l0_7.length c0_7) := (qb qfm.out 7).trans rfl; have q4j : w87.cell? ⟨qfn, 8, none⟩ = some (.slice A0_8 l0_8.length c0_8) := (qb qfm.out 8).trans rfl; have q37 : w87.cell? ⟨qfn, 9, none⟩ = some (.slice A0_9 l0_9.length c0_9) := (qb qfm.out 9).trans rfl; have q47 := qa qfm.out 0; have q5e := qa qfm.out 1; have q6b := qa qfm.out 2; have q5f := qa qfm.out 3; have q2h := qa qfm.out 4; have q1b := qa qfm.out 5; have q3j := qa qfm.out 6; have q10 := qa qfm.out 7; have q4w := qa qfm.out 8; have qz2 := qa qfm.out 9) | (go_at_call 23; (with_reducible refine (qbm.calls kj65 a0_4 a0_5 a0_6 _ _ l0_7 t224 _ ?side1 ?side2 A85.out).mono ?_); (case side1 => repeat (first | exact (Kd.qbw qnk.out HB.out) | (with_reducible refine Kd.qb3 ?_ _) | (with_reducible refine Kd.qb1 ?_ _) | (with_reducible refine Kd.qb7 ?_))); (case side2 => exact qnj.out); rintro e w89 ⟨rfl, hb⟩; have n0_ := qc.mk (qbb (g := qfn) (o := .cells #[.int .i64 a0_0, .int .i64 a0_1, .int .i64 a0_2, .string a0_3, .int .i64 a0_4, .int .i64 a0_5, .string a0_6, .slice A0_7 l0_7.length c0_7, .slice A0_8 l0_8.length c0_8, .slice A0_9 l0_9.length c0_9] 30 (0, 0)) (by (with_reducible repeat (first | refine qj ?_ _ | refine qm ?_ | refine qi ?_ _)); exact qfm.out) hb); have n1_ := qc.mk (q9 (by repeat (first | (with_reducible first | exact HB.out | apply qg | apply qd | apply qh | refine ql ?_ qgm.out) | exact HB.out)) hb); clear qfm; clear HB; have qfm := n0_; have HB := n1_; clear n0_ n1_; (try clear hb); (try clear hb2); (try clear hk); (try clear hi)))
                      go_meet
                      case rel => exact ⟨_, (!t224), (by first | rfl | (simp; done) | (simp [*]; done)), H', ⟨by have := HJ2.out; have := HJ11.out; have := HJ16.out; have := HJ20.out; have := HJ29.out; have := HJ59.out; have := HJ65.out; first | omega | exact Nat.le_refl _⟩, ⟨by (with_reducible repeat (first | refine qj ?_ _ | refine qm ?_ | refine qi ?_ _)); exact qfm.out⟩, ⟨by repeat (first | (with_reducible first | exact HB.out | apply qg | apply qd | apply qh | refine ql ?_ qgm.out) | exact HB.out)⟩⟩
                    ·replace c73 := Bool.eq_false_iff.mpr c73
                     subst c73
                     have H1 : (qf.j7 kj65 a1 (l0_8.length : Int) true a0_0 a0_1 a0_2 a0_3 a0_4 a0_5 a0_6 l0_7 l0_8 l0_9) = some r := by rw [if_neg (show ¬ (false = true) by decide)] at H; exact H
                     clear H
                     have H := H1
                     clear H1
                     have H' := qc.mk H
                     clear H
                     have qz4 : wc.cell? ⟨qfn, 0, none⟩ = some (.int .i64 a0_0) := (qb qfm.out 0).trans rfl
                     have q5k : wc.cell? ⟨qfn, 1, none⟩ = some (.int .i64 a0_1) := (qb qfm.out 1).trans rfl
                     have qz9 : wc.cell? ⟨qfn, 2, none⟩ = some (.int .i64 a0_2) := (qb qfm.out 2).trans rfl
                     have q42 : wc.cell? ⟨qfn, 3, none⟩ = some (.string a0_3) := (qb qfm.out 3).trans rfl
                     have qz0 : wc.cell? ⟨qfn, 4, none⟩ = some (.int .i64 a0_4) := (qb qfm.out 4).trans rfl
                     have q1o : wc.cell? ⟨qfn, 5, none⟩ = some (.int .i64 a0_5) := (qb qfm.out 5).trans rfl
                     have q5q : wc.cell? ⟨qfn, 6, none⟩ = some (.string a0_6) := (qb qfm.out 6).trans rfl
                     have q0x : wc.cell? ⟨qfn, 7, none⟩ = some (.slice A0_7 l0_7.length c0_7) := (qb qfm.out 7).trans rfl
                     have qz8 : wc.cell? ⟨qfn, 8, none⟩ = some (.slice A0_8 l0_8.length c0_8) := (qb qfm.out 8).trans rfl
                     have q3f : wc.cell? ⟨qfn, 9, none⟩ = some (.slice A0_9 l0_9.length c0_9) := (qb qfm.out 9).trans rfl
                     have q4g := qa qfm.out 0
                     have q2t := qa qfm.out 1
                     have q4l := qa qfm.out 2
                     have q06 := qa qfm.out 3
                     have q58 := qa qfm.out 4
                     have q2q := qa qfm.out 5
                     have q27 := qa qfm.out 6
                     have q5p := qa qfm.out 7
                     have q2p := qa qfm.out 8
                     have q4p := qa qfm.out 9
                     go_wp2_with (first | (go_at_call 21; (with_reducible refine (qbg.calls kj65 a0_3 false _ A72.out).mono ?_); rintro e w91 ⟨rfl, hb⟩; have n0_ := qc.mk (qbb (g := qfn) (o := .cells #[.int .i64 a0_0, .int .i64 a0_1, .int .i64 a0_2, .string a0_3, .int .i64 a0_4, .int .i64 a0_5, .string a0_6, .slice A0_7 l0_7.length c0_7, .slice A0_8 l0_8.length c0_8, .slice A0_9 l0_9.length c0_9] 30 (0, 0)) (by (with_reducible repeat (first | refine qj ?_ _ | refine qm ?_ | refine qi ?_ _)); exact qfm.out) hb); have n1_ := qc.mk (q9 (by repeat (first | (with_reducible first | exact HB.out | apply qg | apply qd | apply qh | refine ql ?_ qgm.out) | exact HB.out)) hb); clear qfm; clear HB; have qfm := n0_; have HB := n1_; clear n0_ n1_; (try clear hb); (try clear hb2); (try clear hk); (try clear hi)))
                     go_meet
                     case rel => exact ⟨_, (true), (by first | rfl | (simp; done) | (simp [*]; done)), H', ⟨by have := HJ2.out; have := HJ11.out; have := HJ16.out; have := HJ20.out; have := HJ29.out; have := HJ59.out; have := HJ65.out; first | omega | exact Nat.le_refl _⟩, ⟨by (with_reducible repeat (first | refine qj ?_ _ | refine qm ?_ | refine qi ?_ _)); exact qfm.out⟩, ⟨by repeat (first | (with_reducible first | exact HB.out | apply qg | apply qd | apply qh | refine ql ?_ qgm.out) | exact HB.out)⟩⟩
                   ·replace c71 := Bool.eq_false_iff.mpr c71
                    subst c71
                    have H1 : (if a0_3.toList = ([] : List UInt8) then (if q49 = true then ((qbd.f kj65 a0_4 a0_5 a0_6 l0_7).bind fun t225 => (if t225 = true then (qf.j7 kj65 a1 (l0_8.length : Int) false a0_0 a0_1 a0_2 a0_3 a0_4 a0_5 a0_6 l0_7 l0_8 l0_9) else (qf.j7 kj65 a1 (l0_8.length : Int) true a0_0 a0_1 a0_2 a0_3 a0_4 a0_5 a0_6 l0_7 l0_8 l0_9))) else ((qbm.f kj65 a0_4 a0_5 a0_6 l0_7).bind fun t226 => (qf.j7 kj65 a1 (l0_8.length : Int) (!t226) a0_0 a0_1 a0_2 a0_3 a0_4 a0_5 a0_6 l0_7 l0_8 l0_9))) else (qf.j7 kj65 a1 (l0_8.length : Int) true a0_0 a0_1 a0_2 a0_3 a0_4 a0_5 a0_6 l0_7 l0_8 l0_9)) = some r := by rw [if_neg (show ¬ (false = true) by decide)] at H; exact H
                    clear H
                    have H := H1
                    clear H1
                    by_cases c92 : a0_3.toList = ([] : List UInt8)
                    ·rw [if_pos c92] at H
                     have c92b0 : (a0_3.toList == ([] : List UInt8)) = true := beq_iff_eq.mpr c92
                     have c92b1 : (a0_3.toList != ([] : List UInt8)) = false := bne_eq_false_iff_eq.mpr c92
                     clear c92
                     (first | rw [c92b0] | (simp only [i64_w, i32_w]; rw [c92b0]) | skip)
                     by_cases c93 : q49 = true
                     ·subst c93
                      have H1 : ((qbd.f kj65 a0_4 a0_5 a0_6 l0_7).bind fun t225 => (if t225 = true then (qf.j7 kj65 a1 (l0_8.length : Int) false a0_0 a0_1 a0_2 a0_3 a0_4 a0_5 a0_6 l0_7 l0_8 l0_9) else (qf.j7 kj65 a1 (l0_8.length : Int) true a0_0 a0_1 a0_2 a0_3 a0_4 a0_5 a0_6 l0_7 l0_8 l0_9))) = some r := by rw [if_pos rfl] at H; exact H
                      clear H
                      have H := H1
                      clear H1
                      replace H := Option.bind_eq_some_iff.mp H
                      obtain ⟨t225, A940, H⟩ := H
                      replace H : (if t225 = true then (qf.j7 kj65 a1 (l0_8.length : Int) false a0_0 a0_1 a0_2 a0_3 a0_4 a0_5 a0_6 l0_7 l0_8 l0_9) else (qf.j7 kj65 a1 (l0_8.length : Int) true a0_0 a0_1 a0_2 a0_3 a0_4 a0_5 a0_6 l0_7 l0_8 l0_9)) = some r := H
                      have A94 := qc.mk A940
                      clear A940
                      by_cases c95 : t225 = true
                      ·subst c95
                       have H1 : (qf.j7 kj65 a1 (l0_8.length : Int) false a0_0 a0_1 a0_2 a0_3 a0_4 a0_5 a0_6 l0_7 l0_8 l0_9) = some r := by rw [if_pos rfl] at H; exact H
                       clear H
                       have H := H1
                       clear H1
                       have H' := qc.mk H
                       clear H
                       have q3i : wc.cell? ⟨qfn, 0, none⟩ = some (.int .i64 a0_0) := (qb qfm.out 0).trans rfl
                       have q3w : wc.cell? ⟨qfn, 1, none⟩ = some (.int .i64 a0_1) := (qb qfm.out 1).trans rfl
                       have q6n : wc.cell? ⟨qfn, 2, none⟩ = some (.int .i64 a0_2) := (qb qfm.out 2).trans rfl
                       have q2m : wc.cell? ⟨qfn, 3, none⟩ = some (.string a0_3) := (qb qfm.out 3).trans rfl
                       have q1w : wc.cell? ⟨qfn, 4, none⟩ = some (.int .i64 a0_4) := (qb qfm.out 4).trans rfl
                       have q5l : wc.cell? ⟨qfn, 5, none⟩ = some (.int .i64 a0_5) := (qb qfm.out 5).trans rfl
                       have q0y : wc.cell? ⟨qfn, 6, none⟩ = some (.string a0_6) := (qb qfm.out 6).trans rfl
                       have q5u : wc.cell? ⟨qfn, 7, none⟩ = some (.slice A0_7 l0_7.length c0_7) := (qb qfm.out 7).trans rfl
                       have q33 : wc.cell? ⟨qfn, 8, none⟩ = some (.slice A0_8 l0_8.length c0_8) := (qb qfm.out 8).trans rfl
                       have q6m : wc.cell? ⟨qfn, 9, none⟩ = some (.slice A0_9 l0_9.length c0_9) := (qb qfm.out 9).trans rfl
                       have q3h := qa qfm.out 0
                       have q2n := qa qfm.out 1
                       have q3o := qa qfm.out 2
                       have q40 := qa qfm.out 3
                       have q55 := qa qfm.out 4
                       have q1l := qa qfm.out 5
                       have q30 := qa qfm.out 6
                       have q3u := qa qfm.out 7
                       have q18 := qa qfm.out 8
                       have q0u := qa qfm.out 9
                       go_wp2_with (first | (go_at_call 22; (with_reducible refine (qbd.calls kj65 a0_4 a0_5 a0_6 _ _ l0_7 true _ ?side1 ?side2 A94.out).mono ?_); (case side1 => repeat (first | exact (Kd.qbw qnk.out HB.out) | (with_reducible refine Kd.qb3 ?_ _) | (with_reducible refine Kd.qb1 ?_ _) | (with_reducible refine Kd.qb7 ?_))); (case side2 => exact qnj.out); rintro e w97 ⟨rfl, hb⟩; have n0_ := qc.mk (qbb (g := qfn) (o := .cells #[.int .i64 a0_0, .int .i64 a0_1, .int .i64 a0_2, .string a0_3, .int .i64 a0_4, .int .i64 a0_5, .string a0_6, .slice A0_7 l0_7.length c0_7, .slice A0_8 l0_8.length c0_8, .slice A0_9 l0_9.length c0_9] 30 (0, 0)) (by (with_reducible repeat (first | refine qj ?_ _ | refine qm ?_ | refine qi ?_ _)); exact qfm.out) hb); have n1_ := qc.mk (q9 (by repeat (first | (with_reducible first | exact HB.out | apply qg | apply qd | apply qh | refine ql ?_ qgm.out) | exact HB.out)) hb); clear qfm; clear HB; have qfm := n0_; have HB := n1_; clear n0_ n1_; (try clear hb); (try clear hb2); (try clear hk); (try clear hi)))
                       go_meet
                       case rel => exact ⟨_, (false), (by first | rfl | (simp; done) | (simp [*]; done)), H', ⟨by have := HJ2.out; have := HJ11.out; have := HJ16.out; have := HJ20.out; have := HJ29.out; have := HJ59.out; have := HJ65.out; first | omega | exact Nat.le_refl _⟩, ⟨by (with_reducible repeat (first | refine qj ?_ _ | refine qm ?_ | refine qi ?_ _)); exact qfm.out⟩, ⟨by repeat (first | (with_reducible first | exact HB.out | apply qg | apply qd | apply qh | refine ql ?_ qgm.out) | exact HB.out)⟩⟩
                      ·replace c95 := Bool.eq_false_iff.mpr c95
                       subst c95
                       have H1 : (qf.j7 kj65 a1 (l0_8.length : Int) true a0_0 a0_1 a0_2 a0_3 a0_4 a0_5 a0_6 l0_7 l0_8 l0_9) = some r := by rw [if_neg (show ¬ (false = true) by decide)] at H; exact H
                       clear H
                       have H := H1
                       clear H1
                       have H' := qc.mk H
                       clear H
                       have q4v : wc.cell? ⟨qfn, 0, none⟩ = some (.int .i64 a0_0) := (qb qfm.out 0).trans rfl
                       have q19 : wc.cell? ⟨qfn, 1, none⟩ = some (.int .i64 a0_1) := (qb qfm.out 1).trans rfl
                       have q4c : wc.cell? ⟨qfn, 2, none⟩ = some (.int .i64 a0_2) := (qb qfm.out 2).trans rfl
                       have q3c : wc.cell? ⟨qfn, 3, none⟩ = some (.string a0_3) := (qb qfm.out 3).trans rfl
                       have q0k : wc.cell? ⟨qfn, 4, none⟩ = some (.int .i64 a0_4) := (qb qfm.out 4).trans rfl
                       have q3d : wc.cell? ⟨qfn, 5, none⟩ = some (.int .i64 a0_5) := (qb qfm.out 5).trans rfl
                       have q6d : wc.cell? ⟨qfn, 6, none⟩ = some (.string a0_6) := (qb qfm.out 6).trans rfl
                       have qz1 : wc.cell? ⟨qfn, 7, none⟩ = some (.slice A0_7 l0_7.length c0_7) := (qb qfm.out 7).trans rfl
                       have q2i : wc.cell? ⟨qfn, 8, none⟩ = some (.slice A0_8 l0_8.length c0_8) := (qb qfm.out 8).trans rfl
                       have q2k : wc.cell? ⟨qfn, 9, none⟩ = some (.slice A0_9 l0_9.length c0_9) := (qb qfm.out 9).trans rfl
                       have q0q := qa qfm.out 0
                       have q50 := qa qfm.out 1
                       have q2w := qa qfm.out 2
                       have q5g := qa qfm.out 3
                       have q0v := qa qfm.out 4
                       have q2b := qa qfm.out 5
                       have q5b := qa qfm.out 6
                       have q25 := qa qfm.out 7
                       have q20 := qa qfm.out 8
                       have q4o := qa qfm.out 9
                       go_wp2_with (first | (go_at_call 22; (with_reducible refine (qbd.calls kj65 a0_4 a0_5 a0_6 _ _ l0_7 false _ ?side1 ?side2 A94.out).mono ?_); (case side1 => repeat (first | exact (Kd.qbw qnk.out HB.out) | (with_reducible refine Kd.qb3 ?_ _) | (with_reducible refine Kd.qb1 ?_ _) | (with_reducible refine Kd.qb7 ?_))); (case side2 => exact qnj.out); rintro e w99 ⟨rfl, hb⟩; have n0_ := qc.mk (qbb (g := qfn) (o := .cells #[.int .i64 a0_0, .int .i64 a0_1, .int .i64 a0_2, .string a0_3, .int .i64 a0_4, .int .i64 a0_5, .string a0_6, .slice A0_7 l0_7.length c0_7, .slice A0_8 l0_8.length c0_8, .slice A0_9 l0_9.length c0_9] 30 (0, 0)) (by (with_reducible repeat (first | refine qj ?_ _ | refine qm ?_ | refine qi ?_ _)); exact qfm.out) hb); have n1_ := qc.mk (q9 (by repeat (first | (with_reducible first | exact HB.out | apply qg | apply qd | apply qh | refine ql ?_ qgm.out) | exact HB.out)) hb); clear qfm; clear HB; have qfm := n0_; have HB := n1_; clear n0_ n1_; (try clear hb); (try clear hb2); (try clear hk); (try clear hi)))
                       go_meet
                       case rel => exact ⟨_, (true), (by first | rfl | (simp; done) | (simp [*]; done)), H', ⟨by have := HJ2.out; have := HJ11.out; have := HJ16.out; have := HJ20.out; have := HJ29.out; have := HJ59.out; have := HJ65.out; first | omega | exact Nat.le_refl _⟩, ⟨by (with_reducible repeat (first | refine qj ?_ _ | refine qm ?_ | refine qi ?_ _)); exact qfm.out⟩, ⟨by repeat (first | (with_reducible first | exact HB.out | apply qg | apply qd | apply qh | refine ql ?_ qgm.out) | exact HB.out)⟩⟩
                     ·replace c93 := Bool.eq_false_iff.mpr c93
                      subst c93
                      have H1 : ((qbm.f kj65 a0_4 a0_5 a0_6 l0_7).bind fun t226 => (qf.j7 kj65 a1 (l0_8.length : Int) (!t226) a0_0 a0_1 a0_2 a0_3 a0_4 a0_5 a0_6 l0_7 l0_8 l0_9)) = some r := by rw [if_neg (show ¬ (false = true) by decide)] at H; exact H
                      clear H
                      have H := H1
                      clear H1
                      replace H := Option.bind_eq_some_iff.mp H
                      obtain ⟨t226, qbrd, H⟩ := H
                      replace H : (qf.j7 kj65 a1 (l0_8.length : Int) (!t226) a0_0 a0_1 a0_2 a0_3 a0_4 a0_5 a0_6 l0_7 l0_8 l0_9) = some r := H
                      have A100 := qc.mk qbrd
                      clear qbrd
                      have H' := qc.mk H
                      clear H
                      have qblz : wc.cell? ⟨qfn, 0, none⟩ = some (.int .i64 a0_0) := (qb qfm.out 0).trans rfl
                      have qblu : wc.cell? ⟨qfn, 1, none⟩ = some (.int .i64 a0_1) := (qb qfm.out 1).trans rfl
                      have qbmr : wc.cell? ⟨qfn, 2, none⟩ = some (.int .i64 a0_2) := (qb qfm.out 2).trans rfl
                      have qbmy : wc.cell? ⟨qfn, 3, none⟩ = some (.string a0_3) := (qb qfm.out 3).trans rfl
                      have qbma : wc.cell? ⟨qfn, 4, none⟩ = some (.int .i64 a0_4) := (qb qfm.out 4).trans rfl
                      have qbnn : wc.cell? ⟨qfn, 5, none⟩ = some (.int .i64 a0_5) := (qb qfm.out 5).trans rfl
                      have qbl8 : wc.cell? ⟨qfn, 6, none⟩ = some (.string a0_6) := (qb qfm.out 6).trans rfl
                      have qbl2 : wc.cell? ⟨qfn, 7, none⟩ = some (.slice A0_7 l0_7.length c0_7) := (qb qfm.out 7).trans rfl
                      have qbmd : wc.cell? ⟨qfn, 8, none⟩ = some (.slice A0_8 l0_8.length c0_8) := (qb qfm.out 8).trans rfl
                      have qbnf : wc.cell? ⟨qfn, 9, none⟩ = some (.slice A0_9 l0_9.length c0_9) := (qb qfm.out 9).trans rfl
                      have qwj := qa qfm.out 0
                      have qww := qa qfm.out 1
                      have qwk := qa qfm.out 2
                      have qwo := qa qfm.out 3
                      have qwz := qa qfm.out 4
                      have qwx := qa qfm.out 5
                      have qwg := qa qfm.out 6
                      have qwr := qa qfm.out 7
                      have qwp := qa qfm.out 8
                      have qwu := qa qfm.out 9
                      go_wp2_with (first | (go_at_call 23; (with_reducible refine (qbm.calls kj65 a0_4 a0_5 a0_6 _ _ l0_7 t226 _ ?side1 ?side2 A100.out).mono ?_); (case side1 => repeat (first | exact (Kd.qbw qnk.out HB.out) | (with_reducible refine Kd.qb3 ?_ _) | (with_reducible refine Kd.qb1 ?_ _) | (with_reducible refine Kd.qb7 ?_))); (case side2 => exact qnj.out); rintro e w102 ⟨rfl, hb⟩; have n0_ := qc.mk (qbb (g := qfn) (o := .cells #[.int .i64 a0_0, .int .i64 a0_1, .int .i64 a0_2, .string a0_3, .int .i64 a0_4, .int .i64 a0_5, .string a0_6, .slice A0_7 l0_7.length c0_7, .slice A0_8 l0_8.length c0_8, .slice A0_9 l0_9.length c0_9] 30 (0, 0)) (by (with_reducible repeat (first | refine qj ?_ _ | refine qm ?_ | refine qi ?_ _)); exact qfm.out) hb); have n1_ := qc.mk (q9 (by repeat (first | (with_reducible first | exact HB.out | apply qg | apply qd | apply qh | refine ql ?_ qgm.out) | exact HB.out)) hb); clear qfm; clear HB; have qfm := n0_; have HB := n1_; clear n0_ n1_; (try clear hb); (try clear hb2); (try clear hk); (try clear hi)))
                      go_meet
                      case rel => exact ⟨_, (!t226), (by first | rfl | (simp; done) | (simp [*]; done)), H', ⟨by have := HJ2.out; have := HJ11.out; have := HJ16.out; have := HJ20.out; have := HJ29.out; have := HJ59.out; have := HJ65.out; first | omega | exact Nat.le_refl _⟩, ⟨by (with_reducible repeat (first | refine qj ?_ _ | refine qm ?_ | refine qi ?_ _)); exact qfm.out⟩, ⟨by repeat (first | (with_reducible first | exact HB.out | apply qg | apply qd | apply qh | refine ql ?_ qgm.out) | exact HB.out)⟩⟩
                    ·rw [if_neg c92] at H
                     have c92b0 : (a0_3.toList == ([] : List UInt8)) = false := beq_eq_false_iff_ne.mpr c92
                     have c92b1 : (a0_3.toList != ([] : List UInt8)) = true := bne_iff_ne.mpr c92
                     (first | rw [c92b0] | (simp only [i64_w, i32_w]; rw [c92b0]) | skip)
                     have H' := qc.mk H
                     clear H
                     have qblk : wc.cell? ⟨qfn, 0, none⟩ = some (.int .i64 a0_0) := (qb qfm.out 0).trans rfl
                     have qbns : wc.cell? ⟨qfn, 1, none⟩ = some (.int .i64 a0_1) := (qb qfm.out 1).trans rfl
                     have qbmz : wc.cell? ⟨qfn, 2, none⟩ = some (.int .i64 a0_2) := (qb qfm.out 2).trans rfl
                     have qbmq : wc.cell? ⟨qfn, 3, none⟩ = some (.string a0_3) := (qb qfm.out 3).trans rfl
                     have qblh : wc.cell? ⟨qfn, 4, none⟩ = some (.int .i64 a0_4) := (qb qfm.out 4).trans rfl
                     have qbnw : wc.cell? ⟨qfn, 5, none⟩ = some (.int .i64 a0_5) := (qb qfm.out 5).trans rfl
                     have qbnj : wc.cell? ⟨qfn, 6, none⟩ = some (.string a0_6) := (qb qfm.out 6).trans rfl
                     have qbll : wc.cell? ⟨qfn, 7, none⟩ = some (.slice A0_7 l0_7.length c0_7) := (qb qfm.out 7).trans rfl
                     have qbmp : wc.cell? ⟨qfn, 8, none⟩ = some (.slice A0_8 l0_8.length c0_8) := (qb qfm.out 8).trans rfl
                     have qblo : wc.cell? ⟨qfn, 9, none⟩ = some (.slice A0_9 l0_9.length c0_9) := (qb qfm.out 9).trans rfl
                     have qwv := qa qfm.out 0
                     have qwy := qa qfm.out 1
                     have qwt := qa qfm.out 2
                     have qwn := qa qfm.out 3
                     have qwm := qa qfm.out 4
                     have qwi := qa qfm.out 5
                     have qwh := qa qfm.out 6
                     have qwl := qa qfm.out 7
                     have qws := qa qfm.out 8
                     have qw0 := qa qfm.out 9
                     go_wp2
                     go_meet
                     case rel => exact ⟨_, (true), (by first | rfl | (simp; done) | (simp [*]; done)), H', ⟨by have := HJ2.out; have := HJ11.out; have := HJ16.out; have := HJ20.out; have := HJ29.out; have := HJ59.out; have := HJ65.out; first | omega | exact Nat.le_refl _⟩, ⟨by (with_reducible repeat (first | refine qj ?_ _ | refine qm ?_ | refine qi ?_ _)); exact qfm.out⟩, ⟨by repeat (first | (with_reducible first | exact HB.out | apply qg | apply qd | apply qh | refine ql ?_ qgm.out) | exact HB.out)⟩⟩
                 case rest =>
                  clear HC70
                  (try clear p2); (try clear c7); (try clear c9); (try clear c71); (try clear c73); (try clear c74); (try clear c76); (try clear c92); (try clear c92b0); (try clear c92b1); (try clear c93); (try clear c95); (try clear qblz qblu qbmr qbmy qbma qbnn qbl8 qbl2 qbmd qbnf); (try clear qblk qbns qbmz qbmq qblh qbnw qbnj qbll qbmp qblo); (try clear qbqq qbpg qbqd qboy qbc3 qbar qbah qbb5 q78 q8t); (try clear qbco qbeo qbb7 qbc4 q8g qbap qbaa qba9 q7j q7y); (try clear qbb6 q8h qbc1 qbep q9r qbbx q8w q75 qbay qbdl); (try clear qbd6 qbc6 qbcl qbca qbbh q81 qbcg q9n q8e qbaz); (try clear q8o qbbb q77 q8l q9l qbcu q8u q4u q5t q56); (try clear qzt q2f q2u q1x q5r q21 q4h qz6 q4j q37); (try clear qz4 q5k qz9 q42 qz0 q1o q5q q0x qz8 q3f); (try clear q3i q3w q6n q2m q1w q5l q0y q5u q33 q6m); (try clear q4v q19 q4c q3c q0k q3d q6d qz1 q2i q2k); (try clear qwj qww qwk qwo qwz qwx qwg qwr qwp qwu); (try clear qwv qwy qwt qwn qwm qwi qwh qwl qws qw0); (try clear qkn qk0 qkr qki qla qk2); (try clear qk1 qk3 qkh qkc qk9 qke qkf qkw qko qkz); (try clear qg0 qgx qgz qgy qi6 qjh qi4 qjf qje qi8); (try clear qhb qg8 qhe qhc qiq qiu qip qii qim qis); (try clear qjp qka qjn qj7 qjy qju qj4 qj5 qjz qjo); (try clear qhv qh2 qh6 qh0 qj3 qj0 qjt qjv qj6 qj9); (try clear qkm qkt qkx qk6 qol qor qnp qoh qo2 qo4); (try clear qnx qn5 qot qnq qoc qn9 qou qoj qnn qod); (try clear qmf qmk qmn qmd qtn qqb qts qpw qpk qs7); (try clear qqn qtp qsa qtv qpx qq2 qq0 qq6 qsr qqo); (try clear qsk qrd qse qq1 qte qtf qqx qr4 qqv qr9); (try clear qk4 qlc qlb qkv qnr qoz qn0 qo0 qoo qnt); (try clear qr3 qrt qq7 qs9 qtb qqd qsh qqe qs4 qto); (try clear qmh qls qlw qmj qp1 qpm qsy qs5 qrv qso); (try clear qlr ql7 qlt ql2 qpp qpq qs3 qtg qps qth); (try clear qji qi3 qi9 qjc qtk qsc qst qsw qqq qrm); (try clear qru qqm qsl qp3 qqu qqi qqj qrx qsf qro); (try clear ql1 qmi qlq ql4 qrw qrj qtu qqr qs6 qti); (try clear qp5 qs0 qq8 qtz qp7 qqz qp0 qtj qq3 qrs); (try clear qr5 qs8 qp4 qpg qph qtm qpz qrg qpr qrk); (try clear qmb qmm qly qlx qqa qq4 qrz qr8 qp9 qr7); (try clear qt9 qv7 qvs quw qve qv5 qv2 qwa qva quf); (try clear qne qm7 qms qmu qvw qvt qvo qud qur quq); (try clear qwc qu7 qux qvx qt4 qvz quz qug qvy quc); (try clear qui qwd qvv qv4 qx4 qzg qxe qx7 qzl qx6); (try clear qo1 qnu qom qnm qw6 qyk qw4 qy4 qyp qyj); (try clear q4b q1t q5y q5n q4s q6h q4d q0m q0f q2e); (try clear q3y q2y qz3 q4y qzu q6g q3t q26 q0j q0c); (try clear qhj qhl qhm qhk qi2 qix qi0 qi1 qiy qiz); (try clear q5d q41 q3m q46 q5j q1y q05 q0o q0h qzr); (try clear q45 q6f q23 q2x q4q q38 q57 q13 q3g q1m); (try clear q2s q6l q4a q1d q2o q5h q1j q5i q00 q52); (try clear q47 q5e q6b q5f q2h q1b q3j q10 q4w qz2); (try clear q4g q2t q4l q06 q58 q2q q27 q5p q2p q4p); (try clear q3h q2n q3o q40 q55 q1l q30 q3u q18 q0u); (try clear q0q q50 q2w q5g q0v q2b q5b q25 q20 q4o); (try clear qhd qg9 qhf qha qlh qln qlo qll qle qlj); (try clear p2)
                  obtain ⟨kq, q5w, rfl, HA, HJ69, qfm, HB⟩ := hcut
                  cases kq with
                  | zero => exact absurd HA.out (by simp [qf.j7])
                  | succ kj69 =>
                   have H := HA.out
                   clear HA
                   simp only [qf.j7] at H
                   by_cases c104 : q5w = true
                   ·subst c104
                    have H1 : (some false) = some r := by rw [if_pos rfl] at H; exact H
                    clear H
                    have H := H1
                    clear H1
                    obtain rfl := Option.some.inj H
                    go_wp2
                    go_ret
                    exact ⟨by first | rfl | (simp [qx, qy] <;> rfl) | (simp [*, qx, qy] <;> rfl), by repeat (first | (with_reducible first | exact HB.out | apply qg | apply qd | apply qh | refine ql ?_ qgm.out) | exact HB.out)⟩
                   ·replace c104 := Bool.eq_false_iff.mpr c104
                    subst c104
                    have H1 : (if a0_0 = 11 then (if (l0_9.length : Int) = (l0_8.length : Int) then (qf.j8 kj69 a1 (l0_8.length : Int) false a0_0 a0_1 a0_2 a0_3 a0_4 a0_5 a0_6 l0_7 l0_8 l0_9) else (qf.j8 kj69 a1 (l0_8.length : Int) true a0_0 a0_1 a0_2 a0_3 a0_4 a0_5 a0_6 l0_7 l0_8 l0_9)) else (qf.j8 kj69 a1 (l0_8.length : Int) (decide ((l0_9.length : Int) > 0)) a0_0 a0_1 a0_2 a0_3 a0_4 a0_5 a0_6 l0_7 l0_8 l0_9)) = some r := by rw [if_neg (show ¬ (false = true) by decide)] at H; exact H
                    clear H
                    have H := H1
                    clear H1
                    have qbow := qc.mk H
                    clear H
                    go_upto_region 18 with (fail)
                    go_cut [216] (fun v216 wc => ∃ (kq : Nat) (qwq : Bool), v216 = .bool qwq ∧ qc (qf.j8 kq a1 (l0_8.length : Int) qwq a0_0 a0_1 a0_2 a0_3 a0_4 a0_5 a0_6 l0_7 l0_8 l0_9 = some r) ∧ qc (kq ≤ kj69) ∧ qc (wc.heap[qfn]? = some (.cells #[.int .i64 a0_0, .int .i64 a0_1, .int .i64 a0_2, .string a0_3, .int .i64 a0_4, .int .i64 a0_5, .string a0_6, (.slice A0_7 l0_7.length c0_7), (.slice A0_8 l0_8.length c0_8), (.slice A0_9 l0_9.length c0_9)] 30 (0, 0))) ∧ qc (Below w.heap.size w wc))
                    case first =>
                     as_aux_lemma =>
                      have H := qbow.out
                      clear qbow
                      by_cases c106 : a0_0 = 11
                      ·rw [if_pos c106] at H
                       have c106b0 : (a0_0 == 11) = true := beq_iff_eq.mpr c106
                       have c106b1 : (a0_0 != 11) = false := bne_eq_false_iff_eq.mpr c106
                       clear c106
                       (first | rw [c106b0] | (simp only [i64_w, i32_w]; rw [c106b0]) | skip)
                       by_cases c107 : (l0_9.length : Int) = (l0_8.length : Int)
                       ·rw [if_pos c107] at H
                        have c107b0 : ((l0_9.length : Int) == (l0_8.length : Int)) = true := beq_iff_eq.mpr c107
                        have c107b1 : ((l0_9.length : Int) != (l0_8.length : Int)) = false := bne_eq_false_iff_eq.mpr c107
                        have c107b2 : (l0_9.length == l0_8.length) = true := by first | simpa using c107 | (simp at c107 ⊢; omega)
                        clear c107
                        have H' := qc.mk H
                        clear H
                        have qbfi : wc.cell? ⟨qfn, 0, none⟩ = some (.int .i64 a0_0) := (qb qfm.out 0).trans rfl
                        have qbfa : wc.cell? ⟨qfn, 1, none⟩ = some (.int .i64 a0_1) := (qb qfm.out 1).trans rfl
                        have qbff : wc.cell? ⟨qfn, 2, none⟩ = some (.int .i64 a0_2) := (qb qfm.out 2).trans rfl
                        have qbey : wc.cell? ⟨qfn, 3, none⟩ = some (.string a0_3) := (qb qfm.out 3).trans rfl
                        have qbfh : wc.cell? ⟨qfn, 4, none⟩ = some (.int .i64 a0_4) := (qb qfm.out 4).trans rfl
                        have qbes : wc.cell? ⟨qfn, 5, none⟩ = some (.int .i64 a0_5) := (qb qfm.out 5).trans rfl
                        have qbfg : wc.cell? ⟨qfn, 6, none⟩ = some (.string a0_6) := (qb qfm.out 6).trans rfl
                        have qbew : wc.cell? ⟨qfn, 7, none⟩ = some (.slice A0_7 l0_7.length c0_7) := (qb qfm.out 7).trans rfl
                        have qbev : wc.cell? ⟨qfn, 8, none⟩ = some (.slice A0_8 l0_8.length c0_8) := (qb qfm.out 8).trans rfl
                        have qbfk : wc.cell? ⟨qfn, 9, none⟩ = some (.slice A0_9 l0_9.length c0_9) := (qb qfm.out 9).trans rfl
                        have q28 := qa qfm.out 0
                        have q02 := qa qfm.out 1
                        have q1v := qa qfm.out 2
                        have q5c := qa qfm.out 3
                        have q1s := qa qfm.out 4
                        have q0p := qa qfm.out 5
                        have q1n := qa qfm.out 6
                        have q48 := qa qfm.out 7
                        have q36 := qa qfm.out 8
                        have q5x := qa qfm.out 9
                        go_wp2
                        go_meet
                        case rel => exact ⟨_, (false), (by first | rfl | (simp; done) | (simp [*]; done)), H', ⟨by have := HJ2.out; have := HJ11.out; have := HJ16.out; have := HJ20.out; have := HJ29.out; have := HJ59.out; have := HJ65.out; have := HJ69.out; first | omega | exact Nat.le_refl _⟩, ⟨by (with_reducible repeat (first | refine qj ?_ _ | refine qm ?_ | refine qi ?_ _)); exact qfm.out⟩, ⟨by repeat (first | (with_reducible first | exact HB.out | apply qg | apply qd | apply qh | refine ql ?_ qgm.out) | exact HB.out)⟩⟩
                       ·rw [if_neg c107] at H
                        have c107b0 : ((l0_9.length : Int) == (l0_8.length : Int)) = false := beq_eq_false_iff_ne.mpr c107
                        have c107b1 : ((l0_9.length : Int) != (l0_8.length : Int)) = true := bne_iff_ne.mpr c107
                        have c107b2 : (l0_9.length == l0_8.length) = false := by first | simpa using c107 | (simp at c107 ⊢; omega)
                        have H' := qc.mk H
                        clear H
                        have qbe5 : wc.cell? ⟨qfn, 0, none⟩ = some (.int .i64 a0_0) := (qb qfm.out 0).trans rfl
                        have qbez : wc.cell? ⟨qfn, 1, none⟩ = some (.int .i64 a0_1) := (qb qfm.out 1).trans rfl
                        have qbfl : wc.cell? ⟨qfn, 2, none⟩ = some (.int .i64 a0_2) := (qb qfm.out 2).trans rfl
                        have qbe2 : wc.cell? ⟨qfn, 3, none⟩ = some (.string a0_3) := (qb qfm.out 3).trans rfl
                        have qber : wc.cell? ⟨qfn, 4, none⟩ = some (.int .i64 a0_4) := (qb qfm.out 4).trans rfl
                        have qbe1 : wc.cell? ⟨qfn, 5, none⟩ = some (.int .i64 a0_5) := (qb qfm.out 5).trans rfl
                        have qbfo : wc.cell? ⟨qfn, 6, none⟩ = some (.string a0_6) := (qb qfm.out 6).trans rfl
                        have qbe8 : wc.cell? ⟨qfn, 7, none⟩ = some (.slice A0_7 l0_7.length c0_7) := (qb qfm.out 7).trans rfl
                        have qbex : wc.cell? ⟨qfn, 8, none⟩ = some (.slice A0_8 l0_8.length c0_8) := (qb qfm.out 8).trans rfl
                        have qbfm : wc.cell? ⟨qfn, 9, none⟩ = some (.slice A0_9 l0_9.length c0_9) := (qb qfm.out 9).trans rfl
                        have q0i := qa qfm.out 0
                        have q5m := qa qfm.out 1
                        have q2v := qa qfm.out 2
                        have q0n := qa qfm.out 3
                        have q1q := qa qfm.out 4
                        have q6c := qa qfm.out 5
                        have q1a := qa qfm.out 6
                        have q51 := qa qfm.out 7
                        have q3l := qa qfm.out 8
                        have q3a := qa qfm.out 9
                        go_wp2
                        go_meet
                        case rel => exact ⟨_, (true), (by first | rfl | (simp; done) | (simp [*]; done)), H', ⟨by have := HJ2.out; have := HJ11.out; have := HJ16.out; have := HJ20.out; have := HJ29.out; have := HJ59.out; have := HJ65.out; have := HJ69.out; first | omega | exact Nat.le_refl _⟩, ⟨by (with_reducible repeat (first | refine qj ?_ _ | refine qm ?_ | refine qi ?_ _)); exact qfm.out⟩, ⟨by repeat (first | (with_reducible first | exact HB.out | apply qg | apply qd | apply qh | refine ql ?_ qgm.out) | exact HB.out)⟩⟩
                      ·rw [if_neg c106] at H
                       have c106b0 : (a0_0 == 11) = false := beq_eq_false_iff_ne.mpr c106
                       have c106b1 : (a0_0 != 11) = true := bne_iff_ne.mpr c106
                       (first | rw [c106b0] | (simp only [i64_w, i32_w]; rw [c106b0]) | skip)
                       have H' := qc.mk H
                       clear H
                       have qbe0 : wc.cell? ⟨qfn, 0, none⟩ = some (.int .i64 a0_0) := (qb qfm.out 0).trans rfl
                       have qbfe : wc.cell? ⟨qfn, 1, none⟩ = some (.int .i64 a0_1) := (qb qfm.out 1).trans rfl
                       have qbe3 : wc.cell? ⟨qfn, 2, none⟩ = some (.int .i64 a0_2) := (qb qfm.out 2).trans rfl
                       have qbe4 : wc.cell? ⟨qfn, 3, none⟩ = some (.string a0_3) := (qb qfm.out 3).trans rfl
                       have qbfn : wc.cell? ⟨qfn, 4, none⟩ = some (.int .i64 a0_4) := (qb qfm.out 4).trans rfl
                       have qbfc : wc.cell? ⟨qfn, 5, none⟩ = some (.int .i64 a0_5) := (qb qfm.out 5).trans rfl
                       have qbe6 : wc.cell? ⟨qfn, 6, none⟩ = some (.string a0_6) := (qb qfm.out 6).trans rfl
                       have qbfb : wc.cell? ⟨qfn, 7, none⟩ = some (.slice A0_7 l0_7.length c0_7) := (qb qfm.out 7).trans rfl
                       have qbet : wc.cell? ⟨qfn, 8, none⟩ = some (.slice A0_8 l0_8.length c0_8) := (qb qfm.out 8).trans rfl
                       have qbe7 : wc.cell? ⟨qfn, 9, none⟩ = some (.slice A0_9 l0_9.length c0_9) := (qb qfm.out 9).trans rfl
                       have q2g := qa qfm.out 0
                       have q2a := qa qfm.out 1
                       have q59 := qa qfm.out 2
                       have q3x := qa qfm.out 3
                       have qz7 := qa qfm.out 4
                       have q1g := qa qfm.out 5
                       have qzx := qa qfm.out 6
                       have q0r := qa qfm.out 7
                       have q3b := qa qfm.out 8
                       have q2d := qa qfm.out 9
                       go_wp2
                       go_meet
                       case rel => exact ⟨_, (decide ((l0_9.length : Int) > 0)), (by first | rfl | (simp; done) | (simp [*]; done)), H', ⟨by have := HJ2.out; have := HJ11.out; have := HJ16.out; have := HJ20.out; have := HJ29.out; have := HJ59.out; have := HJ65.out; have := HJ69.out; first | omega | exact Nat.le_refl _⟩, ⟨by (with_reducible repeat (first | refine qj ?_ _ | refine qm ?_ | refine qi ?_ _)); exact qfm.out⟩, ⟨by repeat (first | (with_reducible first | exact HB.out | apply qg | apply qd | apply qh | refine ql ?_ qgm.out) | exact HB.out)⟩⟩
                    case rest =>
                     clear qbow
                     (try clear c1); (try clear p2); (try clear c10); (try clear c104); (try clear c106); (try clear c106b0); (try clear c106b1); (try clear c107); (try clear c107b0); (try clear c107b1); (try clear c107b2); (try clear qbfi qbfa qbff qbey qbfh qbes qbfg qbew qbev qbfk); (try clear qbe5 qbez qbfl qbe2 qber qbe1 qbfo qbe8 qbex qbfm); (try clear qbe0 qbfe qbe3 qbe4 qbfn qbfc qbe6 qbfb qbet qbe7); (try clear qbc3 qbar qbah qbb5 q78 q8t); (try clear qbco qbeo qbb7 qbc4 q8g qbap qbaa qba9 q7j q7y); (try clear qbb6 q8h qbc1 qbep q9r qbbx q8w q75 qbay qbdl); (try clear qbd6 qbc6 qbcl qbca qbbh q81 qbcg q9n q8e qbaz); (try clear q8o qbbb q77 q8l q9l qbcu q8u q4u q5t q56); (try clear qzt q2f q2u q1x q5r q21 q4h qz6 q4j q37); (try clear qz4 q5k qz9 q42 qz0 q1o q5q q0x qz8 q3f); (try clear q3i q3w q6n q2m q1w q5l q0y q5u q33 q6m); (try clear q4v q19 q4c q3c q0k q3d q6d qz1 q2i q2k); (try clear qwj qww qwk qwo qwz qwx qwg qwr qwp qwu); (try clear qwv qwy qwt qwn qwm qwi qwh qwl qws qw0); (try clear q28 q02 q1v q5c q1s q0p q1n q48 q36 q5x); (try clear q0i q5m q2v q0n q1q q6c q1a q51 q3l q3a); (try clear qkn qk0 qkr qki qla qk2); (try clear q2g q2a q59 q3x qz7 q1g qzx q0r q3b q2d); (try clear qk1 qk3 qkh qkc qk9 qke qkf qkw qko qkz); (try clear qg0 qgx qgz qgy qi6 qjh qi4 qjf qje qi8); (try clear qhb qg8 qhe qhc qiq qiu qip qii qim qis); (try clear qjp qka qjn qj7 qjy qju qj4 qj5 qjz qjo); (try clear qhv qh2 qh6 qh0 qj3 qj0 qjt qjv qj6 qj9); (try clear qkm qkt qkx qk6 qol qor qnp qoh qo2 qo4); (try clear qnx qn5 qot qnq qoc qn9 qou qoj qnn qod); (try clear qmf qmk qmn qmd qtn qqb qts qpw qpk qs7); (try clear qqn qtp qsa qtv qpx qq2 qq0 qq6 qsr qqo); (try clear qsk qrd qse qq1 qte qtf qqx qr4 qqv qr9); (try clear qk4 qlc qlb qkv qnr qoz qn0 qo0 qoo qnt); (try clear qr3 qrt qq7 qs9 qtb qqd qsh qqe qs4 qto); (try clear qmh qls qlw qmj qp1 qpm qsy qs5 qrv qso); (try clear qlr ql7 qlt ql2 qpp qpq qs3 qtg qps qth); (try clear qji qi3 qi9 qjc qtk qsc qst qsw qqq qrm); (try clear qru qqm qsl qp3 qqu qqi qqj qrx qsf qro); (try clear ql1 qmi qlq ql4 qrw qrj qtu qqr qs6 qti); (try clear qp5 qs0 qq8 qtz qp7 qqz qp0 qtj qq3 qrs); (try clear qr5 qs8 qp4 qpg qph qtm qpz qrg qpr qrk); (try clear qmb qmm qly qlx qqa qq4 qrz qr8 qp9 qr7); (try clear qt9 qv7 qvs quw qve qv5 qv2 qwa qva quf); (try clear qne qm7 qms qmu qvw qvt qvo qud qur quq); (try clear qwc qu7 qux qvx qt4 qvz quz qug qvy quc); (try clear qui qwd qvv qv4 qx4 qzg qxe qx7 qzl qx6); (try clear qo1 qnu qom qnm qw6 qyk qw4 qy4 qyp qyj); (try clear q4b q1t q5y q5n q4s q6h q4d q0m q0f q2e); (try clear q3y q2y qz3 q4y qzu q6g q3t q26 q0j q0c); (try clear qhj qhl qhm qhk qi2 qix qi0 qi1 qiy qiz); (try clear q5d q41 q3m q46 q5j q1y q05 q0o q0h qzr); (try clear q45 q6f q23 q2x q4q q38 q57 q13 q3g q1m); (try clear q2s q6l q4a q1d q2o q5h q1j q5i q00 q52); (try clear q47 q5e q6b q5f q2h q1b q3j q10 q4w qz2); (try clear q4g q2t q4l q06 q58 q2q q27 q5p q2p q4p); (try clear q3h q2n q3o q40 q55 q1l q30 q3u q18 q0u); (try clear q0q q50 q2w q5g q0v q2b q5b q25 q20 q4o); (try clear qhd qg9 qhf qha qlh qln qlo qll qle qlj); (try clear p2)
                     obtain ⟨kq, qwq, rfl, HA, qbfv, qfm, HB⟩ := hcut
                     cases kq with
                     | zero => exact absurd HA.out (by simp [qf.j8])
                     | succ qbqi =>
                      have H := HA.out
                      clear HA
                      simp only [qf.j8] at H
                      by_cases c111 : qwq = true
                      ·subst c111
                       have H1 : (some false) = some r := by rw [if_pos rfl] at H; exact H
                       clear H
                       have H := H1
                       clear H1
                       obtain rfl := Option.some.inj H
                       go_wp2
                       go_ret
                       exact ⟨by first | rfl | (simp [qx, qy] <;> rfl) | (simp [*, qx, qy] <;> rfl), by repeat (first | (with_reducible first | exact HB.out | apply qg | apply qd | apply qh | refine ql ?_ qgm.out) | exact HB.out)⟩
                      ·replace c111 := Bool.eq_false_iff.mpr c111
                       subst c111
                       have H1 : (qf.l0 qbqi a1 (l0_8.length : Int) 0 a0_0 a0_1 a0_2 a0_3 a0_4 a0_5 a0_6 l0_7 l0_8 l0_9) = some r := by rw [if_neg (show ¬ (false = true) by decide)] at H; exact H
                       clear H
                       have H := H1
                       clear H1
                       have H' := qc.mk H
                       clear H
                       go_wp2
                       go_loopg [10] qbqi (fun kq v10 w' => ∃ (qgw : Int), v10 = .int .i64 qgw ∧ qc (qf.l0 kq a1 (l0_8.length : Int) qgw a0_0 a0_1 a0_2 a0_3 a0_4 a0_5 a0_6 l0_7 l0_8 l0_9 = some r) ∧ qc (kq ≤ qbqi) ∧ qc (w'.heap[qfn]? = some (.cells #[.int .i64 a0_0, .int .i64 a0_1, .int .i64 a0_2, .string a0_3, .int .i64 a0_4, .int .i64 a0_5, .string a0_6, (.slice A0_7 l0_7.length c0_7), (.slice A0_8 l0_8.length c0_8), (.slice A0_9 l0_9.length c0_9)] 30 (0, 0))) ∧ qc (Below w.heap.size w w'))
                       case atStart => exact ⟨(0), (by first | rfl | (simp; done) | (simp [*]; done)), H', ⟨Nat.le_refl _⟩, ⟨by (with_reducible repeat (first | refine qj ?_ _ | refine qm ?_ | refine qi ?_ _)); exact qfm.out⟩, ⟨by repeat (first | (with_reducible first | exact HB.out | apply qg | apply qd | apply qh | refine ql ?_ qgm.out) | exact HB.out)⟩⟩
                       case round =>
                        clear H'
                        (try clear c1); (try clear p2); (try clear c10); (try clear c11); (try clear c104); (try clear c106); (try clear c106b0); (try clear c106b1); (try clear c107); (try clear c107b0); (try clear c107b1); (try clear c107b2); (try clear c111); (try clear qbfi qbfa qbff qbey qbfh qbes qbfg qbew qbev qbfk); (try clear qbe5 qbez qbfl qbe2 qber qbe1 qbfo qbe8 qbex qbfm); (try clear qbe0 qbfe qbe3 qbe4 qbfn qbfc qbe6 qbfb qbet qbe7); (try clear qbc3 qbar qbah qbb5 q78 q8t); (try clear qbco qbeo qbb7 qbc4 q8g qbap qbaa qba9 q7j q7y); (try clear qbb6 q8h qbc1 qbep q9r qbbx q8w q75 qbay qbdl); (try clear qbd6 qbc6 qbcl qbca qbbh q81 qbcg q9n q8e qbaz); (try clear q8o qbbb q77 q8l q9l qbcu q8u q4u q5t q56); (try clear qzt q2f q2u q1x q5r q21 q4h qz6 q4j q37); (try clear qz4 q5k qz9 q42 qz0 q1o q5q q0x qz8 q3f); (try clear q3i q3w q6n q2m q1w q5l q0y q5u q33 q6m); (try clear q4v q19 q4c q3c q0k q3d q6d qz1 q2i q2k); (try clear qwj qww qwk qwo qwz qwx qwg qwr qwp qwu); (try clear qwv qwy qwt qwn qwm qwi qwh qwl qws qw0); (try clear q28 q02 q1v q5c q1s q0p q1n q48 q36 q5x); (try clear q0i q5m q2v q0n q1q q6c q1a q51 q3l q3a); (try clear qkn qk0 qkr qki qla qk2); (try clear q2g q2a q59 q3x qz7 q1g qzx q0r q3b q2d); (try clear qk1 qk3 qkh qkc qk9 qke qkf qkw qko qkz); (try clear qg0 qgx qgz qgy qi6 qjh qi4 qjf qje qi8); (try clear qhb qg8 qhe qhc qiq qiu qip qii qim qis); (try clear qjp qka qjn qj7 qjy qju qj4 qj5 qjz qjo); (try clear qhv qh2 qh6 qh0 qj3 qj0 qjt qjv qj6 qj9); (try clear qkm qkt qkx qk6 qol qor qnp qoh qo2 qo4); (try clear qnx qn5 qot qnq qoc qn9 qou qoj qnn qod); (try clear qmf qmk qmn qmd qtn qqb qts qpw qpk qs7); (try clear qqn qtp qsa qtv qpx qq2 qq0 qq6 qsr qqo); (try clear qsk qrd qse qq1 qte qtf qqx qr4 qqv qr9); (try clear qk4 qlc qlb qkv qnr qoz qn0 qo0 qoo qnt); (try clear qr3 qrt qq7 qs9 qtb qqd qsh qqe qs4 qto); (try clear qmh qls qlw qmj qp1 qpm qsy qs5 qrv qso); (try clear qlr ql7 qlt ql2 qpp qpq qs3 qtg qps qth); (try clear qji qi3 qi9 qjc qtk qsc qst qsw qqq qrm); (try clear qru qqm qsl qp3 qqu qqi qqj qrx qsf qro); (try clear ql1 qmi qlq ql4 qrw qrj qtu qqr qs6 qti); (try clear qp5 qs0 qq8 qtz qp7 qqz qp0 qtj qq3 qrs); (try clear qr5 qs8 qp4 qpg qph qtm qpz qrg qpr qrk); (try clear qmb qmm qly qlx qqa qq4 qrz qr8 qp9 qr7); (try clear qt9 qv7 qvs quw qve qv5 qv2 qwa qva quf); (try clear qne qm7 qms qmu qvw qvt qvo qud qur quq); (try clear qwc qu7 qux qvx qt4 qvz quz qug qvy quc); (try clear qui qwd qvv qv4 qx4 qzg qxe qx7 qzl qx6); (try clear qo1 qnu qom qnm qw6 qyk qw4 qy4 qyp qyj); (try clear q4b q1t q5y q5n q4s q6h q4d q0m q0f q2e); (try clear q3y q2y qz3 q4y qzu q6g q3t q26 q0j q0c); (try clear qhj qhl qhm qhk qi2 qix qi0 qi1 qiy qiz); (try clear q5d q41 q3m q46 q5j q1y q05 q0o q0h qzr); (try clear q45 q6f q23 q2x q4q q38 q57 q13 q3g q1m); (try clear q2s q6l q4a q1d q2o q5h q1j q5i q00 q52); (try clear q47 q5e q6b q5f q2h q1b q3j q10 q4w qz2); (try clear q4g q2t q4l q06 q58 q2q q27 q5p q2p q4p); (try clear q3h q2n q3o q40 q55 q1l q30 q3u q18 q0u); (try clear q0q q50 q2w q5g q0v q2b q5b q25 q20 q4o); (try clear qhd qg9 qhf qha qlh qln qlo qll qle qlj); (try clear p2)
                        obtain ⟨qgw, rfl, HA, HK10, qfm, HB⟩ := hrel
                        cases gk with
                        | zero => exact absurd HA.out (by simp [qf.l0])
                        | succ k10 =>
                         have H := HA.out
                         clear HA
                         simp only [qf.l0] at H
                         by_cases c112 : qgw < (l0_9.length : Int)
                         ·rw [if_pos c112] at H
                          have c112b0 : decide (qgw < (l0_9.length : Int)) = true := decide_eq_true c112
                          clear c112
                          by_cases c113 : 0 ≤ qgw
                          ·rw [if_pos c113] at H
                           have c113b0 : decide (0 ≤ qgw) = true := decide_eq_true c113
                           clear c113
                           replace H := Option.bind_eq_some_iff.mp H
                           obtain ⟨t228, qbsd, H⟩ := H
                           replace H : (if t228 = true then (qf.l0 k10 a1 (l0_8.length : Int) (wrap64 (qgw + 1)) a0_0 a0_1 a0_2 a0_3 a0_4 a0_5 a0_6 l0_7 l0_8 l0_9) else (some false)) = some r := H
                           have A114 := qc.mk qbsd
                           clear qbsd
                           by_cases c115 : t228 = true
                           ·subst c115
                            have H1 : (qf.l0 k10 a1 (l0_8.length : Int) (wrap64 (qgw + 1)) a0_0 a0_1 a0_2 a0_3 a0_4 a0_5 a0_6 l0_7 l0_8 l0_9) = some r := by rw [if_pos rfl] at H; exact H
                            clear H
                            have H := H1
                            clear H1
                            have H' := qc.mk H
                            clear H
                            have qbnm : wr.cell? ⟨qfn, 0, none⟩ = some (.int .i64 a0_0) := (qb qfm.out 0).trans rfl
                            have qbl6 : wr.cell? ⟨qfn, 1, none⟩ = some (.int .i64 a0_1) := (qb qfm.out 1).trans rfl
                            have qblg : wr.cell? ⟨qfn, 2, none⟩ = some (.int .i64 a0_2) := (qb qfm.out 2).trans rfl
                            have qbl4 : wr.cell? ⟨qfn, 3, none⟩ = some (.string a0_3) := (qb qfm.out 3).trans rfl
                            have qblm : wr.cell? ⟨qfn, 4, none⟩ = some (.int .i64 a0_4) := (qb qfm.out 4).trans rfl
                            have qbmu : wr.cell? ⟨qfn, 5, none⟩ = some (.int .i64 a0_5) := (qb qfm.out 5).trans rfl
                            have qbmf : wr.cell? ⟨qfn, 6, none⟩ = some (.string a0_6) := (qb qfm.out 6).trans rfl
                            have qbm9 : wr.cell? ⟨qfn, 7, none⟩ = some (.slice A0_7 l0_7.length c0_7) := (qb qfm.out 7).trans rfl
                            have qblw : wr.cell? ⟨qfn, 8, none⟩ = some (.slice A0_8 l0_8.length c0_8) := (qb qfm.out 8).trans rfl
                            have qblq : wr.cell? ⟨qfn, 9, none⟩ = some (.slice A0_9 l0_9.length c0_9) := (qb qfm.out 9).trans rfl
                            have qbnt := qa qfm.out 0
                            have qbme := qa qfm.out 1
                            have qbmm := qa qfm.out 2
                            have qbm1 := qa qfm.out 3
                            have qbm8 := qa qfm.out 4
                            have qblj := qa qfm.out 5
                            have qbnl := qa qfm.out 6
                            have qbmx := qa qfm.out 7
                            have qbml := qa qfm.out 8
                            have qbnd := qa qfm.out 9
                            have p227 : 0 ≤ (qgw : Int) := of_decide_eq_true (by first | (with_reducible assumption) | assumption)
                            have q227 : qgw < (l0_9.length : Int) := of_decide_eq_true (by first | (with_reducible assumption) | assumption)
                            obtain ⟨qbps, qbja, qbgc, e227, qov, qn6, qn4, qn7, qy7, qza⟩ := qd6 qql.out qgw p227 q227
                            cases e227
                            replace qov := (HB.out.cell (World.block_lt_of_cell? w _ qov)).trans qov
                            replace qn6 := (HB.out.cell (World.block_lt_of_cell? w _ qn6)).trans qn6
                            replace qn4 := (HB.out.cell (World.block_lt_of_cell? w _ qn4)).trans qn4
                            replace qn7 := (HB.out.cell (World.block_lt_of_cell? w _ qn7)).trans qn7
                            have qba2 := qc.mk qza
                            have q72 := qc.mk qy7
                            clear qza qy7
                            replace p227 := eq_true p227
                            replace q227 := eq_true q227
                            go_wp2_with (first | ((with_reducible refine qb5 (f := 22) rfl ?_); refine qcj (some 229) rfl rfl Tryd.func22 (by kernel_rfl) rfl #[.agg #[.int .i64 ((qw l0_9 qgw).f0), .int .i64 ((qw l0_9 qgw).f1), .string ((qw l0_9 qgw).f2), .slice qbja ((qw l0_9 qgw).f3).length qbgc]] rfl (by (try simp only [List.map_toArray, List.map_cons, List.map_nil]); first | done | rfl | (simp only [List.length_drop, List.length_take]; rfl)) ?_; (with_reducible refine (qbd.calls k10 ((qw l0_9 qgw).f0) ((qw l0_9 qgw).f1) ((qw l0_9 qgw).f2) _ _ ((qw l0_9 qgw).f3) true _ ?side1 ?side2 A114.out).mono ?_); (case side1 => repeat (first | exact (Kd.qbw qba2.out HB.out) | (with_reducible refine Kd.qb3 ?_ _) | (with_reducible refine Kd.qb1 ?_ _) | (with_reducible refine Kd.qb7 ?_))); (case side2 => exact q72.out); rintro e w117 ⟨rfl, hb⟩; refine ⟨_, rfl, ?_⟩; have n0_ := qc.mk (qbb (g := qfn) (o := .cells #[.int .i64 a0_0, .int .i64 a0_1, .int .i64 a0_2, .string a0_3, .int .i64 a0_4, .int .i64 a0_5, .string a0_6, .slice A0_7 l0_7.length c0_7, .slice A0_8 l0_8.length c0_8, .slice (some qbps) l0_9.length c0_9] 30 (0, 0)) (by (with_reducible repeat (first | refine qj ?_ _ | refine qm ?_ | refine qi ?_ _)); exact qfm.out) hb); have n1_ := qc.mk (q9 (by repeat (first | (with_reducible first | exact HB.out | apply qg | apply qd | apply qh | refine ql ?_ qgm.out) | exact HB.out)) hb); clear qfm; clear HB; have qfm := n0_; have HB := n1_; clear n0_ n1_; (try clear hb); (try clear hb2); (try clear hk); (try clear hi)))
                            go_roundg k10
                            case measure => have := HJ2.out; have := HJ11.out; have := HJ16.out; have := HJ20.out; have := HJ29.out; have := HJ59.out; have := HJ65.out; have := HJ69.out; have := qbfv.out; have := HK10.out; omega
                            case rel => exact ⟨(wrap64 (qgw + 1)), (by first | rfl | (simp; done) | (simp [*]; done)), H', ⟨by have := HJ2.out; have := HJ11.out; have := HJ16.out; have := HJ20.out; have := HJ29.out; have := HJ59.out; have := HJ65.out; have := HJ69.out; have := qbfv.out; have := HK10.out; omega⟩, ⟨by (with_reducible repeat (first | refine qj ?_ _ | refine qm ?_ | refine qi ?_ _)); exact qfm.out⟩, ⟨by repeat (first | (with_reducible first | exact HB.out | apply qg | apply qd | apply qh | refine ql ?_ qgm.out) | exact HB.out)⟩⟩
                           ·replace c115 := Bool.eq_false_iff.mpr c115
                            subst c115
                            have H1 : (some false) = some r := by rw [if_neg (show ¬ (false = true) by decide)] at H; exact H
                            clear H
                            have H := H1
                            clear H1
                            obtain rfl := Option.some.inj H
                            have qbmo : wr.cell? ⟨qfn, 0, none⟩ = some (.int .i64 a0_0) := (qb qfm.out 0).trans rfl
                            have qbm5 : wr.cell? ⟨qfn, 1, none⟩ = some (.int .i64 a0_1) := (qb qfm.out 1).trans rfl
                            have qbmv : wr.cell? ⟨qfn, 2, none⟩ = some (.int .i64 a0_2) := (qb qfm.out 2).trans rfl
                            have qbm3 : wr.cell? ⟨qfn, 3, none⟩ = some (.string a0_3) := (qb qfm.out 3).trans rfl
                            have qbln : wr.cell? ⟨qfn, 4, none⟩ = some (.int .i64 a0_4) := (qb qfm.out 4).trans rfl
                            have qbmh : wr.cell? ⟨qfn, 5, none⟩ = some (.int .i64 a0_5) := (qb qfm.out 5).trans rfl
                            have qbnk : wr.cell? ⟨qfn, 6, none⟩ = some (.string a0_6) := (qb qfm.out 6).trans rfl
                            have qbls : wr.cell? ⟨qfn, 7, none⟩ = some (.slice A0_7 l0_7.length c0_7) := (qb qfm.out 7).trans rfl
                            have qbnq : wr.cell? ⟨qfn, 8, none⟩ = some (.slice A0_8 l0_8.length c0_8) := (qb qfm.out 8).trans rfl
                            have qbli : wr.cell? ⟨qfn, 9, none⟩ = some (.slice A0_9 l0_9.length c0_9) := (qb qfm.out 9).trans rfl
                            have qbmt := qa qfm.out 0
                            have qbl3 := qa qfm.out 1
                            have qbmc := qa qfm.out 2
                            have qbnb := qa qfm.out 3
                            have qbmg := qa qfm.out 4
                            have qbne := qa qfm.out 5
                            have qblv := qa qfm.out 6
                            have qblr := qa qfm.out 7
                            have qbl1 := qa qfm.out 8
                            have qbno := qa qfm.out 9
                            have p227 : 0 ≤ (qgw : Int) := of_decide_eq_true (by first | (with_reducible assumption) | assumption)
                            have q227 : qgw < (l0_9.length : Int) := of_decide_eq_true (by first | (with_reducible assumption) | assumption)
                            obtain ⟨qbps, qbja, qbgc, e227, qov, qn6, qn4, qn7, qy7, qza⟩ := qd6 qql.out qgw p227 q227
                            cases e227
                            replace qov := (HB.out.cell (World.block_lt_of_cell? w _ qov)).trans qov
                            replace qn6 := (HB.out.cell (World.block_lt_of_cell? w _ qn6)).trans qn6
                            replace qn4 := (HB.out.cell (World.block_lt_of_cell? w _ qn4)).trans qn4
                            replace qn7 := (HB.out.cell (World.block_lt_of_cell? w _ qn7)).trans qn7
                            have qba2 := qc.mk qza
                            have q72 := qc.mk qy7
                            clear qza qy7
                            replace p227 := eq_true p227
                            replace q227 := eq_true q227
                            go_wp2_with (first | ((with_reducible refine qb5 (f := 22) rfl ?_); refine qcj (some 229) rfl rfl Tryd.func22 (by kernel_rfl) rfl #[.agg #[.int .i64 ((qw l0_9 qgw).f0), .int .i64 ((qw l0_9 qgw).f1), .string ((qw l0_9 qgw).f2), .slice qbja ((qw l0_9 qgw).f3).length qbgc]] rfl (by (try simp only [List.map_toArray, List.map_cons, List.map_nil]); first | done | rfl | (simp only [List.length_drop, List.length_take]; rfl)) ?_; (with_reducible refine (qbd.calls k10 ((qw l0_9 qgw).f0) ((qw l0_9 qgw).f1) ((qw l0_9 qgw).f2) _ _ ((qw l0_9 qgw).f3) false _ ?side1 ?side2 A114.out).mono ?_); (case side1 => repeat (first | exact (Kd.qbw qba2.out HB.out) | (with_reducible refine Kd.qb3 ?_ _) | (with_reducible refine Kd.qb1 ?_ _) | (with_reducible refine Kd.qb7 ?_))); (case side2 => exact q72.out); rintro e w119 ⟨rfl, hb⟩; refine ⟨_, rfl, ?_⟩; have n0_ := qc.mk (qbb (g := qfn) (o := .cells #[.int .i64 a0_0, .int .i64 a0_1, .int .i64 a0_2, .string a0_3, .int .i64 a0_4, .int .i64 a0_5, .string a0_6, .slice A0_7 l0_7.length c0_7, .slice A0_8 l0_8.length c0_8, .slice (some qbps) l0_9.length c0_9] 30 (0, 0)) (by (with_reducible repeat (first | refine qj ?_ _ | refine qm ?_ | refine qi ?_ _)); exact qfm.out) hb); have n1_ := qc.mk (q9 (by repeat (first | (with_reducible first | exact HB.out | apply qg | apply qd | apply qh | refine ql ?_ qgm.out) | exact HB.out)) hb); clear qfm; clear HB; have qfm := n0_; have HB := n1_; clear n0_ n1_; (try clear hb); (try clear hb2); (try clear hk); (try clear hi)))
                            go_ret
                            exact ⟨by first | rfl | (simp [qx, qy] <;> rfl) | (simp [*, qx, qy] <;> rfl), by repeat (first | (with_reducible first | exact HB.out | apply qg | apply qd | apply qh | refine ql ?_ qgm.out) | exact HB.out)⟩
                          ·rw [if_neg c113] at H
                           exact absurd H (by simp)
                         ·rw [if_neg c112] at H
                          have c112b0 : decide (qgw < (l0_9.length : Int)) = false := decide_eq_false c112
                          clear c112
                          have H' := qc.mk H
                          clear H
                          have qblx : wr.cell? ⟨qfn, 0, none⟩ = some (.int .i64 a0_0) := (qb qfm.out 0).trans rfl
                          have qbnp : wr.cell? ⟨qfn, 1, none⟩ = some (.int .i64 a0_1) := (qb qfm.out 1).trans rfl
                          have qbni : wr.cell? ⟨qfn, 2, none⟩ = some (.int .i64 a0_2) := (qb qfm.out 2).trans rfl
                          have qbnr : wr.cell? ⟨qfn, 3, none⟩ = some (.string a0_3) := (qb qfm.out 3).trans rfl
                          have qbm2 : wr.cell? ⟨qfn, 4, none⟩ = some (.int .i64 a0_4) := (qb qfm.out 4).trans rfl
                          have qbnx : wr.cell? ⟨qfn, 5, none⟩ = some (.int .i64 a0_5) := (qb qfm.out 5).trans rfl
                          have qbmn : wr.cell? ⟨qfn, 6, none⟩ = some (.string a0_6) := (qb qfm.out 6).trans rfl
                          have qble : wr.cell? ⟨qfn, 7, none⟩ = some (.slice A0_7 l0_7.length c0_7) := (qb qfm.out 7).trans rfl
                          have qbnv : wr.cell? ⟨qfn, 8, none⟩ = some (.slice A0_8 l0_8.length c0_8) := (qb qfm.out 8).trans rfl
                          have qbl5 : wr.cell? ⟨qfn, 9, none⟩ = some (.slice A0_9 l0_9.length c0_9) := (qb qfm.out 9).trans rfl
                          have qbl0 := qa qfm.out 0
                          have qbng := qa qfm.out 1
                          have qbmj := qa qfm.out 2
                          have qbmb := qa qfm.out 3
                          have qbnc := qa qfm.out 4
                          have qblt := qa qfm.out 5
                          have qblf := qa qfm.out 6
                          have qbly := qa qfm.out 7
                          have qbm4 := qa qfm.out 8
                          have qbnu := qa qfm.out 9
                          go_wp2
                          go_loopg [11] k10 (fun kq v11 w' => ∃ (qgk : Int), v11 = .int .i64 qgk ∧ qc (qf.l1 kq a1 (l0_8.length : Int) qgk a0_0 a0_1 a0_2 a0_3 a0_4 a0_5 a0_6 l0_7 l0_8 l0_9 = some r) ∧ qc (kq ≤ k10) ∧ qc (w'.heap[qfn]? = some (.cells #[.int .i64 a0_0, .int .i64 a0_1, .int .i64 a0_2, .string a0_3, .int .i64 a0_4, .int .i64 a0_5, .string a0_6, (.slice A0_7 l0_7.length c0_7), (.slice A0_8 l0_8.length c0_8), (.slice A0_9 l0_9.length c0_9)] 30 (0, 0))) ∧ qc (Below w.heap.size w w'))
                          case atStart => exact ⟨(0), (by first | rfl | (simp; done) | (simp [*]; done)), H', ⟨Nat.le_refl _⟩, ⟨by (with_reducible repeat (first | refine qj ?_ _ | refine qm ?_ | refine qi ?_ _)); exact qfm.out⟩, ⟨by repeat (first | (with_reducible first | exact HB.out | apply qg | apply qd | apply qh | refine ql ?_ qgm.out) | exact HB.out)⟩⟩
                          case round =>
                           clear H'
                           (try clear c1); (try clear c2); (try clear p2); (try clear q2); (try clear hx2); (try clear p6); (try clear c11); (try clear c22); (try clear p22); (try clear q22); (try clear hx22); (try clear p64); (try clear c112); (try clear c112b0); (try clear c113); (try clear c113b0); (try clear c115); (try clear qbnm qbl6 qblg qbl4 qblm qbmu qbmf qbm9 qblw qblq); (try clear qbmo qbm5 qbmv qbm3 qbln qbmh qbnk qbls qbnq qbli); (try clear qblx qbnp qbni qbnr qbm2 qbnx qbmn qble qbnv qbl5); (try clear q4u q5t q56); (try clear qzt q2f q2u q1x q5r q21 q4h qz6 q4j q37); (try clear qz4 q5k qz9 q42 qz0 q1o q5q q0x qz8 q3f); (try clear q3i q3w q6n q2m q1w q5l q0y q5u q33 q6m); (try clear q4v q19 q4c q3c q0k q3d q6d qz1 q2i q2k); (try clear qwj qww qwk qwo qwz qwx qwg qwr qwp qwu); (try clear qwv qwy qwt qwn qwm qwi qwh qwl qws qw0); (try clear q28 q02 q1v q5c q1s q0p q1n q48 q36 q5x); (try clear q0i q5m q2v q0n q1q q6c q1a q51 q3l q3a); (try clear qkn qk0 qkr qki qla qk2); (try clear q2g q2a q59 q3x qz7 q1g qzx q0r q3b q2d); (try clear qbnt qbme qbmm qbm1 qbm8 qblj qbnl qbmx qbml qbnd); (try clear qbmt qbl3 qbmc qbnb qbmg qbne qblv qblr qbl1 qbno); (try clear qbl0 qbng qbmj qbmb qbnc qblt qblf qbly qbm4 qbnu); (try clear qk1 qk3 qkh qkc qk9 qke qkf qkw qko qkz); (try clear qg0 qgx qgz qgy qi6 qjh qi4 qjf qje qi8); (try clear qhb qg8 qhe qhc qiq qiu qip qii qim qis); (try clear qjp qka qjn qj7 qjy qju qj4 qj5 qjz qjo); (try clear qhv qh2 qh6 qh0 qj3 qj0 qjt qjv qj6 qj9); (try clear qkm qkt qkx qk6 qol qor qnp qoh qo2 qo4); (try clear qnx qn5 qot qnq qoc qn9 qou qoj qnn qod); (try clear qmf qmk qmn qmd qtn qqb qts qpw qpk qs7); (try clear qqn qtp qsa qtv qpx qq2 qq0 qq6 qsr qqo); (try clear qsk qrd qse qq1 qte qtf qqx qr4 qqv qr9); (try clear qk4 qlc qlb qkv qnr qoz qn0 qo0 qoo qnt); (try clear qr3 qrt qq7 qs9 qtb qqd qsh qqe qs4 qto); (try clear qmh qls qlw qmj qp1 qpm qsy qs5 qrv qso); (try clear qlr ql7 qlt ql2 qpp qpq qs3 qtg qps qth); (try clear qji qi3 qi9 qjc qtk qsc qst qsw qqq qrm); (try clear qru qqm qsl qp3 qqu qqi qqj qrx qsf qro); (try clear ql1 qmi qlq ql4 qrw qrj qtu qqr qs6 qti); (try clear qp5 qs0 qq8 qtz qp7 qqz qp0 qtj qq3 qrs); (try clear qr5 qs8 qp4 qpg qph qtm qpz qrg qpr qrk); (try clear qmb qmm qly qlx qqa qq4 qrz qr8 qp9 qr7); (try clear qt9 qv7 qvs quw qve qv5 qv2 qwa qva quf); (try clear qne qm7 qms qmu qvw qvt qvo qud qur quq); (try clear qwc qu7 qux qvx qt4 qvz quz qug qvy quc); (try clear qui qwd qvv qv4 qx4 qzg qxe qx7 qzl qx6); (try clear qo1 qnu qom qnm qw6 qyk qw4 qy4 qyp qyj); (try clear q4b q1t q5y q5n q4s q6h q4d q0m q0f q2e); (try clear q3y q2y qz3 q4y qzu q6g q3t q26 q0j q0c); (try clear qhj qhl qhm qhk qi2 qix qi0 qi1 qiy qiz); (try clear q5d q41 q3m q46 q5j q1y q05 q0o q0h qzr); (try clear q45 q6f q23 q2x q4q q38 q57 q13 q3g q1m); (try clear q2s q6l q4a q1d q2o q5h q1j q5i q00 q52); (try clear q47 q5e q6b q5f q2h q1b q3j q10 q4w qz2); (try clear q4g q2t q4l q06 q58 q2q q27 q5p q2p q4p); (try clear q3h q2n q3o q40 q55 q1l q30 q3u q18 q0u); (try clear q0q q50 q2w q5g q0v q2b q5b q25 q20 q4o); (try clear qhd qg9 qhf qha qlh qln qlo qll qle qlj); (try clear qov); (try clear qn6); (try clear qn4); (try clear qn7); (try clear p2); (try clear p227); (try clear q227)
                           obtain ⟨qgk, rfl, HA, HK11, qfm, HB⟩ := hrel
                           cases gk with
                           | zero => exact absurd HA.out (by simp [qf.l1])
                           | succ k11 =>
                            have H := HA.out
                            clear HA
                            simp only [qf.l1] at H
                            by_cases c121 : qgk < (l0_8.length : Int)
                            ·rw [if_pos c121] at H
                             have c121b0 : decide (qgk < (l0_8.length : Int)) = true := decide_eq_true c121
                             clear c121
                             by_cases c122 : 0 ≤ qgk
                             ·rw [if_pos c122] at H
                              have c122b0 : decide (0 ≤ qgk) = true := decide_eq_true c122
                              clear c122
                              by_cases c123 : qgk < (l0_8.length : Int)
                              ·rw [if_pos c123] at H
                               have c123b0 : decide (qgk < (l0_8.length : Int)) = true := decide_eq_true c123
                               clear c123
                               replace H := Option.bind_eq_some_iff.mp H
                               obtain ⟨t230, qbrh, H⟩ := H
                               replace H : (if t230 = true then (qf.l1 k11 a1 (l0_8.length : Int) (wrap64 (qgk + 1)) a0_0 a0_1 a0_2 a0_3 a0_4 a0_5 a0_6 l0_7 l0_8 l0_9) else (some false)) = some r := H
                               have A124 := qc.mk qbrh
                               clear qbrh
                               by_cases c125 : t230 = true
                               ·subst c125
                                have H1 : (qf.l1 k11 a1 (l0_8.length : Int) (wrap64 (qgk + 1)) a0_0 a0_1 a0_2 a0_3 a0_4 a0_5 a0_6 l0_7 l0_8 l0_9) = some r := by rw [if_pos rfl] at H; exact H
                                clear H
                                have H := H1
                                clear H1
                                have H' := qc.mk H
                                clear H
                                have qbs3 : wr.cell? ⟨qfn, 0, none⟩ = some (.int .i64 a0_0) := (qb qfm.out 0).trans rfl
                                have qbsu : wr.cell? ⟨qfn, 1, none⟩ = some (.int .i64 a0_1) := (qb qfm.out 1).trans rfl
                                have qbs8 : wr.cell? ⟨qfn, 2, none⟩ = some (.int .i64 a0_2) := (qb qfm.out 2).trans rfl
                                have qbsx : wr.cell? ⟨qfn, 3, none⟩ = some (.string a0_3) := (qb qfm.out 3).trans rfl
                                have qbtk : wr.cell? ⟨qfn, 4, none⟩ = some (.int .i64 a0_4) := (qb qfm.out 4).trans rfl
                                have qbs6 : wr.cell? ⟨qfn, 5, none⟩ = some (.int .i64 a0_5) := (qb qfm.out 5).trans rfl
                                have qbs2 : wr.cell? ⟨qfn, 6, none⟩ = some (.string a0_6) := (qb qfm.out 6).trans rfl
                                have qbtd : wr.cell? ⟨qfn, 7, none⟩ = some (.slice A0_7 l0_7.length c0_7) := (qb qfm.out 7).trans rfl
                                have qbtl : wr.cell? ⟨qfn, 8, none⟩ = some (.slice A0_8 l0_8.length c0_8) := (qb qfm.out 8).trans rfl
                                have qbsy : wr.cell? ⟨qfn, 9, none⟩ = some (.slice A0_9 l0_9.length c0_9) := (qb qfm.out 9).trans rfl
                                have qbsw := qa qfm.out 0
                                have qbsz := qa qfm.out 1
                                have qbs5 := qa qfm.out 2
                                have qbs9 := qa qfm.out 3
                                have qbtc := qa qfm.out 4
                                have qbsq := qa qfm.out 5
                                have qbss := qa qfm.out 6
                                have qbs1 := qa qfm.out 7
                                have qbsv := qa qfm.out 8
                                have qbto := qa qfm.out 9
                                have p229 : 0 ≤ (qgk : Int) := of_decide_eq_true (by first | (with_reducible assumption) | assumption)
                                have q229 : qgk < (l0_8.length : Int) := of_decide_eq_true (by first | (with_reducible assumption) | assumption)
                                obtain ⟨qbqp, qbg3, qbf8, qbjz, qbgu, qbgq, qbk0, e229, qrb, qrc, qry, qpn, qsv, qsg, qpi, qsb, qtr, qrr, qzi, qxk, qxq, qxv, qxs, qxm⟩ := qe3 qop.out qgk p229 q229
                                cases e229
                                replace qrb := (HB.out.cell (World.block_lt_of_cell? w _ qrb)).trans qrb
                                replace qrc := (HB.out.cell (World.block_lt_of_cell? w _ qrc)).trans qrc
                                replace qry := (HB.out.cell (World.block_lt_of_cell? w _ qry)).trans qry
                                replace qpn := (HB.out.cell (World.block_lt_of_cell? w _ qpn)).trans qpn
                                replace qsv := (HB.out.cell (World.block_lt_of_cell? w _ qsv)).trans qsv
                                replace qsg := (HB.out.cell (World.block_lt_of_cell? w _ qsg)).trans qsg
                                replace qpi := (HB.out.cell (World.block_lt_of_cell? w _ qpi)).trans qpi
                                replace qsb := (HB.out.cell (World.block_lt_of_cell? w _ qsb)).trans qsb
                                replace qtr := (HB.out.cell (World.block_lt_of_cell? w _ qtr)).trans qtr
                                replace qrr := (HB.out.cell (World.block_lt_of_cell? w _ qrr)).trans qrr
                                have qbdm := qc.mk qxk
                                have q7p := qc.mk qzi
                                clear qxk qzi
                                have qbdd := qc.mk qxv
                                have qbad := qc.mk qxq
                                clear qxv qxq
                                have qbbt := qc.mk qxm
                                have qbam := qc.mk qxs
                                clear qxm qxs
                                replace p229 := eq_true p229
                                replace q229 := eq_true q229
                                go_wp2_with (first | ((with_reducible refine qb5 (f := 13) rfl ?_); refine qcj (some 243) rfl rfl Tryd.func13 (by kernel_rfl) rfl #[.agg #[.int .i64 ((qp l0_8 qgk).f0), .int .i64 ((qp l0_8 qgk).f1), .int .i64 ((qp l0_8 qgk).f2), .string ((qp l0_8 qgk).f3), .int .i64 ((qp l0_8 qgk).f4.f0), .int .i64 ((qp l0_8 qgk).f4.f1), .string ((qp l0_8 qgk).f4.f2), .slice qbg3 ((qp l0_8 qgk).f4.f3).length qbf8, .slice qbjz ((qp l0_8 qgk).f5).length qbgu, .slice qbgq ((qp l0_8 qgk).f6).length qbk0], .int .i64 (wrap64 (a1 + 1))] rfl (by (try simp only [List.map_toArray, List.map_cons, List.map_nil]); first | done | rfl | (simp only [List.length_drop, List.length_take]; rfl)) ?_; (with_reducible refine (ih k11 (by have := HJ2.out; have := HJ11.out; have := HJ16.out; have := HJ20.out; have := HJ29.out; have := HJ59.out; have := HJ65.out; have := HJ69.out; have := qbfv.out; have := HK10.out; have := HK11.out; omega) ((qp l0_8 qgk).f0) ((qp l0_8 qgk).f1) ((qp l0_8 qgk).f2) ((qp l0_8 qgk).f3) ((qp l0_8 qgk).f4.f0) ((qp l0_8 qgk).f4.f1) ((qp l0_8 qgk).f4.f2) _ _ ((qp l0_8 qgk).f4.f3) _ _ ((qp l0_8 qgk).f5) _ _ ((qp l0_8 qgk).f6) (wrap64 (a1 + 1)) true _ ?side1 ?side2 ?side3 ?side4 ?side5 ?side6 A124.out).mono ?_); (case side1 => repeat (first | exact (Kd.qbw qbdm.out HB.out) | (with_reducible refine Kd.qb3 ?_ _) | (with_reducible refine Kd.qb1 ?_ _) | (with_reducible refine Kd.qb7 ?_))); (case side2 => exact q7p.out); (case side3 => repeat (first | exact (Kd.qbw qbdd.out HB.out) | (with_reducible refine Kd.qb3 ?_ _) | (with_reducible refine Kd.qb1 ?_ _) | (with_reducible refine Kd.qb7 ?_))); (case side4 => exact qbad.out); (case side5 => repeat (first | exact (Kd.qbw qbbt.out HB.out) | (with_reducible refine Kd.qb3 ?_ _) | (with_reducible refine Kd.qb1 ?_ _) | (with_reducible refine Kd.qb7 ?_))); (case side6 => exact qbam.out); rintro e w127 ⟨rfl, hb⟩; refine ⟨_, rfl, ?_⟩; have n0_ := qc.mk (qbb (g := qfn) (o := .cells #[.int .i64 a0_0, .int .i64 a0_1, .int .i64 a0_2, .string a0_3, .int .i64 a0_4, .int .i64 a0_5, .string a0_6, .slice A0_7 l0_7.length c0_7, .slice (some qbqp) l0_8.length c0_8, .slice A0_9 l0_9.length c0_9] 30 (0, 0)) (by (with_reducible repeat (first | refine qj ?_ _ | refine qm ?_ | refine qi ?_ _)); exact qfm.out) hb); have n1_ := qc.mk (q9 (by repeat (first | (with_reducible first | exact HB.out | apply qg | apply qd | apply qh | refine ql ?_ qgm.out) | exact HB.out)) hb); clear qfm; clear HB; have qfm := n0_; have HB := n1_; clear n0_ n1_; (try clear hb); (try clear hb2); (try clear hk); (try clear hi)))
                                go_roundg k11
                                case measure => have := HJ2.out; have := HJ11.out; have := HJ16.out; have := HJ20.out; have := HJ29.out; have := HJ59.out; have := HJ65.out; have := HJ69.out; have := qbfv.out; have := HK10.out; have := HK11.out; omega
                                case rel => exact ⟨(wrap64 (qgk + 1)), (by first | rfl | (simp; done) | (simp [*]; done)), H', ⟨by have := HJ2.out; have := HJ11.out; have := HJ16.out; have := HJ20.out; have := HJ29.out; have := HJ59.out; have := HJ65.out; have := HJ69.out; have := qbfv.out; have := HK10.out; have := HK11.out; omega⟩, ⟨by (with_reducible repeat (first | refine qj ?_ _ | refine qm ?_ | refine qi ?_ _)); exact qfm.out⟩, ⟨by repeat (first | (with_reducible first | exact HB.out | apply qg | apply qd | apply qh | refine ql ?_ qgm.out) | exact HB.out)⟩⟩
                               ·replace c125 := Bool.eq_false_iff.mpr c125
                                subst c125
                                have H1 : (some false) = some r := by rw [if_neg (show ¬ (false = true) by decide)] at H; exact H
                                clear H
                                have H := H1
                                clear H1
                                obtain rfl := Option.some.inj H
                                have qbs0 : wr.cell? ⟨qfn, 0, none⟩ = some (.int .i64 a0_0) := (qb qfm.out 0).trans rfl
                                have qbs4 : wr.cell? ⟨qfn, 1, none⟩ = some (.int .i64 a0_1) := (qb qfm.out 1).trans rfl
                                have qbth : wr.cell? ⟨qfn, 2, none⟩ = some (.int .i64 a0_2) := (qb qfm.out 2).trans rfl
                                have qbsr : wr.cell? ⟨qfn, 3, none⟩ = some (.string a0_3) := (qb qfm.out 3).trans rfl
                                have qbtb : wr.cell? ⟨qfn, 4, none⟩ = some (.int .i64 a0_4) := (qb qfm.out 4).trans rfl
                                have qbtj : wr.cell? ⟨qfn, 5, none⟩ = some (.int .i64 a0_5) := (qb qfm.out 5).trans rfl
                                have qbst : wr.cell? ⟨qfn, 6, none⟩ = some (.string a0_6) := (qb qfm.out 6).trans rfl
                                have qbtp : wr.cell? ⟨qfn, 7, none⟩ = some (.slice A0_7 l0_7.length c0_7) := (qb qfm.out 7).trans rfl
                                have qbts : wr.cell? ⟨qfn, 8, none⟩ = some (.slice A0_8 l0_8.length c0_8) := (qb qfm.out 8).trans rfl
                                have qbte : wr.cell? ⟨qfn, 9, none⟩ = some (.slice A0_9 l0_9.length c0_9) := (qb qfm.out 9).trans rfl
                                have qbtm := qa qfm.out 0
                                have qbtn := qa qfm.out 1
                                have qbtg := qa qfm.out 2
                                have qbs7 := qa qfm.out 3
                                have qbsp := qa qfm.out 4
                                have qbta := qa qfm.out 5
                                have qbtq := qa qfm.out 6
                                have qbti := qa qfm.out 7
                                have qbtr := qa qfm.out 8
                                have qbtf := qa qfm.out 9
                                have p229 : 0 ≤ (qgk : Int) := of_decide_eq_true (by first | (with_reducible assumption) | assumption)
                                have q229 : qgk < (l0_8.length : Int) := of_decide_eq_true (by first | (with_reducible assumption) | assumption)
                                obtain ⟨qbqp, qbg3, qbf8, qbjz, qbgu, qbgq, qbk0, e229, qrb, qrc, qry, qpn, qsv, qsg, qpi, qsb, qtr, qrr, qzi, qxk, qxq, qxv, qxs, qxm⟩ := qe3 qop.out qgk p229 q229
                                cases e229
                                replace qrb := (HB.out.cell (World.block_lt_of_cell? w _ qrb)).trans qrb
                                replace qrc := (HB.out.cell (World.block_lt_of_cell? w _ qrc)).trans qrc
                                replace qry := (HB.out.cell (World.block_lt_of_cell? w _ qry)).trans qry
                                replace qpn := (HB.out.cell (World.block_lt_of_cell? w _ qpn)).trans qpn
                                replace qsv := (HB.out.cell (World.block_lt_of_cell? w _ qsv)).trans qsv
                                replace qsg := (HB.out.cell (World.block_lt_of_cell? w _ qsg)).trans qsg
                                replace qpi := (HB.out.cell (World.block_lt_of_cell? w _ qpi)).trans qpi
                                replace qsb := (HB.out.cell (World.block_lt_of_cell? w _ qsb)).trans qsb
                                replace qtr := (HB.out.cell (World.block_lt_of_cell? w _ qtr)).trans qtr
                                replace qrr := (HB.out.cell (World.block_lt_of_cell? w _ qrr)).trans qrr
                                have qbdm := qc.mk qxk
                                have q7p := qc.mk qzi
                                clear qxk qzi
                                have qbdd := qc.mk qxv
                                have qbad := qc.mk qxq
                                clear qxv qxq
                                have qbbt := qc.mk qxm
                                have qbam := qc.mk qxs
                                clear qxm qxs
                                replace p229 := eq_true p229
                                replace q229 := eq_true q229
                                go_wp2_with (first | ((with_reducible refine qb5 (f := 13) rfl ?_); refine qcj (some 243) rfl rfl Tryd.func13 (by kernel_rfl) rfl #[.agg #[.int .i64 ((qp l0_8 qgk).f0), .int .i64 ((qp l0_8 qgk).f1), .int .i64 ((qp l0_8 qgk).f2), .string ((qp l0_8 qgk).f3), .int .i64 ((qp l0_8 qgk).f4.f0), .int .i64 ((qp l0_8 qgk).f4.f1), .string ((qp l0_8 qgk).f4.f2), .slice qbg3 ((qp l0_8 qgk).f4.f3).length qbf8, .slice qbjz ((qp l0_8 qgk).f5).length qbgu, .slice qbgq ((qp l0_8 qgk).f6).length qbk0], .int .i64 (wrap64 (a1 + 1))] rfl (by (try simp only [List.map_toArray, List.map_cons, List.map_nil]); first | done | rfl | (simp only [List.length_drop, List.length_take]; rfl)) ?_; (with_reducible refine (ih k11 (by have := HJ2.out; have := HJ11.out; have := HJ16.out; have := HJ20.out; have := HJ29.out; have := HJ59.out; have := HJ65.out; have := HJ69.out; have := qbfv.out; have := HK10.out; have := HK11.out; omega) ((qp l0_8 qgk).f0) ((qp l0_8 qgk).f1) ((qp l0_8 qgk).f2) ((qp l0_8 qgk).f3) ((qp l0_8 qgk).f4.f0) ((qp l0_8 qgk).f4.f1) ((qp l0_8 qgk).f4.f2) _ _ ((qp l0_8 qgk).f4.f3) _ _ ((qp l0_8 qgk).f5) _ _ ((qp l0_8 qgk).f6) (wrap64 (a1 + 1)) false _ ?side1 ?side2 ?side3 ?side4 ?side5 ?side6 A124.out).mono ?_); (case side1 => repeat (first | exact (Kd.qbw qbdm.out HB.out) | (with_reducible refine Kd.qb3 ?_ _) | (with_reducible refine Kd.qb1 ?_ _) | (with_reducible refine Kd.qb7 ?_))); (case side2 => exact q7p.out); (case side3 => repeat (first | exact (Kd.qbw qbdd.out HB.out) | (with_reducible refine Kd.qb3 ?_ _) | (with_reducible refine Kd.qb1 ?_ _) | (with_reducible refine Kd.qb7 ?_))); (case side4 => exact qbad.out); (case side5 => repeat (first | exact (Kd.qbw qbbt.out HB.out) | (with_reducible refine Kd.qb3 ?_ _) | (with_reducible refine Kd.qb1 ?_ _) | (with_reducible refine Kd.qb7 ?_))); (case side6 => exact qbam.out); rintro e w129 ⟨rfl, hb⟩; refine ⟨_, rfl, ?_⟩; have n0_ := qc.mk (qbb (g := qfn) (o := .cells #[.int .i64 a0_0, .int .i64 a0_1, .int .i64 a0_2, .string a0_3, .int .i64 a0_4, .int .i64 a0_5, .string a0_6, .slice A0_7 l0_7.length c0_7, .slice (some qbqp) l0_8.length c0_8, .slice A0_9 l0_9.length c0_9] 30 (0, 0)) (by (with_reducible repeat (first | refine qj ?_ _ | refine qm ?_ | refine qi ?_ _)); exact qfm.out) hb); have n1_ := qc.mk (q9 (by repeat (first | (with_reducible first | exact HB.out | apply qg | apply qd | apply qh | refine ql ?_ qgm.out) | exact HB.out)) hb); clear qfm; clear HB; have qfm := n0_; have HB := n1_; clear n0_ n1_; (try clear hb); (try clear hb2); (try clear hk); (try clear hi)))
                                go_ret
                                exact ⟨by first | rfl | (simp [qx, qy] <;> rfl) | (simp [*, qx, qy] <;> rfl), by repeat (first | (with_reducible first | exact HB.out | apply qg | apply qd | apply qh | refine ql ?_ qgm.out) | exact HB.out)⟩
                              ·rw [if_neg c123] at H
                               exact absurd H (by simp)
                             ·rw [if_neg c122] at H
                              exact absurd H (by simp)
                            ·rw [if_neg c121] at H
                             have c121b0 : decide (qgk < (l0_8.length : Int)) = false := decide_eq_false c121
                             clear c121
                             obtain rfl := Option.some.inj H
                             go_wp2
                             go_ret
                             exact ⟨by first | rfl | (simp [qx, qy] <;> rfl) | (simp [*, qx, qy] <;> rfl), by repeat (first | (with_reducible first | exact HB.out | apply qg | apply qd | apply qh | refine ql ?_ qgm.out) | exact HB.out)⟩
end Go.Proofs.YtpgkhmdfddejfaaDoor.PV
end
