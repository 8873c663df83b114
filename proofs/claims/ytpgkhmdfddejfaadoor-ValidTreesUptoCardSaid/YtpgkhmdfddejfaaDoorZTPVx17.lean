import Derived.Test.YtpgkhmdfddejfaaDoorZTPVx0
section
namespace Go.Proofs.YtpgkhmdfddejfaaDoor.PV
open Go.RowKit Go.Proofs.YtpgkhmdfddejfaaDoorW.PrintWords Go.Proofs.YtpgkhmdfddejfaaDoorW.PrintLast Go.Proofs.YtpgkhmdfddejfaaDoorW.PrintMore
attribute [local go_sem] qcw qcv qdb qda qcr qcq qcu qcx   -- for this text's walks alone
set_option linter.unusedVariables false
set_option linter.unusedSimpArgs false
mutual
def qbi.j0 : Nat → Int → Bool → Int → Int → Int → ByteArray → Int → Int → ByteArray → List (S27) → List (S30) → List (S27) → Option (Bool)
 | 0, _, _, _, _, _, _, _, _, _, _, _, _ => none
 | k + 1, x1, x13, q7l, qbcm, qbac, q7t, qbaf, q96, q8c, qbdo, qie, qbaj => if x13 = true then (some true) else (qbi.l0 k x1 0 q7l qbcm qbac q7t qbaf q96 q8c qbdo qie qbaj)
def qbi.l0 : Nat → Int → Int → Int → Int → Int → ByteArray → Int → Int → ByteArray → List (S27) → List (S30) → List (S27) → Option (Bool)
 | 0, _, _, _, _, _, _, _, _, _, _, _, _ => none
 | k + 1, x1, x5, q7l, qbcm, qbac, q7t, qbaf, q96, q8c, qbdo, qie, qbaj => if x5 < (qie.length : Int) then (if 0 ≤ x5 then ((qbi.f k ((qp qie x5).f0) ((qp qie x5).f1) ((qp qie x5).f2) ((qp qie x5).f3) ((qp qie x5).f4.f0) ((qp qie x5).f4.f1) ((qp qie x5).f4.f2) ((qp qie x5).f4.f3) ((qp qie x5).f5) ((qp qie x5).f6) (wrap64 (x1 + 1))).bind fun t234 => (if t234 = true then (some true) else (qbi.l0 k x1 (wrap64 (x5 + 1)) q7l qbcm qbac q7t qbaf q96 q8c qbdo qie qbaj))) else (none)) else (some false)
def qbi.f : Nat → Int → Int → Int → ByteArray → Int → Int → ByteArray → List (S27) → List (S30) → List (S27) → Int → Option (Bool)
 | 0, _, _, _, _, _, _, _, _, _, _, _ => none
 | k + 1, a0_0, a0_1, a0_2, a0_3, a0_4, a0_5, a0_6, l0_7, l0_8, l0_9, a1 => if a1 > 45 then (qbi.j0 k a1 true a0_0 a0_1 a0_2 a0_3 a0_4 a0_5 a0_6 l0_7 l0_8 l0_9) else (qbi.j0 k a1 (decide ((l0_8.length : Int) > 20)) a0_0 a0_1 a0_2 a0_3 a0_4 a0_5 a0_6 l0_7 l0_8 l0_9)
end
theorem qbi.qcg : ∀ k, (∀ y0 y1 y2 y3 y4 y5 y6 y7 y8 y9 y10, LeO (qbi.f k y0 y1 y2 y3 y4 y5 y6 y7 y8 y9 y10) (qbi.f (k + 1) y0 y1 y2 y3 y4 y5 y6 y7 y8 y9 y10)) ∧ (∀ y0 y1 y2 y3 y4 y5 y6 y7 y8 y9 y10 y11, LeO (qbi.j0 k y0 y1 y2 y3 y4 y5 y6 y7 y8 y9 y10 y11) (qbi.j0 (k + 1) y0 y1 y2 y3 y4 y5 y6 y7 y8 y9 y10 y11)) ∧ (∀ y0 y1 y2 y3 y4 y5 y6 y7 y8 y9 y10 y11, LeO (qbi.l0 k y0 y1 y2 y3 y4 y5 y6 y7 y8 y9 y10 y11) (qbi.l0 (k + 1) y0 y1 y2 y3 y4 y5 y6 y7 y8 y9 y10 y11))
 | 0 => ⟨fun _ _ _ _ _ _ _ _ _ _ _ r h => by simp [qbi.f] at h, fun _ _ _ _ _ _ _ _ _ _ _ _ r h => by simp [qbi.j0] at h, fun _ _ _ _ _ _ _ _ _ _ _ _ r h => by simp [qbi.l0] at h⟩
 | k + 1 => by
  obtain ⟨ih0, ih1, ih2⟩ := qbi.qcg k
  refine ⟨?_, ?_, ?_⟩
  ·intro y0 y1 y2 y3 y4 y5 y6 y7 y8 y9 y10
   unfold qbi.f
   repeat' first
   | (with_reducible exact ih0 _ _ _ _ _ _ _ _ _ _ _)
   | (with_reducible exact ih1 _ _ _ _ _ _ _ _ _ _ _ _)
   | (with_reducible exact ih2 _ _ _ _ _ _ _ _ _ _ _ _)
   | (with_reducible exact LeO.refl _)
   | (with_reducible exact LeO.none _)
   | (with_reducible refine LeO.ite ?_ ?_)
   | (with_reducible refine LeO.bind ?_ (fun _ => ?_))
   | exact ih0 _ _ _ _ _ _ _ _ _ _ _
   | exact ih1 _ _ _ _ _ _ _ _ _ _ _ _
   | exact ih2 _ _ _ _ _ _ _ _ _ _ _ _
   | exact LeO.none _
   | refine LeO.ite ?_ ?_
   | refine LeO.bind ?_ (fun _ => ?_)
  ·intro y0 y1 y2 y3 y4 y5 y6 y7 y8 y9 y10 y11
   unfold qbi.j0
   repeat' first
   | (with_reducible exact ih0 _ _ _ _ _ _ _ _ _ _ _)
   | (with_reducible exact ih1 _ _ _ _ _ _ _ _ _ _ _ _)
   | (with_reducible exact ih2 _ _ _ _ _ _ _ _ _ _ _ _)
   | (with_reducible exact LeO.refl _)
   | (with_reducible exact LeO.none _)
   | (with_reducible refine LeO.ite ?_ ?_)
   | (with_reducible refine LeO.bind ?_ (fun _ => ?_))
   | exact ih0 _ _ _ _ _ _ _ _ _ _ _
   | exact ih1 _ _ _ _ _ _ _ _ _ _ _ _
   | exact ih2 _ _ _ _ _ _ _ _ _ _ _ _
   | exact LeO.none _
   | refine LeO.ite ?_ ?_
   | refine LeO.bind ?_ (fun _ => ?_)
  ·intro y0 y1 y2 y3 y4 y5 y6 y7 y8 y9 y10 y11
   unfold qbi.l0
   repeat' first
   | (with_reducible exact ih0 _ _ _ _ _ _ _ _ _ _ _)
   | (with_reducible exact ih1 _ _ _ _ _ _ _ _ _ _ _ _)
   | (with_reducible exact ih2 _ _ _ _ _ _ _ _ _ _ _ _)
   | (with_reducible exact LeO.refl _)
   | (with_reducible exact LeO.none _)
   | (with_reducible refine LeO.ite ?_ ?_)
   | (with_reducible refine LeO.bind ?_ (fun _ => ?_))
   | exact ih0 _ _ _ _ _ _ _ _ _ _ _
   | exact ih1 _ _ _ _ _ _ _ _ _ _ _ _
   | exact ih2 _ _ _ _ _ _ _ _ _ _ _ _
   | exact LeO.none _
   | refine LeO.ite ?_ ?_
   | refine LeO.bind ?_ (fun _ => ?_)
theorem qbi.mono : ∀ a0 a1 a2 a3 a4 a5 a6 a7 a8 a9 a10 k, LeO (qbi.f k a0 a1 a2 a3 a4 a5 a6 a7 a8 a9 a10) (qbi.f (k + 1) a0 a1 a2 a3 a4 a5 a6 a7 a8 a9 a10) := by
 intro a0 a1 a2 a3 a4 a5 a6 a7 a8 a9 a10 k
 obtain ⟨ih0, ih1, ih2⟩ := qbi.qcg k
 exact ih0 a0 a1 a2 a3 a4 a5 a6 a7 a8 a9 a10
set_option maxHeartbeats 8000000 in
set_option maxRecDepth 100000 in
theorem qbi.calls (k : Nat) : ∀ (a0_0 : Int) (a0_1 : Int) (a0_2 : Int) (a0_3 : ByteArray) (a0_4 : Int) (a0_5 : Int) (a0_6 : ByteArray) (A0_7 : Option Addr) (c0_7 : Nat) (l0_7 : List (S27)) (A0_8 : Option Addr) (c0_8 : Nat) (l0_8 : List (S30)) (A0_9 : Option Addr) (c0_9 : Nat) (l0_9 : List (S27)) (a1 : Int) (r : Bool) (w : World) (qj8 : Kd.C k27 w A0_7 l0_7.length l0_7) (qjs : l0_7.length ≤ c0_7) (qj2 : Kd.C k30 w A0_8 l0_8.length l0_8) (qjq : l0_8.length ≤ c0_8) (qiw : Kd.C k27 w A0_9 l0_9.length l0_9) (qiv : l0_9.length ≤ c0_9) (h : qbi.f k a0_0 a0_1 a0_2 a0_3 a0_4 a0_5 a0_6 l0_7 l0_8 l0_9 a1 = some r),
  Calls Tryd.prog 10 #[.agg #[.int .i64 a0_0, .int .i64 a0_1, .int .i64 a0_2, .string a0_3, .int .i64 a0_4, .int .i64 a0_5, .string a0_6, .slice A0_7 l0_7.length c0_7, .slice A0_8 l0_8.length c0_8, .slice A0_9 l0_9.length c0_9], .int .i64 a1] w fun e w' => e = .returned (.bool r) ∧ Below w.heap.size w w' := by
 induction k using Nat.strongRecOn with
 | _ k ih =>
 intro a0_0 a0_1 a0_2 a0_3 a0_4 a0_5 a0_6 A0_7 c0_7 l0_7 A0_8 c0_8 l0_8 A0_9 c0_9 l0_9 a1 r w qj8 qjs qj2 qjq qiw qiv h
 cases k with
 | zero => exact absurd h (by simp [qbi.f])
 | succ k =>
 simp only [qbi.f] at h
 have hu30 := Tryd.underlying30
 have qnk := qc.mk qj8
 have qnj := qc.mk qjs
 clear qj8 qjs
 have qop := qc.mk qj2
 have q3e := qc.mk qjq
 clear qj2 qjq
 have qql := qc.mk qiw
 have qzd := qc.mk qiv
 clear qiw qiv
 have HB := qc.mk (Below.refl w.heap.size w)
 have H : (if a1 > 45 then (qbi.j0 k a1 true a0_0 a0_1 a0_2 a0_3 a0_4 a0_5 a0_6 l0_7 l0_8 l0_9) else (qbi.j0 k a1 (decide ((l0_8.length : Int) > 20)) a0_0 a0_1 a0_2 a0_3 a0_4 a0_5 a0_6 l0_7 l0_8 l0_9)) = some r := h
 clear h
 have HC3 := qc.mk H
 clear H
 go_enter Tryd.func10, Tryd.ntmps10
 go_upto_region 1 with (first | ((with_reducible refine qb0 (N := 2) rfl ?_); (try (refine qcc (by rfl) ?_; dsimp only)); refine qby ?hg (N := 2) ?hd (cs := #[.int .i64 a0_0, .int .i64 a0_1, .int .i64 a0_2, .string a0_3, .int .i64 a0_4, .int .i64 a0_5, .string a0_6, .slice A0_7 l0_7.length c0_7, .slice A0_8 l0_8.length c0_8, .slice A0_9 l0_9.length c0_9]) (t := 30) ?hr ?_; (case hd => rfl); (case hg => rfl); (case hr => first | (go_simp; done) | (go_simp; rfl)); intro qg6 hg w4 hbox hb; have n0_ := qc.mk (q9 (by repeat (first | (with_reducible first | exact HB.out | apply qg | apply qd | apply qh) | exact HB.out)) hb); have n1_ := qc.mk (hbox); have n2_ := qc.mk ((by rw [hg]; exact (qba (by repeat (first | (with_reducible first | exact HB.out | apply qg | apply qd | apply qh) | exact HB.out))) : w.heap.size ≤ qg6)); have n3_ := qc.mk ((by rw [hg]; exact (qba (by repeat (first | (with_reducible first | exact HB.out | apply qg | apply qd | apply qh) | exact HB.out))) : w.heap.size ≤ qg6)); clear HB; have HB := n0_; have qgj := n1_; have qbxu := n2_; have q09 := n3_; clear n0_ n1_ n2_ n3_; clear hb hbox hg))
 (try simp only [Act.put, List.setIfInBounds_toArray, List.set_cons_zero, List.set_cons_succ])
 go_cut [13] (fun v13 wc => ∃ (kq : Nat) (qbmw : Bool), v13 = .bool qbmw ∧ qc (qbi.j0 kq a1 qbmw a0_0 a0_1 a0_2 a0_3 a0_4 a0_5 a0_6 l0_7 l0_8 l0_9 = some r) ∧ qc (kq ≤ k) ∧ qc (wc.heap[qg6]? = some (.cells #[.int .i64 a0_0, .int .i64 a0_1, .int .i64 a0_2, .string a0_3, .int .i64 a0_4, .int .i64 a0_5, .string a0_6, (.slice A0_7 l0_7.length c0_7), (.slice A0_8 l0_8.length c0_8), (.slice A0_9 l0_9.length c0_9)] 30 (0, 0))) ∧ qc (Below w.heap.size w wc))
 case first =>
  have H := HC3.out
  clear HC3
  by_cases c5 : a1 > 45
  ·rw [if_pos c5] at H
   have c5b0 : decide (45 < a1) = true := decide_eq_true c5
   clear c5
   (first | rw [c5b0] | (simp only [i64_w, i32_w]; rw [c5b0]) | skip)
   have H' := qc.mk H
   clear H
   go_wp2
   go_meet
   case rel => exact ⟨_, (true), (by first | rfl | (simp; done) | (simp [*]; done)), H', ⟨by first | omega | exact Nat.le_refl _⟩, ⟨by (with_reducible repeat (first | refine qj ?_ _ | refine qm ?_ | refine qi ?_ _)); exact qgj.out⟩, ⟨by repeat (first | (with_reducible first | exact HB.out | apply qg | apply qd | apply qh | refine ql ?_ q09.out) | exact HB.out)⟩⟩
  ·rw [if_neg c5] at H
   have c5b0 : decide (45 < a1) = false := decide_eq_false c5
   clear c5
   (first | rw [c5b0] | (simp only [i64_w, i32_w]; rw [c5b0]) | skip)
   have H' := qc.mk H
   clear H
   have q6s : w4.cell? ⟨qg6, 0, none⟩ = some (.int .i64 a0_0) := (qb qgj.out 0).trans rfl
   have q64 : w4.cell? ⟨qg6, 1, none⟩ = some (.int .i64 a0_1) := (qb qgj.out 1).trans rfl
   have q6w : w4.cell? ⟨qg6, 2, none⟩ = some (.int .i64 a0_2) := (qb qgj.out 2).trans rfl
   have q60 : w4.cell? ⟨qg6, 3, none⟩ = some (.string a0_3) := (qb qgj.out 3).trans rfl
   have qbh6 : w4.cell? ⟨qg6, 4, none⟩ = some (.int .i64 a0_4) := (qb qgj.out 4).trans rfl
   have qbgs : w4.cell? ⟨qg6, 5, none⟩ = some (.int .i64 a0_5) := (qb qgj.out 5).trans rfl
   have qbhm : w4.cell? ⟨qg6, 6, none⟩ = some (.string a0_6) := (qb qgj.out 6).trans rfl
   have qbge : w4.cell? ⟨qg6, 7, none⟩ = some (.slice A0_7 l0_7.length c0_7) := (qb qgj.out 7).trans rfl
   have qbjj : w4.cell? ⟨qg6, 8, none⟩ = some (.slice A0_8 l0_8.length c0_8) := (qb qgj.out 8).trans rfl
   have qblc : w4.cell? ⟨qg6, 9, none⟩ = some (.slice A0_9 l0_9.length c0_9) := (qb qgj.out 9).trans rfl
   have q6v := qa qgj.out 0
   have q6p := qa qgj.out 1
   have q6q := qa qgj.out 2
   have q65 := qa qgj.out 3
   have qbfy := qa qgj.out 4
   have qbkn := qa qgj.out 5
   have qbhg := qa qgj.out 6
   have qbiz := qa qgj.out 7
   have qbld := qa qgj.out 8
   have qbg2 := qa qgj.out 9
   go_wp2
   go_meet
   case rel => exact ⟨_, (decide ((l0_8.length : Int) > 20)), (by first | rfl | (simp; done) | (simp [*]; done)), H', ⟨by first | omega | exact Nat.le_refl _⟩, ⟨by (with_reducible repeat (first | refine qj ?_ _ | refine qm ?_ | refine qi ?_ _)); exact qgj.out⟩, ⟨by repeat (first | (with_reducible first | exact HB.out | apply qg | apply qd | apply qh | refine ql ?_ q09.out) | exact HB.out)⟩⟩
 case rest =>
  clear HC3
  (try clear c1); (try clear p2); (try clear c5); (try clear c5b0); (try clear q6s q64 q6w q60 qbh6 qbgs qbhm qbge qbjj qblc); (try clear q6v q6p q6q q65 qbfy qbkn qbhg qbiz qbld qbg2)
  obtain ⟨kq, qbmw, rfl, HA, HJ2, qgj, HB⟩ := hcut
  cases kq with
  | zero => exact absurd HA.out (by simp [qbi.j0])
  | succ kj2 =>
   have H := HA.out
   clear HA
   simp only [qbi.j0] at H
   by_cases c7 : qbmw = true
   ·subst c7
    have H1 : (some true) = some r := by rw [if_pos rfl] at H; exact H
    clear H
    have H := H1
    clear H1
    obtain rfl := Option.some.inj H
    go_wp2
    go_ret
    exact ⟨by first | rfl | (simp [qx, qy] <;> rfl) | (simp [*, qx, qy] <;> rfl), by repeat (first | (with_reducible first | exact HB.out | apply qg | apply qd | apply qh | refine ql ?_ q09.out) | exact HB.out)⟩
   ·replace c7 := Bool.eq_false_iff.mpr c7
    subst c7
    have H1 : (qbi.l0 kj2 a1 0 a0_0 a0_1 a0_2 a0_3 a0_4 a0_5 a0_6 l0_7 l0_8 l0_9) = some r := by rw [if_neg (show ¬ (false = true) by decide)] at H; exact H
    clear H
    have H := H1
    clear H1
    have H' := qc.mk H
    clear H
    go_wp2
    go_loopg [5] kj2 (fun kq v5 w' => ∃ (x5_2 : Int), v5 = .int .i64 x5_2 ∧ qc (qbi.l0 kq a1 x5_2 a0_0 a0_1 a0_2 a0_3 a0_4 a0_5 a0_6 l0_7 l0_8 l0_9 = some r) ∧ qc (kq ≤ kj2) ∧ qc (w'.heap[qg6]? = some (.cells #[.int .i64 a0_0, .int .i64 a0_1, .int .i64 a0_2, .string a0_3, .int .i64 a0_4, .int .i64 a0_5, .string a0_6, (.slice A0_7 l0_7.length c0_7), (.slice A0_8 l0_8.length c0_8), (.slice A0_9 l0_9.length c0_9)] 30 (0, 0))) ∧ qc (Below w.heap.size w w'))
    case atStart => exact ⟨(0), (by first | rfl | (simp; done) | (simp [*]; done)), H', ⟨Nat.le_refl _⟩, ⟨by (with_reducible repeat (first | refine qj ?_ _ | refine qm ?_ | refine qi ?_ _)); exact qgj.out⟩, ⟨by repeat (first | (with_reducible first | exact HB.out | apply qg | apply qd | apply qh | refine ql ?_ q09.out) | exact HB.out)⟩⟩
    case round =>
     clear H'
     (try clear c1); (try clear p2); (try clear c5); (try clear c5b0); (try clear c7); (try clear q6s q64 q6w q60 qbh6 qbgs qbhm qbge qbjj qblc); (try clear q6v q6p q6q q65 qbfy qbkn qbhg qbiz qbld qbg2); (try clear p2)
     obtain ⟨x5_2, rfl, HA, HK2, qgj, HB⟩ := hrel
     cases gk with
     | zero => exact absurd HA.out (by simp [qbi.l0])
     | succ k2 =>
      have H := HA.out
      clear HA
      simp only [qbi.l0] at H
      by_cases c8 : x5_2 < (l0_8.length : Int)
      ·rw [if_pos c8] at H
       have c8b0 : decide (x5_2 < (l0_8.length : Int)) = true := decide_eq_true c8
       clear c8
       by_cases c9 : 0 ≤ x5_2
       ·rw [if_pos c9] at H
        have c9b0 : decide (0 ≤ x5_2) = true := decide_eq_true c9
        clear c9
        replace H := Option.bind_eq_some_iff.mp H
        obtain ⟨t234, A100, H⟩ := H
        replace H : (if t234 = true then (some true) else (qbi.l0 k2 a1 (wrap64 (x5_2 + 1)) a0_0 a0_1 a0_2 a0_3 a0_4 a0_5 a0_6 l0_7 l0_8 l0_9)) = some r := H
        have A10 := qc.mk A100
        clear A100
        by_cases c11 : t234 = true
        ·subst c11
         have H1 : (some true) = some r := by rw [if_pos rfl] at H; exact H
         clear H
         have H := H1
         clear H1
         obtain rfl := Option.some.inj H
         have qbpp : wr.cell? ⟨qg6, 0, none⟩ = some (.int .i64 a0_0) := (qb qgj.out 0).trans rfl
         have qbpm : wr.cell? ⟨qg6, 1, none⟩ = some (.int .i64 a0_1) := (qb qgj.out 1).trans rfl
         have qbq1 : wr.cell? ⟨qg6, 2, none⟩ = some (.int .i64 a0_2) := (qb qgj.out 2).trans rfl
         have qbo4 : wr.cell? ⟨qg6, 3, none⟩ = some (.string a0_3) := (qb qgj.out 3).trans rfl
         have qbwn : wr.cell? ⟨qg6, 4, none⟩ = some (.int .i64 a0_4) := (qb qgj.out 4).trans rfl
         have qbur : wr.cell? ⟨qg6, 5, none⟩ = some (.int .i64 a0_5) := (qb qgj.out 5).trans rfl
         have qbwm : wr.cell? ⟨qg6, 6, none⟩ = some (.string a0_6) := (qb qgj.out 6).trans rfl
         have qbwr : wr.cell? ⟨qg6, 7, none⟩ = some (.slice A0_7 l0_7.length c0_7) := (qb qgj.out 7).trans rfl
         have qbt7 : wr.cell? ⟨qg6, 8, none⟩ = some (.slice A0_8 l0_8.length c0_8) := (qb qgj.out 8).trans rfl
         have qbva : wr.cell? ⟨qg6, 9, none⟩ = some (.slice A0_9 l0_9.length c0_9) := (qb qgj.out 9).trans rfl
         have qbqj := qa qgj.out 0
         have qbos := qa qgj.out 1
         have qbqg := qa qgj.out 2
         have qbom := qa qgj.out 3
         have qbvg := qa qgj.out 4
         have qbu8 := qa qgj.out 5
         have qbui := qa qgj.out 6
         have qbtu := qa qgj.out 7
         have qbt8 := qa qgj.out 8
         have qbtw := qa qgj.out 9
         have p233 : 0 ≤ (x5_2 : Int) := of_decide_eq_true (by first | (with_reducible assumption) | assumption)
         have q233 : x5_2 < (l0_8.length : Int) := of_decide_eq_true (by first | (with_reducible assumption) | assumption)
         obtain ⟨qbpw, qbjr, qbjo, qbha, qbgb, qbkg, qbh7, e233, qr1, qtq, qpv, qqy, qrh, qpl, qqk, qqw, qtd, qqh, qyl, qy6, qx9, qyr, qyc, qzb⟩ := qe3 qop.out x5_2 p233 q233
         cases e233
         replace qr1 := (HB.out.cell (World.block_lt_of_cell? w _ qr1)).trans qr1
         replace qtq := (HB.out.cell (World.block_lt_of_cell? w _ qtq)).trans qtq
         replace qpv := (HB.out.cell (World.block_lt_of_cell? w _ qpv)).trans qpv
         replace qqy := (HB.out.cell (World.block_lt_of_cell? w _ qqy)).trans qqy
         replace qrh := (HB.out.cell (World.block_lt_of_cell? w _ qrh)).trans qrh
         replace qpl := (HB.out.cell (World.block_lt_of_cell? w _ qpl)).trans qpl
         replace qqk := (HB.out.cell (World.block_lt_of_cell? w _ qqk)).trans qqk
         replace qqw := (HB.out.cell (World.block_lt_of_cell? w _ qqw)).trans qqw
         replace qtd := (HB.out.cell (World.block_lt_of_cell? w _ qtd)).trans qtd
         replace qqh := (HB.out.cell (World.block_lt_of_cell? w _ qqh)).trans qqh
         have q7m := qc.mk qy6
         have qbdr := qc.mk qyl
         clear qy6 qyl
         have q9b := qc.mk qyr
         have q7d := qc.mk qx9
         clear qyr qx9
         have q8i := qc.mk qzb
         have q9x := qc.mk qyc
         clear qzb qyc
         replace p233 := eq_true p233
         replace q233 := eq_true q233
         go_wp2_with (first | ((with_reducible refine qb5 (f := 10) rfl ?_); refine qcj (some 28) rfl rfl Tryd.func10 (by kernel_rfl) rfl #[.agg #[.int .i64 ((qp l0_8 x5_2).f0), .int .i64 ((qp l0_8 x5_2).f1), .int .i64 ((qp l0_8 x5_2).f2), .string ((qp l0_8 x5_2).f3), .int .i64 ((qp l0_8 x5_2).f4.f0), .int .i64 ((qp l0_8 x5_2).f4.f1), .string ((qp l0_8 x5_2).f4.f2), .slice qbjr ((qp l0_8 x5_2).f4.f3).length qbjo, .slice qbha ((qp l0_8 x5_2).f5).length qbgb, .slice qbkg ((qp l0_8 x5_2).f6).length qbh7], .int .i64 (wrap64 (a1 + 1))] rfl (by (try simp only [List.map_toArray, List.map_cons, List.map_nil]); first | done | rfl | (simp only [List.length_drop, List.length_take]; rfl)) ?_; (with_reducible refine (ih k2 (by have := HJ2.out; have := HK2.out; omega) ((qp l0_8 x5_2).f0) ((qp l0_8 x5_2).f1) ((qp l0_8 x5_2).f2) ((qp l0_8 x5_2).f3) ((qp l0_8 x5_2).f4.f0) ((qp l0_8 x5_2).f4.f1) ((qp l0_8 x5_2).f4.f2) _ _ ((qp l0_8 x5_2).f4.f3) _ _ ((qp l0_8 x5_2).f5) _ _ ((qp l0_8 x5_2).f6) (wrap64 (a1 + 1)) true _ ?side1 ?side2 ?side3 ?side4 ?side5 ?side6 A10.out).mono ?_); (case side1 => repeat (first | exact (Kd.qbw q7m.out HB.out) | (with_reducible refine Kd.qb3 ?_ _) | (with_reducible refine Kd.qb1 ?_ _) | (with_reducible refine Kd.qb7 ?_))); (case side2 => exact qbdr.out); (case side3 => repeat (first | exact (Kd.qbw q9b.out HB.out) | (with_reducible refine Kd.qb3 ?_ _) | (with_reducible refine Kd.qb1 ?_ _) | (with_reducible refine Kd.qb7 ?_))); (case side4 => exact q7d.out); (case side5 => repeat (first | exact (Kd.qbw q8i.out HB.out) | (with_reducible refine Kd.qb3 ?_ _) | (with_reducible refine Kd.qb1 ?_ _) | (with_reducible refine Kd.qb7 ?_))); (case side6 => exact q9x.out); rintro e w13 ⟨rfl, hb⟩; refine ⟨_, rfl, ?_⟩; have n0_ := qc.mk (qbb (g := qg6) (o := .cells #[.int .i64 a0_0, .int .i64 a0_1, .int .i64 a0_2, .string a0_3, .int .i64 a0_4, .int .i64 a0_5, .string a0_6, .slice A0_7 l0_7.length c0_7, .slice (some qbpw) l0_8.length c0_8, .slice A0_9 l0_9.length c0_9] 30 (0, 0)) (by (with_reducible repeat (first | refine qj ?_ _ | refine qm ?_ | refine qi ?_ _)); exact qgj.out) hb); have n1_ := qc.mk (q9 (by repeat (first | (with_reducible first | exact HB.out | apply qg | apply qd | apply qh | refine ql ?_ q09.out) | exact HB.out)) hb); clear qgj; clear HB; have qgj := n0_; have HB := n1_; clear n0_ n1_; (try clear hb); (try clear hb2); (try clear hk); (try clear hi)))
         go_ret
         exact ⟨by first | rfl | (simp [qx, qy] <;> rfl) | (simp [*, qx, qy] <;> rfl), by repeat (first | (with_reducible first | exact HB.out | apply qg | apply qd | apply qh | refine ql ?_ q09.out) | exact HB.out)⟩
        ·replace c11 := Bool.eq_false_iff.mpr c11
         subst c11
         have H1 : (qbi.l0 k2 a1 (wrap64 (x5_2 + 1)) a0_0 a0_1 a0_2 a0_3 a0_4 a0_5 a0_6 l0_7 l0_8 l0_9) = some r := by rw [if_neg (show ¬ (false = true) by decide)] at H; exact H
         clear H
         have H := H1
         clear H1
         have H' := qc.mk H
         clear H
         have qbua : wr.cell? ⟨qg6, 0, none⟩ = some (.int .i64 a0_0) := (qb qgj.out 0).trans rfl
         have qbvd : wr.cell? ⟨qg6, 1, none⟩ = some (.int .i64 a0_1) := (qb qgj.out 1).trans rfl
         have qbu1 : wr.cell? ⟨qg6, 2, none⟩ = some (.int .i64 a0_2) := (qb qgj.out 2).trans rfl
         have qbv0 : wr.cell? ⟨qg6, 3, none⟩ = some (.string a0_3) := (qb qgj.out 3).trans rfl
         have qbvm : wr.cell? ⟨qg6, 4, none⟩ = some (.int .i64 a0_4) := (qb qgj.out 4).trans rfl
         have qbu3 : wr.cell? ⟨qg6, 5, none⟩ = some (.int .i64 a0_5) := (qb qgj.out 5).trans rfl
         have qbuq : wr.cell? ⟨qg6, 6, none⟩ = some (.string a0_6) := (qb qgj.out 6).trans rfl
         have qbwf : wr.cell? ⟨qg6, 7, none⟩ = some (.slice A0_7 l0_7.length c0_7) := (qb qgj.out 7).trans rfl
         have qbwg : wr.cell? ⟨qg6, 8, none⟩ = some (.slice A0_8 l0_8.length c0_8) := (qb qgj.out 8).trans rfl
         have qbu2 : wr.cell? ⟨qg6, 9, none⟩ = some (.slice A0_9 l0_9.length c0_9) := (qb qgj.out 9).trans rfl
         have qbt0 := qa qgj.out 0
         have qbvc := qa qgj.out 1
         have qbvh := qa qgj.out 2
         have qbwc := qa qgj.out 3
         have qbvk := qa qgj.out 4
         have qbvv := qa qgj.out 5
         have qbuy := qa qgj.out 6
         have qbt1 := qa qgj.out 7
         have qbuz := qa qgj.out 8
         have qbwk := qa qgj.out 9
         have p233 : 0 ≤ (x5_2 : Int) := of_decide_eq_true (by first | (with_reducible assumption) | assumption)
         have q233 : x5_2 < (l0_8.length : Int) := of_decide_eq_true (by first | (with_reducible assumption) | assumption)
         obtain ⟨qbpw, qbjr, qbjo, qbha, qbgb, qbkg, qbh7, e233, qr1, qtq, qpv, qqy, qrh, qpl, qqk, qqw, qtd, qqh, qyl, qy6, qx9, qyr, qyc, qzb⟩ := qe3 qop.out x5_2 p233 q233
         cases e233
         replace qr1 := (HB.out.cell (World.block_lt_of_cell? w _ qr1)).trans qr1
         replace qtq := (HB.out.cell (World.block_lt_of_cell? w _ qtq)).trans qtq
         replace qpv := (HB.out.cell (World.block_lt_of_cell? w _ qpv)).trans qpv
         replace qqy := (HB.out.cell (World.block_lt_of_cell? w _ qqy)).trans qqy
         replace qrh := (HB.out.cell (World.block_lt_of_cell? w _ qrh)).trans qrh
         replace qpl := (HB.out.cell (World.block_lt_of_cell? w _ qpl)).trans qpl
         replace qqk := (HB.out.cell (World.block_lt_of_cell? w _ qqk)).trans qqk
         replace qqw := (HB.out.cell (World.block_lt_of_cell? w _ qqw)).trans qqw
         replace qtd := (HB.out.cell (World.block_lt_of_cell? w _ qtd)).trans qtd
         replace qqh := (HB.out.cell (World.block_lt_of_cell? w _ qqh)).trans qqh
         have q7m := qc.mk qy6
         have qbdr := qc.mk qyl
         clear qy6 qyl
         have q9b := qc.mk qyr
         have q7d := qc.mk qx9
         clear qyr qx9
         have q8i := qc.mk qzb
         have q9x := qc.mk qyc
         clear qzb qyc
         replace p233 := eq_true p233
         replace q233 := eq_true q233
         go_wp2_with (first | ((with_reducible refine qb5 (f := 10) rfl ?_); refine qcj (some 28) rfl rfl Tryd.func10 (by kernel_rfl) rfl #[.agg #[.int .i64 ((qp l0_8 x5_2).f0), .int .i64 ((qp l0_8 x5_2).f1), .int .i64 ((qp l0_8 x5_2).f2), .string ((qp l0_8 x5_2).f3), .int .i64 ((qp l0_8 x5_2).f4.f0), .int .i64 ((qp l0_8 x5_2).f4.f1), .string ((qp l0_8 x5_2).f4.f2), .slice qbjr ((qp l0_8 x5_2).f4.f3).length qbjo, .slice qbha ((qp l0_8 x5_2).f5).length qbgb, .slice qbkg ((qp l0_8 x5_2).f6).length qbh7], .int .i64 (wrap64 (a1 + 1))] rfl (by (try simp only [List.map_toArray, List.map_cons, List.map_nil]); first | done | rfl | (simp only [List.length_drop, List.length_take]; rfl)) ?_; (with_reducible refine (ih k2 (by have := HJ2.out; have := HK2.out; omega) ((qp l0_8 x5_2).f0) ((qp l0_8 x5_2).f1) ((qp l0_8 x5_2).f2) ((qp l0_8 x5_2).f3) ((qp l0_8 x5_2).f4.f0) ((qp l0_8 x5_2).f4.f1) ((qp l0_8 x5_2).f4.f2) _ _ ((qp l0_8 x5_2).f4.f3) _ _ ((qp l0_8 x5_2).f5) _ _ ((qp l0_8 x5_2).f6) (wrap64 (a1 + 1)) false _ ?side1 ?side2 ?side3 ?side4 ?side5 ?side6 A10.out).mono ?_); (case side1 => repeat (first | exact (Kd.qbw q7m.out HB.out) | (with_reducible refine Kd.qb3 ?_ _) | (with_reducible refine Kd.qb1 ?_ _) | (with_reducible refine Kd.qb7 ?_))); (case side2 => exact qbdr.out); (case side3 => repeat (first | exact (Kd.qbw q9b.out HB.out) | (with_reducible refine Kd.qb3 ?_ _) | (with_reducible refine Kd.qb1 ?_ _) | (with_reducible refine Kd.qb7 ?_))); (case side4 => exact q7d.out); (case side5 => repeat (first | exact (Kd.qbw q8i.out HB.out) | (with_reducible refine Kd.qb3 ?_ _) | (with_reducible refine Kd.qb1 ?_ _) | (with_reducible refine Kd.qb7 ?_))); (case side6 => exact q9x.out); rintro e w15 ⟨rfl, hb⟩; refine ⟨_, rfl, ?_⟩; have n0_ := qc.mk (qbb (g := qg6) (o := .cells #[.int .i64 a0_0, .int .i64 a0_1, .int .i64 a0_2, .string a0_3, .int .i64 a0_4, .int .i64 a0_5, .string a0_6, .slice A0_7 l0_7.length c0_7, .slice (some qbpw) l0_8.length c0_8, .slice A0_9 l0_9.length c0_9] 30 (0, 0)) (by (with_reducible repeat (first | refine qj ?_ _ | refine qm ?_ | refine qi ?_ _)); exact qgj.out) hb); have n1_ := qc.mk (q9 (by repeat (first | (with_reducible first | exact HB.out | apply qg | apply qd | apply qh | refine ql ?_ q09.out) | exact HB.out)) hb); clear qgj; clear HB; have qgj := n0_; have HB := n1_; clear n0_ n1_; (try clear hb); (try clear hb2); (try clear hk); (try clear hi)))
         go_roundg k2
         case measure => have := HJ2.out; have := HK2.out; omega
         case rel => exact ⟨(wrap64 (x5_2 + 1)), (by first | rfl | (simp; done) | (simp [*]; done)), H', ⟨by have := HJ2.out; have := HK2.out; omega⟩, ⟨by (with_reducible repeat (first | refine qj ?_ _ | refine qm ?_ | refine qi ?_ _)); exact qgj.out⟩, ⟨by repeat (first | (with_reducible first | exact HB.out | apply qg | apply qd | apply qh | refine ql ?_ q09.out) | exact HB.out)⟩⟩
       ·rw [if_neg c9] at H
        exact absurd H (by simp)
      ·rw [if_neg c8] at H
       have c8b0 : decide (x5_2 < (l0_8.length : Int)) = false := decide_eq_false c8
       clear c8
       obtain rfl := Option.some.inj H
       have qjb : wr.cell? ⟨qg6, 0, none⟩ = some (.int .i64 a0_0) := (qb qgj.out 0).trans rfl
       have qjd : wr.cell? ⟨qg6, 1, none⟩ = some (.int .i64 a0_1) := (qb qgj.out 1).trans rfl
       have qjg : wr.cell? ⟨qg6, 2, none⟩ = some (.int .i64 a0_2) := (qb qgj.out 2).trans rfl
       have qi7 : wr.cell? ⟨qg6, 3, none⟩ = some (.string a0_3) := (qb qgj.out 3).trans rfl
       have qq9 : wr.cell? ⟨qg6, 4, none⟩ = some (.int .i64 a0_4) := (qb qgj.out 4).trans rfl
       have qq5 : wr.cell? ⟨qg6, 5, none⟩ = some (.int .i64 a0_5) := (qb qgj.out 5).trans rfl
       have qsq : wr.cell? ⟨qg6, 6, none⟩ = some (.string a0_6) := (qb qgj.out 6).trans rfl
       have qqt : wr.cell? ⟨qg6, 7, none⟩ = some (.slice A0_7 l0_7.length c0_7) := (qb qgj.out 7).trans rfl
       have qsx : wr.cell? ⟨qg6, 8, none⟩ = some (.slice A0_8 l0_8.length c0_8) := (qb qgj.out 8).trans rfl
       have qsi : wr.cell? ⟨qg6, 9, none⟩ = some (.slice A0_9 l0_9.length c0_9) := (qb qgj.out 9).trans rfl
       have qhb := qa qgj.out 0
       have qg8 := qa qgj.out 1
       have qhe := qa qgj.out 2
       have qhc := qa qgj.out 3
       have qiq := qa qgj.out 4
       have qiu := qa qgj.out 5
       have qip := qa qgj.out 6
       have qii := qa qgj.out 7
       have qim := qa qgj.out 8
       have qis := qa qgj.out 9
       go_wp2
       go_ret
       exact ⟨by first | rfl | (simp [qx, qy] <;> rfl) | (simp [*, qx, qy] <;> rfl), by repeat (first | (with_reducible first | exact HB.out | apply qg | apply qd | apply qh | refine ql ?_ q09.out) | exact HB.out)⟩
mutual
def qbt.l0 : Nat → Int → Int → Int → Int → Int → ByteArray → Int → Int → ByteArray → List (S27) → List (S30) → List (S27) → Option (Int)
 | 0, _, _, _, _, _, _, _, _, _, _, _, _ => none
 | k + 1, x3, x4, qbpc, qbpz, qbpe, qbo6, qbpq, qbqn, qbqu, qbo3, qjw, qboz => if x4 < (qjw.length : Int) then (if 0 ≤ x4 then ((qbt.f k ((qp qjw x4).f0) ((qp qjw x4).f1) ((qp qjw x4).f2) ((qp qjw x4).f3) ((qp qjw x4).f4.f0) ((qp qjw x4).f4.f1) ((qp qjw x4).f4.f2) ((qp qjw x4).f4.f3) ((qp qjw x4).f5) ((qp qjw x4).f6)).bind fun t237 => (qbt.l0 k (wrap64 (x3 + t237)) (wrap64 (x4 + 1)) qbpc qbpz qbpe qbo6 qbpq qbqn qbqu qbo3 qjw qboz)) else (none)) else (some x3)
def qbt.f : Nat → Int → Int → Int → ByteArray → Int → Int → ByteArray → List (S27) → List (S30) → List (S27) → Option (Int)
 | 0, _, _, _, _, _, _, _, _, _, _ => none
 | k + 1, a0_0, a0_1, a0_2, a0_3, a0_4, a0_5, a0_6, l0_7, l0_8, l0_9 => qbt.l0 k 1 0 a0_0 a0_1 a0_2 a0_3 a0_4 a0_5 a0_6 l0_7 l0_8 l0_9
end
theorem qbt.qcg : ∀ k, (∀ y0 y1 y2 y3 y4 y5 y6 y7 y8 y9, LeO (qbt.f k y0 y1 y2 y3 y4 y5 y6 y7 y8 y9) (qbt.f (k + 1) y0 y1 y2 y3 y4 y5 y6 y7 y8 y9)) ∧ (∀ y0 y1 y2 y3 y4 y5 y6 y7 y8 y9 y10 y11, LeO (qbt.l0 k y0 y1 y2 y3 y4 y5 y6 y7 y8 y9 y10 y11) (qbt.l0 (k + 1) y0 y1 y2 y3 y4 y5 y6 y7 y8 y9 y10 y11))
 | 0 => ⟨fun _ _ _ _ _ _ _ _ _ _ r h => by simp [qbt.f] at h, fun _ _ _ _ _ _ _ _ _ _ _ _ r h => by simp [qbt.l0] at h⟩
 | k + 1 => by
  obtain ⟨ih0, ih1⟩ := qbt.qcg k
  refine ⟨?_, ?_⟩
  ·intro y0 y1 y2 y3 y4 y5 y6 y7 y8 y9
   unfold qbt.f
   repeat' first
   | (with_reducible exact ih0 _ _ _ _ _ _ _ _ _ _)
   | (with_reducible exact ih1 _ _ _ _ _ _ _ _ _ _ _ _)
   | (with_reducible exact LeO.refl _)
   | (with_reducible exact LeO.none _)
   | (with_reducible refine LeO.ite ?_ ?_)
   | (with_reducible refine LeO.bind ?_ (fun _ => ?_))
   | exact ih0 _ _ _ _ _ _ _ _ _ _
   | exact ih1 _ _ _ _ _ _ _ _ _ _ _ _
   | exact LeO.none _
   | refine LeO.ite ?_ ?_
   | refine LeO.bind ?_ (fun _ => ?_)
  ·intro y0 y1 y2 y3 y4 y5 y6 y7 y8 y9 y10 y11
   unfold qbt.l0
   repeat' first
   | (with_reducible exact ih0 _ _ _ _ _ _ _ _ _ _)
   | (with_reducible exact ih1 _ _ _ _ _ _ _ _ _ _ _ _)
   | (with_reducible exact LeO.refl _)
   | (with_reducible exact LeO.none _)
   | (with_reducible refine LeO.ite ?_ ?_)
   | (with_reducible refine LeO.bind ?_ (fun _ => ?_))
   | exact ih0 _ _ _ _ _ _ _ _ _ _
   | exact ih1 _ _ _ _ _ _ _ _ _ _ _ _
   | exact LeO.none _
   | refine LeO.ite ?_ ?_
   | refine LeO.bind ?_ (fun _ => ?_)
theorem qbt.mono : ∀ a0 a1 a2 a3 a4 a5 a6 a7 a8 a9 k, LeO (qbt.f k a0 a1 a2 a3 a4 a5 a6 a7 a8 a9) (qbt.f (k + 1) a0 a1 a2 a3 a4 a5 a6 a7 a8 a9) := by
 intro a0 a1 a2 a3 a4 a5 a6 a7 a8 a9 k
 obtain ⟨ih0, ih1⟩ := qbt.qcg k
 exact ih0 a0 a1 a2 a3 a4 a5 a6 a7 a8 a9
set_option maxHeartbeats 8000000 in
set_option maxRecDepth 100000 in
theorem qbt.calls (k : Nat) : ∀ (a0_0 : Int) (a0_1 : Int) (a0_2 : Int) (a0_3 : ByteArray) (a0_4 : Int) (a0_5 : Int) (a0_6 : ByteArray) (A0_7 : Option Addr) (c0_7 : Nat) (l0_7 : List (S27)) (A0_8 : Option Addr) (c0_8 : Nat) (l0_8 : List (S30)) (A0_9 : Option Addr) (c0_9 : Nat) (l0_9 : List (S27)) (r : Int) (w : World) (qj8 : Kd.C k27 w A0_7 l0_7.length l0_7) (qjs : l0_7.length ≤ c0_7) (qj2 : Kd.C k30 w A0_8 l0_8.length l0_8) (qjq : l0_8.length ≤ c0_8) (qiw : Kd.C k27 w A0_9 l0_9.length l0_9) (qiv : l0_9.length ≤ c0_9) (h : qbt.f k a0_0 a0_1 a0_2 a0_3 a0_4 a0_5 a0_6 l0_7 l0_8 l0_9 = some r),
  Calls Tryd.prog 11 #[.agg #[.int .i64 a0_0, .int .i64 a0_1, .int .i64 a0_2, .string a0_3, .int .i64 a0_4, .int .i64 a0_5, .string a0_6, .slice A0_7 l0_7.length c0_7, .slice A0_8 l0_8.length c0_8, .slice A0_9 l0_9.length c0_9]] w fun e w' => e = .returned (.int .i64 r) ∧ Below w.heap.size w w' := by
 induction k using Nat.strongRecOn with
 | _ k ih =>
 intro a0_0 a0_1 a0_2 a0_3 a0_4 a0_5 a0_6 A0_7 c0_7 l0_7 A0_8 c0_8 l0_8 A0_9 c0_9 l0_9 r w qj8 qjs qj2 qjq qiw qiv h
 cases k with
 | zero => exact absurd h (by simp [qbt.f])
 | succ k =>
 simp only [qbt.f] at h
 have hu30 := Tryd.underlying30
 have qnk := qc.mk qj8
 have qnj := qc.mk qjs
 clear qj8 qjs
 have qop := qc.mk qj2
 have q3e := qc.mk qjq
 clear qj2 qjq
 have qql := qc.mk qiw
 have qzd := qc.mk qiv
 clear qiw qiv
 have HB := qc.mk (Below.refl w.heap.size w)
 have H : (qbt.l0 k 1 0 a0_0 a0_1 a0_2 a0_3 a0_4 a0_5 a0_6 l0_7 l0_8 l0_9) = some r := h
 clear h
 have H' := qc.mk H
 clear H
 go_enter Tryd.func11, Tryd.ntmps11
 go_wp2_with (first | ((with_reducible refine qb0 (N := 1) rfl ?_); refine qby ?hg (N := 1) ?hd (cs := #[.int .i64 a0_0, .int .i64 a0_1, .int .i64 a0_2, .string a0_3, .int .i64 a0_4, .int .i64 a0_5, .string a0_6, .slice A0_7 l0_7.length c0_7, .slice A0_8 l0_8.length c0_8, .slice A0_9 l0_9.length c0_9]) (t := 30) ?hr ?_; (case hd => rfl); (case hg => rfl); (case hr => first | (go_simp; done) | (go_simp; rfl)); intro qkb hg w2 hbox hb; have n0_ := qc.mk (q9 (by repeat (first | (with_reducible first | exact HB.out | apply qg | apply qd | apply qh) | exact HB.out)) hb); have n1_ := qc.mk (hbox); have n2_ := qc.mk ((by rw [hg]; exact (qba (by repeat (first | (with_reducible first | exact HB.out | apply qg | apply qd | apply qh) | exact HB.out))) : w.heap.size ≤ qkb)); have n3_ := qc.mk ((by rw [hg]; exact (qba (by repeat (first | (with_reducible first | exact HB.out | apply qg | apply qd | apply qh) | exact HB.out))) : w.heap.size ≤ qkb)); clear HB; have HB := n0_; have qg5 := n1_; have qbxe := n2_; have qbmi := n3_; clear n0_ n1_ n2_ n3_; clear hb hbox hg))
 go_loopg [3, 4] k (fun kq v3 v4 w' => ∃ (x3_1 : Int) (x4_1 : Int), v3 = .int .i64 x3_1 ∧ v4 = .int .i64 x4_1 ∧ qc (qbt.l0 kq x3_1 x4_1 a0_0 a0_1 a0_2 a0_3 a0_4 a0_5 a0_6 l0_7 l0_8 l0_9 = some r) ∧ qc (kq ≤ k) ∧ qc (w'.heap[qkb]? = some (.cells #[.int .i64 a0_0, .int .i64 a0_1, .int .i64 a0_2, .string a0_3, .int .i64 a0_4, .int .i64 a0_5, .string a0_6, (.slice A0_7 l0_7.length c0_7), (.slice A0_8 l0_8.length c0_8), (.slice A0_9 l0_9.length c0_9)] 30 (0, 0))) ∧ qc (Below w.heap.size w w'))
 case atStart => exact ⟨(1), (0), (by first | rfl | (simp; done) | (simp [*]; done)), (by first | rfl | (simp; done) | (simp [*]; done)), H', ⟨Nat.le_refl _⟩, ⟨by (with_reducible repeat (first | refine qj ?_ _ | refine qm ?_ | refine qi ?_ _)); exact qg5.out⟩, ⟨by repeat (first | (with_reducible first | exact HB.out | apply qg | apply qd | apply qh | refine ql ?_ qbmi.out) | exact HB.out)⟩⟩
 case round =>
  clear H'
  (try clear c1); (try clear p2)
  obtain ⟨x3_1, x4_1, rfl, rfl, HA, HK1, qg5, HB⟩ := hrel
  cases gk with
  | zero => exact absurd HA.out (by simp [qbt.l0])
  | succ k1 =>
   have H := HA.out
   clear HA
   simp only [qbt.l0] at H
   by_cases c3 : x4_1 < (l0_8.length : Int)
   ·rw [if_pos c3] at H
    have c3b0 : decide (x4_1 < (l0_8.length : Int)) = true := decide_eq_true c3
    clear c3
    by_cases c4 : 0 ≤ x4_1
    ·rw [if_pos c4] at H
     have c4b0 : decide (0 ≤ x4_1) = true := decide_eq_true c4
     clear c4
     replace H := Option.bind_eq_some_iff.mp H
     obtain ⟨t237, A50, H⟩ := H
     replace H : (qbt.l0 k1 (wrap64 (x3_1 + t237)) (wrap64 (x4_1 + 1)) a0_0 a0_1 a0_2 a0_3 a0_4 a0_5 a0_6 l0_7 l0_8 l0_9) = some r := H
     have A5 := qc.mk A50
     clear A50
     have H' := qc.mk H
     clear H
     have q6s : wr.cell? ⟨qkb, 0, none⟩ = some (.int .i64 a0_0) := (qb qg5.out 0).trans rfl
     have q64 : wr.cell? ⟨qkb, 1, none⟩ = some (.int .i64 a0_1) := (qb qg5.out 1).trans rfl
     have q6w : wr.cell? ⟨qkb, 2, none⟩ = some (.int .i64 a0_2) := (qb qg5.out 2).trans rfl
     have q60 : wr.cell? ⟨qkb, 3, none⟩ = some (.string a0_3) := (qb qg5.out 3).trans rfl
     have qbh6 : wr.cell? ⟨qkb, 4, none⟩ = some (.int .i64 a0_4) := (qb qg5.out 4).trans rfl
     have qbgs : wr.cell? ⟨qkb, 5, none⟩ = some (.int .i64 a0_5) := (qb qg5.out 5).trans rfl
     have qbhm : wr.cell? ⟨qkb, 6, none⟩ = some (.string a0_6) := (qb qg5.out 6).trans rfl
     have qbge : wr.cell? ⟨qkb, 7, none⟩ = some (.slice A0_7 l0_7.length c0_7) := (qb qg5.out 7).trans rfl
     have qbjj : wr.cell? ⟨qkb, 8, none⟩ = some (.slice A0_8 l0_8.length c0_8) := (qb qg5.out 8).trans rfl
     have qblc : wr.cell? ⟨qkb, 9, none⟩ = some (.slice A0_9 l0_9.length c0_9) := (qb qg5.out 9).trans rfl
     have q6v := qa qg5.out 0
     have q6p := qa qg5.out 1
     have q6q := qa qg5.out 2
     have q65 := qa qg5.out 3
     have qbfy := qa qg5.out 4
     have qbkn := qa qg5.out 5
     have qbhg := qa qg5.out 6
     have qbiz := qa qg5.out 7
     have qbld := qa qg5.out 8
     have qbg2 := qa qg5.out 9
     have p236 : 0 ≤ (x4_1 : Int) := of_decide_eq_true (by first | (with_reducible assumption) | assumption)
     have q236 : x4_1 < (l0_8.length : Int) := of_decide_eq_true (by first | (with_reducible assumption) | assumption)
     obtain ⟨qbt3, qbr2, qbsg, qbrw, qbru, qbsl, qbrs, e236, qbcd, q89, qba7, q8r, q9v, qbb9, qbdj, qbc9, qbbg, q8b, qbkq, qbga, qbf7, qbiy, qbjq, qbkj⟩ := qe3 qop.out x4_1 p236 q236
     cases e236
     replace qbcd := (HB.out.cell (World.block_lt_of_cell? w _ qbcd)).trans qbcd
     replace q89 := (HB.out.cell (World.block_lt_of_cell? w _ q89)).trans q89
     replace qba7 := (HB.out.cell (World.block_lt_of_cell? w _ qba7)).trans qba7
     replace q8r := (HB.out.cell (World.block_lt_of_cell? w _ q8r)).trans q8r
     replace q9v := (HB.out.cell (World.block_lt_of_cell? w _ q9v)).trans q9v
     replace qbb9 := (HB.out.cell (World.block_lt_of_cell? w _ qbb9)).trans qbb9
     replace qbdj := (HB.out.cell (World.block_lt_of_cell? w _ qbdj)).trans qbdj
     replace qbc9 := (HB.out.cell (World.block_lt_of_cell? w _ qbc9)).trans qbc9
     replace qbbg := (HB.out.cell (World.block_lt_of_cell? w _ qbbg)).trans qbbg
     replace q8b := (HB.out.cell (World.block_lt_of_cell? w _ q8b)).trans q8b
     have qbop := qc.mk qbga
     have qbo5 := qc.mk qbkq
     clear qbga qbkq
     have qbp0 := qc.mk qbiy
     have qbok := qc.mk qbf7
     clear qbiy qbf7
     have qbph := qc.mk qbkj
     have qbpt := qc.mk qbjq
     clear qbkj qbjq
     replace p236 := eq_true p236
     replace q236 := eq_true q236
     go_wp2_with (first | ((with_reducible refine qb5 (f := 11) rfl ?_); refine qcj (some 18) rfl rfl Tryd.func11 (by kernel_rfl) rfl #[.agg #[.int .i64 ((qp l0_8 x4_1).f0), .int .i64 ((qp l0_8 x4_1).f1), .int .i64 ((qp l0_8 x4_1).f2), .string ((qp l0_8 x4_1).f3), .int .i64 ((qp l0_8 x4_1).f4.f0), .int .i64 ((qp l0_8 x4_1).f4.f1), .string ((qp l0_8 x4_1).f4.f2), .slice qbr2 ((qp l0_8 x4_1).f4.f3).length qbsg, .slice qbrw ((qp l0_8 x4_1).f5).length qbru, .slice qbsl ((qp l0_8 x4_1).f6).length qbrs]] rfl (by (try simp only [List.map_toArray, List.map_cons, List.map_nil]); first | done | rfl | (simp only [List.length_drop, List.length_take]; rfl)) ?_; (with_reducible refine (ih k1 (by have := HK1.out; omega) ((qp l0_8 x4_1).f0) ((qp l0_8 x4_1).f1) ((qp l0_8 x4_1).f2) ((qp l0_8 x4_1).f3) ((qp l0_8 x4_1).f4.f0) ((qp l0_8 x4_1).f4.f1) ((qp l0_8 x4_1).f4.f2) _ _ ((qp l0_8 x4_1).f4.f3) _ _ ((qp l0_8 x4_1).f5) _ _ ((qp l0_8 x4_1).f6) t237 _ ?side1 ?side2 ?side3 ?side4 ?side5 ?side6 A5.out).mono ?_); (case side1 => repeat (first | exact (Kd.qbw qbop.out HB.out) | (with_reducible refine Kd.qb3 ?_ _) | (with_reducible refine Kd.qb1 ?_ _) | (with_reducible refine Kd.qb7 ?_))); (case side2 => exact qbo5.out); (case side3 => repeat (first | exact (Kd.qbw qbp0.out HB.out) | (with_reducible refine Kd.qb3 ?_ _) | (with_reducible refine Kd.qb1 ?_ _) | (with_reducible refine Kd.qb7 ?_))); (case side4 => exact qbok.out); (case side5 => repeat (first | exact (Kd.qbw qbph.out HB.out) | (with_reducible refine Kd.qb3 ?_ _) | (with_reducible refine Kd.qb1 ?_ _) | (with_reducible refine Kd.qb7 ?_))); (case side6 => exact qbpt.out); rintro e w7 ⟨rfl, hb⟩; refine ⟨_, rfl, ?_⟩; have n0_ := qc.mk (qbb (g := qkb) (o := .cells #[.int .i64 a0_0, .int .i64 a0_1, .int .i64 a0_2, .string a0_3, .int .i64 a0_4, .int .i64 a0_5, .string a0_6, .slice A0_7 l0_7.length c0_7, .slice (some qbt3) l0_8.length c0_8, .slice A0_9 l0_9.length c0_9] 30 (0, 0)) (by (with_reducible repeat (first | refine qj ?_ _ | refine qm ?_ | refine qi ?_ _)); exact qg5.out) hb); have n1_ := qc.mk (q9 (by repeat (first | (with_reducible first | exact HB.out | apply qg | apply qd | apply qh | refine ql ?_ qbmi.out) | exact HB.out)) hb); clear qg5; clear HB; have qg5 := n0_; have HB := n1_; clear n0_ n1_; (try clear hb); (try clear hb2); (try clear hk); (try clear hi)))
     go_roundg k1
     case measure => have := HK1.out; omega
     case rel => exact ⟨(wrap64 (x3_1 + t237)), (wrap64 (x4_1 + 1)), (by first | rfl | (simp; done) | (simp [*]; done)), (by first | rfl | (simp; done) | (simp [*]; done)), H', ⟨by have := HK1.out; omega⟩, ⟨by (with_reducible repeat (first | refine qj ?_ _ | refine qm ?_ | refine qi ?_ _)); exact qg5.out⟩, ⟨by repeat (first | (with_reducible first | exact HB.out | apply qg | apply qd | apply qh | refine ql ?_ qbmi.out) | exact HB.out)⟩⟩
    ·rw [if_neg c4] at H
     exact absurd H (by simp)
   ·rw [if_neg c3] at H
    have c3b0 : decide (x4_1 < (l0_8.length : Int)) = false := decide_eq_false c3
    clear c3
    obtain rfl := Option.some.inj H
    have qbob : wr.cell? ⟨qkb, 0, none⟩ = some (.int .i64 a0_0) := (qb qg5.out 0).trans rfl
    have qbn5 : wr.cell? ⟨qkb, 1, none⟩ = some (.int .i64 a0_1) := (qb qg5.out 1).trans rfl
    have qbnz : wr.cell? ⟨qkb, 2, none⟩ = some (.int .i64 a0_2) := (qb qg5.out 2).trans rfl
    have qboc : wr.cell? ⟨qkb, 3, none⟩ = some (.string a0_3) := (qb qg5.out 3).trans rfl
    have qbw5 : wr.cell? ⟨qkb, 4, none⟩ = some (.int .i64 a0_4) := (qb qg5.out 4).trans rfl
    have qbw7 : wr.cell? ⟨qkb, 5, none⟩ = some (.int .i64 a0_5) := (qb qg5.out 5).trans rfl
    have qbxa : wr.cell? ⟨qkb, 6, none⟩ = some (.string a0_6) := (qb qg5.out 6).trans rfl
    have qbxb : wr.cell? ⟨qkb, 7, none⟩ = some (.slice A0_7 l0_7.length c0_7) := (qb qg5.out 7).trans rfl
    have qbw1 : wr.cell? ⟨qkb, 8, none⟩ = some (.slice A0_8 l0_8.length c0_8) := (qb qg5.out 8).trans rfl
    have qbw8 : wr.cell? ⟨qkb, 9, none⟩ = some (.slice A0_9 l0_9.length c0_9) := (qb qg5.out 9).trans rfl
    have qboe := qa qg5.out 0
    have qbn0 := qa qg5.out 1
    have qboh := qa qg5.out 2
    have qbny := qa qg5.out 3
    have qbw3 := qa qg5.out 4
    have qbw9 := qa qg5.out 5
    have qbxc := qa qg5.out 6
    have qbw4 := qa qg5.out 7
    have qbw6 := qa qg5.out 8
    have qbw2 := qa qg5.out 9
    go_wp2
    go_ret
    exact ⟨by first | rfl | (simp [qx, qy] <;> rfl) | (simp [*, qx, qy] <;> rfl), by repeat (first | (with_reducible first | exact HB.out | apply qg | apply qd | apply qh | refine ql ?_ qbmi.out) | exact HB.out)⟩
end Go.Proofs.YtpgkhmdfddejfaaDoor.PV
end
