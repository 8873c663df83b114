import Derived.Test.YtpgkhmdfddejfaaDoorZTPVx0
import Derived.Test.YtpgkhmdfddejfaaDoorZTPVx3
import Derived.Test.YtpgkhmdfddejfaaDoorZTPVx6
section
namespace Go.Proofs.YtpgkhmdfddejfaaDoor.PV
open Go.RowKit Go.Proofs.YtpgkhmdfddejfaaDoorW.PrintWords Go.Proofs.YtpgkhmdfddejfaaDoorW.PrintLast Go.Proofs.YtpgkhmdfddejfaaDoorW.PrintMore
attribute [local go_sem] qcw qcv qdb qda qcr qcq qcu qcx   -- for this text's walks alone
set_option linter.unusedVariables false
set_option linter.unusedSimpArgs false
mutual
def qbo.j0 : Nat → Bool → Int → Int → Int → ByteArray → Int → Int → ByteArray → List (S27) → List (S30) → List (S27) → Option (Bool)
 | 0, _, _, _, _, _, _, _, _, _, _, _ => none
 | k + 1, x36, qbvl, qbv9, qbvw, qbwl, qbwy, qbuj, qbvt, qbup, qbky, qbv3 => if x36 = true then (some false) else (qbo.l0 k qbky (qbky.length : Int) 0)
def qbo.l0 : Nat → List (S30) → Int → Int → Option (Bool)
 | 0, _, _, _ => none
 | k + 1, x38, x39, x40 => if x40 < x39 then (if 0 ≤ x40 then (if x40 < (x38.length : Int) then ((qbo.f k ((qp x38 x40).f0) ((qp x38 x40).f1) ((qp x38 x40).f2) ((qp x38 x40).f3) ((qp x38 x40).f4.f0) ((qp x38 x40).f4.f1) ((qp x38 x40).f4.f2) ((qp x38 x40).f4.f3) ((qp x38 x40).f5) ((qp x38 x40).f6)).bind fun t176 => (if t176 = true then (qbo.l0 k x38 x39 (wrap64 (x40 + 1))) else (some false))) else (none)) else (none)) else (some true)
def qbo.f : Nat → Int → Int → Int → ByteArray → Int → Int → ByteArray → List (S27) → List (S30) → List (S27) → Option (Bool)
 | 0, _, _, _, _, _, _, _, _, _, _ => none
 | k + 1, a0_0, a0_1, a0_2, a0_3, a0_4, a0_5, a0_6, l0_7, l0_8, l0_9 => if a0_0 < 0 then (qbo.j0 k true a0_0 a0_1 a0_2 a0_3 a0_4 a0_5 a0_6 l0_7 l0_8 l0_9) else (if a0_0 > 15 then (qbo.j0 k true a0_0 a0_1 a0_2 a0_3 a0_4 a0_5 a0_6 l0_7 l0_8 l0_9) else (if a0_0 = 10 then (qbo.j0 k true a0_0 a0_1 a0_2 a0_3 a0_4 a0_5 a0_6 l0_7 l0_8 l0_9) else ((qbz.f k a0_0 (l0_8.length : Int)).bind fun t171 => (if t171 = true then ((qch.f a0_0 a0_1 a0_2 a0_3 a0_4 a0_5 a0_6 l0_7 l0_8 l0_9).bind fun t172 => (if t172 = true then ((qbh.f k a0_0 a0_1 a0_2 a0_3 a0_4 a0_5 a0_6 l0_7 l0_8 l0_9).bind fun t173 => (qbo.j0 k (!t173) a0_0 a0_1 a0_2 a0_3 a0_4 a0_5 a0_6 l0_7 l0_8 l0_9)) else (qbo.j0 k true a0_0 a0_1 a0_2 a0_3 a0_4 a0_5 a0_6 l0_7 l0_8 l0_9))) else (qbo.j0 k true a0_0 a0_1 a0_2 a0_3 a0_4 a0_5 a0_6 l0_7 l0_8 l0_9)))))
end
theorem qbo.qcg : ∀ k, (∀ y0 y1 y2 y3 y4 y5 y6 y7 y8 y9, LeO (qbo.f k y0 y1 y2 y3 y4 y5 y6 y7 y8 y9) (qbo.f (k + 1) y0 y1 y2 y3 y4 y5 y6 y7 y8 y9)) ∧ (∀ y0 y1 y2 y3 y4 y5 y6 y7 y8 y9 y10, LeO (qbo.j0 k y0 y1 y2 y3 y4 y5 y6 y7 y8 y9 y10) (qbo.j0 (k + 1) y0 y1 y2 y3 y4 y5 y6 y7 y8 y9 y10)) ∧ (∀ y0 y1 y2, LeO (qbo.l0 k y0 y1 y2) (qbo.l0 (k + 1) y0 y1 y2))
 | 0 => ⟨fun _ _ _ _ _ _ _ _ _ _ r h => by simp [qbo.f] at h, fun _ _ _ _ _ _ _ _ _ _ _ r h => by simp [qbo.j0] at h, fun _ _ _ r h => by simp [qbo.l0] at h⟩
 | k + 1 => by
  obtain ⟨ih0, ih1, ih2⟩ := qbo.qcg k
  refine ⟨?_, ?_, ?_⟩
  ·intro y0 y1 y2 y3 y4 y5 y6 y7 y8 y9
   unfold qbo.f
   repeat' first
   | (with_reducible exact ih0 _ _ _ _ _ _ _ _ _ _)
   | (with_reducible exact ih1 _ _ _ _ _ _ _ _ _ _ _)
   | (with_reducible exact ih2 _ _ _)
   | (with_reducible exact qbz.mono _ _ _)
   | (with_reducible exact qbh.mono _ _ _ _ _ _ _ _ _ _ _)
   | (with_reducible exact LeO.refl _)
   | (with_reducible exact LeO.none _)
   | (with_reducible refine LeO.ite ?_ ?_)
   | (with_reducible refine LeO.bind ?_ (fun _ => ?_))
   | exact ih0 _ _ _ _ _ _ _ _ _ _
   | exact ih1 _ _ _ _ _ _ _ _ _ _ _
   | exact ih2 _ _ _
   | exact qbz.mono _ _ _
   | exact qbh.mono _ _ _ _ _ _ _ _ _ _ _
   | exact LeO.none _
   | refine LeO.ite ?_ ?_
   | refine LeO.bind ?_ (fun _ => ?_)
  ·intro y0 y1 y2 y3 y4 y5 y6 y7 y8 y9 y10
   unfold qbo.j0
   repeat' first
   | (with_reducible exact ih0 _ _ _ _ _ _ _ _ _ _)
   | (with_reducible exact ih1 _ _ _ _ _ _ _ _ _ _ _)
   | (with_reducible exact ih2 _ _ _)
   | (with_reducible exact qbz.mono _ _ _)
   | (with_reducible exact qbh.mono _ _ _ _ _ _ _ _ _ _ _)
   | (with_reducible exact LeO.refl _)
   | (with_reducible exact LeO.none _)
   | (with_reducible refine LeO.ite ?_ ?_)
   | (with_reducible refine LeO.bind ?_ (fun _ => ?_))
   | exact ih0 _ _ _ _ _ _ _ _ _ _
   | exact ih1 _ _ _ _ _ _ _ _ _ _ _
   | exact ih2 _ _ _
   | exact qbz.mono _ _ _
   | exact qbh.mono _ _ _ _ _ _ _ _ _ _ _
   | exact LeO.none _
   | refine LeO.ite ?_ ?_
   | refine LeO.bind ?_ (fun _ => ?_)
  ·intro y0 y1 y2
   unfold qbo.l0
   repeat' first
   | (with_reducible exact ih0 _ _ _ _ _ _ _ _ _ _)
   | (with_reducible exact ih1 _ _ _ _ _ _ _ _ _ _ _)
   | (with_reducible exact ih2 _ _ _)
   | (with_reducible exact qbz.mono _ _ _)
   | (with_reducible exact qbh.mono _ _ _ _ _ _ _ _ _ _ _)
   | (with_reducible exact LeO.refl _)
   | (with_reducible exact LeO.none _)
   | (with_reducible refine LeO.ite ?_ ?_)
   | (with_reducible refine LeO.bind ?_ (fun _ => ?_))
   | exact ih0 _ _ _ _ _ _ _ _ _ _
   | exact ih1 _ _ _ _ _ _ _ _ _ _ _
   | exact ih2 _ _ _
   | exact qbz.mono _ _ _
   | exact qbh.mono _ _ _ _ _ _ _ _ _ _ _
   | exact LeO.none _
   | refine LeO.ite ?_ ?_
   | refine LeO.bind ?_ (fun _ => ?_)
theorem qbo.mono : ∀ a0 a1 a2 a3 a4 a5 a6 a7 a8 a9 k, LeO (qbo.f k a0 a1 a2 a3 a4 a5 a6 a7 a8 a9) (qbo.f (k + 1) a0 a1 a2 a3 a4 a5 a6 a7 a8 a9) := by
 intro a0 a1 a2 a3 a4 a5 a6 a7 a8 a9 k
 obtain ⟨ih0, ih1, ih2⟩ := qbo.qcg k
 exact ih0 a0 a1 a2 a3 a4 a5 a6 a7 a8 a9
set_option maxHeartbeats 8000000 in
set_option maxRecDepth 100000 in
theorem qbo.calls (k : Nat) : ∀ (a0_0 : Int) (a0_1 : Int) (a0_2 : Int) (a0_3 : ByteArray) (a0_4 : Int) (a0_5 : Int) (a0_6 : ByteArray) (A0_7 : Option Addr) (c0_7 : Nat) (l0_7 : List (S27)) (A0_8 : Option Addr) (c0_8 : Nat) (l0_8 : List (S30)) (A0_9 : Option Addr) (c0_9 : Nat) (l0_9 : List (S27)) (r : Bool) (w : World) (qj8 : Kd.C k27 w A0_7 l0_7.length l0_7) (qjs : l0_7.length ≤ c0_7) (qj2 : Kd.C k30 w A0_8 l0_8.length l0_8) (qjq : l0_8.length ≤ c0_8) (qiw : Kd.C k27 w A0_9 l0_9.length l0_9) (qiv : l0_9.length ≤ c0_9) (hG : Lay w) (h : qbo.f k a0_0 a0_1 a0_2 a0_3 a0_4 a0_5 a0_6 l0_7 l0_8 l0_9 = some r),
  Calls Tryd.prog 43 #[.agg #[.int .i64 a0_0, .int .i64 a0_1, .int .i64 a0_2, .string a0_3, .int .i64 a0_4, .int .i64 a0_5, .string a0_6, .slice A0_7 l0_7.length c0_7, .slice A0_8 l0_8.length c0_8, .slice A0_9 l0_9.length c0_9]] w fun e w' => e = .returned (.bool r) ∧ Below w.heap.size w w' := by
 induction k using Nat.strongRecOn with
 | _ k ih =>
 intro a0_0 a0_1 a0_2 a0_3 a0_4 a0_5 a0_6 A0_7 c0_7 l0_7 A0_8 c0_8 l0_8 A0_9 c0_9 l0_9 r w qj8 qjs qj2 qjq qiw qiv hG h
 cases k with
 | zero => exact absurd h (by simp [qbo.f])
 | succ k =>
 simp only [qbo.f] at h
 have hu30 := Tryd.underlying30
 have qnk := qc.mk qj8
 have qnj := qc.mk qjs
 clear qj8 qjs
 have qop := qc.mk qj2
 have q3e := qc.mk qjq
 clear qj2 qjq
 have qql := qc.mk qiw
 have qzd := qc.mk qiv
 clear qiw qiv
 have HB := qc.mk (Below.refl w.heap.size w)
 have HLAY := qc.mk hG
 clear hG
 have H : (if a0_0 < 0 then (qbo.j0 k true a0_0 a0_1 a0_2 a0_3 a0_4 a0_5 a0_6 l0_7 l0_8 l0_9) else (if a0_0 > 15 then (qbo.j0 k true a0_0 a0_1 a0_2 a0_3 a0_4 a0_5 a0_6 l0_7 l0_8 l0_9) else (if a0_0 = 10 then (qbo.j0 k true a0_0 a0_1 a0_2 a0_3 a0_4 a0_5 a0_6 l0_7 l0_8 l0_9) else ((qbz.f k a0_0 (l0_8.length : Int)).bind fun t171 => (if t171 = true then ((qch.f a0_0 a0_1 a0_2 a0_3 a0_4 a0_5 a0_6 l0_7 l0_8 l0_9).bind fun t172 => (if t172 = true then ((qbh.f k a0_0 a0_1 a0_2 a0_3 a0_4 a0_5 a0_6 l0_7 l0_8 l0_9).bind fun t173 => (qbo.j0 k (!t173) a0_0 a0_1 a0_2 a0_3 a0_4 a0_5 a0_6 l0_7 l0_8 l0_9)) else (qbo.j0 k true a0_0 a0_1 a0_2 a0_3 a0_4 a0_5 a0_6 l0_7 l0_8 l0_9))) else (qbo.j0 k true a0_0 a0_1 a0_2 a0_3 a0_4 a0_5 a0_6 l0_7 l0_8 l0_9)))))) = some r := h
 clear h
 have HC2 := qc.mk H
 clear H
 go_enter Tryd.func43, Tryd.ntmps43
 go_upto_region 1 with (first | ((with_reducible refine qb0 (N := 1) rfl ?_); (try (refine qcc (by rfl) ?_; dsimp only)); refine qby ?hg (N := 1) ?hd (cs := #[.int .i64 a0_0, .int .i64 a0_1, .int .i64 a0_2, .string a0_3, .int .i64 a0_4, .int .i64 a0_5, .string a0_6, .slice A0_7 l0_7.length c0_7, .slice A0_8 l0_8.length c0_8, .slice A0_9 l0_9.length c0_9]) (t := 30) ?hr ?_; (case hd => rfl); (case hg => rfl); (case hr => first | (go_simp; done) | (go_simp; rfl)); intro qgg hg w3 hbox hb; have n0_ := qc.mk (q9 (by repeat (first | (with_reducible first | exact HB.out | apply qg | apply qd | apply qh) | exact HB.out)) hb); have n1_ := qc.mk (hbox); have n2_ := qc.mk ((by rw [hg]; exact (qba (by repeat (first | (with_reducible first | exact HB.out | apply qg | apply qd | apply qh) | exact HB.out))) : w.heap.size ≤ qgg)); have n3_ := qc.mk ((by rw [hg]; exact (qba (by repeat (first | (with_reducible first | exact HB.out | apply qg | apply qd | apply qh) | exact HB.out))) : w.heap.size ≤ qgg)); clear HB; have HB := n0_; have qft := n1_; have qbxw := n2_; have qhi := n3_; clear n0_ n1_ n2_ n3_; clear hb hbox hg))
 (try simp only [Act.put, List.setIfInBounds_toArray, List.set_cons_zero, List.set_cons_succ])
 go_cut [36] (fun v36 wc => ∃ (kq : Nat) (qbms : Bool), v36 = .bool qbms ∧ qc (qbo.j0 kq qbms a0_0 a0_1 a0_2 a0_3 a0_4 a0_5 a0_6 l0_7 l0_8 l0_9 = some r) ∧ qc (kq ≤ k) ∧ qc (wc.heap[qgg]? = some (.cells #[.int .i64 a0_0, .int .i64 a0_1, .int .i64 a0_2, .string a0_3, .int .i64 a0_4, .int .i64 a0_5, .string a0_6, (.slice A0_7 l0_7.length c0_7), (.slice A0_8 l0_8.length c0_8), (.slice A0_9 l0_9.length c0_9)] 30 (0, 0))) ∧ qc (Below w.heap.size w wc))
 case first =>
  have H := HC2.out
  clear HC2
  by_cases c4 : a0_0 < 0
  ·rw [if_pos c4] at H
   have c4b0 : decide (a0_0 < 0) = true := decide_eq_true c4
   clear c4
   (first | rw [c4b0] | (simp only [i64_w, i32_w]; rw [c4b0]) | skip)
   have H' := qc.mk H
   clear H
   have qbi4 : w3.cell? ⟨qgg, 0, none⟩ = some (.int .i64 a0_0) := (qb qft.out 0).trans rfl
   have qbj3 : w3.cell? ⟨qgg, 1, none⟩ = some (.int .i64 a0_1) := (qb qft.out 1).trans rfl
   have qbio : w3.cell? ⟨qgg, 2, none⟩ = some (.int .i64 a0_2) := (qb qft.out 2).trans rfl
   have qbfw : w3.cell? ⟨qgg, 3, none⟩ = some (.string a0_3) := (qb qft.out 3).trans rfl
   have qbjt : w3.cell? ⟨qgg, 4, none⟩ = some (.int .i64 a0_4) := (qb qft.out 4).trans rfl
   have qbhx : w3.cell? ⟨qgg, 5, none⟩ = some (.int .i64 a0_5) := (qb qft.out 5).trans rfl
   have qbi9 : w3.cell? ⟨qgg, 6, none⟩ = some (.string a0_6) := (qb qft.out 6).trans rfl
   have qbh3 : w3.cell? ⟨qgg, 7, none⟩ = some (.slice A0_7 l0_7.length c0_7) := (qb qft.out 7).trans rfl
   have qbku : w3.cell? ⟨qgg, 8, none⟩ = some (.slice A0_8 l0_8.length c0_8) := (qb qft.out 8).trans rfl
   have qbkz : w3.cell? ⟨qgg, 9, none⟩ = some (.slice A0_9 l0_9.length c0_9) := (qb qft.out 9).trans rfl
   have qbk6 := qa qft.out 0
   have qbj5 := qa qft.out 1
   have qbi6 := qa qft.out 2
   have qbf3 := qa qft.out 3
   have qbi7 := qa qft.out 4
   have qbhs := qa qft.out 5
   have qbkc := qa qft.out 6
   have qbh9 := qa qft.out 7
   have qbf6 := qa qft.out 8
   have qbij := qa qft.out 9
   go_wp2
   go_meet
   case rel => exact ⟨_, (true), (by first | rfl | (simp; done) | (simp [*]; done)), H', ⟨by first | omega | exact Nat.le_refl _⟩, ⟨by (with_reducible repeat (first | refine qj ?_ _ | refine qm ?_ | refine qi ?_ _)); exact qft.out⟩, ⟨by repeat (first | (with_reducible first | exact HB.out | apply qg | apply qd | apply qh | refine ql ?_ qhi.out) | exact HB.out)⟩⟩
  ·rw [if_neg c4] at H
   have c4b0 : decide (a0_0 < 0) = false := decide_eq_false c4
   clear c4
   (first | rw [c4b0] | (simp only [i64_w, i32_w]; rw [c4b0]) | skip)
   by_cases c6 : a0_0 > 15
   ·rw [if_pos c6] at H
    have c6b0 : decide (15 < a0_0) = true := decide_eq_true c6
    clear c6
    have H' := qc.mk H
    clear H
    have qjl : w3.cell? ⟨qgg, 0, none⟩ = some (.int .i64 a0_0) := (qb qft.out 0).trans rfl
    have qjm : w3.cell? ⟨qgg, 1, none⟩ = some (.int .i64 a0_1) := (qb qft.out 1).trans rfl
    have qjj : w3.cell? ⟨qgg, 2, none⟩ = some (.int .i64 a0_2) := (qb qft.out 2).trans rfl
    have qjk : w3.cell? ⟨qgg, 3, none⟩ = some (.string a0_3) := (qb qft.out 3).trans rfl
    have qlg : w3.cell? ⟨qgg, 4, none⟩ = some (.int .i64 a0_4) := (qb qft.out 4).trans rfl
    have qlf : w3.cell? ⟨qgg, 5, none⟩ = some (.int .i64 a0_5) := (qb qft.out 5).trans rfl
    have qlm : w3.cell? ⟨qgg, 6, none⟩ = some (.string a0_6) := (qb qft.out 6).trans rfl
    have qlk : w3.cell? ⟨qgg, 7, none⟩ = some (.slice A0_7 l0_7.length c0_7) := (qb qft.out 7).trans rfl
    have qli : w3.cell? ⟨qgg, 8, none⟩ = some (.slice A0_8 l0_8.length c0_8) := (qb qft.out 8).trans rfl
    have qld : w3.cell? ⟨qgg, 9, none⟩ = some (.slice A0_9 l0_9.length c0_9) := (qb qft.out 9).trans rfl
    have qhj := qa qft.out 0
    have qhl := qa qft.out 1
    have qhm := qa qft.out 2
    have qhk := qa qft.out 3
    have qi2 := qa qft.out 4
    have qix := qa qft.out 5
    have qi0 := qa qft.out 6
    have qi1 := qa qft.out 7
    have qiy := qa qft.out 8
    have qiz := qa qft.out 9
    go_wp2
    go_meet
    case rel => exact ⟨_, (true), (by first | rfl | (simp; done) | (simp [*]; done)), H', ⟨by first | omega | exact Nat.le_refl _⟩, ⟨by (with_reducible repeat (first | refine qj ?_ _ | refine qm ?_ | refine qi ?_ _)); exact qft.out⟩, ⟨by repeat (first | (with_reducible first | exact HB.out | apply qg | apply qd | apply qh | refine ql ?_ qhi.out) | exact HB.out)⟩⟩
   ·rw [if_neg c6] at H
    have c6b0 : decide (15 < a0_0) = false := decide_eq_false c6
    clear c6
    by_cases c8 : a0_0 = 10
    ·rw [if_pos c8] at H
     have c8b0 : (a0_0 == 10) = true := beq_iff_eq.mpr c8
     have c8b1 : (a0_0 != 10) = false := bne_eq_false_iff_eq.mpr c8
     clear c8
     have H' := qc.mk H
     clear H
     have qh4 : w3.cell? ⟨qgg, 0, none⟩ = some (.int .i64 a0_0) := (qb qft.out 0).trans rfl
     have qhu : w3.cell? ⟨qgg, 1, none⟩ = some (.int .i64 a0_1) := (qb qft.out 1).trans rfl
     have qh7 : w3.cell? ⟨qgg, 2, none⟩ = some (.int .i64 a0_2) := (qb qft.out 2).trans rfl
     have qhx : w3.cell? ⟨qgg, 3, none⟩ = some (.string a0_3) := (qb qft.out 3).trans rfl
     have qpc : w3.cell? ⟨qgg, 4, none⟩ = some (.int .i64 a0_4) := (qb qft.out 4).trans rfl
     have qpe : w3.cell? ⟨qgg, 5, none⟩ = some (.int .i64 a0_5) := (qb qft.out 5).trans rfl
     have qpd : w3.cell? ⟨qgg, 6, none⟩ = some (.string a0_6) := (qb qft.out 6).trans rfl
     have qpf : w3.cell? ⟨qgg, 7, none⟩ = some (.slice A0_7 l0_7.length c0_7) := (qb qft.out 7).trans rfl
     have qpa : w3.cell? ⟨qgg, 8, none⟩ = some (.slice A0_8 l0_8.length c0_8) := (qb qft.out 8).trans rfl
     have qpb : w3.cell? ⟨qgg, 9, none⟩ = some (.slice A0_9 l0_9.length c0_9) := (qb qft.out 9).trans rfl
     have qhd := qa qft.out 0
     have qg9 := qa qft.out 1
     have qhf := qa qft.out 2
     have qha := qa qft.out 3
     have qlh := qa qft.out 4
     have qln := qa qft.out 5
     have qlo := qa qft.out 6
     have qll := qa qft.out 7
     have qle := qa qft.out 8
     have qlj := qa qft.out 9
     go_wp2
     go_meet
     case rel => exact ⟨_, (true), (by first | rfl | (simp; done) | (simp [*]; done)), H', ⟨by first | omega | exact Nat.le_refl _⟩, ⟨by (with_reducible repeat (first | refine qj ?_ _ | refine qm ?_ | refine qi ?_ _)); exact qft.out⟩, ⟨by repeat (first | (with_reducible first | exact HB.out | apply qg | apply qd | apply qh | refine ql ?_ qhi.out) | exact HB.out)⟩⟩
    ·rw [if_neg c8] at H
     have c8b0 : (a0_0 == 10) = false := beq_eq_false_iff_ne.mpr c8
     have c8b1 : (a0_0 != 10) = true := bne_iff_ne.mpr c8
     replace H := Option.bind_eq_some_iff.mp H
     obtain ⟨t171, A100, H⟩ := H
     replace H : (if t171 = true then ((qch.f a0_0 a0_1 a0_2 a0_3 a0_4 a0_5 a0_6 l0_7 l0_8 l0_9).bind fun t172 => (if t172 = true then ((qbh.f k a0_0 a0_1 a0_2 a0_3 a0_4 a0_5 a0_6 l0_7 l0_8 l0_9).bind fun t173 => (qbo.j0 k (!t173) a0_0 a0_1 a0_2 a0_3 a0_4 a0_5 a0_6 l0_7 l0_8 l0_9)) else (qbo.j0 k true a0_0 a0_1 a0_2 a0_3 a0_4 a0_5 a0_6 l0_7 l0_8 l0_9))) else (qbo.j0 k true a0_0 a0_1 a0_2 a0_3 a0_4 a0_5 a0_6 l0_7 l0_8 l0_9)) = some r := H
     have A10 := qc.mk A100
     clear A100
     by_cases c11 : t171 = true
     ·subst c11
      have H1 : ((qch.f a0_0 a0_1 a0_2 a0_3 a0_4 a0_5 a0_6 l0_7 l0_8 l0_9).bind fun t172 => (if t172 = true then ((qbh.f k a0_0 a0_1 a0_2 a0_3 a0_4 a0_5 a0_6 l0_7 l0_8 l0_9).bind fun t173 => (qbo.j0 k (!t173) a0_0 a0_1 a0_2 a0_3 a0_4 a0_5 a0_6 l0_7 l0_8 l0_9)) else (qbo.j0 k true a0_0 a0_1 a0_2 a0_3 a0_4 a0_5 a0_6 l0_7 l0_8 l0_9))) = some r := by rw [if_pos rfl] at H; exact H
      clear H
      have H := H1
      clear H1
      replace H := Option.bind_eq_some_iff.mp H
      obtain ⟨t172, A120, H⟩ := H
      replace H : (if t172 = true then ((qbh.f k a0_0 a0_1 a0_2 a0_3 a0_4 a0_5 a0_6 l0_7 l0_8 l0_9).bind fun t173 => (qbo.j0 k (!t173) a0_0 a0_1 a0_2 a0_3 a0_4 a0_5 a0_6 l0_7 l0_8 l0_9)) else (qbo.j0 k true a0_0 a0_1 a0_2 a0_3 a0_4 a0_5 a0_6 l0_7 l0_8 l0_9)) = some r := H
      have A12 := qc.mk A120
      clear A120
      by_cases c13 : t172 = true
      ·subst c13
       have H1 : ((qbh.f k a0_0 a0_1 a0_2 a0_3 a0_4 a0_5 a0_6 l0_7 l0_8 l0_9).bind fun t173 => (qbo.j0 k (!t173) a0_0 a0_1 a0_2 a0_3 a0_4 a0_5 a0_6 l0_7 l0_8 l0_9)) = some r := by rw [if_pos rfl] at H; exact H
       clear H
       have H := H1
       clear H1
       replace H := Option.bind_eq_some_iff.mp H
       obtain ⟨t173, A140, H⟩ := H
       replace H : (qbo.j0 k (!t173) a0_0 a0_1 a0_2 a0_3 a0_4 a0_5 a0_6 l0_7 l0_8 l0_9) = some r := H
       have A14 := qc.mk A140
       clear A140
       have H' := qc.mk H
       clear H
       have qh3 : w3.cell? ⟨qgg, 0, none⟩ = some (.int .i64 a0_0) := (qb qft.out 0).trans rfl
       have qhw : w3.cell? ⟨qgg, 1, none⟩ = some (.int .i64 a0_1) := (qb qft.out 1).trans rfl
       have qht : w3.cell? ⟨qgg, 2, none⟩ = some (.int .i64 a0_2) := (qb qft.out 2).trans rfl
       have qhp : w3.cell? ⟨qgg, 3, none⟩ = some (.string a0_3) := (qb qft.out 3).trans rfl
       have qvl : w3.cell? ⟨qgg, 4, none⟩ = some (.int .i64 a0_4) := (qb qft.out 4).trans rfl
       have qup : w3.cell? ⟨qgg, 5, none⟩ = some (.int .i64 a0_5) := (qb qft.out 5).trans rfl
       have qus : w3.cell? ⟨qgg, 6, none⟩ = some (.string a0_6) := (qb qft.out 6).trans rfl
       have qu3 : w3.cell? ⟨qgg, 7, none⟩ = some (.slice A0_7 l0_7.length c0_7) := (qb qft.out 7).trans rfl
       have qvf : w3.cell? ⟨qgg, 8, none⟩ = some (.slice A0_8 l0_8.length c0_8) := (qb qft.out 8).trans rfl
       have qvd : w3.cell? ⟨qgg, 9, none⟩ = some (.slice A0_9 l0_9.length c0_9) := (qb qft.out 9).trans rfl
       have qg0 := qa qft.out 0
       have qgx := qa qft.out 1
       have qgz := qa qft.out 2
       have qgy := qa qft.out 3
       have qi6 := qa qft.out 4
       have qjh := qa qft.out 5
       have qi4 := qa qft.out 6
       have qjf := qa qft.out 7
       have qje := qa qft.out 8
       have qi8 := qa qft.out 9
       go_wp2_with (first | (go_at_call 67; (with_reducible refine (qbz.calls k a0_0 (l0_8.length : Int) true _ A10.out).mono ?_); rintro e w' ⟨rfl, ⟨nd, rfl⟩⟩) | (go_at_call 68; (with_reducible refine (qch.calls a0_0 a0_1 a0_2 a0_3 a0_4 a0_5 a0_6 _ _ l0_7 _ _ l0_8 _ _ l0_9 true _ ?side1 ?side2 ?side3 ?side4 ?side5 ?side6 A12.out).mono ?_); (case side1 => repeat (first | exact (Kd.qbw qnk.out (by repeat (first | (with_reducible first | exact HB.out | apply qg | apply qd | apply qh | refine ql ?_ qhi.out) | exact HB.out))) | (with_reducible refine Kd.qb3 ?_ _) | (with_reducible refine Kd.qb1 ?_ _) | (with_reducible refine Kd.qb7 ?_))); (case side2 => exact qnj.out); (case side3 => repeat (first | exact (Kd.qbw qop.out (by repeat (first | (with_reducible first | exact HB.out | apply qg | apply qd | apply qh | refine ql ?_ qhi.out) | exact HB.out))) | (with_reducible refine Kd.qb3 ?_ _) | (with_reducible refine Kd.qb1 ?_ _) | (with_reducible refine Kd.qb7 ?_))); (case side4 => exact q3e.out); (case side5 => repeat (first | exact (Kd.qbw qql.out (by repeat (first | (with_reducible first | exact HB.out | apply qg | apply qd | apply qh | refine ql ?_ qhi.out) | exact HB.out))) | (with_reducible refine Kd.qb3 ?_ _) | (with_reducible refine Kd.qb1 ?_ _) | (with_reducible refine Kd.qb7 ?_))); (case side6 => exact qzd.out); rintro e w16 ⟨rfl, hb⟩; have n0_ := qc.mk (qbb (g := qgg) (o := .cells #[.int .i64 a0_0, .int .i64 a0_1, .int .i64 a0_2, .string a0_3, .int .i64 a0_4, .int .i64 a0_5, .string a0_6, .slice A0_7 l0_7.length c0_7, .slice A0_8 l0_8.length c0_8, .slice A0_9 l0_9.length c0_9] 30 (0, 0)) (by (with_reducible repeat (first | refine qj ?_ _ | refine qm ?_ | refine qi ?_ _)); exact qft.out) hb); have n1_ := qc.mk (q9 (by repeat (first | (with_reducible first | exact HB.out | apply qg | apply qd | apply qh | refine ql ?_ qhi.out) | exact HB.out)) hb); clear qft; clear HB; have qft := n0_; have HB := n1_; clear n0_ n1_; (try clear hb); (try clear hb2); (try clear hk); (try clear hi); have q4m : w16.cell? ⟨qgg, 0, none⟩ = some (.int .i64 a0_0) := (qb qft.out 0).trans rfl; have q1k : w16.cell? ⟨qgg, 1, none⟩ = some (.int .i64 a0_1) := (qb qft.out 1).trans rfl; have qz5 : w16.cell? ⟨qgg, 2, none⟩ = some (.int .i64 a0_2) := (qb qft.out 2).trans rfl; have q44 : w16.cell? ⟨qgg, 3, none⟩ = some (.string a0_3) := (qb qft.out 3).trans rfl; have qbbp : w16.cell? ⟨qgg, 4, none⟩ = some (.int .i64 a0_4) := (qb qft.out 4).trans rfl; have q9j : w16.cell? ⟨qgg, 5, none⟩ = some (.int .i64 a0_5) := (qb qft.out 5).trans rfl; have q83 : w16.cell? ⟨qgg, 6, none⟩ = some (.string a0_6) := (qb qft.out 6).trans rfl; have qbdc : w16.cell? ⟨qgg, 7, none⟩ = some (.slice A0_7 l0_7.length c0_7) := (qb qft.out 7).trans rfl; have qbbi : w16.cell? ⟨qgg, 8, none⟩ = some (.slice A0_8 l0_8.length c0_8) := (qb qft.out 8).trans rfl; have qbdz : w16.cell? ⟨qgg, 9, none⟩ = some (.slice A0_9 l0_9.length c0_9) := (qb qft.out 9).trans rfl; have q5a := qa qft.out 0; have q1c := qa qft.out 1; have qzq := qa qft.out 2; have q14 := qa qft.out 3; have q7h := qa qft.out 4; have q9w := qa qft.out 5; have q9m := qa qft.out 6; have q7s := qa qft.out 7; have qbbm := qa qft.out 8; have qba5 := qa qft.out 9) | (go_at_call 69; (with_reducible refine (qbh.calls k a0_0 a0_1 a0_2 a0_3 a0_4 a0_5 a0_6 _ _ l0_7 _ _ l0_8 _ _ l0_9 t173 _ ?side1 ?side2 ?side3 ?side4 ?side5 ?side6 ?side7 A14.out).mono ?_); (case side1 => repeat (first | exact (Kd.qbw qnk.out HB.out) | (with_reducible refine Kd.qb3 ?_ _) | (with_reducible refine Kd.qb1 ?_ _) | (with_reducible refine Kd.qb7 ?_))); (case side2 => exact qnj.out); (case side3 => repeat (first | exact (Kd.qbw qop.out HB.out) | (with_reducible refine Kd.qb3 ?_ _) | (with_reducible refine Kd.qb1 ?_ _) | (with_reducible refine Kd.qb7 ?_))); (case side4 => exact q3e.out); (case side5 => repeat (first | exact (Kd.qbw qql.out HB.out) | (with_reducible refine Kd.qb3 ?_ _) | (with_reducible refine Kd.qb1 ?_ _) | (with_reducible refine Kd.qb7 ?_))); (case side6 => exact qzd.out); (case side7 => exact Lay.below HLAY.out (by repeat (first | (with_reducible first | exact HB.out | apply qg | apply qd | apply qh | refine ql ?_ qhi.out) | exact HB.out))); rintro e w18 ⟨rfl, hb⟩; have n0_ := qc.mk (qbb (g := qgg) (o := .cells #[.int .i64 a0_0, .int .i64 a0_1, .int .i64 a0_2, .string a0_3, .int .i64 a0_4, .int .i64 a0_5, .string a0_6, .slice A0_7 l0_7.length c0_7, .slice A0_8 l0_8.length c0_8, .slice A0_9 l0_9.length c0_9] 30 (0, 0)) (by (with_reducible repeat (first | refine qj ?_ _ | refine qm ?_ | refine qi ?_ _)); exact qft.out) hb); have n1_ := qc.mk (q9 (by repeat (first | (with_reducible first | exact HB.out | apply qg | apply qd | apply qh | refine ql ?_ qhi.out) | exact HB.out)) hb); clear qft; clear HB; have qft := n0_; have HB := n1_; clear n0_ n1_; (try clear hb); (try clear hb2); (try clear hk); (try clear hi)))
       go_meet
       case rel => exact ⟨_, (!t173), (by first | rfl | (simp; done) | (simp [*]; done)), H', ⟨by first | omega | exact Nat.le_refl _⟩, ⟨by (with_reducible repeat (first | refine qj ?_ _ | refine qm ?_ | refine qi ?_ _)); exact qft.out⟩, ⟨by repeat (first | (with_reducible first | exact HB.out | apply qg | apply qd | apply qh | refine ql ?_ qhi.out) | exact HB.out)⟩⟩
      ·replace c13 := Bool.eq_false_iff.mpr c13
       subst c13
       have H1 : (qbo.j0 k true a0_0 a0_1 a0_2 a0_3 a0_4 a0_5 a0_6 l0_7 l0_8 l0_9) = some r := by rw [if_neg (show ¬ (false = true) by decide)] at H; exact H
       clear H
       have H := H1
       clear H1
       have H' := qc.mk H
       clear H
       have qx1 : w3.cell? ⟨qgg, 0, none⟩ = some (.int .i64 a0_0) := (qb qft.out 0).trans rfl
       have qzk : w3.cell? ⟨qgg, 1, none⟩ = some (.int .i64 a0_1) := (qb qft.out 1).trans rfl
       have qyx : w3.cell? ⟨qgg, 2, none⟩ = some (.int .i64 a0_2) := (qb qft.out 2).trans rfl
       have qw1 : w3.cell? ⟨qgg, 3, none⟩ = some (.string a0_3) := (qb qft.out 3).trans rfl
       have qy1 : w3.cell? ⟨qgg, 4, none⟩ = some (.int .i64 a0_4) := (qb qft.out 4).trans rfl
       have qy9 : w3.cell? ⟨qgg, 5, none⟩ = some (.int .i64 a0_5) := (qb qft.out 5).trans rfl
       have qxc : w3.cell? ⟨qgg, 6, none⟩ = some (.string a0_6) := (qb qft.out 6).trans rfl
       have qya : w3.cell? ⟨qgg, 7, none⟩ = some (.slice A0_7 l0_7.length c0_7) := (qb qft.out 7).trans rfl
       have qzh : w3.cell? ⟨qgg, 8, none⟩ = some (.slice A0_8 l0_8.length c0_8) := (qb qft.out 8).trans rfl
       have qw8 : w3.cell? ⟨qgg, 9, none⟩ = some (.slice A0_9 l0_9.length c0_9) := (qb qft.out 9).trans rfl
       have qjp := qa qft.out 0
       have qka := qa qft.out 1
       have qjn := qa qft.out 2
       have qj7 := qa qft.out 3
       have qjy := qa qft.out 4
       have qju := qa qft.out 5
       have qj4 := qa qft.out 6
       have qj5 := qa qft.out 7
       have qjz := qa qft.out 8
       have qjo := qa qft.out 9
       go_wp2_with (first | (go_at_call 67; (with_reducible refine (qbz.calls k a0_0 (l0_8.length : Int) true _ A10.out).mono ?_); rintro e w' ⟨rfl, ⟨nd, rfl⟩⟩) | (go_at_call 68; (with_reducible refine (qch.calls a0_0 a0_1 a0_2 a0_3 a0_4 a0_5 a0_6 _ _ l0_7 _ _ l0_8 _ _ l0_9 false _ ?side1 ?side2 ?side3 ?side4 ?side5 ?side6 A12.out).mono ?_); (case side1 => repeat (first | exact (Kd.qbw qnk.out (by repeat (first | (with_reducible first | exact HB.out | apply qg | apply qd | apply qh | refine ql ?_ qhi.out) | exact HB.out))) | (with_reducible refine Kd.qb3 ?_ _) | (with_reducible refine Kd.qb1 ?_ _) | (with_reducible refine Kd.qb7 ?_))); (case side2 => exact qnj.out); (case side3 => repeat (first | exact (Kd.qbw qop.out (by repeat (first | (with_reducible first | exact HB.out | apply qg | apply qd | apply qh | refine ql ?_ qhi.out) | exact HB.out))) | (with_reducible refine Kd.qb3 ?_ _) | (with_reducible refine Kd.qb1 ?_ _) | (with_reducible refine Kd.qb7 ?_))); (case side4 => exact q3e.out); (case side5 => repeat (first | exact (Kd.qbw qql.out (by repeat (first | (with_reducible first | exact HB.out | apply qg | apply qd | apply qh | refine ql ?_ qhi.out) | exact HB.out))) | (with_reducible refine Kd.qb3 ?_ _) | (with_reducible refine Kd.qb1 ?_ _) | (with_reducible refine Kd.qb7 ?_))); (case side6 => exact qzd.out); rintro e w20 ⟨rfl, hb⟩; have n0_ := qc.mk (qbb (g := qgg) (o := .cells #[.int .i64 a0_0, .int .i64 a0_1, .int .i64 a0_2, .string a0_3, .int .i64 a0_4, .int .i64 a0_5, .string a0_6, .slice A0_7 l0_7.length c0_7, .slice A0_8 l0_8.length c0_8, .slice A0_9 l0_9.length c0_9] 30 (0, 0)) (by (with_reducible repeat (first | refine qj ?_ _ | refine qm ?_ | refine qi ?_ _)); exact qft.out) hb); have n1_ := qc.mk (q9 (by repeat (first | (with_reducible first | exact HB.out | apply qg | apply qd | apply qh | refine ql ?_ qhi.out) | exact HB.out)) hb); clear qft; clear HB; have qft := n0_; have HB := n1_; clear n0_ n1_; (try clear hb); (try clear hb2); (try clear hk); (try clear hi)))
       go_meet
       case rel => exact ⟨_, (true), (by first | rfl | (simp; done) | (simp [*]; done)), H', ⟨by first | omega | exact Nat.le_refl _⟩, ⟨by (with_reducible repeat (first | refine qj ?_ _ | refine qm ?_ | refine qi ?_ _)); exact qft.out⟩, ⟨by repeat (first | (with_reducible first | exact HB.out | apply qg | apply qd | apply qh | refine ql ?_ qhi.out) | exact HB.out)⟩⟩
     ·replace c11 := Bool.eq_false_iff.mpr c11
      subst c11
      have H1 : (qbo.j0 k true a0_0 a0_1 a0_2 a0_3 a0_4 a0_5 a0_6 l0_7 l0_8 l0_9) = some r := by rw [if_neg (show ¬ (false = true) by decide)] at H; exact H
      clear H
      have H := H1
      clear H1
      have H' := qc.mk H
      clear H
      have qlz : w3.cell? ⟨qgg, 0, none⟩ = some (.int .i64 a0_0) := (qb qft.out 0).trans rfl
      have qma : w3.cell? ⟨qgg, 1, none⟩ = some (.int .i64 a0_1) := (qb qft.out 1).trans rfl
      have ql3 : w3.cell? ⟨qgg, 2, none⟩ = some (.int .i64 a0_2) := (qb qft.out 2).trans rfl
      have qlv : w3.cell? ⟨qgg, 3, none⟩ = some (.string a0_3) := (qb qft.out 3).trans rfl
      have qbg7 : w3.cell? ⟨qgg, 4, none⟩ = some (.int .i64 a0_4) := (qb qft.out 4).trans rfl
      have qbk2 : w3.cell? ⟨qgg, 5, none⟩ = some (.int .i64 a0_5) := (qb qft.out 5).trans rfl
      have qbjd : w3.cell? ⟨qgg, 6, none⟩ = some (.string a0_6) := (qb qft.out 6).trans rfl
      have qbj2 : w3.cell? ⟨qgg, 7, none⟩ = some (.slice A0_7 l0_7.length c0_7) := (qb qft.out 7).trans rfl
      have qbgp : w3.cell? ⟨qgg, 8, none⟩ = some (.slice A0_8 l0_8.length c0_8) := (qb qft.out 8).trans rfl
      have qbia : w3.cell? ⟨qgg, 9, none⟩ = some (.slice A0_9 l0_9.length c0_9) := (qb qft.out 9).trans rfl
      have qlp := qa qft.out 0
      have ql0 := qa qft.out 1
      have qme := qa qft.out 2
      have qmo := qa qft.out 3
      have qbi5 := qa qft.out 4
      have qbhu := qa qft.out 5
      have qbhf := qa qft.out 6
      have qbhr := qa qft.out 7
      have qbf4 := qa qft.out 8
      have qbih := qa qft.out 9
      go_wp2_with (first | (go_at_call 67; (with_reducible refine (qbz.calls k a0_0 (l0_8.length : Int) false _ A10.out).mono ?_); rintro e w' ⟨rfl, ⟨nd, rfl⟩⟩))
      go_meet
      case rel => exact ⟨_, (true), (by first | rfl | (simp; done) | (simp [*]; done)), H', ⟨by first | omega | exact Nat.le_refl _⟩, ⟨by (with_reducible repeat (first | refine qj ?_ _ | refine qm ?_ | refine qi ?_ _)); exact qft.out⟩, ⟨by repeat (first | (with_reducible first | exact HB.out | apply qg | apply qd | apply qh | refine ql ?_ qhi.out) | exact HB.out)⟩⟩
 case rest =>
  clear HC2
  (try clear c1); (try clear p2); (try clear c4); (try clear c4b0); (try clear c6); (try clear c6b0); (try clear c8); (try clear c8b0); (try clear c8b1); (try clear c11); (try clear c13); (try clear qh3 qhw qht qhp qvl qup qus qu3 qvf qvd); (try clear q4m q1k qz5 q44 qbbp q9j q83 qbdc qbbi qbdz); (try clear qx1 qzk qyx qw1 qy1 qy9 qxc qya qzh qw8); (try clear qlz qma ql3 qlv qbg7 qbk2 qbjd qbj2 qbgp qbia); (try clear qbi4 qbj3 qbio qbfw qbjt qbhx qbi9 qbh3 qbku qbkz); (try clear qjl qjm qjj qjk qlg qlf qlm qlk qli qld); (try clear qh4 qhu qh7 qhx qpc qpe qpd qpf qpa qpb); (try clear qg0 qgx qgz qgy qi6 qjh qi4 qjf qje qi8); (try clear q5a q1c qzq q14 q7h q9w q9m q7s qbbm qba5); (try clear qjp qka qjn qj7 qjy qju qj4 qj5 qjz qjo); (try clear qlp ql0 qme qmo qbi5 qbhu qbhf qbhr qbf4 qbih); (try clear qbk6 qbj5 qbi6 qbf3 qbi7 qbhs qbkc qbh9 qbf6 qbij); (try clear qhj qhl qhm qhk qi2 qix qi0 qi1 qiy qiz); (try clear qhd qg9 qhf qha qlh qln qlo qll qle qlj)
  obtain ⟨kq, qbms, rfl, HA, HJ1, qft, HB⟩ := hcut
  cases kq with
  | zero => exact absurd HA.out (by simp [qbo.j0])
  | succ kj1 =>
   have H := HA.out
   clear HA
   simp only [qbo.j0] at H
   by_cases c22 : qbms = true
   ·subst c22
    have H1 : (some false) = some r := by rw [if_pos rfl] at H; exact H
    clear H
    have H := H1
    clear H1
    obtain rfl := Option.some.inj H
    go_wp2
    go_ret
    exact ⟨by first | rfl | (simp [qx, qy] <;> rfl) | (simp [*, qx, qy] <;> rfl), by repeat (first | (with_reducible first | exact HB.out | apply qg | apply qd | apply qh | refine ql ?_ qhi.out) | exact HB.out)⟩
   ·replace c22 := Bool.eq_false_iff.mpr c22
    subst c22
    have H1 : (qbo.l0 kj1 l0_8 (l0_8.length : Int) 0) = some r := by rw [if_neg (show ¬ (false = true) by decide)] at H; exact H
    clear H
    have H := H1
    clear H1
    have H' := qc.mk H
    clear H
    have qxy : wc.cell? ⟨qgg, 0, none⟩ = some (.int .i64 a0_0) := (qb qft.out 0).trans rfl
    have qxl : wc.cell? ⟨qgg, 1, none⟩ = some (.int .i64 a0_1) := (qb qft.out 1).trans rfl
    have qxd : wc.cell? ⟨qgg, 2, none⟩ = some (.int .i64 a0_2) := (qb qft.out 2).trans rfl
    have qyz : wc.cell? ⟨qgg, 3, none⟩ = some (.string a0_3) := (qb qft.out 3).trans rfl
    have qbqk : wc.cell? ⟨qgg, 4, none⟩ = some (.int .i64 a0_4) := (qb qft.out 4).trans rfl
    have qbqx : wc.cell? ⟨qgg, 5, none⟩ = some (.int .i64 a0_5) := (qb qft.out 5).trans rfl
    have qbpx : wc.cell? ⟨qgg, 6, none⟩ = some (.string a0_6) := (qb qft.out 6).trans rfl
    have qbp8 : wc.cell? ⟨qgg, 7, none⟩ = some (.slice A0_7 l0_7.length c0_7) := (qb qft.out 7).trans rfl
    have qbot : wc.cell? ⟨qgg, 8, none⟩ = some (.slice A0_8 l0_8.length c0_8) := (qb qft.out 8).trans rfl
    have qbpu : wc.cell? ⟨qgg, 9, none⟩ = some (.slice A0_9 l0_9.length c0_9) := (qb qft.out 9).trans rfl
    have qzm := qa qft.out 0
    have qxo := qa qft.out 1
    have qxh := qa qft.out 2
    have qxf := qa qft.out 3
    have qbpr := qa qft.out 4
    have qbq5 := qa qft.out 5
    have qbo9 := qa qft.out 6
    have qboj := qa qft.out 7
    have qbox := qa qft.out 8
    have qbpv := qa qft.out 9
    go_wp2
    go_loopg [40] kj1 (fun kq v40 w' => ∃ (qfu : Int), v40 = .int .i64 qfu ∧ qc (qbo.l0 kq l0_8 (l0_8.length : Int) qfu = some r) ∧ qc (kq ≤ kj1) ∧ qc (w'.heap[qgg]? = some (.cells #[.int .i64 a0_0, .int .i64 a0_1, .int .i64 a0_2, .string a0_3, .int .i64 a0_4, .int .i64 a0_5, .string a0_6, (.slice A0_7 l0_7.length c0_7), (.slice A0_8 l0_8.length c0_8), (.slice A0_9 l0_9.length c0_9)] 30 (0, 0))) ∧ qc (Below w.heap.size w w'))
    case atStart => exact ⟨(0), (by first | rfl | (simp; done) | (simp [*]; done)), H', ⟨Nat.le_refl _⟩, ⟨by (with_reducible repeat (first | refine qj ?_ _ | refine qm ?_ | refine qi ?_ _)); exact qft.out⟩, ⟨by repeat (first | (with_reducible first | exact HB.out | apply qg | apply qd | apply qh | refine ql ?_ qhi.out) | exact HB.out)⟩⟩
    case round =>
     clear H'
     (try clear c1); (try clear c2); (try clear p2); (try clear c4); (try clear c4b0); (try clear c6); (try clear c6b0); (try clear c8); (try clear c8b0); (try clear c8b1); (try clear c11); (try clear c13); (try clear c22); (try clear qh3 qhw qht qhp qvl qup qus qu3 qvf qvd); (try clear q4m q1k qz5 q44 qbbp q9j q83 qbdc qbbi qbdz); (try clear qx1 qzk qyx qw1 qy1 qy9 qxc qya qzh qw8); (try clear qlz qma ql3 qlv qbg7 qbk2 qbjd qbj2 qbgp qbia); (try clear qxy qxl qxd qyz qbqk qbqx qbpx qbp8 qbot qbpu); (try clear qbi4 qbj3 qbio qbfw qbjt qbhx qbi9 qbh3 qbku qbkz); (try clear qjl qjm qjj qjk qlg qlf qlm qlk qli qld); (try clear qh4 qhu qh7 qhx qpc qpe qpd qpf qpa qpb); (try clear qg0 qgx qgz qgy qi6 qjh qi4 qjf qje qi8); (try clear q5a q1c qzq q14 q7h q9w q9m q7s qbbm qba5); (try clear qjp qka qjn qj7 qjy qju qj4 qj5 qjz qjo); (try clear qlp ql0 qme qmo qbi5 qbhu qbhf qbhr qbf4 qbih); (try clear qzm qxo qxh qxf qbpr qbq5 qbo9 qboj qbox qbpv); (try clear qbk6 qbj5 qbi6 qbf3 qbi7 qbhs qbkc qbh9 qbf6 qbij); (try clear qhj qhl qhm qhk qi2 qix qi0 qi1 qiy qiz); (try clear qhd qg9 qhf qha qlh qln qlo qll qle qlj); (try clear p2)
     obtain ⟨qfu, rfl, HA, HK2, qft, HB⟩ := hrel
     cases gk with
     | zero => exact absurd HA.out (by simp [qbo.l0])
     | succ k2 =>
      have H := HA.out
      clear HA
      simp only [qbo.l0] at H
      by_cases c24 : qfu < (l0_8.length : Int)
      ·rw [if_pos c24] at H
       have c24b0 : decide (qfu < (l0_8.length : Int)) = true := decide_eq_true c24
       clear c24
       by_cases c25 : 0 ≤ qfu
       ·rw [if_pos c25] at H
        have c25b0 : decide (0 ≤ qfu) = true := decide_eq_true c25
        clear c25
        by_cases c26 : qfu < (l0_8.length : Int)
        ·rw [if_pos c26] at H
         have c26b0 : decide (qfu < (l0_8.length : Int)) = true := decide_eq_true c26
         clear c26
         replace H := Option.bind_eq_some_iff.mp H
         obtain ⟨t176, A270, H⟩ := H
         replace H : (if t176 = true then (qbo.l0 k2 l0_8 (l0_8.length : Int) (wrap64 (qfu + 1))) else (some false)) = some r := H
         have A27 := qc.mk A270
         clear A270
         by_cases c28 : t176 = true
         ·subst c28
          have H1 : (qbo.l0 k2 l0_8 (l0_8.length : Int) (wrap64 (qfu + 1))) = some r := by rw [if_pos rfl] at H; exact H
          clear H
          have H := H1
          clear H1
          have H' := qc.mk H
          clear H
          have p174 : 0 ≤ (qfu : Int) := of_decide_eq_true (by first | (with_reducible assumption) | assumption)
          have q174 : qfu < (l0_8.length : Int) := of_decide_eq_true (by first | (with_reducible assumption) | assumption)
          obtain ⟨q43, qt1, qt2, qxu, qys, q62, q67, e174, qt0, qrf, qr2, qsd, qss, qqc, qpj, qqs, qsm, qsp, qye, qy2, qyw, qxp, qzc, qyv⟩ := qe3 qop.out qfu p174 q174
          cases e174
          replace qt0 := (HB.out.cell (World.block_lt_of_cell? w _ qt0)).trans qt0
          replace qrf := (HB.out.cell (World.block_lt_of_cell? w _ qrf)).trans qrf
          replace qr2 := (HB.out.cell (World.block_lt_of_cell? w _ qr2)).trans qr2
          replace qsd := (HB.out.cell (World.block_lt_of_cell? w _ qsd)).trans qsd
          replace qss := (HB.out.cell (World.block_lt_of_cell? w _ qss)).trans qss
          replace qqc := (HB.out.cell (World.block_lt_of_cell? w _ qqc)).trans qqc
          replace qpj := (HB.out.cell (World.block_lt_of_cell? w _ qpj)).trans qpj
          replace qqs := (HB.out.cell (World.block_lt_of_cell? w _ qqs)).trans qqs
          replace qsm := (HB.out.cell (World.block_lt_of_cell? w _ qsm)).trans qsm
          replace qsp := (HB.out.cell (World.block_lt_of_cell? w _ qsp)).trans qsp
          have qbcb := qc.mk qy2
          have q8n := qc.mk qye
          clear qy2 qye
          have q7u := qc.mk qxp
          have q9u := qc.mk qyw
          clear qxp qyw
          have q7w := qc.mk qyv
          have qbav := qc.mk qzc
          clear qyv qzc
          replace p174 := eq_true p174
          replace q174 := eq_true q174
          go_wp2_with (first | ((with_reducible refine qb0 (N := 4) rfl ?_); (try (refine qcc (by rfl) ?_; dsimp only)); refine qby ?hg (N := 4) ?hd (cs := #[.int .i64 0, .int .i64 0, .int .i64 0, .string (⟨#[]⟩ : ByteArray), .int .i64 0, .int .i64 0, .string (⟨#[]⟩ : ByteArray), .slice none 0 0, .slice none 0 0, .slice none 0 0]) (t := 30) ?hr ?_; (case hd => rfl); (case hg => rfl); (case hr => first | (go_simp; done) | (go_simp; rfl)); intro qib hg w29 hbox hb; have n0_ := qc.mk (qbb (g := qgg) (o := .cells #[.int .i64 a0_0, .int .i64 a0_1, .int .i64 a0_2, .string a0_3, .int .i64 a0_4, .int .i64 a0_5, .string a0_6, .slice A0_7 l0_7.length c0_7, .slice (some q43) l0_8.length c0_8, .slice A0_9 l0_9.length c0_9] 30 (0, 0)) (by (with_reducible repeat (first | refine qj ?_ _ | refine qm ?_ | refine qi ?_ _)); exact qft.out) hb); have n1_ := qc.mk (q9 (by repeat (first | (with_reducible first | exact HB.out | apply qg | apply qd | apply qh | refine ql ?_ qhi.out) | exact HB.out)) hb); have n2_ := qc.mk (hbox); have n3_ := qc.mk ((by rw [hg]; exact (qba (by repeat (first | (with_reducible first | exact HB.out | apply qg | apply qd | apply qh | refine ql ?_ qhi.out) | exact HB.out))) : w.heap.size ≤ qib)); have n4_ := qc.mk ((by rw [hg]; exact (qba (by repeat (first | (with_reducible first | exact HB.out | apply qg | apply qd | apply qh | refine ql ?_ qhi.out) | exact HB.out))) : w.heap.size ≤ qib)); have n5_ := qc.mk ((by rw [hg]; exact Nat.ne_of_lt (qb4 (g := qgg) (o := .cells #[.int .i64 a0_0, .int .i64 a0_1, .int .i64 a0_2, .string a0_3, .int .i64 a0_4, .int .i64 a0_5, .string a0_6, .slice A0_7 l0_7.length c0_7, .slice (some q43) l0_8.length c0_8, .slice A0_9 l0_9.length c0_9] 30 (0, 0)) (by (with_reducible repeat (first | refine qj ?_ _ | refine qm ?_ | refine qi ?_ _)); exact qft.out)) : qgg ≠ qib)); have n6_ := qc.mk ((by rw [hg]; exact Nat.ne_of_gt (qb4 (g := qgg) (o := .cells #[.int .i64 a0_0, .int .i64 a0_1, .int .i64 a0_2, .string a0_3, .int .i64 a0_4, .int .i64 a0_5, .string a0_6, .slice A0_7 l0_7.length c0_7, .slice (some q43) l0_8.length c0_8, .slice A0_9 l0_9.length c0_9] 30 (0, 0)) (by (with_reducible repeat (first | refine qj ?_ _ | refine qm ?_ | refine qi ?_ _)); exact qft.out)) : qib ≠ qgg)); clear qft; clear HB; have qft := n0_; have HB := n1_; have qg4 := n2_; have qbvo := n3_; have qv1 := n4_; have qgp := n5_; have qw9 := n6_; clear n0_ n1_ n2_ n3_ n4_ n5_ n6_; clear hb hbox hg; have qbyj := qw9.out; have qbxx := qgp.out; have qm0 : w29.cell? ⟨qib, 0, none⟩ = some (.int .i64 0) := (qb qg4.out 0).trans rfl; have qm9 : w29.cell? ⟨qib, 1, none⟩ = some (.int .i64 0) := (qb qg4.out 1).trans rfl; have qmw : w29.cell? ⟨qib, 2, none⟩ = some (.int .i64 0) := (qb qg4.out 2).trans rfl; have qna : w29.cell? ⟨qib, 3, none⟩ = some (.string (⟨#[]⟩ : ByteArray)) := (qb qg4.out 3).trans rfl; have qbpf : w29.cell? ⟨qib, 4, none⟩ = some (.int .i64 0) := (qb qg4.out 4).trans rfl; have qbp9 : w29.cell? ⟨qib, 5, none⟩ = some (.int .i64 0) := (qb qg4.out 5).trans rfl; have qboq : w29.cell? ⟨qib, 6, none⟩ = some (.string (⟨#[]⟩ : ByteArray)) := (qb qg4.out 6).trans rfl; have qboo : w29.cell? ⟨qib, 7, none⟩ = some (.slice none 0 0) := (qb qg4.out 7).trans rfl; have qbpi : w29.cell? ⟨qib, 8, none⟩ = some (.slice none 0 0) := (qb qg4.out 8).trans rfl; have qbq6 : w29.cell? ⟨qib, 9, none⟩ = some (.slice none 0 0) := (qb qg4.out 9).trans rfl; have qm4 := qa qg4.out 0; have qng := qa qg4.out 1; have qm3 := qa qg4.out 2; have qm1 := qa qg4.out 3; have qbqf := qa qg4.out 4; have qbqm := qa qg4.out 5; have qbpk := qa qg4.out 6; have qbpb := qa qg4.out 7; have qbq2 := qa qg4.out 8; have qbp5 := qa qg4.out 9) | ((with_reducible refine qb5 (f := 43) rfl ?_); refine qcj (some 45) rfl rfl Tryd.func43 (by kernel_rfl) rfl #[.agg #[.int .i64 ((qp l0_8 qfu).f0), .int .i64 ((qp l0_8 qfu).f1), .int .i64 ((qp l0_8 qfu).f2), .string ((qp l0_8 qfu).f3), .int .i64 ((qp l0_8 qfu).f4.f0), .int .i64 ((qp l0_8 qfu).f4.f1), .string ((qp l0_8 qfu).f4.f2), .slice qt1 ((qp l0_8 qfu).f4.f3).length qt2, .slice qxu ((qp l0_8 qfu).f5).length qys, .slice q62 ((qp l0_8 qfu).f6).length q67]] rfl (by (try simp only [List.map_toArray, List.map_cons, List.map_nil]); first | done | rfl | (simp only [List.length_drop, List.length_take]; rfl)) ?_; (with_reducible refine (ih k2 (by have := HJ1.out; have := HK2.out; omega) ((qp l0_8 qfu).f0) ((qp l0_8 qfu).f1) ((qp l0_8 qfu).f2) ((qp l0_8 qfu).f3) ((qp l0_8 qfu).f4.f0) ((qp l0_8 qfu).f4.f1) ((qp l0_8 qfu).f4.f2) _ _ ((qp l0_8 qfu).f4.f3) _ _ ((qp l0_8 qfu).f5) _ _ ((qp l0_8 qfu).f6) true _ ?side1 ?side2 ?side3 ?side4 ?side5 ?side6 ?side7 A27.out).mono ?_); (case side1 => exact Kd.qbw qbcb.out (by repeat (first | (with_reducible first | exact HB.out | apply qg | apply qd | apply qh | refine ql ?_ qhi.out | refine ql ?_ qv1.out) | exact HB.out))); (case side2 => exact q8n.out); (case side3 => exact Kd.qbw q7u.out (by repeat (first | (with_reducible first | exact HB.out | apply qg | apply qd | apply qh | refine ql ?_ qhi.out | refine ql ?_ qv1.out) | exact HB.out))); (case side4 => exact q9u.out); (case side5 => exact Kd.qbw q7w.out (by repeat (first | (with_reducible first | exact HB.out | apply qg | apply qd | apply qh | refine ql ?_ qhi.out | refine ql ?_ qv1.out) | exact HB.out))); (case side6 => exact qbav.out); (case side7 => exact Lay.below HLAY.out (by repeat (first | (with_reducible first | exact HB.out | apply qg | apply qd | apply qh | refine ql ?_ qhi.out | refine ql ?_ qv1.out) | exact HB.out))); rintro e w32 ⟨rfl, hb⟩; refine ⟨_, rfl, ?_⟩; have n0_ := qc.mk (qbb (g := qgg) (o := .cells #[.int .i64 a0_0, .int .i64 a0_1, .int .i64 a0_2, .string a0_3, .int .i64 a0_4, .int .i64 a0_5, .string a0_6, .slice A0_7 l0_7.length c0_7, .slice (some q43) l0_8.length c0_8, .slice A0_9 l0_9.length c0_9] 30 (0, 0)) (by (with_reducible repeat (first | refine qj ?_ _ | refine qm ?_ | refine qi ?_ _)); refine qbp ?_ qgp.out _; (with_reducible repeat (first | refine qj ?_ _ | refine qm ?_ | refine qi ?_ _)); refine qbp ?_ qgp.out _; (with_reducible repeat (first | refine qj ?_ _ | refine qm ?_ | refine qi ?_ _)); refine qbp ?_ qgp.out _; (with_reducible repeat (first | refine qj ?_ _ | refine qm ?_ | refine qi ?_ _)); refine qbp ?_ qgp.out _; (with_reducible repeat (first | refine qj ?_ _ | refine qm ?_ | refine qi ?_ _)); refine qbp ?_ qgp.out _; (with_reducible repeat (first | refine qj ?_ _ | refine qm ?_ | refine qi ?_ _)); refine qbp ?_ qgp.out _; (with_reducible repeat (first | refine qj ?_ _ | refine qm ?_ | refine qi ?_ _)); refine qbp ?_ qgp.out _; (with_reducible repeat (first | refine qj ?_ _ | refine qm ?_ | refine qi ?_ _)); refine qbp ?_ qgp.out _; (with_reducible repeat (first | refine qj ?_ _ | refine qm ?_ | refine qi ?_ _)); refine qbp ?_ qgp.out _; (with_reducible repeat (first | refine qj ?_ _ | refine qm ?_ | refine qi ?_ _)); refine qbp ?_ qgp.out _; (with_reducible repeat (first | refine qj ?_ _ | refine qm ?_ | refine qi ?_ _)); exact qft.out) hb); have n1_ := qc.mk (qbb (g := qib) (o := .cells #[.int .i64 ((qp l0_8 qfu).f0), .int .i64 ((qp l0_8 qfu).f1), .int .i64 ((qp l0_8 qfu).f2), .string ((qp l0_8 qfu).f3), .int .i64 ((qp l0_8 qfu).f4.f0), .int .i64 ((qp l0_8 qfu).f4.f1), .string ((qp l0_8 qfu).f4.f2), .slice qt1 ((qp l0_8 qfu).f4.f3).length qt2, .slice qxu ((qp l0_8 qfu).f5).length qys, .slice q62 ((qp l0_8 qfu).f6).length q67] 30 (0, 0)) (by (with_reducible repeat (first | refine qj ?_ _ | refine qm ?_ | refine qi ?_ _)); refine qbr (cs := #[.int .i64 ((qp l0_8 qfu).f0), .int .i64 ((qp l0_8 qfu).f1), .int .i64 ((qp l0_8 qfu).f2), .string ((qp l0_8 qfu).f3), .int .i64 ((qp l0_8 qfu).f4.f0), .int .i64 ((qp l0_8 qfu).f4.f1), .string ((qp l0_8 qfu).f4.f2), .slice qt1 ((qp l0_8 qfu).f4.f3).length qt2, .slice qxu ((qp l0_8 qfu).f5).length qys, .slice none 0 0]) ?_ 9 _ rfl; (with_reducible repeat (first | refine qj ?_ _ | refine qm ?_ | refine qi ?_ _)); refine qbr (cs := #[.int .i64 ((qp l0_8 qfu).f0), .int .i64 ((qp l0_8 qfu).f1), .int .i64 ((qp l0_8 qfu).f2), .string ((qp l0_8 qfu).f3), .int .i64 ((qp l0_8 qfu).f4.f0), .int .i64 ((qp l0_8 qfu).f4.f1), .string ((qp l0_8 qfu).f4.f2), .slice qt1 ((qp l0_8 qfu).f4.f3).length qt2, .slice none 0 0, .slice none 0 0]) ?_ 8 _ rfl; (with_reducible repeat (first | refine qj ?_ _ | refine qm ?_ | refine qi ?_ _)); refine qbr (cs := #[.int .i64 ((qp l0_8 qfu).f0), .int .i64 ((qp l0_8 qfu).f1), .int .i64 ((qp l0_8 qfu).f2), .string ((qp l0_8 qfu).f3), .int .i64 ((qp l0_8 qfu).f4.f0), .int .i64 ((qp l0_8 qfu).f4.f1), .string ((qp l0_8 qfu).f4.f2), .slice none 0 0, .slice none 0 0, .slice none 0 0]) ?_ 7 _ rfl; (with_reducible repeat (first | refine qj ?_ _ | refine qm ?_ | refine qi ?_ _)); refine qbr (cs := #[.int .i64 ((qp l0_8 qfu).f0), .int .i64 ((qp l0_8 qfu).f1), .int .i64 ((qp l0_8 qfu).f2), .string ((qp l0_8 qfu).f3), .int .i64 ((qp l0_8 qfu).f4.f0), .int .i64 ((qp l0_8 qfu).f4.f1), .string (⟨#[]⟩ : ByteArray), .slice none 0 0, .slice none 0 0, .slice none 0 0]) ?_ 6 _ rfl; (with_reducible repeat (first | refine qj ?_ _ | refine qm ?_ | refine qi ?_ _)); refine qbr (cs := #[.int .i64 ((qp l0_8 qfu).f0), .int .i64 ((qp l0_8 qfu).f1), .int .i64 ((qp l0_8 qfu).f2), .string ((qp l0_8 qfu).f3), .int .i64 ((qp l0_8 qfu).f4.f0), .int .i64 0, .string (⟨#[]⟩ : ByteArray), .slice none 0 0, .slice none 0 0, .slice none 0 0]) ?_ 5 _ rfl; (with_reducible repeat (first | refine qj ?_ _ | refine qm ?_ | refine qi ?_ _)); refine qbr (cs := #[.int .i64 ((qp l0_8 qfu).f0), .int .i64 ((qp l0_8 qfu).f1), .int .i64 ((qp l0_8 qfu).f2), .string ((qp l0_8 qfu).f3), .int .i64 0, .int .i64 0, .string (⟨#[]⟩ : ByteArray), .slice none 0 0, .slice none 0 0, .slice none 0 0]) ?_ 4 _ rfl; (with_reducible repeat (first | refine qj ?_ _ | refine qm ?_ | refine qi ?_ _)); refine qbr (cs := #[.int .i64 ((qp l0_8 qfu).f0), .int .i64 ((qp l0_8 qfu).f1), .int .i64 ((qp l0_8 qfu).f2), .string (⟨#[]⟩ : ByteArray), .int .i64 0, .int .i64 0, .string (⟨#[]⟩ : ByteArray), .slice none 0 0, .slice none 0 0, .slice none 0 0]) ?_ 3 _ rfl; (with_reducible repeat (first | refine qj ?_ _ | refine qm ?_ | refine qi ?_ _)); refine qbr (cs := #[.int .i64 ((qp l0_8 qfu).f0), .int .i64 ((qp l0_8 qfu).f1), .int .i64 0, .string (⟨#[]⟩ : ByteArray), .int .i64 0, .int .i64 0, .string (⟨#[]⟩ : ByteArray), .slice none 0 0, .slice none 0 0, .slice none 0 0]) ?_ 2 _ rfl; (with_reducible repeat (first | refine qj ?_ _ | refine qm ?_ | refine qi ?_ _)); refine qbr (cs := #[.int .i64 ((qp l0_8 qfu).f0), .int .i64 0, .int .i64 0, .string (⟨#[]⟩ : ByteArray), .int .i64 0, .int .i64 0, .string (⟨#[]⟩ : ByteArray), .slice none 0 0, .slice none 0 0, .slice none 0 0]) ?_ 1 _ rfl; (with_reducible repeat (first | refine qj ?_ _ | refine qm ?_ | refine qi ?_ _)); refine qbr (cs := #[.int .i64 0, .int .i64 0, .int .i64 0, .string (⟨#[]⟩ : ByteArray), .int .i64 0, .int .i64 0, .string (⟨#[]⟩ : ByteArray), .slice none 0 0, .slice none 0 0, .slice none 0 0]) ?_ 0 _ rfl; (with_reducible repeat (first | refine qj ?_ _ | refine qm ?_ | refine qi ?_ _)); exact qg4.out) hb); have n2_ := qc.mk (q9 (by repeat (first | (with_reducible first | exact HB.out | apply qg | apply qd | apply qh | refine ql ?_ qhi.out | refine ql ?_ qv1.out) | exact HB.out)) hb); clear qft; clear qg4; clear HB; have qft := n0_; have qg4 := n1_; have HB := n2_; clear n0_ n1_ n2_; (try clear hb); (try clear hb2); (try clear hk); (try clear hi)))
          go_roundg k2
          case measure => have := HJ1.out; have := HK2.out; omega
          case rel => exact ⟨(wrap64 (qfu + 1)), (by first | rfl | (simp; done) | (simp [*]; done)), H', ⟨by have := HJ1.out; have := HK2.out; omega⟩, ⟨by (with_reducible repeat (first | refine qj ?_ _ | refine qm ?_ | refine qi ?_ _)); exact qft.out⟩, ⟨by repeat (first | (with_reducible first | exact HB.out | apply qg | apply qd | apply qh | refine ql ?_ qhi.out | refine ql ?_ qv1.out) | exact HB.out)⟩⟩
         ·replace c28 := Bool.eq_false_iff.mpr c28
          subst c28
          have H1 : (some false) = some r := by rw [if_neg (show ¬ (false = true) by decide)] at H; exact H
          clear H
          have H := H1
          clear H1
          obtain rfl := Option.some.inj H
          have p174 : 0 ≤ (qfu : Int) := of_decide_eq_true (by first | (with_reducible assumption) | assumption)
          have q174 : qfu < (l0_8.length : Int) := of_decide_eq_true (by first | (with_reducible assumption) | assumption)
          obtain ⟨q43, qt1, qt2, qxu, qys, q62, q67, e174, qt0, qrf, qr2, qsd, qss, qqc, qpj, qqs, qsm, qsp, qye, qy2, qyw, qxp, qzc, qyv⟩ := qe3 qop.out qfu p174 q174
          cases e174
          replace qt0 := (HB.out.cell (World.block_lt_of_cell? w _ qt0)).trans qt0
          replace qrf := (HB.out.cell (World.block_lt_of_cell? w _ qrf)).trans qrf
          replace qr2 := (HB.out.cell (World.block_lt_of_cell? w _ qr2)).trans qr2
          replace qsd := (HB.out.cell (World.block_lt_of_cell? w _ qsd)).trans qsd
          replace qss := (HB.out.cell (World.block_lt_of_cell? w _ qss)).trans qss
          replace qqc := (HB.out.cell (World.block_lt_of_cell? w _ qqc)).trans qqc
          replace qpj := (HB.out.cell (World.block_lt_of_cell? w _ qpj)).trans qpj
          replace qqs := (HB.out.cell (World.block_lt_of_cell? w _ qqs)).trans qqs
          replace qsm := (HB.out.cell (World.block_lt_of_cell? w _ qsm)).trans qsm
          replace qsp := (HB.out.cell (World.block_lt_of_cell? w _ qsp)).trans qsp
          have qbcb := qc.mk qy2
          have q8n := qc.mk qye
          clear qy2 qye
          have q7u := qc.mk qxp
          have q9u := qc.mk qyw
          clear qxp qyw
          have q7w := qc.mk qyv
          have qbav := qc.mk qzc
          clear qyv qzc
          replace p174 := eq_true p174
          replace q174 := eq_true q174
          go_wp2_with (first | ((with_reducible refine qb0 (N := 4) rfl ?_); (try (refine qcc (by rfl) ?_; dsimp only)); refine qby ?hg (N := 4) ?hd (cs := #[.int .i64 0, .int .i64 0, .int .i64 0, .string (⟨#[]⟩ : ByteArray), .int .i64 0, .int .i64 0, .string (⟨#[]⟩ : ByteArray), .slice none 0 0, .slice none 0 0, .slice none 0 0]) (t := 30) ?hr ?_; (case hd => rfl); (case hg => rfl); (case hr => first | (go_simp; done) | (go_simp; rfl)); intro qib hg w33 hbox hb; have n0_ := qc.mk (qbb (g := qgg) (o := .cells #[.int .i64 a0_0, .int .i64 a0_1, .int .i64 a0_2, .string a0_3, .int .i64 a0_4, .int .i64 a0_5, .string a0_6, .slice A0_7 l0_7.length c0_7, .slice (some q43) l0_8.length c0_8, .slice A0_9 l0_9.length c0_9] 30 (0, 0)) (by (with_reducible repeat (first | refine qj ?_ _ | refine qm ?_ | refine qi ?_ _)); exact qft.out) hb); have n1_ := qc.mk (q9 (by repeat (first | (with_reducible first | exact HB.out | apply qg | apply qd | apply qh | refine ql ?_ qhi.out) | exact HB.out)) hb); have n2_ := qc.mk (hbox); have n3_ := qc.mk ((by rw [hg]; exact (qba (by repeat (first | (with_reducible first | exact HB.out | apply qg | apply qd | apply qh | refine ql ?_ qhi.out) | exact HB.out))) : w.heap.size ≤ qib)); have n4_ := qc.mk ((by rw [hg]; exact (qba (by repeat (first | (with_reducible first | exact HB.out | apply qg | apply qd | apply qh | refine ql ?_ qhi.out) | exact HB.out))) : w.heap.size ≤ qib)); have n5_ := qc.mk ((by rw [hg]; exact Nat.ne_of_lt (qb4 (g := qgg) (o := .cells #[.int .i64 a0_0, .int .i64 a0_1, .int .i64 a0_2, .string a0_3, .int .i64 a0_4, .int .i64 a0_5, .string a0_6, .slice A0_7 l0_7.length c0_7, .slice (some q43) l0_8.length c0_8, .slice A0_9 l0_9.length c0_9] 30 (0, 0)) (by (with_reducible repeat (first | refine qj ?_ _ | refine qm ?_ | refine qi ?_ _)); exact qft.out)) : qgg ≠ qib)); have n6_ := qc.mk ((by rw [hg]; exact Nat.ne_of_gt (qb4 (g := qgg) (o := .cells #[.int .i64 a0_0, .int .i64 a0_1, .int .i64 a0_2, .string a0_3, .int .i64 a0_4, .int .i64 a0_5, .string a0_6, .slice A0_7 l0_7.length c0_7, .slice (some q43) l0_8.length c0_8, .slice A0_9 l0_9.length c0_9] 30 (0, 0)) (by (with_reducible repeat (first | refine qj ?_ _ | refine qm ?_ | refine qi ?_ _)); exact qft.out)) : qib ≠ qgg)); clear qft; clear HB; have qft := n0_; have HB := n1_; have qg4 := n2_; have qbvo := n3_; have qv1 := n4_; have qgp := n5_; have qw9 := n6_; clear n0_ n1_ n2_ n3_ n4_ n5_ n6_; clear hb hbox hg; have qbxq := qw9.out; have qbxt := qgp.out; have q3s : w33.cell? ⟨qib, 0, none⟩ = some (.int .i64 0) := (qb qg4.out 0).trans rfl; have q2l : w33.cell? ⟨qib, 1, none⟩ = some (.int .i64 0) := (qb qg4.out 1).trans rfl; have q6k : w33.cell? ⟨qib, 2, none⟩ = some (.int .i64 0) := (qb qg4.out 2).trans rfl; have q0e : w33.cell? ⟨qib, 3, none⟩ = some (.string (⟨#[]⟩ : ByteArray)) := (qb qg4.out 3).trans rfl; have qzs : w33.cell? ⟨qib, 4, none⟩ = some (.int .i64 0) := (qb qg4.out 4).trans rfl; have q34 : w33.cell? ⟨qib, 5, none⟩ = some (.int .i64 0) := (qb qg4.out 5).trans rfl; have q6a : w33.cell? ⟨qib, 6, none⟩ = some (.string (⟨#[]⟩ : ByteArray)) := (qb qg4.out 6).trans rfl; have q0l : w33.cell? ⟨qib, 7, none⟩ = some (.slice none 0 0) := (qb qg4.out 7).trans rfl; have q1u : w33.cell? ⟨qib, 8, none⟩ = some (.slice none 0 0) := (qb qg4.out 8).trans rfl; have q0g : w33.cell? ⟨qib, 9, none⟩ = some (.slice none 0 0) := (qb qg4.out 9).trans rfl; have qnx := qa qg4.out 0; have qn5 := qa qg4.out 1; have qot := qa qg4.out 2; have qnq := qa qg4.out 3; have qoc := qa qg4.out 4; have qn9 := qa qg4.out 5; have qou := qa qg4.out 6; have qoj := qa qg4.out 7; have qnn := qa qg4.out 8; have qod := qa qg4.out 9) | ((with_reducible refine qb5 (f := 43) rfl ?_); refine qcj (some 45) rfl rfl Tryd.func43 (by kernel_rfl) rfl #[.agg #[.int .i64 ((qp l0_8 qfu).f0), .int .i64 ((qp l0_8 qfu).f1), .int .i64 ((qp l0_8 qfu).f2), .string ((qp l0_8 qfu).f3), .int .i64 ((qp l0_8 qfu).f4.f0), .int .i64 ((qp l0_8 qfu).f4.f1), .string ((qp l0_8 qfu).f4.f2), .slice qt1 ((qp l0_8 qfu).f4.f3).length qt2, .slice qxu ((qp l0_8 qfu).f5).length qys, .slice q62 ((qp l0_8 qfu).f6).length q67]] rfl (by (try simp only [List.map_toArray, List.map_cons, List.map_nil]); first | done | rfl | (simp only [List.length_drop, List.length_take]; rfl)) ?_; (with_reducible refine (ih k2 (by have := HJ1.out; have := HK2.out; omega) ((qp l0_8 qfu).f0) ((qp l0_8 qfu).f1) ((qp l0_8 qfu).f2) ((qp l0_8 qfu).f3) ((qp l0_8 qfu).f4.f0) ((qp l0_8 qfu).f4.f1) ((qp l0_8 qfu).f4.f2) _ _ ((qp l0_8 qfu).f4.f3) _ _ ((qp l0_8 qfu).f5) _ _ ((qp l0_8 qfu).f6) false _ ?side1 ?side2 ?side3 ?side4 ?side5 ?side6 ?side7 A27.out).mono ?_); (case side1 => exact Kd.qbw qbcb.out (by repeat (first | (with_reducible first | exact HB.out | apply qg | apply qd | apply qh | refine ql ?_ qhi.out | refine ql ?_ qv1.out) | exact HB.out))); (case side2 => exact q8n.out); (case side3 => exact Kd.qbw q7u.out (by repeat (first | (with_reducible first | exact HB.out | apply qg | apply qd | apply qh | refine ql ?_ qhi.out | refine ql ?_ qv1.out) | exact HB.out))); (case side4 => exact q9u.out); (case side5 => exact Kd.qbw q7w.out (by repeat (first | (with_reducible first | exact HB.out | apply qg | apply qd | apply qh | refine ql ?_ qhi.out | refine ql ?_ qv1.out) | exact HB.out))); (case side6 => exact qbav.out); (case side7 => exact Lay.below HLAY.out (by repeat (first | (with_reducible first | exact HB.out | apply qg | apply qd | apply qh | refine ql ?_ qhi.out | refine ql ?_ qv1.out) | exact HB.out))); rintro e w36 ⟨rfl, hb⟩; refine ⟨_, rfl, ?_⟩; have n0_ := qc.mk (qbb (g := qgg) (o := .cells #[.int .i64 a0_0, .int .i64 a0_1, .int .i64 a0_2, .string a0_3, .int .i64 a0_4, .int .i64 a0_5, .string a0_6, .slice A0_7 l0_7.length c0_7, .slice (some q43) l0_8.length c0_8, .slice A0_9 l0_9.length c0_9] 30 (0, 0)) (by (with_reducible repeat (first | refine qj ?_ _ | refine qm ?_ | refine qi ?_ _)); refine qbp ?_ qgp.out _; (with_reducible repeat (first | refine qj ?_ _ | refine qm ?_ | refine qi ?_ _)); refine qbp ?_ qgp.out _; (with_reducible repeat (first | refine qj ?_ _ | refine qm ?_ | refine qi ?_ _)); refine qbp ?_ qgp.out _; (with_reducible repeat (first | refine qj ?_ _ | refine qm ?_ | refine qi ?_ _)); refine qbp ?_ qgp.out _; (with_reducible repeat (first | refine qj ?_ _ | refine qm ?_ | refine qi ?_ _)); refine qbp ?_ qgp.out _; (with_reducible repeat (first | refine qj ?_ _ | refine qm ?_ | refine qi ?_ _)); refine qbp ?_ qgp.out _; (with_reducible repeat (first | refine qj ?_ _ | refine qm ?_ | refine qi ?_ _)); refine qbp ?_ qgp.out _; (with_reducible repeat (first | refine qj ?_ _ | refine qm ?_ | refine qi ?_ _)); refine qbp ?_ qgp.out _; (with_reducible repeat (first | refine qj ?_ _ | refine qm ?_ | refine qi ?_ _)); refine qbp ?_ qgp.out _; (with_reducible repeat (first | refine qj ?_ _ | refine qm ?_ | refine qi ?_ _)); refine qbp ?_ qgp.out _; (with_reducible repeat (first | refine qj ?_ _ | refine qm ?_ | refine qi ?_ _)); exact qft.out) hb); have n1_ := qc.mk (qbb (g := qib) (o := .cells #[.int .i64 ((qp l0_8 qfu).f0), .int .i64 ((qp l0_8 qfu).f1), .int .i64 ((qp l0_8 qfu).f2), .string ((qp l0_8 qfu).f3), .int .i64 ((qp l0_8 qfu).f4.f0), .int .i64 ((qp l0_8 qfu).f4.f1), .string ((qp l0_8 qfu).f4.f2), .slice qt1 ((qp l0_8 qfu).f4.f3).length qt2, .slice qxu ((qp l0_8 qfu).f5).length qys, .slice q62 ((qp l0_8 qfu).f6).length q67] 30 (0, 0)) (by (with_reducible repeat (first | refine qj ?_ _ | refine qm ?_ | refine qi ?_ _)); refine qbr (cs := #[.int .i64 ((qp l0_8 qfu).f0), .int .i64 ((qp l0_8 qfu).f1), .int .i64 ((qp l0_8 qfu).f2), .string ((qp l0_8 qfu).f3), .int .i64 ((qp l0_8 qfu).f4.f0), .int .i64 ((qp l0_8 qfu).f4.f1), .string ((qp l0_8 qfu).f4.f2), .slice qt1 ((qp l0_8 qfu).f4.f3).length qt2, .slice qxu ((qp l0_8 qfu).f5).length qys, .slice none 0 0]) ?_ 9 _ rfl; (with_reducible repeat (first | refine qj ?_ _ | refine qm ?_ | refine qi ?_ _)); refine qbr (cs := #[.int .i64 ((qp l0_8 qfu).f0), .int .i64 ((qp l0_8 qfu).f1), .int .i64 ((qp l0_8 qfu).f2), .string ((qp l0_8 qfu).f3), .int .i64 ((qp l0_8 qfu).f4.f0), .int .i64 ((qp l0_8 qfu).f4.f1), .string ((qp l0_8 qfu).f4.f2), .slice qt1 ((qp l0_8 qfu).f4.f3).length qt2, .slice none 0 0, .slice none 0 0]) ?_ 8 _ rfl; (with_reducible repeat (first | refine qj ?_ _ | refine qm ?_ | refine qi ?_ _)); refine qbr (cs := #[.int .i64 ((qp l0_8 qfu).f0), .int .i64 ((qp l0_8 qfu).f1), .int .i64 ((qp l0_8 qfu).f2), .string ((qp l0_8 qfu).f3), .int .i64 ((qp l0_8 qfu).f4.f0), .int .i64 ((qp l0_8 qfu).f4.f1), .string ((qp l0_8 qfu).f4.f2), .slice none 0 0, .slice none 0 0, .slice none 0 0]) ?_ 7 _ rfl; (with_reducible repeat (first | refine qj ?_ _ | refine qm ?_ | refine qi ?_ _)); refine qbr (cs := #[.int .i64 ((qp l0_8 qfu).f0), .int .i64 ((qp l0_8 qfu).f1), .int .i64 ((qp l0_8 qfu).f2), .string ((qp l0_8 qfu).f3), .int .i64 ((qp l0_8 qfu).f4.f0), .int .i64 ((qp l0_8 qfu).f4.f1), .string (⟨#[]⟩ : ByteArray), .slice none 0 0, .slice none 0 0, .slice none 0 0]) ?_ 6 _ rfl; (with_reducible repeat (first | refine qj ?_ _ | refine qm ?_ | refine qi ?_ _)); refine qbr (cs := #[.int .i64 ((qp l0_8 qfu).f0), .int .i64 ((qp l0_8 qfu).f1), .int .i64 ((qp l0_8 qfu).f2), .string ((qp l0_8 qfu).f3), .int .i64 ((qp l0_8 qfu).f4.f0), .int .i64 0, .string (⟨#[]⟩ : ByteArray), .slice none 0 0, .slice none 0 0, .slice none 0 0]) ?_ 5 _ rfl; (with_reducible repeat (first | refine qj ?_ _ | refine qm ?_ | refine qi ?_ _)); refine qbr (cs := #[.int .i64 ((qp l0_8 qfu).f0), .int .i64 ((qp l0_8 qfu).f1), .int .i64 ((qp l0_8 qfu).f2), .string ((qp l0_8 qfu).f3), .int .i64 0, .int .i64 0, .string (⟨#[]⟩ : ByteArray), .slice none 0 0, .slice none 0 0, .slice none 0 0]) ?_ 4 _ rfl; (with_reducible repeat (first | refine qj ?_ _ | refine qm ?_ | refine qi ?_ _)); refine qbr (cs := #[.int .i64 ((qp l0_8 qfu).f0), .int .i64 ((qp l0_8 qfu).f1), .int .i64 ((qp l0_8 qfu).f2), .string (⟨#[]⟩ : ByteArray), .int .i64 0, .int .i64 0, .string (⟨#[]⟩ : ByteArray), .slice none 0 0, .slice none 0 0, .slice none 0 0]) ?_ 3 _ rfl; (with_reducible repeat (first | refine qj ?_ _ | refine qm ?_ | refine qi ?_ _)); refine qbr (cs := #[.int .i64 ((qp l0_8 qfu).f0), .int .i64 ((qp l0_8 qfu).f1), .int .i64 0, .string (⟨#[]⟩ : ByteArray), .int .i64 0, .int .i64 0, .string (⟨#[]⟩ : ByteArray), .slice none 0 0, .slice none 0 0, .slice none 0 0]) ?_ 2 _ rfl; (with_reducible repeat (first | refine qj ?_ _ | refine qm ?_ | refine qi ?_ _)); refine qbr (cs := #[.int .i64 ((qp l0_8 qfu).f0), .int .i64 0, .int .i64 0, .string (⟨#[]⟩ : ByteArray), .int .i64 0, .int .i64 0, .string (⟨#[]⟩ : ByteArray), .slice none 0 0, .slice none 0 0, .slice none 0 0]) ?_ 1 _ rfl; (with_reducible repeat (first | refine qj ?_ _ | refine qm ?_ | refine qi ?_ _)); refine qbr (cs := #[.int .i64 0, .int .i64 0, .int .i64 0, .string (⟨#[]⟩ : ByteArray), .int .i64 0, .int .i64 0, .string (⟨#[]⟩ : ByteArray), .slice none 0 0, .slice none 0 0, .slice none 0 0]) ?_ 0 _ rfl; (with_reducible repeat (first | refine qj ?_ _ | refine qm ?_ | refine qi ?_ _)); exact qg4.out) hb); have n2_ := qc.mk (q9 (by repeat (first | (with_reducible first | exact HB.out | apply qg | apply qd | apply qh | refine ql ?_ qhi.out | refine ql ?_ qv1.out) | exact HB.out)) hb); clear qft; clear qg4; clear HB; have qft := n0_; have qg4 := n1_; have HB := n2_; clear n0_ n1_ n2_; (try clear hb); (try clear hb2); (try clear hk); (try clear hi)))
          go_ret
          exact ⟨by first | rfl | (simp [qx, qy] <;> rfl) | (simp [*, qx, qy] <;> rfl), by repeat (first | (with_reducible first | exact HB.out | apply qg | apply qd | apply qh | refine ql ?_ qhi.out | refine ql ?_ qv1.out) | exact HB.out)⟩
        ·rw [if_neg c26] at H
         exact absurd H (by simp)
       ·rw [if_neg c25] at H
        exact absurd H (by simp)
      ·rw [if_neg c24] at H
       have c24b0 : decide (qfu < (l0_8.length : Int)) = false := decide_eq_false c24
       clear c24
       obtain rfl := Option.some.inj H
       go_wp2
       go_ret
       exact ⟨by first | rfl | (simp [qx, qy] <;> rfl) | (simp [*, qx, qy] <;> rfl), by repeat (first | (with_reducible first | exact HB.out | apply qg | apply qd | apply qh | refine ql ?_ qhi.out) | exact HB.out)⟩
end Go.Proofs.YtpgkhmdfddejfaaDoor.PV
end
