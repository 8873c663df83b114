import Derived.Test.YtpgkhmdfddejfaaDoorZTPVx0
import Derived.Test.YtpgkhmdfddejfaaDoorZTPVx4
section
namespace Go.Proofs.YtpgkhmdfddejfaaDoor.PV
open Go.RowKit Go.Proofs.YtpgkhmdfddejfaaDoorW.PrintWords Go.Proofs.YtpgkhmdfddejfaaDoorW.PrintLast Go.Proofs.YtpgkhmdfddejfaaDoorW.PrintMore
attribute [local go_sem] qcw qcv qdb qda qcr qcq qcu qcx   -- for this text's walks alone
set_option linter.unusedVariables false
set_option linter.unusedSimpArgs false
mutual
def qz.j0 : Nat → Int → Bool → Int → Int → ByteArray → List (S27) → Option (Bool)
 | 0, _, _, _, _, _, _ => none
 | k + 1, x1, x35, qh9, qir, qil, qja => if x35 = true then (some false) else (if qh9 = 0 then (qz.j2 k x1 qh9 qir qil qja 0 (mx qir (-9223372036854775807)) (⟨#[]⟩ : ByteArray)) else (if qh9 = 1 then (qz.j2 k x1 qh9 qir qil qja 0 (Go.bits .and .i64 qir 1) (⟨#[]⟩ : ByteArray)) else (if qh9 = 2 then (qz.j1 k x1 (qh9 == 2) qh9 qir qil qja 0 0 (⟨#[]⟩ : ByteArray)) else (qz.j1 k x1 (qh9 == 3) qh9 qir qil qja 0 0 (⟨#[]⟩ : ByteArray)))))
def qz.j2 : Nat → Int → Int → Int → ByteArray → List (S27) → Int → Int → ByteArray → Option (Bool)
 | 0, _, _, _, _, _, _, _, _ => none
 | k + 1, x1, qh9, qir, qil, qja, q7e, q3n, q9q => if q3n = qir then (qz.j3 k x1 (q9q.toList != qil.toList) qh9 qir qil qja) else (qz.j3 k x1 true qh9 qir qil qja)
def qz.j3 : Nat → Int → Bool → Int → Int → ByteArray → List (S27) → Option (Bool)
 | 0, _, _, _, _, _, _ => none
 | k + 1, x1, x72, qh9, qir, qil, qja => if x72 = true then (some false) else (qz.l0 k x1 qja (qja.length : Int) 0)
def qz.l0 : Nat → Int → List (S27) → Int → Int → Option (Bool)
 | 0, _, _, _, _ => none
 | k + 1, x1, x74, x75, x76 => if x76 < x75 then (if 0 ≤ x76 then (if x76 < (x74.length : Int) then ((qz.f k ((qw x74 x76).f0) ((qw x74 x76).f1) ((qw x74 x76).f2) ((qw x74 x76).f3) (wrap64 (x1 - 1))).bind fun t157 => (if t157 = true then (qz.l0 k x1 x74 x75 (wrap64 (x76 + 1))) else (some false))) else (none)) else (none)) else (some true)
def qz.j1 : Nat → Int → Bool → Int → Int → ByteArray → List (S27) → Int → Int → ByteArray → Option (Bool)
 | 0, _, _, _, _, _, _, _, _, _ => none
 | k + 1, x1, x51, qh9, qir, qil, qja, q7e, q3n, q9q => if x51 = true then ((qb2.f k qil).bind fun t154 => (if t154 = true then (qz.j2 k x1 qh9 qir qil qja q7e q3n qil) else (some false))) else (qz.j2 k x1 qh9 qir qil qja q7e q3n q9q)
def qz.f : Nat → Int → Int → ByteArray → List (S27) → Int → Option (Bool)
 | 0, _, _, _, _, _ => none
 | k + 1, a0_0, a0_1, a0_2, l0_3, a1 => (qdj.f).bind fun t149 => (if a1 = 0 then (qz.j0 k a1 true a0_0 a0_1 a0_2 l0_3) else (if a0_0 < 0 then (qz.j0 k a1 true a0_0 a0_1 a0_2 l0_3) else (if a0_0 ≥ (t149.length : Int) then (qz.j0 k a1 true a0_0 a0_1 a0_2 l0_3) else (if 0 ≤ a0_0 then (if a0_0 < (t149.length : Int) then (qz.j0 k a1 ((l0_3.length : Int) != ((qe2 t149 a0_0).f0)) a0_0 a0_1 a0_2 l0_3) else (none)) else (none)))))
end
theorem qz.qcg : ∀ k, (∀ y0 y1 y2 y3 y4, LeO (qz.f k y0 y1 y2 y3 y4) (qz.f (k + 1) y0 y1 y2 y3 y4)) ∧ (∀ y0 y1 y2 y3 y4 y5, LeO (qz.j0 k y0 y1 y2 y3 y4 y5) (qz.j0 (k + 1) y0 y1 y2 y3 y4 y5)) ∧ (∀ y0 y1 y2 y3 y4 y5 y6 y7, LeO (qz.j2 k y0 y1 y2 y3 y4 y5 y6 y7) (qz.j2 (k + 1) y0 y1 y2 y3 y4 y5 y6 y7)) ∧ (∀ y0 y1 y2 y3 y4 y5, LeO (qz.j3 k y0 y1 y2 y3 y4 y5) (qz.j3 (k + 1) y0 y1 y2 y3 y4 y5)) ∧ (∀ y0 y1 y2 y3, LeO (qz.l0 k y0 y1 y2 y3) (qz.l0 (k + 1) y0 y1 y2 y3)) ∧ (∀ y0 y1 y2 y3 y4 y5 y6 y7 y8, LeO (qz.j1 k y0 y1 y2 y3 y4 y5 y6 y7 y8) (qz.j1 (k + 1) y0 y1 y2 y3 y4 y5 y6 y7 y8))
 | 0 => ⟨fun _ _ _ _ _ r h => by simp [qz.f] at h, fun _ _ _ _ _ _ r h => by simp [qz.j0] at h, fun _ _ _ _ _ _ _ _ r h => by simp [qz.j2] at h, fun _ _ _ _ _ _ r h => by simp [qz.j3] at h, fun _ _ _ _ r h => by simp [qz.l0] at h, fun _ _ _ _ _ _ _ _ _ r h => by simp [qz.j1] at h⟩
 | k + 1 => by
  obtain ⟨ih0, ih1, ih2, ih3, ih4, ih5⟩ := qz.qcg k
  refine ⟨?_, ?_, ?_, ?_, ?_, ?_⟩
  ·intro y0 y1 y2 y3 y4
   unfold qz.f
   repeat' first
   | (with_reducible exact ih0 _ _ _ _ _)
   | (with_reducible exact ih1 _ _ _ _ _ _)
   | (with_reducible exact ih2 _ _ _ _ _ _ _ _)
   | (with_reducible exact ih3 _ _ _ _ _ _)
   | (with_reducible exact ih4 _ _ _ _)
   | (with_reducible exact ih5 _ _ _ _ _ _ _ _ _)
   | (with_reducible exact qb2.mono _ _)
   | (with_reducible exact LeO.refl _)
   | (with_reducible exact LeO.none _)
   | (with_reducible refine LeO.ite ?_ ?_)
   | (with_reducible refine LeO.bind ?_ (fun _ => ?_))
   | exact ih0 _ _ _ _ _
   | exact ih1 _ _ _ _ _ _
   | exact ih2 _ _ _ _ _ _ _ _
   | exact ih3 _ _ _ _ _ _
   | exact ih4 _ _ _ _
   | exact ih5 _ _ _ _ _ _ _ _ _
   | exact qb2.mono _ _
   | exact LeO.none _
   | refine LeO.ite ?_ ?_
   | refine LeO.bind ?_ (fun _ => ?_)
  ·intro y0 y1 y2 y3 y4 y5
   unfold qz.j0
   repeat' first
   | (with_reducible exact ih0 _ _ _ _ _)
   | (with_reducible exact ih1 _ _ _ _ _ _)
   | (with_reducible exact ih2 _ _ _ _ _ _ _ _)
   | (with_reducible exact ih3 _ _ _ _ _ _)
   | (with_reducible exact ih4 _ _ _ _)
   | (with_reducible exact ih5 _ _ _ _ _ _ _ _ _)
   | (with_reducible exact qb2.mono _ _)
   | (with_reducible exact LeO.refl _)
   | (with_reducible exact LeO.none _)
   | (with_reducible refine LeO.ite ?_ ?_)
   | (with_reducible refine LeO.bind ?_ (fun _ => ?_))
   | exact ih0 _ _ _ _ _
   | exact ih1 _ _ _ _ _ _
   | exact ih2 _ _ _ _ _ _ _ _
   | exact ih3 _ _ _ _ _ _
   | exact ih4 _ _ _ _
   | exact ih5 _ _ _ _ _ _ _ _ _
   | exact qb2.mono _ _
   | exact LeO.none _
   | refine LeO.ite ?_ ?_
   | refine LeO.bind ?_ (fun _ => ?_)
  ·intro y0 y1 y2 y3 y4 y5 y6 y7
   unfold qz.j2
   repeat' first
   | (with_reducible exact ih0 _ _ _ _ _)
   | (with_reducible exact ih1 _ _ _ _ _ _)
   | (with_reducible exact ih2 _ _ _ _ _ _ _ _)
   | (with_reducible exact ih3 _ _ _ _ _ _)
   | (with_reducible exact ih4 _ _ _ _)
   | (with_reducible exact ih5 _ _ _ _ _ _ _ _ _)
   | (with_reducible exact qb2.mono _ _)
   | (with_reducible exact LeO.refl _)
   | (with_reducible exact LeO.none _)
   | (with_reducible refine LeO.ite ?_ ?_)
   | (with_reducible refine LeO.bind ?_ (fun _ => ?_))
   | exact ih0 _ _ _ _ _
   | exact ih1 _ _ _ _ _ _
   | exact ih2 _ _ _ _ _ _ _ _
   | exact ih3 _ _ _ _ _ _
   | exact ih4 _ _ _ _
   | exact ih5 _ _ _ _ _ _ _ _ _
   | exact qb2.mono _ _
   | exact LeO.none _
   | refine LeO.ite ?_ ?_
   | refine LeO.bind ?_ (fun _ => ?_)
  ·intro y0 y1 y2 y3 y4 y5
   unfold qz.j3
   repeat' first
   | (with_reducible exact ih0 _ _ _ _ _)
   | (with_reducible exact ih1 _ _ _ _ _ _)
   | (with_reducible exact ih2 _ _ _ _ _ _ _ _)
   | (with_reducible exact ih3 _ _ _ _ _ _)
   | (with_reducible exact ih4 _ _ _ _)
   | (with_reducible exact ih5 _ _ _ _ _ _ _ _ _)
   | (with_reducible exact qb2.mono _ _)
   | (with_reducible exact LeO.refl _)
   | (with_reducible exact LeO.none _)
   | (with_reducible refine LeO.ite ?_ ?_)
   | (with_reducible refine LeO.bind ?_ (fun _ => ?_))
   | exact ih0 _ _ _ _ _
   | exact ih1 _ _ _ _ _ _
   | exact ih2 _ _ _ _ _ _ _ _
   | exact ih3 _ _ _ _ _ _
   | exact ih4 _ _ _ _
   | exact ih5 _ _ _ _ _ _ _ _ _
   | exact qb2.mono _ _
   | exact LeO.none _
   | refine LeO.ite ?_ ?_
   | refine LeO.bind ?_ (fun _ => ?_)
  ·intro y0 y1 y2 y3
   unfold qz.l0
   repeat' first
   | (with_reducible exact ih0 _ _ _ _ _)
   | (with_reducible exact ih1 _ _ _ _ _ _)
   | (with_reducible exact ih2 _ _ _ _ _ _ _ _)
   | (with_reducible exact ih3 _ _ _ _ _ _)
   | (with_reducible exact ih4 _ _ _ _)
   | (with_reducible exact ih5 _ _ _ _ _ _ _ _ _)
   | (with_reducible exact qb2.mono _ _)
   | (with_reducible exact LeO.refl _)
   | (with_reducible exact LeO.none _)
   | (with_reducible refine LeO.ite ?_ ?_)
   | (with_reducible refine LeO.bind ?_ (fun _ => ?_))
   | exact ih0 _ _ _ _ _
   | exact ih1 _ _ _ _ _ _
   | exact ih2 _ _ _ _ _ _ _ _
   | exact ih3 _ _ _ _ _ _
   | exact ih4 _ _ _ _
   | exact ih5 _ _ _ _ _ _ _ _ _
   | exact qb2.mono _ _
   | exact LeO.none _
   | refine LeO.ite ?_ ?_
   | refine LeO.bind ?_ (fun _ => ?_)
  ·intro y0 y1 y2 y3 y4 y5 y6 y7 y8
   unfold qz.j1
   repeat' first
   | (with_reducible exact ih0 _ _ _ _ _)
   | (with_reducible exact ih1 _ _ _ _ _ _)
   | (with_reducible exact ih2 _ _ _ _ _ _ _ _)
   | (with_reducible exact ih3 _ _ _ _ _ _)
   | (with_reducible exact ih4 _ _ _ _)
   | (with_reducible exact ih5 _ _ _ _ _ _ _ _ _)
   | (with_reducible exact qb2.mono _ _)
   | (with_reducible exact LeO.refl _)
   | (with_reducible exact LeO.none _)
   | (with_reducible refine LeO.ite ?_ ?_)
   | (with_reducible refine LeO.bind ?_ (fun _ => ?_))
   | exact ih0 _ _ _ _ _
   | exact ih1 _ _ _ _ _ _
   | exact ih2 _ _ _ _ _ _ _ _
   | exact ih3 _ _ _ _ _ _
   | exact ih4 _ _ _ _
   | exact ih5 _ _ _ _ _ _ _ _ _
   | exact qb2.mono _ _
   | exact LeO.none _
   | refine LeO.ite ?_ ?_
   | refine LeO.bind ?_ (fun _ => ?_)
theorem qz.mono : ∀ a0 a1 a2 a3 a4 k, LeO (qz.f k a0 a1 a2 a3 a4) (qz.f (k + 1) a0 a1 a2 a3 a4) := by
 intro a0 a1 a2 a3 a4 k
 obtain ⟨ih0, ih1, ih2, ih3, ih4, ih5⟩ := qz.qcg k
 exact ih0 a0 a1 a2 a3 a4
set_option maxHeartbeats 8000000 in
set_option maxRecDepth 100000 in
theorem qz.calls (k : Nat) : ∀ (a0_0 : Int) (a0_1 : Int) (a0_2 : ByteArray) (A0_3 : Option Addr) (c0_3 : Nat) (l0_3 : List (S27)) (a1 : Int) (r : Bool) (w : World) (qh5 : Kd.C k27 w A0_3 l0_3.length l0_3) (qhr : l0_3.length ≤ c0_3) (hG : Lay w) (h : qz.f k a0_0 a0_1 a0_2 l0_3 a1 = some r),
  Calls Tryd.prog 88 #[.agg #[.int .i64 a0_0, .int .i64 a0_1, .string a0_2, .slice A0_3 l0_3.length c0_3], .int .i64 a1] w fun e w' => e = .returned (.bool r) ∧ Below w.heap.size w w' := by
 induction k using Nat.strongRecOn with
 | _ k ih =>
 intro a0_0 a0_1 a0_2 A0_3 c0_3 l0_3 a1 r w qh5 qhr hG h
 cases k with
 | zero => exact absurd h (by simp [qz.f])
 | succ k =>
 simp only [qz.f] at h
 have hu27 := Tryd.underlying27
 have qo8 := qc.mk qh5
 have qwf := qc.mk qhr
 clear qh5 qhr
 have HB := qc.mk (Below.refl w.heap.size w)
 have HLAY := qc.mk hG
 clear hG
 have H : ((qdj.f).bind fun t149 => (if a1 = 0 then (qz.j0 k a1 true a0_0 a0_1 a0_2 l0_3) else (if a0_0 < 0 then (qz.j0 k a1 true a0_0 a0_1 a0_2 l0_3) else (if a0_0 ≥ (t149.length : Int) then (qz.j0 k a1 true a0_0 a0_1 a0_2 l0_3) else (if 0 ≤ a0_0 then (if a0_0 < (t149.length : Int) then (qz.j0 k a1 ((l0_3.length : Int) != ((qe2 t149 a0_0).f0)) a0_0 a0_1 a0_2 l0_3) else (none)) else (none)))))) = some r := h
 clear h
 replace H := Option.bind_eq_some_iff.mp H
 obtain ⟨t149, A30, H⟩ := H
 replace H : (if a1 = 0 then (qz.j0 k a1 true a0_0 a0_1 a0_2 l0_3) else (if a0_0 < 0 then (qz.j0 k a1 true a0_0 a0_1 a0_2 l0_3) else (if a0_0 ≥ (t149.length : Int) then (qz.j0 k a1 true a0_0 a0_1 a0_2 l0_3) else (if 0 ≤ a0_0 then (if a0_0 < (t149.length : Int) then (qz.j0 k a1 ((l0_3.length : Int) != ((qe2 t149 a0_0).f0)) a0_0 a0_1 a0_2 l0_3) else (none)) else (none))))) = some r := H
 have A3 := qc.mk A30
 clear A30
 have HC4 := qc.mk H
 clear H
 go_enter Tryd.func88, Tryd.ntmps88
 go_upto_region 2 with (first | ((with_reducible refine qb0 (N := 2) rfl ?_); (try (refine qcc (by rfl) ?_; dsimp only)); refine qby ?hg (N := 2) ?hd (cs := #[.int .i64 a0_0, .int .i64 a0_1, .string a0_2, .slice A0_3 l0_3.length c0_3]) (t := 27) ?hr ?_; (case hd => rfl); (case hg => rfl); (case hr => first | (go_simp; done) | (go_simp; rfl)); intro qfz hg w5 hbox hb; have n0_ := qc.mk (q9 (by repeat (first | (with_reducible first | exact HB.out | apply qg | apply qd | apply qh) | exact HB.out)) hb); have n1_ := qc.mk (hbox); have n2_ := qc.mk ((by rw [hg]; exact (qba (by repeat (first | (with_reducible first | exact HB.out | apply qg | apply qd | apply qh) | exact HB.out))) : w.heap.size ≤ qfz)); have n3_ := qc.mk ((by rw [hg]; exact (qba (by repeat (first | (with_reducible first | exact HB.out | apply qg | apply qd | apply qh) | exact HB.out))) : w.heap.size ≤ qfz)); clear HB; have HB := n0_; have qfs := n1_; have qbr8 := n2_; have qgl := n3_; clear n0_ n1_ n2_ n3_; clear hb hbox hg) | (go_at_call 93; (with_reducible refine (qdj.calls  t149 _ A3.out).mono ?_); rintro e w6 ⟨v150, rfl, ho0, hb⟩; have n0_ := qc.mk (Kd.qd7 ho0 (qba (by repeat (first | (with_reducible first | exact HB.out | apply qg | apply qd | apply qh | refine ql ?_ qgl.out) | exact HB.out)))); have n1_ := qc.mk (qbb (g := qfz) (o := .cells #[.int .i64 a0_0, .int .i64 a0_1, .string a0_2, .slice A0_3 l0_3.length c0_3] 27 (0, 0)) (by (with_reducible repeat (first | refine qj ?_ _ | refine qm ?_ | refine qi ?_ _)); exact qfs.out) hb); have n2_ := qc.mk (q9 (by repeat (first | (with_reducible first | exact HB.out | apply qg | apply qd | apply qh | refine ql ?_ qgl.out) | exact HB.out)) hb); clear qfs; clear HB; have qbh5 := n0_; have qfs := n1_; have HB := n2_; clear n0_ n1_ n2_; (try clear hb); (try clear hb2); (try clear hk); (try clear hi); (try clear ho0)))
 repeat (go_quiet (first | ((with_reducible refine qb0 (N := 2) rfl ?_); (try (refine qcc (by rfl) ?_; dsimp only)); refine qby ?hg (N := 2) ?hd (cs := #[.int .i64 a0_0, .int .i64 a0_1, .string a0_2, .slice A0_3 l0_3.length c0_3]) (t := 27) ?hr ?_; (case hd => rfl); (case hg => rfl); (case hr => first | (go_simp; done) | (go_simp; rfl)); intro qfz hg w5 hbox hb; have n0_ := qc.mk (q9 (by repeat (first | (with_reducible first | exact HB.out | apply qg | apply qd | apply qh) | exact HB.out)) hb); have n1_ := qc.mk (hbox); have n2_ := qc.mk ((by rw [hg]; exact (qba (by repeat (first | (with_reducible first | exact HB.out | apply qg | apply qd | apply qh) | exact HB.out))) : w.heap.size ≤ qfz)); have n3_ := qc.mk ((by rw [hg]; exact (qba (by repeat (first | (with_reducible first | exact HB.out | apply qg | apply qd | apply qh) | exact HB.out))) : w.heap.size ≤ qfz)); clear HB; have HB := n0_; have qfs := n1_; have qbr8 := n2_; have qgl := n3_; clear n0_ n1_ n2_ n3_; clear hb hbox hg) | (go_at_call 93; (with_reducible refine (qdj.calls  t149 _ A3.out).mono ?_); rintro e w6 ⟨v150, rfl, ho0, hb⟩; have n0_ := qc.mk (Kd.qd7 ho0 (qba (by repeat (first | (with_reducible first | exact HB.out | apply qg | apply qd | apply qh | refine ql ?_ qgl.out) | exact HB.out)))); have n1_ := qc.mk (qbb (g := qfz) (o := .cells #[.int .i64 a0_0, .int .i64 a0_1, .string a0_2, .slice A0_3 l0_3.length c0_3] 27 (0, 0)) (by (with_reducible repeat (first | refine qj ?_ _ | refine qm ?_ | refine qi ?_ _)); exact qfs.out) hb); have n2_ := qc.mk (q9 (by repeat (first | (with_reducible first | exact HB.out | apply qg | apply qd | apply qh | refine ql ?_ qgl.out) | exact HB.out)) hb); clear qfs; clear HB; have qbh5 := n0_; have qfs := n1_; have HB := n2_; clear n0_ n1_ n2_; (try clear hb); (try clear hb2); (try clear hk); (try clear hi); (try clear ho0))); go_upto_region 2 with (first | ((with_reducible refine qb0 (N := 2) rfl ?_); (try (refine qcc (by rfl) ?_; dsimp only)); refine qby ?hg (N := 2) ?hd (cs := #[.int .i64 a0_0, .int .i64 a0_1, .string a0_2, .slice A0_3 l0_3.length c0_3]) (t := 27) ?hr ?_; (case hd => rfl); (case hg => rfl); (case hr => first | (go_simp; done) | (go_simp; rfl)); intro qfz hg w5 hbox hb; have n0_ := qc.mk (q9 (by repeat (first | (with_reducible first | exact HB.out | apply qg | apply qd | apply qh) | exact HB.out)) hb); have n1_ := qc.mk (hbox); have n2_ := qc.mk ((by rw [hg]; exact (qba (by repeat (first | (with_reducible first | exact HB.out | apply qg | apply qd | apply qh) | exact HB.out))) : w.heap.size ≤ qfz)); have n3_ := qc.mk ((by rw [hg]; exact (qba (by repeat (first | (with_reducible first | exact HB.out | apply qg | apply qd | apply qh) | exact HB.out))) : w.heap.size ≤ qfz)); clear HB; have HB := n0_; have qfs := n1_; have qbr8 := n2_; have qgl := n3_; clear n0_ n1_ n2_ n3_; clear hb hbox hg) | (go_at_call 93; (with_reducible refine (qdj.calls  t149 _ A3.out).mono ?_); rintro e w6 ⟨v150, rfl, ho0, hb⟩; have n0_ := qc.mk (Kd.qd7 ho0 (qba (by repeat (first | (with_reducible first | exact HB.out | apply qg | apply qd | apply qh | refine ql ?_ qgl.out) | exact HB.out)))); have n1_ := qc.mk (qbb (g := qfz) (o := .cells #[.int .i64 a0_0, .int .i64 a0_1, .string a0_2, .slice A0_3 l0_3.length c0_3] 27 (0, 0)) (by (with_reducible repeat (first | refine qj ?_ _ | refine qm ?_ | refine qi ?_ _)); exact qfs.out) hb); have n2_ := qc.mk (q9 (by repeat (first | (with_reducible first | exact HB.out | apply qg | apply qd | apply qh | refine ql ?_ qgl.out) | exact HB.out)) hb); clear qfs; clear HB; have qbh5 := n0_; have qfs := n1_; have HB := n2_; clear n0_ n1_ n2_; (try clear hb); (try clear hb2); (try clear hk); (try clear hi); (try clear ho0))))
 (try simp only [Act.put, List.setIfInBounds_toArray, List.set_cons_zero, List.set_cons_succ])
 go_cut [35] (fun v35 wc => ∃ (kq : Nat) (qbmk : Bool), v35 = .bool qbmk ∧ qc (qz.j0 kq a1 qbmk a0_0 a0_1 a0_2 l0_3 = some r) ∧ qc (kq ≤ k) ∧ qc (wc.heap[qfz]? = some (.cells #[.int .i64 a0_0, .int .i64 a0_1, .string a0_2, (.slice A0_3 l0_3.length c0_3)] 27 (0, 0))) ∧ qc (Below w.heap.size w wc))
 case first =>
  have H := HC4.out
  clear HC4
  by_cases c7 : a1 = 0
  ·rw [if_pos c7] at H
   have c7b0 : (a1 == 0) = true := beq_iff_eq.mpr c7
   have c7b1 : (a1 != 0) = false := bne_eq_false_iff_eq.mpr c7
   clear c7
   (first | rw [c7b0] | (simp only [i64_w, i32_w]; rw [c7b0]) | skip)
   have H' := qc.mk H
   clear H
   go_wp2
   repeat (go_quiet (fail); try go_wp2)
   go_meet
   case rel => exact ⟨_, (true), (by first | rfl | (simp; done) | (simp [*]; done)), H', ⟨by first | omega | exact Nat.le_refl _⟩, ⟨by (with_reducible repeat (first | refine qj ?_ _ | refine qm ?_ | refine qi ?_ _)); exact qfs.out⟩, ⟨by repeat (first | (with_reducible first | exact HB.out | apply qg | apply qd | apply qh | refine ql ?_ qgl.out) | exact HB.out)⟩⟩
  ·rw [if_neg c7] at H
   have c7b0 : (a1 == 0) = false := beq_eq_false_iff_ne.mpr c7
   have c7b1 : (a1 != 0) = true := bne_iff_ne.mpr c7
   (first | rw [c7b0] | (simp only [i64_w, i32_w]; rw [c7b0]) | skip)
   by_cases c8 : a0_0 < 0
   ·rw [if_pos c8] at H
    have c8b0 : decide (a0_0 < 0) = true := decide_eq_true c8
    clear c8
    have H' := qc.mk H
    clear H
    have qh4 : w6.cell? ⟨qfz, 0, none⟩ = some (.int .i64 a0_0) := (qb qfs.out 0).trans rfl
    have qhu : w6.cell? ⟨qfz, 1, none⟩ = some (.int .i64 a0_1) := (qb qfs.out 1).trans rfl
    have qh7 : w6.cell? ⟨qfz, 2, none⟩ = some (.string a0_2) := (qb qfs.out 2).trans rfl
    have qhx : w6.cell? ⟨qfz, 3, none⟩ = some (.slice A0_3 l0_3.length c0_3) := (qb qfs.out 3).trans rfl
    have qhd := qa qfs.out 0
    have qg9 := qa qfs.out 1
    have qhf := qa qfs.out 2
    have qha := qa qfs.out 3
    go_wp2
    repeat (go_quiet (fail); try go_wp2)
    go_meet
    case rel => exact ⟨_, (true), (by first | rfl | (simp; done) | (simp [*]; done)), H', ⟨by first | omega | exact Nat.le_refl _⟩, ⟨by (with_reducible repeat (first | refine qj ?_ _ | refine qm ?_ | refine qi ?_ _)); exact qfs.out⟩, ⟨by repeat (first | (with_reducible first | exact HB.out | apply qg | apply qd | apply qh | refine ql ?_ qgl.out) | exact HB.out)⟩⟩
   ·rw [if_neg c8] at H
    have c8b0 : decide (a0_0 < 0) = false := decide_eq_false c8
    clear c8
    by_cases c10 : a0_0 ≥ (t149.length : Int)
    ·rw [if_pos c10] at H
     have c10b0 : decide ((t149.length : Int) ≤ a0_0) = true := decide_eq_true c10
     clear c10
     have H' := qc.mk H
     clear H
     have qit : w6.cell? ⟨qfz, 0, none⟩ = some (.int .i64 a0_0) := (qb qfs.out 0).trans rfl
     have qig : w6.cell? ⟨qfz, 1, none⟩ = some (.int .i64 a0_1) := (qb qfs.out 1).trans rfl
     have qij : w6.cell? ⟨qfz, 2, none⟩ = some (.string a0_2) := (qb qfs.out 2).trans rfl
     have qih : w6.cell? ⟨qfz, 3, none⟩ = some (.slice A0_3 l0_3.length c0_3) := (qb qfs.out 3).trans rfl
     have qif := qa qfs.out 0
     have qin := qa qfs.out 1
     have qik := qa qfs.out 2
     have qio := qa qfs.out 3
     obtain ⟨Ao12, co12, eo12⟩ := Kd.qde qbh5.out
     subst eo12
     go_wp2
     repeat (go_quiet (fail); try go_wp2)
     go_meet
     case rel => exact ⟨_, (true), (by first | rfl | (simp; done) | (simp [*]; done)), H', ⟨by first | omega | exact Nat.le_refl _⟩, ⟨by (with_reducible repeat (first | refine qj ?_ _ | refine qm ?_ | refine qi ?_ _)); exact qfs.out⟩, ⟨by repeat (first | (with_reducible first | exact HB.out | apply qg | apply qd | apply qh | refine ql ?_ qgl.out) | exact HB.out)⟩⟩
    ·rw [if_neg c10] at H
     have c10b0 : decide ((t149.length : Int) ≤ a0_0) = false := decide_eq_false c10
     clear c10
     by_cases c13 : 0 ≤ a0_0
     ·rw [if_pos c13] at H
      have c13b0 : decide (0 ≤ a0_0) = true := decide_eq_true c13
      clear c13
      by_cases c14 : a0_0 < (t149.length : Int)
      ·rw [if_pos c14] at H
       have c14b0 : decide (a0_0 < (t149.length : Int)) = true := decide_eq_true c14
       clear c14
       have H' := qc.mk H
       clear H
       have qh3 : w6.cell? ⟨qfz, 0, none⟩ = some (.int .i64 a0_0) := (qb qfs.out 0).trans rfl
       have qhw : w6.cell? ⟨qfz, 1, none⟩ = some (.int .i64 a0_1) := (qb qfs.out 1).trans rfl
       have qht : w6.cell? ⟨qfz, 2, none⟩ = some (.string a0_2) := (qb qfs.out 2).trans rfl
       have qhp : w6.cell? ⟨qfz, 3, none⟩ = some (.slice A0_3 l0_3.length c0_3) := (qb qfs.out 3).trans rfl
       have qg0 := qa qfs.out 0
       have qgx := qa qfs.out 1
       have qgz := qa qfs.out 2
       have qgy := qa qfs.out 3
       obtain ⟨Ao16, co16, eo16⟩ := Kd.qde qbh5.out
       subst eo16
       have p152 : 0 ≤ (a0_0 : Int) := of_decide_eq_true (by first | (with_reducible assumption) | assumption)
       have q152 : a0_0 < (t149.length : Int) := of_decide_eq_true (by first | (with_reducible assumption) | assumption)
       obtain ⟨qbxi, e152, qyt, qy3⟩ := at_T145 (Kd.qds qbh5.out).2.2 a0_0 p152 q152
       cases e152
       replace p152 := eq_true p152
       replace q152 := eq_true q152
       go_wp2
       repeat (go_quiet (fail); try go_wp2)
       go_meet
       case rel => exact ⟨_, (((l0_3.length : Int) != ((qe2 t149 a0_0).f0))), (by first | rfl | (simp; done) | (simp [*]; done)), H', ⟨by first | omega | exact Nat.le_refl _⟩, ⟨by (with_reducible repeat (first | refine qj ?_ _ | refine qm ?_ | refine qi ?_ _)); exact qfs.out⟩, ⟨by repeat (first | (with_reducible first | exact HB.out | apply qg | apply qd | apply qh | refine ql ?_ qgl.out) | exact HB.out)⟩⟩
      ·rw [if_neg c14] at H
       exact absurd H (by simp)
     ·rw [if_neg c13] at H
      exact absurd H (by simp)
 case rest =>
  clear HC4
  (try clear c1); (try clear p1); (try clear q1); (try clear hx1); (try clear p2); (try clear c7); (try clear c7b0); (try clear c7b1); (try clear c8); (try clear c8b0); (try clear c10); (try clear c10b0); (try clear c13); (try clear c13b0); (try clear c14); (try clear c14b0); (try clear p15); (try clear q15); (try clear hx15); (try clear qit qig qij qih); (try clear qh3 qhw qht qhp); (try clear qh4 qhu qh7 qhx); (try clear qif qin qik qio); (try clear qg0 qgx qgz qgy); (try clear qhd qg9 qhf qha); (try clear qyt); (try clear qy3); (try clear p152); (try clear q152)
  obtain ⟨kq, qbmk, rfl, HA, HJ3, qfs, HB⟩ := hcut
  cases kq with
  | zero => exact absurd HA.out (by simp [qz.j0])
  | succ kj3 =>
   have H := HA.out
   clear HA
   simp only [qz.j0] at H
   by_cases c17 : qbmk = true
   ·subst c17
    have H1 : (some false) = some r := by rw [if_pos rfl] at H; exact H
    clear H
    have H := H1
    clear H1
    obtain rfl := Option.some.inj H
    go_wp2
    repeat (go_quiet (fail); try go_wp2)
    go_ret
    exact ⟨by first | rfl | (simp [qx, qy] <;> rfl) | (simp [*, qx, qy] <;> rfl), by repeat (first | (with_reducible first | exact HB.out | apply qg | apply qd | apply qh | refine ql ?_ qgl.out) | exact HB.out)⟩
   ·replace c17 := Bool.eq_false_iff.mpr c17
    subst c17
    have H1 : (if a0_0 = 0 then (qz.j2 kj3 a1 a0_0 a0_1 a0_2 l0_3 0 (mx a0_1 (-9223372036854775807)) (⟨#[]⟩ : ByteArray)) else (if a0_0 = 1 then (qz.j2 kj3 a1 a0_0 a0_1 a0_2 l0_3 0 (Go.bits .and .i64 a0_1 1) (⟨#[]⟩ : ByteArray)) else (if a0_0 = 2 then (qz.j1 kj3 a1 (a0_0 == 2) a0_0 a0_1 a0_2 l0_3 0 0 (⟨#[]⟩ : ByteArray)) else (qz.j1 kj3 a1 (a0_0 == 3) a0_0 a0_1 a0_2 l0_3 0 0 (⟨#[]⟩ : ByteArray))))) = some r := by rw [if_neg (show ¬ (false = true) by decide)] at H; exact H
    clear H
    have H := H1
    clear H1
    have HC18 := qc.mk H
    clear H
    go_upto_block 0 with (first | ((with_reducible refine qb0 (N := 6) rfl ?_); (try (refine qcc (by rfl) ?_; dsimp only)); refine qby ?hg (N := 6) ?hd (cs := #[.int .i64 0, .int .i64 0, .string (⟨#[]⟩ : ByteArray), .slice none 0 0]) (t := 27) ?hr ?_; (case hd => rfl); (case hg => rfl); (case hr => first | (go_simp; done) | (go_simp; rfl)); intro qgf hg w19 hbox hb; have n0_ := qc.mk (qbb (g := qfz) (o := .cells #[.int .i64 a0_0, .int .i64 a0_1, .string a0_2, .slice A0_3 l0_3.length c0_3] 27 (0, 0)) (by (with_reducible repeat (first | refine qj ?_ _ | refine qm ?_ | refine qi ?_ _)); exact qfs.out) hb); have n1_ := qc.mk (q9 (by repeat (first | (with_reducible first | exact HB.out | apply qg | apply qd | apply qh | refine ql ?_ qgl.out) | exact HB.out)) hb); have n2_ := qc.mk (hbox); have n3_ := qc.mk ((by rw [hg]; exact (qba (by repeat (first | (with_reducible first | exact HB.out | apply qg | apply qd | apply qh | refine ql ?_ qgl.out) | exact HB.out))) : w.heap.size ≤ qgf)); have n4_ := qc.mk ((by rw [hg]; exact (qba (by repeat (first | (with_reducible first | exact HB.out | apply qg | apply qd | apply qh | refine ql ?_ qgl.out) | exact HB.out))) : w.heap.size ≤ qgf)); have n5_ := qc.mk ((by rw [hg]; exact Nat.ne_of_lt (qb4 (g := qfz) (o := .cells #[.int .i64 a0_0, .int .i64 a0_1, .string a0_2, .slice A0_3 l0_3.length c0_3] 27 (0, 0)) (by (with_reducible repeat (first | refine qj ?_ _ | refine qm ?_ | refine qi ?_ _)); exact qfs.out)) : qfz ≠ qgf)); have n6_ := qc.mk ((by rw [hg]; exact Nat.ne_of_gt (qb4 (g := qfz) (o := .cells #[.int .i64 a0_0, .int .i64 a0_1, .string a0_2, .slice A0_3 l0_3.length c0_3] 27 (0, 0)) (by (with_reducible repeat (first | refine qj ?_ _ | refine qm ?_ | refine qi ?_ _)); exact qfs.out)) : qgf ≠ qfz)); clear qfs; clear HB; have qfs := n0_; have HB := n1_; have qfv := n2_; have qbsm := n3_; have qgr := n4_; have qgi := n5_; have qhh := n6_; clear n0_ n1_ n2_ n3_ n4_ n5_ n6_; clear hb hbox hg; have qbqo := qhh.out; have qbqa := qgi.out; have qlz : w19.cell? ⟨qgf, 0, none⟩ = some (.int .i64 0) := (qb qfv.out 0).trans rfl; have qma : w19.cell? ⟨qgf, 1, none⟩ = some (.int .i64 0) := (qb qfv.out 1).trans rfl; have ql3 : w19.cell? ⟨qgf, 2, none⟩ = some (.string (⟨#[]⟩ : ByteArray)) := (qb qfv.out 2).trans rfl; have qlv : w19.cell? ⟨qgf, 3, none⟩ = some (.slice none 0 0) := (qb qfv.out 3).trans rfl; have qlp := qa qfv.out 0; have ql0 := qa qfv.out 1; have qme := qa qfv.out 2; have qmo := qa qfv.out 3; have qnw : w19.cell? ⟨qfz, 0, none⟩ = some (.int .i64 a0_0) := (qb qfs.out 0).trans rfl; have qon : w19.cell? ⟨qfz, 1, none⟩ = some (.int .i64 a0_1) := (qb qfs.out 1).trans rfl; have qog : w19.cell? ⟨qfz, 2, none⟩ = some (.string a0_2) := (qb qfs.out 2).trans rfl; have qn8 : w19.cell? ⟨qfz, 3, none⟩ = some (.slice A0_3 l0_3.length c0_3) := (qb qfs.out 3).trans rfl; have qof := qa qfs.out 0; have qny := qa qfs.out 1; have qok := qa qfs.out 2; have qn1 := qa qfs.out 3))
    repeat (go_quiet (first | ((with_reducible refine qb0 (N := 6) rfl ?_); (try (refine qcc (by rfl) ?_; dsimp only)); refine qby ?hg (N := 6) ?hd (cs := #[.int .i64 0, .int .i64 0, .string (⟨#[]⟩ : ByteArray), .slice none 0 0]) (t := 27) ?hr ?_; (case hd => rfl); (case hg => rfl); (case hr => first | (go_simp; done) | (go_simp; rfl)); intro qgf hg w19 hbox hb; have n0_ := qc.mk (qbb (g := qfz) (o := .cells #[.int .i64 a0_0, .int .i64 a0_1, .string a0_2, .slice A0_3 l0_3.length c0_3] 27 (0, 0)) (by (with_reducible repeat (first | refine qj ?_ _ | refine qm ?_ | refine qi ?_ _)); exact qfs.out) hb); have n1_ := qc.mk (q9 (by repeat (first | (with_reducible first | exact HB.out | apply qg | apply qd | apply qh | refine ql ?_ qgl.out) | exact HB.out)) hb); have n2_ := qc.mk (hbox); have n3_ := qc.mk ((by rw [hg]; exact (qba (by repeat (first | (with_reducible first | exact HB.out | apply qg | apply qd | apply qh | refine ql ?_ qgl.out) | exact HB.out))) : w.heap.size ≤ qgf)); have n4_ := qc.mk ((by rw [hg]; exact (qba (by repeat (first | (with_reducible first | exact HB.out | apply qg | apply qd | apply qh | refine ql ?_ qgl.out) | exact HB.out))) : w.heap.size ≤ qgf)); have n5_ := qc.mk ((by rw [hg]; exact Nat.ne_of_lt (qb4 (g := qfz) (o := .cells #[.int .i64 a0_0, .int .i64 a0_1, .string a0_2, .slice A0_3 l0_3.length c0_3] 27 (0, 0)) (by (with_reducible repeat (first | refine qj ?_ _ | refine qm ?_ | refine qi ?_ _)); exact qfs.out)) : qfz ≠ qgf)); have n6_ := qc.mk ((by rw [hg]; exact Nat.ne_of_gt (qb4 (g := qfz) (o := .cells #[.int .i64 a0_0, .int .i64 a0_1, .string a0_2, .slice A0_3 l0_3.length c0_3] 27 (0, 0)) (by (with_reducible repeat (first | refine qj ?_ _ | refine qm ?_ | refine qi ?_ _)); exact qfs.out)) : qgf ≠ qfz)); clear qfs; clear HB; have qfs := n0_; have HB := n1_; have qfv := n2_; have qbsm := n3_; have qgr := n4_; have qgi := n5_; have qhh := n6_; clear n0_ n1_ n2_ n3_ n4_ n5_ n6_; clear hb hbox hg; have qbqo := qhh.out; have qbqa := qgi.out; have qlz : w19.cell? ⟨qgf, 0, none⟩ = some (.int .i64 0) := (qb qfv.out 0).trans rfl; have qma : w19.cell? ⟨qgf, 1, none⟩ = some (.int .i64 0) := (qb qfv.out 1).trans rfl; have ql3 : w19.cell? ⟨qgf, 2, none⟩ = some (.string (⟨#[]⟩ : ByteArray)) := (qb qfv.out 2).trans rfl; have qlv : w19.cell? ⟨qgf, 3, none⟩ = some (.slice none 0 0) := (qb qfv.out 3).trans rfl; have qlp := qa qfv.out 0; have ql0 := qa qfv.out 1; have qme := qa qfv.out 2; have qmo := qa qfv.out 3; have qnw : w19.cell? ⟨qfz, 0, none⟩ = some (.int .i64 a0_0) := (qb qfs.out 0).trans rfl; have qon : w19.cell? ⟨qfz, 1, none⟩ = some (.int .i64 a0_1) := (qb qfs.out 1).trans rfl; have qog : w19.cell? ⟨qfz, 2, none⟩ = some (.string a0_2) := (qb qfs.out 2).trans rfl; have qn8 : w19.cell? ⟨qfz, 3, none⟩ = some (.slice A0_3 l0_3.length c0_3) := (qb qfs.out 3).trans rfl; have qof := qa qfs.out 0; have qny := qa qfs.out 1; have qok := qa qfs.out 2; have qn1 := qa qfs.out 3)); go_upto_block 0 with (first | ((with_reducible refine qb0 (N := 6) rfl ?_); (try (refine qcc (by rfl) ?_; dsimp only)); refine qby ?hg (N := 6) ?hd (cs := #[.int .i64 0, .int .i64 0, .string (⟨#[]⟩ : ByteArray), .slice none 0 0]) (t := 27) ?hr ?_; (case hd => rfl); (case hg => rfl); (case hr => first | (go_simp; done) | (go_simp; rfl)); intro qgf hg w19 hbox hb; have n0_ := qc.mk (qbb (g := qfz) (o := .cells #[.int .i64 a0_0, .int .i64 a0_1, .string a0_2, .slice A0_3 l0_3.length c0_3] 27 (0, 0)) (by (with_reducible repeat (first | refine qj ?_ _ | refine qm ?_ | refine qi ?_ _)); exact qfs.out) hb); have n1_ := qc.mk (q9 (by repeat (first | (with_reducible first | exact HB.out | apply qg | apply qd | apply qh | refine ql ?_ qgl.out) | exact HB.out)) hb); have n2_ := qc.mk (hbox); have n3_ := qc.mk ((by rw [hg]; exact (qba (by repeat (first | (with_reducible first | exact HB.out | apply qg | apply qd | apply qh | refine ql ?_ qgl.out) | exact HB.out))) : w.heap.size ≤ qgf)); have n4_ := qc.mk ((by rw [hg]; exact (qba (by repeat (first | (with_reducible first | exact HB.out | apply qg | apply qd | apply qh | refine ql ?_ qgl.out) | exact HB.out))) : w.heap.size ≤ qgf)); have n5_ := qc.mk ((by rw [hg]; exact Nat.ne_of_lt (qb4 (g := qfz) (o := .cells #[.int .i64 a0_0, .int .i64 a0_1, .string a0_2, .slice A0_3 l0_3.length c0_3] 27 (0, 0)) (by (with_reducible repeat (first | refine qj ?_ _ | refine qm ?_ | refine qi ?_ _)); exact qfs.out)) : qfz ≠ qgf)); have n6_ := qc.mk ((by rw [hg]; exact Nat.ne_of_gt (qb4 (g := qfz) (o := .cells #[.int .i64 a0_0, .int .i64 a0_1, .string a0_2, .slice A0_3 l0_3.length c0_3] 27 (0, 0)) (by (with_reducible repeat (first | refine qj ?_ _ | refine qm ?_ | refine qi ?_ _)); exact qfs.out)) : qgf ≠ qfz)); clear qfs; clear HB; have qfs := n0_; have HB := n1_; have qfv := n2_; have qbsm := n3_; have qgr := n4_; have qgi := n5_; have qhh := n6_; clear n0_ n1_ n2_ n3_ n4_ n5_ n6_; clear hb hbox hg; have qbqo := qhh.out; have qbqa := qgi.out; have qlz : w19.cell? ⟨qgf, 0, none⟩ = some (.int .i64 0) := (qb qfv.out 0).trans rfl; have qma : w19.cell? ⟨qgf, 1, none⟩ = some (.int .i64 0) := (qb qfv.out 1).trans rfl; have ql3 : w19.cell? ⟨qgf, 2, none⟩ = some (.string (⟨#[]⟩ : ByteArray)) := (qb qfv.out 2).trans rfl; have qlv : w19.cell? ⟨qgf, 3, none⟩ = some (.slice none 0 0) := (qb qfv.out 3).trans rfl; have qlp := qa qfv.out 0; have ql0 := qa qfv.out 1; have qme := qa qfv.out 2; have qmo := qa qfv.out 3; have qnw : w19.cell? ⟨qfz, 0, none⟩ = some (.int .i64 a0_0) := (qb qfs.out 0).trans rfl; have qon : w19.cell? ⟨qfz, 1, none⟩ = some (.int .i64 a0_1) := (qb qfs.out 1).trans rfl; have qog : w19.cell? ⟨qfz, 2, none⟩ = some (.string a0_2) := (qb qfs.out 2).trans rfl; have qn8 : w19.cell? ⟨qfz, 3, none⟩ = some (.slice A0_3 l0_3.length c0_3) := (qb qfs.out 3).trans rfl; have qof := qa qfs.out 0; have qny := qa qfs.out 1; have qok := qa qfs.out 2; have qn1 := qa qfs.out 3)))
    (try simp only [Act.put, List.setIfInBounds_toArray, List.set_cons_zero, List.set_cons_succ])
    go_cut [] (fun wc => ∃ (kq : Nat) (qf0 : Int) (qf3 : ByteArray), qc (qz.j2 kq a1 a0_0 a0_1 a0_2 l0_3 0 qf0 qf3 = some r) ∧ qc (kq ≤ kj3) ∧ qc (wc.heap[qfz]? = some (.cells #[.int .i64 a0_0, .int .i64 a0_1, .string a0_2, (.slice A0_3 l0_3.length c0_3)] 27 (0, 0))) ∧ qc (wc.heap[qgf]? = some (.cells #[.int .i64 0, .int .i64 qf0, .string qf3, (.slice none 0 0)] 27 (0, 0))) ∧ qc (Below w.heap.size w wc))
    case first =>
     have H := HC18.out
     clear HC18
     by_cases c23 : a0_0 = 0
     ·rw [if_pos c23] at H
      have c23b0 : (a0_0 == 0) = true := beq_iff_eq.mpr c23
      have c23b1 : (a0_0 != 0) = false := bne_eq_false_iff_eq.mpr c23
      clear c23
      (first | rw [c23b0] | (simp only [i64_w, i32_w]; rw [c23b0]) | skip)
      obtain ⟨ji24, qbqb⟩ : ∃ j_ : Int, (mx a0_1 (-9223372036854775807)) = j_ := ⟨_, rfl⟩
      replace H : (qz.j2 kj3 a1 a0_0 a0_1 a0_2 l0_3 0 ji24 (⟨#[]⟩ : ByteArray)) = some r := by first | (rw [qbqb] at H; exact H) | (simp only [qbqb] at H ⊢; exact H)
      have hji24_ : (if a0_1 < (-9223372036854775807) then (-9223372036854775807) else a0_1) = ji24 := qbqb
      have H' := qc.mk H
      clear H
      have qbwz := qgi.out
      have qbu9 := qhh.out
      have qu9 : w19.cell? ⟨qfz, 0, none⟩ = some (.int .i64 a0_0) := (qb qfs.out 0).trans rfl
      have quj : w19.cell? ⟨qfz, 1, none⟩ = some (.int .i64 a0_1) := (qb qfs.out 1).trans rfl
      have qv0 : w19.cell? ⟨qfz, 2, none⟩ = some (.string a0_2) := (qb qfs.out 2).trans rfl
      have qt3 : w19.cell? ⟨qfz, 3, none⟩ = some (.slice A0_3 l0_3.length c0_3) := (qb qfs.out 3).trans rfl
      have qt7 := qa qfs.out 0
      have qum := qa qfs.out 1
      have qvb := qa qfs.out 2
      have qt6 := qa qfs.out 3
      have qoe : w19.cell? ⟨qgf, 0, none⟩ = some (.int .i64 0) := (qb qfv.out 0).trans rfl
      have qob : w19.cell? ⟨qgf, 1, none⟩ = some (.int .i64 0) := (qb qfv.out 1).trans rfl
      have qoi : w19.cell? ⟨qgf, 2, none⟩ = some (.string (⟨#[]⟩ : ByteArray)) := (qb qfv.out 2).trans rfl
      have qnv : w19.cell? ⟨qgf, 3, none⟩ = some (.slice none 0 0) := (qb qfv.out 3).trans rfl
      have qo6 := qa qfv.out 0
      have qoy := qa qfv.out 1
      have qn2 := qa qfv.out 2
      have qn3 := qa qfv.out 3
      go_wp2
      repeat (go_quiet (fail); try go_wp2)
      go_meet
      case rel => exact ⟨_, (ji24), ((⟨#[]⟩ : ByteArray)), H', ⟨by have := HJ3.out; first | omega | exact Nat.le_refl _⟩, ⟨by (with_reducible repeat (first | refine qj ?_ _ | refine qm ?_ | refine qi ?_ _)); refine qbp ?_ qgi.out _; (with_reducible repeat (first | refine qj ?_ _ | refine qm ?_ | refine qi ?_ _)); refine qbp ?_ qgi.out _; (with_reducible repeat (first | refine qj ?_ _ | refine qm ?_ | refine qi ?_ _)); refine qbp ?_ qgi.out _; (with_reducible repeat (first | refine qj ?_ _ | refine qm ?_ | refine qi ?_ _)); refine qbp ?_ qgi.out _; (with_reducible repeat (first | refine qj ?_ _ | refine qm ?_ | refine qi ?_ _)); refine qbp ?_ qgi.out _; (with_reducible repeat (first | refine qj ?_ _ | refine qm ?_ | refine qi ?_ _)); exact qfs.out⟩, ⟨by (with_reducible repeat (first | refine qj ?_ _ | refine qm ?_ | refine qi ?_ _)); refine qbr (cs := #[.int .i64 0, .int .i64 0, .string (⟨#[]⟩ : ByteArray), .slice none 0 0]) ?_ 1 _ rfl; (with_reducible repeat (first | refine qj ?_ _ | refine qm ?_ | refine qi ?_ _)); refine qbr (cs := #[.int .i64 0, .int .i64 0, .string (⟨#[]⟩ : ByteArray), .slice none 0 0]) ?_ 3 _ rfl; (with_reducible repeat (first | refine qj ?_ _ | refine qm ?_ | refine qi ?_ _)); refine qbr (cs := #[.int .i64 0, .int .i64 0, .string (⟨#[]⟩ : ByteArray), .slice none 0 0]) ?_ 2 _ rfl; (with_reducible repeat (first | refine qj ?_ _ | refine qm ?_ | refine qi ?_ _)); refine qbr (cs := #[.int .i64 0, .int .i64 0, .string (⟨#[]⟩ : ByteArray), .slice none 0 0]) ?_ 1 _ rfl; (with_reducible repeat (first | refine qj ?_ _ | refine qm ?_ | refine qi ?_ _)); refine qbr (cs := #[.int .i64 0, .int .i64 0, .string (⟨#[]⟩ : ByteArray), .slice none 0 0]) ?_ 0 _ rfl; (with_reducible repeat (first | refine qj ?_ _ | refine qm ?_ | refine qi ?_ _)); exact qfv.out⟩, ⟨by repeat (first | (with_reducible first | exact HB.out | apply qg | apply qd | apply qh | refine ql ?_ qgl.out | refine ql ?_ qgr.out) | exact HB.out)⟩⟩
     ·rw [if_neg c23] at H
      have c23b0 : (a0_0 == 0) = false := beq_eq_false_iff_ne.mpr c23
      have c23b1 : (a0_0 != 0) = true := bne_iff_ne.mpr c23
      (first | rw [c23b0] | (simp only [i64_w, i32_w]; rw [c23b0]) | skip)
      by_cases c28 : a0_0 = 1
      ·rw [if_pos c28] at H
       have c28b0 : (a0_0 == 1) = true := beq_iff_eq.mpr c28
       have c28b1 : (a0_0 != 1) = false := bne_eq_false_iff_eq.mpr c28
       clear c28
       have H' := qc.mk H
       clear H
       have qbyl := qgi.out
       have qbya := qhh.out
       have q3p : w19.cell? ⟨qfz, 0, none⟩ = some (.int .i64 a0_0) := (qb qfs.out 0).trans rfl
       have q35 : w19.cell? ⟨qfz, 1, none⟩ = some (.int .i64 a0_1) := (qb qfs.out 1).trans rfl
       have q0s : w19.cell? ⟨qfz, 2, none⟩ = some (.string a0_2) := (qb qfs.out 2).trans rfl
       have q4x : w19.cell? ⟨qfz, 3, none⟩ = some (.slice A0_3 l0_3.length c0_3) := (qb qfs.out 3).trans rfl
       have q0d := qa qfs.out 0
       have q08 := qa qfs.out 1
       have q6i := qa qfs.out 2
       have qzy := qa qfs.out 3
       have qm0 : w19.cell? ⟨qgf, 0, none⟩ = some (.int .i64 0) := (qb qfv.out 0).trans rfl
       have qm9 : w19.cell? ⟨qgf, 1, none⟩ = some (.int .i64 0) := (qb qfv.out 1).trans rfl
       have qmw : w19.cell? ⟨qgf, 2, none⟩ = some (.string (⟨#[]⟩ : ByteArray)) := (qb qfv.out 2).trans rfl
       have qna : w19.cell? ⟨qgf, 3, none⟩ = some (.slice none 0 0) := (qb qfv.out 3).trans rfl
       have qm4 := qa qfv.out 0
       have qng := qa qfv.out 1
       have qm3 := qa qfv.out 2
       have qm1 := qa qfv.out 3
       go_wp2
       repeat (go_quiet (fail); try go_wp2)
       go_meet
       case rel => exact ⟨_, (Go.bits .and .i64 a0_1 1), ((⟨#[]⟩ : ByteArray)), H', ⟨by have := HJ3.out; first | omega | exact Nat.le_refl _⟩, ⟨by (with_reducible repeat (first | refine qj ?_ _ | refine qm ?_ | refine qi ?_ _)); refine qbp ?_ qgi.out _; (with_reducible repeat (first | refine qj ?_ _ | refine qm ?_ | refine qi ?_ _)); refine qbp ?_ qgi.out _; (with_reducible repeat (first | refine qj ?_ _ | refine qm ?_ | refine qi ?_ _)); refine qbp ?_ qgi.out _; (with_reducible repeat (first | refine qj ?_ _ | refine qm ?_ | refine qi ?_ _)); refine qbp ?_ qgi.out _; (with_reducible repeat (first | refine qj ?_ _ | refine qm ?_ | refine qi ?_ _)); refine qbp ?_ qgi.out _; (with_reducible repeat (first | refine qj ?_ _ | refine qm ?_ | refine qi ?_ _)); exact qfs.out⟩, ⟨by (with_reducible repeat (first | refine qj ?_ _ | refine qm ?_ | refine qi ?_ _)); refine qbr (cs := #[.int .i64 0, .int .i64 0, .string (⟨#[]⟩ : ByteArray), .slice none 0 0]) ?_ 1 _ rfl; (with_reducible repeat (first | refine qj ?_ _ | refine qm ?_ | refine qi ?_ _)); refine qbr (cs := #[.int .i64 0, .int .i64 0, .string (⟨#[]⟩ : ByteArray), .slice none 0 0]) ?_ 3 _ rfl; (with_reducible repeat (first | refine qj ?_ _ | refine qm ?_ | refine qi ?_ _)); refine qbr (cs := #[.int .i64 0, .int .i64 0, .string (⟨#[]⟩ : ByteArray), .slice none 0 0]) ?_ 2 _ rfl; (with_reducible repeat (first | refine qj ?_ _ | refine qm ?_ | refine qi ?_ _)); refine qbr (cs := #[.int .i64 0, .int .i64 0, .string (⟨#[]⟩ : ByteArray), .slice none 0 0]) ?_ 1 _ rfl; (with_reducible repeat (first | refine qj ?_ _ | refine qm ?_ | refine qi ?_ _)); refine qbr (cs := #[.int .i64 0, .int .i64 0, .string (⟨#[]⟩ : ByteArray), .slice none 0 0]) ?_ 0 _ rfl; (with_reducible repeat (first | refine qj ?_ _ | refine qm ?_ | refine qi ?_ _)); exact qfv.out⟩, ⟨by repeat (first | (with_reducible first | exact HB.out | apply qg | apply qd | apply qh | refine ql ?_ qgl.out | refine ql ?_ qgr.out) | exact HB.out)⟩⟩
      ·rw [if_neg c28] at H
       have c28b0 : (a0_0 == 1) = false := beq_eq_false_iff_ne.mpr c28
       have c28b1 : (a0_0 != 1) = true := bne_iff_ne.mpr c28
       have HC32 := qc.mk H
       clear H
       go_upto_if 51 with (fail)
       repeat (go_quiet (fail); go_upto_if 51 with (fail))
       go_cut [51] (fun v51 wc => ∃ (kq : Nat) (qbfp : Bool), v51 = .bool qbfp ∧ qc (qz.j1 kq a1 qbfp a0_0 a0_1 a0_2 l0_3 0 0 (⟨#[]⟩ : ByteArray) = some r) ∧ qc (kq ≤ kj3) ∧ qc (wc.heap[qfz]? = some (.cells #[.int .i64 a0_0, .int .i64 a0_1, .string a0_2, (.slice A0_3 l0_3.length c0_3)] 27 (0, 0))) ∧ qc (wc.heap[qgf]? = some (.cells #[.int .i64 0, .int .i64 0, .string (⟨#[]⟩ : ByteArray), (.slice none 0 0)] 27 (0, 0))) ∧ qc (Below w.heap.size w wc))
       case first =>
        have H := HC32.out
        clear HC32
        by_cases c33 : a0_0 = 2
        ·rw [if_pos c33] at H
         have c33b0 : (a0_0 == 2) = true := beq_iff_eq.mpr c33
         have c33b1 : (a0_0 != 2) = false := bne_eq_false_iff_eq.mpr c33
         clear c33
         (first | rw [c33b0] | (simp only [i64_w, i32_w]; rw [c33b0]) | skip)
         have H' := qc.mk H
         clear H
         go_wp2
         repeat (go_quiet (fail); try go_wp2)
         go_meet
         case rel => exact ⟨_, ((a0_0 == 2)), (by first | rfl | (simp; done) | (simp [*]; done)), H', ⟨by have := HJ3.out; first | omega | exact Nat.le_refl _⟩, ⟨by (with_reducible repeat (first | refine qj ?_ _ | refine qm ?_ | refine qi ?_ _)); refine qbp ?_ qgi.out _; (with_reducible repeat (first | refine qj ?_ _ | refine qm ?_ | refine qi ?_ _)); refine qbp ?_ qgi.out _; (with_reducible repeat (first | refine qj ?_ _ | refine qm ?_ | refine qi ?_ _)); refine qbp ?_ qgi.out _; (with_reducible repeat (first | refine qj ?_ _ | refine qm ?_ | refine qi ?_ _)); refine qbp ?_ qgi.out _; (with_reducible repeat (first | refine qj ?_ _ | refine qm ?_ | refine qi ?_ _)); exact qfs.out⟩, ⟨by (with_reducible repeat (first | refine qj ?_ _ | refine qm ?_ | refine qi ?_ _)); refine qbr (cs := #[.int .i64 0, .int .i64 0, .string (⟨#[]⟩ : ByteArray), .slice none 0 0]) ?_ 3 _ rfl; (with_reducible repeat (first | refine qj ?_ _ | refine qm ?_ | refine qi ?_ _)); refine qbr (cs := #[.int .i64 0, .int .i64 0, .string (⟨#[]⟩ : ByteArray), .slice none 0 0]) ?_ 2 _ rfl; (with_reducible repeat (first | refine qj ?_ _ | refine qm ?_ | refine qi ?_ _)); refine qbr (cs := #[.int .i64 0, .int .i64 0, .string (⟨#[]⟩ : ByteArray), .slice none 0 0]) ?_ 1 _ rfl; (with_reducible repeat (first | refine qj ?_ _ | refine qm ?_ | refine qi ?_ _)); refine qbr (cs := #[.int .i64 0, .int .i64 0, .string (⟨#[]⟩ : ByteArray), .slice none 0 0]) ?_ 0 _ rfl; (with_reducible repeat (first | refine qj ?_ _ | refine qm ?_ | refine qi ?_ _)); exact qfv.out⟩, ⟨by repeat (first | (with_reducible first | exact HB.out | apply qg | apply qd | apply qh | refine ql ?_ qgl.out | refine ql ?_ qgr.out) | exact HB.out)⟩⟩
        ·rw [if_neg c33] at H
         have c33b0 : (a0_0 == 2) = false := beq_eq_false_iff_ne.mpr c33
         have c33b1 : (a0_0 != 2) = true := bne_iff_ne.mpr c33
         (first | rw [c33b0] | (simp only [i64_w, i32_w]; rw [c33b0]) | skip)
         have H' := qc.mk H
         clear H
         go_wp2
         repeat (go_quiet (fail); try go_wp2)
         go_meet
         case rel => exact ⟨_, ((a0_0 == 3)), (by first | rfl | (simp; done) | (simp [*]; done)), H', ⟨by have := HJ3.out; first | omega | exact Nat.le_refl _⟩, ⟨by (with_reducible repeat (first | refine qj ?_ _ | refine qm ?_ | refine qi ?_ _)); refine qbp ?_ qgi.out _; (with_reducible repeat (first | refine qj ?_ _ | refine qm ?_ | refine qi ?_ _)); refine qbp ?_ qgi.out _; (with_reducible repeat (first | refine qj ?_ _ | refine qm ?_ | refine qi ?_ _)); refine qbp ?_ qgi.out _; (with_reducible repeat (first | refine qj ?_ _ | refine qm ?_ | refine qi ?_ _)); refine qbp ?_ qgi.out _; (with_reducible repeat (first | refine qj ?_ _ | refine qm ?_ | refine qi ?_ _)); exact qfs.out⟩, ⟨by (with_reducible repeat (first | refine qj ?_ _ | refine qm ?_ | refine qi ?_ _)); refine qbr (cs := #[.int .i64 0, .int .i64 0, .string (⟨#[]⟩ : ByteArray), .slice none 0 0]) ?_ 3 _ rfl; (with_reducible repeat (first | refine qj ?_ _ | refine qm ?_ | refine qi ?_ _)); refine qbr (cs := #[.int .i64 0, .int .i64 0, .string (⟨#[]⟩ : ByteArray), .slice none 0 0]) ?_ 2 _ rfl; (with_reducible repeat (first | refine qj ?_ _ | refine qm ?_ | refine qi ?_ _)); refine qbr (cs := #[.int .i64 0, .int .i64 0, .string (⟨#[]⟩ : ByteArray), .slice none 0 0]) ?_ 1 _ rfl; (with_reducible repeat (first | refine qj ?_ _ | refine qm ?_ | refine qi ?_ _)); refine qbr (cs := #[.int .i64 0, .int .i64 0, .string (⟨#[]⟩ : ByteArray), .slice none 0 0]) ?_ 0 _ rfl; (with_reducible repeat (first | refine qj ?_ _ | refine qm ?_ | refine qi ?_ _)); exact qfv.out⟩, ⟨by repeat (first | (with_reducible first | exact HB.out | apply qg | apply qd | apply qh | refine ql ?_ qgl.out | refine ql ?_ qgr.out) | exact HB.out)⟩⟩
       case rest =>
        clear HC32
        (try clear c1); (try clear p1); (try clear q1); (try clear hx1); (try clear c2); (try clear p2); (try clear c3); (try clear c7); (try clear c7b0); (try clear c7b1); (try clear c8); (try clear c8b0); (try clear c10); (try clear c10b0); (try clear c13); (try clear c13b0); (try clear c14); (try clear c14b0); (try clear p15); (try clear q15); (try clear hx15); (try clear c17); (try clear c20); (try clear c23); (try clear c23b0); (try clear c23b1); (try clear c25); (try clear c28); (try clear c28b0); (try clear c28b1); (try clear c29); (try clear c33); (try clear c33b0); (try clear c33b1); (try clear qit qig qij qih); (try clear qh3 qhw qht qhp); (try clear qlz qma ql3 qlv); (try clear qnw qon qog qn8); (try clear qu9 quj qv0 qt3); (try clear qoe qob qoi qnv); (try clear q3p q35 q0s q4x); (try clear qm0 qm9 qmw qna); (try clear qh4 qhu qh7 qhx); (try clear qif qin qik qio); (try clear qg0 qgx qgz qgy); (try clear qlp ql0 qme qmo); (try clear qof qny qok qn1); (try clear qt7 qum qvb qt6); (try clear qo6 qoy qn2 qn3); (try clear q0d q08 q6i qzy); (try clear qm4 qng qm3 qm1); (try clear qhd qg9 qhf qha); (try clear qyt); (try clear qy3); (try clear p1); (try clear p15); (try clear p152); (try clear p2); (try clear q1); (try clear q15); (try clear q152)
        obtain ⟨kq, qbfp, rfl, HA, HJ31, qfs, qfv, HB⟩ := hcut
        cases kq with
        | zero => exact absurd HA.out (by simp [qz.j1])
        | succ kj31 =>
         have H := HA.out
         clear HA
         simp only [qz.j1] at H
         by_cases c34 : qbfp = true
         ·subst c34
          have H1 : ((qb2.f kj31 a0_2).bind fun t154 => (if t154 = true then (qz.j2 kj31 a1 a0_0 a0_1 a0_2 l0_3 0 0 a0_2) else (some false))) = some r := by rw [if_pos rfl] at H; exact H
          clear H
          have H := H1
          clear H1
          replace H := Option.bind_eq_some_iff.mp H
          obtain ⟨t154, A350, H⟩ := H
          replace H : (if t154 = true then (qz.j2 kj31 a1 a0_0 a0_1 a0_2 l0_3 0 0 a0_2) else (some false)) = some r := H
          have A35 := qc.mk A350
          clear A350
          by_cases c36 : t154 = true
          ·subst c36
           have H1 : (qz.j2 kj31 a1 a0_0 a0_1 a0_2 l0_3 0 0 a0_2) = some r := by rw [if_pos rfl] at H; exact H
           clear H
           have H := H1
           clear H1
           have H' := qc.mk H
           clear H
           have qbxj := qgi.out
           have qbx8 := qhh.out
           have q84 : wc.cell? ⟨qfz, 0, none⟩ = some (.int .i64 a0_0) := (qb qfs.out 0).trans rfl
           have qbcy : wc.cell? ⟨qfz, 1, none⟩ = some (.int .i64 a0_1) := (qb qfs.out 1).trans rfl
           have qbd9 : wc.cell? ⟨qfz, 2, none⟩ = some (.string a0_2) := (qb qfs.out 2).trans rfl
           have qbch : wc.cell? ⟨qfz, 3, none⟩ = some (.slice A0_3 l0_3.length c0_3) := (qb qfs.out 3).trans rfl
           have qbcc := qa qfs.out 0
           have q99 := qa qfs.out 1
           have q9z := qa qfs.out 2
           have qbau := qa qfs.out 3
           go_wp2_with (first | (go_at_call 82; (with_reducible refine (qb2.calls kj31 a0_2 true _ ?side1 A35.out).mono ?_); (case side1 => exact Lay.below HLAY.out (by repeat (first | (with_reducible first | exact HB.out | apply qg | apply qd | apply qh | refine ql ?_ qgl.out | refine ql ?_ qgr.out) | exact HB.out))); rintro e w39 ⟨rfl, hb⟩; have n0_ := qc.mk (qbb (g := qfz) (o := .cells #[.int .i64 a0_0, .int .i64 a0_1, .string a0_2, .slice A0_3 l0_3.length c0_3] 27 (0, 0)) (by (with_reducible repeat (first | refine qj ?_ _ | refine qm ?_ | refine qi ?_ _)); exact qfs.out) hb); have n1_ := qc.mk (qbb (g := qgf) (o := .cells #[.int .i64 0, .int .i64 0, .string (⟨#[]⟩ : ByteArray), .slice none 0 0] 27 (0, 0)) (by (with_reducible repeat (first | refine qj ?_ _ | refine qm ?_ | refine qi ?_ _)); exact qfv.out) hb); have n2_ := qc.mk (q9 (by repeat (first | (with_reducible first | exact HB.out | apply qg | apply qd | apply qh | refine ql ?_ qgl.out | refine ql ?_ qgr.out) | exact HB.out)) hb); clear qfs; clear qfv; clear HB; have qfs := n0_; have qfv := n1_; have HB := n2_; clear n0_ n1_ n2_; (try clear hb); (try clear hb2); (try clear hk); (try clear hi); have qt8 : w39.cell? ⟨qfz, 0, none⟩ = some (.int .i64 a0_0) := (qb qfs.out 0).trans rfl; have qvr : w39.cell? ⟨qfz, 1, none⟩ = some (.int .i64 a0_1) := (qb qfs.out 1).trans rfl; have quv : w39.cell? ⟨qfz, 2, none⟩ = some (.string a0_2) := (qb qfs.out 2).trans rfl; have qu6 : w39.cell? ⟨qfz, 3, none⟩ = some (.slice A0_3 l0_3.length c0_3) := (qb qfs.out 3).trans rfl; have qvm := qa qfs.out 0; have qvj := qa qfs.out 1; have quu := qa qfs.out 2; have quh := qa qfs.out 3; have qoq : w39.cell? ⟨qgf, 0, none⟩ = some (.int .i64 0) := (qb qfv.out 0).trans rfl; have qoa : w39.cell? ⟨qgf, 1, none⟩ = some (.int .i64 0) := (qb qfv.out 1).trans rfl; have qow : w39.cell? ⟨qgf, 2, none⟩ = some (.string (⟨#[]⟩ : ByteArray)) := (qb qfv.out 2).trans rfl; have qno : w39.cell? ⟨qgf, 3, none⟩ = some (.slice none 0 0) := (qb qfv.out 3).trans rfl; have qox := qa qfv.out 0; have qnz := qa qfv.out 1; have qns := qa qfv.out 2; have qo3 := qa qfv.out 3))
           repeat (go_quiet (first | (go_at_call 82; (with_reducible refine (qb2.calls kj31 a0_2 true _ ?side1 A35.out).mono ?_); (case side1 => exact Lay.below HLAY.out (by repeat (first | (with_reducible first | exact HB.out | apply qg | apply qd | apply qh | refine ql ?_ qgl.out | refine ql ?_ qgr.out) | exact HB.out))); rintro e w39 ⟨rfl, hb⟩; have n0_ := qc.mk (qbb (g := qfz) (o := .cells #[.int .i64 a0_0, .int .i64 a0_1, .string a0_2, .slice A0_3 l0_3.length c0_3] 27 (0, 0)) (by (with_reducible repeat (first | refine qj ?_ _ | refine qm ?_ | refine qi ?_ _)); exact qfs.out) hb); have n1_ := qc.mk (qbb (g := qgf) (o := .cells #[.int .i64 0, .int .i64 0, .string (⟨#[]⟩ : ByteArray), .slice none 0 0] 27 (0, 0)) (by (with_reducible repeat (first | refine qj ?_ _ | refine qm ?_ | refine qi ?_ _)); exact qfv.out) hb); have n2_ := qc.mk (q9 (by repeat (first | (with_reducible first | exact HB.out | apply qg | apply qd | apply qh | refine ql ?_ qgl.out | refine ql ?_ qgr.out) | exact HB.out)) hb); clear qfs; clear qfv; clear HB; have qfs := n0_; have qfv := n1_; have HB := n2_; clear n0_ n1_ n2_; (try clear hb); (try clear hb2); (try clear hk); (try clear hi); have qt8 : w39.cell? ⟨qfz, 0, none⟩ = some (.int .i64 a0_0) := (qb qfs.out 0).trans rfl; have qvr : w39.cell? ⟨qfz, 1, none⟩ = some (.int .i64 a0_1) := (qb qfs.out 1).trans rfl; have quv : w39.cell? ⟨qfz, 2, none⟩ = some (.string a0_2) := (qb qfs.out 2).trans rfl; have qu6 : w39.cell? ⟨qfz, 3, none⟩ = some (.slice A0_3 l0_3.length c0_3) := (qb qfs.out 3).trans rfl; have qvm := qa qfs.out 0; have qvj := qa qfs.out 1; have quu := qa qfs.out 2; have quh := qa qfs.out 3; have qoq : w39.cell? ⟨qgf, 0, none⟩ = some (.int .i64 0) := (qb qfv.out 0).trans rfl; have qoa : w39.cell? ⟨qgf, 1, none⟩ = some (.int .i64 0) := (qb qfv.out 1).trans rfl; have qow : w39.cell? ⟨qgf, 2, none⟩ = some (.string (⟨#[]⟩ : ByteArray)) := (qb qfv.out 2).trans rfl; have qno : w39.cell? ⟨qgf, 3, none⟩ = some (.slice none 0 0) := (qb qfv.out 3).trans rfl; have qox := qa qfv.out 0; have qnz := qa qfv.out 1; have qns := qa qfv.out 2; have qo3 := qa qfv.out 3)); try go_wp2_with (first | (go_at_call 82; (with_reducible refine (qb2.calls kj31 a0_2 true _ ?side1 A35.out).mono ?_); (case side1 => exact Lay.below HLAY.out (by repeat (first | (with_reducible first | exact HB.out | apply qg | apply qd | apply qh | refine ql ?_ qgl.out | refine ql ?_ qgr.out) | exact HB.out))); rintro e w39 ⟨rfl, hb⟩; have n0_ := qc.mk (qbb (g := qfz) (o := .cells #[.int .i64 a0_0, .int .i64 a0_1, .string a0_2, .slice A0_3 l0_3.length c0_3] 27 (0, 0)) (by (with_reducible repeat (first | refine qj ?_ _ | refine qm ?_ | refine qi ?_ _)); exact qfs.out) hb); have n1_ := qc.mk (qbb (g := qgf) (o := .cells #[.int .i64 0, .int .i64 0, .string (⟨#[]⟩ : ByteArray), .slice none 0 0] 27 (0, 0)) (by (with_reducible repeat (first | refine qj ?_ _ | refine qm ?_ | refine qi ?_ _)); exact qfv.out) hb); have n2_ := qc.mk (q9 (by repeat (first | (with_reducible first | exact HB.out | apply qg | apply qd | apply qh | refine ql ?_ qgl.out | refine ql ?_ qgr.out) | exact HB.out)) hb); clear qfs; clear qfv; clear HB; have qfs := n0_; have qfv := n1_; have HB := n2_; clear n0_ n1_ n2_; (try clear hb); (try clear hb2); (try clear hk); (try clear hi); have qt8 : w39.cell? ⟨qfz, 0, none⟩ = some (.int .i64 a0_0) := (qb qfs.out 0).trans rfl; have qvr : w39.cell? ⟨qfz, 1, none⟩ = some (.int .i64 a0_1) := (qb qfs.out 1).trans rfl; have quv : w39.cell? ⟨qfz, 2, none⟩ = some (.string a0_2) := (qb qfs.out 2).trans rfl; have qu6 : w39.cell? ⟨qfz, 3, none⟩ = some (.slice A0_3 l0_3.length c0_3) := (qb qfs.out 3).trans rfl; have qvm := qa qfs.out 0; have qvj := qa qfs.out 1; have quu := qa qfs.out 2; have quh := qa qfs.out 3; have qoq : w39.cell? ⟨qgf, 0, none⟩ = some (.int .i64 0) := (qb qfv.out 0).trans rfl; have qoa : w39.cell? ⟨qgf, 1, none⟩ = some (.int .i64 0) := (qb qfv.out 1).trans rfl; have qow : w39.cell? ⟨qgf, 2, none⟩ = some (.string (⟨#[]⟩ : ByteArray)) := (qb qfv.out 2).trans rfl; have qno : w39.cell? ⟨qgf, 3, none⟩ = some (.slice none 0 0) := (qb qfv.out 3).trans rfl; have qox := qa qfv.out 0; have qnz := qa qfv.out 1; have qns := qa qfv.out 2; have qo3 := qa qfv.out 3)))
           go_meet
           case rel => exact ⟨_, (0), (a0_2), H', ⟨by have := HJ3.out; have := HJ31.out; first | omega | exact Nat.le_refl _⟩, ⟨by (with_reducible repeat (first | refine qj ?_ _ | refine qm ?_ | refine qi ?_ _)); refine qbp ?_ qgi.out _; (with_reducible repeat (first | refine qj ?_ _ | refine qm ?_ | refine qi ?_ _)); exact qfs.out⟩, ⟨by (with_reducible repeat (first | refine qj ?_ _ | refine qm ?_ | refine qi ?_ _)); refine qbr (cs := #[.int .i64 0, .int .i64 0, .string (⟨#[]⟩ : ByteArray), .slice none 0 0]) ?_ 2 _ rfl; (with_reducible repeat (first | refine qj ?_ _ | refine qm ?_ | refine qi ?_ _)); exact qfv.out⟩, ⟨by repeat (first | (with_reducible first | exact HB.out | apply qg | apply qd | apply qh | refine ql ?_ qgl.out | refine ql ?_ qgr.out) | exact HB.out)⟩⟩
          ·replace c36 := Bool.eq_false_iff.mpr c36
           subst c36
           have H1 : (some false) = some r := by rw [if_neg (show ¬ (false = true) by decide)] at H; exact H
           clear H
           have H := H1
           clear H1
           obtain rfl := Option.some.inj H
           have qbx6 := qgi.out
           have qbxn := qhh.out
           have quy : wc.cell? ⟨qfz, 0, none⟩ = some (.int .i64 a0_0) := (qb qfs.out 0).trans rfl
           have qvg : wc.cell? ⟨qfz, 1, none⟩ = some (.int .i64 a0_1) := (qb qfs.out 1).trans rfl
           have qvq : wc.cell? ⟨qfz, 2, none⟩ = some (.string a0_2) := (qb qfs.out 2).trans rfl
           have qu5 : wc.cell? ⟨qfz, 3, none⟩ = some (.slice A0_3 l0_3.length c0_3) := (qb qfs.out 3).trans rfl
           have qvc := qa qfs.out 0
           have qu1 := qa qfs.out 1
           have qvh := qa qfs.out 2
           have que := qa qfs.out 3
           go_wp2_with (first | (go_at_call 82; (with_reducible refine (qb2.calls kj31 a0_2 false _ ?side1 A35.out).mono ?_); (case side1 => exact Lay.below HLAY.out (by repeat (first | (with_reducible first | exact HB.out | apply qg | apply qd | apply qh | refine ql ?_ qgl.out | refine ql ?_ qgr.out) | exact HB.out))); rintro e w44 ⟨rfl, hb⟩; have n0_ := qc.mk (qbb (g := qfz) (o := .cells #[.int .i64 a0_0, .int .i64 a0_1, .string a0_2, .slice A0_3 l0_3.length c0_3] 27 (0, 0)) (by (with_reducible repeat (first | refine qj ?_ _ | refine qm ?_ | refine qi ?_ _)); exact qfs.out) hb); have n1_ := qc.mk (qbb (g := qgf) (o := .cells #[.int .i64 0, .int .i64 0, .string (⟨#[]⟩ : ByteArray), .slice none 0 0] 27 (0, 0)) (by (with_reducible repeat (first | refine qj ?_ _ | refine qm ?_ | refine qi ?_ _)); exact qfv.out) hb); have n2_ := qc.mk (q9 (by repeat (first | (with_reducible first | exact HB.out | apply qg | apply qd | apply qh | refine ql ?_ qgl.out | refine ql ?_ qgr.out) | exact HB.out)) hb); clear qfs; clear qfv; clear HB; have qfs := n0_; have qfv := n1_; have HB := n2_; clear n0_ n1_ n2_; (try clear hb); (try clear hb2); (try clear hk); (try clear hi)))
           repeat (go_quiet (first | (go_at_call 82; (with_reducible refine (qb2.calls kj31 a0_2 false _ ?side1 A35.out).mono ?_); (case side1 => exact Lay.below HLAY.out (by repeat (first | (with_reducible first | exact HB.out | apply qg | apply qd | apply qh | refine ql ?_ qgl.out | refine ql ?_ qgr.out) | exact HB.out))); rintro e w44 ⟨rfl, hb⟩; have n0_ := qc.mk (qbb (g := qfz) (o := .cells #[.int .i64 a0_0, .int .i64 a0_1, .string a0_2, .slice A0_3 l0_3.length c0_3] 27 (0, 0)) (by (with_reducible repeat (first | refine qj ?_ _ | refine qm ?_ | refine qi ?_ _)); exact qfs.out) hb); have n1_ := qc.mk (qbb (g := qgf) (o := .cells #[.int .i64 0, .int .i64 0, .string (⟨#[]⟩ : ByteArray), .slice none 0 0] 27 (0, 0)) (by (with_reducible repeat (first | refine qj ?_ _ | refine qm ?_ | refine qi ?_ _)); exact qfv.out) hb); have n2_ := qc.mk (q9 (by repeat (first | (with_reducible first | exact HB.out | apply qg | apply qd | apply qh | refine ql ?_ qgl.out | refine ql ?_ qgr.out) | exact HB.out)) hb); clear qfs; clear qfv; clear HB; have qfs := n0_; have qfv := n1_; have HB := n2_; clear n0_ n1_ n2_; (try clear hb); (try clear hb2); (try clear hk); (try clear hi))); try go_wp2_with (first | (go_at_call 82; (with_reducible refine (qb2.calls kj31 a0_2 false _ ?side1 A35.out).mono ?_); (case side1 => exact Lay.below HLAY.out (by repeat (first | (with_reducible first | exact HB.out | apply qg | apply qd | apply qh | refine ql ?_ qgl.out | refine ql ?_ qgr.out) | exact HB.out))); rintro e w44 ⟨rfl, hb⟩; have n0_ := qc.mk (qbb (g := qfz) (o := .cells #[.int .i64 a0_0, .int .i64 a0_1, .string a0_2, .slice A0_3 l0_3.length c0_3] 27 (0, 0)) (by (with_reducible repeat (first | refine qj ?_ _ | refine qm ?_ | refine qi ?_ _)); exact qfs.out) hb); have n1_ := qc.mk (qbb (g := qgf) (o := .cells #[.int .i64 0, .int .i64 0, .string (⟨#[]⟩ : ByteArray), .slice none 0 0] 27 (0, 0)) (by (with_reducible repeat (first | refine qj ?_ _ | refine qm ?_ | refine qi ?_ _)); exact qfv.out) hb); have n2_ := qc.mk (q9 (by repeat (first | (with_reducible first | exact HB.out | apply qg | apply qd | apply qh | refine ql ?_ qgl.out | refine ql ?_ qgr.out) | exact HB.out)) hb); clear qfs; clear qfv; clear HB; have qfs := n0_; have qfv := n1_; have HB := n2_; clear n0_ n1_ n2_; (try clear hb); (try clear hb2); (try clear hk); (try clear hi))))
           go_ret
           exact ⟨by first | rfl | (simp [qx, qy] <;> rfl) | (simp [*, qx, qy] <;> rfl), by repeat (first | (with_reducible first | exact HB.out | apply qg | apply qd | apply qh | refine ql ?_ qgl.out | refine ql ?_ qgr.out) | exact HB.out)⟩
         ·replace c34 := Bool.eq_false_iff.mpr c34
          subst c34
          have H1 : (qz.j2 kj31 a1 a0_0 a0_1 a0_2 l0_3 0 0 (⟨#[]⟩ : ByteArray)) = some r := by rw [if_neg (show ¬ (false = true) by decide)] at H; exact H
          clear H
          have H := H1
          clear H1
          have H' := qc.mk H
          clear H
          go_wp2
          repeat (go_quiet (fail); try go_wp2)
          go_meet
          case rel => exact ⟨_, (0), ((⟨#[]⟩ : ByteArray)), H', ⟨by have := HJ3.out; have := HJ31.out; first | omega | exact Nat.le_refl _⟩, ⟨by (with_reducible repeat (first | refine qj ?_ _ | refine qm ?_ | refine qi ?_ _)); exact qfs.out⟩, ⟨by (with_reducible repeat (first | refine qj ?_ _ | refine qm ?_ | refine qi ?_ _)); exact qfv.out⟩, ⟨by repeat (first | (with_reducible first | exact HB.out | apply qg | apply qd | apply qh | refine ql ?_ qgl.out | refine ql ?_ qgr.out) | exact HB.out)⟩⟩
    case rest =>
     clear HC18
     (try clear c1); (try clear p1); (try clear q1); (try clear hx1); (try clear c2); (try clear p2); (try clear c3); (try clear c4); (try clear c7); (try clear c7b0); (try clear c7b1); (try clear c8); (try clear c8b0); (try clear c10); (try clear c10b0); (try clear c13); (try clear c13b0); (try clear c14); (try clear c14b0); (try clear p15); (try clear q15); (try clear hx15); (try clear c17); (try clear c20); (try clear c23); (try clear c23b0); (try clear c23b1); (try clear c25); (try clear c28); (try clear c28b0); (try clear c28b1); (try clear c29); (try clear c33); (try clear c33b0); (try clear c33b1); (try clear c34); (try clear c36); (try clear c37); (try clear c42); (try clear qit qig qij qih); (try clear qh3 qhw qht qhp); (try clear qlz qma ql3 qlv); (try clear qnw qon qog qn8); (try clear qu9 quj qv0 qt3); (try clear qoe qob qoi qnv); (try clear q3p q35 q0s q4x); (try clear qm0 qm9 qmw qna); (try clear q84 qbcy qbd9 qbch); (try clear qt8 qvr quv qu6); (try clear qoq qoa qow qno); (try clear quy qvg qvq qu5); (try clear qh4 qhu qh7 qhx); (try clear qif qin qik qio); (try clear qg0 qgx qgz qgy); (try clear qlp ql0 qme qmo); (try clear qof qny qok qn1); (try clear qt7 qum qvb qt6); (try clear qo6 qoy qn2 qn3); (try clear q0d q08 q6i qzy); (try clear qm4 qng qm3 qm1); (try clear qbcc q99 q9z qbau); (try clear qvm qvj quu quh); (try clear qox qnz qns qo3); (try clear qvc qu1 qvh que); (try clear qhd qg9 qhf qha); (try clear qyt); (try clear qy3); (try clear p1); (try clear p15); (try clear p152); (try clear p2); (try clear q1); (try clear q15); (try clear q152)
     obtain ⟨kq, qf0, qf3, HA, HJ17, qfs, qfv, HB⟩ := hcut
     cases kq with
     | zero => exact absurd HA.out (by simp [qz.j2])
     | succ kj17 =>
      have H := HA.out
      clear HA
      simp only [qz.j2] at H
      have HC45 := qc.mk H
      clear H
      go_upto_region 15 with (fail)
      repeat (go_quiet (fail); go_upto_region 15 with (fail))
      go_cut [72] (fun v72 wc => ∃ (kq : Nat) (qbfd : Bool), v72 = .bool qbfd ∧ qc (qz.j3 kq a1 qbfd a0_0 a0_1 a0_2 l0_3 = some r) ∧ qc (kq ≤ kj17) ∧ qc (wc.heap[qfz]? = some (.cells #[.int .i64 a0_0, .int .i64 a0_1, .string a0_2, (.slice A0_3 l0_3.length c0_3)] 27 (0, 0))) ∧ qc (wc.heap[qgf]? = some (.cells #[.int .i64 0, .int .i64 qf0, .string qf3, (.slice none 0 0)] 27 (0, 0))) ∧ qc (Below w.heap.size w wc))
      case first =>
       have H := HC45.out
       clear HC45
       by_cases c46 : qf0 = a0_1
       ·rw [if_pos c46] at H
        have c46b0 : (qf0 == a0_1) = true := beq_iff_eq.mpr c46
        have c46b1 : (qf0 != a0_1) = false := bne_eq_false_iff_eq.mpr c46
        clear c46
        (first | rw [c46b0] | (simp only [i64_w, i32_w]; rw [c46b0]) | skip)
        have H' := qc.mk H
        clear H
        have qbx0 := qhh.out
        have qbys := qgi.out
        have qyq : wc.cell? ⟨qgf, 0, none⟩ = some (.int .i64 0) := (qb qfv.out 0).trans rfl
        have qxt : wc.cell? ⟨qgf, 1, none⟩ = some (.int .i64 qf0) := (qb qfv.out 1).trans rfl
        have qy5 : wc.cell? ⟨qgf, 2, none⟩ = some (.string qf3) := (qb qfv.out 2).trans rfl
        have qxn : wc.cell? ⟨qgf, 3, none⟩ = some (.slice none 0 0) := (qb qfv.out 3).trans rfl
        have qxa := qa qfv.out 0
        have qx3 := qa qfv.out 1
        have qxg := qa qfv.out 2
        have qw7 := qa qfv.out 3
        have qu2 : wc.cell? ⟨qfz, 0, none⟩ = some (.int .i64 a0_0) := (qb qfs.out 0).trans rfl
        have qvk : wc.cell? ⟨qfz, 1, none⟩ = some (.int .i64 a0_1) := (qb qfs.out 1).trans rfl
        have qub : wc.cell? ⟨qfz, 2, none⟩ = some (.string a0_2) := (qb qfs.out 2).trans rfl
        have qv3 : wc.cell? ⟨qfz, 3, none⟩ = some (.slice A0_3 l0_3.length c0_3) := (qb qfs.out 3).trans rfl
        have qlr := qa qfs.out 0
        have ql7 := qa qfs.out 1
        have qlt := qa qfs.out 2
        have ql2 := qa qfs.out 3
        go_wp2
        repeat (go_quiet (fail); try go_wp2)
        go_meet
        case rel => exact ⟨_, ((qf3.toList != a0_2.toList)), (by first | rfl | (simp; done) | (simp [*]; done)), H', ⟨by have := HJ3.out; have := HJ17.out; first | omega | exact Nat.le_refl _⟩, ⟨by (with_reducible repeat (first | refine qj ?_ _ | refine qm ?_ | refine qi ?_ _)); exact qfs.out⟩, ⟨by (with_reducible repeat (first | refine qj ?_ _ | refine qm ?_ | refine qi ?_ _)); exact qfv.out⟩, ⟨by repeat (first | (with_reducible first | exact HB.out | apply qg | apply qd | apply qh | refine ql ?_ qgl.out | refine ql ?_ qgr.out) | exact HB.out)⟩⟩
       ·rw [if_neg c46] at H
        have c46b0 : (qf0 == a0_1) = false := beq_eq_false_iff_ne.mpr c46
        have c46b1 : (qf0 != a0_1) = true := bne_iff_ne.mpr c46
        (first | rw [c46b0] | (simp only [i64_w, i32_w]; rw [c46b0]) | skip)
        have H' := qc.mk H
        clear H
        have qbxs := qhh.out
        have qbxd := qgi.out
        have qnb : wc.cell? ⟨qgf, 0, none⟩ = some (.int .i64 0) := (qb qfv.out 0).trans rfl
        have qmx : wc.cell? ⟨qgf, 1, none⟩ = some (.int .i64 qf0) := (qb qfv.out 1).trans rfl
        have qnc : wc.cell? ⟨qgf, 2, none⟩ = some (.string qf3) := (qb qfv.out 2).trans rfl
        have qni : wc.cell? ⟨qgf, 3, none⟩ = some (.slice none 0 0) := (qb qfv.out 3).trans rfl
        have qji := qa qfv.out 0
        have qi3 := qa qfv.out 1
        have qi9 := qa qfv.out 2
        have qjc := qa qfv.out 3
        have qbho : wc.cell? ⟨qfz, 0, none⟩ = some (.int .i64 a0_0) := (qb qfs.out 0).trans rfl
        have qbj4 : wc.cell? ⟨qfz, 1, none⟩ = some (.int .i64 a0_1) := (qb qfs.out 1).trans rfl
        have qbil : wc.cell? ⟨qfz, 2, none⟩ = some (.string a0_2) := (qb qfs.out 2).trans rfl
        have qbii : wc.cell? ⟨qfz, 3, none⟩ = some (.slice A0_3 l0_3.length c0_3) := (qb qfs.out 3).trans rfl
        have qbiq := qa qfs.out 0
        have qbjy := qa qfs.out 1
        have qbk1 := qa qfs.out 2
        have qbg5 := qa qfs.out 3
        go_wp2
        repeat (go_quiet (fail); try go_wp2)
        go_meet
        case rel => exact ⟨_, (true), (by first | rfl | (simp; done) | (simp [*]; done)), H', ⟨by have := HJ3.out; have := HJ17.out; first | omega | exact Nat.le_refl _⟩, ⟨by (with_reducible repeat (first | refine qj ?_ _ | refine qm ?_ | refine qi ?_ _)); exact qfs.out⟩, ⟨by (with_reducible repeat (first | refine qj ?_ _ | refine qm ?_ | refine qi ?_ _)); exact qfv.out⟩, ⟨by repeat (first | (with_reducible first | exact HB.out | apply qg | apply qd | apply qh | refine ql ?_ qgl.out | refine ql ?_ qgr.out) | exact HB.out)⟩⟩
      case rest =>
       clear HC45
       (try clear c1); (try clear p1); (try clear q1); (try clear hx1); (try clear c2); (try clear p2); (try clear c3); (try clear c4); (try clear c5); (try clear c7); (try clear c7b0); (try clear c7b1); (try clear c8); (try clear c8b0); (try clear c10); (try clear c10b0); (try clear c13); (try clear c13b0); (try clear c14); (try clear c14b0); (try clear p15); (try clear q15); (try clear hx15); (try clear c17); (try clear c20); (try clear c23); (try clear c23b0); (try clear c23b1); (try clear c25); (try clear c28); (try clear c28b0); (try clear c28b1); (try clear c29); (try clear c33); (try clear c33b0); (try clear c33b1); (try clear c34); (try clear c36); (try clear c37); (try clear c42); (try clear c46); (try clear c46b0); (try clear c46b1); (try clear c47); (try clear c50); (try clear qit qig qij qih); (try clear qh3 qhw qht qhp); (try clear qlz qma ql3 qlv); (try clear qnw qon qog qn8); (try clear qu9 quj qv0 qt3); (try clear qoe qob qoi qnv); (try clear q3p q35 q0s q4x); (try clear qm0 qm9 qmw qna); (try clear q84 qbcy qbd9 qbch); (try clear qt8 qvr quv qu6); (try clear qoq qoa qow qno); (try clear quy qvg qvq qu5); (try clear qyq qxt qy5 qxn); (try clear qu2 qvk qub qv3); (try clear qnb qmx qnc qni); (try clear qbho qbj4 qbil qbii); (try clear qh4 qhu qh7 qhx); (try clear qif qin qik qio); (try clear qg0 qgx qgz qgy); (try clear qlp ql0 qme qmo); (try clear qof qny qok qn1); (try clear qt7 qum qvb qt6); (try clear qo6 qoy qn2 qn3); (try clear q0d q08 q6i qzy); (try clear qm4 qng qm3 qm1); (try clear qbcc q99 q9z qbau); (try clear qvm qvj quu quh); (try clear qox qnz qns qo3); (try clear qvc qu1 qvh que); (try clear qxa qx3 qxg qw7); (try clear qlr ql7 qlt ql2); (try clear qji qi3 qi9 qjc); (try clear qbiq qbjy qbk1 qbg5); (try clear qhd qg9 qhf qha); (try clear qyt); (try clear qy3); (try clear p1); (try clear p15); (try clear p152); (try clear p2); (try clear q1); (try clear q15); (try clear q152)
       obtain ⟨kq, qbfd, rfl, HA, HJ44, qfs, qfv, HB⟩ := hcut
       cases kq with
       | zero => exact absurd HA.out (by simp [qz.j3])
       | succ kj44 =>
        have H := HA.out
        clear HA
        simp only [qz.j3] at H
        by_cases c53 : qbfd = true
        ·subst c53
         have H1 : (some false) = some r := by rw [if_pos rfl] at H; exact H
         clear H
         have H := H1
         clear H1
         obtain rfl := Option.some.inj H
         go_wp2
         repeat (go_quiet (fail); try go_wp2)
         go_ret
         exact ⟨by first | rfl | (simp [qx, qy] <;> rfl) | (simp [*, qx, qy] <;> rfl), by repeat (first | (with_reducible first | exact HB.out | apply qg | apply qd | apply qh | refine ql ?_ qgl.out | refine ql ?_ qgr.out) | exact HB.out)⟩
        ·replace c53 := Bool.eq_false_iff.mpr c53
         subst c53
         have H1 : (qz.l0 kj44 a1 l0_3 (l0_3.length : Int) 0) = some r := by rw [if_neg (show ¬ (false = true) by decide)] at H; exact H
         clear H
         have H := H1
         clear H1
         have H' := qc.mk H
         clear H
         have qbxk := qgi.out
         have qbx9 := qhh.out
         have q3v : wc.cell? ⟨qfz, 0, none⟩ = some (.int .i64 a0_0) := (qb qfs.out 0).trans rfl
         have q1i : wc.cell? ⟨qfz, 1, none⟩ = some (.int .i64 a0_1) := (qb qfs.out 1).trans rfl
         have q4i : wc.cell? ⟨qfz, 2, none⟩ = some (.string a0_2) := (qb qfs.out 2).trans rfl
         have q3r : wc.cell? ⟨qfz, 3, none⟩ = some (.slice A0_3 l0_3.length c0_3) := (qb qfs.out 3).trans rfl
         have q1e := qa qfs.out 0
         have q0a := qa qfs.out 1
         have q54 := qa qfs.out 2
         have q5v := qa qfs.out 3
         go_wp2
         repeat (go_quiet (fail); try go_wp2)
         go_loopg [76] kj44 (fun kq v76 w' => ∃ (qf9 : Int), v76 = .int .i64 qf9 ∧ qc (qz.l0 kq a1 l0_3 (l0_3.length : Int) qf9 = some r) ∧ qc (kq ≤ kj44) ∧ qc (w'.heap[qfz]? = some (.cells #[.int .i64 a0_0, .int .i64 a0_1, .string a0_2, (.slice A0_3 l0_3.length c0_3)] 27 (0, 0))) ∧ qc (w'.heap[qgf]? = some (.cells #[.int .i64 0, .int .i64 qf0, .string qf3, (.slice none 0 0)] 27 (0, 0))) ∧ qc (Below w.heap.size w w'))
         case atStart => exact ⟨(0), (by first | rfl | (simp; done) | (simp [*]; done)), H', ⟨Nat.le_refl _⟩, ⟨by (with_reducible repeat (first | refine qj ?_ _ | refine qm ?_ | refine qi ?_ _)); exact qfs.out⟩, ⟨by (with_reducible repeat (first | refine qj ?_ _ | refine qm ?_ | refine qi ?_ _)); exact qfv.out⟩, ⟨by repeat (first | (with_reducible first | exact HB.out | apply qg | apply qd | apply qh | refine ql ?_ qgl.out | refine ql ?_ qgr.out) | exact HB.out)⟩⟩
         case round =>
          clear H'
          (try clear c1); (try clear p1); (try clear q1); (try clear hx1); (try clear c2); (try clear p2); (try clear c3); (try clear c4); (try clear c5); (try clear c7); (try clear c7b0); (try clear c7b1); (try clear c8); (try clear c8b0); (try clear c10); (try clear c10b0); (try clear c13); (try clear c13b0); (try clear c14); (try clear c14b0); (try clear p15); (try clear q15); (try clear hx15); (try clear c17); (try clear c20); (try clear c23); (try clear c23b0); (try clear c23b1); (try clear c25); (try clear c28); (try clear c28b0); (try clear c28b1); (try clear c29); (try clear c33); (try clear c33b0); (try clear c33b1); (try clear c34); (try clear c36); (try clear c37); (try clear c42); (try clear c46); (try clear c46b0); (try clear c46b1); (try clear c47); (try clear c50); (try clear c53); (try clear c54); (try clear qit qig qij qih); (try clear qh3 qhw qht qhp); (try clear qlz qma ql3 qlv); (try clear qnw qon qog qn8); (try clear qu9 quj qv0 qt3); (try clear qoe qob qoi qnv); (try clear q3p q35 q0s q4x); (try clear qm0 qm9 qmw qna); (try clear q84 qbcy qbd9 qbch); (try clear qt8 qvr quv qu6); (try clear qoq qoa qow qno); (try clear quy qvg qvq qu5); (try clear qyq qxt qy5 qxn); (try clear qu2 qvk qub qv3); (try clear qnb qmx qnc qni); (try clear qbho qbj4 qbil qbii); (try clear q3v q1i q4i q3r); (try clear qh4 qhu qh7 qhx); (try clear qif qin qik qio); (try clear qg0 qgx qgz qgy); (try clear qlp ql0 qme qmo); (try clear qof qny qok qn1); (try clear qt7 qum qvb qt6); (try clear qo6 qoy qn2 qn3); (try clear q0d q08 q6i qzy); (try clear qm4 qng qm3 qm1); (try clear qbcc q99 q9z qbau); (try clear qvm qvj quu quh); (try clear qox qnz qns qo3); (try clear qvc qu1 qvh que); (try clear qxa qx3 qxg qw7); (try clear qlr ql7 qlt ql2); (try clear qji qi3 qi9 qjc); (try clear qbiq qbjy qbk1 qbg5); (try clear q1e q0a q54 q5v); (try clear qhd qg9 qhf qha); (try clear qyt); (try clear qy3); (try clear p1); (try clear p15); (try clear p152); (try clear p2); (try clear q1); (try clear q15); (try clear q152)
          obtain ⟨qf9, rfl, HA, HK4, qfs, qfv, HB⟩ := hrel
          cases gk with
          | zero => exact absurd HA.out (by simp [qz.l0])
          | succ k4 =>
           have H := HA.out
           clear HA
           simp only [qz.l0] at H
           by_cases c56 : qf9 < (l0_3.length : Int)
           ·rw [if_pos c56] at H
            have c56b0 : decide (qf9 < (l0_3.length : Int)) = true := decide_eq_true c56
            clear c56
            by_cases c57 : 0 ≤ qf9
            ·rw [if_pos c57] at H
             have c57b0 : decide (0 ≤ qf9) = true := decide_eq_true c57
             clear c57
             by_cases c58 : qf9 < (l0_3.length : Int)
             ·rw [if_pos c58] at H
              have c58b0 : decide (qf9 < (l0_3.length : Int)) = true := decide_eq_true c58
              clear c58
              replace H := Option.bind_eq_some_iff.mp H
              obtain ⟨t157, A590, H⟩ := H
              replace H : (if t157 = true then (qz.l0 k4 a1 l0_3 (l0_3.length : Int) (wrap64 (qf9 + 1))) else (some false)) = some r := H
              have A59 := qc.mk A590
              clear A590
              by_cases c60 : t157 = true
              ·subst c60
               have H1 : (qz.l0 k4 a1 l0_3 (l0_3.length : Int) (wrap64 (qf9 + 1))) = some r := by rw [if_pos rfl] at H; exact H
               clear H
               have H := H1
               clear H1
               have H' := qc.mk H
               clear H
               have p155 : 0 ≤ (qf9 : Int) := of_decide_eq_true (by first | (with_reducible assumption) | assumption)
               have q155 : qf9 < (l0_3.length : Int) := of_decide_eq_true (by first | (with_reducible assumption) | assumption)
               obtain ⟨qjx, qxw, qyy, e155, qra, qsz, qre, qp6, qy0, qzf⟩ := qd6 qo8.out qf9 p155 q155
               cases e155
               replace qra := (HB.out.cell (World.block_lt_of_cell? w _ qra)).trans qra
               replace qsz := (HB.out.cell (World.block_lt_of_cell? w _ qsz)).trans qsz
               replace qre := (HB.out.cell (World.block_lt_of_cell? w _ qre)).trans qre
               replace qp6 := (HB.out.cell (World.block_lt_of_cell? w _ qp6)).trans qp6
               have qpo := qc.mk qzf
               have qp2 := qc.mk qy0
               clear qzf qy0
               replace p155 := eq_true p155
               replace q155 := eq_true q155
               go_wp2_with (first | ((with_reducible refine qb0 (N := 8) rfl ?_); (try (refine qcc (by rfl) ?_; dsimp only)); refine qby ?hg (N := 8) ?hd (cs := #[.int .i64 0, .int .i64 0, .string (⟨#[]⟩ : ByteArray), .slice none 0 0]) (t := 27) ?hr ?_; (case hd => rfl); (case hg => rfl); (case hr => first | (go_simp; done) | (go_simp; rfl)); intro qgo hg w61 hbox hb; have n0_ := qc.mk (qbb (g := qfz) (o := .cells #[.int .i64 a0_0, .int .i64 a0_1, .string a0_2, .slice (some qjx) l0_3.length c0_3] 27 (0, 0)) (by (with_reducible repeat (first | refine qj ?_ _ | refine qm ?_ | refine qi ?_ _)); exact qfs.out) hb); have n1_ := qc.mk (qbb (g := qgf) (o := .cells #[.int .i64 0, .int .i64 qf0, .string qf3, .slice none 0 0] 27 (0, 0)) (by (with_reducible repeat (first | refine qj ?_ _ | refine qm ?_ | refine qi ?_ _)); exact qfv.out) hb); have n2_ := qc.mk (q9 (by repeat (first | (with_reducible first | exact HB.out | apply qg | apply qd | apply qh | refine ql ?_ qgl.out | refine ql ?_ qgr.out) | exact HB.out)) hb); have n3_ := qc.mk (hbox); have n4_ := qc.mk ((by rw [hg]; exact (qba (by repeat (first | (with_reducible first | exact HB.out | apply qg | apply qd | apply qh | refine ql ?_ qgl.out | refine ql ?_ qgr.out) | exact HB.out))) : w.heap.size ≤ qgo)); have n5_ := qc.mk ((by rw [hg]; exact (qba (by repeat (first | (with_reducible first | exact HB.out | apply qg | apply qd | apply qh | refine ql ?_ qgl.out | refine ql ?_ qgr.out) | exact HB.out))) : w.heap.size ≤ qgo)); have n6_ := qc.mk ((by rw [hg]; exact Nat.ne_of_lt (qb4 (g := qfz) (o := .cells #[.int .i64 a0_0, .int .i64 a0_1, .string a0_2, .slice (some qjx) l0_3.length c0_3] 27 (0, 0)) (by (with_reducible repeat (first | refine qj ?_ _ | refine qm ?_ | refine qi ?_ _)); exact qfs.out)) : qfz ≠ qgo)); have n7_ := qc.mk ((by rw [hg]; exact Nat.ne_of_gt (qb4 (g := qfz) (o := .cells #[.int .i64 a0_0, .int .i64 a0_1, .string a0_2, .slice (some qjx) l0_3.length c0_3] 27 (0, 0)) (by (with_reducible repeat (first | refine qj ?_ _ | refine qm ?_ | refine qi ?_ _)); exact qfs.out)) : qgo ≠ qfz)); have n8_ := qc.mk ((by rw [hg]; exact Nat.ne_of_lt (qb4 (g := qgf) (o := .cells #[.int .i64 0, .int .i64 qf0, .string qf3, .slice none 0 0] 27 (0, 0)) (by (with_reducible repeat (first | refine qj ?_ _ | refine qm ?_ | refine qi ?_ _)); exact qfv.out)) : qgf ≠ qgo)); have n9_ := qc.mk ((by rw [hg]; exact Nat.ne_of_gt (qb4 (g := qgf) (o := .cells #[.int .i64 0, .int .i64 qf0, .string qf3, .slice none 0 0] 27 (0, 0)) (by (with_reducible repeat (first | refine qj ?_ _ | refine qm ?_ | refine qi ?_ _)); exact qfv.out)) : qgo ≠ qgf)); clear qfs; clear qfv; clear HB; have qfs := n0_; have qfv := n1_; have HB := n2_; have qgn := n3_; have qbkl := n4_; have qjr := n5_; have qf6 := n6_; have qhz := n7_; have qf7 := n8_; have qhy := n9_; clear n0_ n1_ n2_ n3_ n4_ n5_ n6_ n7_ n8_ n9_; clear hb hbox hg; have qbre := qhz.out; have qbri := qf6.out; have qbrx := qhy.out; have qbrn := qf7.out; have qx2 : w61.cell? ⟨qgo, 0, none⟩ = some (.int .i64 0) := (qb qgn.out 0).trans rfl; have qx5 : w61.cell? ⟨qgo, 1, none⟩ = some (.int .i64 0) := (qb qgn.out 1).trans rfl; have qyu : w61.cell? ⟨qgo, 2, none⟩ = some (.string (⟨#[]⟩ : ByteArray)) := (qb qgn.out 2).trans rfl; have qyb : w61.cell? ⟨qgo, 3, none⟩ = some (.slice none 0 0) := (qb qgn.out 3).trans rfl; have qne := qa qgn.out 0; have qm7 := qa qgn.out 1; have qms := qa qgn.out 2; have qmu := qa qgn.out 3) | (go_at_call 88; (with_reducible refine (ih k4 (by have := HJ3.out; have := HJ17.out; have := HJ44.out; have := HK4.out; omega) ((qw l0_3 qf9).f0) ((qw l0_3 qf9).f1) ((qw l0_3 qf9).f2) _ _ ((qw l0_3 qf9).f3) (wrap64 (a1 - 1)) true _ ?side1 ?side2 ?side3 A59.out).mono ?_); (case side1 => exact Kd.qbw qpo.out (by repeat (first | (with_reducible first | exact HB.out | apply qg | apply qd | apply qh | refine ql ?_ qgl.out | refine ql ?_ qgr.out | refine ql ?_ qjr.out) | exact HB.out))); (case side2 => exact qp2.out); (case side3 => exact Lay.below HLAY.out (by repeat (first | (with_reducible first | exact HB.out | apply qg | apply qd | apply qh | refine ql ?_ qgl.out | refine ql ?_ qgr.out | refine ql ?_ qjr.out) | exact HB.out))); rintro e w65 ⟨rfl, hb⟩; have n0_ := qc.mk (qbb (g := qfz) (o := .cells #[.int .i64 a0_0, .int .i64 a0_1, .string a0_2, .slice (some qjx) l0_3.length c0_3] 27 (0, 0)) (by (with_reducible repeat (first | refine qj ?_ _ | refine qm ?_ | refine qi ?_ _)); refine qbp ?_ qf6.out _; (with_reducible repeat (first | refine qj ?_ _ | refine qm ?_ | refine qi ?_ _)); refine qbp ?_ qf6.out _; (with_reducible repeat (first | refine qj ?_ _ | refine qm ?_ | refine qi ?_ _)); refine qbp ?_ qf6.out _; (with_reducible repeat (first | refine qj ?_ _ | refine qm ?_ | refine qi ?_ _)); refine qbp ?_ qf6.out _; (with_reducible repeat (first | refine qj ?_ _ | refine qm ?_ | refine qi ?_ _)); exact qfs.out) hb); have n1_ := qc.mk (qbb (g := qgf) (o := .cells #[.int .i64 0, .int .i64 qf0, .string qf3, .slice none 0 0] 27 (0, 0)) (by (with_reducible repeat (first | refine qj ?_ _ | refine qm ?_ | refine qi ?_ _)); refine qbp ?_ qf7.out _; (with_reducible repeat (first | refine qj ?_ _ | refine qm ?_ | refine qi ?_ _)); refine qbp ?_ qf7.out _; (with_reducible repeat (first | refine qj ?_ _ | refine qm ?_ | refine qi ?_ _)); refine qbp ?_ qf7.out _; (with_reducible repeat (first | refine qj ?_ _ | refine qm ?_ | refine qi ?_ _)); refine qbp ?_ qf7.out _; (with_reducible repeat (first | refine qj ?_ _ | refine qm ?_ | refine qi ?_ _)); exact qfv.out) hb); have n2_ := qc.mk (qbb (g := qgo) (o := .cells #[.int .i64 ((qw l0_3 qf9).f0), .int .i64 ((qw l0_3 qf9).f1), .string ((qw l0_3 qf9).f2), .slice qxw ((qw l0_3 qf9).f3).length qyy] 27 (0, 0)) (by (with_reducible repeat (first | refine qj ?_ _ | refine qm ?_ | refine qi ?_ _)); refine qbr (cs := #[.int .i64 ((qw l0_3 qf9).f0), .int .i64 ((qw l0_3 qf9).f1), .string ((qw l0_3 qf9).f2), .slice none 0 0]) ?_ 3 _ rfl; (with_reducible repeat (first | refine qj ?_ _ | refine qm ?_ | refine qi ?_ _)); refine qbr (cs := #[.int .i64 ((qw l0_3 qf9).f0), .int .i64 ((qw l0_3 qf9).f1), .string (⟨#[]⟩ : ByteArray), .slice none 0 0]) ?_ 2 _ rfl; (with_reducible repeat (first | refine qj ?_ _ | refine qm ?_ | refine qi ?_ _)); refine qbr (cs := #[.int .i64 ((qw l0_3 qf9).f0), .int .i64 0, .string (⟨#[]⟩ : ByteArray), .slice none 0 0]) ?_ 1 _ rfl; (with_reducible repeat (first | refine qj ?_ _ | refine qm ?_ | refine qi ?_ _)); refine qbr (cs := #[.int .i64 0, .int .i64 0, .string (⟨#[]⟩ : ByteArray), .slice none 0 0]) ?_ 0 _ rfl; (with_reducible repeat (first | refine qj ?_ _ | refine qm ?_ | refine qi ?_ _)); exact qgn.out) hb); have n3_ := qc.mk (q9 (by repeat (first | (with_reducible first | exact HB.out | apply qg | apply qd | apply qh | refine ql ?_ qgl.out | refine ql ?_ qgr.out | refine ql ?_ qjr.out) | exact HB.out)) hb); clear qfs; clear qfv; clear qgn; clear HB; have qfs := n0_; have qfv := n1_; have qgn := n2_; have HB := n3_; clear n0_ n1_ n2_ n3_; (try clear hb); (try clear hb2); (try clear hk); (try clear hi)))
               repeat (go_quiet (first | ((with_reducible refine qb0 (N := 8) rfl ?_); (try (refine qcc (by rfl) ?_; dsimp only)); refine qby ?hg (N := 8) ?hd (cs := #[.int .i64 0, .int .i64 0, .string (⟨#[]⟩ : ByteArray), .slice none 0 0]) (t := 27) ?hr ?_; (case hd => rfl); (case hg => rfl); (case hr => first | (go_simp; done) | (go_simp; rfl)); intro qgo hg w61 hbox hb; have n0_ := qc.mk (qbb (g := qfz) (o := .cells #[.int .i64 a0_0, .int .i64 a0_1, .string a0_2, .slice (some qjx) l0_3.length c0_3] 27 (0, 0)) (by (with_reducible repeat (first | refine qj ?_ _ | refine qm ?_ | refine qi ?_ _)); exact qfs.out) hb); have n1_ := qc.mk (qbb (g := qgf) (o := .cells #[.int .i64 0, .int .i64 qf0, .string qf3, .slice none 0 0] 27 (0, 0)) (by (with_reducible repeat (first | refine qj ?_ _ | refine qm ?_ | refine qi ?_ _)); exact qfv.out) hb); have n2_ := qc.mk (q9 (by repeat (first | (with_reducible first | exact HB.out | apply qg | apply qd | apply qh | refine ql ?_ qgl.out | refine ql ?_ qgr.out) | exact HB.out)) hb); have n3_ := qc.mk (hbox); have n4_ := qc.mk ((by rw [hg]; exact (qba (by repeat (first | (with_reducible first | exact HB.out | apply qg | apply qd | apply qh | refine ql ?_ qgl.out | refine ql ?_ qgr.out) | exact HB.out))) : w.heap.size ≤ qgo)); have n5_ := qc.mk ((by rw [hg]; exact (qba (by repeat (first | (with_reducible first | exact HB.out | apply qg | apply qd | apply qh | refine ql ?_ qgl.out | refine ql ?_ qgr.out) | exact HB.out))) : w.heap.size ≤ qgo)); have n6_ := qc.mk ((by rw [hg]; exact Nat.ne_of_lt (qb4 (g := qfz) (o := .cells #[.int .i64 a0_0, .int .i64 a0_1, .string a0_2, .slice (some qjx) l0_3.length c0_3] 27 (0, 0)) (by (with_reducible repeat (first | refine qj ?_ _ | refine qm ?_ | refine qi ?_ _)); exact qfs.out)) : qfz ≠ qgo)); have n7_ := qc.mk ((by rw [hg]; exact Nat.ne_of_gt (qb4 (g := qfz) (o := .cells #[.int .i64 a0_0, .int .i64 a0_1, .string a0_2, .slice (some qjx) l0_3.length c0_3] 27 (0, 0)) (by (with_reducible repeat (first | refine qj ?_ _ | refine qm ?_ | refine qi ?_ _)); exact qfs.out)) : qgo ≠ qfz)); have n8_ := qc.mk ((by rw [hg]; exact Nat.ne_of_lt (qb4 (g := qgf) (o := .cells #[.int .i64 0, .int .i64 qf0, .string qf3, .slice none 0 0] 27 (0, 0)) (by (with_reducible repeat (first | refine qj ?_ _ | refine qm ?_ | refine qi ?_ _)); exact qfv.out)) : qgf ≠ qgo)); have n9_ := qc.mk ((by rw [hg]; exact Nat.ne_of_gt (qb4 (g := qgf) (o := .cells #[.int .i64 0, .int .i64 qf0, .string qf3, .slice none 0 0] 27 (0, 0)) (by (with_reducible repeat (first | refine qj ?_ _ | refine qm ?_ | refine qi ?_ _)); exact qfv.out)) : qgo ≠ qgf)); clear qfs; clear qfv; clear HB; have qfs := n0_; have qfv := n1_; have HB := n2_; have qgn := n3_; have qbkl := n4_; have qjr := n5_; have qf6 := n6_; have qhz := n7_; have qf7 := n8_; have qhy := n9_; clear n0_ n1_ n2_ n3_ n4_ n5_ n6_ n7_ n8_ n9_; clear hb hbox hg; have qbre := qhz.out; have qbri := qf6.out; have qbrx := qhy.out; have qbrn := qf7.out; have qx2 : w61.cell? ⟨qgo, 0, none⟩ = some (.int .i64 0) := (qb qgn.out 0).trans rfl; have qx5 : w61.cell? ⟨qgo, 1, none⟩ = some (.int .i64 0) := (qb qgn.out 1).trans rfl; have qyu : w61.cell? ⟨qgo, 2, none⟩ = some (.string (⟨#[]⟩ : ByteArray)) := (qb qgn.out 2).trans rfl; have qyb : w61.cell? ⟨qgo, 3, none⟩ = some (.slice none 0 0) := (qb qgn.out 3).trans rfl; have qne := qa qgn.out 0; have qm7 := qa qgn.out 1; have qms := qa qgn.out 2; have qmu := qa qgn.out 3) | (go_at_call 88; (with_reducible refine (ih k4 (by have := HJ3.out; have := HJ17.out; have := HJ44.out; have := HK4.out; omega) ((qw l0_3 qf9).f0) ((qw l0_3 qf9).f1) ((qw l0_3 qf9).f2) _ _ ((qw l0_3 qf9).f3) (wrap64 (a1 - 1)) true _ ?side1 ?side2 ?side3 A59.out).mono ?_); (case side1 => exact Kd.qbw qpo.out (by repeat (first | (with_reducible first | exact HB.out | apply qg | apply qd | apply qh | refine ql ?_ qgl.out | refine ql ?_ qgr.out | refine ql ?_ qjr.out) | exact HB.out))); (case side2 => exact qp2.out); (case side3 => exact Lay.below HLAY.out (by repeat (first | (with_reducible first | exact HB.out | apply qg | apply qd | apply qh | refine ql ?_ qgl.out | refine ql ?_ qgr.out | refine ql ?_ qjr.out) | exact HB.out))); rintro e w65 ⟨rfl, hb⟩; have n0_ := qc.mk (qbb (g := qfz) (o := .cells #[.int .i64 a0_0, .int .i64 a0_1, .string a0_2, .slice (some qjx) l0_3.length c0_3] 27 (0, 0)) (by (with_reducible repeat (first | refine qj ?_ _ | refine qm ?_ | refine qi ?_ _)); refine qbp ?_ qf6.out _; (with_reducible repeat (first | refine qj ?_ _ | refine qm ?_ | refine qi ?_ _)); refine qbp ?_ qf6.out _; (with_reducible repeat (first | refine qj ?_ _ | refine qm ?_ | refine qi ?_ _)); refine qbp ?_ qf6.out _; (with_reducible repeat (first | refine qj ?_ _ | refine qm ?_ | refine qi ?_ _)); refine qbp ?_ qf6.out _; (with_reducible repeat (first | refine qj ?_ _ | refine qm ?_ | refine qi ?_ _)); exact qfs.out) hb); have n1_ := qc.mk (qbb (g := qgf) (o := .cells #[.int .i64 0, .int .i64 qf0, .string qf3, .slice none 0 0] 27 (0, 0)) (by (with_reducible repeat (first | refine qj ?_ _ | refine qm ?_ | refine qi ?_ _)); refine qbp ?_ qf7.out _; (with_reducible repeat (first | refine qj ?_ _ | refine qm ?_ | refine qi ?_ _)); refine qbp ?_ qf7.out _; (with_reducible repeat (first | refine qj ?_ _ | refine qm ?_ | refine qi ?_ _)); refine qbp ?_ qf7.out _; (with_reducible repeat (first | refine qj ?_ _ | refine qm ?_ | refine qi ?_ _)); refine qbp ?_ qf7.out _; (with_reducible repeat (first | refine qj ?_ _ | refine qm ?_ | refine qi ?_ _)); exact qfv.out) hb); have n2_ := qc.mk (qbb (g := qgo) (o := .cells #[.int .i64 ((qw l0_3 qf9).f0), .int .i64 ((qw l0_3 qf9).f1), .string ((qw l0_3 qf9).f2), .slice qxw ((qw l0_3 qf9).f3).length qyy] 27 (0, 0)) (by (with_reducible repeat (first | refine qj ?_ _ | refine qm ?_ | refine qi ?_ _)); refine qbr (cs := #[.int .i64 ((qw l0_3 qf9).f0), .int .i64 ((qw l0_3 qf9).f1), .string ((qw l0_3 qf9).f2), .slice none 0 0]) ?_ 3 _ rfl; (with_reducible repeat (first | refine qj ?_ _ | refine qm ?_ | refine qi ?_ _)); refine qbr (cs := #[.int .i64 ((qw l0_3 qf9).f0), .int .i64 ((qw l0_3 qf9).f1), .string (⟨#[]⟩ : ByteArray), .slice none 0 0]) ?_ 2 _ rfl; (with_reducible repeat (first | refine qj ?_ _ | refine qm ?_ | refine qi ?_ _)); refine qbr (cs := #[.int .i64 ((qw l0_3 qf9).f0), .int .i64 0, .string (⟨#[]⟩ : ByteArray), .slice none 0 0]) ?_ 1 _ rfl; (with_reducible repeat (first | refine qj ?_ _ | refine qm ?_ | refine qi ?_ _)); refine qbr (cs := #[.int .i64 0, .int .i64 0, .string (⟨#[]⟩ : ByteArray), .slice none 0 0]) ?_ 0 _ rfl; (with_reducible repeat (first | refine qj ?_ _ | refine qm ?_ | refine qi ?_ _)); exact qgn.out) hb); have n3_ := qc.mk (q9 (by repeat (first | (with_reducible first | exact HB.out | apply qg | apply qd | apply qh | refine ql ?_ qgl.out | refine ql ?_ qgr.out | refine ql ?_ qjr.out) | exact HB.out)) hb); clear qfs; clear qfv; clear qgn; clear HB; have qfs := n0_; have qfv := n1_; have qgn := n2_; have HB := n3_; clear n0_ n1_ n2_ n3_; (try clear hb); (try clear hb2); (try clear hk); (try clear hi))); try go_wp2_with (first | ((with_reducible refine qb0 (N := 8) rfl ?_); (try (refine qcc (by rfl) ?_; dsimp only)); refine qby ?hg (N := 8) ?hd (cs := #[.int .i64 0, .int .i64 0, .string (⟨#[]⟩ : ByteArray), .slice none 0 0]) (t := 27) ?hr ?_; (case hd => rfl); (case hg => rfl); (case hr => first | (go_simp; done) | (go_simp; rfl)); intro qgo hg w61 hbox hb; have n0_ := qc.mk (qbb (g := qfz) (o := .cells #[.int .i64 a0_0, .int .i64 a0_1, .string a0_2, .slice (some qjx) l0_3.length c0_3] 27 (0, 0)) (by (with_reducible repeat (first | refine qj ?_ _ | refine qm ?_ | refine qi ?_ _)); exact qfs.out) hb); have n1_ := qc.mk (qbb (g := qgf) (o := .cells #[.int .i64 0, .int .i64 qf0, .string qf3, .slice none 0 0] 27 (0, 0)) (by (with_reducible repeat (first | refine qj ?_ _ | refine qm ?_ | refine qi ?_ _)); exact qfv.out) hb); have n2_ := qc.mk (q9 (by repeat (first | (with_reducible first | exact HB.out | apply qg | apply qd | apply qh | refine ql ?_ qgl.out | refine ql ?_ qgr.out) | exact HB.out)) hb); have n3_ := qc.mk (hbox); have n4_ := qc.mk ((by rw [hg]; exact (qba (by repeat (first | (with_reducible first | exact HB.out | apply qg | apply qd | apply qh | refine ql ?_ qgl.out | refine ql ?_ qgr.out) | exact HB.out))) : w.heap.size ≤ qgo)); have n5_ := qc.mk ((by rw [hg]; exact (qba (by repeat (first | (with_reducible first | exact HB.out | apply qg | apply qd | apply qh | refine ql ?_ qgl.out | refine ql ?_ qgr.out) | exact HB.out))) : w.heap.size ≤ qgo)); have n6_ := qc.mk ((by rw [hg]; exact Nat.ne_of_lt (qb4 (g := qfz) (o := .cells #[.int .i64 a0_0, .int .i64 a0_1, .string a0_2, .slice (some qjx) l0_3.length c0_3] 27 (0, 0)) (by (with_reducible repeat (first | refine qj ?_ _ | refine qm ?_ | refine qi ?_ _)); exact qfs.out)) : qfz ≠ qgo)); have n7_ := qc.mk ((by rw [hg]; exact Nat.ne_of_gt (qb4 (g := qfz) (o := .cells #[.int .i64 a0_0, .int .i64 a0_1, .string a0_2, .slice (some qjx) l0_3.length c0_3] 27 (0, 0)) (by (with_reducible repeat (first | refine qj ?_ _ | refine qm ?_ | refine qi ?_ _)); exact qfs.out)) : qgo ≠ qfz)); have n8_ := qc.mk ((by rw [hg]; exact Nat.ne_of_lt (qb4 (g := qgf) (o := .cells #[.int .i64 0, .int .i64 qf0, .string qf3, .slice none 0 0] 27 (0, 0)) (by (with_reducible repeat (first | refine qj ?_ _ | refine qm ?_ | refine qi ?_ _)); exact qfv.out)) : qgf ≠ qgo)); have n9_ := qc.mk ((by rw [hg]; exact Nat.ne_of_gt (qb4 (g := qgf) (o := .cells #[.int .i64 0, .int .i64 qf0, .string qf3, .slice none 0 0] 27 (0, 0)) (by (with_reducible repeat (first | refine qj ?_ _ | refine qm ?_ | refine qi ?_ _)); exact qfv.out)) : qgo ≠ qgf)); clear qfs; clear qfv; clear HB; have qfs := n0_; have qfv := n1_; have HB := n2_; have qgn := n3_; have qbkl := n4_; have qjr := n5_; have qf6 := n6_; have qhz := n7_; have qf7 := n8_; have qhy := n9_; clear n0_ n1_ n2_ n3_ n4_ n5_ n6_ n7_ n8_ n9_; clear hb hbox hg; have qbre := qhz.out; have qbri := qf6.out; have qbrx := qhy.out; have qbrn := qf7.out; have qx2 : w61.cell? ⟨qgo, 0, none⟩ = some (.int .i64 0) := (qb qgn.out 0).trans rfl; have qx5 : w61.cell? ⟨qgo, 1, none⟩ = some (.int .i64 0) := (qb qgn.out 1).trans rfl; have qyu : w61.cell? ⟨qgo, 2, none⟩ = some (.string (⟨#[]⟩ : ByteArray)) := (qb qgn.out 2).trans rfl; have qyb : w61.cell? ⟨qgo, 3, none⟩ = some (.slice none 0 0) := (qb qgn.out 3).trans rfl; have qne := qa qgn.out 0; have qm7 := qa qgn.out 1; have qms := qa qgn.out 2; have qmu := qa qgn.out 3) | (go_at_call 88; (with_reducible refine (ih k4 (by have := HJ3.out; have := HJ17.out; have := HJ44.out; have := HK4.out; omega) ((qw l0_3 qf9).f0) ((qw l0_3 qf9).f1) ((qw l0_3 qf9).f2) _ _ ((qw l0_3 qf9).f3) (wrap64 (a1 - 1)) true _ ?side1 ?side2 ?side3 A59.out).mono ?_); (case side1 => exact Kd.qbw qpo.out (by repeat (first | (with_reducible first | exact HB.out | apply qg | apply qd | apply qh | refine ql ?_ qgl.out | refine ql ?_ qgr.out | refine ql ?_ qjr.out) | exact HB.out))); (case side2 => exact qp2.out); (case side3 => exact Lay.below HLAY.out (by repeat (first | (with_reducible first | exact HB.out | apply qg | apply qd | apply qh | refine ql ?_ qgl.out | refine ql ?_ qgr.out | refine ql ?_ qjr.out) | exact HB.out))); rintro e w65 ⟨rfl, hb⟩; have n0_ := qc.mk (qbb (g := qfz) (o := .cells #[.int .i64 a0_0, .int .i64 a0_1, .string a0_2, .slice (some qjx) l0_3.length c0_3] 27 (0, 0)) (by (with_reducible repeat (first | refine qj ?_ _ | refine qm ?_ | refine qi ?_ _)); refine qbp ?_ qf6.out _; (with_reducible repeat (first | refine qj ?_ _ | refine qm ?_ | refine qi ?_ _)); refine qbp ?_ qf6.out _; (with_reducible repeat (first | refine qj ?_ _ | refine qm ?_ | refine qi ?_ _)); refine qbp ?_ qf6.out _; (with_reducible repeat (first | refine qj ?_ _ | refine qm ?_ | refine qi ?_ _)); refine qbp ?_ qf6.out _; (with_reducible repeat (first | refine qj ?_ _ | refine qm ?_ | refine qi ?_ _)); exact qfs.out) hb); have n1_ := qc.mk (qbb (g := qgf) (o := .cells #[.int .i64 0, .int .i64 qf0, .string qf3, .slice none 0 0] 27 (0, 0)) (by (with_reducible repeat (first | refine qj ?_ _ | refine qm ?_ | refine qi ?_ _)); refine qbp ?_ qf7.out _; (with_reducible repeat (first | refine qj ?_ _ | refine qm ?_ | refine qi ?_ _)); refine qbp ?_ qf7.out _; (with_reducible repeat (first | refine qj ?_ _ | refine qm ?_ | refine qi ?_ _)); refine qbp ?_ qf7.out _; (with_reducible repeat (first | refine qj ?_ _ | refine qm ?_ | refine qi ?_ _)); refine qbp ?_ qf7.out _; (with_reducible repeat (first | refine qj ?_ _ | refine qm ?_ | refine qi ?_ _)); exact qfv.out) hb); have n2_ := qc.mk (qbb (g := qgo) (o := .cells #[.int .i64 ((qw l0_3 qf9).f0), .int .i64 ((qw l0_3 qf9).f1), .string ((qw l0_3 qf9).f2), .slice qxw ((qw l0_3 qf9).f3).length qyy] 27 (0, 0)) (by (with_reducible repeat (first | refine qj ?_ _ | refine qm ?_ | refine qi ?_ _)); refine qbr (cs := #[.int .i64 ((qw l0_3 qf9).f0), .int .i64 ((qw l0_3 qf9).f1), .string ((qw l0_3 qf9).f2), .slice none 0 0]) ?_ 3 _ rfl; (with_reducible repeat (first | refine qj ?_ _ | refine qm ?_ | refine qi ?_ _)); refine qbr (cs := #[.int .i64 ((qw l0_3 qf9).f0), .int .i64 ((qw l0_3 qf9).f1), .string (⟨#[]⟩ : ByteArray), .slice none 0 0]) ?_ 2 _ rfl; (with_reducible repeat (first | refine qj ?_ _ | refine qm ?_ | refine qi ?_ _)); refine qbr (cs := #[.int .i64 ((qw l0_3 qf9).f0), .int .i64 0, .string (⟨#[]⟩ : ByteArray), .slice none 0 0]) ?_ 1 _ rfl; (with_reducible repeat (first | refine qj ?_ _ | refine qm ?_ | refine qi ?_ _)); refine qbr (cs := #[.int .i64 0, .int .i64 0, .string (⟨#[]⟩ : ByteArray), .slice none 0 0]) ?_ 0 _ rfl; (with_reducible repeat (first | refine qj ?_ _ | refine qm ?_ | refine qi ?_ _)); exact qgn.out) hb); have n3_ := qc.mk (q9 (by repeat (first | (with_reducible first | exact HB.out | apply qg | apply qd | apply qh | refine ql ?_ qgl.out | refine ql ?_ qgr.out | refine ql ?_ qjr.out) | exact HB.out)) hb); clear qfs; clear qfv; clear qgn; clear HB; have qfs := n0_; have qfv := n1_; have qgn := n2_; have HB := n3_; clear n0_ n1_ n2_ n3_; (try clear hb); (try clear hb2); (try clear hk); (try clear hi))))
               go_roundg k4
               case measure => have := HJ3.out; have := HJ17.out; have := HJ44.out; have := HK4.out; omega
               case rel => exact ⟨(wrap64 (qf9 + 1)), (by first | rfl | (simp; done) | (simp [*]; done)), H', ⟨by have := HJ3.out; have := HJ17.out; have := HJ44.out; have := HK4.out; omega⟩, ⟨by (with_reducible repeat (first | refine qj ?_ _ | refine qm ?_ | refine qi ?_ _)); exact qfs.out⟩, ⟨by (with_reducible repeat (first | refine qj ?_ _ | refine qm ?_ | refine qi ?_ _)); exact qfv.out⟩, ⟨by repeat (first | (with_reducible first | exact HB.out | apply qg | apply qd | apply qh | refine ql ?_ qgl.out | refine ql ?_ qgr.out | refine ql ?_ qjr.out) | exact HB.out)⟩⟩
              ·replace c60 := Bool.eq_false_iff.mpr c60
               subst c60
               have H1 : (some false) = some r := by rw [if_neg (show ¬ (false = true) by decide)] at H; exact H
               clear H
               have H := H1
               clear H1
               obtain rfl := Option.some.inj H
               have p155 : 0 ≤ (qf9 : Int) := of_decide_eq_true (by first | (with_reducible assumption) | assumption)
               have q155 : qf9 < (l0_3.length : Int) := of_decide_eq_true (by first | (with_reducible assumption) | assumption)
               obtain ⟨qjx, qxw, qyy, e155, qra, qsz, qre, qp6, qy0, qzf⟩ := qd6 qo8.out qf9 p155 q155
               cases e155
               replace qra := (HB.out.cell (World.block_lt_of_cell? w _ qra)).trans qra
               replace qsz := (HB.out.cell (World.block_lt_of_cell? w _ qsz)).trans qsz
               replace qre := (HB.out.cell (World.block_lt_of_cell? w _ qre)).trans qre
               replace qp6 := (HB.out.cell (World.block_lt_of_cell? w _ qp6)).trans qp6
               have qpo := qc.mk qzf
               have qp2 := qc.mk qy0
               clear qzf qy0
               replace p155 := eq_true p155
               replace q155 := eq_true q155
               go_wp2_with (first | ((with_reducible refine qb0 (N := 8) rfl ?_); (try (refine qcc (by rfl) ?_; dsimp only)); refine qby ?hg (N := 8) ?hd (cs := #[.int .i64 0, .int .i64 0, .string (⟨#[]⟩ : ByteArray), .slice none 0 0]) (t := 27) ?hr ?_; (case hd => rfl); (case hg => rfl); (case hr => first | (go_simp; done) | (go_simp; rfl)); intro qgo hg w66 hbox hb; have n0_ := qc.mk (qbb (g := qfz) (o := .cells #[.int .i64 a0_0, .int .i64 a0_1, .string a0_2, .slice (some qjx) l0_3.length c0_3] 27 (0, 0)) (by (with_reducible repeat (first | refine qj ?_ _ | refine qm ?_ | refine qi ?_ _)); exact qfs.out) hb); have n1_ := qc.mk (qbb (g := qgf) (o := .cells #[.int .i64 0, .int .i64 qf0, .string qf3, .slice none 0 0] 27 (0, 0)) (by (with_reducible repeat (first | refine qj ?_ _ | refine qm ?_ | refine qi ?_ _)); exact qfv.out) hb); have n2_ := qc.mk (q9 (by repeat (first | (with_reducible first | exact HB.out | apply qg | apply qd | apply qh | refine ql ?_ qgl.out | refine ql ?_ qgr.out) | exact HB.out)) hb); have n3_ := qc.mk (hbox); have n4_ := qc.mk ((by rw [hg]; exact (qba (by repeat (first | (with_reducible first | exact HB.out | apply qg | apply qd | apply qh | refine ql ?_ qgl.out | refine ql ?_ qgr.out) | exact HB.out))) : w.heap.size ≤ qgo)); have n5_ := qc.mk ((by rw [hg]; exact (qba (by repeat (first | (with_reducible first | exact HB.out | apply qg | apply qd | apply qh | refine ql ?_ qgl.out | refine ql ?_ qgr.out) | exact HB.out))) : w.heap.size ≤ qgo)); have n6_ := qc.mk ((by rw [hg]; exact Nat.ne_of_lt (qb4 (g := qfz) (o := .cells #[.int .i64 a0_0, .int .i64 a0_1, .string a0_2, .slice (some qjx) l0_3.length c0_3] 27 (0, 0)) (by (with_reducible repeat (first | refine qj ?_ _ | refine qm ?_ | refine qi ?_ _)); exact qfs.out)) : qfz ≠ qgo)); have n7_ := qc.mk ((by rw [hg]; exact Nat.ne_of_gt (qb4 (g := qfz) (o := .cells #[.int .i64 a0_0, .int .i64 a0_1, .string a0_2, .slice (some qjx) l0_3.length c0_3] 27 (0, 0)) (by (with_reducible repeat (first | refine qj ?_ _ | refine qm ?_ | refine qi ?_ _)); exact qfs.out)) : qgo ≠ qfz)); have n8_ := qc.mk ((by rw [hg]; exact Nat.ne_of_lt (qb4 (g := qgf) (o := .cells #[.int .i64 0, .int .i64 qf0, .string qf3, .slice none 0 0] 27 (0, 0)) (by (with_reducible repeat (first | refine qj ?_ _ | refine qm ?_ | refine qi ?_ _)); exact qfv.out)) : qgf ≠ qgo)); have n9_ := qc.mk ((by rw [hg]; exact Nat.ne_of_gt (qb4 (g := qgf) (o := .cells #[.int .i64 0, .int .i64 qf0, .string qf3, .slice none 0 0] 27 (0, 0)) (by (with_reducible repeat (first | refine qj ?_ _ | refine qm ?_ | refine qi ?_ _)); exact qfv.out)) : qgo ≠ qgf)); clear qfs; clear qfv; clear HB; have qfs := n0_; have qfv := n1_; have HB := n2_; have qgn := n3_; have qbkl := n4_; have qjr := n5_; have qf6 := n6_; have qhz := n7_; have qf7 := n8_; have qhy := n9_; clear n0_ n1_ n2_ n3_ n4_ n5_ n6_ n7_ n8_ n9_; clear hb hbox hg; have qbsa := qhz.out; have qbr5 := qf6.out; have qbr0 := qhy.out; have qbrf := qf7.out; have q31 : w66.cell? ⟨qgo, 0, none⟩ = some (.int .i64 0) := (qb qgn.out 0).trans rfl; have qzz : w66.cell? ⟨qgo, 1, none⟩ = some (.int .i64 0) := (qb qgn.out 1).trans rfl; have q1r : w66.cell? ⟨qgo, 2, none⟩ = some (.string (⟨#[]⟩ : ByteArray)) := (qb qgn.out 2).trans rfl; have q5o : w66.cell? ⟨qgo, 3, none⟩ = some (.slice none 0 0) := (qb qgn.out 3).trans rfl; have qo1 := qa qgn.out 0; have qnu := qa qgn.out 1; have qom := qa qgn.out 2; have qnm := qa qgn.out 3) | (go_at_call 88; (with_reducible refine (ih k4 (by have := HJ3.out; have := HJ17.out; have := HJ44.out; have := HK4.out; omega) ((qw l0_3 qf9).f0) ((qw l0_3 qf9).f1) ((qw l0_3 qf9).f2) _ _ ((qw l0_3 qf9).f3) (wrap64 (a1 - 1)) false _ ?side1 ?side2 ?side3 A59.out).mono ?_); (case side1 => exact Kd.qbw qpo.out (by repeat (first | (with_reducible first | exact HB.out | apply qg | apply qd | apply qh | refine ql ?_ qgl.out | refine ql ?_ qgr.out | refine ql ?_ qjr.out) | exact HB.out))); (case side2 => exact qp2.out); (case side3 => exact Lay.below HLAY.out (by repeat (first | (with_reducible first | exact HB.out | apply qg | apply qd | apply qh | refine ql ?_ qgl.out | refine ql ?_ qgr.out | refine ql ?_ qjr.out) | exact HB.out))); rintro e w70 ⟨rfl, hb⟩; have n0_ := qc.mk (qbb (g := qfz) (o := .cells #[.int .i64 a0_0, .int .i64 a0_1, .string a0_2, .slice (some qjx) l0_3.length c0_3] 27 (0, 0)) (by (with_reducible repeat (first | refine qj ?_ _ | refine qm ?_ | refine qi ?_ _)); refine qbp ?_ qf6.out _; (with_reducible repeat (first | refine qj ?_ _ | refine qm ?_ | refine qi ?_ _)); refine qbp ?_ qf6.out _; (with_reducible repeat (first | refine qj ?_ _ | refine qm ?_ | refine qi ?_ _)); refine qbp ?_ qf6.out _; (with_reducible repeat (first | refine qj ?_ _ | refine qm ?_ | refine qi ?_ _)); refine qbp ?_ qf6.out _; (with_reducible repeat (first | refine qj ?_ _ | refine qm ?_ | refine qi ?_ _)); exact qfs.out) hb); have n1_ := qc.mk (qbb (g := qgf) (o := .cells #[.int .i64 0, .int .i64 qf0, .string qf3, .slice none 0 0] 27 (0, 0)) (by (with_reducible repeat (first | refine qj ?_ _ | refine qm ?_ | refine qi ?_ _)); refine qbp ?_ qf7.out _; (with_reducible repeat (first | refine qj ?_ _ | refine qm ?_ | refine qi ?_ _)); refine qbp ?_ qf7.out _; (with_reducible repeat (first | refine qj ?_ _ | refine qm ?_ | refine qi ?_ _)); refine qbp ?_ qf7.out _; (with_reducible repeat (first | refine qj ?_ _ | refine qm ?_ | refine qi ?_ _)); refine qbp ?_ qf7.out _; (with_reducible repeat (first | refine qj ?_ _ | refine qm ?_ | refine qi ?_ _)); exact qfv.out) hb); have n2_ := qc.mk (qbb (g := qgo) (o := .cells #[.int .i64 ((qw l0_3 qf9).f0), .int .i64 ((qw l0_3 qf9).f1), .string ((qw l0_3 qf9).f2), .slice qxw ((qw l0_3 qf9).f3).length qyy] 27 (0, 0)) (by (with_reducible repeat (first | refine qj ?_ _ | refine qm ?_ | refine qi ?_ _)); refine qbr (cs := #[.int .i64 ((qw l0_3 qf9).f0), .int .i64 ((qw l0_3 qf9).f1), .string ((qw l0_3 qf9).f2), .slice none 0 0]) ?_ 3 _ rfl; (with_reducible repeat (first | refine qj ?_ _ | refine qm ?_ | refine qi ?_ _)); refine qbr (cs := #[.int .i64 ((qw l0_3 qf9).f0), .int .i64 ((qw l0_3 qf9).f1), .string (⟨#[]⟩ : ByteArray), .slice none 0 0]) ?_ 2 _ rfl; (with_reducible repeat (first | refine qj ?_ _ | refine qm ?_ | refine qi ?_ _)); refine qbr (cs := #[.int .i64 ((qw l0_3 qf9).f0), .int .i64 0, .string (⟨#[]⟩ : ByteArray), .slice none 0 0]) ?_ 1 _ rfl; (with_reducible repeat (first | refine qj ?_ _ | refine qm ?_ | refine qi ?_ _)); refine qbr (cs := #[.int .i64 0, .int .i64 0, .string (⟨#[]⟩ : ByteArray), .slice none 0 0]) ?_ 0 _ rfl; (with_reducible repeat (first | refine qj ?_ _ | refine qm ?_ | refine qi ?_ _)); exact qgn.out) hb); have n3_ := qc.mk (q9 (by repeat (first | (with_reducible first | exact HB.out | apply qg | apply qd | apply qh | refine ql ?_ qgl.out | refine ql ?_ qgr.out | refine ql ?_ qjr.out) | exact HB.out)) hb); clear qfs; clear qfv; clear qgn; clear HB; have qfs := n0_; have qfv := n1_; have qgn := n2_; have HB := n3_; clear n0_ n1_ n2_ n3_; (try clear hb); (try clear hb2); (try clear hk); (try clear hi)))
               repeat (go_quiet (first | ((with_reducible refine qb0 (N := 8) rfl ?_); (try (refine qcc (by rfl) ?_; dsimp only)); refine qby ?hg (N := 8) ?hd (cs := #[.int .i64 0, .int .i64 0, .string (⟨#[]⟩ : ByteArray), .slice none 0 0]) (t := 27) ?hr ?_; (case hd => rfl); (case hg => rfl); (case hr => first | (go_simp; done) | (go_simp; rfl)); intro qgo hg w66 hbox hb; have n0_ := qc.mk (qbb (g := qfz) (o := .cells #[.int .i64 a0_0, .int .i64 a0_1, .string a0_2, .slice (some qjx) l0_3.length c0_3] 27 (0, 0)) (by (with_reducible repeat (first | refine qj ?_ _ | refine qm ?_ | refine qi ?_ _)); exact qfs.out) hb); have n1_ := qc.mk (qbb (g := qgf) (o := .cells #[.int .i64 0, .int .i64 qf0, .string qf3, .slice none 0 0] 27 (0, 0)) (by (with_reducible repeat (first | refine qj ?_ _ | refine qm ?_ | refine qi ?_ _)); exact qfv.out) hb); have n2_ := qc.mk (q9 (by repeat (first | (with_reducible first | exact HB.out | apply qg | apply qd | apply qh | refine ql ?_ qgl.out | refine ql ?_ qgr.out) | exact HB.out)) hb); have n3_ := qc.mk (hbox); have n4_ := qc.mk ((by rw [hg]; exact (qba (by repeat (first | (with_reducible first | exact HB.out | apply qg | apply qd | apply qh | refine ql ?_ qgl.out | refine ql ?_ qgr.out) | exact HB.out))) : w.heap.size ≤ qgo)); have n5_ := qc.mk ((by rw [hg]; exact (qba (by repeat (first | (with_reducible first | exact HB.out | apply qg | apply qd | apply qh | refine ql ?_ qgl.out | refine ql ?_ qgr.out) | exact HB.out))) : w.heap.size ≤ qgo)); have n6_ := qc.mk ((by rw [hg]; exact Nat.ne_of_lt (qb4 (g := qfz) (o := .cells #[.int .i64 a0_0, .int .i64 a0_1, .string a0_2, .slice (some qjx) l0_3.length c0_3] 27 (0, 0)) (by (with_reducible repeat (first | refine qj ?_ _ | refine qm ?_ | refine qi ?_ _)); exact qfs.out)) : qfz ≠ qgo)); have n7_ := qc.mk ((by rw [hg]; exact Nat.ne_of_gt (qb4 (g := qfz) (o := .cells #[.int .i64 a0_0, .int .i64 a0_1, .string a0_2, .slice (some qjx) l0_3.length c0_3] 27 (0, 0)) (by (with_reducible repeat (first | refine qj ?_ _ | refine qm ?_ | refine qi ?_ _)); exact qfs.out)) : qgo ≠ qfz)); have n8_ := qc.mk ((by rw [hg]; exact Nat.ne_of_lt (qb4 (g := qgf) (o := .cells #[.int .i64 0, .int .i64 qf0, .string qf3, .slice none 0 0] 27 (0, 0)) (by (with_reducible repeat (first | refine qj ?_ _ | refine qm ?_ | refine qi ?_ _)); exact qfv.out)) : qgf ≠ qgo)); have n9_ := qc.mk ((by rw [hg]; exact Nat.ne_of_gt (qb4 (g := qgf) (o := .cells #[.int .i64 0, .int .i64 qf0, .string qf3, .slice none 0 0] 27 (0, 0)) (by (with_reducible repeat (first | refine qj ?_ _ | refine qm ?_ | refine qi ?_ _)); exact qfv.out)) : qgo ≠ qgf)); clear qfs; clear qfv; clear HB; have qfs := n0_; have qfv := n1_; have HB := n2_; have qgn := n3_; have qbkl := n4_; have qjr := n5_; have qf6 := n6_; have qhz := n7_; have qf7 := n8_; have qhy := n9_; clear n0_ n1_ n2_ n3_ n4_ n5_ n6_ n7_ n8_ n9_; clear hb hbox hg; have qbsa := qhz.out; have qbr5 := qf6.out; have qbr0 := qhy.out; have qbrf := qf7.out; have q31 : w66.cell? ⟨qgo, 0, none⟩ = some (.int .i64 0) := (qb qgn.out 0).trans rfl; have qzz : w66.cell? ⟨qgo, 1, none⟩ = some (.int .i64 0) := (qb qgn.out 1).trans rfl; have q1r : w66.cell? ⟨qgo, 2, none⟩ = some (.string (⟨#[]⟩ : ByteArray)) := (qb qgn.out 2).trans rfl; have q5o : w66.cell? ⟨qgo, 3, none⟩ = some (.slice none 0 0) := (qb qgn.out 3).trans rfl; have qo1 := qa qgn.out 0; have qnu := qa qgn.out 1; have qom := qa qgn.out 2; have qnm := qa qgn.out 3) | (go_at_call 88; (with_reducible refine (ih k4 (by have := HJ3.out; have := HJ17.out; have := HJ44.out; have := HK4.out; omega) ((qw l0_3 qf9).f0) ((qw l0_3 qf9).f1) ((qw l0_3 qf9).f2) _ _ ((qw l0_3 qf9).f3) (wrap64 (a1 - 1)) false _ ?side1 ?side2 ?side3 A59.out).mono ?_); (case side1 => exact Kd.qbw qpo.out (by repeat (first | (with_reducible first | exact HB.out | apply qg | apply qd | apply qh | refine ql ?_ qgl.out | refine ql ?_ qgr.out | refine ql ?_ qjr.out) | exact HB.out))); (case side2 => exact qp2.out); (case side3 => exact Lay.below HLAY.out (by repeat (first | (with_reducible first | exact HB.out | apply qg | apply qd | apply qh | refine ql ?_ qgl.out | refine ql ?_ qgr.out | refine ql ?_ qjr.out) | exact HB.out))); rintro e w70 ⟨rfl, hb⟩; have n0_ := qc.mk (qbb (g := qfz) (o := .cells #[.int .i64 a0_0, .int .i64 a0_1, .string a0_2, .slice (some qjx) l0_3.length c0_3] 27 (0, 0)) (by (with_reducible repeat (first | refine qj ?_ _ | refine qm ?_ | refine qi ?_ _)); refine qbp ?_ qf6.out _; (with_reducible repeat (first | refine qj ?_ _ | refine qm ?_ | refine qi ?_ _)); refine qbp ?_ qf6.out _; (with_reducible repeat (first | refine qj ?_ _ | refine qm ?_ | refine qi ?_ _)); refine qbp ?_ qf6.out _; (with_reducible repeat (first | refine qj ?_ _ | refine qm ?_ | refine qi ?_ _)); refine qbp ?_ qf6.out _; (with_reducible repeat (first | refine qj ?_ _ | refine qm ?_ | refine qi ?_ _)); exact qfs.out) hb); have n1_ := qc.mk (qbb (g := qgf) (o := .cells #[.int .i64 0, .int .i64 qf0, .string qf3, .slice none 0 0] 27 (0, 0)) (by (with_reducible repeat (first | refine qj ?_ _ | refine qm ?_ | refine qi ?_ _)); refine qbp ?_ qf7.out _; (with_reducible repeat (first | refine qj ?_ _ | refine qm ?_ | refine qi ?_ _)); refine qbp ?_ qf7.out _; (with_reducible repeat (first | refine qj ?_ _ | refine qm ?_ | refine qi ?_ _)); refine qbp ?_ qf7.out _; (with_reducible repeat (first | refine qj ?_ _ | refine qm ?_ | refine qi ?_ _)); refine qbp ?_ qf7.out _; (with_reducible repeat (first | refine qj ?_ _ | refine qm ?_ | refine qi ?_ _)); exact qfv.out) hb); have n2_ := qc.mk (qbb (g := qgo) (o := .cells #[.int .i64 ((qw l0_3 qf9).f0), .int .i64 ((qw l0_3 qf9).f1), .string ((qw l0_3 qf9).f2), .slice qxw ((qw l0_3 qf9).f3).length qyy] 27 (0, 0)) (by (with_reducible repeat (first | refine qj ?_ _ | refine qm ?_ | refine qi ?_ _)); refine qbr (cs := #[.int .i64 ((qw l0_3 qf9).f0), .int .i64 ((qw l0_3 qf9).f1), .string ((qw l0_3 qf9).f2), .slice none 0 0]) ?_ 3 _ rfl; (with_reducible repeat (first | refine qj ?_ _ | refine qm ?_ | refine qi ?_ _)); refine qbr (cs := #[.int .i64 ((qw l0_3 qf9).f0), .int .i64 ((qw l0_3 qf9).f1), .string (⟨#[]⟩ : ByteArray), .slice none 0 0]) ?_ 2 _ rfl; (with_reducible repeat (first | refine qj ?_ _ | refine qm ?_ | refine qi ?_ _)); refine qbr (cs := #[.int .i64 ((qw l0_3 qf9).f0), .int .i64 0, .string (⟨#[]⟩ : ByteArray), .slice none 0 0]) ?_ 1 _ rfl; (with_reducible repeat (first | refine qj ?_ _ | refine qm ?_ | refine qi ?_ _)); refine qbr (cs := #[.int .i64 0, .int .i64 0, .string (⟨#[]⟩ : ByteArray), .slice none 0 0]) ?_ 0 _ rfl; (with_reducible repeat (first | refine qj ?_ _ | refine qm ?_ | refine qi ?_ _)); exact qgn.out) hb); have n3_ := qc.mk (q9 (by repeat (first | (with_reducible first | exact HB.out | apply qg | apply qd | apply qh | refine ql ?_ qgl.out | refine ql ?_ qgr.out | refine ql ?_ qjr.out) | exact HB.out)) hb); clear qfs; clear qfv; clear qgn; clear HB; have qfs := n0_; have qfv := n1_; have qgn := n2_; have HB := n3_; clear n0_ n1_ n2_ n3_; (try clear hb); (try clear hb2); (try clear hk); (try clear hi))); try go_wp2_with (first | ((with_reducible refine qb0 (N := 8) rfl ?_); (try (refine qcc (by rfl) ?_; dsimp only)); refine qby ?hg (N := 8) ?hd (cs := #[.int .i64 0, .int .i64 0, .string (⟨#[]⟩ : ByteArray), .slice none 0 0]) (t := 27) ?hr ?_; (case hd => rfl); (case hg => rfl); (case hr => first | (go_simp; done) | (go_simp; rfl)); intro qgo hg w66 hbox hb; have n0_ := qc.mk (qbb (g := qfz) (o := .cells #[.int .i64 a0_0, .int .i64 a0_1, .string a0_2, .slice (some qjx) l0_3.length c0_3] 27 (0, 0)) (by (with_reducible repeat (first | refine qj ?_ _ | refine qm ?_ | refine qi ?_ _)); exact qfs.out) hb); have n1_ := qc.mk (qbb (g := qgf) (o := .cells #[.int .i64 0, .int .i64 qf0, .string qf3, .slice none 0 0] 27 (0, 0)) (by (with_reducible repeat (first | refine qj ?_ _ | refine qm ?_ | refine qi ?_ _)); exact qfv.out) hb); have n2_ := qc.mk (q9 (by repeat (first | (with_reducible first | exact HB.out | apply qg | apply qd | apply qh | refine ql ?_ qgl.out | refine ql ?_ qgr.out) | exact HB.out)) hb); have n3_ := qc.mk (hbox); have n4_ := qc.mk ((by rw [hg]; exact (qba (by repeat (first | (with_reducible first | exact HB.out | apply qg | apply qd | apply qh | refine ql ?_ qgl.out | refine ql ?_ qgr.out) | exact HB.out))) : w.heap.size ≤ qgo)); have n5_ := qc.mk ((by rw [hg]; exact (qba (by repeat (first | (with_reducible first | exact HB.out | apply qg | apply qd | apply qh | refine ql ?_ qgl.out | refine ql ?_ qgr.out) | exact HB.out))) : w.heap.size ≤ qgo)); have n6_ := qc.mk ((by rw [hg]; exact Nat.ne_of_lt (qb4 (g := qfz) (o := .cells #[.int .i64 a0_0, .int .i64 a0_1, .string a0_2, .slice (some qjx) l0_3.length c0_3] 27 (0, 0)) (by (with_reducible repeat (first | refine qj ?_ _ | refine qm ?_ | refine qi ?_ _)); exact qfs.out)) : qfz ≠ qgo)); have n7_ := qc.mk ((by rw [hg]; exact Nat.ne_of_gt (qb4 (g := qfz) (o := .cells #[.int .i64 a0_0, .int .i64 a0_1, .string a0_2, .slice (some qjx) l0_3.length c0_3] 27 (0, 0)) (by (with_reducible repeat (first | refine qj ?_ _ | refine qm ?_ | refine qi ?_ _)); exact qfs.out)) : qgo ≠ qfz)); have n8_ := qc.mk ((by rw [hg]; exact Nat.ne_of_lt (qb4 (g := qgf) (o := .cells #[.int .i64 0, .int .i64 qf0, .string qf3, .slice none 0 0] 27 (0, 0)) (by (with_reducible repeat (first | refine qj ?_ _ | refine qm ?_ | refine qi ?_ _)); exact qfv.out)) : qgf ≠ qgo)); have n9_ := qc.mk ((by rw [hg]; exact Nat.ne_of_gt (qb4 (g := qgf) (o := .cells #[.int .i64 0, .int .i64 qf0, .string qf3, .slice none 0 0] 27 (0, 0)) (by (with_reducible repeat (first | refine qj ?_ _ | refine qm ?_ | refine qi ?_ _)); exact qfv.out)) : qgo ≠ qgf)); clear qfs; clear qfv; clear HB; have qfs := n0_; have qfv := n1_; have HB := n2_; have qgn := n3_; have qbkl := n4_; have qjr := n5_; have qf6 := n6_; have qhz := n7_; have qf7 := n8_; have qhy := n9_; clear n0_ n1_ n2_ n3_ n4_ n5_ n6_ n7_ n8_ n9_; clear hb hbox hg; have qbsa := qhz.out; have qbr5 := qf6.out; have qbr0 := qhy.out; have qbrf := qf7.out; have q31 : w66.cell? ⟨qgo, 0, none⟩ = some (.int .i64 0) := (qb qgn.out 0).trans rfl; have qzz : w66.cell? ⟨qgo, 1, none⟩ = some (.int .i64 0) := (qb qgn.out 1).trans rfl; have q1r : w66.cell? ⟨qgo, 2, none⟩ = some (.string (⟨#[]⟩ : ByteArray)) := (qb qgn.out 2).trans rfl; have q5o : w66.cell? ⟨qgo, 3, none⟩ = some (.slice none 0 0) := (qb qgn.out 3).trans rfl; have qo1 := qa qgn.out 0; have qnu := qa qgn.out 1; have qom := qa qgn.out 2; have qnm := qa qgn.out 3) | (go_at_call 88; (with_reducible refine (ih k4 (by have := HJ3.out; have := HJ17.out; have := HJ44.out; have := HK4.out; omega) ((qw l0_3 qf9).f0) ((qw l0_3 qf9).f1) ((qw l0_3 qf9).f2) _ _ ((qw l0_3 qf9).f3) (wrap64 (a1 - 1)) false _ ?side1 ?side2 ?side3 A59.out).mono ?_); (case side1 => exact Kd.qbw qpo.out (by repeat (first | (with_reducible first | exact HB.out | apply qg | apply qd | apply qh | refine ql ?_ qgl.out | refine ql ?_ qgr.out | refine ql ?_ qjr.out) | exact HB.out))); (case side2 => exact qp2.out); (case side3 => exact Lay.below HLAY.out (by repeat (first | (with_reducible first | exact HB.out | apply qg | apply qd | apply qh | refine ql ?_ qgl.out | refine ql ?_ qgr.out | refine ql ?_ qjr.out) | exact HB.out))); rintro e w70 ⟨rfl, hb⟩; have n0_ := qc.mk (qbb (g := qfz) (o := .cells #[.int .i64 a0_0, .int .i64 a0_1, .string a0_2, .slice (some qjx) l0_3.length c0_3] 27 (0, 0)) (by (with_reducible repeat (first | refine qj ?_ _ | refine qm ?_ | refine qi ?_ _)); refine qbp ?_ qf6.out _; (with_reducible repeat (first | refine qj ?_ _ | refine qm ?_ | refine qi ?_ _)); refine qbp ?_ qf6.out _; (with_reducible repeat (first | refine qj ?_ _ | refine qm ?_ | refine qi ?_ _)); refine qbp ?_ qf6.out _; (with_reducible repeat (first | refine qj ?_ _ | refine qm ?_ | refine qi ?_ _)); refine qbp ?_ qf6.out _; (with_reducible repeat (first | refine qj ?_ _ | refine qm ?_ | refine qi ?_ _)); exact qfs.out) hb); have n1_ := qc.mk (qbb (g := qgf) (o := .cells #[.int .i64 0, .int .i64 qf0, .string qf3, .slice none 0 0] 27 (0, 0)) (by (with_reducible repeat (first | refine qj ?_ _ | refine qm ?_ | refine qi ?_ _)); refine qbp ?_ qf7.out _; (with_reducible repeat (first | refine qj ?_ _ | refine qm ?_ | refine qi ?_ _)); refine qbp ?_ qf7.out _; (with_reducible repeat (first | refine qj ?_ _ | refine qm ?_ | refine qi ?_ _)); refine qbp ?_ qf7.out _; (with_reducible repeat (first | refine qj ?_ _ | refine qm ?_ | refine qi ?_ _)); refine qbp ?_ qf7.out _; (with_reducible repeat (first | refine qj ?_ _ | refine qm ?_ | refine qi ?_ _)); exact qfv.out) hb); have n2_ := qc.mk (qbb (g := qgo) (o := .cells #[.int .i64 ((qw l0_3 qf9).f0), .int .i64 ((qw l0_3 qf9).f1), .string ((qw l0_3 qf9).f2), .slice qxw ((qw l0_3 qf9).f3).length qyy] 27 (0, 0)) (by (with_reducible repeat (first | refine qj ?_ _ | refine qm ?_ | refine qi ?_ _)); refine qbr (cs := #[.int .i64 ((qw l0_3 qf9).f0), .int .i64 ((qw l0_3 qf9).f1), .string ((qw l0_3 qf9).f2), .slice none 0 0]) ?_ 3 _ rfl; (with_reducible repeat (first | refine qj ?_ _ | refine qm ?_ | refine qi ?_ _)); refine qbr (cs := #[.int .i64 ((qw l0_3 qf9).f0), .int .i64 ((qw l0_3 qf9).f1), .string (⟨#[]⟩ : ByteArray), .slice none 0 0]) ?_ 2 _ rfl; (with_reducible repeat (first | refine qj ?_ _ | refine qm ?_ | refine qi ?_ _)); refine qbr (cs := #[.int .i64 ((qw l0_3 qf9).f0), .int .i64 0, .string (⟨#[]⟩ : ByteArray), .slice none 0 0]) ?_ 1 _ rfl; (with_reducible repeat (first | refine qj ?_ _ | refine qm ?_ | refine qi ?_ _)); refine qbr (cs := #[.int .i64 0, .int .i64 0, .string (⟨#[]⟩ : ByteArray), .slice none 0 0]) ?_ 0 _ rfl; (with_reducible repeat (first | refine qj ?_ _ | refine qm ?_ | refine qi ?_ _)); exact qgn.out) hb); have n3_ := qc.mk (q9 (by repeat (first | (with_reducible first | exact HB.out | apply qg | apply qd | apply qh | refine ql ?_ qgl.out | refine ql ?_ qgr.out | refine ql ?_ qjr.out) | exact HB.out)) hb); clear qfs; clear qfv; clear qgn; clear HB; have qfs := n0_; have qfv := n1_; have qgn := n2_; have HB := n3_; clear n0_ n1_ n2_ n3_; (try clear hb); (try clear hb2); (try clear hk); (try clear hi))))
               go_ret
               exact ⟨by first | rfl | (simp [qx, qy] <;> rfl) | (simp [*, qx, qy] <;> rfl), by repeat (first | (with_reducible first | exact HB.out | apply qg | apply qd | apply qh | refine ql ?_ qgl.out | refine ql ?_ qgr.out | refine ql ?_ qjr.out) | exact HB.out)⟩
             ·rw [if_neg c58] at H
              exact absurd H (by simp)
            ·rw [if_neg c57] at H
             exact absurd H (by simp)
           ·rw [if_neg c56] at H
            have c56b0 : decide (qf9 < (l0_3.length : Int)) = false := decide_eq_false c56
            clear c56
            obtain rfl := Option.some.inj H
            go_wp2
            repeat (go_quiet (fail); try go_wp2)
            go_ret
            exact ⟨by first | rfl | (simp [qx, qy] <;> rfl) | (simp [*, qx, qy] <;> rfl), by repeat (first | (with_reducible first | exact HB.out | apply qg | apply qd | apply qh | refine ql ?_ qgl.out | refine ql ?_ qgr.out) | exact HB.out)⟩
def qce.f (k : Nat) (a0_0 : Int) (a0_1 : Int) (a0_2 : ByteArray) (l0_3 : List (S27)) : Option (Bool) := (qz.f k a0_0 a0_1 a0_2 l0_3 40).bind fun t159 => (some t159)
theorem qce.mono : ∀ a0 a1 a2 a3 k, LeO (qce.f k a0 a1 a2 a3) (qce.f (k + 1) a0 a1 a2 a3) := by
 intro a0 a1 a2 a3 k
 unfold qce.f
 repeat' first
   | (with_reducible exact qz.mono _ _ _ _ _ _)
   | (with_reducible exact LeO.refl _)
   | (with_reducible exact LeO.none _)
   | (with_reducible refine LeO.ite ?_ ?_)
   | (with_reducible refine LeO.bind ?_ (fun _ => ?_))
   | exact qz.mono _ _ _ _ _ _
   | exact LeO.none _
   | refine LeO.ite ?_ ?_
   | refine LeO.bind ?_ (fun _ => ?_)
set_option maxHeartbeats 8000000 in
set_option maxRecDepth 100000 in
theorem qce.calls (k : Nat) (a0_0 : Int) (a0_1 : Int) (a0_2 : ByteArray) (A0_3 : Option Addr) (c0_3 : Nat) (l0_3 : List (S27)) (r : Bool) (w : World) (qh5 : Kd.C k27 w A0_3 l0_3.length l0_3) (qhr : l0_3.length ≤ c0_3) (hG : Lay w) (h : qce.f k a0_0 a0_1 a0_2 l0_3 = some r) :
  Calls Tryd.prog 83 #[.agg #[.int .i64 a0_0, .int .i64 a0_1, .string a0_2, .slice A0_3 l0_3.length c0_3]] w fun e w' => e = .returned (.bool r) ∧ Below w.heap.size w w' := by
 have hu27 := Tryd.underlying27
 have qo8 := qc.mk qh5
 have qwf := qc.mk qhr
 clear qh5 qhr
 have HB := qc.mk (Below.refl w.heap.size w)
 have HLAY := qc.mk hG
 clear hG
 have H : ((qz.f k a0_0 a0_1 a0_2 l0_3 40).bind fun t159 => (some t159)) = some r := h
 clear h
 replace H := Option.bind_eq_some_iff.mp H
 obtain ⟨t159, A20, H⟩ := H
 replace H : (some t159) = some r := H
 have A2 := qc.mk A20
 clear A20
 obtain rfl := Option.some.inj H
 go_enter Tryd.func83, Tryd.ntmps83
 go_wp2_with (first | ((with_reducible refine qb0 (N := 1) rfl ?_); refine qby ?hg (N := 1) ?hd (cs := #[.int .i64 a0_0, .int .i64 a0_1, .string a0_2, .slice A0_3 l0_3.length c0_3]) (t := 27) ?hr ?_; (case hd => rfl); (case hg => rfl); (case hr => first | (go_simp; done) | (go_simp; rfl)); intro q91 hg w3 hbox hb; have n0_ := qc.mk (q9 (by repeat (first | (with_reducible first | exact HB.out | apply qg | apply qd | apply qh) | exact HB.out)) hb); have n1_ := qc.mk (hbox); have n2_ := qc.mk ((by rw [hg]; exact (qba (by repeat (first | (with_reducible first | exact HB.out | apply qg | apply qd | apply qh) | exact HB.out))) : w.heap.size ≤ q91)); have n3_ := qc.mk ((by rw [hg]; exact (qba (by repeat (first | (with_reducible first | exact HB.out | apply qg | apply qd | apply qh) | exact HB.out))) : w.heap.size ≤ q91)); clear HB; have HB := n0_; have qze := n1_; have qbxy := n2_; have qbqh := n3_; clear n0_ n1_ n2_ n3_; clear hb hbox hg; have qbn3 : w3.cell? ⟨q91, 0, none⟩ = some (.int .i64 a0_0) := (qb qze.out 0).trans rfl; have qbod : w3.cell? ⟨q91, 1, none⟩ = some (.int .i64 a0_1) := (qb qze.out 1).trans rfl; have qboa : w3.cell? ⟨q91, 2, none⟩ = some (.string a0_2) := (qb qze.out 2).trans rfl; have qbog : w3.cell? ⟨q91, 3, none⟩ = some (.slice A0_3 l0_3.length c0_3) := (qb qze.out 3).trans rfl; have qbof := qa qze.out 0; have qbn7 := qa qze.out 1; have qbn1 := qa qze.out 2; have qbn6 := qa qze.out 3) | ((with_reducible refine qb5 (f := 88) rfl ?_); refine qcj (some 4) rfl rfl Tryd.func88 (by kernel_rfl) rfl #[.agg #[.int .i64 a0_0, .int .i64 a0_1, .string a0_2, .slice A0_3 l0_3.length c0_3], .int .i64 40] rfl (by (try simp only [List.map_toArray, List.map_cons, List.map_nil]); first | done | rfl | (simp only [List.length_drop, List.length_take]; rfl)) ?_; (with_reducible refine (qz.calls k a0_0 a0_1 a0_2 _ _ l0_3 40 t159 _ ?side1 ?side2 ?side3 A2.out).mono ?_); (case side1 => repeat (first | exact (Kd.qbw qo8.out HB.out) | (with_reducible refine Kd.qb3 ?_ _) | (with_reducible refine Kd.qb1 ?_ _) | (with_reducible refine Kd.qb7 ?_))); (case side2 => exact qwf.out); (case side3 => exact Lay.below HLAY.out (by repeat (first | (with_reducible first | exact HB.out | apply qg | apply qd | apply qh | refine ql ?_ qbqh.out) | exact HB.out))); rintro e w5 ⟨rfl, hb⟩; refine ⟨_, rfl, ?_⟩; have n0_ := qc.mk (qbb (g := q91) (o := .cells #[.int .i64 a0_0, .int .i64 a0_1, .string a0_2, .slice A0_3 l0_3.length c0_3] 27 (0, 0)) (by (with_reducible repeat (first | refine qj ?_ _ | refine qm ?_ | refine qi ?_ _)); exact qze.out) hb); have n1_ := qc.mk (q9 (by repeat (first | (with_reducible first | exact HB.out | apply qg | apply qd | apply qh | refine ql ?_ qbqh.out) | exact HB.out)) hb); clear qze; clear HB; have qze := n0_; have HB := n1_; clear n0_ n1_; (try clear hb); (try clear hb2); (try clear hk); (try clear hi)))
 go_ret
 exact ⟨by first | rfl | (simp [qx, qy] <;> rfl) | (simp [*, qx, qy] <;> rfl), by repeat (first | (with_reducible first | exact HB.out | apply qg | apply qd | apply qh | refine ql ?_ qbqh.out) | exact HB.out)⟩
end Go.Proofs.YtpgkhmdfddejfaaDoor.PV
end
