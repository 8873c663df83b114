import Derived.Test.YtpgkhmdfddejfaaDoorZLPVx0
import Derived.Test.YtpgkhmdfddejfaaDoorZLPVx4
section
namespace Go.Proofs.YtpgkhmdfddejfaaDoor.PV
open Go.RowKit Go.Proofs.YtpgkhmdfddejfaaDoorW.PrintWords Go.Proofs.YtpgkhmdfddejfaaDoorW.PrintLast Go.Proofs.YtpgkhmdfddejfaaDoorW.PrintMore
attribute [local go_sem] qcz qcx qdc qdb qcr qcq qcv qcy   -- for this text's walks alone
set_option linter.unusedVariables false
set_option linter.unusedSimpArgs false
mutual
def qy.j0 : Nat → Int → Bool → Int → Int → ByteArray → List (S27) → Option (Bool)
 | 0, _, _, _, _, _, _ => none
 | k + 1, x1, x35, x149000, x149001, x149002, x149003 => if x35 = true then (some false) else (if x149000 = 0 then (qy.j2 k x1 x149000 x149001 x149002 x149003 0 (mx x149001 (-9223372036854775807)) (⟨#[]⟩ : ByteArray)) else (if x149000 = 1 then (qy.j2 k x1 x149000 x149001 x149002 x149003 0 (Go.bits .and .i64 x149001 1) (⟨#[]⟩ : ByteArray)) else (if x149000 = 2 then (qy.j1 k x1 (x149000 == 2) x149000 x149001 x149002 x149003 0 0 (⟨#[]⟩ : ByteArray)) else (qy.j1 k x1 (x149000 == 3) x149000 x149001 x149002 x149003 0 0 (⟨#[]⟩ : ByteArray)))))
def qy.j2 : Nat → Int → Int → Int → ByteArray → List (S27) → Int → Int → ByteArray → Option (Bool)
 | 0, _, _, _, _, _, _, _, _ => none
 | k + 1, x1, x149000, x149001, x149002, x149003, x154000, x154001, x154002 => if x154001 = x149001 then (qy.j3 k x1 (x154002.toList != x149002.toList) x149000 x149001 x149002 x149003) else (qy.j3 k x1 true x149000 x149001 x149002 x149003)
def qy.j3 : Nat → Int → Bool → Int → Int → ByteArray → List (S27) → Option (Bool)
 | 0, _, _, _, _, _, _ => none
 | k + 1, x1, x72, x149000, x149001, x149002, x149003 => if x72 = true then (some false) else (qy.l0 k x1 x149003 (x149003.length : Int) 0)
def qy.l0 : Nat → Int → List (S27) → Int → Int → Option (Bool)
 | 0, _, _, _, _ => none
 | k + 1, x1, x74, x75, x76 => if x76 < x75 then (if 0 ≤ x76 then (if x76 < (x74.length : Int) then ((qy.f k ((qx x74 x76).f0) ((qx x74 x76).f1) ((qx x74 x76).f2) ((qx x74 x76).f3) (wrap64 (x1 - 1))).bind fun t157 => (if t157 = true then (qy.l0 k x1 x74 x75 (wrap64 (x76 + 1))) else (some false))) else (none)) else (none)) else (some true)
def qy.j1 : Nat → Int → Bool → Int → Int → ByteArray → List (S27) → Int → Int → ByteArray → Option (Bool)
 | 0, _, _, _, _, _, _, _, _, _ => none
 | k + 1, x1, x51, x149000, x149001, x149002, x149003, x154000, x154001, x154002 => if x51 = true then ((qbz.f k x149002).bind fun t154 => (if t154 = true then (qy.j2 k x1 x149000 x149001 x149002 x149003 x154000 x154001 x149002) else (some false))) else (qy.j2 k x1 x149000 x149001 x149002 x149003 x154000 x154001 x154002)
def qy.f : Nat → Int → Int → ByteArray → List (S27) → Int → Option (Bool)
 | 0, _, _, _, _, _ => none
 | k + 1, a0_0, a0_1, a0_2, l0_3, a1 => (qdi.f).bind fun t149 => (if a1 = 0 then (qy.j0 k a1 true a0_0 a0_1 a0_2 l0_3) else (if a0_0 < 0 then (qy.j0 k a1 true a0_0 a0_1 a0_2 l0_3) else (if a0_0 ≥ (t149.length : Int) then (qy.j0 k a1 true a0_0 a0_1 a0_2 l0_3) else (if 0 ≤ a0_0 then (if a0_0 < (t149.length : Int) then (qy.j0 k a1 ((l0_3.length : Int) != ((qe1 t149 a0_0).f0)) a0_0 a0_1 a0_2 l0_3) else (none)) else (none)))))
end
theorem qy.qch : ∀ k, (∀ y0 y1 y2 y3 y4, LeO (qy.f k y0 y1 y2 y3 y4) (qy.f (k + 1) y0 y1 y2 y3 y4)) ∧ (∀ y0 y1 y2 y3 y4 y5, LeO (qy.j0 k y0 y1 y2 y3 y4 y5) (qy.j0 (k + 1) y0 y1 y2 y3 y4 y5)) ∧ (∀ y0 y1 y2 y3 y4 y5 y6 y7, LeO (qy.j2 k y0 y1 y2 y3 y4 y5 y6 y7) (qy.j2 (k + 1) y0 y1 y2 y3 y4 y5 y6 y7)) ∧ (∀ y0 y1 y2 y3 y4 y5, LeO (qy.j3 k y0 y1 y2 y3 y4 y5) (qy.j3 (k + 1) y0 y1 y2 y3 y4 y5)) ∧ (∀ y0 y1 y2 y3, LeO (qy.l0 k y0 y1 y2 y3) (qy.l0 (k + 1) y0 y1 y2 y3)) ∧ (∀ y0 y1 y2 y3 y4 y5 y6 y7 y8, LeO (qy.j1 k y0 y1 y2 y3 y4 y5 y6 y7 y8) (qy.j1 (k + 1) y0 y1 y2 y3 y4 y5 y6 y7 y8))
 | 0 => ⟨fun _ _ _ _ _ r h => by simp [qy.f] at h, fun _ _ _ _ _ _ r h => by simp [qy.j0] at h, fun _ _ _ _ _ _ _ _ r h => by simp [qy.j2] at h, fun _ _ _ _ _ _ r h => by simp [qy.j3] at h, fun _ _ _ _ r h => by simp [qy.l0] at h, fun _ _ _ _ _ _ _ _ _ r h => by simp [qy.j1] at h⟩
 | k + 1 => by
  obtain ⟨ih0, ih1, ih2, ih3, ih4, ih5⟩ := qy.qch k
  refine ⟨?_, ?_, ?_, ?_, ?_, ?_⟩
  ·intro y0 y1 y2 y3 y4
   unfold qy.f
   repeat' first
   | (with_reducible exact ih0 _ _ _ _ _)
   | (with_reducible exact ih1 _ _ _ _ _ _)
   | (with_reducible exact ih2 _ _ _ _ _ _ _ _)
   | (with_reducible exact ih3 _ _ _ _ _ _)
   | (with_reducible exact ih4 _ _ _ _)
   | (with_reducible exact ih5 _ _ _ _ _ _ _ _ _)
   | (with_reducible exact qbz.mono _ _)
   | (with_reducible exact LeO.refl _)
   | (with_reducible exact LeO.none _)
   | (with_reducible refine LeO.ite ?_ ?_)
   | (with_reducible refine LeO.bind ?_ (fun _ => ?_))
   | exact ih0 _ _ _ _ _
   | exact ih1 _ _ _ _ _ _
   | exact ih2 _ _ _ _ _ _ _ _
   | exact ih3 _ _ _ _ _ _
   | exact ih4 _ _ _ _
   | exact ih5 _ _ _ _ _ _ _ _ _
   | exact qbz.mono _ _
   | exact LeO.none _
   | refine LeO.ite ?_ ?_
   | refine LeO.bind ?_ (fun _ => ?_)
  ·intro y0 y1 y2 y3 y4 y5
   unfold qy.j0
   repeat' first
   | (with_reducible exact ih0 _ _ _ _ _)
   | (with_reducible exact ih1 _ _ _ _ _ _)
   | (with_reducible exact ih2 _ _ _ _ _ _ _ _)
   | (with_reducible exact ih3 _ _ _ _ _ _)
   | (with_reducible exact ih4 _ _ _ _)
   | (with_reducible exact ih5 _ _ _ _ _ _ _ _ _)
   | (with_reducible exact qbz.mono _ _)
   | (with_reducible exact LeO.refl _)
   | (with_reducible exact LeO.none _)
   | (with_reducible refine LeO.ite ?_ ?_)
   | (with_reducible refine LeO.bind ?_ (fun _ => ?_))
   | exact ih0 _ _ _ _ _
   | exact ih1 _ _ _ _ _ _
   | exact ih2 _ _ _ _ _ _ _ _
   | exact ih3 _ _ _ _ _ _
   | exact ih4 _ _ _ _
   | exact ih5 _ _ _ _ _ _ _ _ _
   | exact qbz.mono _ _
   | exact LeO.none _
   | refine LeO.ite ?_ ?_
   | refine LeO.bind ?_ (fun _ => ?_)
  ·intro y0 y1 y2 y3 y4 y5 y6 y7
   unfold qy.j2
   repeat' first
   | (with_reducible exact ih0 _ _ _ _ _)
   | (with_reducible exact ih1 _ _ _ _ _ _)
   | (with_reducible exact ih2 _ _ _ _ _ _ _ _)
   | (with_reducible exact ih3 _ _ _ _ _ _)
   | (with_reducible exact ih4 _ _ _ _)
   | (with_reducible exact ih5 _ _ _ _ _ _ _ _ _)
   | (with_reducible exact qbz.mono _ _)
   | (with_reducible exact LeO.refl _)
   | (with_reducible exact LeO.none _)
   | (with_reducible refine LeO.ite ?_ ?_)
   | (with_reducible refine LeO.bind ?_ (fun _ => ?_))
   | exact ih0 _ _ _ _ _
   | exact ih1 _ _ _ _ _ _
   | exact ih2 _ _ _ _ _ _ _ _
   | exact ih3 _ _ _ _ _ _
   | exact ih4 _ _ _ _
   | exact ih5 _ _ _ _ _ _ _ _ _
   | exact qbz.mono _ _
   | exact LeO.none _
   | refine LeO.ite ?_ ?_
   | refine LeO.bind ?_ (fun _ => ?_)
  ·intro y0 y1 y2 y3 y4 y5
   unfold qy.j3
   repeat' first
   | (with_reducible exact ih0 _ _ _ _ _)
   | (with_reducible exact ih1 _ _ _ _ _ _)
   | (with_reducible exact ih2 _ _ _ _ _ _ _ _)
   | (with_reducible exact ih3 _ _ _ _ _ _)
   | (with_reducible exact ih4 _ _ _ _)
   | (with_reducible exact ih5 _ _ _ _ _ _ _ _ _)
   | (with_reducible exact qbz.mono _ _)
   | (with_reducible exact LeO.refl _)
   | (with_reducible exact LeO.none _)
   | (with_reducible refine LeO.ite ?_ ?_)
   | (with_reducible refine LeO.bind ?_ (fun _ => ?_))
   | exact ih0 _ _ _ _ _
   | exact ih1 _ _ _ _ _ _
   | exact ih2 _ _ _ _ _ _ _ _
   | exact ih3 _ _ _ _ _ _
   | exact ih4 _ _ _ _
   | exact ih5 _ _ _ _ _ _ _ _ _
   | exact qbz.mono _ _
   | exact LeO.none _
   | refine LeO.ite ?_ ?_
   | refine LeO.bind ?_ (fun _ => ?_)
  ·intro y0 y1 y2 y3
   unfold qy.l0
   repeat' first
   | (with_reducible exact ih0 _ _ _ _ _)
   | (with_reducible exact ih1 _ _ _ _ _ _)
   | (with_reducible exact ih2 _ _ _ _ _ _ _ _)
   | (with_reducible exact ih3 _ _ _ _ _ _)
   | (with_reducible exact ih4 _ _ _ _)
   | (with_reducible exact ih5 _ _ _ _ _ _ _ _ _)
   | (with_reducible exact qbz.mono _ _)
   | (with_reducible exact LeO.refl _)
   | (with_reducible exact LeO.none _)
   | (with_reducible refine LeO.ite ?_ ?_)
   | (with_reducible refine LeO.bind ?_ (fun _ => ?_))
   | exact ih0 _ _ _ _ _
   | exact ih1 _ _ _ _ _ _
   | exact ih2 _ _ _ _ _ _ _ _
   | exact ih3 _ _ _ _ _ _
   | exact ih4 _ _ _ _
   | exact ih5 _ _ _ _ _ _ _ _ _
   | exact qbz.mono _ _
   | exact LeO.none _
   | refine LeO.ite ?_ ?_
   | refine LeO.bind ?_ (fun _ => ?_)
  ·intro y0 y1 y2 y3 y4 y5 y6 y7 y8
   unfold qy.j1
   repeat' first
   | (with_reducible exact ih0 _ _ _ _ _)
   | (with_reducible exact ih1 _ _ _ _ _ _)
   | (with_reducible exact ih2 _ _ _ _ _ _ _ _)
   | (with_reducible exact ih3 _ _ _ _ _ _)
   | (with_reducible exact ih4 _ _ _ _)
   | (with_reducible exact ih5 _ _ _ _ _ _ _ _ _)
   | (with_reducible exact qbz.mono _ _)
   | (with_reducible exact LeO.refl _)
   | (with_reducible exact LeO.none _)
   | (with_reducible refine LeO.ite ?_ ?_)
   | (with_reducible refine LeO.bind ?_ (fun _ => ?_))
   | exact ih0 _ _ _ _ _
   | exact ih1 _ _ _ _ _ _
   | exact ih2 _ _ _ _ _ _ _ _
   | exact ih3 _ _ _ _ _ _
   | exact ih4 _ _ _ _
   | exact ih5 _ _ _ _ _ _ _ _ _
   | exact qbz.mono _ _
   | exact LeO.none _
   | refine LeO.ite ?_ ?_
   | refine LeO.bind ?_ (fun _ => ?_)
theorem qy.mono : ∀ a0 a1 a2 a3 a4 k, LeO (qy.f k a0 a1 a2 a3 a4) (qy.f (k + 1) a0 a1 a2 a3 a4) := by
 intro a0 a1 a2 a3 a4 k
 obtain ⟨ih0, ih1, ih2, ih3, ih4, ih5⟩ := qy.qch k
 exact ih0 a0 a1 a2 a3 a4
set_option maxHeartbeats 8000000 in
set_option maxRecDepth 100000 in
theorem qy.calls (k : Nat) : ∀ (a0_0 : Int) (a0_1 : Int) (a0_2 : ByteArray) (A0_3 : Option Addr) (c0_3 : Nat) (l0_3 : List (S27)) (a1 : Int) (r : Bool) (w : World) (hr0_3 : Kd.C k27 w A0_3 l0_3.length l0_3) (hc0_3 : l0_3.length ≤ c0_3) (hG : Lay w) (h : qy.f k a0_0 a0_1 a0_2 l0_3 a1 = some r),
  Calls Tryd.prog 88 #[.agg #[.int .i64 a0_0, .int .i64 a0_1, .string a0_2, .slice A0_3 l0_3.length c0_3], .int .i64 a1] w fun e w' => e = .returned (.bool r) ∧ Below w.heap.size w w' := by
 induction k using Nat.strongRecOn with
 | _ k ih =>
 intro a0_0 a0_1 a0_2 A0_3 c0_3 l0_3 a1 r w hr0_3 hc0_3 hG h
 cases k with
 | zero => exact absurd h (by simp [qy.f])
 | succ k =>
 simp only [qy.f] at h
 have hu27 := Tryd.underlying27
 have HR0_3 := qd.mk hr0_3
 have HC0_3 := qd.mk hc0_3
 clear hr0_3 hc0_3
 have HB := qd.mk (Below.refl w.heap.size w)
 have HLAY := qd.mk hG
 clear hG
 have H : ((qdi.f).bind fun t149 => (if a1 = 0 then (qy.j0 k a1 true a0_0 a0_1 a0_2 l0_3) else (if a0_0 < 0 then (qy.j0 k a1 true a0_0 a0_1 a0_2 l0_3) else (if a0_0 ≥ (t149.length : Int) then (qy.j0 k a1 true a0_0 a0_1 a0_2 l0_3) else (if 0 ≤ a0_0 then (if a0_0 < (t149.length : Int) then (qy.j0 k a1 ((l0_3.length : Int) != ((qe1 t149 a0_0).f0)) a0_0 a0_1 a0_2 l0_3) else (none)) else (none)))))) = some r := h
 clear h
 replace H := Option.bind_eq_some_iff.mp H
 obtain ⟨t149, A30, H⟩ := H
 replace H : (if a1 = 0 then (qy.j0 k a1 true a0_0 a0_1 a0_2 l0_3) else (if a0_0 < 0 then (qy.j0 k a1 true a0_0 a0_1 a0_2 l0_3) else (if a0_0 ≥ (t149.length : Int) then (qy.j0 k a1 true a0_0 a0_1 a0_2 l0_3) else (if 0 ≤ a0_0 then (if a0_0 < (t149.length : Int) then (qy.j0 k a1 ((l0_3.length : Int) != ((qe1 t149 a0_0).f0)) a0_0 a0_1 a0_2 l0_3) else (none)) else (none))))) = some r := H
 have A3 := qd.mk A30
 clear A30
 have HC4 := qd.mk H
 clear H
 go_enter Tryd.func88, Tryd.ntmps88
 go_upto_region 2 with (first | ((with_reducible refine qby (N := 2) rfl ?_); (try (refine qcb (by rfl) ?_; dsimp only)); refine qbx ?hg (N := 2) ?hd (cs := #[.int .i64 a0_0, .int .i64 a0_1, .string a0_2, .slice A0_3 l0_3.length c0_3]) (t := 27) ?hr ?_; (case hd => rfl); (case hg => rfl); (case hr => first | (go_simp; done) | (go_simp; rfl)); intro gb148 hg w5 hbox hb; have n0_ := qd.mk (qba (by repeat (first | (with_reducible first | exact HB.out | apply qg | apply qc | apply qh) | exact HB.out)) hb); have n1_ := qd.mk (hbox); have n2_ := qd.mk ((by rw [hg]; exact (qbc (by repeat (first | (with_reducible first | exact HB.out | apply qg | apply qc | apply qh) | exact HB.out))) : w.heap.size ≤ gb148)); have n3_ := qd.mk ((by rw [hg]; exact (qbc (by repeat (first | (with_reducible first | exact HB.out | apply qg | apply qc | apply qh) | exact HB.out))) : w.heap.size ≤ gb148)); clear HB; have HB := n0_; have BK148 := n1_; have GW148 := n2_; have GE148 := n3_; clear n0_ n1_ n2_ n3_; clear hb hbox hg) | (go_at_call 93; (with_reducible refine (qdi.calls  t149 _ A3.out).mono ?_); rintro e w6 ⟨v150, rfl, ho0, hb⟩; have n0_ := qd.mk (Kd.qd6 ho0 (qbc (by repeat (first | (with_reducible first | exact HB.out | apply qg | apply qc | apply qh | refine ql ?_ GE148.out) | exact HB.out)))); have n1_ := qd.mk (qbb (g := gb148) (o := .cells #[.int .i64 a0_0, .int .i64 a0_1, .string a0_2, .slice A0_3 l0_3.length c0_3] 27 (0, 0)) (by (with_reducible repeat (first | refine qj ?_ _ | refine qm ?_ | refine qi ?_ _)); exact BK148.out) hb); have n2_ := qd.mk (qba (by repeat (first | (with_reducible first | exact HB.out | apply qg | apply qc | apply qh | refine ql ?_ GE148.out) | exact HB.out)) hb); clear BK148; clear HB; have HO151 := n0_; have BK148 := n1_; have HB := n2_; clear n0_ n1_ n2_; (try clear hb); (try clear hb2); (try clear hk); (try clear hi); (try clear ho0)))
 repeat (go_quiet (first | ((with_reducible refine qby (N := 2) rfl ?_); (try (refine qcb (by rfl) ?_; dsimp only)); refine qbx ?hg (N := 2) ?hd (cs := #[.int .i64 a0_0, .int .i64 a0_1, .string a0_2, .slice A0_3 l0_3.length c0_3]) (t := 27) ?hr ?_; (case hd => rfl); (case hg => rfl); (case hr => first | (go_simp; done) | (go_simp; rfl)); intro gb148 hg w5 hbox hb; have n0_ := qd.mk (qba (by repeat (first | (with_reducible first | exact HB.out | apply qg | apply qc | apply qh) | exact HB.out)) hb); have n1_ := qd.mk (hbox); have n2_ := qd.mk ((by rw [hg]; exact (qbc (by repeat (first | (with_reducible first | exact HB.out | apply qg | apply qc | apply qh) | exact HB.out))) : w.heap.size ≤ gb148)); have n3_ := qd.mk ((by rw [hg]; exact (qbc (by repeat (first | (with_reducible first | exact HB.out | apply qg | apply qc | apply qh) | exact HB.out))) : w.heap.size ≤ gb148)); clear HB; have HB := n0_; have BK148 := n1_; have GW148 := n2_; have GE148 := n3_; clear n0_ n1_ n2_ n3_; clear hb hbox hg) | (go_at_call 93; (with_reducible refine (qdi.calls  t149 _ A3.out).mono ?_); rintro e w6 ⟨v150, rfl, ho0, hb⟩; have n0_ := qd.mk (Kd.qd6 ho0 (qbc (by repeat (first | (with_reducible first | exact HB.out | apply qg | apply qc | apply qh | refine ql ?_ GE148.out) | exact HB.out)))); have n1_ := qd.mk (qbb (g := gb148) (o := .cells #[.int .i64 a0_0, .int .i64 a0_1, .string a0_2, .slice A0_3 l0_3.length c0_3] 27 (0, 0)) (by (with_reducible repeat (first | refine qj ?_ _ | refine qm ?_ | refine qi ?_ _)); exact BK148.out) hb); have n2_ := qd.mk (qba (by repeat (first | (with_reducible first | exact HB.out | apply qg | apply qc | apply qh | refine ql ?_ GE148.out) | exact HB.out)) hb); clear BK148; clear HB; have HO151 := n0_; have BK148 := n1_; have HB := n2_; clear n0_ n1_ n2_; (try clear hb); (try clear hb2); (try clear hk); (try clear hi); (try clear ho0))); go_upto_region 2 with (first | ((with_reducible refine qby (N := 2) rfl ?_); (try (refine qcb (by rfl) ?_; dsimp only)); refine qbx ?hg (N := 2) ?hd (cs := #[.int .i64 a0_0, .int .i64 a0_1, .string a0_2, .slice A0_3 l0_3.length c0_3]) (t := 27) ?hr ?_; (case hd => rfl); (case hg => rfl); (case hr => first | (go_simp; done) | (go_simp; rfl)); intro gb148 hg w5 hbox hb; have n0_ := qd.mk (qba (by repeat (first | (with_reducible first | exact HB.out | apply qg | apply qc | apply qh) | exact HB.out)) hb); have n1_ := qd.mk (hbox); have n2_ := qd.mk ((by rw [hg]; exact (qbc (by repeat (first | (with_reducible first | exact HB.out | apply qg | apply qc | apply qh) | exact HB.out))) : w.heap.size ≤ gb148)); have n3_ := qd.mk ((by rw [hg]; exact (qbc (by repeat (first | (with_reducible first | exact HB.out | apply qg | apply qc | apply qh) | exact HB.out))) : w.heap.size ≤ gb148)); clear HB; have HB := n0_; have BK148 := n1_; have GW148 := n2_; have GE148 := n3_; clear n0_ n1_ n2_ n3_; clear hb hbox hg) | (go_at_call 93; (with_reducible refine (qdi.calls  t149 _ A3.out).mono ?_); rintro e w6 ⟨v150, rfl, ho0, hb⟩; have n0_ := qd.mk (Kd.qd6 ho0 (qbc (by repeat (first | (with_reducible first | exact HB.out | apply qg | apply qc | apply qh | refine ql ?_ GE148.out) | exact HB.out)))); have n1_ := qd.mk (qbb (g := gb148) (o := .cells #[.int .i64 a0_0, .int .i64 a0_1, .string a0_2, .slice A0_3 l0_3.length c0_3] 27 (0, 0)) (by (with_reducible repeat (first | refine qj ?_ _ | refine qm ?_ | refine qi ?_ _)); exact BK148.out) hb); have n2_ := qd.mk (qba (by repeat (first | (with_reducible first | exact HB.out | apply qg | apply qc | apply qh | refine ql ?_ GE148.out) | exact HB.out)) hb); clear BK148; clear HB; have HO151 := n0_; have BK148 := n1_; have HB := n2_; clear n0_ n1_ n2_; (try clear hb); (try clear hb2); (try clear hk); (try clear hi); (try clear ho0))))
 (try simp only [Act.put, List.setIfInBounds_toArray, List.set_cons_zero, List.set_cons_succ])
 go_cut [35] (fun v35 wc => ∃ (kq : Nat) (x35_3 : Bool), v35 = .bool x35_3 ∧ qd (qy.j0 kq a1 x35_3 a0_0 a0_1 a0_2 l0_3 = some r) ∧ qd (kq ≤ k) ∧ qd (wc.heap[gb148]? = some (.cells #[.int .i64 a0_0, .int .i64 a0_1, .string a0_2, (.slice A0_3 l0_3.length c0_3)] 27 (0, 0))) ∧ qd (Below w.heap.size w wc))
 case first =>
  have H := HC4.out
  clear HC4
  by_cases c7 : a1 = 0
  ·rw [if_pos c7] at H
   have c7b0 : (a1 == 0) = true := beq_iff_eq.mpr c7
   have c7b1 : (a1 != 0) = false := bne_eq_false_iff_eq.mpr c7
   clear c7
   (first | rw [c7b0] | (simp only [i64_w, i32_w]; rw [c7b0]) | skip)
   have H' := qd.mk H
   clear H
   go_wp2
   repeat (go_quiet (fail); try go_wp2)
   go_meet
   case rel => exact ⟨_, (true), (by first | rfl | (simp; done) | (simp [*]; done)), H', ⟨by first | omega | exact Nat.le_refl _⟩, ⟨by (with_reducible repeat (first | refine qj ?_ _ | refine qm ?_ | refine qi ?_ _)); exact BK148.out⟩, ⟨by repeat (first | (with_reducible first | exact HB.out | apply qg | apply qc | apply qh | refine ql ?_ GE148.out) | exact HB.out)⟩⟩
  ·rw [if_neg c7] at H
   have c7b0 : (a1 == 0) = false := beq_eq_false_iff_ne.mpr c7
   have c7b1 : (a1 != 0) = true := bne_iff_ne.mpr c7
   (first | rw [c7b0] | (simp only [i64_w, i32_w]; rw [c7b0]) | skip)
   by_cases c8 : a0_0 < 0
   ·rw [if_pos c8] at H
    have c8b0 : decide (a0_0 < 0) = true := decide_eq_true c8
    clear c8
    have H' := qd.mk H
    clear H
    have hcz9_0 : w6.cell? ⟨gb148, 0, none⟩ = some (.int .i64 a0_0) := (qb BK148.out 0).trans rfl
    have hcz9_1 : w6.cell? ⟨gb148, 1, none⟩ = some (.int .i64 a0_1) := (qb BK148.out 1).trans rfl
    have hcz9_2 : w6.cell? ⟨gb148, 2, none⟩ = some (.string a0_2) := (qb BK148.out 2).trans rfl
    have hcz9_3 : w6.cell? ⟨gb148, 3, none⟩ = some (.slice A0_3 l0_3.length c0_3) := (qb BK148.out 3).trans rfl
    have hfz9_0 := qa BK148.out 0
    have hfz9_1 := qa BK148.out 1
    have hfz9_2 := qa BK148.out 2
    have hfz9_3 := qa BK148.out 3
    go_wp2
    repeat (go_quiet (fail); try go_wp2)
    go_meet
    case rel => exact ⟨_, (true), (by first | rfl | (simp; done) | (simp [*]; done)), H', ⟨by first | omega | exact Nat.le_refl _⟩, ⟨by (with_reducible repeat (first | refine qj ?_ _ | refine qm ?_ | refine qi ?_ _)); exact BK148.out⟩, ⟨by repeat (first | (with_reducible first | exact HB.out | apply qg | apply qc | apply qh | refine ql ?_ GE148.out) | exact HB.out)⟩⟩
   ·rw [if_neg c8] at H
    have c8b0 : decide (a0_0 < 0) = false := decide_eq_false c8
    clear c8
    by_cases c10 : a0_0 ≥ (t149.length : Int)
    ·rw [if_pos c10] at H
     have c10b0 : decide ((t149.length : Int) ≤ a0_0) = true := decide_eq_true c10
     clear c10
     have H' := qd.mk H
     clear H
     have hcz11_0 : w6.cell? ⟨gb148, 0, none⟩ = some (.int .i64 a0_0) := (qb BK148.out 0).trans rfl
     have hcz11_1 : w6.cell? ⟨gb148, 1, none⟩ = some (.int .i64 a0_1) := (qb BK148.out 1).trans rfl
     have hcz11_2 : w6.cell? ⟨gb148, 2, none⟩ = some (.string a0_2) := (qb BK148.out 2).trans rfl
     have hcz11_3 : w6.cell? ⟨gb148, 3, none⟩ = some (.slice A0_3 l0_3.length c0_3) := (qb BK148.out 3).trans rfl
     have hfz11_0 := qa BK148.out 0
     have hfz11_1 := qa BK148.out 1
     have hfz11_2 := qa BK148.out 2
     have hfz11_3 := qa BK148.out 3
     obtain ⟨Ao12, co12, eo12⟩ := Kd.qde HO151.out
     subst eo12
     go_wp2
     repeat (go_quiet (fail); try go_wp2)
     go_meet
     case rel => exact ⟨_, (true), (by first | rfl | (simp; done) | (simp [*]; done)), H', ⟨by first | omega | exact Nat.le_refl _⟩, ⟨by (with_reducible repeat (first | refine qj ?_ _ | refine qm ?_ | refine qi ?_ _)); exact BK148.out⟩, ⟨by repeat (first | (with_reducible first | exact HB.out | apply qg | apply qc | apply qh | refine ql ?_ GE148.out) | exact HB.out)⟩⟩
    ·rw [if_neg c10] at H
     have c10b0 : decide ((t149.length : Int) ≤ a0_0) = false := decide_eq_false c10
     clear c10
     by_cases c13 : 0 ≤ a0_0
     ·rw [if_pos c13] at H
      have c13b0 : decide (0 ≤ a0_0) = true := decide_eq_true c13
      clear c13
      by_cases c14 : a0_0 < (t149.length : Int)
      ·rw [if_pos c14] at H
       have c14b0 : decide (a0_0 < (t149.length : Int)) = true := decide_eq_true c14
       clear c14
       have H' := qd.mk H
       clear H
       have hcz15_0 : w6.cell? ⟨gb148, 0, none⟩ = some (.int .i64 a0_0) := (qb BK148.out 0).trans rfl
       have hcz15_1 : w6.cell? ⟨gb148, 1, none⟩ = some (.int .i64 a0_1) := (qb BK148.out 1).trans rfl
       have hcz15_2 : w6.cell? ⟨gb148, 2, none⟩ = some (.string a0_2) := (qb BK148.out 2).trans rfl
       have hcz15_3 : w6.cell? ⟨gb148, 3, none⟩ = some (.slice A0_3 l0_3.length c0_3) := (qb BK148.out 3).trans rfl
       have hfz15_0 := qa BK148.out 0
       have hfz15_1 := qa BK148.out 1
       have hfz15_2 := qa BK148.out 2
       have hfz15_3 := qa BK148.out 3
       obtain ⟨Ao16, co16, eo16⟩ := Kd.qde HO151.out
       subst eo16
       have p152 : 0 ≤ (a0_0 : Int) := of_decide_eq_true (by first | (with_reducible assumption) | assumption)
       have q152 : a0_0 < (t149.length : Int) := of_decide_eq_true (by first | (with_reducible assumption) | assumption)
       obtain ⟨ad152, e152, hx152_0, hx152_1⟩ := at_T145 (Kd.qef HO151.out).2.2 a0_0 p152 q152
       cases e152
       replace p152 := eq_true p152
       replace q152 := eq_true q152
       go_wp2
       repeat (go_quiet (fail); try go_wp2)
       go_meet
       case rel => exact ⟨_, (((l0_3.length : Int) != ((qe1 t149 a0_0).f0))), (by first | rfl | (simp; done) | (simp [*]; done)), H', ⟨by first | omega | exact Nat.le_refl _⟩, ⟨by (with_reducible repeat (first | refine qj ?_ _ | refine qm ?_ | refine qi ?_ _)); exact BK148.out⟩, ⟨by repeat (first | (with_reducible first | exact HB.out | apply qg | apply qc | apply qh | refine ql ?_ GE148.out) | exact HB.out)⟩⟩
      ·rw [if_neg c14] at H
       exact absurd H (by simp)
     ·rw [if_neg c13] at H
      exact absurd H (by simp)
 case rest =>
  clear HC4
  (try clear c1); (try clear p1); (try clear q1); (try clear hx1); (try clear p2); (try clear c7); (try clear c7b0); (try clear c7b1); (try clear c8); (try clear c8b0); (try clear c10); (try clear c10b0); (try clear c13); (try clear c13b0); (try clear c14); (try clear c14b0); (try clear p15); (try clear q15); (try clear hx15); (try clear hcz11_0 hcz11_1 hcz11_2 hcz11_3); (try clear hcz15_0 hcz15_1 hcz15_2 hcz15_3); (try clear hcz9_0 hcz9_1 hcz9_2 hcz9_3); (try clear hfz11_0 hfz11_1 hfz11_2 hfz11_3); (try clear hfz15_0 hfz15_1 hfz15_2 hfz15_3); (try clear hfz9_0 hfz9_1 hfz9_2 hfz9_3); (try clear hx152_0); (try clear hx152_1); (try clear p152); (try clear q152)
  obtain ⟨kq, x35_3, rfl, HA, HJ3, BK148, HB⟩ := hcut
  cases kq with
  | zero => exact absurd HA.out (by simp [qy.j0])
  | succ kj3 =>
   have H := HA.out
   clear HA
   simp only [qy.j0] at H
   by_cases c17 : x35_3 = true
   ·subst c17
    have H1 : (some false) = some r := by rw [if_pos rfl] at H; exact H
    clear H
    have H := H1
    clear H1
    obtain rfl := Option.some.inj H
    go_wp2
    repeat (go_quiet (fail); try go_wp2)
    go_ret
    exact ⟨by first | rfl | (simp [q9, qz] <;> rfl) | (simp [*, q9, qz] <;> rfl), by repeat (first | (with_reducible first | exact HB.out | apply qg | apply qc | apply qh | refine ql ?_ GE148.out) | exact HB.out)⟩
   ·replace c17 := Bool.eq_false_iff.mpr c17
    subst c17
    have H1 : (if a0_0 = 0 then (qy.j2 kj3 a1 a0_0 a0_1 a0_2 l0_3 0 (mx a0_1 (-9223372036854775807)) (⟨#[]⟩ : ByteArray)) else (if a0_0 = 1 then (qy.j2 kj3 a1 a0_0 a0_1 a0_2 l0_3 0 (Go.bits .and .i64 a0_1 1) (⟨#[]⟩ : ByteArray)) else (if a0_0 = 2 then (qy.j1 kj3 a1 (a0_0 == 2) a0_0 a0_1 a0_2 l0_3 0 0 (⟨#[]⟩ : ByteArray)) else (qy.j1 kj3 a1 (a0_0 == 3) a0_0 a0_1 a0_2 l0_3 0 0 (⟨#[]⟩ : ByteArray))))) = some r := by rw [if_neg (show ¬ (false = true) by decide)] at H; exact H
    clear H
    have H := H1
    clear H1
    have HC18 := qd.mk H
    clear H
    go_upto_block 0 with (first | ((with_reducible refine qby (N := 6) rfl ?_); (try (refine qcb (by rfl) ?_; dsimp only)); refine qbx ?hg (N := 6) ?hd (cs := #[.int .i64 0, .int .i64 0, .string (⟨#[]⟩ : ByteArray), .slice none 0 0]) (t := 27) ?hr ?_; (case hd => rfl); (case hg => rfl); (case hr => first | (go_simp; done) | (go_simp; rfl)); intro gb153 hg w19 hbox hb; have n0_ := qd.mk (qbb (g := gb148) (o := .cells #[.int .i64 a0_0, .int .i64 a0_1, .string a0_2, .slice A0_3 l0_3.length c0_3] 27 (0, 0)) (by (with_reducible repeat (first | refine qj ?_ _ | refine qm ?_ | refine qi ?_ _)); exact BK148.out) hb); have n1_ := qd.mk (qba (by repeat (first | (with_reducible first | exact HB.out | apply qg | apply qc | apply qh | refine ql ?_ GE148.out) | exact HB.out)) hb); have n2_ := qd.mk (hbox); have n3_ := qd.mk ((by rw [hg]; exact (qbc (by repeat (first | (with_reducible first | exact HB.out | apply qg | apply qc | apply qh | refine ql ?_ GE148.out) | exact HB.out))) : w.heap.size ≤ gb153)); have n4_ := qd.mk ((by rw [hg]; exact (qbc (by repeat (first | (with_reducible first | exact HB.out | apply qg | apply qc | apply qh | refine ql ?_ GE148.out) | exact HB.out))) : w.heap.size ≤ gb153)); have n5_ := qd.mk ((by rw [hg]; exact Nat.ne_of_lt (qb0 (g := gb148) (o := .cells #[.int .i64 a0_0, .int .i64 a0_1, .string a0_2, .slice A0_3 l0_3.length c0_3] 27 (0, 0)) (by (with_reducible repeat (first | refine qj ?_ _ | refine qm ?_ | refine qi ?_ _)); exact BK148.out)) : gb148 ≠ gb153)); have n6_ := qd.mk ((by rw [hg]; exact Nat.ne_of_gt (qb0 (g := gb148) (o := .cells #[.int .i64 a0_0, .int .i64 a0_1, .string a0_2, .slice A0_3 l0_3.length c0_3] 27 (0, 0)) (by (with_reducible repeat (first | refine qj ?_ _ | refine qm ?_ | refine qi ?_ _)); exact BK148.out)) : gb153 ≠ gb148)); clear BK148; clear HB; have BK148 := n0_; have HB := n1_; have BK153 := n2_; have GW153 := n3_; have GE153 := n4_; have NB148_153 := n5_; have NB153_148 := n6_; clear n0_ n1_ n2_ n3_ n4_ n5_ n6_; clear hb hbox hg; have hnb20 := NB153_148.out; have hnc20 := NB148_153.out; have hcz21_0 : w19.cell? ⟨gb153, 0, none⟩ = some (.int .i64 0) := (qb BK153.out 0).trans rfl; have hcz21_1 : w19.cell? ⟨gb153, 1, none⟩ = some (.int .i64 0) := (qb BK153.out 1).trans rfl; have hcz21_2 : w19.cell? ⟨gb153, 2, none⟩ = some (.string (⟨#[]⟩ : ByteArray)) := (qb BK153.out 2).trans rfl; have hcz21_3 : w19.cell? ⟨gb153, 3, none⟩ = some (.slice none 0 0) := (qb BK153.out 3).trans rfl; have hfz21_0 := qa BK153.out 0; have hfz21_1 := qa BK153.out 1; have hfz21_2 := qa BK153.out 2; have hfz21_3 := qa BK153.out 3; have hcz22_0 : w19.cell? ⟨gb148, 0, none⟩ = some (.int .i64 a0_0) := (qb BK148.out 0).trans rfl; have hcz22_1 : w19.cell? ⟨gb148, 1, none⟩ = some (.int .i64 a0_1) := (qb BK148.out 1).trans rfl; have hcz22_2 : w19.cell? ⟨gb148, 2, none⟩ = some (.string a0_2) := (qb BK148.out 2).trans rfl; have hcz22_3 : w19.cell? ⟨gb148, 3, none⟩ = some (.slice A0_3 l0_3.length c0_3) := (qb BK148.out 3).trans rfl; have hfz22_0 := qa BK148.out 0; have hfz22_1 := qa BK148.out 1; have hfz22_2 := qa BK148.out 2; have hfz22_3 := qa BK148.out 3))
    repeat (go_quiet (first | ((with_reducible refine qby (N := 6) rfl ?_); (try (refine qcb (by rfl) ?_; dsimp only)); refine qbx ?hg (N := 6) ?hd (cs := #[.int .i64 0, .int .i64 0, .string (⟨#[]⟩ : ByteArray), .slice none 0 0]) (t := 27) ?hr ?_; (case hd => rfl); (case hg => rfl); (case hr => first | (go_simp; done) | (go_simp; rfl)); intro gb153 hg w19 hbox hb; have n0_ := qd.mk (qbb (g := gb148) (o := .cells #[.int .i64 a0_0, .int .i64 a0_1, .string a0_2, .slice A0_3 l0_3.length c0_3] 27 (0, 0)) (by (with_reducible repeat (first | refine qj ?_ _ | refine qm ?_ | refine qi ?_ _)); exact BK148.out) hb); have n1_ := qd.mk (qba (by repeat (first | (with_reducible first | exact HB.out | apply qg | apply qc | apply qh | refine ql ?_ GE148.out) | exact HB.out)) hb); have n2_ := qd.mk (hbox); have n3_ := qd.mk ((by rw [hg]; exact (qbc (by repeat (first | (with_reducible first | exact HB.out | apply qg | apply qc | apply qh | refine ql ?_ GE148.out) | exact HB.out))) : w.heap.size ≤ gb153)); have n4_ := qd.mk ((by rw [hg]; exact (qbc (by repeat (first | (with_reducible first | exact HB.out | apply qg | apply qc | apply qh | refine ql ?_ GE148.out) | exact HB.out))) : w.heap.size ≤ gb153)); have n5_ := qd.mk ((by rw [hg]; exact Nat.ne_of_lt (qb0 (g := gb148) (o := .cells #[.int .i64 a0_0, .int .i64 a0_1, .string a0_2, .slice A0_3 l0_3.length c0_3] 27 (0, 0)) (by (with_reducible repeat (first | refine qj ?_ _ | refine qm ?_ | refine qi ?_ _)); exact BK148.out)) : gb148 ≠ gb153)); have n6_ := qd.mk ((by rw [hg]; exact Nat.ne_of_gt (qb0 (g := gb148) (o := .cells #[.int .i64 a0_0, .int .i64 a0_1, .string a0_2, .slice A0_3 l0_3.length c0_3] 27 (0, 0)) (by (with_reducible repeat (first | refine qj ?_ _ | refine qm ?_ | refine qi ?_ _)); exact BK148.out)) : gb153 ≠ gb148)); clear BK148; clear HB; have BK148 := n0_; have HB := n1_; have BK153 := n2_; have GW153 := n3_; have GE153 := n4_; have NB148_153 := n5_; have NB153_148 := n6_; clear n0_ n1_ n2_ n3_ n4_ n5_ n6_; clear hb hbox hg; have hnb20 := NB153_148.out; have hnc20 := NB148_153.out; have hcz21_0 : w19.cell? ⟨gb153, 0, none⟩ = some (.int .i64 0) := (qb BK153.out 0).trans rfl; have hcz21_1 : w19.cell? ⟨gb153, 1, none⟩ = some (.int .i64 0) := (qb BK153.out 1).trans rfl; have hcz21_2 : w19.cell? ⟨gb153, 2, none⟩ = some (.string (⟨#[]⟩ : ByteArray)) := (qb BK153.out 2).trans rfl; have hcz21_3 : w19.cell? ⟨gb153, 3, none⟩ = some (.slice none 0 0) := (qb BK153.out 3).trans rfl; have hfz21_0 := qa BK153.out 0; have hfz21_1 := qa BK153.out 1; have hfz21_2 := qa BK153.out 2; have hfz21_3 := qa BK153.out 3; have hcz22_0 : w19.cell? ⟨gb148, 0, none⟩ = some (.int .i64 a0_0) := (qb BK148.out 0).trans rfl; have hcz22_1 : w19.cell? ⟨gb148, 1, none⟩ = some (.int .i64 a0_1) := (qb BK148.out 1).trans rfl; have hcz22_2 : w19.cell? ⟨gb148, 2, none⟩ = some (.string a0_2) := (qb BK148.out 2).trans rfl; have hcz22_3 : w19.cell? ⟨gb148, 3, none⟩ = some (.slice A0_3 l0_3.length c0_3) := (qb BK148.out 3).trans rfl; have hfz22_0 := qa BK148.out 0; have hfz22_1 := qa BK148.out 1; have hfz22_2 := qa BK148.out 2; have hfz22_3 := qa BK148.out 3)); go_upto_block 0 with (first | ((with_reducible refine qby (N := 6) rfl ?_); (try (refine qcb (by rfl) ?_; dsimp only)); refine qbx ?hg (N := 6) ?hd (cs := #[.int .i64 0, .int .i64 0, .string (⟨#[]⟩ : ByteArray), .slice none 0 0]) (t := 27) ?hr ?_; (case hd => rfl); (case hg => rfl); (case hr => first | (go_simp; done) | (go_simp; rfl)); intro gb153 hg w19 hbox hb; have n0_ := qd.mk (qbb (g := gb148) (o := .cells #[.int .i64 a0_0, .int .i64 a0_1, .string a0_2, .slice A0_3 l0_3.length c0_3] 27 (0, 0)) (by (with_reducible repeat (first | refine qj ?_ _ | refine qm ?_ | refine qi ?_ _)); exact BK148.out) hb); have n1_ := qd.mk (qba (by repeat (first | (with_reducible first | exact HB.out | apply qg | apply qc | apply qh | refine ql ?_ GE148.out) | exact HB.out)) hb); have n2_ := qd.mk (hbox); have n3_ := qd.mk ((by rw [hg]; exact (qbc (by repeat (first | (with_reducible first | exact HB.out | apply qg | apply qc | apply qh | refine ql ?_ GE148.out) | exact HB.out))) : w.heap.size ≤ gb153)); have n4_ := qd.mk ((by rw [hg]; exact (qbc (by repeat (first | (with_reducible first | exact HB.out | apply qg | apply qc | apply qh | refine ql ?_ GE148.out) | exact HB.out))) : w.heap.size ≤ gb153)); have n5_ := qd.mk ((by rw [hg]; exact Nat.ne_of_lt (qb0 (g := gb148) (o := .cells #[.int .i64 a0_0, .int .i64 a0_1, .string a0_2, .slice A0_3 l0_3.length c0_3] 27 (0, 0)) (by (with_reducible repeat (first | refine qj ?_ _ | refine qm ?_ | refine qi ?_ _)); exact BK148.out)) : gb148 ≠ gb153)); have n6_ := qd.mk ((by rw [hg]; exact Nat.ne_of_gt (qb0 (g := gb148) (o := .cells #[.int .i64 a0_0, .int .i64 a0_1, .string a0_2, .slice A0_3 l0_3.length c0_3] 27 (0, 0)) (by (with_reducible repeat (first | refine qj ?_ _ | refine qm ?_ | refine qi ?_ _)); exact BK148.out)) : gb153 ≠ gb148)); clear BK148; clear HB; have BK148 := n0_; have HB := n1_; have BK153 := n2_; have GW153 := n3_; have GE153 := n4_; have NB148_153 := n5_; have NB153_148 := n6_; clear n0_ n1_ n2_ n3_ n4_ n5_ n6_; clear hb hbox hg; have hnb20 := NB153_148.out; have hnc20 := NB148_153.out; have hcz21_0 : w19.cell? ⟨gb153, 0, none⟩ = some (.int .i64 0) := (qb BK153.out 0).trans rfl; have hcz21_1 : w19.cell? ⟨gb153, 1, none⟩ = some (.int .i64 0) := (qb BK153.out 1).trans rfl; have hcz21_2 : w19.cell? ⟨gb153, 2, none⟩ = some (.string (⟨#[]⟩ : ByteArray)) := (qb BK153.out 2).trans rfl; have hcz21_3 : w19.cell? ⟨gb153, 3, none⟩ = some (.slice none 0 0) := (qb BK153.out 3).trans rfl; have hfz21_0 := qa BK153.out 0; have hfz21_1 := qa BK153.out 1; have hfz21_2 := qa BK153.out 2; have hfz21_3 := qa BK153.out 3; have hcz22_0 : w19.cell? ⟨gb148, 0, none⟩ = some (.int .i64 a0_0) := (qb BK148.out 0).trans rfl; have hcz22_1 : w19.cell? ⟨gb148, 1, none⟩ = some (.int .i64 a0_1) := (qb BK148.out 1).trans rfl; have hcz22_2 : w19.cell? ⟨gb148, 2, none⟩ = some (.string a0_2) := (qb BK148.out 2).trans rfl; have hcz22_3 : w19.cell? ⟨gb148, 3, none⟩ = some (.slice A0_3 l0_3.length c0_3) := (qb BK148.out 3).trans rfl; have hfz22_0 := qa BK148.out 0; have hfz22_1 := qa BK148.out 1; have hfz22_2 := qa BK148.out 2; have hfz22_3 := qa BK148.out 3)))
    (try simp only [Act.put, List.setIfInBounds_toArray, List.set_cons_zero, List.set_cons_succ])
    go_cut [] (fun wc => ∃ (kq : Nat) (x154001_17 : Int) (x154002_17 : ByteArray), qd (qy.j2 kq a1 a0_0 a0_1 a0_2 l0_3 0 x154001_17 x154002_17 = some r) ∧ qd (kq ≤ kj3) ∧ qd (wc.heap[gb148]? = some (.cells #[.int .i64 a0_0, .int .i64 a0_1, .string a0_2, (.slice A0_3 l0_3.length c0_3)] 27 (0, 0))) ∧ qd (wc.heap[gb153]? = some (.cells #[.int .i64 0, .int .i64 x154001_17, .string x154002_17, (.slice none 0 0)] 27 (0, 0))) ∧ qd (Below w.heap.size w wc))
    case first =>
     have H := HC18.out
     clear HC18
     by_cases c23 : a0_0 = 0
     ·rw [if_pos c23] at H
      have c23b0 : (a0_0 == 0) = true := beq_iff_eq.mpr c23
      have c23b1 : (a0_0 != 0) = false := bne_eq_false_iff_eq.mpr c23
      clear c23
      (first | rw [c23b0] | (simp only [i64_w, i32_w]; rw [c23b0]) | skip)
      obtain ⟨ji24, hji24⟩ : ∃ j_ : Int, (mx a0_1 (-9223372036854775807)) = j_ := ⟨_, rfl⟩
      replace H : (qy.j2 kj3 a1 a0_0 a0_1 a0_2 l0_3 0 ji24 (⟨#[]⟩ : ByteArray)) = some r := by first | (rw [hji24] at H; exact H) | (simp only [hji24] at H ⊢; exact H)
      have hji24_ : (if a0_1 < (-9223372036854775807) then (-9223372036854775807) else a0_1) = ji24 := hji24
      have H' := qd.mk H
      clear H
      have hnb25 := NB148_153.out
      have hnc25 := NB153_148.out
      have hcz26_0 : w19.cell? ⟨gb148, 0, none⟩ = some (.int .i64 a0_0) := (qb BK148.out 0).trans rfl
      have hcz26_1 : w19.cell? ⟨gb148, 1, none⟩ = some (.int .i64 a0_1) := (qb BK148.out 1).trans rfl
      have hcz26_2 : w19.cell? ⟨gb148, 2, none⟩ = some (.string a0_2) := (qb BK148.out 2).trans rfl
      have hcz26_3 : w19.cell? ⟨gb148, 3, none⟩ = some (.slice A0_3 l0_3.length c0_3) := (qb BK148.out 3).trans rfl
      have hfz26_0 := qa BK148.out 0
      have hfz26_1 := qa BK148.out 1
      have hfz26_2 := qa BK148.out 2
      have hfz26_3 := qa BK148.out 3
      have hcz27_0 : w19.cell? ⟨gb153, 0, none⟩ = some (.int .i64 0) := (qb BK153.out 0).trans rfl
      have hcz27_1 : w19.cell? ⟨gb153, 1, none⟩ = some (.int .i64 0) := (qb BK153.out 1).trans rfl
      have hcz27_2 : w19.cell? ⟨gb153, 2, none⟩ = some (.string (⟨#[]⟩ : ByteArray)) := (qb BK153.out 2).trans rfl
      have hcz27_3 : w19.cell? ⟨gb153, 3, none⟩ = some (.slice none 0 0) := (qb BK153.out 3).trans rfl
      have hfz27_0 := qa BK153.out 0
      have hfz27_1 := qa BK153.out 1
      have hfz27_2 := qa BK153.out 2
      have hfz27_3 := qa BK153.out 3
      go_wp2
      repeat (go_quiet (fail); try go_wp2)
      go_meet
      case rel => exact ⟨_, (ji24), ((⟨#[]⟩ : ByteArray)), H', ⟨by have := HJ3.out; first | omega | exact Nat.le_refl _⟩, ⟨by (with_reducible repeat (first | refine qj ?_ _ | refine qm ?_ | refine qi ?_ _)); refine qbn ?_ NB148_153.out _; (with_reducible repeat (first | refine qj ?_ _ | refine qm ?_ | refine qi ?_ _)); refine qbn ?_ NB148_153.out _; (with_reducible repeat (first | refine qj ?_ _ | refine qm ?_ | refine qi ?_ _)); refine qbn ?_ NB148_153.out _; (with_reducible repeat (first | refine qj ?_ _ | refine qm ?_ | refine qi ?_ _)); refine qbn ?_ NB148_153.out _; (with_reducible repeat (first | refine qj ?_ _ | refine qm ?_ | refine qi ?_ _)); refine qbn ?_ NB148_153.out _; (with_reducible repeat (first | refine qj ?_ _ | refine qm ?_ | refine qi ?_ _)); exact BK148.out⟩, ⟨by (with_reducible repeat (first | refine qj ?_ _ | refine qm ?_ | refine qi ?_ _)); refine qbp (cs := #[.int .i64 0, .int .i64 0, .string (⟨#[]⟩ : ByteArray), .slice none 0 0]) ?_ 1 _ rfl; (with_reducible repeat (first | refine qj ?_ _ | refine qm ?_ | refine qi ?_ _)); refine qbp (cs := #[.int .i64 0, .int .i64 0, .string (⟨#[]⟩ : ByteArray), .slice none 0 0]) ?_ 3 _ rfl; (with_reducible repeat (first | refine qj ?_ _ | refine qm ?_ | refine qi ?_ _)); refine qbp (cs := #[.int .i64 0, .int .i64 0, .string (⟨#[]⟩ : ByteArray), .slice none 0 0]) ?_ 2 _ rfl; (with_reducible repeat (first | refine qj ?_ _ | refine qm ?_ | refine qi ?_ _)); refine qbp (cs := #[.int .i64 0, .int .i64 0, .string (⟨#[]⟩ : ByteArray), .slice none 0 0]) ?_ 1 _ rfl; (with_reducible repeat (first | refine qj ?_ _ | refine qm ?_ | refine qi ?_ _)); refine qbp (cs := #[.int .i64 0, .int .i64 0, .string (⟨#[]⟩ : ByteArray), .slice none 0 0]) ?_ 0 _ rfl; (with_reducible repeat (first | refine qj ?_ _ | refine qm ?_ | refine qi ?_ _)); exact BK153.out⟩, ⟨by repeat (first | (with_reducible first | exact HB.out | apply qg | apply qc | apply qh | refine ql ?_ GE148.out | refine ql ?_ GE153.out) | exact HB.out)⟩⟩
     ·rw [if_neg c23] at H
      have c23b0 : (a0_0 == 0) = false := beq_eq_false_iff_ne.mpr c23
      have c23b1 : (a0_0 != 0) = true := bne_iff_ne.mpr c23
      (first | rw [c23b0] | (simp only [i64_w, i32_w]; rw [c23b0]) | skip)
      by_cases c28 : a0_0 = 1
      ·rw [if_pos c28] at H
       have c28b0 : (a0_0 == 1) = true := beq_iff_eq.mpr c28
       have c28b1 : (a0_0 != 1) = false := bne_eq_false_iff_eq.mpr c28
       clear c28
       have H' := qd.mk H
       clear H
       have hnb29 := NB148_153.out
       have hnc29 := NB153_148.out
       have hcz30_0 : w19.cell? ⟨gb148, 0, none⟩ = some (.int .i64 a0_0) := (qb BK148.out 0).trans rfl
       have hcz30_1 : w19.cell? ⟨gb148, 1, none⟩ = some (.int .i64 a0_1) := (qb BK148.out 1).trans rfl
       have hcz30_2 : w19.cell? ⟨gb148, 2, none⟩ = some (.string a0_2) := (qb BK148.out 2).trans rfl
       have hcz30_3 : w19.cell? ⟨gb148, 3, none⟩ = some (.slice A0_3 l0_3.length c0_3) := (qb BK148.out 3).trans rfl
       have hfz30_0 := qa BK148.out 0
       have hfz30_1 := qa BK148.out 1
       have hfz30_2 := qa BK148.out 2
       have hfz30_3 := qa BK148.out 3
       have hcz31_0 : w19.cell? ⟨gb153, 0, none⟩ = some (.int .i64 0) := (qb BK153.out 0).trans rfl
       have hcz31_1 : w19.cell? ⟨gb153, 1, none⟩ = some (.int .i64 0) := (qb BK153.out 1).trans rfl
       have hcz31_2 : w19.cell? ⟨gb153, 2, none⟩ = some (.string (⟨#[]⟩ : ByteArray)) := (qb BK153.out 2).trans rfl
       have hcz31_3 : w19.cell? ⟨gb153, 3, none⟩ = some (.slice none 0 0) := (qb BK153.out 3).trans rfl
       have hfz31_0 := qa BK153.out 0
       have hfz31_1 := qa BK153.out 1
       have hfz31_2 := qa BK153.out 2
       have hfz31_3 := qa BK153.out 3
       go_wp2
       repeat (go_quiet (fail); try go_wp2)
       go_meet
       case rel => exact ⟨_, (Go.bits .and .i64 a0_1 1), ((⟨#[]⟩ : ByteArray)), H', ⟨by have := HJ3.out; first | omega | exact Nat.le_refl _⟩, ⟨by (with_reducible repeat (first | refine qj ?_ _ | refine qm ?_ | refine qi ?_ _)); refine qbn ?_ NB148_153.out _; (with_reducible repeat (first | refine qj ?_ _ | refine qm ?_ | refine qi ?_ _)); refine qbn ?_ NB148_153.out _; (with_reducible repeat (first | refine qj ?_ _ | refine qm ?_ | refine qi ?_ _)); refine qbn ?_ NB148_153.out _; (with_reducible repeat (first | refine qj ?_ _ | refine qm ?_ | refine qi ?_ _)); refine qbn ?_ NB148_153.out _; (with_reducible repeat (first | refine qj ?_ _ | refine qm ?_ | refine qi ?_ _)); refine qbn ?_ NB148_153.out _; (with_reducible repeat (first | refine qj ?_ _ | refine qm ?_ | refine qi ?_ _)); exact BK148.out⟩, ⟨by (with_reducible repeat (first | refine qj ?_ _ | refine qm ?_ | refine qi ?_ _)); refine qbp (cs := #[.int .i64 0, .int .i64 0, .string (⟨#[]⟩ : ByteArray), .slice none 0 0]) ?_ 1 _ rfl; (with_reducible repeat (first | refine qj ?_ _ | refine qm ?_ | refine qi ?_ _)); refine qbp (cs := #[.int .i64 0, .int .i64 0, .string (⟨#[]⟩ : ByteArray), .slice none 0 0]) ?_ 3 _ rfl; (with_reducible repeat (first | refine qj ?_ _ | refine qm ?_ | refine qi ?_ _)); refine qbp (cs := #[.int .i64 0, .int .i64 0, .string (⟨#[]⟩ : ByteArray), .slice none 0 0]) ?_ 2 _ rfl; (with_reducible repeat (first | refine qj ?_ _ | refine qm ?_ | refine qi ?_ _)); refine qbp (cs := #[.int .i64 0, .int .i64 0, .string (⟨#[]⟩ : ByteArray), .slice none 0 0]) ?_ 1 _ rfl; (with_reducible repeat (first | refine qj ?_ _ | refine qm ?_ | refine qi ?_ _)); refine qbp (cs := #[.int .i64 0, .int .i64 0, .string (⟨#[]⟩ : ByteArray), .slice none 0 0]) ?_ 0 _ rfl; (with_reducible repeat (first | refine qj ?_ _ | refine qm ?_ | refine qi ?_ _)); exact BK153.out⟩, ⟨by repeat (first | (with_reducible first | exact HB.out | apply qg | apply qc | apply qh | refine ql ?_ GE148.out | refine ql ?_ GE153.out) | exact HB.out)⟩⟩
      ·rw [if_neg c28] at H
       have c28b0 : (a0_0 == 1) = false := beq_eq_false_iff_ne.mpr c28
       have c28b1 : (a0_0 != 1) = true := bne_iff_ne.mpr c28
       have HC32 := qd.mk H
       clear H
       go_upto_if 51 with (fail)
       repeat (go_quiet (fail); go_upto_if 51 with (fail))
       go_cut [51] (fun v51 wc => ∃ (kq : Nat) (x51_31 : Bool), v51 = .bool x51_31 ∧ qd (qy.j1 kq a1 x51_31 a0_0 a0_1 a0_2 l0_3 0 0 (⟨#[]⟩ : ByteArray) = some r) ∧ qd (kq ≤ kj3) ∧ qd (wc.heap[gb148]? = some (.cells #[.int .i64 a0_0, .int .i64 a0_1, .string a0_2, (.slice A0_3 l0_3.length c0_3)] 27 (0, 0))) ∧ qd (wc.heap[gb153]? = some (.cells #[.int .i64 0, .int .i64 0, .string (⟨#[]⟩ : ByteArray), (.slice none 0 0)] 27 (0, 0))) ∧ qd (Below w.heap.size w wc))
       case first =>
        have H := HC32.out
        clear HC32
        by_cases c33 : a0_0 = 2
        ·rw [if_pos c33] at H
         have c33b0 : (a0_0 == 2) = true := beq_iff_eq.mpr c33
         have c33b1 : (a0_0 != 2) = false := bne_eq_false_iff_eq.mpr c33
         clear c33
         (first | rw [c33b0] | (simp only [i64_w, i32_w]; rw [c33b0]) | skip)
         have H' := qd.mk H
         clear H
         go_wp2
         repeat (go_quiet (fail); try go_wp2)
         go_meet
         case rel => exact ⟨_, ((a0_0 == 2)), (by first | rfl | (simp; done) | (simp [*]; done)), H', ⟨by have := HJ3.out; first | omega | exact Nat.le_refl _⟩, ⟨by (with_reducible repeat (first | refine qj ?_ _ | refine qm ?_ | refine qi ?_ _)); refine qbn ?_ NB148_153.out _; (with_reducible repeat (first | refine qj ?_ _ | refine qm ?_ | refine qi ?_ _)); refine qbn ?_ NB148_153.out _; (with_reducible repeat (first | refine qj ?_ _ | refine qm ?_ | refine qi ?_ _)); refine qbn ?_ NB148_153.out _; (with_reducible repeat (first | refine qj ?_ _ | refine qm ?_ | refine qi ?_ _)); refine qbn ?_ NB148_153.out _; (with_reducible repeat (first | refine qj ?_ _ | refine qm ?_ | refine qi ?_ _)); exact BK148.out⟩, ⟨by (with_reducible repeat (first | refine qj ?_ _ | refine qm ?_ | refine qi ?_ _)); refine qbp (cs := #[.int .i64 0, .int .i64 0, .string (⟨#[]⟩ : ByteArray), .slice none 0 0]) ?_ 3 _ rfl; (with_reducible repeat (first | refine qj ?_ _ | refine qm ?_ | refine qi ?_ _)); refine qbp (cs := #[.int .i64 0, .int .i64 0, .string (⟨#[]⟩ : ByteArray), .slice none 0 0]) ?_ 2 _ rfl; (with_reducible repeat (first | refine qj ?_ _ | refine qm ?_ | refine qi ?_ _)); refine qbp (cs := #[.int .i64 0, .int .i64 0, .string (⟨#[]⟩ : ByteArray), .slice none 0 0]) ?_ 1 _ rfl; (with_reducible repeat (first | refine qj ?_ _ | refine qm ?_ | refine qi ?_ _)); refine qbp (cs := #[.int .i64 0, .int .i64 0, .string (⟨#[]⟩ : ByteArray), .slice none 0 0]) ?_ 0 _ rfl; (with_reducible repeat (first | refine qj ?_ _ | refine qm ?_ | refine qi ?_ _)); exact BK153.out⟩, ⟨by repeat (first | (with_reducible first | exact HB.out | apply qg | apply qc | apply qh | refine ql ?_ GE148.out | refine ql ?_ GE153.out) | exact HB.out)⟩⟩
        ·rw [if_neg c33] at H
         have c33b0 : (a0_0 == 2) = false := beq_eq_false_iff_ne.mpr c33
         have c33b1 : (a0_0 != 2) = true := bne_iff_ne.mpr c33
         (first | rw [c33b0] | (simp only [i64_w, i32_w]; rw [c33b0]) | skip)
         have H' := qd.mk H
         clear H
         go_wp2
         repeat (go_quiet (fail); try go_wp2)
         go_meet
         case rel => exact ⟨_, ((a0_0 == 3)), (by first | rfl | (simp; done) | (simp [*]; done)), H', ⟨by have := HJ3.out; first | omega | exact Nat.le_refl _⟩, ⟨by (with_reducible repeat (first | refine qj ?_ _ | refine qm ?_ | refine qi ?_ _)); refine qbn ?_ NB148_153.out _; (with_reducible repeat (first | refine qj ?_ _ | refine qm ?_ | refine qi ?_ _)); refine qbn ?_ NB148_153.out _; (with_reducible repeat (first | refine qj ?_ _ | refine qm ?_ | refine qi ?_ _)); refine qbn ?_ NB148_153.out _; (with_reducible repeat (first | refine qj ?_ _ | refine qm ?_ | refine qi ?_ _)); refine qbn ?_ NB148_153.out _; (with_reducible repeat (first | refine qj ?_ _ | refine qm ?_ | refine qi ?_ _)); exact BK148.out⟩, ⟨by (with_reducible repeat (first | refine qj ?_ _ | refine qm ?_ | refine qi ?_ _)); refine qbp (cs := #[.int .i64 0, .int .i64 0, .string (⟨#[]⟩ : ByteArray), .slice none 0 0]) ?_ 3 _ rfl; (with_reducible repeat (first | refine qj ?_ _ | refine qm ?_ | refine qi ?_ _)); refine qbp (cs := #[.int .i64 0, .int .i64 0, .string (⟨#[]⟩ : ByteArray), .slice none 0 0]) ?_ 2 _ rfl; (with_reducible repeat (first | refine qj ?_ _ | refine qm ?_ | refine qi ?_ _)); refine qbp (cs := #[.int .i64 0, .int .i64 0, .string (⟨#[]⟩ : ByteArray), .slice none 0 0]) ?_ 1 _ rfl; (with_reducible repeat (first | refine qj ?_ _ | refine qm ?_ | refine qi ?_ _)); refine qbp (cs := #[.int .i64 0, .int .i64 0, .string (⟨#[]⟩ : ByteArray), .slice none 0 0]) ?_ 0 _ rfl; (with_reducible repeat (first | refine qj ?_ _ | refine qm ?_ | refine qi ?_ _)); exact BK153.out⟩, ⟨by repeat (first | (with_reducible first | exact HB.out | apply qg | apply qc | apply qh | refine ql ?_ GE148.out | refine ql ?_ GE153.out) | exact HB.out)⟩⟩
       case rest =>
        clear HC32
        (try clear c1); (try clear p1); (try clear q1); (try clear hx1); (try clear c2); (try clear p2); (try clear c3); (try clear c7); (try clear c7b0); (try clear c7b1); (try clear c8); (try clear c8b0); (try clear c10); (try clear c10b0); (try clear c13); (try clear c13b0); (try clear c14); (try clear c14b0); (try clear p15); (try clear q15); (try clear hx15); (try clear c17); (try clear c20); (try clear c23); (try clear c23b0); (try clear c23b1); (try clear c25); (try clear c28); (try clear c28b0); (try clear c28b1); (try clear c29); (try clear c33); (try clear c33b0); (try clear c33b1); (try clear hcz11_0 hcz11_1 hcz11_2 hcz11_3); (try clear hcz15_0 hcz15_1 hcz15_2 hcz15_3); (try clear hcz21_0 hcz21_1 hcz21_2 hcz21_3); (try clear hcz22_0 hcz22_1 hcz22_2 hcz22_3); (try clear hcz26_0 hcz26_1 hcz26_2 hcz26_3); (try clear hcz27_0 hcz27_1 hcz27_2 hcz27_3); (try clear hcz30_0 hcz30_1 hcz30_2 hcz30_3); (try clear hcz31_0 hcz31_1 hcz31_2 hcz31_3); (try clear hcz9_0 hcz9_1 hcz9_2 hcz9_3); (try clear hfz11_0 hfz11_1 hfz11_2 hfz11_3); (try clear hfz15_0 hfz15_1 hfz15_2 hfz15_3); (try clear hfz21_0 hfz21_1 hfz21_2 hfz21_3); (try clear hfz22_0 hfz22_1 hfz22_2 hfz22_3); (try clear hfz26_0 hfz26_1 hfz26_2 hfz26_3); (try clear hfz27_0 hfz27_1 hfz27_2 hfz27_3); (try clear hfz30_0 hfz30_1 hfz30_2 hfz30_3); (try clear hfz31_0 hfz31_1 hfz31_2 hfz31_3); (try clear hfz9_0 hfz9_1 hfz9_2 hfz9_3); (try clear hx152_0); (try clear hx152_1); (try clear p1); (try clear p15); (try clear p152); (try clear p2); (try clear q1); (try clear q15); (try clear q152)
        obtain ⟨kq, x51_31, rfl, HA, HJ31, BK148, BK153, HB⟩ := hcut
        cases kq with
        | zero => exact absurd HA.out (by simp [qy.j1])
        | succ kj31 =>
         have H := HA.out
         clear HA
         simp only [qy.j1] at H
         by_cases c34 : x51_31 = true
         ·subst c34
          have H1 : ((qbz.f kj31 a0_2).bind fun t154 => (if t154 = true then (qy.j2 kj31 a1 a0_0 a0_1 a0_2 l0_3 0 0 a0_2) else (some false))) = some r := by rw [if_pos rfl] at H; exact H
          clear H
          have H := H1
          clear H1
          replace H := Option.bind_eq_some_iff.mp H
          obtain ⟨t154, A350, H⟩ := H
          replace H : (if t154 = true then (qy.j2 kj31 a1 a0_0 a0_1 a0_2 l0_3 0 0 a0_2) else (some false)) = some r := H
          have A35 := qd.mk A350
          clear A350
          by_cases c36 : t154 = true
          ·subst c36
           have H1 : (qy.j2 kj31 a1 a0_0 a0_1 a0_2 l0_3 0 0 a0_2) = some r := by rw [if_pos rfl] at H; exact H
           clear H
           have H := H1
           clear H1
           have H' := qd.mk H
           clear H
           have hnb37 := NB148_153.out
           have hnc37 := NB153_148.out
           have hcz38_0 : wc.cell? ⟨gb148, 0, none⟩ = some (.int .i64 a0_0) := (qb BK148.out 0).trans rfl
           have hcz38_1 : wc.cell? ⟨gb148, 1, none⟩ = some (.int .i64 a0_1) := (qb BK148.out 1).trans rfl
           have hcz38_2 : wc.cell? ⟨gb148, 2, none⟩ = some (.string a0_2) := (qb BK148.out 2).trans rfl
           have hcz38_3 : wc.cell? ⟨gb148, 3, none⟩ = some (.slice A0_3 l0_3.length c0_3) := (qb BK148.out 3).trans rfl
           have hfz38_0 := qa BK148.out 0
           have hfz38_1 := qa BK148.out 1
           have hfz38_2 := qa BK148.out 2
           have hfz38_3 := qa BK148.out 3
           go_wp2_with (first | (go_at_call 82; (with_reducible refine (qbz.calls kj31 a0_2 true _ ?side1 A35.out).mono ?_); (case side1 => exact Lay.below HLAY.out (by repeat (first | (with_reducible first | exact HB.out | apply qg | apply qc | apply qh | refine ql ?_ GE148.out | refine ql ?_ GE153.out) | exact HB.out))); rintro e w39 ⟨rfl, hb⟩; have n0_ := qd.mk (qbb (g := gb148) (o := .cells #[.int .i64 a0_0, .int .i64 a0_1, .string a0_2, .slice A0_3 l0_3.length c0_3] 27 (0, 0)) (by (with_reducible repeat (first | refine qj ?_ _ | refine qm ?_ | refine qi ?_ _)); exact BK148.out) hb); have n1_ := qd.mk (qbb (g := gb153) (o := .cells #[.int .i64 0, .int .i64 0, .string (⟨#[]⟩ : ByteArray), .slice none 0 0] 27 (0, 0)) (by (with_reducible repeat (first | refine qj ?_ _ | refine qm ?_ | refine qi ?_ _)); exact BK153.out) hb); have n2_ := qd.mk (qba (by repeat (first | (with_reducible first | exact HB.out | apply qg | apply qc | apply qh | refine ql ?_ GE148.out | refine ql ?_ GE153.out) | exact HB.out)) hb); clear BK148; clear BK153; clear HB; have BK148 := n0_; have BK153 := n1_; have HB := n2_; clear n0_ n1_ n2_; (try clear hb); (try clear hb2); (try clear hk); (try clear hi); have hcz40_0 : w39.cell? ⟨gb148, 0, none⟩ = some (.int .i64 a0_0) := (qb BK148.out 0).trans rfl; have hcz40_1 : w39.cell? ⟨gb148, 1, none⟩ = some (.int .i64 a0_1) := (qb BK148.out 1).trans rfl; have hcz40_2 : w39.cell? ⟨gb148, 2, none⟩ = some (.string a0_2) := (qb BK148.out 2).trans rfl; have hcz40_3 : w39.cell? ⟨gb148, 3, none⟩ = some (.slice A0_3 l0_3.length c0_3) := (qb BK148.out 3).trans rfl; have hfz40_0 := qa BK148.out 0; have hfz40_1 := qa BK148.out 1; have hfz40_2 := qa BK148.out 2; have hfz40_3 := qa BK148.out 3; have hcz41_0 : w39.cell? ⟨gb153, 0, none⟩ = some (.int .i64 0) := (qb BK153.out 0).trans rfl; have hcz41_1 : w39.cell? ⟨gb153, 1, none⟩ = some (.int .i64 0) := (qb BK153.out 1).trans rfl; have hcz41_2 : w39.cell? ⟨gb153, 2, none⟩ = some (.string (⟨#[]⟩ : ByteArray)) := (qb BK153.out 2).trans rfl; have hcz41_3 : w39.cell? ⟨gb153, 3, none⟩ = some (.slice none 0 0) := (qb BK153.out 3).trans rfl; have hfz41_0 := qa BK153.out 0; have hfz41_1 := qa BK153.out 1; have hfz41_2 := qa BK153.out 2; have hfz41_3 := qa BK153.out 3))
           repeat (go_quiet (first | (go_at_call 82; (with_reducible refine (qbz.calls kj31 a0_2 true _ ?side1 A35.out).mono ?_); (case side1 => exact Lay.below HLAY.out (by repeat (first | (with_reducible first | exact HB.out | apply qg | apply qc | apply qh | refine ql ?_ GE148.out | refine ql ?_ GE153.out) | exact HB.out))); rintro e w39 ⟨rfl, hb⟩; have n0_ := qd.mk (qbb (g := gb148) (o := .cells #[.int .i64 a0_0, .int .i64 a0_1, .string a0_2, .slice A0_3 l0_3.length c0_3] 27 (0, 0)) (by (with_reducible repeat (first | refine qj ?_ _ | refine qm ?_ | refine qi ?_ _)); exact BK148.out) hb); have n1_ := qd.mk (qbb (g := gb153) (o := .cells #[.int .i64 0, .int .i64 0, .string (⟨#[]⟩ : ByteArray), .slice none 0 0] 27 (0, 0)) (by (with_reducible repeat (first | refine qj ?_ _ | refine qm ?_ | refine qi ?_ _)); exact BK153.out) hb); have n2_ := qd.mk (qba (by repeat (first | (with_reducible first | exact HB.out | apply qg | apply qc | apply qh | refine ql ?_ GE148.out | refine ql ?_ GE153.out) | exact HB.out)) hb); clear BK148; clear BK153; clear HB; have BK148 := n0_; have BK153 := n1_; have HB := n2_; clear n0_ n1_ n2_; (try clear hb); (try clear hb2); (try clear hk); (try clear hi); have hcz40_0 : w39.cell? ⟨gb148, 0, none⟩ = some (.int .i64 a0_0) := (qb BK148.out 0).trans rfl; have hcz40_1 : w39.cell? ⟨gb148, 1, none⟩ = some (.int .i64 a0_1) := (qb BK148.out 1).trans rfl; have hcz40_2 : w39.cell? ⟨gb148, 2, none⟩ = some (.string a0_2) := (qb BK148.out 2).trans rfl; have hcz40_3 : w39.cell? ⟨gb148, 3, none⟩ = some (.slice A0_3 l0_3.length c0_3) := (qb BK148.out 3).trans rfl; have hfz40_0 := qa BK148.out 0; have hfz40_1 := qa BK148.out 1; have hfz40_2 := qa BK148.out 2; have hfz40_3 := qa BK148.out 3; have hcz41_0 : w39.cell? ⟨gb153, 0, none⟩ = some (.int .i64 0) := (qb BK153.out 0).trans rfl; have hcz41_1 : w39.cell? ⟨gb153, 1, none⟩ = some (.int .i64 0) := (qb BK153.out 1).trans rfl; have hcz41_2 : w39.cell? ⟨gb153, 2, none⟩ = some (.string (⟨#[]⟩ : ByteArray)) := (qb BK153.out 2).trans rfl; have hcz41_3 : w39.cell? ⟨gb153, 3, none⟩ = some (.slice none 0 0) := (qb BK153.out 3).trans rfl; have hfz41_0 := qa BK153.out 0; have hfz41_1 := qa BK153.out 1; have hfz41_2 := qa BK153.out 2; have hfz41_3 := qa BK153.out 3)); try go_wp2_with (first | (go_at_call 82; (with_reducible refine (qbz.calls kj31 a0_2 true _ ?side1 A35.out).mono ?_); (case side1 => exact Lay.below HLAY.out (by repeat (first | (with_reducible first | exact HB.out | apply qg | apply qc | apply qh | refine ql ?_ GE148.out | refine ql ?_ GE153.out) | exact HB.out))); rintro e w39 ⟨rfl, hb⟩; have n0_ := qd.mk (qbb (g := gb148) (o := .cells #[.int .i64 a0_0, .int .i64 a0_1, .string a0_2, .slice A0_3 l0_3.length c0_3] 27 (0, 0)) (by (with_reducible repeat (first | refine qj ?_ _ | refine qm ?_ | refine qi ?_ _)); exact BK148.out) hb); have n1_ := qd.mk (qbb (g := gb153) (o := .cells #[.int .i64 0, .int .i64 0, .string (⟨#[]⟩ : ByteArray), .slice none 0 0] 27 (0, 0)) (by (with_reducible repeat (first | refine qj ?_ _ | refine qm ?_ | refine qi ?_ _)); exact BK153.out) hb); have n2_ := qd.mk (qba (by repeat (first | (with_reducible first | exact HB.out | apply qg | apply qc | apply qh | refine ql ?_ GE148.out | refine ql ?_ GE153.out) | exact HB.out)) hb); clear BK148; clear BK153; clear HB; have BK148 := n0_; have BK153 := n1_; have HB := n2_; clear n0_ n1_ n2_; (try clear hb); (try clear hb2); (try clear hk); (try clear hi); have hcz40_0 : w39.cell? ⟨gb148, 0, none⟩ = some (.int .i64 a0_0) := (qb BK148.out 0).trans rfl; have hcz40_1 : w39.cell? ⟨gb148, 1, none⟩ = some (.int .i64 a0_1) := (qb BK148.out 1).trans rfl; have hcz40_2 : w39.cell? ⟨gb148, 2, none⟩ = some (.string a0_2) := (qb BK148.out 2).trans rfl; have hcz40_3 : w39.cell? ⟨gb148, 3, none⟩ = some (.slice A0_3 l0_3.length c0_3) := (qb BK148.out 3).trans rfl; have hfz40_0 := qa BK148.out 0; have hfz40_1 := qa BK148.out 1; have hfz40_2 := qa BK148.out 2; have hfz40_3 := qa BK148.out 3; have hcz41_0 : w39.cell? ⟨gb153, 0, none⟩ = some (.int .i64 0) := (qb BK153.out 0).trans rfl; have hcz41_1 : w39.cell? ⟨gb153, 1, none⟩ = some (.int .i64 0) := (qb BK153.out 1).trans rfl; have hcz41_2 : w39.cell? ⟨gb153, 2, none⟩ = some (.string (⟨#[]⟩ : ByteArray)) := (qb BK153.out 2).trans rfl; have hcz41_3 : w39.cell? ⟨gb153, 3, none⟩ = some (.slice none 0 0) := (qb BK153.out 3).trans rfl; have hfz41_0 := qa BK153.out 0; have hfz41_1 := qa BK153.out 1; have hfz41_2 := qa BK153.out 2; have hfz41_3 := qa BK153.out 3)))
           go_meet
           case rel => exact ⟨_, (0), (a0_2), H', ⟨by have := HJ3.out; have := HJ31.out; first | omega | exact Nat.le_refl _⟩, ⟨by (with_reducible repeat (first | refine qj ?_ _ | refine qm ?_ | refine qi ?_ _)); refine qbn ?_ NB148_153.out _; (with_reducible repeat (first | refine qj ?_ _ | refine qm ?_ | refine qi ?_ _)); exact BK148.out⟩, ⟨by (with_reducible repeat (first | refine qj ?_ _ | refine qm ?_ | refine qi ?_ _)); refine qbp (cs := #[.int .i64 0, .int .i64 0, .string (⟨#[]⟩ : ByteArray), .slice none 0 0]) ?_ 2 _ rfl; (with_reducible repeat (first | refine qj ?_ _ | refine qm ?_ | refine qi ?_ _)); exact BK153.out⟩, ⟨by repeat (first | (with_reducible first | exact HB.out | apply qg | apply qc | apply qh | refine ql ?_ GE148.out | refine ql ?_ GE153.out) | exact HB.out)⟩⟩
          ·replace c36 := Bool.eq_false_iff.mpr c36
           subst c36
           have H1 : (some false) = some r := by rw [if_neg (show ¬ (false = true) by decide)] at H; exact H
           clear H
           have H := H1
           clear H1
           obtain rfl := Option.some.inj H
           have hnb42 := NB148_153.out
           have hnc42 := NB153_148.out
           have hcz43_0 : wc.cell? ⟨gb148, 0, none⟩ = some (.int .i64 a0_0) := (qb BK148.out 0).trans rfl
           have hcz43_1 : wc.cell? ⟨gb148, 1, none⟩ = some (.int .i64 a0_1) := (qb BK148.out 1).trans rfl
           have hcz43_2 : wc.cell? ⟨gb148, 2, none⟩ = some (.string a0_2) := (qb BK148.out 2).trans rfl
           have hcz43_3 : wc.cell? ⟨gb148, 3, none⟩ = some (.slice A0_3 l0_3.length c0_3) := (qb BK148.out 3).trans rfl
           have hfz43_0 := qa BK148.out 0
           have hfz43_1 := qa BK148.out 1
           have hfz43_2 := qa BK148.out 2
           have hfz43_3 := qa BK148.out 3
           go_wp2_with (first | (go_at_call 82; (with_reducible refine (qbz.calls kj31 a0_2 false _ ?side1 A35.out).mono ?_); (case side1 => exact Lay.below HLAY.out (by repeat (first | (with_reducible first | exact HB.out | apply qg | apply qc | apply qh | refine ql ?_ GE148.out | refine ql ?_ GE153.out) | exact HB.out))); rintro e w44 ⟨rfl, hb⟩; have n0_ := qd.mk (qbb (g := gb148) (o := .cells #[.int .i64 a0_0, .int .i64 a0_1, .string a0_2, .slice A0_3 l0_3.length c0_3] 27 (0, 0)) (by (with_reducible repeat (first | refine qj ?_ _ | refine qm ?_ | refine qi ?_ _)); exact BK148.out) hb); have n1_ := qd.mk (qbb (g := gb153) (o := .cells #[.int .i64 0, .int .i64 0, .string (⟨#[]⟩ : ByteArray), .slice none 0 0] 27 (0, 0)) (by (with_reducible repeat (first | refine qj ?_ _ | refine qm ?_ | refine qi ?_ _)); exact BK153.out) hb); have n2_ := qd.mk (qba (by repeat (first | (with_reducible first | exact HB.out | apply qg | apply qc | apply qh | refine ql ?_ GE148.out | refine ql ?_ GE153.out) | exact HB.out)) hb); clear BK148; clear BK153; clear HB; have BK148 := n0_; have BK153 := n1_; have HB := n2_; clear n0_ n1_ n2_; (try clear hb); (try clear hb2); (try clear hk); (try clear hi)))
           repeat (go_quiet (first | (go_at_call 82; (with_reducible refine (qbz.calls kj31 a0_2 false _ ?side1 A35.out).mono ?_); (case side1 => exact Lay.below HLAY.out (by repeat (first | (with_reducible first | exact HB.out | apply qg | apply qc | apply qh | refine ql ?_ GE148.out | refine ql ?_ GE153.out) | exact HB.out))); rintro e w44 ⟨rfl, hb⟩; have n0_ := qd.mk (qbb (g := gb148) (o := .cells #[.int .i64 a0_0, .int .i64 a0_1, .string a0_2, .slice A0_3 l0_3.length c0_3] 27 (0, 0)) (by (with_reducible repeat (first | refine qj ?_ _ | refine qm ?_ | refine qi ?_ _)); exact BK148.out) hb); have n1_ := qd.mk (qbb (g := gb153) (o := .cells #[.int .i64 0, .int .i64 0, .string (⟨#[]⟩ : ByteArray), .slice none 0 0] 27 (0, 0)) (by (with_reducible repeat (first | refine qj ?_ _ | refine qm ?_ | refine qi ?_ _)); exact BK153.out) hb); have n2_ := qd.mk (qba (by repeat (first | (with_reducible first | exact HB.out | apply qg | apply qc | apply qh | refine ql ?_ GE148.out | refine ql ?_ GE153.out) | exact HB.out)) hb); clear BK148; clear BK153; clear HB; have BK148 := n0_; have BK153 := n1_; have HB := n2_; clear n0_ n1_ n2_; (try clear hb); (try clear hb2); (try clear hk); (try clear hi))); try go_wp2_with (first | (go_at_call 82; (with_reducible refine (qbz.calls kj31 a0_2 false _ ?side1 A35.out).mono ?_); (case side1 => exact Lay.below HLAY.out (by repeat (first | (with_reducible first | exact HB.out | apply qg | apply qc | apply qh | refine ql ?_ GE148.out | refine ql ?_ GE153.out) | exact HB.out))); rintro e w44 ⟨rfl, hb⟩; have n0_ := qd.mk (qbb (g := gb148) (o := .cells #[.int .i64 a0_0, .int .i64 a0_1, .string a0_2, .slice A0_3 l0_3.length c0_3] 27 (0, 0)) (by (with_reducible repeat (first | refine qj ?_ _ | refine qm ?_ | refine qi ?_ _)); exact BK148.out) hb); have n1_ := qd.mk (qbb (g := gb153) (o := .cells #[.int .i64 0, .int .i64 0, .string (⟨#[]⟩ : ByteArray), .slice none 0 0] 27 (0, 0)) (by (with_reducible repeat (first | refine qj ?_ _ | refine qm ?_ | refine qi ?_ _)); exact BK153.out) hb); have n2_ := qd.mk (qba (by repeat (first | (with_reducible first | exact HB.out | apply qg | apply qc | apply qh | refine ql ?_ GE148.out | refine ql ?_ GE153.out) | exact HB.out)) hb); clear BK148; clear BK153; clear HB; have BK148 := n0_; have BK153 := n1_; have HB := n2_; clear n0_ n1_ n2_; (try clear hb); (try clear hb2); (try clear hk); (try clear hi))))
           go_ret
           exact ⟨by first | rfl | (simp [q9, qz] <;> rfl) | (simp [*, q9, qz] <;> rfl), by repeat (first | (with_reducible first | exact HB.out | apply qg | apply qc | apply qh | refine ql ?_ GE148.out | refine ql ?_ GE153.out) | exact HB.out)⟩
         ·replace c34 := Bool.eq_false_iff.mpr c34
          subst c34
          have H1 : (qy.j2 kj31 a1 a0_0 a0_1 a0_2 l0_3 0 0 (⟨#[]⟩ : ByteArray)) = some r := by rw [if_neg (show ¬ (false = true) by decide)] at H; exact H
          clear H
          have H := H1
          clear H1
          have H' := qd.mk H
          clear H
          go_wp2
          repeat (go_quiet (fail); try go_wp2)
          go_meet
          case rel => exact ⟨_, (0), ((⟨#[]⟩ : ByteArray)), H', ⟨by have := HJ3.out; have := HJ31.out; first | omega | exact Nat.le_refl _⟩, ⟨by (with_reducible repeat (first | refine qj ?_ _ | refine qm ?_ | refine qi ?_ _)); exact BK148.out⟩, ⟨by (with_reducible repeat (first | refine qj ?_ _ | refine qm ?_ | refine qi ?_ _)); exact BK153.out⟩, ⟨by repeat (first | (with_reducible first | exact HB.out | apply qg | apply qc | apply qh | refine ql ?_ GE148.out | refine ql ?_ GE153.out) | exact HB.out)⟩⟩
    case rest =>
     clear HC18
     (try clear c1); (try clear p1); (try clear q1); (try clear hx1); (try clear c2); (try clear p2); (try clear c3); (try clear c4); (try clear c7); (try clear c7b0); (try clear c7b1); (try clear c8); (try clear c8b0); (try clear c10); (try clear c10b0); (try clear c13); (try clear c13b0); (try clear c14); (try clear c14b0); (try clear p15); (try clear q15); (try clear hx15); (try clear c17); (try clear c20); (try clear c23); (try clear c23b0); (try clear c23b1); (try clear c25); (try clear c28); (try clear c28b0); (try clear c28b1); (try clear c29); (try clear c33); (try clear c33b0); (try clear c33b1); (try clear c34); (try clear c36); (try clear c37); (try clear c42); (try clear hcz11_0 hcz11_1 hcz11_2 hcz11_3); (try clear hcz15_0 hcz15_1 hcz15_2 hcz15_3); (try clear hcz21_0 hcz21_1 hcz21_2 hcz21_3); (try clear hcz22_0 hcz22_1 hcz22_2 hcz22_3); (try clear hcz26_0 hcz26_1 hcz26_2 hcz26_3); (try clear hcz27_0 hcz27_1 hcz27_2 hcz27_3); (try clear hcz30_0 hcz30_1 hcz30_2 hcz30_3); (try clear hcz31_0 hcz31_1 hcz31_2 hcz31_3); (try clear hcz38_0 hcz38_1 hcz38_2 hcz38_3); (try clear hcz40_0 hcz40_1 hcz40_2 hcz40_3); (try clear hcz41_0 hcz41_1 hcz41_2 hcz41_3); (try clear hcz43_0 hcz43_1 hcz43_2 hcz43_3); (try clear hcz9_0 hcz9_1 hcz9_2 hcz9_3); (try clear hfz11_0 hfz11_1 hfz11_2 hfz11_3); (try clear hfz15_0 hfz15_1 hfz15_2 hfz15_3); (try clear hfz21_0 hfz21_1 hfz21_2 hfz21_3); (try clear hfz22_0 hfz22_1 hfz22_2 hfz22_3); (try clear hfz26_0 hfz26_1 hfz26_2 hfz26_3); (try clear hfz27_0 hfz27_1 hfz27_2 hfz27_3); (try clear hfz30_0 hfz30_1 hfz30_2 hfz30_3); (try clear hfz31_0 hfz31_1 hfz31_2 hfz31_3); (try clear hfz38_0 hfz38_1 hfz38_2 hfz38_3); (try clear hfz40_0 hfz40_1 hfz40_2 hfz40_3); (try clear hfz41_0 hfz41_1 hfz41_2 hfz41_3); (try clear hfz43_0 hfz43_1 hfz43_2 hfz43_3); (try clear hfz9_0 hfz9_1 hfz9_2 hfz9_3); (try clear hx152_0); (try clear hx152_1); (try clear p1); (try clear p15); (try clear p152); (try clear p2); (try clear q1); (try clear q15); (try clear q152)
     obtain ⟨kq, x154001_17, x154002_17, HA, HJ17, BK148, BK153, HB⟩ := hcut
     cases kq with
     | zero => exact absurd HA.out (by simp [qy.j2])
     | succ kj17 =>
      have H := HA.out
      clear HA
      simp only [qy.j2] at H
      have HC45 := qd.mk H
      clear H
      go_upto_region 15 with (fail)
      repeat (go_quiet (fail); go_upto_region 15 with (fail))
      go_cut [72] (fun v72 wc => ∃ (kq : Nat) (x72_44 : Bool), v72 = .bool x72_44 ∧ qd (qy.j3 kq a1 x72_44 a0_0 a0_1 a0_2 l0_3 = some r) ∧ qd (kq ≤ kj17) ∧ qd (wc.heap[gb148]? = some (.cells #[.int .i64 a0_0, .int .i64 a0_1, .string a0_2, (.slice A0_3 l0_3.length c0_3)] 27 (0, 0))) ∧ qd (wc.heap[gb153]? = some (.cells #[.int .i64 0, .int .i64 x154001_17, .string x154002_17, (.slice none 0 0)] 27 (0, 0))) ∧ qd (Below w.heap.size w wc))
      case first =>
       have H := HC45.out
       clear HC45
       by_cases c46 : x154001_17 = a0_1
       ·rw [if_pos c46] at H
        have c46b0 : (x154001_17 == a0_1) = true := beq_iff_eq.mpr c46
        have c46b1 : (x154001_17 != a0_1) = false := bne_eq_false_iff_eq.mpr c46
        clear c46
        (first | rw [c46b0] | (simp only [i64_w, i32_w]; rw [c46b0]) | skip)
        have H' := qd.mk H
        clear H
        have hnb47 := NB153_148.out
        have hnc47 := NB148_153.out
        have hcz48_0 : wc.cell? ⟨gb153, 0, none⟩ = some (.int .i64 0) := (qb BK153.out 0).trans rfl
        have hcz48_1 : wc.cell? ⟨gb153, 1, none⟩ = some (.int .i64 x154001_17) := (qb BK153.out 1).trans rfl
        have hcz48_2 : wc.cell? ⟨gb153, 2, none⟩ = some (.string x154002_17) := (qb BK153.out 2).trans rfl
        have hcz48_3 : wc.cell? ⟨gb153, 3, none⟩ = some (.slice none 0 0) := (qb BK153.out 3).trans rfl
        have hfz48_0 := qa BK153.out 0
        have hfz48_1 := qa BK153.out 1
        have hfz48_2 := qa BK153.out 2
        have hfz48_3 := qa BK153.out 3
        have hcz49_0 : wc.cell? ⟨gb148, 0, none⟩ = some (.int .i64 a0_0) := (qb BK148.out 0).trans rfl
        have hcz49_1 : wc.cell? ⟨gb148, 1, none⟩ = some (.int .i64 a0_1) := (qb BK148.out 1).trans rfl
        have hcz49_2 : wc.cell? ⟨gb148, 2, none⟩ = some (.string a0_2) := (qb BK148.out 2).trans rfl
        have hcz49_3 : wc.cell? ⟨gb148, 3, none⟩ = some (.slice A0_3 l0_3.length c0_3) := (qb BK148.out 3).trans rfl
        have hfz49_0 := qa BK148.out 0
        have hfz49_1 := qa BK148.out 1
        have hfz49_2 := qa BK148.out 2
        have hfz49_3 := qa BK148.out 3
        go_wp2
        repeat (go_quiet (fail); try go_wp2)
        go_meet
        case rel => exact ⟨_, ((x154002_17.toList != a0_2.toList)), (by first | rfl | (simp; done) | (simp [*]; done)), H', ⟨by have := HJ3.out; have := HJ17.out; first | omega | exact Nat.le_refl _⟩, ⟨by (with_reducible repeat (first | refine qj ?_ _ | refine qm ?_ | refine qi ?_ _)); exact BK148.out⟩, ⟨by (with_reducible repeat (first | refine qj ?_ _ | refine qm ?_ | refine qi ?_ _)); exact BK153.out⟩, ⟨by repeat (first | (with_reducible first | exact HB.out | apply qg | apply qc | apply qh | refine ql ?_ GE148.out | refine ql ?_ GE153.out) | exact HB.out)⟩⟩
       ·rw [if_neg c46] at H
        have c46b0 : (x154001_17 == a0_1) = false := beq_eq_false_iff_ne.mpr c46
        have c46b1 : (x154001_17 != a0_1) = true := bne_iff_ne.mpr c46
        (first | rw [c46b0] | (simp only [i64_w, i32_w]; rw [c46b0]) | skip)
        have H' := qd.mk H
        clear H
        have hnb50 := NB153_148.out
        have hnc50 := NB148_153.out
        have hcz51_0 : wc.cell? ⟨gb153, 0, none⟩ = some (.int .i64 0) := (qb BK153.out 0).trans rfl
        have hcz51_1 : wc.cell? ⟨gb153, 1, none⟩ = some (.int .i64 x154001_17) := (qb BK153.out 1).trans rfl
        have hcz51_2 : wc.cell? ⟨gb153, 2, none⟩ = some (.string x154002_17) := (qb BK153.out 2).trans rfl
        have hcz51_3 : wc.cell? ⟨gb153, 3, none⟩ = some (.slice none 0 0) := (qb BK153.out 3).trans rfl
        have hfz51_0 := qa BK153.out 0
        have hfz51_1 := qa BK153.out 1
        have hfz51_2 := qa BK153.out 2
        have hfz51_3 := qa BK153.out 3
        have hcz52_0 : wc.cell? ⟨gb148, 0, none⟩ = some (.int .i64 a0_0) := (qb BK148.out 0).trans rfl
        have hcz52_1 : wc.cell? ⟨gb148, 1, none⟩ = some (.int .i64 a0_1) := (qb BK148.out 1).trans rfl
        have hcz52_2 : wc.cell? ⟨gb148, 2, none⟩ = some (.string a0_2) := (qb BK148.out 2).trans rfl
        have hcz52_3 : wc.cell? ⟨gb148, 3, none⟩ = some (.slice A0_3 l0_3.length c0_3) := (qb BK148.out 3).trans rfl
        have hfz52_0 := qa BK148.out 0
        have hfz52_1 := qa BK148.out 1
        have hfz52_2 := qa BK148.out 2
        have hfz52_3 := qa BK148.out 3
        go_wp2
        repeat (go_quiet (fail); try go_wp2)
        go_meet
        case rel => exact ⟨_, (true), (by first | rfl | (simp; done) | (simp [*]; done)), H', ⟨by have := HJ3.out; have := HJ17.out; first | omega | exact Nat.le_refl _⟩, ⟨by (with_reducible repeat (first | refine qj ?_ _ | refine qm ?_ | refine qi ?_ _)); exact BK148.out⟩, ⟨by (with_reducible repeat (first | refine qj ?_ _ | refine qm ?_ | refine qi ?_ _)); exact BK153.out⟩, ⟨by repeat (first | (with_reducible first | exact HB.out | apply qg | apply qc | apply qh | refine ql ?_ GE148.out | refine ql ?_ GE153.out) | exact HB.out)⟩⟩
      case rest =>
       clear HC45
       (try clear c1); (try clear p1); (try clear q1); (try clear hx1); (try clear c2); (try clear p2); (try clear c3); (try clear c4); (try clear c5); (try clear c7); (try clear c7b0); (try clear c7b1); (try clear c8); (try clear c8b0); (try clear c10); (try clear c10b0); (try clear c13); (try clear c13b0); (try clear c14); (try clear c14b0); (try clear p15); (try clear q15); (try clear hx15); (try clear c17); (try clear c20); (try clear c23); (try clear c23b0); (try clear c23b1); (try clear c25); (try clear c28); (try clear c28b0); (try clear c28b1); (try clear c29); (try clear c33); (try clear c33b0); (try clear c33b1); (try clear c34); (try clear c36); (try clear c37); (try clear c42); (try clear c46); (try clear c46b0); (try clear c46b1); (try clear c47); (try clear c50); (try clear hcz11_0 hcz11_1 hcz11_2 hcz11_3); (try clear hcz15_0 hcz15_1 hcz15_2 hcz15_3); (try clear hcz21_0 hcz21_1 hcz21_2 hcz21_3); (try clear hcz22_0 hcz22_1 hcz22_2 hcz22_3); (try clear hcz26_0 hcz26_1 hcz26_2 hcz26_3); (try clear hcz27_0 hcz27_1 hcz27_2 hcz27_3); (try clear hcz30_0 hcz30_1 hcz30_2 hcz30_3); (try clear hcz31_0 hcz31_1 hcz31_2 hcz31_3); (try clear hcz38_0 hcz38_1 hcz38_2 hcz38_3); (try clear hcz40_0 hcz40_1 hcz40_2 hcz40_3); (try clear hcz41_0 hcz41_1 hcz41_2 hcz41_3); (try clear hcz43_0 hcz43_1 hcz43_2 hcz43_3); (try clear hcz48_0 hcz48_1 hcz48_2 hcz48_3); (try clear hcz49_0 hcz49_1 hcz49_2 hcz49_3); (try clear hcz51_0 hcz51_1 hcz51_2 hcz51_3); (try clear hcz52_0 hcz52_1 hcz52_2 hcz52_3); (try clear hcz9_0 hcz9_1 hcz9_2 hcz9_3); (try clear hfz11_0 hfz11_1 hfz11_2 hfz11_3); (try clear hfz15_0 hfz15_1 hfz15_2 hfz15_3); (try clear hfz21_0 hfz21_1 hfz21_2 hfz21_3); (try clear hfz22_0 hfz22_1 hfz22_2 hfz22_3); (try clear hfz26_0 hfz26_1 hfz26_2 hfz26_3); (try clear hfz27_0 hfz27_1 hfz27_2 hfz27_3); (try clear hfz30_0 hfz30_1 hfz30_2 hfz30_3); (try clear hfz31_0 hfz31_1 hfz31_2 hfz31_3); (try clear hfz38_0 hfz38_1 hfz38_2 hfz38_3); (try clear hfz40_0 hfz40_1 hfz40_2 hfz40_3); (try clear hfz41_0 hfz41_1 hfz41_2 hfz41_3); (try clear hfz43_0 hfz43_1 hfz43_2 hfz43_3); (try clear hfz48_0 hfz48_1 hfz48_2 hfz48_3); (try clear hfz49_0 hfz49_1 hfz49_2 hfz49_3); (try clear hfz51_0 hfz51_1 hfz51_2 hfz51_3); (try clear hfz52_0 hfz52_1 hfz52_2 hfz52_3); (try clear hfz9_0 hfz9_1 hfz9_2 hfz9_3); (try clear hx152_0); (try clear hx152_1); (try clear p1); (try clear p15); (try clear p152); (try clear p2); (try clear q1); (try clear q15); (try clear q152)
       obtain ⟨kq, x72_44, rfl, HA, HJ44, BK148, BK153, HB⟩ := hcut
       cases kq with
       | zero => exact absurd HA.out (by simp [qy.j3])
       | succ kj44 =>
        have H := HA.out
        clear HA
        simp only [qy.j3] at H
        by_cases c53 : x72_44 = true
        ·subst c53
         have H1 : (some false) = some r := by rw [if_pos rfl] at H; exact H
         clear H
         have H := H1
         clear H1
         obtain rfl := Option.some.inj H
         go_wp2
         repeat (go_quiet (fail); try go_wp2)
         go_ret
         exact ⟨by first | rfl | (simp [q9, qz] <;> rfl) | (simp [*, q9, qz] <;> rfl), by repeat (first | (with_reducible first | exact HB.out | apply qg | apply qc | apply qh | refine ql ?_ GE148.out | refine ql ?_ GE153.out) | exact HB.out)⟩
        ·replace c53 := Bool.eq_false_iff.mpr c53
         subst c53
         have H1 : (qy.l0 kj44 a1 l0_3 (l0_3.length : Int) 0) = some r := by rw [if_neg (show ¬ (false = true) by decide)] at H; exact H
         clear H
         have H := H1
         clear H1
         have H' := qd.mk H
         clear H
         have hnb54 := NB148_153.out
         have hnc54 := NB153_148.out
         have hcz55_0 : wc.cell? ⟨gb148, 0, none⟩ = some (.int .i64 a0_0) := (qb BK148.out 0).trans rfl
         have hcz55_1 : wc.cell? ⟨gb148, 1, none⟩ = some (.int .i64 a0_1) := (qb BK148.out 1).trans rfl
         have hcz55_2 : wc.cell? ⟨gb148, 2, none⟩ = some (.string a0_2) := (qb BK148.out 2).trans rfl
         have hcz55_3 : wc.cell? ⟨gb148, 3, none⟩ = some (.slice A0_3 l0_3.length c0_3) := (qb BK148.out 3).trans rfl
         have hfz55_0 := qa BK148.out 0
         have hfz55_1 := qa BK148.out 1
         have hfz55_2 := qa BK148.out 2
         have hfz55_3 := qa BK148.out 3
         go_wp2
         repeat (go_quiet (fail); try go_wp2)
         go_loopg [76] kj44 (fun kq v76 w' => ∃ (x76_4 : Int), v76 = .int .i64 x76_4 ∧ qd (qy.l0 kq a1 l0_3 (l0_3.length : Int) x76_4 = some r) ∧ qd (kq ≤ kj44) ∧ qd (w'.heap[gb148]? = some (.cells #[.int .i64 a0_0, .int .i64 a0_1, .string a0_2, (.slice A0_3 l0_3.length c0_3)] 27 (0, 0))) ∧ qd (w'.heap[gb153]? = some (.cells #[.int .i64 0, .int .i64 x154001_17, .string x154002_17, (.slice none 0 0)] 27 (0, 0))) ∧ qd (Below w.heap.size w w'))
         case atStart => exact ⟨(0), (by first | rfl | (simp; done) | (simp [*]; done)), H', ⟨Nat.le_refl _⟩, ⟨by (with_reducible repeat (first | refine qj ?_ _ | refine qm ?_ | refine qi ?_ _)); exact BK148.out⟩, ⟨by (with_reducible repeat (first | refine qj ?_ _ | refine qm ?_ | refine qi ?_ _)); exact BK153.out⟩, ⟨by repeat (first | (with_reducible first | exact HB.out | apply qg | apply qc | apply qh | refine ql ?_ GE148.out | refine ql ?_ GE153.out) | exact HB.out)⟩⟩
         case round =>
          clear H'
          (try clear c1); (try clear p1); (try clear q1); (try clear hx1); (try clear c2); (try clear p2); (try clear c3); (try clear c4); (try clear c5); (try clear c7); (try clear c7b0); (try clear c7b1); (try clear c8); (try clear c8b0); (try clear c10); (try clear c10b0); (try clear c13); (try clear c13b0); (try clear c14); (try clear c14b0); (try clear p15); (try clear q15); (try clear hx15); (try clear c17); (try clear c20); (try clear c23); (try clear c23b0); (try clear c23b1); (try clear c25); (try clear c28); (try clear c28b0); (try clear c28b1); (try clear c29); (try clear c33); (try clear c33b0); (try clear c33b1); (try clear c34); (try clear c36); (try clear c37); (try clear c42); (try clear c46); (try clear c46b0); (try clear c46b1); (try clear c47); (try clear c50); (try clear c53); (try clear c54); (try clear hcz11_0 hcz11_1 hcz11_2 hcz11_3); (try clear hcz15_0 hcz15_1 hcz15_2 hcz15_3); (try clear hcz21_0 hcz21_1 hcz21_2 hcz21_3); (try clear hcz22_0 hcz22_1 hcz22_2 hcz22_3); (try clear hcz26_0 hcz26_1 hcz26_2 hcz26_3); (try clear hcz27_0 hcz27_1 hcz27_2 hcz27_3); (try clear hcz30_0 hcz30_1 hcz30_2 hcz30_3); (try clear hcz31_0 hcz31_1 hcz31_2 hcz31_3); (try clear hcz38_0 hcz38_1 hcz38_2 hcz38_3); (try clear hcz40_0 hcz40_1 hcz40_2 hcz40_3); (try clear hcz41_0 hcz41_1 hcz41_2 hcz41_3); (try clear hcz43_0 hcz43_1 hcz43_2 hcz43_3); (try clear hcz48_0 hcz48_1 hcz48_2 hcz48_3); (try clear hcz49_0 hcz49_1 hcz49_2 hcz49_3); (try clear hcz51_0 hcz51_1 hcz51_2 hcz51_3); (try clear hcz52_0 hcz52_1 hcz52_2 hcz52_3); (try clear hcz55_0 hcz55_1 hcz55_2 hcz55_3); (try clear hcz9_0 hcz9_1 hcz9_2 hcz9_3); (try clear hfz11_0 hfz11_1 hfz11_2 hfz11_3); (try clear hfz15_0 hfz15_1 hfz15_2 hfz15_3); (try clear hfz21_0 hfz21_1 hfz21_2 hfz21_3); (try clear hfz22_0 hfz22_1 hfz22_2 hfz22_3); (try clear hfz26_0 hfz26_1 hfz26_2 hfz26_3); (try clear hfz27_0 hfz27_1 hfz27_2 hfz27_3); (try clear hfz30_0 hfz30_1 hfz30_2 hfz30_3); (try clear hfz31_0 hfz31_1 hfz31_2 hfz31_3); (try clear hfz38_0 hfz38_1 hfz38_2 hfz38_3); (try clear hfz40_0 hfz40_1 hfz40_2 hfz40_3); (try clear hfz41_0 hfz41_1 hfz41_2 hfz41_3); (try clear hfz43_0 hfz43_1 hfz43_2 hfz43_3); (try clear hfz48_0 hfz48_1 hfz48_2 hfz48_3); (try clear hfz49_0 hfz49_1 hfz49_2 hfz49_3); (try clear hfz51_0 hfz51_1 hfz51_2 hfz51_3); (try clear hfz52_0 hfz52_1 hfz52_2 hfz52_3); (try clear hfz55_0 hfz55_1 hfz55_2 hfz55_3); (try clear hfz9_0 hfz9_1 hfz9_2 hfz9_3); (try clear hx152_0); (try clear hx152_1); (try clear p1); (try clear p15); (try clear p152); (try clear p2); (try clear q1); (try clear q15); (try clear q152)
          obtain ⟨x76_4, rfl, HA, HK4, BK148, BK153, HB⟩ := hrel
          cases gk with
          | zero => exact absurd HA.out (by simp [qy.l0])
          | succ k4 =>
           have H := HA.out
           clear HA
           simp only [qy.l0] at H
           by_cases c56 : x76_4 < (l0_3.length : Int)
           ·rw [if_pos c56] at H
            have c56b0 : decide (x76_4 < (l0_3.length : Int)) = true := decide_eq_true c56
            clear c56
            by_cases c57 : 0 ≤ x76_4
            ·rw [if_pos c57] at H
             have c57b0 : decide (0 ≤ x76_4) = true := decide_eq_true c57
             clear c57
             by_cases c58 : x76_4 < (l0_3.length : Int)
             ·rw [if_pos c58] at H
              have c58b0 : decide (x76_4 < (l0_3.length : Int)) = true := decide_eq_true c58
              clear c58
              replace H := Option.bind_eq_some_iff.mp H
              obtain ⟨t157, A590, H⟩ := H
              replace H : (if t157 = true then (qy.l0 k4 a1 l0_3 (l0_3.length : Int) (wrap64 (x76_4 + 1))) else (some false)) = some r := H
              have A59 := qd.mk A590
              clear A590
              by_cases c60 : t157 = true
              ·subst c60
               have H1 : (qy.l0 k4 a1 l0_3 (l0_3.length : Int) (wrap64 (x76_4 + 1))) = some r := by rw [if_pos rfl] at H; exact H
               clear H
               have H := H1
               clear H1
               have H' := qd.mk H
               clear H
               have p155 : 0 ≤ (x76_4 : Int) := of_decide_eq_true (by first | (with_reducible assumption) | assumption)
               have q155 : x76_4 < (l0_3.length : Int) := of_decide_eq_true (by first | (with_reducible assumption) | assumption)
               obtain ⟨ad155, A155_3, c155_3, e155, hx155_0, hx155_1, hx155_2, hx155_3, hl155_3, hi155_3⟩ := qd7 HR0_3.out x76_4 p155 q155
               cases e155
               replace hx155_0 := (HB.out.cell (World.block_lt_of_cell? w _ hx155_0)).trans hx155_0
               replace hx155_1 := (HB.out.cell (World.block_lt_of_cell? w _ hx155_1)).trans hx155_1
               replace hx155_2 := (HB.out.cell (World.block_lt_of_cell? w _ hx155_2)).trans hx155_2
               replace hx155_3 := (HB.out.cell (World.block_lt_of_cell? w _ hx155_3)).trans hx155_3
               have HR155_3 := qd.mk hi155_3
               have HC155_3 := qd.mk hl155_3
               clear hi155_3 hl155_3
               replace p155 := eq_true p155
               replace q155 := eq_true q155
               go_wp2_with (first | ((with_reducible refine qby (N := 8) rfl ?_); (try (refine qcb (by rfl) ?_; dsimp only)); refine qbx ?hg (N := 8) ?hd (cs := #[.int .i64 0, .int .i64 0, .string (⟨#[]⟩ : ByteArray), .slice none 0 0]) (t := 27) ?hr ?_; (case hd => rfl); (case hg => rfl); (case hr => first | (go_simp; done) | (go_simp; rfl)); intro gb156 hg w61 hbox hb; have n0_ := qd.mk (qbb (g := gb148) (o := .cells #[.int .i64 a0_0, .int .i64 a0_1, .string a0_2, .slice (some ad155) l0_3.length c0_3] 27 (0, 0)) (by (with_reducible repeat (first | refine qj ?_ _ | refine qm ?_ | refine qi ?_ _)); exact BK148.out) hb); have n1_ := qd.mk (qbb (g := gb153) (o := .cells #[.int .i64 0, .int .i64 x154001_17, .string x154002_17, .slice none 0 0] 27 (0, 0)) (by (with_reducible repeat (first | refine qj ?_ _ | refine qm ?_ | refine qi ?_ _)); exact BK153.out) hb); have n2_ := qd.mk (qba (by repeat (first | (with_reducible first | exact HB.out | apply qg | apply qc | apply qh | refine ql ?_ GE148.out | refine ql ?_ GE153.out) | exact HB.out)) hb); have n3_ := qd.mk (hbox); have n4_ := qd.mk ((by rw [hg]; exact (qbc (by repeat (first | (with_reducible first | exact HB.out | apply qg | apply qc | apply qh | refine ql ?_ GE148.out | refine ql ?_ GE153.out) | exact HB.out))) : w.heap.size ≤ gb156)); have n5_ := qd.mk ((by rw [hg]; exact (qbc (by repeat (first | (with_reducible first | exact HB.out | apply qg | apply qc | apply qh | refine ql ?_ GE148.out | refine ql ?_ GE153.out) | exact HB.out))) : w.heap.size ≤ gb156)); have n6_ := qd.mk ((by rw [hg]; exact Nat.ne_of_lt (qb0 (g := gb148) (o := .cells #[.int .i64 a0_0, .int .i64 a0_1, .string a0_2, .slice (some ad155) l0_3.length c0_3] 27 (0, 0)) (by (with_reducible repeat (first | refine qj ?_ _ | refine qm ?_ | refine qi ?_ _)); exact BK148.out)) : gb148 ≠ gb156)); have n7_ := qd.mk ((by rw [hg]; exact Nat.ne_of_gt (qb0 (g := gb148) (o := .cells #[.int .i64 a0_0, .int .i64 a0_1, .string a0_2, .slice (some ad155) l0_3.length c0_3] 27 (0, 0)) (by (with_reducible repeat (first | refine qj ?_ _ | refine qm ?_ | refine qi ?_ _)); exact BK148.out)) : gb156 ≠ gb148)); have n8_ := qd.mk ((by rw [hg]; exact Nat.ne_of_lt (qb0 (g := gb153) (o := .cells #[.int .i64 0, .int .i64 x154001_17, .string x154002_17, .slice none 0 0] 27 (0, 0)) (by (with_reducible repeat (first | refine qj ?_ _ | refine qm ?_ | refine qi ?_ _)); exact BK153.out)) : gb153 ≠ gb156)); have n9_ := qd.mk ((by rw [hg]; exact Nat.ne_of_gt (qb0 (g := gb153) (o := .cells #[.int .i64 0, .int .i64 x154001_17, .string x154002_17, .slice none 0 0] 27 (0, 0)) (by (with_reducible repeat (first | refine qj ?_ _ | refine qm ?_ | refine qi ?_ _)); exact BK153.out)) : gb156 ≠ gb153)); clear BK148; clear BK153; clear HB; have BK148 := n0_; have BK153 := n1_; have HB := n2_; have BK156 := n3_; have GW156 := n4_; have GE156 := n5_; have NB148_156 := n6_; have NB156_148 := n7_; have NB153_156 := n8_; have NB156_153 := n9_; clear n0_ n1_ n2_ n3_ n4_ n5_ n6_ n7_ n8_ n9_; clear hb hbox hg; have hnb62 := NB156_148.out; have hnc62 := NB148_156.out; have hnb63 := NB156_153.out; have hnc63 := NB153_156.out; have hcz64_0 : w61.cell? ⟨gb156, 0, none⟩ = some (.int .i64 0) := (qb BK156.out 0).trans rfl; have hcz64_1 : w61.cell? ⟨gb156, 1, none⟩ = some (.int .i64 0) := (qb BK156.out 1).trans rfl; have hcz64_2 : w61.cell? ⟨gb156, 2, none⟩ = some (.string (⟨#[]⟩ : ByteArray)) := (qb BK156.out 2).trans rfl; have hcz64_3 : w61.cell? ⟨gb156, 3, none⟩ = some (.slice none 0 0) := (qb BK156.out 3).trans rfl; have hfz64_0 := qa BK156.out 0; have hfz64_1 := qa BK156.out 1; have hfz64_2 := qa BK156.out 2; have hfz64_3 := qa BK156.out 3) | (go_at_call 88; (with_reducible refine (ih k4 (by have := HJ3.out; have := HJ17.out; have := HJ44.out; have := HK4.out; omega) ((qx l0_3 x76_4).f0) ((qx l0_3 x76_4).f1) ((qx l0_3 x76_4).f2) _ _ ((qx l0_3 x76_4).f3) (wrap64 (a1 - 1)) true _ ?side1 ?side2 ?side3 A59.out).mono ?_); (case side1 => exact Kd.qbv HR155_3.out (by repeat (first | (with_reducible first | exact HB.out | apply qg | apply qc | apply qh | refine ql ?_ GE148.out | refine ql ?_ GE153.out | refine ql ?_ GE156.out) | exact HB.out))); (case side2 => exact HC155_3.out); (case side3 => exact Lay.below HLAY.out (by repeat (first | (with_reducible first | exact HB.out | apply qg | apply qc | apply qh | refine ql ?_ GE148.out | refine ql ?_ GE153.out | refine ql ?_ GE156.out) | exact HB.out))); rintro e w65 ⟨rfl, hb⟩; have n0_ := qd.mk (qbb (g := gb148) (o := .cells #[.int .i64 a0_0, .int .i64 a0_1, .string a0_2, .slice (some ad155) l0_3.length c0_3] 27 (0, 0)) (by (with_reducible repeat (first | refine qj ?_ _ | refine qm ?_ | refine qi ?_ _)); refine qbn ?_ NB148_156.out _; (with_reducible repeat (first | refine qj ?_ _ | refine qm ?_ | refine qi ?_ _)); refine qbn ?_ NB148_156.out _; (with_reducible repeat (first | refine qj ?_ _ | refine qm ?_ | refine qi ?_ _)); refine qbn ?_ NB148_156.out _; (with_reducible repeat (first | refine qj ?_ _ | refine qm ?_ | refine qi ?_ _)); refine qbn ?_ NB148_156.out _; (with_reducible repeat (first | refine qj ?_ _ | refine qm ?_ | refine qi ?_ _)); exact BK148.out) hb); have n1_ := qd.mk (qbb (g := gb153) (o := .cells #[.int .i64 0, .int .i64 x154001_17, .string x154002_17, .slice none 0 0] 27 (0, 0)) (by (with_reducible repeat (first | refine qj ?_ _ | refine qm ?_ | refine qi ?_ _)); refine qbn ?_ NB153_156.out _; (with_reducible repeat (first | refine qj ?_ _ | refine qm ?_ | refine qi ?_ _)); refine qbn ?_ NB153_156.out _; (with_reducible repeat (first | refine qj ?_ _ | refine qm ?_ | refine qi ?_ _)); refine qbn ?_ NB153_156.out _; (with_reducible repeat (first | refine qj ?_ _ | refine qm ?_ | refine qi ?_ _)); refine qbn ?_ NB153_156.out _; (with_reducible repeat (first | refine qj ?_ _ | refine qm ?_ | refine qi ?_ _)); exact BK153.out) hb); have n2_ := qd.mk (qbb (g := gb156) (o := .cells #[.int .i64 ((qx l0_3 x76_4).f0), .int .i64 ((qx l0_3 x76_4).f1), .string ((qx l0_3 x76_4).f2), .slice A155_3 ((qx l0_3 x76_4).f3).length c155_3] 27 (0, 0)) (by (with_reducible repeat (first | refine qj ?_ _ | refine qm ?_ | refine qi ?_ _)); refine qbp (cs := #[.int .i64 ((qx l0_3 x76_4).f0), .int .i64 ((qx l0_3 x76_4).f1), .string ((qx l0_3 x76_4).f2), .slice none 0 0]) ?_ 3 _ rfl; (with_reducible repeat (first | refine qj ?_ _ | refine qm ?_ | refine qi ?_ _)); refine qbp (cs := #[.int .i64 ((qx l0_3 x76_4).f0), .int .i64 ((qx l0_3 x76_4).f1), .string (⟨#[]⟩ : ByteArray), .slice none 0 0]) ?_ 2 _ rfl; (with_reducible repeat (first | refine qj ?_ _ | refine qm ?_ | refine qi ?_ _)); refine qbp (cs := #[.int .i64 ((qx l0_3 x76_4).f0), .int .i64 0, .string (⟨#[]⟩ : ByteArray), .slice none 0 0]) ?_ 1 _ rfl; (with_reducible repeat (first | refine qj ?_ _ | refine qm ?_ | refine qi ?_ _)); refine qbp (cs := #[.int .i64 0, .int .i64 0, .string (⟨#[]⟩ : ByteArray), .slice none 0 0]) ?_ 0 _ rfl; (with_reducible repeat (first | refine qj ?_ _ | refine qm ?_ | refine qi ?_ _)); exact BK156.out) hb); have n3_ := qd.mk (qba (by repeat (first | (with_reducible first | exact HB.out | apply qg | apply qc | apply qh | refine ql ?_ GE148.out | refine ql ?_ GE153.out | refine ql ?_ GE156.out) | exact HB.out)) hb); clear BK148; clear BK153; clear BK156; clear HB; have BK148 := n0_; have BK153 := n1_; have BK156 := n2_; have HB := n3_; clear n0_ n1_ n2_ n3_; (try clear hb); (try clear hb2); (try clear hk); (try clear hi)))
               repeat (go_quiet (first | ((with_reducible refine qby (N := 8) rfl ?_); (try (refine qcb (by rfl) ?_; dsimp only)); refine qbx ?hg (N := 8) ?hd (cs := #[.int .i64 0, .int .i64 0, .string (⟨#[]⟩ : ByteArray), .slice none 0 0]) (t := 27) ?hr ?_; (case hd => rfl); (case hg => rfl); (case hr => first | (go_simp; done) | (go_simp; rfl)); intro gb156 hg w61 hbox hb; have n0_ := qd.mk (qbb (g := gb148) (o := .cells #[.int .i64 a0_0, .int .i64 a0_1, .string a0_2, .slice (some ad155) l0_3.length c0_3] 27 (0, 0)) (by (with_reducible repeat (first | refine qj ?_ _ | refine qm ?_ | refine qi ?_ _)); exact BK148.out) hb); have n1_ := qd.mk (qbb (g := gb153) (o := .cells #[.int .i64 0, .int .i64 x154001_17, .string x154002_17, .slice none 0 0] 27 (0, 0)) (by (with_reducible repeat (first | refine qj ?_ _ | refine qm ?_ | refine qi ?_ _)); exact BK153.out) hb); have n2_ := qd.mk (qba (by repeat (first | (with_reducible first | exact HB.out | apply qg | apply qc | apply qh | refine ql ?_ GE148.out | refine ql ?_ GE153.out) | exact HB.out)) hb); have n3_ := qd.mk (hbox); have n4_ := qd.mk ((by rw [hg]; exact (qbc (by repeat (first | (with_reducible first | exact HB.out | apply qg | apply qc | apply qh | refine ql ?_ GE148.out | refine ql ?_ GE153.out) | exact HB.out))) : w.heap.size ≤ gb156)); have n5_ := qd.mk ((by rw [hg]; exact (qbc (by repeat (first | (with_reducible first | exact HB.out | apply qg | apply qc | apply qh | refine ql ?_ GE148.out | refine ql ?_ GE153.out) | exact HB.out))) : w.heap.size ≤ gb156)); have n6_ := qd.mk ((by rw [hg]; exact Nat.ne_of_lt (qb0 (g := gb148) (o := .cells #[.int .i64 a0_0, .int .i64 a0_1, .string a0_2, .slice (some ad155) l0_3.length c0_3] 27 (0, 0)) (by (with_reducible repeat (first | refine qj ?_ _ | refine qm ?_ | refine qi ?_ _)); exact BK148.out)) : gb148 ≠ gb156)); have n7_ := qd.mk ((by rw [hg]; exact Nat.ne_of_gt (qb0 (g := gb148) (o := .cells #[.int .i64 a0_0, .int .i64 a0_1, .string a0_2, .slice (some ad155) l0_3.length c0_3] 27 (0, 0)) (by (with_reducible repeat (first | refine qj ?_ _ | refine qm ?_ | refine qi ?_ _)); exact BK148.out)) : gb156 ≠ gb148)); have n8_ := qd.mk ((by rw [hg]; exact Nat.ne_of_lt (qb0 (g := gb153) (o := .cells #[.int .i64 0, .int .i64 x154001_17, .string x154002_17, .slice none 0 0] 27 (0, 0)) (by (with_reducible repeat (first | refine qj ?_ _ | refine qm ?_ | refine qi ?_ _)); exact BK153.out)) : gb153 ≠ gb156)); have n9_ := qd.mk ((by rw [hg]; exact Nat.ne_of_gt (qb0 (g := gb153) (o := .cells #[.int .i64 0, .int .i64 x154001_17, .string x154002_17, .slice none 0 0] 27 (0, 0)) (by (with_reducible repeat (first | refine qj ?_ _ | refine qm ?_ | refine qi ?_ _)); exact BK153.out)) : gb156 ≠ gb153)); clear BK148; clear BK153; clear HB; have BK148 := n0_; have BK153 := n1_; have HB := n2_; have BK156 := n3_; have GW156 := n4_; have GE156 := n5_; have NB148_156 := n6_; have NB156_148 := n7_; have NB153_156 := n8_; have NB156_153 := n9_; clear n0_ n1_ n2_ n3_ n4_ n5_ n6_ n7_ n8_ n9_; clear hb hbox hg; have hnb62 := NB156_148.out; have hnc62 := NB148_156.out; have hnb63 := NB156_153.out; have hnc63 := NB153_156.out; have hcz64_0 : w61.cell? ⟨gb156, 0, none⟩ = some (.int .i64 0) := (qb BK156.out 0).trans rfl; have hcz64_1 : w61.cell? ⟨gb156, 1, none⟩ = some (.int .i64 0) := (qb BK156.out 1).trans rfl; have hcz64_2 : w61.cell? ⟨gb156, 2, none⟩ = some (.string (⟨#[]⟩ : ByteArray)) := (qb BK156.out 2).trans rfl; have hcz64_3 : w61.cell? ⟨gb156, 3, none⟩ = some (.slice none 0 0) := (qb BK156.out 3).trans rfl; have hfz64_0 := qa BK156.out 0; have hfz64_1 := qa BK156.out 1; have hfz64_2 := qa BK156.out 2; have hfz64_3 := qa BK156.out 3) | (go_at_call 88; (with_reducible refine (ih k4 (by have := HJ3.out; have := HJ17.out; have := HJ44.out; have := HK4.out; omega) ((qx l0_3 x76_4).f0) ((qx l0_3 x76_4).f1) ((qx l0_3 x76_4).f2) _ _ ((qx l0_3 x76_4).f3) (wrap64 (a1 - 1)) true _ ?side1 ?side2 ?side3 A59.out).mono ?_); (case side1 => exact Kd.qbv HR155_3.out (by repeat (first | (with_reducible first | exact HB.out | apply qg | apply qc | apply qh | refine ql ?_ GE148.out | refine ql ?_ GE153.out | refine ql ?_ GE156.out) | exact HB.out))); (case side2 => exact HC155_3.out); (case side3 => exact Lay.below HLAY.out (by repeat (first | (with_reducible first | exact HB.out | apply qg | apply qc | apply qh | refine ql ?_ GE148.out | refine ql ?_ GE153.out | refine ql ?_ GE156.out) | exact HB.out))); rintro e w65 ⟨rfl, hb⟩; have n0_ := qd.mk (qbb (g := gb148) (o := .cells #[.int .i64 a0_0, .int .i64 a0_1, .string a0_2, .slice (some ad155) l0_3.length c0_3] 27 (0, 0)) (by (with_reducible repeat (first | refine qj ?_ _ | refine qm ?_ | refine qi ?_ _)); refine qbn ?_ NB148_156.out _; (with_reducible repeat (first | refine qj ?_ _ | refine qm ?_ | refine qi ?_ _)); refine qbn ?_ NB148_156.out _; (with_reducible repeat (first | refine qj ?_ _ | refine qm ?_ | refine qi ?_ _)); refine qbn ?_ NB148_156.out _; (with_reducible repeat (first | refine qj ?_ _ | refine qm ?_ | refine qi ?_ _)); refine qbn ?_ NB148_156.out _; (with_reducible repeat (first | refine qj ?_ _ | refine qm ?_ | refine qi ?_ _)); exact BK148.out) hb); have n1_ := qd.mk (qbb (g := gb153) (o := .cells #[.int .i64 0, .int .i64 x154001_17, .string x154002_17, .slice none 0 0] 27 (0, 0)) (by (with_reducible repeat (first | refine qj ?_ _ | refine qm ?_ | refine qi ?_ _)); refine qbn ?_ NB153_156.out _; (with_reducible repeat (first | refine qj ?_ _ | refine qm ?_ | refine qi ?_ _)); refine qbn ?_ NB153_156.out _; (with_reducible repeat (first | refine qj ?_ _ | refine qm ?_ | refine qi ?_ _)); refine qbn ?_ NB153_156.out _; (with_reducible repeat (first | refine qj ?_ _ | refine qm ?_ | refine qi ?_ _)); refine qbn ?_ NB153_156.out _; (with_reducible repeat (first | refine qj ?_ _ | refine qm ?_ | refine qi ?_ _)); exact BK153.out) hb); have n2_ := qd.mk (qbb (g := gb156) (o := .cells #[.int .i64 ((qx l0_3 x76_4).f0), .int .i64 ((qx l0_3 x76_4).f1), .string ((qx l0_3 x76_4).f2), .slice A155_3 ((qx l0_3 x76_4).f3).length c155_3] 27 (0, 0)) (by (with_reducible repeat (first | refine qj ?_ _ | refine qm ?_ | refine qi ?_ _)); refine qbp (cs := #[.int .i64 ((qx l0_3 x76_4).f0), .int .i64 ((qx l0_3 x76_4).f1), .string ((qx l0_3 x76_4).f2), .slice none 0 0]) ?_ 3 _ rfl; (with_reducible repeat (first | refine qj ?_ _ | refine qm ?_ | refine qi ?_ _)); refine qbp (cs := #[.int .i64 ((qx l0_3 x76_4).f0), .int .i64 ((qx l0_3 x76_4).f1), .string (⟨#[]⟩ : ByteArray), .slice none 0 0]) ?_ 2 _ rfl; (with_reducible repeat (first | refine qj ?_ _ | refine qm ?_ | refine qi ?_ _)); refine qbp (cs := #[.int .i64 ((qx l0_3 x76_4).f0), .int .i64 0, .string (⟨#[]⟩ : ByteArray), .slice none 0 0]) ?_ 1 _ rfl; (with_reducible repeat (first | refine qj ?_ _ | refine qm ?_ | refine qi ?_ _)); refine qbp (cs := #[.int .i64 0, .int .i64 0, .string (⟨#[]⟩ : ByteArray), .slice none 0 0]) ?_ 0 _ rfl; (with_reducible repeat (first | refine qj ?_ _ | refine qm ?_ | refine qi ?_ _)); exact BK156.out) hb); have n3_ := qd.mk (qba (by repeat (first | (with_reducible first | exact HB.out | apply qg | apply qc | apply qh | refine ql ?_ GE148.out | refine ql ?_ GE153.out | refine ql ?_ GE156.out) | exact HB.out)) hb); clear BK148; clear BK153; clear BK156; clear HB; have BK148 := n0_; have BK153 := n1_; have BK156 := n2_; have HB := n3_; clear n0_ n1_ n2_ n3_; (try clear hb); (try clear hb2); (try clear hk); (try clear hi))); try go_wp2_with (first | ((with_reducible refine qby (N := 8) rfl ?_); (try (refine qcb (by rfl) ?_; dsimp only)); refine qbx ?hg (N := 8) ?hd (cs := #[.int .i64 0, .int .i64 0, .string (⟨#[]⟩ : ByteArray), .slice none 0 0]) (t := 27) ?hr ?_; (case hd => rfl); (case hg => rfl); (case hr => first | (go_simp; done) | (go_simp; rfl)); intro gb156 hg w61 hbox hb; have n0_ := qd.mk (qbb (g := gb148) (o := .cells #[.int .i64 a0_0, .int .i64 a0_1, .string a0_2, .slice (some ad155) l0_3.length c0_3] 27 (0, 0)) (by (with_reducible repeat (first | refine qj ?_ _ | refine qm ?_ | refine qi ?_ _)); exact BK148.out) hb); have n1_ := qd.mk (qbb (g := gb153) (o := .cells #[.int .i64 0, .int .i64 x154001_17, .string x154002_17, .slice none 0 0] 27 (0, 0)) (by (with_reducible repeat (first | refine qj ?_ _ | refine qm ?_ | refine qi ?_ _)); exact BK153.out) hb); have n2_ := qd.mk (qba (by repeat (first | (with_reducible first | exact HB.out | apply qg | apply qc | apply qh | refine ql ?_ GE148.out | refine ql ?_ GE153.out) | exact HB.out)) hb); have n3_ := qd.mk (hbox); have n4_ := qd.mk ((by rw [hg]; exact (qbc (by repeat (first | (with_reducible first | exact HB.out | apply qg | apply qc | apply qh | refine ql ?_ GE148.out | refine ql ?_ GE153.out) | exact HB.out))) : w.heap.size ≤ gb156)); have n5_ := qd.mk ((by rw [hg]; exact (qbc (by repeat (first | (with_reducible first | exact HB.out | apply qg | apply qc | apply qh | refine ql ?_ GE148.out | refine ql ?_ GE153.out) | exact HB.out))) : w.heap.size ≤ gb156)); have n6_ := qd.mk ((by rw [hg]; exact Nat.ne_of_lt (qb0 (g := gb148) (o := .cells #[.int .i64 a0_0, .int .i64 a0_1, .string a0_2, .slice (some ad155) l0_3.length c0_3] 27 (0, 0)) (by (with_reducible repeat (first | refine qj ?_ _ | refine qm ?_ | refine qi ?_ _)); exact BK148.out)) : gb148 ≠ gb156)); have n7_ := qd.mk ((by rw [hg]; exact Nat.ne_of_gt (qb0 (g := gb148) (o := .cells #[.int .i64 a0_0, .int .i64 a0_1, .string a0_2, .slice (some ad155) l0_3.length c0_3] 27 (0, 0)) (by (with_reducible repeat (first | refine qj ?_ _ | refine qm ?_ | refine qi ?_ _)); exact BK148.out)) : gb156 ≠ gb148)); have n8_ := qd.mk ((by rw [hg]; exact Nat.ne_of_lt (qb0 (g := gb153) (o := .cells #[.int .i64 0, .int .i64 x154001_17, .string x154002_17, .slice none 0 0] 27 (0, 0)) (by (with_reducible repeat (first | refine qj ?_ _ | refine qm ?_ | refine qi ?_ _)); exact BK153.out)) : gb153 ≠ gb156)); have n9_ := qd.mk ((by rw [hg]; exact Nat.ne_of_gt (qb0 (g := gb153) (o := .cells #[.int .i64 0, .int .i64 x154001_17, .string x154002_17, .slice none 0 0] 27 (0, 0)) (by (with_reducible repeat (first | refine qj ?_ _ | refine qm ?_ | refine qi ?_ _)); exact BK153.out)) : gb156 ≠ gb153)); clear BK148; clear BK153; clear HB; have BK148 := n0_; have BK153 := n1_; have HB := n2_; have BK156 := n3_; have GW156 := n4_; have GE156 := n5_; have NB148_156 := n6_; have NB156_148 := n7_; have NB153_156 := n8_; have NB156_153 := n9_; clear n0_ n1_ n2_ n3_ n4_ n5_ n6_ n7_ n8_ n9_; clear hb hbox hg; have hnb62 := NB156_148.out; have hnc62 := NB148_156.out; have hnb63 := NB156_153.out; have hnc63 := NB153_156.out; have hcz64_0 : w61.cell? ⟨gb156, 0, none⟩ = some (.int .i64 0) := (qb BK156.out 0).trans rfl; have hcz64_1 : w61.cell? ⟨gb156, 1, none⟩ = some (.int .i64 0) := (qb BK156.out 1).trans rfl; have hcz64_2 : w61.cell? ⟨gb156, 2, none⟩ = some (.string (⟨#[]⟩ : ByteArray)) := (qb BK156.out 2).trans rfl; have hcz64_3 : w61.cell? ⟨gb156, 3, none⟩ = some (.slice none 0 0) := (qb BK156.out 3).trans rfl; have hfz64_0 := qa BK156.out 0; have hfz64_1 := qa BK156.out 1; have hfz64_2 := qa BK156.out 2; have hfz64_3 := qa BK156.out 3) | (go_at_call 88; (with_reducible refine (ih k4 (by have := HJ3.out; have := HJ17.out; have := HJ44.out; have := HK4.out; omega) ((qx l0_3 x76_4).f0) ((qx l0_3 x76_4).f1) ((qx l0_3 x76_4).f2) _ _ ((qx l0_3 x76_4).f3) (wrap64 (a1 - 1)) true _ ?side1 ?side2 ?side3 A59.out).mono ?_); (case side1 => exact Kd.qbv HR155_3.out (by repeat (first | (with_reducible first | exact HB.out | apply qg | apply qc | apply qh | refine ql ?_ GE148.out | refine ql ?_ GE153.out | refine ql ?_ GE156.out) | exact HB.out))); (case side2 => exact HC155_3.out); (case side3 => exact Lay.below HLAY.out (by repeat (first | (with_reducible first | exact HB.out | apply qg | apply qc | apply qh | refine ql ?_ GE148.out | refine ql ?_ GE153.out | refine ql ?_ GE156.out) | exact HB.out))); rintro e w65 ⟨rfl, hb⟩; have n0_ := qd.mk (qbb (g := gb148) (o := .cells #[.int .i64 a0_0, .int .i64 a0_1, .string a0_2, .slice (some ad155) l0_3.length c0_3] 27 (0, 0)) (by (with_reducible repeat (first | refine qj ?_ _ | refine qm ?_ | refine qi ?_ _)); refine qbn ?_ NB148_156.out _; (with_reducible repeat (first | refine qj ?_ _ | refine qm ?_ | refine qi ?_ _)); refine qbn ?_ NB148_156.out _; (with_reducible repeat (first | refine qj ?_ _ | refine qm ?_ | refine qi ?_ _)); refine qbn ?_ NB148_156.out _; (with_reducible repeat (first | refine qj ?_ _ | refine qm ?_ | refine qi ?_ _)); refine qbn ?_ NB148_156.out _; (with_reducible repeat (first | refine qj ?_ _ | refine qm ?_ | refine qi ?_ _)); exact BK148.out) hb); have n1_ := qd.mk (qbb (g := gb153) (o := .cells #[.int .i64 0, .int .i64 x154001_17, .string x154002_17, .slice none 0 0] 27 (0, 0)) (by (with_reducible repeat (first | refine qj ?_ _ | refine qm ?_ | refine qi ?_ _)); refine qbn ?_ NB153_156.out _; (with_reducible repeat (first | refine qj ?_ _ | refine qm ?_ | refine qi ?_ _)); refine qbn ?_ NB153_156.out _; (with_reducible repeat (first | refine qj ?_ _ | refine qm ?_ | refine qi ?_ _)); refine qbn ?_ NB153_156.out _; (with_reducible repeat (first | refine qj ?_ _ | refine qm ?_ | refine qi ?_ _)); refine qbn ?_ NB153_156.out _; (with_reducible repeat (first | refine qj ?_ _ | refine qm ?_ | refine qi ?_ _)); exact BK153.out) hb); have n2_ := qd.mk (qbb (g := gb156) (o := .cells #[.int .i64 ((qx l0_3 x76_4).f0), .int .i64 ((qx l0_3 x76_4).f1), .string ((qx l0_3 x76_4).f2), .slice A155_3 ((qx l0_3 x76_4).f3).length c155_3] 27 (0, 0)) (by (with_reducible repeat (first | refine qj ?_ _ | refine qm ?_ | refine qi ?_ _)); refine qbp (cs := #[.int .i64 ((qx l0_3 x76_4).f0), .int .i64 ((qx l0_3 x76_4).f1), .string ((qx l0_3 x76_4).f2), .slice none 0 0]) ?_ 3 _ rfl; (with_reducible repeat (first | refine qj ?_ _ | refine qm ?_ | refine qi ?_ _)); refine qbp (cs := #[.int .i64 ((qx l0_3 x76_4).f0), .int .i64 ((qx l0_3 x76_4).f1), .string (⟨#[]⟩ : ByteArray), .slice none 0 0]) ?_ 2 _ rfl; (with_reducible repeat (first | refine qj ?_ _ | refine qm ?_ | refine qi ?_ _)); refine qbp (cs := #[.int .i64 ((qx l0_3 x76_4).f0), .int .i64 0, .string (⟨#[]⟩ : ByteArray), .slice none 0 0]) ?_ 1 _ rfl; (with_reducible repeat (first | refine qj ?_ _ | refine qm ?_ | refine qi ?_ _)); refine qbp (cs := #[.int .i64 0, .int .i64 0, .string (⟨#[]⟩ : ByteArray), .slice none 0 0]) ?_ 0 _ rfl; (with_reducible repeat (first | refine qj ?_ _ | refine qm ?_ | refine qi ?_ _)); exact BK156.out) hb); have n3_ := qd.mk (qba (by repeat (first | (with_reducible first | exact HB.out | apply qg | apply qc | apply qh | refine ql ?_ GE148.out | refine ql ?_ GE153.out | refine ql ?_ GE156.out) | exact HB.out)) hb); clear BK148; clear BK153; clear BK156; clear HB; have BK148 := n0_; have BK153 := n1_; have BK156 := n2_; have HB := n3_; clear n0_ n1_ n2_ n3_; (try clear hb); (try clear hb2); (try clear hk); (try clear hi))))
               go_roundg k4
               case measure => have := HJ3.out; have := HJ17.out; have := HJ44.out; have := HK4.out; omega
               case rel => exact ⟨(wrap64 (x76_4 + 1)), (by first | rfl | (simp; done) | (simp [*]; done)), H', ⟨by have := HJ3.out; have := HJ17.out; have := HJ44.out; have := HK4.out; omega⟩, ⟨by (with_reducible repeat (first | refine qj ?_ _ | refine qm ?_ | refine qi ?_ _)); exact BK148.out⟩, ⟨by (with_reducible repeat (first | refine qj ?_ _ | refine qm ?_ | refine qi ?_ _)); exact BK153.out⟩, ⟨by repeat (first | (with_reducible first | exact HB.out | apply qg | apply qc | apply qh | refine ql ?_ GE148.out | refine ql ?_ GE153.out | refine ql ?_ GE156.out) | exact HB.out)⟩⟩
              ·replace c60 := Bool.eq_false_iff.mpr c60
               subst c60
               have H1 : (some false) = some r := by rw [if_neg (show ¬ (false = true) by decide)] at H; exact H
               clear H
               have H := H1
               clear H1
               obtain rfl := Option.some.inj H
               have p155 : 0 ≤ (x76_4 : Int) := of_decide_eq_true (by first | (with_reducible assumption) | assumption)
               have q155 : x76_4 < (l0_3.length : Int) := of_decide_eq_true (by first | (with_reducible assumption) | assumption)
               obtain ⟨ad155, A155_3, c155_3, e155, hx155_0, hx155_1, hx155_2, hx155_3, hl155_3, hi155_3⟩ := qd7 HR0_3.out x76_4 p155 q155
               cases e155
               replace hx155_0 := (HB.out.cell (World.block_lt_of_cell? w _ hx155_0)).trans hx155_0
               replace hx155_1 := (HB.out.cell (World.block_lt_of_cell? w _ hx155_1)).trans hx155_1
               replace hx155_2 := (HB.out.cell (World.block_lt_of_cell? w _ hx155_2)).trans hx155_2
               replace hx155_3 := (HB.out.cell (World.block_lt_of_cell? w _ hx155_3)).trans hx155_3
               have HR155_3 := qd.mk hi155_3
               have HC155_3 := qd.mk hl155_3
               clear hi155_3 hl155_3
               replace p155 := eq_true p155
               replace q155 := eq_true q155
               go_wp2_with (first | ((with_reducible refine qby (N := 8) rfl ?_); (try (refine qcb (by rfl) ?_; dsimp only)); refine qbx ?hg (N := 8) ?hd (cs := #[.int .i64 0, .int .i64 0, .string (⟨#[]⟩ : ByteArray), .slice none 0 0]) (t := 27) ?hr ?_; (case hd => rfl); (case hg => rfl); (case hr => first | (go_simp; done) | (go_simp; rfl)); intro gb156 hg w66 hbox hb; have n0_ := qd.mk (qbb (g := gb148) (o := .cells #[.int .i64 a0_0, .int .i64 a0_1, .string a0_2, .slice (some ad155) l0_3.length c0_3] 27 (0, 0)) (by (with_reducible repeat (first | refine qj ?_ _ | refine qm ?_ | refine qi ?_ _)); exact BK148.out) hb); have n1_ := qd.mk (qbb (g := gb153) (o := .cells #[.int .i64 0, .int .i64 x154001_17, .string x154002_17, .slice none 0 0] 27 (0, 0)) (by (with_reducible repeat (first | refine qj ?_ _ | refine qm ?_ | refine qi ?_ _)); exact BK153.out) hb); have n2_ := qd.mk (qba (by repeat (first | (with_reducible first | exact HB.out | apply qg | apply qc | apply qh | refine ql ?_ GE148.out | refine ql ?_ GE153.out) | exact HB.out)) hb); have n3_ := qd.mk (hbox); have n4_ := qd.mk ((by rw [hg]; exact (qbc (by repeat (first | (with_reducible first | exact HB.out | apply qg | apply qc | apply qh | refine ql ?_ GE148.out | refine ql ?_ GE153.out) | exact HB.out))) : w.heap.size ≤ gb156)); have n5_ := qd.mk ((by rw [hg]; exact (qbc (by repeat (first | (with_reducible first | exact HB.out | apply qg | apply qc | apply qh | refine ql ?_ GE148.out | refine ql ?_ GE153.out) | exact HB.out))) : w.heap.size ≤ gb156)); have n6_ := qd.mk ((by rw [hg]; exact Nat.ne_of_lt (qb0 (g := gb148) (o := .cells #[.int .i64 a0_0, .int .i64 a0_1, .string a0_2, .slice (some ad155) l0_3.length c0_3] 27 (0, 0)) (by (with_reducible repeat (first | refine qj ?_ _ | refine qm ?_ | refine qi ?_ _)); exact BK148.out)) : gb148 ≠ gb156)); have n7_ := qd.mk ((by rw [hg]; exact Nat.ne_of_gt (qb0 (g := gb148) (o := .cells #[.int .i64 a0_0, .int .i64 a0_1, .string a0_2, .slice (some ad155) l0_3.length c0_3] 27 (0, 0)) (by (with_reducible repeat (first | refine qj ?_ _ | refine qm ?_ | refine qi ?_ _)); exact BK148.out)) : gb156 ≠ gb148)); have n8_ := qd.mk ((by rw [hg]; exact Nat.ne_of_lt (qb0 (g := gb153) (o := .cells #[.int .i64 0, .int .i64 x154001_17, .string x154002_17, .slice none 0 0] 27 (0, 0)) (by (with_reducible repeat (first | refine qj ?_ _ | refine qm ?_ | refine qi ?_ _)); exact BK153.out)) : gb153 ≠ gb156)); have n9_ := qd.mk ((by rw [hg]; exact Nat.ne_of_gt (qb0 (g := gb153) (o := .cells #[.int .i64 0, .int .i64 x154001_17, .string x154002_17, .slice none 0 0] 27 (0, 0)) (by (with_reducible repeat (first | refine qj ?_ _ | refine qm ?_ | refine qi ?_ _)); exact BK153.out)) : gb156 ≠ gb153)); clear BK148; clear BK153; clear HB; have BK148 := n0_; have BK153 := n1_; have HB := n2_; have BK156 := n3_; have GW156 := n4_; have GE156 := n5_; have NB148_156 := n6_; have NB156_148 := n7_; have NB153_156 := n8_; have NB156_153 := n9_; clear n0_ n1_ n2_ n3_ n4_ n5_ n6_ n7_ n8_ n9_; clear hb hbox hg; have hnb67 := NB156_148.out; have hnc67 := NB148_156.out; have hnb68 := NB156_153.out; have hnc68 := NB153_156.out; have hcz69_0 : w66.cell? ⟨gb156, 0, none⟩ = some (.int .i64 0) := (qb BK156.out 0).trans rfl; have hcz69_1 : w66.cell? ⟨gb156, 1, none⟩ = some (.int .i64 0) := (qb BK156.out 1).trans rfl; have hcz69_2 : w66.cell? ⟨gb156, 2, none⟩ = some (.string (⟨#[]⟩ : ByteArray)) := (qb BK156.out 2).trans rfl; have hcz69_3 : w66.cell? ⟨gb156, 3, none⟩ = some (.slice none 0 0) := (qb BK156.out 3).trans rfl; have hfz69_0 := qa BK156.out 0; have hfz69_1 := qa BK156.out 1; have hfz69_2 := qa BK156.out 2; have hfz69_3 := qa BK156.out 3) | (go_at_call 88; (with_reducible refine (ih k4 (by have := HJ3.out; have := HJ17.out; have := HJ44.out; have := HK4.out; omega) ((qx l0_3 x76_4).f0) ((qx l0_3 x76_4).f1) ((qx l0_3 x76_4).f2) _ _ ((qx l0_3 x76_4).f3) (wrap64 (a1 - 1)) false _ ?side1 ?side2 ?side3 A59.out).mono ?_); (case side1 => exact Kd.qbv HR155_3.out (by repeat (first | (with_reducible first | exact HB.out | apply qg | apply qc | apply qh | refine ql ?_ GE148.out | refine ql ?_ GE153.out | refine ql ?_ GE156.out) | exact HB.out))); (case side2 => exact HC155_3.out); (case side3 => exact Lay.below HLAY.out (by repeat (first | (with_reducible first | exact HB.out | apply qg | apply qc | apply qh | refine ql ?_ GE148.out | refine ql ?_ GE153.out | refine ql ?_ GE156.out) | exact HB.out))); rintro e w70 ⟨rfl, hb⟩; have n0_ := qd.mk (qbb (g := gb148) (o := .cells #[.int .i64 a0_0, .int .i64 a0_1, .string a0_2, .slice (some ad155) l0_3.length c0_3] 27 (0, 0)) (by (with_reducible repeat (first | refine qj ?_ _ | refine qm ?_ | refine qi ?_ _)); refine qbn ?_ NB148_156.out _; (with_reducible repeat (first | refine qj ?_ _ | refine qm ?_ | refine qi ?_ _)); refine qbn ?_ NB148_156.out _; (with_reducible repeat (first | refine qj ?_ _ | refine qm ?_ | refine qi ?_ _)); refine qbn ?_ NB148_156.out _; (with_reducible repeat (first | refine qj ?_ _ | refine qm ?_ | refine qi ?_ _)); refine qbn ?_ NB148_156.out _; (with_reducible repeat (first | refine qj ?_ _ | refine qm ?_ | refine qi ?_ _)); exact BK148.out) hb); have n1_ := qd.mk (qbb (g := gb153) (o := .cells #[.int .i64 0, .int .i64 x154001_17, .string x154002_17, .slice none 0 0] 27 (0, 0)) (by (with_reducible repeat (first | refine qj ?_ _ | refine qm ?_ | refine qi ?_ _)); refine qbn ?_ NB153_156.out _; (with_reducible repeat (first | refine qj ?_ _ | refine qm ?_ | refine qi ?_ _)); refine qbn ?_ NB153_156.out _; (with_reducible repeat (first | refine qj ?_ _ | refine qm ?_ | refine qi ?_ _)); refine qbn ?_ NB153_156.out _; (with_reducible repeat (first | refine qj ?_ _ | refine qm ?_ | refine qi ?_ _)); refine qbn ?_ NB153_156.out _; (with_reducible repeat (first | refine qj ?_ _ | refine qm ?_ | refine qi ?_ _)); exact BK153.out) hb); have n2_ := qd.mk (qbb (g := gb156) (o := .cells #[.int .i64 ((qx l0_3 x76_4).f0), .int .i64 ((qx l0_3 x76_4).f1), .string ((qx l0_3 x76_4).f2), .slice A155_3 ((qx l0_3 x76_4).f3).length c155_3] 27 (0, 0)) (by (with_reducible repeat (first | refine qj ?_ _ | refine qm ?_ | refine qi ?_ _)); refine qbp (cs := #[.int .i64 ((qx l0_3 x76_4).f0), .int .i64 ((qx l0_3 x76_4).f1), .string ((qx l0_3 x76_4).f2), .slice none 0 0]) ?_ 3 _ rfl; (with_reducible repeat (first | refine qj ?_ _ | refine qm ?_ | refine qi ?_ _)); refine qbp (cs := #[.int .i64 ((qx l0_3 x76_4).f0), .int .i64 ((qx l0_3 x76_4).f1), .string (⟨#[]⟩ : ByteArray), .slice none 0 0]) ?_ 2 _ rfl; (with_reducible repeat (first | refine qj ?_ _ | refine qm ?_ | refine qi ?_ _)); refine qbp (cs := #[.int .i64 ((qx l0_3 x76_4).f0), .int .i64 0, .string (⟨#[]⟩ : ByteArray), .slice none 0 0]) ?_ 1 _ rfl; (with_reducible repeat (first | refine qj ?_ _ | refine qm ?_ | refine qi ?_ _)); refine qbp (cs := #[.int .i64 0, .int .i64 0, .string (⟨#[]⟩ : ByteArray), .slice none 0 0]) ?_ 0 _ rfl; (with_reducible repeat (first | refine qj ?_ _ | refine qm ?_ | refine qi ?_ _)); exact BK156.out) hb); have n3_ := qd.mk (qba (by repeat (first | (with_reducible first | exact HB.out | apply qg | apply qc | apply qh | refine ql ?_ GE148.out | refine ql ?_ GE153.out | refine ql ?_ GE156.out) | exact HB.out)) hb); clear BK148; clear BK153; clear BK156; clear HB; have BK148 := n0_; have BK153 := n1_; have BK156 := n2_; have HB := n3_; clear n0_ n1_ n2_ n3_; (try clear hb); (try clear hb2); (try clear hk); (try clear hi)))
               repeat (go_quiet (first | ((with_reducible refine qby (N := 8) rfl ?_); (try (refine qcb (by rfl) ?_; dsimp only)); refine qbx ?hg (N := 8) ?hd (cs := #[.int .i64 0, .int .i64 0, .string (⟨#[]⟩ : ByteArray), .slice none 0 0]) (t := 27) ?hr ?_; (case hd => rfl); (case hg => rfl); (case hr => first | (go_simp; done) | (go_simp; rfl)); intro gb156 hg w66 hbox hb; have n0_ := qd.mk (qbb (g := gb148) (o := .cells #[.int .i64 a0_0, .int .i64 a0_1, .string a0_2, .slice (some ad155) l0_3.length c0_3] 27 (0, 0)) (by (with_reducible repeat (first | refine qj ?_ _ | refine qm ?_ | refine qi ?_ _)); exact BK148.out) hb); have n1_ := qd.mk (qbb (g := gb153) (o := .cells #[.int .i64 0, .int .i64 x154001_17, .string x154002_17, .slice none 0 0] 27 (0, 0)) (by (with_reducible repeat (first | refine qj ?_ _ | refine qm ?_ | refine qi ?_ _)); exact BK153.out) hb); have n2_ := qd.mk (qba (by repeat (first | (with_reducible first | exact HB.out | apply qg | apply qc | apply qh | refine ql ?_ GE148.out | refine ql ?_ GE153.out) | exact HB.out)) hb); have n3_ := qd.mk (hbox); have n4_ := qd.mk ((by rw [hg]; exact (qbc (by repeat (first | (with_reducible first | exact HB.out | apply qg | apply qc | apply qh | refine ql ?_ GE148.out | refine ql ?_ GE153.out) | exact HB.out))) : w.heap.size ≤ gb156)); have n5_ := qd.mk ((by rw [hg]; exact (qbc (by repeat (first | (with_reducible first | exact HB.out | apply qg | apply qc | apply qh | refine ql ?_ GE148.out | refine ql ?_ GE153.out) | exact HB.out))) : w.heap.size ≤ gb156)); have n6_ := qd.mk ((by rw [hg]; exact Nat.ne_of_lt (qb0 (g := gb148) (o := .cells #[.int .i64 a0_0, .int .i64 a0_1, .string a0_2, .slice (some ad155) l0_3.length c0_3] 27 (0, 0)) (by (with_reducible repeat (first | refine qj ?_ _ | refine qm ?_ | refine qi ?_ _)); exact BK148.out)) : gb148 ≠ gb156)); have n7_ := qd.mk ((by rw [hg]; exact Nat.ne_of_gt (qb0 (g := gb148) (o := .cells #[.int .i64 a0_0, .int .i64 a0_1, .string a0_2, .slice (some ad155) l0_3.length c0_3] 27 (0, 0)) (by (with_reducible repeat (first | refine qj ?_ _ | refine qm ?_ | refine qi ?_ _)); exact BK148.out)) : gb156 ≠ gb148)); have n8_ := qd.mk ((by rw [hg]; exact Nat.ne_of_lt (qb0 (g := gb153) (o := .cells #[.int .i64 0, .int .i64 x154001_17, .string x154002_17, .slice none 0 0] 27 (0, 0)) (by (with_reducible repeat (first | refine qj ?_ _ | refine qm ?_ | refine qi ?_ _)); exact BK153.out)) : gb153 ≠ gb156)); have n9_ := qd.mk ((by rw [hg]; exact Nat.ne_of_gt (qb0 (g := gb153) (o := .cells #[.int .i64 0, .int .i64 x154001_17, .string x154002_17, .slice none 0 0] 27 (0, 0)) (by (with_reducible repeat (first | refine qj ?_ _ | refine qm ?_ | refine qi ?_ _)); exact BK153.out)) : gb156 ≠ gb153)); clear BK148; clear BK153; clear HB; have BK148 := n0_; have BK153 := n1_; have HB := n2_; have BK156 := n3_; have GW156 := n4_; have GE156 := n5_; have NB148_156 := n6_; have NB156_148 := n7_; have NB153_156 := n8_; have NB156_153 := n9_; clear n0_ n1_ n2_ n3_ n4_ n5_ n6_ n7_ n8_ n9_; clear hb hbox hg; have hnb67 := NB156_148.out; have hnc67 := NB148_156.out; have hnb68 := NB156_153.out; have hnc68 := NB153_156.out; have hcz69_0 : w66.cell? ⟨gb156, 0, none⟩ = some (.int .i64 0) := (qb BK156.out 0).trans rfl; have hcz69_1 : w66.cell? ⟨gb156, 1, none⟩ = some (.int .i64 0) := (qb BK156.out 1).trans rfl; have hcz69_2 : w66.cell? ⟨gb156, 2, none⟩ = some (.string (⟨#[]⟩ : ByteArray)) := (qb BK156.out 2).trans rfl; have hcz69_3 : w66.cell? ⟨gb156, 3, none⟩ = some (.slice none 0 0) := (qb BK156.out 3).trans rfl; have hfz69_0 := qa BK156.out 0; have hfz69_1 := qa BK156.out 1; have hfz69_2 := qa BK156.out 2; have hfz69_3 := qa BK156.out 3) | (go_at_call 88; (with_reducible refine (ih k4 (by have := HJ3.out; have := HJ17.out; have := HJ44.out; have := HK4.out; omega) ((qx l0_3 x76_4).f0) ((qx l0_3 x76_4).f1) ((qx l0_3 x76_4).f2) _ _ ((qx l0_3 x76_4).f3) (wrap64 (a1 - 1)) false _ ?side1 ?side2 ?side3 A59.out).mono ?_); (case side1 => exact Kd.qbv HR155_3.out (by repeat (first | (with_reducible first | exact HB.out | apply qg | apply qc | apply qh | refine ql ?_ GE148.out | refine ql ?_ GE153.out | refine ql ?_ GE156.out) | exact HB.out))); (case side2 => exact HC155_3.out); (case side3 => exact Lay.below HLAY.out (by repeat (first | (with_reducible first | exact HB.out | apply qg | apply qc | apply qh | refine ql ?_ GE148.out | refine ql ?_ GE153.out | refine ql ?_ GE156.out) | exact HB.out))); rintro e w70 ⟨rfl, hb⟩; have n0_ := qd.mk (qbb (g := gb148) (o := .cells #[.int .i64 a0_0, .int .i64 a0_1, .string a0_2, .slice (some ad155) l0_3.length c0_3] 27 (0, 0)) (by (with_reducible repeat (first | refine qj ?_ _ | refine qm ?_ | refine qi ?_ _)); refine qbn ?_ NB148_156.out _; (with_reducible repeat (first | refine qj ?_ _ | refine qm ?_ | refine qi ?_ _)); refine qbn ?_ NB148_156.out _; (with_reducible repeat (first | refine qj ?_ _ | refine qm ?_ | refine qi ?_ _)); refine qbn ?_ NB148_156.out _; (with_reducible repeat (first | refine qj ?_ _ | refine qm ?_ | refine qi ?_ _)); refine qbn ?_ NB148_156.out _; (with_reducible repeat (first | refine qj ?_ _ | refine qm ?_ | refine qi ?_ _)); exact BK148.out) hb); have n1_ := qd.mk (qbb (g := gb153) (o := .cells #[.int .i64 0, .int .i64 x154001_17, .string x154002_17, .slice none 0 0] 27 (0, 0)) (by (with_reducible repeat (first | refine qj ?_ _ | refine qm ?_ | refine qi ?_ _)); refine qbn ?_ NB153_156.out _; (with_reducible repeat (first | refine qj ?_ _ | refine qm ?_ | refine qi ?_ _)); refine qbn ?_ NB153_156.out _; (with_reducible repeat (first | refine qj ?_ _ | refine qm ?_ | refine qi ?_ _)); refine qbn ?_ NB153_156.out _; (with_reducible repeat (first | refine qj ?_ _ | refine qm ?_ | refine qi ?_ _)); refine qbn ?_ NB153_156.out _; (with_reducible repeat (first | refine qj ?_ _ | refine qm ?_ | refine qi ?_ _)); exact BK153.out) hb); have n2_ := qd.mk (qbb (g := gb156) (o := .cells #[.int .i64 ((qx l0_3 x76_4).f0), .int .i64 ((qx l0_3 x76_4).f1), .string ((qx l0_3 x76_4).f2), .slice A155_3 ((qx l0_3 x76_4).f3).length c155_3] 27 (0, 0)) (by (with_reducible repeat (first | refine qj ?_ _ | refine qm ?_ | refine qi ?_ _)); refine qbp (cs := #[.int .i64 ((qx l0_3 x76_4).f0), .int .i64 ((qx l0_3 x76_4).f1), .string ((qx l0_3 x76_4).f2), .slice none 0 0]) ?_ 3 _ rfl; (with_reducible repeat (first | refine qj ?_ _ | refine qm ?_ | refine qi ?_ _)); refine qbp (cs := #[.int .i64 ((qx l0_3 x76_4).f0), .int .i64 ((qx l0_3 x76_4).f1), .string (⟨#[]⟩ : ByteArray), .slice none 0 0]) ?_ 2 _ rfl; (with_reducible repeat (first | refine qj ?_ _ | refine qm ?_ | refine qi ?_ _)); refine qbp (cs := #[.int .i64 ((qx l0_3 x76_4).f0), .int .i64 0, .string (⟨#[]⟩ : ByteArray), .slice none 0 0]) ?_ 1 _ rfl; (with_reducible repeat (first | refine qj ?_ _ | refine qm ?_ | refine qi ?_ _)); refine qbp (cs := #[.int .i64 0, .int .i64 0, .string (⟨#[]⟩ : ByteArray), .slice none 0 0]) ?_ 0 _ rfl; (with_reducible repeat (first | refine qj ?_ _ | refine qm ?_ | refine qi ?_ _)); exact BK156.out) hb); have n3_ := qd.mk (qba (by repeat (first | (with_reducible first | exact HB.out | apply qg | apply qc | apply qh | refine ql ?_ GE148.out | refine ql ?_ GE153.out | refine ql ?_ GE156.out) | exact HB.out)) hb); clear BK148; clear BK153; clear BK156; clear HB; have BK148 := n0_; have BK153 := n1_; have BK156 := n2_; have HB := n3_; clear n0_ n1_ n2_ n3_; (try clear hb); (try clear hb2); (try clear hk); (try clear hi))); try go_wp2_with (first | ((with_reducible refine qby (N := 8) rfl ?_); (try (refine qcb (by rfl) ?_; dsimp only)); refine qbx ?hg (N := 8) ?hd (cs := #[.int .i64 0, .int .i64 0, .string (⟨#[]⟩ : ByteArray), .slice none 0 0]) (t := 27) ?hr ?_; (case hd => rfl); (case hg => rfl); (case hr => first | (go_simp; done) | (go_simp; rfl)); intro gb156 hg w66 hbox hb; have n0_ := qd.mk (qbb (g := gb148) (o := .cells #[.int .i64 a0_0, .int .i64 a0_1, .string a0_2, .slice (some ad155) l0_3.length c0_3] 27 (0, 0)) (by (with_reducible repeat (first | refine qj ?_ _ | refine qm ?_ | refine qi ?_ _)); exact BK148.out) hb); have n1_ := qd.mk (qbb (g := gb153) (o := .cells #[.int .i64 0, .int .i64 x154001_17, .string x154002_17, .slice none 0 0] 27 (0, 0)) (by (with_reducible repeat (first | refine qj ?_ _ | refine qm ?_ | refine qi ?_ _)); exact BK153.out) hb); have n2_ := qd.mk (qba (by repeat (first | (with_reducible first | exact HB.out | apply qg | apply qc | apply qh | refine ql ?_ GE148.out | refine ql ?_ GE153.out) | exact HB.out)) hb); have n3_ := qd.mk (hbox); have n4_ := qd.mk ((by rw [hg]; exact (qbc (by repeat (first | (with_reducible first | exact HB.out | apply qg | apply qc | apply qh | refine ql ?_ GE148.out | refine ql ?_ GE153.out) | exact HB.out))) : w.heap.size ≤ gb156)); have n5_ := qd.mk ((by rw [hg]; exact (qbc (by repeat (first | (with_reducible first | exact HB.out | apply qg | apply qc | apply qh | refine ql ?_ GE148.out | refine ql ?_ GE153.out) | exact HB.out))) : w.heap.size ≤ gb156)); have n6_ := qd.mk ((by rw [hg]; exact Nat.ne_of_lt (qb0 (g := gb148) (o := .cells #[.int .i64 a0_0, .int .i64 a0_1, .string a0_2, .slice (some ad155) l0_3.length c0_3] 27 (0, 0)) (by (with_reducible repeat (first | refine qj ?_ _ | refine qm ?_ | refine qi ?_ _)); exact BK148.out)) : gb148 ≠ gb156)); have n7_ := qd.mk ((by rw [hg]; exact Nat.ne_of_gt (qb0 (g := gb148) (o := .cells #[.int .i64 a0_0, .int .i64 a0_1, .string a0_2, .slice (some ad155) l0_3.length c0_3] 27 (0, 0)) (by (with_reducible repeat (first | refine qj ?_ _ | refine qm ?_ | refine qi ?_ _)); exact BK148.out)) : gb156 ≠ gb148)); have n8_ := qd.mk ((by rw [hg]; exact Nat.ne_of_lt (qb0 (g := gb153) (o := .cells #[.int .i64 0, .int .i64 x154001_17, .string x154002_17, .slice none 0 0] 27 (0, 0)) (by (with_reducible repeat (first | refine qj ?_ _ | refine qm ?_ | refine qi ?_ _)); exact BK153.out)) : gb153 ≠ gb156)); have n9_ := qd.mk ((by rw [hg]; exact Nat.ne_of_gt (qb0 (g := gb153) (o := .cells #[.int .i64 0, .int .i64 x154001_17, .string x154002_17, .slice none 0 0] 27 (0, 0)) (by (with_reducible repeat (first | refine qj ?_ _ | refine qm ?_ | refine qi ?_ _)); exact BK153.out)) : gb156 ≠ gb153)); clear BK148; clear BK153; clear HB; have BK148 := n0_; have BK153 := n1_; have HB := n2_; have BK156 := n3_; have GW156 := n4_; have GE156 := n5_; have NB148_156 := n6_; have NB156_148 := n7_; have NB153_156 := n8_; have NB156_153 := n9_; clear n0_ n1_ n2_ n3_ n4_ n5_ n6_ n7_ n8_ n9_; clear hb hbox hg; have hnb67 := NB156_148.out; have hnc67 := NB148_156.out; have hnb68 := NB156_153.out; have hnc68 := NB153_156.out; have hcz69_0 : w66.cell? ⟨gb156, 0, none⟩ = some (.int .i64 0) := (qb BK156.out 0).trans rfl; have hcz69_1 : w66.cell? ⟨gb156, 1, none⟩ = some (.int .i64 0) := (qb BK156.out 1).trans rfl; have hcz69_2 : w66.cell? ⟨gb156, 2, none⟩ = some (.string (⟨#[]⟩ : ByteArray)) := (qb BK156.out 2).trans rfl; have hcz69_3 : w66.cell? ⟨gb156, 3, none⟩ = some (.slice none 0 0) := (qb BK156.out 3).trans rfl; have hfz69_0 := qa BK156.out 0; have hfz69_1 := qa BK156.out 1; have hfz69_2 := qa BK156.out 2; have hfz69_3 := qa BK156.out 3) | (go_at_call 88; (with_reducible refine (ih k4 (by have := HJ3.out; have := HJ17.out; have := HJ44.out; have := HK4.out; omega) ((qx l0_3 x76_4).f0) ((qx l0_3 x76_4).f1) ((qx l0_3 x76_4).f2) _ _ ((qx l0_3 x76_4).f3) (wrap64 (a1 - 1)) false _ ?side1 ?side2 ?side3 A59.out).mono ?_); (case side1 => exact Kd.qbv HR155_3.out (by repeat (first | (with_reducible first | exact HB.out | apply qg | apply qc | apply qh | refine ql ?_ GE148.out | refine ql ?_ GE153.out | refine ql ?_ GE156.out) | exact HB.out))); (case side2 => exact HC155_3.out); (case side3 => exact Lay.below HLAY.out (by repeat (first | (with_reducible first | exact HB.out | apply qg | apply qc | apply qh | refine ql ?_ GE148.out | refine ql ?_ GE153.out | refine ql ?_ GE156.out) | exact HB.out))); rintro e w70 ⟨rfl, hb⟩; have n0_ := qd.mk (qbb (g := gb148) (o := .cells #[.int .i64 a0_0, .int .i64 a0_1, .string a0_2, .slice (some ad155) l0_3.length c0_3] 27 (0, 0)) (by (with_reducible repeat (first | refine qj ?_ _ | refine qm ?_ | refine qi ?_ _)); refine qbn ?_ NB148_156.out _; (with_reducible repeat (first | refine qj ?_ _ | refine qm ?_ | refine qi ?_ _)); refine qbn ?_ NB148_156.out _; (with_reducible repeat (first | refine qj ?_ _ | refine qm ?_ | refine qi ?_ _)); refine qbn ?_ NB148_156.out _; (with_reducible repeat (first | refine qj ?_ _ | refine qm ?_ | refine qi ?_ _)); refine qbn ?_ NB148_156.out _; (with_reducible repeat (first | refine qj ?_ _ | refine qm ?_ | refine qi ?_ _)); exact BK148.out) hb); have n1_ := qd.mk (qbb (g := gb153) (o := .cells #[.int .i64 0, .int .i64 x154001_17, .string x154002_17, .slice none 0 0] 27 (0, 0)) (by (with_reducible repeat (first | refine qj ?_ _ | refine qm ?_ | refine qi ?_ _)); refine qbn ?_ NB153_156.out _; (with_reducible repeat (first | refine qj ?_ _ | refine qm ?_ | refine qi ?_ _)); refine qbn ?_ NB153_156.out _; (with_reducible repeat (first | refine qj ?_ _ | refine qm ?_ | refine qi ?_ _)); refine qbn ?_ NB153_156.out _; (with_reducible repeat (first | refine qj ?_ _ | refine qm ?_ | refine qi ?_ _)); refine qbn ?_ NB153_156.out _; (with_reducible repeat (first | refine qj ?_ _ | refine qm ?_ | refine qi ?_ _)); exact BK153.out) hb); have n2_ := qd.mk (qbb (g := gb156) (o := .cells #[.int .i64 ((qx l0_3 x76_4).f0), .int .i64 ((qx l0_3 x76_4).f1), .string ((qx l0_3 x76_4).f2), .slice A155_3 ((qx l0_3 x76_4).f3).length c155_3] 27 (0, 0)) (by (with_reducible repeat (first | refine qj ?_ _ | refine qm ?_ | refine qi ?_ _)); refine qbp (cs := #[.int .i64 ((qx l0_3 x76_4).f0), .int .i64 ((qx l0_3 x76_4).f1), .string ((qx l0_3 x76_4).f2), .slice none 0 0]) ?_ 3 _ rfl; (with_reducible repeat (first | refine qj ?_ _ | refine qm ?_ | refine qi ?_ _)); refine qbp (cs := #[.int .i64 ((qx l0_3 x76_4).f0), .int .i64 ((qx l0_3 x76_4).f1), .string (⟨#[]⟩ : ByteArray), .slice none 0 0]) ?_ 2 _ rfl; (with_reducible repeat (first | refine qj ?_ _ | refine qm ?_ | refine qi ?_ _)); refine qbp (cs := #[.int .i64 ((qx l0_3 x76_4).f0), .int .i64 0, .string (⟨#[]⟩ : ByteArray), .slice none 0 0]) ?_ 1 _ rfl; (with_reducible repeat (first | refine qj ?_ _ | refine qm ?_ | refine qi ?_ _)); refine qbp (cs := #[.int .i64 0, .int .i64 0, .string (⟨#[]⟩ : ByteArray), .slice none 0 0]) ?_ 0 _ rfl; (with_reducible repeat (first | refine qj ?_ _ | refine qm ?_ | refine qi ?_ _)); exact BK156.out) hb); have n3_ := qd.mk (qba (by repeat (first | (with_reducible first | exact HB.out | apply qg | apply qc | apply qh | refine ql ?_ GE148.out | refine ql ?_ GE153.out | refine ql ?_ GE156.out) | exact HB.out)) hb); clear BK148; clear BK153; clear BK156; clear HB; have BK148 := n0_; have BK153 := n1_; have BK156 := n2_; have HB := n3_; clear n0_ n1_ n2_ n3_; (try clear hb); (try clear hb2); (try clear hk); (try clear hi))))
               go_ret
               exact ⟨by first | rfl | (simp [q9, qz] <;> rfl) | (simp [*, q9, qz] <;> rfl), by repeat (first | (with_reducible first | exact HB.out | apply qg | apply qc | apply qh | refine ql ?_ GE148.out | refine ql ?_ GE153.out | refine ql ?_ GE156.out) | exact HB.out)⟩
             ·rw [if_neg c58] at H
              exact absurd H (by simp)
            ·rw [if_neg c57] at H
             exact absurd H (by simp)
           ·rw [if_neg c56] at H
            have c56b0 : decide (x76_4 < (l0_3.length : Int)) = false := decide_eq_false c56
            clear c56
            obtain rfl := Option.some.inj H
            go_wp2
            repeat (go_quiet (fail); try go_wp2)
            go_ret
            exact ⟨by first | rfl | (simp [q9, qz] <;> rfl) | (simp [*, q9, qz] <;> rfl), by repeat (first | (with_reducible first | exact HB.out | apply qg | apply qc | apply qh | refine ql ?_ GE148.out | refine ql ?_ GE153.out) | exact HB.out)⟩
def qb7.f (k : Nat) (a0_0 : Int) (a0_1 : Int) (a0_2 : ByteArray) (l0_3 : List (S27)) : Option (Bool) := (qy.f k a0_0 a0_1 a0_2 l0_3 40).bind fun t159 => (some t159)
theorem qb7.mono : ∀ a0 a1 a2 a3 k, LeO (qb7.f k a0 a1 a2 a3) (qb7.f (k + 1) a0 a1 a2 a3) := by
 intro a0 a1 a2 a3 k
 unfold qb7.f
 repeat' first
   | (with_reducible exact qy.mono _ _ _ _ _ _)
   | (with_reducible exact LeO.refl _)
   | (with_reducible exact LeO.none _)
   | (with_reducible refine LeO.ite ?_ ?_)
   | (with_reducible refine LeO.bind ?_ (fun _ => ?_))
   | exact qy.mono _ _ _ _ _ _
   | exact LeO.none _
   | refine LeO.ite ?_ ?_
   | refine LeO.bind ?_ (fun _ => ?_)
set_option maxHeartbeats 8000000 in
set_option maxRecDepth 100000 in
theorem qb7.calls (k : Nat) (a0_0 : Int) (a0_1 : Int) (a0_2 : ByteArray) (A0_3 : Option Addr) (c0_3 : Nat) (l0_3 : List (S27)) (r : Bool) (w : World) (hr0_3 : Kd.C k27 w A0_3 l0_3.length l0_3) (hc0_3 : l0_3.length ≤ c0_3) (hG : Lay w) (h : qb7.f k a0_0 a0_1 a0_2 l0_3 = some r) :
  Calls Tryd.prog 83 #[.agg #[.int .i64 a0_0, .int .i64 a0_1, .string a0_2, .slice A0_3 l0_3.length c0_3]] w fun e w' => e = .returned (.bool r) ∧ Below w.heap.size w w' := by
 have hu27 := Tryd.underlying27
 have HR0_3 := qd.mk hr0_3
 have HC0_3 := qd.mk hc0_3
 clear hr0_3 hc0_3
 have HB := qd.mk (Below.refl w.heap.size w)
 have HLAY := qd.mk hG
 clear hG
 have H : ((qy.f k a0_0 a0_1 a0_2 l0_3 40).bind fun t159 => (some t159)) = some r := h
 clear h
 replace H := Option.bind_eq_some_iff.mp H
 obtain ⟨t159, A20, H⟩ := H
 replace H : (some t159) = some r := H
 have A2 := qd.mk A20
 clear A20
 obtain rfl := Option.some.inj H
 go_enter Tryd.func83, Tryd.ntmps83
 go_wp2_with (first | ((with_reducible refine qby (N := 1) rfl ?_); refine qbx ?hg (N := 1) ?hd (cs := #[.int .i64 a0_0, .int .i64 a0_1, .string a0_2, .slice A0_3 l0_3.length c0_3]) (t := 27) ?hr ?_; (case hd => rfl); (case hg => rfl); (case hr => first | (go_simp; done) | (go_simp; rfl)); intro gb158 hg w3 hbox hb; have n0_ := qd.mk (qba (by repeat (first | (with_reducible first | exact HB.out | apply qg | apply qc | apply qh) | exact HB.out)) hb); have n1_ := qd.mk (hbox); have n2_ := qd.mk ((by rw [hg]; exact (qbc (by repeat (first | (with_reducible first | exact HB.out | apply qg | apply qc | apply qh) | exact HB.out))) : w.heap.size ≤ gb158)); have n3_ := qd.mk ((by rw [hg]; exact (qbc (by repeat (first | (with_reducible first | exact HB.out | apply qg | apply qc | apply qh) | exact HB.out))) : w.heap.size ≤ gb158)); clear HB; have HB := n0_; have BK158 := n1_; have GW158 := n2_; have GE158 := n3_; clear n0_ n1_ n2_ n3_; clear hb hbox hg; have hcz4_0 : w3.cell? ⟨gb158, 0, none⟩ = some (.int .i64 a0_0) := (qb BK158.out 0).trans rfl; have hcz4_1 : w3.cell? ⟨gb158, 1, none⟩ = some (.int .i64 a0_1) := (qb BK158.out 1).trans rfl; have hcz4_2 : w3.cell? ⟨gb158, 2, none⟩ = some (.string a0_2) := (qb BK158.out 2).trans rfl; have hcz4_3 : w3.cell? ⟨gb158, 3, none⟩ = some (.slice A0_3 l0_3.length c0_3) := (qb BK158.out 3).trans rfl; have hfz4_0 := qa BK158.out 0; have hfz4_1 := qa BK158.out 1; have hfz4_2 := qa BK158.out 2; have hfz4_3 := qa BK158.out 3) | ((with_reducible refine qb2 (f := 88) rfl ?_); refine qcn (some 4) rfl rfl Tryd.func88 (by kernel_rfl) rfl #[.agg #[.int .i64 a0_0, .int .i64 a0_1, .string a0_2, .slice A0_3 l0_3.length c0_3], .int .i64 40] rfl (by (try simp only [List.map_toArray, List.map_cons, List.map_nil]); first | done | rfl | (simp only [List.length_drop, List.length_take]; rfl)) ?_; (with_reducible refine (qy.calls k a0_0 a0_1 a0_2 _ _ l0_3 40 t159 _ ?side1 ?side2 ?side3 A2.out).mono ?_); (case side1 => repeat (first | exact (Kd.qbv HR0_3.out HB.out) | (with_reducible refine Kd.qb4 ?_ _) | (with_reducible refine Kd.qb1 ?_ _) | (with_reducible refine Kd.qb8 ?_))); (case side2 => exact HC0_3.out); (case side3 => exact Lay.below HLAY.out (by repeat (first | (with_reducible first | exact HB.out | apply qg | apply qc | apply qh | refine ql ?_ GE158.out) | exact HB.out))); rintro e w5 ⟨rfl, hb⟩; refine ⟨_, rfl, ?_⟩; have n0_ := qd.mk (qbb (g := gb158) (o := .cells #[.int .i64 a0_0, .int .i64 a0_1, .string a0_2, .slice A0_3 l0_3.length c0_3] 27 (0, 0)) (by (with_reducible repeat (first | refine qj ?_ _ | refine qm ?_ | refine qi ?_ _)); exact BK158.out) hb); have n1_ := qd.mk (qba (by repeat (first | (with_reducible first | exact HB.out | apply qg | apply qc | apply qh | refine ql ?_ GE158.out) | exact HB.out)) hb); clear BK158; clear HB; have BK158 := n0_; have HB := n1_; clear n0_ n1_; (try clear hb); (try clear hb2); (try clear hk); (try clear hi)))
 go_ret
 exact ⟨by first | rfl | (simp [q9, qz] <;> rfl) | (simp [*, q9, qz] <;> rfl), by repeat (first | (with_reducible first | exact HB.out | apply qg | apply qc | apply qh | refine ql ?_ GE158.out) | exact HB.out)⟩
end Go.Proofs.YtpgkhmdfddejfaaDoor.PV
end
