import Derived.Test.YtpgkhmdfddejfaaDoorZLPVx0
section
namespace Go.Proofs.YtpgkhmdfddejfaaDoor.PV
open Go.RowKit Go.Proofs.YtpgkhmdfddejfaaDoorW.PrintWords Go.Proofs.YtpgkhmdfddejfaaDoorW.PrintLast Go.Proofs.YtpgkhmdfddejfaaDoorW.PrintMore
attribute [local go_sem] qcz qcx qdc qdb qcr qcq qcv qcy   -- for this text's walks alone
set_option linter.unusedVariables false
set_option linter.unusedSimpArgs false
mutual
def qbu.l0 : Nat → Int → List (S30) → Int → Int → Option (Int)
 | 0, _, _, _, _ => none
 | k + 1, x3, x7, x8, x9 => if x9 < x8 then (if 0 ≤ x9 then (if x9 < (x7.length : Int) then ((qbu.f k ((qp x7 x9).f0) ((qp x7 x9).f1) ((qp x7 x9).f2) ((qp x7 x9).f3) ((qp x7 x9).f4.f0) ((qp x7 x9).f4.f1) ((qp x7 x9).f4.f2) ((qp x7 x9).f4.f3) ((qp x7 x9).f5) ((qp x7 x9).f6)).bind fun t131 => (qbu.l0 k (mx x3 t131) x7 x8 (wrap64 (x9 + 1)))) else (none)) else (none)) else (some (wrap64 (x3 + 1)))
def qbu.f : Nat → Int → Int → Int → ByteArray → Int → Int → ByteArray → List (S27) → List (S30) → List (S27) → Option (Int)
 | 0, _, _, _, _, _, _, _, _, _, _ => none
 | k + 1, a0_0, a0_1, a0_2, a0_3, a0_4, a0_5, a0_6, l0_7, l0_8, l0_9 => qbu.l0 k 0 l0_8 (l0_8.length : Int) 0
end
theorem qbu.qch : ∀ k, (∀ y0 y1 y2 y3 y4 y5 y6 y7 y8 y9, LeO (qbu.f k y0 y1 y2 y3 y4 y5 y6 y7 y8 y9) (qbu.f (k + 1) y0 y1 y2 y3 y4 y5 y6 y7 y8 y9)) ∧ (∀ y0 y1 y2 y3, LeO (qbu.l0 k y0 y1 y2 y3) (qbu.l0 (k + 1) y0 y1 y2 y3))
 | 0 => ⟨fun _ _ _ _ _ _ _ _ _ _ r h => by simp [qbu.f] at h, fun _ _ _ _ r h => by simp [qbu.l0] at h⟩
 | k + 1 => by
  obtain ⟨ih0, ih1⟩ := qbu.qch k
  refine ⟨?_, ?_⟩
  ·intro y0 y1 y2 y3 y4 y5 y6 y7 y8 y9
   unfold qbu.f
   repeat' first
   | (with_reducible exact ih0 _ _ _ _ _ _ _ _ _ _)
   | (with_reducible exact ih1 _ _ _ _)
   | (with_reducible exact LeO.refl _)
   | (with_reducible exact LeO.none _)
   | (with_reducible refine LeO.ite ?_ ?_)
   | (with_reducible refine LeO.bind ?_ (fun _ => ?_))
   | exact ih0 _ _ _ _ _ _ _ _ _ _
   | exact ih1 _ _ _ _
   | exact LeO.none _
   | refine LeO.ite ?_ ?_
   | refine LeO.bind ?_ (fun _ => ?_)
  ·intro y0 y1 y2 y3
   unfold qbu.l0
   repeat' first
   | (with_reducible exact ih0 _ _ _ _ _ _ _ _ _ _)
   | (with_reducible exact ih1 _ _ _ _)
   | (with_reducible exact LeO.refl _)
   | (with_reducible exact LeO.none _)
   | (with_reducible refine LeO.ite ?_ ?_)
   | (with_reducible refine LeO.bind ?_ (fun _ => ?_))
   | exact ih0 _ _ _ _ _ _ _ _ _ _
   | exact ih1 _ _ _ _
   | exact LeO.none _
   | refine LeO.ite ?_ ?_
   | refine LeO.bind ?_ (fun _ => ?_)
theorem qbu.mono : ∀ a0 a1 a2 a3 a4 a5 a6 a7 a8 a9 k, LeO (qbu.f k a0 a1 a2 a3 a4 a5 a6 a7 a8 a9) (qbu.f (k + 1) a0 a1 a2 a3 a4 a5 a6 a7 a8 a9) := by
 intro a0 a1 a2 a3 a4 a5 a6 a7 a8 a9 k
 obtain ⟨ih0, ih1⟩ := qbu.qch k
 exact ih0 a0 a1 a2 a3 a4 a5 a6 a7 a8 a9
set_option maxHeartbeats 8000000 in
set_option maxRecDepth 100000 in
theorem qbu.calls (k : Nat) : ∀ (a0_0 : Int) (a0_1 : Int) (a0_2 : Int) (a0_3 : ByteArray) (a0_4 : Int) (a0_5 : Int) (a0_6 : ByteArray) (A0_7 : Option Addr) (c0_7 : Nat) (l0_7 : List (S27)) (A0_8 : Option Addr) (c0_8 : Nat) (l0_8 : List (S30)) (A0_9 : Option Addr) (c0_9 : Nat) (l0_9 : List (S27)) (r : Int) (w : World) (hr0_7 : Kd.C k27 w A0_7 l0_7.length l0_7) (hc0_7 : l0_7.length ≤ c0_7) (hr0_8 : Kd.C k30 w A0_8 l0_8.length l0_8) (hc0_8 : l0_8.length ≤ c0_8) (hr0_9 : Kd.C k27 w A0_9 l0_9.length l0_9) (hc0_9 : l0_9.length ≤ c0_9) (h : qbu.f k a0_0 a0_1 a0_2 a0_3 a0_4 a0_5 a0_6 l0_7 l0_8 l0_9 = some r),
  Calls Tryd.prog 42 #[.agg #[.int .i64 a0_0, .int .i64 a0_1, .int .i64 a0_2, .string a0_3, .int .i64 a0_4, .int .i64 a0_5, .string a0_6, .slice A0_7 l0_7.length c0_7, .slice A0_8 l0_8.length c0_8, .slice A0_9 l0_9.length c0_9]] w fun e w' => e = .returned (.int .i64 r) ∧ Below w.heap.size w w' := by
 induction k using Nat.strongRecOn with
 | _ k ih =>
 intro a0_0 a0_1 a0_2 a0_3 a0_4 a0_5 a0_6 A0_7 c0_7 l0_7 A0_8 c0_8 l0_8 A0_9 c0_9 l0_9 r w hr0_7 hc0_7 hr0_8 hc0_8 hr0_9 hc0_9 h
 cases k with
 | zero => exact absurd h (by simp [qbu.f])
 | succ k =>
 simp only [qbu.f] at h
 have hu30 := Tryd.underlying30
 have HR0_7 := qd.mk hr0_7
 have HC0_7 := qd.mk hc0_7
 clear hr0_7 hc0_7
 have HR0_8 := qd.mk hr0_8
 have HC0_8 := qd.mk hc0_8
 clear hr0_8 hc0_8
 have HR0_9 := qd.mk hr0_9
 have HC0_9 := qd.mk hc0_9
 clear hr0_9 hc0_9
 have HB := qd.mk (Below.refl w.heap.size w)
 have H : (qbu.l0 k 0 l0_8 (l0_8.length : Int) 0) = some r := h
 clear h
 have H' := qd.mk H
 clear H
 go_enter Tryd.func42, Tryd.ntmps42
 go_wp2_with (first | ((with_reducible refine qby (N := 1) rfl ?_); refine qbx ?hg (N := 1) ?hd (cs := #[.int .i64 a0_0, .int .i64 a0_1, .int .i64 a0_2, .string a0_3, .int .i64 a0_4, .int .i64 a0_5, .string a0_6, .slice A0_7 l0_7.length c0_7, .slice A0_8 l0_8.length c0_8, .slice A0_9 l0_9.length c0_9]) (t := 30) ?hr ?_; (case hd => rfl); (case hg => rfl); (case hr => first | (go_simp; done) | (go_simp; rfl)); intro gb128 hg w2 hbox hb; have n0_ := qd.mk (qba (by repeat (first | (with_reducible first | exact HB.out | apply qg | apply qc | apply qh) | exact HB.out)) hb); have n1_ := qd.mk (hbox); have n2_ := qd.mk ((by rw [hg]; exact (qbc (by repeat (first | (with_reducible first | exact HB.out | apply qg | apply qc | apply qh) | exact HB.out))) : w.heap.size ≤ gb128)); have n3_ := qd.mk ((by rw [hg]; exact (qbc (by repeat (first | (with_reducible first | exact HB.out | apply qg | apply qc | apply qh) | exact HB.out))) : w.heap.size ≤ gb128)); clear HB; have HB := n0_; have BK128 := n1_; have GW128 := n2_; have GE128 := n3_; clear n0_ n1_ n2_ n3_; clear hb hbox hg; have hcz3_0 : w2.cell? ⟨gb128, 0, none⟩ = some (.int .i64 a0_0) := (qb BK128.out 0).trans rfl; have hcz3_1 : w2.cell? ⟨gb128, 1, none⟩ = some (.int .i64 a0_1) := (qb BK128.out 1).trans rfl; have hcz3_2 : w2.cell? ⟨gb128, 2, none⟩ = some (.int .i64 a0_2) := (qb BK128.out 2).trans rfl; have hcz3_3 : w2.cell? ⟨gb128, 3, none⟩ = some (.string a0_3) := (qb BK128.out 3).trans rfl; have hcz3_4 : w2.cell? ⟨gb128, 4, none⟩ = some (.int .i64 a0_4) := (qb BK128.out 4).trans rfl; have hcz3_5 : w2.cell? ⟨gb128, 5, none⟩ = some (.int .i64 a0_5) := (qb BK128.out 5).trans rfl; have hcz3_6 : w2.cell? ⟨gb128, 6, none⟩ = some (.string a0_6) := (qb BK128.out 6).trans rfl; have hcz3_7 : w2.cell? ⟨gb128, 7, none⟩ = some (.slice A0_7 l0_7.length c0_7) := (qb BK128.out 7).trans rfl; have hcz3_8 : w2.cell? ⟨gb128, 8, none⟩ = some (.slice A0_8 l0_8.length c0_8) := (qb BK128.out 8).trans rfl; have hcz3_9 : w2.cell? ⟨gb128, 9, none⟩ = some (.slice A0_9 l0_9.length c0_9) := (qb BK128.out 9).trans rfl; have hfz3_0 := qa BK128.out 0; have hfz3_1 := qa BK128.out 1; have hfz3_2 := qa BK128.out 2; have hfz3_3 := qa BK128.out 3; have hfz3_4 := qa BK128.out 4; have hfz3_5 := qa BK128.out 5; have hfz3_6 := qa BK128.out 6; have hfz3_7 := qa BK128.out 7; have hfz3_8 := qa BK128.out 8; have hfz3_9 := qa BK128.out 9))
 go_loopg [3, 9] k (fun kq v3 v9 w' => ∃ (x3_1 : Int) (x9_1 : Int), v3 = .int .i64 x3_1 ∧ v9 = .int .i64 x9_1 ∧ qd (qbu.l0 kq x3_1 l0_8 (l0_8.length : Int) x9_1 = some r) ∧ qd (kq ≤ k) ∧ qd (w'.heap[gb128]? = some (.cells #[.int .i64 a0_0, .int .i64 a0_1, .int .i64 a0_2, .string a0_3, .int .i64 a0_4, .int .i64 a0_5, .string a0_6, (.slice A0_7 l0_7.length c0_7), (.slice A0_8 l0_8.length c0_8), (.slice A0_9 l0_9.length c0_9)] 30 (0, 0))) ∧ qd (Below w.heap.size w w'))
 case atStart => exact ⟨(0), (0), (by first | rfl | (simp; done) | (simp [*]; done)), (by first | rfl | (simp; done) | (simp [*]; done)), H', ⟨Nat.le_refl _⟩, ⟨by (with_reducible repeat (first | refine qj ?_ _ | refine qm ?_ | refine qi ?_ _)); exact BK128.out⟩, ⟨by repeat (first | (with_reducible first | exact HB.out | apply qg | apply qc | apply qh | refine ql ?_ GE128.out) | exact HB.out)⟩⟩
 case round =>
  clear H'
  (try clear p2); (try clear hcz3_0 hcz3_1 hcz3_2 hcz3_3 hcz3_4 hcz3_5 hcz3_6 hcz3_7 hcz3_8 hcz3_9); (try clear hfz3_0 hfz3_1 hfz3_2 hfz3_3 hfz3_4 hfz3_5 hfz3_6 hfz3_7 hfz3_8 hfz3_9)
  obtain ⟨x3_1, x9_1, rfl, rfl, HA, HK1, BK128, HB⟩ := hrel
  cases gk with
  | zero => exact absurd HA.out (by simp [qbu.l0])
  | succ k1 =>
   have H := HA.out
   clear HA
   simp only [qbu.l0] at H
   by_cases c4 : x9_1 < (l0_8.length : Int)
   ·rw [if_pos c4] at H
    have c4b0 : decide (x9_1 < (l0_8.length : Int)) = true := decide_eq_true c4
    clear c4
    by_cases c5 : 0 ≤ x9_1
    ·rw [if_pos c5] at H
     have c5b0 : decide (0 ≤ x9_1) = true := decide_eq_true c5
     clear c5
     by_cases c6 : x9_1 < (l0_8.length : Int)
     ·rw [if_pos c6] at H
      have c6b0 : decide (x9_1 < (l0_8.length : Int)) = true := decide_eq_true c6
      clear c6
      replace H := Option.bind_eq_some_iff.mp H
      obtain ⟨t131, A70, H⟩ := H
      replace H : (qbu.l0 k1 (mx x3_1 t131) l0_8 (l0_8.length : Int) (wrap64 (x9_1 + 1))) = some r := H
      have A7 := qd.mk A70
      clear A70
      obtain ⟨ji8, hji8⟩ : ∃ j_ : Int, (mx x3_1 t131) = j_ := ⟨_, rfl⟩
      replace H : (qbu.l0 k1 ji8 l0_8 (l0_8.length : Int) (wrap64 (x9_1 + 1))) = some r := by first | (rw [hji8] at H; exact H) | (simp only [hji8] at H ⊢; exact H)
      (try rw [hji8] at A7)
      have hji8_ : (if x3_1 < t131 then t131 else x3_1) = ji8 := hji8
      have H' := qd.mk H
      clear H
      have p129 : 0 ≤ (x9_1 : Int) := of_decide_eq_true (by first | (with_reducible assumption) | assumption)
      have q129 : x9_1 < (l0_8.length : Int) := of_decide_eq_true (by first | (with_reducible assumption) | assumption)
      obtain ⟨ad129, A129_7, c129_7, A129_8, c129_8, A129_9, c129_9, e129, hx129_0, hx129_1, hx129_2, hx129_3, hx129_4, hx129_5, hx129_6, hx129_7, hx129_8, hx129_9, hl129_7, hi129_7, hl129_8, hi129_8, hl129_9, hi129_9⟩ := qfg HR0_8.out x9_1 p129 q129
      cases e129
      replace hx129_0 := (HB.out.cell (World.block_lt_of_cell? w _ hx129_0)).trans hx129_0
      replace hx129_1 := (HB.out.cell (World.block_lt_of_cell? w _ hx129_1)).trans hx129_1
      replace hx129_2 := (HB.out.cell (World.block_lt_of_cell? w _ hx129_2)).trans hx129_2
      replace hx129_3 := (HB.out.cell (World.block_lt_of_cell? w _ hx129_3)).trans hx129_3
      replace hx129_4 := (HB.out.cell (World.block_lt_of_cell? w _ hx129_4)).trans hx129_4
      replace hx129_5 := (HB.out.cell (World.block_lt_of_cell? w _ hx129_5)).trans hx129_5
      replace hx129_6 := (HB.out.cell (World.block_lt_of_cell? w _ hx129_6)).trans hx129_6
      replace hx129_7 := (HB.out.cell (World.block_lt_of_cell? w _ hx129_7)).trans hx129_7
      replace hx129_8 := (HB.out.cell (World.block_lt_of_cell? w _ hx129_8)).trans hx129_8
      replace hx129_9 := (HB.out.cell (World.block_lt_of_cell? w _ hx129_9)).trans hx129_9
      have HR129_7 := qd.mk hi129_7
      have HC129_7 := qd.mk hl129_7
      clear hi129_7 hl129_7
      have HR129_8 := qd.mk hi129_8
      have HC129_8 := qd.mk hl129_8
      clear hi129_8 hl129_8
      have HR129_9 := qd.mk hi129_9
      have HC129_9 := qd.mk hl129_9
      clear hi129_9 hl129_9
      replace p129 := eq_true p129
      replace q129 := eq_true q129
      go_wp2_with (first | ((with_reducible refine qby (N := 5) rfl ?_); refine qbx ?hg (N := 5) ?hd (cs := #[.int .i64 0, .int .i64 0, .int .i64 0, .string (⟨#[]⟩ : ByteArray), .int .i64 0, .int .i64 0, .string (⟨#[]⟩ : ByteArray), .slice none 0 0, .slice none 0 0, .slice none 0 0]) (t := 30) ?hr ?_; (case hd => rfl); (case hg => rfl); (case hr => first | (go_simp; done) | (go_simp; rfl)); intro gb130 hg w9 hbox hb; have n0_ := qd.mk (qbb (g := gb128) (o := .cells #[.int .i64 a0_0, .int .i64 a0_1, .int .i64 a0_2, .string a0_3, .int .i64 a0_4, .int .i64 a0_5, .string a0_6, .slice A0_7 l0_7.length c0_7, .slice (some ad129) l0_8.length c0_8, .slice A0_9 l0_9.length c0_9] 30 (0, 0)) (by (with_reducible repeat (first | refine qj ?_ _ | refine qm ?_ | refine qi ?_ _)); exact BK128.out) hb); have n1_ := qd.mk (qba (by repeat (first | (with_reducible first | exact HB.out | apply qg | apply qc | apply qh | refine ql ?_ GE128.out) | exact HB.out)) hb); have n2_ := qd.mk (hbox); have n3_ := qd.mk ((by rw [hg]; exact (qbc (by repeat (first | (with_reducible first | exact HB.out | apply qg | apply qc | apply qh | refine ql ?_ GE128.out) | exact HB.out))) : w.heap.size ≤ gb130)); have n4_ := qd.mk ((by rw [hg]; exact (qbc (by repeat (first | (with_reducible first | exact HB.out | apply qg | apply qc | apply qh | refine ql ?_ GE128.out) | exact HB.out))) : w.heap.size ≤ gb130)); have n5_ := qd.mk ((by rw [hg]; exact Nat.ne_of_lt (qb0 (g := gb128) (o := .cells #[.int .i64 a0_0, .int .i64 a0_1, .int .i64 a0_2, .string a0_3, .int .i64 a0_4, .int .i64 a0_5, .string a0_6, .slice A0_7 l0_7.length c0_7, .slice (some ad129) l0_8.length c0_8, .slice A0_9 l0_9.length c0_9] 30 (0, 0)) (by (with_reducible repeat (first | refine qj ?_ _ | refine qm ?_ | refine qi ?_ _)); exact BK128.out)) : gb128 ≠ gb130)); have n6_ := qd.mk ((by rw [hg]; exact Nat.ne_of_gt (qb0 (g := gb128) (o := .cells #[.int .i64 a0_0, .int .i64 a0_1, .int .i64 a0_2, .string a0_3, .int .i64 a0_4, .int .i64 a0_5, .string a0_6, .slice A0_7 l0_7.length c0_7, .slice (some ad129) l0_8.length c0_8, .slice A0_9 l0_9.length c0_9] 30 (0, 0)) (by (with_reducible repeat (first | refine qj ?_ _ | refine qm ?_ | refine qi ?_ _)); exact BK128.out)) : gb130 ≠ gb128)); clear BK128; clear HB; have BK128 := n0_; have HB := n1_; have BK130 := n2_; have GW130 := n3_; have GE130 := n4_; have NB128_130 := n5_; have NB130_128 := n6_; clear n0_ n1_ n2_ n3_ n4_ n5_ n6_; clear hb hbox hg; have hnb10 := NB130_128.out; have hnc10 := NB128_130.out; have hcz11_0 : w9.cell? ⟨gb130, 0, none⟩ = some (.int .i64 0) := (qb BK130.out 0).trans rfl; have hcz11_1 : w9.cell? ⟨gb130, 1, none⟩ = some (.int .i64 0) := (qb BK130.out 1).trans rfl; have hcz11_2 : w9.cell? ⟨gb130, 2, none⟩ = some (.int .i64 0) := (qb BK130.out 2).trans rfl; have hcz11_3 : w9.cell? ⟨gb130, 3, none⟩ = some (.string (⟨#[]⟩ : ByteArray)) := (qb BK130.out 3).trans rfl; have hcz11_4 : w9.cell? ⟨gb130, 4, none⟩ = some (.int .i64 0) := (qb BK130.out 4).trans rfl; have hcz11_5 : w9.cell? ⟨gb130, 5, none⟩ = some (.int .i64 0) := (qb BK130.out 5).trans rfl; have hcz11_6 : w9.cell? ⟨gb130, 6, none⟩ = some (.string (⟨#[]⟩ : ByteArray)) := (qb BK130.out 6).trans rfl; have hcz11_7 : w9.cell? ⟨gb130, 7, none⟩ = some (.slice none 0 0) := (qb BK130.out 7).trans rfl; have hcz11_8 : w9.cell? ⟨gb130, 8, none⟩ = some (.slice none 0 0) := (qb BK130.out 8).trans rfl; have hcz11_9 : w9.cell? ⟨gb130, 9, none⟩ = some (.slice none 0 0) := (qb BK130.out 9).trans rfl; have hfz11_0 := qa BK130.out 0; have hfz11_1 := qa BK130.out 1; have hfz11_2 := qa BK130.out 2; have hfz11_3 := qa BK130.out 3; have hfz11_4 := qa BK130.out 4; have hfz11_5 := qa BK130.out 5; have hfz11_6 := qa BK130.out 6; have hfz11_7 := qa BK130.out 7; have hfz11_8 := qa BK130.out 8; have hfz11_9 := qa BK130.out 9) | ((with_reducible refine qb2 (f := 42) rfl ?_); refine qcn (some 15) rfl rfl Tryd.func42 (by kernel_rfl) rfl #[.agg #[.int .i64 ((qp l0_8 x9_1).f0), .int .i64 ((qp l0_8 x9_1).f1), .int .i64 ((qp l0_8 x9_1).f2), .string ((qp l0_8 x9_1).f3), .int .i64 ((qp l0_8 x9_1).f4.f0), .int .i64 ((qp l0_8 x9_1).f4.f1), .string ((qp l0_8 x9_1).f4.f2), .slice A129_7 ((qp l0_8 x9_1).f4.f3).length c129_7, .slice A129_8 ((qp l0_8 x9_1).f5).length c129_8, .slice A129_9 ((qp l0_8 x9_1).f6).length c129_9]] rfl (by (try simp only [List.map_toArray, List.map_cons, List.map_nil]); first | done | rfl | (simp only [List.length_drop, List.length_take]; rfl)) ?_; (with_reducible refine (ih k1 (by have := HK1.out; omega) ((qp l0_8 x9_1).f0) ((qp l0_8 x9_1).f1) ((qp l0_8 x9_1).f2) ((qp l0_8 x9_1).f3) ((qp l0_8 x9_1).f4.f0) ((qp l0_8 x9_1).f4.f1) ((qp l0_8 x9_1).f4.f2) _ _ ((qp l0_8 x9_1).f4.f3) _ _ ((qp l0_8 x9_1).f5) _ _ ((qp l0_8 x9_1).f6) t131 _ ?side1 ?side2 ?side3 ?side4 ?side5 ?side6 A7.out).mono ?_); (case side1 => exact Kd.qbv HR129_7.out (by repeat (first | (with_reducible first | exact HB.out | apply qg | apply qc | apply qh | refine ql ?_ GE128.out | refine ql ?_ GE130.out) | exact HB.out))); (case side2 => exact HC129_7.out); (case side3 => exact Kd.qbv HR129_8.out (by repeat (first | (with_reducible first | exact HB.out | apply qg | apply qc | apply qh | refine ql ?_ GE128.out | refine ql ?_ GE130.out) | exact HB.out))); (case side4 => exact HC129_8.out); (case side5 => exact Kd.qbv HR129_9.out (by repeat (first | (with_reducible first | exact HB.out | apply qg | apply qc | apply qh | refine ql ?_ GE128.out | refine ql ?_ GE130.out) | exact HB.out))); (case side6 => exact HC129_9.out); rintro e w12 ⟨rfl, hb⟩; refine ⟨_, rfl, ?_⟩; have n0_ := qd.mk (qbb (g := gb128) (o := .cells #[.int .i64 a0_0, .int .i64 a0_1, .int .i64 a0_2, .string a0_3, .int .i64 a0_4, .int .i64 a0_5, .string a0_6, .slice A0_7 l0_7.length c0_7, .slice (some ad129) l0_8.length c0_8, .slice A0_9 l0_9.length c0_9] 30 (0, 0)) (by (with_reducible repeat (first | refine qj ?_ _ | refine qm ?_ | refine qi ?_ _)); refine qbn ?_ NB128_130.out _; (with_reducible repeat (first | refine qj ?_ _ | refine qm ?_ | refine qi ?_ _)); refine qbn ?_ NB128_130.out _; (with_reducible repeat (first | refine qj ?_ _ | refine qm ?_ | refine qi ?_ _)); refine qbn ?_ NB128_130.out _; (with_reducible repeat (first | refine qj ?_ _ | refine qm ?_ | refine qi ?_ _)); refine qbn ?_ NB128_130.out _; (with_reducible repeat (first | refine qj ?_ _ | refine qm ?_ | refine qi ?_ _)); refine qbn ?_ NB128_130.out _; (with_reducible repeat (first | refine qj ?_ _ | refine qm ?_ | refine qi ?_ _)); refine qbn ?_ NB128_130.out _; (with_reducible repeat (first | refine qj ?_ _ | refine qm ?_ | refine qi ?_ _)); refine qbn ?_ NB128_130.out _; (with_reducible repeat (first | refine qj ?_ _ | refine qm ?_ | refine qi ?_ _)); refine qbn ?_ NB128_130.out _; (with_reducible repeat (first | refine qj ?_ _ | refine qm ?_ | refine qi ?_ _)); refine qbn ?_ NB128_130.out _; (with_reducible repeat (first | refine qj ?_ _ | refine qm ?_ | refine qi ?_ _)); refine qbn ?_ NB128_130.out _; (with_reducible repeat (first | refine qj ?_ _ | refine qm ?_ | refine qi ?_ _)); exact BK128.out) hb); have n1_ := qd.mk (qbb (g := gb130) (o := .cells #[.int .i64 ((qp l0_8 x9_1).f0), .int .i64 ((qp l0_8 x9_1).f1), .int .i64 ((qp l0_8 x9_1).f2), .string ((qp l0_8 x9_1).f3), .int .i64 ((qp l0_8 x9_1).f4.f0), .int .i64 ((qp l0_8 x9_1).f4.f1), .string ((qp l0_8 x9_1).f4.f2), .slice A129_7 ((qp l0_8 x9_1).f4.f3).length c129_7, .slice A129_8 ((qp l0_8 x9_1).f5).length c129_8, .slice A129_9 ((qp l0_8 x9_1).f6).length c129_9] 30 (0, 0)) (by (with_reducible repeat (first | refine qj ?_ _ | refine qm ?_ | refine qi ?_ _)); refine qbp (cs := #[.int .i64 ((qp l0_8 x9_1).f0), .int .i64 ((qp l0_8 x9_1).f1), .int .i64 ((qp l0_8 x9_1).f2), .string ((qp l0_8 x9_1).f3), .int .i64 ((qp l0_8 x9_1).f4.f0), .int .i64 ((qp l0_8 x9_1).f4.f1), .string ((qp l0_8 x9_1).f4.f2), .slice A129_7 ((qp l0_8 x9_1).f4.f3).length c129_7, .slice A129_8 ((qp l0_8 x9_1).f5).length c129_8, .slice none 0 0]) ?_ 9 _ rfl; (with_reducible repeat (first | refine qj ?_ _ | refine qm ?_ | refine qi ?_ _)); refine qbp (cs := #[.int .i64 ((qp l0_8 x9_1).f0), .int .i64 ((qp l0_8 x9_1).f1), .int .i64 ((qp l0_8 x9_1).f2), .string ((qp l0_8 x9_1).f3), .int .i64 ((qp l0_8 x9_1).f4.f0), .int .i64 ((qp l0_8 x9_1).f4.f1), .string ((qp l0_8 x9_1).f4.f2), .slice A129_7 ((qp l0_8 x9_1).f4.f3).length c129_7, .slice none 0 0, .slice none 0 0]) ?_ 8 _ rfl; (with_reducible repeat (first | refine qj ?_ _ | refine qm ?_ | refine qi ?_ _)); refine qbp (cs := #[.int .i64 ((qp l0_8 x9_1).f0), .int .i64 ((qp l0_8 x9_1).f1), .int .i64 ((qp l0_8 x9_1).f2), .string ((qp l0_8 x9_1).f3), .int .i64 ((qp l0_8 x9_1).f4.f0), .int .i64 ((qp l0_8 x9_1).f4.f1), .string ((qp l0_8 x9_1).f4.f2), .slice none 0 0, .slice none 0 0, .slice none 0 0]) ?_ 7 _ rfl; (with_reducible repeat (first | refine qj ?_ _ | refine qm ?_ | refine qi ?_ _)); refine qbp (cs := #[.int .i64 ((qp l0_8 x9_1).f0), .int .i64 ((qp l0_8 x9_1).f1), .int .i64 ((qp l0_8 x9_1).f2), .string ((qp l0_8 x9_1).f3), .int .i64 ((qp l0_8 x9_1).f4.f0), .int .i64 ((qp l0_8 x9_1).f4.f1), .string (⟨#[]⟩ : ByteArray), .slice none 0 0, .slice none 0 0, .slice none 0 0]) ?_ 6 _ rfl; (with_reducible repeat (first | refine qj ?_ _ | refine qm ?_ | refine qi ?_ _)); refine qbp (cs := #[.int .i64 ((qp l0_8 x9_1).f0), .int .i64 ((qp l0_8 x9_1).f1), .int .i64 ((qp l0_8 x9_1).f2), .string ((qp l0_8 x9_1).f3), .int .i64 ((qp l0_8 x9_1).f4.f0), .int .i64 0, .string (⟨#[]⟩ : ByteArray), .slice none 0 0, .slice none 0 0, .slice none 0 0]) ?_ 5 _ rfl; (with_reducible repeat (first | refine qj ?_ _ | refine qm ?_ | refine qi ?_ _)); refine qbp (cs := #[.int .i64 ((qp l0_8 x9_1).f0), .int .i64 ((qp l0_8 x9_1).f1), .int .i64 ((qp l0_8 x9_1).f2), .string ((qp l0_8 x9_1).f3), .int .i64 0, .int .i64 0, .string (⟨#[]⟩ : ByteArray), .slice none 0 0, .slice none 0 0, .slice none 0 0]) ?_ 4 _ rfl; (with_reducible repeat (first | refine qj ?_ _ | refine qm ?_ | refine qi ?_ _)); refine qbp (cs := #[.int .i64 ((qp l0_8 x9_1).f0), .int .i64 ((qp l0_8 x9_1).f1), .int .i64 ((qp l0_8 x9_1).f2), .string (⟨#[]⟩ : ByteArray), .int .i64 0, .int .i64 0, .string (⟨#[]⟩ : ByteArray), .slice none 0 0, .slice none 0 0, .slice none 0 0]) ?_ 3 _ rfl; (with_reducible repeat (first | refine qj ?_ _ | refine qm ?_ | refine qi ?_ _)); refine qbp (cs := #[.int .i64 ((qp l0_8 x9_1).f0), .int .i64 ((qp l0_8 x9_1).f1), .int .i64 0, .string (⟨#[]⟩ : ByteArray), .int .i64 0, .int .i64 0, .string (⟨#[]⟩ : ByteArray), .slice none 0 0, .slice none 0 0, .slice none 0 0]) ?_ 2 _ rfl; (with_reducible repeat (first | refine qj ?_ _ | refine qm ?_ | refine qi ?_ _)); refine qbp (cs := #[.int .i64 ((qp l0_8 x9_1).f0), .int .i64 0, .int .i64 0, .string (⟨#[]⟩ : ByteArray), .int .i64 0, .int .i64 0, .string (⟨#[]⟩ : ByteArray), .slice none 0 0, .slice none 0 0, .slice none 0 0]) ?_ 1 _ rfl; (with_reducible repeat (first | refine qj ?_ _ | refine qm ?_ | refine qi ?_ _)); refine qbp (cs := #[.int .i64 0, .int .i64 0, .int .i64 0, .string (⟨#[]⟩ : ByteArray), .int .i64 0, .int .i64 0, .string (⟨#[]⟩ : ByteArray), .slice none 0 0, .slice none 0 0, .slice none 0 0]) ?_ 0 _ rfl; (with_reducible repeat (first | refine qj ?_ _ | refine qm ?_ | refine qi ?_ _)); exact BK130.out) hb); have n2_ := qd.mk (qba (by repeat (first | (with_reducible first | exact HB.out | apply qg | apply qc | apply qh | refine ql ?_ GE128.out | refine ql ?_ GE130.out) | exact HB.out)) hb); clear BK128; clear BK130; clear HB; have BK128 := n0_; have BK130 := n1_; have HB := n2_; clear n0_ n1_ n2_; (try clear hb); (try clear hb2); (try clear hk); (try clear hi)))
      go_roundg k1
      case measure => have := HK1.out; omega
      case rel => exact ⟨(ji8), (wrap64 (x9_1 + 1)), (by first | rfl | (simp; done) | (simp only [← hji8] <;> (first | rfl | simp)) | (simp [*]; done)), (by first | rfl | (simp; done) | (simp [*]; done)), H', ⟨by have := HK1.out; omega⟩, ⟨by (with_reducible repeat (first | refine qj ?_ _ | refine qm ?_ | refine qi ?_ _)); exact BK128.out⟩, ⟨by repeat (first | (with_reducible first | exact HB.out | apply qg | apply qc | apply qh | refine ql ?_ GE128.out | refine ql ?_ GE130.out) | exact HB.out)⟩⟩
     ·rw [if_neg c6] at H
      exact absurd H (by simp)
    ·rw [if_neg c5] at H
     exact absurd H (by simp)
   ·rw [if_neg c4] at H
    have c4b0 : decide (x9_1 < (l0_8.length : Int)) = false := decide_eq_false c4
    clear c4
    obtain rfl := Option.some.inj H
    go_wp2
    go_ret
    exact ⟨by first | rfl | (simp [q9, qz] <;> rfl) | (simp [*, q9, qz] <;> rfl), by repeat (first | (with_reducible first | exact HB.out | apply qg | apply qc | apply qh | refine ql ?_ GE128.out) | exact HB.out)⟩
def qbw.j0 : Nat → Int → Int → Bool → Option (Bool)
 | 0, _, _, _ => none
 | k + 1, x1, x5, x6 => if x6 = true then (if x1 ≥ 1 then (some (decide (x1 ≤ 16))) else (some false)) else (if x5 = 5 then (some (x1 == 1)) else (if x5 = 6 then (some (x1 == 1)) else (some (x1 == 0))))
def qbw.f (k : Nat) (a0 : Int) (a1 : Int) : Option (Bool) := if a0 = 0 then (qbw.j0 k a1 a0 (a0 == 0)) else (if a0 = 1 then (qbw.j0 k a1 a0 (a0 == 1)) else (if a0 = 2 then (qbw.j0 k a1 a0 (a0 == 2)) else (if a0 = 3 then (qbw.j0 k a1 a0 (a0 == 3)) else (if a0 = 4 then (qbw.j0 k a1 a0 (a0 == 4)) else (qbw.j0 k a1 a0 (a0 == 11))))))
theorem qbw.qch : ∀ k, (∀ y0 y1 y2, LeO (qbw.j0 k y0 y1 y2) (qbw.j0 (k + 1) y0 y1 y2))
 | 0 => fun _ _ _ r h => by simp [qbw.j0] at h
 | k + 1 => by
  have ih0 := qbw.qch k
  ·intro y0 y1 y2
   unfold qbw.j0
   repeat' first
   | (with_reducible exact ih0 _ _ _)
   | (with_reducible exact LeO.refl _)
   | (with_reducible exact LeO.none _)
   | (with_reducible refine LeO.ite ?_ ?_)
   | (with_reducible refine LeO.bind ?_ (fun _ => ?_))
   | exact ih0 _ _ _
   | exact LeO.none _
   | refine LeO.ite ?_ ?_
   | refine LeO.bind ?_ (fun _ => ?_)
theorem qbw.mono : ∀ a0 a1 k, LeO (qbw.f k a0 a1) (qbw.f (k + 1) a0 a1) := by
 intro a0 a1 k
 have ih0 := qbw.qch k
 unfold qbw.f
 repeat' first
   | (with_reducible exact ih0 _ _ _)
   | (with_reducible exact LeO.refl _)
   | (with_reducible exact LeO.none _)
   | (with_reducible refine LeO.ite ?_ ?_)
   | (with_reducible refine LeO.bind ?_ (fun _ => ?_))
   | exact ih0 _ _ _
   | exact LeO.none _
   | refine LeO.ite ?_ ?_
   | refine LeO.bind ?_ (fun _ => ?_)
set_option maxHeartbeats 8000000 in
set_option maxRecDepth 100000 in
theorem qbw.calls (k : Nat) (a0 : Int) (a1 : Int) (r : Bool) (w : World) (h : qbw.f k a0 a1 = some r) :
  Calls Tryd.prog 67 #[.int .i64 a0, .int .i64 a1] w fun e w' => e = .returned (.bool r) ∧ qbj w w' := by
 have H : (if a0 = 0 then (qbw.j0 k a1 a0 (a0 == 0)) else (if a0 = 1 then (qbw.j0 k a1 a0 (a0 == 1)) else (if a0 = 2 then (qbw.j0 k a1 a0 (a0 == 2)) else (if a0 = 3 then (qbw.j0 k a1 a0 (a0 == 3)) else (if a0 = 4 then (qbw.j0 k a1 a0 (a0 == 4)) else (qbw.j0 k a1 a0 (a0 == 11))))))) = some r := h
 clear h
 have HC3 := qd.mk H
 clear H
 go_enter Tryd.func67, Tryd.ntmps67
 go_upto_if 6 with (fail)
 go_cut [6] (fun v6 wc => ∃ (kq : Nat) (x6_2 : Bool), v6 = .bool x6_2 ∧ qd (qbw.j0 kq a1 a0 x6_2 = some r) ∧ qd (kq ≤ k) ∧ qbj w wc)
 case first =>
  have H := HC3.out
  clear HC3
  by_cases c4 : a0 = 0
  ·rw [if_pos c4] at H
   have c4b0 : (a0 == 0) = true := beq_iff_eq.mpr c4
   have c4b1 : (a0 != 0) = false := bne_eq_false_iff_eq.mpr c4
   clear c4
   (first | rw [c4b0] | (simp only [i64_w, i32_w]; rw [c4b0]) | skip)
   have H' := qd.mk H
   clear H
   go_wp2
   go_meet
   case rel => exact ⟨_, ((a0 == 0)), (by first | rfl | (simp; done) | (simp [*]; done)), H', ⟨by first | omega | exact Nat.le_refl _⟩, by repeat (first | exact qbj.refl _ | apply qbj.step)⟩
  ·rw [if_neg c4] at H
   have c4b0 : (a0 == 0) = false := beq_eq_false_iff_ne.mpr c4
   have c4b1 : (a0 != 0) = true := bne_iff_ne.mpr c4
   (first | rw [c4b0] | (simp only [i64_w, i32_w]; rw [c4b0]) | skip)
   by_cases c5 : a0 = 1
   ·rw [if_pos c5] at H
    have c5b0 : (a0 == 1) = true := beq_iff_eq.mpr c5
    have c5b1 : (a0 != 1) = false := bne_eq_false_iff_eq.mpr c5
    clear c5
    have H' := qd.mk H
    clear H
    go_wp2
    go_meet
    case rel => exact ⟨_, ((a0 == 1)), (by first | rfl | (simp; done) | (simp [*]; done)), H', ⟨by first | omega | exact Nat.le_refl _⟩, by repeat (first | exact qbj.refl _ | apply qbj.step)⟩
   ·rw [if_neg c5] at H
    have c5b0 : (a0 == 1) = false := beq_eq_false_iff_ne.mpr c5
    have c5b1 : (a0 != 1) = true := bne_iff_ne.mpr c5
    by_cases c6 : a0 = 2
    ·rw [if_pos c6] at H
     have c6b0 : (a0 == 2) = true := beq_iff_eq.mpr c6
     have c6b1 : (a0 != 2) = false := bne_eq_false_iff_eq.mpr c6
     clear c6
     have H' := qd.mk H
     clear H
     go_wp2
     go_meet
     case rel => exact ⟨_, ((a0 == 2)), (by first | rfl | (simp; done) | (simp [*]; done)), H', ⟨by first | omega | exact Nat.le_refl _⟩, by repeat (first | exact qbj.refl _ | apply qbj.step)⟩
    ·rw [if_neg c6] at H
     have c6b0 : (a0 == 2) = false := beq_eq_false_iff_ne.mpr c6
     have c6b1 : (a0 != 2) = true := bne_iff_ne.mpr c6
     by_cases c7 : a0 = 3
     ·rw [if_pos c7] at H
      have c7b0 : (a0 == 3) = true := beq_iff_eq.mpr c7
      have c7b1 : (a0 != 3) = false := bne_eq_false_iff_eq.mpr c7
      clear c7
      have H' := qd.mk H
      clear H
      go_wp2
      go_meet
      case rel => exact ⟨_, ((a0 == 3)), (by first | rfl | (simp; done) | (simp [*]; done)), H', ⟨by first | omega | exact Nat.le_refl _⟩, by repeat (first | exact qbj.refl _ | apply qbj.step)⟩
     ·rw [if_neg c7] at H
      have c7b0 : (a0 == 3) = false := beq_eq_false_iff_ne.mpr c7
      have c7b1 : (a0 != 3) = true := bne_iff_ne.mpr c7
      by_cases c8 : a0 = 4
      ·rw [if_pos c8] at H
       have c8b0 : (a0 == 4) = true := beq_iff_eq.mpr c8
       have c8b1 : (a0 != 4) = false := bne_eq_false_iff_eq.mpr c8
       clear c8
       have H' := qd.mk H
       clear H
       go_wp2
       go_meet
       case rel => exact ⟨_, ((a0 == 4)), (by first | rfl | (simp; done) | (simp [*]; done)), H', ⟨by first | omega | exact Nat.le_refl _⟩, by repeat (first | exact qbj.refl _ | apply qbj.step)⟩
      ·rw [if_neg c8] at H
       have c8b0 : (a0 == 4) = false := beq_eq_false_iff_ne.mpr c8
       have c8b1 : (a0 != 4) = true := bne_iff_ne.mpr c8
       have H' := qd.mk H
       clear H
       go_wp2
       go_meet
       case rel => exact ⟨_, ((a0 == 11)), (by first | rfl | (simp; done) | (simp [*]; done)), H', ⟨by first | omega | exact Nat.le_refl _⟩, by repeat (first | exact qbj.refl _ | apply qbj.step)⟩
 case rest =>
  clear HC3
  (try clear p2); (try clear c4); (try clear c4b0); (try clear c4b1); (try clear c5); (try clear c5b0); (try clear c5b1); (try clear c6); (try clear c6b0); (try clear c6b1); (try clear c7); (try clear c7b0); (try clear c7b1); (try clear c8); (try clear c8b0); (try clear c8b1)
  obtain ⟨kq, x6_2, rfl, HA, HJ2, ⟨mc2, rfl⟩⟩ := hcut
  cases kq with
  | zero => exact absurd HA.out (by simp [qbw.j0])
  | succ kj2 =>
   have H := HA.out
   clear HA
   simp only [qbw.j0] at H
   by_cases c9 : x6_2 = true
   ·subst c9
    have H1 : (if a1 ≥ 1 then (some (decide (a1 ≤ 16))) else (some false)) = some r := by rw [if_pos rfl] at H; exact H
    clear H
    have H := H1
    clear H1
    by_cases c10 : a1 ≥ 1
    ·rw [if_pos c10] at H
     have c10b0 : decide (1 ≤ a1) = true := decide_eq_true c10
     clear c10
     obtain rfl := Option.some.inj H
     go_wp2
     go_ret
     exact ⟨by first | rfl | (simp; done) | (simp [*]; done), by repeat (first | exact qbj.refl _ | apply qbj.step)⟩
    ·rw [if_neg c10] at H
     have c10b0 : decide (1 ≤ a1) = false := decide_eq_false c10
     clear c10
     obtain rfl := Option.some.inj H
     go_wp2
     go_ret
     exact ⟨by first | rfl | (simp; done) | (simp [*]; done), by repeat (first | exact qbj.refl _ | apply qbj.step)⟩
   ·replace c9 := Bool.eq_false_iff.mpr c9
    subst c9
    have H1 : (if a0 = 5 then (some (a1 == 1)) else (if a0 = 6 then (some (a1 == 1)) else (some (a1 == 0)))) = some r := by rw [if_neg (show ¬ (false = true) by decide)] at H; exact H
    clear H
    have H := H1
    clear H1
    by_cases c11 : a0 = 5
    ·rw [if_pos c11] at H
     have c11b0 : (a0 == 5) = true := beq_iff_eq.mpr c11
     have c11b1 : (a0 != 5) = false := bne_eq_false_iff_eq.mpr c11
     clear c11
     obtain rfl := Option.some.inj H
     go_wp2
     go_ret
     exact ⟨by first | rfl | (simp; done) | (simp [*]; done), by repeat (first | exact qbj.refl _ | apply qbj.step)⟩
    ·rw [if_neg c11] at H
     have c11b0 : (a0 == 5) = false := beq_eq_false_iff_ne.mpr c11
     have c11b1 : (a0 != 5) = true := bne_iff_ne.mpr c11
     by_cases c12 : a0 = 6
     ·rw [if_pos c12] at H
      have c12b0 : (a0 == 6) = true := beq_iff_eq.mpr c12
      have c12b1 : (a0 != 6) = false := bne_eq_false_iff_eq.mpr c12
      clear c12
      obtain rfl := Option.some.inj H
      go_wp2
      go_ret
      exact ⟨by first | rfl | (simp; done) | (simp [*]; done), by repeat (first | exact qbj.refl _ | apply qbj.step)⟩
     ·rw [if_neg c12] at H
      have c12b0 : (a0 == 6) = false := beq_eq_false_iff_ne.mpr c12
      have c12b1 : (a0 != 6) = true := bne_iff_ne.mpr c12
      obtain rfl := Option.some.inj H
      go_wp2
      go_ret
      exact ⟨by first | rfl | (simp; done) | (simp [*]; done), by repeat (first | exact qbj.refl _ | apply qbj.step)⟩
def qcm.f (a0 : Int) (a1 : Int) (a2 : Int) : Option (Int) := some (mx a1 (mn a0 a2))
set_option maxHeartbeats 8000000 in
set_option maxRecDepth 100000 in
theorem qcm.calls (a0 : Int) (a1 : Int) (a2 : Int) (r : Int) (w : World) (h : qcm.f a0 a1 a2 = some r) :
  Calls Tryd.prog 80 #[.int .i64 a0, .int .i64 a1, .int .i64 a2] w fun e w' => e = .returned (.int .i64 r) ∧ Below w.heap.size w w' := by
 have HB := qd.mk (Below.refl w.heap.size w)
 have H : (some (mx a1 (mn a0 a2))) = some r := h
 clear h
 obtain ⟨ji4, hji4⟩ : ∃ j_ : Int, (mn a0 a2) = j_ := ⟨_, rfl⟩
 replace H : (some (mx a1 (ji4))) = some r := by first | (rw [hji4] at H; exact H) | (simp only [hji4] at H ⊢; exact H)
 have hji4_ : (if a2 < a0 then a2 else a0) = ji4 := hji4
 obtain ⟨ji5, hji5⟩ : ∃ j_ : Int, (mx a1 (ji4)) = j_ := ⟨_, rfl⟩
 replace H : (some ji5) = some r := by first | (rw [hji5] at H; exact H) | (simp only [hji5] at H ⊢; exact H)
 have hji5_ : (if a1 < (ji4) then (ji4) else a1) = ji5 := hji5
 obtain rfl := Option.some.inj H
 go_enter Tryd.func80, Tryd.ntmps80
 go_wp2
 go_ret
 exact ⟨by first | rfl | (simp [q9, qz] <;> rfl) | (simp only [← hji4, ← hji5]; first | rfl | (simp [q9, qz] <;> rfl)) | (simp [*, q9, qz] <;> rfl), by repeat (first | (with_reducible first | exact HB.out | apply qg | apply qc | apply qh) | exact HB.out)⟩
def qce.f (a0_0 : Int) (a0_1 : Int) (a0_2 : Int) (a0_3 : ByteArray) (a0_4 : Int) (a0_5 : Int) (a0_6 : ByteArray) (l0_7 : List (S27)) (l0_8 : List (S30)) (l0_9 : List (S27)) : Option (Bool) := if a0_0 = 4 then ((qcm.f a0_1 1 (l0_8.length : Int)).bind fun t133 => ((qcm.f a0_2 1 (l0_8.length : Int)).bind fun t134 => (if a0_1 = t133 then (some (a0_2 == t134)) else (some false)))) else (if a0_0 = 6 then ((qcm.f a0_1 1 1000).bind fun t135 => (if a0_1 = t135 then (some (a0_2 == 0)) else (some false))) else (if a0_1 = 0 then (some (a0_2 == 0)) else (some false)))
def qce.T4 : Bool × List (List Nat × List Nat) := (true, [([], []), ([0], [0]), ([], []), ([2], [2]), ([3], [3]), ([1, 4], [1, 4]), ([], []), ([6], [6]), ([], []), ([8], [8]), ([9], [9]), ([7, 10, 5], [7, 10]), ([5, 11, 0, 1, 2, 3, 4, 5], [5]), ([11, 12, 0, 1, 2, 3, 4, 5, 6, 7, 8, 9, 10, 11, 12], [11])])
def qce.B4 : List Nat := [0, 1, 0, 4, 12, 31, 0, 64, 0, 256, 768, 2047, 4095, 8191]
theorem qce.tab4 : rtab .any (opsOf Tryd.f68 4) = qce.T4 := by kernel_rfl
theorem qce.bits4 : qen qce.T4.2 qce.B4 = true := by kernel_rfl
set_option maxHeartbeats 8000000 in
set_option maxRecDepth 100000 in
theorem qce.calls (a0_0 : Int) (a0_1 : Int) (a0_2 : Int) (a0_3 : ByteArray) (a0_4 : Int) (a0_5 : Int) (a0_6 : ByteArray) (A0_7 : Option Addr) (c0_7 : Nat) (l0_7 : List (S27)) (A0_8 : Option Addr) (c0_8 : Nat) (l0_8 : List (S30)) (A0_9 : Option Addr) (c0_9 : Nat) (l0_9 : List (S27)) (r : Bool) (w : World) (hr0_7 : Kd.C k27 w A0_7 l0_7.length l0_7) (hc0_7 : l0_7.length ≤ c0_7) (hr0_8 : Kd.C k30 w A0_8 l0_8.length l0_8) (hc0_8 : l0_8.length ≤ c0_8) (hr0_9 : Kd.C k27 w A0_9 l0_9.length l0_9) (hc0_9 : l0_9.length ≤ c0_9) (h : qce.f a0_0 a0_1 a0_2 a0_3 a0_4 a0_5 a0_6 l0_7 l0_8 l0_9 = some r) :
  Calls Tryd.prog 68 #[.agg #[.int .i64 a0_0, .int .i64 a0_1, .int .i64 a0_2, .string a0_3, .int .i64 a0_4, .int .i64 a0_5, .string a0_6, .slice A0_7 l0_7.length c0_7, .slice A0_8 l0_8.length c0_8, .slice A0_9 l0_9.length c0_9]] w fun e w' => e = .returned (.bool r) ∧ Below w.heap.size w w' := by
 have hu30 := Tryd.underlying30
 have HR0_7 := qd.mk hr0_7
 have HC0_7 := qd.mk hc0_7
 clear hr0_7 hc0_7
 have HR0_8 := qd.mk hr0_8
 have HC0_8 := qd.mk hc0_8
 clear hr0_8 hc0_8
 have HR0_9 := qd.mk hr0_9
 have HC0_9 := qd.mk hc0_9
 clear hr0_9 hc0_9
 have HB := qd.mk (Below.refl w.heap.size w)
 have H : (if a0_0 = 4 then ((qcm.f a0_1 1 (l0_8.length : Int)).bind fun t133 => ((qcm.f a0_2 1 (l0_8.length : Int)).bind fun t134 => (if a0_1 = t133 then (some (a0_2 == t134)) else (some false)))) else (if a0_0 = 6 then ((qcm.f a0_1 1 1000).bind fun t135 => (if a0_1 = t135 then (some (a0_2 == 0)) else (some false))) else (if a0_1 = 0 then (some (a0_2 == 0)) else (some false)))) = some r := h
 clear h
 by_cases c2 : a0_0 = 4
 ·rw [if_pos c2] at H
  have c2b0 : (a0_0 == 4) = true := beq_iff_eq.mpr c2
  have c2b1 : (a0_0 != 4) = false := bne_eq_false_iff_eq.mpr c2
  clear c2
  replace H := Option.bind_eq_some_iff.mp H
  obtain ⟨t133, A30, H⟩ := H
  replace H : ((qcm.f a0_2 1 (l0_8.length : Int)).bind fun t134 => (if a0_1 = t133 then (some (a0_2 == t134)) else (some false))) = some r := H
  have A3 := qd.mk A30
  clear A30
  replace H := Option.bind_eq_some_iff.mp H
  obtain ⟨t134, A40, H⟩ := H
  replace H : (if a0_1 = t133 then (some (a0_2 == t134)) else (some false)) = some r := H
  have A4 := qd.mk A40
  clear A40
  by_cases c5 : a0_1 = t133
  ·rw [if_pos c5] at H
   have c5b0 : (a0_1 == t133) = true := beq_iff_eq.mpr c5
   have c5b1 : (a0_1 != t133) = false := bne_eq_false_iff_eq.mpr c5
   clear c5
   obtain rfl := Option.some.inj H
   go_enter Tryd.func68, Tryd.ntmps68
   try go_wp2_with (first | ((with_reducible refine qby (N := 1) rfl ?_); refine qbx ?hg (N := 1) ?hd (cs := #[.int .i64 a0_0, .int .i64 a0_1, .int .i64 a0_2, .string a0_3, .int .i64 a0_4, .int .i64 a0_5, .string a0_6, .slice A0_7 l0_7.length c0_7, .slice A0_8 l0_8.length c0_8, .slice A0_9 l0_9.length c0_9]) (t := 30) ?hr ?_; (case hd => rfl); (case hg => rfl); (case hr => first | (go_simp; done) | (go_simp; rfl)); intro gb132 hg w6 hbox hb; have n0_ := qd.mk (qba (by repeat (first | (with_reducible first | exact HB.out | apply qg | apply qc | apply qh) | exact HB.out)) hb); have n1_ := qd.mk (hbox); have n2_ := qd.mk ((by rw [hg]; exact (qbc (by repeat (first | (with_reducible first | exact HB.out | apply qg | apply qc | apply qh) | exact HB.out))) : w.heap.size ≤ gb132)); have n3_ := qd.mk ((by rw [hg]; exact (qbc (by repeat (first | (with_reducible first | exact HB.out | apply qg | apply qc | apply qh) | exact HB.out))) : w.heap.size ≤ gb132)); clear HB; have HB := n0_; have BK132 := n1_; have GW132 := n2_; have GE132 := n3_; clear n0_ n1_ n2_ n3_; clear hb hbox hg; have hcz7_0 : w6.cell? ⟨gb132, 0, none⟩ = some (.int .i64 a0_0) := (qb BK132.out 0).trans rfl; have hcz7_1 : w6.cell? ⟨gb132, 1, none⟩ = some (.int .i64 a0_1) := (qb BK132.out 1).trans rfl; have hcz7_2 : w6.cell? ⟨gb132, 2, none⟩ = some (.int .i64 a0_2) := (qb BK132.out 2).trans rfl; have hcz7_3 : w6.cell? ⟨gb132, 3, none⟩ = some (.string a0_3) := (qb BK132.out 3).trans rfl; have hcz7_4 : w6.cell? ⟨gb132, 4, none⟩ = some (.int .i64 a0_4) := (qb BK132.out 4).trans rfl; have hcz7_5 : w6.cell? ⟨gb132, 5, none⟩ = some (.int .i64 a0_5) := (qb BK132.out 5).trans rfl; have hcz7_6 : w6.cell? ⟨gb132, 6, none⟩ = some (.string a0_6) := (qb BK132.out 6).trans rfl; have hcz7_7 : w6.cell? ⟨gb132, 7, none⟩ = some (.slice A0_7 l0_7.length c0_7) := (qb BK132.out 7).trans rfl; have hcz7_8 : w6.cell? ⟨gb132, 8, none⟩ = some (.slice A0_8 l0_8.length c0_8) := (qb BK132.out 8).trans rfl; have hcz7_9 : w6.cell? ⟨gb132, 9, none⟩ = some (.slice A0_9 l0_9.length c0_9) := (qb BK132.out 9).trans rfl; have hfz7_0 := qa BK132.out 0; have hfz7_1 := qa BK132.out 1; have hfz7_2 := qa BK132.out 2; have hfz7_3 := qa BK132.out 3; have hfz7_4 := qa BK132.out 4; have hfz7_5 := qa BK132.out 5; have hfz7_6 := qa BK132.out 6; have hfz7_7 := qa BK132.out 7; have hfz7_8 := qa BK132.out 8; have hfz7_9 := qa BK132.out 9))
   have n0_ := qd.mk (qm BK132.out)
   have n1_ := qd.mk (qh HB.out)
   clear BK132
   clear HB
   have BK132 := n0_
   have HB := n1_
   clear n0_ n1_
   refine qe5 (n := 14) (S := fun w' => w'.cell? ⟨gb132, 0, none⟩ = some (.int .i64 a0_0) ∧ w'.cell? ⟨gb132, 1, none⟩ = some (.int .i64 a0_1) ∧ w'.cell? ⟨gb132, 2, none⟩ = some (.int .i64 a0_2) ∧ w'.cell? ⟨gb132, 3, none⟩ = some (.string a0_3) ∧ w'.cell? ⟨gb132, 4, none⟩ = some (.int .i64 a0_4) ∧ w'.cell? ⟨gb132, 5, none⟩ = some (.int .i64 a0_5) ∧ w'.cell? ⟨gb132, 6, none⟩ = some (.string a0_6) ∧ w'.cell? ⟨gb132, 7, none⟩ = some (.slice A0_7 l0_7.length c0_7) ∧ w'.cell? ⟨gb132, 8, none⟩ = some (.slice A0_8 l0_8.length c0_8) ∧ w'.cell? ⟨gb132, 9, none⟩ = some (.slice A0_9 l0_9.length c0_9)) (ds := []) #[false, false, false, false, false, false, false, false, false, false, false, false, false, false] (by kernel_rfl) rfl rfl ⟨(qb BK132.out 0).trans rfl, (qb BK132.out 1).trans rfl, (qb BK132.out 2).trans rfl, (qb BK132.out 3).trans rfl, (qb BK132.out 4).trans rfl, (qb BK132.out 5).trans rfl, (qb BK132.out 6).trans rfl, (qb BK132.out 7).trans rfl, (qb BK132.out 8).trans rfl, (qb BK132.out 9).trans rfl⟩ (fun hHeld => ?_); refine qej qce.tab4 qce.bits4 (fun HT_ HW_ => ?_)
   generalize w6.drew = w8 at BK132 HB hHeld ⊢
   refine pure_ (i := 0) (N := some 9) (v := ?_) (a' := ?_) #[true, false, false, false, false, false, false, false, false, false, false, false, false, false] rfl rfl (qb9 HT_.out (by kernel_rfl)) (fun _ _ _ h => h) (Or.inl ⟨by rfl, ?_⟩) ?_ ?_
   rotate_left
   ·intro w'
    go_simp
    with_reducible rfl
   rotate_left
   ·simp only [Act.put, List.setIfInBounds_toArray, List.set_cons_zero, List.set_cons_succ, i64_w, i32_w]
    rfl
   refine pure_ (i := 2) (N := some 11) (v := ?_) (a' := ?_) #[true, false, true, false, false, false, false, false, false, false, false, false, false, false] rfl rfl (qb9 HT_.out (by kernel_rfl)) (fun _ _ _ h => h) (Or.inl ⟨by rfl, ?_⟩) ?_ ?_
   rotate_left
   ·intro w'
    go_simp
    with_reducible rfl
   rotate_left
   ·simp only [Act.put, List.setIfInBounds_toArray, List.set_cons_zero, List.set_cons_succ, i64_w, i32_w]
    rfl
   refine pure_ (i := 6) (N := some 15) (v := ?_) (a' := ?_) #[true, false, true, false, false, false, true, false, false, false, false, false, false, false] rfl rfl (qb9 HT_.out (by kernel_rfl)) (fun _ _ _ h => h) (Or.inl ⟨by rfl, ?_⟩) ?_ ?_
   rotate_left
   ·intro w'
    go_simp
    with_reducible rfl
   rotate_left
   ·simp only [Act.put, List.setIfInBounds_toArray, List.set_cons_zero, List.set_cons_succ, i64_w, i32_w]
    rfl
   refine pure_ (i := 8) (N := some 17) (v := ?_) (a' := ?_) #[true, false, true, false, false, false, true, false, true, false, false, false, false, false] rfl rfl (qb9 HT_.out (by kernel_rfl)) (fun _ _ _ h => h) (Or.inl ⟨by rfl, ?_⟩) ?_ ?_
   rotate_left
   ·intro w'
    go_simp
    with_reducible rfl
   rotate_left
   ·simp only [Act.put, List.setIfInBounds_toArray, List.set_cons_zero, List.set_cons_succ, i64_w, i32_w]
    rfl
   refine take_ (i := 1) (N := some 10) (v := ?_) (a' := ?_) #[true, true, true, false, false, false, true, false, true, false, false, false, false, false] rfl rfl (qcp HT_.out HW_.out (by kernel_rfl)) (fun _ _ _ h => h) (Or.inl ⟨by rfl, ?_⟩) hHeld ?_ ?_
   rotate_left
   ·rintro w' ⟨s0, s1, s2, s3, s4, s5, s6, s7, s8, s9⟩
    go_simp
    with_reducible rfl
   rotate_left
   ·simp only [Act.put, List.setIfInBounds_toArray, List.set_cons_zero, List.set_cons_succ, i64_w, i32_w]
    rfl
   refine take_ (i := 3) (N := some 12) (v := ?_) (a' := ?_) #[true, true, true, true, false, false, true, false, true, false, false, false, false, false] rfl rfl (qcp HT_.out HW_.out (by kernel_rfl)) (fun _ _ _ h => h) (Or.inl ⟨by rfl, ?_⟩) hHeld ?_ ?_
   rotate_left
   ·rintro w' ⟨s0, s1, s2, s3, s4, s5, s6, s7, s8, s9⟩
    go_simp
    with_reducible rfl
   rotate_left
   ·simp only [Act.put, List.setIfInBounds_toArray, List.set_cons_zero, List.set_cons_succ, i64_w, i32_w]
    rfl
   refine pure_ (i := 4) (N := some 13) (v := ?_) (a' := ?_) #[true, true, true, true, true, false, true, false, true, false, false, false, false, false] rfl rfl (qb9 HT_.out (by kernel_rfl)) (fun _ _ _ h => h) (Or.inl ⟨by rfl, ?_⟩) ?_ ?_
   rotate_left
   ·intro w'
    go_simp
    with_reducible rfl
   rotate_left
   ·simp only [Act.put, List.setIfInBounds_toArray, List.set_cons_zero, List.set_cons_succ, i64_w, i32_w]
    rfl
   refine take_ (i := 7) (N := some 16) (v := ?_) (a' := ?_) #[true, true, true, true, true, false, true, true, true, false, false, false, false, false] rfl rfl (qcp HT_.out HW_.out (by kernel_rfl)) (fun _ _ _ h => h) (Or.inl ⟨by rfl, ?_⟩) hHeld ?_ ?_
   rotate_left
   ·rintro w' ⟨s0, s1, s2, s3, s4, s5, s6, s7, s8, s9⟩
    go_simp
    with_reducible rfl
   rotate_left
   ·simp only [Act.put, List.setIfInBounds_toArray, List.set_cons_zero, List.set_cons_succ, i64_w, i32_w]
    rfl
   refine take_ (i := 9) (N := some 18) (v := ?_) (a' := ?_) #[true, true, true, true, true, false, true, true, true, true, false, false, false, false] rfl rfl (qcp HT_.out HW_.out (by kernel_rfl)) (fun _ _ _ h => h) (Or.inl ⟨by rfl, ?_⟩) hHeld ?_ ?_
   rotate_left
   ·rintro w' ⟨s0, s1, s2, s3, s4, s5, s6, s7, s8, s9⟩
    go_simp
    with_reducible rfl
   rotate_left
   ·simp only [Act.put, List.setIfInBounds_toArray, List.set_cons_zero, List.set_cons_succ, i64_w, i32_w]
    rfl
   refine pure_ (i := 10) (N := some 19) (v := ?_) (a' := ?_) #[true, true, true, true, true, false, true, true, true, true, true, false, false, false] rfl rfl (qb9 HT_.out (by kernel_rfl)) (fun _ _ _ h => h) (Or.inl ⟨by rfl, ?_⟩) ?_ ?_
   rotate_left
   ·intro w'
    go_simp
    with_reducible rfl
   rotate_left
   ·simp only [Act.put, List.setIfInBounds_toArray, List.set_cons_zero, List.set_cons_succ, i64_w, i32_w]
    rfl
   refine one_ (i := 5) (N := some 14) #[true, true, true, true, true, true, true, true, true, true, true, false, false, false] rfl rfl (qed HT_.out (by kernel_rfl)) (by decide) (fun K hK => ?_)
   refine goes_ Tryd.func80 (by kernel_rfl) rfl #[.int .i64 a0_1, .int .i64 1, .int .i64 (l0_8.length : Int)] (by rfl) rfl rfl (by (try simp only [List.map_toArray, List.map_cons, List.map_nil]); first | done | rfl | (simp only [List.length_drop, List.length_take]; rfl)) ?_
   with_reducible refine (qcm.calls a0_1 1 (l0_8.length : Int) t133 _ A3.out).mono ?_
   rintro e w9 ⟨rfl, hb⟩
   refine ⟨_, rfl, ?_⟩
   have n0_ := qd.mk (qbb (g := gb132) (o := .cells #[.int .i64 a0_0, .int .i64 a0_1, .int .i64 a0_2, .string a0_3, .int .i64 a0_4, .int .i64 a0_5, .string a0_6, .slice A0_7 l0_7.length c0_7, .slice A0_8 l0_8.length c0_8, .slice A0_9 l0_9.length c0_9] 30 (0, 0)) (by (with_reducible repeat (first | refine qj ?_ _ | refine qm ?_ | refine qi ?_ _)); exact BK132.out) hb)
   have n1_ := qd.mk (qba (by repeat (first | (with_reducible first | exact HB.out | apply qg | apply qc | apply qh | refine ql ?_ GE132.out) | exact HB.out)) hb)
   clear BK132
   clear HB
   have BK132 := n0_
   have HB := n1_
   clear n0_ n1_
   (try clear hb)
   (try clear hb2)
   (try clear hk)
   (try clear hi)
   refine hK.out _ _ ⟨(qb BK132.out 0).trans rfl, (qb BK132.out 1).trans rfl, (qb BK132.out 2).trans rfl, (qb BK132.out 3).trans rfl, (qb BK132.out 4).trans rfl, (qb BK132.out 5).trans rfl, (qb BK132.out 6).trans rfl, (qb BK132.out 7).trans rfl, (qb BK132.out 8).trans rfl, (qb BK132.out 9).trans rfl⟩ (fun hHeld => ?_)
   clear hK K
   refine norm_ (a' := ?_) ?_ ?_
   rotate_left
   ·show Act.put _ (some 14) _ = _
    simp only [Act.put, List.setIfInBounds_toArray, List.set_cons_zero, List.set_cons_succ, i64_w, i32_w]
    rfl
   refine one_ (i := 11) (N := some 20) #[true, true, true, true, true, true, true, true, true, true, true, true, false, false] rfl rfl (qed HT_.out (by kernel_rfl)) (by decide) (fun K hK => ?_)
   refine goes_ Tryd.func80 (by kernel_rfl) rfl #[.int .i64 a0_2, .int .i64 1, .int .i64 (l0_8.length : Int)] (by rfl) rfl rfl (by (try simp only [List.map_toArray, List.map_cons, List.map_nil]); first | done | rfl | (simp only [List.length_drop, List.length_take]; rfl)) ?_
   with_reducible refine (qcm.calls a0_2 1 (l0_8.length : Int) t134 _ A4.out).mono ?_
   rintro e w10 ⟨rfl, hb⟩
   refine ⟨_, rfl, ?_⟩
   have n0_ := qd.mk (qbb (g := gb132) (o := .cells #[.int .i64 a0_0, .int .i64 a0_1, .int .i64 a0_2, .string a0_3, .int .i64 a0_4, .int .i64 a0_5, .string a0_6, .slice A0_7 l0_7.length c0_7, .slice A0_8 l0_8.length c0_8, .slice A0_9 l0_9.length c0_9] 30 (0, 0)) (by (with_reducible repeat (first | refine qj ?_ _ | refine qm ?_ | refine qi ?_ _)); exact BK132.out) hb)
   have n1_ := qd.mk (qba (by repeat (first | (with_reducible first | exact HB.out | apply qg | apply qc | apply qh | refine ql ?_ GE132.out) | exact HB.out)) hb)
   clear BK132
   clear HB
   have BK132 := n0_
   have HB := n1_
   clear n0_ n1_
   (try clear hb)
   (try clear hb2)
   (try clear hk)
   (try clear hi)
   refine hK.out _ _ ⟨(qb BK132.out 0).trans rfl, (qb BK132.out 1).trans rfl, (qb BK132.out 2).trans rfl, (qb BK132.out 3).trans rfl, (qb BK132.out 4).trans rfl, (qb BK132.out 5).trans rfl, (qb BK132.out 6).trans rfl, (qb BK132.out 7).trans rfl, (qb BK132.out 8).trans rfl, (qb BK132.out 9).trans rfl⟩ (fun hHeld => ?_)
   clear hK K
   refine norm_ (a' := ?_) ?_ ?_
   rotate_left
   ·show Act.put _ (some 20) _ = _
    simp only [Act.put, List.setIfInBounds_toArray, List.set_cons_zero, List.set_cons_succ, i64_w, i32_w]
    rfl
   refine pure_ (i := 12) (N := some 3) (v := ?_) (a' := ?_) #[true, true, true, true, true, true, true, true, true, true, true, true, true, false] rfl rfl (qb9 HT_.out (by kernel_rfl)) (fun _ _ _ h => h) (Or.inl ⟨by rfl, ?_⟩) ?_ ?_
   rotate_left
   ·intro w'
    go_simp
    with_reducible rfl
   rotate_left
   ·simp only [Act.put, List.setIfInBounds_toArray, List.set_cons_zero, List.set_cons_succ, i64_w, i32_w]
    rfl
   refine pure_ (i := 13) (N := some 4) (v := ?_) (a' := ?_) #[true, true, true, true, true, true, true, true, true, true, true, true, true, true] rfl rfl (qb9 HT_.out (by kernel_rfl)) (fun _ _ _ h => h) (Or.inl ⟨by rfl, ?_⟩) ?_ ?_
   rotate_left
   ·intro w'
    go_simp
    with_reducible rfl
   rotate_left
   ·simp only [Act.put, List.setIfInBounds_toArray, List.set_cons_zero, List.set_cons_succ, i64_w, i32_w]
    rfl
   refine done_ (qez HT_.out (by kernel_rfl)) ?_
   have hcz11_0 : w10.cell? ⟨gb132, 0, none⟩ = some (.int .i64 a0_0) := (qb BK132.out 0).trans rfl
   have hcz11_1 : w10.cell? ⟨gb132, 1, none⟩ = some (.int .i64 a0_1) := (qb BK132.out 1).trans rfl
   have hcz11_2 : w10.cell? ⟨gb132, 2, none⟩ = some (.int .i64 a0_2) := (qb BK132.out 2).trans rfl
   have hcz11_3 : w10.cell? ⟨gb132, 3, none⟩ = some (.string a0_3) := (qb BK132.out 3).trans rfl
   have hcz11_4 : w10.cell? ⟨gb132, 4, none⟩ = some (.int .i64 a0_4) := (qb BK132.out 4).trans rfl
   have hcz11_5 : w10.cell? ⟨gb132, 5, none⟩ = some (.int .i64 a0_5) := (qb BK132.out 5).trans rfl
   have hcz11_6 : w10.cell? ⟨gb132, 6, none⟩ = some (.string a0_6) := (qb BK132.out 6).trans rfl
   have hcz11_7 : w10.cell? ⟨gb132, 7, none⟩ = some (.slice A0_7 l0_7.length c0_7) := (qb BK132.out 7).trans rfl
   have hcz11_8 : w10.cell? ⟨gb132, 8, none⟩ = some (.slice A0_8 l0_8.length c0_8) := (qb BK132.out 8).trans rfl
   have hcz11_9 : w10.cell? ⟨gb132, 9, none⟩ = some (.slice A0_9 l0_9.length c0_9) := (qb BK132.out 9).trans rfl
   have hfz11_0 := qa BK132.out 0
   have hfz11_1 := qa BK132.out 1
   have hfz11_2 := qa BK132.out 2
   have hfz11_3 := qa BK132.out 3
   have hfz11_4 := qa BK132.out 4
   have hfz11_5 := qa BK132.out 5
   have hfz11_6 := qa BK132.out 6
   have hfz11_7 := qa BK132.out 7
   have hfz11_8 := qa BK132.out 8
   have hfz11_9 := qa BK132.out 9
   try go_wp2
   go_ret
   exact ⟨by first | rfl | (simp [q9, qz] <;> rfl) | (simp [*, q9, qz] <;> rfl), by repeat (first | (with_reducible first | exact HB.out | apply qg | apply qc | apply qh | refine ql ?_ GE132.out) | exact HB.out)⟩
  ·rw [if_neg c5] at H
   have c5b0 : (a0_1 == t133) = false := beq_eq_false_iff_ne.mpr c5
   have c5b1 : (a0_1 != t133) = true := bne_iff_ne.mpr c5
   obtain rfl := Option.some.inj H
   go_enter Tryd.func68, Tryd.ntmps68
   try go_wp2_with (first | ((with_reducible refine qby (N := 1) rfl ?_); refine qbx ?hg (N := 1) ?hd (cs := #[.int .i64 a0_0, .int .i64 a0_1, .int .i64 a0_2, .string a0_3, .int .i64 a0_4, .int .i64 a0_5, .string a0_6, .slice A0_7 l0_7.length c0_7, .slice A0_8 l0_8.length c0_8, .slice A0_9 l0_9.length c0_9]) (t := 30) ?hr ?_; (case hd => rfl); (case hg => rfl); (case hr => first | (go_simp; done) | (go_simp; rfl)); intro gb132 hg w12 hbox hb; have n0_ := qd.mk (qba (by repeat (first | (with_reducible first | exact HB.out | apply qg | apply qc | apply qh) | exact HB.out)) hb); have n1_ := qd.mk (hbox); have n2_ := qd.mk ((by rw [hg]; exact (qbc (by repeat (first | (with_reducible first | exact HB.out | apply qg | apply qc | apply qh) | exact HB.out))) : w.heap.size ≤ gb132)); have n3_ := qd.mk ((by rw [hg]; exact (qbc (by repeat (first | (with_reducible first | exact HB.out | apply qg | apply qc | apply qh) | exact HB.out))) : w.heap.size ≤ gb132)); clear HB; have HB := n0_; have BK132 := n1_; have GW132 := n2_; have GE132 := n3_; clear n0_ n1_ n2_ n3_; clear hb hbox hg; have hcz13_0 : w12.cell? ⟨gb132, 0, none⟩ = some (.int .i64 a0_0) := (qb BK132.out 0).trans rfl; have hcz13_1 : w12.cell? ⟨gb132, 1, none⟩ = some (.int .i64 a0_1) := (qb BK132.out 1).trans rfl; have hcz13_2 : w12.cell? ⟨gb132, 2, none⟩ = some (.int .i64 a0_2) := (qb BK132.out 2).trans rfl; have hcz13_3 : w12.cell? ⟨gb132, 3, none⟩ = some (.string a0_3) := (qb BK132.out 3).trans rfl; have hcz13_4 : w12.cell? ⟨gb132, 4, none⟩ = some (.int .i64 a0_4) := (qb BK132.out 4).trans rfl; have hcz13_5 : w12.cell? ⟨gb132, 5, none⟩ = some (.int .i64 a0_5) := (qb BK132.out 5).trans rfl; have hcz13_6 : w12.cell? ⟨gb132, 6, none⟩ = some (.string a0_6) := (qb BK132.out 6).trans rfl; have hcz13_7 : w12.cell? ⟨gb132, 7, none⟩ = some (.slice A0_7 l0_7.length c0_7) := (qb BK132.out 7).trans rfl; have hcz13_8 : w12.cell? ⟨gb132, 8, none⟩ = some (.slice A0_8 l0_8.length c0_8) := (qb BK132.out 8).trans rfl; have hcz13_9 : w12.cell? ⟨gb132, 9, none⟩ = some (.slice A0_9 l0_9.length c0_9) := (qb BK132.out 9).trans rfl; have hfz13_0 := qa BK132.out 0; have hfz13_1 := qa BK132.out 1; have hfz13_2 := qa BK132.out 2; have hfz13_3 := qa BK132.out 3; have hfz13_4 := qa BK132.out 4; have hfz13_5 := qa BK132.out 5; have hfz13_6 := qa BK132.out 6; have hfz13_7 := qa BK132.out 7; have hfz13_8 := qa BK132.out 8; have hfz13_9 := qa BK132.out 9))
   have n0_ := qd.mk (qm BK132.out)
   have n1_ := qd.mk (qh HB.out)
   clear BK132
   clear HB
   have BK132 := n0_
   have HB := n1_
   clear n0_ n1_
   refine qe5 (n := 14) (S := fun w' => w'.cell? ⟨gb132, 0, none⟩ = some (.int .i64 a0_0) ∧ w'.cell? ⟨gb132, 1, none⟩ = some (.int .i64 a0_1) ∧ w'.cell? ⟨gb132, 2, none⟩ = some (.int .i64 a0_2) ∧ w'.cell? ⟨gb132, 3, none⟩ = some (.string a0_3) ∧ w'.cell? ⟨gb132, 4, none⟩ = some (.int .i64 a0_4) ∧ w'.cell? ⟨gb132, 5, none⟩ = some (.int .i64 a0_5) ∧ w'.cell? ⟨gb132, 6, none⟩ = some (.string a0_6) ∧ w'.cell? ⟨gb132, 7, none⟩ = some (.slice A0_7 l0_7.length c0_7) ∧ w'.cell? ⟨gb132, 8, none⟩ = some (.slice A0_8 l0_8.length c0_8) ∧ w'.cell? ⟨gb132, 9, none⟩ = some (.slice A0_9 l0_9.length c0_9)) (ds := []) #[false, false, false, false, false, false, false, false, false, false, false, false, false, false] (by kernel_rfl) rfl rfl ⟨(qb BK132.out 0).trans rfl, (qb BK132.out 1).trans rfl, (qb BK132.out 2).trans rfl, (qb BK132.out 3).trans rfl, (qb BK132.out 4).trans rfl, (qb BK132.out 5).trans rfl, (qb BK132.out 6).trans rfl, (qb BK132.out 7).trans rfl, (qb BK132.out 8).trans rfl, (qb BK132.out 9).trans rfl⟩ (fun hHeld => ?_); refine qej qce.tab4 qce.bits4 (fun HT_ HW_ => ?_)
   generalize w12.drew = w14 at BK132 HB hHeld ⊢
   refine pure_ (i := 0) (N := some 9) (v := ?_) (a' := ?_) #[true, false, false, false, false, false, false, false, false, false, false, false, false, false] rfl rfl (qb9 HT_.out (by kernel_rfl)) (fun _ _ _ h => h) (Or.inl ⟨by rfl, ?_⟩) ?_ ?_
   rotate_left
   ·intro w'
    go_simp
    with_reducible rfl
   rotate_left
   ·simp only [Act.put, List.setIfInBounds_toArray, List.set_cons_zero, List.set_cons_succ, i64_w, i32_w]
    rfl
   refine pure_ (i := 2) (N := some 11) (v := ?_) (a' := ?_) #[true, false, true, false, false, false, false, false, false, false, false, false, false, false] rfl rfl (qb9 HT_.out (by kernel_rfl)) (fun _ _ _ h => h) (Or.inl ⟨by rfl, ?_⟩) ?_ ?_
   rotate_left
   ·intro w'
    go_simp
    with_reducible rfl
   rotate_left
   ·simp only [Act.put, List.setIfInBounds_toArray, List.set_cons_zero, List.set_cons_succ, i64_w, i32_w]
    rfl
   refine pure_ (i := 6) (N := some 15) (v := ?_) (a' := ?_) #[true, false, true, false, false, false, true, false, false, false, false, false, false, false] rfl rfl (qb9 HT_.out (by kernel_rfl)) (fun _ _ _ h => h) (Or.inl ⟨by rfl, ?_⟩) ?_ ?_
   rotate_left
   ·intro w'
    go_simp
    with_reducible rfl
   rotate_left
   ·simp only [Act.put, List.setIfInBounds_toArray, List.set_cons_zero, List.set_cons_succ, i64_w, i32_w]
    rfl
   refine pure_ (i := 8) (N := some 17) (v := ?_) (a' := ?_) #[true, false, true, false, false, false, true, false, true, false, false, false, false, false] rfl rfl (qb9 HT_.out (by kernel_rfl)) (fun _ _ _ h => h) (Or.inl ⟨by rfl, ?_⟩) ?_ ?_
   rotate_left
   ·intro w'
    go_simp
    with_reducible rfl
   rotate_left
   ·simp only [Act.put, List.setIfInBounds_toArray, List.set_cons_zero, List.set_cons_succ, i64_w, i32_w]
    rfl
   refine take_ (i := 1) (N := some 10) (v := ?_) (a' := ?_) #[true, true, true, false, false, false, true, false, true, false, false, false, false, false] rfl rfl (qcp HT_.out HW_.out (by kernel_rfl)) (fun _ _ _ h => h) (Or.inl ⟨by rfl, ?_⟩) hHeld ?_ ?_
   rotate_left
   ·rintro w' ⟨s0, s1, s2, s3, s4, s5, s6, s7, s8, s9⟩
    go_simp
    with_reducible rfl
   rotate_left
   ·simp only [Act.put, List.setIfInBounds_toArray, List.set_cons_zero, List.set_cons_succ, i64_w, i32_w]
    rfl
   refine take_ (i := 3) (N := some 12) (v := ?_) (a' := ?_) #[true, true, true, true, false, false, true, false, true, false, false, false, false, false] rfl rfl (qcp HT_.out HW_.out (by kernel_rfl)) (fun _ _ _ h => h) (Or.inl ⟨by rfl, ?_⟩) hHeld ?_ ?_
   rotate_left
   ·rintro w' ⟨s0, s1, s2, s3, s4, s5, s6, s7, s8, s9⟩
    go_simp
    with_reducible rfl
   rotate_left
   ·simp only [Act.put, List.setIfInBounds_toArray, List.set_cons_zero, List.set_cons_succ, i64_w, i32_w]
    rfl
   refine pure_ (i := 4) (N := some 13) (v := ?_) (a' := ?_) #[true, true, true, true, true, false, true, false, true, false, false, false, false, false] rfl rfl (qb9 HT_.out (by kernel_rfl)) (fun _ _ _ h => h) (Or.inl ⟨by rfl, ?_⟩) ?_ ?_
   rotate_left
   ·intro w'
    go_simp
    with_reducible rfl
   rotate_left
   ·simp only [Act.put, List.setIfInBounds_toArray, List.set_cons_zero, List.set_cons_succ, i64_w, i32_w]
    rfl
   refine take_ (i := 7) (N := some 16) (v := ?_) (a' := ?_) #[true, true, true, true, true, false, true, true, true, false, false, false, false, false] rfl rfl (qcp HT_.out HW_.out (by kernel_rfl)) (fun _ _ _ h => h) (Or.inl ⟨by rfl, ?_⟩) hHeld ?_ ?_
   rotate_left
   ·rintro w' ⟨s0, s1, s2, s3, s4, s5, s6, s7, s8, s9⟩
    go_simp
    with_reducible rfl
   rotate_left
   ·simp only [Act.put, List.setIfInBounds_toArray, List.set_cons_zero, List.set_cons_succ, i64_w, i32_w]
    rfl
   refine take_ (i := 9) (N := some 18) (v := ?_) (a' := ?_) #[true, true, true, true, true, false, true, true, true, true, false, false, false, false] rfl rfl (qcp HT_.out HW_.out (by kernel_rfl)) (fun _ _ _ h => h) (Or.inl ⟨by rfl, ?_⟩) hHeld ?_ ?_
   rotate_left
   ·rintro w' ⟨s0, s1, s2, s3, s4, s5, s6, s7, s8, s9⟩
    go_simp
    with_reducible rfl
   rotate_left
   ·simp only [Act.put, List.setIfInBounds_toArray, List.set_cons_zero, List.set_cons_succ, i64_w, i32_w]
    rfl
   refine pure_ (i := 10) (N := some 19) (v := ?_) (a' := ?_) #[true, true, true, true, true, false, true, true, true, true, true, false, false, false] rfl rfl (qb9 HT_.out (by kernel_rfl)) (fun _ _ _ h => h) (Or.inl ⟨by rfl, ?_⟩) ?_ ?_
   rotate_left
   ·intro w'
    go_simp
    with_reducible rfl
   rotate_left
   ·simp only [Act.put, List.setIfInBounds_toArray, List.set_cons_zero, List.set_cons_succ, i64_w, i32_w]
    rfl
   refine one_ (i := 5) (N := some 14) #[true, true, true, true, true, true, true, true, true, true, true, false, false, false] rfl rfl (qed HT_.out (by kernel_rfl)) (by decide) (fun K hK => ?_)
   refine goes_ Tryd.func80 (by kernel_rfl) rfl #[.int .i64 a0_1, .int .i64 1, .int .i64 (l0_8.length : Int)] (by rfl) rfl rfl (by (try simp only [List.map_toArray, List.map_cons, List.map_nil]); first | done | rfl | (simp only [List.length_drop, List.length_take]; rfl)) ?_
   with_reducible refine (qcm.calls a0_1 1 (l0_8.length : Int) t133 _ A3.out).mono ?_
   rintro e w15 ⟨rfl, hb⟩
   refine ⟨_, rfl, ?_⟩
   have n0_ := qd.mk (qbb (g := gb132) (o := .cells #[.int .i64 a0_0, .int .i64 a0_1, .int .i64 a0_2, .string a0_3, .int .i64 a0_4, .int .i64 a0_5, .string a0_6, .slice A0_7 l0_7.length c0_7, .slice A0_8 l0_8.length c0_8, .slice A0_9 l0_9.length c0_9] 30 (0, 0)) (by (with_reducible repeat (first | refine qj ?_ _ | refine qm ?_ | refine qi ?_ _)); exact BK132.out) hb)
   have n1_ := qd.mk (qba (by repeat (first | (with_reducible first | exact HB.out | apply qg | apply qc | apply qh | refine ql ?_ GE132.out) | exact HB.out)) hb)
   clear BK132
   clear HB
   have BK132 := n0_
   have HB := n1_
   clear n0_ n1_
   (try clear hb)
   (try clear hb2)
   (try clear hk)
   (try clear hi)
   refine hK.out _ _ ⟨(qb BK132.out 0).trans rfl, (qb BK132.out 1).trans rfl, (qb BK132.out 2).trans rfl, (qb BK132.out 3).trans rfl, (qb BK132.out 4).trans rfl, (qb BK132.out 5).trans rfl, (qb BK132.out 6).trans rfl, (qb BK132.out 7).trans rfl, (qb BK132.out 8).trans rfl, (qb BK132.out 9).trans rfl⟩ (fun hHeld => ?_)
   clear hK K
   refine norm_ (a' := ?_) ?_ ?_
   rotate_left
   ·show Act.put _ (some 14) _ = _
    simp only [Act.put, List.setIfInBounds_toArray, List.set_cons_zero, List.set_cons_succ, i64_w, i32_w]
    rfl
   refine one_ (i := 11) (N := some 20) #[true, true, true, true, true, true, true, true, true, true, true, true, false, false] rfl rfl (qed HT_.out (by kernel_rfl)) (by decide) (fun K hK => ?_)
   refine goes_ Tryd.func80 (by kernel_rfl) rfl #[.int .i64 a0_2, .int .i64 1, .int .i64 (l0_8.length : Int)] (by rfl) rfl rfl (by (try simp only [List.map_toArray, List.map_cons, List.map_nil]); first | done | rfl | (simp only [List.length_drop, List.length_take]; rfl)) ?_
   with_reducible refine (qcm.calls a0_2 1 (l0_8.length : Int) t134 _ A4.out).mono ?_
   rintro e w16 ⟨rfl, hb⟩
   refine ⟨_, rfl, ?_⟩
   have n0_ := qd.mk (qbb (g := gb132) (o := .cells #[.int .i64 a0_0, .int .i64 a0_1, .int .i64 a0_2, .string a0_3, .int .i64 a0_4, .int .i64 a0_5, .string a0_6, .slice A0_7 l0_7.length c0_7, .slice A0_8 l0_8.length c0_8, .slice A0_9 l0_9.length c0_9] 30 (0, 0)) (by (with_reducible repeat (first | refine qj ?_ _ | refine qm ?_ | refine qi ?_ _)); exact BK132.out) hb)
   have n1_ := qd.mk (qba (by repeat (first | (with_reducible first | exact HB.out | apply qg | apply qc | apply qh | refine ql ?_ GE132.out) | exact HB.out)) hb)
   clear BK132
   clear HB
   have BK132 := n0_
   have HB := n1_
   clear n0_ n1_
   (try clear hb)
   (try clear hb2)
   (try clear hk)
   (try clear hi)
   refine hK.out _ _ ⟨(qb BK132.out 0).trans rfl, (qb BK132.out 1).trans rfl, (qb BK132.out 2).trans rfl, (qb BK132.out 3).trans rfl, (qb BK132.out 4).trans rfl, (qb BK132.out 5).trans rfl, (qb BK132.out 6).trans rfl, (qb BK132.out 7).trans rfl, (qb BK132.out 8).trans rfl, (qb BK132.out 9).trans rfl⟩ (fun hHeld => ?_)
   clear hK K
   refine norm_ (a' := ?_) ?_ ?_
   rotate_left
   ·show Act.put _ (some 20) _ = _
    simp only [Act.put, List.setIfInBounds_toArray, List.set_cons_zero, List.set_cons_succ, i64_w, i32_w]
    rfl
   refine pure_ (i := 12) (N := some 3) (v := ?_) (a' := ?_) #[true, true, true, true, true, true, true, true, true, true, true, true, true, false] rfl rfl (qb9 HT_.out (by kernel_rfl)) (fun _ _ _ h => h) (Or.inl ⟨by rfl, ?_⟩) ?_ ?_
   rotate_left
   ·intro w'
    go_simp
    with_reducible rfl
   rotate_left
   ·simp only [Act.put, List.setIfInBounds_toArray, List.set_cons_zero, List.set_cons_succ, i64_w, i32_w]
    rfl
   refine pure_ (i := 13) (N := some 4) (v := ?_) (a' := ?_) #[true, true, true, true, true, true, true, true, true, true, true, true, true, true] rfl rfl (qb9 HT_.out (by kernel_rfl)) (fun _ _ _ h => h) (Or.inl ⟨by rfl, ?_⟩) ?_ ?_
   rotate_left
   ·intro w'
    go_simp
    with_reducible rfl
   rotate_left
   ·simp only [Act.put, List.setIfInBounds_toArray, List.set_cons_zero, List.set_cons_succ, i64_w, i32_w]
    rfl
   refine done_ (qez HT_.out (by kernel_rfl)) ?_
   have hcz17_0 : w16.cell? ⟨gb132, 0, none⟩ = some (.int .i64 a0_0) := (qb BK132.out 0).trans rfl
   have hcz17_1 : w16.cell? ⟨gb132, 1, none⟩ = some (.int .i64 a0_1) := (qb BK132.out 1).trans rfl
   have hcz17_2 : w16.cell? ⟨gb132, 2, none⟩ = some (.int .i64 a0_2) := (qb BK132.out 2).trans rfl
   have hcz17_3 : w16.cell? ⟨gb132, 3, none⟩ = some (.string a0_3) := (qb BK132.out 3).trans rfl
   have hcz17_4 : w16.cell? ⟨gb132, 4, none⟩ = some (.int .i64 a0_4) := (qb BK132.out 4).trans rfl
   have hcz17_5 : w16.cell? ⟨gb132, 5, none⟩ = some (.int .i64 a0_5) := (qb BK132.out 5).trans rfl
   have hcz17_6 : w16.cell? ⟨gb132, 6, none⟩ = some (.string a0_6) := (qb BK132.out 6).trans rfl
   have hcz17_7 : w16.cell? ⟨gb132, 7, none⟩ = some (.slice A0_7 l0_7.length c0_7) := (qb BK132.out 7).trans rfl
   have hcz17_8 : w16.cell? ⟨gb132, 8, none⟩ = some (.slice A0_8 l0_8.length c0_8) := (qb BK132.out 8).trans rfl
   have hcz17_9 : w16.cell? ⟨gb132, 9, none⟩ = some (.slice A0_9 l0_9.length c0_9) := (qb BK132.out 9).trans rfl
   have hfz17_0 := qa BK132.out 0
   have hfz17_1 := qa BK132.out 1
   have hfz17_2 := qa BK132.out 2
   have hfz17_3 := qa BK132.out 3
   have hfz17_4 := qa BK132.out 4
   have hfz17_5 := qa BK132.out 5
   have hfz17_6 := qa BK132.out 6
   have hfz17_7 := qa BK132.out 7
   have hfz17_8 := qa BK132.out 8
   have hfz17_9 := qa BK132.out 9
   try go_wp2
   go_ret
   exact ⟨by first | rfl | (simp [q9, qz] <;> rfl) | (simp [*, q9, qz] <;> rfl), by repeat (first | (with_reducible first | exact HB.out | apply qg | apply qc | apply qh | refine ql ?_ GE132.out) | exact HB.out)⟩
 ·rw [if_neg c2] at H
  have c2b0 : (a0_0 == 4) = false := beq_eq_false_iff_ne.mpr c2
  have c2b1 : (a0_0 != 4) = true := bne_iff_ne.mpr c2
  by_cases c18 : a0_0 = 6
  ·rw [if_pos c18] at H
   have c18b0 : (a0_0 == 6) = true := beq_iff_eq.mpr c18
   have c18b1 : (a0_0 != 6) = false := bne_eq_false_iff_eq.mpr c18
   clear c18
   replace H := Option.bind_eq_some_iff.mp H
   obtain ⟨t135, A190, H⟩ := H
   replace H : (if a0_1 = t135 then (some (a0_2 == 0)) else (some false)) = some r := H
   have A19 := qd.mk A190
   clear A190
   by_cases c20 : a0_1 = t135
   ·rw [if_pos c20] at H
    have c20b0 : (a0_1 == t135) = true := beq_iff_eq.mpr c20
    have c20b1 : (a0_1 != t135) = false := bne_eq_false_iff_eq.mpr c20
    clear c20
    obtain rfl := Option.some.inj H
    go_enter Tryd.func68, Tryd.ntmps68
    go_wp2_with (first | ((with_reducible refine qby (N := 1) rfl ?_); refine qbx ?hg (N := 1) ?hd (cs := #[.int .i64 a0_0, .int .i64 a0_1, .int .i64 a0_2, .string a0_3, .int .i64 a0_4, .int .i64 a0_5, .string a0_6, .slice A0_7 l0_7.length c0_7, .slice A0_8 l0_8.length c0_8, .slice A0_9 l0_9.length c0_9]) (t := 30) ?hr ?_; (case hd => rfl); (case hg => rfl); (case hr => first | (go_simp; done) | (go_simp; rfl)); intro gb132 hg w21 hbox hb; have n0_ := qd.mk (qba (by repeat (first | (with_reducible first | exact HB.out | apply qg | apply qc | apply qh) | exact HB.out)) hb); have n1_ := qd.mk (hbox); have n2_ := qd.mk ((by rw [hg]; exact (qbc (by repeat (first | (with_reducible first | exact HB.out | apply qg | apply qc | apply qh) | exact HB.out))) : w.heap.size ≤ gb132)); have n3_ := qd.mk ((by rw [hg]; exact (qbc (by repeat (first | (with_reducible first | exact HB.out | apply qg | apply qc | apply qh) | exact HB.out))) : w.heap.size ≤ gb132)); clear HB; have HB := n0_; have BK132 := n1_; have GW132 := n2_; have GE132 := n3_; clear n0_ n1_ n2_ n3_; clear hb hbox hg; have hcz22_0 : w21.cell? ⟨gb132, 0, none⟩ = some (.int .i64 a0_0) := (qb BK132.out 0).trans rfl; have hcz22_1 : w21.cell? ⟨gb132, 1, none⟩ = some (.int .i64 a0_1) := (qb BK132.out 1).trans rfl; have hcz22_2 : w21.cell? ⟨gb132, 2, none⟩ = some (.int .i64 a0_2) := (qb BK132.out 2).trans rfl; have hcz22_3 : w21.cell? ⟨gb132, 3, none⟩ = some (.string a0_3) := (qb BK132.out 3).trans rfl; have hcz22_4 : w21.cell? ⟨gb132, 4, none⟩ = some (.int .i64 a0_4) := (qb BK132.out 4).trans rfl; have hcz22_5 : w21.cell? ⟨gb132, 5, none⟩ = some (.int .i64 a0_5) := (qb BK132.out 5).trans rfl; have hcz22_6 : w21.cell? ⟨gb132, 6, none⟩ = some (.string a0_6) := (qb BK132.out 6).trans rfl; have hcz22_7 : w21.cell? ⟨gb132, 7, none⟩ = some (.slice A0_7 l0_7.length c0_7) := (qb BK132.out 7).trans rfl; have hcz22_8 : w21.cell? ⟨gb132, 8, none⟩ = some (.slice A0_8 l0_8.length c0_8) := (qb BK132.out 8).trans rfl; have hcz22_9 : w21.cell? ⟨gb132, 9, none⟩ = some (.slice A0_9 l0_9.length c0_9) := (qb BK132.out 9).trans rfl; have hfz22_0 := qa BK132.out 0; have hfz22_1 := qa BK132.out 1; have hfz22_2 := qa BK132.out 2; have hfz22_3 := qa BK132.out 3; have hfz22_4 := qa BK132.out 4; have hfz22_5 := qa BK132.out 5; have hfz22_6 := qa BK132.out 6; have hfz22_7 := qa BK132.out 7; have hfz22_8 := qa BK132.out 8; have hfz22_9 := qa BK132.out 9) | ((with_reducible refine qb2 (f := 80) rfl ?_); refine qcn (some 25) rfl rfl Tryd.func80 (by kernel_rfl) rfl #[.int .i64 a0_1, .int .i64 1, .int .i64 1000] rfl (by (try simp only [List.map_toArray, List.map_cons, List.map_nil]); first | done | rfl | (simp only [List.length_drop, List.length_take]; rfl)) ?_; (with_reducible refine (qcm.calls a0_1 1 1000 t135 _ A19.out).mono ?_); rintro e w23 ⟨rfl, hb⟩; refine ⟨_, rfl, ?_⟩; have n0_ := qd.mk (qbb (g := gb132) (o := .cells #[.int .i64 a0_0, .int .i64 a0_1, .int .i64 a0_2, .string a0_3, .int .i64 a0_4, .int .i64 a0_5, .string a0_6, .slice A0_7 l0_7.length c0_7, .slice A0_8 l0_8.length c0_8, .slice A0_9 l0_9.length c0_9] 30 (0, 0)) (by (with_reducible repeat (first | refine qj ?_ _ | refine qm ?_ | refine qi ?_ _)); exact BK132.out) hb); have n1_ := qd.mk (qba (by repeat (first | (with_reducible first | exact HB.out | apply qg | apply qc | apply qh | refine ql ?_ GE132.out) | exact HB.out)) hb); clear BK132; clear HB; have BK132 := n0_; have HB := n1_; clear n0_ n1_; (try clear hb); (try clear hb2); (try clear hk); (try clear hi); have hcz24_0 : w23.cell? ⟨gb132, 0, none⟩ = some (.int .i64 a0_0) := (qb BK132.out 0).trans rfl; have hcz24_1 : w23.cell? ⟨gb132, 1, none⟩ = some (.int .i64 a0_1) := (qb BK132.out 1).trans rfl; have hcz24_2 : w23.cell? ⟨gb132, 2, none⟩ = some (.int .i64 a0_2) := (qb BK132.out 2).trans rfl; have hcz24_3 : w23.cell? ⟨gb132, 3, none⟩ = some (.string a0_3) := (qb BK132.out 3).trans rfl; have hcz24_4 : w23.cell? ⟨gb132, 4, none⟩ = some (.int .i64 a0_4) := (qb BK132.out 4).trans rfl; have hcz24_5 : w23.cell? ⟨gb132, 5, none⟩ = some (.int .i64 a0_5) := (qb BK132.out 5).trans rfl; have hcz24_6 : w23.cell? ⟨gb132, 6, none⟩ = some (.string a0_6) := (qb BK132.out 6).trans rfl; have hcz24_7 : w23.cell? ⟨gb132, 7, none⟩ = some (.slice A0_7 l0_7.length c0_7) := (qb BK132.out 7).trans rfl; have hcz24_8 : w23.cell? ⟨gb132, 8, none⟩ = some (.slice A0_8 l0_8.length c0_8) := (qb BK132.out 8).trans rfl; have hcz24_9 : w23.cell? ⟨gb132, 9, none⟩ = some (.slice A0_9 l0_9.length c0_9) := (qb BK132.out 9).trans rfl; have hfz24_0 := qa BK132.out 0; have hfz24_1 := qa BK132.out 1; have hfz24_2 := qa BK132.out 2; have hfz24_3 := qa BK132.out 3; have hfz24_4 := qa BK132.out 4; have hfz24_5 := qa BK132.out 5; have hfz24_6 := qa BK132.out 6; have hfz24_7 := qa BK132.out 7; have hfz24_8 := qa BK132.out 8; have hfz24_9 := qa BK132.out 9))
    go_ret
    exact ⟨by first | rfl | (simp [q9, qz] <;> rfl) | (simp [*, q9, qz] <;> rfl), by repeat (first | (with_reducible first | exact HB.out | apply qg | apply qc | apply qh | refine ql ?_ GE132.out) | exact HB.out)⟩
   ·rw [if_neg c20] at H
    have c20b0 : (a0_1 == t135) = false := beq_eq_false_iff_ne.mpr c20
    have c20b1 : (a0_1 != t135) = true := bne_iff_ne.mpr c20
    obtain rfl := Option.some.inj H
    go_enter Tryd.func68, Tryd.ntmps68
    go_wp2_with (first | ((with_reducible refine qby (N := 1) rfl ?_); refine qbx ?hg (N := 1) ?hd (cs := #[.int .i64 a0_0, .int .i64 a0_1, .int .i64 a0_2, .string a0_3, .int .i64 a0_4, .int .i64 a0_5, .string a0_6, .slice A0_7 l0_7.length c0_7, .slice A0_8 l0_8.length c0_8, .slice A0_9 l0_9.length c0_9]) (t := 30) ?hr ?_; (case hd => rfl); (case hg => rfl); (case hr => first | (go_simp; done) | (go_simp; rfl)); intro gb132 hg w25 hbox hb; have n0_ := qd.mk (qba (by repeat (first | (with_reducible first | exact HB.out | apply qg | apply qc | apply qh) | exact HB.out)) hb); have n1_ := qd.mk (hbox); have n2_ := qd.mk ((by rw [hg]; exact (qbc (by repeat (first | (with_reducible first | exact HB.out | apply qg | apply qc | apply qh) | exact HB.out))) : w.heap.size ≤ gb132)); have n3_ := qd.mk ((by rw [hg]; exact (qbc (by repeat (first | (with_reducible first | exact HB.out | apply qg | apply qc | apply qh) | exact HB.out))) : w.heap.size ≤ gb132)); clear HB; have HB := n0_; have BK132 := n1_; have GW132 := n2_; have GE132 := n3_; clear n0_ n1_ n2_ n3_; clear hb hbox hg; have hcz26_0 : w25.cell? ⟨gb132, 0, none⟩ = some (.int .i64 a0_0) := (qb BK132.out 0).trans rfl; have hcz26_1 : w25.cell? ⟨gb132, 1, none⟩ = some (.int .i64 a0_1) := (qb BK132.out 1).trans rfl; have hcz26_2 : w25.cell? ⟨gb132, 2, none⟩ = some (.int .i64 a0_2) := (qb BK132.out 2).trans rfl; have hcz26_3 : w25.cell? ⟨gb132, 3, none⟩ = some (.string a0_3) := (qb BK132.out 3).trans rfl; have hcz26_4 : w25.cell? ⟨gb132, 4, none⟩ = some (.int .i64 a0_4) := (qb BK132.out 4).trans rfl; have hcz26_5 : w25.cell? ⟨gb132, 5, none⟩ = some (.int .i64 a0_5) := (qb BK132.out 5).trans rfl; have hcz26_6 : w25.cell? ⟨gb132, 6, none⟩ = some (.string a0_6) := (qb BK132.out 6).trans rfl; have hcz26_7 : w25.cell? ⟨gb132, 7, none⟩ = some (.slice A0_7 l0_7.length c0_7) := (qb BK132.out 7).trans rfl; have hcz26_8 : w25.cell? ⟨gb132, 8, none⟩ = some (.slice A0_8 l0_8.length c0_8) := (qb BK132.out 8).trans rfl; have hcz26_9 : w25.cell? ⟨gb132, 9, none⟩ = some (.slice A0_9 l0_9.length c0_9) := (qb BK132.out 9).trans rfl; have hfz26_0 := qa BK132.out 0; have hfz26_1 := qa BK132.out 1; have hfz26_2 := qa BK132.out 2; have hfz26_3 := qa BK132.out 3; have hfz26_4 := qa BK132.out 4; have hfz26_5 := qa BK132.out 5; have hfz26_6 := qa BK132.out 6; have hfz26_7 := qa BK132.out 7; have hfz26_8 := qa BK132.out 8; have hfz26_9 := qa BK132.out 9) | ((with_reducible refine qb2 (f := 80) rfl ?_); refine qcn (some 25) rfl rfl Tryd.func80 (by kernel_rfl) rfl #[.int .i64 a0_1, .int .i64 1, .int .i64 1000] rfl (by (try simp only [List.map_toArray, List.map_cons, List.map_nil]); first | done | rfl | (simp only [List.length_drop, List.length_take]; rfl)) ?_; (with_reducible refine (qcm.calls a0_1 1 1000 t135 _ A19.out).mono ?_); rintro e w27 ⟨rfl, hb⟩; refine ⟨_, rfl, ?_⟩; have n0_ := qd.mk (qbb (g := gb132) (o := .cells #[.int .i64 a0_0, .int .i64 a0_1, .int .i64 a0_2, .string a0_3, .int .i64 a0_4, .int .i64 a0_5, .string a0_6, .slice A0_7 l0_7.length c0_7, .slice A0_8 l0_8.length c0_8, .slice A0_9 l0_9.length c0_9] 30 (0, 0)) (by (with_reducible repeat (first | refine qj ?_ _ | refine qm ?_ | refine qi ?_ _)); exact BK132.out) hb); have n1_ := qd.mk (qba (by repeat (first | (with_reducible first | exact HB.out | apply qg | apply qc | apply qh | refine ql ?_ GE132.out) | exact HB.out)) hb); clear BK132; clear HB; have BK132 := n0_; have HB := n1_; clear n0_ n1_; (try clear hb); (try clear hb2); (try clear hk); (try clear hi); have hcz28_0 : w27.cell? ⟨gb132, 0, none⟩ = some (.int .i64 a0_0) := (qb BK132.out 0).trans rfl; have hcz28_1 : w27.cell? ⟨gb132, 1, none⟩ = some (.int .i64 a0_1) := (qb BK132.out 1).trans rfl; have hcz28_2 : w27.cell? ⟨gb132, 2, none⟩ = some (.int .i64 a0_2) := (qb BK132.out 2).trans rfl; have hcz28_3 : w27.cell? ⟨gb132, 3, none⟩ = some (.string a0_3) := (qb BK132.out 3).trans rfl; have hcz28_4 : w27.cell? ⟨gb132, 4, none⟩ = some (.int .i64 a0_4) := (qb BK132.out 4).trans rfl; have hcz28_5 : w27.cell? ⟨gb132, 5, none⟩ = some (.int .i64 a0_5) := (qb BK132.out 5).trans rfl; have hcz28_6 : w27.cell? ⟨gb132, 6, none⟩ = some (.string a0_6) := (qb BK132.out 6).trans rfl; have hcz28_7 : w27.cell? ⟨gb132, 7, none⟩ = some (.slice A0_7 l0_7.length c0_7) := (qb BK132.out 7).trans rfl; have hcz28_8 : w27.cell? ⟨gb132, 8, none⟩ = some (.slice A0_8 l0_8.length c0_8) := (qb BK132.out 8).trans rfl; have hcz28_9 : w27.cell? ⟨gb132, 9, none⟩ = some (.slice A0_9 l0_9.length c0_9) := (qb BK132.out 9).trans rfl; have hfz28_0 := qa BK132.out 0; have hfz28_1 := qa BK132.out 1; have hfz28_2 := qa BK132.out 2; have hfz28_3 := qa BK132.out 3; have hfz28_4 := qa BK132.out 4; have hfz28_5 := qa BK132.out 5; have hfz28_6 := qa BK132.out 6; have hfz28_7 := qa BK132.out 7; have hfz28_8 := qa BK132.out 8; have hfz28_9 := qa BK132.out 9))
    go_ret
    exact ⟨by first | rfl | (simp [q9, qz] <;> rfl) | (simp [*, q9, qz] <;> rfl), by repeat (first | (with_reducible first | exact HB.out | apply qg | apply qc | apply qh | refine ql ?_ GE132.out) | exact HB.out)⟩
  ·rw [if_neg c18] at H
   have c18b0 : (a0_0 == 6) = false := beq_eq_false_iff_ne.mpr c18
   have c18b1 : (a0_0 != 6) = true := bne_iff_ne.mpr c18
   by_cases c29 : a0_1 = 0
   ·rw [if_pos c29] at H
    have c29b0 : (a0_1 == 0) = true := beq_iff_eq.mpr c29
    have c29b1 : (a0_1 != 0) = false := bne_eq_false_iff_eq.mpr c29
    clear c29
    obtain rfl := Option.some.inj H
    go_enter Tryd.func68, Tryd.ntmps68
    go_wp2_with (first | ((with_reducible refine qby (N := 1) rfl ?_); refine qbx ?hg (N := 1) ?hd (cs := #[.int .i64 a0_0, .int .i64 a0_1, .int .i64 a0_2, .string a0_3, .int .i64 a0_4, .int .i64 a0_5, .string a0_6, .slice A0_7 l0_7.length c0_7, .slice A0_8 l0_8.length c0_8, .slice A0_9 l0_9.length c0_9]) (t := 30) ?hr ?_; (case hd => rfl); (case hg => rfl); (case hr => first | (go_simp; done) | (go_simp; rfl)); intro gb132 hg w30 hbox hb; have n0_ := qd.mk (qba (by repeat (first | (with_reducible first | exact HB.out | apply qg | apply qc | apply qh) | exact HB.out)) hb); have n1_ := qd.mk (hbox); have n2_ := qd.mk ((by rw [hg]; exact (qbc (by repeat (first | (with_reducible first | exact HB.out | apply qg | apply qc | apply qh) | exact HB.out))) : w.heap.size ≤ gb132)); have n3_ := qd.mk ((by rw [hg]; exact (qbc (by repeat (first | (with_reducible first | exact HB.out | apply qg | apply qc | apply qh) | exact HB.out))) : w.heap.size ≤ gb132)); clear HB; have HB := n0_; have BK132 := n1_; have GW132 := n2_; have GE132 := n3_; clear n0_ n1_ n2_ n3_; clear hb hbox hg; have hcz31_0 : w30.cell? ⟨gb132, 0, none⟩ = some (.int .i64 a0_0) := (qb BK132.out 0).trans rfl; have hcz31_1 : w30.cell? ⟨gb132, 1, none⟩ = some (.int .i64 a0_1) := (qb BK132.out 1).trans rfl; have hcz31_2 : w30.cell? ⟨gb132, 2, none⟩ = some (.int .i64 a0_2) := (qb BK132.out 2).trans rfl; have hcz31_3 : w30.cell? ⟨gb132, 3, none⟩ = some (.string a0_3) := (qb BK132.out 3).trans rfl; have hcz31_4 : w30.cell? ⟨gb132, 4, none⟩ = some (.int .i64 a0_4) := (qb BK132.out 4).trans rfl; have hcz31_5 : w30.cell? ⟨gb132, 5, none⟩ = some (.int .i64 a0_5) := (qb BK132.out 5).trans rfl; have hcz31_6 : w30.cell? ⟨gb132, 6, none⟩ = some (.string a0_6) := (qb BK132.out 6).trans rfl; have hcz31_7 : w30.cell? ⟨gb132, 7, none⟩ = some (.slice A0_7 l0_7.length c0_7) := (qb BK132.out 7).trans rfl; have hcz31_8 : w30.cell? ⟨gb132, 8, none⟩ = some (.slice A0_8 l0_8.length c0_8) := (qb BK132.out 8).trans rfl; have hcz31_9 : w30.cell? ⟨gb132, 9, none⟩ = some (.slice A0_9 l0_9.length c0_9) := (qb BK132.out 9).trans rfl; have hfz31_0 := qa BK132.out 0; have hfz31_1 := qa BK132.out 1; have hfz31_2 := qa BK132.out 2; have hfz31_3 := qa BK132.out 3; have hfz31_4 := qa BK132.out 4; have hfz31_5 := qa BK132.out 5; have hfz31_6 := qa BK132.out 6; have hfz31_7 := qa BK132.out 7; have hfz31_8 := qa BK132.out 8; have hfz31_9 := qa BK132.out 9))
    go_ret
    exact ⟨by first | rfl | (simp [q9, qz] <;> rfl) | (simp [*, q9, qz] <;> rfl), by repeat (first | (with_reducible first | exact HB.out | apply qg | apply qc | apply qh | refine ql ?_ GE132.out) | exact HB.out)⟩
   ·rw [if_neg c29] at H
    have c29b0 : (a0_1 == 0) = false := beq_eq_false_iff_ne.mpr c29
    have c29b1 : (a0_1 != 0) = true := bne_iff_ne.mpr c29
    obtain rfl := Option.some.inj H
    go_enter Tryd.func68, Tryd.ntmps68
    go_wp2_with (first | ((with_reducible refine qby (N := 1) rfl ?_); refine qbx ?hg (N := 1) ?hd (cs := #[.int .i64 a0_0, .int .i64 a0_1, .int .i64 a0_2, .string a0_3, .int .i64 a0_4, .int .i64 a0_5, .string a0_6, .slice A0_7 l0_7.length c0_7, .slice A0_8 l0_8.length c0_8, .slice A0_9 l0_9.length c0_9]) (t := 30) ?hr ?_; (case hd => rfl); (case hg => rfl); (case hr => first | (go_simp; done) | (go_simp; rfl)); intro gb132 hg w32 hbox hb; have n0_ := qd.mk (qba (by repeat (first | (with_reducible first | exact HB.out | apply qg | apply qc | apply qh) | exact HB.out)) hb); have n1_ := qd.mk (hbox); have n2_ := qd.mk ((by rw [hg]; exact (qbc (by repeat (first | (with_reducible first | exact HB.out | apply qg | apply qc | apply qh) | exact HB.out))) : w.heap.size ≤ gb132)); have n3_ := qd.mk ((by rw [hg]; exact (qbc (by repeat (first | (with_reducible first | exact HB.out | apply qg | apply qc | apply qh) | exact HB.out))) : w.heap.size ≤ gb132)); clear HB; have HB := n0_; have BK132 := n1_; have GW132 := n2_; have GE132 := n3_; clear n0_ n1_ n2_ n3_; clear hb hbox hg; have hcz33_0 : w32.cell? ⟨gb132, 0, none⟩ = some (.int .i64 a0_0) := (qb BK132.out 0).trans rfl; have hcz33_1 : w32.cell? ⟨gb132, 1, none⟩ = some (.int .i64 a0_1) := (qb BK132.out 1).trans rfl; have hcz33_2 : w32.cell? ⟨gb132, 2, none⟩ = some (.int .i64 a0_2) := (qb BK132.out 2).trans rfl; have hcz33_3 : w32.cell? ⟨gb132, 3, none⟩ = some (.string a0_3) := (qb BK132.out 3).trans rfl; have hcz33_4 : w32.cell? ⟨gb132, 4, none⟩ = some (.int .i64 a0_4) := (qb BK132.out 4).trans rfl; have hcz33_5 : w32.cell? ⟨gb132, 5, none⟩ = some (.int .i64 a0_5) := (qb BK132.out 5).trans rfl; have hcz33_6 : w32.cell? ⟨gb132, 6, none⟩ = some (.string a0_6) := (qb BK132.out 6).trans rfl; have hcz33_7 : w32.cell? ⟨gb132, 7, none⟩ = some (.slice A0_7 l0_7.length c0_7) := (qb BK132.out 7).trans rfl; have hcz33_8 : w32.cell? ⟨gb132, 8, none⟩ = some (.slice A0_8 l0_8.length c0_8) := (qb BK132.out 8).trans rfl; have hcz33_9 : w32.cell? ⟨gb132, 9, none⟩ = some (.slice A0_9 l0_9.length c0_9) := (qb BK132.out 9).trans rfl; have hfz33_0 := qa BK132.out 0; have hfz33_1 := qa BK132.out 1; have hfz33_2 := qa BK132.out 2; have hfz33_3 := qa BK132.out 3; have hfz33_4 := qa BK132.out 4; have hfz33_5 := qa BK132.out 5; have hfz33_6 := qa BK132.out 6; have hfz33_7 := qa BK132.out 7; have hfz33_8 := qa BK132.out 8; have hfz33_9 := qa BK132.out 9))
    go_ret
    exact ⟨by first | rfl | (simp [q9, qz] <;> rfl) | (simp [*, q9, qz] <;> rfl), by repeat (first | (with_reducible first | exact HB.out | apply qg | apply qc | apply qh | refine ql ?_ GE132.out) | exact HB.out)⟩
def qea.f (a0_0 : Int) (a0_1 : Int) (a0_2 : ByteArray) (l0_3 : List (S27)) : Option (Bool) := if a0_0 = 0 then (if a0_1 = 0 then (if a0_2.toList = ([] : List UInt8) then (some ((l0_3.length : Int) == 0)) else (some false)) else (some false)) else (some false)
set_option maxHeartbeats 8000000 in
set_option maxRecDepth 100000 in
theorem qea.calls (a0_0 : Int) (a0_1 : Int) (a0_2 : ByteArray) (A0_3 : Option Addr) (c0_3 : Nat) (l0_3 : List (S27)) (r : Bool) (w : World) (hr0_3 : Kd.C k27 w A0_3 l0_3.length l0_3) (hc0_3 : l0_3.length ≤ c0_3) (h : qea.f a0_0 a0_1 a0_2 l0_3 = some r) :
  Calls Tryd.prog 81 #[.agg #[.int .i64 a0_0, .int .i64 a0_1, .string a0_2, .slice A0_3 l0_3.length c0_3]] w fun e w' => e = .returned (.bool r) ∧ Below w.heap.size w w' := by
 have hu27 := Tryd.underlying27
 have HR0_3 := qd.mk hr0_3
 have HC0_3 := qd.mk hc0_3
 clear hr0_3 hc0_3
 have HB := qd.mk (Below.refl w.heap.size w)
 have H : (if a0_0 = 0 then (if a0_1 = 0 then (if a0_2.toList = ([] : List UInt8) then (some ((l0_3.length : Int) == 0)) else (some false)) else (some false)) else (some false)) = some r := h
 clear h
 by_cases c2 : a0_0 = 0
 ·rw [if_pos c2] at H
  have c2b0 : (a0_0 == 0) = true := beq_iff_eq.mpr c2
  have c2b1 : (a0_0 != 0) = false := bne_eq_false_iff_eq.mpr c2
  clear c2
  by_cases c3 : a0_1 = 0
  ·rw [if_pos c3] at H
   have c3b0 : (a0_1 == 0) = true := beq_iff_eq.mpr c3
   have c3b1 : (a0_1 != 0) = false := bne_eq_false_iff_eq.mpr c3
   clear c3
   by_cases c4 : a0_2.toList = ([] : List UInt8)
   ·rw [if_pos c4] at H
    have c4b0 : (a0_2.toList == ([] : List UInt8)) = true := beq_iff_eq.mpr c4
    have c4b1 : (a0_2.toList != ([] : List UInt8)) = false := bne_eq_false_iff_eq.mpr c4
    clear c4
    obtain rfl := Option.some.inj H
    go_enter Tryd.func81, Tryd.ntmps81
    go_wp2_with (first | ((with_reducible refine qby (N := 1) rfl ?_); (try (refine qcb (by rfl) ?_; dsimp only)); refine qbx ?hg (N := 1) ?hd (cs := #[.int .i64 a0_0, .int .i64 a0_1, .string a0_2, .slice A0_3 l0_3.length c0_3]) (t := 27) ?hr ?_; (case hd => rfl); (case hg => rfl); (case hr => first | (go_simp; done) | (go_simp; rfl)); intro gb136 hg w5 hbox hb; have n0_ := qd.mk (qba (by repeat (first | (with_reducible first | exact HB.out | apply qg | apply qc | apply qh) | exact HB.out)) hb); have n1_ := qd.mk (hbox); have n2_ := qd.mk ((by rw [hg]; exact (qbc (by repeat (first | (with_reducible first | exact HB.out | apply qg | apply qc | apply qh) | exact HB.out))) : w.heap.size ≤ gb136)); have n3_ := qd.mk ((by rw [hg]; exact (qbc (by repeat (first | (with_reducible first | exact HB.out | apply qg | apply qc | apply qh) | exact HB.out))) : w.heap.size ≤ gb136)); clear HB; have HB := n0_; have BK136 := n1_; have GW136 := n2_; have GE136 := n3_; clear n0_ n1_ n2_ n3_; clear hb hbox hg; have hcz6_0 : w5.cell? ⟨gb136, 0, none⟩ = some (.int .i64 a0_0) := (qb BK136.out 0).trans rfl; have hcz6_1 : w5.cell? ⟨gb136, 1, none⟩ = some (.int .i64 a0_1) := (qb BK136.out 1).trans rfl; have hcz6_2 : w5.cell? ⟨gb136, 2, none⟩ = some (.string a0_2) := (qb BK136.out 2).trans rfl; have hcz6_3 : w5.cell? ⟨gb136, 3, none⟩ = some (.slice A0_3 l0_3.length c0_3) := (qb BK136.out 3).trans rfl; have hfz6_0 := qa BK136.out 0; have hfz6_1 := qa BK136.out 1; have hfz6_2 := qa BK136.out 2; have hfz6_3 := qa BK136.out 3))
    go_ret
    exact ⟨by first | rfl | (simp [q9, qz] <;> rfl) | (simp [*, q9, qz] <;> rfl), by repeat (first | (with_reducible first | exact HB.out | apply qg | apply qc | apply qh | refine ql ?_ GE136.out) | exact HB.out)⟩
   ·rw [if_neg c4] at H
    have c4b0 : (a0_2.toList == ([] : List UInt8)) = false := beq_eq_false_iff_ne.mpr c4
    have c4b1 : (a0_2.toList != ([] : List UInt8)) = true := bne_iff_ne.mpr c4
    obtain rfl := Option.some.inj H
    go_enter Tryd.func81, Tryd.ntmps81
    go_wp2_with (first | ((with_reducible refine qby (N := 1) rfl ?_); (try (refine qcb (by rfl) ?_; dsimp only)); refine qbx ?hg (N := 1) ?hd (cs := #[.int .i64 a0_0, .int .i64 a0_1, .string a0_2, .slice A0_3 l0_3.length c0_3]) (t := 27) ?hr ?_; (case hd => rfl); (case hg => rfl); (case hr => first | (go_simp; done) | (go_simp; rfl)); intro gb136 hg w7 hbox hb; have n0_ := qd.mk (qba (by repeat (first | (with_reducible first | exact HB.out | apply qg | apply qc | apply qh) | exact HB.out)) hb); have n1_ := qd.mk (hbox); have n2_ := qd.mk ((by rw [hg]; exact (qbc (by repeat (first | (with_reducible first | exact HB.out | apply qg | apply qc | apply qh) | exact HB.out))) : w.heap.size ≤ gb136)); have n3_ := qd.mk ((by rw [hg]; exact (qbc (by repeat (first | (with_reducible first | exact HB.out | apply qg | apply qc | apply qh) | exact HB.out))) : w.heap.size ≤ gb136)); clear HB; have HB := n0_; have BK136 := n1_; have GW136 := n2_; have GE136 := n3_; clear n0_ n1_ n2_ n3_; clear hb hbox hg; have hcz8_0 : w7.cell? ⟨gb136, 0, none⟩ = some (.int .i64 a0_0) := (qb BK136.out 0).trans rfl; have hcz8_1 : w7.cell? ⟨gb136, 1, none⟩ = some (.int .i64 a0_1) := (qb BK136.out 1).trans rfl; have hcz8_2 : w7.cell? ⟨gb136, 2, none⟩ = some (.string a0_2) := (qb BK136.out 2).trans rfl; have hcz8_3 : w7.cell? ⟨gb136, 3, none⟩ = some (.slice A0_3 l0_3.length c0_3) := (qb BK136.out 3).trans rfl; have hfz8_0 := qa BK136.out 0; have hfz8_1 := qa BK136.out 1; have hfz8_2 := qa BK136.out 2; have hfz8_3 := qa BK136.out 3))
    go_ret
    exact ⟨by first | rfl | (simp [q9, qz] <;> rfl) | (simp [*, q9, qz] <;> rfl), by repeat (first | (with_reducible first | exact HB.out | apply qg | apply qc | apply qh | refine ql ?_ GE136.out) | exact HB.out)⟩
  ·rw [if_neg c3] at H
   have c3b0 : (a0_1 == 0) = false := beq_eq_false_iff_ne.mpr c3
   have c3b1 : (a0_1 != 0) = true := bne_iff_ne.mpr c3
   obtain rfl := Option.some.inj H
   go_enter Tryd.func81, Tryd.ntmps81
   go_wp2_with (first | ((with_reducible refine qby (N := 1) rfl ?_); (try (refine qcb (by rfl) ?_; dsimp only)); refine qbx ?hg (N := 1) ?hd (cs := #[.int .i64 a0_0, .int .i64 a0_1, .string a0_2, .slice A0_3 l0_3.length c0_3]) (t := 27) ?hr ?_; (case hd => rfl); (case hg => rfl); (case hr => first | (go_simp; done) | (go_simp; rfl)); intro gb136 hg w9 hbox hb; have n0_ := qd.mk (qba (by repeat (first | (with_reducible first | exact HB.out | apply qg | apply qc | apply qh) | exact HB.out)) hb); have n1_ := qd.mk (hbox); have n2_ := qd.mk ((by rw [hg]; exact (qbc (by repeat (first | (with_reducible first | exact HB.out | apply qg | apply qc | apply qh) | exact HB.out))) : w.heap.size ≤ gb136)); have n3_ := qd.mk ((by rw [hg]; exact (qbc (by repeat (first | (with_reducible first | exact HB.out | apply qg | apply qc | apply qh) | exact HB.out))) : w.heap.size ≤ gb136)); clear HB; have HB := n0_; have BK136 := n1_; have GW136 := n2_; have GE136 := n3_; clear n0_ n1_ n2_ n3_; clear hb hbox hg; have hcz10_0 : w9.cell? ⟨gb136, 0, none⟩ = some (.int .i64 a0_0) := (qb BK136.out 0).trans rfl; have hcz10_1 : w9.cell? ⟨gb136, 1, none⟩ = some (.int .i64 a0_1) := (qb BK136.out 1).trans rfl; have hcz10_2 : w9.cell? ⟨gb136, 2, none⟩ = some (.string a0_2) := (qb BK136.out 2).trans rfl; have hcz10_3 : w9.cell? ⟨gb136, 3, none⟩ = some (.slice A0_3 l0_3.length c0_3) := (qb BK136.out 3).trans rfl; have hfz10_0 := qa BK136.out 0; have hfz10_1 := qa BK136.out 1; have hfz10_2 := qa BK136.out 2; have hfz10_3 := qa BK136.out 3))
   go_ret
   exact ⟨by first | rfl | (simp [q9, qz] <;> rfl) | (simp [*, q9, qz] <;> rfl), by repeat (first | (with_reducible first | exact HB.out | apply qg | apply qc | apply qh | refine ql ?_ GE136.out) | exact HB.out)⟩
 ·rw [if_neg c2] at H
  have c2b0 : (a0_0 == 0) = false := beq_eq_false_iff_ne.mpr c2
  have c2b1 : (a0_0 != 0) = true := bne_iff_ne.mpr c2
  obtain rfl := Option.some.inj H
  go_enter Tryd.func81, Tryd.ntmps81
  go_wp2_with (first | ((with_reducible refine qby (N := 1) rfl ?_); (try (refine qcb (by rfl) ?_; dsimp only)); refine qbx ?hg (N := 1) ?hd (cs := #[.int .i64 a0_0, .int .i64 a0_1, .string a0_2, .slice A0_3 l0_3.length c0_3]) (t := 27) ?hr ?_; (case hd => rfl); (case hg => rfl); (case hr => first | (go_simp; done) | (go_simp; rfl)); intro gb136 hg w11 hbox hb; have n0_ := qd.mk (qba (by repeat (first | (with_reducible first | exact HB.out | apply qg | apply qc | apply qh) | exact HB.out)) hb); have n1_ := qd.mk (hbox); have n2_ := qd.mk ((by rw [hg]; exact (qbc (by repeat (first | (with_reducible first | exact HB.out | apply qg | apply qc | apply qh) | exact HB.out))) : w.heap.size ≤ gb136)); have n3_ := qd.mk ((by rw [hg]; exact (qbc (by repeat (first | (with_reducible first | exact HB.out | apply qg | apply qc | apply qh) | exact HB.out))) : w.heap.size ≤ gb136)); clear HB; have HB := n0_; have BK136 := n1_; have GW136 := n2_; have GE136 := n3_; clear n0_ n1_ n2_ n3_; clear hb hbox hg; have hcz12_0 : w11.cell? ⟨gb136, 0, none⟩ = some (.int .i64 a0_0) := (qb BK136.out 0).trans rfl; have hcz12_1 : w11.cell? ⟨gb136, 1, none⟩ = some (.int .i64 a0_1) := (qb BK136.out 1).trans rfl; have hcz12_2 : w11.cell? ⟨gb136, 2, none⟩ = some (.string a0_2) := (qb BK136.out 2).trans rfl; have hcz12_3 : w11.cell? ⟨gb136, 3, none⟩ = some (.slice A0_3 l0_3.length c0_3) := (qb BK136.out 3).trans rfl; have hfz12_0 := qa BK136.out 0; have hfz12_1 := qa BK136.out 1; have hfz12_2 := qa BK136.out 2; have hfz12_3 := qa BK136.out 3))
  go_ret
  exact ⟨by first | rfl | (simp [q9, qz] <;> rfl) | (simp [*, q9, qz] <;> rfl), by repeat (first | (with_reducible first | exact HB.out | apply qg | apply qc | apply qh | refine ql ?_ GE136.out) | exact HB.out)⟩
end Go.Proofs.YtpgkhmdfddejfaaDoor.PV
end
