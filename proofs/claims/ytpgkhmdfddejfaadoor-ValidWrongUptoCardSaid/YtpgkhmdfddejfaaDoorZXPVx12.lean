import Derived.Test.YtpgkhmdfddejfaaDoorZXPVx0
import Derived.Test.YtpgkhmdfddejfaaDoorZXPVx11
section
namespace Go.Proofs.YtpgkhmdfddejfaaDoor.PV
open Go.RowKit Go.Proofs.YtpgkhmdfddejfaaDoorW.PrintWords Go.Proofs.YtpgkhmdfddejfaaDoorW.PrintLast Go.Proofs.YtpgkhmdfddejfaaDoorW.PrintMore
attribute [local go_sem] qcn qcp qdi qdj qb6 qb7 qco qcq   -- for this text's walks alone
set_option linter.unusedVariables false
set_option linter.unusedSimpArgs false
def zi.f (k : Nat) (qw : Int) (qy : Int) (za : ByteArray) (zm : List (S27)) : Option (Bool) := (qp.f k qw qy za zm 1).bind fun t212 => (some t212)
theorem zi.mono : ∀ a0 a1 a2 a3 k, LeO (zi.f k a0 a1 a2 a3) (zi.f (k + 1) a0 a1 a2 a3) := by
 intro a0 a1 a2 a3 k
 unfold zi.f
 repeat' first
   | (with_reducible exact qp.mono _ _ _ _ _ _)
   | (with_reducible exact LeO.refl _)
   | (with_reducible exact LeO.none _)
   | (with_reducible refine LeO.ite ?_ ?_)
   | (with_reducible refine LeO.bind ?_ (fun _ => ?_))
   | exact qp.mono _ _ _ _ _ _
   | exact LeO.none _
   | refine LeO.ite ?_ ?_
   | refine LeO.bind ?_ (fun _ => ?_)
set_option maxHeartbeats 8000000 in
set_option maxRecDepth 100000 in
theorem zi.calls (k : Nat) (qw : Int) (qy : Int) (za : ByteArray) (jy : Option Addr) (jm : Nat) (zm : List (S27)) (r : Bool) (w : World) (qdg : Kd.C k27 w jy zm.length zm) (qdf : zm.length ≤ jm) (h : zi.f k qw qy za zm = some r) :
  Calls Tryd.prog 22 #[.agg #[.int .i64 qw, .int .i64 qy, .string za, .slice jy zm.length jm]] w fun e w' => e = .returned (.bool r) ∧ Below w.heap.size w w' := by
 have q0h := Tryd.underlying27
 have qlb := qf.mk qdg
 have qs3 := qf.mk qdf
 clear qdg qdf
 have HB := qf.mk (Below.refl w.heap.size w)
 have H : ((qp.f k qw qy za zm 1).bind fun t212 => (some t212)) = some r := h
 clear h
 replace H := Option.bind_eq_some_iff.mp H
 obtain ⟨t212, A20, H⟩ := H
 replace H : (some t212) = some r := H
 have A2 := qf.mk A20
 clear A20
 obtain rfl := Option.some.inj H
 go_enter Tryd.func22, Tryd.ntmps22
 go_wp2_with (first | ((with_reducible refine qah (N := 1) rfl ?_); refine vk ?hg (N := 1) ?hd (cs := #[.int .i64 qw, .int .i64 qy, .string za, .slice jy zm.length jm]) (t := 27) ?hr ?_; (case hd => rfl); (case hg => rfl); (case hr => first | (go_simp; done) | (go_simp; rfl)); intro q7i hg w3 hbox hb; have n0_ := qf.mk (zk (by repeat (first | (with_reducible first | exact HB.out | apply qg | apply qc | apply qh) | exact HB.out)) hb); have n1_ := qf.mk (hbox); have n2_ := qf.mk ((by rw [hg]; exact (zo (by repeat (first | (with_reducible first | exact HB.out | apply qg | apply qc | apply qh) | exact HB.out))) : w.heap.size ≤ q7i)); have n3_ := qf.mk ((by rw [hg]; exact (zo (by repeat (first | (with_reducible first | exact HB.out | apply qg | apply qc | apply qh) | exact HB.out))) : w.heap.size ≤ q7i)); clear HB; have HB := n0_; have qs8 := n1_; have z2g := n2_; have zuf := n3_; clear n0_ n1_ n2_ n3_; clear hb hbox hg; have zqq : w3.cell? ⟨q7i, 0, none⟩ = some (.int .i64 qw) := (qb qs8.out 0).trans rfl; have zqr : w3.cell? ⟨q7i, 1, none⟩ = some (.int .i64 qy) := (qb qs8.out 1).trans rfl; have zqs : w3.cell? ⟨q7i, 2, none⟩ = some (.string za) := (qb qs8.out 2).trans rfl; have zqt : w3.cell? ⟨q7i, 3, none⟩ = some (.slice jy zm.length jm) := (qb qs8.out 3).trans rfl; have zro := qa qs8.out 0; have zrp := qa qs8.out 1; have zrq := qa qs8.out 2; have zrr := qa qs8.out 3) | ((with_reducible refine qaq (f := 47) rfl ?_); refine qcj (some 4) rfl rfl Tryd.func47 (by kernel_rfl) rfl #[.agg #[.int .i64 qw, .int .i64 qy, .string za, .slice jy zm.length jm], .int .i64 1] rfl (by (try simp only [List.map_toArray, List.map_cons, List.map_nil]); first | done | rfl | (simp only [List.length_drop, List.length_take]; rfl)) ?_; (with_reducible refine (qp.calls k qw qy za _ _ zm 1 t212 _ ?side1 ?side2 A2.out).mono ?_); (case side1 => repeat (first | exact (Kd.vv qlb.out HB.out) | (with_reducible refine Kd.qba ?_ _) | (with_reducible refine Kd.qaz ?_ _) | (with_reducible refine Kd.qbq ?_))); (case side2 => exact qs3.out); rintro e w5 ⟨rfl, hb⟩; refine ⟨_, rfl, ?_⟩; have n0_ := qf.mk (zl (g := q7i) (o := .cells #[.int .i64 qw, .int .i64 qy, .string za, .slice jy zm.length jm] 27 (0, 0)) (by (with_reducible repeat (first | refine qj ?_ _ | refine qo ?_ | refine qi ?_ _)); exact qs8.out) hb); have n1_ := qf.mk (zk (by repeat (first | (with_reducible first | exact HB.out | apply qg | apply qc | apply qh | refine ql ?_ zuf.out) | exact HB.out)) hb); clear qs8; clear HB; have qs8 := n0_; have HB := n1_; clear n0_ n1_; (try clear hb); (try clear hb2); (try clear hk); (try clear hi)))
 go_ret
 exact ⟨by first | rfl | (simp [zg, zh] <;> rfl) | (simp [*, zg, zh] <;> rfl), by repeat (first | (with_reducible first | exact HB.out | apply qg | apply qc | apply qh | refine ql ?_ zuf.out) | exact HB.out)⟩
mutual
def zn.l0 : Nat → List (S27) → List (S27) → Int → Option (Bool)
  | 0, _, _, _ => none
  | k + 1, x0, x1, x5 => if x5 < (x0.length : Int) then (if 0 ≤ x5 then (if x5 < (x1.length : Int) then ((je.f k ((zf x0 x5).f0) ((zf x0 x5).f1) ((zf x0 x5).f2) ((zf x0 x5).f3) ((zf x1 x5).f0) ((zf x1 x5).f1) ((zf x1 x5).f2) ((zf x1 x5).f3)).bind fun zt6 => (if zt6 = true then (zn.l0 k x0 x1 (wrap64 (x5 + 1))) else (some false))) else (none)) else (none)) else (some true)
def zn.f : Nat → List (S27) → List (S27) → Option (Bool)
  | 0, _, _ => none
  | k + 1, l0, l1 => if (l0.length : Int) = (l1.length : Int) then (zn.l0 k l0 l1 0) else (some false)
def je.f : Nat → Int → Int → ByteArray → List (S27) → Int → Int → ByteArray → List (S27) → Option (Bool)
  | 0, _, _, _, _, _, _, _, _ => none
  | k + 1, qw, qy, za, zm, qg1, qg2, qg3, qeq => if qw = qg1 then (if qy = qg2 then (if za.toList = qg3.toList then ((zn.f k zm qeq).bind fun t218 => (some t218)) else (some false)) else (some false)) else (some false)
end
theorem qca.qb2 : ∀ k, (∀ y0 y1, LeO (zn.f k y0 y1) (zn.f (k + 1) y0 y1)) ∧ (∀ y0 y1 y2, LeO (zn.l0 k y0 y1 y2) (zn.l0 (k + 1) y0 y1 y2)) ∧ (∀ y0 y1 y2 y3 y4 y5 y6 y7, LeO (je.f k y0 y1 y2 y3 y4 y5 y6 y7) (je.f (k + 1) y0 y1 y2 y3 y4 y5 y6 y7))
  | 0 => ⟨fun _ _ r h => by simp [zn.f] at h, fun _ _ _ r h => by simp [zn.l0] at h, fun _ _ _ _ _ _ _ _ r h => by simp [je.f] at h⟩
  | k + 1 => by
    obtain ⟨ih0, ih1, ih2⟩ := qca.qb2 k
    refine ⟨?_, ?_, ?_⟩
    · intro y0 y1
      unfold zn.f
      repeat' first
      | (with_reducible exact ih0 _ _)
      | (with_reducible exact ih1 _ _ _)
      | (with_reducible exact ih2 _ _ _ _ _ _ _ _)
      | (with_reducible exact LeO.refl _)
      | (with_reducible exact LeO.none _)
      | (with_reducible refine LeO.ite ?_ ?_)
      | (with_reducible refine LeO.bind ?_ (fun _ => ?_))
      | exact ih0 _ _
      | exact ih1 _ _ _
      | exact ih2 _ _ _ _ _ _ _ _
      | exact LeO.none _
      | refine LeO.ite ?_ ?_
      | refine LeO.bind ?_ (fun _ => ?_)
    · intro y0 y1 y2
      unfold zn.l0
      repeat' first
      | (with_reducible exact ih0 _ _)
      | (with_reducible exact ih1 _ _ _)
      | (with_reducible exact ih2 _ _ _ _ _ _ _ _)
      | (with_reducible exact LeO.refl _)
      | (with_reducible exact LeO.none _)
      | (with_reducible refine LeO.ite ?_ ?_)
      | (with_reducible refine LeO.bind ?_ (fun _ => ?_))
      | exact ih0 _ _
      | exact ih1 _ _ _
      | exact ih2 _ _ _ _ _ _ _ _
      | exact LeO.none _
      | refine LeO.ite ?_ ?_
      | refine LeO.bind ?_ (fun _ => ?_)
    · intro y0 y1 y2 y3 y4 y5 y6 y7
      unfold je.f
      repeat' first
      | (with_reducible exact ih0 _ _)
      | (with_reducible exact ih1 _ _ _)
      | (with_reducible exact ih2 _ _ _ _ _ _ _ _)
      | (with_reducible exact LeO.refl _)
      | (with_reducible exact LeO.none _)
      | (with_reducible refine LeO.ite ?_ ?_)
      | (with_reducible refine LeO.bind ?_ (fun _ => ?_))
      | exact ih0 _ _
      | exact ih1 _ _ _
      | exact ih2 _ _ _ _ _ _ _ _
      | exact LeO.none _
      | refine LeO.ite ?_ ?_
      | refine LeO.bind ?_ (fun _ => ?_)
theorem zn.mono : ∀ a0 a1 k, LeO (zn.f k a0 a1) (zn.f (k + 1) a0 a1) := by
  intro a0 a1 k
  obtain ⟨ih0, ih1, ih2⟩ := qca.qb2 k
  exact ih0 a0 a1
theorem je.mono : ∀ a0 a1 a2 a3 a4 a5 a6 a7 k, LeO (je.f k a0 a1 a2 a3 a4 a5 a6 a7) (je.f (k + 1) a0 a1 a2 a3 a4 a5 a6 a7) := by
  intro a0 a1 a2 a3 a4 a5 a6 a7 k
  obtain ⟨ih0, ih1, ih2⟩ := qca.qb2 k
  exact ih2 a0 a1 a2 a3 a4 a5 a6 a7
def zn.T6 : Bool × List (List Nat × List Nat) := (true, [([], []), ([], []), ([0, 1], [0, 1]), ([2], [2]), ([], []), ([], []), ([4, 5], [4, 5]), ([6], [6]), ([3, 7], [3, 7]), ([8], [8])])
def zn.B6 : List Nat := [0, 0, 3, 7, 0, 0, 48, 112, 255, 511]
theorem zn.tab6 : rtab .any (opsOf Tryd.f71 6) = zn.T6 := by kernel_rfl
theorem zn.bits6 : ql3 zn.T6.2 zn.B6 = true := by kernel_rfl
set_option maxHeartbeats 8000000 in
set_option maxRecDepth 100000 in
theorem zn.step (k : Nat) (ih_71 : ∀ m, m < k → ∀ (A0 : Option Addr) (c0 : Nat) (l0 : List (S27)) (A1 : Option Addr) (c1 : Nat) (l1 : List (S27)) (r : Bool) (w : World) (hr0 : Kd.C k27 w A0 l0.length l0) (hc0 : l0.length ≤ c0) (hr1 : Kd.C k27 w A1 l1.length l1) (hc1 : l1.length ≤ c1) (h : zn.f m l0 l1 = some r),
    Calls Tryd.prog 71 #[.slice A0 l0.length c0, .slice A1 l1.length c1] w fun e w' => e = .returned (.bool r) ∧ Below w.heap.size w w') (ih_48 : ∀ m, m < k → ∀ (qw : Int) (qy : Int) (za : ByteArray) (jy : Option Addr) (jm : Nat) (zm : List (S27)) (qg1 : Int) (qg2 : Int) (qg3 : ByteArray) (qk2 : Option Addr) (qk3 : Nat) (qeq : List (S27)) (r : Bool) (w : World) (qdg : Kd.C k27 w jy zm.length zm) (qdf : zm.length ≤ jm) (q8g : Kd.C k27 w qk2 qeq.length qeq) (q7k : qeq.length ≤ qk3) (h : je.f m qw qy za zm qg1 qg2 qg3 qeq = some r),
    Calls Tryd.prog 48 #[.agg #[.int .i64 qw, .int .i64 qy, .string za, .slice jy zm.length jm], .agg #[.int .i64 qg1, .int .i64 qg2, .string qg3, .slice qk2 qeq.length qk3]] w fun e w' => e = .returned (.bool r) ∧ Below w.heap.size w w') : ∀ (A0 : Option Addr) (c0 : Nat) (l0 : List (S27)) (A1 : Option Addr) (c1 : Nat) (l1 : List (S27)) (r : Bool) (w : World) (hr0 : Kd.C k27 w A0 l0.length l0) (hc0 : l0.length ≤ c0) (hr1 : Kd.C k27 w A1 l1.length l1) (hc1 : l1.length ≤ c1) (h : zn.f k l0 l1 = some r),
  Calls Tryd.prog 71 #[.slice A0 l0.length c0, .slice A1 l1.length c1] w fun e w' => e = .returned (.bool r) ∧ Below w.heap.size w w' := by
 intro A0 c0 l0 A1 c1 l1 r w hr0 hc0 hr1 hc1 h
 cases k with
 | zero => exact absurd h (by simp [zn.f])
 | succ k =>
 simp only [zn.f] at h
 have q0h := Tryd.underlying27
 have HR0 := qf.mk hr0
 have HC0 := qf.mk hc0
 clear hr0 hc0
 have HR1 := qf.mk hr1
 have HC1 := qf.mk hc1
 clear hr1 hc1
 have HB := qf.mk (Below.refl w.heap.size w)
 have H : (if (l0.length : Int) = (l1.length : Int) then (zn.l0 k l0 l1 0) else (some false)) = some r := h
 clear h
 by_cases c3 : (l0.length : Int) = (l1.length : Int)
 ·rw [if_pos c3] at H
  have c3b0 : ((l0.length : Int) == (l1.length : Int)) = true := beq_iff_eq.mpr c3
  have c3b1 : ((l0.length : Int) != (l1.length : Int)) = false := bne_eq_false_iff_eq.mpr c3
  have c3b2 : (l0.length == l1.length) = true := by first | simpa using c3 | (simp at c3 ⊢; omega)
  clear c3
  have H' := qf.mk H
  clear H
  go_enter Tryd.func71, Tryd.ntmps71
  go_wp2
  go_loopg [5] k (fun kq v5 w' => ∃ (qbn : Int), v5 = .int .i64 qbn ∧ qf (zn.l0 kq l0 l1 qbn = some r) ∧ qf (kq ≤ k) ∧ qf (Below w.heap.size w w'))
  case atStart => exact ⟨(0), (by first | rfl | (simp; done) | (simp [*]; done)), H', ⟨Nat.le_refl _⟩, ⟨by repeat (first | (with_reducible first | exact HB.out | apply qg | apply qc | apply qh) | exact HB.out)⟩⟩
  case round =>
   clear H'
   (try clear c1); (try clear p2); (try clear c3); (try clear c3b0); (try clear c3b1); (try clear c3b2)
   obtain ⟨qbn, rfl, HA, HK1, HB⟩ := hrel
   cases gk with
   | zero => exact absurd HA.out (by simp [zn.l0])
   | succ k1 =>
    have H := HA.out
    clear HA
    simp only [zn.l0] at H
    by_cases c4 : qbn < (l0.length : Int)
    ·rw [if_pos c4] at H
     have c4b0 : decide (qbn < (l0.length : Int)) = true := decide_eq_true c4
     clear c4
     by_cases c5 : 0 ≤ qbn
     ·rw [if_pos c5] at H
      have c5b0 : decide (0 ≤ qbn) = true := decide_eq_true c5
      clear c5
      by_cases c6 : qbn < (l1.length : Int)
      ·rw [if_pos c6] at H
       have c6b0 : decide (qbn < (l1.length : Int)) = true := decide_eq_true c6
       clear c6
       replace H := Option.bind_eq_some_iff.mp H
       obtain ⟨zt6, A70, H⟩ := H
       replace H : (if zt6 = true then (zn.l0 k1 l0 l1 (wrap64 (qbn + 1))) else (some false)) = some r := H
       have A7 := qf.mk A70
       clear A70
       by_cases c8 : zt6 = true
       ·subst c8
        have H1 : (zn.l0 k1 l0 l1 (wrap64 (qbn + 1))) = some r := by rw [if_pos rfl] at H; exact H
        clear H
        have H := H1
        clear H1
        have H' := qf.mk H
        clear H
        try go_wp2
        have n0_ := qf.mk (qh HB.out)
        clear HB
        have HB := n0_
        clear n0_
        have zjq : 0 ≤ (qbn : Int) := of_decide_eq_true (by first | (with_reducible assumption) | assumption)
        have zjz : qbn < (l0.length : Int) := of_decide_eq_true (by first | (with_reducible assumption) | assumption)
        obtain ⟨ql8, q6u, q7a, e213, qi5, qi6, qi7, qi8, qzh, qy5⟩ := qjh HR0.out qbn zjq zjz
        have qly := qi8
        have qlx := qi7
        have qlw := qi6
        have qlv := qi5
        cases e213
        replace qi5 := (HB.out.cell (World.block_lt_of_cell? w _ qi5)).trans qi5
        replace qi6 := (HB.out.cell (World.block_lt_of_cell? w _ qi6)).trans qi6
        replace qi7 := (HB.out.cell (World.block_lt_of_cell? w _ qi7)).trans qi7
        replace qi8 := (HB.out.cell (World.block_lt_of_cell? w _ qi8)).trans qi8
        have qwr := qf.mk qy5
        have q9b := qf.mk qzh
        clear qy5 qzh
        replace zjq := eq_true zjq
        replace zjz := eq_true zjz
        have zjr : 0 ≤ (qbn : Int) := of_decide_eq_true (by first | (with_reducible assumption) | assumption)
        have zj0 : qbn < (l1.length : Int) := of_decide_eq_true (by first | (with_reducible assumption) | assumption)
        obtain ⟨ql9, q6v, q7b, e214, qi9, qja, qjb, qjc, qzi, qy6⟩ := qjh HR1.out qbn zjr zj0
        have ql2 := qjc
        have ql1 := qjb
        have ql0 := qja
        have qlz := qi9
        cases e214
        replace qi9 := (HB.out.cell (World.block_lt_of_cell? w _ qi9)).trans qi9
        replace qja := (HB.out.cell (World.block_lt_of_cell? w _ qja)).trans qja
        replace qjb := (HB.out.cell (World.block_lt_of_cell? w _ qjb)).trans qjb
        replace qjc := (HB.out.cell (World.block_lt_of_cell? w _ qjc)).trans qjc
        have qws := qf.mk qy6
        have q9c := qf.mk qzi
        clear qy6 qzi
        replace zjr := eq_true zjr
        replace zj0 := eq_true zj0
        refine qwo (n := 10) (S := fun w' => w'.cell? (ql8.add ((qbn).toNat * 4)) = some (.int .i64 ((zf l0 qbn).f0)) ∧ w'.cell? ⟨(ql8.add ((qbn).toNat * 4)).block, (ql8.add ((qbn).toNat * 4)).off + 1, none⟩ = some (.int .i64 ((zf l0 qbn).f1)) ∧ w'.cell? ⟨(ql8.add ((qbn).toNat * 4)).block, (ql8.add ((qbn).toNat * 4)).off + 2, none⟩ = some (.string ((zf l0 qbn).f2)) ∧ w'.cell? ⟨(ql8.add ((qbn).toNat * 4)).block, (ql8.add ((qbn).toNat * 4)).off + 3, none⟩ = some (.slice q6u ((zf l0 qbn).f3).length q7a) ∧ w'.cell? (ql9.add ((qbn).toNat * 4)) = some (.int .i64 ((zf l1 qbn).f0)) ∧ w'.cell? ⟨(ql9.add ((qbn).toNat * 4)).block, (ql9.add ((qbn).toNat * 4)).off + 1, none⟩ = some (.int .i64 ((zf l1 qbn).f1)) ∧ w'.cell? ⟨(ql9.add ((qbn).toNat * 4)).block, (ql9.add ((qbn).toNat * 4)).off + 2, none⟩ = some (.string ((zf l1 qbn).f2)) ∧ w'.cell? ⟨(ql9.add ((qbn).toNat * 4)).block, (ql9.add ((qbn).toNat * 4)).off + 3, none⟩ = some (.slice q6v ((zf l1 qbn).f3).length q7b)) (ds := []) #[false, false, false, false, false, false, false, false, false, false] (by kernel_rfl) rfl rfl ⟨((HB.out.cell (World.block_lt_of_cell? w _ qlv)).trans qlv), ((HB.out.cell (World.block_lt_of_cell? w _ qlw)).trans qlw), ((HB.out.cell (World.block_lt_of_cell? w _ qlx)).trans qlx), ((HB.out.cell (World.block_lt_of_cell? w _ qly)).trans qly), ((HB.out.cell (World.block_lt_of_cell? w _ qlz)).trans qlz), ((HB.out.cell (World.block_lt_of_cell? w _ ql0)).trans ql0), ((HB.out.cell (World.block_lt_of_cell? w _ ql1)).trans ql1), ((HB.out.cell (World.block_lt_of_cell? w _ ql2)).trans ql2)⟩ (fun hHeld => ?_); refine qjl zn.tab6 zn.bits6 (fun HT_ HW_ => ?_)
        generalize wr.drew = w9 at HB qwr qws qi5 qi6 qi7 qi8 qi9 qja qjb qjc hHeld ⊢
        refine qcb (i := 0) (N := some 17) (v := ?_) (a' := ?_) #[true, false, false, false, false, false, false, false, false, false] rfl rfl (qbr HT_.out (by kernel_rfl)) (fun _ _ _ h => h) (Or.inl ⟨by rfl, ?_⟩) ?_ ?_
        rotate_left
        ·intro w'
         go_simp
         with_reducible rfl
        rotate_left
        ·simp only [Act.put, List.setIfInBounds_toArray, List.set_cons_zero, List.set_cons_succ, vz, vw]
         rfl
        refine qcb (i := 1) (N := some 18) (v := ?_) (a' := ?_) #[true, true, false, false, false, false, false, false, false, false] rfl rfl (qbr HT_.out (by kernel_rfl)) (fun _ _ _ h => h) (Or.inl ⟨by rfl, ?_⟩) ?_ ?_
        rotate_left
        ·intro w'
         go_simp
         with_reducible rfl
        rotate_left
        ·simp only [Act.put, List.setIfInBounds_toArray, List.set_cons_zero, List.set_cons_succ, vz, vw]
         rfl
        refine qcb (i := 2) (N := some 19) (v := ?_) (a' := ?_) #[true, true, true, false, false, false, false, false, false, false] rfl rfl (qbr HT_.out (by kernel_rfl)) (fun _ _ _ h => h) (Or.inl ⟨by rfl, ?_⟩) ?_ ?_
        rotate_left
        ·intro w'
         go_simp
         with_reducible rfl
        rotate_left
        ·simp only [Act.put, List.setIfInBounds_toArray, List.set_cons_zero, List.set_cons_succ, vz, vw]
         rfl
        refine qcb (i := 4) (N := some 21) (v := ?_) (a' := ?_) #[true, true, true, false, true, false, false, false, false, false] rfl rfl (qbr HT_.out (by kernel_rfl)) (fun _ _ _ h => h) (Or.inl ⟨by rfl, ?_⟩) ?_ ?_
        rotate_left
        ·intro w'
         go_simp
         with_reducible rfl
        rotate_left
        ·simp only [Act.put, List.setIfInBounds_toArray, List.set_cons_zero, List.set_cons_succ, vz, vw]
         rfl
        refine qcb (i := 5) (N := some 22) (v := ?_) (a' := ?_) #[true, true, true, false, true, true, false, false, false, false] rfl rfl (qbr HT_.out (by kernel_rfl)) (fun _ _ _ h => h) (Or.inl ⟨by rfl, ?_⟩) ?_ ?_
        rotate_left
        ·intro w'
         go_simp
         with_reducible rfl
        rotate_left
        ·simp only [Act.put, List.setIfInBounds_toArray, List.set_cons_zero, List.set_cons_succ, vz, vw]
         rfl
        refine qcb (i := 6) (N := some 23) (v := ?_) (a' := ?_) #[true, true, true, false, true, true, true, false, false, false] rfl rfl (qbr HT_.out (by kernel_rfl)) (fun _ _ _ h => h) (Or.inl ⟨by rfl, ?_⟩) ?_ ?_
        rotate_left
        ·intro w'
         go_simp
         with_reducible rfl
        rotate_left
        ·simp only [Act.put, List.setIfInBounds_toArray, List.set_cons_zero, List.set_cons_succ, vz, vw]
         rfl
        refine qfz (i := 3) (N := some 20) (v := ?_) (a' := ?_) #[true, true, true, true, true, true, true, false, false, false] rfl rfl (qce HT_.out HW_.out (by kernel_rfl)) (fun _ _ _ h => h) (Or.inl ⟨by rfl, ?_⟩) hHeld ?_ ?_
        rotate_left
        ·rintro w' ⟨s0, s1, s2, s3, s4, s5, s6, s7⟩
         go_simp
         with_reducible rfl
        rotate_left
        ·simp only [Act.put, List.setIfInBounds_toArray, List.set_cons_zero, List.set_cons_succ, vz, vw]
         rfl
        refine qfz (i := 7) (N := some 24) (v := ?_) (a' := ?_) #[true, true, true, true, true, true, true, true, false, false] rfl rfl (qce HT_.out HW_.out (by kernel_rfl)) (fun _ _ _ h => h) (Or.inl ⟨by rfl, ?_⟩) hHeld ?_ ?_
        rotate_left
        ·rintro w' ⟨s0, s1, s2, s3, s4, s5, s6, s7⟩
         go_simp
         with_reducible rfl
        rotate_left
        ·simp only [Act.put, List.setIfInBounds_toArray, List.set_cons_zero, List.set_cons_succ, vz, vw]
         rfl
        refine one_ (i := 8) (N := some 25) #[true, true, true, true, true, true, true, true, true, false] rfl rfl (qk6 HT_.out (by kernel_rfl)) (by decide) (fun K hK => ?_)
        refine qte Tryd.func48 (by kernel_rfl) rfl #[.agg #[.int .i64 ((zf l0 qbn).f0), .int .i64 ((zf l0 qbn).f1), .string ((zf l0 qbn).f2), .slice q6u ((zf l0 qbn).f3).length q7a], .agg #[.int .i64 ((zf l1 qbn).f0), .int .i64 ((zf l1 qbn).f1), .string ((zf l1 qbn).f2), .slice q6v ((zf l1 qbn).f3).length q7b]] (by rfl) rfl rfl (by (try simp only [List.map_toArray, List.map_cons, List.map_nil]); first | done | rfl | (simp only [List.length_drop, List.length_take]; rfl)) ?_
        with_reducible refine (ih_48 k1 (by have := HK1.out; omega) ((zf l0 qbn).f0) ((zf l0 qbn).f1) ((zf l0 qbn).f2) _ _ ((zf l0 qbn).f3) ((zf l1 qbn).f0) ((zf l1 qbn).f1) ((zf l1 qbn).f2) _ _ ((zf l1 qbn).f3) true _ ?side1 ?side2 ?side3 ?side4 A7.out).mono ?_
        (case side1 => repeat (first | exact (Kd.vv qwr.out HB.out) | (with_reducible refine Kd.qba ?_ _) | (with_reducible refine Kd.qaz ?_ _) | (with_reducible refine Kd.qbq ?_)))
        (case side2 => exact q9b.out)
        (case side3 => repeat (first | exact (Kd.vv qws.out HB.out) | (with_reducible refine Kd.qba ?_ _) | (with_reducible refine Kd.qaz ?_ _) | (with_reducible refine Kd.qbq ?_)))
        (case side4 => exact q9c.out)
        rintro e w10 ⟨rfl, hb⟩
        refine ⟨_, rfl, ?_⟩
        have n0_ := qf.mk (zk (by repeat (first | (with_reducible first | exact HB.out | apply qg | apply qc | apply qh) | exact HB.out)) hb)
        clear HB
        have HB := n0_
        clear n0_
        (try clear hb)
        (try clear hb2)
        (try clear hk)
        (try clear hi)
        refine hK.out _ _ ⟨((HB.out.cell (World.block_lt_of_cell? w _ qlv)).trans qlv), ((HB.out.cell (World.block_lt_of_cell? w _ qlw)).trans qlw), ((HB.out.cell (World.block_lt_of_cell? w _ qlx)).trans qlx), ((HB.out.cell (World.block_lt_of_cell? w _ qly)).trans qly), ((HB.out.cell (World.block_lt_of_cell? w _ qlz)).trans qlz), ((HB.out.cell (World.block_lt_of_cell? w _ ql0)).trans ql0), ((HB.out.cell (World.block_lt_of_cell? w _ ql1)).trans ql1), ((HB.out.cell (World.block_lt_of_cell? w _ ql2)).trans ql2)⟩ (fun hHeld => ?_)
        clear hK K
        refine qth (a' := ?_) ?_ ?_
        rotate_left
        ·show Act.put _ (some 25) _ = _
         simp only [Act.put, List.setIfInBounds_toArray, List.set_cons_zero, List.set_cons_succ, vz, vw]
         rfl
        refine qcb (i := 9) (N := some 26) (v := ?_) (a' := ?_) #[true, true, true, true, true, true, true, true, true, true] rfl rfl (qbr HT_.out (by kernel_rfl)) (fun _ _ _ h => h) (Or.inl ⟨by rfl, ?_⟩) ?_ ?_
        rotate_left
        ·intro w'
         go_simp
         with_reducible rfl
        rotate_left
        ·simp only [Act.put, List.setIfInBounds_toArray, List.set_cons_zero, List.set_cons_succ, vz, vw]
         rfl
        refine q7e (qoz HT_.out (by kernel_rfl)) ?_
        try go_wp2
        go_roundg k1
        case measure => have := HK1.out; omega
        case rel => exact ⟨(wrap64 (qbn + 1)), (by first | rfl | (simp; done) | (simp [*]; done)), H', ⟨by have := HK1.out; omega⟩, ⟨by repeat (first | (with_reducible first | exact HB.out | apply qg | apply qc | apply qh) | exact HB.out)⟩⟩
       ·replace c8 := Bool.eq_false_iff.mpr c8
        subst c8
        have H1 : (some false) = some r := by rw [if_neg (show ¬ (false = true) by decide)] at H; exact H
        clear H
        have H := H1
        clear H1
        obtain rfl := Option.some.inj H
        try go_wp2
        have n0_ := qf.mk (qh HB.out)
        clear HB
        have HB := n0_
        clear n0_
        have zjq : 0 ≤ (qbn : Int) := of_decide_eq_true (by first | (with_reducible assumption) | assumption)
        have zjz : qbn < (l0.length : Int) := of_decide_eq_true (by first | (with_reducible assumption) | assumption)
        obtain ⟨ql8, q6u, q7a, e213, qi5, qi6, qi7, qi8, qzh, qy5⟩ := qjh HR0.out qbn zjq zjz
        have qly := qi8
        have qlx := qi7
        have qlw := qi6
        have qlv := qi5
        cases e213
        replace qi5 := (HB.out.cell (World.block_lt_of_cell? w _ qi5)).trans qi5
        replace qi6 := (HB.out.cell (World.block_lt_of_cell? w _ qi6)).trans qi6
        replace qi7 := (HB.out.cell (World.block_lt_of_cell? w _ qi7)).trans qi7
        replace qi8 := (HB.out.cell (World.block_lt_of_cell? w _ qi8)).trans qi8
        have qwr := qf.mk qy5
        have q9b := qf.mk qzh
        clear qy5 qzh
        replace zjq := eq_true zjq
        replace zjz := eq_true zjz
        have zjr : 0 ≤ (qbn : Int) := of_decide_eq_true (by first | (with_reducible assumption) | assumption)
        have zj0 : qbn < (l1.length : Int) := of_decide_eq_true (by first | (with_reducible assumption) | assumption)
        obtain ⟨ql9, q6v, q7b, e214, qi9, qja, qjb, qjc, qzi, qy6⟩ := qjh HR1.out qbn zjr zj0
        have ql2 := qjc
        have ql1 := qjb
        have ql0 := qja
        have qlz := qi9
        cases e214
        replace qi9 := (HB.out.cell (World.block_lt_of_cell? w _ qi9)).trans qi9
        replace qja := (HB.out.cell (World.block_lt_of_cell? w _ qja)).trans qja
        replace qjb := (HB.out.cell (World.block_lt_of_cell? w _ qjb)).trans qjb
        replace qjc := (HB.out.cell (World.block_lt_of_cell? w _ qjc)).trans qjc
        have qws := qf.mk qy6
        have q9c := qf.mk qzi
        clear qy6 qzi
        replace zjr := eq_true zjr
        replace zj0 := eq_true zj0
        refine qwo (n := 10) (S := fun w' => w'.cell? (ql8.add ((qbn).toNat * 4)) = some (.int .i64 ((zf l0 qbn).f0)) ∧ w'.cell? ⟨(ql8.add ((qbn).toNat * 4)).block, (ql8.add ((qbn).toNat * 4)).off + 1, none⟩ = some (.int .i64 ((zf l0 qbn).f1)) ∧ w'.cell? ⟨(ql8.add ((qbn).toNat * 4)).block, (ql8.add ((qbn).toNat * 4)).off + 2, none⟩ = some (.string ((zf l0 qbn).f2)) ∧ w'.cell? ⟨(ql8.add ((qbn).toNat * 4)).block, (ql8.add ((qbn).toNat * 4)).off + 3, none⟩ = some (.slice q6u ((zf l0 qbn).f3).length q7a) ∧ w'.cell? (ql9.add ((qbn).toNat * 4)) = some (.int .i64 ((zf l1 qbn).f0)) ∧ w'.cell? ⟨(ql9.add ((qbn).toNat * 4)).block, (ql9.add ((qbn).toNat * 4)).off + 1, none⟩ = some (.int .i64 ((zf l1 qbn).f1)) ∧ w'.cell? ⟨(ql9.add ((qbn).toNat * 4)).block, (ql9.add ((qbn).toNat * 4)).off + 2, none⟩ = some (.string ((zf l1 qbn).f2)) ∧ w'.cell? ⟨(ql9.add ((qbn).toNat * 4)).block, (ql9.add ((qbn).toNat * 4)).off + 3, none⟩ = some (.slice q6v ((zf l1 qbn).f3).length q7b)) (ds := []) #[false, false, false, false, false, false, false, false, false, false] (by kernel_rfl) rfl rfl ⟨((HB.out.cell (World.block_lt_of_cell? w _ qlv)).trans qlv), ((HB.out.cell (World.block_lt_of_cell? w _ qlw)).trans qlw), ((HB.out.cell (World.block_lt_of_cell? w _ qlx)).trans qlx), ((HB.out.cell (World.block_lt_of_cell? w _ qly)).trans qly), ((HB.out.cell (World.block_lt_of_cell? w _ qlz)).trans qlz), ((HB.out.cell (World.block_lt_of_cell? w _ ql0)).trans ql0), ((HB.out.cell (World.block_lt_of_cell? w _ ql1)).trans ql1), ((HB.out.cell (World.block_lt_of_cell? w _ ql2)).trans ql2)⟩ (fun hHeld => ?_); refine qjl zn.tab6 zn.bits6 (fun HT_ HW_ => ?_)
        generalize wr.drew = w11 at HB qwr qws qi5 qi6 qi7 qi8 qi9 qja qjb qjc hHeld ⊢
        refine qcb (i := 0) (N := some 17) (v := ?_) (a' := ?_) #[true, false, false, false, false, false, false, false, false, false] rfl rfl (qbr HT_.out (by kernel_rfl)) (fun _ _ _ h => h) (Or.inl ⟨by rfl, ?_⟩) ?_ ?_
        rotate_left
        ·intro w'
         go_simp
         with_reducible rfl
        rotate_left
        ·simp only [Act.put, List.setIfInBounds_toArray, List.set_cons_zero, List.set_cons_succ, vz, vw]
         rfl
        refine qcb (i := 1) (N := some 18) (v := ?_) (a' := ?_) #[true, true, false, false, false, false, false, false, false, false] rfl rfl (qbr HT_.out (by kernel_rfl)) (fun _ _ _ h => h) (Or.inl ⟨by rfl, ?_⟩) ?_ ?_
        rotate_left
        ·intro w'
         go_simp
         with_reducible rfl
        rotate_left
        ·simp only [Act.put, List.setIfInBounds_toArray, List.set_cons_zero, List.set_cons_succ, vz, vw]
         rfl
        refine qcb (i := 2) (N := some 19) (v := ?_) (a' := ?_) #[true, true, true, false, false, false, false, false, false, false] rfl rfl (qbr HT_.out (by kernel_rfl)) (fun _ _ _ h => h) (Or.inl ⟨by rfl, ?_⟩) ?_ ?_
        rotate_left
        ·intro w'
         go_simp
         with_reducible rfl
        rotate_left
        ·simp only [Act.put, List.setIfInBounds_toArray, List.set_cons_zero, List.set_cons_succ, vz, vw]
         rfl
        refine qcb (i := 4) (N := some 21) (v := ?_) (a' := ?_) #[true, true, true, false, true, false, false, false, false, false] rfl rfl (qbr HT_.out (by kernel_rfl)) (fun _ _ _ h => h) (Or.inl ⟨by rfl, ?_⟩) ?_ ?_
        rotate_left
        ·intro w'
         go_simp
         with_reducible rfl
        rotate_left
        ·simp only [Act.put, List.setIfInBounds_toArray, List.set_cons_zero, List.set_cons_succ, vz, vw]
         rfl
        refine qcb (i := 5) (N := some 22) (v := ?_) (a' := ?_) #[true, true, true, false, true, true, false, false, false, false] rfl rfl (qbr HT_.out (by kernel_rfl)) (fun _ _ _ h => h) (Or.inl ⟨by rfl, ?_⟩) ?_ ?_
        rotate_left
        ·intro w'
         go_simp
         with_reducible rfl
        rotate_left
        ·simp only [Act.put, List.setIfInBounds_toArray, List.set_cons_zero, List.set_cons_succ, vz, vw]
         rfl
        refine qcb (i := 6) (N := some 23) (v := ?_) (a' := ?_) #[true, true, true, false, true, true, true, false, false, false] rfl rfl (qbr HT_.out (by kernel_rfl)) (fun _ _ _ h => h) (Or.inl ⟨by rfl, ?_⟩) ?_ ?_
        rotate_left
        ·intro w'
         go_simp
         with_reducible rfl
        rotate_left
        ·simp only [Act.put, List.setIfInBounds_toArray, List.set_cons_zero, List.set_cons_succ, vz, vw]
         rfl
        refine qfz (i := 3) (N := some 20) (v := ?_) (a' := ?_) #[true, true, true, true, true, true, true, false, false, false] rfl rfl (qce HT_.out HW_.out (by kernel_rfl)) (fun _ _ _ h => h) (Or.inl ⟨by rfl, ?_⟩) hHeld ?_ ?_
        rotate_left
        ·rintro w' ⟨s0, s1, s2, s3, s4, s5, s6, s7⟩
         go_simp
         with_reducible rfl
        rotate_left
        ·simp only [Act.put, List.setIfInBounds_toArray, List.set_cons_zero, List.set_cons_succ, vz, vw]
         rfl
        refine qfz (i := 7) (N := some 24) (v := ?_) (a' := ?_) #[true, true, true, true, true, true, true, true, false, false] rfl rfl (qce HT_.out HW_.out (by kernel_rfl)) (fun _ _ _ h => h) (Or.inl ⟨by rfl, ?_⟩) hHeld ?_ ?_
        rotate_left
        ·rintro w' ⟨s0, s1, s2, s3, s4, s5, s6, s7⟩
         go_simp
         with_reducible rfl
        rotate_left
        ·simp only [Act.put, List.setIfInBounds_toArray, List.set_cons_zero, List.set_cons_succ, vz, vw]
         rfl
        refine one_ (i := 8) (N := some 25) #[true, true, true, true, true, true, true, true, true, false] rfl rfl (qk6 HT_.out (by kernel_rfl)) (by decide) (fun K hK => ?_)
        refine qte Tryd.func48 (by kernel_rfl) rfl #[.agg #[.int .i64 ((zf l0 qbn).f0), .int .i64 ((zf l0 qbn).f1), .string ((zf l0 qbn).f2), .slice q6u ((zf l0 qbn).f3).length q7a], .agg #[.int .i64 ((zf l1 qbn).f0), .int .i64 ((zf l1 qbn).f1), .string ((zf l1 qbn).f2), .slice q6v ((zf l1 qbn).f3).length q7b]] (by rfl) rfl rfl (by (try simp only [List.map_toArray, List.map_cons, List.map_nil]); first | done | rfl | (simp only [List.length_drop, List.length_take]; rfl)) ?_
        with_reducible refine (ih_48 k1 (by have := HK1.out; omega) ((zf l0 qbn).f0) ((zf l0 qbn).f1) ((zf l0 qbn).f2) _ _ ((zf l0 qbn).f3) ((zf l1 qbn).f0) ((zf l1 qbn).f1) ((zf l1 qbn).f2) _ _ ((zf l1 qbn).f3) false _ ?side1 ?side2 ?side3 ?side4 A7.out).mono ?_
        (case side1 => repeat (first | exact (Kd.vv qwr.out HB.out) | (with_reducible refine Kd.qba ?_ _) | (with_reducible refine Kd.qaz ?_ _) | (with_reducible refine Kd.qbq ?_)))
        (case side2 => exact q9b.out)
        (case side3 => repeat (first | exact (Kd.vv qws.out HB.out) | (with_reducible refine Kd.qba ?_ _) | (with_reducible refine Kd.qaz ?_ _) | (with_reducible refine Kd.qbq ?_)))
        (case side4 => exact q9c.out)
        rintro e w12 ⟨rfl, hb⟩
        refine ⟨_, rfl, ?_⟩
        have n0_ := qf.mk (zk (by repeat (first | (with_reducible first | exact HB.out | apply qg | apply qc | apply qh) | exact HB.out)) hb)
        clear HB
        have HB := n0_
        clear n0_
        (try clear hb)
        (try clear hb2)
        (try clear hk)
        (try clear hi)
        refine hK.out _ _ ⟨((HB.out.cell (World.block_lt_of_cell? w _ qlv)).trans qlv), ((HB.out.cell (World.block_lt_of_cell? w _ qlw)).trans qlw), ((HB.out.cell (World.block_lt_of_cell? w _ qlx)).trans qlx), ((HB.out.cell (World.block_lt_of_cell? w _ qly)).trans qly), ((HB.out.cell (World.block_lt_of_cell? w _ qlz)).trans qlz), ((HB.out.cell (World.block_lt_of_cell? w _ ql0)).trans ql0), ((HB.out.cell (World.block_lt_of_cell? w _ ql1)).trans ql1), ((HB.out.cell (World.block_lt_of_cell? w _ ql2)).trans ql2)⟩ (fun hHeld => ?_)
        clear hK K
        refine qth (a' := ?_) ?_ ?_
        rotate_left
        ·show Act.put _ (some 25) _ = _
         simp only [Act.put, List.setIfInBounds_toArray, List.set_cons_zero, List.set_cons_succ, vz, vw]
         rfl
        refine qcb (i := 9) (N := some 26) (v := ?_) (a' := ?_) #[true, true, true, true, true, true, true, true, true, true] rfl rfl (qbr HT_.out (by kernel_rfl)) (fun _ _ _ h => h) (Or.inl ⟨by rfl, ?_⟩) ?_ ?_
        rotate_left
        ·intro w'
         go_simp
         with_reducible rfl
        rotate_left
        ·simp only [Act.put, List.setIfInBounds_toArray, List.set_cons_zero, List.set_cons_succ, vz, vw]
         rfl
        refine q7e (qoz HT_.out (by kernel_rfl)) ?_
        try go_wp2
        go_ret
        exact ⟨by first | rfl | (simp [zg, zh] <;> rfl) | (simp [*, zg, zh] <;> rfl), by repeat (first | (with_reducible first | exact HB.out | apply qg | apply qc | apply qh) | exact HB.out)⟩
      ·rw [if_neg c6] at H
       exact absurd H (by simp)
     ·rw [if_neg c5] at H
      exact absurd H (by simp)
    ·rw [if_neg c4] at H
     have c4b0 : decide (qbn < (l0.length : Int)) = false := decide_eq_false c4
     clear c4
     obtain rfl := Option.some.inj H
     go_wp2
     go_ret
     exact ⟨by first | rfl | (simp [zg, zh] <;> rfl) | (simp [*, zg, zh] <;> rfl), by repeat (first | (with_reducible first | exact HB.out | apply qg | apply qc | apply qh) | exact HB.out)⟩
 ·rw [if_neg c3] at H
  have c3b0 : ((l0.length : Int) == (l1.length : Int)) = false := beq_eq_false_iff_ne.mpr c3
  have c3b1 : ((l0.length : Int) != (l1.length : Int)) = true := bne_iff_ne.mpr c3
  have c3b2 : (l0.length == l1.length) = false := by first | simpa using c3 | (simp at c3 ⊢; omega)
  obtain rfl := Option.some.inj H
  go_enter Tryd.func71, Tryd.ntmps71
  go_wp2
  go_ret
  exact ⟨by first | rfl | (simp [zg, zh] <;> rfl) | (simp [*, zg, zh] <;> rfl), by repeat (first | (with_reducible first | exact HB.out | apply qg | apply qc | apply qh) | exact HB.out)⟩
set_option maxHeartbeats 8000000 in
set_option maxRecDepth 100000 in
theorem je.step (k : Nat) (ih_71 : ∀ m, m < k → ∀ (A0 : Option Addr) (c0 : Nat) (l0 : List (S27)) (A1 : Option Addr) (c1 : Nat) (l1 : List (S27)) (r : Bool) (w : World) (hr0 : Kd.C k27 w A0 l0.length l0) (hc0 : l0.length ≤ c0) (hr1 : Kd.C k27 w A1 l1.length l1) (hc1 : l1.length ≤ c1) (h : zn.f m l0 l1 = some r),
    Calls Tryd.prog 71 #[.slice A0 l0.length c0, .slice A1 l1.length c1] w fun e w' => e = .returned (.bool r) ∧ Below w.heap.size w w') (ih_48 : ∀ m, m < k → ∀ (qw : Int) (qy : Int) (za : ByteArray) (jy : Option Addr) (jm : Nat) (zm : List (S27)) (qg1 : Int) (qg2 : Int) (qg3 : ByteArray) (qk2 : Option Addr) (qk3 : Nat) (qeq : List (S27)) (r : Bool) (w : World) (qdg : Kd.C k27 w jy zm.length zm) (qdf : zm.length ≤ jm) (q8g : Kd.C k27 w qk2 qeq.length qeq) (q7k : qeq.length ≤ qk3) (h : je.f m qw qy za zm qg1 qg2 qg3 qeq = some r),
    Calls Tryd.prog 48 #[.agg #[.int .i64 qw, .int .i64 qy, .string za, .slice jy zm.length jm], .agg #[.int .i64 qg1, .int .i64 qg2, .string qg3, .slice qk2 qeq.length qk3]] w fun e w' => e = .returned (.bool r) ∧ Below w.heap.size w w') : ∀ (qw : Int) (qy : Int) (za : ByteArray) (jy : Option Addr) (jm : Nat) (zm : List (S27)) (qg1 : Int) (qg2 : Int) (qg3 : ByteArray) (qk2 : Option Addr) (qk3 : Nat) (qeq : List (S27)) (r : Bool) (w : World) (qdg : Kd.C k27 w jy zm.length zm) (qdf : zm.length ≤ jm) (q8g : Kd.C k27 w qk2 qeq.length qeq) (q7k : qeq.length ≤ qk3) (h : je.f k qw qy za zm qg1 qg2 qg3 qeq = some r),
  Calls Tryd.prog 48 #[.agg #[.int .i64 qw, .int .i64 qy, .string za, .slice jy zm.length jm], .agg #[.int .i64 qg1, .int .i64 qg2, .string qg3, .slice qk2 qeq.length qk3]] w fun e w' => e = .returned (.bool r) ∧ Below w.heap.size w w' := by
 intro qw qy za jy jm zm qg1 qg2 qg3 qk2 qk3 qeq r w qdg qdf q8g q7k h
 cases k with
 | zero => exact absurd h (by simp [je.f])
 | succ k =>
 simp only [je.f] at h
 have q0h := Tryd.underlying27
 have qlb := qf.mk qdg
 have qs3 := qf.mk qdf
 clear qdg qdf
 have zxa := qf.mk q8g
 have zw5 := qf.mk q7k
 clear q8g q7k
 have HB := qf.mk (Below.refl w.heap.size w)
 have H : (if qw = qg1 then (if qy = qg2 then (if za.toList = qg3.toList then ((zn.f k zm qeq).bind fun t218 => (some t218)) else (some false)) else (some false)) else (some false)) = some r := h
 clear h
 by_cases c3 : qw = qg1
 ·rw [if_pos c3] at H
  have c3b0 : (qw == qg1) = true := beq_iff_eq.mpr c3
  have c3b1 : (qw != qg1) = false := bne_eq_false_iff_eq.mpr c3
  clear c3
  by_cases c4 : qy = qg2
  ·rw [if_pos c4] at H
   have c4b0 : (qy == qg2) = true := beq_iff_eq.mpr c4
   have c4b1 : (qy != qg2) = false := bne_eq_false_iff_eq.mpr c4
   clear c4
   by_cases c5 : za.toList = qg3.toList
   ·rw [if_pos c5] at H
    have c5b0 : (za.toList == qg3.toList) = true := beq_iff_eq.mpr c5
    have c5b1 : (za.toList != qg3.toList) = false := bne_eq_false_iff_eq.mpr c5
    clear c5
    replace H := Option.bind_eq_some_iff.mp H
    obtain ⟨t218, A60, H⟩ := H
    replace H : (some t218) = some r := H
    have A6 := qf.mk A60
    clear A60
    obtain rfl := Option.some.inj H
    go_enter Tryd.func48, Tryd.ntmps48
    go_wp2_with (first | ((with_reducible refine qah (N := 2) rfl ?_); refine vk ?hg (N := 2) ?hd (cs := #[.int .i64 qw, .int .i64 qy, .string za, .slice jy zm.length jm]) (t := 27) ?hr ?_; (case hd => rfl); (case hg => rfl); (case hr => first | (go_simp; done) | (go_simp; rfl)); intro qb5 hg w7 hbox hb; have n0_ := qf.mk (zk (by repeat (first | (with_reducible first | exact HB.out | apply qg | apply qc | apply qh) | exact HB.out)) hb); have n1_ := qf.mk (hbox); have n2_ := qf.mk ((by rw [hg]; exact (zo (by repeat (first | (with_reducible first | exact HB.out | apply qg | apply qc | apply qh) | exact HB.out))) : w.heap.size ≤ qb5)); have n3_ := qf.mk ((by rw [hg]; exact (zo (by repeat (first | (with_reducible first | exact HB.out | apply qg | apply qc | apply qh) | exact HB.out))) : w.heap.size ≤ qb5)); clear HB; have HB := n0_; have qbv := n1_; have zot := n2_; have qhv := n3_; clear n0_ n1_ n2_ n3_; clear hb hbox hg) | ((with_reducible refine qah (N := 3) rfl ?_); refine vk ?hg (N := 3) ?hd (cs := #[.int .i64 qg1, .int .i64 qg2, .string qg3, .slice qk2 qeq.length qk3]) (t := 27) ?hr ?_; (case hd => rfl); (case hg => rfl); (case hr => first | (go_simp; done) | (go_simp; rfl)); intro qda hg w8 hbox hb; have n0_ := qf.mk (zl (g := qb5) (o := .cells #[.int .i64 qw, .int .i64 qy, .string za, .slice jy zm.length jm] 27 (0, 0)) (by (with_reducible repeat (first | refine qj ?_ _ | refine qo ?_ | refine qi ?_ _)); exact qbv.out) hb); have n1_ := qf.mk (zk (by repeat (first | (with_reducible first | exact HB.out | apply qg | apply qc | apply qh | refine ql ?_ qhv.out) | exact HB.out)) hb); have n2_ := qf.mk (hbox); have n3_ := qf.mk ((by rw [hg]; exact (zo (by repeat (first | (with_reducible first | exact HB.out | apply qg | apply qc | apply qh | refine ql ?_ qhv.out) | exact HB.out))) : w.heap.size ≤ qda)); have n4_ := qf.mk ((by rw [hg]; exact (zo (by repeat (first | (with_reducible first | exact HB.out | apply qg | apply qc | apply qh | refine ql ?_ qhv.out) | exact HB.out))) : w.heap.size ≤ qda)); have n5_ := qf.mk ((by rw [hg]; exact Nat.ne_of_lt (qax (g := qb5) (o := .cells #[.int .i64 qw, .int .i64 qy, .string za, .slice jy zm.length jm] 27 (0, 0)) (by (with_reducible repeat (first | refine qj ?_ _ | refine qo ?_ | refine qi ?_ _)); exact qbv.out)) : qb5 ≠ qda)); have n6_ := qf.mk ((by rw [hg]; exact Nat.ne_of_gt (qax (g := qb5) (o := .cells #[.int .i64 qw, .int .i64 qy, .string za, .slice jy zm.length jm] 27 (0, 0)) (by (with_reducible repeat (first | refine qj ?_ _ | refine qo ?_ | refine qi ?_ _)); exact qbv.out)) : qda ≠ qb5)); clear qbv; clear HB; have qbv := n0_; have HB := n1_; have qcx := n2_; have zou := n3_; have q0f := n4_; have qjf := n5_; have qjg := n6_; clear n0_ n1_ n2_ n3_ n4_ n5_ n6_; clear hb hbox hg; have z4a := qjf.out; have z4c := qjg.out; have qo1 : w8.cell? ⟨qb5, 0, none⟩ = some (.int .i64 qw) := (qb qbv.out 0).trans rfl; have qo2 : w8.cell? ⟨qb5, 1, none⟩ = some (.int .i64 qy) := (qb qbv.out 1).trans rfl; have qo3 : w8.cell? ⟨qb5, 2, none⟩ = some (.string za) := (qb qbv.out 2).trans rfl; have qo4 : w8.cell? ⟨qb5, 3, none⟩ = some (.slice jy zm.length jm) := (qb qbv.out 3).trans rfl; have qjy := qa qbv.out 0; have qjz := qa qbv.out 1; have qj0 := qa qbv.out 2; have qj1 := qa qbv.out 3; have qfr : w8.cell? ⟨qda, 0, none⟩ = some (.int .i64 qg1) := (qb qcx.out 0).trans rfl; have qfs : w8.cell? ⟨qda, 1, none⟩ = some (.int .i64 qg2) := (qb qcx.out 1).trans rfl; have qft : w8.cell? ⟨qda, 2, none⟩ = some (.string qg3) := (qb qcx.out 2).trans rfl; have qfu : w8.cell? ⟨qda, 3, none⟩ = some (.slice qk2 qeq.length qk3) := (qb qcx.out 3).trans rfl; have qfv := qa qcx.out 0; have qfw := qa qcx.out 1; have qfx := qa qcx.out 2; have qfy := qa qcx.out 3) | ((with_reducible refine qaq (f := 71) rfl ?_); refine qcj (some 28) rfl rfl Tryd.func71 (by kernel_rfl) rfl #[.slice jy zm.length jm, .slice qk2 qeq.length qk3] rfl (by (try simp only [List.map_toArray, List.map_cons, List.map_nil]); first | done | rfl | (simp only [List.length_drop, List.length_take]; rfl)) ?_; (with_reducible refine (ih_71 k (by omega) _ _ zm _ _ qeq t218 _ ?side1 ?side2 ?side3 ?side4 A6.out).mono ?_); (case side1 => repeat (first | exact (Kd.vv qlb.out HB.out) | (with_reducible refine Kd.qba ?_ _) | (with_reducible refine Kd.qaz ?_ _) | (with_reducible refine Kd.qbq ?_))); (case side2 => exact qs3.out); (case side3 => repeat (first | exact (Kd.vv zxa.out HB.out) | (with_reducible refine Kd.qba ?_ _) | (with_reducible refine Kd.qaz ?_ _) | (with_reducible refine Kd.qbq ?_))); (case side4 => exact zw5.out); rintro e w12 ⟨rfl, hb⟩; refine ⟨_, rfl, ?_⟩; have n0_ := qf.mk (zl (g := qb5) (o := .cells #[.int .i64 qw, .int .i64 qy, .string za, .slice jy zm.length jm] 27 (0, 0)) (by (with_reducible repeat (first | refine qj ?_ _ | refine qo ?_ | refine qi ?_ _)); exact qbv.out) hb); have n1_ := qf.mk (zl (g := qda) (o := .cells #[.int .i64 qg1, .int .i64 qg2, .string qg3, .slice qk2 qeq.length qk3] 27 (0, 0)) (by (with_reducible repeat (first | refine qj ?_ _ | refine qo ?_ | refine qi ?_ _)); exact qcx.out) hb); have n2_ := qf.mk (zk (by repeat (first | (with_reducible first | exact HB.out | apply qg | apply qc | apply qh | refine ql ?_ qhv.out | refine ql ?_ q0f.out) | exact HB.out)) hb); clear qbv; clear qcx; clear HB; have qbv := n0_; have qcx := n1_; have HB := n2_; clear n0_ n1_ n2_; (try clear hb); (try clear hb2); (try clear hk); (try clear hi)))
    go_ret
    exact ⟨by first | rfl | (simp [zg, zh] <;> rfl) | (simp [*, zg, zh] <;> rfl), by repeat (first | (with_reducible first | exact HB.out | apply qg | apply qc | apply qh | refine ql ?_ qhv.out | refine ql ?_ q0f.out) | exact HB.out)⟩
   ·rw [if_neg c5] at H
    have c5b0 : (za.toList == qg3.toList) = false := beq_eq_false_iff_ne.mpr c5
    have c5b1 : (za.toList != qg3.toList) = true := bne_iff_ne.mpr c5
    obtain rfl := Option.some.inj H
    go_enter Tryd.func48, Tryd.ntmps48
    go_wp2_with (first | ((with_reducible refine qah (N := 2) rfl ?_); refine vk ?hg (N := 2) ?hd (cs := #[.int .i64 qw, .int .i64 qy, .string za, .slice jy zm.length jm]) (t := 27) ?hr ?_; (case hd => rfl); (case hg => rfl); (case hr => first | (go_simp; done) | (go_simp; rfl)); intro qb5 hg w13 hbox hb; have n0_ := qf.mk (zk (by repeat (first | (with_reducible first | exact HB.out | apply qg | apply qc | apply qh) | exact HB.out)) hb); have n1_ := qf.mk (hbox); have n2_ := qf.mk ((by rw [hg]; exact (zo (by repeat (first | (with_reducible first | exact HB.out | apply qg | apply qc | apply qh) | exact HB.out))) : w.heap.size ≤ qb5)); have n3_ := qf.mk ((by rw [hg]; exact (zo (by repeat (first | (with_reducible first | exact HB.out | apply qg | apply qc | apply qh) | exact HB.out))) : w.heap.size ≤ qb5)); clear HB; have HB := n0_; have qbv := n1_; have zot := n2_; have qhv := n3_; clear n0_ n1_ n2_ n3_; clear hb hbox hg) | ((with_reducible refine qah (N := 3) rfl ?_); refine vk ?hg (N := 3) ?hd (cs := #[.int .i64 qg1, .int .i64 qg2, .string qg3, .slice qk2 qeq.length qk3]) (t := 27) ?hr ?_; (case hd => rfl); (case hg => rfl); (case hr => first | (go_simp; done) | (go_simp; rfl)); intro qda hg w14 hbox hb; have n0_ := qf.mk (zl (g := qb5) (o := .cells #[.int .i64 qw, .int .i64 qy, .string za, .slice jy zm.length jm] 27 (0, 0)) (by (with_reducible repeat (first | refine qj ?_ _ | refine qo ?_ | refine qi ?_ _)); exact qbv.out) hb); have n1_ := qf.mk (zk (by repeat (first | (with_reducible first | exact HB.out | apply qg | apply qc | apply qh | refine ql ?_ qhv.out) | exact HB.out)) hb); have n2_ := qf.mk (hbox); have n3_ := qf.mk ((by rw [hg]; exact (zo (by repeat (first | (with_reducible first | exact HB.out | apply qg | apply qc | apply qh | refine ql ?_ qhv.out) | exact HB.out))) : w.heap.size ≤ qda)); have n4_ := qf.mk ((by rw [hg]; exact (zo (by repeat (first | (with_reducible first | exact HB.out | apply qg | apply qc | apply qh | refine ql ?_ qhv.out) | exact HB.out))) : w.heap.size ≤ qda)); have n5_ := qf.mk ((by rw [hg]; exact Nat.ne_of_lt (qax (g := qb5) (o := .cells #[.int .i64 qw, .int .i64 qy, .string za, .slice jy zm.length jm] 27 (0, 0)) (by (with_reducible repeat (first | refine qj ?_ _ | refine qo ?_ | refine qi ?_ _)); exact qbv.out)) : qb5 ≠ qda)); have n6_ := qf.mk ((by rw [hg]; exact Nat.ne_of_gt (qax (g := qb5) (o := .cells #[.int .i64 qw, .int .i64 qy, .string za, .slice jy zm.length jm] 27 (0, 0)) (by (with_reducible repeat (first | refine qj ?_ _ | refine qo ?_ | refine qi ?_ _)); exact qbv.out)) : qda ≠ qb5)); clear qbv; clear HB; have qbv := n0_; have HB := n1_; have qcx := n2_; have zou := n3_; have q0f := n4_; have qjf := n5_; have qjg := n6_; clear n0_ n1_ n2_ n3_ n4_ n5_ n6_; clear hb hbox hg; have z2w := qjf.out; have z3i := qjg.out; have qg6 : w14.cell? ⟨qb5, 0, none⟩ = some (.int .i64 qw) := (qb qbv.out 0).trans rfl; have qg7 : w14.cell? ⟨qb5, 1, none⟩ = some (.int .i64 qy) := (qb qbv.out 1).trans rfl; have qg8 : w14.cell? ⟨qb5, 2, none⟩ = some (.string za) := (qb qbv.out 2).trans rfl; have qg9 : w14.cell? ⟨qb5, 3, none⟩ = some (.slice jy zm.length jm) := (qb qbv.out 3).trans rfl; have qdq := qa qbv.out 0; have qdr := qa qbv.out 1; have qds := qa qbv.out 2; have qdt := qa qbv.out 3; have q1c : w14.cell? ⟨qda, 0, none⟩ = some (.int .i64 qg1) := (qb qcx.out 0).trans rfl; have q1d : w14.cell? ⟨qda, 1, none⟩ = some (.int .i64 qg2) := (qb qcx.out 1).trans rfl; have q1e : w14.cell? ⟨qda, 2, none⟩ = some (.string qg3) := (qb qcx.out 2).trans rfl; have q1f : w14.cell? ⟨qda, 3, none⟩ = some (.slice qk2 qeq.length qk3) := (qb qcx.out 3).trans rfl; have q3r := qa qcx.out 0; have q3s := qa qcx.out 1; have q3t := qa qcx.out 2; have q3u := qa qcx.out 3))
    go_ret
    exact ⟨by first | rfl | (simp [zg, zh] <;> rfl) | (simp [*, zg, zh] <;> rfl), by repeat (first | (with_reducible first | exact HB.out | apply qg | apply qc | apply qh | refine ql ?_ qhv.out | refine ql ?_ q0f.out) | exact HB.out)⟩
  ·rw [if_neg c4] at H
   have c4b0 : (qy == qg2) = false := beq_eq_false_iff_ne.mpr c4
   have c4b1 : (qy != qg2) = true := bne_iff_ne.mpr c4
   obtain rfl := Option.some.inj H
   go_enter Tryd.func48, Tryd.ntmps48
   go_wp2_with (first | ((with_reducible refine qah (N := 2) rfl ?_); refine vk ?hg (N := 2) ?hd (cs := #[.int .i64 qw, .int .i64 qy, .string za, .slice jy zm.length jm]) (t := 27) ?hr ?_; (case hd => rfl); (case hg => rfl); (case hr => first | (go_simp; done) | (go_simp; rfl)); intro qb5 hg w18 hbox hb; have n0_ := qf.mk (zk (by repeat (first | (with_reducible first | exact HB.out | apply qg | apply qc | apply qh) | exact HB.out)) hb); have n1_ := qf.mk (hbox); have n2_ := qf.mk ((by rw [hg]; exact (zo (by repeat (first | (with_reducible first | exact HB.out | apply qg | apply qc | apply qh) | exact HB.out))) : w.heap.size ≤ qb5)); have n3_ := qf.mk ((by rw [hg]; exact (zo (by repeat (first | (with_reducible first | exact HB.out | apply qg | apply qc | apply qh) | exact HB.out))) : w.heap.size ≤ qb5)); clear HB; have HB := n0_; have qbv := n1_; have zot := n2_; have qhv := n3_; clear n0_ n1_ n2_ n3_; clear hb hbox hg) | ((with_reducible refine qah (N := 3) rfl ?_); refine vk ?hg (N := 3) ?hd (cs := #[.int .i64 qg1, .int .i64 qg2, .string qg3, .slice qk2 qeq.length qk3]) (t := 27) ?hr ?_; (case hd => rfl); (case hg => rfl); (case hr => first | (go_simp; done) | (go_simp; rfl)); intro qda hg w19 hbox hb; have n0_ := qf.mk (zl (g := qb5) (o := .cells #[.int .i64 qw, .int .i64 qy, .string za, .slice jy zm.length jm] 27 (0, 0)) (by (with_reducible repeat (first | refine qj ?_ _ | refine qo ?_ | refine qi ?_ _)); exact qbv.out) hb); have n1_ := qf.mk (zk (by repeat (first | (with_reducible first | exact HB.out | apply qg | apply qc | apply qh | refine ql ?_ qhv.out) | exact HB.out)) hb); have n2_ := qf.mk (hbox); have n3_ := qf.mk ((by rw [hg]; exact (zo (by repeat (first | (with_reducible first | exact HB.out | apply qg | apply qc | apply qh | refine ql ?_ qhv.out) | exact HB.out))) : w.heap.size ≤ qda)); have n4_ := qf.mk ((by rw [hg]; exact (zo (by repeat (first | (with_reducible first | exact HB.out | apply qg | apply qc | apply qh | refine ql ?_ qhv.out) | exact HB.out))) : w.heap.size ≤ qda)); have n5_ := qf.mk ((by rw [hg]; exact Nat.ne_of_lt (qax (g := qb5) (o := .cells #[.int .i64 qw, .int .i64 qy, .string za, .slice jy zm.length jm] 27 (0, 0)) (by (with_reducible repeat (first | refine qj ?_ _ | refine qo ?_ | refine qi ?_ _)); exact qbv.out)) : qb5 ≠ qda)); have n6_ := qf.mk ((by rw [hg]; exact Nat.ne_of_gt (qax (g := qb5) (o := .cells #[.int .i64 qw, .int .i64 qy, .string za, .slice jy zm.length jm] 27 (0, 0)) (by (with_reducible repeat (first | refine qj ?_ _ | refine qo ?_ | refine qi ?_ _)); exact qbv.out)) : qda ≠ qb5)); clear qbv; clear HB; have qbv := n0_; have HB := n1_; have qcx := n2_; have zou := n3_; have q0f := n4_; have qjf := n5_; have qjg := n6_; clear n0_ n1_ n2_ n3_ n4_ n5_ n6_; clear hb hbox hg; have zrv := qjf.out; have zrw := qjg.out; have qju : w19.cell? ⟨qb5, 0, none⟩ = some (.int .i64 qw) := (qb qbv.out 0).trans rfl; have qjv : w19.cell? ⟨qb5, 1, none⟩ = some (.int .i64 qy) := (qb qbv.out 1).trans rfl; have qjw : w19.cell? ⟨qb5, 2, none⟩ = some (.string za) := (qb qbv.out 2).trans rfl; have qjx : w19.cell? ⟨qb5, 3, none⟩ = some (.slice jy zm.length jm) := (qb qbv.out 3).trans rfl; have qj2 := qa qbv.out 0; have qj3 := qa qbv.out 1; have qj4 := qa qbv.out 2; have qj5 := qa qbv.out 3; have qmj : w19.cell? ⟨qda, 0, none⟩ = some (.int .i64 qg1) := (qb qcx.out 0).trans rfl; have qmk : w19.cell? ⟨qda, 1, none⟩ = some (.int .i64 qg2) := (qb qcx.out 1).trans rfl; have qml : w19.cell? ⟨qda, 2, none⟩ = some (.string qg3) := (qb qcx.out 2).trans rfl; have qmm : w19.cell? ⟨qda, 3, none⟩ = some (.slice qk2 qeq.length qk3) := (qb qcx.out 3).trans rfl; have qmw := qa qcx.out 0; have qmx := qa qcx.out 1; have qmy := qa qcx.out 2; have qmz := qa qcx.out 3))
   go_ret
   exact ⟨by first | rfl | (simp [zg, zh] <;> rfl) | (simp [*, zg, zh] <;> rfl), by repeat (first | (with_reducible first | exact HB.out | apply qg | apply qc | apply qh | refine ql ?_ qhv.out | refine ql ?_ q0f.out) | exact HB.out)⟩
 ·rw [if_neg c3] at H
  have c3b0 : (qw == qg1) = false := beq_eq_false_iff_ne.mpr c3
  have c3b1 : (qw != qg1) = true := bne_iff_ne.mpr c3
  obtain rfl := Option.some.inj H
  go_enter Tryd.func48, Tryd.ntmps48
  go_wp2_with (first | ((with_reducible refine qah (N := 2) rfl ?_); refine vk ?hg (N := 2) ?hd (cs := #[.int .i64 qw, .int .i64 qy, .string za, .slice jy zm.length jm]) (t := 27) ?hr ?_; (case hd => rfl); (case hg => rfl); (case hr => first | (go_simp; done) | (go_simp; rfl)); intro qb5 hg w23 hbox hb; have n0_ := qf.mk (zk (by repeat (first | (with_reducible first | exact HB.out | apply qg | apply qc | apply qh) | exact HB.out)) hb); have n1_ := qf.mk (hbox); have n2_ := qf.mk ((by rw [hg]; exact (zo (by repeat (first | (with_reducible first | exact HB.out | apply qg | apply qc | apply qh) | exact HB.out))) : w.heap.size ≤ qb5)); have n3_ := qf.mk ((by rw [hg]; exact (zo (by repeat (first | (with_reducible first | exact HB.out | apply qg | apply qc | apply qh) | exact HB.out))) : w.heap.size ≤ qb5)); clear HB; have HB := n0_; have qbv := n1_; have zot := n2_; have qhv := n3_; clear n0_ n1_ n2_ n3_; clear hb hbox hg) | ((with_reducible refine qah (N := 3) rfl ?_); refine vk ?hg (N := 3) ?hd (cs := #[.int .i64 qg1, .int .i64 qg2, .string qg3, .slice qk2 qeq.length qk3]) (t := 27) ?hr ?_; (case hd => rfl); (case hg => rfl); (case hr => first | (go_simp; done) | (go_simp; rfl)); intro qda hg w24 hbox hb; have n0_ := qf.mk (zl (g := qb5) (o := .cells #[.int .i64 qw, .int .i64 qy, .string za, .slice jy zm.length jm] 27 (0, 0)) (by (with_reducible repeat (first | refine qj ?_ _ | refine qo ?_ | refine qi ?_ _)); exact qbv.out) hb); have n1_ := qf.mk (zk (by repeat (first | (with_reducible first | exact HB.out | apply qg | apply qc | apply qh | refine ql ?_ qhv.out) | exact HB.out)) hb); have n2_ := qf.mk (hbox); have n3_ := qf.mk ((by rw [hg]; exact (zo (by repeat (first | (with_reducible first | exact HB.out | apply qg | apply qc | apply qh | refine ql ?_ qhv.out) | exact HB.out))) : w.heap.size ≤ qda)); have n4_ := qf.mk ((by rw [hg]; exact (zo (by repeat (first | (with_reducible first | exact HB.out | apply qg | apply qc | apply qh | refine ql ?_ qhv.out) | exact HB.out))) : w.heap.size ≤ qda)); have n5_ := qf.mk ((by rw [hg]; exact Nat.ne_of_lt (qax (g := qb5) (o := .cells #[.int .i64 qw, .int .i64 qy, .string za, .slice jy zm.length jm] 27 (0, 0)) (by (with_reducible repeat (first | refine qj ?_ _ | refine qo ?_ | refine qi ?_ _)); exact qbv.out)) : qb5 ≠ qda)); have n6_ := qf.mk ((by rw [hg]; exact Nat.ne_of_gt (qax (g := qb5) (o := .cells #[.int .i64 qw, .int .i64 qy, .string za, .slice jy zm.length jm] 27 (0, 0)) (by (with_reducible repeat (first | refine qj ?_ _ | refine qo ?_ | refine qi ?_ _)); exact qbv.out)) : qda ≠ qb5)); clear qbv; clear HB; have qbv := n0_; have HB := n1_; have qcx := n2_; have zou := n3_; have q0f := n4_; have qjf := n5_; have qjg := n6_; clear n0_ n1_ n2_ n3_ n4_ n5_ n6_; clear hb hbox hg; have zym := qjf.out; have zyn := qjg.out; have qt0 : w24.cell? ⟨qb5, 0, none⟩ = some (.int .i64 qw) := (qb qbv.out 0).trans rfl; have qt1 : w24.cell? ⟨qb5, 1, none⟩ = some (.int .i64 qy) := (qb qbv.out 1).trans rfl; have qt2 : w24.cell? ⟨qb5, 2, none⟩ = some (.string za) := (qb qbv.out 2).trans rfl; have qt3 : w24.cell? ⟨qb5, 3, none⟩ = some (.slice jy zm.length jm) := (qb qbv.out 3).trans rfl; have qux := qa qbv.out 0; have quy := qa qbv.out 1; have quz := qa qbv.out 2; have qu0 := qa qbv.out 3; have qmn : w24.cell? ⟨qda, 0, none⟩ = some (.int .i64 qg1) := (qb qcx.out 0).trans rfl; have qmo : w24.cell? ⟨qda, 1, none⟩ = some (.int .i64 qg2) := (qb qcx.out 1).trans rfl; have qmp : w24.cell? ⟨qda, 2, none⟩ = some (.string qg3) := (qb qcx.out 2).trans rfl; have qmq : w24.cell? ⟨qda, 3, none⟩ = some (.slice qk2 qeq.length qk3) := (qb qcx.out 3).trans rfl; have qm0 := qa qcx.out 0; have qm1 := qa qcx.out 1; have qm2 := qa qcx.out 2; have qm3 := qa qcx.out 3))
  go_ret
  exact ⟨by first | rfl | (simp [zg, zh] <;> rfl) | (simp [*, zg, zh] <;> rfl), by repeat (first | (with_reducible first | exact HB.out | apply qg | apply qc | apply qh | refine ql ?_ qhv.out | refine ql ?_ q0f.out) | exact HB.out)⟩
theorem qca.all (k : Nat) : (∀ (A0 : Option Addr) (c0 : Nat) (l0 : List (S27)) (A1 : Option Addr) (c1 : Nat) (l1 : List (S27)) (r : Bool) (w : World) (hr0 : Kd.C k27 w A0 l0.length l0) (hc0 : l0.length ≤ c0) (hr1 : Kd.C k27 w A1 l1.length l1) (hc1 : l1.length ≤ c1) (h : zn.f k l0 l1 = some r),
    Calls Tryd.prog 71 #[.slice A0 l0.length c0, .slice A1 l1.length c1] w fun e w' => e = .returned (.bool r) ∧ Below w.heap.size w w') ∧ (∀ (qw : Int) (qy : Int) (za : ByteArray) (jy : Option Addr) (jm : Nat) (zm : List (S27)) (qg1 : Int) (qg2 : Int) (qg3 : ByteArray) (qk2 : Option Addr) (qk3 : Nat) (qeq : List (S27)) (r : Bool) (w : World) (qdg : Kd.C k27 w jy zm.length zm) (qdf : zm.length ≤ jm) (q8g : Kd.C k27 w qk2 qeq.length qeq) (q7k : qeq.length ≤ qk3) (h : je.f k qw qy za zm qg1 qg2 qg3 qeq = some r),
    Calls Tryd.prog 48 #[.agg #[.int .i64 qw, .int .i64 qy, .string za, .slice jy zm.length jm], .agg #[.int .i64 qg1, .int .i64 qg2, .string qg3, .slice qk2 qeq.length qk3]] w fun e w' => e = .returned (.bool r) ∧ Below w.heap.size w w') := by
  induction k using Nat.strongRecOn with
  | _ k ih =>
  exact ⟨zn.step k (fun m hm => (ih m hm).1) (fun m hm => (ih m hm).2), je.step k (fun m hm => (ih m hm).1) (fun m hm => (ih m hm).2)⟩
theorem je.calls (k : Nat) : ∀ (qw : Int) (qy : Int) (za : ByteArray) (jy : Option Addr) (jm : Nat) (zm : List (S27)) (qg1 : Int) (qg2 : Int) (qg3 : ByteArray) (qk2 : Option Addr) (qk3 : Nat) (qeq : List (S27)) (r : Bool) (w : World) (qdg : Kd.C k27 w jy zm.length zm) (qdf : zm.length ≤ jm) (q8g : Kd.C k27 w qk2 qeq.length qeq) (q7k : qeq.length ≤ qk3) (h : je.f k qw qy za zm qg1 qg2 qg3 qeq = some r),
    Calls Tryd.prog 48 #[.agg #[.int .i64 qw, .int .i64 qy, .string za, .slice jy zm.length jm], .agg #[.int .i64 qg1, .int .i64 qg2, .string qg3, .slice qk2 qeq.length qk3]] w fun e w' => e = .returned (.bool r) ∧ Below w.heap.size w w' := (qca.all k).2
def yo.f (k : Nat) (qw : Int) (qy : Int) (za : ByteArray) (zm : List (S27)) : Option (Bool) := (je.f k qw qy za zm 0 0 (⟨#[]⟩ : ByteArray) ([] : List (S27))).bind fun zol => (some zol)
theorem yo.mono : ∀ a0 a1 a2 a3 k, LeO (yo.f k a0 a1 a2 a3) (yo.f (k + 1) a0 a1 a2 a3) := by
 intro a0 a1 a2 a3 k
 unfold yo.f
 repeat' first
   | (with_reducible exact je.mono _ _ _ _ _ _ _ _ _)
   | (with_reducible exact LeO.refl _)
   | (with_reducible exact LeO.none _)
   | (with_reducible refine LeO.ite ?_ ?_)
   | (with_reducible refine LeO.bind ?_ (fun _ => ?_))
   | exact je.mono _ _ _ _ _ _ _ _ _
   | exact LeO.none _
   | refine LeO.ite ?_ ?_
   | refine LeO.bind ?_ (fun _ => ?_)
set_option maxHeartbeats 8000000 in
set_option maxRecDepth 100000 in
theorem yo.calls (k : Nat) (qw : Int) (qy : Int) (za : ByteArray) (jy : Option Addr) (jm : Nat) (zm : List (S27)) (r : Bool) (w : World) (qdg : Kd.C k27 w jy zm.length zm) (qdf : zm.length ≤ jm) (h : yo.f k qw qy za zm = some r) :
  Calls Tryd.prog 23 #[.agg #[.int .i64 qw, .int .i64 qy, .string za, .slice jy zm.length jm]] w fun e w' => e = .returned (.bool r) ∧ Below w.heap.size w w' := by
 have q0h := Tryd.underlying27
 have qlb := qf.mk qdg
 have qs3 := qf.mk qdf
 clear qdg qdf
 have HB := qf.mk (Below.refl w.heap.size w)
 have H : ((je.f k qw qy za zm 0 0 (⟨#[]⟩ : ByteArray) ([] : List (S27))).bind fun zol => (some zol)) = some r := h
 clear h
 replace H := Option.bind_eq_some_iff.mp H
 obtain ⟨zol, A20, H⟩ := H
 replace H : (some zol) = some r := H
 have A2 := qf.mk A20
 clear A20
 obtain rfl := Option.some.inj H
 go_enter Tryd.func23, Tryd.ntmps23
 go_wp2_with (first | ((with_reducible refine qah (N := 1) rfl ?_); refine vk ?hg (N := 1) ?hd (cs := #[.int .i64 qw, .int .i64 qy, .string za, .slice jy zm.length jm]) (t := 27) ?hr ?_; (case hd => rfl); (case hg => rfl); (case hr => first | (go_simp; done) | (go_simp; rfl)); intro q7j hg w3 hbox hb; have n0_ := qf.mk (zk (by repeat (first | (with_reducible first | exact HB.out | apply qg | apply qc | apply qh) | exact HB.out)) hb); have n1_ := qf.mk (hbox); have n2_ := qf.mk ((by rw [hg]; exact (zo (by repeat (first | (with_reducible first | exact HB.out | apply qg | apply qc | apply qh) | exact HB.out))) : w.heap.size ≤ q7j)); have n3_ := qf.mk ((by rw [hg]; exact (zo (by repeat (first | (with_reducible first | exact HB.out | apply qg | apply qc | apply qh) | exact HB.out))) : w.heap.size ≤ q7j)); clear HB; have HB := n0_; have qs9 := n1_; have z2h := n2_; have zug := n3_; clear n0_ n1_ n2_ n3_; clear hb hbox hg; have zqq : w3.cell? ⟨q7j, 0, none⟩ = some (.int .i64 qw) := (qb qs9.out 0).trans rfl; have zqr : w3.cell? ⟨q7j, 1, none⟩ = some (.int .i64 qy) := (qb qs9.out 1).trans rfl; have zqs : w3.cell? ⟨q7j, 2, none⟩ = some (.string za) := (qb qs9.out 2).trans rfl; have zqt : w3.cell? ⟨q7j, 3, none⟩ = some (.slice jy zm.length jm) := (qb qs9.out 3).trans rfl; have zro := qa qs9.out 0; have zrp := qa qs9.out 1; have zrq := qa qs9.out 2; have zrr := qa qs9.out 3) | ((with_reducible refine qaq (f := 48) rfl ?_); refine qcj (some 5) rfl rfl Tryd.func48 (by kernel_rfl) rfl #[.agg #[.int .i64 qw, .int .i64 qy, .string za, .slice jy zm.length jm], .agg #[.int .i64 0, .int .i64 0, .string (⟨#[]⟩ : ByteArray), .slice none 0 0]] rfl (by (try simp only [List.map_toArray, List.map_cons, List.map_nil]); first | done | rfl | (simp only [List.length_drop, List.length_take]; rfl)) ?_; (refine (je.calls k qw qy za _ _ zm 0 0 (⟨#[]⟩ : ByteArray) _ _ ([] : List (S27)) zol _ ?side1 ?side2 ?side3 ?side4 A2.out).mono ?_); (case side1 => repeat (first | exact (Kd.vv qlb.out HB.out) | (with_reducible refine Kd.qba ?_ _) | (with_reducible refine Kd.qaz ?_ _) | (with_reducible refine Kd.qbq ?_))); (case side2 => exact qs3.out); (case side3 => exact Kd.zgu _ _); (case side4 => exact Nat.le_refl _); rintro e w5 ⟨rfl, hb⟩; refine ⟨_, rfl, ?_⟩; have n0_ := qf.mk (zl (g := q7j) (o := .cells #[.int .i64 qw, .int .i64 qy, .string za, .slice jy zm.length jm] 27 (0, 0)) (by (with_reducible repeat (first | refine qj ?_ _ | refine qo ?_ | refine qi ?_ _)); exact qs9.out) hb); have n1_ := qf.mk (zk (by repeat (first | (with_reducible first | exact HB.out | apply qg | apply qc | apply qh | refine ql ?_ zug.out) | exact HB.out)) hb); clear qs9; clear HB; have qs9 := n0_; have HB := n1_; clear n0_ n1_; (try clear hb); (try clear hb2); (try clear hk); (try clear hi)))
 go_ret
 exact ⟨by first | rfl | (simp [zg, zh] <;> rfl) | (simp [*, zg, zh] <;> rfl), by repeat (first | (with_reducible first | exact HB.out | apply qg | apply qc | apply qh | refine ql ?_ zug.out) | exact HB.out)⟩
end Go.Proofs.YtpgkhmdfddejfaaDoor.PV
end
