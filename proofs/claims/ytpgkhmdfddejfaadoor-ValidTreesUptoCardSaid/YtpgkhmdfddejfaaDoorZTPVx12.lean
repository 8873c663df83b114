import Derived.Test.YtpgkhmdfddejfaaDoorZTPVx0
import Derived.Test.YtpgkhmdfddejfaaDoorZTPVx11
section
namespace Go.Proofs.YtpgkhmdfddejfaaDoor.PV
open Go.RowKit Go.Proofs.YtpgkhmdfddejfaaDoorW.PrintWords Go.Proofs.YtpgkhmdfddejfaaDoorW.PrintLast Go.Proofs.YtpgkhmdfddejfaaDoorW.PrintMore
attribute [local go_sem] qcw qcv qdb qda qcr qcq qcu qcx   -- for this text's walks alone
set_option linter.unusedVariables false
set_option linter.unusedSimpArgs false
def qbd.f (k : Nat) (a0_0 : Int) (a0_1 : Int) (a0_2 : ByteArray) (l0_3 : List (S27)) : Option (Bool) := (qo.f k a0_0 a0_1 a0_2 l0_3 1).bind fun t212 => (some t212)
theorem qbd.mono : ∀ a0 a1 a2 a3 k, LeO (qbd.f k a0 a1 a2 a3) (qbd.f (k + 1) a0 a1 a2 a3) := by
 intro a0 a1 a2 a3 k
 unfold qbd.f
 repeat' first
   | (with_reducible exact qo.mono _ _ _ _ _ _)
   | (with_reducible exact LeO.refl _)
   | (with_reducible exact LeO.none _)
   | (with_reducible refine LeO.ite ?_ ?_)
   | (with_reducible refine LeO.bind ?_ (fun _ => ?_))
   | exact qo.mono _ _ _ _ _ _
   | exact LeO.none _
   | refine LeO.ite ?_ ?_
   | refine LeO.bind ?_ (fun _ => ?_)
set_option maxHeartbeats 8000000 in
set_option maxRecDepth 100000 in
theorem qbd.calls (k : Nat) (a0_0 : Int) (a0_1 : Int) (a0_2 : ByteArray) (A0_3 : Option Addr) (c0_3 : Nat) (l0_3 : List (S27)) (r : Bool) (w : World) (qh5 : Kd.C k27 w A0_3 l0_3.length l0_3) (qhr : l0_3.length ≤ c0_3) (h : qbd.f k a0_0 a0_1 a0_2 l0_3 = some r) :
  Calls Tryd.prog 22 #[.agg #[.int .i64 a0_0, .int .i64 a0_1, .string a0_2, .slice A0_3 l0_3.length c0_3]] w fun e w' => e = .returned (.bool r) ∧ Below w.heap.size w w' := by
 have hu27 := Tryd.underlying27
 have qo8 := qc.mk qh5
 have qwf := qc.mk qhr
 clear qh5 qhr
 have HB := qc.mk (Below.refl w.heap.size w)
 have H : ((qo.f k a0_0 a0_1 a0_2 l0_3 1).bind fun t212 => (some t212)) = some r := h
 clear h
 replace H := Option.bind_eq_some_iff.mp H
 obtain ⟨t212, A20, H⟩ := H
 replace H : (some t212) = some r := H
 have A2 := qc.mk A20
 clear A20
 obtain rfl := Option.some.inj H
 go_enter Tryd.func22, Tryd.ntmps22
 go_wp2_with (first | ((with_reducible refine qb0 (N := 1) rfl ?_); refine qby ?hg (N := 1) ?hd (cs := #[.int .i64 a0_0, .int .i64 a0_1, .string a0_2, .slice A0_3 l0_3.length c0_3]) (t := 27) ?hr ?_; (case hd => rfl); (case hg => rfl); (case hr => first | (go_simp; done) | (go_simp; rfl)); intro q7v hg w3 hbox hb; have n0_ := qc.mk (q9 (by repeat (first | (with_reducible first | exact HB.out | apply qg | apply qd | apply qh) | exact HB.out)) hb); have n1_ := qc.mk (hbox); have n2_ := qc.mk ((by rw [hg]; exact (qba (by repeat (first | (with_reducible first | exact HB.out | apply qg | apply qd | apply qh) | exact HB.out))) : w.heap.size ≤ q7v)); have n3_ := qc.mk ((by rw [hg]; exact (qba (by repeat (first | (with_reducible first | exact HB.out | apply qg | apply qd | apply qh) | exact HB.out))) : w.heap.size ≤ q7v)); clear HB; have HB := n0_; have qw5 := n1_; have qbxz := n2_; have qbrc := n3_; clear n0_ n1_ n2_ n3_; clear hb hbox hg; have qbn3 : w3.cell? ⟨q7v, 0, none⟩ = some (.int .i64 a0_0) := (qb qw5.out 0).trans rfl; have qbod : w3.cell? ⟨q7v, 1, none⟩ = some (.int .i64 a0_1) := (qb qw5.out 1).trans rfl; have qboa : w3.cell? ⟨q7v, 2, none⟩ = some (.string a0_2) := (qb qw5.out 2).trans rfl; have qbog : w3.cell? ⟨q7v, 3, none⟩ = some (.slice A0_3 l0_3.length c0_3) := (qb qw5.out 3).trans rfl; have qbof := qa qw5.out 0; have qbn7 := qa qw5.out 1; have qbn1 := qa qw5.out 2; have qbn6 := qa qw5.out 3) | ((with_reducible refine qb5 (f := 47) rfl ?_); refine qcj (some 4) rfl rfl Tryd.func47 (by kernel_rfl) rfl #[.agg #[.int .i64 a0_0, .int .i64 a0_1, .string a0_2, .slice A0_3 l0_3.length c0_3], .int .i64 1] rfl (by (try simp only [List.map_toArray, List.map_cons, List.map_nil]); first | done | rfl | (simp only [List.length_drop, List.length_take]; rfl)) ?_; (with_reducible refine (qo.calls k a0_0 a0_1 a0_2 _ _ l0_3 1 t212 _ ?side1 ?side2 A2.out).mono ?_); (case side1 => repeat (first | exact (Kd.qbw qo8.out HB.out) | (with_reducible refine Kd.qb3 ?_ _) | (with_reducible refine Kd.qb1 ?_ _) | (with_reducible refine Kd.qb7 ?_))); (case side2 => exact qwf.out); rintro e w5 ⟨rfl, hb⟩; refine ⟨_, rfl, ?_⟩; have n0_ := qc.mk (qbb (g := q7v) (o := .cells #[.int .i64 a0_0, .int .i64 a0_1, .string a0_2, .slice A0_3 l0_3.length c0_3] 27 (0, 0)) (by (with_reducible repeat (first | refine qj ?_ _ | refine qm ?_ | refine qi ?_ _)); exact qw5.out) hb); have n1_ := qc.mk (q9 (by repeat (first | (with_reducible first | exact HB.out | apply qg | apply qd | apply qh | refine ql ?_ qbrc.out) | exact HB.out)) hb); clear qw5; clear HB; have qw5 := n0_; have HB := n1_; clear n0_ n1_; (try clear hb); (try clear hb2); (try clear hk); (try clear hi)))
 go_ret
 exact ⟨by first | rfl | (simp [qx, qy] <;> rfl) | (simp [*, qx, qy] <;> rfl), by repeat (first | (with_reducible first | exact HB.out | apply qg | apply qd | apply qh | refine ql ?_ qbrc.out) | exact HB.out)⟩
mutual
def qbf.l0 : Nat → List (S27) → List (S27) → Int → Option (Bool)
  | 0, _, _, _ => none
  | k + 1, x0, x1, x5 => if x5 < (x0.length : Int) then (if 0 ≤ x5 then (if x5 < (x1.length : Int) then ((qbv.f k ((qw x0 x5).f0) ((qw x0 x5).f1) ((qw x0 x5).f2) ((qw x0 x5).f3) ((qw x1 x5).f0) ((qw x1 x5).f1) ((qw x1 x5).f2) ((qw x1 x5).f3)).bind fun t215 => (if t215 = true then (qbf.l0 k x0 x1 (wrap64 (x5 + 1))) else (some false))) else (none)) else (none)) else (some true)
def qbf.f : Nat → List (S27) → List (S27) → Option (Bool)
  | 0, _, _ => none
  | k + 1, l0, l1 => if (l0.length : Int) = (l1.length : Int) then (qbf.l0 k l0 l1 0) else (some false)
def qbv.f : Nat → Int → Int → ByteArray → List (S27) → Int → Int → ByteArray → List (S27) → Option (Bool)
  | 0, _, _, _, _, _, _, _, _ => none
  | k + 1, a0_0, a0_1, a0_2, l0_3, a1_0, a1_1, a1_2, l1_3 => if a0_0 = a1_0 then (if a0_1 = a1_1 then (if a0_2.toList = a1_2.toList then ((qbf.f k l0_3 l1_3).bind fun t218 => (some t218)) else (some false)) else (some false)) else (some false)
end
theorem qcz.qcg : ∀ k, (∀ y0 y1, LeO (qbf.f k y0 y1) (qbf.f (k + 1) y0 y1)) ∧ (∀ y0 y1 y2, LeO (qbf.l0 k y0 y1 y2) (qbf.l0 (k + 1) y0 y1 y2)) ∧ (∀ y0 y1 y2 y3 y4 y5 y6 y7, LeO (qbv.f k y0 y1 y2 y3 y4 y5 y6 y7) (qbv.f (k + 1) y0 y1 y2 y3 y4 y5 y6 y7))
  | 0 => ⟨fun _ _ r h => by simp [qbf.f] at h, fun _ _ _ r h => by simp [qbf.l0] at h, fun _ _ _ _ _ _ _ _ r h => by simp [qbv.f] at h⟩
  | k + 1 => by
    obtain ⟨ih0, ih1, ih2⟩ := qcz.qcg k
    refine ⟨?_, ?_, ?_⟩
    · intro y0 y1
      unfold qbf.f
      repeat' first
      | (with_reducible exact ih0 _ _)
      | (with_reducible exact ih1 _ _ _)
      | (with_reducible exact ih2 _ _ _ _ _ _ _ _)
      | (with_reducible exact LeO.refl _)
      | (with_reducible exact LeO.none _)
      | (with_reducible refine LeO.ite ?_ ?_)
      | (with_reducible refine LeO.bind ?_ (fun _ => ?_))
      | exact ih0 _ _
      | exact ih1 _ _ _
      | exact ih2 _ _ _ _ _ _ _ _
      | exact LeO.none _
      | refine LeO.ite ?_ ?_
      | refine LeO.bind ?_ (fun _ => ?_)
    · intro y0 y1 y2
      unfold qbf.l0
      repeat' first
      | (with_reducible exact ih0 _ _)
      | (with_reducible exact ih1 _ _ _)
      | (with_reducible exact ih2 _ _ _ _ _ _ _ _)
      | (with_reducible exact LeO.refl _)
      | (with_reducible exact LeO.none _)
      | (with_reducible refine LeO.ite ?_ ?_)
      | (with_reducible refine LeO.bind ?_ (fun _ => ?_))
      | exact ih0 _ _
      | exact ih1 _ _ _
      | exact ih2 _ _ _ _ _ _ _ _
      | exact LeO.none _
      | refine LeO.ite ?_ ?_
      | refine LeO.bind ?_ (fun _ => ?_)
    · intro y0 y1 y2 y3 y4 y5 y6 y7
      unfold qbv.f
      repeat' first
      | (with_reducible exact ih0 _ _)
      | (with_reducible exact ih1 _ _ _)
      | (with_reducible exact ih2 _ _ _ _ _ _ _ _)
      | (with_reducible exact LeO.refl _)
      | (with_reducible exact LeO.none _)
      | (with_reducible refine LeO.ite ?_ ?_)
      | (with_reducible refine LeO.bind ?_ (fun _ => ?_))
      | exact ih0 _ _
      | exact ih1 _ _ _
      | exact ih2 _ _ _ _ _ _ _ _
      | exact LeO.none _
      | refine LeO.ite ?_ ?_
      | refine LeO.bind ?_ (fun _ => ?_)
theorem qbf.mono : ∀ a0 a1 k, LeO (qbf.f k a0 a1) (qbf.f (k + 1) a0 a1) := by
  intro a0 a1 k
  obtain ⟨ih0, ih1, ih2⟩ := qcz.qcg k
  exact ih0 a0 a1
theorem qbv.mono : ∀ a0 a1 a2 a3 a4 a5 a6 a7 k, LeO (qbv.f k a0 a1 a2 a3 a4 a5 a6 a7) (qbv.f (k + 1) a0 a1 a2 a3 a4 a5 a6 a7) := by
  intro a0 a1 a2 a3 a4 a5 a6 a7 k
  obtain ⟨ih0, ih1, ih2⟩ := qcz.qcg k
  exact ih2 a0 a1 a2 a3 a4 a5 a6 a7
def qbf.T6 : Bool × List (List Nat × List Nat) := (true, [([], []), ([], []), ([0, 1], [0, 1]), ([2], [2]), ([], []), ([], []), ([4, 5], [4, 5]), ([6], [6]), ([3, 7], [3, 7]), ([8], [8])])
def qbf.B6 : List Nat := [0, 0, 3, 7, 0, 0, 48, 112, 255, 511]
theorem qbf.tab6 : rtab .any (opsOf Tryd.f71 6) = qbf.T6 := by kernel_rfl
theorem qbf.bits6 : qen qbf.T6.2 qbf.B6 = true := by kernel_rfl
set_option maxHeartbeats 8000000 in
set_option maxRecDepth 100000 in
theorem qbf.step (k : Nat) (ih_71 : ∀ m, m < k → ∀ (A0 : Option Addr) (c0 : Nat) (l0 : List (S27)) (A1 : Option Addr) (c1 : Nat) (l1 : List (S27)) (r : Bool) (w : World) (hr0 : Kd.C k27 w A0 l0.length l0) (hc0 : l0.length ≤ c0) (hr1 : Kd.C k27 w A1 l1.length l1) (hc1 : l1.length ≤ c1) (h : qbf.f m l0 l1 = some r),
    Calls Tryd.prog 71 #[.slice A0 l0.length c0, .slice A1 l1.length c1] w fun e w' => e = .returned (.bool r) ∧ Below w.heap.size w w') (ih_48 : ∀ m, m < k → ∀ (a0_0 : Int) (a0_1 : Int) (a0_2 : ByteArray) (A0_3 : Option Addr) (c0_3 : Nat) (l0_3 : List (S27)) (a1_0 : Int) (a1_1 : Int) (a1_2 : ByteArray) (A1_3 : Option Addr) (c1_3 : Nat) (l1_3 : List (S27)) (r : Bool) (w : World) (qh5 : Kd.C k27 w A0_3 l0_3.length l0_3) (qhr : l0_3.length ≤ c0_3) (qban : Kd.C k27 w A1_3 l1_3.length l1_3) (qbd8 : l1_3.length ≤ c1_3) (h : qbv.f m a0_0 a0_1 a0_2 l0_3 a1_0 a1_1 a1_2 l1_3 = some r),
    Calls Tryd.prog 48 #[.agg #[.int .i64 a0_0, .int .i64 a0_1, .string a0_2, .slice A0_3 l0_3.length c0_3], .agg #[.int .i64 a1_0, .int .i64 a1_1, .string a1_2, .slice A1_3 l1_3.length c1_3]] w fun e w' => e = .returned (.bool r) ∧ Below w.heap.size w w') : ∀ (A0 : Option Addr) (c0 : Nat) (l0 : List (S27)) (A1 : Option Addr) (c1 : Nat) (l1 : List (S27)) (r : Bool) (w : World) (hr0 : Kd.C k27 w A0 l0.length l0) (hc0 : l0.length ≤ c0) (hr1 : Kd.C k27 w A1 l1.length l1) (hc1 : l1.length ≤ c1) (h : qbf.f k l0 l1 = some r),
  Calls Tryd.prog 71 #[.slice A0 l0.length c0, .slice A1 l1.length c1] w fun e w' => e = .returned (.bool r) ∧ Below w.heap.size w w' := by
 intro A0 c0 l0 A1 c1 l1 r w hr0 hc0 hr1 hc1 h
 cases k with
 | zero => exact absurd h (by simp [qbf.f])
 | succ k =>
 simp only [qbf.f] at h
 have hu27 := Tryd.underlying27
 have HR0 := qc.mk hr0
 have HC0 := qc.mk hc0
 clear hr0 hc0
 have HR1 := qc.mk hr1
 have HC1 := qc.mk hc1
 clear hr1 hc1
 have HB := qc.mk (Below.refl w.heap.size w)
 have H : (if (l0.length : Int) = (l1.length : Int) then (qbf.l0 k l0 l1 0) else (some false)) = some r := h
 clear h
 by_cases c3 : (l0.length : Int) = (l1.length : Int)
 ·rw [if_pos c3] at H
  have c3b0 : ((l0.length : Int) == (l1.length : Int)) = true := beq_iff_eq.mpr c3
  have c3b1 : ((l0.length : Int) != (l1.length : Int)) = false := bne_eq_false_iff_eq.mpr c3
  have c3b2 : (l0.length == l1.length) = true := by first | simpa using c3 | (simp at c3 ⊢; omega)
  clear c3
  have H' := qc.mk H
  clear H
  go_enter Tryd.func71, Tryd.ntmps71
  go_wp2
  go_loopg [5] k (fun kq v5 w' => ∃ (x5_1 : Int), v5 = .int .i64 x5_1 ∧ qc (qbf.l0 kq l0 l1 x5_1 = some r) ∧ qc (kq ≤ k) ∧ qc (Below w.heap.size w w'))
  case atStart => exact ⟨(0), (by first | rfl | (simp; done) | (simp [*]; done)), H', ⟨Nat.le_refl _⟩, ⟨by repeat (first | (with_reducible first | exact HB.out | apply qg | apply qd | apply qh) | exact HB.out)⟩⟩
  case round =>
   clear H'
   (try clear c1); (try clear p2); (try clear c3); (try clear c3b0); (try clear c3b1); (try clear c3b2)
   obtain ⟨x5_1, rfl, HA, HK1, HB⟩ := hrel
   cases gk with
   | zero => exact absurd HA.out (by simp [qbf.l0])
   | succ k1 =>
    have H := HA.out
    clear HA
    simp only [qbf.l0] at H
    by_cases c4 : x5_1 < (l0.length : Int)
    ·rw [if_pos c4] at H
     have c4b0 : decide (x5_1 < (l0.length : Int)) = true := decide_eq_true c4
     clear c4
     by_cases c5 : 0 ≤ x5_1
     ·rw [if_pos c5] at H
      have c5b0 : decide (0 ≤ x5_1) = true := decide_eq_true c5
      clear c5
      by_cases c6 : x5_1 < (l1.length : Int)
      ·rw [if_pos c6] at H
       have c6b0 : decide (x5_1 < (l1.length : Int)) = true := decide_eq_true c6
       clear c6
       replace H := Option.bind_eq_some_iff.mp H
       obtain ⟨t215, A70, H⟩ := H
       replace H : (if t215 = true then (qbf.l0 k1 l0 l1 (wrap64 (x5_1 + 1))) else (some false)) = some r := H
       have A7 := qc.mk A70
       clear A70
       by_cases c8 : t215 = true
       ·subst c8
        have H1 : (qbf.l0 k1 l0 l1 (wrap64 (x5_1 + 1))) = some r := by rw [if_pos rfl] at H; exact H
        clear H
        have H := H1
        clear H1
        have H' := qc.mk H
        clear H
        try go_wp2
        have n0_ := qc.mk (qh HB.out)
        clear HB
        have HB := n0_
        clear n0_
        have p213 : 0 ≤ (x5_1 : Int) := of_decide_eq_true (by first | (with_reducible assumption) | assumption)
        have q213 : x5_1 < (l0.length : Int) := of_decide_eq_true (by first | (with_reducible assumption) | assumption)
        obtain ⟨qtx, q6x, q6u, e213, qks, qkp, qk7, qkj, qxr, qyd⟩ := qd6 HR0.out x5_1 p213 q213
        have qnf := qkj
        have qmt := qk7
        have qnd := qkp
        have qmv := qks
        cases e213
        replace qks := (HB.out.cell (World.block_lt_of_cell? w _ qks)).trans qks
        replace qkp := (HB.out.cell (World.block_lt_of_cell? w _ qkp)).trans qkp
        replace qk7 := (HB.out.cell (World.block_lt_of_cell? w _ qk7)).trans qk7
        replace qkj := (HB.out.cell (World.block_lt_of_cell? w _ qkj)).trans qkj
        have qyo := qc.mk qyd
        have qbdu := qc.mk qxr
        clear qyd qxr
        replace p213 := eq_true p213
        replace q213 := eq_true q213
        have p214 : 0 ≤ (x5_1 : Int) := of_decide_eq_true (by first | (with_reducible assumption) | assumption)
        have q214 : x5_1 < (l1.length : Int) := of_decide_eq_true (by first | (with_reducible assumption) | assumption)
        obtain ⟨qtt, q6r, q61, e214, qkg, qkq, qk5, qkk, qyi, qyn⟩ := qd6 HR1.out x5_1 p214 q214
        have qm8 := qkk
        have qnh := qk5
        have qmy := qkq
        have qm2 := qkg
        cases e214
        replace qkg := (HB.out.cell (World.block_lt_of_cell? w _ qkg)).trans qkg
        replace qkq := (HB.out.cell (World.block_lt_of_cell? w _ qkq)).trans qkq
        replace qk5 := (HB.out.cell (World.block_lt_of_cell? w _ qk5)).trans qk5
        replace qkk := (HB.out.cell (World.block_lt_of_cell? w _ qkk)).trans qkk
        have qxb := qc.mk qyn
        have qbbz := qc.mk qyi
        clear qyn qyi
        replace p214 := eq_true p214
        replace q214 := eq_true q214
        refine qe9 (n := 10) (S := fun w' => w'.cell? (qtx.add ((x5_1).toNat * 4)) = some (.int .i64 ((qw l0 x5_1).f0)) ∧ w'.cell? ⟨(qtx.add ((x5_1).toNat * 4)).block, (qtx.add ((x5_1).toNat * 4)).off + 1, none⟩ = some (.int .i64 ((qw l0 x5_1).f1)) ∧ w'.cell? ⟨(qtx.add ((x5_1).toNat * 4)).block, (qtx.add ((x5_1).toNat * 4)).off + 2, none⟩ = some (.string ((qw l0 x5_1).f2)) ∧ w'.cell? ⟨(qtx.add ((x5_1).toNat * 4)).block, (qtx.add ((x5_1).toNat * 4)).off + 3, none⟩ = some (.slice q6x ((qw l0 x5_1).f3).length q6u) ∧ w'.cell? (qtt.add ((x5_1).toNat * 4)) = some (.int .i64 ((qw l1 x5_1).f0)) ∧ w'.cell? ⟨(qtt.add ((x5_1).toNat * 4)).block, (qtt.add ((x5_1).toNat * 4)).off + 1, none⟩ = some (.int .i64 ((qw l1 x5_1).f1)) ∧ w'.cell? ⟨(qtt.add ((x5_1).toNat * 4)).block, (qtt.add ((x5_1).toNat * 4)).off + 2, none⟩ = some (.string ((qw l1 x5_1).f2)) ∧ w'.cell? ⟨(qtt.add ((x5_1).toNat * 4)).block, (qtt.add ((x5_1).toNat * 4)).off + 3, none⟩ = some (.slice q6r ((qw l1 x5_1).f3).length q61)) (ds := []) #[false, false, false, false, false, false, false, false, false, false] (by kernel_rfl) rfl rfl ⟨((HB.out.cell (World.block_lt_of_cell? w _ qmv)).trans qmv), ((HB.out.cell (World.block_lt_of_cell? w _ qnd)).trans qnd), ((HB.out.cell (World.block_lt_of_cell? w _ qmt)).trans qmt), ((HB.out.cell (World.block_lt_of_cell? w _ qnf)).trans qnf), ((HB.out.cell (World.block_lt_of_cell? w _ qm2)).trans qm2), ((HB.out.cell (World.block_lt_of_cell? w _ qmy)).trans qmy), ((HB.out.cell (World.block_lt_of_cell? w _ qnh)).trans qnh), ((HB.out.cell (World.block_lt_of_cell? w _ qm8)).trans qm8)⟩ (fun hHeld => ?_); refine qei qbf.tab6 qbf.bits6 (fun HT_ HW_ => ?_)
        generalize wr.drew = w9 at HB qyo qxb qks qkp qk7 qkj qkg qkq qk5 qkk hHeld ⊢
        refine pure_ (i := 0) (N := some 17) (v := ?_) (a' := ?_) #[true, false, false, false, false, false, false, false, false, false] rfl rfl (qcf HT_.out (by kernel_rfl)) (fun _ _ _ h => h) (Or.inl ⟨by rfl, ?_⟩) ?_ ?_
        rotate_left
        ·intro w'
         go_simp
         with_reducible rfl
        rotate_left
        ·simp only [Act.put, List.setIfInBounds_toArray, List.set_cons_zero, List.set_cons_succ, i64_w, i32_w]
         rfl
        refine pure_ (i := 1) (N := some 18) (v := ?_) (a' := ?_) #[true, true, false, false, false, false, false, false, false, false] rfl rfl (qcf HT_.out (by kernel_rfl)) (fun _ _ _ h => h) (Or.inl ⟨by rfl, ?_⟩) ?_ ?_
        rotate_left
        ·intro w'
         go_simp
         with_reducible rfl
        rotate_left
        ·simp only [Act.put, List.setIfInBounds_toArray, List.set_cons_zero, List.set_cons_succ, i64_w, i32_w]
         rfl
        refine pure_ (i := 2) (N := some 19) (v := ?_) (a' := ?_) #[true, true, true, false, false, false, false, false, false, false] rfl rfl (qcf HT_.out (by kernel_rfl)) (fun _ _ _ h => h) (Or.inl ⟨by rfl, ?_⟩) ?_ ?_
        rotate_left
        ·intro w'
         go_simp
         with_reducible rfl
        rotate_left
        ·simp only [Act.put, List.setIfInBounds_toArray, List.set_cons_zero, List.set_cons_succ, i64_w, i32_w]
         rfl
        refine pure_ (i := 4) (N := some 21) (v := ?_) (a' := ?_) #[true, true, true, false, true, false, false, false, false, false] rfl rfl (qcf HT_.out (by kernel_rfl)) (fun _ _ _ h => h) (Or.inl ⟨by rfl, ?_⟩) ?_ ?_
        rotate_left
        ·intro w'
         go_simp
         with_reducible rfl
        rotate_left
        ·simp only [Act.put, List.setIfInBounds_toArray, List.set_cons_zero, List.set_cons_succ, i64_w, i32_w]
         rfl
        refine pure_ (i := 5) (N := some 22) (v := ?_) (a' := ?_) #[true, true, true, false, true, true, false, false, false, false] rfl rfl (qcf HT_.out (by kernel_rfl)) (fun _ _ _ h => h) (Or.inl ⟨by rfl, ?_⟩) ?_ ?_
        rotate_left
        ·intro w'
         go_simp
         with_reducible rfl
        rotate_left
        ·simp only [Act.put, List.setIfInBounds_toArray, List.set_cons_zero, List.set_cons_succ, i64_w, i32_w]
         rfl
        refine pure_ (i := 6) (N := some 23) (v := ?_) (a' := ?_) #[true, true, true, false, true, true, true, false, false, false] rfl rfl (qcf HT_.out (by kernel_rfl)) (fun _ _ _ h => h) (Or.inl ⟨by rfl, ?_⟩) ?_ ?_
        rotate_left
        ·intro w'
         go_simp
         with_reducible rfl
        rotate_left
        ·simp only [Act.put, List.setIfInBounds_toArray, List.set_cons_zero, List.set_cons_succ, i64_w, i32_w]
         rfl
        refine take_ (i := 3) (N := some 20) (v := ?_) (a' := ?_) #[true, true, true, true, true, true, true, false, false, false] rfl rfl (qcn HT_.out HW_.out (by kernel_rfl)) (fun _ _ _ h => h) (Or.inl ⟨by rfl, ?_⟩) hHeld ?_ ?_
        rotate_left
        ·rintro w' ⟨s0, s1, s2, s3, s4, s5, s6, s7⟩
         go_simp
         with_reducible rfl
        rotate_left
        ·simp only [Act.put, List.setIfInBounds_toArray, List.set_cons_zero, List.set_cons_succ, i64_w, i32_w]
         rfl
        refine take_ (i := 7) (N := some 24) (v := ?_) (a' := ?_) #[true, true, true, true, true, true, true, true, false, false] rfl rfl (qcn HT_.out HW_.out (by kernel_rfl)) (fun _ _ _ h => h) (Or.inl ⟨by rfl, ?_⟩) hHeld ?_ ?_
        rotate_left
        ·rintro w' ⟨s0, s1, s2, s3, s4, s5, s6, s7⟩
         go_simp
         with_reducible rfl
        rotate_left
        ·simp only [Act.put, List.setIfInBounds_toArray, List.set_cons_zero, List.set_cons_succ, i64_w, i32_w]
         rfl
        refine one_ (i := 8) (N := some 25) #[true, true, true, true, true, true, true, true, true, false] rfl rfl (qee HT_.out (by kernel_rfl)) (by decide) (fun K hK => ?_)
        refine goes_ Tryd.func48 (by kernel_rfl) rfl #[.agg #[.int .i64 ((qw l0 x5_1).f0), .int .i64 ((qw l0 x5_1).f1), .string ((qw l0 x5_1).f2), .slice q6x ((qw l0 x5_1).f3).length q6u], .agg #[.int .i64 ((qw l1 x5_1).f0), .int .i64 ((qw l1 x5_1).f1), .string ((qw l1 x5_1).f2), .slice q6r ((qw l1 x5_1).f3).length q61]] (by rfl) rfl rfl (by (try simp only [List.map_toArray, List.map_cons, List.map_nil]); first | done | rfl | (simp only [List.length_drop, List.length_take]; rfl)) ?_
        with_reducible refine (ih_48 k1 (by have := HK1.out; omega) ((qw l0 x5_1).f0) ((qw l0 x5_1).f1) ((qw l0 x5_1).f2) _ _ ((qw l0 x5_1).f3) ((qw l1 x5_1).f0) ((qw l1 x5_1).f1) ((qw l1 x5_1).f2) _ _ ((qw l1 x5_1).f3) true _ ?side1 ?side2 ?side3 ?side4 A7.out).mono ?_
        (case side1 => repeat (first | exact (Kd.qbw qyo.out HB.out) | (with_reducible refine Kd.qb3 ?_ _) | (with_reducible refine Kd.qb1 ?_ _) | (with_reducible refine Kd.qb7 ?_)))
        (case side2 => exact qbdu.out)
        (case side3 => repeat (first | exact (Kd.qbw qxb.out HB.out) | (with_reducible refine Kd.qb3 ?_ _) | (with_reducible refine Kd.qb1 ?_ _) | (with_reducible refine Kd.qb7 ?_)))
        (case side4 => exact qbbz.out)
        rintro e w10 ⟨rfl, hb⟩
        refine ⟨_, rfl, ?_⟩
        have n0_ := qc.mk (q9 (by repeat (first | (with_reducible first | exact HB.out | apply qg | apply qd | apply qh) | exact HB.out)) hb)
        clear HB
        have HB := n0_
        clear n0_
        (try clear hb)
        (try clear hb2)
        (try clear hk)
        (try clear hi)
        refine hK.out _ _ ⟨((HB.out.cell (World.block_lt_of_cell? w _ qmv)).trans qmv), ((HB.out.cell (World.block_lt_of_cell? w _ qnd)).trans qnd), ((HB.out.cell (World.block_lt_of_cell? w _ qmt)).trans qmt), ((HB.out.cell (World.block_lt_of_cell? w _ qnf)).trans qnf), ((HB.out.cell (World.block_lt_of_cell? w _ qm2)).trans qm2), ((HB.out.cell (World.block_lt_of_cell? w _ qmy)).trans qmy), ((HB.out.cell (World.block_lt_of_cell? w _ qnh)).trans qnh), ((HB.out.cell (World.block_lt_of_cell? w _ qm8)).trans qm8)⟩ (fun hHeld => ?_)
        clear hK K
        refine norm_ (a' := ?_) ?_ ?_
        rotate_left
        ·show Act.put _ (some 25) _ = _
         simp only [Act.put, List.setIfInBounds_toArray, List.set_cons_zero, List.set_cons_succ, i64_w, i32_w]
         rfl
        refine pure_ (i := 9) (N := some 26) (v := ?_) (a' := ?_) #[true, true, true, true, true, true, true, true, true, true] rfl rfl (qcf HT_.out (by kernel_rfl)) (fun _ _ _ h => h) (Or.inl ⟨by rfl, ?_⟩) ?_ ?_
        rotate_left
        ·intro w'
         go_simp
         with_reducible rfl
        rotate_left
        ·simp only [Act.put, List.setIfInBounds_toArray, List.set_cons_zero, List.set_cons_succ, i64_w, i32_w]
         rfl
        refine done_ (qex HT_.out (by kernel_rfl)) ?_
        try go_wp2
        go_roundg k1
        case measure => have := HK1.out; omega
        case rel => exact ⟨(wrap64 (x5_1 + 1)), (by first | rfl | (simp; done) | (simp [*]; done)), H', ⟨by have := HK1.out; omega⟩, ⟨by repeat (first | (with_reducible first | exact HB.out | apply qg | apply qd | apply qh) | exact HB.out)⟩⟩
       ·replace c8 := Bool.eq_false_iff.mpr c8
        subst c8
        have H1 : (some false) = some r := by rw [if_neg (show ¬ (false = true) by decide)] at H; exact H
        clear H
        have H := H1
        clear H1
        obtain rfl := Option.some.inj H
        try go_wp2
        have n0_ := qc.mk (qh HB.out)
        clear HB
        have HB := n0_
        clear n0_
        have p213 : 0 ≤ (x5_1 : Int) := of_decide_eq_true (by first | (with_reducible assumption) | assumption)
        have q213 : x5_1 < (l0.length : Int) := of_decide_eq_true (by first | (with_reducible assumption) | assumption)
        obtain ⟨qtx, q6x, q6u, e213, qks, qkp, qk7, qkj, qxr, qyd⟩ := qd6 HR0.out x5_1 p213 q213
        have qnf := qkj
        have qmt := qk7
        have qnd := qkp
        have qmv := qks
        cases e213
        replace qks := (HB.out.cell (World.block_lt_of_cell? w _ qks)).trans qks
        replace qkp := (HB.out.cell (World.block_lt_of_cell? w _ qkp)).trans qkp
        replace qk7 := (HB.out.cell (World.block_lt_of_cell? w _ qk7)).trans qk7
        replace qkj := (HB.out.cell (World.block_lt_of_cell? w _ qkj)).trans qkj
        have qyo := qc.mk qyd
        have qbdu := qc.mk qxr
        clear qyd qxr
        replace p213 := eq_true p213
        replace q213 := eq_true q213
        have p214 : 0 ≤ (x5_1 : Int) := of_decide_eq_true (by first | (with_reducible assumption) | assumption)
        have q214 : x5_1 < (l1.length : Int) := of_decide_eq_true (by first | (with_reducible assumption) | assumption)
        obtain ⟨qtt, q6r, q61, e214, qkg, qkq, qk5, qkk, qyi, qyn⟩ := qd6 HR1.out x5_1 p214 q214
        have qm8 := qkk
        have qnh := qk5
        have qmy := qkq
        have qm2 := qkg
        cases e214
        replace qkg := (HB.out.cell (World.block_lt_of_cell? w _ qkg)).trans qkg
        replace qkq := (HB.out.cell (World.block_lt_of_cell? w _ qkq)).trans qkq
        replace qk5 := (HB.out.cell (World.block_lt_of_cell? w _ qk5)).trans qk5
        replace qkk := (HB.out.cell (World.block_lt_of_cell? w _ qkk)).trans qkk
        have qxb := qc.mk qyn
        have qbbz := qc.mk qyi
        clear qyn qyi
        replace p214 := eq_true p214
        replace q214 := eq_true q214
        refine qe9 (n := 10) (S := fun w' => w'.cell? (qtx.add ((x5_1).toNat * 4)) = some (.int .i64 ((qw l0 x5_1).f0)) ∧ w'.cell? ⟨(qtx.add ((x5_1).toNat * 4)).block, (qtx.add ((x5_1).toNat * 4)).off + 1, none⟩ = some (.int .i64 ((qw l0 x5_1).f1)) ∧ w'.cell? ⟨(qtx.add ((x5_1).toNat * 4)).block, (qtx.add ((x5_1).toNat * 4)).off + 2, none⟩ = some (.string ((qw l0 x5_1).f2)) ∧ w'.cell? ⟨(qtx.add ((x5_1).toNat * 4)).block, (qtx.add ((x5_1).toNat * 4)).off + 3, none⟩ = some (.slice q6x ((qw l0 x5_1).f3).length q6u) ∧ w'.cell? (qtt.add ((x5_1).toNat * 4)) = some (.int .i64 ((qw l1 x5_1).f0)) ∧ w'.cell? ⟨(qtt.add ((x5_1).toNat * 4)).block, (qtt.add ((x5_1).toNat * 4)).off + 1, none⟩ = some (.int .i64 ((qw l1 x5_1).f1)) ∧ w'.cell? ⟨(qtt.add ((x5_1).toNat * 4)).block, (qtt.add ((x5_1).toNat * 4)).off + 2, none⟩ = some (.string ((qw l1 x5_1).f2)) ∧ w'.cell? ⟨(qtt.add ((x5_1).toNat * 4)).block, (qtt.add ((x5_1).toNat * 4)).off + 3, none⟩ = some (.slice q6r ((qw l1 x5_1).f3).length q61)) (ds := []) #[false, false, false, false, false, false, false, false, false, false] (by kernel_rfl) rfl rfl ⟨((HB.out.cell (World.block_lt_of_cell? w _ qmv)).trans qmv), ((HB.out.cell (World.block_lt_of_cell? w _ qnd)).trans qnd), ((HB.out.cell (World.block_lt_of_cell? w _ qmt)).trans qmt), ((HB.out.cell (World.block_lt_of_cell? w _ qnf)).trans qnf), ((HB.out.cell (World.block_lt_of_cell? w _ qm2)).trans qm2), ((HB.out.cell (World.block_lt_of_cell? w _ qmy)).trans qmy), ((HB.out.cell (World.block_lt_of_cell? w _ qnh)).trans qnh), ((HB.out.cell (World.block_lt_of_cell? w _ qm8)).trans qm8)⟩ (fun hHeld => ?_); refine qei qbf.tab6 qbf.bits6 (fun HT_ HW_ => ?_)
        generalize wr.drew = w11 at HB qyo qxb qks qkp qk7 qkj qkg qkq qk5 qkk hHeld ⊢
        refine pure_ (i := 0) (N := some 17) (v := ?_) (a' := ?_) #[true, false, false, false, false, false, false, false, false, false] rfl rfl (qcf HT_.out (by kernel_rfl)) (fun _ _ _ h => h) (Or.inl ⟨by rfl, ?_⟩) ?_ ?_
        rotate_left
        ·intro w'
         go_simp
         with_reducible rfl
        rotate_left
        ·simp only [Act.put, List.setIfInBounds_toArray, List.set_cons_zero, List.set_cons_succ, i64_w, i32_w]
         rfl
        refine pure_ (i := 1) (N := some 18) (v := ?_) (a' := ?_) #[true, true, false, false, false, false, false, false, false, false] rfl rfl (qcf HT_.out (by kernel_rfl)) (fun _ _ _ h => h) (Or.inl ⟨by rfl, ?_⟩) ?_ ?_
        rotate_left
        ·intro w'
         go_simp
         with_reducible rfl
        rotate_left
        ·simp only [Act.put, List.setIfInBounds_toArray, List.set_cons_zero, List.set_cons_succ, i64_w, i32_w]
         rfl
        refine pure_ (i := 2) (N := some 19) (v := ?_) (a' := ?_) #[true, true, true, false, false, false, false, false, false, false] rfl rfl (qcf HT_.out (by kernel_rfl)) (fun _ _ _ h => h) (Or.inl ⟨by rfl, ?_⟩) ?_ ?_
        rotate_left
        ·intro w'
         go_simp
         with_reducible rfl
        rotate_left
        ·simp only [Act.put, List.setIfInBounds_toArray, List.set_cons_zero, List.set_cons_succ, i64_w, i32_w]
         rfl
        refine pure_ (i := 4) (N := some 21) (v := ?_) (a' := ?_) #[true, true, true, false, true, false, false, false, false, false] rfl rfl (qcf HT_.out (by kernel_rfl)) (fun _ _ _ h => h) (Or.inl ⟨by rfl, ?_⟩) ?_ ?_
        rotate_left
        ·intro w'
         go_simp
         with_reducible rfl
        rotate_left
        ·simp only [Act.put, List.setIfInBounds_toArray, List.set_cons_zero, List.set_cons_succ, i64_w, i32_w]
         rfl
        refine pure_ (i := 5) (N := some 22) (v := ?_) (a' := ?_) #[true, true, true, false, true, true, false, false, false, false] rfl rfl (qcf HT_.out (by kernel_rfl)) (fun _ _ _ h => h) (Or.inl ⟨by rfl, ?_⟩) ?_ ?_
        rotate_left
        ·intro w'
         go_simp
         with_reducible rfl
        rotate_left
        ·simp only [Act.put, List.setIfInBounds_toArray, List.set_cons_zero, List.set_cons_succ, i64_w, i32_w]
         rfl
        refine pure_ (i := 6) (N := some 23) (v := ?_) (a' := ?_) #[true, true, true, false, true, true, true, false, false, false] rfl rfl (qcf HT_.out (by kernel_rfl)) (fun _ _ _ h => h) (Or.inl ⟨by rfl, ?_⟩) ?_ ?_
        rotate_left
        ·intro w'
         go_simp
         with_reducible rfl
        rotate_left
        ·simp only [Act.put, List.setIfInBounds_toArray, List.set_cons_zero, List.set_cons_succ, i64_w, i32_w]
         rfl
        refine take_ (i := 3) (N := some 20) (v := ?_) (a' := ?_) #[true, true, true, true, true, true, true, false, false, false] rfl rfl (qcn HT_.out HW_.out (by kernel_rfl)) (fun _ _ _ h => h) (Or.inl ⟨by rfl, ?_⟩) hHeld ?_ ?_
        rotate_left
        ·rintro w' ⟨s0, s1, s2, s3, s4, s5, s6, s7⟩
         go_simp
         with_reducible rfl
        rotate_left
        ·simp only [Act.put, List.setIfInBounds_toArray, List.set_cons_zero, List.set_cons_succ, i64_w, i32_w]
         rfl
        refine take_ (i := 7) (N := some 24) (v := ?_) (a' := ?_) #[true, true, true, true, true, true, true, true, false, false] rfl rfl (qcn HT_.out HW_.out (by kernel_rfl)) (fun _ _ _ h => h) (Or.inl ⟨by rfl, ?_⟩) hHeld ?_ ?_
        rotate_left
        ·rintro w' ⟨s0, s1, s2, s3, s4, s5, s6, s7⟩
         go_simp
         with_reducible rfl
        rotate_left
        ·simp only [Act.put, List.setIfInBounds_toArray, List.set_cons_zero, List.set_cons_succ, i64_w, i32_w]
         rfl
        refine one_ (i := 8) (N := some 25) #[true, true, true, true, true, true, true, true, true, false] rfl rfl (qee HT_.out (by kernel_rfl)) (by decide) (fun K hK => ?_)
        refine goes_ Tryd.func48 (by kernel_rfl) rfl #[.agg #[.int .i64 ((qw l0 x5_1).f0), .int .i64 ((qw l0 x5_1).f1), .string ((qw l0 x5_1).f2), .slice q6x ((qw l0 x5_1).f3).length q6u], .agg #[.int .i64 ((qw l1 x5_1).f0), .int .i64 ((qw l1 x5_1).f1), .string ((qw l1 x5_1).f2), .slice q6r ((qw l1 x5_1).f3).length q61]] (by rfl) rfl rfl (by (try simp only [List.map_toArray, List.map_cons, List.map_nil]); first | done | rfl | (simp only [List.length_drop, List.length_take]; rfl)) ?_
        with_reducible refine (ih_48 k1 (by have := HK1.out; omega) ((qw l0 x5_1).f0) ((qw l0 x5_1).f1) ((qw l0 x5_1).f2) _ _ ((qw l0 x5_1).f3) ((qw l1 x5_1).f0) ((qw l1 x5_1).f1) ((qw l1 x5_1).f2) _ _ ((qw l1 x5_1).f3) false _ ?side1 ?side2 ?side3 ?side4 A7.out).mono ?_
        (case side1 => repeat (first | exact (Kd.qbw qyo.out HB.out) | (with_reducible refine Kd.qb3 ?_ _) | (with_reducible refine Kd.qb1 ?_ _) | (with_reducible refine Kd.qb7 ?_)))
        (case side2 => exact qbdu.out)
        (case side3 => repeat (first | exact (Kd.qbw qxb.out HB.out) | (with_reducible refine Kd.qb3 ?_ _) | (with_reducible refine Kd.qb1 ?_ _) | (with_reducible refine Kd.qb7 ?_)))
        (case side4 => exact qbbz.out)
        rintro e w12 ⟨rfl, hb⟩
        refine ⟨_, rfl, ?_⟩
        have n0_ := qc.mk (q9 (by repeat (first | (with_reducible first | exact HB.out | apply qg | apply qd | apply qh) | exact HB.out)) hb)
        clear HB
        have HB := n0_
        clear n0_
        (try clear hb)
        (try clear hb2)
        (try clear hk)
        (try clear hi)
        refine hK.out _ _ ⟨((HB.out.cell (World.block_lt_of_cell? w _ qmv)).trans qmv), ((HB.out.cell (World.block_lt_of_cell? w _ qnd)).trans qnd), ((HB.out.cell (World.block_lt_of_cell? w _ qmt)).trans qmt), ((HB.out.cell (World.block_lt_of_cell? w _ qnf)).trans qnf), ((HB.out.cell (World.block_lt_of_cell? w _ qm2)).trans qm2), ((HB.out.cell (World.block_lt_of_cell? w _ qmy)).trans qmy), ((HB.out.cell (World.block_lt_of_cell? w _ qnh)).trans qnh), ((HB.out.cell (World.block_lt_of_cell? w _ qm8)).trans qm8)⟩ (fun hHeld => ?_)
        clear hK K
        refine norm_ (a' := ?_) ?_ ?_
        rotate_left
        ·show Act.put _ (some 25) _ = _
         simp only [Act.put, List.setIfInBounds_toArray, List.set_cons_zero, List.set_cons_succ, i64_w, i32_w]
         rfl
        refine pure_ (i := 9) (N := some 26) (v := ?_) (a' := ?_) #[true, true, true, true, true, true, true, true, true, true] rfl rfl (qcf HT_.out (by kernel_rfl)) (fun _ _ _ h => h) (Or.inl ⟨by rfl, ?_⟩) ?_ ?_
        rotate_left
        ·intro w'
         go_simp
         with_reducible rfl
        rotate_left
        ·simp only [Act.put, List.setIfInBounds_toArray, List.set_cons_zero, List.set_cons_succ, i64_w, i32_w]
         rfl
        refine done_ (qex HT_.out (by kernel_rfl)) ?_
        try go_wp2
        go_ret
        exact ⟨by first | rfl | (simp [qx, qy] <;> rfl) | (simp [*, qx, qy] <;> rfl), by repeat (first | (with_reducible first | exact HB.out | apply qg | apply qd | apply qh) | exact HB.out)⟩
      ·rw [if_neg c6] at H
       exact absurd H (by simp)
     ·rw [if_neg c5] at H
      exact absurd H (by simp)
    ·rw [if_neg c4] at H
     have c4b0 : decide (x5_1 < (l0.length : Int)) = false := decide_eq_false c4
     clear c4
     obtain rfl := Option.some.inj H
     go_wp2
     go_ret
     exact ⟨by first | rfl | (simp [qx, qy] <;> rfl) | (simp [*, qx, qy] <;> rfl), by repeat (first | (with_reducible first | exact HB.out | apply qg | apply qd | apply qh) | exact HB.out)⟩
 ·rw [if_neg c3] at H
  have c3b0 : ((l0.length : Int) == (l1.length : Int)) = false := beq_eq_false_iff_ne.mpr c3
  have c3b1 : ((l0.length : Int) != (l1.length : Int)) = true := bne_iff_ne.mpr c3
  have c3b2 : (l0.length == l1.length) = false := by first | simpa using c3 | (simp at c3 ⊢; omega)
  obtain rfl := Option.some.inj H
  go_enter Tryd.func71, Tryd.ntmps71
  go_wp2
  go_ret
  exact ⟨by first | rfl | (simp [qx, qy] <;> rfl) | (simp [*, qx, qy] <;> rfl), by repeat (first | (with_reducible first | exact HB.out | apply qg | apply qd | apply qh) | exact HB.out)⟩
set_option maxHeartbeats 8000000 in
set_option maxRecDepth 100000 in
theorem qbv.step (k : Nat) (ih_71 : ∀ m, m < k → ∀ (A0 : Option Addr) (c0 : Nat) (l0 : List (S27)) (A1 : Option Addr) (c1 : Nat) (l1 : List (S27)) (r : Bool) (w : World) (hr0 : Kd.C k27 w A0 l0.length l0) (hc0 : l0.length ≤ c0) (hr1 : Kd.C k27 w A1 l1.length l1) (hc1 : l1.length ≤ c1) (h : qbf.f m l0 l1 = some r),
    Calls Tryd.prog 71 #[.slice A0 l0.length c0, .slice A1 l1.length c1] w fun e w' => e = .returned (.bool r) ∧ Below w.heap.size w w') (ih_48 : ∀ m, m < k → ∀ (a0_0 : Int) (a0_1 : Int) (a0_2 : ByteArray) (A0_3 : Option Addr) (c0_3 : Nat) (l0_3 : List (S27)) (a1_0 : Int) (a1_1 : Int) (a1_2 : ByteArray) (A1_3 : Option Addr) (c1_3 : Nat) (l1_3 : List (S27)) (r : Bool) (w : World) (qh5 : Kd.C k27 w A0_3 l0_3.length l0_3) (qhr : l0_3.length ≤ c0_3) (qban : Kd.C k27 w A1_3 l1_3.length l1_3) (qbd8 : l1_3.length ≤ c1_3) (h : qbv.f m a0_0 a0_1 a0_2 l0_3 a1_0 a1_1 a1_2 l1_3 = some r),
    Calls Tryd.prog 48 #[.agg #[.int .i64 a0_0, .int .i64 a0_1, .string a0_2, .slice A0_3 l0_3.length c0_3], .agg #[.int .i64 a1_0, .int .i64 a1_1, .string a1_2, .slice A1_3 l1_3.length c1_3]] w fun e w' => e = .returned (.bool r) ∧ Below w.heap.size w w') : ∀ (a0_0 : Int) (a0_1 : Int) (a0_2 : ByteArray) (A0_3 : Option Addr) (c0_3 : Nat) (l0_3 : List (S27)) (a1_0 : Int) (a1_1 : Int) (a1_2 : ByteArray) (A1_3 : Option Addr) (c1_3 : Nat) (l1_3 : List (S27)) (r : Bool) (w : World) (qh5 : Kd.C k27 w A0_3 l0_3.length l0_3) (qhr : l0_3.length ≤ c0_3) (qban : Kd.C k27 w A1_3 l1_3.length l1_3) (qbd8 : l1_3.length ≤ c1_3) (h : qbv.f k a0_0 a0_1 a0_2 l0_3 a1_0 a1_1 a1_2 l1_3 = some r),
  Calls Tryd.prog 48 #[.agg #[.int .i64 a0_0, .int .i64 a0_1, .string a0_2, .slice A0_3 l0_3.length c0_3], .agg #[.int .i64 a1_0, .int .i64 a1_1, .string a1_2, .slice A1_3 l1_3.length c1_3]] w fun e w' => e = .returned (.bool r) ∧ Below w.heap.size w w' := by
 intro a0_0 a0_1 a0_2 A0_3 c0_3 l0_3 a1_0 a1_1 a1_2 A1_3 c1_3 l1_3 r w qh5 qhr qban qbd8 h
 cases k with
 | zero => exact absurd h (by simp [qbv.f])
 | succ k =>
 simp only [qbv.f] at h
 have hu27 := Tryd.underlying27
 have qo8 := qc.mk qh5
 have qwf := qc.mk qhr
 clear qh5 qhr
 have qbub := qc.mk qban
 have qbvp := qc.mk qbd8
 clear qban qbd8
 have HB := qc.mk (Below.refl w.heap.size w)
 have H : (if a0_0 = a1_0 then (if a0_1 = a1_1 then (if a0_2.toList = a1_2.toList then ((qbf.f k l0_3 l1_3).bind fun t218 => (some t218)) else (some false)) else (some false)) else (some false)) = some r := h
 clear h
 by_cases c3 : a0_0 = a1_0
 ·rw [if_pos c3] at H
  have c3b0 : (a0_0 == a1_0) = true := beq_iff_eq.mpr c3
  have c3b1 : (a0_0 != a1_0) = false := bne_eq_false_iff_eq.mpr c3
  clear c3
  by_cases c4 : a0_1 = a1_1
  ·rw [if_pos c4] at H
   have c4b0 : (a0_1 == a1_1) = true := beq_iff_eq.mpr c4
   have c4b1 : (a0_1 != a1_1) = false := bne_eq_false_iff_eq.mpr c4
   clear c4
   by_cases c5 : a0_2.toList = a1_2.toList
   ·rw [if_pos c5] at H
    have c5b0 : (a0_2.toList == a1_2.toList) = true := beq_iff_eq.mpr c5
    have c5b1 : (a0_2.toList != a1_2.toList) = false := bne_eq_false_iff_eq.mpr c5
    clear c5
    replace H := Option.bind_eq_some_iff.mp H
    obtain ⟨t218, A60, H⟩ := H
    replace H : (some t218) = some r := H
    have A6 := qc.mk A60
    clear A60
    obtain rfl := Option.some.inj H
    go_enter Tryd.func48, Tryd.ntmps48
    go_wp2_with (first | ((with_reducible refine qb0 (N := 2) rfl ?_); refine qby ?hg (N := 2) ?hd (cs := #[.int .i64 a0_0, .int .i64 a0_1, .string a0_2, .slice A0_3 l0_3.length c0_3]) (t := 27) ?hr ?_; (case hd => rfl); (case hg => rfl); (case hr => first | (go_simp; done) | (go_simp; rfl)); intro qg1 hg w7 hbox hb; have n0_ := qc.mk (q9 (by repeat (first | (with_reducible first | exact HB.out | apply qg | apply qd | apply qh) | exact HB.out)) hb); have n1_ := qc.mk (hbox); have n2_ := qc.mk ((by rw [hg]; exact (qba (by repeat (first | (with_reducible first | exact HB.out | apply qg | apply qd | apply qh) | exact HB.out))) : w.heap.size ≤ qg1)); have n3_ := qc.mk ((by rw [hg]; exact (qba (by repeat (first | (with_reducible first | exact HB.out | apply qg | apply qd | apply qh) | exact HB.out))) : w.heap.size ≤ qg1)); clear HB; have HB := n0_; have qgs := n1_; have qbo8 := n2_; have qmp := n3_; clear n0_ n1_ n2_ n3_; clear hb hbox hg) | ((with_reducible refine qb0 (N := 3) rfl ?_); refine qby ?hg (N := 3) ?hd (cs := #[.int .i64 a1_0, .int .i64 a1_1, .string a1_2, .slice A1_3 l1_3.length c1_3]) (t := 27) ?hr ?_; (case hd => rfl); (case hg => rfl); (case hr => first | (go_simp; done) | (go_simp; rfl)); intro qhn hg w8 hbox hb; have n0_ := qc.mk (qbb (g := qg1) (o := .cells #[.int .i64 a0_0, .int .i64 a0_1, .string a0_2, .slice A0_3 l0_3.length c0_3] 27 (0, 0)) (by (with_reducible repeat (first | refine qj ?_ _ | refine qm ?_ | refine qi ?_ _)); exact qgs.out) hb); have n1_ := qc.mk (q9 (by repeat (first | (with_reducible first | exact HB.out | apply qg | apply qd | apply qh | refine ql ?_ qmp.out) | exact HB.out)) hb); have n2_ := qc.mk (hbox); have n3_ := qc.mk ((by rw [hg]; exact (qba (by repeat (first | (with_reducible first | exact HB.out | apply qg | apply qd | apply qh | refine ql ?_ qmp.out) | exact HB.out))) : w.heap.size ≤ qhn)); have n4_ := qc.mk ((by rw [hg]; exact (qba (by repeat (first | (with_reducible first | exact HB.out | apply qg | apply qd | apply qh | refine ql ?_ qmp.out) | exact HB.out))) : w.heap.size ≤ qhn)); have n5_ := qc.mk ((by rw [hg]; exact Nat.ne_of_lt (qb4 (g := qg1) (o := .cells #[.int .i64 a0_0, .int .i64 a0_1, .string a0_2, .slice A0_3 l0_3.length c0_3] 27 (0, 0)) (by (with_reducible repeat (first | refine qj ?_ _ | refine qm ?_ | refine qi ?_ _)); exact qgs.out)) : qg1 ≠ qhn)); have n6_ := qc.mk ((by rw [hg]; exact Nat.ne_of_gt (qb4 (g := qg1) (o := .cells #[.int .i64 a0_0, .int .i64 a0_1, .string a0_2, .slice A0_3 l0_3.length c0_3] 27 (0, 0)) (by (with_reducible repeat (first | refine qj ?_ _ | refine qm ?_ | refine qi ?_ _)); exact qgs.out)) : qhn ≠ qg1)); clear qgs; clear HB; have qgs := n0_; have HB := n1_; have qhg := n2_; have qbqw := n3_; have q66 := n4_; have qky := n5_; have qk8 := n6_; clear n0_ n1_ n2_ n3_ n4_ n5_ n6_; clear hb hbox hg; have hnb9 := qky.out; have hnc9 := qk8.out; have qqf : w8.cell? ⟨qg1, 0, none⟩ = some (.int .i64 a0_0) := (qb qgs.out 0).trans rfl; have qpy : w8.cell? ⟨qg1, 1, none⟩ = some (.int .i64 a0_1) := (qb qgs.out 1).trans rfl; have qs1 : w8.cell? ⟨qg1, 2, none⟩ = some (.string a0_2) := (qb qgs.out 2).trans rfl; have qp8 : w8.cell? ⟨qg1, 3, none⟩ = some (.slice A0_3 l0_3.length c0_3) := (qb qgs.out 3).trans rfl; have qlu := qa qgs.out 0; have qmg := qa qgs.out 1; have ql6 := qa qgs.out 2; have ql5 := qa qgs.out 3; have qit : w8.cell? ⟨qhn, 0, none⟩ = some (.int .i64 a1_0) := (qb qhg.out 0).trans rfl; have qig : w8.cell? ⟨qhn, 1, none⟩ = some (.int .i64 a1_1) := (qb qhg.out 1).trans rfl; have qij : w8.cell? ⟨qhn, 2, none⟩ = some (.string a1_2) := (qb qhg.out 2).trans rfl; have qih : w8.cell? ⟨qhn, 3, none⟩ = some (.slice A1_3 l1_3.length c1_3) := (qb qhg.out 3).trans rfl; have qif := qa qhg.out 0; have qin := qa qhg.out 1; have qik := qa qhg.out 2; have qio := qa qhg.out 3) | ((with_reducible refine qb5 (f := 71) rfl ?_); refine qcj (some 28) rfl rfl Tryd.func71 (by kernel_rfl) rfl #[.slice A0_3 l0_3.length c0_3, .slice A1_3 l1_3.length c1_3] rfl (by (try simp only [List.map_toArray, List.map_cons, List.map_nil]); first | done | rfl | (simp only [List.length_drop, List.length_take]; rfl)) ?_; (with_reducible refine (ih_71 k (by omega) _ _ l0_3 _ _ l1_3 t218 _ ?side1 ?side2 ?side3 ?side4 A6.out).mono ?_); (case side1 => repeat (first | exact (Kd.qbw qo8.out HB.out) | (with_reducible refine Kd.qb3 ?_ _) | (with_reducible refine Kd.qb1 ?_ _) | (with_reducible refine Kd.qb7 ?_))); (case side2 => exact qwf.out); (case side3 => repeat (first | exact (Kd.qbw qbub.out HB.out) | (with_reducible refine Kd.qb3 ?_ _) | (with_reducible refine Kd.qb1 ?_ _) | (with_reducible refine Kd.qb7 ?_))); (case side4 => exact qbvp.out); rintro e w12 ⟨rfl, hb⟩; refine ⟨_, rfl, ?_⟩; have n0_ := qc.mk (qbb (g := qg1) (o := .cells #[.int .i64 a0_0, .int .i64 a0_1, .string a0_2, .slice A0_3 l0_3.length c0_3] 27 (0, 0)) (by (with_reducible repeat (first | refine qj ?_ _ | refine qm ?_ | refine qi ?_ _)); exact qgs.out) hb); have n1_ := qc.mk (qbb (g := qhn) (o := .cells #[.int .i64 a1_0, .int .i64 a1_1, .string a1_2, .slice A1_3 l1_3.length c1_3] 27 (0, 0)) (by (with_reducible repeat (first | refine qj ?_ _ | refine qm ?_ | refine qi ?_ _)); exact qhg.out) hb); have n2_ := qc.mk (q9 (by repeat (first | (with_reducible first | exact HB.out | apply qg | apply qd | apply qh | refine ql ?_ qmp.out | refine ql ?_ q66.out) | exact HB.out)) hb); clear qgs; clear qhg; clear HB; have qgs := n0_; have qhg := n1_; have HB := n2_; clear n0_ n1_ n2_; (try clear hb); (try clear hb2); (try clear hk); (try clear hi)))
    go_ret
    exact ⟨by first | rfl | (simp [qx, qy] <;> rfl) | (simp [*, qx, qy] <;> rfl), by repeat (first | (with_reducible first | exact HB.out | apply qg | apply qd | apply qh | refine ql ?_ qmp.out | refine ql ?_ q66.out) | exact HB.out)⟩
   ·rw [if_neg c5] at H
    have c5b0 : (a0_2.toList == a1_2.toList) = false := beq_eq_false_iff_ne.mpr c5
    have c5b1 : (a0_2.toList != a1_2.toList) = true := bne_iff_ne.mpr c5
    obtain rfl := Option.some.inj H
    go_enter Tryd.func48, Tryd.ntmps48
    go_wp2_with (first | ((with_reducible refine qb0 (N := 2) rfl ?_); refine qby ?hg (N := 2) ?hd (cs := #[.int .i64 a0_0, .int .i64 a0_1, .string a0_2, .slice A0_3 l0_3.length c0_3]) (t := 27) ?hr ?_; (case hd => rfl); (case hg => rfl); (case hr => first | (go_simp; done) | (go_simp; rfl)); intro qg1 hg w13 hbox hb; have n0_ := qc.mk (q9 (by repeat (first | (with_reducible first | exact HB.out | apply qg | apply qd | apply qh) | exact HB.out)) hb); have n1_ := qc.mk (hbox); have n2_ := qc.mk ((by rw [hg]; exact (qba (by repeat (first | (with_reducible first | exact HB.out | apply qg | apply qd | apply qh) | exact HB.out))) : w.heap.size ≤ qg1)); have n3_ := qc.mk ((by rw [hg]; exact (qba (by repeat (first | (with_reducible first | exact HB.out | apply qg | apply qd | apply qh) | exact HB.out))) : w.heap.size ≤ qg1)); clear HB; have HB := n0_; have qgs := n1_; have qbo8 := n2_; have qmp := n3_; clear n0_ n1_ n2_ n3_; clear hb hbox hg) | ((with_reducible refine qb0 (N := 3) rfl ?_); refine qby ?hg (N := 3) ?hd (cs := #[.int .i64 a1_0, .int .i64 a1_1, .string a1_2, .slice A1_3 l1_3.length c1_3]) (t := 27) ?hr ?_; (case hd => rfl); (case hg => rfl); (case hr => first | (go_simp; done) | (go_simp; rfl)); intro qhn hg w14 hbox hb; have n0_ := qc.mk (qbb (g := qg1) (o := .cells #[.int .i64 a0_0, .int .i64 a0_1, .string a0_2, .slice A0_3 l0_3.length c0_3] 27 (0, 0)) (by (with_reducible repeat (first | refine qj ?_ _ | refine qm ?_ | refine qi ?_ _)); exact qgs.out) hb); have n1_ := qc.mk (q9 (by repeat (first | (with_reducible first | exact HB.out | apply qg | apply qd | apply qh | refine ql ?_ qmp.out) | exact HB.out)) hb); have n2_ := qc.mk (hbox); have n3_ := qc.mk ((by rw [hg]; exact (qba (by repeat (first | (with_reducible first | exact HB.out | apply qg | apply qd | apply qh | refine ql ?_ qmp.out) | exact HB.out))) : w.heap.size ≤ qhn)); have n4_ := qc.mk ((by rw [hg]; exact (qba (by repeat (first | (with_reducible first | exact HB.out | apply qg | apply qd | apply qh | refine ql ?_ qmp.out) | exact HB.out))) : w.heap.size ≤ qhn)); have n5_ := qc.mk ((by rw [hg]; exact Nat.ne_of_lt (qb4 (g := qg1) (o := .cells #[.int .i64 a0_0, .int .i64 a0_1, .string a0_2, .slice A0_3 l0_3.length c0_3] 27 (0, 0)) (by (with_reducible repeat (first | refine qj ?_ _ | refine qm ?_ | refine qi ?_ _)); exact qgs.out)) : qg1 ≠ qhn)); have n6_ := qc.mk ((by rw [hg]; exact Nat.ne_of_gt (qb4 (g := qg1) (o := .cells #[.int .i64 a0_0, .int .i64 a0_1, .string a0_2, .slice A0_3 l0_3.length c0_3] 27 (0, 0)) (by (with_reducible repeat (first | refine qj ?_ _ | refine qm ?_ | refine qi ?_ _)); exact qgs.out)) : qhn ≠ qg1)); clear qgs; clear HB; have qgs := n0_; have HB := n1_; have qhg := n2_; have qbqw := n3_; have q66 := n4_; have qky := n5_; have qk8 := n6_; clear n0_ n1_ n2_ n3_ n4_ n5_ n6_; clear hb hbox hg; have qbyt := qky.out; have qbyr := qk8.out; have qjb : w14.cell? ⟨qg1, 0, none⟩ = some (.int .i64 a0_0) := (qb qgs.out 0).trans rfl; have qjd : w14.cell? ⟨qg1, 1, none⟩ = some (.int .i64 a0_1) := (qb qgs.out 1).trans rfl; have qjg : w14.cell? ⟨qg1, 2, none⟩ = some (.string a0_2) := (qb qgs.out 2).trans rfl; have qi7 : w14.cell? ⟨qg1, 3, none⟩ = some (.slice A0_3 l0_3.length c0_3) := (qb qgs.out 3).trans rfl; have qhb := qa qgs.out 0; have qg8 := qa qgs.out 1; have qhe := qa qgs.out 2; have qhc := qa qgs.out 3; have q4m : w14.cell? ⟨qhn, 0, none⟩ = some (.int .i64 a1_0) := (qb qhg.out 0).trans rfl; have q1k : w14.cell? ⟨qhn, 1, none⟩ = some (.int .i64 a1_1) := (qb qhg.out 1).trans rfl; have qz5 : w14.cell? ⟨qhn, 2, none⟩ = some (.string a1_2) := (qb qhg.out 2).trans rfl; have q44 : w14.cell? ⟨qhn, 3, none⟩ = some (.slice A1_3 l1_3.length c1_3) := (qb qhg.out 3).trans rfl; have q5a := qa qhg.out 0; have q1c := qa qhg.out 1; have qzq := qa qhg.out 2; have q14 := qa qhg.out 3))
    go_ret
    exact ⟨by first | rfl | (simp [qx, qy] <;> rfl) | (simp [*, qx, qy] <;> rfl), by repeat (first | (with_reducible first | exact HB.out | apply qg | apply qd | apply qh | refine ql ?_ qmp.out | refine ql ?_ q66.out) | exact HB.out)⟩
  ·rw [if_neg c4] at H
   have c4b0 : (a0_1 == a1_1) = false := beq_eq_false_iff_ne.mpr c4
   have c4b1 : (a0_1 != a1_1) = true := bne_iff_ne.mpr c4
   obtain rfl := Option.some.inj H
   go_enter Tryd.func48, Tryd.ntmps48
   go_wp2_with (first | ((with_reducible refine qb0 (N := 2) rfl ?_); refine qby ?hg (N := 2) ?hd (cs := #[.int .i64 a0_0, .int .i64 a0_1, .string a0_2, .slice A0_3 l0_3.length c0_3]) (t := 27) ?hr ?_; (case hd => rfl); (case hg => rfl); (case hr => first | (go_simp; done) | (go_simp; rfl)); intro qg1 hg w18 hbox hb; have n0_ := qc.mk (q9 (by repeat (first | (with_reducible first | exact HB.out | apply qg | apply qd | apply qh) | exact HB.out)) hb); have n1_ := qc.mk (hbox); have n2_ := qc.mk ((by rw [hg]; exact (qba (by repeat (first | (with_reducible first | exact HB.out | apply qg | apply qd | apply qh) | exact HB.out))) : w.heap.size ≤ qg1)); have n3_ := qc.mk ((by rw [hg]; exact (qba (by repeat (first | (with_reducible first | exact HB.out | apply qg | apply qd | apply qh) | exact HB.out))) : w.heap.size ≤ qg1)); clear HB; have HB := n0_; have qgs := n1_; have qbo8 := n2_; have qmp := n3_; clear n0_ n1_ n2_ n3_; clear hb hbox hg) | ((with_reducible refine qb0 (N := 3) rfl ?_); refine qby ?hg (N := 3) ?hd (cs := #[.int .i64 a1_0, .int .i64 a1_1, .string a1_2, .slice A1_3 l1_3.length c1_3]) (t := 27) ?hr ?_; (case hd => rfl); (case hg => rfl); (case hr => first | (go_simp; done) | (go_simp; rfl)); intro qhn hg w19 hbox hb; have n0_ := qc.mk (qbb (g := qg1) (o := .cells #[.int .i64 a0_0, .int .i64 a0_1, .string a0_2, .slice A0_3 l0_3.length c0_3] 27 (0, 0)) (by (with_reducible repeat (first | refine qj ?_ _ | refine qm ?_ | refine qi ?_ _)); exact qgs.out) hb); have n1_ := qc.mk (q9 (by repeat (first | (with_reducible first | exact HB.out | apply qg | apply qd | apply qh | refine ql ?_ qmp.out) | exact HB.out)) hb); have n2_ := qc.mk (hbox); have n3_ := qc.mk ((by rw [hg]; exact (qba (by repeat (first | (with_reducible first | exact HB.out | apply qg | apply qd | apply qh | refine ql ?_ qmp.out) | exact HB.out))) : w.heap.size ≤ qhn)); have n4_ := qc.mk ((by rw [hg]; exact (qba (by repeat (first | (with_reducible first | exact HB.out | apply qg | apply qd | apply qh | refine ql ?_ qmp.out) | exact HB.out))) : w.heap.size ≤ qhn)); have n5_ := qc.mk ((by rw [hg]; exact Nat.ne_of_lt (qb4 (g := qg1) (o := .cells #[.int .i64 a0_0, .int .i64 a0_1, .string a0_2, .slice A0_3 l0_3.length c0_3] 27 (0, 0)) (by (with_reducible repeat (first | refine qj ?_ _ | refine qm ?_ | refine qi ?_ _)); exact qgs.out)) : qg1 ≠ qhn)); have n6_ := qc.mk ((by rw [hg]; exact Nat.ne_of_gt (qb4 (g := qg1) (o := .cells #[.int .i64 a0_0, .int .i64 a0_1, .string a0_2, .slice A0_3 l0_3.length c0_3] 27 (0, 0)) (by (with_reducible repeat (first | refine qj ?_ _ | refine qm ?_ | refine qi ?_ _)); exact qgs.out)) : qhn ≠ qg1)); clear qgs; clear HB; have qgs := n0_; have HB := n1_; have qhg := n2_; have qbqw := n3_; have q66 := n4_; have qky := n5_; have qk8 := n6_; clear n0_ n1_ n2_ n3_ n4_ n5_ n6_; clear hb hbox hg; have qbqo := qky.out; have qbqa := qk8.out; have qlz : w19.cell? ⟨qg1, 0, none⟩ = some (.int .i64 a0_0) := (qb qgs.out 0).trans rfl; have qma : w19.cell? ⟨qg1, 1, none⟩ = some (.int .i64 a0_1) := (qb qgs.out 1).trans rfl; have ql3 : w19.cell? ⟨qg1, 2, none⟩ = some (.string a0_2) := (qb qgs.out 2).trans rfl; have qlv : w19.cell? ⟨qg1, 3, none⟩ = some (.slice A0_3 l0_3.length c0_3) := (qb qgs.out 3).trans rfl; have qlp := qa qgs.out 0; have ql0 := qa qgs.out 1; have qme := qa qgs.out 2; have qmo := qa qgs.out 3; have qnw : w19.cell? ⟨qhn, 0, none⟩ = some (.int .i64 a1_0) := (qb qhg.out 0).trans rfl; have qon : w19.cell? ⟨qhn, 1, none⟩ = some (.int .i64 a1_1) := (qb qhg.out 1).trans rfl; have qog : w19.cell? ⟨qhn, 2, none⟩ = some (.string a1_2) := (qb qhg.out 2).trans rfl; have qn8 : w19.cell? ⟨qhn, 3, none⟩ = some (.slice A1_3 l1_3.length c1_3) := (qb qhg.out 3).trans rfl; have qof := qa qhg.out 0; have qny := qa qhg.out 1; have qok := qa qhg.out 2; have qn1 := qa qhg.out 3))
   go_ret
   exact ⟨by first | rfl | (simp [qx, qy] <;> rfl) | (simp [*, qx, qy] <;> rfl), by repeat (first | (with_reducible first | exact HB.out | apply qg | apply qd | apply qh | refine ql ?_ qmp.out | refine ql ?_ q66.out) | exact HB.out)⟩
 ·rw [if_neg c3] at H
  have c3b0 : (a0_0 == a1_0) = false := beq_eq_false_iff_ne.mpr c3
  have c3b1 : (a0_0 != a1_0) = true := bne_iff_ne.mpr c3
  obtain rfl := Option.some.inj H
  go_enter Tryd.func48, Tryd.ntmps48
  go_wp2_with (first | ((with_reducible refine qb0 (N := 2) rfl ?_); refine qby ?hg (N := 2) ?hd (cs := #[.int .i64 a0_0, .int .i64 a0_1, .string a0_2, .slice A0_3 l0_3.length c0_3]) (t := 27) ?hr ?_; (case hd => rfl); (case hg => rfl); (case hr => first | (go_simp; done) | (go_simp; rfl)); intro qg1 hg w23 hbox hb; have n0_ := qc.mk (q9 (by repeat (first | (with_reducible first | exact HB.out | apply qg | apply qd | apply qh) | exact HB.out)) hb); have n1_ := qc.mk (hbox); have n2_ := qc.mk ((by rw [hg]; exact (qba (by repeat (first | (with_reducible first | exact HB.out | apply qg | apply qd | apply qh) | exact HB.out))) : w.heap.size ≤ qg1)); have n3_ := qc.mk ((by rw [hg]; exact (qba (by repeat (first | (with_reducible first | exact HB.out | apply qg | apply qd | apply qh) | exact HB.out))) : w.heap.size ≤ qg1)); clear HB; have HB := n0_; have qgs := n1_; have qbo8 := n2_; have qmp := n3_; clear n0_ n1_ n2_ n3_; clear hb hbox hg) | ((with_reducible refine qb0 (N := 3) rfl ?_); refine qby ?hg (N := 3) ?hd (cs := #[.int .i64 a1_0, .int .i64 a1_1, .string a1_2, .slice A1_3 l1_3.length c1_3]) (t := 27) ?hr ?_; (case hd => rfl); (case hg => rfl); (case hr => first | (go_simp; done) | (go_simp; rfl)); intro qhn hg w24 hbox hb; have n0_ := qc.mk (qbb (g := qg1) (o := .cells #[.int .i64 a0_0, .int .i64 a0_1, .string a0_2, .slice A0_3 l0_3.length c0_3] 27 (0, 0)) (by (with_reducible repeat (first | refine qj ?_ _ | refine qm ?_ | refine qi ?_ _)); exact qgs.out) hb); have n1_ := qc.mk (q9 (by repeat (first | (with_reducible first | exact HB.out | apply qg | apply qd | apply qh | refine ql ?_ qmp.out) | exact HB.out)) hb); have n2_ := qc.mk (hbox); have n3_ := qc.mk ((by rw [hg]; exact (qba (by repeat (first | (with_reducible first | exact HB.out | apply qg | apply qd | apply qh | refine ql ?_ qmp.out) | exact HB.out))) : w.heap.size ≤ qhn)); have n4_ := qc.mk ((by rw [hg]; exact (qba (by repeat (first | (with_reducible first | exact HB.out | apply qg | apply qd | apply qh | refine ql ?_ qmp.out) | exact HB.out))) : w.heap.size ≤ qhn)); have n5_ := qc.mk ((by rw [hg]; exact Nat.ne_of_lt (qb4 (g := qg1) (o := .cells #[.int .i64 a0_0, .int .i64 a0_1, .string a0_2, .slice A0_3 l0_3.length c0_3] 27 (0, 0)) (by (with_reducible repeat (first | refine qj ?_ _ | refine qm ?_ | refine qi ?_ _)); exact qgs.out)) : qg1 ≠ qhn)); have n6_ := qc.mk ((by rw [hg]; exact Nat.ne_of_gt (qb4 (g := qg1) (o := .cells #[.int .i64 a0_0, .int .i64 a0_1, .string a0_2, .slice A0_3 l0_3.length c0_3] 27 (0, 0)) (by (with_reducible repeat (first | refine qj ?_ _ | refine qm ?_ | refine qi ?_ _)); exact qgs.out)) : qhn ≠ qg1)); clear qgs; clear HB; have qgs := n0_; have HB := n1_; have qhg := n2_; have qbqw := n3_; have q66 := n4_; have qky := n5_; have qk8 := n6_; clear n0_ n1_ n2_ n3_ n4_ n5_ n6_; clear hb hbox hg; have qbwz := qky.out; have qbu9 := qk8.out; have qu9 : w24.cell? ⟨qg1, 0, none⟩ = some (.int .i64 a0_0) := (qb qgs.out 0).trans rfl; have quj : w24.cell? ⟨qg1, 1, none⟩ = some (.int .i64 a0_1) := (qb qgs.out 1).trans rfl; have qv0 : w24.cell? ⟨qg1, 2, none⟩ = some (.string a0_2) := (qb qgs.out 2).trans rfl; have qt3 : w24.cell? ⟨qg1, 3, none⟩ = some (.slice A0_3 l0_3.length c0_3) := (qb qgs.out 3).trans rfl; have qt7 := qa qgs.out 0; have qum := qa qgs.out 1; have qvb := qa qgs.out 2; have qt6 := qa qgs.out 3; have qoe : w24.cell? ⟨qhn, 0, none⟩ = some (.int .i64 a1_0) := (qb qhg.out 0).trans rfl; have qob : w24.cell? ⟨qhn, 1, none⟩ = some (.int .i64 a1_1) := (qb qhg.out 1).trans rfl; have qoi : w24.cell? ⟨qhn, 2, none⟩ = some (.string a1_2) := (qb qhg.out 2).trans rfl; have qnv : w24.cell? ⟨qhn, 3, none⟩ = some (.slice A1_3 l1_3.length c1_3) := (qb qhg.out 3).trans rfl; have qo6 := qa qhg.out 0; have qoy := qa qhg.out 1; have qn2 := qa qhg.out 2; have qn3 := qa qhg.out 3))
  go_ret
  exact ⟨by first | rfl | (simp [qx, qy] <;> rfl) | (simp [*, qx, qy] <;> rfl), by repeat (first | (with_reducible first | exact HB.out | apply qg | apply qd | apply qh | refine ql ?_ qmp.out | refine ql ?_ q66.out) | exact HB.out)⟩
theorem qcz.all (k : Nat) : (∀ (A0 : Option Addr) (c0 : Nat) (l0 : List (S27)) (A1 : Option Addr) (c1 : Nat) (l1 : List (S27)) (r : Bool) (w : World) (hr0 : Kd.C k27 w A0 l0.length l0) (hc0 : l0.length ≤ c0) (hr1 : Kd.C k27 w A1 l1.length l1) (hc1 : l1.length ≤ c1) (h : qbf.f k l0 l1 = some r),
    Calls Tryd.prog 71 #[.slice A0 l0.length c0, .slice A1 l1.length c1] w fun e w' => e = .returned (.bool r) ∧ Below w.heap.size w w') ∧ (∀ (a0_0 : Int) (a0_1 : Int) (a0_2 : ByteArray) (A0_3 : Option Addr) (c0_3 : Nat) (l0_3 : List (S27)) (a1_0 : Int) (a1_1 : Int) (a1_2 : ByteArray) (A1_3 : Option Addr) (c1_3 : Nat) (l1_3 : List (S27)) (r : Bool) (w : World) (qh5 : Kd.C k27 w A0_3 l0_3.length l0_3) (qhr : l0_3.length ≤ c0_3) (qban : Kd.C k27 w A1_3 l1_3.length l1_3) (qbd8 : l1_3.length ≤ c1_3) (h : qbv.f k a0_0 a0_1 a0_2 l0_3 a1_0 a1_1 a1_2 l1_3 = some r),
    Calls Tryd.prog 48 #[.agg #[.int .i64 a0_0, .int .i64 a0_1, .string a0_2, .slice A0_3 l0_3.length c0_3], .agg #[.int .i64 a1_0, .int .i64 a1_1, .string a1_2, .slice A1_3 l1_3.length c1_3]] w fun e w' => e = .returned (.bool r) ∧ Below w.heap.size w w') := by
  induction k using Nat.strongRecOn with
  | _ k ih =>
  exact ⟨qbf.step k (fun m hm => (ih m hm).1) (fun m hm => (ih m hm).2), qbv.step k (fun m hm => (ih m hm).1) (fun m hm => (ih m hm).2)⟩
theorem qbv.calls (k : Nat) : ∀ (a0_0 : Int) (a0_1 : Int) (a0_2 : ByteArray) (A0_3 : Option Addr) (c0_3 : Nat) (l0_3 : List (S27)) (a1_0 : Int) (a1_1 : Int) (a1_2 : ByteArray) (A1_3 : Option Addr) (c1_3 : Nat) (l1_3 : List (S27)) (r : Bool) (w : World) (qh5 : Kd.C k27 w A0_3 l0_3.length l0_3) (qhr : l0_3.length ≤ c0_3) (qban : Kd.C k27 w A1_3 l1_3.length l1_3) (qbd8 : l1_3.length ≤ c1_3) (h : qbv.f k a0_0 a0_1 a0_2 l0_3 a1_0 a1_1 a1_2 l1_3 = some r),
    Calls Tryd.prog 48 #[.agg #[.int .i64 a0_0, .int .i64 a0_1, .string a0_2, .slice A0_3 l0_3.length c0_3], .agg #[.int .i64 a1_0, .int .i64 a1_1, .string a1_2, .slice A1_3 l1_3.length c1_3]] w fun e w' => e = .returned (.bool r) ∧ Below w.heap.size w w' := (qcz.all k).2
def qbm.f (k : Nat) (a0_0 : Int) (a0_1 : Int) (a0_2 : ByteArray) (l0_3 : List (S27)) : Option (Bool) := (qbv.f k a0_0 a0_1 a0_2 l0_3 0 0 (⟨#[]⟩ : ByteArray) ([] : List (S27))).bind fun t220 => (some t220)
theorem qbm.mono : ∀ a0 a1 a2 a3 k, LeO (qbm.f k a0 a1 a2 a3) (qbm.f (k + 1) a0 a1 a2 a3) := by
 intro a0 a1 a2 a3 k
 unfold qbm.f
 repeat' first
   | (with_reducible exact qbv.mono _ _ _ _ _ _ _ _ _)
   | (with_reducible exact LeO.refl _)
   | (with_reducible exact LeO.none _)
   | (with_reducible refine LeO.ite ?_ ?_)
   | (with_reducible refine LeO.bind ?_ (fun _ => ?_))
   | exact qbv.mono _ _ _ _ _ _ _ _ _
   | exact LeO.none _
   | refine LeO.ite ?_ ?_
   | refine LeO.bind ?_ (fun _ => ?_)
set_option maxHeartbeats 8000000 in
set_option maxRecDepth 100000 in
theorem qbm.calls (k : Nat) (a0_0 : Int) (a0_1 : Int) (a0_2 : ByteArray) (A0_3 : Option Addr) (c0_3 : Nat) (l0_3 : List (S27)) (r : Bool) (w : World) (qh5 : Kd.C k27 w A0_3 l0_3.length l0_3) (qhr : l0_3.length ≤ c0_3) (h : qbm.f k a0_0 a0_1 a0_2 l0_3 = some r) :
  Calls Tryd.prog 23 #[.agg #[.int .i64 a0_0, .int .i64 a0_1, .string a0_2, .slice A0_3 l0_3.length c0_3]] w fun e w' => e = .returned (.bool r) ∧ Below w.heap.size w w' := by
 have hu27 := Tryd.underlying27
 have qo8 := qc.mk qh5
 have qwf := qc.mk qhr
 clear qh5 qhr
 have HB := qc.mk (Below.refl w.heap.size w)
 have H : ((qbv.f k a0_0 a0_1 a0_2 l0_3 0 0 (⟨#[]⟩ : ByteArray) ([] : List (S27))).bind fun t220 => (some t220)) = some r := h
 clear h
 replace H := Option.bind_eq_some_iff.mp H
 obtain ⟨t220, A20, H⟩ := H
 replace H : (some t220) = some r := H
 have A2 := qc.mk A20
 clear A20
 obtain rfl := Option.some.inj H
 go_enter Tryd.func23, Tryd.ntmps23
 go_wp2_with (first | ((with_reducible refine qb0 (N := 1) rfl ?_); refine qby ?hg (N := 1) ?hd (cs := #[.int .i64 a0_0, .int .i64 a0_1, .string a0_2, .slice A0_3 l0_3.length c0_3]) (t := 27) ?hr ?_; (case hd => rfl); (case hg => rfl); (case hr => first | (go_simp; done) | (go_simp; rfl)); intro q9t hg w3 hbox hb; have n0_ := qc.mk (q9 (by repeat (first | (with_reducible first | exact HB.out | apply qg | apply qd | apply qh) | exact HB.out)) hb); have n1_ := qc.mk (hbox); have n2_ := qc.mk ((by rw [hg]; exact (qba (by repeat (first | (with_reducible first | exact HB.out | apply qg | apply qd | apply qh) | exact HB.out))) : w.heap.size ≤ q9t)); have n3_ := qc.mk ((by rw [hg]; exact (qba (by repeat (first | (with_reducible first | exact HB.out | apply qg | apply qd | apply qh) | exact HB.out))) : w.heap.size ≤ q9t)); clear HB; have HB := n0_; have qym := n1_; have qbx7 := n2_; have qbsh := n3_; clear n0_ n1_ n2_ n3_; clear hb hbox hg; have qbn3 : w3.cell? ⟨q9t, 0, none⟩ = some (.int .i64 a0_0) := (qb qym.out 0).trans rfl; have qbod : w3.cell? ⟨q9t, 1, none⟩ = some (.int .i64 a0_1) := (qb qym.out 1).trans rfl; have qboa : w3.cell? ⟨q9t, 2, none⟩ = some (.string a0_2) := (qb qym.out 2).trans rfl; have qbog : w3.cell? ⟨q9t, 3, none⟩ = some (.slice A0_3 l0_3.length c0_3) := (qb qym.out 3).trans rfl; have qbof := qa qym.out 0; have qbn7 := qa qym.out 1; have qbn1 := qa qym.out 2; have qbn6 := qa qym.out 3) | ((with_reducible refine qb5 (f := 48) rfl ?_); refine qcj (some 5) rfl rfl Tryd.func48 (by kernel_rfl) rfl #[.agg #[.int .i64 a0_0, .int .i64 a0_1, .string a0_2, .slice A0_3 l0_3.length c0_3], .agg #[.int .i64 0, .int .i64 0, .string (⟨#[]⟩ : ByteArray), .slice none 0 0]] rfl (by (try simp only [List.map_toArray, List.map_cons, List.map_nil]); first | done | rfl | (simp only [List.length_drop, List.length_take]; rfl)) ?_; (refine (qbv.calls k a0_0 a0_1 a0_2 _ _ l0_3 0 0 (⟨#[]⟩ : ByteArray) _ _ ([] : List (S27)) t220 _ ?side1 ?side2 ?side3 ?side4 A2.out).mono ?_); (case side1 => repeat (first | exact (Kd.qbw qo8.out HB.out) | (with_reducible refine Kd.qb3 ?_ _) | (with_reducible refine Kd.qb1 ?_ _) | (with_reducible refine Kd.qb7 ?_))); (case side2 => exact qwf.out); (case side3 => exact Kd.C_nil _ _); (case side4 => exact Nat.le_refl _); rintro e w5 ⟨rfl, hb⟩; refine ⟨_, rfl, ?_⟩; have n0_ := qc.mk (qbb (g := q9t) (o := .cells #[.int .i64 a0_0, .int .i64 a0_1, .string a0_2, .slice A0_3 l0_3.length c0_3] 27 (0, 0)) (by (with_reducible repeat (first | refine qj ?_ _ | refine qm ?_ | refine qi ?_ _)); exact qym.out) hb); have n1_ := qc.mk (q9 (by repeat (first | (with_reducible first | exact HB.out | apply qg | apply qd | apply qh | refine ql ?_ qbsh.out) | exact HB.out)) hb); clear qym; clear HB; have qym := n0_; have HB := n1_; clear n0_ n1_; (try clear hb); (try clear hb2); (try clear hk); (try clear hi)))
 go_ret
 exact ⟨by first | rfl | (simp [qx, qy] <;> rfl) | (simp [*, qx, qy] <;> rfl), by repeat (first | (with_reducible first | exact HB.out | apply qg | apply qd | apply qh | refine ql ?_ qbsh.out) | exact HB.out)⟩
end Go.Proofs.YtpgkhmdfddejfaaDoor.PV
end
