import Derived.Test.YtpgkhmdfddejfaaDoorZTPVx0
section
namespace Go.Proofs.YtpgkhmdfddejfaaDoor.PV
open Go.RowKit Go.Proofs.YtpgkhmdfddejfaaDoorW.PrintWords Go.Proofs.YtpgkhmdfddejfaaDoorW.PrintLast Go.Proofs.YtpgkhmdfddejfaaDoorW.PrintMore
attribute [local go_sem] qcw qcv qdb qda qcr qcq qcu qcx   -- for this text's walks alone
set_option linter.unusedVariables false
set_option linter.unusedSimpArgs false
mutual
def qbx.l0 : Nat → Int → List (S30) → Int → Int → Option (Int)
 | 0, _, _, _, _ => none
 | k + 1, x3, x7, x8, x9 => if x9 < x8 then (if 0 ≤ x9 then (if x9 < (x7.length : Int) then ((qbx.f k ((qp x7 x9).f0) ((qp x7 x9).f1) ((qp x7 x9).f2) ((qp x7 x9).f3) ((qp x7 x9).f4.f0) ((qp x7 x9).f4.f1) ((qp x7 x9).f4.f2) ((qp x7 x9).f4.f3) ((qp x7 x9).f5) ((qp x7 x9).f6)).bind fun t131 => (qbx.l0 k (mx x3 t131) x7 x8 (wrap64 (x9 + 1)))) else (none)) else (none)) else (some (wrap64 (x3 + 1)))
def qbx.f : Nat → Int → Int → Int → ByteArray → Int → Int → ByteArray → List (S27) → List (S30) → List (S27) → Option (Int)
 | 0, _, _, _, _, _, _, _, _, _, _ => none
 | k + 1, a0_0, a0_1, a0_2, a0_3, a0_4, a0_5, a0_6, l0_7, l0_8, l0_9 => qbx.l0 k 0 l0_8 (l0_8.length : Int) 0
end
theorem qbx.qcg : ∀ k, (∀ y0 y1 y2 y3 y4 y5 y6 y7 y8 y9, LeO (qbx.f k y0 y1 y2 y3 y4 y5 y6 y7 y8 y9) (qbx.f (k + 1) y0 y1 y2 y3 y4 y5 y6 y7 y8 y9)) ∧ (∀ y0 y1 y2 y3, LeO (qbx.l0 k y0 y1 y2 y3) (qbx.l0 (k + 1) y0 y1 y2 y3))
 | 0 => ⟨fun _ _ _ _ _ _ _ _ _ _ r h => by simp [qbx.f] at h, fun _ _ _ _ r h => by simp [qbx.l0] at h⟩
 | k + 1 => by
  obtain ⟨ih0, ih1⟩ := qbx.qcg k
  refine ⟨?_, ?_⟩
  ·intro y0 y1 y2 y3 y4 y5 y6 y7 y8 y9
   unfold qbx.f
   repeat' first
   | (with_reducible exact ih0 _ _ _ _ _ _ _ _ _ _)
   | (with_reducible exact ih1 _ _ _ _)
   | (with_reducible exact LeO.refl _)
   | (with_reducible exact LeO.none _)
   | (with_reducible refine LeO.ite ?_ ?_)
   | (with_reducible refine LeO.bind ?_ (fun _ => ?_))
   | exact ih0 _ _ _ _ _ _ _ _ _ _
   | exact ih1 _ _ _ _
   | exact LeO.none _
   | refine LeO.ite ?_ ?_
   | refine LeO.bind ?_ (fun _ => ?_)
  ·intro y0 y1 y2 y3
   unfold qbx.l0
   repeat' first
   | (with_reducible exact ih0 _ _ _ _ _ _ _ _ _ _)
   | (with_reducible exact ih1 _ _ _ _)
   | (with_reducible exact LeO.refl _)
   | (with_reducible exact LeO.none _)
   | (with_reducible refine LeO.ite ?_ ?_)
   | (with_reducible refine LeO.bind ?_ (fun _ => ?_))
   | exact ih0 _ _ _ _ _ _ _ _ _ _
   | exact ih1 _ _ _ _
   | exact LeO.none _
   | refine LeO.ite ?_ ?_
   | refine LeO.bind ?_ (fun _ => ?_)
theorem qbx.mono : ∀ a0 a1 a2 a3 a4 a5 a6 a7 a8 a9 k, LeO (qbx.f k a0 a1 a2 a3 a4 a5 a6 a7 a8 a9) (qbx.f (k + 1) a0 a1 a2 a3 a4 a5 a6 a7 a8 a9) := by
 intro a0 a1 a2 a3 a4 a5 a6 a7 a8 a9 k
 obtain ⟨ih0, ih1⟩ := qbx.qcg k
 exact ih0 a0 a1 a2 a3 a4 a5 a6 a7 a8 a9
set_option maxHeartbeats 8000000 in
set_option maxRecDepth 100000 in
theorem qbx.calls (k : Nat) : ∀ (a0_0 : Int) (a0_1 : Int) (a0_2 : Int) (a0_3 : ByteArray) (a0_4 : Int) (a0_5 : Int) (a0_6 : ByteArray) (A0_7 : Option Addr) (c0_7 : Nat) (l0_7 : List (S27)) (A0_8 : Option Addr) (c0_8 : Nat) (l0_8 : List (S30)) (A0_9 : Option Addr) (c0_9 : Nat) (l0_9 : List (S27)) (r : Int) (w : World) (qj8 : Kd.C k27 w A0_7 l0_7.length l0_7) (qjs : l0_7.length ≤ c0_7) (qj2 : Kd.C k30 w A0_8 l0_8.length l0_8) (qjq : l0_8.length ≤ c0_8) (qiw : Kd.C k27 w A0_9 l0_9.length l0_9) (qiv : l0_9.length ≤ c0_9) (h : qbx.f k a0_0 a0_1 a0_2 a0_3 a0_4 a0_5 a0_6 l0_7 l0_8 l0_9 = some r),
  Calls Tryd.prog 42 #[.agg #[.int .i64 a0_0, .int .i64 a0_1, .int .i64 a0_2, .string a0_3, .int .i64 a0_4, .int .i64 a0_5, .string a0_6, .slice A0_7 l0_7.length c0_7, .slice A0_8 l0_8.length c0_8, .slice A0_9 l0_9.length c0_9]] w fun e w' => e = .returned (.int .i64 r) ∧ Below w.heap.size w w' := by
 induction k using Nat.strongRecOn with
 | _ k ih =>
 intro a0_0 a0_1 a0_2 a0_3 a0_4 a0_5 a0_6 A0_7 c0_7 l0_7 A0_8 c0_8 l0_8 A0_9 c0_9 l0_9 r w qj8 qjs qj2 qjq qiw qiv h
 cases k with
 | zero => exact absurd h (by simp [qbx.f])
 | succ k =>
 simp only [qbx.f] at h
 have hu30 := Tryd.underlying30
 have qnk := qc.mk qj8
 have qnj := qc.mk qjs
 clear qj8 qjs
 have qop := qc.mk qj2
 have q3e := qc.mk qjq
 clear qj2 qjq
 have qql := qc.mk qiw
 have qzd := qc.mk qiv
 clear qiw qiv
 have HB := qc.mk (Below.refl w.heap.size w)
 have H : (qbx.l0 k 0 l0_8 (l0_8.length : Int) 0) = some r := h
 clear h
 have H' := qc.mk H
 clear H
 go_enter Tryd.func42, Tryd.ntmps42
 go_wp2_with (first | ((with_reducible refine qb0 (N := 1) rfl ?_); refine qby ?hg (N := 1) ?hd (cs := #[.int .i64 a0_0, .int .i64 a0_1, .int .i64 a0_2, .string a0_3, .int .i64 a0_4, .int .i64 a0_5, .string a0_6, .slice A0_7 l0_7.length c0_7, .slice A0_8 l0_8.length c0_8, .slice A0_9 l0_9.length c0_9]) (t := 30) ?hr ?_; (case hd => rfl); (case hg => rfl); (case hr => first | (go_simp; done) | (go_simp; rfl)); intro qm5 hg w2 hbox hb; have n0_ := qc.mk (q9 (by repeat (first | (with_reducible first | exact HB.out | apply qg | apply qd | apply qh) | exact HB.out)) hb); have n1_ := qc.mk (hbox); have n2_ := qc.mk ((by rw [hg]; exact (qba (by repeat (first | (with_reducible first | exact HB.out | apply qg | apply qd | apply qh) | exact HB.out))) : w.heap.size ≤ qm5)); have n3_ := qc.mk ((by rw [hg]; exact (qba (by repeat (first | (with_reducible first | exact HB.out | apply qg | apply qd | apply qh) | exact HB.out))) : w.heap.size ≤ qm5)); clear HB; have HB := n0_; have qic := n1_; have qbx5 := n2_; have qzn := n3_; clear n0_ n1_ n2_ n3_; clear hb hbox hg; have qbr4 : w2.cell? ⟨qm5, 0, none⟩ = some (.int .i64 a0_0) := (qb qic.out 0).trans rfl; have qbrl : w2.cell? ⟨qm5, 1, none⟩ = some (.int .i64 a0_1) := (qb qic.out 1).trans rfl; have qbrv : w2.cell? ⟨qm5, 2, none⟩ = some (.int .i64 a0_2) := (qb qic.out 2).trans rfl; have qbry : w2.cell? ⟨qm5, 3, none⟩ = some (.string a0_3) := (qb qic.out 3).trans rfl; have qbra : w2.cell? ⟨qm5, 4, none⟩ = some (.int .i64 a0_4) := (qb qic.out 4).trans rfl; have qbrb : w2.cell? ⟨qm5, 5, none⟩ = some (.int .i64 a0_5) := (qb qic.out 5).trans rfl; have qbsb : w2.cell? ⟨qm5, 6, none⟩ = some (.string a0_6) := (qb qic.out 6).trans rfl; have qbrg : w2.cell? ⟨qm5, 7, none⟩ = some (.slice A0_7 l0_7.length c0_7) := (qb qic.out 7).trans rfl; have qbr3 : w2.cell? ⟨qm5, 8, none⟩ = some (.slice A0_8 l0_8.length c0_8) := (qb qic.out 8).trans rfl; have qbrm : w2.cell? ⟨qm5, 9, none⟩ = some (.slice A0_9 l0_9.length c0_9) := (qb qic.out 9).trans rfl; have qbse := qa qic.out 0; have qbr1 := qa qic.out 1; have qbrt := qa qic.out 2; have qbsj := qa qic.out 3; have qbr7 := qa qic.out 4; have qbsc := qa qic.out 5; have qbrp := qa qic.out 6; have qbrr := qa qic.out 7; have qbsf := qa qic.out 8; have qbsi := qa qic.out 9))
 go_loopg [3, 9] k (fun kq v3 v9 w' => ∃ (x3_1 : Int) (x9_1 : Int), v3 = .int .i64 x3_1 ∧ v9 = .int .i64 x9_1 ∧ qc (qbx.l0 kq x3_1 l0_8 (l0_8.length : Int) x9_1 = some r) ∧ qc (kq ≤ k) ∧ qc (w'.heap[qm5]? = some (.cells #[.int .i64 a0_0, .int .i64 a0_1, .int .i64 a0_2, .string a0_3, .int .i64 a0_4, .int .i64 a0_5, .string a0_6, (.slice A0_7 l0_7.length c0_7), (.slice A0_8 l0_8.length c0_8), (.slice A0_9 l0_9.length c0_9)] 30 (0, 0))) ∧ qc (Below w.heap.size w w'))
 case atStart => exact ⟨(0), (0), (by first | rfl | (simp; done) | (simp [*]; done)), (by first | rfl | (simp; done) | (simp [*]; done)), H', ⟨Nat.le_refl _⟩, ⟨by (with_reducible repeat (first | refine qj ?_ _ | refine qm ?_ | refine qi ?_ _)); exact qic.out⟩, ⟨by repeat (first | (with_reducible first | exact HB.out | apply qg | apply qd | apply qh | refine ql ?_ qzn.out) | exact HB.out)⟩⟩
 case round =>
  clear H'
  (try clear p2); (try clear qbr4 qbrl qbrv qbry qbra qbrb qbsb qbrg qbr3 qbrm); (try clear qbse qbr1 qbrt qbsj qbr7 qbsc qbrp qbrr qbsf qbsi)
  obtain ⟨x3_1, x9_1, rfl, rfl, HA, HK1, qic, HB⟩ := hrel
  cases gk with
  | zero => exact absurd HA.out (by simp [qbx.l0])
  | succ k1 =>
   have H := HA.out
   clear HA
   simp only [qbx.l0] at H
   by_cases c4 : x9_1 < (l0_8.length : Int)
   ·rw [if_pos c4] at H
    have c4b0 : decide (x9_1 < (l0_8.length : Int)) = true := decide_eq_true c4
    clear c4
    by_cases c5 : 0 ≤ x9_1
    ·rw [if_pos c5] at H
     have c5b0 : decide (0 ≤ x9_1) = true := decide_eq_true c5
     clear c5
     by_cases c6 : x9_1 < (l0_8.length : Int)
     ·rw [if_pos c6] at H
      have c6b0 : decide (x9_1 < (l0_8.length : Int)) = true := decide_eq_true c6
      clear c6
      replace H := Option.bind_eq_some_iff.mp H
      obtain ⟨t131, A70, H⟩ := H
      replace H : (qbx.l0 k1 (mx x3_1 t131) l0_8 (l0_8.length : Int) (wrap64 (x9_1 + 1))) = some r := H
      have A7 := qc.mk A70
      clear A70
      obtain ⟨ji8, hji8⟩ : ∃ j_ : Int, (mx x3_1 t131) = j_ := ⟨_, rfl⟩
      replace H : (qbx.l0 k1 ji8 l0_8 (l0_8.length : Int) (wrap64 (x9_1 + 1))) = some r := by first | (rw [hji8] at H; exact H) | (simp only [hji8] at H ⊢; exact H)
      (try rw [hji8] at A7)
      have hji8_ : (if x3_1 < t131 then t131 else x3_1) = ji8 := hji8
      have H' := qc.mk H
      clear H
      have p129 : 0 ≤ (x9_1 : Int) := of_decide_eq_true (by first | (with_reducible assumption) | assumption)
      have q129 : x9_1 < (l0_8.length : Int) := of_decide_eq_true (by first | (with_reducible assumption) | assumption)
      obtain ⟨qblp, qbeu, qbfq, qbjh, qbiu, qbn8, qbn4, e129, qbb3, qbax, qbbq, qbbj, qbbe, qbdb, qbbv, q8j, qbb8, q9c, qbgx, qbfx, qbkf, qbh4, qbgi, qbik⟩ := qe3 qop.out x9_1 p129 q129
      cases e129
      replace qbb3 := (HB.out.cell (World.block_lt_of_cell? w _ qbb3)).trans qbb3
      replace qbax := (HB.out.cell (World.block_lt_of_cell? w _ qbax)).trans qbax
      replace qbbq := (HB.out.cell (World.block_lt_of_cell? w _ qbbq)).trans qbbq
      replace qbbj := (HB.out.cell (World.block_lt_of_cell? w _ qbbj)).trans qbbj
      replace qbbe := (HB.out.cell (World.block_lt_of_cell? w _ qbbe)).trans qbbe
      replace qbdb := (HB.out.cell (World.block_lt_of_cell? w _ qbdb)).trans qbdb
      replace qbbv := (HB.out.cell (World.block_lt_of_cell? w _ qbbv)).trans qbbv
      replace q8j := (HB.out.cell (World.block_lt_of_cell? w _ q8j)).trans q8j
      replace qbb8 := (HB.out.cell (World.block_lt_of_cell? w _ qbb8)).trans qbb8
      replace q9c := (HB.out.cell (World.block_lt_of_cell? w _ q9c)).trans q9c
      have qbor := qc.mk qbfx
      have qbqs := qc.mk qbgx
      clear qbfx qbgx
      have qbpj := qc.mk qbh4
      have qbp7 := qc.mk qbkf
      clear qbh4 qbkf
      have qbqe := qc.mk qbik
      have qbq0 := qc.mk qbgi
      clear qbik qbgi
      replace p129 := eq_true p129
      replace q129 := eq_true q129
      go_wp2_with (first | ((with_reducible refine qb0 (N := 5) rfl ?_); refine qby ?hg (N := 5) ?hd (cs := #[.int .i64 0, .int .i64 0, .int .i64 0, .string (⟨#[]⟩ : ByteArray), .int .i64 0, .int .i64 0, .string (⟨#[]⟩ : ByteArray), .slice none 0 0, .slice none 0 0, .slice none 0 0]) (t := 30) ?hr ?_; (case hd => rfl); (case hg => rfl); (case hr => first | (go_simp; done) | (go_simp; rfl)); intro qri hg w9 hbox hb; have n0_ := qc.mk (qbb (g := qm5) (o := .cells #[.int .i64 a0_0, .int .i64 a0_1, .int .i64 a0_2, .string a0_3, .int .i64 a0_4, .int .i64 a0_5, .string a0_6, .slice A0_7 l0_7.length c0_7, .slice (some qblp) l0_8.length c0_8, .slice A0_9 l0_9.length c0_9] 30 (0, 0)) (by (with_reducible repeat (first | refine qj ?_ _ | refine qm ?_ | refine qi ?_ _)); exact qic.out) hb); have n1_ := qc.mk (q9 (by repeat (first | (with_reducible first | exact HB.out | apply qg | apply qd | apply qh | refine ql ?_ qzn.out) | exact HB.out)) hb); have n2_ := qc.mk (hbox); have n3_ := qc.mk ((by rw [hg]; exact (qba (by repeat (first | (with_reducible first | exact HB.out | apply qg | apply qd | apply qh | refine ql ?_ qzn.out) | exact HB.out))) : w.heap.size ≤ qri)); have n4_ := qc.mk ((by rw [hg]; exact (qba (by repeat (first | (with_reducible first | exact HB.out | apply qg | apply qd | apply qh | refine ql ?_ qzn.out) | exact HB.out))) : w.heap.size ≤ qri)); have n5_ := qc.mk ((by rw [hg]; exact Nat.ne_of_lt (qb4 (g := qm5) (o := .cells #[.int .i64 a0_0, .int .i64 a0_1, .int .i64 a0_2, .string a0_3, .int .i64 a0_4, .int .i64 a0_5, .string a0_6, .slice A0_7 l0_7.length c0_7, .slice (some qblp) l0_8.length c0_8, .slice A0_9 l0_9.length c0_9] 30 (0, 0)) (by (with_reducible repeat (first | refine qj ?_ _ | refine qm ?_ | refine qi ?_ _)); exact qic.out)) : qm5 ≠ qri)); have n6_ := qc.mk ((by rw [hg]; exact Nat.ne_of_gt (qb4 (g := qm5) (o := .cells #[.int .i64 a0_0, .int .i64 a0_1, .int .i64 a0_2, .string a0_3, .int .i64 a0_4, .int .i64 a0_5, .string a0_6, .slice A0_7 l0_7.length c0_7, .slice (some qblp) l0_8.length c0_8, .slice A0_9 l0_9.length c0_9] 30 (0, 0)) (by (with_reducible repeat (first | refine qj ?_ _ | refine qm ?_ | refine qi ?_ _)); exact qic.out)) : qri ≠ qm5)); clear qic; clear HB; have qic := n0_; have HB := n1_; have qku := n2_; have qbxm := n3_; have qbhk := n4_; have qhs := n5_; have qbgh := n6_; clear n0_ n1_ n2_ n3_ n4_ n5_ n6_; clear hb hbox hg; have qbx1 := qbgh.out; have qbxf := qhs.out; have qit : w9.cell? ⟨qri, 0, none⟩ = some (.int .i64 0) := (qb qku.out 0).trans rfl; have qig : w9.cell? ⟨qri, 1, none⟩ = some (.int .i64 0) := (qb qku.out 1).trans rfl; have qij : w9.cell? ⟨qri, 2, none⟩ = some (.int .i64 0) := (qb qku.out 2).trans rfl; have qih : w9.cell? ⟨qri, 3, none⟩ = some (.string (⟨#[]⟩ : ByteArray)) := (qb qku.out 3).trans rfl; have qbo7 : w9.cell? ⟨qri, 4, none⟩ = some (.int .i64 0) := (qb qku.out 4).trans rfl; have qbo0 : w9.cell? ⟨qri, 5, none⟩ = some (.int .i64 0) := (qb qku.out 5).trans rfl; have qbon : w9.cell? ⟨qri, 6, none⟩ = some (.string (⟨#[]⟩ : ByteArray)) := (qb qku.out 6).trans rfl; have qbo2 : w9.cell? ⟨qri, 7, none⟩ = some (.slice none 0 0) := (qb qku.out 7).trans rfl; have qbq7 : w9.cell? ⟨qri, 8, none⟩ = some (.slice none 0 0) := (qb qku.out 8).trans rfl; have qbp1 : w9.cell? ⟨qri, 9, none⟩ = some (.slice none 0 0) := (qb qku.out 9).trans rfl; have qif := qa qku.out 0; have qin := qa qku.out 1; have qik := qa qku.out 2; have qio := qa qku.out 3; have qbou := qa qku.out 4; have qbp3 := qa qku.out 5; have qbpd := qa qku.out 6; have qbpn := qa qku.out 7; have qbo1 := qa qku.out 8; have qbp2 := qa qku.out 9) | ((with_reducible refine qb5 (f := 42) rfl ?_); refine qcj (some 15) rfl rfl Tryd.func42 (by kernel_rfl) rfl #[.agg #[.int .i64 ((qp l0_8 x9_1).f0), .int .i64 ((qp l0_8 x9_1).f1), .int .i64 ((qp l0_8 x9_1).f2), .string ((qp l0_8 x9_1).f3), .int .i64 ((qp l0_8 x9_1).f4.f0), .int .i64 ((qp l0_8 x9_1).f4.f1), .string ((qp l0_8 x9_1).f4.f2), .slice qbeu ((qp l0_8 x9_1).f4.f3).length qbfq, .slice qbjh ((qp l0_8 x9_1).f5).length qbiu, .slice qbn8 ((qp l0_8 x9_1).f6).length qbn4]] rfl (by (try simp only [List.map_toArray, List.map_cons, List.map_nil]); first | done | rfl | (simp only [List.length_drop, List.length_take]; rfl)) ?_; (with_reducible refine (ih k1 (by have := HK1.out; omega) ((qp l0_8 x9_1).f0) ((qp l0_8 x9_1).f1) ((qp l0_8 x9_1).f2) ((qp l0_8 x9_1).f3) ((qp l0_8 x9_1).f4.f0) ((qp l0_8 x9_1).f4.f1) ((qp l0_8 x9_1).f4.f2) _ _ ((qp l0_8 x9_1).f4.f3) _ _ ((qp l0_8 x9_1).f5) _ _ ((qp l0_8 x9_1).f6) t131 _ ?side1 ?side2 ?side3 ?side4 ?side5 ?side6 A7.out).mono ?_); (case side1 => exact Kd.qbw qbor.out (by repeat (first | (with_reducible first | exact HB.out | apply qg | apply qd | apply qh | refine ql ?_ qzn.out | refine ql ?_ qbhk.out) | exact HB.out))); (case side2 => exact qbqs.out); (case side3 => exact Kd.qbw qbpj.out (by repeat (first | (with_reducible first | exact HB.out | apply qg | apply qd | apply qh | refine ql ?_ qzn.out | refine ql ?_ qbhk.out) | exact HB.out))); (case side4 => exact qbp7.out); (case side5 => exact Kd.qbw qbqe.out (by repeat (first | (with_reducible first | exact HB.out | apply qg | apply qd | apply qh | refine ql ?_ qzn.out | refine ql ?_ qbhk.out) | exact HB.out))); (case side6 => exact qbq0.out); rintro e w12 ⟨rfl, hb⟩; refine ⟨_, rfl, ?_⟩; have n0_ := qc.mk (qbb (g := qm5) (o := .cells #[.int .i64 a0_0, .int .i64 a0_1, .int .i64 a0_2, .string a0_3, .int .i64 a0_4, .int .i64 a0_5, .string a0_6, .slice A0_7 l0_7.length c0_7, .slice (some qblp) l0_8.length c0_8, .slice A0_9 l0_9.length c0_9] 30 (0, 0)) (by (with_reducible repeat (first | refine qj ?_ _ | refine qm ?_ | refine qi ?_ _)); refine qbp ?_ qhs.out _; (with_reducible repeat (first | refine qj ?_ _ | refine qm ?_ | refine qi ?_ _)); refine qbp ?_ qhs.out _; (with_reducible repeat (first | refine qj ?_ _ | refine qm ?_ | refine qi ?_ _)); refine qbp ?_ qhs.out _; (with_reducible repeat (first | refine qj ?_ _ | refine qm ?_ | refine qi ?_ _)); refine qbp ?_ qhs.out _; (with_reducible repeat (first | refine qj ?_ _ | refine qm ?_ | refine qi ?_ _)); refine qbp ?_ qhs.out _; (with_reducible repeat (first | refine qj ?_ _ | refine qm ?_ | refine qi ?_ _)); refine qbp ?_ qhs.out _; (with_reducible repeat (first | refine qj ?_ _ | refine qm ?_ | refine qi ?_ _)); refine qbp ?_ qhs.out _; (with_reducible repeat (first | refine qj ?_ _ | refine qm ?_ | refine qi ?_ _)); refine qbp ?_ qhs.out _; (with_reducible repeat (first | refine qj ?_ _ | refine qm ?_ | refine qi ?_ _)); refine qbp ?_ qhs.out _; (with_reducible repeat (first | refine qj ?_ _ | refine qm ?_ | refine qi ?_ _)); refine qbp ?_ qhs.out _; (with_reducible repeat (first | refine qj ?_ _ | refine qm ?_ | refine qi ?_ _)); exact qic.out) hb); have n1_ := qc.mk (qbb (g := qri) (o := .cells #[.int .i64 ((qp l0_8 x9_1).f0), .int .i64 ((qp l0_8 x9_1).f1), .int .i64 ((qp l0_8 x9_1).f2), .string ((qp l0_8 x9_1).f3), .int .i64 ((qp l0_8 x9_1).f4.f0), .int .i64 ((qp l0_8 x9_1).f4.f1), .string ((qp l0_8 x9_1).f4.f2), .slice qbeu ((qp l0_8 x9_1).f4.f3).length qbfq, .slice qbjh ((qp l0_8 x9_1).f5).length qbiu, .slice qbn8 ((qp l0_8 x9_1).f6).length qbn4] 30 (0, 0)) (by (with_reducible repeat (first | refine qj ?_ _ | refine qm ?_ | refine qi ?_ _)); refine qbr (cs := #[.int .i64 ((qp l0_8 x9_1).f0), .int .i64 ((qp l0_8 x9_1).f1), .int .i64 ((qp l0_8 x9_1).f2), .string ((qp l0_8 x9_1).f3), .int .i64 ((qp l0_8 x9_1).f4.f0), .int .i64 ((qp l0_8 x9_1).f4.f1), .string ((qp l0_8 x9_1).f4.f2), .slice qbeu ((qp l0_8 x9_1).f4.f3).length qbfq, .slice qbjh ((qp l0_8 x9_1).f5).length qbiu, .slice none 0 0]) ?_ 9 _ rfl; (with_reducible repeat (first | refine qj ?_ _ | refine qm ?_ | refine qi ?_ _)); refine qbr (cs := #[.int .i64 ((qp l0_8 x9_1).f0), .int .i64 ((qp l0_8 x9_1).f1), .int .i64 ((qp l0_8 x9_1).f2), .string ((qp l0_8 x9_1).f3), .int .i64 ((qp l0_8 x9_1).f4.f0), .int .i64 ((qp l0_8 x9_1).f4.f1), .string ((qp l0_8 x9_1).f4.f2), .slice qbeu ((qp l0_8 x9_1).f4.f3).length qbfq, .slice none 0 0, .slice none 0 0]) ?_ 8 _ rfl; (with_reducible repeat (first | refine qj ?_ _ | refine qm ?_ | refine qi ?_ _)); refine qbr (cs := #[.int .i64 ((qp l0_8 x9_1).f0), .int .i64 ((qp l0_8 x9_1).f1), .int .i64 ((qp l0_8 x9_1).f2), .string ((qp l0_8 x9_1).f3), .int .i64 ((qp l0_8 x9_1).f4.f0), .int .i64 ((qp l0_8 x9_1).f4.f1), .string ((qp l0_8 x9_1).f4.f2), .slice none 0 0, .slice none 0 0, .slice none 0 0]) ?_ 7 _ rfl; (with_reducible repeat (first | refine qj ?_ _ | refine qm ?_ | refine qi ?_ _)); refine qbr (cs := #[.int .i64 ((qp l0_8 x9_1).f0), .int .i64 ((qp l0_8 x9_1).f1), .int .i64 ((qp l0_8 x9_1).f2), .string ((qp l0_8 x9_1).f3), .int .i64 ((qp l0_8 x9_1).f4.f0), .int .i64 ((qp l0_8 x9_1).f4.f1), .string (⟨#[]⟩ : ByteArray), .slice none 0 0, .slice none 0 0, .slice none 0 0]) ?_ 6 _ rfl; (with_reducible repeat (first | refine qj ?_ _ | refine qm ?_ | refine qi ?_ _)); refine qbr (cs := #[.int .i64 ((qp l0_8 x9_1).f0), .int .i64 ((qp l0_8 x9_1).f1), .int .i64 ((qp l0_8 x9_1).f2), .string ((qp l0_8 x9_1).f3), .int .i64 ((qp l0_8 x9_1).f4.f0), .int .i64 0, .string (⟨#[]⟩ : ByteArray), .slice none 0 0, .slice none 0 0, .slice none 0 0]) ?_ 5 _ rfl; (with_reducible repeat (first | refine qj ?_ _ | refine qm ?_ | refine qi ?_ _)); refine qbr (cs := #[.int .i64 ((qp l0_8 x9_1).f0), .int .i64 ((qp l0_8 x9_1).f1), .int .i64 ((qp l0_8 x9_1).f2), .string ((qp l0_8 x9_1).f3), .int .i64 0, .int .i64 0, .string (⟨#[]⟩ : ByteArray), .slice none 0 0, .slice none 0 0, .slice none 0 0]) ?_ 4 _ rfl; (with_reducible repeat (first | refine qj ?_ _ | refine qm ?_ | refine qi ?_ _)); refine qbr (cs := #[.int .i64 ((qp l0_8 x9_1).f0), .int .i64 ((qp l0_8 x9_1).f1), .int .i64 ((qp l0_8 x9_1).f2), .string (⟨#[]⟩ : ByteArray), .int .i64 0, .int .i64 0, .string (⟨#[]⟩ : ByteArray), .slice none 0 0, .slice none 0 0, .slice none 0 0]) ?_ 3 _ rfl; (with_reducible repeat (first | refine qj ?_ _ | refine qm ?_ | refine qi ?_ _)); refine qbr (cs := #[.int .i64 ((qp l0_8 x9_1).f0), .int .i64 ((qp l0_8 x9_1).f1), .int .i64 0, .string (⟨#[]⟩ : ByteArray), .int .i64 0, .int .i64 0, .string (⟨#[]⟩ : ByteArray), .slice none 0 0, .slice none 0 0, .slice none 0 0]) ?_ 2 _ rfl; (with_reducible repeat (first | refine qj ?_ _ | refine qm ?_ | refine qi ?_ _)); refine qbr (cs := #[.int .i64 ((qp l0_8 x9_1).f0), .int .i64 0, .int .i64 0, .string (⟨#[]⟩ : ByteArray), .int .i64 0, .int .i64 0, .string (⟨#[]⟩ : ByteArray), .slice none 0 0, .slice none 0 0, .slice none 0 0]) ?_ 1 _ rfl; (with_reducible repeat (first | refine qj ?_ _ | refine qm ?_ | refine qi ?_ _)); refine qbr (cs := #[.int .i64 0, .int .i64 0, .int .i64 0, .string (⟨#[]⟩ : ByteArray), .int .i64 0, .int .i64 0, .string (⟨#[]⟩ : ByteArray), .slice none 0 0, .slice none 0 0, .slice none 0 0]) ?_ 0 _ rfl; (with_reducible repeat (first | refine qj ?_ _ | refine qm ?_ | refine qi ?_ _)); exact qku.out) hb); have n2_ := qc.mk (q9 (by repeat (first | (with_reducible first | exact HB.out | apply qg | apply qd | apply qh | refine ql ?_ qzn.out | refine ql ?_ qbhk.out) | exact HB.out)) hb); clear qic; clear qku; clear HB; have qic := n0_; have qku := n1_; have HB := n2_; clear n0_ n1_ n2_; (try clear hb); (try clear hb2); (try clear hk); (try clear hi)))
      go_roundg k1
      case measure => have := HK1.out; omega
      case rel => exact ⟨(ji8), (wrap64 (x9_1 + 1)), (by first | rfl | (simp; done) | (simp only [← hji8] <;> (first | rfl | simp)) | (simp [*]; done)), (by first | rfl | (simp; done) | (simp [*]; done)), H', ⟨by have := HK1.out; omega⟩, ⟨by (with_reducible repeat (first | refine qj ?_ _ | refine qm ?_ | refine qi ?_ _)); exact qic.out⟩, ⟨by repeat (first | (with_reducible first | exact HB.out | apply qg | apply qd | apply qh | refine ql ?_ qzn.out | refine ql ?_ qbhk.out) | exact HB.out)⟩⟩
     ·rw [if_neg c6] at H
      exact absurd H (by simp)
    ·rw [if_neg c5] at H
     exact absurd H (by simp)
   ·rw [if_neg c4] at H
    have c4b0 : decide (x9_1 < (l0_8.length : Int)) = false := decide_eq_false c4
    clear c4
    obtain rfl := Option.some.inj H
    go_wp2
    go_ret
    exact ⟨by first | rfl | (simp [qx, qy] <;> rfl) | (simp [*, qx, qy] <;> rfl), by repeat (first | (with_reducible first | exact HB.out | apply qg | apply qd | apply qh | refine ql ?_ qzn.out) | exact HB.out)⟩
def qbz.j0 : Nat → Int → Int → Bool → Option (Bool)
 | 0, _, _, _ => none
 | k + 1, x1, x5, x6 => if x6 = true then (if x1 ≥ 1 then (some (decide (x1 ≤ 16))) else (some false)) else (if x5 = 5 then (some (x1 == 1)) else (if x5 = 6 then (some (x1 == 1)) else (some (x1 == 0))))
def qbz.f (k : Nat) (a0 : Int) (a1 : Int) : Option (Bool) := if a0 = 0 then (qbz.j0 k a1 a0 (a0 == 0)) else (if a0 = 1 then (qbz.j0 k a1 a0 (a0 == 1)) else (if a0 = 2 then (qbz.j0 k a1 a0 (a0 == 2)) else (if a0 = 3 then (qbz.j0 k a1 a0 (a0 == 3)) else (if a0 = 4 then (qbz.j0 k a1 a0 (a0 == 4)) else (qbz.j0 k a1 a0 (a0 == 11))))))
theorem qbz.qcg : ∀ k, (∀ y0 y1 y2, LeO (qbz.j0 k y0 y1 y2) (qbz.j0 (k + 1) y0 y1 y2))
 | 0 => fun _ _ _ r h => by simp [qbz.j0] at h
 | k + 1 => by
  have ih0 := qbz.qcg k
  ·intro y0 y1 y2
   unfold qbz.j0
   repeat' first
   | (with_reducible exact ih0 _ _ _)
   | (with_reducible exact LeO.refl _)
   | (with_reducible exact LeO.none _)
   | (with_reducible refine LeO.ite ?_ ?_)
   | (with_reducible refine LeO.bind ?_ (fun _ => ?_))
   | exact ih0 _ _ _
   | exact LeO.none _
   | refine LeO.ite ?_ ?_
   | refine LeO.bind ?_ (fun _ => ?_)
theorem qbz.mono : ∀ a0 a1 k, LeO (qbz.f k a0 a1) (qbz.f (k + 1) a0 a1) := by
 intro a0 a1 k
 have ih0 := qbz.qcg k
 unfold qbz.f
 repeat' first
   | (with_reducible exact ih0 _ _ _)
   | (with_reducible exact LeO.refl _)
   | (with_reducible exact LeO.none _)
   | (with_reducible refine LeO.ite ?_ ?_)
   | (with_reducible refine LeO.bind ?_ (fun _ => ?_))
   | exact ih0 _ _ _
   | exact LeO.none _
   | refine LeO.ite ?_ ?_
   | refine LeO.bind ?_ (fun _ => ?_)
set_option maxHeartbeats 8000000 in
set_option maxRecDepth 100000 in
theorem qbz.calls (k : Nat) (a0 : Int) (a1 : Int) (r : Bool) (w : World) (h : qbz.f k a0 a1 = some r) :
  Calls Tryd.prog 67 #[.int .i64 a0, .int .i64 a1] w fun e w' => e = .returned (.bool r) ∧ qbk w w' := by
 have H : (if a0 = 0 then (qbz.j0 k a1 a0 (a0 == 0)) else (if a0 = 1 then (qbz.j0 k a1 a0 (a0 == 1)) else (if a0 = 2 then (qbz.j0 k a1 a0 (a0 == 2)) else (if a0 = 3 then (qbz.j0 k a1 a0 (a0 == 3)) else (if a0 = 4 then (qbz.j0 k a1 a0 (a0 == 4)) else (qbz.j0 k a1 a0 (a0 == 11))))))) = some r := h
 clear h
 have HC3 := qc.mk H
 clear H
 go_enter Tryd.func67, Tryd.ntmps67
 go_upto_if 6 with (fail)
 go_cut [6] (fun v6 wc => ∃ (kq : Nat) (x6_2 : Bool), v6 = .bool x6_2 ∧ qc (qbz.j0 kq a1 a0 x6_2 = some r) ∧ qc (kq ≤ k) ∧ qbk w wc)
 case first =>
  have H := HC3.out
  clear HC3
  by_cases c4 : a0 = 0
  ·rw [if_pos c4] at H
   have c4b0 : (a0 == 0) = true := beq_iff_eq.mpr c4
   have c4b1 : (a0 != 0) = false := bne_eq_false_iff_eq.mpr c4
   clear c4
   (first | rw [c4b0] | (simp only [i64_w, i32_w]; rw [c4b0]) | skip)
   have H' := qc.mk H
   clear H
   go_wp2
   go_meet
   case rel => exact ⟨_, ((a0 == 0)), (by first | rfl | (simp; done) | (simp [*]; done)), H', ⟨by first | omega | exact Nat.le_refl _⟩, by repeat (first | exact qbk.refl _ | apply qbk.step)⟩
  ·rw [if_neg c4] at H
   have c4b0 : (a0 == 0) = false := beq_eq_false_iff_ne.mpr c4
   have c4b1 : (a0 != 0) = true := bne_iff_ne.mpr c4
   (first | rw [c4b0] | (simp only [i64_w, i32_w]; rw [c4b0]) | skip)
   by_cases c5 : a0 = 1
   ·rw [if_pos c5] at H
    have c5b0 : (a0 == 1) = true := beq_iff_eq.mpr c5
    have c5b1 : (a0 != 1) = false := bne_eq_false_iff_eq.mpr c5
    clear c5
    have H' := qc.mk H
    clear H
    go_wp2
    go_meet
    case rel => exact ⟨_, ((a0 == 1)), (by first | rfl | (simp; done) | (simp [*]; done)), H', ⟨by first | omega | exact Nat.le_refl _⟩, by repeat (first | exact qbk.refl _ | apply qbk.step)⟩
   ·rw [if_neg c5] at H
    have c5b0 : (a0 == 1) = false := beq_eq_false_iff_ne.mpr c5
    have c5b1 : (a0 != 1) = true := bne_iff_ne.mpr c5
    by_cases c6 : a0 = 2
    ·rw [if_pos c6] at H
     have c6b0 : (a0 == 2) = true := beq_iff_eq.mpr c6
     have c6b1 : (a0 != 2) = false := bne_eq_false_iff_eq.mpr c6
     clear c6
     have H' := qc.mk H
     clear H
     go_wp2
     go_meet
     case rel => exact ⟨_, ((a0 == 2)), (by first | rfl | (simp; done) | (simp [*]; done)), H', ⟨by first | omega | exact Nat.le_refl _⟩, by repeat (first | exact qbk.refl _ | apply qbk.step)⟩
    ·rw [if_neg c6] at H
     have c6b0 : (a0 == 2) = false := beq_eq_false_iff_ne.mpr c6
     have c6b1 : (a0 != 2) = true := bne_iff_ne.mpr c6
     by_cases c7 : a0 = 3
     ·rw [if_pos c7] at H
      have c7b0 : (a0 == 3) = true := beq_iff_eq.mpr c7
      have c7b1 : (a0 != 3) = false := bne_eq_false_iff_eq.mpr c7
      clear c7
      have H' := qc.mk H
      clear H
      go_wp2
      go_meet
      case rel => exact ⟨_, ((a0 == 3)), (by first | rfl | (simp; done) | (simp [*]; done)), H', ⟨by first | omega | exact Nat.le_refl _⟩, by repeat (first | exact qbk.refl _ | apply qbk.step)⟩
     ·rw [if_neg c7] at H
      have c7b0 : (a0 == 3) = false := beq_eq_false_iff_ne.mpr c7
      have c7b1 : (a0 != 3) = true := bne_iff_ne.mpr c7
      by_cases c8 : a0 = 4
      ·rw [if_pos c8] at H
       have c8b0 : (a0 == 4) = true := beq_iff_eq.mpr c8
       have c8b1 : (a0 != 4) = false := bne_eq_false_iff_eq.mpr c8
       clear c8
       have H' := qc.mk H
       clear H
       go_wp2
       go_meet
       case rel => exact ⟨_, ((a0 == 4)), (by first | rfl | (simp; done) | (simp [*]; done)), H', ⟨by first | omega | exact Nat.le_refl _⟩, by repeat (first | exact qbk.refl _ | apply qbk.step)⟩
      ·rw [if_neg c8] at H
       have c8b0 : (a0 == 4) = false := beq_eq_false_iff_ne.mpr c8
       have c8b1 : (a0 != 4) = true := bne_iff_ne.mpr c8
       have H' := qc.mk H
       clear H
       go_wp2
       go_meet
       case rel => exact ⟨_, ((a0 == 11)), (by first | rfl | (simp; done) | (simp [*]; done)), H', ⟨by first | omega | exact Nat.le_refl _⟩, by repeat (first | exact qbk.refl _ | apply qbk.step)⟩
 case rest =>
  clear HC3
  (try clear p2); (try clear c4); (try clear c4b0); (try clear c4b1); (try clear c5); (try clear c5b0); (try clear c5b1); (try clear c6); (try clear c6b0); (try clear c6b1); (try clear c7); (try clear c7b0); (try clear c7b1); (try clear c8); (try clear c8b0); (try clear c8b1)
  obtain ⟨kq, x6_2, rfl, HA, HJ2, ⟨mc2, rfl⟩⟩ := hcut
  cases kq with
  | zero => exact absurd HA.out (by simp [qbz.j0])
  | succ kj2 =>
   have H := HA.out
   clear HA
   simp only [qbz.j0] at H
   by_cases c9 : x6_2 = true
   ·subst c9
    have H1 : (if a1 ≥ 1 then (some (decide (a1 ≤ 16))) else (some false)) = some r := by rw [if_pos rfl] at H; exact H
    clear H
    have H := H1
    clear H1
    by_cases c10 : a1 ≥ 1
    ·rw [if_pos c10] at H
     have c10b0 : decide (1 ≤ a1) = true := decide_eq_true c10
     clear c10
     obtain rfl := Option.some.inj H
     go_wp2
     go_ret
     exact ⟨by first | rfl | (simp; done) | (simp [*]; done), by repeat (first | exact qbk.refl _ | apply qbk.step)⟩
    ·rw [if_neg c10] at H
     have c10b0 : decide (1 ≤ a1) = false := decide_eq_false c10
     clear c10
     obtain rfl := Option.some.inj H
     go_wp2
     go_ret
     exact ⟨by first | rfl | (simp; done) | (simp [*]; done), by repeat (first | exact qbk.refl _ | apply qbk.step)⟩
   ·replace c9 := Bool.eq_false_iff.mpr c9
    subst c9
    have H1 : (if a0 = 5 then (some (a1 == 1)) else (if a0 = 6 then (some (a1 == 1)) else (some (a1 == 0)))) = some r := by rw [if_neg (show ¬ (false = true) by decide)] at H; exact H
    clear H
    have H := H1
    clear H1
    by_cases c11 : a0 = 5
    ·rw [if_pos c11] at H
     have c11b0 : (a0 == 5) = true := beq_iff_eq.mpr c11
     have c11b1 : (a0 != 5) = false := bne_eq_false_iff_eq.mpr c11
     clear c11
     obtain rfl := Option.some.inj H
     go_wp2
     go_ret
     exact ⟨by first | rfl | (simp; done) | (simp [*]; done), by repeat (first | exact qbk.refl _ | apply qbk.step)⟩
    ·rw [if_neg c11] at H
     have c11b0 : (a0 == 5) = false := beq_eq_false_iff_ne.mpr c11
     have c11b1 : (a0 != 5) = true := bne_iff_ne.mpr c11
     by_cases c12 : a0 = 6
     ·rw [if_pos c12] at H
      have c12b0 : (a0 == 6) = true := beq_iff_eq.mpr c12
      have c12b1 : (a0 != 6) = false := bne_eq_false_iff_eq.mpr c12
      clear c12
      obtain rfl := Option.some.inj H
      go_wp2
      go_ret
      exact ⟨by first | rfl | (simp; done) | (simp [*]; done), by repeat (first | exact qbk.refl _ | apply qbk.step)⟩
     ·rw [if_neg c12] at H
      have c12b0 : (a0 == 6) = false := beq_eq_false_iff_ne.mpr c12
      have c12b1 : (a0 != 6) = true := bne_iff_ne.mpr c12
      obtain rfl := Option.some.inj H
      go_wp2
      go_ret
      exact ⟨by first | rfl | (simp; done) | (simp [*]; done), by repeat (first | exact qbk.refl _ | apply qbk.step)⟩
def qcl.f (a0 : Int) (a1 : Int) (a2 : Int) : Option (Int) := some (mx a1 (mn a0 a2))
set_option maxHeartbeats 8000000 in
set_option maxRecDepth 100000 in
theorem qcl.calls (a0 : Int) (a1 : Int) (a2 : Int) (r : Int) (w : World) (h : qcl.f a0 a1 a2 = some r) :
  Calls Tryd.prog 80 #[.int .i64 a0, .int .i64 a1, .int .i64 a2] w fun e w' => e = .returned (.int .i64 r) ∧ Below w.heap.size w w' := by
 have HB := qc.mk (Below.refl w.heap.size w)
 have H : (some (mx a1 (mn a0 a2))) = some r := h
 clear h
 obtain ⟨ji4, hji4⟩ : ∃ j_ : Int, (mn a0 a2) = j_ := ⟨_, rfl⟩
 replace H : (some (mx a1 (ji4))) = some r := by first | (rw [hji4] at H; exact H) | (simp only [hji4] at H ⊢; exact H)
 have hji4_ : (if a2 < a0 then a2 else a0) = ji4 := hji4
 obtain ⟨ji5, hji5⟩ : ∃ j_ : Int, (mx a1 (ji4)) = j_ := ⟨_, rfl⟩
 replace H : (some ji5) = some r := by first | (rw [hji5] at H; exact H) | (simp only [hji5] at H ⊢; exact H)
 have hji5_ : (if a1 < (ji4) then (ji4) else a1) = ji5 := hji5
 obtain rfl := Option.some.inj H
 go_enter Tryd.func80, Tryd.ntmps80
 go_wp2
 go_ret
 exact ⟨by first | rfl | (simp [qx, qy] <;> rfl) | (simp only [← hji4, ← hji5]; first | rfl | (simp [qx, qy] <;> rfl)) | (simp [*, qx, qy] <;> rfl), by repeat (first | (with_reducible first | exact HB.out | apply qg | apply qd | apply qh) | exact HB.out)⟩
def qch.f (a0_0 : Int) (a0_1 : Int) (a0_2 : Int) (a0_3 : ByteArray) (a0_4 : Int) (a0_5 : Int) (a0_6 : ByteArray) (l0_7 : List (S27)) (l0_8 : List (S30)) (l0_9 : List (S27)) : Option (Bool) := if a0_0 = 4 then ((qcl.f a0_1 1 (l0_8.length : Int)).bind fun t133 => ((qcl.f a0_2 1 (l0_8.length : Int)).bind fun t134 => (if a0_1 = t133 then (some (a0_2 == t134)) else (some false)))) else (if a0_0 = 6 then ((qcl.f a0_1 1 1000).bind fun t135 => (if a0_1 = t135 then (some (a0_2 == 0)) else (some false))) else (if a0_1 = 0 then (some (a0_2 == 0)) else (some false)))
def qch.T4 : Bool × List (List Nat × List Nat) := (true, [([], []), ([0], [0]), ([], []), ([2], [2]), ([3], [3]), ([1, 4], [1, 4]), ([], []), ([6], [6]), ([], []), ([8], [8]), ([9], [9]), ([7, 10, 5], [7, 10]), ([5, 11, 0, 1, 2, 3, 4, 5], [5]), ([11, 12, 0, 1, 2, 3, 4, 5, 6, 7, 8, 9, 10, 11, 12], [11])])
def qch.B4 : List Nat := [0, 1, 0, 4, 12, 31, 0, 64, 0, 256, 768, 2047, 4095, 8191]
theorem qch.tab4 : rtab .any (opsOf Tryd.f68 4) = qch.T4 := by kernel_rfl
theorem qch.bits4 : qen qch.T4.2 qch.B4 = true := by kernel_rfl
set_option maxHeartbeats 8000000 in
set_option maxRecDepth 100000 in
theorem qch.calls (a0_0 : Int) (a0_1 : Int) (a0_2 : Int) (a0_3 : ByteArray) (a0_4 : Int) (a0_5 : Int) (a0_6 : ByteArray) (A0_7 : Option Addr) (c0_7 : Nat) (l0_7 : List (S27)) (A0_8 : Option Addr) (c0_8 : Nat) (l0_8 : List (S30)) (A0_9 : Option Addr) (c0_9 : Nat) (l0_9 : List (S27)) (r : Bool) (w : World) (qj8 : Kd.C k27 w A0_7 l0_7.length l0_7) (qjs : l0_7.length ≤ c0_7) (qj2 : Kd.C k30 w A0_8 l0_8.length l0_8) (qjq : l0_8.length ≤ c0_8) (qiw : Kd.C k27 w A0_9 l0_9.length l0_9) (qiv : l0_9.length ≤ c0_9) (h : qch.f a0_0 a0_1 a0_2 a0_3 a0_4 a0_5 a0_6 l0_7 l0_8 l0_9 = some r) :
  Calls Tryd.prog 68 #[.agg #[.int .i64 a0_0, .int .i64 a0_1, .int .i64 a0_2, .string a0_3, .int .i64 a0_4, .int .i64 a0_5, .string a0_6, .slice A0_7 l0_7.length c0_7, .slice A0_8 l0_8.length c0_8, .slice A0_9 l0_9.length c0_9]] w fun e w' => e = .returned (.bool r) ∧ Below w.heap.size w w' := by
 have hu30 := Tryd.underlying30
 have qnk := qc.mk qj8
 have qnj := qc.mk qjs
 clear qj8 qjs
 have qop := qc.mk qj2
 have q3e := qc.mk qjq
 clear qj2 qjq
 have qql := qc.mk qiw
 have qzd := qc.mk qiv
 clear qiw qiv
 have HB := qc.mk (Below.refl w.heap.size w)
 have H : (if a0_0 = 4 then ((qcl.f a0_1 1 (l0_8.length : Int)).bind fun t133 => ((qcl.f a0_2 1 (l0_8.length : Int)).bind fun t134 => (if a0_1 = t133 then (some (a0_2 == t134)) else (some false)))) else (if a0_0 = 6 then ((qcl.f a0_1 1 1000).bind fun t135 => (if a0_1 = t135 then (some (a0_2 == 0)) else (some false))) else (if a0_1 = 0 then (some (a0_2 == 0)) else (some false)))) = some r := h
 clear h
 by_cases c2 : a0_0 = 4
 ·rw [if_pos c2] at H
  have c2b0 : (a0_0 == 4) = true := beq_iff_eq.mpr c2
  have c2b1 : (a0_0 != 4) = false := bne_eq_false_iff_eq.mpr c2
  clear c2
  replace H := Option.bind_eq_some_iff.mp H
  obtain ⟨t133, A30, H⟩ := H
  replace H : ((qcl.f a0_2 1 (l0_8.length : Int)).bind fun t134 => (if a0_1 = t133 then (some (a0_2 == t134)) else (some false))) = some r := H
  have A3 := qc.mk A30
  clear A30
  replace H := Option.bind_eq_some_iff.mp H
  obtain ⟨t134, A40, H⟩ := H
  replace H : (if a0_1 = t133 then (some (a0_2 == t134)) else (some false)) = some r := H
  have A4 := qc.mk A40
  clear A40
  by_cases c5 : a0_1 = t133
  ·rw [if_pos c5] at H
   have c5b0 : (a0_1 == t133) = true := beq_iff_eq.mpr c5
   have c5b1 : (a0_1 != t133) = false := bne_eq_false_iff_eq.mpr c5
   clear c5
   obtain rfl := Option.some.inj H
   go_enter Tryd.func68, Tryd.ntmps68
   try go_wp2_with (first | ((with_reducible refine qb0 (N := 1) rfl ?_); refine qby ?hg (N := 1) ?hd (cs := #[.int .i64 a0_0, .int .i64 a0_1, .int .i64 a0_2, .string a0_3, .int .i64 a0_4, .int .i64 a0_5, .string a0_6, .slice A0_7 l0_7.length c0_7, .slice A0_8 l0_8.length c0_8, .slice A0_9 l0_9.length c0_9]) (t := 30) ?hr ?_; (case hd => rfl); (case hg => rfl); (case hr => first | (go_simp; done) | (go_simp; rfl)); intro qfx hg w6 hbox hb; have n0_ := qc.mk (q9 (by repeat (first | (with_reducible first | exact HB.out | apply qg | apply qd | apply qh) | exact HB.out)) hb); have n1_ := qc.mk (hbox); have n2_ := qc.mk ((by rw [hg]; exact (qba (by repeat (first | (with_reducible first | exact HB.out | apply qg | apply qd | apply qh) | exact HB.out))) : w.heap.size ≤ qfx)); have n3_ := qc.mk ((by rw [hg]; exact (qba (by repeat (first | (with_reducible first | exact HB.out | apply qg | apply qd | apply qh) | exact HB.out))) : w.heap.size ≤ qfx)); clear HB; have HB := n0_; have qfq := n1_; have qbj7 := n2_; have qo5 := n3_; clear n0_ n1_ n2_ n3_; clear hb hbox hg; have qjl : w6.cell? ⟨qfx, 0, none⟩ = some (.int .i64 a0_0) := (qb qfq.out 0).trans rfl; have qjm : w6.cell? ⟨qfx, 1, none⟩ = some (.int .i64 a0_1) := (qb qfq.out 1).trans rfl; have qjj : w6.cell? ⟨qfx, 2, none⟩ = some (.int .i64 a0_2) := (qb qfq.out 2).trans rfl; have qjk : w6.cell? ⟨qfx, 3, none⟩ = some (.string a0_3) := (qb qfq.out 3).trans rfl; have qlg : w6.cell? ⟨qfx, 4, none⟩ = some (.int .i64 a0_4) := (qb qfq.out 4).trans rfl; have qlf : w6.cell? ⟨qfx, 5, none⟩ = some (.int .i64 a0_5) := (qb qfq.out 5).trans rfl; have qlm : w6.cell? ⟨qfx, 6, none⟩ = some (.string a0_6) := (qb qfq.out 6).trans rfl; have qlk : w6.cell? ⟨qfx, 7, none⟩ = some (.slice A0_7 l0_7.length c0_7) := (qb qfq.out 7).trans rfl; have qli : w6.cell? ⟨qfx, 8, none⟩ = some (.slice A0_8 l0_8.length c0_8) := (qb qfq.out 8).trans rfl; have qld : w6.cell? ⟨qfx, 9, none⟩ = some (.slice A0_9 l0_9.length c0_9) := (qb qfq.out 9).trans rfl; have qhj := qa qfq.out 0; have qhl := qa qfq.out 1; have qhm := qa qfq.out 2; have qhk := qa qfq.out 3; have qi2 := qa qfq.out 4; have qix := qa qfq.out 5; have qi0 := qa qfq.out 6; have qi1 := qa qfq.out 7; have qiy := qa qfq.out 8; have qiz := qa qfq.out 9))
   have n0_ := qc.mk (qm qfq.out)
   have n1_ := qc.mk (qh HB.out)
   clear qfq
   clear HB
   have qfq := n0_
   have HB := n1_
   clear n0_ n1_
   refine qe9 (n := 14) (S := fun w' => w'.cell? ⟨qfx, 0, none⟩ = some (.int .i64 a0_0) ∧ w'.cell? ⟨qfx, 1, none⟩ = some (.int .i64 a0_1) ∧ w'.cell? ⟨qfx, 2, none⟩ = some (.int .i64 a0_2) ∧ w'.cell? ⟨qfx, 3, none⟩ = some (.string a0_3) ∧ w'.cell? ⟨qfx, 4, none⟩ = some (.int .i64 a0_4) ∧ w'.cell? ⟨qfx, 5, none⟩ = some (.int .i64 a0_5) ∧ w'.cell? ⟨qfx, 6, none⟩ = some (.string a0_6) ∧ w'.cell? ⟨qfx, 7, none⟩ = some (.slice A0_7 l0_7.length c0_7) ∧ w'.cell? ⟨qfx, 8, none⟩ = some (.slice A0_8 l0_8.length c0_8) ∧ w'.cell? ⟨qfx, 9, none⟩ = some (.slice A0_9 l0_9.length c0_9)) (ds := []) #[false, false, false, false, false, false, false, false, false, false, false, false, false, false] (by kernel_rfl) rfl rfl ⟨(qb qfq.out 0).trans rfl, (qb qfq.out 1).trans rfl, (qb qfq.out 2).trans rfl, (qb qfq.out 3).trans rfl, (qb qfq.out 4).trans rfl, (qb qfq.out 5).trans rfl, (qb qfq.out 6).trans rfl, (qb qfq.out 7).trans rfl, (qb qfq.out 8).trans rfl, (qb qfq.out 9).trans rfl⟩ (fun hHeld => ?_); refine qei qch.tab4 qch.bits4 (fun HT_ HW_ => ?_)
   generalize w6.drew = w8 at qfq HB hHeld ⊢
   refine pure_ (i := 0) (N := some 9) (v := ?_) (a' := ?_) #[true, false, false, false, false, false, false, false, false, false, false, false, false, false] rfl rfl (qcf HT_.out (by kernel_rfl)) (fun _ _ _ h => h) (Or.inl ⟨by rfl, ?_⟩) ?_ ?_
   rotate_left
   ·intro w'
    go_simp
    with_reducible rfl
   rotate_left
   ·simp only [Act.put, List.setIfInBounds_toArray, List.set_cons_zero, List.set_cons_succ, i64_w, i32_w]
    rfl
   refine pure_ (i := 2) (N := some 11) (v := ?_) (a' := ?_) #[true, false, true, false, false, false, false, false, false, false, false, false, false, false] rfl rfl (qcf HT_.out (by kernel_rfl)) (fun _ _ _ h => h) (Or.inl ⟨by rfl, ?_⟩) ?_ ?_
   rotate_left
   ·intro w'
    go_simp
    with_reducible rfl
   rotate_left
   ·simp only [Act.put, List.setIfInBounds_toArray, List.set_cons_zero, List.set_cons_succ, i64_w, i32_w]
    rfl
   refine pure_ (i := 6) (N := some 15) (v := ?_) (a' := ?_) #[true, false, true, false, false, false, true, false, false, false, false, false, false, false] rfl rfl (qcf HT_.out (by kernel_rfl)) (fun _ _ _ h => h) (Or.inl ⟨by rfl, ?_⟩) ?_ ?_
   rotate_left
   ·intro w'
    go_simp
    with_reducible rfl
   rotate_left
   ·simp only [Act.put, List.setIfInBounds_toArray, List.set_cons_zero, List.set_cons_succ, i64_w, i32_w]
    rfl
   refine pure_ (i := 8) (N := some 17) (v := ?_) (a' := ?_) #[true, false, true, false, false, false, true, false, true, false, false, false, false, false] rfl rfl (qcf HT_.out (by kernel_rfl)) (fun _ _ _ h => h) (Or.inl ⟨by rfl, ?_⟩) ?_ ?_
   rotate_left
   ·intro w'
    go_simp
    with_reducible rfl
   rotate_left
   ·simp only [Act.put, List.setIfInBounds_toArray, List.set_cons_zero, List.set_cons_succ, i64_w, i32_w]
    rfl
   refine take_ (i := 1) (N := some 10) (v := ?_) (a' := ?_) #[true, true, true, false, false, false, true, false, true, false, false, false, false, false] rfl rfl (qcn HT_.out HW_.out (by kernel_rfl)) (fun _ _ _ h => h) (Or.inl ⟨by rfl, ?_⟩) hHeld ?_ ?_
   rotate_left
   ·rintro w' ⟨s0, s1, s2, s3, s4, s5, s6, s7, s8, s9⟩
    go_simp
    with_reducible rfl
   rotate_left
   ·simp only [Act.put, List.setIfInBounds_toArray, List.set_cons_zero, List.set_cons_succ, i64_w, i32_w]
    rfl
   refine take_ (i := 3) (N := some 12) (v := ?_) (a' := ?_) #[true, true, true, true, false, false, true, false, true, false, false, false, false, false] rfl rfl (qcn HT_.out HW_.out (by kernel_rfl)) (fun _ _ _ h => h) (Or.inl ⟨by rfl, ?_⟩) hHeld ?_ ?_
   rotate_left
   ·rintro w' ⟨s0, s1, s2, s3, s4, s5, s6, s7, s8, s9⟩
    go_simp
    with_reducible rfl
   rotate_left
   ·simp only [Act.put, List.setIfInBounds_toArray, List.set_cons_zero, List.set_cons_succ, i64_w, i32_w]
    rfl
   refine pure_ (i := 4) (N := some 13) (v := ?_) (a' := ?_) #[true, true, true, true, true, false, true, false, true, false, false, false, false, false] rfl rfl (qcf HT_.out (by kernel_rfl)) (fun _ _ _ h => h) (Or.inl ⟨by rfl, ?_⟩) ?_ ?_
   rotate_left
   ·intro w'
    go_simp
    with_reducible rfl
   rotate_left
   ·simp only [Act.put, List.setIfInBounds_toArray, List.set_cons_zero, List.set_cons_succ, i64_w, i32_w]
    rfl
   refine take_ (i := 7) (N := some 16) (v := ?_) (a' := ?_) #[true, true, true, true, true, false, true, true, true, false, false, false, false, false] rfl rfl (qcn HT_.out HW_.out (by kernel_rfl)) (fun _ _ _ h => h) (Or.inl ⟨by rfl, ?_⟩) hHeld ?_ ?_
   rotate_left
   ·rintro w' ⟨s0, s1, s2, s3, s4, s5, s6, s7, s8, s9⟩
    go_simp
    with_reducible rfl
   rotate_left
   ·simp only [Act.put, List.setIfInBounds_toArray, List.set_cons_zero, List.set_cons_succ, i64_w, i32_w]
    rfl
   refine take_ (i := 9) (N := some 18) (v := ?_) (a' := ?_) #[true, true, true, true, true, false, true, true, true, true, false, false, false, false] rfl rfl (qcn HT_.out HW_.out (by kernel_rfl)) (fun _ _ _ h => h) (Or.inl ⟨by rfl, ?_⟩) hHeld ?_ ?_
   rotate_left
   ·rintro w' ⟨s0, s1, s2, s3, s4, s5, s6, s7, s8, s9⟩
    go_simp
    with_reducible rfl
   rotate_left
   ·simp only [Act.put, List.setIfInBounds_toArray, List.set_cons_zero, List.set_cons_succ, i64_w, i32_w]
    rfl
   refine pure_ (i := 10) (N := some 19) (v := ?_) (a' := ?_) #[true, true, true, true, true, false, true, true, true, true, true, false, false, false] rfl rfl (qcf HT_.out (by kernel_rfl)) (fun _ _ _ h => h) (Or.inl ⟨by rfl, ?_⟩) ?_ ?_
   rotate_left
   ·intro w'
    go_simp
    with_reducible rfl
   rotate_left
   ·simp only [Act.put, List.setIfInBounds_toArray, List.set_cons_zero, List.set_cons_succ, i64_w, i32_w]
    rfl
   refine one_ (i := 5) (N := some 14) #[true, true, true, true, true, true, true, true, true, true, true, false, false, false] rfl rfl (qee HT_.out (by kernel_rfl)) (by decide) (fun K hK => ?_)
   refine goes_ Tryd.func80 (by kernel_rfl) rfl #[.int .i64 a0_1, .int .i64 1, .int .i64 (l0_8.length : Int)] (by rfl) rfl rfl (by (try simp only [List.map_toArray, List.map_cons, List.map_nil]); first | done | rfl | (simp only [List.length_drop, List.length_take]; rfl)) ?_
   with_reducible refine (qcl.calls a0_1 1 (l0_8.length : Int) t133 _ A3.out).mono ?_
   rintro e w9 ⟨rfl, hb⟩
   refine ⟨_, rfl, ?_⟩
   have n0_ := qc.mk (qbb (g := qfx) (o := .cells #[.int .i64 a0_0, .int .i64 a0_1, .int .i64 a0_2, .string a0_3, .int .i64 a0_4, .int .i64 a0_5, .string a0_6, .slice A0_7 l0_7.length c0_7, .slice A0_8 l0_8.length c0_8, .slice A0_9 l0_9.length c0_9] 30 (0, 0)) (by (with_reducible repeat (first | refine qj ?_ _ | refine qm ?_ | refine qi ?_ _)); exact qfq.out) hb)
   have n1_ := qc.mk (q9 (by repeat (first | (with_reducible first | exact HB.out | apply qg | apply qd | apply qh | refine ql ?_ qo5.out) | exact HB.out)) hb)
   clear qfq
   clear HB
   have qfq := n0_
   have HB := n1_
   clear n0_ n1_
   (try clear hb)
   (try clear hb2)
   (try clear hk)
   (try clear hi)
   refine hK.out _ _ ⟨(qb qfq.out 0).trans rfl, (qb qfq.out 1).trans rfl, (qb qfq.out 2).trans rfl, (qb qfq.out 3).trans rfl, (qb qfq.out 4).trans rfl, (qb qfq.out 5).trans rfl, (qb qfq.out 6).trans rfl, (qb qfq.out 7).trans rfl, (qb qfq.out 8).trans rfl, (qb qfq.out 9).trans rfl⟩ (fun hHeld => ?_)
   clear hK K
   refine norm_ (a' := ?_) ?_ ?_
   rotate_left
   ·show Act.put _ (some 14) _ = _
    simp only [Act.put, List.setIfInBounds_toArray, List.set_cons_zero, List.set_cons_succ, i64_w, i32_w]
    rfl
   refine one_ (i := 11) (N := some 20) #[true, true, true, true, true, true, true, true, true, true, true, true, false, false] rfl rfl (qee HT_.out (by kernel_rfl)) (by decide) (fun K hK => ?_)
   refine goes_ Tryd.func80 (by kernel_rfl) rfl #[.int .i64 a0_2, .int .i64 1, .int .i64 (l0_8.length : Int)] (by rfl) rfl rfl (by (try simp only [List.map_toArray, List.map_cons, List.map_nil]); first | done | rfl | (simp only [List.length_drop, List.length_take]; rfl)) ?_
   with_reducible refine (qcl.calls a0_2 1 (l0_8.length : Int) t134 _ A4.out).mono ?_
   rintro e w10 ⟨rfl, hb⟩
   refine ⟨_, rfl, ?_⟩
   have n0_ := qc.mk (qbb (g := qfx) (o := .cells #[.int .i64 a0_0, .int .i64 a0_1, .int .i64 a0_2, .string a0_3, .int .i64 a0_4, .int .i64 a0_5, .string a0_6, .slice A0_7 l0_7.length c0_7, .slice A0_8 l0_8.length c0_8, .slice A0_9 l0_9.length c0_9] 30 (0, 0)) (by (with_reducible repeat (first | refine qj ?_ _ | refine qm ?_ | refine qi ?_ _)); exact qfq.out) hb)
   have n1_ := qc.mk (q9 (by repeat (first | (with_reducible first | exact HB.out | apply qg | apply qd | apply qh | refine ql ?_ qo5.out) | exact HB.out)) hb)
   clear qfq
   clear HB
   have qfq := n0_
   have HB := n1_
   clear n0_ n1_
   (try clear hb)
   (try clear hb2)
   (try clear hk)
   (try clear hi)
   refine hK.out _ _ ⟨(qb qfq.out 0).trans rfl, (qb qfq.out 1).trans rfl, (qb qfq.out 2).trans rfl, (qb qfq.out 3).trans rfl, (qb qfq.out 4).trans rfl, (qb qfq.out 5).trans rfl, (qb qfq.out 6).trans rfl, (qb qfq.out 7).trans rfl, (qb qfq.out 8).trans rfl, (qb qfq.out 9).trans rfl⟩ (fun hHeld => ?_)
   clear hK K
   refine norm_ (a' := ?_) ?_ ?_
   rotate_left
   ·show Act.put _ (some 20) _ = _
    simp only [Act.put, List.setIfInBounds_toArray, List.set_cons_zero, List.set_cons_succ, i64_w, i32_w]
    rfl
   refine pure_ (i := 12) (N := some 3) (v := ?_) (a' := ?_) #[true, true, true, true, true, true, true, true, true, true, true, true, true, false] rfl rfl (qcf HT_.out (by kernel_rfl)) (fun _ _ _ h => h) (Or.inl ⟨by rfl, ?_⟩) ?_ ?_
   rotate_left
   ·intro w'
    go_simp
    with_reducible rfl
   rotate_left
   ·simp only [Act.put, List.setIfInBounds_toArray, List.set_cons_zero, List.set_cons_succ, i64_w, i32_w]
    rfl
   refine pure_ (i := 13) (N := some 4) (v := ?_) (a' := ?_) #[true, true, true, true, true, true, true, true, true, true, true, true, true, true] rfl rfl (qcf HT_.out (by kernel_rfl)) (fun _ _ _ h => h) (Or.inl ⟨by rfl, ?_⟩) ?_ ?_
   rotate_left
   ·intro w'
    go_simp
    with_reducible rfl
   rotate_left
   ·simp only [Act.put, List.setIfInBounds_toArray, List.set_cons_zero, List.set_cons_succ, i64_w, i32_w]
    rfl
   refine done_ (qex HT_.out (by kernel_rfl)) ?_
   have qit : w10.cell? ⟨qfx, 0, none⟩ = some (.int .i64 a0_0) := (qb qfq.out 0).trans rfl
   have qig : w10.cell? ⟨qfx, 1, none⟩ = some (.int .i64 a0_1) := (qb qfq.out 1).trans rfl
   have qij : w10.cell? ⟨qfx, 2, none⟩ = some (.int .i64 a0_2) := (qb qfq.out 2).trans rfl
   have qih : w10.cell? ⟨qfx, 3, none⟩ = some (.string a0_3) := (qb qfq.out 3).trans rfl
   have qbo7 : w10.cell? ⟨qfx, 4, none⟩ = some (.int .i64 a0_4) := (qb qfq.out 4).trans rfl
   have qbo0 : w10.cell? ⟨qfx, 5, none⟩ = some (.int .i64 a0_5) := (qb qfq.out 5).trans rfl
   have qbon : w10.cell? ⟨qfx, 6, none⟩ = some (.string a0_6) := (qb qfq.out 6).trans rfl
   have qbo2 : w10.cell? ⟨qfx, 7, none⟩ = some (.slice A0_7 l0_7.length c0_7) := (qb qfq.out 7).trans rfl
   have qbq7 : w10.cell? ⟨qfx, 8, none⟩ = some (.slice A0_8 l0_8.length c0_8) := (qb qfq.out 8).trans rfl
   have qbp1 : w10.cell? ⟨qfx, 9, none⟩ = some (.slice A0_9 l0_9.length c0_9) := (qb qfq.out 9).trans rfl
   have qif := qa qfq.out 0
   have qin := qa qfq.out 1
   have qik := qa qfq.out 2
   have qio := qa qfq.out 3
   have qbou := qa qfq.out 4
   have qbp3 := qa qfq.out 5
   have qbpd := qa qfq.out 6
   have qbpn := qa qfq.out 7
   have qbo1 := qa qfq.out 8
   have qbp2 := qa qfq.out 9
   try go_wp2
   go_ret
   exact ⟨by first | rfl | (simp [qx, qy] <;> rfl) | (simp [*, qx, qy] <;> rfl), by repeat (first | (with_reducible first | exact HB.out | apply qg | apply qd | apply qh | refine ql ?_ qo5.out) | exact HB.out)⟩
  ·rw [if_neg c5] at H
   have c5b0 : (a0_1 == t133) = false := beq_eq_false_iff_ne.mpr c5
   have c5b1 : (a0_1 != t133) = true := bne_iff_ne.mpr c5
   obtain rfl := Option.some.inj H
   go_enter Tryd.func68, Tryd.ntmps68
   try go_wp2_with (first | ((with_reducible refine qb0 (N := 1) rfl ?_); refine qby ?hg (N := 1) ?hd (cs := #[.int .i64 a0_0, .int .i64 a0_1, .int .i64 a0_2, .string a0_3, .int .i64 a0_4, .int .i64 a0_5, .string a0_6, .slice A0_7 l0_7.length c0_7, .slice A0_8 l0_8.length c0_8, .slice A0_9 l0_9.length c0_9]) (t := 30) ?hr ?_; (case hd => rfl); (case hg => rfl); (case hr => first | (go_simp; done) | (go_simp; rfl)); intro qfx hg w12 hbox hb; have n0_ := qc.mk (q9 (by repeat (first | (with_reducible first | exact HB.out | apply qg | apply qd | apply qh) | exact HB.out)) hb); have n1_ := qc.mk (hbox); have n2_ := qc.mk ((by rw [hg]; exact (qba (by repeat (first | (with_reducible first | exact HB.out | apply qg | apply qd | apply qh) | exact HB.out))) : w.heap.size ≤ qfx)); have n3_ := qc.mk ((by rw [hg]; exact (qba (by repeat (first | (with_reducible first | exact HB.out | apply qg | apply qd | apply qh) | exact HB.out))) : w.heap.size ≤ qfx)); clear HB; have HB := n0_; have qfq := n1_; have qbj7 := n2_; have qo5 := n3_; clear n0_ n1_ n2_ n3_; clear hb hbox hg; have q12 : w12.cell? ⟨qfx, 0, none⟩ = some (.int .i64 a0_0) := (qb qfq.out 0).trans rfl; have q3k : w12.cell? ⟨qfx, 1, none⟩ = some (.int .i64 a0_1) := (qb qfq.out 1).trans rfl; have qzv : w12.cell? ⟨qfx, 2, none⟩ = some (.int .i64 a0_2) := (qb qfq.out 2).trans rfl; have q1h : w12.cell? ⟨qfx, 3, none⟩ = some (.string a0_3) := (qb qfq.out 3).trans rfl; have q4k : w12.cell? ⟨qfx, 4, none⟩ = some (.int .i64 a0_4) := (qb qfq.out 4).trans rfl; have q3q : w12.cell? ⟨qfx, 5, none⟩ = some (.int .i64 a0_5) := (qb qfq.out 5).trans rfl; have q6e : w12.cell? ⟨qfx, 6, none⟩ = some (.string a0_6) := (qb qfq.out 6).trans rfl; have q4r : w12.cell? ⟨qfx, 7, none⟩ = some (.slice A0_7 l0_7.length c0_7) := (qb qfq.out 7).trans rfl; have q4e : w12.cell? ⟨qfx, 8, none⟩ = some (.slice A0_8 l0_8.length c0_8) := (qb qfq.out 8).trans rfl; have q39 : w12.cell? ⟨qfx, 9, none⟩ = some (.slice A0_9 l0_9.length c0_9) := (qb qfq.out 9).trans rfl; have qk1 := qa qfq.out 0; have qk3 := qa qfq.out 1; have qkh := qa qfq.out 2; have qkc := qa qfq.out 3; have qk9 := qa qfq.out 4; have qke := qa qfq.out 5; have qkf := qa qfq.out 6; have qkw := qa qfq.out 7; have qko := qa qfq.out 8; have qkz := qa qfq.out 9))
   have n0_ := qc.mk (qm qfq.out)
   have n1_ := qc.mk (qh HB.out)
   clear qfq
   clear HB
   have qfq := n0_
   have HB := n1_
   clear n0_ n1_
   refine qe9 (n := 14) (S := fun w' => w'.cell? ⟨qfx, 0, none⟩ = some (.int .i64 a0_0) ∧ w'.cell? ⟨qfx, 1, none⟩ = some (.int .i64 a0_1) ∧ w'.cell? ⟨qfx, 2, none⟩ = some (.int .i64 a0_2) ∧ w'.cell? ⟨qfx, 3, none⟩ = some (.string a0_3) ∧ w'.cell? ⟨qfx, 4, none⟩ = some (.int .i64 a0_4) ∧ w'.cell? ⟨qfx, 5, none⟩ = some (.int .i64 a0_5) ∧ w'.cell? ⟨qfx, 6, none⟩ = some (.string a0_6) ∧ w'.cell? ⟨qfx, 7, none⟩ = some (.slice A0_7 l0_7.length c0_7) ∧ w'.cell? ⟨qfx, 8, none⟩ = some (.slice A0_8 l0_8.length c0_8) ∧ w'.cell? ⟨qfx, 9, none⟩ = some (.slice A0_9 l0_9.length c0_9)) (ds := []) #[false, false, false, false, false, false, false, false, false, false, false, false, false, false] (by kernel_rfl) rfl rfl ⟨(qb qfq.out 0).trans rfl, (qb qfq.out 1).trans rfl, (qb qfq.out 2).trans rfl, (qb qfq.out 3).trans rfl, (qb qfq.out 4).trans rfl, (qb qfq.out 5).trans rfl, (qb qfq.out 6).trans rfl, (qb qfq.out 7).trans rfl, (qb qfq.out 8).trans rfl, (qb qfq.out 9).trans rfl⟩ (fun hHeld => ?_); refine qei qch.tab4 qch.bits4 (fun HT_ HW_ => ?_)
   generalize w12.drew = w14 at qfq HB hHeld ⊢
   refine pure_ (i := 0) (N := some 9) (v := ?_) (a' := ?_) #[true, false, false, false, false, false, false, false, false, false, false, false, false, false] rfl rfl (qcf HT_.out (by kernel_rfl)) (fun _ _ _ h => h) (Or.inl ⟨by rfl, ?_⟩) ?_ ?_
   rotate_left
   ·intro w'
    go_simp
    with_reducible rfl
   rotate_left
   ·simp only [Act.put, List.setIfInBounds_toArray, List.set_cons_zero, List.set_cons_succ, i64_w, i32_w]
    rfl
   refine pure_ (i := 2) (N := some 11) (v := ?_) (a' := ?_) #[true, false, true, false, false, false, false, false, false, false, false, false, false, false] rfl rfl (qcf HT_.out (by kernel_rfl)) (fun _ _ _ h => h) (Or.inl ⟨by rfl, ?_⟩) ?_ ?_
   rotate_left
   ·intro w'
    go_simp
    with_reducible rfl
   rotate_left
   ·simp only [Act.put, List.setIfInBounds_toArray, List.set_cons_zero, List.set_cons_succ, i64_w, i32_w]
    rfl
   refine pure_ (i := 6) (N := some 15) (v := ?_) (a' := ?_) #[true, false, true, false, false, false, true, false, false, false, false, false, false, false] rfl rfl (qcf HT_.out (by kernel_rfl)) (fun _ _ _ h => h) (Or.inl ⟨by rfl, ?_⟩) ?_ ?_
   rotate_left
   ·intro w'
    go_simp
    with_reducible rfl
   rotate_left
   ·simp only [Act.put, List.setIfInBounds_toArray, List.set_cons_zero, List.set_cons_succ, i64_w, i32_w]
    rfl
   refine pure_ (i := 8) (N := some 17) (v := ?_) (a' := ?_) #[true, false, true, false, false, false, true, false, true, false, false, false, false, false] rfl rfl (qcf HT_.out (by kernel_rfl)) (fun _ _ _ h => h) (Or.inl ⟨by rfl, ?_⟩) ?_ ?_
   rotate_left
   ·intro w'
    go_simp
    with_reducible rfl
   rotate_left
   ·simp only [Act.put, List.setIfInBounds_toArray, List.set_cons_zero, List.set_cons_succ, i64_w, i32_w]
    rfl
   refine take_ (i := 1) (N := some 10) (v := ?_) (a' := ?_) #[true, true, true, false, false, false, true, false, true, false, false, false, false, false] rfl rfl (qcn HT_.out HW_.out (by kernel_rfl)) (fun _ _ _ h => h) (Or.inl ⟨by rfl, ?_⟩) hHeld ?_ ?_
   rotate_left
   ·rintro w' ⟨s0, s1, s2, s3, s4, s5, s6, s7, s8, s9⟩
    go_simp
    with_reducible rfl
   rotate_left
   ·simp only [Act.put, List.setIfInBounds_toArray, List.set_cons_zero, List.set_cons_succ, i64_w, i32_w]
    rfl
   refine take_ (i := 3) (N := some 12) (v := ?_) (a' := ?_) #[true, true, true, true, false, false, true, false, true, false, false, false, false, false] rfl rfl (qcn HT_.out HW_.out (by kernel_rfl)) (fun _ _ _ h => h) (Or.inl ⟨by rfl, ?_⟩) hHeld ?_ ?_
   rotate_left
   ·rintro w' ⟨s0, s1, s2, s3, s4, s5, s6, s7, s8, s9⟩
    go_simp
    with_reducible rfl
   rotate_left
   ·simp only [Act.put, List.setIfInBounds_toArray, List.set_cons_zero, List.set_cons_succ, i64_w, i32_w]
    rfl
   refine pure_ (i := 4) (N := some 13) (v := ?_) (a' := ?_) #[true, true, true, true, true, false, true, false, true, false, false, false, false, false] rfl rfl (qcf HT_.out (by kernel_rfl)) (fun _ _ _ h => h) (Or.inl ⟨by rfl, ?_⟩) ?_ ?_
   rotate_left
   ·intro w'
    go_simp
    with_reducible rfl
   rotate_left
   ·simp only [Act.put, List.setIfInBounds_toArray, List.set_cons_zero, List.set_cons_succ, i64_w, i32_w]
    rfl
   refine take_ (i := 7) (N := some 16) (v := ?_) (a' := ?_) #[true, true, true, true, true, false, true, true, true, false, false, false, false, false] rfl rfl (qcn HT_.out HW_.out (by kernel_rfl)) (fun _ _ _ h => h) (Or.inl ⟨by rfl, ?_⟩) hHeld ?_ ?_
   rotate_left
   ·rintro w' ⟨s0, s1, s2, s3, s4, s5, s6, s7, s8, s9⟩
    go_simp
    with_reducible rfl
   rotate_left
   ·simp only [Act.put, List.setIfInBounds_toArray, List.set_cons_zero, List.set_cons_succ, i64_w, i32_w]
    rfl
   refine take_ (i := 9) (N := some 18) (v := ?_) (a' := ?_) #[true, true, true, true, true, false, true, true, true, true, false, false, false, false] rfl rfl (qcn HT_.out HW_.out (by kernel_rfl)) (fun _ _ _ h => h) (Or.inl ⟨by rfl, ?_⟩) hHeld ?_ ?_
   rotate_left
   ·rintro w' ⟨s0, s1, s2, s3, s4, s5, s6, s7, s8, s9⟩
    go_simp
    with_reducible rfl
   rotate_left
   ·simp only [Act.put, List.setIfInBounds_toArray, List.set_cons_zero, List.set_cons_succ, i64_w, i32_w]
    rfl
   refine pure_ (i := 10) (N := some 19) (v := ?_) (a' := ?_) #[true, true, true, true, true, false, true, true, true, true, true, false, false, false] rfl rfl (qcf HT_.out (by kernel_rfl)) (fun _ _ _ h => h) (Or.inl ⟨by rfl, ?_⟩) ?_ ?_
   rotate_left
   ·intro w'
    go_simp
    with_reducible rfl
   rotate_left
   ·simp only [Act.put, List.setIfInBounds_toArray, List.set_cons_zero, List.set_cons_succ, i64_w, i32_w]
    rfl
   refine one_ (i := 5) (N := some 14) #[true, true, true, true, true, true, true, true, true, true, true, false, false, false] rfl rfl (qee HT_.out (by kernel_rfl)) (by decide) (fun K hK => ?_)
   refine goes_ Tryd.func80 (by kernel_rfl) rfl #[.int .i64 a0_1, .int .i64 1, .int .i64 (l0_8.length : Int)] (by rfl) rfl rfl (by (try simp only [List.map_toArray, List.map_cons, List.map_nil]); first | done | rfl | (simp only [List.length_drop, List.length_take]; rfl)) ?_
   with_reducible refine (qcl.calls a0_1 1 (l0_8.length : Int) t133 _ A3.out).mono ?_
   rintro e w15 ⟨rfl, hb⟩
   refine ⟨_, rfl, ?_⟩
   have n0_ := qc.mk (qbb (g := qfx) (o := .cells #[.int .i64 a0_0, .int .i64 a0_1, .int .i64 a0_2, .string a0_3, .int .i64 a0_4, .int .i64 a0_5, .string a0_6, .slice A0_7 l0_7.length c0_7, .slice A0_8 l0_8.length c0_8, .slice A0_9 l0_9.length c0_9] 30 (0, 0)) (by (with_reducible repeat (first | refine qj ?_ _ | refine qm ?_ | refine qi ?_ _)); exact qfq.out) hb)
   have n1_ := qc.mk (q9 (by repeat (first | (with_reducible first | exact HB.out | apply qg | apply qd | apply qh | refine ql ?_ qo5.out) | exact HB.out)) hb)
   clear qfq
   clear HB
   have qfq := n0_
   have HB := n1_
   clear n0_ n1_
   (try clear hb)
   (try clear hb2)
   (try clear hk)
   (try clear hi)
   refine hK.out _ _ ⟨(qb qfq.out 0).trans rfl, (qb qfq.out 1).trans rfl, (qb qfq.out 2).trans rfl, (qb qfq.out 3).trans rfl, (qb qfq.out 4).trans rfl, (qb qfq.out 5).trans rfl, (qb qfq.out 6).trans rfl, (qb qfq.out 7).trans rfl, (qb qfq.out 8).trans rfl, (qb qfq.out 9).trans rfl⟩ (fun hHeld => ?_)
   clear hK K
   refine norm_ (a' := ?_) ?_ ?_
   rotate_left
   ·show Act.put _ (some 14) _ = _
    simp only [Act.put, List.setIfInBounds_toArray, List.set_cons_zero, List.set_cons_succ, i64_w, i32_w]
    rfl
   refine one_ (i := 11) (N := some 20) #[true, true, true, true, true, true, true, true, true, true, true, true, false, false] rfl rfl (qee HT_.out (by kernel_rfl)) (by decide) (fun K hK => ?_)
   refine goes_ Tryd.func80 (by kernel_rfl) rfl #[.int .i64 a0_2, .int .i64 1, .int .i64 (l0_8.length : Int)] (by rfl) rfl rfl (by (try simp only [List.map_toArray, List.map_cons, List.map_nil]); first | done | rfl | (simp only [List.length_drop, List.length_take]; rfl)) ?_
   with_reducible refine (qcl.calls a0_2 1 (l0_8.length : Int) t134 _ A4.out).mono ?_
   rintro e w16 ⟨rfl, hb⟩
   refine ⟨_, rfl, ?_⟩
   have n0_ := qc.mk (qbb (g := qfx) (o := .cells #[.int .i64 a0_0, .int .i64 a0_1, .int .i64 a0_2, .string a0_3, .int .i64 a0_4, .int .i64 a0_5, .string a0_6, .slice A0_7 l0_7.length c0_7, .slice A0_8 l0_8.length c0_8, .slice A0_9 l0_9.length c0_9] 30 (0, 0)) (by (with_reducible repeat (first | refine qj ?_ _ | refine qm ?_ | refine qi ?_ _)); exact qfq.out) hb)
   have n1_ := qc.mk (q9 (by repeat (first | (with_reducible first | exact HB.out | apply qg | apply qd | apply qh | refine ql ?_ qo5.out) | exact HB.out)) hb)
   clear qfq
   clear HB
   have qfq := n0_
   have HB := n1_
   clear n0_ n1_
   (try clear hb)
   (try clear hb2)
   (try clear hk)
   (try clear hi)
   refine hK.out _ _ ⟨(qb qfq.out 0).trans rfl, (qb qfq.out 1).trans rfl, (qb qfq.out 2).trans rfl, (qb qfq.out 3).trans rfl, (qb qfq.out 4).trans rfl, (qb qfq.out 5).trans rfl, (qb qfq.out 6).trans rfl, (qb qfq.out 7).trans rfl, (qb qfq.out 8).trans rfl, (qb qfq.out 9).trans rfl⟩ (fun hHeld => ?_)
   clear hK K
   refine norm_ (a' := ?_) ?_ ?_
   rotate_left
   ·show Act.put _ (some 20) _ = _
    simp only [Act.put, List.setIfInBounds_toArray, List.set_cons_zero, List.set_cons_succ, i64_w, i32_w]
    rfl
   refine pure_ (i := 12) (N := some 3) (v := ?_) (a' := ?_) #[true, true, true, true, true, true, true, true, true, true, true, true, true, false] rfl rfl (qcf HT_.out (by kernel_rfl)) (fun _ _ _ h => h) (Or.inl ⟨by rfl, ?_⟩) ?_ ?_
   rotate_left
   ·intro w'
    go_simp
    with_reducible rfl
   rotate_left
   ·simp only [Act.put, List.setIfInBounds_toArray, List.set_cons_zero, List.set_cons_succ, i64_w, i32_w]
    rfl
   refine pure_ (i := 13) (N := some 4) (v := ?_) (a' := ?_) #[true, true, true, true, true, true, true, true, true, true, true, true, true, true] rfl rfl (qcf HT_.out (by kernel_rfl)) (fun _ _ _ h => h) (Or.inl ⟨by rfl, ?_⟩) ?_ ?_
   rotate_left
   ·intro w'
    go_simp
    with_reducible rfl
   rotate_left
   ·simp only [Act.put, List.setIfInBounds_toArray, List.set_cons_zero, List.set_cons_succ, i64_w, i32_w]
    rfl
   refine done_ (qex HT_.out (by kernel_rfl)) ?_
   have q4m : w16.cell? ⟨qfx, 0, none⟩ = some (.int .i64 a0_0) := (qb qfq.out 0).trans rfl
   have q1k : w16.cell? ⟨qfx, 1, none⟩ = some (.int .i64 a0_1) := (qb qfq.out 1).trans rfl
   have qz5 : w16.cell? ⟨qfx, 2, none⟩ = some (.int .i64 a0_2) := (qb qfq.out 2).trans rfl
   have q44 : w16.cell? ⟨qfx, 3, none⟩ = some (.string a0_3) := (qb qfq.out 3).trans rfl
   have qbbp : w16.cell? ⟨qfx, 4, none⟩ = some (.int .i64 a0_4) := (qb qfq.out 4).trans rfl
   have q9j : w16.cell? ⟨qfx, 5, none⟩ = some (.int .i64 a0_5) := (qb qfq.out 5).trans rfl
   have q83 : w16.cell? ⟨qfx, 6, none⟩ = some (.string a0_6) := (qb qfq.out 6).trans rfl
   have qbdc : w16.cell? ⟨qfx, 7, none⟩ = some (.slice A0_7 l0_7.length c0_7) := (qb qfq.out 7).trans rfl
   have qbbi : w16.cell? ⟨qfx, 8, none⟩ = some (.slice A0_8 l0_8.length c0_8) := (qb qfq.out 8).trans rfl
   have qbdz : w16.cell? ⟨qfx, 9, none⟩ = some (.slice A0_9 l0_9.length c0_9) := (qb qfq.out 9).trans rfl
   have q5a := qa qfq.out 0
   have q1c := qa qfq.out 1
   have qzq := qa qfq.out 2
   have q14 := qa qfq.out 3
   have q7h := qa qfq.out 4
   have q9w := qa qfq.out 5
   have q9m := qa qfq.out 6
   have q7s := qa qfq.out 7
   have qbbm := qa qfq.out 8
   have qba5 := qa qfq.out 9
   try go_wp2
   go_ret
   exact ⟨by first | rfl | (simp [qx, qy] <;> rfl) | (simp [*, qx, qy] <;> rfl), by repeat (first | (with_reducible first | exact HB.out | apply qg | apply qd | apply qh | refine ql ?_ qo5.out) | exact HB.out)⟩
 ·rw [if_neg c2] at H
  have c2b0 : (a0_0 == 4) = false := beq_eq_false_iff_ne.mpr c2
  have c2b1 : (a0_0 != 4) = true := bne_iff_ne.mpr c2
  by_cases c18 : a0_0 = 6
  ·rw [if_pos c18] at H
   have c18b0 : (a0_0 == 6) = true := beq_iff_eq.mpr c18
   have c18b1 : (a0_0 != 6) = false := bne_eq_false_iff_eq.mpr c18
   clear c18
   replace H := Option.bind_eq_some_iff.mp H
   obtain ⟨t135, A190, H⟩ := H
   replace H : (if a0_1 = t135 then (some (a0_2 == 0)) else (some false)) = some r := H
   have A19 := qc.mk A190
   clear A190
   by_cases c20 : a0_1 = t135
   ·rw [if_pos c20] at H
    have c20b0 : (a0_1 == t135) = true := beq_iff_eq.mpr c20
    have c20b1 : (a0_1 != t135) = false := bne_eq_false_iff_eq.mpr c20
    clear c20
    obtain rfl := Option.some.inj H
    go_enter Tryd.func68, Tryd.ntmps68
    go_wp2_with (first | ((with_reducible refine qb0 (N := 1) rfl ?_); refine qby ?hg (N := 1) ?hd (cs := #[.int .i64 a0_0, .int .i64 a0_1, .int .i64 a0_2, .string a0_3, .int .i64 a0_4, .int .i64 a0_5, .string a0_6, .slice A0_7 l0_7.length c0_7, .slice A0_8 l0_8.length c0_8, .slice A0_9 l0_9.length c0_9]) (t := 30) ?hr ?_; (case hd => rfl); (case hg => rfl); (case hr => first | (go_simp; done) | (go_simp; rfl)); intro qfx hg w21 hbox hb; have n0_ := qc.mk (q9 (by repeat (first | (with_reducible first | exact HB.out | apply qg | apply qd | apply qh) | exact HB.out)) hb); have n1_ := qc.mk (hbox); have n2_ := qc.mk ((by rw [hg]; exact (qba (by repeat (first | (with_reducible first | exact HB.out | apply qg | apply qd | apply qh) | exact HB.out))) : w.heap.size ≤ qfx)); have n3_ := qc.mk ((by rw [hg]; exact (qba (by repeat (first | (with_reducible first | exact HB.out | apply qg | apply qd | apply qh) | exact HB.out))) : w.heap.size ≤ qfx)); clear HB; have HB := n0_; have qfq := n1_; have qbj7 := n2_; have qo5 := n3_; clear n0_ n1_ n2_ n3_; clear hb hbox hg; have qnw : w21.cell? ⟨qfx, 0, none⟩ = some (.int .i64 a0_0) := (qb qfq.out 0).trans rfl; have qon : w21.cell? ⟨qfx, 1, none⟩ = some (.int .i64 a0_1) := (qb qfq.out 1).trans rfl; have qog : w21.cell? ⟨qfx, 2, none⟩ = some (.int .i64 a0_2) := (qb qfq.out 2).trans rfl; have qn8 : w21.cell? ⟨qfx, 3, none⟩ = some (.string a0_3) := (qb qfq.out 3).trans rfl; have qbvu : w21.cell? ⟨qfx, 4, none⟩ = some (.int .i64 a0_4) := (qb qfq.out 4).trans rfl; have qbwp : w21.cell? ⟨qfx, 5, none⟩ = some (.int .i64 a0_5) := (qb qfq.out 5).trans rfl; have qbuf : w21.cell? ⟨qfx, 6, none⟩ = some (.string a0_6) := (qb qfq.out 6).trans rfl; have qbud : w21.cell? ⟨qfx, 7, none⟩ = some (.slice A0_7 l0_7.length c0_7) := (qb qfq.out 7).trans rfl; have qbt6 : w21.cell? ⟨qfx, 8, none⟩ = some (.slice A0_8 l0_8.length c0_8) := (qb qfq.out 8).trans rfl; have qbtz : w21.cell? ⟨qfx, 9, none⟩ = some (.slice A0_9 l0_9.length c0_9) := (qb qfq.out 9).trans rfl; have qof := qa qfq.out 0; have qny := qa qfq.out 1; have qok := qa qfq.out 2; have qn1 := qa qfq.out 3; have qbv5 := qa qfq.out 4; have qbtv := qa qfq.out 5; have qbus := qa qfq.out 6; have qbvs := qa qfq.out 7; have qbv2 := qa qfq.out 8; have qbvi := qa qfq.out 9) | ((with_reducible refine qb5 (f := 80) rfl ?_); refine qcj (some 25) rfl rfl Tryd.func80 (by kernel_rfl) rfl #[.int .i64 a0_1, .int .i64 1, .int .i64 1000] rfl (by (try simp only [List.map_toArray, List.map_cons, List.map_nil]); first | done | rfl | (simp only [List.length_drop, List.length_take]; rfl)) ?_; (with_reducible refine (qcl.calls a0_1 1 1000 t135 _ A19.out).mono ?_); rintro e w23 ⟨rfl, hb⟩; refine ⟨_, rfl, ?_⟩; have n0_ := qc.mk (qbb (g := qfx) (o := .cells #[.int .i64 a0_0, .int .i64 a0_1, .int .i64 a0_2, .string a0_3, .int .i64 a0_4, .int .i64 a0_5, .string a0_6, .slice A0_7 l0_7.length c0_7, .slice A0_8 l0_8.length c0_8, .slice A0_9 l0_9.length c0_9] 30 (0, 0)) (by (with_reducible repeat (first | refine qj ?_ _ | refine qm ?_ | refine qi ?_ _)); exact qfq.out) hb); have n1_ := qc.mk (q9 (by repeat (first | (with_reducible first | exact HB.out | apply qg | apply qd | apply qh | refine ql ?_ qo5.out) | exact HB.out)) hb); clear qfq; clear HB; have qfq := n0_; have HB := n1_; clear n0_ n1_; (try clear hb); (try clear hb2); (try clear hk); (try clear hi); have qbef : w23.cell? ⟨qfx, 0, none⟩ = some (.int .i64 a0_0) := (qb qfq.out 0).trans rfl; have qbej : w23.cell? ⟨qfx, 1, none⟩ = some (.int .i64 a0_1) := (qb qfq.out 1).trans rfl; have qbde : w23.cell? ⟨qfx, 2, none⟩ = some (.int .i64 a0_2) := (qb qfq.out 2).trans rfl; have q9i : w23.cell? ⟨qfx, 3, none⟩ = some (.string a0_3) := (qb qfq.out 3).trans rfl; have qbbw : w23.cell? ⟨qfx, 4, none⟩ = some (.int .i64 a0_4) := (qb qfq.out 4).trans rfl; have qbdv : w23.cell? ⟨qfx, 5, none⟩ = some (.int .i64 a0_5) := (qb qfq.out 5).trans rfl; have q8s : w23.cell? ⟨qfx, 6, none⟩ = some (.string a0_6) := (qb qfq.out 6).trans rfl; have q9p : w23.cell? ⟨qfx, 7, none⟩ = some (.slice A0_7 l0_7.length c0_7) := (qb qfq.out 7).trans rfl; have qbag : w23.cell? ⟨qfx, 8, none⟩ = some (.slice A0_8 l0_8.length c0_8) := (qb qfq.out 8).trans rfl; have qbd2 : w23.cell? ⟨qfx, 9, none⟩ = some (.slice A0_9 l0_9.length c0_9) := (qb qfq.out 9).trans rfl; have qbbl := qa qfq.out 0; have q9f := qa qfq.out 1; have q7q := qa qfq.out 2; have q7f := qa qfq.out 3; have qbc0 := qa qfq.out 4; have qbel := qa qfq.out 5; have qbea := qa qfq.out 6; have q8v := qa qfq.out 7; have q7o := qa qfq.out 8; have qbbn := qa qfq.out 9))
    go_ret
    exact ⟨by first | rfl | (simp [qx, qy] <;> rfl) | (simp [*, qx, qy] <;> rfl), by repeat (first | (with_reducible first | exact HB.out | apply qg | apply qd | apply qh | refine ql ?_ qo5.out) | exact HB.out)⟩
   ·rw [if_neg c20] at H
    have c20b0 : (a0_1 == t135) = false := beq_eq_false_iff_ne.mpr c20
    have c20b1 : (a0_1 != t135) = true := bne_iff_ne.mpr c20
    obtain rfl := Option.some.inj H
    go_enter Tryd.func68, Tryd.ntmps68
    go_wp2_with (first | ((with_reducible refine qb0 (N := 1) rfl ?_); refine qby ?hg (N := 1) ?hd (cs := #[.int .i64 a0_0, .int .i64 a0_1, .int .i64 a0_2, .string a0_3, .int .i64 a0_4, .int .i64 a0_5, .string a0_6, .slice A0_7 l0_7.length c0_7, .slice A0_8 l0_8.length c0_8, .slice A0_9 l0_9.length c0_9]) (t := 30) ?hr ?_; (case hd => rfl); (case hg => rfl); (case hr => first | (go_simp; done) | (go_simp; rfl)); intro qfx hg w25 hbox hb; have n0_ := qc.mk (q9 (by repeat (first | (with_reducible first | exact HB.out | apply qg | apply qd | apply qh) | exact HB.out)) hb); have n1_ := qc.mk (hbox); have n2_ := qc.mk ((by rw [hg]; exact (qba (by repeat (first | (with_reducible first | exact HB.out | apply qg | apply qd | apply qh) | exact HB.out))) : w.heap.size ≤ qfx)); have n3_ := qc.mk ((by rw [hg]; exact (qba (by repeat (first | (with_reducible first | exact HB.out | apply qg | apply qd | apply qh) | exact HB.out))) : w.heap.size ≤ qfx)); clear HB; have HB := n0_; have qfq := n1_; have qbj7 := n2_; have qo5 := n3_; clear n0_ n1_ n2_ n3_; clear hb hbox hg; have qu9 : w25.cell? ⟨qfx, 0, none⟩ = some (.int .i64 a0_0) := (qb qfq.out 0).trans rfl; have quj : w25.cell? ⟨qfx, 1, none⟩ = some (.int .i64 a0_1) := (qb qfq.out 1).trans rfl; have qv0 : w25.cell? ⟨qfx, 2, none⟩ = some (.int .i64 a0_2) := (qb qfq.out 2).trans rfl; have qt3 : w25.cell? ⟨qfx, 3, none⟩ = some (.string a0_3) := (qb qfq.out 3).trans rfl; have qbwj : w25.cell? ⟨qfx, 4, none⟩ = some (.int .i64 a0_4) := (qb qfq.out 4).trans rfl; have qbv4 : w25.cell? ⟨qfx, 5, none⟩ = some (.int .i64 a0_5) := (qb qfq.out 5).trans rfl; have qbty : w25.cell? ⟨qfx, 6, none⟩ = some (.string a0_6) := (qb qfq.out 6).trans rfl; have qbvf : w25.cell? ⟨qfx, 7, none⟩ = some (.slice A0_7 l0_7.length c0_7) := (qb qfq.out 7).trans rfl; have qbwq : w25.cell? ⟨qfx, 8, none⟩ = some (.slice A0_8 l0_8.length c0_8) := (qb qfq.out 8).trans rfl; have qbwd : w25.cell? ⟨qfx, 9, none⟩ = some (.slice A0_9 l0_9.length c0_9) := (qb qfq.out 9).trans rfl; have qt7 := qa qfq.out 0; have qum := qa qfq.out 1; have qvb := qa qfq.out 2; have qt6 := qa qfq.out 3; have qbv1 := qa qfq.out 4; have qbv8 := qa qfq.out 5; have qbt2 := qa qfq.out 6; have qbtx := qa qfq.out 7; have qbt9 := qa qfq.out 8; have qbuc := qa qfq.out 9) | ((with_reducible refine qb5 (f := 80) rfl ?_); refine qcj (some 25) rfl rfl Tryd.func80 (by kernel_rfl) rfl #[.int .i64 a0_1, .int .i64 1, .int .i64 1000] rfl (by (try simp only [List.map_toArray, List.map_cons, List.map_nil]); first | done | rfl | (simp only [List.length_drop, List.length_take]; rfl)) ?_; (with_reducible refine (qcl.calls a0_1 1 1000 t135 _ A19.out).mono ?_); rintro e w27 ⟨rfl, hb⟩; refine ⟨_, rfl, ?_⟩; have n0_ := qc.mk (qbb (g := qfx) (o := .cells #[.int .i64 a0_0, .int .i64 a0_1, .int .i64 a0_2, .string a0_3, .int .i64 a0_4, .int .i64 a0_5, .string a0_6, .slice A0_7 l0_7.length c0_7, .slice A0_8 l0_8.length c0_8, .slice A0_9 l0_9.length c0_9] 30 (0, 0)) (by (with_reducible repeat (first | refine qj ?_ _ | refine qm ?_ | refine qi ?_ _)); exact qfq.out) hb); have n1_ := qc.mk (q9 (by repeat (first | (with_reducible first | exact HB.out | apply qg | apply qd | apply qh | refine ql ?_ qo5.out) | exact HB.out)) hb); clear qfq; clear HB; have qfq := n0_; have HB := n1_; clear n0_ n1_; (try clear hb); (try clear hb2); (try clear hk); (try clear hi); have qbkw : w27.cell? ⟨qfx, 0, none⟩ = some (.int .i64 a0_0) := (qb qfq.out 0).trans rfl; have qbib : w27.cell? ⟨qfx, 1, none⟩ = some (.int .i64 a0_1) := (qb qfq.out 1).trans rfl; have qbj9 : w27.cell? ⟨qfx, 2, none⟩ = some (.int .i64 a0_2) := (qb qfq.out 2).trans rfl; have qbgt : w27.cell? ⟨qfx, 3, none⟩ = some (.string a0_3) := (qb qfq.out 3).trans rfl; have qbis : w27.cell? ⟨qfx, 4, none⟩ = some (.int .i64 a0_4) := (qb qfq.out 4).trans rfl; have qbg1 : w27.cell? ⟨qfx, 5, none⟩ = some (.int .i64 a0_5) := (qb qfq.out 5).trans rfl; have qbi8 : w27.cell? ⟨qfx, 6, none⟩ = some (.string a0_6) := (qb qfq.out 6).trans rfl; have qbjl : w27.cell? ⟨qfx, 7, none⟩ = some (.slice A0_7 l0_7.length c0_7) := (qb qfq.out 7).trans rfl; have qbkb : w27.cell? ⟨qfx, 8, none⟩ = some (.slice A0_8 l0_8.length c0_8) := (qb qfq.out 8).trans rfl; have qbjm : w27.cell? ⟨qfx, 9, none⟩ = some (.slice A0_9 l0_9.length c0_9) := (qb qfq.out 9).trans rfl; have qbf9 := qa qfq.out 0; have qbgj := qa qfq.out 1; have qbk9 := qa qfq.out 2; have qbhn := qa qfq.out 3; have qbk7 := qa qfq.out 4; have qbgd := qa qfq.out 5; have qbkh := qa qfq.out 6; have qbgv := qa qfq.out 7; have qbkp := qa qfq.out 8; have qbfz := qa qfq.out 9))
    go_ret
    exact ⟨by first | rfl | (simp [qx, qy] <;> rfl) | (simp [*, qx, qy] <;> rfl), by repeat (first | (with_reducible first | exact HB.out | apply qg | apply qd | apply qh | refine ql ?_ qo5.out) | exact HB.out)⟩
  ·rw [if_neg c18] at H
   have c18b0 : (a0_0 == 6) = false := beq_eq_false_iff_ne.mpr c18
   have c18b1 : (a0_0 != 6) = true := bne_iff_ne.mpr c18
   by_cases c29 : a0_1 = 0
   ·rw [if_pos c29] at H
    have c29b0 : (a0_1 == 0) = true := beq_iff_eq.mpr c29
    have c29b1 : (a0_1 != 0) = false := bne_eq_false_iff_eq.mpr c29
    clear c29
    obtain rfl := Option.some.inj H
    go_enter Tryd.func68, Tryd.ntmps68
    go_wp2_with (first | ((with_reducible refine qb0 (N := 1) rfl ?_); refine qby ?hg (N := 1) ?hd (cs := #[.int .i64 a0_0, .int .i64 a0_1, .int .i64 a0_2, .string a0_3, .int .i64 a0_4, .int .i64 a0_5, .string a0_6, .slice A0_7 l0_7.length c0_7, .slice A0_8 l0_8.length c0_8, .slice A0_9 l0_9.length c0_9]) (t := 30) ?hr ?_; (case hd => rfl); (case hg => rfl); (case hr => first | (go_simp; done) | (go_simp; rfl)); intro qfx hg w30 hbox hb; have n0_ := qc.mk (q9 (by repeat (first | (with_reducible first | exact HB.out | apply qg | apply qd | apply qh) | exact HB.out)) hb); have n1_ := qc.mk (hbox); have n2_ := qc.mk ((by rw [hg]; exact (qba (by repeat (first | (with_reducible first | exact HB.out | apply qg | apply qd | apply qh) | exact HB.out))) : w.heap.size ≤ qfx)); have n3_ := qc.mk ((by rw [hg]; exact (qba (by repeat (first | (with_reducible first | exact HB.out | apply qg | apply qd | apply qh) | exact HB.out))) : w.heap.size ≤ qfx)); clear HB; have HB := n0_; have qfq := n1_; have qbj7 := n2_; have qo5 := n3_; clear n0_ n1_ n2_ n3_; clear hb hbox hg; have qm0 : w30.cell? ⟨qfx, 0, none⟩ = some (.int .i64 a0_0) := (qb qfq.out 0).trans rfl; have qm9 : w30.cell? ⟨qfx, 1, none⟩ = some (.int .i64 a0_1) := (qb qfq.out 1).trans rfl; have qmw : w30.cell? ⟨qfx, 2, none⟩ = some (.int .i64 a0_2) := (qb qfq.out 2).trans rfl; have qna : w30.cell? ⟨qfx, 3, none⟩ = some (.string a0_3) := (qb qfq.out 3).trans rfl; have qbpf : w30.cell? ⟨qfx, 4, none⟩ = some (.int .i64 a0_4) := (qb qfq.out 4).trans rfl; have qbp9 : w30.cell? ⟨qfx, 5, none⟩ = some (.int .i64 a0_5) := (qb qfq.out 5).trans rfl; have qboq : w30.cell? ⟨qfx, 6, none⟩ = some (.string a0_6) := (qb qfq.out 6).trans rfl; have qboo : w30.cell? ⟨qfx, 7, none⟩ = some (.slice A0_7 l0_7.length c0_7) := (qb qfq.out 7).trans rfl; have qbpi : w30.cell? ⟨qfx, 8, none⟩ = some (.slice A0_8 l0_8.length c0_8) := (qb qfq.out 8).trans rfl; have qbq6 : w30.cell? ⟨qfx, 9, none⟩ = some (.slice A0_9 l0_9.length c0_9) := (qb qfq.out 9).trans rfl; have qm4 := qa qfq.out 0; have qng := qa qfq.out 1; have qm3 := qa qfq.out 2; have qm1 := qa qfq.out 3; have qbqf := qa qfq.out 4; have qbqm := qa qfq.out 5; have qbpk := qa qfq.out 6; have qbpb := qa qfq.out 7; have qbq2 := qa qfq.out 8; have qbp5 := qa qfq.out 9))
    go_ret
    exact ⟨by first | rfl | (simp [qx, qy] <;> rfl) | (simp [*, qx, qy] <;> rfl), by repeat (first | (with_reducible first | exact HB.out | apply qg | apply qd | apply qh | refine ql ?_ qo5.out) | exact HB.out)⟩
   ·rw [if_neg c29] at H
    have c29b0 : (a0_1 == 0) = false := beq_eq_false_iff_ne.mpr c29
    have c29b1 : (a0_1 != 0) = true := bne_iff_ne.mpr c29
    obtain rfl := Option.some.inj H
    go_enter Tryd.func68, Tryd.ntmps68
    go_wp2_with (first | ((with_reducible refine qb0 (N := 1) rfl ?_); refine qby ?hg (N := 1) ?hd (cs := #[.int .i64 a0_0, .int .i64 a0_1, .int .i64 a0_2, .string a0_3, .int .i64 a0_4, .int .i64 a0_5, .string a0_6, .slice A0_7 l0_7.length c0_7, .slice A0_8 l0_8.length c0_8, .slice A0_9 l0_9.length c0_9]) (t := 30) ?hr ?_; (case hd => rfl); (case hg => rfl); (case hr => first | (go_simp; done) | (go_simp; rfl)); intro qfx hg w32 hbox hb; have n0_ := qc.mk (q9 (by repeat (first | (with_reducible first | exact HB.out | apply qg | apply qd | apply qh) | exact HB.out)) hb); have n1_ := qc.mk (hbox); have n2_ := qc.mk ((by rw [hg]; exact (qba (by repeat (first | (with_reducible first | exact HB.out | apply qg | apply qd | apply qh) | exact HB.out))) : w.heap.size ≤ qfx)); have n3_ := qc.mk ((by rw [hg]; exact (qba (by repeat (first | (with_reducible first | exact HB.out | apply qg | apply qd | apply qh) | exact HB.out))) : w.heap.size ≤ qfx)); clear HB; have HB := n0_; have qfq := n1_; have qbj7 := n2_; have qo5 := n3_; clear n0_ n1_ n2_ n3_; clear hb hbox hg; have qs2 : w32.cell? ⟨qfx, 0, none⟩ = some (.int .i64 a0_0) := (qb qfq.out 0).trans rfl; have qsn : w32.cell? ⟨qfx, 1, none⟩ = some (.int .i64 a0_1) := (qb qfq.out 1).trans rfl; have qr6 : w32.cell? ⟨qfx, 2, none⟩ = some (.int .i64 a0_2) := (qb qfq.out 2).trans rfl; have qpt : w32.cell? ⟨qfx, 3, none⟩ = some (.string a0_3) := (qb qfq.out 3).trans rfl; have q5s : w32.cell? ⟨qfx, 4, none⟩ = some (.int .i64 a0_4) := (qb qfq.out 4).trans rfl; have q2r : w32.cell? ⟨qfx, 5, none⟩ = some (.int .i64 a0_5) := (qb qfq.out 5).trans rfl; have q4n : w32.cell? ⟨qfx, 6, none⟩ = some (.string a0_6) := (qb qfq.out 6).trans rfl; have q11 : w32.cell? ⟨qfx, 7, none⟩ = some (.slice A0_7 l0_7.length c0_7) := (qb qfq.out 7).trans rfl; have q1p : w32.cell? ⟨qfx, 8, none⟩ = some (.slice A0_8 l0_8.length c0_8) := (qb qfq.out 8).trans rfl; have q0w : w32.cell? ⟨qfx, 9, none⟩ = some (.slice A0_9 l0_9.length c0_9) := (qb qfq.out 9).trans rfl; have qkm := qa qfq.out 0; have qkt := qa qfq.out 1; have qkx := qa qfq.out 2; have qk6 := qa qfq.out 3; have qol := qa qfq.out 4; have qor := qa qfq.out 5; have qnp := qa qfq.out 6; have qoh := qa qfq.out 7; have qo2 := qa qfq.out 8; have qo4 := qa qfq.out 9))
    go_ret
    exact ⟨by first | rfl | (simp [qx, qy] <;> rfl) | (simp [*, qx, qy] <;> rfl), by repeat (first | (with_reducible first | exact HB.out | apply qg | apply qd | apply qh | refine ql ?_ qo5.out) | exact HB.out)⟩
def qec.f (a0_0 : Int) (a0_1 : Int) (a0_2 : ByteArray) (l0_3 : List (S27)) : Option (Bool) := if a0_0 = 0 then (if a0_1 = 0 then (if a0_2.toList = ([] : List UInt8) then (some ((l0_3.length : Int) == 0)) else (some false)) else (some false)) else (some false)
set_option maxHeartbeats 8000000 in
set_option maxRecDepth 100000 in
theorem qec.calls (a0_0 : Int) (a0_1 : Int) (a0_2 : ByteArray) (A0_3 : Option Addr) (c0_3 : Nat) (l0_3 : List (S27)) (r : Bool) (w : World) (qh5 : Kd.C k27 w A0_3 l0_3.length l0_3) (qhr : l0_3.length ≤ c0_3) (h : qec.f a0_0 a0_1 a0_2 l0_3 = some r) :
  Calls Tryd.prog 81 #[.agg #[.int .i64 a0_0, .int .i64 a0_1, .string a0_2, .slice A0_3 l0_3.length c0_3]] w fun e w' => e = .returned (.bool r) ∧ Below w.heap.size w w' := by
 have hu27 := Tryd.underlying27
 have qo8 := qc.mk qh5
 have qwf := qc.mk qhr
 clear qh5 qhr
 have HB := qc.mk (Below.refl w.heap.size w)
 have H : (if a0_0 = 0 then (if a0_1 = 0 then (if a0_2.toList = ([] : List UInt8) then (some ((l0_3.length : Int) == 0)) else (some false)) else (some false)) else (some false)) = some r := h
 clear h
 by_cases c2 : a0_0 = 0
 ·rw [if_pos c2] at H
  have c2b0 : (a0_0 == 0) = true := beq_iff_eq.mpr c2
  have c2b1 : (a0_0 != 0) = false := bne_eq_false_iff_eq.mpr c2
  clear c2
  by_cases c3 : a0_1 = 0
  ·rw [if_pos c3] at H
   have c3b0 : (a0_1 == 0) = true := beq_iff_eq.mpr c3
   have c3b1 : (a0_1 != 0) = false := bne_eq_false_iff_eq.mpr c3
   clear c3
   by_cases c4 : a0_2.toList = ([] : List UInt8)
   ·rw [if_pos c4] at H
    have c4b0 : (a0_2.toList == ([] : List UInt8)) = true := beq_iff_eq.mpr c4
    have c4b1 : (a0_2.toList != ([] : List UInt8)) = false := bne_eq_false_iff_eq.mpr c4
    clear c4
    obtain rfl := Option.some.inj H
    go_enter Tryd.func81, Tryd.ntmps81
    go_wp2_with (first | ((with_reducible refine qb0 (N := 1) rfl ?_); (try (refine qcc (by rfl) ?_; dsimp only)); refine qby ?hg (N := 1) ?hd (cs := #[.int .i64 a0_0, .int .i64 a0_1, .string a0_2, .slice A0_3 l0_3.length c0_3]) (t := 27) ?hr ?_; (case hd => rfl); (case hg => rfl); (case hr => first | (go_simp; done) | (go_simp; rfl)); intro qi5 hg w5 hbox hb; have n0_ := qc.mk (q9 (by repeat (first | (with_reducible first | exact HB.out | apply qg | apply qd | apply qh) | exact HB.out)) hb); have n1_ := qc.mk (hbox); have n2_ := qc.mk ((by rw [hg]; exact (qba (by repeat (first | (with_reducible first | exact HB.out | apply qg | apply qd | apply qh) | exact HB.out))) : w.heap.size ≤ qi5)); have n3_ := qc.mk ((by rw [hg]; exact (qba (by repeat (first | (with_reducible first | exact HB.out | apply qg | apply qd | apply qh) | exact HB.out))) : w.heap.size ≤ qi5)); clear HB; have HB := n0_; have qhq := n1_; have qbpl := n2_; have qbbo := n3_; clear n0_ n1_ n2_ n3_; clear hb hbox hg; have q6s : w5.cell? ⟨qi5, 0, none⟩ = some (.int .i64 a0_0) := (qb qhq.out 0).trans rfl; have q64 : w5.cell? ⟨qi5, 1, none⟩ = some (.int .i64 a0_1) := (qb qhq.out 1).trans rfl; have q6w : w5.cell? ⟨qi5, 2, none⟩ = some (.string a0_2) := (qb qhq.out 2).trans rfl; have q60 : w5.cell? ⟨qi5, 3, none⟩ = some (.slice A0_3 l0_3.length c0_3) := (qb qhq.out 3).trans rfl; have q6v := qa qhq.out 0; have q6p := qa qhq.out 1; have q6q := qa qhq.out 2; have q65 := qa qhq.out 3))
    go_ret
    exact ⟨by first | rfl | (simp [qx, qy] <;> rfl) | (simp [*, qx, qy] <;> rfl), by repeat (first | (with_reducible first | exact HB.out | apply qg | apply qd | apply qh | refine ql ?_ qbbo.out) | exact HB.out)⟩
   ·rw [if_neg c4] at H
    have c4b0 : (a0_2.toList == ([] : List UInt8)) = false := beq_eq_false_iff_ne.mpr c4
    have c4b1 : (a0_2.toList != ([] : List UInt8)) = true := bne_iff_ne.mpr c4
    obtain rfl := Option.some.inj H
    go_enter Tryd.func81, Tryd.ntmps81
    go_wp2_with (first | ((with_reducible refine qb0 (N := 1) rfl ?_); (try (refine qcc (by rfl) ?_; dsimp only)); refine qby ?hg (N := 1) ?hd (cs := #[.int .i64 a0_0, .int .i64 a0_1, .string a0_2, .slice A0_3 l0_3.length c0_3]) (t := 27) ?hr ?_; (case hd => rfl); (case hg => rfl); (case hr => first | (go_simp; done) | (go_simp; rfl)); intro qi5 hg w7 hbox hb; have n0_ := qc.mk (q9 (by repeat (first | (with_reducible first | exact HB.out | apply qg | apply qd | apply qh) | exact HB.out)) hb); have n1_ := qc.mk (hbox); have n2_ := qc.mk ((by rw [hg]; exact (qba (by repeat (first | (with_reducible first | exact HB.out | apply qg | apply qd | apply qh) | exact HB.out))) : w.heap.size ≤ qi5)); have n3_ := qc.mk ((by rw [hg]; exact (qba (by repeat (first | (with_reducible first | exact HB.out | apply qg | apply qd | apply qh) | exact HB.out))) : w.heap.size ≤ qi5)); clear HB; have HB := n0_; have qhq := n1_; have qbpl := n2_; have qbbo := n3_; clear n0_ n1_ n2_ n3_; clear hb hbox hg; have qbob : w7.cell? ⟨qi5, 0, none⟩ = some (.int .i64 a0_0) := (qb qhq.out 0).trans rfl; have qbn5 : w7.cell? ⟨qi5, 1, none⟩ = some (.int .i64 a0_1) := (qb qhq.out 1).trans rfl; have qbnz : w7.cell? ⟨qi5, 2, none⟩ = some (.string a0_2) := (qb qhq.out 2).trans rfl; have qboc : w7.cell? ⟨qi5, 3, none⟩ = some (.slice A0_3 l0_3.length c0_3) := (qb qhq.out 3).trans rfl; have qboe := qa qhq.out 0; have qbn0 := qa qhq.out 1; have qboh := qa qhq.out 2; have qbny := qa qhq.out 3))
    go_ret
    exact ⟨by first | rfl | (simp [qx, qy] <;> rfl) | (simp [*, qx, qy] <;> rfl), by repeat (first | (with_reducible first | exact HB.out | apply qg | apply qd | apply qh | refine ql ?_ qbbo.out) | exact HB.out)⟩
  ·rw [if_neg c3] at H
   have c3b0 : (a0_1 == 0) = false := beq_eq_false_iff_ne.mpr c3
   have c3b1 : (a0_1 != 0) = true := bne_iff_ne.mpr c3
   obtain rfl := Option.some.inj H
   go_enter Tryd.func81, Tryd.ntmps81
   go_wp2_with (first | ((with_reducible refine qb0 (N := 1) rfl ?_); (try (refine qcc (by rfl) ?_; dsimp only)); refine qby ?hg (N := 1) ?hd (cs := #[.int .i64 a0_0, .int .i64 a0_1, .string a0_2, .slice A0_3 l0_3.length c0_3]) (t := 27) ?hr ?_; (case hd => rfl); (case hg => rfl); (case hr => first | (go_simp; done) | (go_simp; rfl)); intro qi5 hg w9 hbox hb; have n0_ := qc.mk (q9 (by repeat (first | (with_reducible first | exact HB.out | apply qg | apply qd | apply qh) | exact HB.out)) hb); have n1_ := qc.mk (hbox); have n2_ := qc.mk ((by rw [hg]; exact (qba (by repeat (first | (with_reducible first | exact HB.out | apply qg | apply qd | apply qh) | exact HB.out))) : w.heap.size ≤ qi5)); have n3_ := qc.mk ((by rw [hg]; exact (qba (by repeat (first | (with_reducible first | exact HB.out | apply qg | apply qd | apply qh) | exact HB.out))) : w.heap.size ≤ qi5)); clear HB; have HB := n0_; have qhq := n1_; have qbpl := n2_; have qbbo := n3_; clear n0_ n1_ n2_ n3_; clear hb hbox hg; have qqf : w9.cell? ⟨qi5, 0, none⟩ = some (.int .i64 a0_0) := (qb qhq.out 0).trans rfl; have qpy : w9.cell? ⟨qi5, 1, none⟩ = some (.int .i64 a0_1) := (qb qhq.out 1).trans rfl; have qs1 : w9.cell? ⟨qi5, 2, none⟩ = some (.string a0_2) := (qb qhq.out 2).trans rfl; have qp8 : w9.cell? ⟨qi5, 3, none⟩ = some (.slice A0_3 l0_3.length c0_3) := (qb qhq.out 3).trans rfl; have qlu := qa qhq.out 0; have qmg := qa qhq.out 1; have ql6 := qa qhq.out 2; have ql5 := qa qhq.out 3))
   go_ret
   exact ⟨by first | rfl | (simp [qx, qy] <;> rfl) | (simp [*, qx, qy] <;> rfl), by repeat (first | (with_reducible first | exact HB.out | apply qg | apply qd | apply qh | refine ql ?_ qbbo.out) | exact HB.out)⟩
 ·rw [if_neg c2] at H
  have c2b0 : (a0_0 == 0) = false := beq_eq_false_iff_ne.mpr c2
  have c2b1 : (a0_0 != 0) = true := bne_iff_ne.mpr c2
  obtain rfl := Option.some.inj H
  go_enter Tryd.func81, Tryd.ntmps81
  go_wp2_with (first | ((with_reducible refine qb0 (N := 1) rfl ?_); (try (refine qcc (by rfl) ?_; dsimp only)); refine qby ?hg (N := 1) ?hd (cs := #[.int .i64 a0_0, .int .i64 a0_1, .string a0_2, .slice A0_3 l0_3.length c0_3]) (t := 27) ?hr ?_; (case hd => rfl); (case hg => rfl); (case hr => first | (go_simp; done) | (go_simp; rfl)); intro qi5 hg w11 hbox hb; have n0_ := qc.mk (q9 (by repeat (first | (with_reducible first | exact HB.out | apply qg | apply qd | apply qh) | exact HB.out)) hb); have n1_ := qc.mk (hbox); have n2_ := qc.mk ((by rw [hg]; exact (qba (by repeat (first | (with_reducible first | exact HB.out | apply qg | apply qd | apply qh) | exact HB.out))) : w.heap.size ≤ qi5)); have n3_ := qc.mk ((by rw [hg]; exact (qba (by repeat (first | (with_reducible first | exact HB.out | apply qg | apply qd | apply qh) | exact HB.out))) : w.heap.size ≤ qi5)); clear HB; have HB := n0_; have qhq := n1_; have qbpl := n2_; have qbbo := n3_; clear n0_ n1_ n2_ n3_; clear hb hbox hg; have qbpp : w11.cell? ⟨qi5, 0, none⟩ = some (.int .i64 a0_0) := (qb qhq.out 0).trans rfl; have qbpm : w11.cell? ⟨qi5, 1, none⟩ = some (.int .i64 a0_1) := (qb qhq.out 1).trans rfl; have qbq1 : w11.cell? ⟨qi5, 2, none⟩ = some (.string a0_2) := (qb qhq.out 2).trans rfl; have qbo4 : w11.cell? ⟨qi5, 3, none⟩ = some (.slice A0_3 l0_3.length c0_3) := (qb qhq.out 3).trans rfl; have qbqj := qa qhq.out 0; have qbos := qa qhq.out 1; have qbqg := qa qhq.out 2; have qbom := qa qhq.out 3))
  go_ret
  exact ⟨by first | rfl | (simp [qx, qy] <;> rfl) | (simp [*, qx, qy] <;> rfl), by repeat (first | (with_reducible first | exact HB.out | apply qg | apply qd | apply qh | refine ql ?_ qbbo.out) | exact HB.out)⟩
end Go.Proofs.YtpgkhmdfddejfaaDoor.PV
end
