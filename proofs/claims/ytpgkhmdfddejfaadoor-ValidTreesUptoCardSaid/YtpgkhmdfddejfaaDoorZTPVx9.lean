import Derived.Test.YtpgkhmdfddejfaaDoorZTPVx0
import Derived.Test.YtpgkhmdfddejfaaDoorZTPVx8
section
namespace Go.Proofs.YtpgkhmdfddejfaaDoor.PV
open Go.RowKit Go.Proofs.YtpgkhmdfddejfaaDoorW.PrintWords Go.Proofs.YtpgkhmdfddejfaaDoorW.PrintLast Go.Proofs.YtpgkhmdfddejfaaDoorW.PrintMore
attribute [local go_sem] qcw qcv qdb qda qcr qcq qcu qcx   -- for this text's walks alone
set_option linter.unusedVariables false
set_option linter.unusedSimpArgs false
def qcb.f (k : Nat) (l0 : List (S36)) : Option (Bool) := (qco.f k l0).bind fun qbqr => (some qbqr.2.2.2.2.2.2.2.2.2.2)
theorem qcb.mono : ∀ a0 k, LeO (qcb.f k a0) (qcb.f (k + 1) a0) := by
 intro a0 k
 unfold qcb.f
 repeat' first
   | (with_reducible exact qco.mono _ _)
   | (with_reducible exact LeO.refl _)
   | (with_reducible exact LeO.none _)
   | (with_reducible refine LeO.ite ?_ ?_)
   | (with_reducible refine LeO.bind ?_ (fun _ => ?_))
   | exact qco.mono _ _
   | exact LeO.none _
   | refine LeO.ite ?_ ?_
   | refine LeO.bind ?_ (fun _ => ?_)
set_option maxHeartbeats 8000000 in
set_option maxRecDepth 100000 in
theorem qcb.calls (k : Nat) (A0 : Option Addr) (c0 : Nat) (l0 : List (S36)) (r : Bool) (w : World) (hr0 : Kd.C k36 w A0 l0.length l0) (hc0 : l0.length ≤ c0) (hG : Lay w) (h : qcb.f k l0 = some r) :
  Calls Tryd.prog 8 #[.slice A0 l0.length c0] w fun e w' => e = .returned (.bool r) ∧ Below w.heap.size w w' := by
 have hu30 := Tryd.underlying30
 have HR0 := qc.mk hr0
 have HC0 := qc.mk hc0
 clear hr0 hc0
 have HB := qc.mk (Below.refl w.heap.size w)
 have HLAY := qc.mk hG
 clear hG
 have H : ((qco.f k l0).bind fun qbqr => (some qbqr.2.2.2.2.2.2.2.2.2.2)) = some r := h
 clear h
 replace H := Option.bind_eq_some_iff.mp H
 obtain ⟨⟨t177, t178, t179, t180, t181, t182, t183, t184, t187, t190, t193⟩, A20, H⟩ := H
 replace H : (some t193) = some r := H
 have A2 := qc.mk A20
 clear A20
 obtain rfl := Option.some.inj H
 go_enter Tryd.func8, Tryd.ntmps8
 go_wp2_with (first | ((with_reducible refine qb5 (f := 18) rfl ?_); refine qcj (some 7) rfl rfl Tryd.func18 (by kernel_rfl) rfl #[.slice A0 l0.length c0] rfl (by (try simp only [List.map_toArray, List.map_cons, List.map_nil]); first | done | rfl | (simp only [List.length_drop, List.length_take]; rfl)) ?_; (with_reducible refine (qco.calls k _ _ l0 t177 t178 t179 t180 t181 t182 t183 t184 t187 t190 t193 _ ?side1 ?side2 ?side3 A2.out).mono ?_); (case side1 => repeat (first | exact HR0.out | (with_reducible refine Kd.qb3 ?_ _) | (with_reducible refine Kd.qb1 ?_ _) | (with_reducible refine Kd.qb7 ?_))); (case side2 => exact HC0.out); (case side3 => exact Lay.below HLAY.out (by repeat (first | (with_reducible first | exact HB.out | apply qg | apply qd | apply qh) | exact HB.out))); rintro e w3 ⟨v185, v188, v191, rfl, ho0, ho1, ho2, hb⟩; refine ⟨_, rfl, ?_⟩; have n0_ := qc.mk (Kd.V_lower (Kd.qfa (ok' := fun k_ => True) ho0 (fun k_ hk_ => trivial)) (qba (by repeat (first | (with_reducible first | exact HB.out | apply qg | apply qd | apply qh) | exact HB.out)))); have n1_ := qc.mk (Kd.V_lower (Kd.qfa (ok' := fun k_ => True) ho1 (fun k_ hk_ => trivial)) (qba (by repeat (first | (with_reducible first | exact HB.out | apply qg | apply qd | apply qh) | exact HB.out)))); have n2_ := qc.mk (Kd.V_lower (Kd.qfa (ok' := fun k_ => True) ho2 (fun k_ hk_ => trivial)) (qba (by repeat (first | (with_reducible first | exact HB.out | apply qg | apply qd | apply qh) | exact HB.out)))); have n3_ := qc.mk (q9 (by repeat (first | (with_reducible first | exact HB.out | apply qg | apply qd | apply qh) | exact HB.out)) hb); clear HB; have qbm7 := n0_; have qbna := n1_; have qbl7 := n2_; have HB := n3_; clear n0_ n1_ n2_ n3_; (try clear hb); (try clear hb2); (try clear hk); (try clear hi); (try clear ho0); (try clear ho1); (try clear ho2)) | ((with_reducible refine qb0 (N := 3) rfl ?_); refine qby ?hg (N := 3) ?hd (cs := #[.int .i64 0, .int .i64 0, .int .i64 0, .string (⟨#[]⟩ : ByteArray), .int .i64 0, .int .i64 0, .string (⟨#[]⟩ : ByteArray), .slice none 0 0, .slice none 0 0, .slice none 0 0]) (t := 30) ?hr ?_; (case hd => rfl); (case hg => rfl); (case hr => first | (go_simp; done) | (go_simp; rfl)); intro qrp hg w4 hbox hb; have n0_ := qc.mk (Kd.V_below (Kd.V_elderB (by (with_reducible repeat (first | apply Kd.V_alloc | apply Kd.V_drewN | apply Kd.V_drew)); exact qbm7.out) qrp (Nat.le_of_eq hg.symm)) hb); have n1_ := qc.mk (Kd.V_below (Kd.V_elderB (by (with_reducible repeat (first | apply Kd.V_alloc | apply Kd.V_drewN | apply Kd.V_drew)); exact qbna.out) qrp (Nat.le_of_eq hg.symm)) hb); have n2_ := qc.mk (Kd.V_below (Kd.V_elderB (by (with_reducible repeat (first | apply Kd.V_alloc | apply Kd.V_drewN | apply Kd.V_drew)); exact qbl7.out) qrp (Nat.le_of_eq hg.symm)) hb); have n3_ := qc.mk (q9 (by repeat (first | (with_reducible first | exact HB.out | apply qg | apply qd | apply qh) | exact HB.out)) hb); have n4_ := qc.mk (hbox); have n5_ := qc.mk ((by rw [hg]; exact (qba (by repeat (first | (with_reducible first | exact HB.out | apply qg | apply qd | apply qh) | exact HB.out))) : w.heap.size ≤ qrp)); have n6_ := qc.mk ((by rw [hg]; exact (qba (by repeat (first | (with_reducible first | exact HB.out | apply qg | apply qd | apply qh) | exact HB.out))) : w.heap.size ≤ qrp)); clear qbm7; clear qbna; clear qbl7; clear HB; have qbm7 := n0_; have qbna := n1_; have qbl7 := n2_; have HB := n3_; have qmr := n4_; have qbyo := n5_; have qbvx := n6_; clear n0_ n1_ n2_ n3_ n4_ n5_ n6_; clear hb hbox hg; have qbi4 : w4.cell? ⟨qrp, 0, none⟩ = some (.int .i64 0) := (qb qmr.out 0).trans rfl; have qbj3 : w4.cell? ⟨qrp, 1, none⟩ = some (.int .i64 0) := (qb qmr.out 1).trans rfl; have qbio : w4.cell? ⟨qrp, 2, none⟩ = some (.int .i64 0) := (qb qmr.out 2).trans rfl; have qbfw : w4.cell? ⟨qrp, 3, none⟩ = some (.string (⟨#[]⟩ : ByteArray)) := (qb qmr.out 3).trans rfl; have qbjt : w4.cell? ⟨qrp, 4, none⟩ = some (.int .i64 0) := (qb qmr.out 4).trans rfl; have qbhx : w4.cell? ⟨qrp, 5, none⟩ = some (.int .i64 0) := (qb qmr.out 5).trans rfl; have qbi9 : w4.cell? ⟨qrp, 6, none⟩ = some (.string (⟨#[]⟩ : ByteArray)) := (qb qmr.out 6).trans rfl; have qbh3 : w4.cell? ⟨qrp, 7, none⟩ = some (.slice none 0 0) := (qb qmr.out 7).trans rfl; have qbku : w4.cell? ⟨qrp, 8, none⟩ = some (.slice none 0 0) := (qb qmr.out 8).trans rfl; have qbkz : w4.cell? ⟨qrp, 9, none⟩ = some (.slice none 0 0) := (qb qmr.out 9).trans rfl; have qbk6 := qa qmr.out 0; have qbj5 := qa qmr.out 1; have qbi6 := qa qmr.out 2; have qbf3 := qa qmr.out 3; have qbi7 := qa qmr.out 4; have qbhs := qa qmr.out 5; have qbkc := qa qmr.out 6; have qbh9 := qa qmr.out 7; have qbf6 := qa qmr.out 8; have qbij := qa qmr.out 9; obtain ⟨Ao6, co6, eo6⟩ := Kd.V_slice qbm7.out; subst eo6; obtain ⟨Ao7, co7, eo7⟩ := Kd.V_slice qbna.out; subst eo7; obtain ⟨Ao8, co8, eo8⟩ := Kd.V_slice qbl7.out; subst eo8))
 go_ret
 exact ⟨by first | rfl | (simp [qx, qy] <;> rfl) | (simp [*, qx, qy] <;> rfl), by repeat (first | (with_reducible first | exact HB.out | apply qg | apply qd | apply qh | refine ql ?_ qbvx.out) | exact HB.out)⟩
def qcm.f (k : Nat)  : Option (Bool) := (qcb.f k ([] : List (S36))).bind fun t195 => (if t195 = true then (some false) else ((qcb.f k (([(⟨13, 0, 0, 1, (-1), (⟨#[]⟩ : ByteArray), (⟨0, 0, (⟨#[]⟩ : ByteArray), ([] : List (S27))⟩ : S27), ([] : List (S27))⟩ : S36)] : List (S36)))).bind fun t199 => (some t199)))
theorem qcm.mono : ∀ k, LeO (qcm.f k ) (qcm.f (k + 1) ) := by
 intro  k
 unfold qcm.f
 repeat' first
   | (with_reducible exact qcb.mono _ _)
   | (with_reducible exact LeO.refl _)
   | (with_reducible exact LeO.none _)
   | (with_reducible refine LeO.ite ?_ ?_)
   | (with_reducible refine LeO.bind ?_ (fun _ => ?_))
   | exact qcb.mono _ _
   | exact LeO.none _
   | refine LeO.ite ?_ ?_
   | refine LeO.bind ?_ (fun _ => ?_)
set_option maxHeartbeats 8000000 in
set_option maxRecDepth 100000 in
theorem qcm.calls (k : Nat)  (r : Bool) (w : World) (hG : Lay w) (h : qcm.f k  = some r) :
  Calls Tryd.prog 7 #[] w fun e w' => e = .returned (.bool r) ∧ Below w.heap.size w w' := by
 have hu36 := Tryd.underlying36
 have HB := qc.mk (Below.refl w.heap.size w)
 have HLAY := qc.mk hG
 clear hG
 have H : ((qcb.f k ([] : List (S36))).bind fun t195 => (if t195 = true then (some false) else ((qcb.f k (([(⟨13, 0, 0, 1, (-1), (⟨#[]⟩ : ByteArray), (⟨0, 0, (⟨#[]⟩ : ByteArray), ([] : List (S27))⟩ : S27), ([] : List (S27))⟩ : S36)] : List (S36)))).bind fun t199 => (some t199)))) = some r := h
 clear h
 replace H := Option.bind_eq_some_iff.mp H
 obtain ⟨t195, A10, H⟩ := H
 replace H : (if t195 = true then (some false) else ((qcb.f k (([(⟨13, 0, 0, 1, (-1), (⟨#[]⟩ : ByteArray), (⟨0, 0, (⟨#[]⟩ : ByteArray), ([] : List (S27))⟩ : S27), ([] : List (S27))⟩ : S36)] : List (S36)))).bind fun t199 => (some t199))) = some r := H
 have A1 := qc.mk A10
 clear A10
 by_cases c2 : t195 = true
 ·subst c2
  have H1 : (some false) = some r := by rw [if_pos rfl] at H; exact H
  clear H
  have H := H1
  clear H1
  obtain rfl := Option.some.inj H
  go_enter Tryd.func7, Tryd.ntmps7
  go_wp2_with (first | ((with_reducible refine qb5 (f := 8) rfl ?_); refine qcj (some 1) rfl rfl Tryd.func8 (by kernel_rfl) rfl #[.slice none 0 0] rfl (by (try simp only [List.map_toArray, List.map_cons, List.map_nil]); first | done | rfl | (simp only [List.length_drop, List.length_take]; rfl)) ?_; (refine (qcb.calls k _ _ ([] : List (S36)) true _ ?side1 ?side2 ?side3 A1.out).mono ?_); (case side1 => exact Kd.C_nil _ _); (case side2 => exact Nat.le_refl _); (case side3 => exact Lay.below HLAY.out (by repeat (first | (with_reducible first | exact HB.out | apply qg | apply qd | apply qh) | exact HB.out))); rintro e w3 ⟨rfl, hb⟩; refine ⟨_, rfl, ?_⟩; have n0_ := qc.mk (q9 (by repeat (first | (with_reducible first | exact HB.out | apply qg | apply qd | apply qh) | exact HB.out)) hb); clear HB; have HB := n0_; clear n0_; (try clear hb); (try clear hb2); (try clear hk); (try clear hi)))
  go_ret
  exact ⟨by first | rfl | (simp [qx, qy] <;> rfl) | (simp [*, qx, qy] <;> rfl), by repeat (first | (with_reducible first | exact HB.out | apply qg | apply qd | apply qh) | exact HB.out)⟩
 ·replace c2 := Bool.eq_false_iff.mpr c2
  subst c2
  have H1 : ((qcb.f k (([(⟨13, 0, 0, 1, (-1), (⟨#[]⟩ : ByteArray), (⟨0, 0, (⟨#[]⟩ : ByteArray), ([] : List (S27))⟩ : S27), ([] : List (S27))⟩ : S36)] : List (S36)))).bind fun t199 => (some t199)) = some r := by rw [if_neg (show ¬ (false = true) by decide)] at H; exact H
  clear H
  have H := H1
  clear H1
  obtain ⟨y196, qbi0⟩ : ∃ y_ : List (S36), y_ = (([(⟨13, 0, 0, 1, (-1), (⟨#[]⟩ : ByteArray), (⟨0, 0, (⟨#[]⟩ : ByteArray), ([] : List (S27))⟩ : S27), ([] : List (S27))⟩ : S36)] : List (S36))) := ⟨_, rfl⟩
  replace H : ((qcb.f k y196).bind fun t199 => (some t199)) = some r := by first | (rw [qbi0]; with_reducible exact H) | (have H2_ := (Option.bind_some _ _).symm.trans H; rw [qbi0]; with_reducible exact H2_) | (have H2_ := (Option.bind_some _ _).symm.trans H; with_reducible exact H2_) | with_reducible exact H | (rw [qbi0]; exact H) | exact H
  have qbsn := qc.mk qbi0
  clear qbi0
  replace H := Option.bind_eq_some_iff.mp H
  obtain ⟨t199, A40, H⟩ := H
  replace H : (some t199) = some r := H
  have A4 := qc.mk A40
  clear A40
  obtain rfl := Option.some.inj H
  go_enter Tryd.func7, Tryd.ntmps7
  go_wp2_with (first | ((with_reducible refine qb5 (f := 8) rfl ?_); refine qcj (some 1) rfl rfl Tryd.func8 (by kernel_rfl) rfl #[.slice none 0 0] rfl (by (try simp only [List.map_toArray, List.map_cons, List.map_nil]); first | done | rfl | (simp only [List.length_drop, List.length_take]; rfl)) ?_; (refine (qcb.calls k _ _ ([] : List (S36)) false _ ?side1 ?side2 ?side3 A1.out).mono ?_); (case side1 => exact Kd.C_nil _ _); (case side2 => exact Nat.le_refl _); (case side3 => exact Lay.below HLAY.out (by repeat (first | (with_reducible first | exact HB.out | apply qg | apply qd | apply qh) | exact HB.out))); rintro e w5 ⟨rfl, hb⟩; refine ⟨_, rfl, ?_⟩; have n0_ := qc.mk (q9 (by repeat (first | (with_reducible first | exact HB.out | apply qg | apply qd | apply qh) | exact HB.out)) hb); clear HB; have HB := n0_; clear n0_; (try clear hb); (try clear hb2); (try clear hk); (try clear hi)) | ((with_reducible refine qb0 (N := 5) rfl ?_); (try (refine qcc (by rfl) ?_; dsimp only)); refine Kd.R_lit k36 _ 36 ?hg (N := 5) ?hd (xs := ([(⟨13, 0, 0, 1, (-1), (⟨#[]⟩ : ByteArray), (⟨0, 0, (⟨#[]⟩ : ByteArray), ([] : List (S27))⟩ : S27), ([] : List (S27))⟩ : S36)] : List (S36))) (inner := [.int .i64 13, .int .i64 0, .int .i64 0, .int .i64 1, .int .i64 (-1), .string (⟨#[]⟩ : ByteArray), .int .i64 0, .int .i64 0, .string (⟨#[]⟩ : ByteArray), .slice none 0 0, .slice none 0 0]) (ok := fun _ => True) (okp := fun _ => True) ?hr ?hp (fun _ hk => hk) trivial (Below.refl _ _) (Nat.le_refl _) (by simp) ?_; (case hd => rfl); (case hg => rfl); (case hr => first | (go_simp; done) | (go_simp; rfl)); (case hp => exact (Reps.front (show Kd.M k36 _ _ _ (⟨13, 0, 0, 1, (-1), (⟨#[]⟩ : ByteArray), (⟨0, 0, (⟨#[]⟩ : ByteArray), ([] : List (S27))⟩ : S27), ([] : List (S27))⟩ : S36) [.int .i64 13, .int .i64 0, .int .i64 0, .int .i64 1, .int .i64 (-1), .string (⟨#[]⟩ : ByteArray), .int .i64 0, .int .i64 0, .string (⟨#[]⟩ : ByteArray), .slice none 0 0, .slice none 0 0] from (k36_mkM _ _ _ (⟨13, 0, 0, 1, (-1), (⟨#[]⟩ : ByteArray), (⟨0, 0, (⟨#[]⟩ : ByteArray), ([] : List (S27))⟩ : S27), ([] : List (S27))⟩ : S36) (Kd.R_nil _ _ _ _ _) (Kd.R_nil _ _ _ _ _))) rfl (Reps.none _ _) rfl)); intro v197 w6 ho7 hb hg_ hnew_; clear hg_ hnew_; (first | rw [← qbsn.out] at ho7 | (simp only [Int.reduceToNat] at ho7; rw [← qbsn.out] at ho7)); have n0_ := qc.mk (Kd.qd7 ho7 (qba (by repeat (first | (with_reducible first | exact HB.out | apply qg | apply qd | apply qh) | exact HB.out)))); have n1_ := qc.mk (q9 (by repeat (first | (with_reducible first | exact HB.out | apply qg | apply qd | apply qh) | exact HB.out)) hb); clear HB; have qbft := n0_; have HB := n1_; clear n0_ n1_; clear hb ho7; obtain ⟨Ao8, co8, eo8⟩ := Kd.qde qbft.out; subst eo8) | (go_at_call 8; (with_reducible refine (qcb.calls k _ _ y196 t199 _ ?side1 ?side2 ?side3 A4.out).mono ?_); (case side1 => repeat (first | exact (Kd.qds qbft.out).2.2 | (with_reducible refine Kd.qb3 ?_ _) | (with_reducible refine Kd.qb1 ?_ _) | (with_reducible refine Kd.qb7 ?_))); (case side2 => exact (Kd.qds qbft.out).2.1); (case side3 => exact Lay.below HLAY.out (by repeat (first | (with_reducible first | exact HB.out | apply qg | apply qd | apply qh) | exact HB.out))); rintro e w9 ⟨rfl, hb⟩; have n0_ := qc.mk (Kd.qfd (by (with_reducible repeat (first | apply Kd.qdm | apply Kd.qdp | apply Kd.qdw)); exact qbft.out) hb); have n1_ := qc.mk (q9 (by repeat (first | (with_reducible first | exact HB.out | apply qg | apply qd | apply qh) | exact HB.out)) hb); clear qbft; clear HB; have qbft := n0_; have HB := n1_; clear n0_ n1_; (try clear hb); (try clear hb2); (try clear hk); (try clear hi)))
  go_ret
  exact ⟨by first | rfl | (simp [qx, qy] <;> rfl) | (simp [*, qx, qy] <;> rfl), by repeat (first | (with_reducible first | exact HB.out | apply qg | apply qd | apply qh) | exact HB.out)⟩
def qbe.l0 : Nat → ByteArray → Int → Option (Bool)
 | 0, _, _ => none
 | k + 1, x0, x3 => if x3 < (x0.size : Int) then (if 0 ≤ x3 then (if (bt x0 x3) ≥ 97 then (if (bt x0 x3) ≤ 122 then (qbe.l0 k x0 (wrap64 (x3 + 1))) else (if (bt x0 x3) ≥ 65 then (if ((bt x0 x3) ≤ 90) then (qbe.l0 k x0 (wrap64 (x3 + 1))) else (if x3 = 0 then (some false) else (if (bt x0 x3) < 48 then (if (bt x0 x3) = 95 then (qbe.l0 k x0 (wrap64 (x3 + 1))) else (some false)) else (if (bt x0 x3) > 57 then (if (bt x0 x3) = 95 then (qbe.l0 k x0 (wrap64 (x3 + 1))) else (some false)) else (qbe.l0 k x0 (wrap64 (x3 + 1))))))) else (if x3 = 0 then (some false) else (if (bt x0 x3) < 48 then (if (bt x0 x3) = 95 then (qbe.l0 k x0 (wrap64 (x3 + 1))) else (some false)) else (if (bt x0 x3) > 57 then (if (bt x0 x3) = 95 then (qbe.l0 k x0 (wrap64 (x3 + 1))) else (some false)) else (qbe.l0 k x0 (wrap64 (x3 + 1)))))))) else (if (bt x0 x3) ≥ 65 then (if ((bt x0 x3) ≤ 90) then (qbe.l0 k x0 (wrap64 (x3 + 1))) else (if x3 = 0 then (some false) else (if (bt x0 x3) < 48 then (if (bt x0 x3) = 95 then (qbe.l0 k x0 (wrap64 (x3 + 1))) else (some false)) else (if (bt x0 x3) > 57 then (if (bt x0 x3) = 95 then (qbe.l0 k x0 (wrap64 (x3 + 1))) else (some false)) else (qbe.l0 k x0 (wrap64 (x3 + 1))))))) else (if x3 = 0 then (some false) else (if (bt x0 x3) < 48 then (if (bt x0 x3) = 95 then (qbe.l0 k x0 (wrap64 (x3 + 1))) else (some false)) else (if (bt x0 x3) > 57 then (if (bt x0 x3) = 95 then (qbe.l0 k x0 (wrap64 (x3 + 1))) else (some false)) else (qbe.l0 k x0 (wrap64 (x3 + 1)))))))) else (none)) else (if (x0.size : Int) ≥ 1 then (some (decide ((x0.size : Int) ≤ 24))) else (some false))
def qbe.f (k : Nat) (a0 : ByteArray) : Option (Bool) := qbe.l0 k a0 0
theorem qbe.qcg : ∀ k, (∀ y0 y1, LeO (qbe.l0 k y0 y1) (qbe.l0 (k + 1) y0 y1))
 | 0 => fun _ _ r h => by simp [qbe.l0] at h
 | k + 1 => by
  have ih0 := qbe.qcg k
  ·intro y0 y1
   unfold qbe.l0
   repeat' first
   | (with_reducible exact ih0 _ _)
   | (with_reducible exact LeO.refl _)
   | (with_reducible exact LeO.none _)
   | (with_reducible refine LeO.ite ?_ ?_)
   | (with_reducible refine LeO.bind ?_ (fun _ => ?_))
   | exact ih0 _ _
   | exact LeO.none _
   | refine LeO.ite ?_ ?_
   | refine LeO.bind ?_ (fun _ => ?_)
theorem qbe.mono : ∀ a0 k, LeO (qbe.f k a0) (qbe.f (k + 1) a0) := by
 intro a0 k
 have ih0 := qbe.qcg k
 unfold qbe.f
 repeat' first
   | (with_reducible exact ih0 _ _)
   | (with_reducible exact LeO.refl _)
   | (with_reducible exact LeO.none _)
   | (with_reducible refine LeO.ite ?_ ?_)
   | (with_reducible refine LeO.bind ?_ (fun _ => ?_))
   | exact ih0 _ _
   | exact LeO.none _
   | refine LeO.ite ?_ ?_
   | refine LeO.bind ?_ (fun _ => ?_)
set_option maxHeartbeats 8000000 in
set_option maxRecDepth 100000 in
theorem qbe.calls (k : Nat) (a0 : ByteArray) (r : Bool) (w : World) (h : qbe.f k a0 = some r) :
  Calls Tryd.prog 45 #[.string a0] w fun e w' => e = .returned (.bool r) ∧ qbk w w' := by
 have H : (qbe.l0 k a0 0) = some r := h
 clear h
 have H' := qc.mk H
 clear H
 go_enter Tryd.func45, Tryd.ntmps45
 go_wp2
 go_loopg [3] k (fun kq v3 w' => ∃ (x3_1 : Int), v3 = .int .i64 x3_1 ∧ qc (qbe.l0 kq a0 x3_1 = some r) ∧ qc (kq ≤ k) ∧ qbk w w')
 case atStart => exact ⟨(0), (by first | rfl | (simp; done) | (simp [*]; done)), H', ⟨Nat.le_refl _⟩, by repeat (first | exact qbk.refl _ | apply qbk.step)⟩
 case round =>
  clear H'
  obtain ⟨x3_1, rfl, HA, HK1, ⟨m1, rfl⟩⟩ := hrel
  cases gk with
  | zero => exact absurd HA.out (by simp [qbe.l0])
  | succ k1 =>
   have H := HA.out
   clear HA
   simp only [qbe.l0] at H
   by_cases c2 : x3_1 < (a0.size : Int)
   ·rw [if_pos c2] at H
    have c2b0 : decide (x3_1 < (a0.size : Int)) = true := decide_eq_true c2
    clear c2
    by_cases c3 : 0 ≤ x3_1
    ·rw [if_pos c3] at H
     have c3b0 : decide (0 ≤ x3_1) = true := decide_eq_true c3
     clear c3
     by_cases c5 : (bt a0 x3_1) ≥ 97
     ·rw [if_pos c5] at H
      have c5b0 : decide (97 ≤ (bt a0 x3_1)) = true := decide_eq_true c5
      clear c5
      by_cases c6 : (bt a0 x3_1) ≤ 122
      ·rw [if_pos c6] at H
       have c6b0 : decide ((bt a0 x3_1) ≤ 122) = true := decide_eq_true c6
       clear c6
       have H' := qc.mk H
       clear H
       have p4 : 0 ≤ (x3_1 : Int) := of_decide_eq_true (by first | (with_reducible assumption) | assumption)
       have q4 : x3_1 < (a0.size : Int) := of_decide_eq_true (by first | (with_reducible assumption) | assumption)
       have hx4 := bt_at a0 x3_1
       replace p4 := eq_true p4
       replace q4 := eq_true q4
       go_wp2
       go_roundg k1
       case measure => have := HK1.out; omega
       case rel => exact ⟨(wrap64 (x3_1 + 1)), (by first | rfl | (simp; done) | (simp [*]; done)), H', ⟨by have := HK1.out; omega⟩, by repeat (first | exact qbk.refl _ | apply qbk.step)⟩
      ·rw [if_neg c6] at H
       have c6b0 : decide ((bt a0 x3_1) ≤ 122) = false := decide_eq_false c6
       clear c6
       by_cases c7 : (bt a0 x3_1) ≥ 65
       ·rw [if_pos c7] at H
        have c7b0 : decide (65 ≤ (bt a0 x3_1)) = true := decide_eq_true c7
        clear c7
        by_cases c8 : ((bt a0 x3_1) ≤ 90)
        ·rw [if_pos c8] at H
         have c8b0 : decide ((bt a0 x3_1) ≤ 90) = true := decide_eq_true c8
         clear c8
         have H' := qc.mk H
         clear H
         have p4 : 0 ≤ (x3_1 : Int) := of_decide_eq_true (by first | (with_reducible assumption) | assumption)
         have q4 : x3_1 < (a0.size : Int) := of_decide_eq_true (by first | (with_reducible assumption) | assumption)
         have hx4 := bt_at a0 x3_1
         replace p4 := eq_true p4
         replace q4 := eq_true q4
         go_wp2
         go_roundg k1
         case measure => have := HK1.out; omega
         case rel => exact ⟨(wrap64 (x3_1 + 1)), (by first | rfl | (simp; done) | (simp [*]; done)), H', ⟨by have := HK1.out; omega⟩, by repeat (first | exact qbk.refl _ | apply qbk.step)⟩
        ·rw [if_neg c8] at H
         have c8b0 : decide ((bt a0 x3_1) ≤ 90) = false := decide_eq_false c8
         clear c8
         by_cases c9 : x3_1 = 0
         ·rw [if_pos c9] at H
          have c9b0 : (x3_1 == 0) = true := beq_iff_eq.mpr c9
          have c9b1 : (x3_1 != 0) = false := bne_eq_false_iff_eq.mpr c9
          clear c9
          obtain rfl := Option.some.inj H
          have p4 : 0 ≤ (x3_1 : Int) := of_decide_eq_true (by first | (with_reducible assumption) | assumption)
          have q4 : x3_1 < (a0.size : Int) := of_decide_eq_true (by first | (with_reducible assumption) | assumption)
          have hx4 := bt_at a0 x3_1
          replace p4 := eq_true p4
          replace q4 := eq_true q4
          go_wp2
          go_ret
          exact ⟨by first | rfl | (simp; done) | (simp [*]; done), by repeat (first | exact qbk.refl _ | apply qbk.step)⟩
         ·rw [if_neg c9] at H
          have c9b0 : (x3_1 == 0) = false := beq_eq_false_iff_ne.mpr c9
          have c9b1 : (x3_1 != 0) = true := bne_iff_ne.mpr c9
          by_cases c10 : (bt a0 x3_1) < 48
          ·rw [if_pos c10] at H
           have c10b0 : decide ((bt a0 x3_1) < 48) = true := decide_eq_true c10
           clear c10
           by_cases c11 : (bt a0 x3_1) = 95
           ·rw [if_pos c11] at H
            have c11b0 : ((bt a0 x3_1) == 95) = true := beq_iff_eq.mpr c11
            have c11b1 : ((bt a0 x3_1) != 95) = false := bne_eq_false_iff_eq.mpr c11
            clear c11
            have H' := qc.mk H
            clear H
            have p4 : 0 ≤ (x3_1 : Int) := of_decide_eq_true (by first | (with_reducible assumption) | assumption)
            have q4 : x3_1 < (a0.size : Int) := of_decide_eq_true (by first | (with_reducible assumption) | assumption)
            have hx4 := bt_at a0 x3_1
            replace p4 := eq_true p4
            replace q4 := eq_true q4
            go_wp2
            go_roundg k1
            case measure => have := HK1.out; omega
            case rel => exact ⟨(wrap64 (x3_1 + 1)), (by first | rfl | (simp; done) | (simp [*]; done)), H', ⟨by have := HK1.out; omega⟩, by repeat (first | exact qbk.refl _ | apply qbk.step)⟩
           ·rw [if_neg c11] at H
            have c11b0 : ((bt a0 x3_1) == 95) = false := beq_eq_false_iff_ne.mpr c11
            have c11b1 : ((bt a0 x3_1) != 95) = true := bne_iff_ne.mpr c11
            obtain rfl := Option.some.inj H
            have p4 : 0 ≤ (x3_1 : Int) := of_decide_eq_true (by first | (with_reducible assumption) | assumption)
            have q4 : x3_1 < (a0.size : Int) := of_decide_eq_true (by first | (with_reducible assumption) | assumption)
            have hx4 := bt_at a0 x3_1
            replace p4 := eq_true p4
            replace q4 := eq_true q4
            go_wp2
            go_ret
            exact ⟨by first | rfl | (simp; done) | (simp [*]; done), by repeat (first | exact qbk.refl _ | apply qbk.step)⟩
          ·rw [if_neg c10] at H
           have c10b0 : decide ((bt a0 x3_1) < 48) = false := decide_eq_false c10
           clear c10
           by_cases c12 : (bt a0 x3_1) > 57
           ·rw [if_pos c12] at H
            have c12b0 : decide (57 < (bt a0 x3_1)) = true := decide_eq_true c12
            clear c12
            by_cases c13 : (bt a0 x3_1) = 95
            ·rw [if_pos c13] at H
             have c13b0 : ((bt a0 x3_1) == 95) = true := beq_iff_eq.mpr c13
             have c13b1 : ((bt a0 x3_1) != 95) = false := bne_eq_false_iff_eq.mpr c13
             clear c13
             have H' := qc.mk H
             clear H
             have p4 : 0 ≤ (x3_1 : Int) := of_decide_eq_true (by first | (with_reducible assumption) | assumption)
             have q4 : x3_1 < (a0.size : Int) := of_decide_eq_true (by first | (with_reducible assumption) | assumption)
             have hx4 := bt_at a0 x3_1
             replace p4 := eq_true p4
             replace q4 := eq_true q4
             go_wp2
             go_roundg k1
             case measure => have := HK1.out; omega
             case rel => exact ⟨(wrap64 (x3_1 + 1)), (by first | rfl | (simp; done) | (simp [*]; done)), H', ⟨by have := HK1.out; omega⟩, by repeat (first | exact qbk.refl _ | apply qbk.step)⟩
            ·rw [if_neg c13] at H
             have c13b0 : ((bt a0 x3_1) == 95) = false := beq_eq_false_iff_ne.mpr c13
             have c13b1 : ((bt a0 x3_1) != 95) = true := bne_iff_ne.mpr c13
             obtain rfl := Option.some.inj H
             have p4 : 0 ≤ (x3_1 : Int) := of_decide_eq_true (by first | (with_reducible assumption) | assumption)
             have q4 : x3_1 < (a0.size : Int) := of_decide_eq_true (by first | (with_reducible assumption) | assumption)
             have hx4 := bt_at a0 x3_1
             replace p4 := eq_true p4
             replace q4 := eq_true q4
             go_wp2
             go_ret
             exact ⟨by first | rfl | (simp; done) | (simp [*]; done), by repeat (first | exact qbk.refl _ | apply qbk.step)⟩
           ·rw [if_neg c12] at H
            have c12b0 : decide (57 < (bt a0 x3_1)) = false := decide_eq_false c12
            clear c12
            have H' := qc.mk H
            clear H
            have p4 : 0 ≤ (x3_1 : Int) := of_decide_eq_true (by first | (with_reducible assumption) | assumption)
            have q4 : x3_1 < (a0.size : Int) := of_decide_eq_true (by first | (with_reducible assumption) | assumption)
            have hx4 := bt_at a0 x3_1
            replace p4 := eq_true p4
            replace q4 := eq_true q4
            go_wp2
            go_roundg k1
            case measure => have := HK1.out; omega
            case rel => exact ⟨(wrap64 (x3_1 + 1)), (by first | rfl | (simp; done) | (simp [*]; done)), H', ⟨by have := HK1.out; omega⟩, by repeat (first | exact qbk.refl _ | apply qbk.step)⟩
       ·rw [if_neg c7] at H
        have c7b0 : decide (65 ≤ (bt a0 x3_1)) = false := decide_eq_false c7
        clear c7
        by_cases c14 : x3_1 = 0
        ·rw [if_pos c14] at H
         have c14b0 : (x3_1 == 0) = true := beq_iff_eq.mpr c14
         have c14b1 : (x3_1 != 0) = false := bne_eq_false_iff_eq.mpr c14
         clear c14
         obtain rfl := Option.some.inj H
         have p4 : 0 ≤ (x3_1 : Int) := of_decide_eq_true (by first | (with_reducible assumption) | assumption)
         have q4 : x3_1 < (a0.size : Int) := of_decide_eq_true (by first | (with_reducible assumption) | assumption)
         have hx4 := bt_at a0 x3_1
         replace p4 := eq_true p4
         replace q4 := eq_true q4
         go_wp2
         go_ret
         exact ⟨by first | rfl | (simp; done) | (simp [*]; done), by repeat (first | exact qbk.refl _ | apply qbk.step)⟩
        ·rw [if_neg c14] at H
         have c14b0 : (x3_1 == 0) = false := beq_eq_false_iff_ne.mpr c14
         have c14b1 : (x3_1 != 0) = true := bne_iff_ne.mpr c14
         by_cases c15 : (bt a0 x3_1) < 48
         ·rw [if_pos c15] at H
          have c15b0 : decide ((bt a0 x3_1) < 48) = true := decide_eq_true c15
          clear c15
          by_cases c16 : (bt a0 x3_1) = 95
          ·rw [if_pos c16] at H
           have c16b0 : ((bt a0 x3_1) == 95) = true := beq_iff_eq.mpr c16
           have c16b1 : ((bt a0 x3_1) != 95) = false := bne_eq_false_iff_eq.mpr c16
           clear c16
           have H' := qc.mk H
           clear H
           have p4 : 0 ≤ (x3_1 : Int) := of_decide_eq_true (by first | (with_reducible assumption) | assumption)
           have q4 : x3_1 < (a0.size : Int) := of_decide_eq_true (by first | (with_reducible assumption) | assumption)
           have hx4 := bt_at a0 x3_1
           replace p4 := eq_true p4
           replace q4 := eq_true q4
           go_wp2
           go_roundg k1
           case measure => have := HK1.out; omega
           case rel => exact ⟨(wrap64 (x3_1 + 1)), (by first | rfl | (simp; done) | (simp [*]; done)), H', ⟨by have := HK1.out; omega⟩, by repeat (first | exact qbk.refl _ | apply qbk.step)⟩
          ·rw [if_neg c16] at H
           have c16b0 : ((bt a0 x3_1) == 95) = false := beq_eq_false_iff_ne.mpr c16
           have c16b1 : ((bt a0 x3_1) != 95) = true := bne_iff_ne.mpr c16
           obtain rfl := Option.some.inj H
           have p4 : 0 ≤ (x3_1 : Int) := of_decide_eq_true (by first | (with_reducible assumption) | assumption)
           have q4 : x3_1 < (a0.size : Int) := of_decide_eq_true (by first | (with_reducible assumption) | assumption)
           have hx4 := bt_at a0 x3_1
           replace p4 := eq_true p4
           replace q4 := eq_true q4
           go_wp2
           go_ret
           exact ⟨by first | rfl | (simp; done) | (simp [*]; done), by repeat (first | exact qbk.refl _ | apply qbk.step)⟩
         ·rw [if_neg c15] at H
          have c15b0 : decide ((bt a0 x3_1) < 48) = false := decide_eq_false c15
          clear c15
          by_cases c17 : (bt a0 x3_1) > 57
          ·rw [if_pos c17] at H
           have c17b0 : decide (57 < (bt a0 x3_1)) = true := decide_eq_true c17
           clear c17
           by_cases c18 : (bt a0 x3_1) = 95
           ·rw [if_pos c18] at H
            have c18b0 : ((bt a0 x3_1) == 95) = true := beq_iff_eq.mpr c18
            have c18b1 : ((bt a0 x3_1) != 95) = false := bne_eq_false_iff_eq.mpr c18
            clear c18
            have H' := qc.mk H
            clear H
            have p4 : 0 ≤ (x3_1 : Int) := of_decide_eq_true (by first | (with_reducible assumption) | assumption)
            have q4 : x3_1 < (a0.size : Int) := of_decide_eq_true (by first | (with_reducible assumption) | assumption)
            have hx4 := bt_at a0 x3_1
            replace p4 := eq_true p4
            replace q4 := eq_true q4
            go_wp2
            go_roundg k1
            case measure => have := HK1.out; omega
            case rel => exact ⟨(wrap64 (x3_1 + 1)), (by first | rfl | (simp; done) | (simp [*]; done)), H', ⟨by have := HK1.out; omega⟩, by repeat (first | exact qbk.refl _ | apply qbk.step)⟩
           ·rw [if_neg c18] at H
            have c18b0 : ((bt a0 x3_1) == 95) = false := beq_eq_false_iff_ne.mpr c18
            have c18b1 : ((bt a0 x3_1) != 95) = true := bne_iff_ne.mpr c18
            obtain rfl := Option.some.inj H
            have p4 : 0 ≤ (x3_1 : Int) := of_decide_eq_true (by first | (with_reducible assumption) | assumption)
            have q4 : x3_1 < (a0.size : Int) := of_decide_eq_true (by first | (with_reducible assumption) | assumption)
            have hx4 := bt_at a0 x3_1
            replace p4 := eq_true p4
            replace q4 := eq_true q4
            go_wp2
            go_ret
            exact ⟨by first | rfl | (simp; done) | (simp [*]; done), by repeat (first | exact qbk.refl _ | apply qbk.step)⟩
          ·rw [if_neg c17] at H
           have c17b0 : decide (57 < (bt a0 x3_1)) = false := decide_eq_false c17
           clear c17
           have H' := qc.mk H
           clear H
           have p4 : 0 ≤ (x3_1 : Int) := of_decide_eq_true (by first | (with_reducible assumption) | assumption)
           have q4 : x3_1 < (a0.size : Int) := of_decide_eq_true (by first | (with_reducible assumption) | assumption)
           have hx4 := bt_at a0 x3_1
           replace p4 := eq_true p4
           replace q4 := eq_true q4
           go_wp2
           go_roundg k1
           case measure => have := HK1.out; omega
           case rel => exact ⟨(wrap64 (x3_1 + 1)), (by first | rfl | (simp; done) | (simp [*]; done)), H', ⟨by have := HK1.out; omega⟩, by repeat (first | exact qbk.refl _ | apply qbk.step)⟩
     ·rw [if_neg c5] at H
      have c5b0 : decide (97 ≤ (bt a0 x3_1)) = false := decide_eq_false c5
      clear c5
      by_cases c19 : (bt a0 x3_1) ≥ 65
      ·rw [if_pos c19] at H
       have c19b0 : decide (65 ≤ (bt a0 x3_1)) = true := decide_eq_true c19
       clear c19
       by_cases c20 : ((bt a0 x3_1) ≤ 90)
       ·rw [if_pos c20] at H
        have c20b0 : decide ((bt a0 x3_1) ≤ 90) = true := decide_eq_true c20
        clear c20
        have H' := qc.mk H
        clear H
        have p4 : 0 ≤ (x3_1 : Int) := of_decide_eq_true (by first | (with_reducible assumption) | assumption)
        have q4 : x3_1 < (a0.size : Int) := of_decide_eq_true (by first | (with_reducible assumption) | assumption)
        have hx4 := bt_at a0 x3_1
        replace p4 := eq_true p4
        replace q4 := eq_true q4
        go_wp2
        go_roundg k1
        case measure => have := HK1.out; omega
        case rel => exact ⟨(wrap64 (x3_1 + 1)), (by first | rfl | (simp; done) | (simp [*]; done)), H', ⟨by have := HK1.out; omega⟩, by repeat (first | exact qbk.refl _ | apply qbk.step)⟩
       ·rw [if_neg c20] at H
        have c20b0 : decide ((bt a0 x3_1) ≤ 90) = false := decide_eq_false c20
        clear c20
        by_cases c21 : x3_1 = 0
        ·rw [if_pos c21] at H
         have c21b0 : (x3_1 == 0) = true := beq_iff_eq.mpr c21
         have c21b1 : (x3_1 != 0) = false := bne_eq_false_iff_eq.mpr c21
         clear c21
         obtain rfl := Option.some.inj H
         have p4 : 0 ≤ (x3_1 : Int) := of_decide_eq_true (by first | (with_reducible assumption) | assumption)
         have q4 : x3_1 < (a0.size : Int) := of_decide_eq_true (by first | (with_reducible assumption) | assumption)
         have hx4 := bt_at a0 x3_1
         replace p4 := eq_true p4
         replace q4 := eq_true q4
         go_wp2
         go_ret
         exact ⟨by first | rfl | (simp; done) | (simp [*]; done), by repeat (first | exact qbk.refl _ | apply qbk.step)⟩
        ·rw [if_neg c21] at H
         have c21b0 : (x3_1 == 0) = false := beq_eq_false_iff_ne.mpr c21
         have c21b1 : (x3_1 != 0) = true := bne_iff_ne.mpr c21
         by_cases c22 : (bt a0 x3_1) < 48
         ·rw [if_pos c22] at H
          have c22b0 : decide ((bt a0 x3_1) < 48) = true := decide_eq_true c22
          clear c22
          by_cases c23 : (bt a0 x3_1) = 95
          ·rw [if_pos c23] at H
           have c23b0 : ((bt a0 x3_1) == 95) = true := beq_iff_eq.mpr c23
           have c23b1 : ((bt a0 x3_1) != 95) = false := bne_eq_false_iff_eq.mpr c23
           clear c23
           have H' := qc.mk H
           clear H
           have p4 : 0 ≤ (x3_1 : Int) := of_decide_eq_true (by first | (with_reducible assumption) | assumption)
           have q4 : x3_1 < (a0.size : Int) := of_decide_eq_true (by first | (with_reducible assumption) | assumption)
           have hx4 := bt_at a0 x3_1
           replace p4 := eq_true p4
           replace q4 := eq_true q4
           go_wp2
           go_roundg k1
           case measure => have := HK1.out; omega
           case rel => exact ⟨(wrap64 (x3_1 + 1)), (by first | rfl | (simp; done) | (simp [*]; done)), H', ⟨by have := HK1.out; omega⟩, by repeat (first | exact qbk.refl _ | apply qbk.step)⟩
          ·rw [if_neg c23] at H
           have c23b0 : ((bt a0 x3_1) == 95) = false := beq_eq_false_iff_ne.mpr c23
           have c23b1 : ((bt a0 x3_1) != 95) = true := bne_iff_ne.mpr c23
           obtain rfl := Option.some.inj H
           have p4 : 0 ≤ (x3_1 : Int) := of_decide_eq_true (by first | (with_reducible assumption) | assumption)
           have q4 : x3_1 < (a0.size : Int) := of_decide_eq_true (by first | (with_reducible assumption) | assumption)
           have hx4 := bt_at a0 x3_1
           replace p4 := eq_true p4
           replace q4 := eq_true q4
           go_wp2
           go_ret
           exact ⟨by first | rfl | (simp; done) | (simp [*]; done), by repeat (first | exact qbk.refl _ | apply qbk.step)⟩
         ·rw [if_neg c22] at H
          have c22b0 : decide ((bt a0 x3_1) < 48) = false := decide_eq_false c22
          clear c22
          by_cases c24 : (bt a0 x3_1) > 57
          ·rw [if_pos c24] at H
           have c24b0 : decide (57 < (bt a0 x3_1)) = true := decide_eq_true c24
           clear c24
           by_cases c25 : (bt a0 x3_1) = 95
           ·rw [if_pos c25] at H
            have c25b0 : ((bt a0 x3_1) == 95) = true := beq_iff_eq.mpr c25
            have c25b1 : ((bt a0 x3_1) != 95) = false := bne_eq_false_iff_eq.mpr c25
            clear c25
            have H' := qc.mk H
            clear H
            have p4 : 0 ≤ (x3_1 : Int) := of_decide_eq_true (by first | (with_reducible assumption) | assumption)
            have q4 : x3_1 < (a0.size : Int) := of_decide_eq_true (by first | (with_reducible assumption) | assumption)
            have hx4 := bt_at a0 x3_1
            replace p4 := eq_true p4
            replace q4 := eq_true q4
            go_wp2
            go_roundg k1
            case measure => have := HK1.out; omega
            case rel => exact ⟨(wrap64 (x3_1 + 1)), (by first | rfl | (simp; done) | (simp [*]; done)), H', ⟨by have := HK1.out; omega⟩, by repeat (first | exact qbk.refl _ | apply qbk.step)⟩
           ·rw [if_neg c25] at H
            have c25b0 : ((bt a0 x3_1) == 95) = false := beq_eq_false_iff_ne.mpr c25
            have c25b1 : ((bt a0 x3_1) != 95) = true := bne_iff_ne.mpr c25
            obtain rfl := Option.some.inj H
            have p4 : 0 ≤ (x3_1 : Int) := of_decide_eq_true (by first | (with_reducible assumption) | assumption)
            have q4 : x3_1 < (a0.size : Int) := of_decide_eq_true (by first | (with_reducible assumption) | assumption)
            have hx4 := bt_at a0 x3_1
            replace p4 := eq_true p4
            replace q4 := eq_true q4
            go_wp2
            go_ret
            exact ⟨by first | rfl | (simp; done) | (simp [*]; done), by repeat (first | exact qbk.refl _ | apply qbk.step)⟩
          ·rw [if_neg c24] at H
           have c24b0 : decide (57 < (bt a0 x3_1)) = false := decide_eq_false c24
           clear c24
           have H' := qc.mk H
           clear H
           have p4 : 0 ≤ (x3_1 : Int) := of_decide_eq_true (by first | (with_reducible assumption) | assumption)
           have q4 : x3_1 < (a0.size : Int) := of_decide_eq_true (by first | (with_reducible assumption) | assumption)
           have hx4 := bt_at a0 x3_1
           replace p4 := eq_true p4
           replace q4 := eq_true q4
           go_wp2
           go_roundg k1
           case measure => have := HK1.out; omega
           case rel => exact ⟨(wrap64 (x3_1 + 1)), (by first | rfl | (simp; done) | (simp [*]; done)), H', ⟨by have := HK1.out; omega⟩, by repeat (first | exact qbk.refl _ | apply qbk.step)⟩
      ·rw [if_neg c19] at H
       have c19b0 : decide (65 ≤ (bt a0 x3_1)) = false := decide_eq_false c19
       clear c19
       by_cases c26 : x3_1 = 0
       ·rw [if_pos c26] at H
        have c26b0 : (x3_1 == 0) = true := beq_iff_eq.mpr c26
        have c26b1 : (x3_1 != 0) = false := bne_eq_false_iff_eq.mpr c26
        clear c26
        obtain rfl := Option.some.inj H
        have p4 : 0 ≤ (x3_1 : Int) := of_decide_eq_true (by first | (with_reducible assumption) | assumption)
        have q4 : x3_1 < (a0.size : Int) := of_decide_eq_true (by first | (with_reducible assumption) | assumption)
        have hx4 := bt_at a0 x3_1
        replace p4 := eq_true p4
        replace q4 := eq_true q4
        go_wp2
        go_ret
        exact ⟨by first | rfl | (simp; done) | (simp [*]; done), by repeat (first | exact qbk.refl _ | apply qbk.step)⟩
       ·rw [if_neg c26] at H
        have c26b0 : (x3_1 == 0) = false := beq_eq_false_iff_ne.mpr c26
        have c26b1 : (x3_1 != 0) = true := bne_iff_ne.mpr c26
        by_cases c27 : (bt a0 x3_1) < 48
        ·rw [if_pos c27] at H
         have c27b0 : decide ((bt a0 x3_1) < 48) = true := decide_eq_true c27
         clear c27
         by_cases c28 : (bt a0 x3_1) = 95
         ·rw [if_pos c28] at H
          have c28b0 : ((bt a0 x3_1) == 95) = true := beq_iff_eq.mpr c28
          have c28b1 : ((bt a0 x3_1) != 95) = false := bne_eq_false_iff_eq.mpr c28
          clear c28
          have H' := qc.mk H
          clear H
          have p4 : 0 ≤ (x3_1 : Int) := of_decide_eq_true (by first | (with_reducible assumption) | assumption)
          have q4 : x3_1 < (a0.size : Int) := of_decide_eq_true (by first | (with_reducible assumption) | assumption)
          have hx4 := bt_at a0 x3_1
          replace p4 := eq_true p4
          replace q4 := eq_true q4
          go_wp2
          go_roundg k1
          case measure => have := HK1.out; omega
          case rel => exact ⟨(wrap64 (x3_1 + 1)), (by first | rfl | (simp; done) | (simp [*]; done)), H', ⟨by have := HK1.out; omega⟩, by repeat (first | exact qbk.refl _ | apply qbk.step)⟩
         ·rw [if_neg c28] at H
          have c28b0 : ((bt a0 x3_1) == 95) = false := beq_eq_false_iff_ne.mpr c28
          have c28b1 : ((bt a0 x3_1) != 95) = true := bne_iff_ne.mpr c28
          obtain rfl := Option.some.inj H
          have p4 : 0 ≤ (x3_1 : Int) := of_decide_eq_true (by first | (with_reducible assumption) | assumption)
          have q4 : x3_1 < (a0.size : Int) := of_decide_eq_true (by first | (with_reducible assumption) | assumption)
          have hx4 := bt_at a0 x3_1
          replace p4 := eq_true p4
          replace q4 := eq_true q4
          go_wp2
          go_ret
          exact ⟨by first | rfl | (simp; done) | (simp [*]; done), by repeat (first | exact qbk.refl _ | apply qbk.step)⟩
        ·rw [if_neg c27] at H
         have c27b0 : decide ((bt a0 x3_1) < 48) = false := decide_eq_false c27
         clear c27
         by_cases c29 : (bt a0 x3_1) > 57
         ·rw [if_pos c29] at H
          have c29b0 : decide (57 < (bt a0 x3_1)) = true := decide_eq_true c29
          clear c29
          by_cases c30 : (bt a0 x3_1) = 95
          ·rw [if_pos c30] at H
           have c30b0 : ((bt a0 x3_1) == 95) = true := beq_iff_eq.mpr c30
           have c30b1 : ((bt a0 x3_1) != 95) = false := bne_eq_false_iff_eq.mpr c30
           clear c30
           have H' := qc.mk H
           clear H
           have p4 : 0 ≤ (x3_1 : Int) := of_decide_eq_true (by first | (with_reducible assumption) | assumption)
           have q4 : x3_1 < (a0.size : Int) := of_decide_eq_true (by first | (with_reducible assumption) | assumption)
           have hx4 := bt_at a0 x3_1
           replace p4 := eq_true p4
           replace q4 := eq_true q4
           go_wp2
           go_roundg k1
           case measure => have := HK1.out; omega
           case rel => exact ⟨(wrap64 (x3_1 + 1)), (by first | rfl | (simp; done) | (simp [*]; done)), H', ⟨by have := HK1.out; omega⟩, by repeat (first | exact qbk.refl _ | apply qbk.step)⟩
          ·rw [if_neg c30] at H
           have c30b0 : ((bt a0 x3_1) == 95) = false := beq_eq_false_iff_ne.mpr c30
           have c30b1 : ((bt a0 x3_1) != 95) = true := bne_iff_ne.mpr c30
           obtain rfl := Option.some.inj H
           have p4 : 0 ≤ (x3_1 : Int) := of_decide_eq_true (by first | (with_reducible assumption) | assumption)
           have q4 : x3_1 < (a0.size : Int) := of_decide_eq_true (by first | (with_reducible assumption) | assumption)
           have hx4 := bt_at a0 x3_1
           replace p4 := eq_true p4
           replace q4 := eq_true q4
           go_wp2
           go_ret
           exact ⟨by first | rfl | (simp; done) | (simp [*]; done), by repeat (first | exact qbk.refl _ | apply qbk.step)⟩
         ·rw [if_neg c29] at H
          have c29b0 : decide (57 < (bt a0 x3_1)) = false := decide_eq_false c29
          clear c29
          have H' := qc.mk H
          clear H
          have p4 : 0 ≤ (x3_1 : Int) := of_decide_eq_true (by first | (with_reducible assumption) | assumption)
          have q4 : x3_1 < (a0.size : Int) := of_decide_eq_true (by first | (with_reducible assumption) | assumption)
          have hx4 := bt_at a0 x3_1
          replace p4 := eq_true p4
          replace q4 := eq_true q4
          go_wp2
          go_roundg k1
          case measure => have := HK1.out; omega
          case rel => exact ⟨(wrap64 (x3_1 + 1)), (by first | rfl | (simp; done) | (simp [*]; done)), H', ⟨by have := HK1.out; omega⟩, by repeat (first | exact qbk.refl _ | apply qbk.step)⟩
    ·rw [if_neg c3] at H
     exact absurd H (by simp)
   ·rw [if_neg c2] at H
    have c2b0 : decide (x3_1 < (a0.size : Int)) = false := decide_eq_false c2
    clear c2
    by_cases c31 : (a0.size : Int) ≥ 1
    ·rw [if_pos c31] at H
     have c31b0 : decide (1 ≤ (a0.size : Int)) = true := decide_eq_true c31
     have c31b1 : decide (1 ≤ a0.size) = true := decide_eq_true (by omega)
     clear c31
     obtain rfl := Option.some.inj H
     go_wp2
     go_ret
     exact ⟨by first | rfl | (simp; done) | (simp [*]; done), by repeat (first | exact qbk.refl _ | apply qbk.step)⟩
    ·rw [if_neg c31] at H
     have c31b0 : decide (1 ≤ (a0.size : Int)) = false := decide_eq_false c31
     have c31b1 : decide (1 ≤ a0.size) = false := decide_eq_false (by omega)
     clear c31
     obtain rfl := Option.some.inj H
     go_wp2
     go_ret
     exact ⟨by first | rfl | (simp; done) | (simp [*]; done), by repeat (first | exact qbk.refl _ | apply qbk.step)⟩
def qbs.l0 : Nat → ByteArray → List ByteArray → Int → Option (Bool)
 | 0, _, _, _ => none
 | k + 1, x0, x3, x4 => if x4 < (x3.length : Int) then (if 0 ≤ x4 then (if (rdOf ByteArray.empty x3 x4).toList = x0.toList then (some true) else (qbs.l0 k x0 x3 (wrap64 (x4 + 1)))) else (none)) else (some false)
def qbs.f (k : Nat) (a0 : ByteArray) : Option (Bool) := qbs.l0 k a0 (([(⟨#[107, 101, 121]⟩ : ByteArray), (⟨#[116, 114, 101, 101]⟩ : ByteArray), (⟨#[100, 111, 109, 97, 105, 110]⟩ : ByteArray), (⟨#[111, 119, 110]⟩ : ByteArray), (⟨#[115, 104, 97, 114, 101, 100]⟩ : ByteArray), (⟨#[105, 110, 116]⟩ : ByteArray), (⟨#[98, 111, 111, 108]⟩ : ByteArray), (⟨#[114, 101, 102]⟩ : ByteArray), (⟨#[115, 121, 109]⟩ : ByteArray), (⟨#[112, 111, 105, 110, 116]⟩ : ByteArray), (⟨#[115, 101, 113]⟩ : ByteArray), (⟨#[115, 101, 108]⟩ : ByteArray), (⟨#[109, 115, 101, 113]⟩ : ByteArray), (⟨#[109, 115, 101, 108]⟩ : ByteArray), (⟨#[112, 97, 114]⟩ : ByteArray), (⟨#[110, 111, 116]⟩ : ByteArray), (⟨#[114, 101, 112, 101, 97, 116]⟩ : ByteArray), (⟨#[105, 102]⟩ : ByteArray), (⟨#[115, 101, 116]⟩ : ByteArray), (⟨#[100, 111]⟩ : ByteArray), (⟨#[117, 115, 101]⟩ : ByteArray), (⟨#[112, 105, 99, 107]⟩ : ByteArray), (⟨#[112, 108, 97, 110]⟩ : ByteArray), (⟨#[111, 107]⟩ : ByteArray), (⟨#[102, 97, 105, 108]⟩ : ByteArray), (⟨#[119, 97, 105, 116]⟩ : ByteArray), (⟨#[118, 97, 114]⟩ : ByteArray), (⟨#[97, 99, 116]⟩ : ByteArray), (⟨#[99, 111, 115, 116]⟩ : ByteArray), (⟨#[110, 101, 101, 100]⟩ : ByteArray), (⟨#[109, 97, 107, 101]⟩ : ByteArray), (⟨#[103, 111, 97, 108]⟩ : ByteArray), (⟨#[116, 114, 117, 101]⟩ : ByteArray), (⟨#[102, 97, 108, 115, 101]⟩ : ByteArray), (⟨#[115, 101, 108, 102]⟩ : ByteArray), (⟨#[116, 105, 109, 101]⟩ : ByteArray), (⟨#[97, 110, 100]⟩ : ByteArray), (⟨#[111, 114]⟩ : ByteArray), (⟨#[114, 101]⟩ : ByteArray), (⟨#[105, 109]⟩ : ByteArray), (⟨#[116, 117, 114, 110]⟩ : ByteArray), (⟨#[102, 97, 114]⟩ : ByteArray)] : List ByteArray)) 0
theorem qbs.qcg : ∀ k, (∀ y0 y1 y2, LeO (qbs.l0 k y0 y1 y2) (qbs.l0 (k + 1) y0 y1 y2))
 | 0 => fun _ _ _ r h => by simp [qbs.l0] at h
 | k + 1 => by
  have ih0 := qbs.qcg k
  ·intro y0 y1 y2
   unfold qbs.l0
   repeat' first
   | (with_reducible exact ih0 _ _ _)
   | (with_reducible exact LeO.refl _)
   | (with_reducible exact LeO.none _)
   | (with_reducible refine LeO.ite ?_ ?_)
   | (with_reducible refine LeO.bind ?_ (fun _ => ?_))
   | exact ih0 _ _ _
   | exact LeO.none _
   | refine LeO.ite ?_ ?_
   | refine LeO.bind ?_ (fun _ => ?_)
theorem qbs.mono : ∀ a0 k, LeO (qbs.f k a0) (qbs.f (k + 1) a0) := by
 intro a0 k
 have ih0 := qbs.qcg k
 unfold qbs.f
 repeat' first
   | (with_reducible exact ih0 _ _ _)
   | (with_reducible exact LeO.refl _)
   | (with_reducible exact LeO.none _)
   | (with_reducible refine LeO.ite ?_ ?_)
   | (with_reducible refine LeO.bind ?_ (fun _ => ?_))
   | exact ih0 _ _ _
   | exact LeO.none _
   | refine LeO.ite ?_ ?_
   | refine LeO.bind ?_ (fun _ => ?_)
set_option maxHeartbeats 8000000 in
set_option maxRecDepth 100000 in
theorem qbs.calls (k : Nat) (a0 : ByteArray) (r : Bool) (w : World) (h : qbs.f k a0 = some r) :
  Calls Tryd.prog 46 #[.string a0] w fun e w' => e = .returned (.bool r) ∧ Below w.heap.size w w' := by
 have HB := qc.mk (Below.refl w.heap.size w)
 have H : (qbs.l0 k a0 (([(⟨#[107, 101, 121]⟩ : ByteArray), (⟨#[116, 114, 101, 101]⟩ : ByteArray), (⟨#[100, 111, 109, 97, 105, 110]⟩ : ByteArray), (⟨#[111, 119, 110]⟩ : ByteArray), (⟨#[115, 104, 97, 114, 101, 100]⟩ : ByteArray), (⟨#[105, 110, 116]⟩ : ByteArray), (⟨#[98, 111, 111, 108]⟩ : ByteArray), (⟨#[114, 101, 102]⟩ : ByteArray), (⟨#[115, 121, 109]⟩ : ByteArray), (⟨#[112, 111, 105, 110, 116]⟩ : ByteArray), (⟨#[115, 101, 113]⟩ : ByteArray), (⟨#[115, 101, 108]⟩ : ByteArray), (⟨#[109, 115, 101, 113]⟩ : ByteArray), (⟨#[109, 115, 101, 108]⟩ : ByteArray), (⟨#[112, 97, 114]⟩ : ByteArray), (⟨#[110, 111, 116]⟩ : ByteArray), (⟨#[114, 101, 112, 101, 97, 116]⟩ : ByteArray), (⟨#[105, 102]⟩ : ByteArray), (⟨#[115, 101, 116]⟩ : ByteArray), (⟨#[100, 111]⟩ : ByteArray), (⟨#[117, 115, 101]⟩ : ByteArray), (⟨#[112, 105, 99, 107]⟩ : ByteArray), (⟨#[112, 108, 97, 110]⟩ : ByteArray), (⟨#[111, 107]⟩ : ByteArray), (⟨#[102, 97, 105, 108]⟩ : ByteArray), (⟨#[119, 97, 105, 116]⟩ : ByteArray), (⟨#[118, 97, 114]⟩ : ByteArray), (⟨#[97, 99, 116]⟩ : ByteArray), (⟨#[99, 111, 115, 116]⟩ : ByteArray), (⟨#[110, 101, 101, 100]⟩ : ByteArray), (⟨#[109, 97, 107, 101]⟩ : ByteArray), (⟨#[103, 111, 97, 108]⟩ : ByteArray), (⟨#[116, 114, 117, 101]⟩ : ByteArray), (⟨#[102, 97, 108, 115, 101]⟩ : ByteArray), (⟨#[115, 101, 108, 102]⟩ : ByteArray), (⟨#[116, 105, 109, 101]⟩ : ByteArray), (⟨#[97, 110, 100]⟩ : ByteArray), (⟨#[111, 114]⟩ : ByteArray), (⟨#[114, 101]⟩ : ByteArray), (⟨#[105, 109]⟩ : ByteArray), (⟨#[116, 117, 114, 110]⟩ : ByteArray), (⟨#[102, 97, 114]⟩ : ByteArray)] : List ByteArray)) 0) = some r := h
 clear h
 obtain ⟨y200, qbgo⟩ : ∃ y_ : List ByteArray, y_ = (([(⟨#[107, 101, 121]⟩ : ByteArray), (⟨#[116, 114, 101, 101]⟩ : ByteArray), (⟨#[100, 111, 109, 97, 105, 110]⟩ : ByteArray), (⟨#[111, 119, 110]⟩ : ByteArray), (⟨#[115, 104, 97, 114, 101, 100]⟩ : ByteArray), (⟨#[105, 110, 116]⟩ : ByteArray), (⟨#[98, 111, 111, 108]⟩ : ByteArray), (⟨#[114, 101, 102]⟩ : ByteArray), (⟨#[115, 121, 109]⟩ : ByteArray), (⟨#[112, 111, 105, 110, 116]⟩ : ByteArray), (⟨#[115, 101, 113]⟩ : ByteArray), (⟨#[115, 101, 108]⟩ : ByteArray), (⟨#[109, 115, 101, 113]⟩ : ByteArray), (⟨#[109, 115, 101, 108]⟩ : ByteArray), (⟨#[112, 97, 114]⟩ : ByteArray), (⟨#[110, 111, 116]⟩ : ByteArray), (⟨#[114, 101, 112, 101, 97, 116]⟩ : ByteArray), (⟨#[105, 102]⟩ : ByteArray), (⟨#[115, 101, 116]⟩ : ByteArray), (⟨#[100, 111]⟩ : ByteArray), (⟨#[117, 115, 101]⟩ : ByteArray), (⟨#[112, 105, 99, 107]⟩ : ByteArray), (⟨#[112, 108, 97, 110]⟩ : ByteArray), (⟨#[111, 107]⟩ : ByteArray), (⟨#[102, 97, 105, 108]⟩ : ByteArray), (⟨#[119, 97, 105, 116]⟩ : ByteArray), (⟨#[118, 97, 114]⟩ : ByteArray), (⟨#[97, 99, 116]⟩ : ByteArray), (⟨#[99, 111, 115, 116]⟩ : ByteArray), (⟨#[110, 101, 101, 100]⟩ : ByteArray), (⟨#[109, 97, 107, 101]⟩ : ByteArray), (⟨#[103, 111, 97, 108]⟩ : ByteArray), (⟨#[116, 114, 117, 101]⟩ : ByteArray), (⟨#[102, 97, 108, 115, 101]⟩ : ByteArray), (⟨#[115, 101, 108, 102]⟩ : ByteArray), (⟨#[116, 105, 109, 101]⟩ : ByteArray), (⟨#[97, 110, 100]⟩ : ByteArray), (⟨#[111, 114]⟩ : ByteArray), (⟨#[114, 101]⟩ : ByteArray), (⟨#[105, 109]⟩ : ByteArray), (⟨#[116, 117, 114, 110]⟩ : ByteArray), (⟨#[102, 97, 114]⟩ : ByteArray)] : List ByteArray)) := ⟨_, rfl⟩
 replace H : (qbs.l0 k a0 y200 0) = some r := by first | (rw [qbgo]; with_reducible exact H) | (have H2_ := (Option.bind_some _ _).symm.trans H; rw [qbgo]; with_reducible exact H2_) | (have H2_ := (Option.bind_some _ _).symm.trans H; with_reducible exact H2_) | with_reducible exact H | (rw [qbgo]; exact H) | exact H
 have qbr9 := qc.mk qbgo
 clear qbgo
 have H' := qc.mk H
 clear H
 go_enter Tryd.func46, Tryd.ntmps46
 go_wp2_with (first | ((with_reducible refine qb0 (N := 5) rfl ?_); refine Kd.R_lit Kd.string _ 9 ?hg (N := 5) ?hd (xs := ([(⟨#[107, 101, 121]⟩ : ByteArray), (⟨#[116, 114, 101, 101]⟩ : ByteArray), (⟨#[100, 111, 109, 97, 105, 110]⟩ : ByteArray), (⟨#[111, 119, 110]⟩ : ByteArray), (⟨#[115, 104, 97, 114, 101, 100]⟩ : ByteArray), (⟨#[105, 110, 116]⟩ : ByteArray), (⟨#[98, 111, 111, 108]⟩ : ByteArray), (⟨#[114, 101, 102]⟩ : ByteArray), (⟨#[115, 121, 109]⟩ : ByteArray), (⟨#[112, 111, 105, 110, 116]⟩ : ByteArray), (⟨#[115, 101, 113]⟩ : ByteArray), (⟨#[115, 101, 108]⟩ : ByteArray), (⟨#[109, 115, 101, 113]⟩ : ByteArray), (⟨#[109, 115, 101, 108]⟩ : ByteArray), (⟨#[112, 97, 114]⟩ : ByteArray), (⟨#[110, 111, 116]⟩ : ByteArray), (⟨#[114, 101, 112, 101, 97, 116]⟩ : ByteArray), (⟨#[105, 102]⟩ : ByteArray), (⟨#[115, 101, 116]⟩ : ByteArray), (⟨#[100, 111]⟩ : ByteArray), (⟨#[117, 115, 101]⟩ : ByteArray), (⟨#[112, 105, 99, 107]⟩ : ByteArray), (⟨#[112, 108, 97, 110]⟩ : ByteArray), (⟨#[111, 107]⟩ : ByteArray), (⟨#[102, 97, 105, 108]⟩ : ByteArray), (⟨#[119, 97, 105, 116]⟩ : ByteArray), (⟨#[118, 97, 114]⟩ : ByteArray), (⟨#[97, 99, 116]⟩ : ByteArray), (⟨#[99, 111, 115, 116]⟩ : ByteArray), (⟨#[110, 101, 101, 100]⟩ : ByteArray), (⟨#[109, 97, 107, 101]⟩ : ByteArray), (⟨#[103, 111, 97, 108]⟩ : ByteArray), (⟨#[116, 114, 117, 101]⟩ : ByteArray), (⟨#[102, 97, 108, 115, 101]⟩ : ByteArray), (⟨#[115, 101, 108, 102]⟩ : ByteArray), (⟨#[116, 105, 109, 101]⟩ : ByteArray), (⟨#[97, 110, 100]⟩ : ByteArray), (⟨#[111, 114]⟩ : ByteArray), (⟨#[114, 101]⟩ : ByteArray), (⟨#[105, 109]⟩ : ByteArray), (⟨#[116, 117, 114, 110]⟩ : ByteArray), (⟨#[102, 97, 114]⟩ : ByteArray)] : List ByteArray)) (inner := [.string (⟨#[107, 101, 121]⟩ : ByteArray), .string (⟨#[116, 114, 101, 101]⟩ : ByteArray), .string (⟨#[100, 111, 109, 97, 105, 110]⟩ : ByteArray), .string (⟨#[111, 119, 110]⟩ : ByteArray), .string (⟨#[115, 104, 97, 114, 101, 100]⟩ : ByteArray), .string (⟨#[105, 110, 116]⟩ : ByteArray), .string (⟨#[98, 111, 111, 108]⟩ : ByteArray), .string (⟨#[114, 101, 102]⟩ : ByteArray), .string (⟨#[115, 121, 109]⟩ : ByteArray), .string (⟨#[112, 111, 105, 110, 116]⟩ : ByteArray), .string (⟨#[115, 101, 113]⟩ : ByteArray), .string (⟨#[115, 101, 108]⟩ : ByteArray), .string (⟨#[109, 115, 101, 113]⟩ : ByteArray), .string (⟨#[109, 115, 101, 108]⟩ : ByteArray), .string (⟨#[112, 97, 114]⟩ : ByteArray), .string (⟨#[110, 111, 116]⟩ : ByteArray), .string (⟨#[114, 101, 112, 101, 97, 116]⟩ : ByteArray), .string (⟨#[105, 102]⟩ : ByteArray), .string (⟨#[115, 101, 116]⟩ : ByteArray), .string (⟨#[100, 111]⟩ : ByteArray), .string (⟨#[117, 115, 101]⟩ : ByteArray), .string (⟨#[112, 105, 99, 107]⟩ : ByteArray), .string (⟨#[112, 108, 97, 110]⟩ : ByteArray), .string (⟨#[111, 107]⟩ : ByteArray), .string (⟨#[102, 97, 105, 108]⟩ : ByteArray), .string (⟨#[119, 97, 105, 116]⟩ : ByteArray), .string (⟨#[118, 97, 114]⟩ : ByteArray), .string (⟨#[97, 99, 116]⟩ : ByteArray), .string (⟨#[99, 111, 115, 116]⟩ : ByteArray), .string (⟨#[110, 101, 101, 100]⟩ : ByteArray), .string (⟨#[109, 97, 107, 101]⟩ : ByteArray), .string (⟨#[103, 111, 97, 108]⟩ : ByteArray), .string (⟨#[116, 114, 117, 101]⟩ : ByteArray), .string (⟨#[102, 97, 108, 115, 101]⟩ : ByteArray), .string (⟨#[115, 101, 108, 102]⟩ : ByteArray), .string (⟨#[116, 105, 109, 101]⟩ : ByteArray), .string (⟨#[97, 110, 100]⟩ : ByteArray), .string (⟨#[111, 114]⟩ : ByteArray), .string (⟨#[114, 101]⟩ : ByteArray), .string (⟨#[105, 109]⟩ : ByteArray), .string (⟨#[116, 117, 114, 110]⟩ : ByteArray), .string (⟨#[102, 97, 114]⟩ : ByteArray)]) (ok := fun _ => True) (okp := fun _ => True) ?hr ?hp (fun _ hk => hk) trivial (Below.refl _ _) (Nat.le_refl _) (by simp) ?_; (case hd => rfl); (case hg => rfl); (case hr => first | (go_simp; done) | (go_simp; rfl)); (case hp => exact (Reps.one (show Kd.M Kd.string _ _ _ (⟨#[107, 101, 121]⟩ : ByteArray) [.string (⟨#[107, 101, 121]⟩ : ByteArray)] from rfl) (Reps.one (show Kd.M Kd.string _ _ _ (⟨#[116, 114, 101, 101]⟩ : ByteArray) [.string (⟨#[116, 114, 101, 101]⟩ : ByteArray)] from rfl) (Reps.one (show Kd.M Kd.string _ _ _ (⟨#[100, 111, 109, 97, 105, 110]⟩ : ByteArray) [.string (⟨#[100, 111, 109, 97, 105, 110]⟩ : ByteArray)] from rfl) (Reps.one (show Kd.M Kd.string _ _ _ (⟨#[111, 119, 110]⟩ : ByteArray) [.string (⟨#[111, 119, 110]⟩ : ByteArray)] from rfl) (Reps.one (show Kd.M Kd.string _ _ _ (⟨#[115, 104, 97, 114, 101, 100]⟩ : ByteArray) [.string (⟨#[115, 104, 97, 114, 101, 100]⟩ : ByteArray)] from rfl) (Reps.one (show Kd.M Kd.string _ _ _ (⟨#[105, 110, 116]⟩ : ByteArray) [.string (⟨#[105, 110, 116]⟩ : ByteArray)] from rfl) (Reps.one (show Kd.M Kd.string _ _ _ (⟨#[98, 111, 111, 108]⟩ : ByteArray) [.string (⟨#[98, 111, 111, 108]⟩ : ByteArray)] from rfl) (Reps.one (show Kd.M Kd.string _ _ _ (⟨#[114, 101, 102]⟩ : ByteArray) [.string (⟨#[114, 101, 102]⟩ : ByteArray)] from rfl) (Reps.one (show Kd.M Kd.string _ _ _ (⟨#[115, 121, 109]⟩ : ByteArray) [.string (⟨#[115, 121, 109]⟩ : ByteArray)] from rfl) (Reps.one (show Kd.M Kd.string _ _ _ (⟨#[112, 111, 105, 110, 116]⟩ : ByteArray) [.string (⟨#[112, 111, 105, 110, 116]⟩ : ByteArray)] from rfl) (Reps.one (show Kd.M Kd.string _ _ _ (⟨#[115, 101, 113]⟩ : ByteArray) [.string (⟨#[115, 101, 113]⟩ : ByteArray)] from rfl) (Reps.one (show Kd.M Kd.string _ _ _ (⟨#[115, 101, 108]⟩ : ByteArray) [.string (⟨#[115, 101, 108]⟩ : ByteArray)] from rfl) (Reps.one (show Kd.M Kd.string _ _ _ (⟨#[109, 115, 101, 113]⟩ : ByteArray) [.string (⟨#[109, 115, 101, 113]⟩ : ByteArray)] from rfl) (Reps.one (show Kd.M Kd.string _ _ _ (⟨#[109, 115, 101, 108]⟩ : ByteArray) [.string (⟨#[109, 115, 101, 108]⟩ : ByteArray)] from rfl) (Reps.one (show Kd.M Kd.string _ _ _ (⟨#[112, 97, 114]⟩ : ByteArray) [.string (⟨#[112, 97, 114]⟩ : ByteArray)] from rfl) (Reps.one (show Kd.M Kd.string _ _ _ (⟨#[110, 111, 116]⟩ : ByteArray) [.string (⟨#[110, 111, 116]⟩ : ByteArray)] from rfl) (Reps.one (show Kd.M Kd.string _ _ _ (⟨#[114, 101, 112, 101, 97, 116]⟩ : ByteArray) [.string (⟨#[114, 101, 112, 101, 97, 116]⟩ : ByteArray)] from rfl) (Reps.one (show Kd.M Kd.string _ _ _ (⟨#[105, 102]⟩ : ByteArray) [.string (⟨#[105, 102]⟩ : ByteArray)] from rfl) (Reps.one (show Kd.M Kd.string _ _ _ (⟨#[115, 101, 116]⟩ : ByteArray) [.string (⟨#[115, 101, 116]⟩ : ByteArray)] from rfl) (Reps.one (show Kd.M Kd.string _ _ _ (⟨#[100, 111]⟩ : ByteArray) [.string (⟨#[100, 111]⟩ : ByteArray)] from rfl) (Reps.one (show Kd.M Kd.string _ _ _ (⟨#[117, 115, 101]⟩ : ByteArray) [.string (⟨#[117, 115, 101]⟩ : ByteArray)] from rfl) (Reps.one (show Kd.M Kd.string _ _ _ (⟨#[112, 105, 99, 107]⟩ : ByteArray) [.string (⟨#[112, 105, 99, 107]⟩ : ByteArray)] from rfl) (Reps.one (show Kd.M Kd.string _ _ _ (⟨#[112, 108, 97, 110]⟩ : ByteArray) [.string (⟨#[112, 108, 97, 110]⟩ : ByteArray)] from rfl) (Reps.one (show Kd.M Kd.string _ _ _ (⟨#[111, 107]⟩ : ByteArray) [.string (⟨#[111, 107]⟩ : ByteArray)] from rfl) (Reps.one (show Kd.M Kd.string _ _ _ (⟨#[102, 97, 105, 108]⟩ : ByteArray) [.string (⟨#[102, 97, 105, 108]⟩ : ByteArray)] from rfl) (Reps.one (show Kd.M Kd.string _ _ _ (⟨#[119, 97, 105, 116]⟩ : ByteArray) [.string (⟨#[119, 97, 105, 116]⟩ : ByteArray)] from rfl) (Reps.one (show Kd.M Kd.string _ _ _ (⟨#[118, 97, 114]⟩ : ByteArray) [.string (⟨#[118, 97, 114]⟩ : ByteArray)] from rfl) (Reps.one (show Kd.M Kd.string _ _ _ (⟨#[97, 99, 116]⟩ : ByteArray) [.string (⟨#[97, 99, 116]⟩ : ByteArray)] from rfl) (Reps.one (show Kd.M Kd.string _ _ _ (⟨#[99, 111, 115, 116]⟩ : ByteArray) [.string (⟨#[99, 111, 115, 116]⟩ : ByteArray)] from rfl) (Reps.one (show Kd.M Kd.string _ _ _ (⟨#[110, 101, 101, 100]⟩ : ByteArray) [.string (⟨#[110, 101, 101, 100]⟩ : ByteArray)] from rfl) (Reps.one (show Kd.M Kd.string _ _ _ (⟨#[109, 97, 107, 101]⟩ : ByteArray) [.string (⟨#[109, 97, 107, 101]⟩ : ByteArray)] from rfl) (Reps.one (show Kd.M Kd.string _ _ _ (⟨#[103, 111, 97, 108]⟩ : ByteArray) [.string (⟨#[103, 111, 97, 108]⟩ : ByteArray)] from rfl) (Reps.one (show Kd.M Kd.string _ _ _ (⟨#[116, 114, 117, 101]⟩ : ByteArray) [.string (⟨#[116, 114, 117, 101]⟩ : ByteArray)] from rfl) (Reps.one (show Kd.M Kd.string _ _ _ (⟨#[102, 97, 108, 115, 101]⟩ : ByteArray) [.string (⟨#[102, 97, 108, 115, 101]⟩ : ByteArray)] from rfl) (Reps.one (show Kd.M Kd.string _ _ _ (⟨#[115, 101, 108, 102]⟩ : ByteArray) [.string (⟨#[115, 101, 108, 102]⟩ : ByteArray)] from rfl) (Reps.one (show Kd.M Kd.string _ _ _ (⟨#[116, 105, 109, 101]⟩ : ByteArray) [.string (⟨#[116, 105, 109, 101]⟩ : ByteArray)] from rfl) (Reps.one (show Kd.M Kd.string _ _ _ (⟨#[97, 110, 100]⟩ : ByteArray) [.string (⟨#[97, 110, 100]⟩ : ByteArray)] from rfl) (Reps.one (show Kd.M Kd.string _ _ _ (⟨#[111, 114]⟩ : ByteArray) [.string (⟨#[111, 114]⟩ : ByteArray)] from rfl) (Reps.one (show Kd.M Kd.string _ _ _ (⟨#[114, 101]⟩ : ByteArray) [.string (⟨#[114, 101]⟩ : ByteArray)] from rfl) (Reps.one (show Kd.M Kd.string _ _ _ (⟨#[105, 109]⟩ : ByteArray) [.string (⟨#[105, 109]⟩ : ByteArray)] from rfl) (Reps.one (show Kd.M Kd.string _ _ _ (⟨#[116, 117, 114, 110]⟩ : ByteArray) [.string (⟨#[116, 117, 114, 110]⟩ : ByteArray)] from rfl) (Reps.one (show Kd.M Kd.string _ _ _ (⟨#[102, 97, 114]⟩ : ByteArray) [.string (⟨#[102, 97, 114]⟩ : ByteArray)] from rfl) (Reps.none _ _)))))))))))))))))))))))))))))))))))))))))))); intro v201 w2 ho3 hb hg_ hnew_; clear hg_ hnew_; (first | rw [← qbr9.out] at ho3 | (simp only [Int.reduceToNat] at ho3; rw [← qbr9.out] at ho3)); have n0_ := qc.mk (Kd.qd7 ho3 (qba (by repeat (first | (with_reducible first | exact HB.out | apply qg | apply qd | apply qh) | exact HB.out)))); have n1_ := qc.mk (q9 (by repeat (first | (with_reducible first | exact HB.out | apply qg | apply qd | apply qh) | exact HB.out)) hb); clear HB; have qbux := n0_; have HB := n1_; clear n0_ n1_; clear hb ho3))
 go_loopg [4] k (fun kq v4 w' => ∃ (x4_1 : Int), v4 = .int .i64 x4_1 ∧ qc (qbs.l0 kq a0 y200 x4_1 = some r) ∧ qc (kq ≤ k) ∧ qc (Kd.R Kd.string 9 w' w.heap.size (fun _ => True) v201 y200) ∧ qc (Below w.heap.size w w'))
 case atStart => exact ⟨(0), (by first | rfl | (simp; done) | (simp [*]; done)), H', ⟨Nat.le_refl _⟩, ⟨by (with_reducible repeat (first | apply Kd.qdm | apply Kd.qdp | apply Kd.qdw)); exact qbux.out⟩, ⟨by repeat (first | (with_reducible first | exact HB.out | apply qg | apply qd | apply qh) | exact HB.out)⟩⟩
 case round =>
  clear H'
  (try clear p2)
  obtain ⟨x4_1, rfl, HA, HK1, HO_3, HB⟩ := hrel
  cases gk with
  | zero => exact absurd HA.out (by simp [qbs.l0])
  | succ k1 =>
   have H := HA.out
   clear HA
   simp only [qbs.l0] at H
   by_cases c4 : x4_1 < (y200.length : Int)
   ·rw [if_pos c4] at H
    have c4b0 : decide (x4_1 < (y200.length : Int)) = true := decide_eq_true c4
    clear c4
    by_cases c5 : 0 ≤ x4_1
    ·rw [if_pos c5] at H
     have c5b0 : decide (0 ≤ x4_1) = true := decide_eq_true c5
     clear c5
     by_cases c6 : (rdOf ByteArray.empty y200 x4_1).toList = a0.toList
     ·rw [if_pos c6] at H
      have c6b0 : ((rdOf ByteArray.empty y200 x4_1).toList == a0.toList) = true := beq_iff_eq.mpr c6
      have c6b1 : ((rdOf ByteArray.empty y200 x4_1).toList != a0.toList) = false := bne_eq_false_iff_eq.mpr c6
      clear c6
      obtain rfl := Option.some.inj H
      obtain ⟨Ao7, co7, eo7⟩ := Kd.qde HO_3.out
      subst eo7
      have p203 : 0 ≤ (x4_1 : Int) := of_decide_eq_true (by first | (with_reducible assumption) | assumption)
      have q203 : x4_1 < (y200.length : Int) := of_decide_eq_true (by first | (with_reducible assumption) | assumption)
      obtain ⟨qbww, e203, qbqc⟩ := Kd.at_string (Kd.qds HO_3.out).2.2 x4_1 p203 q203
      cases e203
      replace p203 := eq_true p203
      replace q203 := eq_true q203
      go_wp2
      go_ret
      exact ⟨by first | rfl | (simp [qx, qy] <;> rfl) | (simp [*, qx, qy] <;> rfl), by repeat (first | (with_reducible first | exact HB.out | apply qg | apply qd | apply qh) | exact HB.out)⟩
     ·rw [if_neg c6] at H
      have c6b0 : ((rdOf ByteArray.empty y200 x4_1).toList == a0.toList) = false := beq_eq_false_iff_ne.mpr c6
      have c6b1 : ((rdOf ByteArray.empty y200 x4_1).toList != a0.toList) = true := bne_iff_ne.mpr c6
      have H' := qc.mk H
      clear H
      obtain ⟨Ao8, co8, eo8⟩ := Kd.qde HO_3.out
      subst eo8
      have p203 : 0 ≤ (x4_1 : Int) := of_decide_eq_true (by first | (with_reducible assumption) | assumption)
      have q203 : x4_1 < (y200.length : Int) := of_decide_eq_true (by first | (with_reducible assumption) | assumption)
      obtain ⟨qbww, e203, qbqc⟩ := Kd.at_string (Kd.qds HO_3.out).2.2 x4_1 p203 q203
      cases e203
      replace p203 := eq_true p203
      replace q203 := eq_true q203
      go_wp2
      go_roundg k1
      case measure => have := HK1.out; omega
      case rel => exact ⟨(wrap64 (x4_1 + 1)), (by first | rfl | (simp; done) | (simp [*]; done)), H', ⟨by have := HK1.out; omega⟩, ⟨by (with_reducible repeat (first | apply Kd.qdm | apply Kd.qdp | apply Kd.qdw)); exact HO_3.out⟩, ⟨by repeat (first | (with_reducible first | exact HB.out | apply qg | apply qd | apply qh) | exact HB.out)⟩⟩
    ·rw [if_neg c5] at H
     exact absurd H (by simp)
   ·rw [if_neg c4] at H
    have c4b0 : decide (x4_1 < (y200.length : Int)) = false := decide_eq_false c4
    clear c4
    obtain rfl := Option.some.inj H
    obtain ⟨Ao9, co9, eo9⟩ := Kd.qde HO_3.out
    subst eo9
    go_wp2
    go_ret
    exact ⟨by first | rfl | (simp [qx, qy] <;> rfl) | (simp [*, qx, qy] <;> rfl), by repeat (first | (with_reducible first | exact HB.out | apply qg | apply qd | apply qh) | exact HB.out)⟩
def qbg.f (k : Nat) (a0 : ByteArray) : Option (Bool) := (qbe.f k a0).bind fun t204 => (if t204 = true then ((qbs.f k a0).bind fun t205 => (some (!t205))) else (some false))
theorem qbg.mono : ∀ a0 k, LeO (qbg.f k a0) (qbg.f (k + 1) a0) := by
 intro a0 k
 unfold qbg.f
 repeat' first
   | (with_reducible exact qbe.mono _ _)
   | (with_reducible exact qbs.mono _ _)
   | (with_reducible exact LeO.refl _)
   | (with_reducible exact LeO.none _)
   | (with_reducible refine LeO.ite ?_ ?_)
   | (with_reducible refine LeO.bind ?_ (fun _ => ?_))
   | exact qbe.mono _ _
   | exact qbs.mono _ _
   | exact LeO.none _
   | refine LeO.ite ?_ ?_
   | refine LeO.bind ?_ (fun _ => ?_)
set_option maxHeartbeats 8000000 in
set_option maxRecDepth 100000 in
theorem qbg.calls (k : Nat) (a0 : ByteArray) (r : Bool) (w : World) (h : qbg.f k a0 = some r) :
  Calls Tryd.prog 21 #[.string a0] w fun e w' => e = .returned (.bool r) ∧ Below w.heap.size w w' := by
 have HB := qc.mk (Below.refl w.heap.size w)
 have H : ((qbe.f k a0).bind fun t204 => (if t204 = true then ((qbs.f k a0).bind fun t205 => (some (!t205))) else (some false))) = some r := h
 clear h
 replace H := Option.bind_eq_some_iff.mp H
 obtain ⟨t204, A20, H⟩ := H
 replace H : (if t204 = true then ((qbs.f k a0).bind fun t205 => (some (!t205))) else (some false)) = some r := H
 have A2 := qc.mk A20
 clear A20
 by_cases c3 : t204 = true
 ·subst c3
  have H1 : ((qbs.f k a0).bind fun t205 => (some (!t205))) = some r := by rw [if_pos rfl] at H; exact H
  clear H
  have H := H1
  clear H1
  replace H := Option.bind_eq_some_iff.mp H
  obtain ⟨t205, A40, H⟩ := H
  replace H : (some (!t205)) = some r := H
  have A4 := qc.mk A40
  clear A40
  obtain rfl := Option.some.inj H
  go_enter Tryd.func21, Tryd.ntmps21
  go_wp2_with (first | ((with_reducible refine qb5 (f := 45) rfl ?_); refine qcj (some 4) rfl rfl Tryd.func45 (by kernel_rfl) rfl #[.string a0] rfl (by (try simp only [List.map_toArray, List.map_cons, List.map_nil]); first | done | rfl | (simp only [List.length_drop, List.length_take]; rfl)) ?_; (with_reducible refine (qbe.calls k a0 true _ A2.out).mono ?_); rintro e w' ⟨rfl, ⟨nd, rfl⟩⟩; refine ⟨_, rfl, ?_⟩) | (go_at_call 46; (with_reducible refine (qbs.calls k a0 t205 _ A4.out).mono ?_); rintro e w5 ⟨rfl, hb⟩; have n0_ := qc.mk (q9 (by repeat (first | (with_reducible first | exact HB.out | apply qg | apply qd | apply qh) | exact HB.out)) hb); clear HB; have HB := n0_; clear n0_; (try clear hb); (try clear hb2); (try clear hk); (try clear hi)))
  go_ret
  exact ⟨by first | rfl | (simp [qx, qy] <;> rfl) | (simp [*, qx, qy] <;> rfl), by repeat (first | (with_reducible first | exact HB.out | apply qg | apply qd | apply qh) | exact HB.out)⟩
 ·replace c3 := Bool.eq_false_iff.mpr c3
  subst c3
  have H1 : (some false) = some r := by rw [if_neg (show ¬ (false = true) by decide)] at H; exact H
  clear H
  have H := H1
  clear H1
  obtain rfl := Option.some.inj H
  go_enter Tryd.func21, Tryd.ntmps21
  go_wp2_with (first | ((with_reducible refine qb5 (f := 45) rfl ?_); refine qcj (some 4) rfl rfl Tryd.func45 (by kernel_rfl) rfl #[.string a0] rfl (by (try simp only [List.map_toArray, List.map_cons, List.map_nil]); first | done | rfl | (simp only [List.length_drop, List.length_take]; rfl)) ?_; (with_reducible refine (qbe.calls k a0 false _ A2.out).mono ?_); rintro e w' ⟨rfl, ⟨nd, rfl⟩⟩; refine ⟨_, rfl, ?_⟩))
  go_ret
  exact ⟨by first | rfl | (simp [qx, qy] <;> rfl) | (simp [*, qx, qy] <;> rfl), by repeat (first | (with_reducible first | exact HB.out | apply qg | apply qd | apply qh) | exact HB.out)⟩
end Go.Proofs.YtpgkhmdfddejfaaDoor.PV
end
