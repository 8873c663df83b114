import Derived.Test.YtpgkhmdfddejfaaDoorZXPVx0
import Derived.Test.YtpgkhmdfddejfaaDoorZXPVx8
section
namespace Go.Proofs.YtpgkhmdfddejfaaDoor.PV
open Go.RowKit Go.Proofs.YtpgkhmdfddejfaaDoorW.PrintWords Go.Proofs.YtpgkhmdfddejfaaDoorW.PrintLast Go.Proofs.YtpgkhmdfddejfaaDoorW.PrintMore
attribute [local go_sem] qcn qcp qdi qdj qb6 qb7 qco qcq   -- for this text's walks alone
set_option linter.unusedVariables false
set_option linter.unusedSimpArgs false
def qae.f (k : Nat) (l0 : List (S36)) : Option (Bool) := (qbm.f k l0).bind fun zo5 => (some zo5.2.2.2.2.2.2.2.2.2.2)
theorem qae.mono : ∀ a0 k, LeO (qae.f k a0) (qae.f (k + 1) a0) := by
 intro a0 k
 unfold qae.f
 repeat' first
   | (with_reducible exact qbm.mono _ _)
   | (with_reducible exact LeO.refl _)
   | (with_reducible exact LeO.none _)
   | (with_reducible refine LeO.ite ?_ ?_)
   | (with_reducible refine LeO.bind ?_ (fun _ => ?_))
   | exact qbm.mono _ _
   | exact LeO.none _
   | refine LeO.ite ?_ ?_
   | refine LeO.bind ?_ (fun _ => ?_)
set_option maxHeartbeats 8000000 in
set_option maxRecDepth 100000 in
theorem qae.calls (k : Nat) (A0 : Option Addr) (c0 : Nat) (l0 : List (S36)) (r : Bool) (w : World) (hr0 : Kd.C k36 w A0 l0.length l0) (hc0 : l0.length ≤ c0) (hG : Lay w) (h : qae.f k l0 = some r) :
  Calls Tryd.prog 8 #[.slice A0 l0.length c0] w fun e w' => e = .returned (.bool r) ∧ Below w.heap.size w w' := by
 have qwm := Tryd.underlying30
 have HR0 := qf.mk hr0
 have HC0 := qf.mk hc0
 clear hr0 hc0
 have HB := qf.mk (Below.refl w.heap.size w)
 have HLAY := qf.mk hG
 clear hG
 have H : ((qbm.f k l0).bind fun zo5 => (some zo5.2.2.2.2.2.2.2.2.2.2)) = some r := h
 clear h
 replace H := Option.bind_eq_some_iff.mp H
 obtain ⟨⟨z1o, z1p, z1q, z1r, z1s, t182, t183, zwl, z1t, z1u, t193⟩, A20, H⟩ := H
 replace H : (some t193) = some r := H
 have A2 := qf.mk A20
 clear A20
 obtain rfl := Option.some.inj H
 go_enter Tryd.func8, Tryd.ntmps8
 go_wp2_with (first | ((with_reducible refine qaq (f := 18) rfl ?_); refine qcj (some 7) rfl rfl Tryd.func18 (by kernel_rfl) rfl #[.slice A0 l0.length c0] rfl (by (try simp only [List.map_toArray, List.map_cons, List.map_nil]); first | done | rfl | (simp only [List.length_drop, List.length_take]; rfl)) ?_; (with_reducible refine (qbm.calls k _ _ l0 z1o z1p z1q z1r z1s t182 t183 zwl z1t z1u t193 _ ?side1 ?side2 ?side3 A2.out).mono ?_); (case side1 => repeat (first | exact HR0.out | (with_reducible refine Kd.qba ?_ _) | (with_reducible refine Kd.qaz ?_ _) | (with_reducible refine Kd.qbq ?_))); (case side2 => exact HC0.out); (case side3 => exact Lay.below HLAY.out (by repeat (first | (with_reducible first | exact HB.out | apply qg | apply qc | apply qh) | exact HB.out))); rintro e w3 ⟨z5d, z5e, z5f, rfl, ho0, ho1, ho2, hb⟩; refine ⟨_, rfl, ?_⟩; have n0_ := qf.mk (Kd.q9v (Kd.qz0 (ok' := fun k_ => True) ho0 (fun k_ hk_ => trivial)) (zo (by repeat (first | (with_reducible first | exact HB.out | apply qg | apply qc | apply qh) | exact HB.out)))); have n1_ := qf.mk (Kd.q9v (Kd.qz0 (ok' := fun k_ => True) ho1 (fun k_ hk_ => trivial)) (zo (by repeat (first | (with_reducible first | exact HB.out | apply qg | apply qc | apply qh) | exact HB.out)))); have n2_ := qf.mk (Kd.q9v (Kd.qz0 (ok' := fun k_ => True) ho2 (fun k_ hk_ => trivial)) (zo (by repeat (first | (with_reducible first | exact HB.out | apply qg | apply qc | apply qh) | exact HB.out)))); have n3_ := qf.mk (zk (by repeat (first | (with_reducible first | exact HB.out | apply qg | apply qc | apply qh) | exact HB.out)) hb); clear HB; have zj7 := n0_; have zj8 := n1_; have zj9 := n2_; have HB := n3_; clear n0_ n1_ n2_ n3_; (try clear hb); (try clear hb2); (try clear hk); (try clear hi); (try clear ho0); (try clear ho1); (try clear ho2)) | ((with_reducible refine qah (N := 3) rfl ?_); refine vk ?hg (N := 3) ?hd (cs := #[.int .i64 0, .int .i64 0, .int .i64 0, .string (⟨#[]⟩ : ByteArray), .int .i64 0, .int .i64 0, .string (⟨#[]⟩ : ByteArray), .slice none 0 0, .slice none 0 0, .slice none 0 0]) (t := 30) ?hr ?_; (case hd => rfl); (case hg => rfl); (case hr => first | (go_simp; done) | (go_simp; rfl)); intro qmb hg w4 hbox hb; have n0_ := qf.mk (Kd.q0n (Kd.q63 (by (with_reducible repeat (first | apply Kd.q9t | apply Kd.q9u | apply Kd.zim)); exact zj7.out) qmb (Nat.le_of_eq hg.symm)) hb); have n1_ := qf.mk (Kd.q0n (Kd.q63 (by (with_reducible repeat (first | apply Kd.q9t | apply Kd.q9u | apply Kd.zim)); exact zj8.out) qmb (Nat.le_of_eq hg.symm)) hb); have n2_ := qf.mk (Kd.q0n (Kd.q63 (by (with_reducible repeat (first | apply Kd.q9t | apply Kd.q9u | apply Kd.zim)); exact zj9.out) qmb (Nat.le_of_eq hg.symm)) hb); have n3_ := qf.mk (zk (by repeat (first | (with_reducible first | exact HB.out | apply qg | apply qc | apply qh) | exact HB.out)) hb); have n4_ := qf.mk (hbox); have n5_ := qf.mk ((by rw [hg]; exact (zo (by repeat (first | (with_reducible first | exact HB.out | apply qg | apply qc | apply qh) | exact HB.out))) : w.heap.size ≤ qmb)); have n6_ := qf.mk ((by rw [hg]; exact (zo (by repeat (first | (with_reducible first | exact HB.out | apply qg | apply qc | apply qh) | exact HB.out))) : w.heap.size ≤ qmb)); clear zj7; clear zj8; clear zj9; clear HB; have zj7 := n0_; have zj8 := n1_; have zj9 := n2_; have HB := n3_; have qht := n4_; have z2f := n5_; have zw2 := n6_; clear n0_ n1_ n2_ n3_ n4_ n5_ n6_; clear hb hbox hg; have ziv : w4.cell? ⟨qmb, 0, none⟩ = some (.int .i64 0) := (qb qht.out 0).trans rfl; have ziw : w4.cell? ⟨qmb, 1, none⟩ = some (.int .i64 0) := (qb qht.out 1).trans rfl; have zix : w4.cell? ⟨qmb, 2, none⟩ = some (.int .i64 0) := (qb qht.out 2).trans rfl; have ziy : w4.cell? ⟨qmb, 3, none⟩ = some (.string (⟨#[]⟩ : ByteArray)) := (qb qht.out 3).trans rfl; have ziz : w4.cell? ⟨qmb, 4, none⟩ = some (.int .i64 0) := (qb qht.out 4).trans rfl; have zi0 : w4.cell? ⟨qmb, 5, none⟩ = some (.int .i64 0) := (qb qht.out 5).trans rfl; have zi1 : w4.cell? ⟨qmb, 6, none⟩ = some (.string (⟨#[]⟩ : ByteArray)) := (qb qht.out 6).trans rfl; have zi2 : w4.cell? ⟨qmb, 7, none⟩ = some (.slice none 0 0) := (qb qht.out 7).trans rfl; have zi3 : w4.cell? ⟨qmb, 8, none⟩ = some (.slice none 0 0) := (qb qht.out 8).trans rfl; have zi4 : w4.cell? ⟨qmb, 9, none⟩ = some (.slice none 0 0) := (qb qht.out 9).trans rfl; have zi6 := qa qht.out 0; have zi7 := qa qht.out 1; have zi8 := qa qht.out 2; have zi9 := qa qht.out 3; have zja := qa qht.out 4; have zjb := qa qht.out 5; have zjc := qa qht.out 6; have zjd := qa qht.out 7; have zje := qa qht.out 8; have zjf := qa qht.out 9; obtain ⟨Ao6, co6, eo6⟩ := Kd.q9w zj7.out; subst eo6; obtain ⟨Ao7, co7, eo7⟩ := Kd.q9w zj8.out; subst eo7; obtain ⟨Ao8, co8, eo8⟩ := Kd.q9w zj9.out; subst eo8))
 go_ret
 exact ⟨by first | rfl | (simp [zg, zh] <;> rfl) | (simp [*, zg, zh] <;> rfl), by repeat (first | (with_reducible first | exact HB.out | apply qg | apply qc | apply qh | refine ql ?_ zw2.out) | exact HB.out)⟩
def qad.f (k : Nat)  : Option (Bool) := (qae.f k ([] : List (S36))).bind fun zoj => (if zoj = true then (some false) else ((qae.f k (([(⟨13, 0, 0, 1, (-1), (⟨#[]⟩ : ByteArray), (⟨0, 0, (⟨#[]⟩ : ByteArray), ([] : List (S27))⟩ : S27), ([] : List (S27))⟩ : S36)] : List (S36)))).bind fun q0k => (some q0k)))
theorem qad.mono : ∀ k, LeO (qad.f k ) (qad.f (k + 1) ) := by
 intro  k
 unfold qad.f
 repeat' first
   | (with_reducible exact qae.mono _ _)
   | (with_reducible exact LeO.refl _)
   | (with_reducible exact LeO.none _)
   | (with_reducible refine LeO.ite ?_ ?_)
   | (with_reducible refine LeO.bind ?_ (fun _ => ?_))
   | exact qae.mono _ _
   | exact LeO.none _
   | refine LeO.ite ?_ ?_
   | refine LeO.bind ?_ (fun _ => ?_)
set_option maxHeartbeats 8000000 in
set_option maxRecDepth 100000 in
theorem qad.calls (k : Nat)  (r : Bool) (w : World) (hG : Lay w) (h : qad.f k  = some r) :
  Calls Tryd.prog 7 #[] w fun e w' => e = .returned (.bool r) ∧ Below w.heap.size w w' := by
 have zry := Tryd.underlying36
 have HB := qf.mk (Below.refl w.heap.size w)
 have HLAY := qf.mk hG
 clear hG
 have H : ((qae.f k ([] : List (S36))).bind fun zoj => (if zoj = true then (some false) else ((qae.f k (([(⟨13, 0, 0, 1, (-1), (⟨#[]⟩ : ByteArray), (⟨0, 0, (⟨#[]⟩ : ByteArray), ([] : List (S27))⟩ : S27), ([] : List (S27))⟩ : S36)] : List (S36)))).bind fun q0k => (some q0k)))) = some r := h
 clear h
 replace H := Option.bind_eq_some_iff.mp H
 obtain ⟨zoj, A10, H⟩ := H
 replace H : (if zoj = true then (some false) else ((qae.f k (([(⟨13, 0, 0, 1, (-1), (⟨#[]⟩ : ByteArray), (⟨0, 0, (⟨#[]⟩ : ByteArray), ([] : List (S27))⟩ : S27), ([] : List (S27))⟩ : S36)] : List (S36)))).bind fun q0k => (some q0k))) = some r := H
 have A1 := qf.mk A10
 clear A10
 by_cases c2 : zoj = true
 ·subst c2
  have H1 : (some false) = some r := by rw [if_pos rfl] at H; exact H
  clear H
  have H := H1
  clear H1
  obtain rfl := Option.some.inj H
  go_enter Tryd.func7, Tryd.ntmps7
  go_wp2_with (first | ((with_reducible refine qaq (f := 8) rfl ?_); refine qcj (some 1) rfl rfl Tryd.func8 (by kernel_rfl) rfl #[.slice none 0 0] rfl (by (try simp only [List.map_toArray, List.map_cons, List.map_nil]); first | done | rfl | (simp only [List.length_drop, List.length_take]; rfl)) ?_; (refine (qae.calls k _ _ ([] : List (S36)) true _ ?side1 ?side2 ?side3 A1.out).mono ?_); (case side1 => exact Kd.zgu _ _); (case side2 => exact Nat.le_refl _); (case side3 => exact Lay.below HLAY.out (by repeat (first | (with_reducible first | exact HB.out | apply qg | apply qc | apply qh) | exact HB.out))); rintro e w3 ⟨rfl, hb⟩; refine ⟨_, rfl, ?_⟩; have n0_ := qf.mk (zk (by repeat (first | (with_reducible first | exact HB.out | apply qg | apply qc | apply qh) | exact HB.out)) hb); clear HB; have HB := n0_; clear n0_; (try clear hb); (try clear hb2); (try clear hk); (try clear hi)))
  go_ret
  exact ⟨by first | rfl | (simp [zg, zh] <;> rfl) | (simp [*, zg, zh] <;> rfl), by repeat (first | (with_reducible first | exact HB.out | apply qg | apply qc | apply qh) | exact HB.out)⟩
 ·replace c2 := Bool.eq_false_iff.mpr c2
  subst c2
  have H1 : ((qae.f k (([(⟨13, 0, 0, 1, (-1), (⟨#[]⟩ : ByteArray), (⟨0, 0, (⟨#[]⟩ : ByteArray), ([] : List (S27))⟩ : S27), ([] : List (S27))⟩ : S36)] : List (S36)))).bind fun q0k => (some q0k)) = some r := by rw [if_neg (show ¬ (false = true) by decide)] at H; exact H
  clear H
  have H := H1
  clear H1
  obtain ⟨zys, zh0⟩ : ∃ y_ : List (S36), y_ = (([(⟨13, 0, 0, 1, (-1), (⟨#[]⟩ : ByteArray), (⟨0, 0, (⟨#[]⟩ : ByteArray), ([] : List (S27))⟩ : S27), ([] : List (S27))⟩ : S36)] : List (S36))) := ⟨_, rfl⟩
  replace H : ((qae.f k zys).bind fun q0k => (some q0k)) = some r := by first | (rw [zh0]; with_reducible exact H) | (have H2_ := (Option.bind_some _ _).symm.trans H; rw [zh0]; with_reducible exact H2_) | (have H2_ := (Option.bind_some _ _).symm.trans H; with_reducible exact H2_) | with_reducible exact H | (rw [zh0]; exact H) | exact H
  have zun := qf.mk zh0
  clear zh0
  replace H := Option.bind_eq_some_iff.mp H
  obtain ⟨q0k, A40, H⟩ := H
  replace H : (some q0k) = some r := H
  have A4 := qf.mk A40
  clear A40
  obtain rfl := Option.some.inj H
  go_enter Tryd.func7, Tryd.ntmps7
  go_wp2_with (first | ((with_reducible refine qaq (f := 8) rfl ?_); refine qcj (some 1) rfl rfl Tryd.func8 (by kernel_rfl) rfl #[.slice none 0 0] rfl (by (try simp only [List.map_toArray, List.map_cons, List.map_nil]); first | done | rfl | (simp only [List.length_drop, List.length_take]; rfl)) ?_; (refine (qae.calls k _ _ ([] : List (S36)) false _ ?side1 ?side2 ?side3 A1.out).mono ?_); (case side1 => exact Kd.zgu _ _); (case side2 => exact Nat.le_refl _); (case side3 => exact Lay.below HLAY.out (by repeat (first | (with_reducible first | exact HB.out | apply qg | apply qc | apply qh) | exact HB.out))); rintro e w5 ⟨rfl, hb⟩; refine ⟨_, rfl, ?_⟩; have n0_ := qf.mk (zk (by repeat (first | (with_reducible first | exact HB.out | apply qg | apply qc | apply qh) | exact HB.out)) hb); clear HB; have HB := n0_; clear n0_; (try clear hb); (try clear hb2); (try clear hk); (try clear hi)) | ((with_reducible refine qah (N := 5) rfl ?_); (try (refine qbg (by rfl) ?_; dsimp only)); refine Kd.zoy k36 _ 36 ?hg (N := 5) ?hd (xs := ([(⟨13, 0, 0, 1, (-1), (⟨#[]⟩ : ByteArray), (⟨0, 0, (⟨#[]⟩ : ByteArray), ([] : List (S27))⟩ : S27), ([] : List (S27))⟩ : S36)] : List (S36))) (inner := [.int .i64 13, .int .i64 0, .int .i64 0, .int .i64 1, .int .i64 (-1), .string (⟨#[]⟩ : ByteArray), .int .i64 0, .int .i64 0, .string (⟨#[]⟩ : ByteArray), .slice none 0 0, .slice none 0 0]) (ok := fun _ => True) (okp := fun _ => True) ?hr ?hp (fun _ hk => hk) trivial (Below.refl _ _) (Nat.le_refl _) (by simp) ?_; (case hd => rfl); (case hg => rfl); (case hr => first | (go_simp; done) | (go_simp; rfl)); (case hp => exact (Reps.front (show Kd.M k36 _ _ _ (⟨13, 0, 0, 1, (-1), (⟨#[]⟩ : ByteArray), (⟨0, 0, (⟨#[]⟩ : ByteArray), ([] : List (S27))⟩ : S27), ([] : List (S27))⟩ : S36) [.int .i64 13, .int .i64 0, .int .i64 0, .int .i64 1, .int .i64 (-1), .string (⟨#[]⟩ : ByteArray), .int .i64 0, .int .i64 0, .string (⟨#[]⟩ : ByteArray), .slice none 0 0, .slice none 0 0] from (k36_mkM _ _ _ (⟨13, 0, 0, 1, (-1), (⟨#[]⟩ : ByteArray), (⟨0, 0, (⟨#[]⟩ : ByteArray), ([] : List (S27))⟩ : S27), ([] : List (S27))⟩ : S36) (Kd.q62 _ _ _ _ _) (Kd.q62 _ _ _ _ _))) rfl (Reps.none _ _) rfl)); intro z5g w6 ho7 hb hg_ hnew_; clear hg_ hnew_; (first | rw [← zun.out] at ho7 | (simp only [Int.reduceToNat] at ho7; rw [← zun.out] at ho7)); have n0_ := qf.mk (Kd.qh1 ho7 (zo (by repeat (first | (with_reducible first | exact HB.out | apply qg | apply qc | apply qh) | exact HB.out)))); have n1_ := qf.mk (zk (by repeat (first | (with_reducible first | exact HB.out | apply qg | apply qc | apply qh) | exact HB.out)) hb); clear HB; have q81 := n0_; have HB := n1_; clear n0_ n1_; clear hb ho7; obtain ⟨Ao8, co8, eo8⟩ := Kd.qeb q81.out; subst eo8) | (go_at_call 8; (with_reducible refine (qae.calls k _ _ zys q0k _ ?side1 ?side2 ?side3 A4.out).mono ?_); (case side1 => repeat (first | exact (Kd.qfe q81.out).2.2 | (with_reducible refine Kd.qba ?_ _) | (with_reducible refine Kd.qaz ?_ _) | (with_reducible refine Kd.qbq ?_))); (case side2 => exact (Kd.qfe q81.out).2.1); (case side3 => exact Lay.below HLAY.out (by repeat (first | (with_reducible first | exact HB.out | apply qg | apply qc | apply qh) | exact HB.out))); rintro e w9 ⟨rfl, hb⟩; have n0_ := qf.mk (Kd.qwv (by (with_reducible repeat (first | apply Kd.qe7 | apply Kd.qe8 | apply Kd.qhq)); exact q81.out) hb); have n1_ := qf.mk (zk (by repeat (first | (with_reducible first | exact HB.out | apply qg | apply qc | apply qh) | exact HB.out)) hb); clear q81; clear HB; have q81 := n0_; have HB := n1_; clear n0_ n1_; (try clear hb); (try clear hb2); (try clear hk); (try clear hi)))
  go_ret
  exact ⟨by first | rfl | (simp [zg, zh] <;> rfl) | (simp [*, zg, zh] <;> rfl), by repeat (first | (with_reducible first | exact HB.out | apply qg | apply qc | apply qh) | exact HB.out)⟩
def zq.l0 : Nat → ByteArray → Int → Option (Bool)
 | 0, _, _ => none
 | k + 1, x0, x3 => if x3 < (x0.size : Int) then (if 0 ≤ x3 then (if (bt x0 x3) ≥ 97 then (if (bt x0 x3) ≤ 122 then (zq.l0 k x0 (wrap64 (x3 + 1))) else (if (bt x0 x3) ≥ 65 then (if ((bt x0 x3) ≤ 90) then (zq.l0 k x0 (wrap64 (x3 + 1))) else (if x3 = 0 then (some false) else (if (bt x0 x3) < 48 then (if (bt x0 x3) = 95 then (zq.l0 k x0 (wrap64 (x3 + 1))) else (some false)) else (if (bt x0 x3) > 57 then (if (bt x0 x3) = 95 then (zq.l0 k x0 (wrap64 (x3 + 1))) else (some false)) else (zq.l0 k x0 (wrap64 (x3 + 1))))))) else (if x3 = 0 then (some false) else (if (bt x0 x3) < 48 then (if (bt x0 x3) = 95 then (zq.l0 k x0 (wrap64 (x3 + 1))) else (some false)) else (if (bt x0 x3) > 57 then (if (bt x0 x3) = 95 then (zq.l0 k x0 (wrap64 (x3 + 1))) else (some false)) else (zq.l0 k x0 (wrap64 (x3 + 1)))))))) else (if (bt x0 x3) ≥ 65 then (if ((bt x0 x3) ≤ 90) then (zq.l0 k x0 (wrap64 (x3 + 1))) else (if x3 = 0 then (some false) else (if (bt x0 x3) < 48 then (if (bt x0 x3) = 95 then (zq.l0 k x0 (wrap64 (x3 + 1))) else (some false)) else (if (bt x0 x3) > 57 then (if (bt x0 x3) = 95 then (zq.l0 k x0 (wrap64 (x3 + 1))) else (some false)) else (zq.l0 k x0 (wrap64 (x3 + 1))))))) else (if x3 = 0 then (some false) else (if (bt x0 x3) < 48 then (if (bt x0 x3) = 95 then (zq.l0 k x0 (wrap64 (x3 + 1))) else (some false)) else (if (bt x0 x3) > 57 then (if (bt x0 x3) = 95 then (zq.l0 k x0 (wrap64 (x3 + 1))) else (some false)) else (zq.l0 k x0 (wrap64 (x3 + 1)))))))) else (none)) else (if (x0.size : Int) ≥ 1 then (some (decide ((x0.size : Int) ≤ 24))) else (some false))
def zq.f (k : Nat) (a0 : ByteArray) : Option (Bool) := zq.l0 k a0 0
theorem zq.qb2 : ∀ k, (∀ y0 y1, LeO (zq.l0 k y0 y1) (zq.l0 (k + 1) y0 y1))
 | 0 => fun _ _ r h => by simp [zq.l0] at h
 | k + 1 => by
  have ih0 := zq.qb2 k
  ·intro y0 y1
   unfold zq.l0
   repeat' first
   | (with_reducible exact ih0 _ _)
   | (with_reducible exact LeO.refl _)
   | (with_reducible exact LeO.none _)
   | (with_reducible refine LeO.ite ?_ ?_)
   | (with_reducible refine LeO.bind ?_ (fun _ => ?_))
   | exact ih0 _ _
   | exact LeO.none _
   | refine LeO.ite ?_ ?_
   | refine LeO.bind ?_ (fun _ => ?_)
theorem zq.mono : ∀ a0 k, LeO (zq.f k a0) (zq.f (k + 1) a0) := by
 intro a0 k
 have ih0 := zq.qb2 k
 unfold zq.f
 repeat' first
   | (with_reducible exact ih0 _ _)
   | (with_reducible exact LeO.refl _)
   | (with_reducible exact LeO.none _)
   | (with_reducible refine LeO.ite ?_ ?_)
   | (with_reducible refine LeO.bind ?_ (fun _ => ?_))
   | exact ih0 _ _
   | exact LeO.none _
   | refine LeO.ite ?_ ?_
   | refine LeO.bind ?_ (fun _ => ?_)
set_option maxHeartbeats 8000000 in
set_option maxRecDepth 100000 in
theorem zq.calls (k : Nat) (a0 : ByteArray) (r : Bool) (w : World) (h : zq.f k a0 = some r) :
  Calls Tryd.prog 45 #[.string a0] w fun e w' => e = .returned (.bool r) ∧ yx w w' := by
 have H : (zq.l0 k a0 0) = some r := h
 clear h
 have H' := qf.mk H
 clear H
 go_enter Tryd.func45, Tryd.ntmps45
 go_wp2
 go_loopg [3] k (fun kq v3 w' => ∃ (jk : Int), v3 = .int .i64 jk ∧ qf (zq.l0 kq a0 jk = some r) ∧ qf (kq ≤ k) ∧ yx w w')
 case atStart => exact ⟨(0), (by first | rfl | (simp; done) | (simp [*]; done)), H', ⟨Nat.le_refl _⟩, by repeat (first | exact yx.refl _ | apply yx.step)⟩
 case round =>
  clear H'
  obtain ⟨jk, rfl, HA, HK1, ⟨m1, rfl⟩⟩ := hrel
  cases gk with
  | zero => exact absurd HA.out (by simp [zq.l0])
  | succ k1 =>
   have H := HA.out
   clear HA
   simp only [zq.l0] at H
   by_cases c2 : jk < (a0.size : Int)
   ·rw [if_pos c2] at H
    have c2b0 : decide (jk < (a0.size : Int)) = true := decide_eq_true c2
    clear c2
    by_cases c3 : 0 ≤ jk
    ·rw [if_pos c3] at H
     have c3b0 : decide (0 ≤ jk) = true := decide_eq_true c3
     clear c3
     by_cases c5 : (bt a0 jk) ≥ 97
     ·rw [if_pos c5] at H
      have c5b0 : decide (97 ≤ (bt a0 jk)) = true := decide_eq_true c5
      clear c5
      by_cases c6 : (bt a0 jk) ≤ 122
      ·rw [if_pos c6] at H
       have c6b0 : decide ((bt a0 jk) ≤ 122) = true := decide_eq_true c6
       clear c6
       have H' := qf.mk H
       clear H
       have p4 : 0 ≤ (jk : Int) := of_decide_eq_true (by first | (with_reducible assumption) | assumption)
       have q4 : jk < (a0.size : Int) := of_decide_eq_true (by first | (with_reducible assumption) | assumption)
       have hx4 := qe1 a0 jk
       replace p4 := eq_true p4
       replace q4 := eq_true q4
       go_wp2
       go_roundg k1
       case measure => have := HK1.out; omega
       case rel => exact ⟨(wrap64 (jk + 1)), (by first | rfl | (simp; done) | (simp [*]; done)), H', ⟨by have := HK1.out; omega⟩, by repeat (first | exact yx.refl _ | apply yx.step)⟩
      ·rw [if_neg c6] at H
       have c6b0 : decide ((bt a0 jk) ≤ 122) = false := decide_eq_false c6
       clear c6
       by_cases c7 : (bt a0 jk) ≥ 65
       ·rw [if_pos c7] at H
        have c7b0 : decide (65 ≤ (bt a0 jk)) = true := decide_eq_true c7
        clear c7
        by_cases c8 : ((bt a0 jk) ≤ 90)
        ·rw [if_pos c8] at H
         have c8b0 : decide ((bt a0 jk) ≤ 90) = true := decide_eq_true c8
         clear c8
         have H' := qf.mk H
         clear H
         have p4 : 0 ≤ (jk : Int) := of_decide_eq_true (by first | (with_reducible assumption) | assumption)
         have q4 : jk < (a0.size : Int) := of_decide_eq_true (by first | (with_reducible assumption) | assumption)
         have hx4 := qe1 a0 jk
         replace p4 := eq_true p4
         replace q4 := eq_true q4
         go_wp2
         go_roundg k1
         case measure => have := HK1.out; omega
         case rel => exact ⟨(wrap64 (jk + 1)), (by first | rfl | (simp; done) | (simp [*]; done)), H', ⟨by have := HK1.out; omega⟩, by repeat (first | exact yx.refl _ | apply yx.step)⟩
        ·rw [if_neg c8] at H
         have c8b0 : decide ((bt a0 jk) ≤ 90) = false := decide_eq_false c8
         clear c8
         by_cases c9 : jk = 0
         ·rw [if_pos c9] at H
          have c9b0 : (jk == 0) = true := beq_iff_eq.mpr c9
          have c9b1 : (jk != 0) = false := bne_eq_false_iff_eq.mpr c9
          clear c9
          obtain rfl := Option.some.inj H
          have p4 : 0 ≤ (jk : Int) := of_decide_eq_true (by first | (with_reducible assumption) | assumption)
          have q4 : jk < (a0.size : Int) := of_decide_eq_true (by first | (with_reducible assumption) | assumption)
          have hx4 := qe1 a0 jk
          replace p4 := eq_true p4
          replace q4 := eq_true q4
          go_wp2
          go_ret
          exact ⟨by first | rfl | (simp; done) | (simp [*]; done), by repeat (first | exact yx.refl _ | apply yx.step)⟩
         ·rw [if_neg c9] at H
          have c9b0 : (jk == 0) = false := beq_eq_false_iff_ne.mpr c9
          have c9b1 : (jk != 0) = true := bne_iff_ne.mpr c9
          by_cases c10 : (bt a0 jk) < 48
          ·rw [if_pos c10] at H
           have c10b0 : decide ((bt a0 jk) < 48) = true := decide_eq_true c10
           clear c10
           by_cases c11 : (bt a0 jk) = 95
           ·rw [if_pos c11] at H
            have c11b0 : ((bt a0 jk) == 95) = true := beq_iff_eq.mpr c11
            have c11b1 : ((bt a0 jk) != 95) = false := bne_eq_false_iff_eq.mpr c11
            clear c11
            have H' := qf.mk H
            clear H
            have p4 : 0 ≤ (jk : Int) := of_decide_eq_true (by first | (with_reducible assumption) | assumption)
            have q4 : jk < (a0.size : Int) := of_decide_eq_true (by first | (with_reducible assumption) | assumption)
            have hx4 := qe1 a0 jk
            replace p4 := eq_true p4
            replace q4 := eq_true q4
            go_wp2
            go_roundg k1
            case measure => have := HK1.out; omega
            case rel => exact ⟨(wrap64 (jk + 1)), (by first | rfl | (simp; done) | (simp [*]; done)), H', ⟨by have := HK1.out; omega⟩, by repeat (first | exact yx.refl _ | apply yx.step)⟩
           ·rw [if_neg c11] at H
            have c11b0 : ((bt a0 jk) == 95) = false := beq_eq_false_iff_ne.mpr c11
            have c11b1 : ((bt a0 jk) != 95) = true := bne_iff_ne.mpr c11
            obtain rfl := Option.some.inj H
            have p4 : 0 ≤ (jk : Int) := of_decide_eq_true (by first | (with_reducible assumption) | assumption)
            have q4 : jk < (a0.size : Int) := of_decide_eq_true (by first | (with_reducible assumption) | assumption)
            have hx4 := qe1 a0 jk
            replace p4 := eq_true p4
            replace q4 := eq_true q4
            go_wp2
            go_ret
            exact ⟨by first | rfl | (simp; done) | (simp [*]; done), by repeat (first | exact yx.refl _ | apply yx.step)⟩
          ·rw [if_neg c10] at H
           have c10b0 : decide ((bt a0 jk) < 48) = false := decide_eq_false c10
           clear c10
           by_cases c12 : (bt a0 jk) > 57
           ·rw [if_pos c12] at H
            have c12b0 : decide (57 < (bt a0 jk)) = true := decide_eq_true c12
            clear c12
            by_cases c13 : (bt a0 jk) = 95
            ·rw [if_pos c13] at H
             have c13b0 : ((bt a0 jk) == 95) = true := beq_iff_eq.mpr c13
             have c13b1 : ((bt a0 jk) != 95) = false := bne_eq_false_iff_eq.mpr c13
             clear c13
             have H' := qf.mk H
             clear H
             have p4 : 0 ≤ (jk : Int) := of_decide_eq_true (by first | (with_reducible assumption) | assumption)
             have q4 : jk < (a0.size : Int) := of_decide_eq_true (by first | (with_reducible assumption) | assumption)
             have hx4 := qe1 a0 jk
             replace p4 := eq_true p4
             replace q4 := eq_true q4
             go_wp2
             go_roundg k1
             case measure => have := HK1.out; omega
             case rel => exact ⟨(wrap64 (jk + 1)), (by first | rfl | (simp; done) | (simp [*]; done)), H', ⟨by have := HK1.out; omega⟩, by repeat (first | exact yx.refl _ | apply yx.step)⟩
            ·rw [if_neg c13] at H
             have c13b0 : ((bt a0 jk) == 95) = false := beq_eq_false_iff_ne.mpr c13
             have c13b1 : ((bt a0 jk) != 95) = true := bne_iff_ne.mpr c13
             obtain rfl := Option.some.inj H
             have p4 : 0 ≤ (jk : Int) := of_decide_eq_true (by first | (with_reducible assumption) | assumption)
             have q4 : jk < (a0.size : Int) := of_decide_eq_true (by first | (with_reducible assumption) | assumption)
             have hx4 := qe1 a0 jk
             replace p4 := eq_true p4
             replace q4 := eq_true q4
             go_wp2
             go_ret
             exact ⟨by first | rfl | (simp; done) | (simp [*]; done), by repeat (first | exact yx.refl _ | apply yx.step)⟩
           ·rw [if_neg c12] at H
            have c12b0 : decide (57 < (bt a0 jk)) = false := decide_eq_false c12
            clear c12
            have H' := qf.mk H
            clear H
            have p4 : 0 ≤ (jk : Int) := of_decide_eq_true (by first | (with_reducible assumption) | assumption)
            have q4 : jk < (a0.size : Int) := of_decide_eq_true (by first | (with_reducible assumption) | assumption)
            have hx4 := qe1 a0 jk
            replace p4 := eq_true p4
            replace q4 := eq_true q4
            go_wp2
            go_roundg k1
            case measure => have := HK1.out; omega
            case rel => exact ⟨(wrap64 (jk + 1)), (by first | rfl | (simp; done) | (simp [*]; done)), H', ⟨by have := HK1.out; omega⟩, by repeat (first | exact yx.refl _ | apply yx.step)⟩
       ·rw [if_neg c7] at H
        have c7b0 : decide (65 ≤ (bt a0 jk)) = false := decide_eq_false c7
        clear c7
        by_cases c14 : jk = 0
        ·rw [if_pos c14] at H
         have c14b0 : (jk == 0) = true := beq_iff_eq.mpr c14
         have c14b1 : (jk != 0) = false := bne_eq_false_iff_eq.mpr c14
         clear c14
         obtain rfl := Option.some.inj H
         have p4 : 0 ≤ (jk : Int) := of_decide_eq_true (by first | (with_reducible assumption) | assumption)
         have q4 : jk < (a0.size : Int) := of_decide_eq_true (by first | (with_reducible assumption) | assumption)
         have hx4 := qe1 a0 jk
         replace p4 := eq_true p4
         replace q4 := eq_true q4
         go_wp2
         go_ret
         exact ⟨by first | rfl | (simp; done) | (simp [*]; done), by repeat (first | exact yx.refl _ | apply yx.step)⟩
        ·rw [if_neg c14] at H
         have c14b0 : (jk == 0) = false := beq_eq_false_iff_ne.mpr c14
         have c14b1 : (jk != 0) = true := bne_iff_ne.mpr c14
         by_cases c15 : (bt a0 jk) < 48
         ·rw [if_pos c15] at H
          have c15b0 : decide ((bt a0 jk) < 48) = true := decide_eq_true c15
          clear c15
          by_cases c16 : (bt a0 jk) = 95
          ·rw [if_pos c16] at H
           have c16b0 : ((bt a0 jk) == 95) = true := beq_iff_eq.mpr c16
           have c16b1 : ((bt a0 jk) != 95) = false := bne_eq_false_iff_eq.mpr c16
           clear c16
           have H' := qf.mk H
           clear H
           have p4 : 0 ≤ (jk : Int) := of_decide_eq_true (by first | (with_reducible assumption) | assumption)
           have q4 : jk < (a0.size : Int) := of_decide_eq_true (by first | (with_reducible assumption) | assumption)
           have hx4 := qe1 a0 jk
           replace p4 := eq_true p4
           replace q4 := eq_true q4
           go_wp2
           go_roundg k1
           case measure => have := HK1.out; omega
           case rel => exact ⟨(wrap64 (jk + 1)), (by first | rfl | (simp; done) | (simp [*]; done)), H', ⟨by have := HK1.out; omega⟩, by repeat (first | exact yx.refl _ | apply yx.step)⟩
          ·rw [if_neg c16] at H
           have c16b0 : ((bt a0 jk) == 95) = false := beq_eq_false_iff_ne.mpr c16
           have c16b1 : ((bt a0 jk) != 95) = true := bne_iff_ne.mpr c16
           obtain rfl := Option.some.inj H
           have p4 : 0 ≤ (jk : Int) := of_decide_eq_true (by first | (with_reducible assumption) | assumption)
           have q4 : jk < (a0.size : Int) := of_decide_eq_true (by first | (with_reducible assumption) | assumption)
           have hx4 := qe1 a0 jk
           replace p4 := eq_true p4
           replace q4 := eq_true q4
           go_wp2
           go_ret
           exact ⟨by first | rfl | (simp; done) | (simp [*]; done), by repeat (first | exact yx.refl _ | apply yx.step)⟩
         ·rw [if_neg c15] at H
          have c15b0 : decide ((bt a0 jk) < 48) = false := decide_eq_false c15
          clear c15
          by_cases c17 : (bt a0 jk) > 57
          ·rw [if_pos c17] at H
           have c17b0 : decide (57 < (bt a0 jk)) = true := decide_eq_true c17
           clear c17
           by_cases c18 : (bt a0 jk) = 95
           ·rw [if_pos c18] at H
            have c18b0 : ((bt a0 jk) == 95) = true := beq_iff_eq.mpr c18
            have c18b1 : ((bt a0 jk) != 95) = false := bne_eq_false_iff_eq.mpr c18
            clear c18
            have H' := qf.mk H
            clear H
            have p4 : 0 ≤ (jk : Int) := of_decide_eq_true (by first | (with_reducible assumption) | assumption)
            have q4 : jk < (a0.size : Int) := of_decide_eq_true (by first | (with_reducible assumption) | assumption)
            have hx4 := qe1 a0 jk
            replace p4 := eq_true p4
            replace q4 := eq_true q4
            go_wp2
            go_roundg k1
            case measure => have := HK1.out; omega
            case rel => exact ⟨(wrap64 (jk + 1)), (by first | rfl | (simp; done) | (simp [*]; done)), H', ⟨by have := HK1.out; omega⟩, by repeat (first | exact yx.refl _ | apply yx.step)⟩
           ·rw [if_neg c18] at H
            have c18b0 : ((bt a0 jk) == 95) = false := beq_eq_false_iff_ne.mpr c18
            have c18b1 : ((bt a0 jk) != 95) = true := bne_iff_ne.mpr c18
            obtain rfl := Option.some.inj H
            have p4 : 0 ≤ (jk : Int) := of_decide_eq_true (by first | (with_reducible assumption) | assumption)
            have q4 : jk < (a0.size : Int) := of_decide_eq_true (by first | (with_reducible assumption) | assumption)
            have hx4 := qe1 a0 jk
            replace p4 := eq_true p4
            replace q4 := eq_true q4
            go_wp2
            go_ret
            exact ⟨by first | rfl | (simp; done) | (simp [*]; done), by repeat (first | exact yx.refl _ | apply yx.step)⟩
          ·rw [if_neg c17] at H
           have c17b0 : decide (57 < (bt a0 jk)) = false := decide_eq_false c17
           clear c17
           have H' := qf.mk H
           clear H
           have p4 : 0 ≤ (jk : Int) := of_decide_eq_true (by first | (with_reducible assumption) | assumption)
           have q4 : jk < (a0.size : Int) := of_decide_eq_true (by first | (with_reducible assumption) | assumption)
           have hx4 := qe1 a0 jk
           replace p4 := eq_true p4
           replace q4 := eq_true q4
           go_wp2
           go_roundg k1
           case measure => have := HK1.out; omega
           case rel => exact ⟨(wrap64 (jk + 1)), (by first | rfl | (simp; done) | (simp [*]; done)), H', ⟨by have := HK1.out; omega⟩, by repeat (first | exact yx.refl _ | apply yx.step)⟩
     ·rw [if_neg c5] at H
      have c5b0 : decide (97 ≤ (bt a0 jk)) = false := decide_eq_false c5
      clear c5
      by_cases c19 : (bt a0 jk) ≥ 65
      ·rw [if_pos c19] at H
       have c19b0 : decide (65 ≤ (bt a0 jk)) = true := decide_eq_true c19
       clear c19
       by_cases c20 : ((bt a0 jk) ≤ 90)
       ·rw [if_pos c20] at H
        have c20b0 : decide ((bt a0 jk) ≤ 90) = true := decide_eq_true c20
        clear c20
        have H' := qf.mk H
        clear H
        have p4 : 0 ≤ (jk : Int) := of_decide_eq_true (by first | (with_reducible assumption) | assumption)
        have q4 : jk < (a0.size : Int) := of_decide_eq_true (by first | (with_reducible assumption) | assumption)
        have hx4 := qe1 a0 jk
        replace p4 := eq_true p4
        replace q4 := eq_true q4
        go_wp2
        go_roundg k1
        case measure => have := HK1.out; omega
        case rel => exact ⟨(wrap64 (jk + 1)), (by first | rfl | (simp; done) | (simp [*]; done)), H', ⟨by have := HK1.out; omega⟩, by repeat (first | exact yx.refl _ | apply yx.step)⟩
       ·rw [if_neg c20] at H
        have c20b0 : decide ((bt a0 jk) ≤ 90) = false := decide_eq_false c20
        clear c20
        by_cases c21 : jk = 0
        ·rw [if_pos c21] at H
         have c21b0 : (jk == 0) = true := beq_iff_eq.mpr c21
         have c21b1 : (jk != 0) = false := bne_eq_false_iff_eq.mpr c21
         clear c21
         obtain rfl := Option.some.inj H
         have p4 : 0 ≤ (jk : Int) := of_decide_eq_true (by first | (with_reducible assumption) | assumption)
         have q4 : jk < (a0.size : Int) := of_decide_eq_true (by first | (with_reducible assumption) | assumption)
         have hx4 := qe1 a0 jk
         replace p4 := eq_true p4
         replace q4 := eq_true q4
         go_wp2
         go_ret
         exact ⟨by first | rfl | (simp; done) | (simp [*]; done), by repeat (first | exact yx.refl _ | apply yx.step)⟩
        ·rw [if_neg c21] at H
         have c21b0 : (jk == 0) = false := beq_eq_false_iff_ne.mpr c21
         have c21b1 : (jk != 0) = true := bne_iff_ne.mpr c21
         by_cases c22 : (bt a0 jk) < 48
         ·rw [if_pos c22] at H
          have c22b0 : decide ((bt a0 jk) < 48) = true := decide_eq_true c22
          clear c22
          by_cases c23 : (bt a0 jk) = 95
          ·rw [if_pos c23] at H
           have c23b0 : ((bt a0 jk) == 95) = true := beq_iff_eq.mpr c23
           have c23b1 : ((bt a0 jk) != 95) = false := bne_eq_false_iff_eq.mpr c23
           clear c23
           have H' := qf.mk H
           clear H
           have p4 : 0 ≤ (jk : Int) := of_decide_eq_true (by first | (with_reducible assumption) | assumption)
           have q4 : jk < (a0.size : Int) := of_decide_eq_true (by first | (with_reducible assumption) | assumption)
           have hx4 := qe1 a0 jk
           replace p4 := eq_true p4
           replace q4 := eq_true q4
           go_wp2
           go_roundg k1
           case measure => have := HK1.out; omega
           case rel => exact ⟨(wrap64 (jk + 1)), (by first | rfl | (simp; done) | (simp [*]; done)), H', ⟨by have := HK1.out; omega⟩, by repeat (first | exact yx.refl _ | apply yx.step)⟩
          ·rw [if_neg c23] at H
           have c23b0 : ((bt a0 jk) == 95) = false := beq_eq_false_iff_ne.mpr c23
           have c23b1 : ((bt a0 jk) != 95) = true := bne_iff_ne.mpr c23
           obtain rfl := Option.some.inj H
           have p4 : 0 ≤ (jk : Int) := of_decide_eq_true (by first | (with_reducible assumption) | assumption)
           have q4 : jk < (a0.size : Int) := of_decide_eq_true (by first | (with_reducible assumption) | assumption)
           have hx4 := qe1 a0 jk
           replace p4 := eq_true p4
           replace q4 := eq_true q4
           go_wp2
           go_ret
           exact ⟨by first | rfl | (simp; done) | (simp [*]; done), by repeat (first | exact yx.refl _ | apply yx.step)⟩
         ·rw [if_neg c22] at H
          have c22b0 : decide ((bt a0 jk) < 48) = false := decide_eq_false c22
          clear c22
          by_cases c24 : (bt a0 jk) > 57
          ·rw [if_pos c24] at H
           have c24b0 : decide (57 < (bt a0 jk)) = true := decide_eq_true c24
           clear c24
           by_cases c25 : (bt a0 jk) = 95
           ·rw [if_pos c25] at H
            have c25b0 : ((bt a0 jk) == 95) = true := beq_iff_eq.mpr c25
            have c25b1 : ((bt a0 jk) != 95) = false := bne_eq_false_iff_eq.mpr c25
            clear c25
            have H' := qf.mk H
            clear H
            have p4 : 0 ≤ (jk : Int) := of_decide_eq_true (by first | (with_reducible assumption) | assumption)
            have q4 : jk < (a0.size : Int) := of_decide_eq_true (by first | (with_reducible assumption) | assumption)
            have hx4 := qe1 a0 jk
            replace p4 := eq_true p4
            replace q4 := eq_true q4
            go_wp2
            go_roundg k1
            case measure => have := HK1.out; omega
            case rel => exact ⟨(wrap64 (jk + 1)), (by first | rfl | (simp; done) | (simp [*]; done)), H', ⟨by have := HK1.out; omega⟩, by repeat (first | exact yx.refl _ | apply yx.step)⟩
           ·rw [if_neg c25] at H
            have c25b0 : ((bt a0 jk) == 95) = false := beq_eq_false_iff_ne.mpr c25
            have c25b1 : ((bt a0 jk) != 95) = true := bne_iff_ne.mpr c25
            obtain rfl := Option.some.inj H
            have p4 : 0 ≤ (jk : Int) := of_decide_eq_true (by first | (with_reducible assumption) | assumption)
            have q4 : jk < (a0.size : Int) := of_decide_eq_true (by first | (with_reducible assumption) | assumption)
            have hx4 := qe1 a0 jk
            replace p4 := eq_true p4
            replace q4 := eq_true q4
            go_wp2
            go_ret
            exact ⟨by first | rfl | (simp; done) | (simp [*]; done), by repeat (first | exact yx.refl _ | apply yx.step)⟩
          ·rw [if_neg c24] at H
           have c24b0 : decide (57 < (bt a0 jk)) = false := decide_eq_false c24
           clear c24
           have H' := qf.mk H
           clear H
           have p4 : 0 ≤ (jk : Int) := of_decide_eq_true (by first | (with_reducible assumption) | assumption)
           have q4 : jk < (a0.size : Int) := of_decide_eq_true (by first | (with_reducible assumption) | assumption)
           have hx4 := qe1 a0 jk
           replace p4 := eq_true p4
           replace q4 := eq_true q4
           go_wp2
           go_roundg k1
           case measure => have := HK1.out; omega
           case rel => exact ⟨(wrap64 (jk + 1)), (by first | rfl | (simp; done) | (simp [*]; done)), H', ⟨by have := HK1.out; omega⟩, by repeat (first | exact yx.refl _ | apply yx.step)⟩
      ·rw [if_neg c19] at H
       have c19b0 : decide (65 ≤ (bt a0 jk)) = false := decide_eq_false c19
       clear c19
       by_cases c26 : jk = 0
       ·rw [if_pos c26] at H
        have c26b0 : (jk == 0) = true := beq_iff_eq.mpr c26
        have c26b1 : (jk != 0) = false := bne_eq_false_iff_eq.mpr c26
        clear c26
        obtain rfl := Option.some.inj H
        have p4 : 0 ≤ (jk : Int) := of_decide_eq_true (by first | (with_reducible assumption) | assumption)
        have q4 : jk < (a0.size : Int) := of_decide_eq_true (by first | (with_reducible assumption) | assumption)
        have hx4 := qe1 a0 jk
        replace p4 := eq_true p4
        replace q4 := eq_true q4
        go_wp2
        go_ret
        exact ⟨by first | rfl | (simp; done) | (simp [*]; done), by repeat (first | exact yx.refl _ | apply yx.step)⟩
       ·rw [if_neg c26] at H
        have c26b0 : (jk == 0) = false := beq_eq_false_iff_ne.mpr c26
        have c26b1 : (jk != 0) = true := bne_iff_ne.mpr c26
        by_cases c27 : (bt a0 jk) < 48
        ·rw [if_pos c27] at H
         have c27b0 : decide ((bt a0 jk) < 48) = true := decide_eq_true c27
         clear c27
         by_cases c28 : (bt a0 jk) = 95
         ·rw [if_pos c28] at H
          have c28b0 : ((bt a0 jk) == 95) = true := beq_iff_eq.mpr c28
          have c28b1 : ((bt a0 jk) != 95) = false := bne_eq_false_iff_eq.mpr c28
          clear c28
          have H' := qf.mk H
          clear H
          have p4 : 0 ≤ (jk : Int) := of_decide_eq_true (by first | (with_reducible assumption) | assumption)
          have q4 : jk < (a0.size : Int) := of_decide_eq_true (by first | (with_reducible assumption) | assumption)
          have hx4 := qe1 a0 jk
          replace p4 := eq_true p4
          replace q4 := eq_true q4
          go_wp2
          go_roundg k1
          case measure => have := HK1.out; omega
          case rel => exact ⟨(wrap64 (jk + 1)), (by first | rfl | (simp; done) | (simp [*]; done)), H', ⟨by have := HK1.out; omega⟩, by repeat (first | exact yx.refl _ | apply yx.step)⟩
         ·rw [if_neg c28] at H
          have c28b0 : ((bt a0 jk) == 95) = false := beq_eq_false_iff_ne.mpr c28
          have c28b1 : ((bt a0 jk) != 95) = true := bne_iff_ne.mpr c28
          obtain rfl := Option.some.inj H
          have p4 : 0 ≤ (jk : Int) := of_decide_eq_true (by first | (with_reducible assumption) | assumption)
          have q4 : jk < (a0.size : Int) := of_decide_eq_true (by first | (with_reducible assumption) | assumption)
          have hx4 := qe1 a0 jk
          replace p4 := eq_true p4
          replace q4 := eq_true q4
          go_wp2
          go_ret
          exact ⟨by first | rfl | (simp; done) | (simp [*]; done), by repeat (first | exact yx.refl _ | apply yx.step)⟩
        ·rw [if_neg c27] at H
         have c27b0 : decide ((bt a0 jk) < 48) = false := decide_eq_false c27
         clear c27
         by_cases c29 : (bt a0 jk) > 57
         ·rw [if_pos c29] at H
          have c29b0 : decide (57 < (bt a0 jk)) = true := decide_eq_true c29
          clear c29
          by_cases c30 : (bt a0 jk) = 95
          ·rw [if_pos c30] at H
           have c30b0 : ((bt a0 jk) == 95) = true := beq_iff_eq.mpr c30
           have c30b1 : ((bt a0 jk) != 95) = false := bne_eq_false_iff_eq.mpr c30
           clear c30
           have H' := qf.mk H
           clear H
           have p4 : 0 ≤ (jk : Int) := of_decide_eq_true (by first | (with_reducible assumption) | assumption)
           have q4 : jk < (a0.size : Int) := of_decide_eq_true (by first | (with_reducible assumption) | assumption)
           have hx4 := qe1 a0 jk
           replace p4 := eq_true p4
           replace q4 := eq_true q4
           go_wp2
           go_roundg k1
           case measure => have := HK1.out; omega
           case rel => exact ⟨(wrap64 (jk + 1)), (by first | rfl | (simp; done) | (simp [*]; done)), H', ⟨by have := HK1.out; omega⟩, by repeat (first | exact yx.refl _ | apply yx.step)⟩
          ·rw [if_neg c30] at H
           have c30b0 : ((bt a0 jk) == 95) = false := beq_eq_false_iff_ne.mpr c30
           have c30b1 : ((bt a0 jk) != 95) = true := bne_iff_ne.mpr c30
           obtain rfl := Option.some.inj H
           have p4 : 0 ≤ (jk : Int) := of_decide_eq_true (by first | (with_reducible assumption) | assumption)
           have q4 : jk < (a0.size : Int) := of_decide_eq_true (by first | (with_reducible assumption) | assumption)
           have hx4 := qe1 a0 jk
           replace p4 := eq_true p4
           replace q4 := eq_true q4
           go_wp2
           go_ret
           exact ⟨by first | rfl | (simp; done) | (simp [*]; done), by repeat (first | exact yx.refl _ | apply yx.step)⟩
         ·rw [if_neg c29] at H
          have c29b0 : decide (57 < (bt a0 jk)) = false := decide_eq_false c29
          clear c29
          have H' := qf.mk H
          clear H
          have p4 : 0 ≤ (jk : Int) := of_decide_eq_true (by first | (with_reducible assumption) | assumption)
          have q4 : jk < (a0.size : Int) := of_decide_eq_true (by first | (with_reducible assumption) | assumption)
          have hx4 := qe1 a0 jk
          replace p4 := eq_true p4
          replace q4 := eq_true q4
          go_wp2
          go_roundg k1
          case measure => have := HK1.out; omega
          case rel => exact ⟨(wrap64 (jk + 1)), (by first | rfl | (simp; done) | (simp [*]; done)), H', ⟨by have := HK1.out; omega⟩, by repeat (first | exact yx.refl _ | apply yx.step)⟩
    ·rw [if_neg c3] at H
     exact absurd H (by simp)
   ·rw [if_neg c2] at H
    have c2b0 : decide (jk < (a0.size : Int)) = false := decide_eq_false c2
    clear c2
    by_cases c31 : (a0.size : Int) ≥ 1
    ·rw [if_pos c31] at H
     have c31b0 : decide (1 ≤ (a0.size : Int)) = true := decide_eq_true c31
     have c31b1 : decide (1 ≤ a0.size) = true := decide_eq_true (by omega)
     clear c31
     obtain rfl := Option.some.inj H
     go_wp2
     go_ret
     exact ⟨by first | rfl | (simp; done) | (simp [*]; done), by repeat (first | exact yx.refl _ | apply yx.step)⟩
    ·rw [if_neg c31] at H
     have c31b0 : decide (1 ≤ (a0.size : Int)) = false := decide_eq_false c31
     have c31b1 : decide (1 ≤ a0.size) = false := decide_eq_false (by omega)
     clear c31
     obtain rfl := Option.some.inj H
     go_wp2
     go_ret
     exact ⟨by first | rfl | (simp; done) | (simp [*]; done), by repeat (first | exact yx.refl _ | apply yx.step)⟩
def yt.l0 : Nat → ByteArray → List ByteArray → Int → Option (Bool)
 | 0, _, _, _ => none
 | k + 1, x0, x3, x4 => if x4 < (x3.length : Int) then (if 0 ≤ x4 then (if (rdOf ByteArray.empty x3 x4).toList = x0.toList then (some true) else (yt.l0 k x0 x3 (wrap64 (x4 + 1)))) else (none)) else (some false)
def yt.f (k : Nat) (a0 : ByteArray) : Option (Bool) := yt.l0 k a0 (([(⟨#[107, 101, 121]⟩ : ByteArray), (⟨#[116, 114, 101, 101]⟩ : ByteArray), (⟨#[100, 111, 109, 97, 105, 110]⟩ : ByteArray), (⟨#[111, 119, 110]⟩ : ByteArray), (⟨#[115, 104, 97, 114, 101, 100]⟩ : ByteArray), (⟨#[105, 110, 116]⟩ : ByteArray), (⟨#[98, 111, 111, 108]⟩ : ByteArray), (⟨#[114, 101, 102]⟩ : ByteArray), (⟨#[115, 121, 109]⟩ : ByteArray), (⟨#[112, 111, 105, 110, 116]⟩ : ByteArray), (⟨#[115, 101, 113]⟩ : ByteArray), (⟨#[115, 101, 108]⟩ : ByteArray), (⟨#[109, 115, 101, 113]⟩ : ByteArray), (⟨#[109, 115, 101, 108]⟩ : ByteArray), (⟨#[112, 97, 114]⟩ : ByteArray), (⟨#[110, 111, 116]⟩ : ByteArray), (⟨#[114, 101, 112, 101, 97, 116]⟩ : ByteArray), (⟨#[105, 102]⟩ : ByteArray), (⟨#[115, 101, 116]⟩ : ByteArray), (⟨#[100, 111]⟩ : ByteArray), (⟨#[117, 115, 101]⟩ : ByteArray), (⟨#[112, 105, 99, 107]⟩ : ByteArray), (⟨#[112, 108, 97, 110]⟩ : ByteArray), (⟨#[111, 107]⟩ : ByteArray), (⟨#[102, 97, 105, 108]⟩ : ByteArray), (⟨#[119, 97, 105, 116]⟩ : ByteArray), (⟨#[118, 97, 114]⟩ : ByteArray), (⟨#[97, 99, 116]⟩ : ByteArray), (⟨#[99, 111, 115, 116]⟩ : ByteArray), (⟨#[110, 101, 101, 100]⟩ : ByteArray), (⟨#[109, 97, 107, 101]⟩ : ByteArray), (⟨#[103, 111, 97, 108]⟩ : ByteArray), (⟨#[116, 114, 117, 101]⟩ : ByteArray), (⟨#[102, 97, 108, 115, 101]⟩ : ByteArray), (⟨#[115, 101, 108, 102]⟩ : ByteArray), (⟨#[116, 105, 109, 101]⟩ : ByteArray), (⟨#[97, 110, 100]⟩ : ByteArray), (⟨#[111, 114]⟩ : ByteArray), (⟨#[114, 101]⟩ : ByteArray), (⟨#[105, 109]⟩ : ByteArray), (⟨#[116, 117, 114, 110]⟩ : ByteArray), (⟨#[102, 97, 114]⟩ : ByteArray)] : List ByteArray)) 0
theorem yt.qb2 : ∀ k, (∀ y0 y1 y2, LeO (yt.l0 k y0 y1 y2) (yt.l0 (k + 1) y0 y1 y2))
 | 0 => fun _ _ _ r h => by simp [yt.l0] at h
 | k + 1 => by
  have ih0 := yt.qb2 k
  ·intro y0 y1 y2
   unfold yt.l0
   repeat' first
   | (with_reducible exact ih0 _ _ _)
   | (with_reducible exact LeO.refl _)
   | (with_reducible exact LeO.none _)
   | (with_reducible refine LeO.ite ?_ ?_)
   | (with_reducible refine LeO.bind ?_ (fun _ => ?_))
   | exact ih0 _ _ _
   | exact LeO.none _
   | refine LeO.ite ?_ ?_
   | refine LeO.bind ?_ (fun _ => ?_)
theorem yt.mono : ∀ a0 k, LeO (yt.f k a0) (yt.f (k + 1) a0) := by
 intro a0 k
 have ih0 := yt.qb2 k
 unfold yt.f
 repeat' first
   | (with_reducible exact ih0 _ _ _)
   | (with_reducible exact LeO.refl _)
   | (with_reducible exact LeO.none _)
   | (with_reducible refine LeO.ite ?_ ?_)
   | (with_reducible refine LeO.bind ?_ (fun _ => ?_))
   | exact ih0 _ _ _
   | exact LeO.none _
   | refine LeO.ite ?_ ?_
   | refine LeO.bind ?_ (fun _ => ?_)
set_option maxHeartbeats 8000000 in
set_option maxRecDepth 100000 in
theorem yt.calls (k : Nat) (a0 : ByteArray) (r : Bool) (w : World) (h : yt.f k a0 = some r) :
  Calls Tryd.prog 46 #[.string a0] w fun e w' => e = .returned (.bool r) ∧ Below w.heap.size w w' := by
 have HB := qf.mk (Below.refl w.heap.size w)
 have H : (yt.l0 k a0 (([(⟨#[107, 101, 121]⟩ : ByteArray), (⟨#[116, 114, 101, 101]⟩ : ByteArray), (⟨#[100, 111, 109, 97, 105, 110]⟩ : ByteArray), (⟨#[111, 119, 110]⟩ : ByteArray), (⟨#[115, 104, 97, 114, 101, 100]⟩ : ByteArray), (⟨#[105, 110, 116]⟩ : ByteArray), (⟨#[98, 111, 111, 108]⟩ : ByteArray), (⟨#[114, 101, 102]⟩ : ByteArray), (⟨#[115, 121, 109]⟩ : ByteArray), (⟨#[112, 111, 105, 110, 116]⟩ : ByteArray), (⟨#[115, 101, 113]⟩ : ByteArray), (⟨#[115, 101, 108]⟩ : ByteArray), (⟨#[109, 115, 101, 113]⟩ : ByteArray), (⟨#[109, 115, 101, 108]⟩ : ByteArray), (⟨#[112, 97, 114]⟩ : ByteArray), (⟨#[110, 111, 116]⟩ : ByteArray), (⟨#[114, 101, 112, 101, 97, 116]⟩ : ByteArray), (⟨#[105, 102]⟩ : ByteArray), (⟨#[115, 101, 116]⟩ : ByteArray), (⟨#[100, 111]⟩ : ByteArray), (⟨#[117, 115, 101]⟩ : ByteArray), (⟨#[112, 105, 99, 107]⟩ : ByteArray), (⟨#[112, 108, 97, 110]⟩ : ByteArray), (⟨#[111, 107]⟩ : ByteArray), (⟨#[102, 97, 105, 108]⟩ : ByteArray), (⟨#[119, 97, 105, 116]⟩ : ByteArray), (⟨#[118, 97, 114]⟩ : ByteArray), (⟨#[97, 99, 116]⟩ : ByteArray), (⟨#[99, 111, 115, 116]⟩ : ByteArray), (⟨#[110, 101, 101, 100]⟩ : ByteArray), (⟨#[109, 97, 107, 101]⟩ : ByteArray), (⟨#[103, 111, 97, 108]⟩ : ByteArray), (⟨#[116, 114, 117, 101]⟩ : ByteArray), (⟨#[102, 97, 108, 115, 101]⟩ : ByteArray), (⟨#[115, 101, 108, 102]⟩ : ByteArray), (⟨#[116, 105, 109, 101]⟩ : ByteArray), (⟨#[97, 110, 100]⟩ : ByteArray), (⟨#[111, 114]⟩ : ByteArray), (⟨#[114, 101]⟩ : ByteArray), (⟨#[105, 109]⟩ : ByteArray), (⟨#[116, 117, 114, 110]⟩ : ByteArray), (⟨#[102, 97, 114]⟩ : ByteArray)] : List ByteArray)) 0) = some r := h
 clear h
 obtain ⟨q0d, zh1⟩ : ∃ y_ : List ByteArray, y_ = (([(⟨#[107, 101, 121]⟩ : ByteArray), (⟨#[116, 114, 101, 101]⟩ : ByteArray), (⟨#[100, 111, 109, 97, 105, 110]⟩ : ByteArray), (⟨#[111, 119, 110]⟩ : ByteArray), (⟨#[115, 104, 97, 114, 101, 100]⟩ : ByteArray), (⟨#[105, 110, 116]⟩ : ByteArray), (⟨#[98, 111, 111, 108]⟩ : ByteArray), (⟨#[114, 101, 102]⟩ : ByteArray), (⟨#[115, 121, 109]⟩ : ByteArray), (⟨#[112, 111, 105, 110, 116]⟩ : ByteArray), (⟨#[115, 101, 113]⟩ : ByteArray), (⟨#[115, 101, 108]⟩ : ByteArray), (⟨#[109, 115, 101, 113]⟩ : ByteArray), (⟨#[109, 115, 101, 108]⟩ : ByteArray), (⟨#[112, 97, 114]⟩ : ByteArray), (⟨#[110, 111, 116]⟩ : ByteArray), (⟨#[114, 101, 112, 101, 97, 116]⟩ : ByteArray), (⟨#[105, 102]⟩ : ByteArray), (⟨#[115, 101, 116]⟩ : ByteArray), (⟨#[100, 111]⟩ : ByteArray), (⟨#[117, 115, 101]⟩ : ByteArray), (⟨#[112, 105, 99, 107]⟩ : ByteArray), (⟨#[112, 108, 97, 110]⟩ : ByteArray), (⟨#[111, 107]⟩ : ByteArray), (⟨#[102, 97, 105, 108]⟩ : ByteArray), (⟨#[119, 97, 105, 116]⟩ : ByteArray), (⟨#[118, 97, 114]⟩ : ByteArray), (⟨#[97, 99, 116]⟩ : ByteArray), (⟨#[99, 111, 115, 116]⟩ : ByteArray), (⟨#[110, 101, 101, 100]⟩ : ByteArray), (⟨#[109, 97, 107, 101]⟩ : ByteArray), (⟨#[103, 111, 97, 108]⟩ : ByteArray), (⟨#[116, 114, 117, 101]⟩ : ByteArray), (⟨#[102, 97, 108, 115, 101]⟩ : ByteArray), (⟨#[115, 101, 108, 102]⟩ : ByteArray), (⟨#[116, 105, 109, 101]⟩ : ByteArray), (⟨#[97, 110, 100]⟩ : ByteArray), (⟨#[111, 114]⟩ : ByteArray), (⟨#[114, 101]⟩ : ByteArray), (⟨#[105, 109]⟩ : ByteArray), (⟨#[116, 117, 114, 110]⟩ : ByteArray), (⟨#[102, 97, 114]⟩ : ByteArray)] : List ByteArray)) := ⟨_, rfl⟩
 replace H : (yt.l0 k a0 q0d 0) = some r := by first | (rw [zh1]; with_reducible exact H) | (have H2_ := (Option.bind_some _ _).symm.trans H; rw [zh1]; with_reducible exact H2_) | (have H2_ := (Option.bind_some _ _).symm.trans H; with_reducible exact H2_) | with_reducible exact H | (rw [zh1]; exact H) | exact H
 have zuo := qf.mk zh1
 clear zh1
 have H' := qf.mk H
 clear H
 go_enter Tryd.func46, Tryd.ntmps46
 go_wp2_with (first | ((with_reducible refine qah (N := 5) rfl ?_); refine Kd.zoy Kd.string _ 9 ?hg (N := 5) ?hd (xs := ([(⟨#[107, 101, 121]⟩ : ByteArray), (⟨#[116, 114, 101, 101]⟩ : ByteArray), (⟨#[100, 111, 109, 97, 105, 110]⟩ : ByteArray), (⟨#[111, 119, 110]⟩ : ByteArray), (⟨#[115, 104, 97, 114, 101, 100]⟩ : ByteArray), (⟨#[105, 110, 116]⟩ : ByteArray), (⟨#[98, 111, 111, 108]⟩ : ByteArray), (⟨#[114, 101, 102]⟩ : ByteArray), (⟨#[115, 121, 109]⟩ : ByteArray), (⟨#[112, 111, 105, 110, 116]⟩ : ByteArray), (⟨#[115, 101, 113]⟩ : ByteArray), (⟨#[115, 101, 108]⟩ : ByteArray), (⟨#[109, 115, 101, 113]⟩ : ByteArray), (⟨#[109, 115, 101, 108]⟩ : ByteArray), (⟨#[112, 97, 114]⟩ : ByteArray), (⟨#[110, 111, 116]⟩ : ByteArray), (⟨#[114, 101, 112, 101, 97, 116]⟩ : ByteArray), (⟨#[105, 102]⟩ : ByteArray), (⟨#[115, 101, 116]⟩ : ByteArray), (⟨#[100, 111]⟩ : ByteArray), (⟨#[117, 115, 101]⟩ : ByteArray), (⟨#[112, 105, 99, 107]⟩ : ByteArray), (⟨#[112, 108, 97, 110]⟩ : ByteArray), (⟨#[111, 107]⟩ : ByteArray), (⟨#[102, 97, 105, 108]⟩ : ByteArray), (⟨#[119, 97, 105, 116]⟩ : ByteArray), (⟨#[118, 97, 114]⟩ : ByteArray), (⟨#[97, 99, 116]⟩ : ByteArray), (⟨#[99, 111, 115, 116]⟩ : ByteArray), (⟨#[110, 101, 101, 100]⟩ : ByteArray), (⟨#[109, 97, 107, 101]⟩ : ByteArray), (⟨#[103, 111, 97, 108]⟩ : ByteArray), (⟨#[116, 114, 117, 101]⟩ : ByteArray), (⟨#[102, 97, 108, 115, 101]⟩ : ByteArray), (⟨#[115, 101, 108, 102]⟩ : ByteArray), (⟨#[116, 105, 109, 101]⟩ : ByteArray), (⟨#[97, 110, 100]⟩ : ByteArray), (⟨#[111, 114]⟩ : ByteArray), (⟨#[114, 101]⟩ : ByteArray), (⟨#[105, 109]⟩ : ByteArray), (⟨#[116, 117, 114, 110]⟩ : ByteArray), (⟨#[102, 97, 114]⟩ : ByteArray)] : List ByteArray)) (inner := [.string (⟨#[107, 101, 121]⟩ : ByteArray), .string (⟨#[116, 114, 101, 101]⟩ : ByteArray), .string (⟨#[100, 111, 109, 97, 105, 110]⟩ : ByteArray), .string (⟨#[111, 119, 110]⟩ : ByteArray), .string (⟨#[115, 104, 97, 114, 101, 100]⟩ : ByteArray), .string (⟨#[105, 110, 116]⟩ : ByteArray), .string (⟨#[98, 111, 111, 108]⟩ : ByteArray), .string (⟨#[114, 101, 102]⟩ : ByteArray), .string (⟨#[115, 121, 109]⟩ : ByteArray), .string (⟨#[112, 111, 105, 110, 116]⟩ : ByteArray), .string (⟨#[115, 101, 113]⟩ : ByteArray), .string (⟨#[115, 101, 108]⟩ : ByteArray), .string (⟨#[109, 115, 101, 113]⟩ : ByteArray), .string (⟨#[109, 115, 101, 108]⟩ : ByteArray), .string (⟨#[112, 97, 114]⟩ : ByteArray), .string (⟨#[110, 111, 116]⟩ : ByteArray), .string (⟨#[114, 101, 112, 101, 97, 116]⟩ : ByteArray), .string (⟨#[105, 102]⟩ : ByteArray), .string (⟨#[115, 101, 116]⟩ : ByteArray), .string (⟨#[100, 111]⟩ : ByteArray), .string (⟨#[117, 115, 101]⟩ : ByteArray), .string (⟨#[112, 105, 99, 107]⟩ : ByteArray), .string (⟨#[112, 108, 97, 110]⟩ : ByteArray), .string (⟨#[111, 107]⟩ : ByteArray), .string (⟨#[102, 97, 105, 108]⟩ : ByteArray), .string (⟨#[119, 97, 105, 116]⟩ : ByteArray), .string (⟨#[118, 97, 114]⟩ : ByteArray), .string (⟨#[97, 99, 116]⟩ : ByteArray), .string (⟨#[99, 111, 115, 116]⟩ : ByteArray), .string (⟨#[110, 101, 101, 100]⟩ : ByteArray), .string (⟨#[109, 97, 107, 101]⟩ : ByteArray), .string (⟨#[103, 111, 97, 108]⟩ : ByteArray), .string (⟨#[116, 114, 117, 101]⟩ : ByteArray), .string (⟨#[102, 97, 108, 115, 101]⟩ : ByteArray), .string (⟨#[115, 101, 108, 102]⟩ : ByteArray), .string (⟨#[116, 105, 109, 101]⟩ : ByteArray), .string (⟨#[97, 110, 100]⟩ : ByteArray), .string (⟨#[111, 114]⟩ : ByteArray), .string (⟨#[114, 101]⟩ : ByteArray), .string (⟨#[105, 109]⟩ : ByteArray), .string (⟨#[116, 117, 114, 110]⟩ : ByteArray), .string (⟨#[102, 97, 114]⟩ : ByteArray)]) (ok := fun _ => True) (okp := fun _ => True) ?hr ?hp (fun _ hk => hk) trivial (Below.refl _ _) (Nat.le_refl _) (by simp) ?_; (case hd => rfl); (case hg => rfl); (case hr => first | (go_simp; done) | (go_simp; rfl)); (case hp => exact (Reps.one (show Kd.M Kd.string _ _ _ (⟨#[107, 101, 121]⟩ : ByteArray) [.string (⟨#[107, 101, 121]⟩ : ByteArray)] from rfl) (Reps.one (show Kd.M Kd.string _ _ _ (⟨#[116, 114, 101, 101]⟩ : ByteArray) [.string (⟨#[116, 114, 101, 101]⟩ : ByteArray)] from rfl) (Reps.one (show Kd.M Kd.string _ _ _ (⟨#[100, 111, 109, 97, 105, 110]⟩ : ByteArray) [.string (⟨#[100, 111, 109, 97, 105, 110]⟩ : ByteArray)] from rfl) (Reps.one (show Kd.M Kd.string _ _ _ (⟨#[111, 119, 110]⟩ : ByteArray) [.string (⟨#[111, 119, 110]⟩ : ByteArray)] from rfl) (Reps.one (show Kd.M Kd.string _ _ _ (⟨#[115, 104, 97, 114, 101, 100]⟩ : ByteArray) [.string (⟨#[115, 104, 97, 114, 101, 100]⟩ : ByteArray)] from rfl) (Reps.one (show Kd.M Kd.string _ _ _ (⟨#[105, 110, 116]⟩ : ByteArray) [.string (⟨#[105, 110, 116]⟩ : ByteArray)] from rfl) (Reps.one (show Kd.M Kd.string _ _ _ (⟨#[98, 111, 111, 108]⟩ : ByteArray) [.string (⟨#[98, 111, 111, 108]⟩ : ByteArray)] from rfl) (Reps.one (show Kd.M Kd.string _ _ _ (⟨#[114, 101, 102]⟩ : ByteArray) [.string (⟨#[114, 101, 102]⟩ : ByteArray)] from rfl) (Reps.one (show Kd.M Kd.string _ _ _ (⟨#[115, 121, 109]⟩ : ByteArray) [.string (⟨#[115, 121, 109]⟩ : ByteArray)] from rfl) (Reps.one (show Kd.M Kd.string _ _ _ (⟨#[112, 111, 105, 110, 116]⟩ : ByteArray) [.string (⟨#[112, 111, 105, 110, 116]⟩ : ByteArray)] from rfl) (Reps.one (show Kd.M Kd.string _ _ _ (⟨#[115, 101, 113]⟩ : ByteArray) [.string (⟨#[115, 101, 113]⟩ : ByteArray)] from rfl) (Reps.one (show Kd.M Kd.string _ _ _ (⟨#[115, 101, 108]⟩ : ByteArray) [.string (⟨#[115, 101, 108]⟩ : ByteArray)] from rfl) (Reps.one (show Kd.M Kd.string _ _ _ (⟨#[109, 115, 101, 113]⟩ : ByteArray) [.string (⟨#[109, 115, 101, 113]⟩ : ByteArray)] from rfl) (Reps.one (show Kd.M Kd.string _ _ _ (⟨#[109, 115, 101, 108]⟩ : ByteArray) [.string (⟨#[109, 115, 101, 108]⟩ : ByteArray)] from rfl) (Reps.one (show Kd.M Kd.string _ _ _ (⟨#[112, 97, 114]⟩ : ByteArray) [.string (⟨#[112, 97, 114]⟩ : ByteArray)] from rfl) (Reps.one (show Kd.M Kd.string _ _ _ (⟨#[110, 111, 116]⟩ : ByteArray) [.string (⟨#[110, 111, 116]⟩ : ByteArray)] from rfl) (Reps.one (show Kd.M Kd.string _ _ _ (⟨#[114, 101, 112, 101, 97, 116]⟩ : ByteArray) [.string (⟨#[114, 101, 112, 101, 97, 116]⟩ : ByteArray)] from rfl) (Reps.one (show Kd.M Kd.string _ _ _ (⟨#[105, 102]⟩ : ByteArray) [.string (⟨#[105, 102]⟩ : ByteArray)] from rfl) (Reps.one (show Kd.M Kd.string _ _ _ (⟨#[115, 101, 116]⟩ : ByteArray) [.string (⟨#[115, 101, 116]⟩ : ByteArray)] from rfl) (Reps.one (show Kd.M Kd.string _ _ _ (⟨#[100, 111]⟩ : ByteArray) [.string (⟨#[100, 111]⟩ : ByteArray)] from rfl) (Reps.one (show Kd.M Kd.string _ _ _ (⟨#[117, 115, 101]⟩ : ByteArray) [.string (⟨#[117, 115, 101]⟩ : ByteArray)] from rfl) (Reps.one (show Kd.M Kd.string _ _ _ (⟨#[112, 105, 99, 107]⟩ : ByteArray) [.string (⟨#[112, 105, 99, 107]⟩ : ByteArray)] from rfl) (Reps.one (show Kd.M Kd.string _ _ _ (⟨#[112, 108, 97, 110]⟩ : ByteArray) [.string (⟨#[112, 108, 97, 110]⟩ : ByteArray)] from rfl) (Reps.one (show Kd.M Kd.string _ _ _ (⟨#[111, 107]⟩ : ByteArray) [.string (⟨#[111, 107]⟩ : ByteArray)] from rfl) (Reps.one (show Kd.M Kd.string _ _ _ (⟨#[102, 97, 105, 108]⟩ : ByteArray) [.string (⟨#[102, 97, 105, 108]⟩ : ByteArray)] from rfl) (Reps.one (show Kd.M Kd.string _ _ _ (⟨#[119, 97, 105, 116]⟩ : ByteArray) [.string (⟨#[119, 97, 105, 116]⟩ : ByteArray)] from rfl) (Reps.one (show Kd.M Kd.string _ _ _ (⟨#[118, 97, 114]⟩ : ByteArray) [.string (⟨#[118, 97, 114]⟩ : ByteArray)] from rfl) (Reps.one (show Kd.M Kd.string _ _ _ (⟨#[97, 99, 116]⟩ : ByteArray) [.string (⟨#[97, 99, 116]⟩ : ByteArray)] from rfl) (Reps.one (show Kd.M Kd.string _ _ _ (⟨#[99, 111, 115, 116]⟩ : ByteArray) [.string (⟨#[99, 111, 115, 116]⟩ : ByteArray)] from rfl) (Reps.one (show Kd.M Kd.string _ _ _ (⟨#[110, 101, 101, 100]⟩ : ByteArray) [.string (⟨#[110, 101, 101, 100]⟩ : ByteArray)] from rfl) (Reps.one (show Kd.M Kd.string _ _ _ (⟨#[109, 97, 107, 101]⟩ : ByteArray) [.string (⟨#[109, 97, 107, 101]⟩ : ByteArray)] from rfl) (Reps.one (show Kd.M Kd.string _ _ _ (⟨#[103, 111, 97, 108]⟩ : ByteArray) [.string (⟨#[103, 111, 97, 108]⟩ : ByteArray)] from rfl) (Reps.one (show Kd.M Kd.string _ _ _ (⟨#[116, 114, 117, 101]⟩ : ByteArray) [.string (⟨#[116, 114, 117, 101]⟩ : ByteArray)] from rfl) (Reps.one (show Kd.M Kd.string _ _ _ (⟨#[102, 97, 108, 115, 101]⟩ : ByteArray) [.string (⟨#[102, 97, 108, 115, 101]⟩ : ByteArray)] from rfl) (Reps.one (show Kd.M Kd.string _ _ _ (⟨#[115, 101, 108, 102]⟩ : ByteArray) [.string (⟨#[115, 101, 108, 102]⟩ : ByteArray)] from rfl) (Reps.one (show Kd.M Kd.string _ _ _ (⟨#[116, 105, 109, 101]⟩ : ByteArray) [.string (⟨#[116, 105, 109, 101]⟩ : ByteArray)] from rfl) (Reps.one (show Kd.M Kd.string _ _ _ (⟨#[97, 110, 100]⟩ : ByteArray) [.string (⟨#[97, 110, 100]⟩ : ByteArray)] from rfl) (Reps.one (show Kd.M Kd.string _ _ _ (⟨#[111, 114]⟩ : ByteArray) [.string (⟨#[111, 114]⟩ : ByteArray)] from rfl) (Reps.one (show Kd.M Kd.string _ _ _ (⟨#[114, 101]⟩ : ByteArray) [.string (⟨#[114, 101]⟩ : ByteArray)] from rfl) (Reps.one (show Kd.M Kd.string _ _ _ (⟨#[105, 109]⟩ : ByteArray) [.string (⟨#[105, 109]⟩ : ByteArray)] from rfl) (Reps.one (show Kd.M Kd.string _ _ _ (⟨#[116, 117, 114, 110]⟩ : ByteArray) [.string (⟨#[116, 117, 114, 110]⟩ : ByteArray)] from rfl) (Reps.one (show Kd.M Kd.string _ _ _ (⟨#[102, 97, 114]⟩ : ByteArray) [.string (⟨#[102, 97, 114]⟩ : ByteArray)] from rfl) (Reps.none _ _)))))))))))))))))))))))))))))))))))))))))))); intro v201 w2 ho3 hb hg_ hnew_; clear hg_ hnew_; (first | rw [← zuo.out] at ho3 | (simp only [Int.reduceToNat] at ho3; rw [← zuo.out] at ho3)); have n0_ := qf.mk (Kd.qh1 ho3 (zo (by repeat (first | (with_reducible first | exact HB.out | apply qg | apply qc | apply qh) | exact HB.out)))); have n1_ := qf.mk (zk (by repeat (first | (with_reducible first | exact HB.out | apply qg | apply qc | apply qh) | exact HB.out)) hb); clear HB; have zw9 := n0_; have HB := n1_; clear n0_ n1_; clear hb ho3))
 go_loopg [4] k (fun kq v4 w' => ∃ (qoo : Int), v4 = .int .i64 qoo ∧ qf (yt.l0 kq a0 q0d qoo = some r) ∧ qf (kq ≤ k) ∧ qf (Kd.R Kd.string 9 w' w.heap.size (fun _ => True) v201 q0d) ∧ qf (Below w.heap.size w w'))
 case atStart => exact ⟨(0), (by first | rfl | (simp; done) | (simp [*]; done)), H', ⟨Nat.le_refl _⟩, ⟨by (with_reducible repeat (first | apply Kd.qe7 | apply Kd.qe8 | apply Kd.qhq)); exact zw9.out⟩, ⟨by repeat (first | (with_reducible first | exact HB.out | apply qg | apply qc | apply qh) | exact HB.out)⟩⟩
 case round =>
  clear H'
  (try clear p2)
  obtain ⟨qoo, rfl, HA, HK1, HO_3, HB⟩ := hrel
  cases gk with
  | zero => exact absurd HA.out (by simp [yt.l0])
  | succ k1 =>
   have H := HA.out
   clear HA
   simp only [yt.l0] at H
   by_cases c4 : qoo < (q0d.length : Int)
   ·rw [if_pos c4] at H
    have c4b0 : decide (qoo < (q0d.length : Int)) = true := decide_eq_true c4
    clear c4
    by_cases c5 : 0 ≤ qoo
    ·rw [if_pos c5] at H
     have c5b0 : decide (0 ≤ qoo) = true := decide_eq_true c5
     clear c5
     by_cases c6 : (rdOf ByteArray.empty q0d qoo).toList = a0.toList
     ·rw [if_pos c6] at H
      have c6b0 : ((rdOf ByteArray.empty q0d qoo).toList == a0.toList) = true := beq_iff_eq.mpr c6
      have c6b1 : ((rdOf ByteArray.empty q0d qoo).toList != a0.toList) = false := bne_eq_false_iff_eq.mpr c6
      clear c6
      obtain rfl := Option.some.inj H
      obtain ⟨Ao7, co7, eo7⟩ := Kd.qeb HO_3.out
      subst eo7
      have zjn : 0 ≤ (qoo : Int) := of_decide_eq_true (by first | (with_reducible assumption) | assumption)
      have zjx : qoo < (q0d.length : Int) := of_decide_eq_true (by first | (with_reducible assumption) | assumption)
      obtain ⟨zxd, e203, zt2⟩ := Kd.qtl (Kd.qfe HO_3.out).2.2 qoo zjn zjx
      cases e203
      replace zjn := eq_true zjn
      replace zjx := eq_true zjx
      go_wp2
      go_ret
      exact ⟨by first | rfl | (simp [zg, zh] <;> rfl) | (simp [*, zg, zh] <;> rfl), by repeat (first | (with_reducible first | exact HB.out | apply qg | apply qc | apply qh) | exact HB.out)⟩
     ·rw [if_neg c6] at H
      have c6b0 : ((rdOf ByteArray.empty q0d qoo).toList == a0.toList) = false := beq_eq_false_iff_ne.mpr c6
      have c6b1 : ((rdOf ByteArray.empty q0d qoo).toList != a0.toList) = true := bne_iff_ne.mpr c6
      have H' := qf.mk H
      clear H
      obtain ⟨Ao8, co8, eo8⟩ := Kd.qeb HO_3.out
      subst eo8
      have zjn : 0 ≤ (qoo : Int) := of_decide_eq_true (by first | (with_reducible assumption) | assumption)
      have zjx : qoo < (q0d.length : Int) := of_decide_eq_true (by first | (with_reducible assumption) | assumption)
      obtain ⟨zxd, e203, zt2⟩ := Kd.qtl (Kd.qfe HO_3.out).2.2 qoo zjn zjx
      cases e203
      replace zjn := eq_true zjn
      replace zjx := eq_true zjx
      go_wp2
      go_roundg k1
      case measure => have := HK1.out; omega
      case rel => exact ⟨(wrap64 (qoo + 1)), (by first | rfl | (simp; done) | (simp [*]; done)), H', ⟨by have := HK1.out; omega⟩, ⟨by (with_reducible repeat (first | apply Kd.qe7 | apply Kd.qe8 | apply Kd.qhq)); exact HO_3.out⟩, ⟨by repeat (first | (with_reducible first | exact HB.out | apply qg | apply qc | apply qh) | exact HB.out)⟩⟩
    ·rw [if_neg c5] at H
     exact absurd H (by simp)
   ·rw [if_neg c4] at H
    have c4b0 : decide (qoo < (q0d.length : Int)) = false := decide_eq_false c4
    clear c4
    obtain rfl := Option.some.inj H
    obtain ⟨Ao9, co9, eo9⟩ := Kd.qeb HO_3.out
    subst eo9
    go_wp2
    go_ret
    exact ⟨by first | rfl | (simp [zg, zh] <;> rfl) | (simp [*, zg, zh] <;> rfl), by repeat (first | (with_reducible first | exact HB.out | apply qg | apply qc | apply qh) | exact HB.out)⟩
def zt.f (k : Nat) (a0 : ByteArray) : Option (Bool) := (zq.f k a0).bind fun zok => (if zok = true then ((yt.f k a0).bind fun q8w => (some (!q8w))) else (some false))
theorem zt.mono : ∀ a0 k, LeO (zt.f k a0) (zt.f (k + 1) a0) := by
 intro a0 k
 unfold zt.f
 repeat' first
   | (with_reducible exact zq.mono _ _)
   | (with_reducible exact yt.mono _ _)
   | (with_reducible exact LeO.refl _)
   | (with_reducible exact LeO.none _)
   | (with_reducible refine LeO.ite ?_ ?_)
   | (with_reducible refine LeO.bind ?_ (fun _ => ?_))
   | exact zq.mono _ _
   | exact yt.mono _ _
   | exact LeO.none _
   | refine LeO.ite ?_ ?_
   | refine LeO.bind ?_ (fun _ => ?_)
set_option maxHeartbeats 8000000 in
set_option maxRecDepth 100000 in
theorem zt.calls (k : Nat) (a0 : ByteArray) (r : Bool) (w : World) (h : zt.f k a0 = some r) :
  Calls Tryd.prog 21 #[.string a0] w fun e w' => e = .returned (.bool r) ∧ Below w.heap.size w w' := by
 have HB := qf.mk (Below.refl w.heap.size w)
 have H : ((zq.f k a0).bind fun zok => (if zok = true then ((yt.f k a0).bind fun q8w => (some (!q8w))) else (some false))) = some r := h
 clear h
 replace H := Option.bind_eq_some_iff.mp H
 obtain ⟨zok, A20, H⟩ := H
 replace H : (if zok = true then ((yt.f k a0).bind fun q8w => (some (!q8w))) else (some false)) = some r := H
 have A2 := qf.mk A20
 clear A20
 by_cases c3 : zok = true
 ·subst c3
  have H1 : ((yt.f k a0).bind fun q8w => (some (!q8w))) = some r := by rw [if_pos rfl] at H; exact H
  clear H
  have H := H1
  clear H1
  replace H := Option.bind_eq_some_iff.mp H
  obtain ⟨q8w, A40, H⟩ := H
  replace H : (some (!q8w)) = some r := H
  have A4 := qf.mk A40
  clear A40
  obtain rfl := Option.some.inj H
  go_enter Tryd.func21, Tryd.ntmps21
  go_wp2_with (first | ((with_reducible refine qaq (f := 45) rfl ?_); refine qcj (some 4) rfl rfl Tryd.func45 (by kernel_rfl) rfl #[.string a0] rfl (by (try simp only [List.map_toArray, List.map_cons, List.map_nil]); first | done | rfl | (simp only [List.length_drop, List.length_take]; rfl)) ?_; (with_reducible refine (zq.calls k a0 true _ A2.out).mono ?_); rintro e w' ⟨rfl, ⟨nd, rfl⟩⟩; refine ⟨_, rfl, ?_⟩) | (go_at_call 46; (with_reducible refine (yt.calls k a0 q8w _ A4.out).mono ?_); rintro e w5 ⟨rfl, hb⟩; have n0_ := qf.mk (zk (by repeat (first | (with_reducible first | exact HB.out | apply qg | apply qc | apply qh) | exact HB.out)) hb); clear HB; have HB := n0_; clear n0_; (try clear hb); (try clear hb2); (try clear hk); (try clear hi)))
  go_ret
  exact ⟨by first | rfl | (simp [zg, zh] <;> rfl) | (simp [*, zg, zh] <;> rfl), by repeat (first | (with_reducible first | exact HB.out | apply qg | apply qc | apply qh) | exact HB.out)⟩
 ·replace c3 := Bool.eq_false_iff.mpr c3
  subst c3
  have H1 : (some false) = some r := by rw [if_neg (show ¬ (false = true) by decide)] at H; exact H
  clear H
  have H := H1
  clear H1
  obtain rfl := Option.some.inj H
  go_enter Tryd.func21, Tryd.ntmps21
  go_wp2_with (first | ((with_reducible refine qaq (f := 45) rfl ?_); refine qcj (some 4) rfl rfl Tryd.func45 (by kernel_rfl) rfl #[.string a0] rfl (by (try simp only [List.map_toArray, List.map_cons, List.map_nil]); first | done | rfl | (simp only [List.length_drop, List.length_take]; rfl)) ?_; (with_reducible refine (zq.calls k a0 false _ A2.out).mono ?_); rintro e w' ⟨rfl, ⟨nd, rfl⟩⟩; refine ⟨_, rfl, ?_⟩))
  go_ret
  exact ⟨by first | rfl | (simp [zg, zh] <;> rfl) | (simp [*, zg, zh] <;> rfl), by repeat (first | (with_reducible first | exact HB.out | apply qg | apply qc | apply qh) | exact HB.out)⟩
end Go.Proofs.YtpgkhmdfddejfaaDoor.PV
end
