import Derived.Test.YtpgkhmdfddejfaaDoorZTPVx0
section
namespace Go.Proofs.YtpgkhmdfddejfaaDoor.PV
open Go.RowKit Go.Proofs.YtpgkhmdfddejfaaDoorW.PrintWords Go.Proofs.YtpgkhmdfddejfaaDoorW.PrintLast Go.Proofs.YtpgkhmdfddejfaaDoorW.PrintMore
attribute [local go_sem] qcw qcv qdb qda qcr qcq qcu qcx   -- for this text's walks alone
set_option linter.unusedVariables false
set_option linter.unusedSimpArgs false
mutual
def qbu.l0 : Nat → List (S27) → List (S27) → Int → Int → Option ((List (S27)))
  | 0, _, _, _, _ => none
  | k + 1, x3, x6, x7, x8 => if x8 < x7 then (if 0 ≤ x8 then (if x8 < (x6.length : Int) then ((qb6.f k ((qw x6 x8).f0) ((qw x6 x8).f1) ((qw x6 x8).f2) ((qw x6 x8).f3)).bind fun qbnh => (if x3.length < 2513169434916 then (qbu.l0 k (x3 ++ [(⟨qbnh.1, qbnh.2.1, qbnh.2.2.1, qbnh.2.2.2⟩ : S27)]) x6 x7 (wrap64 (x8 + 1))) else (none))) else (none)) else (none)) else (some x3)
def qbu.f : Nat → List (S27) → Option ((List (S27)))
  | 0, _ => none
  | k + 1, l0 => qbu.l0 k ([] : List (S27)) l0 (l0.length : Int) 0
def qb6.f : Nat → Int → Int → ByteArray → List (S27) → Option (Int × Int × ByteArray × (List (S27)))
  | 0, _, _, _, _ => none
  | k + 1, a0_0, a0_1, a0_2, l0_3 => (qbu.f k l0_3).bind fun t114 => (some (a0_0, a0_1, a0_2, t114))
end
theorem qdr.qcg : ∀ k, (∀ y0, LeO (qbu.f k y0) (qbu.f (k + 1) y0)) ∧ (∀ y0 y1 y2 y3, LeO (qbu.l0 k y0 y1 y2 y3) (qbu.l0 (k + 1) y0 y1 y2 y3)) ∧ (∀ y0 y1 y2 y3, LeO (qb6.f k y0 y1 y2 y3) (qb6.f (k + 1) y0 y1 y2 y3))
  | 0 => ⟨fun _ r h => by simp [qbu.f] at h, fun _ _ _ _ r h => by simp [qbu.l0] at h, fun _ _ _ _ r h => by simp [qb6.f] at h⟩
  | k + 1 => by
    obtain ⟨ih0, ih1, ih2⟩ := qdr.qcg k
    refine ⟨?_, ?_, ?_⟩
    · intro y0
      unfold qbu.f
      repeat' first
      | (with_reducible exact ih0 _)
      | (with_reducible exact ih1 _ _ _ _)
      | (with_reducible exact ih2 _ _ _ _)
      | (with_reducible exact LeO.refl _)
      | (with_reducible exact LeO.none _)
      | (with_reducible refine LeO.ite ?_ ?_)
      | (with_reducible refine LeO.bind ?_ (fun _ => ?_))
      | exact ih0 _
      | exact ih1 _ _ _ _
      | exact ih2 _ _ _ _
      | exact LeO.none _
      | refine LeO.ite ?_ ?_
      | refine LeO.bind ?_ (fun _ => ?_)
    · intro y0 y1 y2 y3
      unfold qbu.l0
      repeat' first
      | (with_reducible exact ih0 _)
      | (with_reducible exact ih1 _ _ _ _)
      | (with_reducible exact ih2 _ _ _ _)
      | (with_reducible exact LeO.refl _)
      | (with_reducible exact LeO.none _)
      | (with_reducible refine LeO.ite ?_ ?_)
      | (with_reducible refine LeO.bind ?_ (fun _ => ?_))
      | exact ih0 _
      | exact ih1 _ _ _ _
      | exact ih2 _ _ _ _
      | exact LeO.none _
      | refine LeO.ite ?_ ?_
      | refine LeO.bind ?_ (fun _ => ?_)
    · intro y0 y1 y2 y3
      unfold qb6.f
      repeat' first
      | (with_reducible exact ih0 _)
      | (with_reducible exact ih1 _ _ _ _)
      | (with_reducible exact ih2 _ _ _ _)
      | (with_reducible exact LeO.refl _)
      | (with_reducible exact LeO.none _)
      | (with_reducible refine LeO.ite ?_ ?_)
      | (with_reducible refine LeO.bind ?_ (fun _ => ?_))
      | exact ih0 _
      | exact ih1 _ _ _ _
      | exact ih2 _ _ _ _
      | exact LeO.none _
      | refine LeO.ite ?_ ?_
      | refine LeO.bind ?_ (fun _ => ?_)
theorem qbu.mono : ∀ a0 k, LeO (qbu.f k a0) (qbu.f (k + 1) a0) := by
  intro a0 k
  obtain ⟨ih0, ih1, ih2⟩ := qdr.qcg k
  exact ih0 a0
theorem qb6.mono : ∀ a0 a1 a2 a3 k, LeO (qb6.f k a0 a1 a2 a3) (qb6.f (k + 1) a0 a1 a2 a3) := by
  intro a0 a1 a2 a3 k
  obtain ⟨ih0, ih1, ih2⟩ := qdr.qcg k
  exact ih2 a0 a1 a2 a3
set_option maxHeartbeats 8000000 in
set_option maxRecDepth 100000 in
theorem qbu.step (k : Nat) (ih_64 : ∀ m, m < k → ∀ (A0 : Option Addr) (c0 : Nat) (l0 : List (S27)) (r : List (S27)) (w : World) (hr0 : Kd.C k27 w A0 l0.length l0) (hc0 : l0.length ≤ c0) (h : qbu.f m l0 = some r),
    Calls Tryd.prog 64 #[.slice A0 l0.length c0] w fun e w' => ∃ v0_ : Value, e = .returned (v0_) ∧ Kd.R k27 27 w' w.heap.size (fun _ => True) v0_ r ∧ Below w.heap.size w w') (ih_63 : ∀ m, m < k → ∀ (a0_0 : Int) (a0_1 : Int) (a0_2 : ByteArray) (A0_3 : Option Addr) (c0_3 : Nat) (l0_3 : List (S27)) (r1 : Int) (r2 : Int) (r3 : ByteArray) (r4 : List (S27)) (w : World) (qh5 : Kd.C k27 w A0_3 l0_3.length l0_3) (qhr : l0_3.length ≤ c0_3) (h : qb6.f m a0_0 a0_1 a0_2 l0_3 = some (r1, r2, r3, r4)),
    Calls Tryd.prog 63 #[.agg #[.int .i64 a0_0, .int .i64 a0_1, .string a0_2, .slice A0_3 l0_3.length c0_3]] w fun e w' => ∃ v3_ : Value, e = .returned (.agg #[.int .i64 r1, .int .i64 r2, .string r3, v3_]) ∧ Kd.R k27 27 w' w.heap.size (fun _ => True) v3_ r4 ∧ Below w.heap.size w w') : ∀ (A0 : Option Addr) (c0 : Nat) (l0 : List (S27)) (r : List (S27)) (w : World) (hr0 : Kd.C k27 w A0 l0.length l0) (hc0 : l0.length ≤ c0) (h : qbu.f k l0 = some r),
  Calls Tryd.prog 64 #[.slice A0 l0.length c0] w fun e w' => ∃ v0_ : Value, e = .returned (v0_) ∧ Kd.R k27 27 w' w.heap.size (fun _ => True) v0_ r ∧ Below w.heap.size w w' := by
 intro A0 c0 l0 r w hr0 hc0 h
 cases k with
 | zero => exact absurd h (by simp [qbu.f])
 | succ k =>
 simp only [qbu.f] at h
 have hu27 := Tryd.underlying27
 have HR0 := qc.mk hr0
 have HC0 := qc.mk hc0
 clear hr0 hc0
 have HB := qc.mk (Below.refl w.heap.size w)
 have H : (qbu.l0 k ([] : List (S27)) l0 (l0.length : Int) 0) = some r := h
 clear h
 have H' := qc.mk H
 clear H
 go_enter Tryd.func64, Tryd.ntmps64
 go_wp2
 go_loopg [3, 8] k (fun kq v3 v8 w' => ∃ (x3_1 : List (S27)) (x8_1 : Int), v8 = .int .i64 x8_1 ∧ qc (qbu.l0 kq x3_1 l0 (l0.length : Int) x8_1 = some r) ∧ qc (kq ≤ k) ∧ qc (Kd.R k27 27 w' w.heap.size (fun _ => True) v3 x3_1) ∧ qc (Below w.heap.size w w'))
 case atStart => exact ⟨(([] : List (S27))), (0), (by first | rfl | (simp; done) | (simp [*]; done)), H', ⟨Nat.le_refl _⟩, ⟨by first | exact Kd.R_nil _ _ _ _ _ | exact Kd.N_nil _ _ _ _ _ | exact Kd.V_nil _ _ _ _ _ | exact Kd.Q_nil _ _ _ _ _ | exact Kd.S_nil _ _ _ _ _⟩, ⟨by repeat (first | (with_reducible first | exact HB.out | apply qg | apply qd | apply qh) | exact HB.out)⟩⟩
 case round =>
  clear H'
  obtain ⟨x3_1, x8_1, rfl, HA, HK1, HO_3, HB⟩ := hrel
  cases gk with
  | zero => exact absurd HA.out (by simp [qbu.l0])
  | succ k1 =>
   have H := HA.out
   clear HA
   simp only [qbu.l0] at H
   by_cases c2 : x8_1 < (l0.length : Int)
   ·rw [if_pos c2] at H
    have c2b0 : decide (x8_1 < (l0.length : Int)) = true := decide_eq_true c2
    clear c2
    by_cases c3 : 0 ≤ x8_1
    ·rw [if_pos c3] at H
     have c3b0 : decide (0 ≤ x8_1) = true := decide_eq_true c3
     clear c3
     by_cases c4 : x8_1 < (l0.length : Int)
     ·rw [if_pos c4] at H
      have c4b0 : decide (x8_1 < (l0.length : Int)) = true := decide_eq_true c4
      clear c4
      replace H := Option.bind_eq_some_iff.mp H
      obtain ⟨⟨t103, t104, t105, t106⟩, A50, H⟩ := H
      replace H : (if x3_1.length < 2513169434916 then (qbu.l0 k1 (x3_1 ++ [(⟨t103, t104, t105, t106⟩ : S27)]) l0 (l0.length : Int) (wrap64 (x8_1 + 1))) else (none)) = some r := H
      have A5 := qc.mk A50
      clear A50
      by_cases c6 : x3_1.length < 2513169434916
      ·rw [if_pos c6] at H
       have LMc6 := qc.mk c6
       clear c6
       obtain ⟨y109, qbhi⟩ : ∃ y_ : List (S27), y_ = (x3_1 ++ [(⟨t103, t104, t105, t106⟩ : S27)]) := ⟨_, rfl⟩
       replace H : (qbu.l0 k1 y109 l0 (l0.length : Int) (wrap64 (x8_1 + 1))) = some r := by first | (rw [qbhi]; with_reducible exact H) | (have H2_ := (Option.bind_some _ _).symm.trans H; rw [qbhi]; with_reducible exact H2_) | (have H2_ := (Option.bind_some _ _).symm.trans H; with_reducible exact H2_) | with_reducible exact H | (rw [qbhi]; exact H) | exact H
       have qbwe := qc.mk qbhi
       clear qbhi
       have H' := qc.mk H
       clear H
       have p101 : 0 ≤ (x8_1 : Int) := of_decide_eq_true (by first | (with_reducible assumption) | assumption)
       have q101 : x8_1 < (l0.length : Int) := of_decide_eq_true (by first | (with_reducible assumption) | assumption)
       obtain ⟨qbyi, qy8, qyg, e101, q88, qbck, q87, qbct, qbgf, qblb⟩ := qd6 HR0.out x8_1 p101 q101
       cases e101
       replace q88 := (HB.out.cell (World.block_lt_of_cell? w _ q88)).trans q88
       replace qbck := (HB.out.cell (World.block_lt_of_cell? w _ qbck)).trans qbck
       replace q87 := (HB.out.cell (World.block_lt_of_cell? w _ q87)).trans q87
       replace qbct := (HB.out.cell (World.block_lt_of_cell? w _ qbct)).trans qbct
       have qbq4 := qc.mk qblb
       have qboi := qc.mk qbgf
       clear qblb qbgf
       replace p101 := eq_true p101
       replace q101 := eq_true q101
       go_wp2_with (first | ((with_reducible refine qb0 (N := 5) rfl ?_); refine qby ?hg (N := 5) ?hd (cs := #[.int .i64 0, .int .i64 0, .string (⟨#[]⟩ : ByteArray), .slice none 0 0]) (t := 27) ?hr ?_; (case hd => rfl); (case hg => rfl); (case hr => first | (go_simp; done) | (go_simp; rfl)); intro qkl hg w7 hbox hb; have n0_ := qc.mk (Kd.qfd (Kd.R_elderB (by (with_reducible repeat (first | apply Kd.qdm | apply Kd.qdp | apply Kd.qdw)); exact HO_3.out) qkl (Nat.le_of_eq hg.symm)) hb); have n1_ := qc.mk (q9 (by repeat (first | (with_reducible first | exact HB.out | apply qg | apply qd | apply qh) | exact HB.out)) hb); have n2_ := qc.mk (hbox); have n3_ := qc.mk ((by rw [hg]; exact (qba (by repeat (first | (with_reducible first | exact HB.out | apply qg | apply qd | apply qh) | exact HB.out))) : w.heap.size ≤ qkl)); have n4_ := qc.mk ((by rw [hg]; exact (qba (by repeat (first | (with_reducible first | exact HB.out | apply qg | apply qd | apply qh) | exact HB.out))) : w.heap.size ≤ qkl)); clear HO_3; clear HB; have HO_3 := n0_; have HB := n1_; have qo7 := n2_; have qbyb := n3_; have qbfu := n4_; clear n0_ n1_ n2_ n3_ n4_; clear hb hbox hg; have qbob : w7.cell? ⟨qkl, 0, none⟩ = some (.int .i64 0) := (qb qo7.out 0).trans rfl; have qbn5 : w7.cell? ⟨qkl, 1, none⟩ = some (.int .i64 0) := (qb qo7.out 1).trans rfl; have qbnz : w7.cell? ⟨qkl, 2, none⟩ = some (.string (⟨#[]⟩ : ByteArray)) := (qb qo7.out 2).trans rfl; have qboc : w7.cell? ⟨qkl, 3, none⟩ = some (.slice none 0 0) := (qb qo7.out 3).trans rfl; have qboe := qa qo7.out 0; have qbn0 := qa qo7.out 1; have qboh := qa qo7.out 2; have qbny := qa qo7.out 3) | ((with_reducible refine qb5 (f := 63) rfl ?_); refine qcj (some 14) rfl rfl Tryd.func63 (by kernel_rfl) rfl #[.agg #[.int .i64 ((qw l0 x8_1).f0), .int .i64 ((qw l0 x8_1).f1), .string ((qw l0 x8_1).f2), .slice qy8 ((qw l0 x8_1).f3).length qyg]] rfl (by (try simp only [List.map_toArray, List.map_cons, List.map_nil]); first | done | rfl | (simp only [List.length_drop, List.length_take]; rfl)) ?_; (with_reducible refine (ih_63 k1 (by have := HK1.out; omega) ((qw l0 x8_1).f0) ((qw l0 x8_1).f1) ((qw l0 x8_1).f2) _ _ ((qw l0 x8_1).f3) t103 t104 t105 t106 _ ?side1 ?side2 A5.out).mono ?_); (case side1 => exact Kd.qbw qbq4.out (by repeat (first | (with_reducible first | exact HB.out | apply qg | apply qd | apply qh | refine ql ?_ qbfu.out) | exact HB.out))); (case side2 => exact qboi.out); rintro e w9 ⟨v107, rfl, ho0, hb⟩; refine ⟨_, rfl, ?_⟩; have n0_ := qc.mk (Kd.R_elder' (by (with_reducible repeat (first | apply Kd.qdm | apply Kd.qdp | apply Kd.qdw)); exact (Kd.qdg (Kd.R_far (p := ⟨qkl, 3, none⟩) (Kd.R_far (p := ⟨qkl, 2, none⟩) (Kd.R_far (p := ⟨qkl, 1, none⟩) (Kd.R_far (p := ⟨qkl, 0, none⟩) (Kd.qdg HO_3.out (fun k_ hk => (⟨hk, hk.2⟩ : _ ∧ k_ ≠ qkl))) (fun _ hk => hk.2) (.int .i64 ((qw l0 x8_1).f0))) (fun _ hk => hk.2) (.int .i64 ((qw l0 x8_1).f1))) (fun _ hk => hk.2) (.string ((qw l0 x8_1).f2))) (fun _ hk => hk.2) (.slice qy8 ((qw l0 x8_1).f3).length qyg)) (fun _ h_ => h_.1))) (Kd.R_base ho0) hb); have n1_ := qc.mk (Kd.qd7 (Kd.R_newB (Kd.R_new' ho0 (Kd.R_lt (by (with_reducible repeat (first | apply Kd.qdm | apply Kd.qdp | apply Kd.qdw)); exact (Kd.qdg (Kd.R_far (p := ⟨qkl, 3, none⟩) (Kd.R_far (p := ⟨qkl, 2, none⟩) (Kd.R_far (p := ⟨qkl, 1, none⟩) (Kd.R_far (p := ⟨qkl, 0, none⟩) (Kd.qdg HO_3.out (fun k_ hk => (⟨hk, hk.2⟩ : _ ∧ k_ ≠ qkl))) (fun _ hk => hk.2) (.int .i64 ((qw l0 x8_1).f0))) (fun _ hk => hk.2) (.int .i64 ((qw l0 x8_1).f1))) (fun _ hk => hk.2) (.string ((qw l0 x8_1).f2))) (fun _ hk => hk.2) (.slice qy8 ((qw l0 x8_1).f3).length qyg)) (fun _ h_ => h_.1))))) (g := qkl) (o := .cells #[.int .i64 ((qw l0 x8_1).f0), .int .i64 ((qw l0 x8_1).f1), .string ((qw l0 x8_1).f2), .slice qy8 ((qw l0 x8_1).f3).length qyg] 27 (0, 0)) (by (with_reducible repeat (first | refine qj ?_ _ | refine qm ?_ | refine qi ?_ _)); refine qbr (cs := #[.int .i64 ((qw l0 x8_1).f0), .int .i64 ((qw l0 x8_1).f1), .string ((qw l0 x8_1).f2), .slice none 0 0]) ?_ 3 _ rfl; (with_reducible repeat (first | refine qj ?_ _ | refine qm ?_ | refine qi ?_ _)); refine qbr (cs := #[.int .i64 ((qw l0 x8_1).f0), .int .i64 ((qw l0 x8_1).f1), .string (⟨#[]⟩ : ByteArray), .slice none 0 0]) ?_ 2 _ rfl; (with_reducible repeat (first | refine qj ?_ _ | refine qm ?_ | refine qi ?_ _)); refine qbr (cs := #[.int .i64 ((qw l0 x8_1).f0), .int .i64 0, .string (⟨#[]⟩ : ByteArray), .slice none 0 0]) ?_ 1 _ rfl; (with_reducible repeat (first | refine qj ?_ _ | refine qm ?_ | refine qi ?_ _)); refine qbr (cs := #[.int .i64 0, .int .i64 0, .string (⟨#[]⟩ : ByteArray), .slice none 0 0]) ?_ 0 _ rfl; (with_reducible repeat (first | refine qj ?_ _ | refine qm ?_ | refine qi ?_ _)); exact qo7.out)) (qba (by repeat (first | (with_reducible first | exact HB.out | apply qg | apply qd | apply qh | refine ql ?_ qbfu.out) | exact HB.out)))); have n2_ := qc.mk (qbb (g := qkl) (o := .cells #[.int .i64 ((qw l0 x8_1).f0), .int .i64 ((qw l0 x8_1).f1), .string ((qw l0 x8_1).f2), .slice qy8 ((qw l0 x8_1).f3).length qyg] 27 (0, 0)) (by (with_reducible repeat (first | refine qj ?_ _ | refine qm ?_ | refine qi ?_ _)); refine qbr (cs := #[.int .i64 ((qw l0 x8_1).f0), .int .i64 ((qw l0 x8_1).f1), .string ((qw l0 x8_1).f2), .slice none 0 0]) ?_ 3 _ rfl; (with_reducible repeat (first | refine qj ?_ _ | refine qm ?_ | refine qi ?_ _)); refine qbr (cs := #[.int .i64 ((qw l0 x8_1).f0), .int .i64 ((qw l0 x8_1).f1), .string (⟨#[]⟩ : ByteArray), .slice none 0 0]) ?_ 2 _ rfl; (with_reducible repeat (first | refine qj ?_ _ | refine qm ?_ | refine qi ?_ _)); refine qbr (cs := #[.int .i64 ((qw l0 x8_1).f0), .int .i64 0, .string (⟨#[]⟩ : ByteArray), .slice none 0 0]) ?_ 1 _ rfl; (with_reducible repeat (first | refine qj ?_ _ | refine qm ?_ | refine qi ?_ _)); refine qbr (cs := #[.int .i64 0, .int .i64 0, .string (⟨#[]⟩ : ByteArray), .slice none 0 0]) ?_ 0 _ rfl; (with_reducible repeat (first | refine qj ?_ _ | refine qm ?_ | refine qi ?_ _)); exact qo7.out) hb); have n3_ := qc.mk (q9 (by repeat (first | (with_reducible first | exact HB.out | apply qg | apply qd | apply qh | refine ql ?_ qbfu.out) | exact HB.out)) hb); clear HO_3; clear qo7; clear HB; have HO_3 := n0_; have qbqz := n1_; have qo7 := n2_; have HB := n3_; clear n0_ n1_ n2_ n3_; (try clear hb); (try clear hb2); (try clear hk); (try clear hi); (try clear ho0); obtain ⟨Ao11, co11, eo11⟩ := Kd.qde qbqz.out; subst eo11) | ((with_reducible refine gate_builtin (b := .append) (xs := #[.tmp 12, .tmp 15]) rfl ?_); at_builtin; refine Kd.R_append k27 (w0 := w) w.heap.size rfl (.tmp 12) (.tmp 15) 25 27 (.agg #[(.int .i64 0), (.int .i64 0), (.string ⟨#[]⟩), (.slice none 0 0)]) 56 rfl Tryd.underlying25 info27 rfl (by decide) (by omega) u3 x3_1 (⟨t103, t104, t105, t106⟩ : S27) [.int .i64 t103, .int .i64 t104, .string t105, .slice Ao11 t106.length co11] (fun k_ => k_ ≠ qkl) (fun k_ => ((fun k_ => k_ ≠ qkl)) k_ ∧ some k_ ≠ (u3 : Value).ownBlock) rfl rfl ?aP (fun _ hk => hk) ?aF ?aO ?aB ?aS ?aL ?_; (case aP => exact k27_mkM _ _ _ (⟨t103, t104, t105, t106⟩ : S27) (Kd.qdg (qbqz.out) (fun k_ hk => ⟨hk.2, hk.1.2⟩))); (case aB => exact (by repeat (first | (with_reducible first | exact HB.out | apply qg | apply qd | apply qh | refine ql ?_ qbfu.out) | exact HB.out))); (case aF => exact (fun k_ hk => Kd.freshB (g := qkl) (o := .cells #[.int .i64 ((qw l0 x8_1).f0), .int .i64 ((qw l0 x8_1).f1), .string ((qw l0 x8_1).f2), .slice qy8 ((qw l0 x8_1).f3).length qyg] 27 (0, 0)) (by (with_reducible repeat (first | refine qj ?_ _ | refine qm ?_ | refine qi ?_ _)); exact qo7.out) k_ hk)); (case aO => exact (by (with_reducible repeat (first | apply Kd.qdm | apply Kd.qdp | apply Kd.qdw)); exact Kd.qdg HO_3.out (fun _ hk => hk.1.2))); (case aS => exact (qba (by repeat (first | (with_reducible first | exact HB.out | apply qg | apply qd | apply qh | refine ql ?_ qbfu.out) | exact HB.out)))); (case aL => have := LMc6.out; omega); intro v110 w10 ho hb hg hat; rw [← qbwe.out] at ho; have n0_ := qc.mk (blk_grown (g := qkl) (o := .cells #[.int .i64 ((qw l0 x8_1).f0), .int .i64 ((qw l0 x8_1).f1), .string ((qw l0 x8_1).f2), .slice qy8 ((qw l0 x8_1).f3).length qyg] 27 (0, 0)) (by (with_reducible repeat (first | refine qj ?_ _ | refine qm ?_ | refine qi ?_ _)); exact qo7.out) hg (Kd.R_away HO_3.out (fun _ hk => hk.1.2))); have n1_ := qc.mk (hb); have n2_ := qc.mk (ho); clear qo7; clear HB; clear HO_3; clear qbqz; have qo7 := n0_; have HB := n1_; have qbu6 := n2_; clear n0_ n1_ n2_; clear ho hb hg hat))
       go_roundg k1
       case measure => have := HK1.out; omega
       case rel => exact ⟨(y109), (wrap64 (x8_1 + 1)), (by first | rfl | (simp; done) | (simp [*]; done)), H', ⟨by have := HK1.out; omega⟩, ⟨by (with_reducible repeat (first | apply Kd.qdm | apply Kd.qdp | apply Kd.qdw)); exact Kd.qdg qbu6.out (fun _ hk => trivial)⟩, ⟨by repeat (first | (with_reducible first | exact HB.out | apply qg | apply qd | apply qh | refine ql ?_ qbfu.out) | exact HB.out)⟩⟩
      ·rw [if_neg c6] at H
       exact absurd H (by simp)
     ·rw [if_neg c4] at H
      exact absurd H (by simp)
    ·rw [if_neg c3] at H
     exact absurd H (by simp)
   ·rw [if_neg c2] at H
    have c2b0 : decide (x8_1 < (l0.length : Int)) = false := decide_eq_false c2
    clear c2
    obtain rfl := Option.some.inj H
    go_wp2
    go_ret
    exact ⟨_, by first | rfl | (simp [qx, qy] <;> rfl) | (simp [*, qx, qy] <;> rfl), by (with_reducible repeat (first | apply Kd.qdm | apply Kd.qdp | apply Kd.qdw)); exact HO_3.out, by repeat (first | (with_reducible first | exact HB.out | apply qg | apply qd | apply qh) | exact HB.out)⟩
set_option maxHeartbeats 8000000 in
set_option maxRecDepth 100000 in
theorem qb6.step (k : Nat) (ih_64 : ∀ m, m < k → ∀ (A0 : Option Addr) (c0 : Nat) (l0 : List (S27)) (r : List (S27)) (w : World) (hr0 : Kd.C k27 w A0 l0.length l0) (hc0 : l0.length ≤ c0) (h : qbu.f m l0 = some r),
    Calls Tryd.prog 64 #[.slice A0 l0.length c0] w fun e w' => ∃ v0_ : Value, e = .returned (v0_) ∧ Kd.R k27 27 w' w.heap.size (fun _ => True) v0_ r ∧ Below w.heap.size w w') (ih_63 : ∀ m, m < k → ∀ (a0_0 : Int) (a0_1 : Int) (a0_2 : ByteArray) (A0_3 : Option Addr) (c0_3 : Nat) (l0_3 : List (S27)) (r1 : Int) (r2 : Int) (r3 : ByteArray) (r4 : List (S27)) (w : World) (qh5 : Kd.C k27 w A0_3 l0_3.length l0_3) (qhr : l0_3.length ≤ c0_3) (h : qb6.f m a0_0 a0_1 a0_2 l0_3 = some (r1, r2, r3, r4)),
    Calls Tryd.prog 63 #[.agg #[.int .i64 a0_0, .int .i64 a0_1, .string a0_2, .slice A0_3 l0_3.length c0_3]] w fun e w' => ∃ v3_ : Value, e = .returned (.agg #[.int .i64 r1, .int .i64 r2, .string r3, v3_]) ∧ Kd.R k27 27 w' w.heap.size (fun _ => True) v3_ r4 ∧ Below w.heap.size w w') : ∀ (a0_0 : Int) (a0_1 : Int) (a0_2 : ByteArray) (A0_3 : Option Addr) (c0_3 : Nat) (l0_3 : List (S27)) (r1 : Int) (r2 : Int) (r3 : ByteArray) (r4 : List (S27)) (w : World) (qh5 : Kd.C k27 w A0_3 l0_3.length l0_3) (qhr : l0_3.length ≤ c0_3) (h : qb6.f k a0_0 a0_1 a0_2 l0_3 = some (r1, r2, r3, r4)),
  Calls Tryd.prog 63 #[.agg #[.int .i64 a0_0, .int .i64 a0_1, .string a0_2, .slice A0_3 l0_3.length c0_3]] w fun e w' => ∃ v3_ : Value, e = .returned (.agg #[.int .i64 r1, .int .i64 r2, .string r3, v3_]) ∧ Kd.R k27 27 w' w.heap.size (fun _ => True) v3_ r4 ∧ Below w.heap.size w w' := by
 intro a0_0 a0_1 a0_2 A0_3 c0_3 l0_3 r1 r2 r3 r4 w qh5 qhr h
 cases k with
 | zero => exact absurd h (by simp [qb6.f])
 | succ k =>
 simp only [qb6.f] at h
 have hu27 := Tryd.underlying27
 have qo8 := qc.mk qh5
 have qwf := qc.mk qhr
 clear qh5 qhr
 have HB := qc.mk (Below.refl w.heap.size w)
 have H : ((qbu.f k l0_3).bind fun t114 => (some (a0_0, a0_1, a0_2, t114))) = some (r1, r2, r3, r4) := h
 clear h
 replace H := Option.bind_eq_some_iff.mp H
 obtain ⟨t114, A20, H⟩ := H
 replace H : (some (a0_0, a0_1, a0_2, t114)) = some (r1, r2, r3, r4) := H
 have A2 := qc.mk A20
 clear A20
 simp only [Option.some.injEq, Prod.mk.injEq] at H
 obtain ⟨rfl, rfl, rfl, rfl⟩ := H
 go_enter Tryd.func63, Tryd.ntmps63
 go_wp2_with (first | ((with_reducible refine qb0 (N := 1) rfl ?_); refine qby ?hg (N := 1) ?hd (cs := #[.int .i64 a0_0, .int .i64 a0_1, .string a0_2, .slice A0_3 l0_3.length c0_3]) (t := 27) ?hr ?_; (case hd => rfl); (case hg => rfl); (case hr => first | (go_simp; done) | (go_simp; rfl)); intro qmz hg w3 hbox hb; have n0_ := qc.mk (q9 (by repeat (first | (with_reducible first | exact HB.out | apply qg | apply qd | apply qh) | exact HB.out)) hb); have n1_ := qc.mk (hbox); have n2_ := qc.mk ((by rw [hg]; exact (qba (by repeat (first | (with_reducible first | exact HB.out | apply qg | apply qd | apply qh) | exact HB.out))) : w.heap.size ≤ qmz)); have n3_ := qc.mk ((by rw [hg]; exact (qba (by repeat (first | (with_reducible first | exact HB.out | apply qg | apply qd | apply qh) | exact HB.out))) : w.heap.size ≤ qmz)); clear HB; have HB := n0_; have qj1 := n1_; have qbye := n2_; have qbfr := n3_; clear n0_ n1_ n2_ n3_; clear hb hbox hg) | ((with_reducible refine qb0 (N := 2) rfl ?_); refine qby ?hg (N := 2) ?hd (cs := #[.int .i64 0, .int .i64 0, .string (⟨#[]⟩ : ByteArray), .slice none 0 0]) (t := 27) ?hr ?_; (case hd => rfl); (case hg => rfl); (case hr => first | (go_simp; done) | (go_simp; rfl)); intro qo9 hg w4 hbox hb; have n0_ := qc.mk (qbb (g := qmz) (o := .cells #[.int .i64 a0_0, .int .i64 a0_1, .string a0_2, .slice A0_3 l0_3.length c0_3] 27 (0, 0)) (by (with_reducible repeat (first | refine qj ?_ _ | refine qm ?_ | refine qi ?_ _)); exact qj1.out) hb); have n1_ := qc.mk (q9 (by repeat (first | (with_reducible first | exact HB.out | apply qg | apply qd | apply qh | refine ql ?_ qbfr.out) | exact HB.out)) hb); have n2_ := qc.mk (hbox); have n3_ := qc.mk ((by rw [hg]; exact (qba (by repeat (first | (with_reducible first | exact HB.out | apply qg | apply qd | apply qh | refine ql ?_ qbfr.out) | exact HB.out))) : w.heap.size ≤ qo9)); have n4_ := qc.mk ((by rw [hg]; exact (qba (by repeat (first | (with_reducible first | exact HB.out | apply qg | apply qd | apply qh | refine ql ?_ qbfr.out) | exact HB.out))) : w.heap.size ≤ qo9)); have n5_ := qc.mk ((by rw [hg]; exact Nat.ne_of_lt (qb4 (g := qmz) (o := .cells #[.int .i64 a0_0, .int .i64 a0_1, .string a0_2, .slice A0_3 l0_3.length c0_3] 27 (0, 0)) (by (with_reducible repeat (first | refine qj ?_ _ | refine qm ?_ | refine qi ?_ _)); exact qj1.out)) : qmz ≠ qo9)); have n6_ := qc.mk ((by rw [hg]; exact Nat.ne_of_gt (qb4 (g := qmz) (o := .cells #[.int .i64 a0_0, .int .i64 a0_1, .string a0_2, .slice A0_3 l0_3.length c0_3] 27 (0, 0)) (by (with_reducible repeat (first | refine qj ?_ _ | refine qm ?_ | refine qi ?_ _)); exact qj1.out)) : qo9 ≠ qmz)); clear qj1; clear HB; have qj1 := n0_; have HB := n1_; have qvu := n2_; have qbyg := n3_; have qbqy := n4_; have qbgl := n5_; have q63 := n6_; clear n0_ n1_ n2_ n3_ n4_ n5_ n6_; clear hb hbox hg; have hnb5 := qbgl.out; have hnc5 := q63.out; have q6s : w4.cell? ⟨qmz, 0, none⟩ = some (.int .i64 a0_0) := (qb qj1.out 0).trans rfl; have q64 : w4.cell? ⟨qmz, 1, none⟩ = some (.int .i64 a0_1) := (qb qj1.out 1).trans rfl; have q6w : w4.cell? ⟨qmz, 2, none⟩ = some (.string a0_2) := (qb qj1.out 2).trans rfl; have q60 : w4.cell? ⟨qmz, 3, none⟩ = some (.slice A0_3 l0_3.length c0_3) := (qb qj1.out 3).trans rfl; have q6v := qa qj1.out 0; have q6p := qa qj1.out 1; have q6q := qa qj1.out 2; have q65 := qa qj1.out 3) | ((with_reducible refine qb5 (f := 64) rfl ?_); refine qcj (some 5) rfl rfl Tryd.func64 (by kernel_rfl) rfl #[.slice A0_3 l0_3.length c0_3] rfl (by (try simp only [List.map_toArray, List.map_cons, List.map_nil]); first | done | rfl | (simp only [List.length_drop, List.length_take]; rfl)) ?_; (with_reducible refine (ih_64 k (by omega) _ _ l0_3 t114 _ ?side1 ?side2 A2.out).mono ?_); (case side1 => repeat (first | exact (Kd.qbw qo8.out HB.out) | (with_reducible refine Kd.qb3 ?_ _) | (with_reducible refine Kd.qb1 ?_ _) | (with_reducible refine Kd.qb7 ?_))); (case side2 => exact qwf.out); rintro e w7 ⟨v115, rfl, ho0, hb⟩; refine ⟨_, rfl, ?_⟩; have n0_ := qc.mk (Kd.qd7 (Kd.R_newB (Kd.R_newB ho0 (g := qmz) (o := .cells #[.int .i64 a0_0, .int .i64 a0_1, .string a0_2, .slice A0_3 l0_3.length c0_3] 27 (0, 0)) (by (with_reducible repeat (first | refine qj ?_ _ | refine qm ?_ | refine qi ?_ _)); exact qj1.out)) (g := qo9) (o := .cells #[.int .i64 0, .int .i64 0, .string (⟨#[]⟩ : ByteArray), .slice none 0 0] 27 (0, 0)) (by (with_reducible repeat (first | refine qj ?_ _ | refine qm ?_ | refine qi ?_ _)); exact qvu.out)) (qba (by repeat (first | (with_reducible first | exact HB.out | apply qg | apply qd | apply qh | refine ql ?_ qbfr.out | refine ql ?_ qbqy.out) | exact HB.out)))); have n1_ := qc.mk (qbb (g := qmz) (o := .cells #[.int .i64 a0_0, .int .i64 a0_1, .string a0_2, .slice A0_3 l0_3.length c0_3] 27 (0, 0)) (by (with_reducible repeat (first | refine qj ?_ _ | refine qm ?_ | refine qi ?_ _)); exact qj1.out) hb); have n2_ := qc.mk (qbb (g := qo9) (o := .cells #[.int .i64 0, .int .i64 0, .string (⟨#[]⟩ : ByteArray), .slice none 0 0] 27 (0, 0)) (by (with_reducible repeat (first | refine qj ?_ _ | refine qm ?_ | refine qi ?_ _)); exact qvu.out) hb); have n3_ := qc.mk (q9 (by repeat (first | (with_reducible first | exact HB.out | apply qg | apply qd | apply qh | refine ql ?_ qbfr.out | refine ql ?_ qbqy.out) | exact HB.out)) hb); clear qj1; clear qvu; clear HB; have qbsk := n0_; have qj1 := n1_; have qvu := n2_; have HB := n3_; clear n0_ n1_ n2_ n3_; (try clear hb); (try clear hb2); (try clear hk); (try clear hi); (try clear ho0); obtain ⟨Ao8, co8, eo8⟩ := Kd.qde qbsk.out; subst eo8; have qh4 : w7.cell? ⟨qmz, 0, none⟩ = some (.int .i64 a0_0) := (qb qj1.out 0).trans rfl; have qhu : w7.cell? ⟨qmz, 1, none⟩ = some (.int .i64 a0_1) := (qb qj1.out 1).trans rfl; have qh7 : w7.cell? ⟨qmz, 2, none⟩ = some (.string a0_2) := (qb qj1.out 2).trans rfl; have qhx : w7.cell? ⟨qmz, 3, none⟩ = some (.slice A0_3 l0_3.length c0_3) := (qb qj1.out 3).trans rfl; have qhd := qa qj1.out 0; have qg9 := qa qj1.out 1; have qhf := qa qj1.out 2; have qha := qa qj1.out 3; have qqf : w7.cell? ⟨qo9, 0, none⟩ = some (.int .i64 0) := (qb qvu.out 0).trans rfl; have qpy : w7.cell? ⟨qo9, 1, none⟩ = some (.int .i64 0) := (qb qvu.out 1).trans rfl; have qs1 : w7.cell? ⟨qo9, 2, none⟩ = some (.string (⟨#[]⟩ : ByteArray)) := (qb qvu.out 2).trans rfl; have qp8 : w7.cell? ⟨qo9, 3, none⟩ = some (.slice none 0 0) := (qb qvu.out 3).trans rfl; have qlu := qa qvu.out 0; have qmg := qa qvu.out 1; have ql6 := qa qvu.out 2; have ql5 := qa qvu.out 3))
 refine bodyPost_ret (results_cell_row rfl _ _ qo9 27 #[.int .i64 a0_0, .int .i64 a0_1, .string a0_2, .slice Ao8 t114.length co8] (0, 0) _ rfl (by (with_reducible repeat (first | refine qj ?_ _ | refine qm ?_ | refine qi ?_ _)); refine qbr (cs := #[.int .i64 a0_0, .int .i64 a0_1, .string a0_2, .slice none 0 0]) ?_ 3 _ rfl; (with_reducible repeat (first | refine qj ?_ _ | refine qm ?_ | refine qi ?_ _)); refine qbr (cs := #[.int .i64 a0_0, .int .i64 a0_1, .string (⟨#[]⟩ : ByteArray), .slice none 0 0]) ?_ 2 _ rfl; (with_reducible repeat (first | refine qj ?_ _ | refine qm ?_ | refine qi ?_ _)); refine qbr (cs := #[.int .i64 a0_0, .int .i64 0, .string (⟨#[]⟩ : ByteArray), .slice none 0 0]) ?_ 1 _ rfl; (with_reducible repeat (first | refine qj ?_ _ | refine qm ?_ | refine qi ?_ _)); refine qbr (cs := #[.int .i64 0, .int .i64 0, .string (⟨#[]⟩ : ByteArray), .slice none 0 0]) ?_ 0 _ rfl; (with_reducible repeat (first | refine qj ?_ _ | refine qm ?_ | refine qi ?_ _)); refine qbp ?_ q63.out _; (with_reducible repeat (first | refine qj ?_ _ | refine qm ?_ | refine qi ?_ _)); exact qvu.out) Tryd.underlying27 rfl (by kernel_rfl)) rfl ?_
 exact ⟨_, by first | rfl | (simp [qx, qy] <;> rfl) | (simp [*, qx, qy] <;> rfl), by (with_reducible repeat (first | apply Kd.qdm | apply Kd.qdp | apply Kd.qdw)); exact Kd.qdg (Kd.R_far (p := ⟨qo9, 3, none⟩) (Kd.R_far (p := ⟨qo9, 2, none⟩) (Kd.R_far (p := ⟨qo9, 1, none⟩) (Kd.R_far (p := ⟨qo9, 0, none⟩) (Kd.R_far (p := ⟨qmz, 3, none⟩) (Kd.qdg (Kd.qdg qbsk.out (fun k_ hk => (⟨hk, hk.1.2⟩ : _ ∧ k_ ≠ qmz))) (fun k_ hk => (⟨hk, hk.1.2⟩ : _ ∧ k_ ≠ qo9))) (fun _ hk => hk.1.2) (.slice Ao8 t114.length co8)) (fun _ hk => hk.2) (.int .i64 a0_0)) (fun _ hk => hk.2) (.int .i64 a0_1)) (fun _ hk => hk.2) (.string a0_2)) (fun _ hk => hk.2) (.slice Ao8 t114.length co8)) (fun _ hk => trivial), by repeat (first | (with_reducible first | exact HB.out | apply qg | apply qd | apply qh | refine ql ?_ qbfr.out | refine ql ?_ qbqy.out) | exact HB.out)⟩
theorem qdr.all (k : Nat) : (∀ (A0 : Option Addr) (c0 : Nat) (l0 : List (S27)) (r : List (S27)) (w : World) (hr0 : Kd.C k27 w A0 l0.length l0) (hc0 : l0.length ≤ c0) (h : qbu.f k l0 = some r),
    Calls Tryd.prog 64 #[.slice A0 l0.length c0] w fun e w' => ∃ v0_ : Value, e = .returned (v0_) ∧ Kd.R k27 27 w' w.heap.size (fun _ => True) v0_ r ∧ Below w.heap.size w w') ∧ (∀ (a0_0 : Int) (a0_1 : Int) (a0_2 : ByteArray) (A0_3 : Option Addr) (c0_3 : Nat) (l0_3 : List (S27)) (r1 : Int) (r2 : Int) (r3 : ByteArray) (r4 : List (S27)) (w : World) (qh5 : Kd.C k27 w A0_3 l0_3.length l0_3) (qhr : l0_3.length ≤ c0_3) (h : qb6.f k a0_0 a0_1 a0_2 l0_3 = some (r1, r2, r3, r4)),
    Calls Tryd.prog 63 #[.agg #[.int .i64 a0_0, .int .i64 a0_1, .string a0_2, .slice A0_3 l0_3.length c0_3]] w fun e w' => ∃ v3_ : Value, e = .returned (.agg #[.int .i64 r1, .int .i64 r2, .string r3, v3_]) ∧ Kd.R k27 27 w' w.heap.size (fun _ => True) v3_ r4 ∧ Below w.heap.size w w') := by
  induction k using Nat.strongRecOn with
  | _ k ih =>
  exact ⟨qbu.step k (fun m hm => (ih m hm).1) (fun m hm => (ih m hm).2), qb6.step k (fun m hm => (ih m hm).1) (fun m hm => (ih m hm).2)⟩
theorem qbu.calls (k : Nat) : ∀ (A0 : Option Addr) (c0 : Nat) (l0 : List (S27)) (r : List (S27)) (w : World) (hr0 : Kd.C k27 w A0 l0.length l0) (hc0 : l0.length ≤ c0) (h : qbu.f k l0 = some r),
    Calls Tryd.prog 64 #[.slice A0 l0.length c0] w fun e w' => ∃ v0_ : Value, e = .returned (v0_) ∧ Kd.R k27 27 w' w.heap.size (fun _ => True) v0_ r ∧ Below w.heap.size w w' := (qdr.all k).1
theorem qb6.calls (k : Nat) : ∀ (a0_0 : Int) (a0_1 : Int) (a0_2 : ByteArray) (A0_3 : Option Addr) (c0_3 : Nat) (l0_3 : List (S27)) (r1 : Int) (r2 : Int) (r3 : ByteArray) (r4 : List (S27)) (w : World) (qh5 : Kd.C k27 w A0_3 l0_3.length l0_3) (qhr : l0_3.length ≤ c0_3) (h : qb6.f k a0_0 a0_1 a0_2 l0_3 = some (r1, r2, r3, r4)),
    Calls Tryd.prog 63 #[.agg #[.int .i64 a0_0, .int .i64 a0_1, .string a0_2, .slice A0_3 l0_3.length c0_3]] w fun e w' => ∃ v3_ : Value, e = .returned (.agg #[.int .i64 r1, .int .i64 r2, .string r3, v3_]) ∧ Kd.R k27 27 w' w.heap.size (fun _ => True) v3_ r4 ∧ Below w.heap.size w w' := (qdr.all k).2
def qck.f (k : Nat) (a0_0 : Int) (a0_1 : Int) (a0_2 : Int) (a0_3 : Int) (a0_4 : Int) (a0_5 : ByteArray) (a0_6 : Int) (a0_7 : Int) (a0_8 : ByteArray) (l0_9 : List (S27)) (qnl : List (S27)) : Option (Int × Int × Int × ByteArray × Int × Int × ByteArray × (List (S27)) × (List (S30)) × (List (S27))) := (qb6.f k a0_6 a0_7 a0_8 l0_9).bind fun q29 => ((qbu.f k qnl).bind fun t125 => (some (a0_0, a0_1, a0_2, a0_5, q29.1, q29.2.1, q29.2.2.1, q29.2.2.2, ([] : List (S30)), t125)))
theorem qck.mono : ∀ a0 a1 a2 a3 a4 a5 a6 a7 a8 a9 a10 k, LeO (qck.f k a0 a1 a2 a3 a4 a5 a6 a7 a8 a9 a10) (qck.f (k + 1) a0 a1 a2 a3 a4 a5 a6 a7 a8 a9 a10) := by
 intro a0 a1 a2 a3 a4 a5 a6 a7 a8 a9 a10 k
 unfold qck.f
 repeat' first
   | (with_reducible exact qbu.mono _ _)
   | (with_reducible exact qb6.mono _ _ _ _ _)
   | (with_reducible exact LeO.refl _)
   | (with_reducible exact LeO.none _)
   | (with_reducible refine LeO.ite ?_ ?_)
   | (with_reducible refine LeO.bind ?_ (fun _ => ?_))
   | exact qbu.mono _ _
   | exact qb6.mono _ _ _ _ _
   | exact LeO.none _
   | refine LeO.ite ?_ ?_
   | refine LeO.bind ?_ (fun _ => ?_)
def qck.T1 : Bool × List (List Nat × List Nat) := (true, [([], []), ([0], [0]), ([], []), ([2], [2]), ([], []), ([4], [4]), ([], []), ([6], [6]), ([], []), ([8], [8]), ([9], [9]), ([], []), ([11], [11]), ([12, 10], [12]), ([1, 3, 5, 7, 10, 13], [1, 3, 5, 7, 10, 13]), ([14, 13, 0, 1, 2, 3, 4, 5, 6, 7, 8, 9, 10, 11, 12, 13, 14], [14])])
def qck.B1 : List Nat := [0, 1, 0, 4, 0, 16, 0, 64, 0, 256, 768, 0, 2048, 7936, 16383, 32767]
theorem qck.tab1 : rtab .any (opsOf Tryd.f65 1) = qck.T1 := by kernel_rfl
theorem qck.bits1 : qen qck.T1.2 qck.B1 = true := by kernel_rfl
set_option maxHeartbeats 8000000 in
set_option maxRecDepth 100000 in
theorem qck.calls (k : Nat) (a0_0 : Int) (a0_1 : Int) (a0_2 : Int) (a0_3 : Int) (a0_4 : Int) (a0_5 : ByteArray) (a0_6 : Int) (a0_7 : Int) (a0_8 : ByteArray) (A0_9 : Option Addr) (c0_9 : Nat) (l0_9 : List (S27)) (qzo : Option Addr) (qzp : Nat) (qnl : List (S27)) (r1 : Int) (r2 : Int) (r3 : Int) (r4 : ByteArray) (r5 : Int) (r6 : Int) (r7 : ByteArray) (r8 : List (S27)) (r9 : List (S30)) (r10 : List (S27)) (w : World) (qiw : Kd.C k27 w A0_9 l0_9.length l0_9) (qiv : l0_9.length ≤ c0_9) (qbn2 : Kd.C k27 w qzo qnl.length qnl) (qbn9 : qnl.length ≤ qzp) (h : qck.f k a0_0 a0_1 a0_2 a0_3 a0_4 a0_5 a0_6 a0_7 a0_8 l0_9 qnl = some (r1, r2, r3, r4, r5, r6, r7, r8, r9, r10)) :
  Calls Tryd.prog 65 #[.agg #[.int .i64 a0_0, .int .i64 a0_1, .int .i64 a0_2, .int .i64 a0_3, .int .i64 a0_4, .string a0_5, .int .i64 a0_6, .int .i64 a0_7, .string a0_8, .slice A0_9 l0_9.length c0_9, .slice qzo qnl.length qzp]] w fun e w' => ∃ v7_ v8_ v9_ : Value, e = .returned (.agg #[.int .i64 r1, .int .i64 r2, .int .i64 r3, .string r4, .int .i64 r5, .int .i64 r6, .string r7, v7_, v8_, v9_]) ∧ Kd.R k27 27 w' w.heap.size (fun k_ => some k_ ≠ (v9_ : Value).ownBlock) v7_ r8 ∧ Kd.R k30 30 w' w.heap.size (fun k_ => some k_ ≠ (v7_ : Value).ownBlock ∧ some k_ ≠ (v9_ : Value).ownBlock) v8_ r9 ∧ Kd.R k27 27 w' w.heap.size (fun k_ => some k_ ≠ (v7_ : Value).ownBlock) v9_ r10 ∧ Below w.heap.size w w' := by
 have hu36 := Tryd.underlying36
 have hu30 := Tryd.underlying30
 have hu27 := Tryd.underlying27
 have qql := qc.mk qiw
 have qzd := qc.mk qiv
 clear qiw qiv
 have qbrk := qc.mk qbn2
 have qbso := qc.mk qbn9
 clear qbn2 qbn9
 have HB := qc.mk (Below.refl w.heap.size w)
 have H : ((qb6.f k a0_6 a0_7 a0_8 l0_9).bind fun q29 => ((qbu.f k qnl).bind fun t125 => (some (a0_0, a0_1, a0_2, a0_5, q29.1, q29.2.1, q29.2.2.1, q29.2.2.2, ([] : List (S30)), t125)))) = some (r1, r2, r3, r4, r5, r6, r7, r8, r9, r10) := h
 clear h
 replace H := Option.bind_eq_some_iff.mp H
 obtain ⟨⟨t119, t120, t121, t122⟩, A20, H⟩ := H
 replace H : ((qbu.f k qnl).bind fun t125 => (some (a0_0, a0_1, a0_2, a0_5, t119, t120, t121, t122, ([] : List (S30)), t125))) = some (r1, r2, r3, r4, r5, r6, r7, r8, r9, r10) := H
 have A2 := qc.mk A20
 clear A20
 replace H := Option.bind_eq_some_iff.mp H
 obtain ⟨t125, A30, H⟩ := H
 replace H : (some (a0_0, a0_1, a0_2, a0_5, t119, t120, t121, t122, ([] : List (S30)), t125)) = some (r1, r2, r3, r4, r5, r6, r7, r8, r9, r10) := H
 have A3 := qc.mk A30
 clear A30
 simp only [Option.some.injEq, Prod.mk.injEq] at H
 obtain ⟨rfl, rfl, rfl, rfl, rfl, rfl, rfl, rfl, rfl, rfl⟩ := H
 go_enter Tryd.func65, Tryd.ntmps65
 try go_wp2_with (first | ((with_reducible refine qb0 (N := 1) rfl ?_); refine qby ?hg (N := 1) ?hd (cs := #[.int .i64 a0_0, .int .i64 a0_1, .int .i64 a0_2, .int .i64 a0_3, .int .i64 a0_4, .string a0_5, .int .i64 a0_6, .int .i64 a0_7, .string a0_8, .slice A0_9 l0_9.length c0_9, .slice qzo qnl.length qzp]) (t := 36) ?hr ?_; (case hd => rfl); (case hg => rfl); (case hr => first | (go_simp; done) | (go_simp; rfl)); intro qmq hg w4 hbox hb; have n0_ := qc.mk (q9 (by repeat (first | (with_reducible first | exact HB.out | apply qg | apply qd | apply qh) | exact HB.out)) hb); have n1_ := qc.mk (hbox); have n2_ := qc.mk ((by rw [hg]; exact (qba (by repeat (first | (with_reducible first | exact HB.out | apply qg | apply qd | apply qh) | exact HB.out))) : w.heap.size ≤ qmq)); have n3_ := qc.mk ((by rw [hg]; exact (qba (by repeat (first | (with_reducible first | exact HB.out | apply qg | apply qd | apply qh) | exact HB.out))) : w.heap.size ≤ qmq)); clear HB; have HB := n0_; have qg2 := n1_; have qbxo := n2_; have q6o := n3_; clear n0_ n1_ n2_ n3_; clear hb hbox hg) | ((with_reducible refine qb0 (N := 2) rfl ?_); refine qby ?hg (N := 2) ?hd (cs := #[.int .i64 0, .int .i64 0, .int .i64 0, .string (⟨#[]⟩ : ByteArray), .int .i64 0, .int .i64 0, .string (⟨#[]⟩ : ByteArray), .slice none 0 0, .slice none 0 0, .slice none 0 0]) (t := 30) ?hr ?_; (case hd => rfl); (case hg => rfl); (case hr => first | (go_simp; done) | (go_simp; rfl)); intro qfw hg w5 hbox hb; have n0_ := qc.mk (qbb (g := qmq) (o := .cells #[.int .i64 a0_0, .int .i64 a0_1, .int .i64 a0_2, .int .i64 a0_3, .int .i64 a0_4, .string a0_5, .int .i64 a0_6, .int .i64 a0_7, .string a0_8, .slice A0_9 l0_9.length c0_9, .slice qzo qnl.length qzp] 36 (0, 0)) (by (with_reducible repeat (first | refine qj ?_ _ | refine qm ?_ | refine qi ?_ _)); exact qg2.out) hb); have n1_ := qc.mk (q9 (by repeat (first | (with_reducible first | exact HB.out | apply qg | apply qd | apply qh | refine ql ?_ q6o.out) | exact HB.out)) hb); have n2_ := qc.mk (hbox); have n3_ := qc.mk ((by rw [hg]; exact (qba (by repeat (first | (with_reducible first | exact HB.out | apply qg | apply qd | apply qh | refine ql ?_ q6o.out) | exact HB.out))) : w.heap.size ≤ qfw)); have n4_ := qc.mk ((by rw [hg]; exact (qba (by repeat (first | (with_reducible first | exact HB.out | apply qg | apply qd | apply qh | refine ql ?_ q6o.out) | exact HB.out))) : w.heap.size ≤ qfw)); have n5_ := qc.mk ((by rw [hg]; exact Nat.ne_of_lt (qb4 (g := qmq) (o := .cells #[.int .i64 a0_0, .int .i64 a0_1, .int .i64 a0_2, .int .i64 a0_3, .int .i64 a0_4, .string a0_5, .int .i64 a0_6, .int .i64 a0_7, .string a0_8, .slice A0_9 l0_9.length c0_9, .slice qzo qnl.length qzp] 36 (0, 0)) (by (with_reducible repeat (first | refine qj ?_ _ | refine qm ?_ | refine qi ?_ _)); exact qg2.out)) : qmq ≠ qfw)); have n6_ := qc.mk ((by rw [hg]; exact Nat.ne_of_gt (qb4 (g := qmq) (o := .cells #[.int .i64 a0_0, .int .i64 a0_1, .int .i64 a0_2, .int .i64 a0_3, .int .i64 a0_4, .string a0_5, .int .i64 a0_6, .int .i64 a0_7, .string a0_8, .slice A0_9 l0_9.length c0_9, .slice qzo qnl.length qzp] 36 (0, 0)) (by (with_reducible repeat (first | refine qj ?_ _ | refine qm ?_ | refine qi ?_ _)); exact qg2.out)) : qfw ≠ qmq)); clear qg2; clear HB; have qg2 := n0_; have HB := n1_; have qh8 := n2_; have qbx2 := n3_; have qbic := n4_; have qfo := n5_; have qia := n6_; clear n0_ n1_ n2_ n3_ n4_ n5_ n6_; clear hb hbox hg))
 have n0_ := qc.mk (qm qg2.out)
 have n1_ := qc.mk (qm qh8.out)
 have n2_ := qc.mk (qh HB.out)
 clear qg2
 clear qh8
 clear HB
 have qg2 := n0_
 have qh8 := n1_
 have HB := n2_
 clear n0_ n1_ n2_
 refine qe9 (n := 16) (S := fun w' => w'.cell? ⟨qmq, 0, none⟩ = some (.int .i64 a0_0) ∧ w'.cell? ⟨qmq, 1, none⟩ = some (.int .i64 a0_1) ∧ w'.cell? ⟨qmq, 2, none⟩ = some (.int .i64 a0_2) ∧ w'.cell? ⟨qmq, 3, none⟩ = some (.int .i64 a0_3) ∧ w'.cell? ⟨qmq, 4, none⟩ = some (.int .i64 a0_4) ∧ w'.cell? ⟨qmq, 5, none⟩ = some (.string a0_5) ∧ w'.cell? ⟨qmq, 6, none⟩ = some (.int .i64 a0_6) ∧ w'.cell? ⟨qmq, 7, none⟩ = some (.int .i64 a0_7) ∧ w'.cell? ⟨qmq, 8, none⟩ = some (.string a0_8) ∧ w'.cell? ⟨qmq, 9, none⟩ = some (.slice A0_9 l0_9.length c0_9) ∧ w'.cell? ⟨qmq, 10, none⟩ = some (.slice qzo qnl.length qzp)) (ds := []) #[false, false, false, false, false, false, false, false, false, false, false, false, false, false, false, false] (by kernel_rfl) rfl rfl ⟨(qb qg2.out 0).trans rfl, (qb qg2.out 1).trans rfl, (qb qg2.out 2).trans rfl, (qb qg2.out 3).trans rfl, (qb qg2.out 4).trans rfl, (qb qg2.out 5).trans rfl, (qb qg2.out 6).trans rfl, (qb qg2.out 7).trans rfl, (qb qg2.out 8).trans rfl, (qb qg2.out 9).trans rfl, (qb qg2.out 10).trans rfl⟩ (fun hHeld => ?_); refine qei qck.tab1 qck.bits1 (fun HT_ HW_ => ?_)
 generalize w5.drew = w6 at qg2 qh8 HB hHeld ⊢
 refine pure_ (i := 0) (N := some 3) (v := ?_) (a' := ?_) #[true, false, false, false, false, false, false, false, false, false, false, false, false, false, false, false] rfl rfl (qcf HT_.out (by kernel_rfl)) (fun _ _ _ h => h) (Or.inl ⟨by rfl, ?_⟩) ?_ ?_
 rotate_left
 ·intro w'
  go_simp
  with_reducible rfl
 rotate_left
 ·simp only [Act.put, List.setIfInBounds_toArray, List.set_cons_zero, List.set_cons_succ, i64_w, i32_w]
  rfl
 refine pure_ (i := 2) (N := some 5) (v := ?_) (a' := ?_) #[true, false, true, false, false, false, false, false, false, false, false, false, false, false, false, false] rfl rfl (qcf HT_.out (by kernel_rfl)) (fun _ _ _ h => h) (Or.inl ⟨by rfl, ?_⟩) ?_ ?_
 rotate_left
 ·intro w'
  go_simp
  with_reducible rfl
 rotate_left
 ·simp only [Act.put, List.setIfInBounds_toArray, List.set_cons_zero, List.set_cons_succ, i64_w, i32_w]
  rfl
 refine pure_ (i := 4) (N := some 7) (v := ?_) (a' := ?_) #[true, false, true, false, true, false, false, false, false, false, false, false, false, false, false, false] rfl rfl (qcf HT_.out (by kernel_rfl)) (fun _ _ _ h => h) (Or.inl ⟨by rfl, ?_⟩) ?_ ?_
 rotate_left
 ·intro w'
  go_simp
  with_reducible rfl
 rotate_left
 ·simp only [Act.put, List.setIfInBounds_toArray, List.set_cons_zero, List.set_cons_succ, i64_w, i32_w]
  rfl
 refine pure_ (i := 6) (N := some 9) (v := ?_) (a' := ?_) #[true, false, true, false, true, false, true, false, false, false, false, false, false, false, false, false] rfl rfl (qcf HT_.out (by kernel_rfl)) (fun _ _ _ h => h) (Or.inl ⟨by rfl, ?_⟩) ?_ ?_
 rotate_left
 ·intro w'
  go_simp
  with_reducible rfl
 rotate_left
 ·simp only [Act.put, List.setIfInBounds_toArray, List.set_cons_zero, List.set_cons_succ, i64_w, i32_w]
  rfl
 refine pure_ (i := 8) (N := some 11) (v := ?_) (a' := ?_) #[true, false, true, false, true, false, true, false, true, false, false, false, false, false, false, false] rfl rfl (qcf HT_.out (by kernel_rfl)) (fun _ _ _ h => h) (Or.inl ⟨by rfl, ?_⟩) ?_ ?_
 rotate_left
 ·intro w'
  go_simp
  with_reducible rfl
 rotate_left
 ·simp only [Act.put, List.setIfInBounds_toArray, List.set_cons_zero, List.set_cons_succ, i64_w, i32_w]
  rfl
 refine pure_ (i := 11) (N := some 14) (v := ?_) (a' := ?_) #[true, false, true, false, true, false, true, false, true, false, false, true, false, false, false, false] rfl rfl (qcf HT_.out (by kernel_rfl)) (fun _ _ _ h => h) (Or.inl ⟨by rfl, ?_⟩) ?_ ?_
 rotate_left
 ·intro w'
  go_simp
  with_reducible rfl
 rotate_left
 ·simp only [Act.put, List.setIfInBounds_toArray, List.set_cons_zero, List.set_cons_succ, i64_w, i32_w]
  rfl
 refine take_ (i := 1) (N := some 4) (v := ?_) (a' := ?_) #[true, true, true, false, true, false, true, false, true, false, false, true, false, false, false, false] rfl rfl (qcn HT_.out HW_.out (by kernel_rfl)) (fun _ _ _ h => h) (Or.inl ⟨by rfl, ?_⟩) hHeld ?_ ?_
 rotate_left
 ·rintro w' ⟨s0, s1, s2, s3, s4, s5, s6, s7, s8, s9, s10⟩
  go_simp
  with_reducible rfl
 rotate_left
 ·simp only [Act.put, List.setIfInBounds_toArray, List.set_cons_zero, List.set_cons_succ, i64_w, i32_w]
  rfl
 refine take_ (i := 3) (N := some 6) (v := ?_) (a' := ?_) #[true, true, true, true, true, false, true, false, true, false, false, true, false, false, false, false] rfl rfl (qcn HT_.out HW_.out (by kernel_rfl)) (fun _ _ _ h => h) (Or.inl ⟨by rfl, ?_⟩) hHeld ?_ ?_
 rotate_left
 ·rintro w' ⟨s0, s1, s2, s3, s4, s5, s6, s7, s8, s9, s10⟩
  go_simp
  with_reducible rfl
 rotate_left
 ·simp only [Act.put, List.setIfInBounds_toArray, List.set_cons_zero, List.set_cons_succ, i64_w, i32_w]
  rfl
 refine take_ (i := 5) (N := some 8) (v := ?_) (a' := ?_) #[true, true, true, true, true, true, true, false, true, false, false, true, false, false, false, false] rfl rfl (qcn HT_.out HW_.out (by kernel_rfl)) (fun _ _ _ h => h) (Or.inl ⟨by rfl, ?_⟩) hHeld ?_ ?_
 rotate_left
 ·rintro w' ⟨s0, s1, s2, s3, s4, s5, s6, s7, s8, s9, s10⟩
  go_simp
  with_reducible rfl
 rotate_left
 ·simp only [Act.put, List.setIfInBounds_toArray, List.set_cons_zero, List.set_cons_succ, i64_w, i32_w]
  rfl
 refine take_ (i := 7) (N := some 10) (v := ?_) (a' := ?_) #[true, true, true, true, true, true, true, true, true, false, false, true, false, false, false, false] rfl rfl (qcn HT_.out HW_.out (by kernel_rfl)) (fun _ _ _ h => h) (Or.inl ⟨by rfl, ?_⟩) hHeld ?_ ?_
 rotate_left
 ·rintro w' ⟨s0, s1, s2, s3, s4, s5, s6, s7, s8, s9, s10⟩
  go_simp
  with_reducible rfl
 rotate_left
 ·simp only [Act.put, List.setIfInBounds_toArray, List.set_cons_zero, List.set_cons_succ, i64_w, i32_w]
  rfl
 refine take_ (i := 9) (N := some 12) (v := ?_) (a' := ?_) #[true, true, true, true, true, true, true, true, true, true, false, true, false, false, false, false] rfl rfl (qcn HT_.out HW_.out (by kernel_rfl)) (fun _ _ _ h => h) (Or.inl ⟨by rfl, ?_⟩) hHeld ?_ ?_
 rotate_left
 ·rintro w' ⟨s0, s1, s2, s3, s4, s5, s6, s7, s8, s9, s10⟩
  go_simp
  with_reducible rfl
 rotate_left
 ·simp only [Act.put, List.setIfInBounds_toArray, List.set_cons_zero, List.set_cons_succ, i64_w, i32_w]
  rfl
 refine take_ (i := 12) (N := some 15) (v := ?_) (a' := ?_) #[true, true, true, true, true, true, true, true, true, true, false, true, true, false, false, false] rfl rfl (qcn HT_.out HW_.out (by kernel_rfl)) (fun _ _ _ h => h) (Or.inl ⟨by rfl, ?_⟩) hHeld ?_ ?_
 rotate_left
 ·rintro w' ⟨s0, s1, s2, s3, s4, s5, s6, s7, s8, s9, s10⟩
  go_simp
  with_reducible rfl
 rotate_left
 ·simp only [Act.put, List.setIfInBounds_toArray, List.set_cons_zero, List.set_cons_succ, i64_w, i32_w]
  rfl
 refine one_ (i := 10) (N := some 13) #[true, true, true, true, true, true, true, true, true, true, true, true, true, false, false, false] rfl rfl (qee HT_.out (by kernel_rfl)) (by decide) (fun K hK => ?_)
 refine goes_ Tryd.func63 (by kernel_rfl) rfl #[.agg #[.int .i64 a0_6, .int .i64 a0_7, .string a0_8, .slice A0_9 l0_9.length c0_9]] (by rfl) rfl rfl (by (try simp only [List.map_toArray, List.map_cons, List.map_nil]); first | done | rfl | (simp only [List.length_drop, List.length_take]; rfl)) ?_
 with_reducible refine (qb6.calls k a0_6 a0_7 a0_8 _ _ l0_9 t119 t120 t121 t122 _ ?side1 ?side2 A2.out).mono ?_
 (case side1 => repeat (first | exact (Kd.qbw qql.out HB.out) | (with_reducible refine Kd.qb3 ?_ _) | (with_reducible refine Kd.qb1 ?_ _) | (with_reducible refine Kd.qb7 ?_)))
 (case side2 => exact qzd.out)
 rintro e w7 ⟨v123, rfl, ho0, hb⟩
 refine ⟨_, rfl, ?_⟩
 have n0_ := qc.mk (Kd.qd7 ho0 (qba (by repeat (first | (with_reducible first | exact HB.out | apply qg | apply qd | apply qh | refine ql ?_ q6o.out | refine ql ?_ qbic.out) | exact HB.out))))
 have n1_ := qc.mk (qbb (g := qmq) (o := .cells #[.int .i64 a0_0, .int .i64 a0_1, .int .i64 a0_2, .int .i64 a0_3, .int .i64 a0_4, .string a0_5, .int .i64 a0_6, .int .i64 a0_7, .string a0_8, .slice A0_9 l0_9.length c0_9, .slice qzo qnl.length qzp] 36 (0, 0)) (by (with_reducible repeat (first | refine qj ?_ _ | refine qm ?_ | refine qi ?_ _)); exact qg2.out) hb)
 have n2_ := qc.mk (qbb (g := qfw) (o := .cells #[.int .i64 0, .int .i64 0, .int .i64 0, .string (⟨#[]⟩ : ByteArray), .int .i64 0, .int .i64 0, .string (⟨#[]⟩ : ByteArray), .slice none 0 0, .slice none 0 0, .slice none 0 0] 30 (0, 0)) (by (with_reducible repeat (first | refine qj ?_ _ | refine qm ?_ | refine qi ?_ _)); exact qh8.out) hb)
 have n3_ := qc.mk (q9 (by repeat (first | (with_reducible first | exact HB.out | apply qg | apply qd | apply qh | refine ql ?_ q6o.out | refine ql ?_ qbic.out) | exact HB.out)) hb)
 clear qg2
 clear qh8
 clear HB
 have qbfs := n0_
 have qg2 := n1_
 have qh8 := n2_
 have HB := n3_
 clear n0_ n1_ n2_ n3_
 (try clear hb)
 (try clear hb2)
 (try clear hk)
 (try clear hi)
 (try clear ho0)
 refine hK.out _ _ ⟨(qb qg2.out 0).trans rfl, (qb qg2.out 1).trans rfl, (qb qg2.out 2).trans rfl, (qb qg2.out 3).trans rfl, (qb qg2.out 4).trans rfl, (qb qg2.out 5).trans rfl, (qb qg2.out 6).trans rfl, (qb qg2.out 7).trans rfl, (qb qg2.out 8).trans rfl, (qb qg2.out 9).trans rfl, (qb qg2.out 10).trans rfl⟩ (fun hHeld => ?_)
 clear hK K
 refine norm_ (a' := ?_) ?_ ?_
 rotate_left
 ·show Act.put _ (some 13) _ = _
  simp only [Act.put, List.setIfInBounds_toArray, List.set_cons_zero, List.set_cons_succ, i64_w, i32_w]
  rfl
 refine one_ (i := 13) (N := some 16) #[true, true, true, true, true, true, true, true, true, true, true, true, true, true, false, false] rfl rfl (qee HT_.out (by kernel_rfl)) (by decide) (fun K hK => ?_)
 refine goes_ Tryd.func64 (by kernel_rfl) rfl #[.slice qzo qnl.length qzp] (by rfl) rfl rfl (by (try simp only [List.map_toArray, List.map_cons, List.map_nil]); first | done | rfl | (simp only [List.length_drop, List.length_take]; rfl)) ?_
 with_reducible refine (qbu.calls k _ _ qnl t125 _ ?side1 ?side2 A3.out).mono ?_
 (case side1 => repeat (first | exact (Kd.qbw qbrk.out HB.out) | (with_reducible refine Kd.qb3 ?_ _) | (with_reducible refine Kd.qb1 ?_ _) | (with_reducible refine Kd.qb7 ?_)))
 (case side2 => exact qbso.out)
 rintro e w8 ⟨v126, rfl, ho0, hb⟩
 refine ⟨_, rfl, ?_⟩
 have n0_ := qc.mk (Kd.R_elder' (by (with_reducible repeat (first | apply Kd.qdm | apply Kd.qdp | apply Kd.qdw)); exact qbfs.out) (Kd.R_base ho0) hb)
 have n1_ := qc.mk (Kd.qd7 (Kd.R_new' ho0 (Kd.R_lt (by (with_reducible repeat (first | apply Kd.qdm | apply Kd.qdp | apply Kd.qdw)); exact qbfs.out))) (qba (by repeat (first | (with_reducible first | exact HB.out | apply qg | apply qd | apply qh | refine ql ?_ q6o.out | refine ql ?_ qbic.out) | exact HB.out))))
 have n2_ := qc.mk (qbb (g := qmq) (o := .cells #[.int .i64 a0_0, .int .i64 a0_1, .int .i64 a0_2, .int .i64 a0_3, .int .i64 a0_4, .string a0_5, .int .i64 a0_6, .int .i64 a0_7, .string a0_8, .slice A0_9 l0_9.length c0_9, .slice qzo qnl.length qzp] 36 (0, 0)) (by (with_reducible repeat (first | refine qj ?_ _ | refine qm ?_ | refine qi ?_ _)); exact qg2.out) hb)
 have n3_ := qc.mk (qbb (g := qfw) (o := .cells #[.int .i64 0, .int .i64 0, .int .i64 0, .string (⟨#[]⟩ : ByteArray), .int .i64 0, .int .i64 0, .string (⟨#[]⟩ : ByteArray), .slice none 0 0, .slice none 0 0, .slice none 0 0] 30 (0, 0)) (by (with_reducible repeat (first | refine qj ?_ _ | refine qm ?_ | refine qi ?_ _)); exact qh8.out) hb)
 have n4_ := qc.mk (q9 (by repeat (first | (with_reducible first | exact HB.out | apply qg | apply qd | apply qh | refine ql ?_ q6o.out | refine ql ?_ qbic.out) | exact HB.out)) hb)
 clear qbfs
 clear qg2
 clear qh8
 clear HB
 have qbfs := n0_
 have qbrq := n1_
 have qg2 := n2_
 have qh8 := n3_
 have HB := n4_
 clear n0_ n1_ n2_ n3_ n4_
 (try clear hb)
 (try clear hb2)
 (try clear hk)
 (try clear hi)
 (try clear ho0)
 obtain ⟨Ao9, co9, eo9⟩ := Kd.qde qbrq.out
 (first | subst eo9 | (injection eo9 with f1_ f2_ f3_; have f4_ := f1_.symm; have f5_ := f3_.symm; clear f1_ f2_ f3_; subst f4_; subst f5_))
 obtain ⟨Ao10, co10, eo10⟩ := Kd.qde qbfs.out
 (first | subst eo10 | (injection eo10 with f1_ f2_ f3_; have f4_ := f1_.symm; have f5_ := f3_.symm; clear f1_ f2_ f3_; subst f4_; subst f5_))
 refine hK.out _ _ ⟨(qb qg2.out 0).trans rfl, (qb qg2.out 1).trans rfl, (qb qg2.out 2).trans rfl, (qb qg2.out 3).trans rfl, (qb qg2.out 4).trans rfl, (qb qg2.out 5).trans rfl, (qb qg2.out 6).trans rfl, (qb qg2.out 7).trans rfl, (qb qg2.out 8).trans rfl, (qb qg2.out 9).trans rfl, (qb qg2.out 10).trans rfl⟩ (fun hHeld => ?_)
 clear hK K
 refine norm_ (a' := ?_) ?_ ?_
 rotate_left
 ·show Act.put _ (some 16) _ = _
  simp only [Act.put, List.setIfInBounds_toArray, List.set_cons_zero, List.set_cons_succ, i64_w, i32_w]
  rfl
 refine pure_ (i := 14) (N := some 17) (v := ?_) (a' := ?_) #[true, true, true, true, true, true, true, true, true, true, true, true, true, true, true, false] rfl rfl (qcf HT_.out (by kernel_rfl)) (fun _ _ _ h => h) (Or.inl ⟨by rfl, ?_⟩) ?_ ?_
 rotate_left
 ·intro w'
  go_simp
  with_reducible rfl
 rotate_left
 ·simp only [Act.put, List.setIfInBounds_toArray, List.set_cons_zero, List.set_cons_succ, i64_w, i32_w]
  rfl
 refine one_ (i := 15) (N := none) #[true, true, true, true, true, true, true, true, true, true, true, true, true, true, true, true] rfl rfl (qee HT_.out (by kernel_rfl)) (by decide) (fun K hK => ?_)
 have hs11 : w8.cell? ⟨qfw, 0, none⟩ = some (.int .i64 0) := (qb qh8.out 0).trans rfl
 have qbyd := qa qh8.out 0
 have qbwv := qfo.out
 have qbwa := qia.out
 have hs12 : w8.cell? ⟨qfw, 1, none⟩ = some (.int .i64 0) := (qb qh8.out 1).trans rfl
 have qbyn := qa qh8.out 1
 have qbve := qfo.out
 have qbwx := qia.out
 have hs13 : w8.cell? ⟨qfw, 2, none⟩ = some (.int .i64 0) := (qb qh8.out 2).trans rfl
 have qbym := qa qh8.out 2
 have qbvr := qfo.out
 have qbt5 := qia.out
 have hs14 : w8.cell? ⟨qfw, 3, none⟩ = some (.string (⟨#[]⟩ : ByteArray)) := (qb qh8.out 3).trans rfl
 have qbyf := qa qh8.out 3
 have qbun := qfo.out
 have qbwo := qia.out
 have hs15 : w8.cell? ⟨qfw, 4, none⟩ = some (.int .i64 0) := (qb qh8.out 4).trans rfl
 have qbyc := qa qh8.out 4
 have qbvn := qfo.out
 have qbu0 := qia.out
 have hs16 : w8.cell? ⟨qfw, 5, none⟩ = some (.int .i64 0) := (qb qh8.out 5).trans rfl
 have qbxh := qa qh8.out 5
 have qbw0 := qfo.out
 have qbut := qia.out
 have hs17 : w8.cell? ⟨qfw, 6, none⟩ = some (.string (⟨#[]⟩ : ByteArray)) := (qb qh8.out 6).trans rfl
 have qbyk := qa qh8.out 6
 have qbvj := qfo.out
 have qbuo := qia.out
 have hs18 : w8.cell? ⟨qfw, 7, none⟩ = some (.slice none 0 0) := (qb qh8.out 7).trans rfl
 have qbx3 := qa qh8.out 7
 have qbul := qfo.out
 have qbu5 := qia.out
 have hs19 : w8.cell? ⟨qfw, 8, none⟩ = some (.slice none 0 0) := (qb qh8.out 8).trans rfl
 have qbxl := qa qh8.out 8
 have qbum := qfo.out
 have qbuu := qia.out
 have hs20 : w8.cell? ⟨qfw, 9, none⟩ = some (.slice none 0 0) := (qb qh8.out 9).trans rfl
 have qbxv := qa qh8.out 9
 have qbvz := qfo.out
 have qbws := qia.out
 refine skip_ (w1 := ?_) (by rfl) rfl ?_ ?_
 rotate_left
 ·go_simp
  rfl
 refine hK.out _ _ ⟨((cell_far (p := ⟨qfw, _, none⟩) qfo.out _).trans (((cell_far (p := ⟨qfw, _, none⟩) qfo.out _).trans (((cell_far (p := ⟨qfw, _, none⟩) qfo.out _).trans (((cell_far (p := ⟨qfw, _, none⟩) qfo.out _).trans (((cell_far (p := ⟨qfw, _, none⟩) qfo.out _).trans (((cell_far (p := ⟨qfw, _, none⟩) qfo.out _).trans (((cell_far (p := ⟨qfw, _, none⟩) qfo.out _).trans (((cell_far (p := ⟨qfw, _, none⟩) qfo.out _).trans (((cell_far (p := ⟨qfw, _, none⟩) qfo.out _).trans (((cell_far (p := ⟨qfw, _, none⟩) qfo.out _).trans (hHeld.1)))))))))))))))))))), ((cell_far (p := ⟨qfw, _, none⟩) qfo.out _).trans (((cell_far (p := ⟨qfw, _, none⟩) qfo.out _).trans (((cell_far (p := ⟨qfw, _, none⟩) qfo.out _).trans (((cell_far (p := ⟨qfw, _, none⟩) qfo.out _).trans (((cell_far (p := ⟨qfw, _, none⟩) qfo.out _).trans (((cell_far (p := ⟨qfw, _, none⟩) qfo.out _).trans (((cell_far (p := ⟨qfw, _, none⟩) qfo.out _).trans (((cell_far (p := ⟨qfw, _, none⟩) qfo.out _).trans (((cell_far (p := ⟨qfw, _, none⟩) qfo.out _).trans (((cell_far (p := ⟨qfw, _, none⟩) qfo.out _).trans (hHeld.2.1)))))))))))))))))))), ((cell_far (p := ⟨qfw, _, none⟩) qfo.out _).trans (((cell_far (p := ⟨qfw, _, none⟩) qfo.out _).trans (((cell_far (p := ⟨qfw, _, none⟩) qfo.out _).trans (((cell_far (p := ⟨qfw, _, none⟩) qfo.out _).trans (((cell_far (p := ⟨qfw, _, none⟩) qfo.out _).trans (((cell_far (p := ⟨qfw, _, none⟩) qfo.out _).trans (((cell_far (p := ⟨qfw, _, none⟩) qfo.out _).trans (((cell_far (p := ⟨qfw, _, none⟩) qfo.out _).trans (((cell_far (p := ⟨qfw, _, none⟩) qfo.out _).trans (((cell_far (p := ⟨qfw, _, none⟩) qfo.out _).trans (hHeld.2.2.1)))))))))))))))))))), ((cell_far (p := ⟨qfw, _, none⟩) qfo.out _).trans (((cell_far (p := ⟨qfw, _, none⟩) qfo.out _).trans (((cell_far (p := ⟨qfw, _, none⟩) qfo.out _).trans (((cell_far (p := ⟨qfw, _, none⟩) qfo.out _).trans (((cell_far (p := ⟨qfw, _, none⟩) qfo.out _).trans (((cell_far (p := ⟨qfw, _, none⟩) qfo.out _).trans (((cell_far (p := ⟨qfw, _, none⟩) qfo.out _).trans (((cell_far (p := ⟨qfw, _, none⟩) qfo.out _).trans (((cell_far (p := ⟨qfw, _, none⟩) qfo.out _).trans (((cell_far (p := ⟨qfw, _, none⟩) qfo.out _).trans (hHeld.2.2.2.1)))))))))))))))))))), ((cell_far (p := ⟨qfw, _, none⟩) qfo.out _).trans (((cell_far (p := ⟨qfw, _, none⟩) qfo.out _).trans (((cell_far (p := ⟨qfw, _, none⟩) qfo.out _).trans (((cell_far (p := ⟨qfw, _, none⟩) qfo.out _).trans (((cell_far (p := ⟨qfw, _, none⟩) qfo.out _).trans (((cell_far (p := ⟨qfw, _, none⟩) qfo.out _).trans (((cell_far (p := ⟨qfw, _, none⟩) qfo.out _).trans (((cell_far (p := ⟨qfw, _, none⟩) qfo.out _).trans (((cell_far (p := ⟨qfw, _, none⟩) qfo.out _).trans (((cell_far (p := ⟨qfw, _, none⟩) qfo.out _).trans (hHeld.2.2.2.2.1)))))))))))))))))))), ((cell_far (p := ⟨qfw, _, none⟩) qfo.out _).trans (((cell_far (p := ⟨qfw, _, none⟩) qfo.out _).trans (((cell_far (p := ⟨qfw, _, none⟩) qfo.out _).trans (((cell_far (p := ⟨qfw, _, none⟩) qfo.out _).trans (((cell_far (p := ⟨qfw, _, none⟩) qfo.out _).trans (((cell_far (p := ⟨qfw, _, none⟩) qfo.out _).trans (((cell_far (p := ⟨qfw, _, none⟩) qfo.out _).trans (((cell_far (p := ⟨qfw, _, none⟩) qfo.out _).trans (((cell_far (p := ⟨qfw, _, none⟩) qfo.out _).trans (((cell_far (p := ⟨qfw, _, none⟩) qfo.out _).trans (hHeld.2.2.2.2.2.1)))))))))))))))))))), ((cell_far (p := ⟨qfw, _, none⟩) qfo.out _).trans (((cell_far (p := ⟨qfw, _, none⟩) qfo.out _).trans (((cell_far (p := ⟨qfw, _, none⟩) qfo.out _).trans (((cell_far (p := ⟨qfw, _, none⟩) qfo.out _).trans (((cell_far (p := ⟨qfw, _, none⟩) qfo.out _).trans (((cell_far (p := ⟨qfw, _, none⟩) qfo.out _).trans (((cell_far (p := ⟨qfw, _, none⟩) qfo.out _).trans (((cell_far (p := ⟨qfw, _, none⟩) qfo.out _).trans (((cell_far (p := ⟨qfw, _, none⟩) qfo.out _).trans (((cell_far (p := ⟨qfw, _, none⟩) qfo.out _).trans (hHeld.2.2.2.2.2.2.1)))))))))))))))))))), ((cell_far (p := ⟨qfw, _, none⟩) qfo.out _).trans (((cell_far (p := ⟨qfw, _, none⟩) qfo.out _).trans (((cell_far (p := ⟨qfw, _, none⟩) qfo.out _).trans (((cell_far (p := ⟨qfw, _, none⟩) qfo.out _).trans (((cell_far (p := ⟨qfw, _, none⟩) qfo.out _).trans (((cell_far (p := ⟨qfw, _, none⟩) qfo.out _).trans (((cell_far (p := ⟨qfw, _, none⟩) qfo.out _).trans (((cell_far (p := ⟨qfw, _, none⟩) qfo.out _).trans (((cell_far (p := ⟨qfw, _, none⟩) qfo.out _).trans (((cell_far (p := ⟨qfw, _, none⟩) qfo.out _).trans (hHeld.2.2.2.2.2.2.2.1)))))))))))))))))))), ((cell_far (p := ⟨qfw, _, none⟩) qfo.out _).trans (((cell_far (p := ⟨qfw, _, none⟩) qfo.out _).trans (((cell_far (p := ⟨qfw, _, none⟩) qfo.out _).trans (((cell_far (p := ⟨qfw, _, none⟩) qfo.out _).trans (((cell_far (p := ⟨qfw, _, none⟩) qfo.out _).trans (((cell_far (p := ⟨qfw, _, none⟩) qfo.out _).trans (((cell_far (p := ⟨qfw, _, none⟩) qfo.out _).trans (((cell_far (p := ⟨qfw, _, none⟩) qfo.out _).trans (((cell_far (p := ⟨qfw, _, none⟩) qfo.out _).trans (((cell_far (p := ⟨qfw, _, none⟩) qfo.out _).trans (hHeld.2.2.2.2.2.2.2.2.1)))))))))))))))))))), ((cell_far (p := ⟨qfw, _, none⟩) qfo.out _).trans (((cell_far (p := ⟨qfw, _, none⟩) qfo.out _).trans (((cell_far (p := ⟨qfw, _, none⟩) qfo.out _).trans (((cell_far (p := ⟨qfw, _, none⟩) qfo.out _).trans (((cell_far (p := ⟨qfw, _, none⟩) qfo.out _).trans (((cell_far (p := ⟨qfw, _, none⟩) qfo.out _).trans (((cell_far (p := ⟨qfw, _, none⟩) qfo.out _).trans (((cell_far (p := ⟨qfw, _, none⟩) qfo.out _).trans (((cell_far (p := ⟨qfw, _, none⟩) qfo.out _).trans (((cell_far (p := ⟨qfw, _, none⟩) qfo.out _).trans (hHeld.2.2.2.2.2.2.2.2.2.1)))))))))))))))))))), ((cell_far (p := ⟨qfw, _, none⟩) qfo.out _).trans (((cell_far (p := ⟨qfw, _, none⟩) qfo.out _).trans (((cell_far (p := ⟨qfw, _, none⟩) qfo.out _).trans (((cell_far (p := ⟨qfw, _, none⟩) qfo.out _).trans (((cell_far (p := ⟨qfw, _, none⟩) qfo.out _).trans (((cell_far (p := ⟨qfw, _, none⟩) qfo.out _).trans (((cell_far (p := ⟨qfw, _, none⟩) qfo.out _).trans (((cell_far (p := ⟨qfw, _, none⟩) qfo.out _).trans (((cell_far (p := ⟨qfw, _, none⟩) qfo.out _).trans (((cell_far (p := ⟨qfw, _, none⟩) qfo.out _).trans (hHeld.2.2.2.2.2.2.2.2.2.2))))))))))))))))))))⟩ (fun hHeld => ?_)
 clear hK K
 refine done_ (qex HT_.out (by kernel_rfl)) ?_
 try go_wp2
 refine bodyPost_ret (results_cell_row rfl _ _ qfw 30 #[.int .i64 a0_0, .int .i64 a0_1, .int .i64 a0_2, .string a0_5, .int .i64 t119, .int .i64 t120, .string t121, .slice Ao10 t122.length co10, .slice none 0 0, .slice Ao9 t125.length co9] (0, 0) _ rfl (by (with_reducible repeat (first | refine qj ?_ _ | refine qm ?_ | refine qi ?_ _)); refine qbr (cs := #[.int .i64 a0_0, .int .i64 a0_1, .int .i64 a0_2, .string a0_5, .int .i64 t119, .int .i64 t120, .string t121, .slice Ao10 t122.length co10, .slice none 0 0, .slice none 0 0]) ?_ 9 _ rfl; (with_reducible repeat (first | refine qj ?_ _ | refine qm ?_ | refine qi ?_ _)); refine qbr (cs := #[.int .i64 a0_0, .int .i64 a0_1, .int .i64 a0_2, .string a0_5, .int .i64 t119, .int .i64 t120, .string t121, .slice Ao10 t122.length co10, .slice none 0 0, .slice none 0 0]) ?_ 8 _ rfl; (with_reducible repeat (first | refine qj ?_ _ | refine qm ?_ | refine qi ?_ _)); refine qbr (cs := #[.int .i64 a0_0, .int .i64 a0_1, .int .i64 a0_2, .string a0_5, .int .i64 t119, .int .i64 t120, .string t121, .slice none 0 0, .slice none 0 0, .slice none 0 0]) ?_ 7 _ rfl; (with_reducible repeat (first | refine qj ?_ _ | refine qm ?_ | refine qi ?_ _)); refine qbr (cs := #[.int .i64 a0_0, .int .i64 a0_1, .int .i64 a0_2, .string a0_5, .int .i64 t119, .int .i64 t120, .string (⟨#[]⟩ : ByteArray), .slice none 0 0, .slice none 0 0, .slice none 0 0]) ?_ 6 _ rfl; (with_reducible repeat (first | refine qj ?_ _ | refine qm ?_ | refine qi ?_ _)); refine qbr (cs := #[.int .i64 a0_0, .int .i64 a0_1, .int .i64 a0_2, .string a0_5, .int .i64 t119, .int .i64 0, .string (⟨#[]⟩ : ByteArray), .slice none 0 0, .slice none 0 0, .slice none 0 0]) ?_ 5 _ rfl; (with_reducible repeat (first | refine qj ?_ _ | refine qm ?_ | refine qi ?_ _)); refine qbr (cs := #[.int .i64 a0_0, .int .i64 a0_1, .int .i64 a0_2, .string a0_5, .int .i64 0, .int .i64 0, .string (⟨#[]⟩ : ByteArray), .slice none 0 0, .slice none 0 0, .slice none 0 0]) ?_ 4 _ rfl; (with_reducible repeat (first | refine qj ?_ _ | refine qm ?_ | refine qi ?_ _)); refine qbr (cs := #[.int .i64 a0_0, .int .i64 a0_1, .int .i64 a0_2, .string (⟨#[]⟩ : ByteArray), .int .i64 0, .int .i64 0, .string (⟨#[]⟩ : ByteArray), .slice none 0 0, .slice none 0 0, .slice none 0 0]) ?_ 3 _ rfl; (with_reducible repeat (first | refine qj ?_ _ | refine qm ?_ | refine qi ?_ _)); refine qbr (cs := #[.int .i64 a0_0, .int .i64 a0_1, .int .i64 0, .string (⟨#[]⟩ : ByteArray), .int .i64 0, .int .i64 0, .string (⟨#[]⟩ : ByteArray), .slice none 0 0, .slice none 0 0, .slice none 0 0]) ?_ 2 _ rfl; (with_reducible repeat (first | refine qj ?_ _ | refine qm ?_ | refine qi ?_ _)); refine qbr (cs := #[.int .i64 a0_0, .int .i64 0, .int .i64 0, .string (⟨#[]⟩ : ByteArray), .int .i64 0, .int .i64 0, .string (⟨#[]⟩ : ByteArray), .slice none 0 0, .slice none 0 0, .slice none 0 0]) ?_ 1 _ rfl; (with_reducible repeat (first | refine qj ?_ _ | refine qm ?_ | refine qi ?_ _)); refine qbr (cs := #[.int .i64 0, .int .i64 0, .int .i64 0, .string (⟨#[]⟩ : ByteArray), .int .i64 0, .int .i64 0, .string (⟨#[]⟩ : ByteArray), .slice none 0 0, .slice none 0 0, .slice none 0 0]) ?_ 0 _ rfl; (with_reducible repeat (first | refine qj ?_ _ | refine qm ?_ | refine qi ?_ _)); exact qh8.out) Tryd.underlying30 rfl (by kernel_rfl)) rfl ?_
 exact ⟨_, _, _, by first | rfl | (simp [qx, qy] <;> rfl) | (simp [*, qx, qy] <;> rfl), by (with_reducible repeat (first | apply Kd.qdm | apply Kd.qdp | apply Kd.qdw)); exact Kd.qdg (Kd.R_far (p := ⟨qfw, 9, none⟩) (Kd.R_far (p := ⟨qfw, 8, none⟩) (Kd.R_far (p := ⟨qfw, 7, none⟩) (Kd.R_far (p := ⟨qfw, 6, none⟩) (Kd.R_far (p := ⟨qfw, 5, none⟩) (Kd.R_far (p := ⟨qfw, 4, none⟩) (Kd.R_far (p := ⟨qfw, 3, none⟩) (Kd.R_far (p := ⟨qfw, 2, none⟩) (Kd.R_far (p := ⟨qfw, 1, none⟩) (Kd.R_far (p := ⟨qfw, 0, none⟩) (Kd.R_types qbfs.out qh8.out (by decide)) (fun _ hk => hk.2) (.int .i64 a0_0)) (fun _ hk => hk.2) (.int .i64 a0_1)) (fun _ hk => hk.2) (.int .i64 a0_2)) (fun _ hk => hk.2) (.string a0_5)) (fun _ hk => hk.2) (.int .i64 t119)) (fun _ hk => hk.2) (.int .i64 t120)) (fun _ hk => hk.2) (.string t121)) (fun _ hk => hk.2) (.slice Ao10 t122.length co10)) (fun _ hk => hk.2) (.slice none 0 0)) (fun _ hk => hk.2) (.slice Ao9 t125.length co9)) (fun _ hk => hk.1.2), by first | exact Kd.R_nil _ _ _ _ _ | exact Kd.N_nil _ _ _ _ _ | exact Kd.V_nil _ _ _ _ _ | exact Kd.Q_nil _ _ _ _ _ | exact Kd.S_nil _ _ _ _ _, by (with_reducible repeat (first | apply Kd.qdm | apply Kd.qdp | apply Kd.qdw)); exact Kd.qdg (Kd.R_far (p := ⟨qfw, 9, none⟩) (Kd.R_far (p := ⟨qfw, 8, none⟩) (Kd.R_far (p := ⟨qfw, 7, none⟩) (Kd.R_far (p := ⟨qfw, 6, none⟩) (Kd.R_far (p := ⟨qfw, 5, none⟩) (Kd.R_far (p := ⟨qfw, 4, none⟩) (Kd.R_far (p := ⟨qfw, 3, none⟩) (Kd.R_far (p := ⟨qfw, 2, none⟩) (Kd.R_far (p := ⟨qfw, 1, none⟩) (Kd.R_far (p := ⟨qfw, 0, none⟩) (Kd.R_types qbrq.out qh8.out (by decide)) (fun _ hk => hk.2) (.int .i64 a0_0)) (fun _ hk => hk.2) (.int .i64 a0_1)) (fun _ hk => hk.2) (.int .i64 a0_2)) (fun _ hk => hk.2) (.string a0_5)) (fun _ hk => hk.2) (.int .i64 t119)) (fun _ hk => hk.2) (.int .i64 t120)) (fun _ hk => hk.2) (.string t121)) (fun _ hk => hk.2) (.slice Ao10 t122.length co10)) (fun _ hk => hk.2) (.slice none 0 0)) (fun _ hk => hk.2) (.slice Ao9 t125.length co9)) (fun _ hk => hk.1.2), by repeat (first | (with_reducible first | exact HB.out | apply qg | apply qd | apply qh | refine ql ?_ q6o.out | refine ql ?_ qbic.out) | exact HB.out)⟩
end Go.Proofs.YtpgkhmdfddejfaaDoor.PV
end
