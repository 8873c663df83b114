import Derived.Test.YtpgkhmdfddejfaaDoorZXPVx0
section
namespace Go.Proofs.YtpgkhmdfddejfaaDoor.PV
open Go.RowKit Go.Proofs.YtpgkhmdfddejfaaDoorW.PrintWords Go.Proofs.YtpgkhmdfddejfaaDoorW.PrintLast Go.Proofs.YtpgkhmdfddejfaaDoorW.PrintMore
attribute [local go_sem] qcn qcp qdi qdj qb6 qb7 qco qcq   -- for this text's walks alone
set_option linter.unusedVariables false
set_option linter.unusedSimpArgs false
mutual
def jg.l0 : Nat → List (S27) → List (S27) → Int → Int → Option ((List (S27)))
  | 0, _, _, _, _ => none
  | k + 1, x3, x6, x7, x8 => if x8 < x7 then (if 0 ≤ x8 then (if x8 < (x6.length : Int) then ((qar.f k ((zf x6 x8).f0) ((zf x6 x8).f1) ((zf x6 x8).f2) ((zf x6 x8).f3)).bind fun zkd => (if x3.length < 2513169434916 then (jg.l0 k (x3 ++ [(⟨zkd.1, zkd.2.1, zkd.2.2.1, zkd.2.2.2⟩ : S27)]) x6 x7 (wrap64 (x8 + 1))) else (none))) else (none)) else (none)) else (some x3)
def jg.f : Nat → List (S27) → Option ((List (S27)))
  | 0, _ => none
  | k + 1, l0 => jg.l0 k ([] : List (S27)) l0 (l0.length : Int) 0
def qar.f : Nat → Int → Int → ByteArray → List (S27) → Option (Int × Int × ByteArray × (List (S27)))
  | 0, _, _, _, _ => none
  | k + 1, qw, qy, za, zm => (jg.f k zm).bind fun zf8 => (some (qw, qy, za, zf8))
end
theorem qef.qb2 : ∀ k, (∀ y0, LeO (jg.f k y0) (jg.f (k + 1) y0)) ∧ (∀ y0 y1 y2 y3, LeO (jg.l0 k y0 y1 y2 y3) (jg.l0 (k + 1) y0 y1 y2 y3)) ∧ (∀ y0 y1 y2 y3, LeO (qar.f k y0 y1 y2 y3) (qar.f (k + 1) y0 y1 y2 y3))
  | 0 => ⟨fun _ r h => by simp [jg.f] at h, fun _ _ _ _ r h => by simp [jg.l0] at h, fun _ _ _ _ r h => by simp [qar.f] at h⟩
  | k + 1 => by
    obtain ⟨ih0, ih1, ih2⟩ := qef.qb2 k
    refine ⟨?_, ?_, ?_⟩
    · intro y0
      unfold jg.f
      repeat' first
      | (with_reducible exact ih0 _)
      | (with_reducible exact ih1 _ _ _ _)
      | (with_reducible exact ih2 _ _ _ _)
      | (with_reducible exact LeO.refl _)
      | (with_reducible exact LeO.none _)
      | (with_reducible refine LeO.ite ?_ ?_)
      | (with_reducible refine LeO.bind ?_ (fun _ => ?_))
      | exact ih0 _
      | exact ih1 _ _ _ _
      | exact ih2 _ _ _ _
      | exact LeO.none _
      | refine LeO.ite ?_ ?_
      | refine LeO.bind ?_ (fun _ => ?_)
    · intro y0 y1 y2 y3
      unfold jg.l0
      repeat' first
      | (with_reducible exact ih0 _)
      | (with_reducible exact ih1 _ _ _ _)
      | (with_reducible exact ih2 _ _ _ _)
      | (with_reducible exact LeO.refl _)
      | (with_reducible exact LeO.none _)
      | (with_reducible refine LeO.ite ?_ ?_)
      | (with_reducible refine LeO.bind ?_ (fun _ => ?_))
      | exact ih0 _
      | exact ih1 _ _ _ _
      | exact ih2 _ _ _ _
      | exact LeO.none _
      | refine LeO.ite ?_ ?_
      | refine LeO.bind ?_ (fun _ => ?_)
    · intro y0 y1 y2 y3
      unfold qar.f
      repeat' first
      | (with_reducible exact ih0 _)
      | (with_reducible exact ih1 _ _ _ _)
      | (with_reducible exact ih2 _ _ _ _)
      | (with_reducible exact LeO.refl _)
      | (with_reducible exact LeO.none _)
      | (with_reducible refine LeO.ite ?_ ?_)
      | (with_reducible refine LeO.bind ?_ (fun _ => ?_))
      | exact ih0 _
      | exact ih1 _ _ _ _
      | exact ih2 _ _ _ _
      | exact LeO.none _
      | refine LeO.ite ?_ ?_
      | refine LeO.bind ?_ (fun _ => ?_)
theorem jg.mono : ∀ a0 k, LeO (jg.f k a0) (jg.f (k + 1) a0) := by
  intro a0 k
  obtain ⟨ih0, ih1, ih2⟩ := qef.qb2 k
  exact ih0 a0
theorem qar.mono : ∀ a0 a1 a2 a3 k, LeO (qar.f k a0 a1 a2 a3) (qar.f (k + 1) a0 a1 a2 a3) := by
  intro a0 a1 a2 a3 k
  obtain ⟨ih0, ih1, ih2⟩ := qef.qb2 k
  exact ih2 a0 a1 a2 a3
set_option maxHeartbeats 8000000 in
set_option maxRecDepth 100000 in
theorem jg.step (k : Nat) (ih_64 : ∀ m, m < k → ∀ (A0 : Option Addr) (c0 : Nat) (l0 : List (S27)) (r : List (S27)) (w : World) (hr0 : Kd.C k27 w A0 l0.length l0) (hc0 : l0.length ≤ c0) (h : jg.f m l0 = some r),
    Calls Tryd.prog 64 #[.slice A0 l0.length c0] w fun e w' => ∃ v0_ : Value, e = .returned (v0_) ∧ Kd.R k27 27 w' w.heap.size (fun _ => True) v0_ r ∧ Below w.heap.size w w') (ih_63 : ∀ m, m < k → ∀ (qw : Int) (qy : Int) (za : ByteArray) (jy : Option Addr) (jm : Nat) (zm : List (S27)) (r1 : Int) (r2 : Int) (r3 : ByteArray) (r4 : List (S27)) (w : World) (qdg : Kd.C k27 w jy zm.length zm) (qdf : zm.length ≤ jm) (h : qar.f m qw qy za zm = some (r1, r2, r3, r4)),
    Calls Tryd.prog 63 #[.agg #[.int .i64 qw, .int .i64 qy, .string za, .slice jy zm.length jm]] w fun e w' => ∃ v3_ : Value, e = .returned (.agg #[.int .i64 r1, .int .i64 r2, .string r3, v3_]) ∧ Kd.R k27 27 w' w.heap.size (fun _ => True) v3_ r4 ∧ Below w.heap.size w w') : ∀ (A0 : Option Addr) (c0 : Nat) (l0 : List (S27)) (r : List (S27)) (w : World) (hr0 : Kd.C k27 w A0 l0.length l0) (hc0 : l0.length ≤ c0) (h : jg.f k l0 = some r),
  Calls Tryd.prog 64 #[.slice A0 l0.length c0] w fun e w' => ∃ v0_ : Value, e = .returned (v0_) ∧ Kd.R k27 27 w' w.heap.size (fun _ => True) v0_ r ∧ Below w.heap.size w w' := by
 intro A0 c0 l0 r w hr0 hc0 h
 cases k with
 | zero => exact absurd h (by simp [jg.f])
 | succ k =>
 simp only [jg.f] at h
 have q0h := Tryd.underlying27
 have HR0 := qf.mk hr0
 have HC0 := qf.mk hc0
 clear hr0 hc0
 have HB := qf.mk (Below.refl w.heap.size w)
 have H : (jg.l0 k ([] : List (S27)) l0 (l0.length : Int) 0) = some r := h
 clear h
 have H' := qf.mk H
 clear H
 go_enter Tryd.func64, Tryd.ntmps64
 go_wp2
 go_loopg [3, 8] k (fun kq v3 v8 w' => ∃ (jk : List (S27)) (qb1 : Int), v8 = .int .i64 qb1 ∧ qf (jg.l0 kq jk l0 (l0.length : Int) qb1 = some r) ∧ qf (kq ≤ k) ∧ qf (Kd.R k27 27 w' w.heap.size (fun _ => True) v3 jk) ∧ qf (Below w.heap.size w w'))
 case atStart => exact ⟨(([] : List (S27))), (0), (by first | rfl | (simp; done) | (simp [*]; done)), H', ⟨Nat.le_refl _⟩, ⟨by first | exact Kd.q62 _ _ _ _ _ | exact Kd.zox _ _ _ _ _ | exact Kd.qeh _ _ _ _ _ | exact Kd.Q_nil _ _ _ _ _ | exact Kd.S_nil _ _ _ _ _⟩, ⟨by repeat (first | (with_reducible first | exact HB.out | apply qg | apply qc | apply qh) | exact HB.out)⟩⟩
 case round =>
  clear H'
  obtain ⟨jk, qb1, rfl, HA, HK1, HO_3, HB⟩ := hrel
  cases gk with
  | zero => exact absurd HA.out (by simp [jg.l0])
  | succ k1 =>
   have H := HA.out
   clear HA
   simp only [jg.l0] at H
   by_cases c2 : qb1 < (l0.length : Int)
   ·rw [if_pos c2] at H
    have c2b0 : decide (qb1 < (l0.length : Int)) = true := decide_eq_true c2
    clear c2
    by_cases c3 : 0 ≤ qb1
    ·rw [if_pos c3] at H
     have c3b0 : decide (0 ≤ qb1) = true := decide_eq_true c3
     clear c3
     by_cases c4 : qb1 < (l0.length : Int)
     ·rw [if_pos c4] at H
      have c4b0 : decide (qb1 < (l0.length : Int)) = true := decide_eq_true c4
      clear c4
      replace H := Option.bind_eq_some_iff.mp H
      obtain ⟨⟨zof, zog, t105, zoh⟩, A50, H⟩ := H
      replace H : (if jk.length < 2513169434916 then (jg.l0 k1 (jk ++ [(⟨zof, zog, t105, zoh⟩ : S27)]) l0 (l0.length : Int) (wrap64 (qb1 + 1))) else (none)) = some r := H
      have A5 := qf.mk A50
      clear A50
      by_cases c6 : jk.length < 2513169434916
      ·rw [if_pos c6] at H
       have z0z := qf.mk c6
       clear c6
       obtain ⟨zyr, zhy⟩ : ∃ y_ : List (S27), y_ = (jk ++ [(⟨zof, zog, t105, zoh⟩ : S27)]) := ⟨_, rfl⟩
       replace H : (jg.l0 k1 zyr l0 (l0.length : Int) (wrap64 (qb1 + 1))) = some r := by first | (rw [zhy]; with_reducible exact H) | (have H2_ := (Option.bind_some _ _).symm.trans H; rw [zhy]; with_reducible exact H2_) | (have H2_ := (Option.bind_some _ _).symm.trans H; with_reducible exact H2_) | with_reducible exact H | (rw [zhy]; exact H) | exact H
       have zxb := qf.mk zhy
       clear zhy
       have H' := qf.mk H
       clear H
       have zwg : 0 ≤ (qb1 : Int) := of_decide_eq_true (by first | (with_reducible assumption) | assumption)
       have zwi : qb1 < (l0.length : Int) := of_decide_eq_true (by first | (with_reducible assumption) | assumption)
       obtain ⟨z2j, qwf, qwj, z02, zfl, zfm, zfn, zfo, znw, zns⟩ := qjh HR0.out qb1 zwg zwi
       cases z02
       replace zfl := (HB.out.cell (World.block_lt_of_cell? w _ zfl)).trans zfl
       replace zfm := (HB.out.cell (World.block_lt_of_cell? w _ zfm)).trans zfm
       replace zfn := (HB.out.cell (World.block_lt_of_cell? w _ zfn)).trans zfn
       replace zfo := (HB.out.cell (World.block_lt_of_cell? w _ zfo)).trans zfo
       have zsa := qf.mk zns
       have zr5 := qf.mk znw
       clear zns znw
       replace zwg := eq_true zwg
       replace zwi := eq_true zwi
       go_wp2_with (first | ((with_reducible refine qah (N := 5) rfl ?_); refine vk ?hg (N := 5) ?hd (cs := #[.int .i64 0, .int .i64 0, .string (⟨#[]⟩ : ByteArray), .slice none 0 0]) (t := 27) ?hr ?_; (case hd => rfl); (case hg => rfl); (case hr => first | (go_simp; done) | (go_simp; rfl)); intro qf6 hg w7 hbox hb; have n0_ := qf.mk (Kd.qwv (Kd.R_elderB (by (with_reducible repeat (first | apply Kd.qe7 | apply Kd.qe8 | apply Kd.qhq)); exact HO_3.out) qf6 (Nat.le_of_eq hg.symm)) hb); have n1_ := qf.mk (zk (by repeat (first | (with_reducible first | exact HB.out | apply qg | apply qc | apply qh) | exact HB.out)) hb); have n2_ := qf.mk (hbox); have n3_ := qf.mk ((by rw [hg]; exact (zo (by repeat (first | (with_reducible first | exact HB.out | apply qg | apply qc | apply qh) | exact HB.out))) : w.heap.size ≤ qf6)); have n4_ := qf.mk ((by rw [hg]; exact (zo (by repeat (first | (with_reducible first | exact HB.out | apply qg | apply qc | apply qh) | exact HB.out))) : w.heap.size ≤ qf6)); clear HO_3; clear HB; have HO_3 := n0_; have HB := n1_; have qk9 := n2_; have z13 := n3_; have q8x := n4_; clear n0_ n1_ n2_ n3_ n4_; clear hb hbox hg; have zvs : w7.cell? ⟨qf6, 0, none⟩ = some (.int .i64 0) := (qb qk9.out 0).trans rfl; have zvt : w7.cell? ⟨qf6, 1, none⟩ = some (.int .i64 0) := (qb qk9.out 1).trans rfl; have zvu : w7.cell? ⟨qf6, 2, none⟩ = some (.string (⟨#[]⟩ : ByteArray)) := (qb qk9.out 2).trans rfl; have zvv : w7.cell? ⟨qf6, 3, none⟩ = some (.slice none 0 0) := (qb qk9.out 3).trans rfl; have zwa := qa qk9.out 0; have zwb := qa qk9.out 1; have zwc := qa qk9.out 2; have zwd := qa qk9.out 3) | ((with_reducible refine qaq (f := 63) rfl ?_); refine qcj (some 14) rfl rfl Tryd.func63 (by kernel_rfl) rfl #[.agg #[.int .i64 ((zf l0 qb1).f0), .int .i64 ((zf l0 qb1).f1), .string ((zf l0 qb1).f2), .slice qwf ((zf l0 qb1).f3).length qwj]] rfl (by (try simp only [List.map_toArray, List.map_cons, List.map_nil]); first | done | rfl | (simp only [List.length_drop, List.length_take]; rfl)) ?_; (with_reducible refine (ih_63 k1 (by have := HK1.out; omega) ((zf l0 qb1).f0) ((zf l0 qb1).f1) ((zf l0 qb1).f2) _ _ ((zf l0 qb1).f3) zof zog t105 zoh _ ?side1 ?side2 A5.out).mono ?_); (case side1 => exact Kd.vv zsa.out (by repeat (first | (with_reducible first | exact HB.out | apply qg | apply qc | apply qh | refine ql ?_ q8x.out) | exact HB.out))); (case side2 => exact zr5.out); rintro e w9 ⟨v107, rfl, ho0, hb⟩; refine ⟨_, rfl, ?_⟩; have n0_ := qf.mk (Kd.R_elder' (by (with_reducible repeat (first | apply Kd.qe7 | apply Kd.qe8 | apply Kd.qhq)); exact (Kd.qez (Kd.qdm (p := ⟨qf6, 3, none⟩) (Kd.qdm (p := ⟨qf6, 2, none⟩) (Kd.qdm (p := ⟨qf6, 1, none⟩) (Kd.qdm (p := ⟨qf6, 0, none⟩) (Kd.qez HO_3.out (fun k_ hk => (⟨hk, hk.2⟩ : _ ∧ k_ ≠ qf6))) (fun _ hk => hk.2) (.int .i64 ((zf l0 qb1).f0))) (fun _ hk => hk.2) (.int .i64 ((zf l0 qb1).f1))) (fun _ hk => hk.2) (.string ((zf l0 qb1).f2))) (fun _ hk => hk.2) (.slice qwf ((zf l0 qb1).f3).length qwj)) (fun _ h_ => h_.1))) (Kd.q9q ho0) hb); have n1_ := qf.mk (Kd.qh1 (Kd.zil (Kd.R_new' ho0 (Kd.R_lt (by (with_reducible repeat (first | apply Kd.qe7 | apply Kd.qe8 | apply Kd.qhq)); exact (Kd.qez (Kd.qdm (p := ⟨qf6, 3, none⟩) (Kd.qdm (p := ⟨qf6, 2, none⟩) (Kd.qdm (p := ⟨qf6, 1, none⟩) (Kd.qdm (p := ⟨qf6, 0, none⟩) (Kd.qez HO_3.out (fun k_ hk => (⟨hk, hk.2⟩ : _ ∧ k_ ≠ qf6))) (fun _ hk => hk.2) (.int .i64 ((zf l0 qb1).f0))) (fun _ hk => hk.2) (.int .i64 ((zf l0 qb1).f1))) (fun _ hk => hk.2) (.string ((zf l0 qb1).f2))) (fun _ hk => hk.2) (.slice qwf ((zf l0 qb1).f3).length qwj)) (fun _ h_ => h_.1))))) (g := qf6) (o := .cells #[.int .i64 ((zf l0 qb1).f0), .int .i64 ((zf l0 qb1).f1), .string ((zf l0 qb1).f2), .slice qwf ((zf l0 qb1).f3).length qwj] 27 (0, 0)) (by (with_reducible repeat (first | refine qj ?_ _ | refine qo ?_ | refine qi ?_ _)); refine jc (cs := #[.int .i64 ((zf l0 qb1).f0), .int .i64 ((zf l0 qb1).f1), .string ((zf l0 qb1).f2), .slice none 0 0]) ?_ 3 _ rfl; (with_reducible repeat (first | refine qj ?_ _ | refine qo ?_ | refine qi ?_ _)); refine jc (cs := #[.int .i64 ((zf l0 qb1).f0), .int .i64 ((zf l0 qb1).f1), .string (⟨#[]⟩ : ByteArray), .slice none 0 0]) ?_ 2 _ rfl; (with_reducible repeat (first | refine qj ?_ _ | refine qo ?_ | refine qi ?_ _)); refine jc (cs := #[.int .i64 ((zf l0 qb1).f0), .int .i64 0, .string (⟨#[]⟩ : ByteArray), .slice none 0 0]) ?_ 1 _ rfl; (with_reducible repeat (first | refine qj ?_ _ | refine qo ?_ | refine qi ?_ _)); refine jc (cs := #[.int .i64 0, .int .i64 0, .string (⟨#[]⟩ : ByteArray), .slice none 0 0]) ?_ 0 _ rfl; (with_reducible repeat (first | refine qj ?_ _ | refine qo ?_ | refine qi ?_ _)); exact qk9.out)) (zo (by repeat (first | (with_reducible first | exact HB.out | apply qg | apply qc | apply qh | refine ql ?_ q8x.out) | exact HB.out)))); have n2_ := qf.mk (zl (g := qf6) (o := .cells #[.int .i64 ((zf l0 qb1).f0), .int .i64 ((zf l0 qb1).f1), .string ((zf l0 qb1).f2), .slice qwf ((zf l0 qb1).f3).length qwj] 27 (0, 0)) (by (with_reducible repeat (first | refine qj ?_ _ | refine qo ?_ | refine qi ?_ _)); refine jc (cs := #[.int .i64 ((zf l0 qb1).f0), .int .i64 ((zf l0 qb1).f1), .string ((zf l0 qb1).f2), .slice none 0 0]) ?_ 3 _ rfl; (with_reducible repeat (first | refine qj ?_ _ | refine qo ?_ | refine qi ?_ _)); refine jc (cs := #[.int .i64 ((zf l0 qb1).f0), .int .i64 ((zf l0 qb1).f1), .string (⟨#[]⟩ : ByteArray), .slice none 0 0]) ?_ 2 _ rfl; (with_reducible repeat (first | refine qj ?_ _ | refine qo ?_ | refine qi ?_ _)); refine jc (cs := #[.int .i64 ((zf l0 qb1).f0), .int .i64 0, .string (⟨#[]⟩ : ByteArray), .slice none 0 0]) ?_ 1 _ rfl; (with_reducible repeat (first | refine qj ?_ _ | refine qo ?_ | refine qi ?_ _)); refine jc (cs := #[.int .i64 0, .int .i64 0, .string (⟨#[]⟩ : ByteArray), .slice none 0 0]) ?_ 0 _ rfl; (with_reducible repeat (first | refine qj ?_ _ | refine qo ?_ | refine qi ?_ _)); exact qk9.out) hb); have n3_ := qf.mk (zk (by repeat (first | (with_reducible first | exact HB.out | apply qg | apply qc | apply qh | refine ql ?_ q8x.out) | exact HB.out)) hb); clear HO_3; clear qk9; clear HB; have HO_3 := n0_; have zow := n1_; have qk9 := n2_; have HB := n3_; clear n0_ n1_ n2_ n3_; (try clear hb); (try clear hb2); (try clear hk); (try clear hi); (try clear ho0); obtain ⟨z0y, z01, z03⟩ := Kd.qeb zow.out; subst z03) | ((with_reducible refine gate_builtin (b := .append) (xs := #[.tmp 12, .tmp 15]) rfl ?_); at_builtin; refine Kd.R_append k27 (w0 := w) w.heap.size rfl (.tmp 12) (.tmp 15) 25 27 (.agg #[(.int .i64 0), (.int .i64 0), (.string ⟨#[]⟩), (.slice none 0 0)]) 56 rfl Tryd.underlying25 info27 rfl (by decide) (by omega) u3 jk (⟨zof, zog, t105, zoh⟩ : S27) [.int .i64 zof, .int .i64 zog, .string t105, .slice z0y zoh.length z01] (fun k_ => k_ ≠ qf6) (fun k_ => ((fun k_ => k_ ≠ qf6)) k_ ∧ some k_ ≠ (u3 : Value).ownBlock) rfl rfl ?aP (fun _ hk => hk) ?aF ?aO ?aB ?aS ?aL ?_; (case aP => exact k27_mkM _ _ _ (⟨zof, zog, t105, zoh⟩ : S27) (Kd.qez (zow.out) (fun k_ hk => ⟨hk.2, hk.1.2⟩))); (case aB => exact (by repeat (first | (with_reducible first | exact HB.out | apply qg | apply qc | apply qh | refine ql ?_ q8x.out) | exact HB.out))); (case aF => exact (fun k_ hk => Kd.freshB (g := qf6) (o := .cells #[.int .i64 ((zf l0 qb1).f0), .int .i64 ((zf l0 qb1).f1), .string ((zf l0 qb1).f2), .slice qwf ((zf l0 qb1).f3).length qwj] 27 (0, 0)) (by (with_reducible repeat (first | refine qj ?_ _ | refine qo ?_ | refine qi ?_ _)); exact qk9.out) k_ hk)); (case aO => exact (by (with_reducible repeat (first | apply Kd.qe7 | apply Kd.qe8 | apply Kd.qhq)); exact Kd.qez HO_3.out (fun _ hk => hk.1.2))); (case aS => exact (zo (by repeat (first | (with_reducible first | exact HB.out | apply qg | apply qc | apply qh | refine ql ?_ q8x.out) | exact HB.out)))); (case aL => have := z0z.out; omega); intro z4z w10 ho hb hg hat; rw [← zxb.out] at ho; have n0_ := qf.mk (qz2 (g := qf6) (o := .cells #[.int .i64 ((zf l0 qb1).f0), .int .i64 ((zf l0 qb1).f1), .string ((zf l0 qb1).f2), .slice qwf ((zf l0 qb1).f3).length qwj] 27 (0, 0)) (by (with_reducible repeat (first | refine qj ?_ _ | refine qo ?_ | refine qi ?_ _)); exact qk9.out) hg (Kd.R_away HO_3.out (fun _ hk => hk.1.2))); have n1_ := qf.mk (hb); have n2_ := qf.mk (ho); clear qk9; clear HB; clear HO_3; clear zow; have qk9 := n0_; have HB := n1_; have zw7 := n2_; clear n0_ n1_ n2_; clear ho hb hg hat))
       go_roundg k1
       case measure => have := HK1.out; omega
       case rel => exact ⟨(zyr), (wrap64 (qb1 + 1)), (by first | rfl | (simp; done) | (simp [*]; done)), H', ⟨by have := HK1.out; omega⟩, ⟨by (with_reducible repeat (first | apply Kd.qe7 | apply Kd.qe8 | apply Kd.qhq)); exact Kd.qez zw7.out (fun _ hk => trivial)⟩, ⟨by repeat (first | (with_reducible first | exact HB.out | apply qg | apply qc | apply qh | refine ql ?_ q8x.out) | exact HB.out)⟩⟩
      ·rw [if_neg c6] at H
       exact absurd H (by simp)
     ·rw [if_neg c4] at H
      exact absurd H (by simp)
    ·rw [if_neg c3] at H
     exact absurd H (by simp)
   ·rw [if_neg c2] at H
    have c2b0 : decide (qb1 < (l0.length : Int)) = false := decide_eq_false c2
    clear c2
    obtain rfl := Option.some.inj H
    go_wp2
    go_ret
    exact ⟨_, by first | rfl | (simp [zg, zh] <;> rfl) | (simp [*, zg, zh] <;> rfl), by (with_reducible repeat (first | apply Kd.qe7 | apply Kd.qe8 | apply Kd.qhq)); exact HO_3.out, by repeat (first | (with_reducible first | exact HB.out | apply qg | apply qc | apply qh) | exact HB.out)⟩
set_option maxHeartbeats 8000000 in
set_option maxRecDepth 100000 in
theorem qar.step (k : Nat) (ih_64 : ∀ m, m < k → ∀ (A0 : Option Addr) (c0 : Nat) (l0 : List (S27)) (r : List (S27)) (w : World) (hr0 : Kd.C k27 w A0 l0.length l0) (hc0 : l0.length ≤ c0) (h : jg.f m l0 = some r),
    Calls Tryd.prog 64 #[.slice A0 l0.length c0] w fun e w' => ∃ v0_ : Value, e = .returned (v0_) ∧ Kd.R k27 27 w' w.heap.size (fun _ => True) v0_ r ∧ Below w.heap.size w w') (ih_63 : ∀ m, m < k → ∀ (qw : Int) (qy : Int) (za : ByteArray) (jy : Option Addr) (jm : Nat) (zm : List (S27)) (r1 : Int) (r2 : Int) (r3 : ByteArray) (r4 : List (S27)) (w : World) (qdg : Kd.C k27 w jy zm.length zm) (qdf : zm.length ≤ jm) (h : qar.f m qw qy za zm = some (r1, r2, r3, r4)),
    Calls Tryd.prog 63 #[.agg #[.int .i64 qw, .int .i64 qy, .string za, .slice jy zm.length jm]] w fun e w' => ∃ v3_ : Value, e = .returned (.agg #[.int .i64 r1, .int .i64 r2, .string r3, v3_]) ∧ Kd.R k27 27 w' w.heap.size (fun _ => True) v3_ r4 ∧ Below w.heap.size w w') : ∀ (qw : Int) (qy : Int) (za : ByteArray) (jy : Option Addr) (jm : Nat) (zm : List (S27)) (r1 : Int) (r2 : Int) (r3 : ByteArray) (r4 : List (S27)) (w : World) (qdg : Kd.C k27 w jy zm.length zm) (qdf : zm.length ≤ jm) (h : qar.f k qw qy za zm = some (r1, r2, r3, r4)),
  Calls Tryd.prog 63 #[.agg #[.int .i64 qw, .int .i64 qy, .string za, .slice jy zm.length jm]] w fun e w' => ∃ v3_ : Value, e = .returned (.agg #[.int .i64 r1, .int .i64 r2, .string r3, v3_]) ∧ Kd.R k27 27 w' w.heap.size (fun _ => True) v3_ r4 ∧ Below w.heap.size w w' := by
 intro qw qy za jy jm zm r1 r2 r3 r4 w qdg qdf h
 cases k with
 | zero => exact absurd h (by simp [qar.f])
 | succ k =>
 simp only [qar.f] at h
 have q0h := Tryd.underlying27
 have qlb := qf.mk qdg
 have qs3 := qf.mk qdf
 clear qdg qdf
 have HB := qf.mk (Below.refl w.heap.size w)
 have H : ((jg.f k zm).bind fun zf8 => (some (qw, qy, za, zf8))) = some (r1, r2, r3, r4) := h
 clear h
 replace H := Option.bind_eq_some_iff.mp H
 obtain ⟨zf8, A20, H⟩ := H
 replace H : (some (qw, qy, za, zf8)) = some (r1, r2, r3, r4) := H
 have A2 := qf.mk A20
 clear A20
 simp only [Option.some.injEq, Prod.mk.injEq] at H
 obtain ⟨rfl, rfl, rfl, rfl⟩ := H
 go_enter Tryd.func63, Tryd.ntmps63
 go_wp2_with (first | ((with_reducible refine qah (N := 1) rfl ?_); refine vk ?hg (N := 1) ?hd (cs := #[.int .i64 qw, .int .i64 qy, .string za, .slice jy zm.length jm]) (t := 27) ?hr ?_; (case hd => rfl); (case hg => rfl); (case hr => first | (go_simp; done) | (go_simp; rfl)); intro qh2 hg w3 hbox hb; have n0_ := qf.mk (zk (by repeat (first | (with_reducible first | exact HB.out | apply qg | apply qc | apply qh) | exact HB.out)) hb); have n1_ := qf.mk (hbox); have n2_ := qf.mk ((by rw [hg]; exact (zo (by repeat (first | (with_reducible first | exact HB.out | apply qg | apply qc | apply qh) | exact HB.out))) : w.heap.size ≤ qh2)); have n3_ := qf.mk ((by rw [hg]; exact (zo (by repeat (first | (with_reducible first | exact HB.out | apply qg | apply qc | apply qh) | exact HB.out))) : w.heap.size ≤ qh2)); clear HB; have HB := n0_; have qfc := n1_; have z14 := n2_; have q8y := n3_; clear n0_ n1_ n2_ n3_; clear hb hbox hg) | ((with_reducible refine qah (N := 2) rfl ?_); refine vk ?hg (N := 2) ?hd (cs := #[.int .i64 0, .int .i64 0, .string (⟨#[]⟩ : ByteArray), .slice none 0 0]) (t := 27) ?hr ?_; (case hd => rfl); (case hg => rfl); (case hr => first | (go_simp; done) | (go_simp; rfl)); intro qld hg w4 hbox hb; have n0_ := qf.mk (zl (g := qh2) (o := .cells #[.int .i64 qw, .int .i64 qy, .string za, .slice jy zm.length jm] 27 (0, 0)) (by (with_reducible repeat (first | refine qj ?_ _ | refine qo ?_ | refine qi ?_ _)); exact qfc.out) hb); have n1_ := qf.mk (zk (by repeat (first | (with_reducible first | exact HB.out | apply qg | apply qc | apply qh | refine ql ?_ q8y.out) | exact HB.out)) hb); have n2_ := qf.mk (hbox); have n3_ := qf.mk ((by rw [hg]; exact (zo (by repeat (first | (with_reducible first | exact HB.out | apply qg | apply qc | apply qh | refine ql ?_ q8y.out) | exact HB.out))) : w.heap.size ≤ qld)); have n4_ := qf.mk ((by rw [hg]; exact (zo (by repeat (first | (with_reducible first | exact HB.out | apply qg | apply qc | apply qh | refine ql ?_ q8y.out) | exact HB.out))) : w.heap.size ≤ qld)); have n5_ := qf.mk ((by rw [hg]; exact Nat.ne_of_lt (qax (g := qh2) (o := .cells #[.int .i64 qw, .int .i64 qy, .string za, .slice jy zm.length jm] 27 (0, 0)) (by (with_reducible repeat (first | refine qj ?_ _ | refine qo ?_ | refine qi ?_ _)); exact qfc.out)) : qh2 ≠ qld)); have n6_ := qf.mk ((by rw [hg]; exact Nat.ne_of_gt (qax (g := qh2) (o := .cells #[.int .i64 qw, .int .i64 qy, .string za, .slice jy zm.length jm] 27 (0, 0)) (by (with_reducible repeat (first | refine qj ?_ _ | refine qo ?_ | refine qi ?_ _)); exact qfc.out)) : qld ≠ qh2)); clear qfc; clear HB; have qfc := n0_; have HB := n1_; have qof := n2_; have z15 := n3_; have zoq := n4_; have zob := n5_; have q82 := n6_; clear n0_ n1_ n2_ n3_ n4_ n5_ n6_; clear hb hbox hg; have z3z := zob.out; have z4b := q82.out; have zvo : w4.cell? ⟨qh2, 0, none⟩ = some (.int .i64 qw) := (qb qfc.out 0).trans rfl; have zvp : w4.cell? ⟨qh2, 1, none⟩ = some (.int .i64 qy) := (qb qfc.out 1).trans rfl; have zvq : w4.cell? ⟨qh2, 2, none⟩ = some (.string za) := (qb qfc.out 2).trans rfl; have zvr : w4.cell? ⟨qh2, 3, none⟩ = some (.slice jy zm.length jm) := (qb qfc.out 3).trans rfl; have zv6 := qa qfc.out 0; have zv7 := qa qfc.out 1; have zv8 := qa qfc.out 2; have zv9 := qa qfc.out 3) | ((with_reducible refine qaq (f := 64) rfl ?_); refine qcj (some 5) rfl rfl Tryd.func64 (by kernel_rfl) rfl #[.slice jy zm.length jm] rfl (by (try simp only [List.map_toArray, List.map_cons, List.map_nil]); first | done | rfl | (simp only [List.length_drop, List.length_take]; rfl)) ?_; (with_reducible refine (ih_64 k (by omega) _ _ zm zf8 _ ?side1 ?side2 A2.out).mono ?_); (case side1 => repeat (first | exact (Kd.vv qlb.out HB.out) | (with_reducible refine Kd.qba ?_ _) | (with_reducible refine Kd.qaz ?_ _) | (with_reducible refine Kd.qbq ?_))); (case side2 => exact qs3.out); rintro e w7 ⟨z5a, rfl, ho0, hb⟩; refine ⟨_, rfl, ?_⟩; have n0_ := qf.mk (Kd.qh1 (Kd.zil (Kd.zil ho0 (g := qh2) (o := .cells #[.int .i64 qw, .int .i64 qy, .string za, .slice jy zm.length jm] 27 (0, 0)) (by (with_reducible repeat (first | refine qj ?_ _ | refine qo ?_ | refine qi ?_ _)); exact qfc.out)) (g := qld) (o := .cells #[.int .i64 0, .int .i64 0, .string (⟨#[]⟩ : ByteArray), .slice none 0 0] 27 (0, 0)) (by (with_reducible repeat (first | refine qj ?_ _ | refine qo ?_ | refine qi ?_ _)); exact qof.out)) (zo (by repeat (first | (with_reducible first | exact HB.out | apply qg | apply qc | apply qh | refine ql ?_ q8y.out | refine ql ?_ zoq.out) | exact HB.out)))); have n1_ := qf.mk (zl (g := qh2) (o := .cells #[.int .i64 qw, .int .i64 qy, .string za, .slice jy zm.length jm] 27 (0, 0)) (by (with_reducible repeat (first | refine qj ?_ _ | refine qo ?_ | refine qi ?_ _)); exact qfc.out) hb); have n2_ := qf.mk (zl (g := qld) (o := .cells #[.int .i64 0, .int .i64 0, .string (⟨#[]⟩ : ByteArray), .slice none 0 0] 27 (0, 0)) (by (with_reducible repeat (first | refine qj ?_ _ | refine qo ?_ | refine qi ?_ _)); exact qof.out) hb); have n3_ := qf.mk (zk (by repeat (first | (with_reducible first | exact HB.out | apply qg | apply qc | apply qh | refine ql ?_ q8y.out | refine ql ?_ zoq.out) | exact HB.out)) hb); clear qfc; clear qof; clear HB; have zuk := n0_; have qfc := n1_; have qof := n2_; have HB := n3_; clear n0_ n1_ n2_ n3_; (try clear hb); (try clear hb2); (try clear hk); (try clear hi); (try clear ho0); obtain ⟨Ao8, co8, eo8⟩ := Kd.qeb zuk.out; subst eo8; have qd5 : w7.cell? ⟨qh2, 0, none⟩ = some (.int .i64 qw) := (qb qfc.out 0).trans rfl; have qd6 : w7.cell? ⟨qh2, 1, none⟩ = some (.int .i64 qy) := (qb qfc.out 1).trans rfl; have qd7 : w7.cell? ⟨qh2, 2, none⟩ = some (.string za) := (qb qfc.out 2).trans rfl; have qd8 : w7.cell? ⟨qh2, 3, none⟩ = some (.slice jy zm.length jm) := (qb qfc.out 3).trans rfl; have qc0 := qa qfc.out 0; have qc7 := qa qfc.out 1; have qc8 := qa qfc.out 2; have qc9 := qa qfc.out 3; have qo1 : w7.cell? ⟨qld, 0, none⟩ = some (.int .i64 0) := (qb qof.out 0).trans rfl; have qo2 : w7.cell? ⟨qld, 1, none⟩ = some (.int .i64 0) := (qb qof.out 1).trans rfl; have qo3 : w7.cell? ⟨qld, 2, none⟩ = some (.string (⟨#[]⟩ : ByteArray)) := (qb qof.out 2).trans rfl; have qo4 : w7.cell? ⟨qld, 3, none⟩ = some (.slice none 0 0) := (qb qof.out 3).trans rfl; have qjy := qa qof.out 0; have qjz := qa qof.out 1; have qj0 := qa qof.out 2; have qj1 := qa qof.out 3))
 refine bodyPost_ret (results_cell_row rfl _ _ qld 27 #[.int .i64 qw, .int .i64 qy, .string za, .slice Ao8 zf8.length co8] (0, 0) _ rfl (by (with_reducible repeat (first | refine qj ?_ _ | refine qo ?_ | refine qi ?_ _)); refine jc (cs := #[.int .i64 qw, .int .i64 qy, .string za, .slice none 0 0]) ?_ 3 _ rfl; (with_reducible repeat (first | refine qj ?_ _ | refine qo ?_ | refine qi ?_ _)); refine jc (cs := #[.int .i64 qw, .int .i64 qy, .string (⟨#[]⟩ : ByteArray), .slice none 0 0]) ?_ 2 _ rfl; (with_reducible repeat (first | refine qj ?_ _ | refine qo ?_ | refine qi ?_ _)); refine jc (cs := #[.int .i64 qw, .int .i64 0, .string (⟨#[]⟩ : ByteArray), .slice none 0 0]) ?_ 1 _ rfl; (with_reducible repeat (first | refine qj ?_ _ | refine qo ?_ | refine qi ?_ _)); refine jc (cs := #[.int .i64 0, .int .i64 0, .string (⟨#[]⟩ : ByteArray), .slice none 0 0]) ?_ 0 _ rfl; (with_reducible repeat (first | refine qj ?_ _ | refine qo ?_ | refine qi ?_ _)); refine jb ?_ q82.out _; (with_reducible repeat (first | refine qj ?_ _ | refine qo ?_ | refine qi ?_ _)); exact qof.out) Tryd.underlying27 rfl (by kernel_rfl)) rfl ?_
 exact ⟨_, by first | rfl | (simp [zg, zh] <;> rfl) | (simp [*, zg, zh] <;> rfl), by (with_reducible repeat (first | apply Kd.qe7 | apply Kd.qe8 | apply Kd.qhq)); exact Kd.qez (Kd.qdm (p := ⟨qld, 3, none⟩) (Kd.qdm (p := ⟨qld, 2, none⟩) (Kd.qdm (p := ⟨qld, 1, none⟩) (Kd.qdm (p := ⟨qld, 0, none⟩) (Kd.qdm (p := ⟨qh2, 3, none⟩) (Kd.qez (Kd.qez zuk.out (fun k_ hk => (⟨hk, hk.1.2⟩ : _ ∧ k_ ≠ qh2))) (fun k_ hk => (⟨hk, hk.1.2⟩ : _ ∧ k_ ≠ qld))) (fun _ hk => hk.1.2) (.slice Ao8 zf8.length co8)) (fun _ hk => hk.2) (.int .i64 qw)) (fun _ hk => hk.2) (.int .i64 qy)) (fun _ hk => hk.2) (.string za)) (fun _ hk => hk.2) (.slice Ao8 zf8.length co8)) (fun _ hk => trivial), by repeat (first | (with_reducible first | exact HB.out | apply qg | apply qc | apply qh | refine ql ?_ q8y.out | refine ql ?_ zoq.out) | exact HB.out)⟩
theorem qef.all (k : Nat) : (∀ (A0 : Option Addr) (c0 : Nat) (l0 : List (S27)) (r : List (S27)) (w : World) (hr0 : Kd.C k27 w A0 l0.length l0) (hc0 : l0.length ≤ c0) (h : jg.f k l0 = some r),
    Calls Tryd.prog 64 #[.slice A0 l0.length c0] w fun e w' => ∃ v0_ : Value, e = .returned (v0_) ∧ Kd.R k27 27 w' w.heap.size (fun _ => True) v0_ r ∧ Below w.heap.size w w') ∧ (∀ (qw : Int) (qy : Int) (za : ByteArray) (jy : Option Addr) (jm : Nat) (zm : List (S27)) (r1 : Int) (r2 : Int) (r3 : ByteArray) (r4 : List (S27)) (w : World) (qdg : Kd.C k27 w jy zm.length zm) (qdf : zm.length ≤ jm) (h : qar.f k qw qy za zm = some (r1, r2, r3, r4)),
    Calls Tryd.prog 63 #[.agg #[.int .i64 qw, .int .i64 qy, .string za, .slice jy zm.length jm]] w fun e w' => ∃ v3_ : Value, e = .returned (.agg #[.int .i64 r1, .int .i64 r2, .string r3, v3_]) ∧ Kd.R k27 27 w' w.heap.size (fun _ => True) v3_ r4 ∧ Below w.heap.size w w') := by
  induction k using Nat.strongRecOn with
  | _ k ih =>
  exact ⟨jg.step k (fun m hm => (ih m hm).1) (fun m hm => (ih m hm).2), qar.step k (fun m hm => (ih m hm).1) (fun m hm => (ih m hm).2)⟩
theorem jg.calls (k : Nat) : ∀ (A0 : Option Addr) (c0 : Nat) (l0 : List (S27)) (r : List (S27)) (w : World) (hr0 : Kd.C k27 w A0 l0.length l0) (hc0 : l0.length ≤ c0) (h : jg.f k l0 = some r),
    Calls Tryd.prog 64 #[.slice A0 l0.length c0] w fun e w' => ∃ v0_ : Value, e = .returned (v0_) ∧ Kd.R k27 27 w' w.heap.size (fun _ => True) v0_ r ∧ Below w.heap.size w w' := (qef.all k).1
theorem qar.calls (k : Nat) : ∀ (qw : Int) (qy : Int) (za : ByteArray) (jy : Option Addr) (jm : Nat) (zm : List (S27)) (r1 : Int) (r2 : Int) (r3 : ByteArray) (r4 : List (S27)) (w : World) (qdg : Kd.C k27 w jy zm.length zm) (qdf : zm.length ≤ jm) (h : qar.f k qw qy za zm = some (r1, r2, r3, r4)),
    Calls Tryd.prog 63 #[.agg #[.int .i64 qw, .int .i64 qy, .string za, .slice jy zm.length jm]] w fun e w' => ∃ v3_ : Value, e = .returned (.agg #[.int .i64 r1, .int .i64 r2, .string r3, v3_]) ∧ Kd.R k27 27 w' w.heap.size (fun _ => True) v3_ r4 ∧ Below w.heap.size w w' := (qef.all k).2
def qb3.f (k : Nat) (qw : Int) (qy : Int) (za : Int) (yg : Int) (ym : Int) (yf : ByteArray) (yh : Int) (qww : Int) (qwx : ByteArray) (zx : List (S27)) (qje : List (S27)) : Option (Int × Int × Int × ByteArray × Int × Int × ByteArray × (List (S27)) × (List (S30)) × (List (S27))) := (qar.f k yh qww qwx zx).bind fun qw0 => ((jg.f k qje).bind fun q8o => (some (qw, qy, za, yf, qw0.1, qw0.2.1, qw0.2.2.1, qw0.2.2.2, ([] : List (S30)), q8o)))
theorem qb3.mono : ∀ a0 a1 a2 a3 a4 a5 a6 a7 a8 a9 a10 k, LeO (qb3.f k a0 a1 a2 a3 a4 a5 a6 a7 a8 a9 a10) (qb3.f (k + 1) a0 a1 a2 a3 a4 a5 a6 a7 a8 a9 a10) := by
 intro a0 a1 a2 a3 a4 a5 a6 a7 a8 a9 a10 k
 unfold qb3.f
 repeat' first
   | (with_reducible exact jg.mono _ _)
   | (with_reducible exact qar.mono _ _ _ _ _)
   | (with_reducible exact LeO.refl _)
   | (with_reducible exact LeO.none _)
   | (with_reducible refine LeO.ite ?_ ?_)
   | (with_reducible refine LeO.bind ?_ (fun _ => ?_))
   | exact jg.mono _ _
   | exact qar.mono _ _ _ _ _
   | exact LeO.none _
   | refine LeO.ite ?_ ?_
   | refine LeO.bind ?_ (fun _ => ?_)
def qb3.T1 : Bool × List (List Nat × List Nat) := (true, [([], []), ([0], [0]), ([], []), ([2], [2]), ([], []), ([4], [4]), ([], []), ([6], [6]), ([], []), ([8], [8]), ([9], [9]), ([], []), ([11], [11]), ([12, 10], [12]), ([1, 3, 5, 7, 10, 13], [1, 3, 5, 7, 10, 13]), ([14, 13, 0, 1, 2, 3, 4, 5, 6, 7, 8, 9, 10, 11, 12, 13, 14], [14])])
def qb3.B1 : List Nat := [0, 1, 0, 4, 0, 16, 0, 64, 0, 256, 768, 0, 2048, 7936, 16383, 32767]
theorem qb3.tab1 : rtab .any (opsOf Tryd.f65 1) = qb3.T1 := by kernel_rfl
theorem qb3.zo3 : ql3 qb3.T1.2 qb3.B1 = true := by kernel_rfl
set_option maxHeartbeats 8000000 in
set_option maxRecDepth 100000 in
theorem qb3.calls (k : Nat) (qw : Int) (qy : Int) (za : Int) (yg : Int) (ym : Int) (yf : ByteArray) (yh : Int) (qww : Int) (qwx : ByteArray) (qac : Option Addr) (vo : Nat) (zx : List (S27)) (qwb : Option Addr) (qwd : Nat) (qje : List (S27)) (r1 : Int) (r2 : Int) (r3 : Int) (r4 : ByteArray) (r5 : Int) (r6 : Int) (r7 : ByteArray) (r8 : List (S27)) (r9 : List (S30)) (r10 : List (S27)) (w : World) (qhy : Kd.C k27 w qac zx.length zx) (qhx : zx.length ≤ vo) (zrx : Kd.C k27 w qwb qje.length qje) (zpb : qje.length ≤ qwd) (h : qb3.f k qw qy za yg ym yf yh qww qwx zx qje = some (r1, r2, r3, r4, r5, r6, r7, r8, r9, r10)) :
  Calls Tryd.prog 65 #[.agg #[.int .i64 qw, .int .i64 qy, .int .i64 za, .int .i64 yg, .int .i64 ym, .string yf, .int .i64 yh, .int .i64 qww, .string qwx, .slice qac zx.length vo, .slice qwb qje.length qwd]] w fun e w' => ∃ v7_ v8_ v9_ : Value, e = .returned (.agg #[.int .i64 r1, .int .i64 r2, .int .i64 r3, .string r4, .int .i64 r5, .int .i64 r6, .string r7, v7_, v8_, v9_]) ∧ Kd.R k27 27 w' w.heap.size (fun k_ => some k_ ≠ (v9_ : Value).ownBlock) v7_ r8 ∧ Kd.R k30 30 w' w.heap.size (fun k_ => some k_ ≠ (v7_ : Value).ownBlock ∧ some k_ ≠ (v9_ : Value).ownBlock) v8_ r9 ∧ Kd.R k27 27 w' w.heap.size (fun k_ => some k_ ≠ (v7_ : Value).ownBlock) v9_ r10 ∧ Below w.heap.size w w' := by
 have zry := Tryd.underlying36
 have qwm := Tryd.underlying30
 have q0h := Tryd.underlying27
 have qoh := qf.mk qhy
 have qwq := qf.mk qhx
 clear qhy qhx
 have zva := qf.mk zrx
 have zuz := qf.mk zpb
 clear zrx zpb
 have HB := qf.mk (Below.refl w.heap.size w)
 have H : ((qar.f k yh qww qwx zx).bind fun qw0 => ((jg.f k qje).bind fun q8o => (some (qw, qy, za, yf, qw0.1, qw0.2.1, qw0.2.2.1, qw0.2.2.2, ([] : List (S30)), q8o)))) = some (r1, r2, r3, r4, r5, r6, r7, r8, r9, r10) := h
 clear h
 replace H := Option.bind_eq_some_iff.mp H
 obtain ⟨⟨t119, q8t, zf9, zh6⟩, A20, H⟩ := H
 replace H : ((jg.f k qje).bind fun q8o => (some (qw, qy, za, yf, t119, q8t, zf9, zh6, ([] : List (S30)), q8o))) = some (r1, r2, r3, r4, r5, r6, r7, r8, r9, r10) := H
 have A2 := qf.mk A20
 clear A20
 replace H := Option.bind_eq_some_iff.mp H
 obtain ⟨q8o, A30, H⟩ := H
 replace H : (some (qw, qy, za, yf, t119, q8t, zf9, zh6, ([] : List (S30)), q8o)) = some (r1, r2, r3, r4, r5, r6, r7, r8, r9, r10) := H
 have A3 := qf.mk A30
 clear A30
 simp only [Option.some.injEq, Prod.mk.injEq] at H
 obtain ⟨rfl, rfl, rfl, rfl, rfl, rfl, rfl, rfl, rfl, rfl⟩ := H
 go_enter Tryd.func65, Tryd.ntmps65
 try go_wp2_with (first | ((with_reducible refine qah (N := 1) rfl ?_); refine vk ?hg (N := 1) ?hd (cs := #[.int .i64 qw, .int .i64 qy, .int .i64 za, .int .i64 yg, .int .i64 ym, .string yf, .int .i64 yh, .int .i64 qww, .string qwx, .slice qac zx.length vo, .slice qwb qje.length qwd]) (t := 36) ?hr ?_; (case hd => rfl); (case hg => rfl); (case hr => first | (go_simp; done) | (go_simp; rfl)); intro qhw hg w4 hbox hb; have n0_ := qf.mk (zk (by repeat (first | (with_reducible first | exact HB.out | apply qg | apply qc | apply qh) | exact HB.out)) hb); have n1_ := qf.mk (hbox); have n2_ := qf.mk ((by rw [hg]; exact (zo (by repeat (first | (with_reducible first | exact HB.out | apply qg | apply qc | apply qh) | exact HB.out))) : w.heap.size ≤ qhw)); have n3_ := qf.mk ((by rw [hg]; exact (zo (by repeat (first | (with_reducible first | exact HB.out | apply qg | apply qc | apply qh) | exact HB.out))) : w.heap.size ≤ qhw)); clear HB; have HB := n0_; have qb4 := n1_; have z16 := n2_; have q0e := n3_; clear n0_ n1_ n2_ n3_; clear hb hbox hg) | ((with_reducible refine qah (N := 2) rfl ?_); refine vk ?hg (N := 2) ?hd (cs := #[.int .i64 0, .int .i64 0, .int .i64 0, .string (⟨#[]⟩ : ByteArray), .int .i64 0, .int .i64 0, .string (⟨#[]⟩ : ByteArray), .slice none 0 0, .slice none 0 0, .slice none 0 0]) (t := 30) ?hr ?_; (case hd => rfl); (case hg => rfl); (case hr => first | (go_simp; done) | (go_simp; rfl)); intro jl hg w5 hbox hb; have n0_ := qf.mk (zl (g := qhw) (o := .cells #[.int .i64 qw, .int .i64 qy, .int .i64 za, .int .i64 yg, .int .i64 ym, .string yf, .int .i64 yh, .int .i64 qww, .string qwx, .slice qac zx.length vo, .slice qwb qje.length qwd] 36 (0, 0)) (by (with_reducible repeat (first | refine qj ?_ _ | refine qo ?_ | refine qi ?_ _)); exact qb4.out) hb); have n1_ := qf.mk (zk (by repeat (first | (with_reducible first | exact HB.out | apply qg | apply qc | apply qh | refine ql ?_ q0e.out) | exact HB.out)) hb); have n2_ := qf.mk (hbox); have n3_ := qf.mk ((by rw [hg]; exact (zo (by repeat (first | (with_reducible first | exact HB.out | apply qg | apply qc | apply qh | refine ql ?_ q0e.out) | exact HB.out))) : w.heap.size ≤ jl)); have n4_ := qf.mk ((by rw [hg]; exact (zo (by repeat (first | (with_reducible first | exact HB.out | apply qg | apply qc | apply qh | refine ql ?_ q0e.out) | exact HB.out))) : w.heap.size ≤ jl)); have n5_ := qf.mk ((by rw [hg]; exact Nat.ne_of_lt (qax (g := qhw) (o := .cells #[.int .i64 qw, .int .i64 qy, .int .i64 za, .int .i64 yg, .int .i64 ym, .string yf, .int .i64 yh, .int .i64 qww, .string qwx, .slice qac zx.length vo, .slice qwb qje.length qwd] 36 (0, 0)) (by (with_reducible repeat (first | refine qj ?_ _ | refine qo ?_ | refine qi ?_ _)); exact qb4.out)) : qhw ≠ jl)); have n6_ := qf.mk ((by rw [hg]; exact Nat.ne_of_gt (qax (g := qhw) (o := .cells #[.int .i64 qw, .int .i64 qy, .int .i64 za, .int .i64 yg, .int .i64 ym, .string yf, .int .i64 yh, .int .i64 qww, .string qwx, .slice qac zx.length vo, .slice qwb qje.length qwd] 36 (0, 0)) (by (with_reducible repeat (first | refine qj ?_ _ | refine qo ?_ | refine qi ?_ _)); exact qb4.out)) : jl ≠ qhw)); clear qb4; clear HB; have qb4 := n0_; have HB := n1_; have qdk := n2_; have z18 := n3_; have zgw := n4_; have zy := n5_; have qfh := n6_; clear n0_ n1_ n2_ n3_ n4_ n5_ n6_; clear hb hbox hg))
 have n0_ := qf.mk (qo qb4.out)
 have n1_ := qf.mk (qo qdk.out)
 have n2_ := qf.mk (qh HB.out)
 clear qb4
 clear qdk
 clear HB
 have qb4 := n0_
 have qdk := n1_
 have HB := n2_
 clear n0_ n1_ n2_
 refine qwo (n := 16) (S := fun w' => w'.cell? ⟨qhw, 0, none⟩ = some (.int .i64 qw) ∧ w'.cell? ⟨qhw, 1, none⟩ = some (.int .i64 qy) ∧ w'.cell? ⟨qhw, 2, none⟩ = some (.int .i64 za) ∧ w'.cell? ⟨qhw, 3, none⟩ = some (.int .i64 yg) ∧ w'.cell? ⟨qhw, 4, none⟩ = some (.int .i64 ym) ∧ w'.cell? ⟨qhw, 5, none⟩ = some (.string yf) ∧ w'.cell? ⟨qhw, 6, none⟩ = some (.int .i64 yh) ∧ w'.cell? ⟨qhw, 7, none⟩ = some (.int .i64 qww) ∧ w'.cell? ⟨qhw, 8, none⟩ = some (.string qwx) ∧ w'.cell? ⟨qhw, 9, none⟩ = some (.slice qac zx.length vo) ∧ w'.cell? ⟨qhw, 10, none⟩ = some (.slice qwb qje.length qwd)) (ds := []) #[false, false, false, false, false, false, false, false, false, false, false, false, false, false, false, false] (by kernel_rfl) rfl rfl ⟨(qb qb4.out 0).trans rfl, (qb qb4.out 1).trans rfl, (qb qb4.out 2).trans rfl, (qb qb4.out 3).trans rfl, (qb qb4.out 4).trans rfl, (qb qb4.out 5).trans rfl, (qb qb4.out 6).trans rfl, (qb qb4.out 7).trans rfl, (qb qb4.out 8).trans rfl, (qb qb4.out 9).trans rfl, (qb qb4.out 10).trans rfl⟩ (fun hHeld => ?_); refine qjl qb3.tab1 qb3.zo3 (fun HT_ HW_ => ?_)
 generalize w5.drew = w6 at qb4 qdk HB hHeld ⊢
 refine qcb (i := 0) (N := some 3) (v := ?_) (a' := ?_) #[true, false, false, false, false, false, false, false, false, false, false, false, false, false, false, false] rfl rfl (qbr HT_.out (by kernel_rfl)) (fun _ _ _ h => h) (Or.inl ⟨by rfl, ?_⟩) ?_ ?_
 rotate_left
 ·intro w'
  go_simp
  with_reducible rfl
 rotate_left
 ·simp only [Act.put, List.setIfInBounds_toArray, List.set_cons_zero, List.set_cons_succ, vz, vw]
  rfl
 refine qcb (i := 2) (N := some 5) (v := ?_) (a' := ?_) #[true, false, true, false, false, false, false, false, false, false, false, false, false, false, false, false] rfl rfl (qbr HT_.out (by kernel_rfl)) (fun _ _ _ h => h) (Or.inl ⟨by rfl, ?_⟩) ?_ ?_
 rotate_left
 ·intro w'
  go_simp
  with_reducible rfl
 rotate_left
 ·simp only [Act.put, List.setIfInBounds_toArray, List.set_cons_zero, List.set_cons_succ, vz, vw]
  rfl
 refine qcb (i := 4) (N := some 7) (v := ?_) (a' := ?_) #[true, false, true, false, true, false, false, false, false, false, false, false, false, false, false, false] rfl rfl (qbr HT_.out (by kernel_rfl)) (fun _ _ _ h => h) (Or.inl ⟨by rfl, ?_⟩) ?_ ?_
 rotate_left
 ·intro w'
  go_simp
  with_reducible rfl
 rotate_left
 ·simp only [Act.put, List.setIfInBounds_toArray, List.set_cons_zero, List.set_cons_succ, vz, vw]
  rfl
 refine qcb (i := 6) (N := some 9) (v := ?_) (a' := ?_) #[true, false, true, false, true, false, true, false, false, false, false, false, false, false, false, false] rfl rfl (qbr HT_.out (by kernel_rfl)) (fun _ _ _ h => h) (Or.inl ⟨by rfl, ?_⟩) ?_ ?_
 rotate_left
 ·intro w'
  go_simp
  with_reducible rfl
 rotate_left
 ·simp only [Act.put, List.setIfInBounds_toArray, List.set_cons_zero, List.set_cons_succ, vz, vw]
  rfl
 refine qcb (i := 8) (N := some 11) (v := ?_) (a' := ?_) #[true, false, true, false, true, false, true, false, true, false, false, false, false, false, false, false] rfl rfl (qbr HT_.out (by kernel_rfl)) (fun _ _ _ h => h) (Or.inl ⟨by rfl, ?_⟩) ?_ ?_
 rotate_left
 ·intro w'
  go_simp
  with_reducible rfl
 rotate_left
 ·simp only [Act.put, List.setIfInBounds_toArray, List.set_cons_zero, List.set_cons_succ, vz, vw]
  rfl
 refine qcb (i := 11) (N := some 14) (v := ?_) (a' := ?_) #[true, false, true, false, true, false, true, false, true, false, false, true, false, false, false, false] rfl rfl (qbr HT_.out (by kernel_rfl)) (fun _ _ _ h => h) (Or.inl ⟨by rfl, ?_⟩) ?_ ?_
 rotate_left
 ·intro w'
  go_simp
  with_reducible rfl
 rotate_left
 ·simp only [Act.put, List.setIfInBounds_toArray, List.set_cons_zero, List.set_cons_succ, vz, vw]
  rfl
 refine qfz (i := 1) (N := some 4) (v := ?_) (a' := ?_) #[true, true, true, false, true, false, true, false, true, false, false, true, false, false, false, false] rfl rfl (qce HT_.out HW_.out (by kernel_rfl)) (fun _ _ _ h => h) (Or.inl ⟨by rfl, ?_⟩) hHeld ?_ ?_
 rotate_left
 ·rintro w' ⟨s0, s1, s2, s3, s4, s5, s6, s7, s8, s9, s10⟩
  go_simp
  with_reducible rfl
 rotate_left
 ·simp only [Act.put, List.setIfInBounds_toArray, List.set_cons_zero, List.set_cons_succ, vz, vw]
  rfl
 refine qfz (i := 3) (N := some 6) (v := ?_) (a' := ?_) #[true, true, true, true, true, false, true, false, true, false, false, true, false, false, false, false] rfl rfl (qce HT_.out HW_.out (by kernel_rfl)) (fun _ _ _ h => h) (Or.inl ⟨by rfl, ?_⟩) hHeld ?_ ?_
 rotate_left
 ·rintro w' ⟨s0, s1, s2, s3, s4, s5, s6, s7, s8, s9, s10⟩
  go_simp
  with_reducible rfl
 rotate_left
 ·simp only [Act.put, List.setIfInBounds_toArray, List.set_cons_zero, List.set_cons_succ, vz, vw]
  rfl
 refine qfz (i := 5) (N := some 8) (v := ?_) (a' := ?_) #[true, true, true, true, true, true, true, false, true, false, false, true, false, false, false, false] rfl rfl (qce HT_.out HW_.out (by kernel_rfl)) (fun _ _ _ h => h) (Or.inl ⟨by rfl, ?_⟩) hHeld ?_ ?_
 rotate_left
 ·rintro w' ⟨s0, s1, s2, s3, s4, s5, s6, s7, s8, s9, s10⟩
  go_simp
  with_reducible rfl
 rotate_left
 ·simp only [Act.put, List.setIfInBounds_toArray, List.set_cons_zero, List.set_cons_succ, vz, vw]
  rfl
 refine qfz (i := 7) (N := some 10) (v := ?_) (a' := ?_) #[true, true, true, true, true, true, true, true, true, false, false, true, false, false, false, false] rfl rfl (qce HT_.out HW_.out (by kernel_rfl)) (fun _ _ _ h => h) (Or.inl ⟨by rfl, ?_⟩) hHeld ?_ ?_
 rotate_left
 ·rintro w' ⟨s0, s1, s2, s3, s4, s5, s6, s7, s8, s9, s10⟩
  go_simp
  with_reducible rfl
 rotate_left
 ·simp only [Act.put, List.setIfInBounds_toArray, List.set_cons_zero, List.set_cons_succ, vz, vw]
  rfl
 refine qfz (i := 9) (N := some 12) (v := ?_) (a' := ?_) #[true, true, true, true, true, true, true, true, true, true, false, true, false, false, false, false] rfl rfl (qce HT_.out HW_.out (by kernel_rfl)) (fun _ _ _ h => h) (Or.inl ⟨by rfl, ?_⟩) hHeld ?_ ?_
 rotate_left
 ·rintro w' ⟨s0, s1, s2, s3, s4, s5, s6, s7, s8, s9, s10⟩
  go_simp
  with_reducible rfl
 rotate_left
 ·simp only [Act.put, List.setIfInBounds_toArray, List.set_cons_zero, List.set_cons_succ, vz, vw]
  rfl
 refine qfz (i := 12) (N := some 15) (v := ?_) (a' := ?_) #[true, true, true, true, true, true, true, true, true, true, false, true, true, false, false, false] rfl rfl (qce HT_.out HW_.out (by kernel_rfl)) (fun _ _ _ h => h) (Or.inl ⟨by rfl, ?_⟩) hHeld ?_ ?_
 rotate_left
 ·rintro w' ⟨s0, s1, s2, s3, s4, s5, s6, s7, s8, s9, s10⟩
  go_simp
  with_reducible rfl
 rotate_left
 ·simp only [Act.put, List.setIfInBounds_toArray, List.set_cons_zero, List.set_cons_succ, vz, vw]
  rfl
 refine one_ (i := 10) (N := some 13) #[true, true, true, true, true, true, true, true, true, true, true, true, true, false, false, false] rfl rfl (qk6 HT_.out (by kernel_rfl)) (by decide) (fun K hK => ?_)
 refine qte Tryd.func63 (by kernel_rfl) rfl #[.agg #[.int .i64 yh, .int .i64 qww, .string qwx, .slice qac zx.length vo]] (by rfl) rfl rfl (by (try simp only [List.map_toArray, List.map_cons, List.map_nil]); first | done | rfl | (simp only [List.length_drop, List.length_take]; rfl)) ?_
 with_reducible refine (qar.calls k yh qww qwx _ _ zx t119 q8t zf9 zh6 _ ?side1 ?side2 A2.out).mono ?_
 (case side1 => repeat (first | exact (Kd.vv qoh.out HB.out) | (with_reducible refine Kd.qba ?_ _) | (with_reducible refine Kd.qaz ?_ _) | (with_reducible refine Kd.qbq ?_)))
 (case side2 => exact qwq.out)
 rintro e w7 ⟨z5b, rfl, ho0, hb⟩
 refine ⟨_, rfl, ?_⟩
 have n0_ := qf.mk (Kd.qh1 ho0 (zo (by repeat (first | (with_reducible first | exact HB.out | apply qg | apply qc | apply qh | refine ql ?_ q0e.out | refine ql ?_ zgw.out) | exact HB.out))))
 have n1_ := qf.mk (zl (g := qhw) (o := .cells #[.int .i64 qw, .int .i64 qy, .int .i64 za, .int .i64 yg, .int .i64 ym, .string yf, .int .i64 yh, .int .i64 qww, .string qwx, .slice qac zx.length vo, .slice qwb qje.length qwd] 36 (0, 0)) (by (with_reducible repeat (first | refine qj ?_ _ | refine qo ?_ | refine qi ?_ _)); exact qb4.out) hb)
 have n2_ := qf.mk (zl (g := jl) (o := .cells #[.int .i64 0, .int .i64 0, .int .i64 0, .string (⟨#[]⟩ : ByteArray), .int .i64 0, .int .i64 0, .string (⟨#[]⟩ : ByteArray), .slice none 0 0, .slice none 0 0, .slice none 0 0] 30 (0, 0)) (by (with_reducible repeat (first | refine qj ?_ _ | refine qo ?_ | refine qi ?_ _)); exact qdk.out) hb)
 have n3_ := qf.mk (zk (by repeat (first | (with_reducible first | exact HB.out | apply qg | apply qc | apply qh | refine ql ?_ q0e.out | refine ql ?_ zgw.out) | exact HB.out)) hb)
 clear qb4
 clear qdk
 clear HB
 have q80 := n0_
 have qb4 := n1_
 have qdk := n2_
 have HB := n3_
 clear n0_ n1_ n2_ n3_
 (try clear hb)
 (try clear hb2)
 (try clear hk)
 (try clear hi)
 (try clear ho0)
 refine hK.out _ _ ⟨(qb qb4.out 0).trans rfl, (qb qb4.out 1).trans rfl, (qb qb4.out 2).trans rfl, (qb qb4.out 3).trans rfl, (qb qb4.out 4).trans rfl, (qb qb4.out 5).trans rfl, (qb qb4.out 6).trans rfl, (qb qb4.out 7).trans rfl, (qb qb4.out 8).trans rfl, (qb qb4.out 9).trans rfl, (qb qb4.out 10).trans rfl⟩ (fun hHeld => ?_)
 clear hK K
 refine qth (a' := ?_) ?_ ?_
 rotate_left
 ·show Act.put _ (some 13) _ = _
  simp only [Act.put, List.setIfInBounds_toArray, List.set_cons_zero, List.set_cons_succ, vz, vw]
  rfl
 refine one_ (i := 13) (N := some 16) #[true, true, true, true, true, true, true, true, true, true, true, true, true, true, false, false] rfl rfl (qk6 HT_.out (by kernel_rfl)) (by decide) (fun K hK => ?_)
 refine qte Tryd.func64 (by kernel_rfl) rfl #[.slice qwb qje.length qwd] (by rfl) rfl rfl (by (try simp only [List.map_toArray, List.map_cons, List.map_nil]); first | done | rfl | (simp only [List.length_drop, List.length_take]; rfl)) ?_
 with_reducible refine (jg.calls k _ _ qje q8o _ ?side1 ?side2 A3.out).mono ?_
 (case side1 => repeat (first | exact (Kd.vv zva.out HB.out) | (with_reducible refine Kd.qba ?_ _) | (with_reducible refine Kd.qaz ?_ _) | (with_reducible refine Kd.qbq ?_)))
 (case side2 => exact zuz.out)
 rintro e w8 ⟨z5c, rfl, ho0, hb⟩
 refine ⟨_, rfl, ?_⟩
 have n0_ := qf.mk (Kd.R_elder' (by (with_reducible repeat (first | apply Kd.qe7 | apply Kd.qe8 | apply Kd.qhq)); exact q80.out) (Kd.q9q ho0) hb)
 have n1_ := qf.mk (Kd.qh1 (Kd.R_new' ho0 (Kd.R_lt (by (with_reducible repeat (first | apply Kd.qe7 | apply Kd.qe8 | apply Kd.qhq)); exact q80.out))) (zo (by repeat (first | (with_reducible first | exact HB.out | apply qg | apply qc | apply qh | refine ql ?_ q0e.out | refine ql ?_ zgw.out) | exact HB.out))))
 have n2_ := qf.mk (zl (g := qhw) (o := .cells #[.int .i64 qw, .int .i64 qy, .int .i64 za, .int .i64 yg, .int .i64 ym, .string yf, .int .i64 yh, .int .i64 qww, .string qwx, .slice qac zx.length vo, .slice qwb qje.length qwd] 36 (0, 0)) (by (with_reducible repeat (first | refine qj ?_ _ | refine qo ?_ | refine qi ?_ _)); exact qb4.out) hb)
 have n3_ := qf.mk (zl (g := jl) (o := .cells #[.int .i64 0, .int .i64 0, .int .i64 0, .string (⟨#[]⟩ : ByteArray), .int .i64 0, .int .i64 0, .string (⟨#[]⟩ : ByteArray), .slice none 0 0, .slice none 0 0, .slice none 0 0] 30 (0, 0)) (by (with_reducible repeat (first | refine qj ?_ _ | refine qo ?_ | refine qi ?_ _)); exact qdk.out) hb)
 have n4_ := qf.mk (zk (by repeat (first | (with_reducible first | exact HB.out | apply qg | apply qc | apply qh | refine ql ?_ q0e.out | refine ql ?_ zgw.out) | exact HB.out)) hb)
 clear q80
 clear qb4
 clear qdk
 clear HB
 have q80 := n0_
 have zul := n1_
 have qb4 := n2_
 have qdk := n3_
 have HB := n4_
 clear n0_ n1_ n2_ n3_ n4_
 (try clear hb)
 (try clear hb2)
 (try clear hk)
 (try clear hi)
 (try clear ho0)
 obtain ⟨Ao9, co9, eo9⟩ := Kd.qeb zul.out
 (first | subst eo9 | (injection eo9 with f1_ f2_ f3_; have f4_ := f1_.symm; have f5_ := f3_.symm; clear f1_ f2_ f3_; subst f4_; subst f5_))
 obtain ⟨zoo, zpa, zxe⟩ := Kd.qeb q80.out
 (first | subst zxe | (injection zxe with f1_ f2_ f3_; have f4_ := f1_.symm; have f5_ := f3_.symm; clear f1_ f2_ f3_; subst f4_; subst f5_))
 refine hK.out _ _ ⟨(qb qb4.out 0).trans rfl, (qb qb4.out 1).trans rfl, (qb qb4.out 2).trans rfl, (qb qb4.out 3).trans rfl, (qb qb4.out 4).trans rfl, (qb qb4.out 5).trans rfl, (qb qb4.out 6).trans rfl, (qb qb4.out 7).trans rfl, (qb qb4.out 8).trans rfl, (qb qb4.out 9).trans rfl, (qb qb4.out 10).trans rfl⟩ (fun hHeld => ?_)
 clear hK K
 refine qth (a' := ?_) ?_ ?_
 rotate_left
 ·show Act.put _ (some 16) _ = _
  simp only [Act.put, List.setIfInBounds_toArray, List.set_cons_zero, List.set_cons_succ, vz, vw]
  rfl
 refine qcb (i := 14) (N := some 17) (v := ?_) (a' := ?_) #[true, true, true, true, true, true, true, true, true, true, true, true, true, true, true, false] rfl rfl (qbr HT_.out (by kernel_rfl)) (fun _ _ _ h => h) (Or.inl ⟨by rfl, ?_⟩) ?_ ?_
 rotate_left
 ·intro w'
  go_simp
  with_reducible rfl
 rotate_left
 ·simp only [Act.put, List.setIfInBounds_toArray, List.set_cons_zero, List.set_cons_succ, vz, vw]
  rfl
 refine one_ (i := 15) (N := none) #[true, true, true, true, true, true, true, true, true, true, true, true, true, true, true, true] rfl rfl (qk6 HT_.out (by kernel_rfl)) (by decide) (fun K hK => ?_)
 have z4d : w8.cell? ⟨jl, 0, none⟩ = some (.int .i64 0) := (qb qdk.out 0).trans rfl
 have z2l := qa qdk.out 0
 have z0f := zy.out
 have zz5 := qfh.out
 have z4e : w8.cell? ⟨jl, 1, none⟩ = some (.int .i64 0) := (qb qdk.out 1).trans rfl
 have z2m := qa qdk.out 1
 have z0g := zy.out
 have zz6 := qfh.out
 have z4f : w8.cell? ⟨jl, 2, none⟩ = some (.int .i64 0) := (qb qdk.out 2).trans rfl
 have z2n := qa qdk.out 2
 have z0h := zy.out
 have zz7 := qfh.out
 have z4g : w8.cell? ⟨jl, 3, none⟩ = some (.string (⟨#[]⟩ : ByteArray)) := (qb qdk.out 3).trans rfl
 have z2o := qa qdk.out 3
 have z0i := zy.out
 have zz8 := qfh.out
 have z4h : w8.cell? ⟨jl, 4, none⟩ = some (.int .i64 0) := (qb qdk.out 4).trans rfl
 have z2p := qa qdk.out 4
 have z0j := zy.out
 have zz9 := qfh.out
 have z4i : w8.cell? ⟨jl, 5, none⟩ = some (.int .i64 0) := (qb qdk.out 5).trans rfl
 have z2q := qa qdk.out 5
 have z0k := zy.out
 have z0a := qfh.out
 have z4j : w8.cell? ⟨jl, 6, none⟩ = some (.string (⟨#[]⟩ : ByteArray)) := (qb qdk.out 6).trans rfl
 have z2r := qa qdk.out 6
 have z0l := zy.out
 have z0b := qfh.out
 have z4k : w8.cell? ⟨jl, 7, none⟩ = some (.slice none 0 0) := (qb qdk.out 7).trans rfl
 have z2s := qa qdk.out 7
 have z0m := zy.out
 have z0c := qfh.out
 have z4l : w8.cell? ⟨jl, 8, none⟩ = some (.slice none 0 0) := (qb qdk.out 8).trans rfl
 have z2t := qa qdk.out 8
 have z0n := zy.out
 have z0d := qfh.out
 have z4m : w8.cell? ⟨jl, 9, none⟩ = some (.slice none 0 0) := (qb qdk.out 9).trans rfl
 have z2u := qa qdk.out 9
 have z0o := zy.out
 have z0e := qfh.out
 refine skip_ (w1 := ?_) (by rfl) rfl ?_ ?_
 rotate_left
 ·go_simp
  rfl
 refine hK.out _ _ ⟨((cell_far (p := ⟨jl, _, none⟩) zy.out _).trans (((cell_far (p := ⟨jl, _, none⟩) zy.out _).trans (((cell_far (p := ⟨jl, _, none⟩) zy.out _).trans (((cell_far (p := ⟨jl, _, none⟩) zy.out _).trans (((cell_far (p := ⟨jl, _, none⟩) zy.out _).trans (((cell_far (p := ⟨jl, _, none⟩) zy.out _).trans (((cell_far (p := ⟨jl, _, none⟩) zy.out _).trans (((cell_far (p := ⟨jl, _, none⟩) zy.out _).trans (((cell_far (p := ⟨jl, _, none⟩) zy.out _).trans (((cell_far (p := ⟨jl, _, none⟩) zy.out _).trans (hHeld.1)))))))))))))))))))), ((cell_far (p := ⟨jl, _, none⟩) zy.out _).trans (((cell_far (p := ⟨jl, _, none⟩) zy.out _).trans (((cell_far (p := ⟨jl, _, none⟩) zy.out _).trans (((cell_far (p := ⟨jl, _, none⟩) zy.out _).trans (((cell_far (p := ⟨jl, _, none⟩) zy.out _).trans (((cell_far (p := ⟨jl, _, none⟩) zy.out _).trans (((cell_far (p := ⟨jl, _, none⟩) zy.out _).trans (((cell_far (p := ⟨jl, _, none⟩) zy.out _).trans (((cell_far (p := ⟨jl, _, none⟩) zy.out _).trans (((cell_far (p := ⟨jl, _, none⟩) zy.out _).trans (hHeld.2.1)))))))))))))))))))), ((cell_far (p := ⟨jl, _, none⟩) zy.out _).trans (((cell_far (p := ⟨jl, _, none⟩) zy.out _).trans (((cell_far (p := ⟨jl, _, none⟩) zy.out _).trans (((cell_far (p := ⟨jl, _, none⟩) zy.out _).trans (((cell_far (p := ⟨jl, _, none⟩) zy.out _).trans (((cell_far (p := ⟨jl, _, none⟩) zy.out _).trans (((cell_far (p := ⟨jl, _, none⟩) zy.out _).trans (((cell_far (p := ⟨jl, _, none⟩) zy.out _).trans (((cell_far (p := ⟨jl, _, none⟩) zy.out _).trans (((cell_far (p := ⟨jl, _, none⟩) zy.out _).trans (hHeld.2.2.1)))))))))))))))))))), ((cell_far (p := ⟨jl, _, none⟩) zy.out _).trans (((cell_far (p := ⟨jl, _, none⟩) zy.out _).trans (((cell_far (p := ⟨jl, _, none⟩) zy.out _).trans (((cell_far (p := ⟨jl, _, none⟩) zy.out _).trans (((cell_far (p := ⟨jl, _, none⟩) zy.out _).trans (((cell_far (p := ⟨jl, _, none⟩) zy.out _).trans (((cell_far (p := ⟨jl, _, none⟩) zy.out _).trans (((cell_far (p := ⟨jl, _, none⟩) zy.out _).trans (((cell_far (p := ⟨jl, _, none⟩) zy.out _).trans (((cell_far (p := ⟨jl, _, none⟩) zy.out _).trans (hHeld.2.2.2.1)))))))))))))))))))), ((cell_far (p := ⟨jl, _, none⟩) zy.out _).trans (((cell_far (p := ⟨jl, _, none⟩) zy.out _).trans (((cell_far (p := ⟨jl, _, none⟩) zy.out _).trans (((cell_far (p := ⟨jl, _, none⟩) zy.out _).trans (((cell_far (p := ⟨jl, _, none⟩) zy.out _).trans (((cell_far (p := ⟨jl, _, none⟩) zy.out _).trans (((cell_far (p := ⟨jl, _, none⟩) zy.out _).trans (((cell_far (p := ⟨jl, _, none⟩) zy.out _).trans (((cell_far (p := ⟨jl, _, none⟩) zy.out _).trans (((cell_far (p := ⟨jl, _, none⟩) zy.out _).trans (hHeld.2.2.2.2.1)))))))))))))))))))), ((cell_far (p := ⟨jl, _, none⟩) zy.out _).trans (((cell_far (p := ⟨jl, _, none⟩) zy.out _).trans (((cell_far (p := ⟨jl, _, none⟩) zy.out _).trans (((cell_far (p := ⟨jl, _, none⟩) zy.out _).trans (((cell_far (p := ⟨jl, _, none⟩) zy.out _).trans (((cell_far (p := ⟨jl, _, none⟩) zy.out _).trans (((cell_far (p := ⟨jl, _, none⟩) zy.out _).trans (((cell_far (p := ⟨jl, _, none⟩) zy.out _).trans (((cell_far (p := ⟨jl, _, none⟩) zy.out _).trans (((cell_far (p := ⟨jl, _, none⟩) zy.out _).trans (hHeld.2.2.2.2.2.1)))))))))))))))))))), ((cell_far (p := ⟨jl, _, none⟩) zy.out _).trans (((cell_far (p := ⟨jl, _, none⟩) zy.out _).trans (((cell_far (p := ⟨jl, _, none⟩) zy.out _).trans (((cell_far (p := ⟨jl, _, none⟩) zy.out _).trans (((cell_far (p := ⟨jl, _, none⟩) zy.out _).trans (((cell_far (p := ⟨jl, _, none⟩) zy.out _).trans (((cell_far (p := ⟨jl, _, none⟩) zy.out _).trans (((cell_far (p := ⟨jl, _, none⟩) zy.out _).trans (((cell_far (p := ⟨jl, _, none⟩) zy.out _).trans (((cell_far (p := ⟨jl, _, none⟩) zy.out _).trans (hHeld.2.2.2.2.2.2.1)))))))))))))))))))), ((cell_far (p := ⟨jl, _, none⟩) zy.out _).trans (((cell_far (p := ⟨jl, _, none⟩) zy.out _).trans (((cell_far (p := ⟨jl, _, none⟩) zy.out _).trans (((cell_far (p := ⟨jl, _, none⟩) zy.out _).trans (((cell_far (p := ⟨jl, _, none⟩) zy.out _).trans (((cell_far (p := ⟨jl, _, none⟩) zy.out _).trans (((cell_far (p := ⟨jl, _, none⟩) zy.out _).trans (((cell_far (p := ⟨jl, _, none⟩) zy.out _).trans (((cell_far (p := ⟨jl, _, none⟩) zy.out _).trans (((cell_far (p := ⟨jl, _, none⟩) zy.out _).trans (hHeld.2.2.2.2.2.2.2.1)))))))))))))))))))), ((cell_far (p := ⟨jl, _, none⟩) zy.out _).trans (((cell_far (p := ⟨jl, _, none⟩) zy.out _).trans (((cell_far (p := ⟨jl, _, none⟩) zy.out _).trans (((cell_far (p := ⟨jl, _, none⟩) zy.out _).trans (((cell_far (p := ⟨jl, _, none⟩) zy.out _).trans (((cell_far (p := ⟨jl, _, none⟩) zy.out _).trans (((cell_far (p := ⟨jl, _, none⟩) zy.out _).trans (((cell_far (p := ⟨jl, _, none⟩) zy.out _).trans (((cell_far (p := ⟨jl, _, none⟩) zy.out _).trans (((cell_far (p := ⟨jl, _, none⟩) zy.out _).trans (hHeld.2.2.2.2.2.2.2.2.1)))))))))))))))))))), ((cell_far (p := ⟨jl, _, none⟩) zy.out _).trans (((cell_far (p := ⟨jl, _, none⟩) zy.out _).trans (((cell_far (p := ⟨jl, _, none⟩) zy.out _).trans (((cell_far (p := ⟨jl, _, none⟩) zy.out _).trans (((cell_far (p := ⟨jl, _, none⟩) zy.out _).trans (((cell_far (p := ⟨jl, _, none⟩) zy.out _).trans (((cell_far (p := ⟨jl, _, none⟩) zy.out _).trans (((cell_far (p := ⟨jl, _, none⟩) zy.out _).trans (((cell_far (p := ⟨jl, _, none⟩) zy.out _).trans (((cell_far (p := ⟨jl, _, none⟩) zy.out _).trans (hHeld.2.2.2.2.2.2.2.2.2.1)))))))))))))))))))), ((cell_far (p := ⟨jl, _, none⟩) zy.out _).trans (((cell_far (p := ⟨jl, _, none⟩) zy.out _).trans (((cell_far (p := ⟨jl, _, none⟩) zy.out _).trans (((cell_far (p := ⟨jl, _, none⟩) zy.out _).trans (((cell_far (p := ⟨jl, _, none⟩) zy.out _).trans (((cell_far (p := ⟨jl, _, none⟩) zy.out _).trans (((cell_far (p := ⟨jl, _, none⟩) zy.out _).trans (((cell_far (p := ⟨jl, _, none⟩) zy.out _).trans (((cell_far (p := ⟨jl, _, none⟩) zy.out _).trans (((cell_far (p := ⟨jl, _, none⟩) zy.out _).trans (hHeld.2.2.2.2.2.2.2.2.2.2))))))))))))))))))))⟩ (fun hHeld => ?_)
 clear hK K
 refine q7e (qoz HT_.out (by kernel_rfl)) ?_
 try go_wp2
 refine bodyPost_ret (results_cell_row rfl _ _ jl 30 #[.int .i64 qw, .int .i64 qy, .int .i64 za, .string yf, .int .i64 t119, .int .i64 q8t, .string zf9, .slice zoo zh6.length zpa, .slice none 0 0, .slice Ao9 q8o.length co9] (0, 0) _ rfl (by (with_reducible repeat (first | refine qj ?_ _ | refine qo ?_ | refine qi ?_ _)); refine jc (cs := #[.int .i64 qw, .int .i64 qy, .int .i64 za, .string yf, .int .i64 t119, .int .i64 q8t, .string zf9, .slice zoo zh6.length zpa, .slice none 0 0, .slice none 0 0]) ?_ 9 _ rfl; (with_reducible repeat (first | refine qj ?_ _ | refine qo ?_ | refine qi ?_ _)); refine jc (cs := #[.int .i64 qw, .int .i64 qy, .int .i64 za, .string yf, .int .i64 t119, .int .i64 q8t, .string zf9, .slice zoo zh6.length zpa, .slice none 0 0, .slice none 0 0]) ?_ 8 _ rfl; (with_reducible repeat (first | refine qj ?_ _ | refine qo ?_ | refine qi ?_ _)); refine jc (cs := #[.int .i64 qw, .int .i64 qy, .int .i64 za, .string yf, .int .i64 t119, .int .i64 q8t, .string zf9, .slice none 0 0, .slice none 0 0, .slice none 0 0]) ?_ 7 _ rfl; (with_reducible repeat (first | refine qj ?_ _ | refine qo ?_ | refine qi ?_ _)); refine jc (cs := #[.int .i64 qw, .int .i64 qy, .int .i64 za, .string yf, .int .i64 t119, .int .i64 q8t, .string (⟨#[]⟩ : ByteArray), .slice none 0 0, .slice none 0 0, .slice none 0 0]) ?_ 6 _ rfl; (with_reducible repeat (first | refine qj ?_ _ | refine qo ?_ | refine qi ?_ _)); refine jc (cs := #[.int .i64 qw, .int .i64 qy, .int .i64 za, .string yf, .int .i64 t119, .int .i64 0, .string (⟨#[]⟩ : ByteArray), .slice none 0 0, .slice none 0 0, .slice none 0 0]) ?_ 5 _ rfl; (with_reducible repeat (first | refine qj ?_ _ | refine qo ?_ | refine qi ?_ _)); refine jc (cs := #[.int .i64 qw, .int .i64 qy, .int .i64 za, .string yf, .int .i64 0, .int .i64 0, .string (⟨#[]⟩ : ByteArray), .slice none 0 0, .slice none 0 0, .slice none 0 0]) ?_ 4 _ rfl; (with_reducible repeat (first | refine qj ?_ _ | refine qo ?_ | refine qi ?_ _)); refine jc (cs := #[.int .i64 qw, .int .i64 qy, .int .i64 za, .string (⟨#[]⟩ : ByteArray), .int .i64 0, .int .i64 0, .string (⟨#[]⟩ : ByteArray), .slice none 0 0, .slice none 0 0, .slice none 0 0]) ?_ 3 _ rfl; (with_reducible repeat (first | refine qj ?_ _ | refine qo ?_ | refine qi ?_ _)); refine jc (cs := #[.int .i64 qw, .int .i64 qy, .int .i64 0, .string (⟨#[]⟩ : ByteArray), .int .i64 0, .int .i64 0, .string (⟨#[]⟩ : ByteArray), .slice none 0 0, .slice none 0 0, .slice none 0 0]) ?_ 2 _ rfl; (with_reducible repeat (first | refine qj ?_ _ | refine qo ?_ | refine qi ?_ _)); refine jc (cs := #[.int .i64 qw, .int .i64 0, .int .i64 0, .string (⟨#[]⟩ : ByteArray), .int .i64 0, .int .i64 0, .string (⟨#[]⟩ : ByteArray), .slice none 0 0, .slice none 0 0, .slice none 0 0]) ?_ 1 _ rfl; (with_reducible repeat (first | refine qj ?_ _ | refine qo ?_ | refine qi ?_ _)); refine jc (cs := #[.int .i64 0, .int .i64 0, .int .i64 0, .string (⟨#[]⟩ : ByteArray), .int .i64 0, .int .i64 0, .string (⟨#[]⟩ : ByteArray), .slice none 0 0, .slice none 0 0, .slice none 0 0]) ?_ 0 _ rfl; (with_reducible repeat (first | refine qj ?_ _ | refine qo ?_ | refine qi ?_ _)); exact qdk.out) Tryd.underlying30 rfl (by kernel_rfl)) rfl ?_
 exact ⟨_, _, _, by first | rfl | (simp [zg, zh] <;> rfl) | (simp [*, zg, zh] <;> rfl), by (with_reducible repeat (first | apply Kd.qe7 | apply Kd.qe8 | apply Kd.qhq)); exact Kd.qez (Kd.qdm (p := ⟨jl, 9, none⟩) (Kd.qdm (p := ⟨jl, 8, none⟩) (Kd.qdm (p := ⟨jl, 7, none⟩) (Kd.qdm (p := ⟨jl, 6, none⟩) (Kd.qdm (p := ⟨jl, 5, none⟩) (Kd.qdm (p := ⟨jl, 4, none⟩) (Kd.qdm (p := ⟨jl, 3, none⟩) (Kd.qdm (p := ⟨jl, 2, none⟩) (Kd.qdm (p := ⟨jl, 1, none⟩) (Kd.qdm (p := ⟨jl, 0, none⟩) (Kd.R_types q80.out qdk.out (by decide)) (fun _ hk => hk.2) (.int .i64 qw)) (fun _ hk => hk.2) (.int .i64 qy)) (fun _ hk => hk.2) (.int .i64 za)) (fun _ hk => hk.2) (.string yf)) (fun _ hk => hk.2) (.int .i64 t119)) (fun _ hk => hk.2) (.int .i64 q8t)) (fun _ hk => hk.2) (.string zf9)) (fun _ hk => hk.2) (.slice zoo zh6.length zpa)) (fun _ hk => hk.2) (.slice none 0 0)) (fun _ hk => hk.2) (.slice Ao9 q8o.length co9)) (fun _ hk => hk.1.2), by first | exact Kd.q62 _ _ _ _ _ | exact Kd.zox _ _ _ _ _ | exact Kd.qeh _ _ _ _ _ | exact Kd.Q_nil _ _ _ _ _ | exact Kd.S_nil _ _ _ _ _, by (with_reducible repeat (first | apply Kd.qe7 | apply Kd.qe8 | apply Kd.qhq)); exact Kd.qez (Kd.qdm (p := ⟨jl, 9, none⟩) (Kd.qdm (p := ⟨jl, 8, none⟩) (Kd.qdm (p := ⟨jl, 7, none⟩) (Kd.qdm (p := ⟨jl, 6, none⟩) (Kd.qdm (p := ⟨jl, 5, none⟩) (Kd.qdm (p := ⟨jl, 4, none⟩) (Kd.qdm (p := ⟨jl, 3, none⟩) (Kd.qdm (p := ⟨jl, 2, none⟩) (Kd.qdm (p := ⟨jl, 1, none⟩) (Kd.qdm (p := ⟨jl, 0, none⟩) (Kd.R_types zul.out qdk.out (by decide)) (fun _ hk => hk.2) (.int .i64 qw)) (fun _ hk => hk.2) (.int .i64 qy)) (fun _ hk => hk.2) (.int .i64 za)) (fun _ hk => hk.2) (.string yf)) (fun _ hk => hk.2) (.int .i64 t119)) (fun _ hk => hk.2) (.int .i64 q8t)) (fun _ hk => hk.2) (.string zf9)) (fun _ hk => hk.2) (.slice zoo zh6.length zpa)) (fun _ hk => hk.2) (.slice none 0 0)) (fun _ hk => hk.2) (.slice Ao9 q8o.length co9)) (fun _ hk => hk.1.2), by repeat (first | (with_reducible first | exact HB.out | apply qg | apply qc | apply qh | refine ql ?_ q0e.out | refine ql ?_ zgw.out) | exact HB.out)⟩
end Go.Proofs.YtpgkhmdfddejfaaDoor.PV
end
