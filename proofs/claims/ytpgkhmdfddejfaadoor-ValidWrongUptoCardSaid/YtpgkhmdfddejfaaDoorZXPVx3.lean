import Derived.Test.YtpgkhmdfddejfaaDoorZXPVx0
section
namespace Go.Proofs.YtpgkhmdfddejfaaDoor.PV
open Go.RowKit Go.Proofs.YtpgkhmdfddejfaaDoorW.PrintWords Go.Proofs.YtpgkhmdfddejfaaDoorW.PrintLast Go.Proofs.YtpgkhmdfddejfaaDoorW.PrintMore
attribute [local go_sem] qcn qcp qdi qdj qb6 qb7 qco qcq   -- for this text's walks alone
set_option linter.unusedVariables false
set_option linter.unusedSimpArgs false
mutual
def jq.l0 : Nat → Int → List (S30) → Int → Int → Option (Int)
 | 0, _, _, _, _ => none
 | k + 1, x3, x7, x8, x9 => if x9 < x8 then (if 0 ≤ x9 then (if x9 < (x7.length : Int) then ((jq.f k ((zb x7 x9).f0) ((zb x7 x9).f1) ((zb x7 x9).f2) ((zb x7 x9).f3) ((zb x7 x9).f4.f0) ((zb x7 x9).f4.f1) ((zb x7 x9).f4.f2) ((zb x7 x9).f4.f3) ((zb x7 x9).f5) ((zb x7 x9).f6)).bind fun t131 => (jq.l0 k (mx x3 t131) x7 x8 (wrap64 (x9 + 1)))) else (none)) else (none)) else (some (wrap64 (x3 + 1)))
def jq.f : Nat → Int → Int → Int → ByteArray → Int → Int → ByteArray → List (S27) → List (S30) → List (S27) → Option (Int)
 | 0, _, _, _, _, _, _, _, _, _, _ => none
 | k + 1, qw, qy, za, yg, ym, yf, yh, yj, qx, zx => jq.l0 k 0 qx (qx.length : Int) 0
end
theorem jq.qb2 : ∀ k, (∀ y0 y1 y2 y3 y4 y5 y6 y7 y8 y9, LeO (jq.f k y0 y1 y2 y3 y4 y5 y6 y7 y8 y9) (jq.f (k + 1) y0 y1 y2 y3 y4 y5 y6 y7 y8 y9)) ∧ (∀ y0 y1 y2 y3, LeO (jq.l0 k y0 y1 y2 y3) (jq.l0 (k + 1) y0 y1 y2 y3))
 | 0 => ⟨fun _ _ _ _ _ _ _ _ _ _ r h => by simp [jq.f] at h, fun _ _ _ _ r h => by simp [jq.l0] at h⟩
 | k + 1 => by
  obtain ⟨ih0, ih1⟩ := jq.qb2 k
  refine ⟨?_, ?_⟩
  ·intro y0 y1 y2 y3 y4 y5 y6 y7 y8 y9
   unfold jq.f
   repeat' first
   | (with_reducible exact ih0 _ _ _ _ _ _ _ _ _ _)
   | (with_reducible exact ih1 _ _ _ _)
   | (with_reducible exact LeO.refl _)
   | (with_reducible exact LeO.none _)
   | (with_reducible refine LeO.ite ?_ ?_)
   | (with_reducible refine LeO.bind ?_ (fun _ => ?_))
   | exact ih0 _ _ _ _ _ _ _ _ _ _
   | exact ih1 _ _ _ _
   | exact LeO.none _
   | refine LeO.ite ?_ ?_
   | refine LeO.bind ?_ (fun _ => ?_)
  ·intro y0 y1 y2 y3
   unfold jq.l0
   repeat' first
   | (with_reducible exact ih0 _ _ _ _ _ _ _ _ _ _)
   | (with_reducible exact ih1 _ _ _ _)
   | (with_reducible exact LeO.refl _)
   | (with_reducible exact LeO.none _)
   | (with_reducible refine LeO.ite ?_ ?_)
   | (with_reducible refine LeO.bind ?_ (fun _ => ?_))
   | exact ih0 _ _ _ _ _ _ _ _ _ _
   | exact ih1 _ _ _ _
   | exact LeO.none _
   | refine LeO.ite ?_ ?_
   | refine LeO.bind ?_ (fun _ => ?_)
theorem jq.mono : ∀ a0 a1 a2 a3 a4 a5 a6 a7 a8 a9 k, LeO (jq.f k a0 a1 a2 a3 a4 a5 a6 a7 a8 a9) (jq.f (k + 1) a0 a1 a2 a3 a4 a5 a6 a7 a8 a9) := by
 intro a0 a1 a2 a3 a4 a5 a6 a7 a8 a9 k
 obtain ⟨ih0, ih1⟩ := jq.qb2 k
 exact ih0 a0 a1 a2 a3 a4 a5 a6 a7 a8 a9
set_option maxHeartbeats 8000000 in
set_option maxRecDepth 100000 in
theorem jq.calls (k : Nat) : ∀ (qw : Int) (qy : Int) (za : Int) (yg : ByteArray) (ym : Int) (yf : Int) (yh : ByteArray) (qaa : Option Addr) (qab : Nat) (yj : List (S27)) (qai : Option Addr) (qaf : Nat) (qx : List (S30)) (qac : Option Addr) (vo : Nat) (zx : List (S27)) (r : Int) (w : World) (qkx : Kd.C k27 w qaa yj.length yj) (qkv : yj.length ≤ qab) (qky : Kd.C k30 w qai qx.length qx) (qkw : qx.length ≤ qaf) (qhy : Kd.C k27 w qac zx.length zx) (qhx : zx.length ≤ vo) (h : jq.f k qw qy za yg ym yf yh yj qx zx = some r),
  Calls Tryd.prog 42 #[.agg #[.int .i64 qw, .int .i64 qy, .int .i64 za, .string yg, .int .i64 ym, .int .i64 yf, .string yh, .slice qaa yj.length qab, .slice qai qx.length qaf, .slice qac zx.length vo]] w fun e w' => e = .returned (.int .i64 r) ∧ Below w.heap.size w w' := by
 induction k using Nat.strongRecOn with
 | _ k ih =>
 intro qw qy za yg ym yf yh qaa qab yj qai qaf qx qac vo zx r w qkx qkv qky qkw qhy qhx h
 cases k with
 | zero => exact absurd h (by simp [jq.f])
 | succ k =>
 simp only [jq.f] at h
 have qwm := Tryd.underlying30
 have qlc := qf.mk qkx
 have qla := qf.mk qkv
 clear qkx qkv
 have qs4 := qf.mk qky
 have q61 := qf.mk qkw
 clear qky qkw
 have qoh := qf.mk qhy
 have qwq := qf.mk qhx
 clear qhy qhx
 have HB := qf.mk (Below.refl w.heap.size w)
 have H : (jq.l0 k 0 qx (qx.length : Int) 0) = some r := h
 clear h
 have H' := qf.mk H
 clear H
 go_enter Tryd.func42, Tryd.ntmps42
 go_wp2_with (first | ((with_reducible refine qah (N := 1) rfl ?_); refine vk ?hg (N := 1) ?hd (cs := #[.int .i64 qw, .int .i64 qy, .int .i64 za, .string yg, .int .i64 ym, .int .i64 yf, .string yh, .slice qaa yj.length qab, .slice qai qx.length qaf, .slice qac zx.length vo]) (t := 30) ?hr ?_; (case hd => rfl); (case hg => rfl); (case hr => first | (go_simp; done) | (go_simp; rfl)); intro qh3 hg w2 hbox hb; have n0_ := qf.mk (zk (by repeat (first | (with_reducible first | exact HB.out | apply qg | apply qc | apply qh) | exact HB.out)) hb); have n1_ := qf.mk (hbox); have n2_ := qf.mk ((by rw [hg]; exact (zo (by repeat (first | (with_reducible first | exact HB.out | apply qg | apply qc | apply qh) | exact HB.out))) : w.heap.size ≤ qh3)); have n3_ := qf.mk ((by rw [hg]; exact (zo (by repeat (first | (with_reducible first | exact HB.out | apply qg | apply qc | apply qh) | exact HB.out))) : w.heap.size ≤ qh3)); clear HB; have HB := n0_; have qd0 := n1_; have z19 := n2_; have qwc := n3_; clear n0_ n1_ n2_ n3_; clear hb hbox hg; have zve : w2.cell? ⟨qh3, 0, none⟩ = some (.int .i64 qw) := (qb qd0.out 0).trans rfl; have zvf : w2.cell? ⟨qh3, 1, none⟩ = some (.int .i64 qy) := (qb qd0.out 1).trans rfl; have zvg : w2.cell? ⟨qh3, 2, none⟩ = some (.int .i64 za) := (qb qd0.out 2).trans rfl; have zvh : w2.cell? ⟨qh3, 3, none⟩ = some (.string yg) := (qb qd0.out 3).trans rfl; have zvi : w2.cell? ⟨qh3, 4, none⟩ = some (.int .i64 ym) := (qb qd0.out 4).trans rfl; have zvj : w2.cell? ⟨qh3, 5, none⟩ = some (.int .i64 yf) := (qb qd0.out 5).trans rfl; have zvk : w2.cell? ⟨qh3, 6, none⟩ = some (.string yh) := (qb qd0.out 6).trans rfl; have zvl : w2.cell? ⟨qh3, 7, none⟩ = some (.slice qaa yj.length qab) := (qb qd0.out 7).trans rfl; have zvm : w2.cell? ⟨qh3, 8, none⟩ = some (.slice qai qx.length qaf) := (qb qd0.out 8).trans rfl; have zvn : w2.cell? ⟨qh3, 9, none⟩ = some (.slice qac zx.length vo) := (qb qd0.out 9).trans rfl; have zvw := qa qd0.out 0; have zvx := qa qd0.out 1; have zvy := qa qd0.out 2; have zvz := qa qd0.out 3; have zv0 := qa qd0.out 4; have zv1 := qa qd0.out 5; have zv2 := qa qd0.out 6; have zv3 := qa qd0.out 7; have zv4 := qa qd0.out 8; have zv5 := qa qd0.out 9))
 go_loopg [3, 9] k (fun kq v3 v9 w' => ∃ (jk : Int) (qbt : Int), v3 = .int .i64 jk ∧ v9 = .int .i64 qbt ∧ qf (jq.l0 kq jk qx (qx.length : Int) qbt = some r) ∧ qf (kq ≤ k) ∧ qf (w'.heap[qh3]? = some (.cells #[.int .i64 qw, .int .i64 qy, .int .i64 za, .string yg, .int .i64 ym, .int .i64 yf, .string yh, (.slice qaa yj.length qab), (.slice qai qx.length qaf), (.slice qac zx.length vo)] 30 (0, 0))) ∧ qf (Below w.heap.size w w'))
 case atStart => exact ⟨(0), (0), (by first | rfl | (simp; done) | (simp [*]; done)), (by first | rfl | (simp; done) | (simp [*]; done)), H', ⟨Nat.le_refl _⟩, ⟨by (with_reducible repeat (first | refine qj ?_ _ | refine qo ?_ | refine qi ?_ _)); exact qd0.out⟩, ⟨by repeat (first | (with_reducible first | exact HB.out | apply qg | apply qc | apply qh | refine ql ?_ qwc.out) | exact HB.out)⟩⟩
 case round =>
  clear H'
  (try clear p2); (try clear zve zvf zvg zvh zvi zvj zvk zvl zvm zvn); (try clear zvw zvx zvy zvz zv0 zv1 zv2 zv3 zv4 zv5)
  obtain ⟨jk, qbt, rfl, rfl, HA, HK1, qd0, HB⟩ := hrel
  cases gk with
  | zero => exact absurd HA.out (by simp [jq.l0])
  | succ k1 =>
   have H := HA.out
   clear HA
   simp only [jq.l0] at H
   by_cases c4 : qbt < (qx.length : Int)
   ·rw [if_pos c4] at H
    have c4b0 : decide (qbt < (qx.length : Int)) = true := decide_eq_true c4
    clear c4
    by_cases c5 : 0 ≤ qbt
    ·rw [if_pos c5] at H
     have c5b0 : decide (0 ≤ qbt) = true := decide_eq_true c5
     clear c5
     by_cases c6 : qbt < (qx.length : Int)
     ·rw [if_pos c6] at H
      have c6b0 : decide (qbt < (qx.length : Int)) = true := decide_eq_true c6
      clear c6
      replace H := Option.bind_eq_some_iff.mp H
      obtain ⟨t131, A70, H⟩ := H
      replace H : (jq.l0 k1 (mx jk t131) qx (qx.length : Int) (wrap64 (qbt + 1))) = some r := H
      have A7 := qf.mk A70
      clear A70
      obtain ⟨ji8, zrt⟩ : ∃ j_ : Int, (mx jk t131) = j_ := ⟨_, rfl⟩
      replace H : (jq.l0 k1 ji8 qx (qx.length : Int) (wrap64 (qbt + 1))) = some r := by first | (rw [zrt] at H; exact H) | (simp only [zrt] at H ⊢; exact H)
      (try rw [zrt] at A7)
      have hji8_ : (if jk < t131 then t131 else jk) = ji8 := zrt
      have H' := qf.mk H
      clear H
      have zwh : 0 ≤ (qbt : Int) := of_decide_eq_true (by first | (with_reducible assumption) | assumption)
      have zwj : qbt < (qx.length : Int) := of_decide_eq_true (by first | (with_reducible assumption) | assumption)
      obtain ⟨zkb, q84, q9z, zic, ziq, zom, zo9, e129, zfp, zfq, zfr, zfs, zft, zfu, zfv, zfw, zfx, zfy, znx, znt, zny, znu, znz, znv⟩ := q65 qs4.out qbt zwh zwj
      cases e129
      replace zfp := (HB.out.cell (World.block_lt_of_cell? w _ zfp)).trans zfp
      replace zfq := (HB.out.cell (World.block_lt_of_cell? w _ zfq)).trans zfq
      replace zfr := (HB.out.cell (World.block_lt_of_cell? w _ zfr)).trans zfr
      replace zfs := (HB.out.cell (World.block_lt_of_cell? w _ zfs)).trans zfs
      replace zft := (HB.out.cell (World.block_lt_of_cell? w _ zft)).trans zft
      replace zfu := (HB.out.cell (World.block_lt_of_cell? w _ zfu)).trans zfu
      replace zfv := (HB.out.cell (World.block_lt_of_cell? w _ zfv)).trans zfv
      replace zfw := (HB.out.cell (World.block_lt_of_cell? w _ zfw)).trans zfw
      replace zfx := (HB.out.cell (World.block_lt_of_cell? w _ zfx)).trans zfx
      replace zfy := (HB.out.cell (World.block_lt_of_cell? w _ zfy)).trans zfy
      have zsb := qf.mk znt
      have zr6 := qf.mk znx
      clear znt znx
      have zsc := qf.mk znu
      have zr7 := qf.mk zny
      clear znu zny
      have zsd := qf.mk znv
      have zr8 := qf.mk znz
      clear znv znz
      replace zwh := eq_true zwh
      replace zwj := eq_true zwj
      go_wp2_with (first | ((with_reducible refine qah (N := 5) rfl ?_); refine vk ?hg (N := 5) ?hd (cs := #[.int .i64 0, .int .i64 0, .int .i64 0, .string (⟨#[]⟩ : ByteArray), .int .i64 0, .int .i64 0, .string (⟨#[]⟩ : ByteArray), .slice none 0 0, .slice none 0 0, .slice none 0 0]) (t := 30) ?hr ?_; (case hd => rfl); (case hg => rfl); (case hr => first | (go_simp; done) | (go_simp; rfl)); intro qma hg w9 hbox hb; have n0_ := qf.mk (zl (g := qh3) (o := .cells #[.int .i64 qw, .int .i64 qy, .int .i64 za, .string yg, .int .i64 ym, .int .i64 yf, .string yh, .slice qaa yj.length qab, .slice (some zkb) qx.length qaf, .slice qac zx.length vo] 30 (0, 0)) (by (with_reducible repeat (first | refine qj ?_ _ | refine qo ?_ | refine qi ?_ _)); exact qd0.out) hb); have n1_ := qf.mk (zk (by repeat (first | (with_reducible first | exact HB.out | apply qg | apply qc | apply qh | refine ql ?_ qwc.out) | exact HB.out)) hb); have n2_ := qf.mk (hbox); have n3_ := qf.mk ((by rw [hg]; exact (zo (by repeat (first | (with_reducible first | exact HB.out | apply qg | apply qc | apply qh | refine ql ?_ qwc.out) | exact HB.out))) : w.heap.size ≤ qma)); have n4_ := qf.mk ((by rw [hg]; exact (zo (by repeat (first | (with_reducible first | exact HB.out | apply qg | apply qc | apply qh | refine ql ?_ qwc.out) | exact HB.out))) : w.heap.size ≤ qma)); have n5_ := qf.mk ((by rw [hg]; exact Nat.ne_of_lt (qax (g := qh3) (o := .cells #[.int .i64 qw, .int .i64 qy, .int .i64 za, .string yg, .int .i64 ym, .int .i64 yf, .string yh, .slice qaa yj.length qab, .slice (some zkb) qx.length qaf, .slice qac zx.length vo] 30 (0, 0)) (by (with_reducible repeat (first | refine qj ?_ _ | refine qo ?_ | refine qi ?_ _)); exact qd0.out)) : qh3 ≠ qma)); have n6_ := qf.mk ((by rw [hg]; exact Nat.ne_of_gt (qax (g := qh3) (o := .cells #[.int .i64 qw, .int .i64 qy, .int .i64 za, .string yg, .int .i64 ym, .int .i64 yf, .string yh, .slice qaa yj.length qab, .slice (some zkb) qx.length qaf, .slice qac zx.length vo] 30 (0, 0)) (by (with_reducible repeat (first | refine qj ?_ _ | refine qo ?_ | refine qi ?_ _)); exact qd0.out)) : qma ≠ qh3)); clear qd0; clear HB; have qd0 := n0_; have HB := n1_; have qf3 := n2_; have z2a := n3_; have zgx := n4_; have qev := n5_; have zoc := n6_; clear n0_ n1_ n2_ n3_ n4_ n5_ n6_; clear hb hbox hg; have z2v := zoc.out; have z3h := qev.out; have qfr : w9.cell? ⟨qma, 0, none⟩ = some (.int .i64 0) := (qb qf3.out 0).trans rfl; have qfs : w9.cell? ⟨qma, 1, none⟩ = some (.int .i64 0) := (qb qf3.out 1).trans rfl; have qft : w9.cell? ⟨qma, 2, none⟩ = some (.int .i64 0) := (qb qf3.out 2).trans rfl; have qfu : w9.cell? ⟨qma, 3, none⟩ = some (.string (⟨#[]⟩ : ByteArray)) := (qb qf3.out 3).trans rfl; have zsh : w9.cell? ⟨qma, 4, none⟩ = some (.int .i64 0) := (qb qf3.out 4).trans rfl; have zsi : w9.cell? ⟨qma, 5, none⟩ = some (.int .i64 0) := (qb qf3.out 5).trans rfl; have zsj : w9.cell? ⟨qma, 6, none⟩ = some (.string (⟨#[]⟩ : ByteArray)) := (qb qf3.out 6).trans rfl; have zsk : w9.cell? ⟨qma, 7, none⟩ = some (.slice none 0 0) := (qb qf3.out 7).trans rfl; have zsl : w9.cell? ⟨qma, 8, none⟩ = some (.slice none 0 0) := (qb qf3.out 8).trans rfl; have zsm : w9.cell? ⟨qma, 9, none⟩ = some (.slice none 0 0) := (qb qf3.out 9).trans rfl; have qfv := qa qf3.out 0; have qfw := qa qf3.out 1; have qfx := qa qf3.out 2; have qfy := qa qf3.out 3; have ztg := qa qf3.out 4; have zth := qa qf3.out 5; have zti := qa qf3.out 6; have ztj := qa qf3.out 7; have ztk := qa qf3.out 8; have ztl := qa qf3.out 9) | ((with_reducible refine qaq (f := 42) rfl ?_); refine qcj (some 15) rfl rfl Tryd.func42 (by kernel_rfl) rfl #[.agg #[.int .i64 ((zb qx qbt).f0), .int .i64 ((zb qx qbt).f1), .int .i64 ((zb qx qbt).f2), .string ((zb qx qbt).f3), .int .i64 ((zb qx qbt).f4.f0), .int .i64 ((zb qx qbt).f4.f1), .string ((zb qx qbt).f4.f2), .slice q84 ((zb qx qbt).f4.f3).length q9z, .slice zic ((zb qx qbt).f5).length ziq, .slice zom ((zb qx qbt).f6).length zo9]] rfl (by (try simp only [List.map_toArray, List.map_cons, List.map_nil]); first | done | rfl | (simp only [List.length_drop, List.length_take]; rfl)) ?_; (with_reducible refine (ih k1 (by have := HK1.out; omega) ((zb qx qbt).f0) ((zb qx qbt).f1) ((zb qx qbt).f2) ((zb qx qbt).f3) ((zb qx qbt).f4.f0) ((zb qx qbt).f4.f1) ((zb qx qbt).f4.f2) _ _ ((zb qx qbt).f4.f3) _ _ ((zb qx qbt).f5) _ _ ((zb qx qbt).f6) t131 _ ?side1 ?side2 ?side3 ?side4 ?side5 ?side6 A7.out).mono ?_); (case side1 => exact Kd.vv zsb.out (by repeat (first | (with_reducible first | exact HB.out | apply qg | apply qc | apply qh | refine ql ?_ qwc.out | refine ql ?_ zgx.out) | exact HB.out))); (case side2 => exact zr6.out); (case side3 => exact Kd.vv zsc.out (by repeat (first | (with_reducible first | exact HB.out | apply qg | apply qc | apply qh | refine ql ?_ qwc.out | refine ql ?_ zgx.out) | exact HB.out))); (case side4 => exact zr7.out); (case side5 => exact Kd.vv zsd.out (by repeat (first | (with_reducible first | exact HB.out | apply qg | apply qc | apply qh | refine ql ?_ qwc.out | refine ql ?_ zgx.out) | exact HB.out))); (case side6 => exact zr8.out); rintro e w12 ⟨rfl, hb⟩; refine ⟨_, rfl, ?_⟩; have n0_ := qf.mk (zl (g := qh3) (o := .cells #[.int .i64 qw, .int .i64 qy, .int .i64 za, .string yg, .int .i64 ym, .int .i64 yf, .string yh, .slice qaa yj.length qab, .slice (some zkb) qx.length qaf, .slice qac zx.length vo] 30 (0, 0)) (by (with_reducible repeat (first | refine qj ?_ _ | refine qo ?_ | refine qi ?_ _)); refine jb ?_ qev.out _; (with_reducible repeat (first | refine qj ?_ _ | refine qo ?_ | refine qi ?_ _)); refine jb ?_ qev.out _; (with_reducible repeat (first | refine qj ?_ _ | refine qo ?_ | refine qi ?_ _)); refine jb ?_ qev.out _; (with_reducible repeat (first | refine qj ?_ _ | refine qo ?_ | refine qi ?_ _)); refine jb ?_ qev.out _; (with_reducible repeat (first | refine qj ?_ _ | refine qo ?_ | refine qi ?_ _)); refine jb ?_ qev.out _; (with_reducible repeat (first | refine qj ?_ _ | refine qo ?_ | refine qi ?_ _)); refine jb ?_ qev.out _; (with_reducible repeat (first | refine qj ?_ _ | refine qo ?_ | refine qi ?_ _)); refine jb ?_ qev.out _; (with_reducible repeat (first | refine qj ?_ _ | refine qo ?_ | refine qi ?_ _)); refine jb ?_ qev.out _; (with_reducible repeat (first | refine qj ?_ _ | refine qo ?_ | refine qi ?_ _)); refine jb ?_ qev.out _; (with_reducible repeat (first | refine qj ?_ _ | refine qo ?_ | refine qi ?_ _)); refine jb ?_ qev.out _; (with_reducible repeat (first | refine qj ?_ _ | refine qo ?_ | refine qi ?_ _)); exact qd0.out) hb); have n1_ := qf.mk (zl (g := qma) (o := .cells #[.int .i64 ((zb qx qbt).f0), .int .i64 ((zb qx qbt).f1), .int .i64 ((zb qx qbt).f2), .string ((zb qx qbt).f3), .int .i64 ((zb qx qbt).f4.f0), .int .i64 ((zb qx qbt).f4.f1), .string ((zb qx qbt).f4.f2), .slice q84 ((zb qx qbt).f4.f3).length q9z, .slice zic ((zb qx qbt).f5).length ziq, .slice zom ((zb qx qbt).f6).length zo9] 30 (0, 0)) (by (with_reducible repeat (first | refine qj ?_ _ | refine qo ?_ | refine qi ?_ _)); refine jc (cs := #[.int .i64 ((zb qx qbt).f0), .int .i64 ((zb qx qbt).f1), .int .i64 ((zb qx qbt).f2), .string ((zb qx qbt).f3), .int .i64 ((zb qx qbt).f4.f0), .int .i64 ((zb qx qbt).f4.f1), .string ((zb qx qbt).f4.f2), .slice q84 ((zb qx qbt).f4.f3).length q9z, .slice zic ((zb qx qbt).f5).length ziq, .slice none 0 0]) ?_ 9 _ rfl; (with_reducible repeat (first | refine qj ?_ _ | refine qo ?_ | refine qi ?_ _)); refine jc (cs := #[.int .i64 ((zb qx qbt).f0), .int .i64 ((zb qx qbt).f1), .int .i64 ((zb qx qbt).f2), .string ((zb qx qbt).f3), .int .i64 ((zb qx qbt).f4.f0), .int .i64 ((zb qx qbt).f4.f1), .string ((zb qx qbt).f4.f2), .slice q84 ((zb qx qbt).f4.f3).length q9z, .slice none 0 0, .slice none 0 0]) ?_ 8 _ rfl; (with_reducible repeat (first | refine qj ?_ _ | refine qo ?_ | refine qi ?_ _)); refine jc (cs := #[.int .i64 ((zb qx qbt).f0), .int .i64 ((zb qx qbt).f1), .int .i64 ((zb qx qbt).f2), .string ((zb qx qbt).f3), .int .i64 ((zb qx qbt).f4.f0), .int .i64 ((zb qx qbt).f4.f1), .string ((zb qx qbt).f4.f2), .slice none 0 0, .slice none 0 0, .slice none 0 0]) ?_ 7 _ rfl; (with_reducible repeat (first | refine qj ?_ _ | refine qo ?_ | refine qi ?_ _)); refine jc (cs := #[.int .i64 ((zb qx qbt).f0), .int .i64 ((zb qx qbt).f1), .int .i64 ((zb qx qbt).f2), .string ((zb qx qbt).f3), .int .i64 ((zb qx qbt).f4.f0), .int .i64 ((zb qx qbt).f4.f1), .string (⟨#[]⟩ : ByteArray), .slice none 0 0, .slice none 0 0, .slice none 0 0]) ?_ 6 _ rfl; (with_reducible repeat (first | refine qj ?_ _ | refine qo ?_ | refine qi ?_ _)); refine jc (cs := #[.int .i64 ((zb qx qbt).f0), .int .i64 ((zb qx qbt).f1), .int .i64 ((zb qx qbt).f2), .string ((zb qx qbt).f3), .int .i64 ((zb qx qbt).f4.f0), .int .i64 0, .string (⟨#[]⟩ : ByteArray), .slice none 0 0, .slice none 0 0, .slice none 0 0]) ?_ 5 _ rfl; (with_reducible repeat (first | refine qj ?_ _ | refine qo ?_ | refine qi ?_ _)); refine jc (cs := #[.int .i64 ((zb qx qbt).f0), .int .i64 ((zb qx qbt).f1), .int .i64 ((zb qx qbt).f2), .string ((zb qx qbt).f3), .int .i64 0, .int .i64 0, .string (⟨#[]⟩ : ByteArray), .slice none 0 0, .slice none 0 0, .slice none 0 0]) ?_ 4 _ rfl; (with_reducible repeat (first | refine qj ?_ _ | refine qo ?_ | refine qi ?_ _)); refine jc (cs := #[.int .i64 ((zb qx qbt).f0), .int .i64 ((zb qx qbt).f1), .int .i64 ((zb qx qbt).f2), .string (⟨#[]⟩ : ByteArray), .int .i64 0, .int .i64 0, .string (⟨#[]⟩ : ByteArray), .slice none 0 0, .slice none 0 0, .slice none 0 0]) ?_ 3 _ rfl; (with_reducible repeat (first | refine qj ?_ _ | refine qo ?_ | refine qi ?_ _)); refine jc (cs := #[.int .i64 ((zb qx qbt).f0), .int .i64 ((zb qx qbt).f1), .int .i64 0, .string (⟨#[]⟩ : ByteArray), .int .i64 0, .int .i64 0, .string (⟨#[]⟩ : ByteArray), .slice none 0 0, .slice none 0 0, .slice none 0 0]) ?_ 2 _ rfl; (with_reducible repeat (first | refine qj ?_ _ | refine qo ?_ | refine qi ?_ _)); refine jc (cs := #[.int .i64 ((zb qx qbt).f0), .int .i64 0, .int .i64 0, .string (⟨#[]⟩ : ByteArray), .int .i64 0, .int .i64 0, .string (⟨#[]⟩ : ByteArray), .slice none 0 0, .slice none 0 0, .slice none 0 0]) ?_ 1 _ rfl; (with_reducible repeat (first | refine qj ?_ _ | refine qo ?_ | refine qi ?_ _)); refine jc (cs := #[.int .i64 0, .int .i64 0, .int .i64 0, .string (⟨#[]⟩ : ByteArray), .int .i64 0, .int .i64 0, .string (⟨#[]⟩ : ByteArray), .slice none 0 0, .slice none 0 0, .slice none 0 0]) ?_ 0 _ rfl; (with_reducible repeat (first | refine qj ?_ _ | refine qo ?_ | refine qi ?_ _)); exact qf3.out) hb); have n2_ := qf.mk (zk (by repeat (first | (with_reducible first | exact HB.out | apply qg | apply qc | apply qh | refine ql ?_ qwc.out | refine ql ?_ zgx.out) | exact HB.out)) hb); clear qd0; clear qf3; clear HB; have qd0 := n0_; have qf3 := n1_; have HB := n2_; clear n0_ n1_ n2_; (try clear hb); (try clear hb2); (try clear hk); (try clear hi)))
      go_roundg k1
      case measure => have := HK1.out; omega
      case rel => exact ⟨(ji8), (wrap64 (qbt + 1)), (by first | rfl | (simp; done) | (simp only [← zrt] <;> (first | rfl | simp)) | (simp [*]; done)), (by first | rfl | (simp; done) | (simp [*]; done)), H', ⟨by have := HK1.out; omega⟩, ⟨by (with_reducible repeat (first | refine qj ?_ _ | refine qo ?_ | refine qi ?_ _)); exact qd0.out⟩, ⟨by repeat (first | (with_reducible first | exact HB.out | apply qg | apply qc | apply qh | refine ql ?_ qwc.out | refine ql ?_ zgx.out) | exact HB.out)⟩⟩
     ·rw [if_neg c6] at H
      exact absurd H (by simp)
    ·rw [if_neg c5] at H
     exact absurd H (by simp)
   ·rw [if_neg c4] at H
    have c4b0 : decide (qbt < (qx.length : Int)) = false := decide_eq_false c4
    clear c4
    obtain rfl := Option.some.inj H
    go_wp2
    go_ret
    exact ⟨by first | rfl | (simp [zg, zh] <;> rfl) | (simp [*, zg, zh] <;> rfl), by repeat (first | (with_reducible first | exact HB.out | apply qg | apply qc | apply qh | refine ql ?_ qwc.out) | exact HB.out)⟩
def jw.j0 : Nat → Int → Int → Bool → Option (Bool)
 | 0, _, _, _ => none
 | k + 1, x1, x5, x6 => if x6 = true then (if x1 ≥ 1 then (some (decide (x1 ≤ 16))) else (some false)) else (if x5 = 5 then (some (x1 == 1)) else (if x5 = 6 then (some (x1 == 1)) else (some (x1 == 0))))
def jw.f (k : Nat) (a0 : Int) (a1 : Int) : Option (Bool) := if a0 = 0 then (jw.j0 k a1 a0 (a0 == 0)) else (if a0 = 1 then (jw.j0 k a1 a0 (a0 == 1)) else (if a0 = 2 then (jw.j0 k a1 a0 (a0 == 2)) else (if a0 = 3 then (jw.j0 k a1 a0 (a0 == 3)) else (if a0 = 4 then (jw.j0 k a1 a0 (a0 == 4)) else (jw.j0 k a1 a0 (a0 == 11))))))
theorem jw.qb2 : ∀ k, (∀ y0 y1 y2, LeO (jw.j0 k y0 y1 y2) (jw.j0 (k + 1) y0 y1 y2))
 | 0 => fun _ _ _ r h => by simp [jw.j0] at h
 | k + 1 => by
  have ih0 := jw.qb2 k
  ·intro y0 y1 y2
   unfold jw.j0
   repeat' first
   | (with_reducible exact ih0 _ _ _)
   | (with_reducible exact LeO.refl _)
   | (with_reducible exact LeO.none _)
   | (with_reducible refine LeO.ite ?_ ?_)
   | (with_reducible refine LeO.bind ?_ (fun _ => ?_))
   | exact ih0 _ _ _
   | exact LeO.none _
   | refine LeO.ite ?_ ?_
   | refine LeO.bind ?_ (fun _ => ?_)
theorem jw.mono : ∀ a0 a1 k, LeO (jw.f k a0 a1) (jw.f (k + 1) a0 a1) := by
 intro a0 a1 k
 have ih0 := jw.qb2 k
 unfold jw.f
 repeat' first
   | (with_reducible exact ih0 _ _ _)
   | (with_reducible exact LeO.refl _)
   | (with_reducible exact LeO.none _)
   | (with_reducible refine LeO.ite ?_ ?_)
   | (with_reducible refine LeO.bind ?_ (fun _ => ?_))
   | exact ih0 _ _ _
   | exact LeO.none _
   | refine LeO.ite ?_ ?_
   | refine LeO.bind ?_ (fun _ => ?_)
set_option maxHeartbeats 8000000 in
set_option maxRecDepth 100000 in
theorem jw.calls (k : Nat) (a0 : Int) (a1 : Int) (r : Bool) (w : World) (h : jw.f k a0 a1 = some r) :
  Calls Tryd.prog 67 #[.int .i64 a0, .int .i64 a1] w fun e w' => e = .returned (.bool r) ∧ yx w w' := by
 have H : (if a0 = 0 then (jw.j0 k a1 a0 (a0 == 0)) else (if a0 = 1 then (jw.j0 k a1 a0 (a0 == 1)) else (if a0 = 2 then (jw.j0 k a1 a0 (a0 == 2)) else (if a0 = 3 then (jw.j0 k a1 a0 (a0 == 3)) else (if a0 = 4 then (jw.j0 k a1 a0 (a0 == 4)) else (jw.j0 k a1 a0 (a0 == 11))))))) = some r := h
 clear h
 have HC3 := qf.mk H
 clear H
 go_enter Tryd.func67, Tryd.ntmps67
 go_upto_if 6 with (fail)
 go_cut [6] (fun v6 wc => ∃ (kq : Nat) (zt8 : Bool), v6 = .bool zt8 ∧ qf (jw.j0 kq a1 a0 zt8 = some r) ∧ qf (kq ≤ k) ∧ yx w wc)
 case first =>
  have H := HC3.out
  clear HC3
  by_cases c4 : a0 = 0
  ·rw [if_pos c4] at H
   have c4b0 : (a0 == 0) = true := beq_iff_eq.mpr c4
   have c4b1 : (a0 != 0) = false := bne_eq_false_iff_eq.mpr c4
   clear c4
   (first | rw [c4b0] | (simp only [vz, vw]; rw [c4b0]) | skip)
   have H' := qf.mk H
   clear H
   go_wp2
   go_meet
   case rel => exact ⟨_, ((a0 == 0)), (by first | rfl | (simp; done) | (simp [*]; done)), H', ⟨by first | omega | exact Nat.le_refl _⟩, by repeat (first | exact yx.refl _ | apply yx.step)⟩
  ·rw [if_neg c4] at H
   have c4b0 : (a0 == 0) = false := beq_eq_false_iff_ne.mpr c4
   have c4b1 : (a0 != 0) = true := bne_iff_ne.mpr c4
   (first | rw [c4b0] | (simp only [vz, vw]; rw [c4b0]) | skip)
   by_cases c5 : a0 = 1
   ·rw [if_pos c5] at H
    have c5b0 : (a0 == 1) = true := beq_iff_eq.mpr c5
    have c5b1 : (a0 != 1) = false := bne_eq_false_iff_eq.mpr c5
    clear c5
    have H' := qf.mk H
    clear H
    go_wp2
    go_meet
    case rel => exact ⟨_, ((a0 == 1)), (by first | rfl | (simp; done) | (simp [*]; done)), H', ⟨by first | omega | exact Nat.le_refl _⟩, by repeat (first | exact yx.refl _ | apply yx.step)⟩
   ·rw [if_neg c5] at H
    have c5b0 : (a0 == 1) = false := beq_eq_false_iff_ne.mpr c5
    have c5b1 : (a0 != 1) = true := bne_iff_ne.mpr c5
    by_cases c6 : a0 = 2
    ·rw [if_pos c6] at H
     have c6b0 : (a0 == 2) = true := beq_iff_eq.mpr c6
     have c6b1 : (a0 != 2) = false := bne_eq_false_iff_eq.mpr c6
     clear c6
     have H' := qf.mk H
     clear H
     go_wp2
     go_meet
     case rel => exact ⟨_, ((a0 == 2)), (by first | rfl | (simp; done) | (simp [*]; done)), H', ⟨by first | omega | exact Nat.le_refl _⟩, by repeat (first | exact yx.refl _ | apply yx.step)⟩
    ·rw [if_neg c6] at H
     have c6b0 : (a0 == 2) = false := beq_eq_false_iff_ne.mpr c6
     have c6b1 : (a0 != 2) = true := bne_iff_ne.mpr c6
     by_cases c7 : a0 = 3
     ·rw [if_pos c7] at H
      have c7b0 : (a0 == 3) = true := beq_iff_eq.mpr c7
      have c7b1 : (a0 != 3) = false := bne_eq_false_iff_eq.mpr c7
      clear c7
      have H' := qf.mk H
      clear H
      go_wp2
      go_meet
      case rel => exact ⟨_, ((a0 == 3)), (by first | rfl | (simp; done) | (simp [*]; done)), H', ⟨by first | omega | exact Nat.le_refl _⟩, by repeat (first | exact yx.refl _ | apply yx.step)⟩
     ·rw [if_neg c7] at H
      have c7b0 : (a0 == 3) = false := beq_eq_false_iff_ne.mpr c7
      have c7b1 : (a0 != 3) = true := bne_iff_ne.mpr c7
      by_cases c8 : a0 = 4
      ·rw [if_pos c8] at H
       have c8b0 : (a0 == 4) = true := beq_iff_eq.mpr c8
       have c8b1 : (a0 != 4) = false := bne_eq_false_iff_eq.mpr c8
       clear c8
       have H' := qf.mk H
       clear H
       go_wp2
       go_meet
       case rel => exact ⟨_, ((a0 == 4)), (by first | rfl | (simp; done) | (simp [*]; done)), H', ⟨by first | omega | exact Nat.le_refl _⟩, by repeat (first | exact yx.refl _ | apply yx.step)⟩
      ·rw [if_neg c8] at H
       have c8b0 : (a0 == 4) = false := beq_eq_false_iff_ne.mpr c8
       have c8b1 : (a0 != 4) = true := bne_iff_ne.mpr c8
       have H' := qf.mk H
       clear H
       go_wp2
       go_meet
       case rel => exact ⟨_, ((a0 == 11)), (by first | rfl | (simp; done) | (simp [*]; done)), H', ⟨by first | omega | exact Nat.le_refl _⟩, by repeat (first | exact yx.refl _ | apply yx.step)⟩
 case rest =>
  clear HC3
  (try clear p2); (try clear c4); (try clear c4b0); (try clear c4b1); (try clear c5); (try clear c5b0); (try clear c5b1); (try clear c6); (try clear c6b0); (try clear c6b1); (try clear c7); (try clear c7b0); (try clear c7b1); (try clear c8); (try clear c8b0); (try clear c8b1)
  obtain ⟨kq, zt8, rfl, HA, HJ2, ⟨mc2, rfl⟩⟩ := hcut
  cases kq with
  | zero => exact absurd HA.out (by simp [jw.j0])
  | succ kj2 =>
   have H := HA.out
   clear HA
   simp only [jw.j0] at H
   by_cases c9 : zt8 = true
   ·subst c9
    have H1 : (if a1 ≥ 1 then (some (decide (a1 ≤ 16))) else (some false)) = some r := by rw [if_pos rfl] at H; exact H
    clear H
    have H := H1
    clear H1
    by_cases c10 : a1 ≥ 1
    ·rw [if_pos c10] at H
     have c10b0 : decide (1 ≤ a1) = true := decide_eq_true c10
     clear c10
     obtain rfl := Option.some.inj H
     go_wp2
     go_ret
     exact ⟨by first | rfl | (simp; done) | (simp [*]; done), by repeat (first | exact yx.refl _ | apply yx.step)⟩
    ·rw [if_neg c10] at H
     have c10b0 : decide (1 ≤ a1) = false := decide_eq_false c10
     clear c10
     obtain rfl := Option.some.inj H
     go_wp2
     go_ret
     exact ⟨by first | rfl | (simp; done) | (simp [*]; done), by repeat (first | exact yx.refl _ | apply yx.step)⟩
   ·replace c9 := Bool.eq_false_iff.mpr c9
    subst c9
    have H1 : (if a0 = 5 then (some (a1 == 1)) else (if a0 = 6 then (some (a1 == 1)) else (some (a1 == 0)))) = some r := by rw [if_neg (show ¬ (false = true) by decide)] at H; exact H
    clear H
    have H := H1
    clear H1
    by_cases c11 : a0 = 5
    ·rw [if_pos c11] at H
     have c11b0 : (a0 == 5) = true := beq_iff_eq.mpr c11
     have c11b1 : (a0 != 5) = false := bne_eq_false_iff_eq.mpr c11
     clear c11
     obtain rfl := Option.some.inj H
     go_wp2
     go_ret
     exact ⟨by first | rfl | (simp; done) | (simp [*]; done), by repeat (first | exact yx.refl _ | apply yx.step)⟩
    ·rw [if_neg c11] at H
     have c11b0 : (a0 == 5) = false := beq_eq_false_iff_ne.mpr c11
     have c11b1 : (a0 != 5) = true := bne_iff_ne.mpr c11
     by_cases c12 : a0 = 6
     ·rw [if_pos c12] at H
      have c12b0 : (a0 == 6) = true := beq_iff_eq.mpr c12
      have c12b1 : (a0 != 6) = false := bne_eq_false_iff_eq.mpr c12
      clear c12
      obtain rfl := Option.some.inj H
      go_wp2
      go_ret
      exact ⟨by first | rfl | (simp; done) | (simp [*]; done), by repeat (first | exact yx.refl _ | apply yx.step)⟩
     ·rw [if_neg c12] at H
      have c12b0 : (a0 == 6) = false := beq_eq_false_iff_ne.mpr c12
      have c12b1 : (a0 != 6) = true := bne_iff_ne.mpr c12
      obtain rfl := Option.some.inj H
      go_wp2
      go_ret
      exact ⟨by first | rfl | (simp; done) | (simp [*]; done), by repeat (first | exact yx.refl _ | apply yx.step)⟩
def qbx.f (a0 : Int) (a1 : Int) (a2 : Int) : Option (Int) := some (mx a1 (mn a0 a2))
set_option maxHeartbeats 8000000 in
set_option maxRecDepth 100000 in
theorem qbx.calls (a0 : Int) (a1 : Int) (a2 : Int) (r : Int) (w : World) (h : qbx.f a0 a1 a2 = some r) :
  Calls Tryd.prog 80 #[.int .i64 a0, .int .i64 a1, .int .i64 a2] w fun e w' => e = .returned (.int .i64 r) ∧ Below w.heap.size w w' := by
 have HB := qf.mk (Below.refl w.heap.size w)
 have H : (some (mx a1 (mn a0 a2))) = some r := h
 clear h
 obtain ⟨ji4, zty⟩ : ∃ j_ : Int, (mn a0 a2) = j_ := ⟨_, rfl⟩
 replace H : (some (mx a1 (ji4))) = some r := by first | (rw [zty] at H; exact H) | (simp only [zty] at H ⊢; exact H)
 have hji4_ : (if a2 < a0 then a2 else a0) = ji4 := zty
 obtain ⟨ji5, ztz⟩ : ∃ j_ : Int, (mx a1 (ji4)) = j_ := ⟨_, rfl⟩
 replace H : (some ji5) = some r := by first | (rw [ztz] at H; exact H) | (simp only [ztz] at H ⊢; exact H)
 have hji5_ : (if a1 < (ji4) then (ji4) else a1) = ji5 := ztz
 obtain rfl := Option.some.inj H
 go_enter Tryd.func80, Tryd.ntmps80
 go_wp2
 go_ret
 exact ⟨by first | rfl | (simp [zg, zh] <;> rfl) | (simp only [← zty, ← ztz]; first | rfl | (simp [zg, zh] <;> rfl)) | (simp [*, zg, zh] <;> rfl), by repeat (first | (with_reducible first | exact HB.out | apply qg | apply qc | apply qh) | exact HB.out)⟩
def qbi.f (qw : Int) (qy : Int) (za : Int) (yg : ByteArray) (ym : Int) (yf : Int) (yh : ByteArray) (yj : List (S27)) (qx : List (S30)) (zx : List (S27)) : Option (Bool) := if qw = 4 then ((qbx.f qy 1 (qx.length : Int)).bind fun q0a => ((qbx.f za 1 (qx.length : Int)).bind fun zga => (if qy = q0a then (some (za == zga)) else (some false)))) else (if qw = 6 then ((qbx.f qy 1 1000).bind fun q0j => (if qy = q0j then (some (za == 0)) else (some false))) else (if qy = 0 then (some (za == 0)) else (some false)))
def qbi.T4 : Bool × List (List Nat × List Nat) := (true, [([], []), ([0], [0]), ([], []), ([2], [2]), ([3], [3]), ([1, 4], [1, 4]), ([], []), ([6], [6]), ([], []), ([8], [8]), ([9], [9]), ([7, 10, 5], [7, 10]), ([5, 11, 0, 1, 2, 3, 4, 5], [5]), ([11, 12, 0, 1, 2, 3, 4, 5, 6, 7, 8, 9, 10, 11, 12], [11])])
def qbi.B4 : List Nat := [0, 1, 0, 4, 12, 31, 0, 64, 0, 256, 768, 2047, 4095, 8191]
theorem qbi.tab4 : rtab .any (opsOf Tryd.f68 4) = qbi.T4 := by kernel_rfl
theorem qbi.zkc : ql3 qbi.T4.2 qbi.B4 = true := by kernel_rfl
set_option maxHeartbeats 8000000 in
set_option maxRecDepth 100000 in
theorem qbi.calls (qw : Int) (qy : Int) (za : Int) (yg : ByteArray) (ym : Int) (yf : Int) (yh : ByteArray) (qaa : Option Addr) (qab : Nat) (yj : List (S27)) (qai : Option Addr) (qaf : Nat) (qx : List (S30)) (qac : Option Addr) (vo : Nat) (zx : List (S27)) (r : Bool) (w : World) (qkx : Kd.C k27 w qaa yj.length yj) (qkv : yj.length ≤ qab) (qky : Kd.C k30 w qai qx.length qx) (qkw : qx.length ≤ qaf) (qhy : Kd.C k27 w qac zx.length zx) (qhx : zx.length ≤ vo) (h : qbi.f qw qy za yg ym yf yh yj qx zx = some r) :
  Calls Tryd.prog 68 #[.agg #[.int .i64 qw, .int .i64 qy, .int .i64 za, .string yg, .int .i64 ym, .int .i64 yf, .string yh, .slice qaa yj.length qab, .slice qai qx.length qaf, .slice qac zx.length vo]] w fun e w' => e = .returned (.bool r) ∧ Below w.heap.size w w' := by
 have qwm := Tryd.underlying30
 have qlc := qf.mk qkx
 have qla := qf.mk qkv
 clear qkx qkv
 have qs4 := qf.mk qky
 have q61 := qf.mk qkw
 clear qky qkw
 have qoh := qf.mk qhy
 have qwq := qf.mk qhx
 clear qhy qhx
 have HB := qf.mk (Below.refl w.heap.size w)
 have H : (if qw = 4 then ((qbx.f qy 1 (qx.length : Int)).bind fun q0a => ((qbx.f za 1 (qx.length : Int)).bind fun zga => (if qy = q0a then (some (za == zga)) else (some false)))) else (if qw = 6 then ((qbx.f qy 1 1000).bind fun q0j => (if qy = q0j then (some (za == 0)) else (some false))) else (if qy = 0 then (some (za == 0)) else (some false)))) = some r := h
 clear h
 by_cases c2 : qw = 4
 ·rw [if_pos c2] at H
  have c2b0 : (qw == 4) = true := beq_iff_eq.mpr c2
  have c2b1 : (qw != 4) = false := bne_eq_false_iff_eq.mpr c2
  clear c2
  replace H := Option.bind_eq_some_iff.mp H
  obtain ⟨q0a, A30, H⟩ := H
  replace H : ((qbx.f za 1 (qx.length : Int)).bind fun zga => (if qy = q0a then (some (za == zga)) else (some false))) = some r := H
  have A3 := qf.mk A30
  clear A30
  replace H := Option.bind_eq_some_iff.mp H
  obtain ⟨zga, A40, H⟩ := H
  replace H : (if qy = q0a then (some (za == zga)) else (some false)) = some r := H
  have A4 := qf.mk A40
  clear A40
  by_cases c5 : qy = q0a
  ·rw [if_pos c5] at H
   have c5b0 : (qy == q0a) = true := beq_iff_eq.mpr c5
   have c5b1 : (qy != q0a) = false := bne_eq_false_iff_eq.mpr c5
   clear c5
   obtain rfl := Option.some.inj H
   go_enter Tryd.func68, Tryd.ntmps68
   try go_wp2_with (first | ((with_reducible refine qah (N := 1) rfl ?_); refine vk ?hg (N := 1) ?hd (cs := #[.int .i64 qw, .int .i64 qy, .int .i64 za, .string yg, .int .i64 ym, .int .i64 yf, .string yh, .slice qaa yj.length qab, .slice qai qx.length qaf, .slice qac zx.length vo]) (t := 30) ?hr ?_; (case hd => rfl); (case hg => rfl); (case hr => first | (go_simp; done) | (go_simp; rfl)); intro jo hg w6 hbox hb; have n0_ := qf.mk (zk (by repeat (first | (with_reducible first | exact HB.out | apply qg | apply qc | apply qh) | exact HB.out)) hb); have n1_ := qf.mk (hbox); have n2_ := qf.mk ((by rw [hg]; exact (zo (by repeat (first | (with_reducible first | exact HB.out | apply qg | apply qc | apply qh) | exact HB.out))) : w.heap.size ≤ jo)); have n3_ := qf.mk ((by rw [hg]; exact (zo (by repeat (first | (with_reducible first | exact HB.out | apply qg | apply qc | apply qh) | exact HB.out))) : w.heap.size ≤ jo)); clear HB; have HB := n0_; have zw := n1_; have zgy := n2_; have qks := n3_; clear n0_ n1_ n2_ n3_; clear hb hbox hg; have qf7 : w6.cell? ⟨jo, 0, none⟩ = some (.int .i64 qw) := (qb zw.out 0).trans rfl; have qf8 : w6.cell? ⟨jo, 1, none⟩ = some (.int .i64 qy) := (qb zw.out 1).trans rfl; have qf9 : w6.cell? ⟨jo, 2, none⟩ = some (.int .i64 za) := (qb zw.out 2).trans rfl; have qga : w6.cell? ⟨jo, 3, none⟩ = some (.string yg) := (qb zw.out 3).trans rfl; have qh5 : w6.cell? ⟨jo, 4, none⟩ = some (.int .i64 ym) := (qb zw.out 4).trans rfl; have qh6 : w6.cell? ⟨jo, 5, none⟩ = some (.int .i64 yf) := (qb zw.out 5).trans rfl; have qh7 : w6.cell? ⟨jo, 6, none⟩ = some (.string yh) := (qb zw.out 6).trans rfl; have qh8 : w6.cell? ⟨jo, 7, none⟩ = some (.slice qaa yj.length qab) := (qb zw.out 7).trans rfl; have qh9 : w6.cell? ⟨jo, 8, none⟩ = some (.slice qai qx.length qaf) := (qb zw.out 8).trans rfl; have qia : w6.cell? ⟨jo, 9, none⟩ = some (.slice qac zx.length vo) := (qb zw.out 9).trans rfl; have qdu := qa zw.out 0; have qdv := qa zw.out 1; have qdw := qa zw.out 2; have qdx := qa zw.out 3; have qfl := qa zw.out 4; have qfm := qa zw.out 5; have qfn := qa zw.out 6; have qfo := qa zw.out 7; have qfp := qa zw.out 8; have qfq := qa zw.out 9))
   have n0_ := qf.mk (qo zw.out)
   have n1_ := qf.mk (qh HB.out)
   clear zw
   clear HB
   have zw := n0_
   have HB := n1_
   clear n0_ n1_
   refine qwo (n := 14) (S := fun w' => w'.cell? ⟨jo, 0, none⟩ = some (.int .i64 qw) ∧ w'.cell? ⟨jo, 1, none⟩ = some (.int .i64 qy) ∧ w'.cell? ⟨jo, 2, none⟩ = some (.int .i64 za) ∧ w'.cell? ⟨jo, 3, none⟩ = some (.string yg) ∧ w'.cell? ⟨jo, 4, none⟩ = some (.int .i64 ym) ∧ w'.cell? ⟨jo, 5, none⟩ = some (.int .i64 yf) ∧ w'.cell? ⟨jo, 6, none⟩ = some (.string yh) ∧ w'.cell? ⟨jo, 7, none⟩ = some (.slice qaa yj.length qab) ∧ w'.cell? ⟨jo, 8, none⟩ = some (.slice qai qx.length qaf) ∧ w'.cell? ⟨jo, 9, none⟩ = some (.slice qac zx.length vo)) (ds := []) #[false, false, false, false, false, false, false, false, false, false, false, false, false, false] (by kernel_rfl) rfl rfl ⟨(qb zw.out 0).trans rfl, (qb zw.out 1).trans rfl, (qb zw.out 2).trans rfl, (qb zw.out 3).trans rfl, (qb zw.out 4).trans rfl, (qb zw.out 5).trans rfl, (qb zw.out 6).trans rfl, (qb zw.out 7).trans rfl, (qb zw.out 8).trans rfl, (qb zw.out 9).trans rfl⟩ (fun hHeld => ?_); refine qjl qbi.tab4 qbi.zkc (fun HT_ HW_ => ?_)
   generalize w6.drew = w8 at zw HB hHeld ⊢
   refine qcb (i := 0) (N := some 9) (v := ?_) (a' := ?_) #[true, false, false, false, false, false, false, false, false, false, false, false, false, false] rfl rfl (qbr HT_.out (by kernel_rfl)) (fun _ _ _ h => h) (Or.inl ⟨by rfl, ?_⟩) ?_ ?_
   rotate_left
   ·intro w'
    go_simp
    with_reducible rfl
   rotate_left
   ·simp only [Act.put, List.setIfInBounds_toArray, List.set_cons_zero, List.set_cons_succ, vz, vw]
    rfl
   refine qcb (i := 2) (N := some 11) (v := ?_) (a' := ?_) #[true, false, true, false, false, false, false, false, false, false, false, false, false, false] rfl rfl (qbr HT_.out (by kernel_rfl)) (fun _ _ _ h => h) (Or.inl ⟨by rfl, ?_⟩) ?_ ?_
   rotate_left
   ·intro w'
    go_simp
    with_reducible rfl
   rotate_left
   ·simp only [Act.put, List.setIfInBounds_toArray, List.set_cons_zero, List.set_cons_succ, vz, vw]
    rfl
   refine qcb (i := 6) (N := some 15) (v := ?_) (a' := ?_) #[true, false, true, false, false, false, true, false, false, false, false, false, false, false] rfl rfl (qbr HT_.out (by kernel_rfl)) (fun _ _ _ h => h) (Or.inl ⟨by rfl, ?_⟩) ?_ ?_
   rotate_left
   ·intro w'
    go_simp
    with_reducible rfl
   rotate_left
   ·simp only [Act.put, List.setIfInBounds_toArray, List.set_cons_zero, List.set_cons_succ, vz, vw]
    rfl
   refine qcb (i := 8) (N := some 17) (v := ?_) (a' := ?_) #[true, false, true, false, false, false, true, false, true, false, false, false, false, false] rfl rfl (qbr HT_.out (by kernel_rfl)) (fun _ _ _ h => h) (Or.inl ⟨by rfl, ?_⟩) ?_ ?_
   rotate_left
   ·intro w'
    go_simp
    with_reducible rfl
   rotate_left
   ·simp only [Act.put, List.setIfInBounds_toArray, List.set_cons_zero, List.set_cons_succ, vz, vw]
    rfl
   refine qfz (i := 1) (N := some 10) (v := ?_) (a' := ?_) #[true, true, true, false, false, false, true, false, true, false, false, false, false, false] rfl rfl (qce HT_.out HW_.out (by kernel_rfl)) (fun _ _ _ h => h) (Or.inl ⟨by rfl, ?_⟩) hHeld ?_ ?_
   rotate_left
   ·rintro w' ⟨s0, s1, s2, s3, s4, s5, s6, s7, s8, s9⟩
    go_simp
    with_reducible rfl
   rotate_left
   ·simp only [Act.put, List.setIfInBounds_toArray, List.set_cons_zero, List.set_cons_succ, vz, vw]
    rfl
   refine qfz (i := 3) (N := some 12) (v := ?_) (a' := ?_) #[true, true, true, true, false, false, true, false, true, false, false, false, false, false] rfl rfl (qce HT_.out HW_.out (by kernel_rfl)) (fun _ _ _ h => h) (Or.inl ⟨by rfl, ?_⟩) hHeld ?_ ?_
   rotate_left
   ·rintro w' ⟨s0, s1, s2, s3, s4, s5, s6, s7, s8, s9⟩
    go_simp
    with_reducible rfl
   rotate_left
   ·simp only [Act.put, List.setIfInBounds_toArray, List.set_cons_zero, List.set_cons_succ, vz, vw]
    rfl
   refine qcb (i := 4) (N := some 13) (v := ?_) (a' := ?_) #[true, true, true, true, true, false, true, false, true, false, false, false, false, false] rfl rfl (qbr HT_.out (by kernel_rfl)) (fun _ _ _ h => h) (Or.inl ⟨by rfl, ?_⟩) ?_ ?_
   rotate_left
   ·intro w'
    go_simp
    with_reducible rfl
   rotate_left
   ·simp only [Act.put, List.setIfInBounds_toArray, List.set_cons_zero, List.set_cons_succ, vz, vw]
    rfl
   refine qfz (i := 7) (N := some 16) (v := ?_) (a' := ?_) #[true, true, true, true, true, false, true, true, true, false, false, false, false, false] rfl rfl (qce HT_.out HW_.out (by kernel_rfl)) (fun _ _ _ h => h) (Or.inl ⟨by rfl, ?_⟩) hHeld ?_ ?_
   rotate_left
   ·rintro w' ⟨s0, s1, s2, s3, s4, s5, s6, s7, s8, s9⟩
    go_simp
    with_reducible rfl
   rotate_left
   ·simp only [Act.put, List.setIfInBounds_toArray, List.set_cons_zero, List.set_cons_succ, vz, vw]
    rfl
   refine qfz (i := 9) (N := some 18) (v := ?_) (a' := ?_) #[true, true, true, true, true, false, true, true, true, true, false, false, false, false] rfl rfl (qce HT_.out HW_.out (by kernel_rfl)) (fun _ _ _ h => h) (Or.inl ⟨by rfl, ?_⟩) hHeld ?_ ?_
   rotate_left
   ·rintro w' ⟨s0, s1, s2, s3, s4, s5, s6, s7, s8, s9⟩
    go_simp
    with_reducible rfl
   rotate_left
   ·simp only [Act.put, List.setIfInBounds_toArray, List.set_cons_zero, List.set_cons_succ, vz, vw]
    rfl
   refine qcb (i := 10) (N := some 19) (v := ?_) (a' := ?_) #[true, true, true, true, true, false, true, true, true, true, true, false, false, false] rfl rfl (qbr HT_.out (by kernel_rfl)) (fun _ _ _ h => h) (Or.inl ⟨by rfl, ?_⟩) ?_ ?_
   rotate_left
   ·intro w'
    go_simp
    with_reducible rfl
   rotate_left
   ·simp only [Act.put, List.setIfInBounds_toArray, List.set_cons_zero, List.set_cons_succ, vz, vw]
    rfl
   refine one_ (i := 5) (N := some 14) #[true, true, true, true, true, true, true, true, true, true, true, false, false, false] rfl rfl (qk6 HT_.out (by kernel_rfl)) (by decide) (fun K hK => ?_)
   refine qte Tryd.func80 (by kernel_rfl) rfl #[.int .i64 qy, .int .i64 1, .int .i64 (qx.length : Int)] (by rfl) rfl rfl (by (try simp only [List.map_toArray, List.map_cons, List.map_nil]); first | done | rfl | (simp only [List.length_drop, List.length_take]; rfl)) ?_
   with_reducible refine (qbx.calls qy 1 (qx.length : Int) q0a _ A3.out).mono ?_
   rintro e w9 ⟨rfl, hb⟩
   refine ⟨_, rfl, ?_⟩
   have n0_ := qf.mk (zl (g := jo) (o := .cells #[.int .i64 qw, .int .i64 qy, .int .i64 za, .string yg, .int .i64 ym, .int .i64 yf, .string yh, .slice qaa yj.length qab, .slice qai qx.length qaf, .slice qac zx.length vo] 30 (0, 0)) (by (with_reducible repeat (first | refine qj ?_ _ | refine qo ?_ | refine qi ?_ _)); exact zw.out) hb)
   have n1_ := qf.mk (zk (by repeat (first | (with_reducible first | exact HB.out | apply qg | apply qc | apply qh | refine ql ?_ qks.out) | exact HB.out)) hb)
   clear zw
   clear HB
   have zw := n0_
   have HB := n1_
   clear n0_ n1_
   (try clear hb)
   (try clear hb2)
   (try clear hk)
   (try clear hi)
   refine hK.out _ _ ⟨(qb zw.out 0).trans rfl, (qb zw.out 1).trans rfl, (qb zw.out 2).trans rfl, (qb zw.out 3).trans rfl, (qb zw.out 4).trans rfl, (qb zw.out 5).trans rfl, (qb zw.out 6).trans rfl, (qb zw.out 7).trans rfl, (qb zw.out 8).trans rfl, (qb zw.out 9).trans rfl⟩ (fun hHeld => ?_)
   clear hK K
   refine qth (a' := ?_) ?_ ?_
   rotate_left
   ·show Act.put _ (some 14) _ = _
    simp only [Act.put, List.setIfInBounds_toArray, List.set_cons_zero, List.set_cons_succ, vz, vw]
    rfl
   refine one_ (i := 11) (N := some 20) #[true, true, true, true, true, true, true, true, true, true, true, true, false, false] rfl rfl (qk6 HT_.out (by kernel_rfl)) (by decide) (fun K hK => ?_)
   refine qte Tryd.func80 (by kernel_rfl) rfl #[.int .i64 za, .int .i64 1, .int .i64 (qx.length : Int)] (by rfl) rfl rfl (by (try simp only [List.map_toArray, List.map_cons, List.map_nil]); first | done | rfl | (simp only [List.length_drop, List.length_take]; rfl)) ?_
   with_reducible refine (qbx.calls za 1 (qx.length : Int) zga _ A4.out).mono ?_
   rintro e w10 ⟨rfl, hb⟩
   refine ⟨_, rfl, ?_⟩
   have n0_ := qf.mk (zl (g := jo) (o := .cells #[.int .i64 qw, .int .i64 qy, .int .i64 za, .string yg, .int .i64 ym, .int .i64 yf, .string yh, .slice qaa yj.length qab, .slice qai qx.length qaf, .slice qac zx.length vo] 30 (0, 0)) (by (with_reducible repeat (first | refine qj ?_ _ | refine qo ?_ | refine qi ?_ _)); exact zw.out) hb)
   have n1_ := qf.mk (zk (by repeat (first | (with_reducible first | exact HB.out | apply qg | apply qc | apply qh | refine ql ?_ qks.out) | exact HB.out)) hb)
   clear zw
   clear HB
   have zw := n0_
   have HB := n1_
   clear n0_ n1_
   (try clear hb)
   (try clear hb2)
   (try clear hk)
   (try clear hi)
   refine hK.out _ _ ⟨(qb zw.out 0).trans rfl, (qb zw.out 1).trans rfl, (qb zw.out 2).trans rfl, (qb zw.out 3).trans rfl, (qb zw.out 4).trans rfl, (qb zw.out 5).trans rfl, (qb zw.out 6).trans rfl, (qb zw.out 7).trans rfl, (qb zw.out 8).trans rfl, (qb zw.out 9).trans rfl⟩ (fun hHeld => ?_)
   clear hK K
   refine qth (a' := ?_) ?_ ?_
   rotate_left
   ·show Act.put _ (some 20) _ = _
    simp only [Act.put, List.setIfInBounds_toArray, List.set_cons_zero, List.set_cons_succ, vz, vw]
    rfl
   refine qcb (i := 12) (N := some 3) (v := ?_) (a' := ?_) #[true, true, true, true, true, true, true, true, true, true, true, true, true, false] rfl rfl (qbr HT_.out (by kernel_rfl)) (fun _ _ _ h => h) (Or.inl ⟨by rfl, ?_⟩) ?_ ?_
   rotate_left
   ·intro w'
    go_simp
    with_reducible rfl
   rotate_left
   ·simp only [Act.put, List.setIfInBounds_toArray, List.set_cons_zero, List.set_cons_succ, vz, vw]
    rfl
   refine qcb (i := 13) (N := some 4) (v := ?_) (a' := ?_) #[true, true, true, true, true, true, true, true, true, true, true, true, true, true] rfl rfl (qbr HT_.out (by kernel_rfl)) (fun _ _ _ h => h) (Or.inl ⟨by rfl, ?_⟩) ?_ ?_
   rotate_left
   ·intro w'
    go_simp
    with_reducible rfl
   rotate_left
   ·simp only [Act.put, List.setIfInBounds_toArray, List.set_cons_zero, List.set_cons_succ, vz, vw]
    rfl
   refine q7e (qoz HT_.out (by kernel_rfl)) ?_
   have qfr : w10.cell? ⟨jo, 0, none⟩ = some (.int .i64 qw) := (qb zw.out 0).trans rfl
   have qfs : w10.cell? ⟨jo, 1, none⟩ = some (.int .i64 qy) := (qb zw.out 1).trans rfl
   have qft : w10.cell? ⟨jo, 2, none⟩ = some (.int .i64 za) := (qb zw.out 2).trans rfl
   have qfu : w10.cell? ⟨jo, 3, none⟩ = some (.string yg) := (qb zw.out 3).trans rfl
   have zsh : w10.cell? ⟨jo, 4, none⟩ = some (.int .i64 ym) := (qb zw.out 4).trans rfl
   have zsi : w10.cell? ⟨jo, 5, none⟩ = some (.int .i64 yf) := (qb zw.out 5).trans rfl
   have zsj : w10.cell? ⟨jo, 6, none⟩ = some (.string yh) := (qb zw.out 6).trans rfl
   have zsk : w10.cell? ⟨jo, 7, none⟩ = some (.slice qaa yj.length qab) := (qb zw.out 7).trans rfl
   have zsl : w10.cell? ⟨jo, 8, none⟩ = some (.slice qai qx.length qaf) := (qb zw.out 8).trans rfl
   have zsm : w10.cell? ⟨jo, 9, none⟩ = some (.slice qac zx.length vo) := (qb zw.out 9).trans rfl
   have qfv := qa zw.out 0
   have qfw := qa zw.out 1
   have qfx := qa zw.out 2
   have qfy := qa zw.out 3
   have ztg := qa zw.out 4
   have zth := qa zw.out 5
   have zti := qa zw.out 6
   have ztj := qa zw.out 7
   have ztk := qa zw.out 8
   have ztl := qa zw.out 9
   try go_wp2
   go_ret
   exact ⟨by first | rfl | (simp [zg, zh] <;> rfl) | (simp [*, zg, zh] <;> rfl), by repeat (first | (with_reducible first | exact HB.out | apply qg | apply qc | apply qh | refine ql ?_ qks.out) | exact HB.out)⟩
  ·rw [if_neg c5] at H
   have c5b0 : (qy == q0a) = false := beq_eq_false_iff_ne.mpr c5
   have c5b1 : (qy != q0a) = true := bne_iff_ne.mpr c5
   obtain rfl := Option.some.inj H
   go_enter Tryd.func68, Tryd.ntmps68
   try go_wp2_with (first | ((with_reducible refine qah (N := 1) rfl ?_); refine vk ?hg (N := 1) ?hd (cs := #[.int .i64 qw, .int .i64 qy, .int .i64 za, .string yg, .int .i64 ym, .int .i64 yf, .string yh, .slice qaa yj.length qab, .slice qai qx.length qaf, .slice qac zx.length vo]) (t := 30) ?hr ?_; (case hd => rfl); (case hg => rfl); (case hr => first | (go_simp; done) | (go_simp; rfl)); intro jo hg w12 hbox hb; have n0_ := qf.mk (zk (by repeat (first | (with_reducible first | exact HB.out | apply qg | apply qc | apply qh) | exact HB.out)) hb); have n1_ := qf.mk (hbox); have n2_ := qf.mk ((by rw [hg]; exact (zo (by repeat (first | (with_reducible first | exact HB.out | apply qg | apply qc | apply qh) | exact HB.out))) : w.heap.size ≤ jo)); have n3_ := qf.mk ((by rw [hg]; exact (zo (by repeat (first | (with_reducible first | exact HB.out | apply qg | apply qc | apply qh) | exact HB.out))) : w.heap.size ≤ jo)); clear HB; have HB := n0_; have zw := n1_; have zgy := n2_; have qks := n3_; clear n0_ n1_ n2_ n3_; clear hb hbox hg; have q02 : w12.cell? ⟨jo, 0, none⟩ = some (.int .i64 qw) := (qb zw.out 0).trans rfl; have q03 : w12.cell? ⟨jo, 1, none⟩ = some (.int .i64 qy) := (qb zw.out 1).trans rfl; have q04 : w12.cell? ⟨jo, 2, none⟩ = some (.int .i64 za) := (qb zw.out 2).trans rfl; have q05 : w12.cell? ⟨jo, 3, none⟩ = some (.string yg) := (qb zw.out 3).trans rfl; have q06 : w12.cell? ⟨jo, 4, none⟩ = some (.int .i64 ym) := (qb zw.out 4).trans rfl; have q07 : w12.cell? ⟨jo, 5, none⟩ = some (.int .i64 yf) := (qb zw.out 5).trans rfl; have q08 : w12.cell? ⟨jo, 6, none⟩ = some (.string yh) := (qb zw.out 6).trans rfl; have q09 : w12.cell? ⟨jo, 7, none⟩ = some (.slice qaa yj.length qab) := (qb zw.out 7).trans rfl; have q1a : w12.cell? ⟨jo, 8, none⟩ = some (.slice qai qx.length qaf) := (qb zw.out 8).trans rfl; have q1b : w12.cell? ⟨jo, 9, none⟩ = some (.slice qac zx.length vo) := (qb zw.out 9).trans rfl; have qih := qa zw.out 0; have qii := qa zw.out 1; have qij := qa zw.out 2; have qik := qa zw.out 3; have qil := qa zw.out 4; have qim := qa zw.out 5; have qin := qa zw.out 6; have qio := qa zw.out 7; have qip := qa zw.out 8; have qiq := qa zw.out 9))
   have n0_ := qf.mk (qo zw.out)
   have n1_ := qf.mk (qh HB.out)
   clear zw
   clear HB
   have zw := n0_
   have HB := n1_
   clear n0_ n1_
   refine qwo (n := 14) (S := fun w' => w'.cell? ⟨jo, 0, none⟩ = some (.int .i64 qw) ∧ w'.cell? ⟨jo, 1, none⟩ = some (.int .i64 qy) ∧ w'.cell? ⟨jo, 2, none⟩ = some (.int .i64 za) ∧ w'.cell? ⟨jo, 3, none⟩ = some (.string yg) ∧ w'.cell? ⟨jo, 4, none⟩ = some (.int .i64 ym) ∧ w'.cell? ⟨jo, 5, none⟩ = some (.int .i64 yf) ∧ w'.cell? ⟨jo, 6, none⟩ = some (.string yh) ∧ w'.cell? ⟨jo, 7, none⟩ = some (.slice qaa yj.length qab) ∧ w'.cell? ⟨jo, 8, none⟩ = some (.slice qai qx.length qaf) ∧ w'.cell? ⟨jo, 9, none⟩ = some (.slice qac zx.length vo)) (ds := []) #[false, false, false, false, false, false, false, false, false, false, false, false, false, false] (by kernel_rfl) rfl rfl ⟨(qb zw.out 0).trans rfl, (qb zw.out 1).trans rfl, (qb zw.out 2).trans rfl, (qb zw.out 3).trans rfl, (qb zw.out 4).trans rfl, (qb zw.out 5).trans rfl, (qb zw.out 6).trans rfl, (qb zw.out 7).trans rfl, (qb zw.out 8).trans rfl, (qb zw.out 9).trans rfl⟩ (fun hHeld => ?_); refine qjl qbi.tab4 qbi.zkc (fun HT_ HW_ => ?_)
   generalize w12.drew = w14 at zw HB hHeld ⊢
   refine qcb (i := 0) (N := some 9) (v := ?_) (a' := ?_) #[true, false, false, false, false, false, false, false, false, false, false, false, false, false] rfl rfl (qbr HT_.out (by kernel_rfl)) (fun _ _ _ h => h) (Or.inl ⟨by rfl, ?_⟩) ?_ ?_
   rotate_left
   ·intro w'
    go_simp
    with_reducible rfl
   rotate_left
   ·simp only [Act.put, List.setIfInBounds_toArray, List.set_cons_zero, List.set_cons_succ, vz, vw]
    rfl
   refine qcb (i := 2) (N := some 11) (v := ?_) (a' := ?_) #[true, false, true, false, false, false, false, false, false, false, false, false, false, false] rfl rfl (qbr HT_.out (by kernel_rfl)) (fun _ _ _ h => h) (Or.inl ⟨by rfl, ?_⟩) ?_ ?_
   rotate_left
   ·intro w'
    go_simp
    with_reducible rfl
   rotate_left
   ·simp only [Act.put, List.setIfInBounds_toArray, List.set_cons_zero, List.set_cons_succ, vz, vw]
    rfl
   refine qcb (i := 6) (N := some 15) (v := ?_) (a' := ?_) #[true, false, true, false, false, false, true, false, false, false, false, false, false, false] rfl rfl (qbr HT_.out (by kernel_rfl)) (fun _ _ _ h => h) (Or.inl ⟨by rfl, ?_⟩) ?_ ?_
   rotate_left
   ·intro w'
    go_simp
    with_reducible rfl
   rotate_left
   ·simp only [Act.put, List.setIfInBounds_toArray, List.set_cons_zero, List.set_cons_succ, vz, vw]
    rfl
   refine qcb (i := 8) (N := some 17) (v := ?_) (a' := ?_) #[true, false, true, false, false, false, true, false, true, false, false, false, false, false] rfl rfl (qbr HT_.out (by kernel_rfl)) (fun _ _ _ h => h) (Or.inl ⟨by rfl, ?_⟩) ?_ ?_
   rotate_left
   ·intro w'
    go_simp
    with_reducible rfl
   rotate_left
   ·simp only [Act.put, List.setIfInBounds_toArray, List.set_cons_zero, List.set_cons_succ, vz, vw]
    rfl
   refine qfz (i := 1) (N := some 10) (v := ?_) (a' := ?_) #[true, true, true, false, false, false, true, false, true, false, false, false, false, false] rfl rfl (qce HT_.out HW_.out (by kernel_rfl)) (fun _ _ _ h => h) (Or.inl ⟨by rfl, ?_⟩) hHeld ?_ ?_
   rotate_left
   ·rintro w' ⟨s0, s1, s2, s3, s4, s5, s6, s7, s8, s9⟩
    go_simp
    with_reducible rfl
   rotate_left
   ·simp only [Act.put, List.setIfInBounds_toArray, List.set_cons_zero, List.set_cons_succ, vz, vw]
    rfl
   refine qfz (i := 3) (N := some 12) (v := ?_) (a' := ?_) #[true, true, true, true, false, false, true, false, true, false, false, false, false, false] rfl rfl (qce HT_.out HW_.out (by kernel_rfl)) (fun _ _ _ h => h) (Or.inl ⟨by rfl, ?_⟩) hHeld ?_ ?_
   rotate_left
   ·rintro w' ⟨s0, s1, s2, s3, s4, s5, s6, s7, s8, s9⟩
    go_simp
    with_reducible rfl
   rotate_left
   ·simp only [Act.put, List.setIfInBounds_toArray, List.set_cons_zero, List.set_cons_succ, vz, vw]
    rfl
   refine qcb (i := 4) (N := some 13) (v := ?_) (a' := ?_) #[true, true, true, true, true, false, true, false, true, false, false, false, false, false] rfl rfl (qbr HT_.out (by kernel_rfl)) (fun _ _ _ h => h) (Or.inl ⟨by rfl, ?_⟩) ?_ ?_
   rotate_left
   ·intro w'
    go_simp
    with_reducible rfl
   rotate_left
   ·simp only [Act.put, List.setIfInBounds_toArray, List.set_cons_zero, List.set_cons_succ, vz, vw]
    rfl
   refine qfz (i := 7) (N := some 16) (v := ?_) (a' := ?_) #[true, true, true, true, true, false, true, true, true, false, false, false, false, false] rfl rfl (qce HT_.out HW_.out (by kernel_rfl)) (fun _ _ _ h => h) (Or.inl ⟨by rfl, ?_⟩) hHeld ?_ ?_
   rotate_left
   ·rintro w' ⟨s0, s1, s2, s3, s4, s5, s6, s7, s8, s9⟩
    go_simp
    with_reducible rfl
   rotate_left
   ·simp only [Act.put, List.setIfInBounds_toArray, List.set_cons_zero, List.set_cons_succ, vz, vw]
    rfl
   refine qfz (i := 9) (N := some 18) (v := ?_) (a' := ?_) #[true, true, true, true, true, false, true, true, true, true, false, false, false, false] rfl rfl (qce HT_.out HW_.out (by kernel_rfl)) (fun _ _ _ h => h) (Or.inl ⟨by rfl, ?_⟩) hHeld ?_ ?_
   rotate_left
   ·rintro w' ⟨s0, s1, s2, s3, s4, s5, s6, s7, s8, s9⟩
    go_simp
    with_reducible rfl
   rotate_left
   ·simp only [Act.put, List.setIfInBounds_toArray, List.set_cons_zero, List.set_cons_succ, vz, vw]
    rfl
   refine qcb (i := 10) (N := some 19) (v := ?_) (a' := ?_) #[true, true, true, true, true, false, true, true, true, true, true, false, false, false] rfl rfl (qbr HT_.out (by kernel_rfl)) (fun _ _ _ h => h) (Or.inl ⟨by rfl, ?_⟩) ?_ ?_
   rotate_left
   ·intro w'
    go_simp
    with_reducible rfl
   rotate_left
   ·simp only [Act.put, List.setIfInBounds_toArray, List.set_cons_zero, List.set_cons_succ, vz, vw]
    rfl
   refine one_ (i := 5) (N := some 14) #[true, true, true, true, true, true, true, true, true, true, true, false, false, false] rfl rfl (qk6 HT_.out (by kernel_rfl)) (by decide) (fun K hK => ?_)
   refine qte Tryd.func80 (by kernel_rfl) rfl #[.int .i64 qy, .int .i64 1, .int .i64 (qx.length : Int)] (by rfl) rfl rfl (by (try simp only [List.map_toArray, List.map_cons, List.map_nil]); first | done | rfl | (simp only [List.length_drop, List.length_take]; rfl)) ?_
   with_reducible refine (qbx.calls qy 1 (qx.length : Int) q0a _ A3.out).mono ?_
   rintro e w15 ⟨rfl, hb⟩
   refine ⟨_, rfl, ?_⟩
   have n0_ := qf.mk (zl (g := jo) (o := .cells #[.int .i64 qw, .int .i64 qy, .int .i64 za, .string yg, .int .i64 ym, .int .i64 yf, .string yh, .slice qaa yj.length qab, .slice qai qx.length qaf, .slice qac zx.length vo] 30 (0, 0)) (by (with_reducible repeat (first | refine qj ?_ _ | refine qo ?_ | refine qi ?_ _)); exact zw.out) hb)
   have n1_ := qf.mk (zk (by repeat (first | (with_reducible first | exact HB.out | apply qg | apply qc | apply qh | refine ql ?_ qks.out) | exact HB.out)) hb)
   clear zw
   clear HB
   have zw := n0_
   have HB := n1_
   clear n0_ n1_
   (try clear hb)
   (try clear hb2)
   (try clear hk)
   (try clear hi)
   refine hK.out _ _ ⟨(qb zw.out 0).trans rfl, (qb zw.out 1).trans rfl, (qb zw.out 2).trans rfl, (qb zw.out 3).trans rfl, (qb zw.out 4).trans rfl, (qb zw.out 5).trans rfl, (qb zw.out 6).trans rfl, (qb zw.out 7).trans rfl, (qb zw.out 8).trans rfl, (qb zw.out 9).trans rfl⟩ (fun hHeld => ?_)
   clear hK K
   refine qth (a' := ?_) ?_ ?_
   rotate_left
   ·show Act.put _ (some 14) _ = _
    simp only [Act.put, List.setIfInBounds_toArray, List.set_cons_zero, List.set_cons_succ, vz, vw]
    rfl
   refine one_ (i := 11) (N := some 20) #[true, true, true, true, true, true, true, true, true, true, true, true, false, false] rfl rfl (qk6 HT_.out (by kernel_rfl)) (by decide) (fun K hK => ?_)
   refine qte Tryd.func80 (by kernel_rfl) rfl #[.int .i64 za, .int .i64 1, .int .i64 (qx.length : Int)] (by rfl) rfl rfl (by (try simp only [List.map_toArray, List.map_cons, List.map_nil]); first | done | rfl | (simp only [List.length_drop, List.length_take]; rfl)) ?_
   with_reducible refine (qbx.calls za 1 (qx.length : Int) zga _ A4.out).mono ?_
   rintro e w16 ⟨rfl, hb⟩
   refine ⟨_, rfl, ?_⟩
   have n0_ := qf.mk (zl (g := jo) (o := .cells #[.int .i64 qw, .int .i64 qy, .int .i64 za, .string yg, .int .i64 ym, .int .i64 yf, .string yh, .slice qaa yj.length qab, .slice qai qx.length qaf, .slice qac zx.length vo] 30 (0, 0)) (by (with_reducible repeat (first | refine qj ?_ _ | refine qo ?_ | refine qi ?_ _)); exact zw.out) hb)
   have n1_ := qf.mk (zk (by repeat (first | (with_reducible first | exact HB.out | apply qg | apply qc | apply qh | refine ql ?_ qks.out) | exact HB.out)) hb)
   clear zw
   clear HB
   have zw := n0_
   have HB := n1_
   clear n0_ n1_
   (try clear hb)
   (try clear hb2)
   (try clear hk)
   (try clear hi)
   refine hK.out _ _ ⟨(qb zw.out 0).trans rfl, (qb zw.out 1).trans rfl, (qb zw.out 2).trans rfl, (qb zw.out 3).trans rfl, (qb zw.out 4).trans rfl, (qb zw.out 5).trans rfl, (qb zw.out 6).trans rfl, (qb zw.out 7).trans rfl, (qb zw.out 8).trans rfl, (qb zw.out 9).trans rfl⟩ (fun hHeld => ?_)
   clear hK K
   refine qth (a' := ?_) ?_ ?_
   rotate_left
   ·show Act.put _ (some 20) _ = _
    simp only [Act.put, List.setIfInBounds_toArray, List.set_cons_zero, List.set_cons_succ, vz, vw]
    rfl
   refine qcb (i := 12) (N := some 3) (v := ?_) (a' := ?_) #[true, true, true, true, true, true, true, true, true, true, true, true, true, false] rfl rfl (qbr HT_.out (by kernel_rfl)) (fun _ _ _ h => h) (Or.inl ⟨by rfl, ?_⟩) ?_ ?_
   rotate_left
   ·intro w'
    go_simp
    with_reducible rfl
   rotate_left
   ·simp only [Act.put, List.setIfInBounds_toArray, List.set_cons_zero, List.set_cons_succ, vz, vw]
    rfl
   refine qcb (i := 13) (N := some 4) (v := ?_) (a' := ?_) #[true, true, true, true, true, true, true, true, true, true, true, true, true, true] rfl rfl (qbr HT_.out (by kernel_rfl)) (fun _ _ _ h => h) (Or.inl ⟨by rfl, ?_⟩) ?_ ?_
   rotate_left
   ·intro w'
    go_simp
    with_reducible rfl
   rotate_left
   ·simp only [Act.put, List.setIfInBounds_toArray, List.set_cons_zero, List.set_cons_succ, vz, vw]
    rfl
   refine q7e (qoz HT_.out (by kernel_rfl)) ?_
   have q1c : w16.cell? ⟨jo, 0, none⟩ = some (.int .i64 qw) := (qb zw.out 0).trans rfl
   have q1d : w16.cell? ⟨jo, 1, none⟩ = some (.int .i64 qy) := (qb zw.out 1).trans rfl
   have q1e : w16.cell? ⟨jo, 2, none⟩ = some (.int .i64 za) := (qb zw.out 2).trans rfl
   have q1f : w16.cell? ⟨jo, 3, none⟩ = some (.string yg) := (qb zw.out 3).trans rfl
   have q94 : w16.cell? ⟨jo, 4, none⟩ = some (.int .i64 ym) := (qb zw.out 4).trans rfl
   have q95 : w16.cell? ⟨jo, 5, none⟩ = some (.int .i64 yf) := (qb zw.out 5).trans rfl
   have q96 : w16.cell? ⟨jo, 6, none⟩ = some (.string yh) := (qb zw.out 6).trans rfl
   have q97 : w16.cell? ⟨jo, 7, none⟩ = some (.slice qaa yj.length qab) := (qb zw.out 7).trans rfl
   have q98 : w16.cell? ⟨jo, 8, none⟩ = some (.slice qai qx.length qaf) := (qb zw.out 8).trans rfl
   have q99 : w16.cell? ⟨jo, 9, none⟩ = some (.slice qac zx.length vo) := (qb zw.out 9).trans rfl
   have q3r := qa zw.out 0
   have q3s := qa zw.out 1
   have q3t := qa zw.out 2
   have q3u := qa zw.out 3
   have zet := qa zw.out 4
   have zeu := qa zw.out 5
   have zev := qa zw.out 6
   have zew := qa zw.out 7
   have zex := qa zw.out 8
   have zey := qa zw.out 9
   try go_wp2
   go_ret
   exact ⟨by first | rfl | (simp [zg, zh] <;> rfl) | (simp [*, zg, zh] <;> rfl), by repeat (first | (with_reducible first | exact HB.out | apply qg | apply qc | apply qh | refine ql ?_ qks.out) | exact HB.out)⟩
 ·rw [if_neg c2] at H
  have c2b0 : (qw == 4) = false := beq_eq_false_iff_ne.mpr c2
  have c2b1 : (qw != 4) = true := bne_iff_ne.mpr c2
  by_cases c18 : qw = 6
  ·rw [if_pos c18] at H
   have c18b0 : (qw == 6) = true := beq_iff_eq.mpr c18
   have c18b1 : (qw != 6) = false := bne_eq_false_iff_eq.mpr c18
   clear c18
   replace H := Option.bind_eq_some_iff.mp H
   obtain ⟨q0j, zon, H⟩ := H
   replace H : (if qy = q0j then (some (za == 0)) else (some false)) = some r := H
   have A19 := qf.mk zon
   clear zon
   by_cases c20 : qy = q0j
   ·rw [if_pos c20] at H
    have c20b0 : (qy == q0j) = true := beq_iff_eq.mpr c20
    have c20b1 : (qy != q0j) = false := bne_eq_false_iff_eq.mpr c20
    clear c20
    obtain rfl := Option.some.inj H
    go_enter Tryd.func68, Tryd.ntmps68
    go_wp2_with (first | ((with_reducible refine qah (N := 1) rfl ?_); refine vk ?hg (N := 1) ?hd (cs := #[.int .i64 qw, .int .i64 qy, .int .i64 za, .string yg, .int .i64 ym, .int .i64 yf, .string yh, .slice qaa yj.length qab, .slice qai qx.length qaf, .slice qac zx.length vo]) (t := 30) ?hr ?_; (case hd => rfl); (case hg => rfl); (case hr => first | (go_simp; done) | (go_simp; rfl)); intro jo hg w21 hbox hb; have n0_ := qf.mk (zk (by repeat (first | (with_reducible first | exact HB.out | apply qg | apply qc | apply qh) | exact HB.out)) hb); have n1_ := qf.mk (hbox); have n2_ := qf.mk ((by rw [hg]; exact (zo (by repeat (first | (with_reducible first | exact HB.out | apply qg | apply qc | apply qh) | exact HB.out))) : w.heap.size ≤ jo)); have n3_ := qf.mk ((by rw [hg]; exact (zo (by repeat (first | (with_reducible first | exact HB.out | apply qg | apply qc | apply qh) | exact HB.out))) : w.heap.size ≤ jo)); clear HB; have HB := n0_; have zw := n1_; have zgy := n2_; have qks := n3_; clear n0_ n1_ n2_ n3_; clear hb hbox hg; have qmj : w21.cell? ⟨jo, 0, none⟩ = some (.int .i64 qw) := (qb zw.out 0).trans rfl; have qmk : w21.cell? ⟨jo, 1, none⟩ = some (.int .i64 qy) := (qb zw.out 1).trans rfl; have qml : w21.cell? ⟨jo, 2, none⟩ = some (.int .i64 za) := (qb zw.out 2).trans rfl; have qmm : w21.cell? ⟨jo, 3, none⟩ = some (.string yg) := (qb zw.out 3).trans rfl; have zyx : w21.cell? ⟨jo, 4, none⟩ = some (.int .i64 ym) := (qb zw.out 4).trans rfl; have zyy : w21.cell? ⟨jo, 5, none⟩ = some (.int .i64 yf) := (qb zw.out 5).trans rfl; have zyz : w21.cell? ⟨jo, 6, none⟩ = some (.string yh) := (qb zw.out 6).trans rfl; have zy0 : w21.cell? ⟨jo, 7, none⟩ = some (.slice qaa yj.length qab) := (qb zw.out 7).trans rfl; have zy1 : w21.cell? ⟨jo, 8, none⟩ = some (.slice qai qx.length qaf) := (qb zw.out 8).trans rfl; have zy2 : w21.cell? ⟨jo, 9, none⟩ = some (.slice qac zx.length vo) := (qb zw.out 9).trans rfl; have qmw := qa zw.out 0; have qmx := qa zw.out 1; have qmy := qa zw.out 2; have qmz := qa zw.out 3; have zzl := qa zw.out 4; have zzm := qa zw.out 5; have zzn := qa zw.out 6; have zzo := qa zw.out 7; have zzp := qa zw.out 8; have zzq := qa zw.out 9) | ((with_reducible refine qaq (f := 80) rfl ?_); refine qcj (some 25) rfl rfl Tryd.func80 (by kernel_rfl) rfl #[.int .i64 qy, .int .i64 1, .int .i64 1000] rfl (by (try simp only [List.map_toArray, List.map_cons, List.map_nil]); first | done | rfl | (simp only [List.length_drop, List.length_take]; rfl)) ?_; (with_reducible refine (qbx.calls qy 1 1000 q0j _ A19.out).mono ?_); rintro e w23 ⟨rfl, hb⟩; refine ⟨_, rfl, ?_⟩; have n0_ := qf.mk (zl (g := jo) (o := .cells #[.int .i64 qw, .int .i64 qy, .int .i64 za, .string yg, .int .i64 ym, .int .i64 yf, .string yh, .slice qaa yj.length qab, .slice qai qx.length qaf, .slice qac zx.length vo] 30 (0, 0)) (by (with_reducible repeat (first | refine qj ?_ _ | refine qo ?_ | refine qi ?_ _)); exact zw.out) hb); have n1_ := qf.mk (zk (by repeat (first | (with_reducible first | exact HB.out | apply qg | apply qc | apply qh | refine ql ?_ qks.out) | exact HB.out)) hb); clear zw; clear HB; have zw := n0_; have HB := n1_; clear n0_ n1_; (try clear hb); (try clear hb2); (try clear hk); (try clear hi); have zaa : w23.cell? ⟨jo, 0, none⟩ = some (.int .i64 qw) := (qb zw.out 0).trans rfl; have zab : w23.cell? ⟨jo, 1, none⟩ = some (.int .i64 qy) := (qb zw.out 1).trans rfl; have zac : w23.cell? ⟨jo, 2, none⟩ = some (.int .i64 za) := (qb zw.out 2).trans rfl; have zad : w23.cell? ⟨jo, 3, none⟩ = some (.string yg) := (qb zw.out 3).trans rfl; have zae : w23.cell? ⟨jo, 4, none⟩ = some (.int .i64 ym) := (qb zw.out 4).trans rfl; have zaf : w23.cell? ⟨jo, 5, none⟩ = some (.int .i64 yf) := (qb zw.out 5).trans rfl; have zah : w23.cell? ⟨jo, 6, none⟩ = some (.string yh) := (qb zw.out 6).trans rfl; have zai : w23.cell? ⟨jo, 7, none⟩ = some (.slice qaa yj.length qab) := (qb zw.out 7).trans rfl; have zaj : w23.cell? ⟨jo, 8, none⟩ = some (.slice qai qx.length qaf) := (qb zw.out 8).trans rfl; have zak : w23.cell? ⟨jo, 9, none⟩ = some (.slice qac zx.length vo) := (qb zw.out 9).trans rfl; have zez := qa zw.out 0; have ze0 := qa zw.out 1; have ze1 := qa zw.out 2; have ze2 := qa zw.out 3; have ze3 := qa zw.out 4; have ze4 := qa zw.out 5; have ze5 := qa zw.out 6; have ze6 := qa zw.out 7; have ze7 := qa zw.out 8; have ze8 := qa zw.out 9))
    go_ret
    exact ⟨by first | rfl | (simp [zg, zh] <;> rfl) | (simp [*, zg, zh] <;> rfl), by repeat (first | (with_reducible first | exact HB.out | apply qg | apply qc | apply qh | refine ql ?_ qks.out) | exact HB.out)⟩
   ·rw [if_neg c20] at H
    have c20b0 : (qy == q0j) = false := beq_eq_false_iff_ne.mpr c20
    have c20b1 : (qy != q0j) = true := bne_iff_ne.mpr c20
    obtain rfl := Option.some.inj H
    go_enter Tryd.func68, Tryd.ntmps68
    go_wp2_with (first | ((with_reducible refine qah (N := 1) rfl ?_); refine vk ?hg (N := 1) ?hd (cs := #[.int .i64 qw, .int .i64 qy, .int .i64 za, .string yg, .int .i64 ym, .int .i64 yf, .string yh, .slice qaa yj.length qab, .slice qai qx.length qaf, .slice qac zx.length vo]) (t := 30) ?hr ?_; (case hd => rfl); (case hg => rfl); (case hr => first | (go_simp; done) | (go_simp; rfl)); intro jo hg w25 hbox hb; have n0_ := qf.mk (zk (by repeat (first | (with_reducible first | exact HB.out | apply qg | apply qc | apply qh) | exact HB.out)) hb); have n1_ := qf.mk (hbox); have n2_ := qf.mk ((by rw [hg]; exact (zo (by repeat (first | (with_reducible first | exact HB.out | apply qg | apply qc | apply qh) | exact HB.out))) : w.heap.size ≤ jo)); have n3_ := qf.mk ((by rw [hg]; exact (zo (by repeat (first | (with_reducible first | exact HB.out | apply qg | apply qc | apply qh) | exact HB.out))) : w.heap.size ≤ jo)); clear HB; have HB := n0_; have zw := n1_; have zgy := n2_; have qks := n3_; clear n0_ n1_ n2_ n3_; clear hb hbox hg; have qt0 : w25.cell? ⟨jo, 0, none⟩ = some (.int .i64 qw) := (qb zw.out 0).trans rfl; have qt1 : w25.cell? ⟨jo, 1, none⟩ = some (.int .i64 qy) := (qb zw.out 1).trans rfl; have qt2 : w25.cell? ⟨jo, 2, none⟩ = some (.int .i64 za) := (qb zw.out 2).trans rfl; have qt3 : w25.cell? ⟨jo, 3, none⟩ = some (.string yg) := (qb zw.out 3).trans rfl; have zy3 : w25.cell? ⟨jo, 4, none⟩ = some (.int .i64 ym) := (qb zw.out 4).trans rfl; have zy4 : w25.cell? ⟨jo, 5, none⟩ = some (.int .i64 yf) := (qb zw.out 5).trans rfl; have zy5 : w25.cell? ⟨jo, 6, none⟩ = some (.string yh) := (qb zw.out 6).trans rfl; have zy6 : w25.cell? ⟨jo, 7, none⟩ = some (.slice qaa yj.length qab) := (qb zw.out 7).trans rfl; have zy7 : w25.cell? ⟨jo, 8, none⟩ = some (.slice qai qx.length qaf) := (qb zw.out 8).trans rfl; have zy8 : w25.cell? ⟨jo, 9, none⟩ = some (.slice qac zx.length vo) := (qb zw.out 9).trans rfl; have qux := qa zw.out 0; have quy := qa zw.out 1; have quz := qa zw.out 2; have qu0 := qa zw.out 3; have zzr := qa zw.out 4; have zzs := qa zw.out 5; have zzt := qa zw.out 6; have zzu := qa zw.out 7; have zzv := qa zw.out 8; have zzw := qa zw.out 9) | ((with_reducible refine qaq (f := 80) rfl ?_); refine qcj (some 25) rfl rfl Tryd.func80 (by kernel_rfl) rfl #[.int .i64 qy, .int .i64 1, .int .i64 1000] rfl (by (try simp only [List.map_toArray, List.map_cons, List.map_nil]); first | done | rfl | (simp only [List.length_drop, List.length_take]; rfl)) ?_; (with_reducible refine (qbx.calls qy 1 1000 q0j _ A19.out).mono ?_); rintro e w27 ⟨rfl, hb⟩; refine ⟨_, rfl, ?_⟩; have n0_ := qf.mk (zl (g := jo) (o := .cells #[.int .i64 qw, .int .i64 qy, .int .i64 za, .string yg, .int .i64 ym, .int .i64 yf, .string yh, .slice qaa yj.length qab, .slice qai qx.length qaf, .slice qac zx.length vo] 30 (0, 0)) (by (with_reducible repeat (first | refine qj ?_ _ | refine qo ?_ | refine qi ?_ _)); exact zw.out) hb); have n1_ := qf.mk (zk (by repeat (first | (with_reducible first | exact HB.out | apply qg | apply qc | apply qh | refine ql ?_ qks.out) | exact HB.out)) hb); clear zw; clear HB; have zw := n0_; have HB := n1_; clear n0_ n1_; (try clear hb); (try clear hb2); (try clear hk); (try clear hi); have zkq : w27.cell? ⟨jo, 0, none⟩ = some (.int .i64 qw) := (qb zw.out 0).trans rfl; have zkr : w27.cell? ⟨jo, 1, none⟩ = some (.int .i64 qy) := (qb zw.out 1).trans rfl; have zks : w27.cell? ⟨jo, 2, none⟩ = some (.int .i64 za) := (qb zw.out 2).trans rfl; have zkt : w27.cell? ⟨jo, 3, none⟩ = some (.string yg) := (qb zw.out 3).trans rfl; have zku : w27.cell? ⟨jo, 4, none⟩ = some (.int .i64 ym) := (qb zw.out 4).trans rfl; have zkv : w27.cell? ⟨jo, 5, none⟩ = some (.int .i64 yf) := (qb zw.out 5).trans rfl; have zkw : w27.cell? ⟨jo, 6, none⟩ = some (.string yh) := (qb zw.out 6).trans rfl; have zkx : w27.cell? ⟨jo, 7, none⟩ = some (.slice qaa yj.length qab) := (qb zw.out 7).trans rfl; have zky : w27.cell? ⟨jo, 8, none⟩ = some (.slice qai qx.length qaf) := (qb zw.out 8).trans rfl; have zkz : w27.cell? ⟨jo, 9, none⟩ = some (.slice qac zx.length vo) := (qb zw.out 9).trans rfl; have zmu := qa zw.out 0; have zmv := qa zw.out 1; have zmw := qa zw.out 2; have zmx := qa zw.out 3; have zmy := qa zw.out 4; have zmz := qa zw.out 5; have zm0 := qa zw.out 6; have zm1 := qa zw.out 7; have zm2 := qa zw.out 8; have zm3 := qa zw.out 9))
    go_ret
    exact ⟨by first | rfl | (simp [zg, zh] <;> rfl) | (simp [*, zg, zh] <;> rfl), by repeat (first | (with_reducible first | exact HB.out | apply qg | apply qc | apply qh | refine ql ?_ qks.out) | exact HB.out)⟩
  ·rw [if_neg c18] at H
   have c18b0 : (qw == 6) = false := beq_eq_false_iff_ne.mpr c18
   have c18b1 : (qw != 6) = true := bne_iff_ne.mpr c18
   by_cases c29 : qy = 0
   ·rw [if_pos c29] at H
    have c29b0 : (qy == 0) = true := beq_iff_eq.mpr c29
    have c29b1 : (qy != 0) = false := bne_eq_false_iff_eq.mpr c29
    clear c29
    obtain rfl := Option.some.inj H
    go_enter Tryd.func68, Tryd.ntmps68
    go_wp2_with (first | ((with_reducible refine qah (N := 1) rfl ?_); refine vk ?hg (N := 1) ?hd (cs := #[.int .i64 qw, .int .i64 qy, .int .i64 za, .string yg, .int .i64 ym, .int .i64 yf, .string yh, .slice qaa yj.length qab, .slice qai qx.length qaf, .slice qac zx.length vo]) (t := 30) ?hr ?_; (case hd => rfl); (case hg => rfl); (case hr => first | (go_simp; done) | (go_simp; rfl)); intro jo hg w30 hbox hb; have n0_ := qf.mk (zk (by repeat (first | (with_reducible first | exact HB.out | apply qg | apply qc | apply qh) | exact HB.out)) hb); have n1_ := qf.mk (hbox); have n2_ := qf.mk ((by rw [hg]; exact (zo (by repeat (first | (with_reducible first | exact HB.out | apply qg | apply qc | apply qh) | exact HB.out))) : w.heap.size ≤ jo)); have n3_ := qf.mk ((by rw [hg]; exact (zo (by repeat (first | (with_reducible first | exact HB.out | apply qg | apply qc | apply qh) | exact HB.out))) : w.heap.size ≤ jo)); clear HB; have HB := n0_; have zw := n1_; have zgy := n2_; have qks := n3_; clear n0_ n1_ n2_ n3_; clear hb hbox hg; have qlf : w30.cell? ⟨jo, 0, none⟩ = some (.int .i64 qw) := (qb zw.out 0).trans rfl; have qlg : w30.cell? ⟨jo, 1, none⟩ = some (.int .i64 qy) := (qb zw.out 1).trans rfl; have qlh : w30.cell? ⟨jo, 2, none⟩ = some (.int .i64 za) := (qb zw.out 2).trans rfl; have qli : w30.cell? ⟨jo, 3, none⟩ = some (.string yg) := (qb zw.out 3).trans rfl; have zst : w30.cell? ⟨jo, 4, none⟩ = some (.int .i64 ym) := (qb zw.out 4).trans rfl; have zsu : w30.cell? ⟨jo, 5, none⟩ = some (.int .i64 yf) := (qb zw.out 5).trans rfl; have zsv : w30.cell? ⟨jo, 6, none⟩ = some (.string yh) := (qb zw.out 6).trans rfl; have zsw : w30.cell? ⟨jo, 7, none⟩ = some (.slice qaa yj.length qab) := (qb zw.out 7).trans rfl; have zsx : w30.cell? ⟨jo, 8, none⟩ = some (.slice qai qx.length qaf) := (qb zw.out 8).trans rfl; have zsy : w30.cell? ⟨jo, 9, none⟩ = some (.slice qac zx.length vo) := (qb zw.out 9).trans rfl; have qln := qa zw.out 0; have qlo := qa zw.out 1; have qlp := qa zw.out 2; have qlq := qa zw.out 3; have zts := qa zw.out 4; have ztt := qa zw.out 5; have ztu := qa zw.out 6; have ztv := qa zw.out 7; have ztw := qa zw.out 8; have ztx := qa zw.out 9))
    go_ret
    exact ⟨by first | rfl | (simp [zg, zh] <;> rfl) | (simp [*, zg, zh] <;> rfl), by repeat (first | (with_reducible first | exact HB.out | apply qg | apply qc | apply qh | refine ql ?_ qks.out) | exact HB.out)⟩
   ·rw [if_neg c29] at H
    have c29b0 : (qy == 0) = false := beq_eq_false_iff_ne.mpr c29
    have c29b1 : (qy != 0) = true := bne_iff_ne.mpr c29
    obtain rfl := Option.some.inj H
    go_enter Tryd.func68, Tryd.ntmps68
    go_wp2_with (first | ((with_reducible refine qah (N := 1) rfl ?_); refine vk ?hg (N := 1) ?hd (cs := #[.int .i64 qw, .int .i64 qy, .int .i64 za, .string yg, .int .i64 ym, .int .i64 yf, .string yh, .slice qaa yj.length qab, .slice qai qx.length qaf, .slice qac zx.length vo]) (t := 30) ?hr ?_; (case hd => rfl); (case hg => rfl); (case hr => first | (go_simp; done) | (go_simp; rfl)); intro jo hg w32 hbox hb; have n0_ := qf.mk (zk (by repeat (first | (with_reducible first | exact HB.out | apply qg | apply qc | apply qh) | exact HB.out)) hb); have n1_ := qf.mk (hbox); have n2_ := qf.mk ((by rw [hg]; exact (zo (by repeat (first | (with_reducible first | exact HB.out | apply qg | apply qc | apply qh) | exact HB.out))) : w.heap.size ≤ jo)); have n3_ := qf.mk ((by rw [hg]; exact (zo (by repeat (first | (with_reducible first | exact HB.out | apply qg | apply qc | apply qh) | exact HB.out))) : w.heap.size ≤ jo)); clear HB; have HB := n0_; have zw := n1_; have zgy := n2_; have qks := n3_; clear n0_ n1_ n2_ n3_; clear hb hbox hg; have qo5 : w32.cell? ⟨jo, 0, none⟩ = some (.int .i64 qw) := (qb zw.out 0).trans rfl; have qo6 : w32.cell? ⟨jo, 1, none⟩ = some (.int .i64 qy) := (qb zw.out 1).trans rfl; have qo7 : w32.cell? ⟨jo, 2, none⟩ = some (.int .i64 za) := (qb zw.out 2).trans rfl; have qo8 : w32.cell? ⟨jo, 3, none⟩ = some (.string yg) := (qb zw.out 3).trans rfl; have q1k : w32.cell? ⟨jo, 4, none⟩ = some (.int .i64 ym) := (qb zw.out 4).trans rfl; have q1l : w32.cell? ⟨jo, 5, none⟩ = some (.int .i64 yf) := (qb zw.out 5).trans rfl; have q1m : w32.cell? ⟨jo, 6, none⟩ = some (.string yh) := (qb zw.out 6).trans rfl; have q1n : w32.cell? ⟨jo, 7, none⟩ = some (.slice qaa yj.length qab) := (qb zw.out 7).trans rfl; have q1o : w32.cell? ⟨jo, 8, none⟩ = some (.slice qai qx.length qaf) := (qb zw.out 8).trans rfl; have q1p : w32.cell? ⟨jo, 9, none⟩ = some (.slice qac zx.length vo) := (qb zw.out 9).trans rfl; have qir := qa zw.out 0; have qis := qa zw.out 1; have qit := qa zw.out 2; have qiu := qa zw.out 3; have qm4 := qa zw.out 4; have qm5 := qa zw.out 5; have qm6 := qa zw.out 6; have qm7 := qa zw.out 7; have qm8 := qa zw.out 8; have qm9 := qa zw.out 9))
    go_ret
    exact ⟨by first | rfl | (simp [zg, zh] <;> rfl) | (simp [*, zg, zh] <;> rfl), by repeat (first | (with_reducible first | exact HB.out | apply qg | apply qc | apply qh | refine ql ?_ qks.out) | exact HB.out)⟩
def qhr.f (qw : Int) (qy : Int) (za : ByteArray) (zm : List (S27)) : Option (Bool) := if qw = 0 then (if qy = 0 then (if za.toList = ([] : List UInt8) then (some ((zm.length : Int) == 0)) else (some false)) else (some false)) else (some false)
set_option maxHeartbeats 8000000 in
set_option maxRecDepth 100000 in
theorem qhr.calls (qw : Int) (qy : Int) (za : ByteArray) (jy : Option Addr) (jm : Nat) (zm : List (S27)) (r : Bool) (w : World) (qdg : Kd.C k27 w jy zm.length zm) (qdf : zm.length ≤ jm) (h : qhr.f qw qy za zm = some r) :
  Calls Tryd.prog 81 #[.agg #[.int .i64 qw, .int .i64 qy, .string za, .slice jy zm.length jm]] w fun e w' => e = .returned (.bool r) ∧ Below w.heap.size w w' := by
 have q0h := Tryd.underlying27
 have qlb := qf.mk qdg
 have qs3 := qf.mk qdf
 clear qdg qdf
 have HB := qf.mk (Below.refl w.heap.size w)
 have H : (if qw = 0 then (if qy = 0 then (if za.toList = ([] : List UInt8) then (some ((zm.length : Int) == 0)) else (some false)) else (some false)) else (some false)) = some r := h
 clear h
 by_cases c2 : qw = 0
 ·rw [if_pos c2] at H
  have c2b0 : (qw == 0) = true := beq_iff_eq.mpr c2
  have c2b1 : (qw != 0) = false := bne_eq_false_iff_eq.mpr c2
  clear c2
  by_cases c3 : qy = 0
  ·rw [if_pos c3] at H
   have c3b0 : (qy == 0) = true := beq_iff_eq.mpr c3
   have c3b1 : (qy != 0) = false := bne_eq_false_iff_eq.mpr c3
   clear c3
   by_cases c4 : za.toList = ([] : List UInt8)
   ·rw [if_pos c4] at H
    have c4b0 : (za.toList == ([] : List UInt8)) = true := beq_iff_eq.mpr c4
    have c4b1 : (za.toList != ([] : List UInt8)) = false := bne_eq_false_iff_eq.mpr c4
    clear c4
    obtain rfl := Option.some.inj H
    go_enter Tryd.func81, Tryd.ntmps81
    go_wp2_with (first | ((with_reducible refine qah (N := 1) rfl ?_); (try (refine qbg (by rfl) ?_; dsimp only)); refine vk ?hg (N := 1) ?hd (cs := #[.int .i64 qw, .int .i64 qy, .string za, .slice jy zm.length jm]) (t := 27) ?hr ?_; (case hd => rfl); (case hg => rfl); (case hr => first | (go_simp; done) | (go_simp; rfl)); intro qe2 hg w5 hbox hb; have n0_ := qf.mk (zk (by repeat (first | (with_reducible first | exact HB.out | apply qg | apply qc | apply qh) | exact HB.out)) hb); have n1_ := qf.mk (hbox); have n2_ := qf.mk ((by rw [hg]; exact (zo (by repeat (first | (with_reducible first | exact HB.out | apply qg | apply qc | apply qh) | exact HB.out))) : w.heap.size ≤ qe2)); have n3_ := qf.mk ((by rw [hg]; exact (zo (by repeat (first | (with_reducible first | exact HB.out | apply qg | apply qc | apply qh) | exact HB.out))) : w.heap.size ≤ qe2)); clear HB; have HB := n0_; have qdd := n1_; have zos := n2_; have q60 := n3_; clear n0_ n1_ n2_ n3_; clear hb hbox hg; have zvo : w5.cell? ⟨qe2, 0, none⟩ = some (.int .i64 qw) := (qb qdd.out 0).trans rfl; have zvp : w5.cell? ⟨qe2, 1, none⟩ = some (.int .i64 qy) := (qb qdd.out 1).trans rfl; have zvq : w5.cell? ⟨qe2, 2, none⟩ = some (.string za) := (qb qdd.out 2).trans rfl; have zvr : w5.cell? ⟨qe2, 3, none⟩ = some (.slice jy zm.length jm) := (qb qdd.out 3).trans rfl; have zv6 := qa qdd.out 0; have zv7 := qa qdd.out 1; have zv8 := qa qdd.out 2; have zv9 := qa qdd.out 3))
    go_ret
    exact ⟨by first | rfl | (simp [zg, zh] <;> rfl) | (simp [*, zg, zh] <;> rfl), by repeat (first | (with_reducible first | exact HB.out | apply qg | apply qc | apply qh | refine ql ?_ q60.out) | exact HB.out)⟩
   ·rw [if_neg c4] at H
    have c4b0 : (za.toList == ([] : List UInt8)) = false := beq_eq_false_iff_ne.mpr c4
    have c4b1 : (za.toList != ([] : List UInt8)) = true := bne_iff_ne.mpr c4
    obtain rfl := Option.some.inj H
    go_enter Tryd.func81, Tryd.ntmps81
    go_wp2_with (first | ((with_reducible refine qah (N := 1) rfl ?_); (try (refine qbg (by rfl) ?_; dsimp only)); refine vk ?hg (N := 1) ?hd (cs := #[.int .i64 qw, .int .i64 qy, .string za, .slice jy zm.length jm]) (t := 27) ?hr ?_; (case hd => rfl); (case hg => rfl); (case hr => first | (go_simp; done) | (go_simp; rfl)); intro qe2 hg w7 hbox hb; have n0_ := qf.mk (zk (by repeat (first | (with_reducible first | exact HB.out | apply qg | apply qc | apply qh) | exact HB.out)) hb); have n1_ := qf.mk (hbox); have n2_ := qf.mk ((by rw [hg]; exact (zo (by repeat (first | (with_reducible first | exact HB.out | apply qg | apply qc | apply qh) | exact HB.out))) : w.heap.size ≤ qe2)); have n3_ := qf.mk ((by rw [hg]; exact (zo (by repeat (first | (with_reducible first | exact HB.out | apply qg | apply qc | apply qh) | exact HB.out))) : w.heap.size ≤ qe2)); clear HB; have HB := n0_; have qdd := n1_; have zos := n2_; have q60 := n3_; clear n0_ n1_ n2_ n3_; clear hb hbox hg; have zvs : w7.cell? ⟨qe2, 0, none⟩ = some (.int .i64 qw) := (qb qdd.out 0).trans rfl; have zvt : w7.cell? ⟨qe2, 1, none⟩ = some (.int .i64 qy) := (qb qdd.out 1).trans rfl; have zvu : w7.cell? ⟨qe2, 2, none⟩ = some (.string za) := (qb qdd.out 2).trans rfl; have zvv : w7.cell? ⟨qe2, 3, none⟩ = some (.slice jy zm.length jm) := (qb qdd.out 3).trans rfl; have zwa := qa qdd.out 0; have zwb := qa qdd.out 1; have zwc := qa qdd.out 2; have zwd := qa qdd.out 3))
    go_ret
    exact ⟨by first | rfl | (simp [zg, zh] <;> rfl) | (simp [*, zg, zh] <;> rfl), by repeat (first | (with_reducible first | exact HB.out | apply qg | apply qc | apply qh | refine ql ?_ q60.out) | exact HB.out)⟩
  ·rw [if_neg c3] at H
   have c3b0 : (qy == 0) = false := beq_eq_false_iff_ne.mpr c3
   have c3b1 : (qy != 0) = true := bne_iff_ne.mpr c3
   obtain rfl := Option.some.inj H
   go_enter Tryd.func81, Tryd.ntmps81
   go_wp2_with (first | ((with_reducible refine qah (N := 1) rfl ?_); (try (refine qbg (by rfl) ?_; dsimp only)); refine vk ?hg (N := 1) ?hd (cs := #[.int .i64 qw, .int .i64 qy, .string za, .slice jy zm.length jm]) (t := 27) ?hr ?_; (case hd => rfl); (case hg => rfl); (case hr => first | (go_simp; done) | (go_simp; rfl)); intro qe2 hg w9 hbox hb; have n0_ := qf.mk (zk (by repeat (first | (with_reducible first | exact HB.out | apply qg | apply qc | apply qh) | exact HB.out)) hb); have n1_ := qf.mk (hbox); have n2_ := qf.mk ((by rw [hg]; exact (zo (by repeat (first | (with_reducible first | exact HB.out | apply qg | apply qc | apply qh) | exact HB.out))) : w.heap.size ≤ qe2)); have n3_ := qf.mk ((by rw [hg]; exact (zo (by repeat (first | (with_reducible first | exact HB.out | apply qg | apply qc | apply qh) | exact HB.out))) : w.heap.size ≤ qe2)); clear HB; have HB := n0_; have qdd := n1_; have zos := n2_; have q60 := n3_; clear n0_ n1_ n2_ n3_; clear hb hbox hg; have qo1 : w9.cell? ⟨qe2, 0, none⟩ = some (.int .i64 qw) := (qb qdd.out 0).trans rfl; have qo2 : w9.cell? ⟨qe2, 1, none⟩ = some (.int .i64 qy) := (qb qdd.out 1).trans rfl; have qo3 : w9.cell? ⟨qe2, 2, none⟩ = some (.string za) := (qb qdd.out 2).trans rfl; have qo4 : w9.cell? ⟨qe2, 3, none⟩ = some (.slice jy zm.length jm) := (qb qdd.out 3).trans rfl; have qjy := qa qdd.out 0; have qjz := qa qdd.out 1; have qj0 := qa qdd.out 2; have qj1 := qa qdd.out 3))
   go_ret
   exact ⟨by first | rfl | (simp [zg, zh] <;> rfl) | (simp [*, zg, zh] <;> rfl), by repeat (first | (with_reducible first | exact HB.out | apply qg | apply qc | apply qh | refine ql ?_ q60.out) | exact HB.out)⟩
 ·rw [if_neg c2] at H
  have c2b0 : (qw == 0) = false := beq_eq_false_iff_ne.mpr c2
  have c2b1 : (qw != 0) = true := bne_iff_ne.mpr c2
  obtain rfl := Option.some.inj H
  go_enter Tryd.func81, Tryd.ntmps81
  go_wp2_with (first | ((with_reducible refine qah (N := 1) rfl ?_); (try (refine qbg (by rfl) ?_; dsimp only)); refine vk ?hg (N := 1) ?hd (cs := #[.int .i64 qw, .int .i64 qy, .string za, .slice jy zm.length jm]) (t := 27) ?hr ?_; (case hd => rfl); (case hg => rfl); (case hr => first | (go_simp; done) | (go_simp; rfl)); intro qe2 hg w11 hbox hb; have n0_ := qf.mk (zk (by repeat (first | (with_reducible first | exact HB.out | apply qg | apply qc | apply qh) | exact HB.out)) hb); have n1_ := qf.mk (hbox); have n2_ := qf.mk ((by rw [hg]; exact (zo (by repeat (first | (with_reducible first | exact HB.out | apply qg | apply qc | apply qh) | exact HB.out))) : w.heap.size ≤ qe2)); have n3_ := qf.mk ((by rw [hg]; exact (zo (by repeat (first | (with_reducible first | exact HB.out | apply qg | apply qc | apply qh) | exact HB.out))) : w.heap.size ≤ qe2)); clear HB; have HB := n0_; have qdd := n1_; have zos := n2_; have q60 := n3_; clear n0_ n1_ n2_ n3_; clear hb hbox hg; have zyt : w11.cell? ⟨qe2, 0, none⟩ = some (.int .i64 qw) := (qb qdd.out 0).trans rfl; have zyu : w11.cell? ⟨qe2, 1, none⟩ = some (.int .i64 qy) := (qb qdd.out 1).trans rfl; have zyv : w11.cell? ⟨qe2, 2, none⟩ = some (.string za) := (qb qdd.out 2).trans rfl; have zyw : w11.cell? ⟨qe2, 3, none⟩ = some (.slice jy zm.length jm) := (qb qdd.out 3).trans rfl; have zzh := qa qdd.out 0; have zzi := qa qdd.out 1; have zzj := qa qdd.out 2; have zzk := qa qdd.out 3))
  go_ret
  exact ⟨by first | rfl | (simp [zg, zh] <;> rfl) | (simp [*, zg, zh] <;> rfl), by repeat (first | (with_reducible first | exact HB.out | apply qg | apply qc | apply qh | refine ql ?_ q60.out) | exact HB.out)⟩
end Go.Proofs.YtpgkhmdfddejfaaDoor.PV
end
