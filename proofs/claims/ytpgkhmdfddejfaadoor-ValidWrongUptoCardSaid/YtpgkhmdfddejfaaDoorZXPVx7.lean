import Derived.Test.YtpgkhmdfddejfaaDoorZXPVx0
import Derived.Test.YtpgkhmdfddejfaaDoorZXPVx3
import Derived.Test.YtpgkhmdfddejfaaDoorZXPVx6
section
namespace Go.Proofs.YtpgkhmdfddejfaaDoor.PV
open Go.RowKit Go.Proofs.YtpgkhmdfddejfaaDoorW.PrintWords Go.Proofs.YtpgkhmdfddejfaaDoorW.PrintLast Go.Proofs.YtpgkhmdfddejfaaDoorW.PrintMore
attribute [local go_sem] qcn qcp qdi qdj qb6 qb7 qco qcq   -- for this text's walks alone
set_option linter.unusedVariables false
set_option linter.unusedSimpArgs false
mutual
def yw.j0 : Nat → Bool → Int → Int → Int → ByteArray → Int → Int → ByteArray → List (S27) → List (S30) → List (S27) → Option (Bool)
 | 0, _, _, _, _, _, _, _, _, _, _, _ => none
 | k + 1, x36, z0p, z0q, z0r, z0s, z0t, z0u, z0v, z0w, zn3, z0x => if x36 = true then (some false) else (yw.l0 k zn3 (zn3.length : Int) 0)
def yw.l0 : Nat → List (S30) → Int → Int → Option (Bool)
 | 0, _, _, _ => none
 | k + 1, x38, x39, x40 => if x40 < x39 then (if 0 ≤ x40 then (if x40 < (x38.length : Int) then ((yw.f k ((zb x38 x40).f0) ((zb x38 x40).f1) ((zb x38 x40).f2) ((zb x38 x40).f3) ((zb x38 x40).f4.f0) ((zb x38 x40).f4.f1) ((zb x38 x40).f4.f2) ((zb x38 x40).f4.f3) ((zb x38 x40).f5) ((zb x38 x40).f6)).bind fun zt5 => (if zt5 = true then (yw.l0 k x38 x39 (wrap64 (x40 + 1))) else (some false))) else (none)) else (none)) else (some true)
def yw.f : Nat → Int → Int → Int → ByteArray → Int → Int → ByteArray → List (S27) → List (S30) → List (S27) → Option (Bool)
 | 0, _, _, _, _, _, _, _, _, _, _ => none
 | k + 1, qw, qy, za, yg, ym, yf, yh, yj, qx, zx => if qw < 0 then (yw.j0 k true qw qy za yg ym yf yh yj qx zx) else (if qw > 15 then (yw.j0 k true qw qy za yg ym yf yh yj qx zx) else (if qw = 10 then (yw.j0 k true qw qy za yg ym yf yh yj qx zx) else ((jw.f k qw (qx.length : Int)).bind fun t171 => (if t171 = true then ((qbi.f qw qy za yg ym yf yh yj qx zx).bind fun q8v => (if q8v = true then ((zz.f k qw qy za yg ym yf yh yj qx zx).bind fun t173 => (yw.j0 k (!t173) qw qy za yg ym yf yh yj qx zx)) else (yw.j0 k true qw qy za yg ym yf yh yj qx zx))) else (yw.j0 k true qw qy za yg ym yf yh yj qx zx)))))
end
theorem yw.qb2 : ∀ k, (∀ y0 y1 y2 y3 y4 y5 y6 y7 y8 y9, LeO (yw.f k y0 y1 y2 y3 y4 y5 y6 y7 y8 y9) (yw.f (k + 1) y0 y1 y2 y3 y4 y5 y6 y7 y8 y9)) ∧ (∀ y0 y1 y2 y3 y4 y5 y6 y7 y8 y9 y10, LeO (yw.j0 k y0 y1 y2 y3 y4 y5 y6 y7 y8 y9 y10) (yw.j0 (k + 1) y0 y1 y2 y3 y4 y5 y6 y7 y8 y9 y10)) ∧ (∀ y0 y1 y2, LeO (yw.l0 k y0 y1 y2) (yw.l0 (k + 1) y0 y1 y2))
 | 0 => ⟨fun _ _ _ _ _ _ _ _ _ _ r h => by simp [yw.f] at h, fun _ _ _ _ _ _ _ _ _ _ _ r h => by simp [yw.j0] at h, fun _ _ _ r h => by simp [yw.l0] at h⟩
 | k + 1 => by
  obtain ⟨ih0, ih1, ih2⟩ := yw.qb2 k
  refine ⟨?_, ?_, ?_⟩
  ·intro y0 y1 y2 y3 y4 y5 y6 y7 y8 y9
   unfold yw.f
   repeat' first
   | (with_reducible exact ih0 _ _ _ _ _ _ _ _ _ _)
   | (with_reducible exact ih1 _ _ _ _ _ _ _ _ _ _ _)
   | (with_reducible exact ih2 _ _ _)
   | (with_reducible exact jw.mono _ _ _)
   | (with_reducible exact zz.mono _ _ _ _ _ _ _ _ _ _ _)
   | (with_reducible exact LeO.refl _)
   | (with_reducible exact LeO.none _)
   | (with_reducible refine LeO.ite ?_ ?_)
   | (with_reducible refine LeO.bind ?_ (fun _ => ?_))
   | exact ih0 _ _ _ _ _ _ _ _ _ _
   | exact ih1 _ _ _ _ _ _ _ _ _ _ _
   | exact ih2 _ _ _
   | exact jw.mono _ _ _
   | exact zz.mono _ _ _ _ _ _ _ _ _ _ _
   | exact LeO.none _
   | refine LeO.ite ?_ ?_
   | refine LeO.bind ?_ (fun _ => ?_)
  ·intro y0 y1 y2 y3 y4 y5 y6 y7 y8 y9 y10
   unfold yw.j0
   repeat' first
   | (with_reducible exact ih0 _ _ _ _ _ _ _ _ _ _)
   | (with_reducible exact ih1 _ _ _ _ _ _ _ _ _ _ _)
   | (with_reducible exact ih2 _ _ _)
   | (with_reducible exact jw.mono _ _ _)
   | (with_reducible exact zz.mono _ _ _ _ _ _ _ _ _ _ _)
   | (with_reducible exact LeO.refl _)
   | (with_reducible exact LeO.none _)
   | (with_reducible refine LeO.ite ?_ ?_)
   | (with_reducible refine LeO.bind ?_ (fun _ => ?_))
   | exact ih0 _ _ _ _ _ _ _ _ _ _
   | exact ih1 _ _ _ _ _ _ _ _ _ _ _
   | exact ih2 _ _ _
   | exact jw.mono _ _ _
   | exact zz.mono _ _ _ _ _ _ _ _ _ _ _
   | exact LeO.none _
   | refine LeO.ite ?_ ?_
   | refine LeO.bind ?_ (fun _ => ?_)
  ·intro y0 y1 y2
   unfold yw.l0
   repeat' first
   | (with_reducible exact ih0 _ _ _ _ _ _ _ _ _ _)
   | (with_reducible exact ih1 _ _ _ _ _ _ _ _ _ _ _)
   | (with_reducible exact ih2 _ _ _)
   | (with_reducible exact jw.mono _ _ _)
   | (with_reducible exact zz.mono _ _ _ _ _ _ _ _ _ _ _)
   | (with_reducible exact LeO.refl _)
   | (with_reducible exact LeO.none _)
   | (with_reducible refine LeO.ite ?_ ?_)
   | (with_reducible refine LeO.bind ?_ (fun _ => ?_))
   | exact ih0 _ _ _ _ _ _ _ _ _ _
   | exact ih1 _ _ _ _ _ _ _ _ _ _ _
   | exact ih2 _ _ _
   | exact jw.mono _ _ _
   | exact zz.mono _ _ _ _ _ _ _ _ _ _ _
   | exact LeO.none _
   | refine LeO.ite ?_ ?_
   | refine LeO.bind ?_ (fun _ => ?_)
theorem yw.mono : ∀ a0 a1 a2 a3 a4 a5 a6 a7 a8 a9 k, LeO (yw.f k a0 a1 a2 a3 a4 a5 a6 a7 a8 a9) (yw.f (k + 1) a0 a1 a2 a3 a4 a5 a6 a7 a8 a9) := by
 intro a0 a1 a2 a3 a4 a5 a6 a7 a8 a9 k
 obtain ⟨ih0, ih1, ih2⟩ := yw.qb2 k
 exact ih0 a0 a1 a2 a3 a4 a5 a6 a7 a8 a9
set_option maxHeartbeats 8000000 in
set_option maxRecDepth 100000 in
theorem yw.calls (k : Nat) : ∀ (qw : Int) (qy : Int) (za : Int) (yg : ByteArray) (ym : Int) (yf : Int) (yh : ByteArray) (qaa : Option Addr) (qab : Nat) (yj : List (S27)) (qai : Option Addr) (qaf : Nat) (qx : List (S30)) (qac : Option Addr) (vo : Nat) (zx : List (S27)) (r : Bool) (w : World) (qkx : Kd.C k27 w qaa yj.length yj) (qkv : yj.length ≤ qab) (qky : Kd.C k30 w qai qx.length qx) (qkw : qx.length ≤ qaf) (qhy : Kd.C k27 w qac zx.length zx) (qhx : zx.length ≤ vo) (hG : Lay w) (h : yw.f k qw qy za yg ym yf yh yj qx zx = some r),
  Calls Tryd.prog 43 #[.agg #[.int .i64 qw, .int .i64 qy, .int .i64 za, .string yg, .int .i64 ym, .int .i64 yf, .string yh, .slice qaa yj.length qab, .slice qai qx.length qaf, .slice qac zx.length vo]] w fun e w' => e = .returned (.bool r) ∧ Below w.heap.size w w' := by
 induction k using Nat.strongRecOn with
 | _ k ih =>
 intro qw qy za yg ym yf yh qaa qab yj qai qaf qx qac vo zx r w qkx qkv qky qkw qhy qhx hG h
 cases k with
 | zero => exact absurd h (by simp [yw.f])
 | succ k =>
 simp only [yw.f] at h
 have qwm := Tryd.underlying30
 have qlc := qf.mk qkx
 have qla := qf.mk qkv
 clear qkx qkv
 have qs4 := qf.mk qky
 have q61 := qf.mk qkw
 clear qky qkw
 have qoh := qf.mk qhy
 have qwq := qf.mk qhx
 clear qhy qhx
 have HB := qf.mk (Below.refl w.heap.size w)
 have HLAY := qf.mk hG
 clear hG
 have H : (if qw < 0 then (yw.j0 k true qw qy za yg ym yf yh yj qx zx) else (if qw > 15 then (yw.j0 k true qw qy za yg ym yf yh yj qx zx) else (if qw = 10 then (yw.j0 k true qw qy za yg ym yf yh yj qx zx) else ((jw.f k qw (qx.length : Int)).bind fun t171 => (if t171 = true then ((qbi.f qw qy za yg ym yf yh yj qx zx).bind fun q8v => (if q8v = true then ((zz.f k qw qy za yg ym yf yh yj qx zx).bind fun t173 => (yw.j0 k (!t173) qw qy za yg ym yf yh yj qx zx)) else (yw.j0 k true qw qy za yg ym yf yh yj qx zx))) else (yw.j0 k true qw qy za yg ym yf yh yj qx zx)))))) = some r := h
 clear h
 have HC2 := qf.mk H
 clear H
 go_enter Tryd.func43, Tryd.ntmps43
 go_upto_region 1 with (first | ((with_reducible refine qah (N := 1) rfl ?_); (try (refine qbg (by rfl) ?_; dsimp only)); refine vk ?hg (N := 1) ?hd (cs := #[.int .i64 qw, .int .i64 qy, .int .i64 za, .string yg, .int .i64 ym, .int .i64 yf, .string yh, .slice qaa yj.length qab, .slice qai qx.length qaf, .slice qac zx.length vo]) (t := 30) ?hr ?_; (case hd => rfl); (case hg => rfl); (case hr => first | (go_simp; done) | (go_simp; rfl)); intro qan hg w3 hbox hb; have n0_ := qf.mk (zk (by repeat (first | (with_reducible first | exact HB.out | apply qg | apply qc | apply qh) | exact HB.out)) hb); have n1_ := qf.mk (hbox); have n2_ := qf.mk ((by rw [hg]; exact (zo (by repeat (first | (with_reducible first | exact HB.out | apply qg | apply qc | apply qh) | exact HB.out))) : w.heap.size ≤ qan)); have n3_ := qf.mk ((by rw [hg]; exact (zo (by repeat (first | (with_reducible first | exact HB.out | apply qg | apply qc | apply qh) | exact HB.out))) : w.heap.size ≤ qan)); clear HB; have HB := n0_; have yz := n1_; have z2e := n2_; have qcy := n3_; clear n0_ n1_ n2_ n3_; clear hb hbox hg))
 (try simp only [Act.put, List.setIfInBounds_toArray, List.set_cons_zero, List.set_cons_succ])
 go_cut [36] (fun v36 wc => ∃ (kq : Nat) (zn7 : Bool), v36 = .bool zn7 ∧ qf (yw.j0 kq zn7 qw qy za yg ym yf yh yj qx zx = some r) ∧ qf (kq ≤ k) ∧ qf (wc.heap[qan]? = some (.cells #[.int .i64 qw, .int .i64 qy, .int .i64 za, .string yg, .int .i64 ym, .int .i64 yf, .string yh, (.slice qaa yj.length qab), (.slice qai qx.length qaf), (.slice qac zx.length vo)] 30 (0, 0))) ∧ qf (Below w.heap.size w wc))
 case first =>
  have H := HC2.out
  clear HC2
  by_cases c4 : qw < 0
  ·rw [if_pos c4] at H
   have c4b0 : decide (qw < 0) = true := decide_eq_true c4
   clear c4
   (first | rw [c4b0] | (simp only [vz, vw]; rw [c4b0]) | skip)
   have H' := qf.mk H
   clear H
   have ziv : w3.cell? ⟨qan, 0, none⟩ = some (.int .i64 qw) := (qb yz.out 0).trans rfl
   have ziw : w3.cell? ⟨qan, 1, none⟩ = some (.int .i64 qy) := (qb yz.out 1).trans rfl
   have zix : w3.cell? ⟨qan, 2, none⟩ = some (.int .i64 za) := (qb yz.out 2).trans rfl
   have ziy : w3.cell? ⟨qan, 3, none⟩ = some (.string yg) := (qb yz.out 3).trans rfl
   have ziz : w3.cell? ⟨qan, 4, none⟩ = some (.int .i64 ym) := (qb yz.out 4).trans rfl
   have zi0 : w3.cell? ⟨qan, 5, none⟩ = some (.int .i64 yf) := (qb yz.out 5).trans rfl
   have zi1 : w3.cell? ⟨qan, 6, none⟩ = some (.string yh) := (qb yz.out 6).trans rfl
   have zi2 : w3.cell? ⟨qan, 7, none⟩ = some (.slice qaa yj.length qab) := (qb yz.out 7).trans rfl
   have zi3 : w3.cell? ⟨qan, 8, none⟩ = some (.slice qai qx.length qaf) := (qb yz.out 8).trans rfl
   have zi4 : w3.cell? ⟨qan, 9, none⟩ = some (.slice qac zx.length vo) := (qb yz.out 9).trans rfl
   have zi6 := qa yz.out 0
   have zi7 := qa yz.out 1
   have zi8 := qa yz.out 2
   have zi9 := qa yz.out 3
   have zja := qa yz.out 4
   have zjb := qa yz.out 5
   have zjc := qa yz.out 6
   have zjd := qa yz.out 7
   have zje := qa yz.out 8
   have zjf := qa yz.out 9
   go_wp2
   go_meet
   case rel => exact ⟨_, (true), (by first | rfl | (simp; done) | (simp [*]; done)), H', ⟨by first | omega | exact Nat.le_refl _⟩, ⟨by (with_reducible repeat (first | refine qj ?_ _ | refine qo ?_ | refine qi ?_ _)); exact yz.out⟩, ⟨by repeat (first | (with_reducible first | exact HB.out | apply qg | apply qc | apply qh | refine ql ?_ qcy.out) | exact HB.out)⟩⟩
  ·rw [if_neg c4] at H
   have c4b0 : decide (qw < 0) = false := decide_eq_false c4
   clear c4
   (first | rw [c4b0] | (simp only [vz, vw]; rw [c4b0]) | skip)
   by_cases c6 : qw > 15
   ·rw [if_pos c6] at H
    have c6b0 : decide (15 < qw) = true := decide_eq_true c6
    clear c6
    have H' := qf.mk H
    clear H
    have qf7 : w3.cell? ⟨qan, 0, none⟩ = some (.int .i64 qw) := (qb yz.out 0).trans rfl
    have qf8 : w3.cell? ⟨qan, 1, none⟩ = some (.int .i64 qy) := (qb yz.out 1).trans rfl
    have qf9 : w3.cell? ⟨qan, 2, none⟩ = some (.int .i64 za) := (qb yz.out 2).trans rfl
    have qga : w3.cell? ⟨qan, 3, none⟩ = some (.string yg) := (qb yz.out 3).trans rfl
    have qh5 : w3.cell? ⟨qan, 4, none⟩ = some (.int .i64 ym) := (qb yz.out 4).trans rfl
    have qh6 : w3.cell? ⟨qan, 5, none⟩ = some (.int .i64 yf) := (qb yz.out 5).trans rfl
    have qh7 : w3.cell? ⟨qan, 6, none⟩ = some (.string yh) := (qb yz.out 6).trans rfl
    have qh8 : w3.cell? ⟨qan, 7, none⟩ = some (.slice qaa yj.length qab) := (qb yz.out 7).trans rfl
    have qh9 : w3.cell? ⟨qan, 8, none⟩ = some (.slice qai qx.length qaf) := (qb yz.out 8).trans rfl
    have qia : w3.cell? ⟨qan, 9, none⟩ = some (.slice qac zx.length vo) := (qb yz.out 9).trans rfl
    have qdu := qa yz.out 0
    have qdv := qa yz.out 1
    have qdw := qa yz.out 2
    have qdx := qa yz.out 3
    have qfl := qa yz.out 4
    have qfm := qa yz.out 5
    have qfn := qa yz.out 6
    have qfo := qa yz.out 7
    have qfp := qa yz.out 8
    have qfq := qa yz.out 9
    go_wp2
    go_meet
    case rel => exact ⟨_, (true), (by first | rfl | (simp; done) | (simp [*]; done)), H', ⟨by first | omega | exact Nat.le_refl _⟩, ⟨by (with_reducible repeat (first | refine qj ?_ _ | refine qo ?_ | refine qi ?_ _)); exact yz.out⟩, ⟨by repeat (first | (with_reducible first | exact HB.out | apply qg | apply qc | apply qh | refine ql ?_ qcy.out) | exact HB.out)⟩⟩
   ·rw [if_neg c6] at H
    have c6b0 : decide (15 < qw) = false := decide_eq_false c6
    clear c6
    by_cases c8 : qw = 10
    ·rw [if_pos c8] at H
     have c8b0 : (qw == 10) = true := beq_iff_eq.mpr c8
     have c8b1 : (qw != 10) = false := bne_eq_false_iff_eq.mpr c8
     clear c8
     have H' := qf.mk H
     clear H
     have qd5 : w3.cell? ⟨qan, 0, none⟩ = some (.int .i64 qw) := (qb yz.out 0).trans rfl
     have qd6 : w3.cell? ⟨qan, 1, none⟩ = some (.int .i64 qy) := (qb yz.out 1).trans rfl
     have qd7 : w3.cell? ⟨qan, 2, none⟩ = some (.int .i64 za) := (qb yz.out 2).trans rfl
     have qd8 : w3.cell? ⟨qan, 3, none⟩ = some (.string yg) := (qb yz.out 3).trans rfl
     have qn5 : w3.cell? ⟨qan, 4, none⟩ = some (.int .i64 ym) := (qb yz.out 4).trans rfl
     have qn6 : w3.cell? ⟨qan, 5, none⟩ = some (.int .i64 yf) := (qb yz.out 5).trans rfl
     have qn7 : w3.cell? ⟨qan, 6, none⟩ = some (.string yh) := (qb yz.out 6).trans rfl
     have qn8 : w3.cell? ⟨qan, 7, none⟩ = some (.slice qaa yj.length qab) := (qb yz.out 7).trans rfl
     have qn9 : w3.cell? ⟨qan, 8, none⟩ = some (.slice qai qx.length qaf) := (qb yz.out 8).trans rfl
     have qoa : w3.cell? ⟨qan, 9, none⟩ = some (.slice qac zx.length vo) := (qb yz.out 9).trans rfl
     have qc0 := qa yz.out 0
     have qc7 := qa yz.out 1
     have qc8 := qa yz.out 2
     have qc9 := qa yz.out 3
     have qiz := qa yz.out 4
     have qi0 := qa yz.out 5
     have qi1 := qa yz.out 6
     have qi2 := qa yz.out 7
     have qi3 := qa yz.out 8
     have qi4 := qa yz.out 9
     go_wp2
     go_meet
     case rel => exact ⟨_, (true), (by first | rfl | (simp; done) | (simp [*]; done)), H', ⟨by first | omega | exact Nat.le_refl _⟩, ⟨by (with_reducible repeat (first | refine qj ?_ _ | refine qo ?_ | refine qi ?_ _)); exact yz.out⟩, ⟨by repeat (first | (with_reducible first | exact HB.out | apply qg | apply qc | apply qh | refine ql ?_ qcy.out) | exact HB.out)⟩⟩
    ·rw [if_neg c8] at H
     have c8b0 : (qw == 10) = false := beq_eq_false_iff_ne.mpr c8
     have c8b1 : (qw != 10) = true := bne_iff_ne.mpr c8
     replace H := Option.bind_eq_some_iff.mp H
     obtain ⟨t171, q8s, H⟩ := H
     replace H : (if t171 = true then ((qbi.f qw qy za yg ym yf yh yj qx zx).bind fun q8v => (if q8v = true then ((zz.f k qw qy za yg ym yf yh yj qx zx).bind fun t173 => (yw.j0 k (!t173) qw qy za yg ym yf yh yj qx zx)) else (yw.j0 k true qw qy za yg ym yf yh yj qx zx))) else (yw.j0 k true qw qy za yg ym yf yh yj qx zx)) = some r := H
     have A10 := qf.mk q8s
     clear q8s
     by_cases c11 : t171 = true
     ·subst c11
      have H1 : ((qbi.f qw qy za yg ym yf yh yj qx zx).bind fun q8v => (if q8v = true then ((zz.f k qw qy za yg ym yf yh yj qx zx).bind fun t173 => (yw.j0 k (!t173) qw qy za yg ym yf yh yj qx zx)) else (yw.j0 k true qw qy za yg ym yf yh yj qx zx))) = some r := by rw [if_pos rfl] at H; exact H
      clear H
      have H := H1
      clear H1
      replace H := Option.bind_eq_some_iff.mp H
      obtain ⟨q8v, zwn, H⟩ := H
      replace H : (if q8v = true then ((zz.f k qw qy za yg ym yf yh yj qx zx).bind fun t173 => (yw.j0 k (!t173) qw qy za yg ym yf yh yj qx zx)) else (yw.j0 k true qw qy za yg ym yf yh yj qx zx)) = some r := H
      have A12 := qf.mk zwn
      clear zwn
      by_cases c13 : q8v = true
      ·subst c13
       have H1 : ((zz.f k qw qy za yg ym yf yh yj qx zx).bind fun t173 => (yw.j0 k (!t173) qw qy za yg ym yf yh yj qx zx)) = some r := by rw [if_pos rfl] at H; exact H
       clear H
       have H := H1
       clear H1
       replace H := Option.bind_eq_some_iff.mp H
       obtain ⟨t173, zwp, H⟩ := H
       replace H : (yw.j0 k (!t173) qw qy za yg ym yf yh yj qx zx) = some r := H
       have A14 := qf.mk zwp
       clear zwp
       have H' := qf.mk H
       clear H
       have qei : w3.cell? ⟨qan, 0, none⟩ = some (.int .i64 qw) := (qb yz.out 0).trans rfl
       have qej : w3.cell? ⟨qan, 1, none⟩ = some (.int .i64 qy) := (qb yz.out 1).trans rfl
       have qek : w3.cell? ⟨qan, 2, none⟩ = some (.int .i64 za) := (qb yz.out 2).trans rfl
       have qel : w3.cell? ⟨qan, 3, none⟩ = some (.string yg) := (qb yz.out 3).trans rfl
       have qto : w3.cell? ⟨qan, 4, none⟩ = some (.int .i64 ym) := (qb yz.out 4).trans rfl
       have qtp : w3.cell? ⟨qan, 5, none⟩ = some (.int .i64 yf) := (qb yz.out 5).trans rfl
       have qtq : w3.cell? ⟨qan, 6, none⟩ = some (.string yh) := (qb yz.out 6).trans rfl
       have qtr : w3.cell? ⟨qan, 7, none⟩ = some (.slice qaa yj.length qab) := (qb yz.out 7).trans rfl
       have qts : w3.cell? ⟨qan, 8, none⟩ = some (.slice qai qx.length qaf) := (qb yz.out 8).trans rfl
       have qtt : w3.cell? ⟨qan, 9, none⟩ = some (.slice qac zx.length vo) := (qb yz.out 9).trans rfl
       have qcr := qa yz.out 0
       have qcs := qa yz.out 1
       have qct := qa yz.out 2
       have qcu := qa yz.out 3
       have qgg := qa yz.out 4
       have qgh := qa yz.out 5
       have qgi := qa yz.out 6
       have qgj := qa yz.out 7
       have qgk := qa yz.out 8
       have qgl := qa yz.out 9
       go_wp2_with (first | (go_at_call 67; (with_reducible refine (jw.calls k qw (qx.length : Int) true _ A10.out).mono ?_); rintro e w' ⟨rfl, ⟨nd, rfl⟩⟩) | (go_at_call 68; (with_reducible refine (qbi.calls qw qy za yg ym yf yh _ _ yj _ _ qx _ _ zx true _ ?side1 ?side2 ?side3 ?side4 ?side5 ?side6 A12.out).mono ?_); (case side1 => repeat (first | exact (Kd.vv qlc.out (by repeat (first | (with_reducible first | exact HB.out | apply qg | apply qc | apply qh | refine ql ?_ qcy.out) | exact HB.out))) | (with_reducible refine Kd.qba ?_ _) | (with_reducible refine Kd.qaz ?_ _) | (with_reducible refine Kd.qbq ?_))); (case side2 => exact qla.out); (case side3 => repeat (first | exact (Kd.vv qs4.out (by repeat (first | (with_reducible first | exact HB.out | apply qg | apply qc | apply qh | refine ql ?_ qcy.out) | exact HB.out))) | (with_reducible refine Kd.qba ?_ _) | (with_reducible refine Kd.qaz ?_ _) | (with_reducible refine Kd.qbq ?_))); (case side4 => exact q61.out); (case side5 => repeat (first | exact (Kd.vv qoh.out (by repeat (first | (with_reducible first | exact HB.out | apply qg | apply qc | apply qh | refine ql ?_ qcy.out) | exact HB.out))) | (with_reducible refine Kd.qba ?_ _) | (with_reducible refine Kd.qaz ?_ _) | (with_reducible refine Kd.qbq ?_))); (case side6 => exact qwq.out); rintro e w16 ⟨rfl, hb⟩; have n0_ := qf.mk (zl (g := qan) (o := .cells #[.int .i64 qw, .int .i64 qy, .int .i64 za, .string yg, .int .i64 ym, .int .i64 yf, .string yh, .slice qaa yj.length qab, .slice qai qx.length qaf, .slice qac zx.length vo] 30 (0, 0)) (by (with_reducible repeat (first | refine qj ?_ _ | refine qo ?_ | refine qi ?_ _)); exact yz.out) hb); have n1_ := qf.mk (zk (by repeat (first | (with_reducible first | exact HB.out | apply qg | apply qc | apply qh | refine ql ?_ qcy.out) | exact HB.out)) hb); clear yz; clear HB; have yz := n0_; have HB := n1_; clear n0_ n1_; (try clear hb); (try clear hb2); (try clear hk); (try clear hi); have q1c : w16.cell? ⟨qan, 0, none⟩ = some (.int .i64 qw) := (qb yz.out 0).trans rfl; have q1d : w16.cell? ⟨qan, 1, none⟩ = some (.int .i64 qy) := (qb yz.out 1).trans rfl; have q1e : w16.cell? ⟨qan, 2, none⟩ = some (.int .i64 za) := (qb yz.out 2).trans rfl; have q1f : w16.cell? ⟨qan, 3, none⟩ = some (.string yg) := (qb yz.out 3).trans rfl; have q94 : w16.cell? ⟨qan, 4, none⟩ = some (.int .i64 ym) := (qb yz.out 4).trans rfl; have q95 : w16.cell? ⟨qan, 5, none⟩ = some (.int .i64 yf) := (qb yz.out 5).trans rfl; have q96 : w16.cell? ⟨qan, 6, none⟩ = some (.string yh) := (qb yz.out 6).trans rfl; have q97 : w16.cell? ⟨qan, 7, none⟩ = some (.slice qaa yj.length qab) := (qb yz.out 7).trans rfl; have q98 : w16.cell? ⟨qan, 8, none⟩ = some (.slice qai qx.length qaf) := (qb yz.out 8).trans rfl; have q99 : w16.cell? ⟨qan, 9, none⟩ = some (.slice qac zx.length vo) := (qb yz.out 9).trans rfl; have q3r := qa yz.out 0; have q3s := qa yz.out 1; have q3t := qa yz.out 2; have q3u := qa yz.out 3; have zet := qa yz.out 4; have zeu := qa yz.out 5; have zev := qa yz.out 6; have zew := qa yz.out 7; have zex := qa yz.out 8; have zey := qa yz.out 9) | (go_at_call 69; (with_reducible refine (zz.calls k qw qy za yg ym yf yh _ _ yj _ _ qx _ _ zx t173 _ ?side1 ?side2 ?side3 ?side4 ?side5 ?side6 ?side7 A14.out).mono ?_); (case side1 => repeat (first | exact (Kd.vv qlc.out HB.out) | (with_reducible refine Kd.qba ?_ _) | (with_reducible refine Kd.qaz ?_ _) | (with_reducible refine Kd.qbq ?_))); (case side2 => exact qla.out); (case side3 => repeat (first | exact (Kd.vv qs4.out HB.out) | (with_reducible refine Kd.qba ?_ _) | (with_reducible refine Kd.qaz ?_ _) | (with_reducible refine Kd.qbq ?_))); (case side4 => exact q61.out); (case side5 => repeat (first | exact (Kd.vv qoh.out HB.out) | (with_reducible refine Kd.qba ?_ _) | (with_reducible refine Kd.qaz ?_ _) | (with_reducible refine Kd.qbq ?_))); (case side6 => exact qwq.out); (case side7 => exact Lay.below HLAY.out (by repeat (first | (with_reducible first | exact HB.out | apply qg | apply qc | apply qh | refine ql ?_ qcy.out) | exact HB.out))); rintro e w18 ⟨rfl, hb⟩; have n0_ := qf.mk (zl (g := qan) (o := .cells #[.int .i64 qw, .int .i64 qy, .int .i64 za, .string yg, .int .i64 ym, .int .i64 yf, .string yh, .slice qaa yj.length qab, .slice qai qx.length qaf, .slice qac zx.length vo] 30 (0, 0)) (by (with_reducible repeat (first | refine qj ?_ _ | refine qo ?_ | refine qi ?_ _)); exact yz.out) hb); have n1_ := qf.mk (zk (by repeat (first | (with_reducible first | exact HB.out | apply qg | apply qc | apply qh | refine ql ?_ qcy.out) | exact HB.out)) hb); clear yz; clear HB; have yz := n0_; have HB := n1_; clear n0_ n1_; (try clear hb); (try clear hb2); (try clear hk); (try clear hi)))
       go_meet
       case rel => exact ⟨_, (!t173), (by first | rfl | (simp; done) | (simp [*]; done)), H', ⟨by first | omega | exact Nat.le_refl _⟩, ⟨by (with_reducible repeat (first | refine qj ?_ _ | refine qo ?_ | refine qi ?_ _)); exact yz.out⟩, ⟨by repeat (first | (with_reducible first | exact HB.out | apply qg | apply qc | apply qh | refine ql ?_ qcy.out) | exact HB.out)⟩⟩
      ·replace c13 := Bool.eq_false_iff.mpr c13
       subst c13
       have H1 : (yw.j0 k true qw qy za yg ym yf yh yj qx zx) = some r := by rw [if_neg (show ¬ (false = true) by decide)] at H; exact H
       clear H
       have H := H1
       clear H1
       have H' := qf.mk H
       clear H
       have qw2 : w3.cell? ⟨qan, 0, none⟩ = some (.int .i64 qw) := (qb yz.out 0).trans rfl
       have qw3 : w3.cell? ⟨qan, 1, none⟩ = some (.int .i64 qy) := (qb yz.out 1).trans rfl
       have qw4 : w3.cell? ⟨qan, 2, none⟩ = some (.int .i64 za) := (qb yz.out 2).trans rfl
       have qw5 : w3.cell? ⟨qan, 3, none⟩ = some (.string yg) := (qb yz.out 3).trans rfl
       have qw6 : w3.cell? ⟨qan, 4, none⟩ = some (.int .i64 ym) := (qb yz.out 4).trans rfl
       have qw7 : w3.cell? ⟨qan, 5, none⟩ = some (.int .i64 yf) := (qb yz.out 5).trans rfl
       have qw8 : w3.cell? ⟨qan, 6, none⟩ = some (.string yh) := (qb yz.out 6).trans rfl
       have qw9 : w3.cell? ⟨qan, 7, none⟩ = some (.slice qaa yj.length qab) := (qb yz.out 7).trans rfl
       have qxa : w3.cell? ⟨qan, 8, none⟩ = some (.slice qai qx.length qaf) := (qb yz.out 8).trans rfl
       have qxb : w3.cell? ⟨qan, 9, none⟩ = some (.slice qac zx.length vo) := (qb yz.out 9).trans rfl
       have qha := qa yz.out 0
       have qhb := qa yz.out 1
       have qhc := qa yz.out 2
       have qhd := qa yz.out 3
       have qhe := qa yz.out 4
       have qhf := qa yz.out 5
       have qhg := qa yz.out 6
       have qhh := qa yz.out 7
       have qhi := qa yz.out 8
       have qhj := qa yz.out 9
       go_wp2_with (first | (go_at_call 67; (with_reducible refine (jw.calls k qw (qx.length : Int) true _ A10.out).mono ?_); rintro e w' ⟨rfl, ⟨nd, rfl⟩⟩) | (go_at_call 68; (with_reducible refine (qbi.calls qw qy za yg ym yf yh _ _ yj _ _ qx _ _ zx false _ ?side1 ?side2 ?side3 ?side4 ?side5 ?side6 A12.out).mono ?_); (case side1 => repeat (first | exact (Kd.vv qlc.out (by repeat (first | (with_reducible first | exact HB.out | apply qg | apply qc | apply qh | refine ql ?_ qcy.out) | exact HB.out))) | (with_reducible refine Kd.qba ?_ _) | (with_reducible refine Kd.qaz ?_ _) | (with_reducible refine Kd.qbq ?_))); (case side2 => exact qla.out); (case side3 => repeat (first | exact (Kd.vv qs4.out (by repeat (first | (with_reducible first | exact HB.out | apply qg | apply qc | apply qh | refine ql ?_ qcy.out) | exact HB.out))) | (with_reducible refine Kd.qba ?_ _) | (with_reducible refine Kd.qaz ?_ _) | (with_reducible refine Kd.qbq ?_))); (case side4 => exact q61.out); (case side5 => repeat (first | exact (Kd.vv qoh.out (by repeat (first | (with_reducible first | exact HB.out | apply qg | apply qc | apply qh | refine ql ?_ qcy.out) | exact HB.out))) | (with_reducible refine Kd.qba ?_ _) | (with_reducible refine Kd.qaz ?_ _) | (with_reducible refine Kd.qbq ?_))); (case side6 => exact qwq.out); rintro e w20 ⟨rfl, hb⟩; have n0_ := qf.mk (zl (g := qan) (o := .cells #[.int .i64 qw, .int .i64 qy, .int .i64 za, .string yg, .int .i64 ym, .int .i64 yf, .string yh, .slice qaa yj.length qab, .slice qai qx.length qaf, .slice qac zx.length vo] 30 (0, 0)) (by (with_reducible repeat (first | refine qj ?_ _ | refine qo ?_ | refine qi ?_ _)); exact yz.out) hb); have n1_ := qf.mk (zk (by repeat (first | (with_reducible first | exact HB.out | apply qg | apply qc | apply qh | refine ql ?_ qcy.out) | exact HB.out)) hb); clear yz; clear HB; have yz := n0_; have HB := n1_; clear n0_ n1_; (try clear hb); (try clear hb2); (try clear hk); (try clear hi)))
       go_meet
       case rel => exact ⟨_, (true), (by first | rfl | (simp; done) | (simp [*]; done)), H', ⟨by first | omega | exact Nat.le_refl _⟩, ⟨by (with_reducible repeat (first | refine qj ?_ _ | refine qo ?_ | refine qi ?_ _)); exact yz.out⟩, ⟨by repeat (first | (with_reducible first | exact HB.out | apply qg | apply qc | apply qh | refine ql ?_ qcy.out) | exact HB.out)⟩⟩
     ·replace c11 := Bool.eq_false_iff.mpr c11
      subst c11
      have H1 : (yw.j0 k true qw qy za yg ym yf yh yj qx zx) = some r := by rw [if_neg (show ¬ (false = true) by decide)] at H; exact H
      clear H
      have H := H1
      clear H1
      have H' := qf.mk H
      clear H
      have qju : w3.cell? ⟨qan, 0, none⟩ = some (.int .i64 qw) := (qb yz.out 0).trans rfl
      have qjv : w3.cell? ⟨qan, 1, none⟩ = some (.int .i64 qy) := (qb yz.out 1).trans rfl
      have qjw : w3.cell? ⟨qan, 2, none⟩ = some (.int .i64 za) := (qb yz.out 2).trans rfl
      have qjx : w3.cell? ⟨qan, 3, none⟩ = some (.string yg) := (qb yz.out 3).trans rfl
      have zke : w3.cell? ⟨qan, 4, none⟩ = some (.int .i64 ym) := (qb yz.out 4).trans rfl
      have zkf : w3.cell? ⟨qan, 5, none⟩ = some (.int .i64 yf) := (qb yz.out 5).trans rfl
      have zkg : w3.cell? ⟨qan, 6, none⟩ = some (.string yh) := (qb yz.out 6).trans rfl
      have zkh : w3.cell? ⟨qan, 7, none⟩ = some (.slice qaa yj.length qab) := (qb yz.out 7).trans rfl
      have zki : w3.cell? ⟨qan, 8, none⟩ = some (.slice qai qx.length qaf) := (qb yz.out 8).trans rfl
      have zkj : w3.cell? ⟨qan, 9, none⟩ = some (.slice qac zx.length vo) := (qb yz.out 9).trans rfl
      have qj2 := qa yz.out 0
      have qj3 := qa yz.out 1
      have qj4 := qa yz.out 2
      have qj5 := qa yz.out 3
      have zmi := qa yz.out 4
      have zmj := qa yz.out 5
      have zmk := qa yz.out 6
      have zml := qa yz.out 7
      have zmm := qa yz.out 8
      have zmn := qa yz.out 9
      go_wp2_with (first | (go_at_call 67; (with_reducible refine (jw.calls k qw (qx.length : Int) false _ A10.out).mono ?_); rintro e w' ⟨rfl, ⟨nd, rfl⟩⟩))
      go_meet
      case rel => exact ⟨_, (true), (by first | rfl | (simp; done) | (simp [*]; done)), H', ⟨by first | omega | exact Nat.le_refl _⟩, ⟨by (with_reducible repeat (first | refine qj ?_ _ | refine qo ?_ | refine qi ?_ _)); exact yz.out⟩, ⟨by repeat (first | (with_reducible first | exact HB.out | apply qg | apply qc | apply qh | refine ql ?_ qcy.out) | exact HB.out)⟩⟩
 case rest =>
  clear HC2
  (try clear c1); (try clear p2); (try clear c4); (try clear c4b0); (try clear c6); (try clear c6b0); (try clear c8); (try clear c8b0); (try clear c8b1); (try clear c11); (try clear c13); (try clear qei qej qek qel qto qtp qtq qtr qts qtt); (try clear q1c q1d q1e q1f q94 q95 q96 q97 q98 q99); (try clear qw2 qw3 qw4 qw5 qw6 qw7 qw8 qw9 qxa qxb); (try clear qju qjv qjw qjx zke zkf zkg zkh zki zkj); (try clear ziv ziw zix ziy ziz zi0 zi1 zi2 zi3 zi4); (try clear qf7 qf8 qf9 qga qh5 qh6 qh7 qh8 qh9 qia); (try clear qd5 qd6 qd7 qd8 qn5 qn6 qn7 qn8 qn9 qoa); (try clear qcr qcs qct qcu qgg qgh qgi qgj qgk qgl); (try clear q3r q3s q3t q3u zet zeu zev zew zex zey); (try clear qha qhb qhc qhd qhe qhf qhg qhh qhi qhj); (try clear qj2 qj3 qj4 qj5 zmi zmj zmk zml zmm zmn); (try clear zi6 zi7 zi8 zi9 zja zjb zjc zjd zje zjf); (try clear qdu qdv qdw qdx qfl qfm qfn qfo qfp qfq); (try clear qc0 qc7 qc8 qc9 qiz qi0 qi1 qi2 qi3 qi4)
  obtain ⟨kq, zn7, rfl, HA, HJ1, yz, HB⟩ := hcut
  cases kq with
  | zero => exact absurd HA.out (by simp [yw.j0])
  | succ kj1 =>
   have H := HA.out
   clear HA
   simp only [yw.j0] at H
   by_cases c22 : zn7 = true
   ·subst c22
    have H1 : (some false) = some r := by rw [if_pos rfl] at H; exact H
    clear H
    have H := H1
    clear H1
    obtain rfl := Option.some.inj H
    go_wp2
    go_ret
    exact ⟨by first | rfl | (simp [zg, zh] <;> rfl) | (simp [*, zg, zh] <;> rfl), by repeat (first | (with_reducible first | exact HB.out | apply qg | apply qc | apply qh | refine ql ?_ qcy.out) | exact HB.out)⟩
   ·replace c22 := Bool.eq_false_iff.mpr c22
    subst c22
    have H1 : (yw.l0 kj1 qx (qx.length : Int) 0) = some r := by rw [if_neg (show ¬ (false = true) by decide)] at H; exact H
    clear H
    have H := H1
    clear H1
    have H' := qf.mk H
    clear H
    have qxi : wc.cell? ⟨qan, 0, none⟩ = some (.int .i64 qw) := (qb yz.out 0).trans rfl
    have qxj : wc.cell? ⟨qan, 1, none⟩ = some (.int .i64 qy) := (qb yz.out 1).trans rfl
    have qxk : wc.cell? ⟨qan, 2, none⟩ = some (.int .i64 za) := (qb yz.out 2).trans rfl
    have qxl : wc.cell? ⟨qan, 3, none⟩ = some (.string yg) := (qb yz.out 3).trans rfl
    have zsn : wc.cell? ⟨qan, 4, none⟩ = some (.int .i64 ym) := (qb yz.out 4).trans rfl
    have zso : wc.cell? ⟨qan, 5, none⟩ = some (.int .i64 yf) := (qb yz.out 5).trans rfl
    have zsp : wc.cell? ⟨qan, 6, none⟩ = some (.string yh) := (qb yz.out 6).trans rfl
    have zsq : wc.cell? ⟨qan, 7, none⟩ = some (.slice qaa yj.length qab) := (qb yz.out 7).trans rfl
    have zsr : wc.cell? ⟨qan, 8, none⟩ = some (.slice qai qx.length qaf) := (qb yz.out 8).trans rfl
    have zss : wc.cell? ⟨qan, 9, none⟩ = some (.slice qac zx.length vo) := (qb yz.out 9).trans rfl
    have qyf := qa yz.out 0
    have qyg := qa yz.out 1
    have qyh := qa yz.out 2
    have qyi := qa yz.out 3
    have ztm := qa yz.out 4
    have ztn := qa yz.out 5
    have zto := qa yz.out 6
    have ztp := qa yz.out 7
    have ztq := qa yz.out 8
    have ztr := qa yz.out 9
    go_wp2
    go_loopg [40] kj1 (fun kq v40 w' => ∃ (jf : Int), v40 = .int .i64 jf ∧ qf (yw.l0 kq qx (qx.length : Int) jf = some r) ∧ qf (kq ≤ kj1) ∧ qf (w'.heap[qan]? = some (.cells #[.int .i64 qw, .int .i64 qy, .int .i64 za, .string yg, .int .i64 ym, .int .i64 yf, .string yh, (.slice qaa yj.length qab), (.slice qai qx.length qaf), (.slice qac zx.length vo)] 30 (0, 0))) ∧ qf (Below w.heap.size w w'))
    case atStart => exact ⟨(0), (by first | rfl | (simp; done) | (simp [*]; done)), H', ⟨Nat.le_refl _⟩, ⟨by (with_reducible repeat (first | refine qj ?_ _ | refine qo ?_ | refine qi ?_ _)); exact yz.out⟩, ⟨by repeat (first | (with_reducible first | exact HB.out | apply qg | apply qc | apply qh | refine ql ?_ qcy.out) | exact HB.out)⟩⟩
    case round =>
     clear H'
     (try clear c1); (try clear c2); (try clear p2); (try clear c4); (try clear c4b0); (try clear c6); (try clear c6b0); (try clear c8); (try clear c8b0); (try clear c8b1); (try clear c11); (try clear c13); (try clear c22); (try clear qei qej qek qel qto qtp qtq qtr qts qtt); (try clear q1c q1d q1e q1f q94 q95 q96 q97 q98 q99); (try clear qw2 qw3 qw4 qw5 qw6 qw7 qw8 qw9 qxa qxb); (try clear qju qjv qjw qjx zke zkf zkg zkh zki zkj); (try clear qxi qxj qxk qxl zsn zso zsp zsq zsr zss); (try clear ziv ziw zix ziy ziz zi0 zi1 zi2 zi3 zi4); (try clear qf7 qf8 qf9 qga qh5 qh6 qh7 qh8 qh9 qia); (try clear qd5 qd6 qd7 qd8 qn5 qn6 qn7 qn8 qn9 qoa); (try clear qcr qcs qct qcu qgg qgh qgi qgj qgk qgl); (try clear q3r q3s q3t q3u zet zeu zev zew zex zey); (try clear qha qhb qhc qhd qhe qhf qhg qhh qhi qhj); (try clear qj2 qj3 qj4 qj5 zmi zmj zmk zml zmm zmn); (try clear qyf qyg qyh qyi ztm ztn zto ztp ztq ztr); (try clear zi6 zi7 zi8 zi9 zja zjb zjc zjd zje zjf); (try clear qdu qdv qdw qdx qfl qfm qfn qfo qfp qfq); (try clear qc0 qc7 qc8 qc9 qiz qi0 qi1 qi2 qi3 qi4); (try clear p2)
     obtain ⟨jf, rfl, HA, HK2, yz, HB⟩ := hrel
     cases gk with
     | zero => exact absurd HA.out (by simp [yw.l0])
     | succ k2 =>
      have H := HA.out
      clear HA
      simp only [yw.l0] at H
      by_cases c24 : jf < (qx.length : Int)
      ·rw [if_pos c24] at H
       have c24b0 : decide (jf < (qx.length : Int)) = true := decide_eq_true c24
       clear c24
       by_cases c25 : 0 ≤ jf
       ·rw [if_pos c25] at H
        have c25b0 : decide (0 ≤ jf) = true := decide_eq_true c25
        clear c25
        by_cases c26 : jf < (qx.length : Int)
        ·rw [if_pos c26] at H
         have c26b0 : decide (jf < (qx.length : Int)) = true := decide_eq_true c26
         clear c26
         replace H := Option.bind_eq_some_iff.mp H
         obtain ⟨zt5, zwt, H⟩ := H
         replace H : (if zt5 = true then (yw.l0 k2 qx (qx.length : Int) (wrap64 (jf + 1))) else (some false)) = some r := H
         have A27 := qf.mk zwt
         clear zwt
         by_cases c28 : zt5 = true
         ·subst c28
          have H1 : (yw.l0 k2 qx (qx.length : Int) (wrap64 (jf + 1))) = some r := by rw [if_pos rfl] at H; exact H
          clear H
          have H := H1
          clear H1
          have H' := qf.mk H
          clear H
          have zjm : 0 ≤ (jf : Int) := of_decide_eq_true (by first | (with_reducible assumption) | assumption)
          have zjw : jf < (qx.length : Int) := of_decide_eq_true (by first | (with_reducible assumption) | assumption)
          obtain ⟨qwz, qop, qoy, qwh, qwl, q6t, q69, zvd, qr9, qsa, qsb, qsc, qsd, qse, qsf, qsg, qsh, qsi, qzd, qy1, qze, qy2, qzf, qy3⟩ := q65 qs4.out jf zjm zjw
          cases zvd
          replace qr9 := (HB.out.cell (World.block_lt_of_cell? w _ qr9)).trans qr9
          replace qsa := (HB.out.cell (World.block_lt_of_cell? w _ qsa)).trans qsa
          replace qsb := (HB.out.cell (World.block_lt_of_cell? w _ qsb)).trans qsb
          replace qsc := (HB.out.cell (World.block_lt_of_cell? w _ qsc)).trans qsc
          replace qsd := (HB.out.cell (World.block_lt_of_cell? w _ qsd)).trans qsd
          replace qse := (HB.out.cell (World.block_lt_of_cell? w _ qse)).trans qse
          replace qsf := (HB.out.cell (World.block_lt_of_cell? w _ qsf)).trans qsf
          replace qsg := (HB.out.cell (World.block_lt_of_cell? w _ qsg)).trans qsg
          replace qsh := (HB.out.cell (World.block_lt_of_cell? w _ qsh)).trans qsh
          replace qsi := (HB.out.cell (World.block_lt_of_cell? w _ qsi)).trans qsi
          have q9j := qf.mk qy1
          have q88 := qf.mk qzd
          clear qy1 qzd
          have q9k := qf.mk qy2
          have q89 := qf.mk qze
          clear qy2 qze
          have q9l := qf.mk qy3
          have q9a := qf.mk qzf
          clear qy3 qzf
          replace zjm := eq_true zjm
          replace zjw := eq_true zjw
          go_wp2_with (first | ((with_reducible refine qah (N := 4) rfl ?_); (try (refine qbg (by rfl) ?_; dsimp only)); refine vk ?hg (N := 4) ?hd (cs := #[.int .i64 0, .int .i64 0, .int .i64 0, .string (⟨#[]⟩ : ByteArray), .int .i64 0, .int .i64 0, .string (⟨#[]⟩ : ByteArray), .slice none 0 0, .slice none 0 0, .slice none 0 0]) (t := 30) ?hr ?_; (case hd => rfl); (case hg => rfl); (case hr => first | (go_simp; done) | (go_simp; rfl)); intro qd4 hg w29 hbox hb; have n0_ := qf.mk (zl (g := qan) (o := .cells #[.int .i64 qw, .int .i64 qy, .int .i64 za, .string yg, .int .i64 ym, .int .i64 yf, .string yh, .slice qaa yj.length qab, .slice (some qwz) qx.length qaf, .slice qac zx.length vo] 30 (0, 0)) (by (with_reducible repeat (first | refine qj ?_ _ | refine qo ?_ | refine qi ?_ _)); exact yz.out) hb); have n1_ := qf.mk (zk (by repeat (first | (with_reducible first | exact HB.out | apply qg | apply qc | apply qh | refine ql ?_ qcy.out) | exact HB.out)) hb); have n2_ := qf.mk (hbox); have n3_ := qf.mk ((by rw [hg]; exact (zo (by repeat (first | (with_reducible first | exact HB.out | apply qg | apply qc | apply qh | refine ql ?_ qcy.out) | exact HB.out))) : w.heap.size ≤ qd4)); have n4_ := qf.mk ((by rw [hg]; exact (zo (by repeat (first | (with_reducible first | exact HB.out | apply qg | apply qc | apply qh | refine ql ?_ qcy.out) | exact HB.out))) : w.heap.size ≤ qd4)); have n5_ := qf.mk ((by rw [hg]; exact Nat.ne_of_lt (qax (g := qan) (o := .cells #[.int .i64 qw, .int .i64 qy, .int .i64 za, .string yg, .int .i64 ym, .int .i64 yf, .string yh, .slice qaa yj.length qab, .slice (some qwz) qx.length qaf, .slice qac zx.length vo] 30 (0, 0)) (by (with_reducible repeat (first | refine qj ?_ _ | refine qo ?_ | refine qi ?_ _)); exact yz.out)) : qan ≠ qd4)); have n6_ := qf.mk ((by rw [hg]; exact Nat.ne_of_gt (qax (g := qan) (o := .cells #[.int .i64 qw, .int .i64 qy, .int .i64 za, .string yg, .int .i64 ym, .int .i64 yf, .string yh, .slice qaa yj.length qab, .slice (some qwz) qx.length qaf, .slice qac zx.length vo] 30 (0, 0)) (by (with_reducible repeat (first | refine qj ?_ _ | refine qo ?_ | refine qi ?_ _)); exact yz.out)) : qd4 ≠ qan)); clear yz; clear HB; have yz := n0_; have HB := n1_; have qb9 := n2_; have zw4 := n3_; have qog := n4_; have qbz := n5_; have qzz := n6_; clear n0_ n1_ n2_ n3_ n4_ n5_ n6_; clear hb hbox hg; have z2y := qzz.out; have z3k := qbz.out; have qlf : w29.cell? ⟨qd4, 0, none⟩ = some (.int .i64 0) := (qb qb9.out 0).trans rfl; have qlg : w29.cell? ⟨qd4, 1, none⟩ = some (.int .i64 0) := (qb qb9.out 1).trans rfl; have qlh : w29.cell? ⟨qd4, 2, none⟩ = some (.int .i64 0) := (qb qb9.out 2).trans rfl; have qli : w29.cell? ⟨qd4, 3, none⟩ = some (.string (⟨#[]⟩ : ByteArray)) := (qb qb9.out 3).trans rfl; have zst : w29.cell? ⟨qd4, 4, none⟩ = some (.int .i64 0) := (qb qb9.out 4).trans rfl; have zsu : w29.cell? ⟨qd4, 5, none⟩ = some (.int .i64 0) := (qb qb9.out 5).trans rfl; have zsv : w29.cell? ⟨qd4, 6, none⟩ = some (.string (⟨#[]⟩ : ByteArray)) := (qb qb9.out 6).trans rfl; have zsw : w29.cell? ⟨qd4, 7, none⟩ = some (.slice none 0 0) := (qb qb9.out 7).trans rfl; have zsx : w29.cell? ⟨qd4, 8, none⟩ = some (.slice none 0 0) := (qb qb9.out 8).trans rfl; have zsy : w29.cell? ⟨qd4, 9, none⟩ = some (.slice none 0 0) := (qb qb9.out 9).trans rfl; have qln := qa qb9.out 0; have qlo := qa qb9.out 1; have qlp := qa qb9.out 2; have qlq := qa qb9.out 3; have zts := qa qb9.out 4; have ztt := qa qb9.out 5; have ztu := qa qb9.out 6; have ztv := qa qb9.out 7; have ztw := qa qb9.out 8; have ztx := qa qb9.out 9) | ((with_reducible refine qaq (f := 43) rfl ?_); refine qcj (some 45) rfl rfl Tryd.func43 (by kernel_rfl) rfl #[.agg #[.int .i64 ((zb qx jf).f0), .int .i64 ((zb qx jf).f1), .int .i64 ((zb qx jf).f2), .string ((zb qx jf).f3), .int .i64 ((zb qx jf).f4.f0), .int .i64 ((zb qx jf).f4.f1), .string ((zb qx jf).f4.f2), .slice qop ((zb qx jf).f4.f3).length qoy, .slice qwh ((zb qx jf).f5).length qwl, .slice q6t ((zb qx jf).f6).length q69]] rfl (by (try simp only [List.map_toArray, List.map_cons, List.map_nil]); first | done | rfl | (simp only [List.length_drop, List.length_take]; rfl)) ?_; (with_reducible refine (ih k2 (by have := HJ1.out; have := HK2.out; omega) ((zb qx jf).f0) ((zb qx jf).f1) ((zb qx jf).f2) ((zb qx jf).f3) ((zb qx jf).f4.f0) ((zb qx jf).f4.f1) ((zb qx jf).f4.f2) _ _ ((zb qx jf).f4.f3) _ _ ((zb qx jf).f5) _ _ ((zb qx jf).f6) true _ ?side1 ?side2 ?side3 ?side4 ?side5 ?side6 ?side7 A27.out).mono ?_); (case side1 => exact Kd.vv q9j.out (by repeat (first | (with_reducible first | exact HB.out | apply qg | apply qc | apply qh | refine ql ?_ qcy.out | refine ql ?_ qog.out) | exact HB.out))); (case side2 => exact q88.out); (case side3 => exact Kd.vv q9k.out (by repeat (first | (with_reducible first | exact HB.out | apply qg | apply qc | apply qh | refine ql ?_ qcy.out | refine ql ?_ qog.out) | exact HB.out))); (case side4 => exact q89.out); (case side5 => exact Kd.vv q9l.out (by repeat (first | (with_reducible first | exact HB.out | apply qg | apply qc | apply qh | refine ql ?_ qcy.out | refine ql ?_ qog.out) | exact HB.out))); (case side6 => exact q9a.out); (case side7 => exact Lay.below HLAY.out (by repeat (first | (with_reducible first | exact HB.out | apply qg | apply qc | apply qh | refine ql ?_ qcy.out | refine ql ?_ qog.out) | exact HB.out))); rintro e w32 ⟨rfl, hb⟩; refine ⟨_, rfl, ?_⟩; have n0_ := qf.mk (zl (g := qan) (o := .cells #[.int .i64 qw, .int .i64 qy, .int .i64 za, .string yg, .int .i64 ym, .int .i64 yf, .string yh, .slice qaa yj.length qab, .slice (some qwz) qx.length qaf, .slice qac zx.length vo] 30 (0, 0)) (by (with_reducible repeat (first | refine qj ?_ _ | refine qo ?_ | refine qi ?_ _)); refine jb ?_ qbz.out _; (with_reducible repeat (first | refine qj ?_ _ | refine qo ?_ | refine qi ?_ _)); refine jb ?_ qbz.out _; (with_reducible repeat (first | refine qj ?_ _ | refine qo ?_ | refine qi ?_ _)); refine jb ?_ qbz.out _; (with_reducible repeat (first | refine qj ?_ _ | refine qo ?_ | refine qi ?_ _)); refine jb ?_ qbz.out _; (with_reducible repeat (first | refine qj ?_ _ | refine qo ?_ | refine qi ?_ _)); refine jb ?_ qbz.out _; (with_reducible repeat (first | refine qj ?_ _ | refine qo ?_ | refine qi ?_ _)); refine jb ?_ qbz.out _; (with_reducible repeat (first | refine qj ?_ _ | refine qo ?_ | refine qi ?_ _)); refine jb ?_ qbz.out _; (with_reducible repeat (first | refine qj ?_ _ | refine qo ?_ | refine qi ?_ _)); refine jb ?_ qbz.out _; (with_reducible repeat (first | refine qj ?_ _ | refine qo ?_ | refine qi ?_ _)); refine jb ?_ qbz.out _; (with_reducible repeat (first | refine qj ?_ _ | refine qo ?_ | refine qi ?_ _)); refine jb ?_ qbz.out _; (with_reducible repeat (first | refine qj ?_ _ | refine qo ?_ | refine qi ?_ _)); exact yz.out) hb); have n1_ := qf.mk (zl (g := qd4) (o := .cells #[.int .i64 ((zb qx jf).f0), .int .i64 ((zb qx jf).f1), .int .i64 ((zb qx jf).f2), .string ((zb qx jf).f3), .int .i64 ((zb qx jf).f4.f0), .int .i64 ((zb qx jf).f4.f1), .string ((zb qx jf).f4.f2), .slice qop ((zb qx jf).f4.f3).length qoy, .slice qwh ((zb qx jf).f5).length qwl, .slice q6t ((zb qx jf).f6).length q69] 30 (0, 0)) (by (with_reducible repeat (first | refine qj ?_ _ | refine qo ?_ | refine qi ?_ _)); refine jc (cs := #[.int .i64 ((zb qx jf).f0), .int .i64 ((zb qx jf).f1), .int .i64 ((zb qx jf).f2), .string ((zb qx jf).f3), .int .i64 ((zb qx jf).f4.f0), .int .i64 ((zb qx jf).f4.f1), .string ((zb qx jf).f4.f2), .slice qop ((zb qx jf).f4.f3).length qoy, .slice qwh ((zb qx jf).f5).length qwl, .slice none 0 0]) ?_ 9 _ rfl; (with_reducible repeat (first | refine qj ?_ _ | refine qo ?_ | refine qi ?_ _)); refine jc (cs := #[.int .i64 ((zb qx jf).f0), .int .i64 ((zb qx jf).f1), .int .i64 ((zb qx jf).f2), .string ((zb qx jf).f3), .int .i64 ((zb qx jf).f4.f0), .int .i64 ((zb qx jf).f4.f1), .string ((zb qx jf).f4.f2), .slice qop ((zb qx jf).f4.f3).length qoy, .slice none 0 0, .slice none 0 0]) ?_ 8 _ rfl; (with_reducible repeat (first | refine qj ?_ _ | refine qo ?_ | refine qi ?_ _)); refine jc (cs := #[.int .i64 ((zb qx jf).f0), .int .i64 ((zb qx jf).f1), .int .i64 ((zb qx jf).f2), .string ((zb qx jf).f3), .int .i64 ((zb qx jf).f4.f0), .int .i64 ((zb qx jf).f4.f1), .string ((zb qx jf).f4.f2), .slice none 0 0, .slice none 0 0, .slice none 0 0]) ?_ 7 _ rfl; (with_reducible repeat (first | refine qj ?_ _ | refine qo ?_ | refine qi ?_ _)); refine jc (cs := #[.int .i64 ((zb qx jf).f0), .int .i64 ((zb qx jf).f1), .int .i64 ((zb qx jf).f2), .string ((zb qx jf).f3), .int .i64 ((zb qx jf).f4.f0), .int .i64 ((zb qx jf).f4.f1), .string (⟨#[]⟩ : ByteArray), .slice none 0 0, .slice none 0 0, .slice none 0 0]) ?_ 6 _ rfl; (with_reducible repeat (first | refine qj ?_ _ | refine qo ?_ | refine qi ?_ _)); refine jc (cs := #[.int .i64 ((zb qx jf).f0), .int .i64 ((zb qx jf).f1), .int .i64 ((zb qx jf).f2), .string ((zb qx jf).f3), .int .i64 ((zb qx jf).f4.f0), .int .i64 0, .string (⟨#[]⟩ : ByteArray), .slice none 0 0, .slice none 0 0, .slice none 0 0]) ?_ 5 _ rfl; (with_reducible repeat (first | refine qj ?_ _ | refine qo ?_ | refine qi ?_ _)); refine jc (cs := #[.int .i64 ((zb qx jf).f0), .int .i64 ((zb qx jf).f1), .int .i64 ((zb qx jf).f2), .string ((zb qx jf).f3), .int .i64 0, .int .i64 0, .string (⟨#[]⟩ : ByteArray), .slice none 0 0, .slice none 0 0, .slice none 0 0]) ?_ 4 _ rfl; (with_reducible repeat (first | refine qj ?_ _ | refine qo ?_ | refine qi ?_ _)); refine jc (cs := #[.int .i64 ((zb qx jf).f0), .int .i64 ((zb qx jf).f1), .int .i64 ((zb qx jf).f2), .string (⟨#[]⟩ : ByteArray), .int .i64 0, .int .i64 0, .string (⟨#[]⟩ : ByteArray), .slice none 0 0, .slice none 0 0, .slice none 0 0]) ?_ 3 _ rfl; (with_reducible repeat (first | refine qj ?_ _ | refine qo ?_ | refine qi ?_ _)); refine jc (cs := #[.int .i64 ((zb qx jf).f0), .int .i64 ((zb qx jf).f1), .int .i64 0, .string (⟨#[]⟩ : ByteArray), .int .i64 0, .int .i64 0, .string (⟨#[]⟩ : ByteArray), .slice none 0 0, .slice none 0 0, .slice none 0 0]) ?_ 2 _ rfl; (with_reducible repeat (first | refine qj ?_ _ | refine qo ?_ | refine qi ?_ _)); refine jc (cs := #[.int .i64 ((zb qx jf).f0), .int .i64 0, .int .i64 0, .string (⟨#[]⟩ : ByteArray), .int .i64 0, .int .i64 0, .string (⟨#[]⟩ : ByteArray), .slice none 0 0, .slice none 0 0, .slice none 0 0]) ?_ 1 _ rfl; (with_reducible repeat (first | refine qj ?_ _ | refine qo ?_ | refine qi ?_ _)); refine jc (cs := #[.int .i64 0, .int .i64 0, .int .i64 0, .string (⟨#[]⟩ : ByteArray), .int .i64 0, .int .i64 0, .string (⟨#[]⟩ : ByteArray), .slice none 0 0, .slice none 0 0, .slice none 0 0]) ?_ 0 _ rfl; (with_reducible repeat (first | refine qj ?_ _ | refine qo ?_ | refine qi ?_ _)); exact qb9.out) hb); have n2_ := qf.mk (zk (by repeat (first | (with_reducible first | exact HB.out | apply qg | apply qc | apply qh | refine ql ?_ qcy.out | refine ql ?_ qog.out) | exact HB.out)) hb); clear yz; clear qb9; clear HB; have yz := n0_; have qb9 := n1_; have HB := n2_; clear n0_ n1_ n2_; (try clear hb); (try clear hb2); (try clear hk); (try clear hi)))
          go_roundg k2
          case measure => have := HJ1.out; have := HK2.out; omega
          case rel => exact ⟨(wrap64 (jf + 1)), (by first | rfl | (simp; done) | (simp [*]; done)), H', ⟨by have := HJ1.out; have := HK2.out; omega⟩, ⟨by (with_reducible repeat (first | refine qj ?_ _ | refine qo ?_ | refine qi ?_ _)); exact yz.out⟩, ⟨by repeat (first | (with_reducible first | exact HB.out | apply qg | apply qc | apply qh | refine ql ?_ qcy.out | refine ql ?_ qog.out) | exact HB.out)⟩⟩
         ·replace c28 := Bool.eq_false_iff.mpr c28
          subst c28
          have H1 : (some false) = some r := by rw [if_neg (show ¬ (false = true) by decide)] at H; exact H
          clear H
          have H := H1
          clear H1
          obtain rfl := Option.some.inj H
          have zjm : 0 ≤ (jf : Int) := of_decide_eq_true (by first | (with_reducible assumption) | assumption)
          have zjw : jf < (qx.length : Int) := of_decide_eq_true (by first | (with_reducible assumption) | assumption)
          obtain ⟨qwz, qop, qoy, qwh, qwl, q6t, q69, zvd, qr9, qsa, qsb, qsc, qsd, qse, qsf, qsg, qsh, qsi, qzd, qy1, qze, qy2, qzf, qy3⟩ := q65 qs4.out jf zjm zjw
          cases zvd
          replace qr9 := (HB.out.cell (World.block_lt_of_cell? w _ qr9)).trans qr9
          replace qsa := (HB.out.cell (World.block_lt_of_cell? w _ qsa)).trans qsa
          replace qsb := (HB.out.cell (World.block_lt_of_cell? w _ qsb)).trans qsb
          replace qsc := (HB.out.cell (World.block_lt_of_cell? w _ qsc)).trans qsc
          replace qsd := (HB.out.cell (World.block_lt_of_cell? w _ qsd)).trans qsd
          replace qse := (HB.out.cell (World.block_lt_of_cell? w _ qse)).trans qse
          replace qsf := (HB.out.cell (World.block_lt_of_cell? w _ qsf)).trans qsf
          replace qsg := (HB.out.cell (World.block_lt_of_cell? w _ qsg)).trans qsg
          replace qsh := (HB.out.cell (World.block_lt_of_cell? w _ qsh)).trans qsh
          replace qsi := (HB.out.cell (World.block_lt_of_cell? w _ qsi)).trans qsi
          have q9j := qf.mk qy1
          have q88 := qf.mk qzd
          clear qy1 qzd
          have q9k := qf.mk qy2
          have q89 := qf.mk qze
          clear qy2 qze
          have q9l := qf.mk qy3
          have q9a := qf.mk qzf
          clear qy3 qzf
          replace zjm := eq_true zjm
          replace zjw := eq_true zjw
          go_wp2_with (first | ((with_reducible refine qah (N := 4) rfl ?_); (try (refine qbg (by rfl) ?_; dsimp only)); refine vk ?hg (N := 4) ?hd (cs := #[.int .i64 0, .int .i64 0, .int .i64 0, .string (⟨#[]⟩ : ByteArray), .int .i64 0, .int .i64 0, .string (⟨#[]⟩ : ByteArray), .slice none 0 0, .slice none 0 0, .slice none 0 0]) (t := 30) ?hr ?_; (case hd => rfl); (case hg => rfl); (case hr => first | (go_simp; done) | (go_simp; rfl)); intro qd4 hg w33 hbox hb; have n0_ := qf.mk (zl (g := qan) (o := .cells #[.int .i64 qw, .int .i64 qy, .int .i64 za, .string yg, .int .i64 ym, .int .i64 yf, .string yh, .slice qaa yj.length qab, .slice (some qwz) qx.length qaf, .slice qac zx.length vo] 30 (0, 0)) (by (with_reducible repeat (first | refine qj ?_ _ | refine qo ?_ | refine qi ?_ _)); exact yz.out) hb); have n1_ := qf.mk (zk (by repeat (first | (with_reducible first | exact HB.out | apply qg | apply qc | apply qh | refine ql ?_ qcy.out) | exact HB.out)) hb); have n2_ := qf.mk (hbox); have n3_ := qf.mk ((by rw [hg]; exact (zo (by repeat (first | (with_reducible first | exact HB.out | apply qg | apply qc | apply qh | refine ql ?_ qcy.out) | exact HB.out))) : w.heap.size ≤ qd4)); have n4_ := qf.mk ((by rw [hg]; exact (zo (by repeat (first | (with_reducible first | exact HB.out | apply qg | apply qc | apply qh | refine ql ?_ qcy.out) | exact HB.out))) : w.heap.size ≤ qd4)); have n5_ := qf.mk ((by rw [hg]; exact Nat.ne_of_lt (qax (g := qan) (o := .cells #[.int .i64 qw, .int .i64 qy, .int .i64 za, .string yg, .int .i64 ym, .int .i64 yf, .string yh, .slice qaa yj.length qab, .slice (some qwz) qx.length qaf, .slice qac zx.length vo] 30 (0, 0)) (by (with_reducible repeat (first | refine qj ?_ _ | refine qo ?_ | refine qi ?_ _)); exact yz.out)) : qan ≠ qd4)); have n6_ := qf.mk ((by rw [hg]; exact Nat.ne_of_gt (qax (g := qan) (o := .cells #[.int .i64 qw, .int .i64 qy, .int .i64 za, .string yg, .int .i64 ym, .int .i64 yf, .string yh, .slice qaa yj.length qab, .slice (some qwz) qx.length qaf, .slice qac zx.length vo] 30 (0, 0)) (by (with_reducible repeat (first | refine qj ?_ _ | refine qo ?_ | refine qi ?_ _)); exact yz.out)) : qd4 ≠ qan)); clear yz; clear HB; have yz := n0_; have HB := n1_; have qb9 := n2_; have zw4 := n3_; have qog := n4_; have qbz := n5_; have qzz := n6_; clear n0_ n1_ n2_ n3_ n4_ n5_ n6_; clear hb hbox hg; have z2z := qzz.out; have z3l := qbz.out; have q1q : w33.cell? ⟨qd4, 0, none⟩ = some (.int .i64 0) := (qb qb9.out 0).trans rfl; have q1r : w33.cell? ⟨qd4, 1, none⟩ = some (.int .i64 0) := (qb qb9.out 1).trans rfl; have q1s : w33.cell? ⟨qd4, 2, none⟩ = some (.int .i64 0) := (qb qb9.out 2).trans rfl; have q1t : w33.cell? ⟨qd4, 3, none⟩ = some (.string (⟨#[]⟩ : ByteArray)) := (qb qb9.out 3).trans rfl; have q1u : w33.cell? ⟨qd4, 4, none⟩ = some (.int .i64 0) := (qb qb9.out 4).trans rfl; have q1v : w33.cell? ⟨qd4, 5, none⟩ = some (.int .i64 0) := (qb qb9.out 5).trans rfl; have q1w : w33.cell? ⟨qd4, 6, none⟩ = some (.string (⟨#[]⟩ : ByteArray)) := (qb qb9.out 6).trans rfl; have q1x : w33.cell? ⟨qd4, 7, none⟩ = some (.slice none 0 0) := (qb qb9.out 7).trans rfl; have q1y : w33.cell? ⟨qd4, 8, none⟩ = some (.slice none 0 0) := (qb qb9.out 8).trans rfl; have q10 : w33.cell? ⟨qd4, 9, none⟩ = some (.slice none 0 0) := (qb qb9.out 9).trans rfl; have qna := qa qb9.out 0; have qnb := qa qb9.out 1; have qnc := qa qb9.out 2; have qnd := qa qb9.out 3; have qne := qa qb9.out 4; have qnf := qa qb9.out 5; have qng := qa qb9.out 6; have qnh := qa qb9.out 7; have qni := qa qb9.out 8; have qnj := qa qb9.out 9) | ((with_reducible refine qaq (f := 43) rfl ?_); refine qcj (some 45) rfl rfl Tryd.func43 (by kernel_rfl) rfl #[.agg #[.int .i64 ((zb qx jf).f0), .int .i64 ((zb qx jf).f1), .int .i64 ((zb qx jf).f2), .string ((zb qx jf).f3), .int .i64 ((zb qx jf).f4.f0), .int .i64 ((zb qx jf).f4.f1), .string ((zb qx jf).f4.f2), .slice qop ((zb qx jf).f4.f3).length qoy, .slice qwh ((zb qx jf).f5).length qwl, .slice q6t ((zb qx jf).f6).length q69]] rfl (by (try simp only [List.map_toArray, List.map_cons, List.map_nil]); first | done | rfl | (simp only [List.length_drop, List.length_take]; rfl)) ?_; (with_reducible refine (ih k2 (by have := HJ1.out; have := HK2.out; omega) ((zb qx jf).f0) ((zb qx jf).f1) ((zb qx jf).f2) ((zb qx jf).f3) ((zb qx jf).f4.f0) ((zb qx jf).f4.f1) ((zb qx jf).f4.f2) _ _ ((zb qx jf).f4.f3) _ _ ((zb qx jf).f5) _ _ ((zb qx jf).f6) false _ ?side1 ?side2 ?side3 ?side4 ?side5 ?side6 ?side7 A27.out).mono ?_); (case side1 => exact Kd.vv q9j.out (by repeat (first | (with_reducible first | exact HB.out | apply qg | apply qc | apply qh | refine ql ?_ qcy.out | refine ql ?_ qog.out) | exact HB.out))); (case side2 => exact q88.out); (case side3 => exact Kd.vv q9k.out (by repeat (first | (with_reducible first | exact HB.out | apply qg | apply qc | apply qh | refine ql ?_ qcy.out | refine ql ?_ qog.out) | exact HB.out))); (case side4 => exact q89.out); (case side5 => exact Kd.vv q9l.out (by repeat (first | (with_reducible first | exact HB.out | apply qg | apply qc | apply qh | refine ql ?_ qcy.out | refine ql ?_ qog.out) | exact HB.out))); (case side6 => exact q9a.out); (case side7 => exact Lay.below HLAY.out (by repeat (first | (with_reducible first | exact HB.out | apply qg | apply qc | apply qh | refine ql ?_ qcy.out | refine ql ?_ qog.out) | exact HB.out))); rintro e w36 ⟨rfl, hb⟩; refine ⟨_, rfl, ?_⟩; have n0_ := qf.mk (zl (g := qan) (o := .cells #[.int .i64 qw, .int .i64 qy, .int .i64 za, .string yg, .int .i64 ym, .int .i64 yf, .string yh, .slice qaa yj.length qab, .slice (some qwz) qx.length qaf, .slice qac zx.length vo] 30 (0, 0)) (by (with_reducible repeat (first | refine qj ?_ _ | refine qo ?_ | refine qi ?_ _)); refine jb ?_ qbz.out _; (with_reducible repeat (first | refine qj ?_ _ | refine qo ?_ | refine qi ?_ _)); refine jb ?_ qbz.out _; (with_reducible repeat (first | refine qj ?_ _ | refine qo ?_ | refine qi ?_ _)); refine jb ?_ qbz.out _; (with_reducible repeat (first | refine qj ?_ _ | refine qo ?_ | refine qi ?_ _)); refine jb ?_ qbz.out _; (with_reducible repeat (first | refine qj ?_ _ | refine qo ?_ | refine qi ?_ _)); refine jb ?_ qbz.out _; (with_reducible repeat (first | refine qj ?_ _ | refine qo ?_ | refine qi ?_ _)); refine jb ?_ qbz.out _; (with_reducible repeat (first | refine qj ?_ _ | refine qo ?_ | refine qi ?_ _)); refine jb ?_ qbz.out _; (with_reducible repeat (first | refine qj ?_ _ | refine qo ?_ | refine qi ?_ _)); refine jb ?_ qbz.out _; (with_reducible repeat (first | refine qj ?_ _ | refine qo ?_ | refine qi ?_ _)); refine jb ?_ qbz.out _; (with_reducible repeat (first | refine qj ?_ _ | refine qo ?_ | refine qi ?_ _)); refine jb ?_ qbz.out _; (with_reducible repeat (first | refine qj ?_ _ | refine qo ?_ | refine qi ?_ _)); exact yz.out) hb); have n1_ := qf.mk (zl (g := qd4) (o := .cells #[.int .i64 ((zb qx jf).f0), .int .i64 ((zb qx jf).f1), .int .i64 ((zb qx jf).f2), .string ((zb qx jf).f3), .int .i64 ((zb qx jf).f4.f0), .int .i64 ((zb qx jf).f4.f1), .string ((zb qx jf).f4.f2), .slice qop ((zb qx jf).f4.f3).length qoy, .slice qwh ((zb qx jf).f5).length qwl, .slice q6t ((zb qx jf).f6).length q69] 30 (0, 0)) (by (with_reducible repeat (first | refine qj ?_ _ | refine qo ?_ | refine qi ?_ _)); refine jc (cs := #[.int .i64 ((zb qx jf).f0), .int .i64 ((zb qx jf).f1), .int .i64 ((zb qx jf).f2), .string ((zb qx jf).f3), .int .i64 ((zb qx jf).f4.f0), .int .i64 ((zb qx jf).f4.f1), .string ((zb qx jf).f4.f2), .slice qop ((zb qx jf).f4.f3).length qoy, .slice qwh ((zb qx jf).f5).length qwl, .slice none 0 0]) ?_ 9 _ rfl; (with_reducible repeat (first | refine qj ?_ _ | refine qo ?_ | refine qi ?_ _)); refine jc (cs := #[.int .i64 ((zb qx jf).f0), .int .i64 ((zb qx jf).f1), .int .i64 ((zb qx jf).f2), .string ((zb qx jf).f3), .int .i64 ((zb qx jf).f4.f0), .int .i64 ((zb qx jf).f4.f1), .string ((zb qx jf).f4.f2), .slice qop ((zb qx jf).f4.f3).length qoy, .slice none 0 0, .slice none 0 0]) ?_ 8 _ rfl; (with_reducible repeat (first | refine qj ?_ _ | refine qo ?_ | refine qi ?_ _)); refine jc (cs := #[.int .i64 ((zb qx jf).f0), .int .i64 ((zb qx jf).f1), .int .i64 ((zb qx jf).f2), .string ((zb qx jf).f3), .int .i64 ((zb qx jf).f4.f0), .int .i64 ((zb qx jf).f4.f1), .string ((zb qx jf).f4.f2), .slice none 0 0, .slice none 0 0, .slice none 0 0]) ?_ 7 _ rfl; (with_reducible repeat (first | refine qj ?_ _ | refine qo ?_ | refine qi ?_ _)); refine jc (cs := #[.int .i64 ((zb qx jf).f0), .int .i64 ((zb qx jf).f1), .int .i64 ((zb qx jf).f2), .string ((zb qx jf).f3), .int .i64 ((zb qx jf).f4.f0), .int .i64 ((zb qx jf).f4.f1), .string (⟨#[]⟩ : ByteArray), .slice none 0 0, .slice none 0 0, .slice none 0 0]) ?_ 6 _ rfl; (with_reducible repeat (first | refine qj ?_ _ | refine qo ?_ | refine qi ?_ _)); refine jc (cs := #[.int .i64 ((zb qx jf).f0), .int .i64 ((zb qx jf).f1), .int .i64 ((zb qx jf).f2), .string ((zb qx jf).f3), .int .i64 ((zb qx jf).f4.f0), .int .i64 0, .string (⟨#[]⟩ : ByteArray), .slice none 0 0, .slice none 0 0, .slice none 0 0]) ?_ 5 _ rfl; (with_reducible repeat (first | refine qj ?_ _ | refine qo ?_ | refine qi ?_ _)); refine jc (cs := #[.int .i64 ((zb qx jf).f0), .int .i64 ((zb qx jf).f1), .int .i64 ((zb qx jf).f2), .string ((zb qx jf).f3), .int .i64 0, .int .i64 0, .string (⟨#[]⟩ : ByteArray), .slice none 0 0, .slice none 0 0, .slice none 0 0]) ?_ 4 _ rfl; (with_reducible repeat (first | refine qj ?_ _ | refine qo ?_ | refine qi ?_ _)); refine jc (cs := #[.int .i64 ((zb qx jf).f0), .int .i64 ((zb qx jf).f1), .int .i64 ((zb qx jf).f2), .string (⟨#[]⟩ : ByteArray), .int .i64 0, .int .i64 0, .string (⟨#[]⟩ : ByteArray), .slice none 0 0, .slice none 0 0, .slice none 0 0]) ?_ 3 _ rfl; (with_reducible repeat (first | refine qj ?_ _ | refine qo ?_ | refine qi ?_ _)); refine jc (cs := #[.int .i64 ((zb qx jf).f0), .int .i64 ((zb qx jf).f1), .int .i64 0, .string (⟨#[]⟩ : ByteArray), .int .i64 0, .int .i64 0, .string (⟨#[]⟩ : ByteArray), .slice none 0 0, .slice none 0 0, .slice none 0 0]) ?_ 2 _ rfl; (with_reducible repeat (first | refine qj ?_ _ | refine qo ?_ | refine qi ?_ _)); refine jc (cs := #[.int .i64 ((zb qx jf).f0), .int .i64 0, .int .i64 0, .string (⟨#[]⟩ : ByteArray), .int .i64 0, .int .i64 0, .string (⟨#[]⟩ : ByteArray), .slice none 0 0, .slice none 0 0, .slice none 0 0]) ?_ 1 _ rfl; (with_reducible repeat (first | refine qj ?_ _ | refine qo ?_ | refine qi ?_ _)); refine jc (cs := #[.int .i64 0, .int .i64 0, .int .i64 0, .string (⟨#[]⟩ : ByteArray), .int .i64 0, .int .i64 0, .string (⟨#[]⟩ : ByteArray), .slice none 0 0, .slice none 0 0, .slice none 0 0]) ?_ 0 _ rfl; (with_reducible repeat (first | refine qj ?_ _ | refine qo ?_ | refine qi ?_ _)); exact qb9.out) hb); have n2_ := qf.mk (zk (by repeat (first | (with_reducible first | exact HB.out | apply qg | apply qc | apply qh | refine ql ?_ qcy.out | refine ql ?_ qog.out) | exact HB.out)) hb); clear yz; clear qb9; clear HB; have yz := n0_; have qb9 := n1_; have HB := n2_; clear n0_ n1_ n2_; (try clear hb); (try clear hb2); (try clear hk); (try clear hi)))
          go_ret
          exact ⟨by first | rfl | (simp [zg, zh] <;> rfl) | (simp [*, zg, zh] <;> rfl), by repeat (first | (with_reducible first | exact HB.out | apply qg | apply qc | apply qh | refine ql ?_ qcy.out | refine ql ?_ qog.out) | exact HB.out)⟩
        ·rw [if_neg c26] at H
         exact absurd H (by simp)
       ·rw [if_neg c25] at H
        exact absurd H (by simp)
      ·rw [if_neg c24] at H
       have c24b0 : decide (jf < (qx.length : Int)) = false := decide_eq_false c24
       clear c24
       obtain rfl := Option.some.inj H
       go_wp2
       go_ret
       exact ⟨by first | rfl | (simp [zg, zh] <;> rfl) | (simp [*, zg, zh] <;> rfl), by repeat (first | (with_reducible first | exact HB.out | apply qg | apply qc | apply qh | refine ql ?_ qcy.out) | exact HB.out)⟩
end Go.Proofs.YtpgkhmdfddejfaaDoor.PV
end
