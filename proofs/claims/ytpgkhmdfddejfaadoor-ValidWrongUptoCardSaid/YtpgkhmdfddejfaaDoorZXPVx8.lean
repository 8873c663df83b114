import Derived.Test.YtpgkhmdfddejfaaDoorZXPVx0
import Derived.Test.YtpgkhmdfddejfaaDoorZXPVx2
import Derived.Test.YtpgkhmdfddejfaaDoorZXPVx3
import Derived.Test.YtpgkhmdfddejfaaDoorZXPVx7
import Derived.Test.YtpgkhmdfddejfaaDoorZXT20
section
namespace Go.Proofs.YtpgkhmdfddejfaaDoor.PV
open Go.RowKit Go.Proofs.YtpgkhmdfddejfaaDoorW.PrintWords Go.Proofs.YtpgkhmdfddejfaaDoorW.PrintLast Go.Proofs.YtpgkhmdfddejfaaDoorW.PrintMore
attribute [local go_sem] qcn qcp qdi qdj qb6 qb7 qco qcq   -- for this text's walks alone
set_option linter.unusedVariables false
set_option linter.unusedSimpArgs false
def qbm.f (k : Nat) (l0 : List (S36)) : Option (Int × Int × Int × ByteArray × Int × Int × ByteArray × (List (S27)) × (List (S30)) × (List (S27)) × Bool) := if (l0.length : Int) > 4000 then (some (0, 0, 0, (⟨#[]⟩ : ByteArray), 0, 0, (⟨#[]⟩ : ByteArray), ([] : List (S27)), ([] : List (S30)), ([] : List (S27)), false)) else ((qbu.f k l0).bind fun qd1 => (if qd1.2.2.2.2.2.2.2.2.2.2 = true then ((jq.f k qd1.1 qd1.2.1 qd1.2.2.1 qd1.2.2.2.1 qd1.2.2.2.2.1 qd1.2.2.2.2.2.1 qd1.2.2.2.2.2.2.1 qd1.2.2.2.2.2.2.2.1 qd1.2.2.2.2.2.2.2.2.1 qd1.2.2.2.2.2.2.2.2.2.1).bind fun t196 => (if t196 > 40 then (some (0, 0, 0, (⟨#[]⟩ : ByteArray), 0, 0, (⟨#[]⟩ : ByteArray), ([] : List (S27)), ([] : List (S30)), ([] : List (S27)), false)) else ((yw.f k qd1.1 qd1.2.1 qd1.2.2.1 qd1.2.2.2.1 qd1.2.2.2.2.1 qd1.2.2.2.2.2.1 qd1.2.2.2.2.2.2.1 qd1.2.2.2.2.2.2.2.1 qd1.2.2.2.2.2.2.2.2.1 qd1.2.2.2.2.2.2.2.2.2.1).bind fun z1v => (if z1v = true then (some (qd1.1, qd1.2.1, qd1.2.2.1, qd1.2.2.2.1, qd1.2.2.2.2.1, qd1.2.2.2.2.2.1, qd1.2.2.2.2.2.2.1, qd1.2.2.2.2.2.2.2.1, qd1.2.2.2.2.2.2.2.2.1, qd1.2.2.2.2.2.2.2.2.2.1, true)) else (some (0, 0, 0, (⟨#[]⟩ : ByteArray), 0, 0, (⟨#[]⟩ : ByteArray), ([] : List (S27)), ([] : List (S30)), ([] : List (S27)), false)))))) else (some (0, 0, 0, (⟨#[]⟩ : ByteArray), 0, 0, (⟨#[]⟩ : ByteArray), ([] : List (S27)), ([] : List (S30)), ([] : List (S27)), false))))
theorem qbm.mono : ∀ a0 k, LeO (qbm.f k a0) (qbm.f (k + 1) a0) := by
 intro a0 k
 unfold qbm.f
 repeat' first
   | (with_reducible exact qbu.mono _ _)
   | (with_reducible exact jq.mono _ _ _ _ _ _ _ _ _ _ _)
   | (with_reducible exact yw.mono _ _ _ _ _ _ _ _ _ _ _)
   | (with_reducible exact LeO.refl _)
   | (with_reducible exact LeO.none _)
   | (with_reducible refine LeO.ite ?_ ?_)
   | (with_reducible refine LeO.bind ?_ (fun _ => ?_))
   | exact qbu.mono _ _
   | exact jq.mono _ _ _ _ _ _ _ _ _ _ _
   | exact yw.mono _ _ _ _ _ _ _ _ _ _ _
   | exact LeO.none _
   | refine LeO.ite ?_ ?_
   | refine LeO.bind ?_ (fun _ => ?_)
set_option maxHeartbeats 4000000 in
set_option maxRecDepth 100000 in
theorem qbm.calls (k : Nat) (A0 : Option Addr) (c0 : Nat) (l0 : List (S36)) (r1 : Int) (r2 : Int) (r3 : Int) (r4 : ByteArray) (r5 : Int) (r6 : Int) (r7 : ByteArray) (r8 : List (S27)) (r9 : List (S30)) (r10 : List (S27)) (r11 : Bool) (w : World) (hr0 : Kd.C k36 w A0 l0.length l0) (hc0 : l0.length ≤ c0) (hG : Lay w) (h : qbm.f k l0 = some (r1, r2, r3, r4, r5, r6, r7, r8, r9, r10, r11)) :
  Calls Tryd.prog 18 #[.slice A0 l0.length c0] w fun e w' => ∃ v7_ v8_ v9_ : Value, e = .returned (.tuple #[.agg #[.int .i64 r1, .int .i64 r2, .int .i64 r3, .string r4, .int .i64 r5, .int .i64 r6, .string r7, v7_, v8_, v9_], .bool r11]) ∧ Kd.V k27 27 w' w.heap.size (fun k_ => (w.heap.size ≤ k_)) v7_ r8 ∧ Kd.V k30 30 w' w.heap.size (fun k_ => (w.heap.size ≤ k_)) v8_ r9 ∧ Kd.V k27 27 w' w.heap.size (fun k_ => (w.heap.size ≤ k_)) v9_ r10 ∧ Below w.heap.size w w' := by
  suffices hs : Calls Tryd.prog 18 #[.slice A0 l0.length c0] w fun e w' => ∃ v7_ v8_ v9_ : Value, e = .returned (.tuple #[.agg #[.int .i64 r1, .int .i64 r2, .int .i64 r3, .string r4, .int .i64 r5, .int .i64 r6, .string r7, v7_, v8_, v9_], .bool r11]) ∧ qcl w' (fun k_ => (w.heap.size ≤ k_)) r8 r9 r10 v7_ v8_ v9_ ∧ Below w.heap.size w w' by
    refine hs.mono ?_
    rintro e w' ⟨v7, v8, v9, he, hn, hb⟩
    exact ⟨v7, v8, v9, he, (hn.to _).1, (hn.to _).2.1, (hn.to _).2.2, hb⟩
  have qwm := Tryd.underlying30
  have HR := qf.mk hr0
  have HC := qf.mk hc0
  have HG := qf.mk hG
  clear hr0 hc0 hG
  unfold qbm.f at h
  by_cases c4 : (l0.length : Int) > 4000
  · rw [if_pos c4] at h
    simp only [Option.some.injEq, Prod.mk.injEq] at h
    obtain ⟨rfl, rfl, rfl, rfl, rfl, rfl, rfl, rfl, rfl, rfl, rfl⟩ := h
    have hd : decide (4000 < (l0.length : Int)) = true := decide_eq_true c4
    clear c4
    go_enter Tryd.func18, Tryd.ntmps18
    go_wp2
    refine bodyPost_ret (v := .tuple #[.agg #[.int .i64 0, .int .i64 0, .int .i64 0, .string ⟨#[]⟩, .int .i64 0, .int .i64 0, .string ⟨#[]⟩, .slice none 0 0, .slice none 0 0, .slice none 0 0], .bool false]) (by simp [results, Tryd.results18, go_sem]) rfl ?_
    exact ⟨_, _, _, rfl, qcl.nil _ _, (Below.refl _ _).alloc (Nat.le_refl _) _⟩
  rw [if_neg c4] at h
  have hd : decide (4000 < (l0.length : Int)) = false := decide_eq_false c4
  clear c4
  obtain ⟨⟨n0, n1, n2, n3, n4, n5, n6, n7, n8, n9, ok⟩, hbk, h⟩ := Option.bind_eq_some_iff.mp h
  have HBK := qf.mk hbk
  clear hbk
  simp only at h
  -- how it goes on behind flat.Back
  have back : ∀ (Q : Ending → World → Prop) (o : Obj), o = .cells #[.int .i64 0, .int .i64 0, .int .i64 0, .string ⟨#[]⟩, .int .i64 0, .int .i64 0, .string ⟨#[]⟩, .slice none 0 0, .slice none 0 0, .slice none 0 0] 30 →
      (∀ w2 A7 c7 A8 c8 A9 c9, qf (ql7 w (fun k => w.heap.size + 1 ≤ k) w2.heap.size #[.int .i64 n0, .int .i64 n1, .int .i64 n2, .string n3, .int .i64 n4, .int .i64 n5, .string n6, .slice A7 n7.length c7, .slice A8 n8.length c8, .slice A9 n9.length c9] n7 n8 n9 (.slice A7 n7.length c7) (.slice A8 n8.length c8) (.slice A9 n9.length c9) (w2.alloc (.cells #[.int .i64 n0, .int .i64 n1, .int .i64 n2, .string n3, .int .i64 n4, .int .i64 n5, .string n6, .slice A7 n7.length c7, .slice A8 n8.length c8, .slice A9 n9.length c9] 30))) →
        Q (.returned (.tuple #[.agg #[.int .i64 n0, .int .i64 n1, .int .i64 n2, .string n3, .int .i64 n4, .int .i64 n5, .string n6, .slice A7 n7.length c7, .slice A8 n8.length c8, .slice A9 n9.length c9], .bool ok])) w2) → Calls Tryd.prog 41 #[.slice A0 l0.length c0] (w.alloc o) Q := by
    intro Q o ho hQ
    refine (qbu.calls k A0 c0 l0 n0 n1 n2 n3 n4 n5 n6 n7 n8 n9 ok _ (Kd.vv HR.out (qg (Below.refl _ _) _)) HC.out HBK.out).mono ?_
    rintro e w2 ⟨v7, v8, v9, rfl, hv7, hv8, hv9, hb⟩
    have hn : qcl w2 (fun k => w.heap.size + 1 ≤ k) n7 n8 n9 v7 v8 v9 := (qcl.of hv7 hv8 hv9).mono (fun k hk => by simpa using hk)
    obtain ⟨A7, c7, A8, c8, A9, c9, rfl, rfl, rfl⟩ := hn.open_
    exact hQ w2 A7 c7 A8 c8 A9 c9 ⟨ql7.start _ ho hn hb⟩
  have HB := qf.mk back
  clear back
  cases ok with
  | false =>
    rw [if_neg (by decide)] at h
    simp only [Option.some.injEq, Prod.mk.injEq] at h
    obtain ⟨rfl, rfl, rfl, rfl, rfl, rfl, rfl, rfl, rfl, rfl, rfl⟩ := h
    go_enter Tryd.func18, Tryd.ntmps18
    go_wp2_with (go_at_call 41; refine HB.out _ _ rfl ?_; intro w2 A7 c7 A8 c8 A9 c9 HT; obtain ⟨gc0, gc1, gc2, gc3, gc4, gc5, gc6, gc7, gc8, gc9⟩ := qdo HT.out.b2; obtain ⟨gf0, gf1, gf2, gf3, gf4, gf5, gf6, gf7, gf8, gf9⟩ := qoj HT.out.b2)
    refine bodyPost_ret (v := .tuple #[.agg #[.int .i64 0, .int .i64 0, .int .i64 0, .string ⟨#[]⟩, .int .i64 0, .int .i64 0, .string ⟨#[]⟩, .slice none 0 0, .slice none 0 0, .slice none 0 0], .bool false]) (by simp [results, Tryd.results18, go_sem, gc0, gc1, gc2, gc3, gc4, gc5, gc6, gc7, gc8, gc9]) rfl ?_
    exact ⟨_, _, _, rfl, qcl.nil _ _, qge (Nat.le_refl _) HT.out.bel _ _ _ _ _ _ _ _ _ _⟩
  | true =>
    rw [if_pos rfl] at h
    obtain ⟨dp, hdp, h⟩ := Option.bind_eq_some_iff.mp h
    have HD := qf.mk hdp
    clear hdp
    by_cases c40 : dp > 40
    · rw [if_pos c40] at h
      have hd2 : decide (40 < dp) = true := decide_eq_true c40
      clear c40
      simp only [Option.some.injEq, Prod.mk.injEq] at h
      obtain ⟨rfl, rfl, rfl, rfl, rfl, rfl, rfl, rfl, rfl, rfl, rfl⟩ := h
      go_enter Tryd.func18, Tryd.ntmps18
      go_wp2_with (first
        | (go_at_call 41; refine HB.out _ _ rfl ?_; intro w2 A7 c7 A8 c8 A9 c9 HT)
        | (go_at_call 42; (with_reducible refine (jq.calls k n0 n1 n2 n3 n4 n5 n6 A7 c7 n7 A8 c8 n8 A9 c9 n9 dp _ HT.out.reads.1 HT.out.reads.2.1 HT.out.reads.2.2.1 HT.out.reads.2.2.2.1 HT.out.reads.2.2.2.2.1 HT.out.reads.2.2.2.2.2 HD.out).mono ?_); rintro e w4 ⟨rfl, hb⟩; have HT4 := qf.mk (HT.out.step hb); clear hb; obtain ⟨gc0, gc1, gc2, gc3, gc4, gc5, gc6, gc7, gc8, gc9⟩ := qdo HT4.out.b2; obtain ⟨gf0, gf1, gf2, gf3, gf4, gf5, gf6, gf7, gf8, gf9⟩ := qoj HT4.out.b2))
      refine bodyPost_ret (v := .tuple #[.agg #[.int .i64 0, .int .i64 0, .int .i64 0, .string ⟨#[]⟩, .int .i64 0, .int .i64 0, .string ⟨#[]⟩, .slice none 0 0, .slice none 0 0, .slice none 0 0], .bool false]) (by simp [results, Tryd.results18, go_sem, gc0, gc1, gc2, gc3, gc4, gc5, gc6, gc7, gc8, gc9]) rfl ?_
      exact ⟨_, _, _, rfl, qcl.nil _ _, qge (Nat.le_refl _) HT4.out.bel _ _ _ _ _ _ _ _ _ _⟩
    · rw [if_neg c40] at h
      have hd2 : decide (40 < dp) = false := decide_eq_false c40
      clear c40
      obtain ⟨nd, hnd, h⟩ := Option.bind_eq_some_iff.mp h
      have HN := qf.mk hnd
      clear hnd
      cases nd with
      | false =>
        rw [if_neg (by decide)] at h
        simp only [Option.some.injEq, Prod.mk.injEq] at h
        obtain ⟨rfl, rfl, rfl, rfl, rfl, rfl, rfl, rfl, rfl, rfl, rfl⟩ := h
        go_enter Tryd.func18, Tryd.ntmps18
        go_wp2_with (first
          | (go_at_call 41; refine HB.out _ _ rfl ?_; intro w2 A7 c7 A8 c8 A9 c9 HT)
          | (go_at_call 42; (with_reducible refine (jq.calls k n0 n1 n2 n3 n4 n5 n6 A7 c7 n7 A8 c8 n8 A9 c9 n9 dp _ HT.out.reads.1 HT.out.reads.2.1 HT.out.reads.2.2.1 HT.out.reads.2.2.2.1 HT.out.reads.2.2.2.2.1 HT.out.reads.2.2.2.2.2 HD.out).mono ?_); rintro e w4 ⟨rfl, hb⟩; have HT4 := qf.mk (HT.out.step hb); clear hb; obtain ⟨nc0, nc1, nc2, nc3, nc4, nc5, nc6, nc7, nc8, nc9⟩ := qdo HT4.out.b4)
          | (go_at_call 43; (with_reducible refine (yw.calls k n0 n1 n2 n3 n4 n5 n6 A7 c7 n7 A8 c8 n8 A9 c9 n9 false _ HT4.out.reads.1 HT4.out.reads.2.1 HT4.out.reads.2.2.1 HT4.out.reads.2.2.2.1 HT4.out.reads.2.2.2.2.1 HT4.out.reads.2.2.2.2.2 (Lay.below HG.out HT4.out.bel) HN.out).mono ?_); rintro e w5 ⟨rfl, hb⟩; have HT5 := qf.mk (HT4.out.step hb); clear hb; obtain ⟨gc0, gc1, gc2, gc3, gc4, gc5, gc6, gc7, gc8, gc9⟩ := qdo HT5.out.b2; obtain ⟨gf0, gf1, gf2, gf3, gf4, gf5, gf6, gf7, gf8, gf9⟩ := qoj HT5.out.b2))
        refine bodyPost_ret (v := .tuple #[.agg #[.int .i64 0, .int .i64 0, .int .i64 0, .string ⟨#[]⟩, .int .i64 0, .int .i64 0, .string ⟨#[]⟩, .slice none 0 0, .slice none 0 0, .slice none 0 0], .bool false]) (by simp [results, Tryd.results18, go_sem, gc0, gc1, gc2, gc3, gc4, gc5, gc6, gc7, gc8, gc9]) rfl ?_
        exact ⟨_, _, _, rfl, qcl.nil _ _, qge (Nat.le_refl _) HT5.out.bel _ _ _ _ _ _ _ _ _ _⟩
      | true =>
        rw [if_pos rfl] at h
        simp only [Option.some.injEq, Prod.mk.injEq] at h
        obtain ⟨rfl, rfl, rfl, rfl, rfl, rfl, rfl, rfl, rfl, rfl, rfl⟩ := h
        go_enter Tryd.func18, Tryd.ntmps18
        go_wp2_with (first
          | (go_at_call 41; refine HB.out _ _ rfl ?_; intro w2 A7 c7 A8 c8 A9 c9 HT)
          | (go_at_call 42; (with_reducible refine (jq.calls k n0 n1 n2 n3 n4 n5 n6 A7 c7 n7 A8 c8 n8 A9 c9 n9 dp _ HT.out.reads.1 HT.out.reads.2.1 HT.out.reads.2.2.1 HT.out.reads.2.2.2.1 HT.out.reads.2.2.2.2.1 HT.out.reads.2.2.2.2.2 HD.out).mono ?_); rintro e w4 ⟨rfl, hb⟩; have HT4 := qf.mk (HT.out.step hb); clear hb; obtain ⟨nc0, nc1, nc2, nc3, nc4, nc5, nc6, nc7, nc8, nc9⟩ := qdo HT4.out.b4)
          | (go_at_call 43; (with_reducible refine (yw.calls k n0 n1 n2 n3 n4 n5 n6 A7 c7 n7 A8 c8 n8 A9 c9 n9 true _ HT4.out.reads.1 HT4.out.reads.2.1 HT4.out.reads.2.2.1 HT4.out.reads.2.2.2.1 HT4.out.reads.2.2.2.2.1 HT4.out.reads.2.2.2.2.2 (Lay.below HG.out HT4.out.bel) HN.out).mono ?_); rintro e w5 ⟨rfl, hb⟩; have HT5 := qf.mk (HT4.out.step hb); clear hb nc0 nc1 nc2 nc3 nc4 nc5 nc6 nc7 nc8 nc9; obtain ⟨nc0, nc1, nc2, nc3, nc4, nc5, nc6, nc7, nc8, nc9⟩ := qdo HT5.out.b4; obtain ⟨gc0, gc1, gc2, gc3, gc4, gc5, gc6, gc7, gc8, gc9⟩ := qdo HT5.out.b2; obtain ⟨gf0, gf1, gf2, gf3, gf4, gf5, gf6, gf7, gf8, gf9⟩ := qoj HT5.out.b2))
        refine bodyPost_ret (v := .tuple #[.agg #[.int .i64 n0, .int .i64 n1, .int .i64 n2, .string n3, .int .i64 n4, .int .i64 n5, .string n6, .slice A7 n7.length c7, .slice A8 n8.length c8, .slice A9 n9.length c9], .bool true]) (by simp [results, Tryd.results18, go_sem, gc0, gc1, gc2, gc3, gc4, gc5, gc6, gc7, gc8, gc9]) rfl ?_
        exact ⟨_, _, _, rfl, (qcl.far10 (by omega) HT5.out.node _ _ _ _ _ _ _ _ _ _).mono (fun k hk => by omega), qge (Nat.le_refl _) HT5.out.bel _ _ _ _ _ _ _ _ _ _⟩
end Go.Proofs.YtpgkhmdfddejfaaDoor.PV
end
