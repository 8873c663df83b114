import Derived.Test.YtpgkhmdfddejfaaDoorZXPVx0
import Derived.Test.YtpgkhmdfddejfaaDoorZXPVx14
import Derived.Test.YtpgkhmdfddejfaaDoorZXT20
section
namespace Go.Proofs.YtpgkhmdfddejfaaDoor.PV
open Go.RowKit Go.Proofs.YtpgkhmdfddejfaaDoorW.PrintWords Go.Proofs.YtpgkhmdfddejfaaDoorW.PrintLast Go.Proofs.YtpgkhmdfddejfaaDoorW.PrintMore
attribute [local go_sem] qcn qcp qdi qdj qb6 qb7 qco qcq   -- for this text's walks alone
set_option linter.unusedVariables false
set_option linter.unusedSimpArgs false
def qbb.f (k : Nat) (l0 : List (S36)) : Option (Int × Int × Int × ByteArray × Int × Int × ByteArray × (List (S27)) × (List (S30)) × (List (S27)) × Bool) := if (l0.length : Int) = 0 then (some (0, 0, 0, (⟨#[]⟩ : ByteArray), 0, 0, (⟨#[]⟩ : ByteArray), ([] : List (S27)), ([] : List (S30)), ([] : List (S27)), false)) else ((qbc.f k l0 0 (-1)).bind fun qtc => (if qtc.2.2.2.2.2.2.2.2.2.2 = (l0.length : Int) then (some (qtc.1, qtc.2.1, qtc.2.2.1, qtc.2.2.2.1, qtc.2.2.2.2.1, qtc.2.2.2.2.2.1, qtc.2.2.2.2.2.2.1, qtc.2.2.2.2.2.2.2.1, qtc.2.2.2.2.2.2.2.2.1, qtc.2.2.2.2.2.2.2.2.2.1, true)) else (some (0, 0, 0, (⟨#[]⟩ : ByteArray), 0, 0, (⟨#[]⟩ : ByteArray), ([] : List (S27)), ([] : List (S30)), ([] : List (S27)), false))))
theorem qbb.mono : ∀ a0 k, LeO (qbb.f k a0) (qbb.f (k + 1) a0) := by
 intro a0 k
 unfold qbb.f
 repeat' first
   | (with_reducible exact qbc.mono _ _ _ _)
   | (with_reducible exact LeO.refl _)
   | (with_reducible exact LeO.none _)
   | (with_reducible refine LeO.ite ?_ ?_)
   | (with_reducible refine LeO.bind ?_ (fun _ => ?_))
   | exact qbc.mono _ _ _ _
   | exact LeO.none _
   | refine LeO.ite ?_ ?_
   | refine LeO.bind ?_ (fun _ => ?_)
set_option maxHeartbeats 4000000 in
set_option maxRecDepth 100000 in
theorem qbb.calls (k : Nat) (P0_ : Nat → Prop) (A0 : Option Addr) (c0 : Nat) (l0 : List (S36)) (r1 : Int) (r2 : Int) (r3 : Int) (r4 : ByteArray) (r5 : Int) (r6 : Int) (r7 : ByteArray) (r8 : List (S27)) (r9 : List (S30)) (r10 : List (S27)) (r11 : Bool) (w : World) (hs0 : Kd.V k36 36 w w.heap.size (fun k_ => P0_ k_) (.slice A0 l0.length c0) l0) (h : qbb.f k l0 = some (r1, r2, r3, r4, r5, r6, r7, r8, r9, r10, r11)) :
    Calls Tryd.prog 19 #[.slice A0 l0.length c0] w fun e w' => ∃ v7_ v8_ v9_ : Value, e = .returned (.tuple #[.agg #[.int .i64 r1, .int .i64 r2, .int .i64 r3, .string r4, .int .i64 r5, .int .i64 r6, .string r7, v7_, v8_, v9_], .bool r11]) ∧ Kd.V k27 27 w' w.heap.size (fun k_ => (P0_ k_ ∨ w.heap.size ≤ k_)) v7_ r8 ∧ Kd.V k30 30 w' w.heap.size (fun k_ => (P0_ k_ ∨ w.heap.size ≤ k_)) v8_ r9 ∧ Kd.V k27 27 w' w.heap.size (fun k_ => (P0_ k_ ∨ w.heap.size ≤ k_)) v9_ r10 ∧ Below w.heap.size w w' := by
  suffices hs : Calls Tryd.prog 19 #[.slice A0 l0.length c0] w fun e w' => ∃ v7_ v8_ v9_ : Value, e = .returned (.tuple #[.agg #[.int .i64 r1, .int .i64 r2, .int .i64 r3, .string r4, .int .i64 r5, .int .i64 r6, .string r7, v7_, v8_, v9_], .bool r11]) ∧ qcl w' (fun k_ => (P0_ k_ ∨ w.heap.size ≤ k_)) r8 r9 r10 v7_ v8_ v9_ ∧ Below w.heap.size w w' by
    refine hs.mono ?_
    rintro e w' ⟨v7, v8, v9, he, hn, hb⟩
    exact ⟨v7, v8, v9, he, (hn.to _).1, (hn.to _).2.1, (hn.to _).2.2, hb⟩
  have qwm := Tryd.underlying30
  have HS := qf.mk hs0
  clear hs0
  unfold qbb.f at h
  by_cases c4 : (l0.length : Int) = 0
  · rw [if_pos c4] at h
    simp only [Option.some.injEq, Prod.mk.injEq] at h
    obtain ⟨rfl, rfl, rfl, rfl, rfl, rfl, rfl, rfl, rfl, rfl, rfl⟩ := h
    have hd : ((l0.length : Int) == 0) = true := by simpa using c4
    clear c4
    go_enter Tryd.func19, Tryd.ntmps19
    go_wp2
    refine bodyPost_ret (v := .tuple #[.agg #[.int .i64 0, .int .i64 0, .int .i64 0, .string ⟨#[]⟩, .int .i64 0, .int .i64 0, .string ⟨#[]⟩, .slice none 0 0, .slice none 0 0, .slice none 0 0], .bool false]) (by simp [results, Tryd.results19, go_sem]) rfl ?_
    exact ⟨_, _, _, rfl, qcl.nil _ _, (Below.refl _ _).alloc (Nat.le_refl _) _⟩
  rw [if_neg c4] at h
  have hd : ((l0.length : Int) == 0) = false := by simpa using c4
  clear c4
  obtain ⟨⟨n0, n1, n2, n3, n4, n5, n6, n7, n8, n9, to_⟩, hbk, h⟩ := Option.bind_eq_some_iff.mp h
  have HBK := qf.mk hbk
  clear hbk
  simp only at h
  have back : ∀ (Q : Ending → World → Prop) (o : Obj), o = .cells #[.int .i64 0, .int .i64 0, .int .i64 0, .string ⟨#[]⟩, .int .i64 0, .int .i64 0, .string ⟨#[]⟩, .slice none 0 0, .slice none 0 0, .slice none 0 0] 30 →
      (∀ w2 A7 c7 A8 c8 A9 c9, qf (ql7 w (fun k => (P0_ k ∧ k < w.heap.size) ∨ w.heap.size + 1 ≤ k) w2.heap.size #[.int .i64 n0, .int .i64 n1, .int .i64 n2, .string n3, .int .i64 n4, .int .i64 n5, .string n6, .slice A7 n7.length c7, .slice A8 n8.length c8, .slice A9 n9.length c9] n7 n8 n9 (.slice A7 n7.length c7) (.slice A8 n8.length c8) (.slice A9 n9.length c9) (w2.alloc (.cells #[.int .i64 n0, .int .i64 n1, .int .i64 n2, .string n3, .int .i64 n4, .int .i64 n5, .string n6, .slice A7 n7.length c7, .slice A8 n8.length c8, .slice A9 n9.length c9] 30))) →
        Q (.returned (.tuple #[.agg #[.int .i64 n0, .int .i64 n1, .int .i64 n2, .string n3, .int .i64 n4, .int .i64 n5, .string n6, .slice A7 n7.length c7, .slice A8 n8.length c8, .slice A9 n9.length c9], .int .i64 to_])) w2) → Calls Tryd.prog 44 #[.slice A0 l0.length c0, .int .i64 0, .int .i64 (-1)] (w.alloc o) Q := by
    intro Q o ho hQ
    have hv : Kd.V k36 36 (w.alloc o) (w.alloc o).heap.size (fun k => P0_ k ∧ k < w.heap.size) (.slice A0 l0.length c0) l0 := Kd.q0n (show Kd.V k36 36 w (w.alloc o).heap.size (fun k => P0_ k ∧ k < w.heap.size) (.slice A0 l0.length c0) l0 from Kd.V_bound HS.out) (qg (Below.refl _ _) _)
    refine (qbc.calls k (fun k => P0_ k ∧ k < w.heap.size) A0 c0 l0 0 (-1) n0 n1 n2 n3 n4 n5 n6 n7 n8 n9 to_ _ hv HBK.out).mono ?_
    rintro e w2 ⟨v7, v8, v9, rfl, hv7, hv8, hv9, hb⟩
    have hn : qcl w2 (fun k => (P0_ k ∧ k < w.heap.size) ∨ w.heap.size + 1 ≤ k) n7 n8 n9 v7 v8 v9 := (qcl.of hv7 hv8 hv9).mono (fun k hk => hk.imp_right (fun h => by simpa using h))
    obtain ⟨A7, c7, A8, c8, A9, c9, rfl, rfl, rfl⟩ := hn.open_
    exact hQ w2 A7 c7 A8 c8 A9 c9 ⟨ql7.start _ ho hn hb⟩
  have HB := qf.mk back
  clear back
  by_cases ct : to_ = (l0.length : Int)
  · rw [if_pos ct] at h
    simp only [Option.some.injEq, Prod.mk.injEq] at h
    obtain ⟨rfl, rfl, rfl, rfl, rfl, rfl, rfl, rfl, rfl, rfl, rfl⟩ := h
    have hd2 : (to_ != (l0.length : Int)) = false := by simpa using ct
    clear ct
    go_enter Tryd.func19, Tryd.ntmps19
    go_wp2_with (go_at_call 44; refine HB.out _ _ rfl ?_; intro w2 A7 c7 A8 c8 A9 c9 HT; obtain ⟨gc0, gc1, gc2, gc3, gc4, gc5, gc6, gc7, gc8, gc9⟩ := qdo HT.out.b2; obtain ⟨gf0, gf1, gf2, gf3, gf4, gf5, gf6, gf7, gf8, gf9⟩ := qoj HT.out.b2)
    refine bodyPost_ret (v := .tuple #[.agg #[.int .i64 n0, .int .i64 n1, .int .i64 n2, .string n3, .int .i64 n4, .int .i64 n5, .string n6, .slice A7 n7.length c7, .slice A8 n8.length c8, .slice A9 n9.length c9], .bool true]) (by simp [results, Tryd.results19, go_sem, gc0, gc1, gc2, gc3, gc4, gc5, gc6, gc7, gc8, gc9]) rfl ?_
    exact ⟨_, _, _, rfl, (qcl.far10 (by rintro (h | h) <;> omega) HT.out.node _ _ _ _ _ _ _ _ _ _).mono (fun k hk => hk.imp (fun h => h.1) (fun h => by omega)), qge (Nat.le_refl _) HT.out.bel _ _ _ _ _ _ _ _ _ _⟩
  · rw [if_neg ct] at h
    simp only [Option.some.injEq, Prod.mk.injEq] at h
    obtain ⟨rfl, rfl, rfl, rfl, rfl, rfl, rfl, rfl, rfl, rfl, rfl⟩ := h
    have hd2 : (to_ != (l0.length : Int)) = true := by simpa using ct
    clear ct
    go_enter Tryd.func19, Tryd.ntmps19
    go_wp2_with (go_at_call 44; refine HB.out _ _ rfl ?_; intro w2 A7 c7 A8 c8 A9 c9 HT; obtain ⟨gc0, gc1, gc2, gc3, gc4, gc5, gc6, gc7, gc8, gc9⟩ := qdo HT.out.b2; obtain ⟨gf0, gf1, gf2, gf3, gf4, gf5, gf6, gf7, gf8, gf9⟩ := qoj HT.out.b2)
    refine bodyPost_ret (v := .tuple #[.agg #[.int .i64 0, .int .i64 0, .int .i64 0, .string ⟨#[]⟩, .int .i64 0, .int .i64 0, .string ⟨#[]⟩, .slice none 0 0, .slice none 0 0, .slice none 0 0], .bool false]) (by simp [results, Tryd.results19, go_sem, gc0, gc1, gc2, gc3, gc4, gc5, gc6, gc7, gc8, gc9]) rfl ?_
    exact ⟨_, _, _, rfl, qcl.nil _ _, qge (Nat.le_refl _) HT.out.bel _ _ _ _ _ _ _ _ _ _⟩
end Go.Proofs.YtpgkhmdfddejfaaDoor.PV
end
