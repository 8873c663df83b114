import Derived.Test.YtpgkhmdfddejfaaDoorZXPVx0
import Derived.Test.YtpgkhmdfddejfaaDoorZXPVx13
import Derived.Test.YtpgkhmdfddejfaaDoorZXPVx15
import Derived.Test.YtpgkhmdfddejfaaDoorZXT20
section
namespace Go.Proofs.YtpgkhmdfddejfaaDoor.PV
open Go.RowKit Go.Proofs.YtpgkhmdfddejfaaDoorW.PrintWords Go.Proofs.YtpgkhmdfddejfaaDoorW.PrintLast Go.Proofs.YtpgkhmdfddejfaaDoorW.PrintMore
attribute [local go_sem] qcn qcp qdi qdj qb6 qb7 qco qcq   -- for this text's walks alone
set_option linter.unusedVariables false
set_option linter.unusedSimpArgs false
def qbh.f (k : Nat) (l0 : List (S36)) : Option (Bool) := (qbb.f k l0).bind fun qtd => (if qtd.2.2.2.2.2.2.2.2.2.2 = true then (if (l0.length : Int) ≤ 4000 then ((qd.f k qtd.1 qtd.2.1 qtd.2.2.1 qtd.2.2.2.1 qtd.2.2.2.2.1 qtd.2.2.2.2.2.1 qtd.2.2.2.2.2.2.1 qtd.2.2.2.2.2.2.2.1 qtd.2.2.2.2.2.2.2.2.1 qtd.2.2.2.2.2.2.2.2.2.1 1).bind fun z1w => (some z1w)) else (some false)) else (some false))
theorem qbh.mono : ∀ a0 k, LeO (qbh.f k a0) (qbh.f (k + 1) a0) := by
 intro a0 k
 unfold qbh.f
 repeat' first
   | (with_reducible exact qbb.mono _ _)
   | (with_reducible exact qd.mono _ _ _ _ _ _ _ _ _ _ _ _)
   | (with_reducible exact LeO.refl _)
   | (with_reducible exact LeO.none _)
   | (with_reducible refine LeO.ite ?_ ?_)
   | (with_reducible refine LeO.bind ?_ (fun _ => ?_))
   | exact qbb.mono _ _
   | exact qd.mono _ _ _ _ _ _ _ _ _ _ _ _
   | exact LeO.none _
   | refine LeO.ite ?_ ?_
   | refine LeO.bind ?_ (fun _ => ?_)
theorem k27H : Kd.Heap k27 := Kd.q7l (fun _ h_ => Kd.qxu _ (Kd.qcc (Kd.qfg .i64) (Kd.qcc (Kd.qfg .i64) (Kd.qcc Kd.qmv (Kd.qmc 27 h_)))))
theorem k36H : Kd.Heap k36 := Kd.qxu _ (Kd.qcc (Kd.qfg .i64) (Kd.qcc (Kd.qfg .i64) (Kd.qcc (Kd.qfg .i64) (Kd.qcc (Kd.qfg .i64) (Kd.qcc (Kd.qfg .i64) (Kd.qcc Kd.qmv (Kd.qcc k27H (Kd.qmc 27 k27H))))))))
set_option maxHeartbeats 4000000 in
set_option maxRecDepth 100000 in
theorem qbh.calls (k : Nat) (A0 : Option Addr) (c0 : Nat) (l0 : List (S36)) (r : Bool) (w : World) (hr0 : Kd.C k36 w A0 l0.length l0) (hc0 : l0.length ≤ c0) (h : qbh.f k l0 = some r) :
  Calls Tryd.prog 9 #[.slice A0 l0.length c0] w fun e w' => e = .returned (.bool r) ∧ Below w.heap.size w w' := by
  have qwm := Tryd.underlying30
  have HS := qf.mk (show Kd.V k36 36 w w.heap.size (fun k_ => k_ < w.heap.size) (.slice A0 l0.length c0) l0 from Kd.V_mk hc0 (Kd.C_F k36H hr0))
  clear hr0 hc0
  unfold qbh.f at h
  obtain ⟨⟨n0, n1, n2, n3, n4, n5, n6, n7, n8, n9, ok⟩, hbk, h⟩ := Option.bind_eq_some_iff.mp h
  have HBK := qf.mk hbk
  clear hbk
  simp only at h
  have back : ∀ (Q : Ending → World → Prop),
      (∀ w2 A7 c7 A8 c8 A9 c9, qf (qcl w2 (fun _ => True) n7 n8 n9 (.slice A7 n7.length c7) (.slice A8 n8.length c8) (.slice A9 n9.length c9) ∧ Below w.heap.size w w2) →
        Q (.returned (.tuple #[.agg #[.int .i64 n0, .int .i64 n1, .int .i64 n2, .string n3, .int .i64 n4, .int .i64 n5, .string n6, .slice A7 n7.length c7, .slice A8 n8.length c8, .slice A9 n9.length c9], .bool ok])) w2) → Calls Tryd.prog 19 #[.slice A0 l0.length c0] w Q := by
    intro Q hQ
    refine (qbb.calls k (fun k => k < w.heap.size) A0 c0 l0 n0 n1 n2 n3 n4 n5 n6 n7 n8 n9 ok _ HS.out HBK.out).mono ?_
    rintro e w2 ⟨v7, v8, v9, rfl, hv7, hv8, hv9, hb⟩
    have hn : qcl w2 (fun _ => True) n7 n8 n9 v7 v8 v9 := (qcl.of hv7 hv8 hv9).mono (fun _ _ => trivial)
    obtain ⟨A7, c7, A8, c8, A9, c9, rfl, rfl, rfl⟩ := hn.open_
    exact hQ w2 A7 c7 A8 c8 A9 c9 ⟨hn, hb⟩
  have HB := qf.mk back
  clear back
  cases ok with
  | false =>
    rw [if_neg (by decide)] at h
    obtain rfl := Option.some.inj h
    go_enter Tryd.func9, Tryd.ntmps9
    go_wp2_with (go_at_call 19; refine HB.out _ ?_; intro w2 A7 c7 A8 c8 A9 c9 HT)
    go_ret
    exact ⟨rfl, jd HT.out.2 HT.out.2.size (qg (Below.refl _ _) _)⟩
  | true =>
    rw [if_pos rfl] at h
    by_cases c4 : (l0.length : Int) ≤ 4000
    · rw [if_pos c4] at h
      have hd : decide ((l0.length : Int) ≤ 4000) = true := decide_eq_true c4
      clear c4
      obtain ⟨r', hrn, h⟩ := Option.bind_eq_some_iff.mp h
      obtain rfl := Option.some.inj h
      have HN := qf.mk hrn
      clear hrn h
      go_enter Tryd.func9, Tryd.ntmps9
      go_wp2_with (first
        | (go_at_call 19; refine HB.out _ ?_; intro w2 A7 c7 A8 c8 A9 c9 HT; have HT2 := qf.mk ((HT.out.1.below (qg (Below.refl _ _) (.cells #[.int .i64 n0, .int .i64 n1, .int .i64 n2, .string n3, .int .i64 n4, .int .i64 n5, .string n6, .slice A7 n7.length c7, .slice A8 n8.length c8, .slice A9 n9.length c9] 30))).reads))
        | (go_at_call 13; (with_reducible refine (qd.calls k n0 n1 n2 n3 n4 n5 n6 A7 c7 n7 A8 c8 n8 A9 c9 n9 1 r' _ HT2.out.1 HT2.out.2.1 HT2.out.2.2.1 HT2.out.2.2.2.1 HT2.out.2.2.2.2.1 HT2.out.2.2.2.2.2 HN.out).mono ?_); rintro e w4 ⟨rfl, hb⟩; have HB4 := qf.mk (jd (jd HT.out.2 HT.out.2.size (qg (Below.refl _ _) _)) (by have := HT.out.2.size; simp; omega) hb); clear hb))
      go_ret
      exact ⟨rfl, HB4.out⟩
    · rw [if_neg c4] at h
      have hd : decide ((l0.length : Int) ≤ 4000) = false := decide_eq_false c4
      clear c4
      obtain rfl := Option.some.inj h
      go_enter Tryd.func9, Tryd.ntmps9
      go_wp2_with (go_at_call 19; refine HB.out _ ?_; intro w2 A7 c7 A8 c8 A9 c9 HT)
      go_ret
      exact ⟨rfl, jd HT.out.2 HT.out.2.size (qg (Below.refl _ _) _)⟩
end Go.Proofs.YtpgkhmdfddejfaaDoor.PV
end
