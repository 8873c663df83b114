import Derived.Test.YtpgkhmdfddejfaaDoorZTT22
import Derived.Test.YtpgkhmdfddejfaaDoorZTPVx0
import Derived.Test.YtpgkhmdfddejfaaDoorZTPVx9
import Derived.Test.YtpgkhmdfddejfaaDoorZTPVx13
import Derived.Test.YtpgkhmdfddejfaaDoorZTPVx17
section
namespace Go.Proofs.YtpgkhmdfddejfaaDoor.PV
open Go.RowKit Go.Proofs.YtpgkhmdfddejfaaDoorW.PrintWords Go.Proofs.YtpgkhmdfddejfaaDoorW.PrintLast Go.Proofs.YtpgkhmdfddejfaaDoorW.PrintMore
set_option linter.unusedVariables false
set_option linter.unusedSimpArgs false
def qd8 (w : World) (n : S30) (A7 : Option Addr) (c7 : Nat) (A8 : Option Addr) (c8 : Nat) (A9 : Option Addr) (c9 : Nat) : Prop := Elder w w n A7 c7 A8 c8 A9 c9
theorem qd8.reads {w W : World} {n : S30} {A7 : Option Addr} {c7 : Nat} {A8 : Option Addr} {c8 : Nat} {A9 : Option Addr} {c9 : Nat} (h : qd8 w n A7 c7 A8 c8 A9 c9) (hb : Below w.heap.size w W) :
    (Kd.C k27 W A7 n.f4.f3.length n.f4.f3 ∧ n.f4.f3.length ≤ c7) ∧ (Kd.C k30 W A8 n.f5.length n.f5 ∧ n.f5.length ≤ c8) ∧ (Kd.C k27 W A9 n.f6.length n.f6 ∧ n.f6.length ≤ c9) := by
  obtain ⟨h7, f7, h8, f8, h9, f9⟩ := h
  have hm : ∀ k, k < w.heap.size → k < w.heap.size → W.heap[k]? = w.heap[k]? := fun k hk _ => hb.block k hk
  exact ⟨⟨Kd.F_now (Kd.qdl f7 hm), h7⟩, ⟨Kd.F_now (Kd.qdl f8 hm), h8⟩, ⟨Kd.F_now (Kd.qdl f9 hm), h9⟩⟩
theorem qd8.step {w W : World} {n : S30} {A7 : Option Addr} {c7 : Nat} {A8 : Option Addr} {c8 : Nat} {A9 : Option Addr} {c9 : Nat} (h : qd8 w n A7 c7 A8 c8 A9 c9) (hb : Below w.heap.size w W) : qd8 W n A7 c7 A8 c8 A9 c9 := by
  obtain ⟨h7, f7, h8, f8, h9, f9⟩ := h
  have hm : ∀ k, k < w.heap.size → k < w.heap.size → W.heap[k]? = w.heap[k]? := fun k hk _ => hb.block k hk
  have ho : ∀ k, k < w.heap.size → k < W.heap.size := fun k hk => Nat.lt_of_lt_of_le hk hb.size
  exact ⟨h7, Kd.qdx (Kd.qdl f7 hm) ho, h8, Kd.qdx (Kd.qdl f8 hm) ho, h9, Kd.qdx (Kd.qdl f9 hm) ho⟩
set_option maxHeartbeats 4000000 in
set_option maxRecDepth 100000 in
theorem make_walk (d : Nat) (n : S30) (w : World) (A7 : Option Addr) (c7 : Nat) (A8 : Option Addr) (c8 : Nat) (A9 : Option Addr) (c9 : Nat) (hfit : Fit30 d n) (hcnt : cnt d n ≤ 2000000000) (hE : qd8 w n A7 c7 A8 c8 A9 c9) :
    Calls Tryd.prog 12 #[.agg #[.int .i64 n.f0, .int .i64 n.f1, .int .i64 n.f2, .string n.f3, .int .i64 n.f4.f0, .int .i64 n.f4.f1, .string n.f4.f2, .slice A7 n.f4.f3.length c7, .slice A8 n.f5.length c8, .slice A9 n.f6.length c9]] w
      fun e w' => ∃ A c, e = .returned (.slice A (flatF d [] n (-1)).length c) ∧ Kd.N k36 36 w' w.heap.size (fun _ => True) (.slice A (flatF d [] n (-1)).length c) (flatF d [] n (-1)) ∧ Below w.heap.size w w' := by
  have hu30 := Tryd.underlying30
  have HF := qc.mk (And.intro hfit (show ([] : List S36).length + cnt d n ≤ 2000000000 by simp; omega))
  have HE := qc.mk hE
  clear hfit hcnt hE
  go_enter Tryd.func12, Tryd.ntmps12
  go_wp2_with (go_at_call 20; refine (flat_walk w d n [] (-1) (.slice none 0 0) _ A7 c7 A8 c8 A9 c9 HF.out.1 HF.out.2 (qg (Below.refl _ _) _) (by simp) (Kd.N_nil _ _ _ _ _) (Elder.step HE.out (Below.refl _ _) (qg (Below.refl _ _) _))).mono ?_; rintro e w1 ⟨v1, rfl, hN1, hB1, hg1, hat1⟩; obtain ⟨A1, c1, rfl⟩ := Kd.N_slice hN1; have HN1 := qc.mk hN1; have HB1 := qc.mk hB1; clear hN1 hB1 hg1 hat1)
  go_ret
  exact ⟨A1, c1, rfl, HN1.out, HB1.out⟩
set_option maxHeartbeats 4000000 in
set_option maxRecDepth 100000 in
theorem trees_walk (k : Nat) (d : Nat) (n : S30) (w : World) (A7 : Option Addr) (c7 : Nat) (A8 : Option Addr) (c8 : Nat) (A9 : Option Addr) (c9 : Nat) (b r : Bool) (hfit : Fit30 d n) (hcnt : cnt d n ≤ 2000000000) (hE : qd8 w n A7 c7 A8 c8 A9 c9) (hG : Lay w)
    (ha : qcm.f k = some true) (hb : qbi.f k n.f0 n.f1 n.f2 n.f3 n.f4.f0 n.f4.f1 n.f4.f2 n.f4.f3 n.f5 n.f6 0 = some b) (hc : qbt.f k n.f0 n.f1 n.f2 n.f3 n.f4.f0 n.f4.f1 n.f4.f2 n.f4.f3 n.f5 n.f6 = some ((cnt d n : Nat) : Int))
    (h1 : cnt d n ≤ 4000 → qcb.f k (flatF d [] n (-1)) = some r) (h2 : qf.f k n.f0 n.f1 n.f2 n.f3 n.f4.f0 n.f4.f1 n.f4.f2 n.f4.f3 n.f5 n.f6 1 = some r) :
    Calls Tryd.prog 4 #[.agg #[.int .i64 n.f0, .int .i64 n.f1, .int .i64 n.f2, .string n.f3, .int .i64 n.f4.f0, .int .i64 n.f4.f1, .string n.f4.f2, .slice A7 n.f4.f3.length c7, .slice A8 n.f5.length c8, .slice A9 n.f6.length c9]] w
      fun e w' => e = .returned (.bool true) ∧ Below w.heap.size w w' := by
  have hu22 := Tryd.underlying22
  have hu30 := Tryd.underlying30
  have hu36 := Tryd.underlying36
  have HF := qc.mk (And.intro hfit hcnt)
  have HE := qc.mk hE
  have HG := qc.mk hG
  have HA := qc.mk ha
  have HBG := qc.mk hb
  have HC := qc.mk hc
  have H1 := qc.mk h1
  have H2 := qc.mk h2
  have HX : qc (Below w.heap.size w (w.alloc (.cells #[.int .i64 n.f0, .int .i64 n.f1, .int .i64 n.f2, .string n.f3, .int .i64 n.f4.f0, .int .i64 n.f4.f1, .string n.f4.f2, .slice A7 n.f4.f3.length c7, .slice A8 n.f5.length c8, .slice A9 n.f6.length c9] 30)) ∧ (w.alloc (.cells #[.int .i64 n.f0, .int .i64 n.f1, .int .i64 n.f2, .string n.f3, .int .i64 n.f4.f0, .int .i64 n.f4.f1, .string n.f4.f2, .slice A7 n.f4.f3.length c7, .slice A8 n.f5.length c8, .slice A9 n.f6.length c9] 30)).heap[w.heap.size]? = some (.cells #[.int .i64 n.f0, .int .i64 n.f1, .int .i64 n.f2, .string n.f3, .int .i64 n.f4.f0, .int .i64 n.f4.f1, .string n.f4.f2, .slice A7 n.f4.f3.length c7, .slice A8 n.f5.length c8, .slice A9 n.f6.length c9] 30 (0, 0))) := ⟨⟨qg (Below.refl _ _) _, qfc w _⟩⟩
  clear hfit hcnt hE hG ha hb hc h1 h2
  go_enter Tryd.func4, Tryd.ntmps4
  go_wp2_with (go_at_call 7; (with_reducible refine (qcm.calls k true _ (Lay.below HG.out HX.out.1) HA.out).mono ?_); rintro e w1 ⟨rfl, hb⟩; have HB1 := qc.mk (And.intro (qb9 HX.out.1 HX.out.1.size hb) (qbb HX.out.2 hb)); clear hb; obtain ⟨x0, x1, x2, x3, x4, x5, x6, x7, x8, x9⟩ := qdc HB1.out.2)
  clear x0 x1 x2 x3 x4 x5 x6 x7 x8 x9
  have big : ∀ W, Below w.heap.size w W → Calls Tryd.prog 10 #[.agg #[.int .i64 n.f0, .int .i64 n.f1, .int .i64 n.f2, .string n.f3, .int .i64 n.f4.f0, .int .i64 n.f4.f1, .string n.f4.f2, .slice A7 n.f4.f3.length c7, .slice A8 n.f5.length c8, .slice A9 n.f6.length c9], .int .i64 0] W fun e w' => e = .returned (.bool b) ∧ Below W.heap.size W w' := by
    intro W hW
    obtain ⟨⟨h7, l7⟩, ⟨h8, l8⟩, h9, l9⟩ := qd8.reads HE.out hW
    exact qbi.calls k _ _ _ _ _ _ _ A7 c7 _ A8 c8 _ A9 c9 _ 0 b W h7 l7 h8 l8 h9 l9 HBG.out
  have count : ∀ W, Below w.heap.size w W → Calls Tryd.prog 11 #[.agg #[.int .i64 n.f0, .int .i64 n.f1, .int .i64 n.f2, .string n.f3, .int .i64 n.f4.f0, .int .i64 n.f4.f1, .string n.f4.f2, .slice A7 n.f4.f3.length c7, .slice A8 n.f5.length c8, .slice A9 n.f6.length c9]] W fun e w' => e = .returned (.int .i64 ((cnt d n : Nat) : Int)) ∧ Below W.heap.size W w' := by
    intro W hW
    obtain ⟨⟨h7, l7⟩, ⟨h8, l8⟩, h9, l9⟩ := qd8.reads HE.out hW
    exact qbt.calls k _ _ _ _ _ _ _ A7 c7 _ A8 c8 _ A9 c9 _ _ W h7 l7 h8 l8 h9 l9 HC.out
  have node : ∀ W, Below w.heap.size w W → Calls Tryd.prog 13 #[.agg #[.int .i64 n.f0, .int .i64 n.f1, .int .i64 n.f2, .string n.f3, .int .i64 n.f4.f0, .int .i64 n.f4.f1, .string n.f4.f2, .slice A7 n.f4.f3.length c7, .slice A8 n.f5.length c8, .slice A9 n.f6.length c9], .int .i64 1] W fun e w' => e = .returned (.bool r) ∧ Below W.heap.size W w' := by
    intro W hW
    obtain ⟨⟨h7, l7⟩, ⟨h8, l8⟩, h9, l9⟩ := qd8.reads HE.out hW
    exact qf.calls k _ _ _ _ _ _ _ A7 c7 _ A8 c8 _ A9 c9 _ 1 r W h7 l7 h8 l8 h9 l9 H2.out
  have BIG := qc.mk big
  have COUNT := qc.mk count
  have NODE := qc.mk node
  clear big count node
  obtain ⟨x0, x1, x2, x3, x4, x5, x6, x7, x8, x9⟩ := qdc HB1.out.2
  cases b with
  | true =>
    go_wp2_with (go_at_call 10; (with_reducible refine (BIG.out _ HB1.out.1).mono ?_); rintro e w2 ⟨rfl, hb⟩; have HB2 := qc.mk (And.intro (qb9 HB1.out.1 HB1.out.1.size hb) (qbb HB1.out.2 hb)); clear hb; clear x0 x1 x2 x3 x4 x5 x6 x7 x8 x9; obtain ⟨x0, x1, x2, x3, x4, x5, x6, x7, x8, x9⟩ := qdc HB2.out.2)
    go_ret
    exact ⟨rfl, HB2.out.1⟩
  | false =>
    by_cases h300 : cnt d n ≤ 300
    · have hd : decide (((cnt d n : Nat) : Int) > 300) = false := by simp; omega
      go_wp2_with (first
        | (go_at_call 10; (with_reducible refine (BIG.out _ HB1.out.1).mono ?_); rintro e w2 ⟨rfl, hb⟩; have HB2 := qc.mk (And.intro (qb9 HB1.out.1 HB1.out.1.size hb) (qbb HB1.out.2 hb)); clear hb; clear x0 x1 x2 x3 x4 x5 x6 x7 x8 x9; obtain ⟨x0, x1, x2, x3, x4, x5, x6, x7, x8, x9⟩ := qdc HB2.out.2)
        | (go_at_call 11; (with_reducible refine (COUNT.out _ HB2.out.1).mono ?_); rintro e w3 ⟨rfl, hb⟩; have HB3 := qc.mk (And.intro (qb9 HB2.out.1 HB2.out.1.size hb) (qbb HB2.out.2 hb)); clear hb; clear x0 x1 x2 x3 x4 x5 x6 x7 x8 x9; obtain ⟨x0, x1, x2, x3, x4, x5, x6, x7, x8, x9⟩ := qdc HB3.out.2)
        | (go_at_call 12; (with_reducible refine (make_walk d n w3 A7 c7 A8 c8 A9 c9 HF.out.1 HF.out.2 (qd8.step HE.out HB3.out.1)).mono ?_); rintro e w4 ⟨A4, c4, rfl, hN4, hb⟩; have HN4 := qc.mk hN4; have HB4 := qc.mk (And.intro (qb9 HB3.out.1 HB3.out.1.size hb) (qbb HB3.out.2 hb)); clear hb hN4; clear x0 x1 x2 x3 x4 x5 x6 x7 x8 x9; obtain ⟨x0, x1, x2, x3, x4, x5, x6, x7, x8, x9⟩ := qdc HB4.out.2))
      have right : ∀ W, qc (Below w4.heap.size w4 W) → Calls Tryd.prog 8 #[.slice A4 (flatF d [] n (-1)).length c4] W fun e w' => e = .returned (.bool r) ∧ qc (Below w4.heap.size w4 w') ∧ w'.cell? ⟨w.heap.size, 0, none⟩ = some (.int .i64 n.f0) ∧ w'.cell? ⟨w.heap.size, 1, none⟩ = some (.int .i64 n.f1) ∧ w'.cell? ⟨w.heap.size, 2, none⟩ = some (.int .i64 n.f2) ∧ w'.cell? ⟨w.heap.size, 3, none⟩ = some (.string n.f3) ∧ w'.cell? ⟨w.heap.size, 4, none⟩ = some (.int .i64 n.f4.f0) ∧ w'.cell? ⟨w.heap.size, 5, none⟩ = some (.int .i64 n.f4.f1) ∧ w'.cell? ⟨w.heap.size, 6, none⟩ = some (.string n.f4.f2) ∧ w'.cell? ⟨w.heap.size, 7, none⟩ = some (.slice A7 n.f4.f3.length c7) ∧ w'.cell? ⟨w.heap.size, 8, none⟩ = some (.slice A8 n.f5.length c8) ∧ w'.cell? ⟨w.heap.size, 9, none⟩ = some (.slice A9 n.f6.length c9) := by
        intro W hW
        have hN := Kd.N_below HN4.out hW.out
        refine (qcb.calls k A4 c4 _ r W (Kd.N_reads' hN).2.2 (Kd.N_reads' hN).2.1 (Lay.below HG.out (qb9 HB4.out.1 HB4.out.1.size hW.out)) (H1.out (by omega))).mono ?_
        rintro e w5 ⟨rfl, hb⟩
        have hb' := qb9 hW.out hW.out.size hb
        exact ⟨rfl, ⟨hb'⟩, qdc (qbb HB4.out.2 hb')⟩
      have node : ∀ W, qc (Below w4.heap.size w4 W) → Calls Tryd.prog 13 #[.agg #[.int .i64 n.f0, .int .i64 n.f1, .int .i64 n.f2, .string n.f3, .int .i64 n.f4.f0, .int .i64 n.f4.f1, .string n.f4.f2, .slice A7 n.f4.f3.length c7, .slice A8 n.f5.length c8, .slice A9 n.f6.length c9], .int .i64 1] W fun e w' => e = .returned (.bool r) ∧ qc (Below w4.heap.size w4 w') ∧ w'.cell? ⟨w.heap.size, 0, none⟩ = some (.int .i64 n.f0) ∧ w'.cell? ⟨w.heap.size, 1, none⟩ = some (.int .i64 n.f1) ∧ w'.cell? ⟨w.heap.size, 2, none⟩ = some (.int .i64 n.f2) ∧ w'.cell? ⟨w.heap.size, 3, none⟩ = some (.string n.f3) ∧ w'.cell? ⟨w.heap.size, 4, none⟩ = some (.int .i64 n.f4.f0) ∧ w'.cell? ⟨w.heap.size, 5, none⟩ = some (.int .i64 n.f4.f1) ∧ w'.cell? ⟨w.heap.size, 6, none⟩ = some (.string n.f4.f2) ∧ w'.cell? ⟨w.heap.size, 7, none⟩ = some (.slice A7 n.f4.f3.length c7) ∧ w'.cell? ⟨w.heap.size, 8, none⟩ = some (.slice A8 n.f5.length c8) ∧ w'.cell? ⟨w.heap.size, 9, none⟩ = some (.slice A9 n.f6.length c9) := by
        intro W hW
        refine (NODE.out W (qb9 HB4.out.1 HB4.out.1.size hW.out)).mono ?_
        rintro e w5 ⟨rfl, hb⟩
        have hb' := qb9 hW.out hW.out.size hb
        exact ⟨rfl, ⟨hb'⟩, qdc (qbb HB4.out.2 hb')⟩
      have RIGHT := qc.mk right
      have NODE2 := qc.mk node
      have START : qc (Below w4.heap.size w4 w4.drew) := ⟨qdv (Below.refl _ _)⟩
      clear right node
      obtain ⟨u0, u1, u2, u3, u4, u5, u6, u7, u8, u9⟩ := qdc (qbb HB4.out.2 START.out)
      go_region_with (first
        | (go_at_call 8; (with_reducible refine (RIGHT.out _ (by assumption)).mono ?_); rintro e w5 ⟨rfl, hb5, y0, y1, y2, y3, y4, y5, y6, y7, y8, y9⟩)
        | (go_at_call 13; (with_reducible refine (NODE2.out _ (by assumption)).mono ?_); rintro e w6 ⟨rfl, hb6, z0, z1, z2, z3, z4, z5, z6, z7, z8, z9⟩))
      all_goals go_wp2
      all_goals go_ret
      all_goals first
        | exact ⟨rfl, qb9 HB4.out.1 HB4.out.1.size hb6.out⟩
        | exact ⟨rfl, qb9 HB4.out.1 HB4.out.1.size hb5.out⟩
    · have hd : decide (((cnt d n : Nat) : Int) > 300) = true := by simp; omega
      go_wp2_with (first
        | (go_at_call 10; (with_reducible refine (BIG.out _ HB1.out.1).mono ?_); rintro e w2 ⟨rfl, hb⟩; have HB2 := qc.mk (And.intro (qb9 HB1.out.1 HB1.out.1.size hb) (qbb HB1.out.2 hb)); clear hb; clear x0 x1 x2 x3 x4 x5 x6 x7 x8 x9; obtain ⟨x0, x1, x2, x3, x4, x5, x6, x7, x8, x9⟩ := qdc HB2.out.2)
        | (go_at_call 11; (with_reducible refine (COUNT.out _ HB2.out.1).mono ?_); rintro e w3 ⟨rfl, hb⟩; have HB3 := qc.mk (And.intro (qb9 HB2.out.1 HB2.out.1.size hb) (qbb HB2.out.2 hb)); clear hb; clear x0 x1 x2 x3 x4 x5 x6 x7 x8 x9; obtain ⟨x0, x1, x2, x3, x4, x5, x6, x7, x8, x9⟩ := qdc HB3.out.2))
      go_ret
      exact ⟨rfl, HB3.out.1⟩
end Go.Proofs.YtpgkhmdfddejfaaDoor.PV
end
