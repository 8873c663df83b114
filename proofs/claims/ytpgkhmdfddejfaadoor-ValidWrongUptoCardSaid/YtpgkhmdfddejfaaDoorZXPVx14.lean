import Derived.Test.YtpgkhmdfddejfaaDoorZXPVx0
import Derived.Test.YtpgkhmdfddejfaaDoorZXT6
section
namespace Go.Proofs.YtpgkhmdfddejfaaDoor.PV
open Go.RowKit Go.Proofs.YtpgkhmdfddejfaaDoorW.PrintWords Go.Proofs.YtpgkhmdfddejfaaDoorW.PrintLast Go.Proofs.YtpgkhmdfddejfaaDoorW.PrintMore
attribute [local go_sem] qcn qcp qdi qdj qb6 qb7 qco qcq   -- for this text's walks alone
set_option linter.unusedVariables false
set_option linter.unusedSimpArgs false
theorem zr1 (l : List S36) : ∀ f, (∀ a p q, rb l f a p = some q → rb l (f + 1) a p = some q) ∧ (∀ a m t q, qbw l f a m t = some q → qbw l (f + 1) a m t = some q)
  | 0 => ⟨fun a p q h => by simp [rb] at h, fun a m t q h => by simp [qbw] at h⟩
  | f + 1 => by
    obtain ⟨ih1, ih2⟩ := zr1 l f
    refine ⟨fun a p q h => ?_, fun a m t q h => ?_⟩
    · rw [rb] at h ⊢
      split at h
      · rename_i c
        rw [if_pos c]; exact h
      · rename_i c
        rw [if_neg c]; exact ih2 _ _ _ _ h
    · rw [qbw] at h ⊢
      split at h
      · rename_i c
        rw [if_pos c]
        cases hq : rb l f t a with
        | none => rw [hq] at h; cases h
        | some z =>
          rw [hq, Option.bind_some] at h
          rw [ih1 _ _ _ hq, Option.bind_some]
          split at h
          · rename_i c2
            rw [if_pos c2]; exact h
          · rename_i c2
            rw [if_neg c2]; exact ih2 _ _ _ _ h
      · rename_i c
        rw [if_neg c]; exact h
def qbc.f (k : Nat) (l0 : List S36) (a1 : Int) (a2 : Int) : Option (Int × Int × Int × ByteArray × Int × Int × ByteArray × (List (S27)) × (List (S30)) × (List (S27)) × Int) :=
  if l0.length ≤ 900000000000 ∧ 0 ≤ a1 ∧ a1 < l0.length then (rb l0 k a1 a2).bind fun q => some (q.1.f0, q.1.f1, q.1.f2, q.1.f3, q.1.f4.f0, q.1.f4.f1, q.1.f4.f2, q.1.f4.f3, q.1.f5, q.1.f6, q.2) else none
theorem qbc.mono : ∀ a0 a1 a2 k, LeO (qbc.f k a0 a1 a2) (qbc.f (k + 1) a0 a1 a2) := by
  intro l a p k
  unfold qbc.f
  refine LeO.ite ?_ (LeO.refl _)
  exact LeO.bind (fun q h => (zr1 l k).1 _ _ _ h) (fun _ => LeO.refl _)
theorem qbc.calls (k : Nat) (P0_ : Nat → Prop) (A0 : Option Addr) (c0 : Nat) (l0 : List (S36)) (a1 : Int) (a2 : Int) (r1 : Int) (r2 : Int) (r3 : Int) (r4 : ByteArray) (r5 : Int) (r6 : Int) (r7 : ByteArray) (r8 : List (S27)) (r9 : List (S30)) (r10 : List (S27)) (r11 : Int) (w : World) (hs0 : Kd.V k36 36 w w.heap.size (fun k_ => P0_ k_) (.slice A0 l0.length c0) l0) (h : qbc.f k l0 a1 a2 = some (r1, r2, r3, r4, r5, r6, r7, r8, r9, r10, r11)) :
    Calls Tryd.prog 44 #[.slice A0 l0.length c0, .int .i64 a1, .int .i64 a2] w fun e w' => ∃ v7_ v8_ v9_ : Value, e = .returned (.tuple #[.agg #[.int .i64 r1, .int .i64 r2, .int .i64 r3, .string r4, .int .i64 r5, .int .i64 r6, .string r7, v7_, v8_, v9_], .int .i64 r11]) ∧ Kd.V k27 27 w' w.heap.size (fun k_ => (P0_ k_ ∨ w.heap.size ≤ k_)) v7_ r8 ∧ Kd.V k30 30 w' w.heap.size (fun k_ => (P0_ k_ ∨ w.heap.size ≤ k_)) v8_ r9 ∧ Kd.V k27 27 w' w.heap.size (fun k_ => (P0_ k_ ∨ w.heap.size ≤ k_)) v9_ r10 ∧ Below w.heap.size w w' := by
  unfold qbc.f at h
  split at h
  · rename_i hc
    obtain ⟨A, c, hv, hl, hF⟩ := hs0
    injection hv with hA _ hcc
    subst hA hcc
    obtain ⟨⟨n, r⟩, hq, he⟩ := Option.bind_eq_some_iff.mp h
    injection he with he
    simp only [Prod.mk.injEq] at he
    obtain ⟨rfl, rfl, rfl, rfl, rfl, rfl, rfl, rfl, rfl, rfl, rfl⟩ := he
    refine (refback_any (fun k => P0_ k ∧ k < w.heap.size) A0 c0 l0 hl hc.1 k a1 a2 n r w (fun k hk => hk.2) (Kd.qoq hF) hc.2.1 hc.2.2 hq).mono ?_
    rintro e w' ⟨A7, c7, A8, c8, A9, c9, rfl, h7, f7, h8, f8, h9, f9, hb⟩
    have up : ∀ k, ((P0_ k ∧ k < w.heap.size) ∨ w.heap.size ≤ k) → (P0_ k ∨ w.heap.size ≤ k) := fun k hk => hk.imp_left (fun h => h.1)
    exact ⟨_, _, _, rfl, ⟨A7, c7, rfl, h7, Kd.qed f7 up⟩, ⟨A8, c8, rfl, h8, Kd.qed f8 up⟩, ⟨A9, c9, rfl, h9, Kd.qed f9 up⟩, hb⟩
  · cases h
end Go.Proofs.YtpgkhmdfddejfaaDoor.PV
end
