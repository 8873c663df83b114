import Derived.Test.YtpgkhmdfddejfaaDoorZXPVx0
import Derived.Test.YtpgkhmdfddejfaaDoorZXPVx1
import Derived.Test.YtpgkhmdfddejfaaDoorZXT5
section
namespace Go.Proofs.YtpgkhmdfddejfaaDoor.PV
open Go.RowKit Go.Proofs.YtpgkhmdfddejfaaDoorW.PrintWords Go.Proofs.YtpgkhmdfddejfaaDoorW.PrintLast Go.Proofs.YtpgkhmdfddejfaaDoorW.PrintMore
attribute [local go_sem] qcn qcp qdi qdj qb6 qb7 qco qcq   -- for this text's walks alone
set_option linter.unusedVariables false
set_option linter.unusedSimpArgs false
def fitE : Nat → S27 → Bool
  | 0, _ => false
  | k + 1, x => decide (x.f3.length ≤ 2000000000) && x.f3.all (fitE k)
theorem q0s : ∀ (k : Nat) (x : S27), fitE k x = true → fitE (k + 1) x = true
  | 0, _, h => by cases h
  | k + 1, x, h => by
    rw [fitE, Bool.and_eq_true, List.all_eq_true] at h ⊢
    exact ⟨h.1, fun y hy => q0s k y (h.2 y hy)⟩
theorem qz5 : ∀ (k : Nat) (x : S27), fitE k x = true → ∃ m, qar.f m x.f0 x.f1 x.f2 x.f3 = some (x.f0, x.f1, x.f2, x.f3)
  | 0, _, h => by cases h
  | k + 1, x, h => by
    rw [fitE, Bool.and_eq_true, List.all_eq_true] at h
    obtain ⟨m, hm⟩ := copies_id x.f3 (of_decide_eq_true h.1) (fun y hy => qz5 k y (h.2 y hy))
    exact ⟨m + 1, by rw [qar.f, hm, Option.bind_some]⟩
def fitF (k : Nat) (x : S36) : Bool := fitE k x.f6 && (decide (x.f7.length ≤ 2000000000) && x.f7.all (fitE k))
theorem fitF_up (k : Nat) (x : S36) (h : fitF k x = true) : fitF (k + 1) x = true := by
  unfold fitF at h ⊢
  rw [Bool.and_eq_true, Bool.and_eq_true, List.all_eq_true] at h ⊢
  exact ⟨q0s k _ h.1, h.2.1, fun y hy => q0s k y (h.2.2 y hy)⟩
theorem fitF_node (k : Nat) (x : S36) (h : fitF k x = true) : ∃ m0, ∀ m, m0 ≤ m → qb3.f m x.f0 x.f1 x.f2 x.f3 x.f4 x.f5 x.f6.f0 x.f6.f1 x.f6.f2 x.f6.f3 x.f7 = some (x.f0, x.f1, x.f2, x.f5, x.f6.f0, x.f6.f1, x.f6.f2, x.f6.f3, [], x.f7) := by
  unfold fitF at h
  rw [Bool.and_eq_true, Bool.and_eq_true, List.all_eq_true] at h
  obtain ⟨k1, h1⟩ := qz5 k x.f6 h.1
  obtain ⟨k2, h2⟩ := copies_id x.f7 (of_decide_eq_true h.2.1) (fun y hy => qz5 k y (h.2.2 y hy))
  refine ⟨k1 + k2, fun m hm => ?_⟩
  rw [qb3.f, zf0 (f := fun k => qar.f k x.f6.f0 x.f6.f1 x.f6.f2 x.f6.f3) (fun k => qar.mono _ _ _ _ _) h1 m (by omega), zf0 (f := fun k => jg.f k x.f7) (fun k => jg.mono _ _) h2 m (by omega)]
  rfl
theorem fitF_nodes (k : Nat) (l : List S36) (h : l.all (fitF k) = true) : ∃ m, ∀ i : Nat, i < l.length → qb3.f m (qz l i).f0 (qz l i).f1 (qz l i).f2 (qz l i).f3 (qz l i).f4 (qz l i).f5 (qz l i).f6.f0 (qz l i).f6.f1 (qz l i).f6.f2 (qz l i).f6.f3 (qz l i).f7 = some ((qz l i).f0, (qz l i).f1, (qz l i).f2, (qz l i).f5, (qz l i).f6.f0, (qz l i).f6.f1, (qz l i).f6.f2, (qz l i).f6.f3, [], (qz l i).f7) := by
  rw [List.all_eq_true] at h
  have hb : ∃ m0, ∀ x ∈ l, ∀ m, m0 ≤ m → qb3.f m x.f0 x.f1 x.f2 x.f3 x.f4 x.f5 x.f6.f0 x.f6.f1 x.f6.f2 x.f6.f3 x.f7 = some (x.f0, x.f1, x.f2, x.f5, x.f6.f0, x.f6.f1, x.f6.f2, x.f6.f3, [], x.f7) := by
    induction l with
    | nil => exact ⟨0, fun y hy => by cases hy⟩
    | cons a t ih =>
      obtain ⟨k1, h1⟩ := fitF_node k a (h a (by simp))
      obtain ⟨k2, h2⟩ := ih (fun y hy => h y (by simp [hy]))
      refine ⟨k1 + k2, fun y hy m hm => ?_⟩
      rcases List.mem_cons.1 hy with rfl | hy
      · exact h1 m (by omega)
      · exact h2 y hy m (by omega)
  obtain ⟨m0, h0⟩ := hb
  refine ⟨m0, fun i hi => ?_⟩
  have hrd : qz l (i : Int) = l[i] := by simp [qz, hi]
  rw [hrd]
  exact h0 _ (List.getElem_mem hi) _ (Nat.le_refl _)
def qbu.f (k : Nat) (l0 : List S36) : Option (Int × Int × Int × ByteArray × Int × Int × ByteArray × (List (S27)) × (List (S30)) × (List (S27)) × Bool) :=
  if l0.length ≤ 900000000000 then if l0.all (fitF k) = true then some ((qch l0).1.f0, (qch l0).1.f1, (qch l0).1.f2, (qch l0).1.f3, (qch l0).1.f4.f0, (qch l0).1.f4.f1, (qch l0).1.f4.f2, (qch l0).1.f4.f3, (qch l0).1.f5, (qch l0).1.f6, (qch l0).2) else none else none
theorem qbu.mono : ∀ a0 k, LeO (qbu.f k a0) (qbu.f (k + 1) a0) := by
  intro l k
  unfold qbu.f
  by_cases h : l.length ≤ 900000000000
  · rw [if_pos h, if_pos h]
    by_cases h2 : l.all (fitF k) = true
    · rw [if_pos h2, if_pos]
      · exact LeO.refl _
      · rw [List.all_eq_true] at h2 ⊢
        exact fun x hx => fitF_up k x (h2 x hx)
    · rw [if_neg h2]
      exact LeO.none _
  · rw [if_neg h, if_neg h]
    exact LeO.none _
theorem qbu.calls (k : Nat) (A0 : Option Addr) (c0 : Nat) (l0 : List (S36)) (r1 : Int) (r2 : Int) (r3 : Int) (r4 : ByteArray) (r5 : Int) (r6 : Int) (r7 : ByteArray) (r8 : List (S27)) (r9 : List (S30)) (r10 : List (S27)) (r11 : Bool) (w : World) (hr0 : Kd.C k36 w A0 l0.length l0) (hc0 : l0.length ≤ c0) (h : qbu.f k l0 = some (r1, r2, r3, r4, r5, r6, r7, r8, r9, r10, r11)) :
    Calls Tryd.prog 41 #[.slice A0 l0.length c0] w fun e w' => ∃ v7_ v8_ v9_ : Value, e = .returned (.tuple #[.agg #[.int .i64 r1, .int .i64 r2, .int .i64 r3, .string r4, .int .i64 r5, .int .i64 r6, .string r7, v7_, v8_, v9_], .bool r11]) ∧ Kd.V k27 27 w' w.heap.size (fun k_ => (w.heap.size ≤ k_)) v7_ r8 ∧ Kd.V k30 30 w' w.heap.size (fun k_ => (w.heap.size ≤ k_)) v8_ r9 ∧ Kd.V k27 27 w' w.heap.size (fun k_ => (w.heap.size ≤ k_)) v9_ r10 ∧ Below w.heap.size w w' := by
  unfold qbu.f at h
  split at h
  · rename_i hl
    split at h
    · rename_i hf
      obtain ⟨m, hm⟩ := fitF_nodes k l0 hf
      injection h with h
      simp only [Prod.mk.injEq] at h
      obtain ⟨rfl, rfl, rfl, rfl, rfl, rfl, rfl, rfl, rfl, rfl, rfl⟩ := h
      exact back_walk m A0 c0 l0 w hr0 hc0 hl hm
    · cases h
  · cases h
end Go.Proofs.YtpgkhmdfddejfaaDoor.PV
end
