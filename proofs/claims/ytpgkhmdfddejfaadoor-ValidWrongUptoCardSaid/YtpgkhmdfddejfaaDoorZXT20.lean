import Derived.Test.YtpgkhmdfddejfaaDoorZXPVx0
section
namespace Go.Proofs.YtpgkhmdfddejfaaDoor.PV
open Go.RowKit Go.Proofs.YtpgkhmdfddejfaaDoorW.PrintWords Go.Proofs.YtpgkhmdfddejfaaDoorW.PrintLast Go.Proofs.YtpgkhmdfddejfaaDoorW.PrintMore
set_option linter.unusedVariables false
set_option linter.unusedSimpArgs false
theorem qdo {W : World} {g : Nat} {v0 v1 v2 v3 v4 v5 v6 v7 v8 v9 : Value} {t : TypeId} (h : W.heap[g]? = some (.cells #[v0, v1, v2, v3, v4, v5, v6, v7, v8, v9] t (0, 0))) :
    W.cell? ⟨g, 0, none⟩ = some v0 ∧ W.cell? ⟨g, 1, none⟩ = some v1 ∧ W.cell? ⟨g, 2, none⟩ = some v2 ∧ W.cell? ⟨g, 3, none⟩ = some v3 ∧ W.cell? ⟨g, 4, none⟩ = some v4 ∧ W.cell? ⟨g, 5, none⟩ = some v5 ∧ W.cell? ⟨g, 6, none⟩ = some v6 ∧ W.cell? ⟨g, 7, none⟩ = some v7 ∧ W.cell? ⟨g, 8, none⟩ = some v8 ∧ W.cell? ⟨g, 9, none⟩ = some v9 :=
  ⟨qb h 0, qb h 1, qb h 2, qb h 3, qb h 4, qb h 5, qb h 6, qb h 7, qb h 8, qb h 9⟩
theorem qoj {W : World} {g : Nat} {cs : Array Value} {t : TypeId} (h : W.heap[g]? = some (.cells cs t (0, 0))) :
    W.frozen? ⟨g, 0, none⟩ = false ∧ W.frozen? ⟨g, 1, none⟩ = false ∧ W.frozen? ⟨g, 2, none⟩ = false ∧ W.frozen? ⟨g, 3, none⟩ = false ∧ W.frozen? ⟨g, 4, none⟩ = false ∧ W.frozen? ⟨g, 5, none⟩ = false ∧ W.frozen? ⟨g, 6, none⟩ = false ∧ W.frozen? ⟨g, 7, none⟩ = false ∧ W.frozen? ⟨g, 8, none⟩ = false ∧ W.frozen? ⟨g, 9, none⟩ = false :=
  ⟨qa h 0, qa h 1, qa h 2, qa h 3, qa h 4, qa h 5, qa h 6, qa h 7, qa h 8, qa h 9⟩
def qcl (w : World) (ok : Nat → Prop) (r8 : List S27) (r9 : List S30) (r10 : List S27) (v7 v8 v9 : Value) : Prop :=
  Kd.V k27 27 w w.heap.size ok v7 r8 ∧ Kd.V k30 30 w w.heap.size ok v8 r9 ∧ Kd.V k27 27 w w.heap.size ok v9 r10
theorem qcl.of {w : World} {b : Nat} {ok : Nat → Prop} {r8 : List S27} {r9 : List S30} {r10 : List S27} {v7 v8 v9 : Value} (h7 : Kd.V k27 27 w b ok v7 r8) (h8 : Kd.V k30 30 w b ok v8 r9) (h9 : Kd.V k27 27 w b ok v9 r10) : qcl w ok r8 r9 r10 v7 v8 v9 := ⟨h7, h8, h9⟩
theorem qcl.to {w : World} {ok : Nat → Prop} {r8 : List S27} {r9 : List S30} {r10 : List S27} {v7 v8 v9 : Value} (h : qcl w ok r8 r9 r10 v7 v8 v9) (b : Nat) : Kd.V k27 27 w b ok v7 r8 ∧ Kd.V k30 30 w b ok v8 r9 ∧ Kd.V k27 27 w b ok v9 r10 := h
theorem qcl.step {w w1 : World} {ok : Nat → Prop} {r8 : List S27} {r9 : List S30} {r10 : List S27} {v7 v8 v9 : Value} (h : qcl w ok r8 r9 r10 v7 v8 v9) (hm : ∀ k, ok k → k < w.heap.size → w1.heap[k]? = w.heap[k]?) : qcl w1 ok r8 r9 r10 v7 v8 v9 :=
  ⟨Kd.zin h.1 hm, Kd.zin h.2.1 hm, Kd.zin h.2.2 hm⟩
theorem qcl.below {w w1 : World} {ok : Nat → Prop} {r8 : List S27} {r9 : List S30} {r10 : List S27} {v7 v8 v9 : Value} (h : qcl w ok r8 r9 r10 v7 v8 v9) (hb : Below w.heap.size w w1) : qcl w1 ok r8 r9 r10 v7 v8 v9 :=
  h.step (fun k _ hk => hb.block k hk)
theorem qcl.mono {w : World} {ok ok' : Nat → Prop} {r8 : List S27} {r9 : List S30} {r10 : List S27} {v7 v8 v9 : Value} (h : qcl w ok r8 r9 r10 v7 v8 v9) (hb : ∀ k, ok k → ok' k) : qcl w ok' r8 r9 r10 v7 v8 v9 :=
  ⟨Kd.qz0 h.1 hb, Kd.qz0 h.2.1 hb, Kd.qz0 h.2.2 hb⟩
theorem qcl.open_ {w : World} {ok : Nat → Prop} {r8 : List S27} {r9 : List S30} {r10 : List S27} {v7 v8 v9 : Value} (h : qcl w ok r8 r9 r10 v7 v8 v9) :
    ∃ A7 c7 A8 c8 A9 c9, v7 = .slice A7 r8.length c7 ∧ v8 = .slice A8 r9.length c8 ∧ v9 = .slice A9 r10.length c9 := by
  obtain ⟨⟨A7, c7, h7, _⟩, ⟨A8, c8, h8, _⟩, ⟨A9, c9, h9, _⟩⟩ := h
  exact ⟨A7, c7, A8, c8, A9, c9, h7, h8, h9⟩
theorem qcl.far10 {w : World} {ok : Nat → Prop} {g : Nat} (hg : ¬ ok g) {r8 : List S27} {r9 : List S30} {r10 : List S27} {v7 v8 v9 : Value} (h : qcl w ok r8 r9 r10 v7 v8 v9) (u0 u1 u2 u3 u4 u5 u6 u7 u8 u9 : Value) :
    qcl ((((((((((w.setCell ⟨g, 0, none⟩ u0).setCell ⟨g, 1, none⟩ u1).setCell ⟨g, 2, none⟩ u2).setCell ⟨g, 3, none⟩ u3).setCell ⟨g, 4, none⟩ u4).setCell ⟨g, 5, none⟩ u5).setCell ⟨g, 6, none⟩ u6).setCell ⟨g, 7, none⟩ u7).setCell ⟨g, 8, none⟩ u8).setCell ⟨g, 9, none⟩ u9) ok r8 r9 r10 v7 v8 v9 :=
  h.step (fun k hk _ => qdy (w := w) [u0, u1, u2, u3, u4, u5, u6, u7, u8, u9] 0 k (fun e => hg (e ▸ hk)))
theorem qcl.nil (w : World) (ok : Nat → Prop) : qcl w ok [] [] [] (.slice none 0 0) (.slice none 0 0) (.slice none 0 0) := ⟨Kd.qeh _ _ _ _ _, Kd.qeh _ _ _ _ _, Kd.qeh _ _ _ _ _⟩
theorem qge {B g : Nat} {a w : World} (hb : B ≤ g) (h : Below B a w) (v0 v1 v2 v3 v4 v5 v6 v7 v8 v9 : Value) : Below B a ((((((((((w.setCell ⟨g, 0, none⟩ v0).setCell ⟨g, 1, none⟩ v1).setCell ⟨g, 2, none⟩ v2).setCell ⟨g, 3, none⟩ v3).setCell ⟨g, 4, none⟩ v4).setCell ⟨g, 5, none⟩ v5).setCell ⟨g, 6, none⟩ v6).setCell ⟨g, 7, none⟩ v7).setCell ⟨g, 8, none⟩ v8).setCell ⟨g, 9, none⟩ v9) :=
  ((((((((((h.setCell hb _).setCell hb _).setCell hb _).setCell hb _).setCell hb _).setCell hb _).setCell hb _).setCell hb _).setCell hb _).setCell hb _)
structure ql7 (w : World) (ok : Nat → Prop) (g4 : Nat) (cs : Array Value) (n7 : List S27) (n8 : List S30) (n9 : List S27) (v7 v8 v9 : Value) (W : World) : Prop where
  node : qcl W ok n7 n8 n9 v7 v8 v9
  b2 : W.heap[w.heap.size]? = some (.cells #[.int .i64 0, .int .i64 0, .int .i64 0, .string ⟨#[]⟩, .int .i64 0, .int .i64 0, .string ⟨#[]⟩, .slice none 0 0, .slice none 0 0, .slice none 0 0] 30 (0, 0))
  b4 : W.heap[g4]? = some (.cells cs 30 (0, 0))
  bel : Below w.heap.size w W
theorem ql7.step {w : World} {ok : Nat → Prop} {g4 : Nat} {cs : Array Value} {n7 : List S27} {n8 : List S30} {n9 : List S27} {v7 v8 v9 : Value} {W W1 : World} (h : ql7 w ok g4 cs n7 n8 n9 v7 v8 v9 W) (hb : Below W.heap.size W W1) : ql7 w ok g4 cs n7 n8 n9 v7 v8 v9 W1 :=
  ⟨h.node.below hb, (hb.block _ (qax h.b2)).trans h.b2, (hb.block _ (qax h.b4)).trans h.b4, jd h.bel h.bel.size hb⟩
theorem ql7.start {w w2 : World} {ok : Nat → Prop} {n7 : List S27} {n8 : List S30} {n9 : List S27} {v7 v8 v9 : Value} (cs : Array Value) {o : Obj} (ho : o = .cells #[.int .i64 0, .int .i64 0, .int .i64 0, .string ⟨#[]⟩, .int .i64 0, .int .i64 0, .string ⟨#[]⟩, .slice none 0 0, .slice none 0 0, .slice none 0 0] 30)
    (hn : qcl w2 ok n7 n8 n9 v7 v8 v9) (hb : Below (w.alloc o).heap.size (w.alloc o) w2) : ql7 w ok w2.heap.size cs n7 n8 n9 v7 v8 v9 (w2.alloc (.cells cs 30)) := by
  subst ho
  exact ⟨hn.below (qg (Below.refl _ _) _), qi ((hb.block _ (by simp)).trans (qmi w _)) _, qmi w2 _, jd (jd (qg (Below.refl _ _) _) (by simp) hb) (by have := hb.size; simp at this; omega) (qg (Below.refl _ _) _)⟩
theorem qcl.reads {w : World} {ok : Nat → Prop} {n7 : List S27} {n8 : List S30} {n9 : List S27} {A7 A8 A9 : Option Addr} {c7 c8 c9 : Nat} (h : qcl w ok n7 n8 n9 (.slice A7 n7.length c7) (.slice A8 n8.length c8) (.slice A9 n9.length c9)) :
    Kd.C k27 w A7 n7.length n7 ∧ n7.length ≤ c7 ∧ Kd.C k30 w A8 n8.length n8 ∧ n8.length ≤ c8 ∧ Kd.C k27 w A9 n9.length n9 ∧ n9.length ≤ c9 := by
  obtain ⟨h7, h8, h9⟩ := h
  exact ⟨(Kd.qoi h7).2.2, (Kd.qoi h7).2.1, (Kd.qoi h8).2.2, (Kd.qoi h8).2.1, (Kd.qoi h9).2.2, (Kd.qoi h9).2.1⟩
theorem ql7.reads {w : World} {ok : Nat → Prop} {g4 : Nat} {cs : Array Value} {n7 : List S27} {n8 : List S30} {n9 : List S27} {A7 A8 A9 : Option Addr} {c7 c8 c9 : Nat} {W : World} (h : ql7 w ok g4 cs n7 n8 n9 (.slice A7 n7.length c7) (.slice A8 n8.length c8) (.slice A9 n9.length c9) W) :
    Kd.C k27 W A7 n7.length n7 ∧ n7.length ≤ c7 ∧ Kd.C k30 W A8 n8.length n8 ∧ n8.length ≤ c8 ∧ Kd.C k27 W A9 n9.length n9 ∧ n9.length ≤ c9 := by
  exact h.node.reads
end Go.Proofs.YtpgkhmdfddejfaaDoor.PV
end
