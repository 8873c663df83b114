import Derived.Test.YtpgkhmdfddejfaaDoorZTT5
import Derived.Test.YtpgkhmdfddejfaaDoorZTPVx0
section
namespace Go.Proofs.YtpgkhmdfddejfaaDoor.PV
open Go.RowKit Go.Proofs.YtpgkhmdfddejfaaDoorW.PrintWords Go.Proofs.YtpgkhmdfddejfaaDoorW.PrintLast Go.Proofs.YtpgkhmdfddejfaaDoorW.PrintMore
set_option linter.unusedVariables false
set_option linter.unusedSimpArgs false
mutual
/-- The reference's walk: the node at a place, and the place behind it. -/
def rb (l : List S36) : Nat → Int → Int → Option (S30 × Int)
  | 0, _, _ => none
  | f + 1, a, p =>
    if (qbc l a).f4 ≠ p ∨ (qbc l a).f3 ≤ a ∨ (qbc l a).f3 > l.length then some (qdi (qbc l a), -1)
    else qdt l f a (qdi (qbc l a)) (a + 1)
def qdt (l : List S36) : Nat → Int → S30 → Int → Option (S30 × Int)
  | 0, _, _, _ => none
  | f + 1, a, n, t =>
    if t < (qbc l a).f3 then
      (rb l f t a).bind fun q => if q.2 < 0 ∨ q.2 > (qbc l a).f3 then some (n, -1) else qdt l f a { n with f5 := n.f5 ++ [q.1] } q.2
    else some (n, t)
end
theorem rbLoop_lt (l : List S36) (f : Nat) : (∀ a p n r, rb l f a p = some (n, r) → r < 0 ∨ a < r) ∧ ∀ a m t n r, a < t → qdt l f a m t = some (n, r) → r < 0 ∨ a < r := by
  induction f with
  | zero => exact ⟨fun a p n r h => by simp [rb] at h, fun a m t n r _ h => by simp [qdt] at h⟩
  | succ f ih =>
    refine ⟨fun a p n r h => ?_, fun a m t n r ht h => ?_⟩
    · rw [rb] at h
      split at h
      · injection h with h; injection h with _ h; omega
      · exact ih.2 _ _ _ _ _ (by omega) h
    · rw [qdt] at h
      split at h
      · cases hq : rb l f t a with
        | none => rw [hq] at h; simp at h
        | some q =>
          rw [hq] at h
          simp only [Option.bind_some] at h
          split at h
          · injection h with h; injection h with _ h; omega
          · have := ih.1 _ _ _ _ hq
            exact ih.2 _ _ _ _ _ (by omega) h
      · injection h with h; injection h with _ h; omega
end Go.Proofs.YtpgkhmdfddejfaaDoor.PV
end
section
namespace Go.Proofs.YtpgkhmdfddejfaaDoor.PV
open Go.RowKit Go.Proofs.YtpgkhmdfddejfaaDoorW.PrintWords Go.Proofs.YtpgkhmdfddejfaaDoorW.PrintLast Go.Proofs.YtpgkhmdfddejfaaDoorW.PrintMore
set_option linter.unusedVariables false
set_option linter.unusedSimpArgs false
def KidsRow (base : Nat) (Q : Nat → Prop) (W : World) (ks : List S30) (v : Value) : Prop :=
  ∃ inner, W.ownsRow base 30 10 v ks.length inner ∧ Reps (fun y c => Kd.FK k30 W (fun k => (Q k ∨ base ≤ k) ∧ v.ownBlock ≠ some k) y c) 10 ks inner
end Go.Proofs.YtpgkhmdfddejfaaDoor.PV
end
section
namespace Go.Proofs.YtpgkhmdfddejfaaDoor.PV
open Go.RowKit Go.Proofs.YtpgkhmdfddejfaaDoorW.PrintWords Go.Proofs.YtpgkhmdfddejfaaDoorW.PrintLast Go.Proofs.YtpgkhmdfddejfaaDoorW.PrintMore
set_option linter.unusedVariables false
set_option linter.unusedSimpArgs false
structure BkJ (l : List S36) (Q : Nat → Prop) (w : World) (A9 A10 : Option Addr) (c9 c10 : Nat) (a : Int) (n : S30) (r : Int) (f : Nat) (k : Nat) (t : Int) (ks : List S30) (v : Value) (wr : World) : Prop where
  fuel : k ≤ f
  go : qdt l k a { qdi (qbc l a) with f5 := ks } t = some (n, r)
  at0 : a < t
  count : (ks.length : Int) < t - a
  top : t ≤ l.length
  kids : KidsRow (w.heap.size + 3) Q wr ks v
  g6 : wr.heap[w.heap.size]? = some (.cells #[.int .i64 0, .int .i64 0, .int .i64 0, .string ⟨#[]⟩, .int .i64 0, .int .i64 0, .string ⟨#[]⟩, .slice none 0 0, .slice none 0 0, .slice none 0 0] 30)
  g8 : wr.heap[w.heap.size + 1]? = some (.cells #[.int .i64 (qbc l a).f0, .int .i64 (qbc l a).f1, .int .i64 (qbc l a).f2, .int .i64 (qbc l a).f3, .int .i64 (qbc l a).f4, .string (qbc l a).f5, .int .i64 (qbc l a).f6.f0, .int .i64 (qbc l a).f6.f1, .string (qbc l a).f6.f2, .slice A9 (qbc l a).f6.f3.length c9, .slice A10 (qbc l a).f7.length c10] 36)
  g9 : wr.heap[w.heap.size + 1 + 1]? = some (.cells #[.int .i64 (qbc l a).f0, .int .i64 (qbc l a).f1, .int .i64 (qbc l a).f2, .string (qbc l a).f5, .int .i64 (qbc l a).f6.f0, .int .i64 (qbc l a).f6.f1, .string (qbc l a).f6.f2, .slice A9 (qbc l a).f6.f3.length c9, v, .slice A10 (qbc l a).f7.length c10] 30)
  below : Below w.heap.size w wr
  size : w.heap.size + 3 ≤ wr.heap.size
end Go.Proofs.YtpgkhmdfddejfaaDoor.PV
end
