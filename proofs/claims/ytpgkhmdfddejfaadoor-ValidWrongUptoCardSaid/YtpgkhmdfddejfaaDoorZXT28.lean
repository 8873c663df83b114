import Derived.Test.YtpgkhmdfddejfaaDoorZXT22
import Derived.Test.YtpgkhmdfddejfaaDoorZXPVx0
import Derived.Test.YtpgkhmdfddejfaaDoorZXPVx9
import Derived.Test.YtpgkhmdfddejfaaDoorZXPVx13
import Derived.Test.YtpgkhmdfddejfaaDoorZXPVx17
import Derived.Test.YtpgkhmdfddejfaaDoorZXT13
import Derived.Test.YtpgkhmdfddejfaaDoorZXPVx16
section
namespace Go.Proofs.YtpgkhmdfddejfaaDoor.PV
open Go.RowKit Go.Proofs.YtpgkhmdfddejfaaDoorW.PrintWords Go.Proofs.YtpgkhmdfddejfaaDoorW.PrintLast Go.Proofs.YtpgkhmdfddejfaaDoorW.PrintMore
set_option linter.unusedVariables false
set_option linter.unusedSimpArgs false
def qe6 (w : World) (n : S30) (A7 : Option Addr) (c7 : Nat) (A8 : Option Addr) (c8 : Nat) (A9 : Option Addr) (c9 : Nat) : Prop := q6x w w n A7 c7 A8 c8 A9 c9
theorem qe6.reads {w W : World} {n : S30} {A7 : Option Addr} {c7 : Nat} {A8 : Option Addr} {c8 : Nat} {A9 : Option Addr} {c9 : Nat} (h : qe6 w n A7 c7 A8 c8 A9 c9) (hb : Below w.heap.size w W) :
    (Kd.C k27 W A7 n.f4.f3.length n.f4.f3 ∧ n.f4.f3.length ≤ c7) ∧ (Kd.C k30 W A8 n.f5.length n.f5 ∧ n.f5.length ≤ c8) ∧ (Kd.C k27 W A9 n.f6.length n.f6 ∧ n.f6.length ≤ c9) := by
  obtain ⟨h7, f7, h8, f8, h9, f9⟩ := h
  have hm : ∀ k, k < w.heap.size → k < w.heap.size → W.heap[k]? = w.heap[k]? := fun k hk _ => hb.block k hk
  exact ⟨⟨Kd.zgv (Kd.qes f7 hm), h7⟩, ⟨Kd.zgv (Kd.qes f8 hm), h8⟩, ⟨Kd.zgv (Kd.qes f9 hm), h9⟩⟩
theorem qe6.step {w W : World} {n : S30} {A7 : Option Addr} {c7 : Nat} {A8 : Option Addr} {c8 : Nat} {A9 : Option Addr} {c9 : Nat} (h : qe6 w n A7 c7 A8 c8 A9 c9) (hb : Below w.heap.size w W) : qe6 W n A7 c7 A8 c8 A9 c9 := by
  obtain ⟨h7, f7, h8, f8, h9, f9⟩ := h
  have hm : ∀ k, k < w.heap.size → k < w.heap.size → W.heap[k]? = w.heap[k]? := fun k hk _ => hb.block k hk
  have ho : ∀ k, k < w.heap.size → k < W.heap.size := fun k hk => Nat.lt_of_lt_of_le hk hb.size
  exact ⟨h7, Kd.qed (Kd.qes f7 hm) ho, h8, Kd.qed (Kd.qes f8 hm) ho, h9, Kd.qed (Kd.qes f9 hm) ho⟩
set_option maxHeartbeats 4000000 in
set_option maxRecDepth 100000 in
theorem qfi (d : Nat) (n : S30) (w : World) (A7 : Option Addr) (c7 : Nat) (A8 : Option Addr) (c8 : Nat) (A9 : Option Addr) (c9 : Nat) (hfit : qdl d n) (hcnt : cnt d n ≤ 2000000000) (hE : qe6 w n A7 c7 A8 c8 A9 c9) :
    Calls Tryd.prog 12 #[.agg #[.int .i64 n.f0, .int .i64 n.f1, .int .i64 n.f2, .string n.f3, .int .i64 n.f4.f0, .int .i64 n.f4.f1, .string n.f4.f2, .slice A7 n.f4.f3.length c7, .slice A8 n.f5.length c8, .slice A9 n.f6.length c9]] w
      fun e w' => ∃ A c, e = .returned (.slice A (yu d [] n (-1)).length c) ∧ Kd.N k36 36 w' w.heap.size (fun _ => True) (.slice A (yu d [] n (-1)).length c) (yu d [] n (-1)) ∧ Below w.heap.size w w' := by
  have qwm := Tryd.underlying30
  have HF := qf.mk (And.intro hfit (show ([] : List S36).length + cnt d n ≤ 2000000000 by simp; omega))
  have HE := qf.mk hE
  clear hfit hcnt hE
  go_enter Tryd.func12, Tryd.ntmps12
  go_wp2_with (go_at_call 20; refine (flat_walk w d n [] (-1) (.slice none 0 0) _ A7 c7 A8 c8 A9 c9 HF.out.1 HF.out.2 (qg (Below.refl _ _) _) (by simp) (Kd.zox _ _ _ _ _) (q6x.step HE.out (Below.refl _ _) (qg (Below.refl _ _) _))).mono ?_; rintro e w1 ⟨v1, rfl, hN1, hB1, hg1, qji⟩; obtain ⟨A1, c1, rfl⟩ := Kd.qwu hN1; have HN1 := qf.mk hN1; have HB1 := qf.mk hB1; clear hN1 hB1 hg1 qji)
  go_ret
  exact ⟨A1, c1, rfl, HN1.out, HB1.out⟩
end Go.Proofs.YtpgkhmdfddejfaaDoor.PV
end
section
namespace Go.Proofs.YtpgkhmdfddejfaaDoor.PV
open Go.RowKit Go.Proofs.YtpgkhmdfddejfaaDoorW.PrintWords Go.Proofs.YtpgkhmdfddejfaaDoorW.PrintLast Go.Proofs.YtpgkhmdfddejfaaDoorW.PrintMore
set_option linter.unusedVariables false
set_option linter.unusedSimpArgs false
theorem qgf {d : Nat} (H : ∀ (l : List S36) (n : S30) (p : Int) (j : Nat), j < l.length → (yu d l n p)[j]? = l[j]?) (l : List S36) (n : S30) (p : Int) (i : Nat) :
    ∀ r, i + r ≤ n.f5.length → ∀ j, j < (qat d l n p i).length → (qat d l n p (i + r))[j]? = (qat d l n p i)[j]? := by
  intro r
  induction r with
  | zero => intro _ j _; rfl
  | succ r ih =>
    intro hr j hj
    rw [← Nat.add_assoc, qdc d l n p (i + r) (by omega), H _ _ _ _ ?_, ih (by omega) j hj]
    have h1 := qe4 (cnt d) (n.f5.take (i + r)) i
    rw [List.take_take, Nat.min_eq_left (by omega)] at h1
    rw [qa8] at hj ⊢
    omega
theorem qjp (d : Nat) (l : List S36) (n : S30) (p : Int) : qat d l n p 0 = l ++ [cellOf n p] := by simp [qat]
theorem ql4 : ∀ (d : Nat) (l : List S36) (n : S30) (p : Int) (j : Nat), j < l.length → (yu d l n p)[j]? = l[j]?
  | 0, _, _, _, _, _ => rfl
  | d + 1, l, n, p, j, hj => by
    rw [qdp, qk8, List.getElem?_set_ne (by omega)]
    have h := qgf (ql4 d) l n p 0 n.f5.length (by omega) j (by rw [qa8]; omega)
    rw [Nat.zero_add] at h
    rw [h, qjp, List.getElem?_append_left hj]
theorem qkq {L : List S36} {a : Nat} {x : S36} (h : L[a]? = some x) : qz L (a : Int) = x := by
  show L.getD (Int.toNat (a : Int)) z36 = x
  rw [Int.toNat_natCast, List.getD_eq_getElem?_getD, h]
  rfl
theorem qle (d : Nat) (l : List S36) (n : S30) (p : Int) : (qat d l n p n.f5.length)[l.length]? = some (cellOf n p) := by
  have h := qgf (ql4 d) l n p 0 n.f5.length (by omega) l.length (by rw [qa8]; omega)
  rw [Nat.zero_add] at h
  rw [h, qjp, List.getElem?_append_right (Nat.le_refl _)]
  simp
theorem qtn (d : Nat) (l : List S36) (n : S30) (p : Int) : (yu (d + 1) l n p)[l.length]? = some { (cellOf n p) with f3 := ((l.length + cnt (d + 1) n : Nat) : Int) } := by
  rw [← qfa (d + 1) l n p, qdp, qk8, qkq (qle d l n p), List.getElem?_set_self (by rw [qa8]; omega), List.length_set]
theorem zf3 : ∀ (d : Nat) (n : S30) (l : List S36) (p : Int) (L : List S36), qdl d n → (∀ j, l.length ≤ j → j < l.length + cnt d n → L[j]? = (yu d l n p)[j]?) → l.length + cnt d n ≤ L.length →
    ∀ f, 2 * cnt d n ≤ f → rb L f l.length p = some (n, ((l.length + cnt d n : Nat) : Int)) := by
  intro d
  induction d with
  | zero => intro n l p L h; exact h.elim
  | succ d ih =>
    intro n l p L hfit hL hlen f hf
    have hown := (hL l.length (Nat.le_refl _) (by rw [cnt]; omega)).trans (qtn d l n p)
    have hrd := qkq hown
    rw [cnt] at hf
    obtain ⟨f, rfl⟩ : ∃ g, f = g + 1 := ⟨f - 1, by omega⟩
    have hc : cnt (d + 1) n = 1 + (n.f5.map (cnt d)).sum := by rw [cnt]
    rw [rb, hrd, if_neg (by
      show ¬ (p ≠ p ∨ ((l.length + cnt (d + 1) n : Nat) : Int) ≤ (l.length : Int) ∨ ((l.length + cnt (d + 1) n : Nat) : Int) > (L.length : Int))
      omega)]
    have loop : ∀ r i, i + r = n.f5.length → ∀ g, 2 * ((n.f5.map (cnt d)).sum - ((n.f5.take i).map (cnt d)).sum) + 1 ≤ g →
        qbw L g l.length { n with f5 := n.f5.take i } ((l.length + 1 + ((n.f5.take i).map (cnt d)).sum : Nat) : Int) = some (n, ((l.length + cnt (d + 1) n : Nat) : Int)) := by
      intro r
      induction r with
      | zero =>
        intro i hi g hg
        obtain rfl : i = n.f5.length := by omega
        obtain ⟨g, rfl⟩ : ∃ k, g = k + 1 := ⟨g - 1, by omega⟩
        rw [qbw, hrd, List.take_length, if_neg (by
          show ¬ (((l.length + 1 + (n.f5.map (cnt d)).sum : Nat) : Int) < ((l.length + cnt (d + 1) n : Nat) : Int))
          omega), hc, ← Nat.add_assoc]
        cases n
        rfl
      | succ r ihr =>
        intro i hi g hg
        obtain ⟨g, rfl⟩ : ∃ k, g = k + 1 := ⟨g - 1, by omega⟩
        have hlt : i < n.f5.length := by omega
        have hs := qfj (cnt d) n.f5 i hlt
        have hs2 := qe4 (cnt d) n.f5 (i + 1)
        have hk := hfit.2.2.2.1 _ (List.getElem_mem hlt)
        have hpos : 1 ≤ cnt d n.f5[i] := by
          cases d with
          | zero => exact hk.elim
          | succ d => rw [cnt]; omega
        have hul := qa8 d l n p i
        have hkid := ih n.f5[i] (qat d l n p i) (l.length : Int) L hk (fun j h1 h2 => by
          rw [hul] at h1 h2
          rw [hL j (by omega) (by omega), qdp, qk8, List.getElem?_set_ne (by omega), ← qdc d l n p i hlt]
          have h := qgf (ql4 d) l n p (i + 1) (n.f5.length - (i + 1)) (by omega) j (by rw [qa8]; omega)
          rwa [show i + 1 + (n.f5.length - (i + 1)) = n.f5.length by omega] at h) (by rw [hul]; omega) g (by omega)
        rw [hul] at hkid
        rw [qbw, hrd, if_pos (by
          show ((l.length + 1 + ((n.f5.take i).map (cnt d)).sum : Nat) : Int) < ((l.length + cnt (d + 1) n : Nat) : Int)
          omega), hkid, Option.bind_some, if_neg (by
          show ¬ (((l.length + 1 + ((n.f5.take i).map (cnt d)).sum + cnt d n.f5[i] : Nat) : Int) < 0 ∨ ((l.length + 1 + ((n.f5.take i).map (cnt d)).sum + cnt d n.f5[i] : Nat) : Int) > ((l.length + cnt (d + 1) n : Nat) : Int))
          omega)]
        have hnext := ihr (i + 1) (by omega) g (by omega)
        rw [hs, ← Nat.add_assoc, List.take_succ_eq_append_getElem hlt] at hnext
        exact hnext
    have h0 := loop n.f5.length 0 (by omega) f (by simp; omega)
    have e : ((l.length + 1 + ((n.f5.take 0).map (cnt d)).sum : Nat) : Int) = (l.length : Int) + 1 := by simp
    rw [e] at h0
    exact h0
theorem q0t : ∀ (d : Nat) (l : List S36) (n : S30) (p : Int), qdl d n → (∀ y ∈ l, qta y) → ∀ y ∈ yu d l n p, qta y
  | 0, _, _, _, h, _ => h.elim
  | d + 1, l, n, p, h, hl => by
    have hu : ∀ i, i ≤ n.f5.length → ∀ y ∈ qat d l n p i, qta y := by
      intro i
      induction i with
      | zero =>
        intro _ y hy
        rw [qjp, List.mem_append, List.mem_singleton] at hy
        rcases hy with hy | rfl
        · exact hl y hy
        · exact ⟨h.1, h.2.1, h.2.2.2.2⟩
      | succ i ih =>
        intro hi
        rw [qdc d l n p i hi]
        exact q0t d _ _ _ (h.2.2.2.1 _ (List.getElem_mem hi)) (ih (by omega))
    intro y hy
    rw [qdp, qk8] at hy
    rcases List.mem_or_eq_of_mem_set hy with hy | rfl
    · exact hu _ (Nat.le_refl _) y hy
    · rw [qkq (qle d l n p)]
      exact ⟨h.1, h.2.1, h.2.2.2.2⟩
end Go.Proofs.YtpgkhmdfddejfaaDoor.PV
end
section
namespace Go.Proofs.YtpgkhmdfddejfaaDoor.PV
open Go.RowKit Go.Proofs.YtpgkhmdfddejfaaDoorW.PrintWords Go.Proofs.YtpgkhmdfddejfaaDoorW.PrintLast Go.Proofs.YtpgkhmdfddejfaaDoorW.PrintMore
set_option linter.unusedVariables false
set_option linter.unusedSimpArgs false
theorem rb_le {L : List S36} {f g : Nat} (h : f ≤ g) {a p : Int} {q : S30 × Int} (hq : rb L f a p = some q) : rb L g a p = some q := by
  induction h with
  | refl => exact hq
  | step _ ih => exact (zr1 L _).1 _ _ _ ih
theorem rb_flat_only {d : Nat} {n : S30} {l : List S36} {p : Int} {L : List S36} (hfit : qdl d n) (hL : ∀ j, l.length ≤ j → j < l.length + cnt d n → L[j]? = (yu d l n p)[j]?) (hlen : l.length + cnt d n ≤ L.length) {f : Nat} {q : S30 × Int} (h : rb L f l.length p = some q) :
    q = (n, ((l.length + cnt d n : Nat) : Int)) := by
  have h1 := rb_le (Nat.le_max_left f (2 * cnt d n)) h
  have h2 := zf3 d n l p L hfit hL hlen (max f (2 * cnt d n)) (Nat.le_max_right _ _)
  rw [h1] at h2
  injection h2
def Bad (q : S30 × Int) : Prop := q.2 < 0 ∨ ∀ e, okN e q.1 = false
theorem qtj (L : List S36) : ∀ (f : Nat) (a t : Int) (m : S30) (q : S30 × Int), qbw L f a m t = some q → q.2 < 0 ∨ ∃ ks, q.1 = { m with f5 := m.f5 ++ ks }
  | 0, _, _, _, _, h => by simp [qbw] at h
  | f + 1, a, t, m, q, h => by
    rw [qbw] at h
    split at h
    · cases hq : rb L f t a with
      | none => rw [hq] at h; simp at h
      | some k =>
        rw [hq, Option.bind_some] at h
        split at h
        · injection h with h
          exact .inl (by rw [← h]; exact (show (-1 : Int) < 0 by decide))
        · rcases qtj L f a k.2 _ q h with h' | ⟨ks, h'⟩
          · exact .inl h'
          · exact .inr ⟨k.1 :: ks, by rw [h']; simp⟩
    · injection h with h
      exact .inr ⟨[], by rw [← h]; cases m; simp⟩
theorem okN_kid {e : Nat} {m k : S30} (hk : k ∈ m.f5) (h : ∀ e, okN e k = false) : okN e m = false := by
  cases e with
  | zero => rfl
  | succ e =>
    rw [okN]
    have : m.f5.all (okN e) = false := by
      rw [List.all_eq_false]
      exact ⟨k, hk, by rw [h e]; decide⟩
    rw [this, Bool.and_false]
theorem rbLoop_upto {d : Nat} {n : S30} {l : List S36} {p : Int} {L : List S36} {m : S30} (hfit : qdl (d + 1) n) (hlen : l.length + cnt (d + 1) n ≤ L.length)
    (hend : ((l.length + cnt (d + 1) n : Nat) : Int) ≤ (qz L (l.length : Int)).f3) (i : Nat) (hi : i ≤ n.f5.length)
    (hL : ∀ j, l.length < j → j < l.length + 1 + ((n.f5.take i).map (cnt d)).sum → L[j]? = (yu (d + 1) l n p)[j]?) :
    ∀ (f : Nat) (q : S30 × Int), qbw L f l.length { m with f5 := [] } ((l.length : Int) + 1) = some q → ∃ f', qbw L f' l.length { m with f5 := n.f5.take i } ((l.length + 1 + ((n.f5.take i).map (cnt d)).sum : Nat) : Int) = some q := by
  induction i with
  | zero =>
    intro f q h
    refine ⟨f, ?_⟩
    rw [show ((l.length + 1 + ((n.f5.take 0).map (cnt d)).sum : Nat) : Int) = (l.length : Int) + 1 by simp]
    exact h
  | succ i ih =>
    intro f q h
    have hlt : i < n.f5.length := hi
    have hs := qfj (cnt d) n.f5 i hlt
    have hs2 := qe4 (cnt d) n.f5 (i + 1)
    have hc : cnt (d + 1) n = 1 + (n.f5.map (cnt d)).sum := by rw [cnt]
    obtain ⟨g, h⟩ := ih (by omega) (fun j h1 h2 => hL j h1 (by omega)) f q h
    have hk := hfit.2.2.2.1 _ (List.getElem_mem hlt)
    have hpos : 1 ≤ cnt d n.f5[i] := by
      cases d with
      | zero => exact hk.elim
      | succ d => rw [cnt]; omega
    cases g with
    | zero => simp [qbw] at h
    | succ g =>
      rw [qbw, if_pos (by omega)] at h
      cases hq : rb L g ((l.length + 1 + ((n.f5.take i).map (cnt d)).sum : Nat) : Int) l.length with
      | none => rw [hq] at h; simp at h
      | some k =>
        rw [hq, Option.bind_some] at h
        have hul := qa8 d l n p i
        have hkid := rb_flat_only (l := qat d l n p i) (p := (l.length : Int)) (L := L) (n := n.f5[i]) (d := d) hk (fun j h1 h2 => by
          rw [hul] at h1 h2
          rw [hL j (by omega) (by omega), qdp, qk8, List.getElem?_set_ne (by omega), ← qdc d l n p i hlt]
          have h := qgf (ql4 d) l n p (i + 1) (n.f5.length - (i + 1)) (by omega) j (by rw [qa8]; omega)
          rwa [show i + 1 + (n.f5.length - (i + 1)) = n.f5.length by omega] at h) (by rw [hul]; omega) (f := g) (q := k) (by rw [hul]; exact hq)
        rw [hul] at hkid
        rw [hkid, if_neg (by show ¬ (((l.length + 1 + ((n.f5.take i).map (cnt d)).sum + cnt d n.f5[i] : Nat) : Int) < 0 ∨ ((l.length + 1 + ((n.f5.take i).map (cnt d)).sum + cnt d n.f5[i] : Nat) : Int) > (qz L (l.length : Int)).f3); omega)] at h
        refine ⟨g, ?_⟩
        rw [hs, ← Nat.add_assoc, List.take_succ_eq_append_getElem hlt]
        exact h
def Turned (c x : S36) : Prop :=
  (x.f4 = c.f4 ∧ c.f3 < x.f3) ∨ x.f4 ≠ c.f4 ∨ (x.f4 = c.f4 ∧ x.f3 = c.f3 ∧ ∀ e ks, okN e { qcf x with f5 := ks } = false)
theorem rb_turned : ∀ (d : Nat) (n : S30) (l : List S36) (p : Int) (L : List S36) (a : Nat) (x : S36), qdl d n → l.length ≤ a → a < l.length + cnt d n → (∀ j, l.length ≤ j → j < l.length + cnt d n → j ≠ a → L[j]? = (yu d l n p)[j]?) →
    L[a]? = some x → (∀ c, (yu d l n p)[a]? = some c → Turned c x) → l.length + cnt d n ≤ L.length → (∀ y, L[l.length + cnt d n]? = some y → y.f4 < l.length) → ∀ (f : Nat) (q : S30 × Int), rb L f l.length p = some q → Bad q := by
  intro d
  induction d with
  | zero => intro n l p L a x h; exact h.elim
  | succ d ih =>
    intro n l p L a x hfit ha0 ha1 hL hx hT hlen hnext f q h
    have hc : cnt (d + 1) n = 1 + (n.f5.map (cnt d)).sum := by rw [cnt]
    cases f with
    | zero => simp [rb] at h
    | succ f =>
      rw [rb] at h
      split at h
      · injection h with h
        exact .inl (by rw [← h]; exact (show (-1 : Int) < 0 by decide))
      rename_i hok
      by_cases hal : a = l.length
      · subst hal
        have hrd := qkq hx
        rw [hrd] at h hok
        rcases hT _ (qtn d l n p) with ⟨h4, h3⟩ | h4 | ⟨h4, h3, hbad⟩
        · obtain ⟨g, h⟩ := rbLoop_upto (m := qcf x) hfit hlen (by rw [hrd]; exact Int.le_of_lt h3) n.f5.length (Nat.le_refl _) (fun j h1 h2 => hL j (by omega) (by rw [List.take_length] at h2; omega) (by omega)) f q h
          rw [List.take_length] at h
          have h3' : ((l.length + cnt (d + 1) n : Nat) : Int) < x.f3 := h3
          cases g with
          | zero => simp [qbw] at h
          | succ g =>
            rw [qbw, hrd, if_pos (by omega)] at h
            cases g with
            | zero => simp [rb] at h
            | succ g =>
              rw [rb, if_pos (by
                left
                rw [show l.length + 1 + (n.f5.map (cnt d)).sum = l.length + cnt (d + 1) n by omega]
                intro h5
                have hin : l.length + cnt (d + 1) n < L.length := by omega
                have := hnext _ (List.getElem?_eq_getElem hin)
                rw [qkq (List.getElem?_eq_getElem hin)] at h5
                omega), Option.bind_some, if_pos (.inl (show (-1 : Int) < 0 by decide))] at h
              injection h with h
              exact .inl (by rw [← h]; exact (show (-1 : Int) < 0 by decide))
        · have h4' : x.f4 ≠ p := h4
          exact absurd (.inl h4') hok
        · rcases qtj L f _ _ _ q h with hq | ⟨ks, hq⟩
          · exact .inl hq
          · right
            intro e
            rw [hq]
            exact hbad e _
      · have hown := (hL l.length (Nat.le_refl _) (by omega) (fun e => hal e.symm)).trans (qtn d l n p)
        have hrd := qkq hown
        -- the kid that holds the place
        have key : ∀ (m : S30) i, i ≤ n.f5.length → l.length + 1 + ((n.f5.take i).map (cnt d)).sum ≤ a → ∀ g q, qbw L g l.length { m with f5 := n.f5.take i } ((l.length + 1 + ((n.f5.take i).map (cnt d)).sum : Nat) : Int) = some q → Bad q := by
          intro m i hi
          induction hr : n.f5.length - i generalizing i with
          | zero =>
            intro hia
            obtain rfl : i = n.f5.length := by omega
            rw [List.take_length] at hia
            omega
          | succ r ihr =>
            intro hia g q h
            have hlt : i < n.f5.length := by omega
            have hs := qfj (cnt d) n.f5 i hlt
            have hs2 := qe4 (cnt d) n.f5 (i + 1)
            have hk := hfit.2.2.2.1 _ (List.getElem_mem hlt)
            have hpos : 1 ≤ cnt d n.f5[i] := by
              cases d with
              | zero => exact hk.elim
              | succ d => rw [cnt]; omega
            have hul := qa8 d l n p i
            have hpart : ∀ j, l.length + 1 + ((n.f5.take i).map (cnt d)).sum ≤ j → j < l.length + 1 + ((n.f5.take i).map (cnt d)).sum + cnt d n.f5[i] → (yu (d + 1) l n p)[j]? = (yu d (qat d l n p i) n.f5[i] (l.length : Int))[j]? := by
              intro j h1 h2
              rw [qdp, qk8, List.getElem?_set_ne (by omega), ← qdc d l n p i hlt]
              have h := qgf (ql4 d) l n p (i + 1) (n.f5.length - (i + 1)) (by omega) j (by rw [qa8]; omega)
              rwa [show i + 1 + (n.f5.length - (i + 1)) = n.f5.length by omega] at h
            cases g with
            | zero => simp [qbw] at h
            | succ g =>
              rw [qbw, hrd, if_pos (by show _ < ((l.length + cnt (d + 1) n : Nat) : Int); omega)] at h
              cases hq : rb L g ((l.length + 1 + ((n.f5.take i).map (cnt d)).sum : Nat) : Int) l.length with
              | none => rw [hq] at h; simp at h
              | some k =>
                rw [hq, Option.bind_some] at h
                by_cases hin : a < l.length + 1 + ((n.f5.take i).map (cnt d)).sum + cnt d n.f5[i]
                · have hb := ih n.f5[i] (qat d l n p i) (l.length : Int) L a x hk (by rw [hul]; omega) (by rw [hul]; omega) (fun j h1 h2 hne => by
                    rw [hul] at h1 h2
                    rw [hL j (by omega) (by omega) hne, hpart j h1 h2]) hx (fun c hcc => hT c (by rw [hpart a hia hin]; exact hcc)) (by rw [hul]; omega) (fun y hy => by
                    rw [hul] at hy ⊢
                    by_cases hlast : i + 1 = n.f5.length
                    · have e : l.length + 1 + ((n.f5.take i).map (cnt d)).sum + cnt d n.f5[i] = l.length + cnt (d + 1) n := by
                        rw [hlast, List.take_length] at hs
                        omega
                      rw [e] at hy
                      have := hnext y hy
                      omega
                    · have hlt2 : i + 1 < n.f5.length := by omega
                      have hs3 := qfj (cnt d) n.f5 (i + 1) hlt2
                      have hs4 := qe4 (cnt d) n.f5 (i + 1 + 1)
                      have hk2 := hfit.2.2.2.1 _ (List.getElem_mem hlt2)
                      have hpos2 : 1 ≤ cnt d n.f5[i + 1] := by
                        cases d with
                        | zero => exact hk2.elim
                        | succ d => rw [cnt]; omega
                      have z1k := qa8 d l n p (i + 1)
                      have h1 : (yu (d + 1) l n p)[l.length + 1 + ((n.f5.take i).map (cnt d)).sum + cnt d n.f5[i]]? = L[l.length + 1 + ((n.f5.take i).map (cnt d)).sum + cnt d n.f5[i]]? := (hL _ (by omega) (by omega) (by omega)).symm
                      rw [hy, qdp, qk8, List.getElem?_set_ne (by omega)] at h1
                      have h2 := qgf (ql4 d) l n p (i + 1 + 1) (n.f5.length - (i + 1 + 1)) (by omega) (l.length + 1 + ((n.f5.take i).map (cnt d)).sum + cnt d n.f5[i]) (by rw [qa8]; omega)
                      rw [show i + 1 + 1 + (n.f5.length - (i + 1 + 1)) = n.f5.length by omega, h1, qdc d l n p (i + 1) hlt2] at h2
                      have e : l.length + 1 + ((n.f5.take i).map (cnt d)).sum + cnt d n.f5[i] = (qat d l n p (i + 1)).length := by rw [z1k]; omega
                      rw [e] at h2
                      cases d with
                      | zero => exact hk2.elim
                      | succ d =>
                        rw [qtn] at h2
                        injection h2 with h2
                        rw [h2]
                        show (l.length : Int) < _
                        omega) g k (by rw [hul]; exact hq)
                  split at h
                  · injection h with h
                    exact .inl (by rw [← h]; exact (show (-1 : Int) < 0 by decide))
                  · rename_i hq2
                    rcases hb with hb | hb
                    · exact absurd (.inl hb) hq2
                    · rcases qtj L g _ _ _ q h with hq' | ⟨ks, hq'⟩
                      · exact .inl hq'
                      · right
                        intro e
                        rw [hq']
                        exact okN_kid (k := k.1) (by simp) hb
                · have hkid := rb_flat_only (l := qat d l n p i) (p := (l.length : Int)) (L := L) (n := n.f5[i]) (d := d) hk (fun j h1 h2 => by
                    rw [hul] at h1 h2
                    rw [hL j (by omega) (by omega) (by omega), hpart j h1 h2]) (by rw [hul]; omega) (f := g) (q := k) (by rw [hul]; exact hq)
                  rw [hul] at hkid
                  rw [hkid, if_neg (by show ¬ (((l.length + 1 + ((n.f5.take i).map (cnt d)).sum + cnt d n.f5[i] : Nat) : Int) < 0 ∨ ((l.length + 1 + ((n.f5.take i).map (cnt d)).sum + cnt d n.f5[i] : Nat) : Int) > ((l.length + cnt (d + 1) n : Nat) : Int)); omega)] at h
                  refine ihr (i + 1) (by omega) (by omega) (by omega) g q ?_
                  rw [hs, ← Nat.add_assoc, List.take_succ_eq_append_getElem hlt]
                  exact h
        refine key (qcf (qz L (l.length : Int))) 0 (by omega) (by simp; omega) f q ?_
        rw [show ((l.length + 1 + ((n.f5.take 0).map (cnt d)).sum : Nat) : Int) = (l.length : Int) + 1 by simp]
        exact h
end Go.Proofs.YtpgkhmdfddejfaaDoor.PV
end
section
namespace Go.Proofs.YtpgkhmdfddejfaaDoor.PV
open Go.RowKit Go.Proofs.YtpgkhmdfddejfaaDoorW.PrintWords Go.Proofs.YtpgkhmdfddejfaaDoorW.PrintLast Go.Proofs.YtpgkhmdfddejfaaDoorW.PrintMore
set_option linter.unusedVariables false
set_option linter.unusedSimpArgs false
theorem ev_one {α : Type} {f : Nat → Option α} {a b : α} (h1 : Ev f a) (h2 : Ev f b) : a = b := by
  obtain ⟨k1, h1⟩ := h1
  obtain ⟨k2, h2⟩ := h2
  exact Option.some.inj ((h1 (k1 + k2) (by omega)).symm.trans (h2 (k1 + k2) (by omega)))
theorem qwn (l : List S36) (h0 : 0 < l.length) (hl : l.length ≤ 2000000000) (hf : ∀ y ∈ l, qta y) {f : Nat} {node : S30} {r : Int} (hrb : rb l f 0 (-1) = some (node, r)) :
    Ev (fun k => qae.f k l) (decide ((l.length : Int) ≤ 4000) && (decide (r = l.length) && okN 40 node)) := by
  have hb := q0o l hl hf
  have hsame := qz1 l h0 hrb
  have hfit := (rb_fit l hl hf f).1 0 (-1) node r hrb h0 l.length (by omega)
  by_cases hbig : (l.length : Int) > 4000
  · rw [decide_eq_false (show ¬ (l.length : Int) ≤ 4000 by omega)]
    refine Ev.bind (g := fun k => qbm.f k l) (f := fun _ t => some t.2.2.2.2.2.2.2.2.2.2) (a := (0, 0, 0, ⟨#[]⟩, 0, 0, ⟨#[]⟩, [], [], [], false)) ?_ (Ev.now _)
    exact jh hbig (Ev.now _)
  · rw [decide_eq_true (show (l.length : Int) ≤ 4000 by omega), Bool.true_and]
    by_cases hr : r = l.length
    · rw [if_pos hr] at hsame
      rw [hsame] at hb
      rw [decide_eq_true hr, Bool.true_and]
      have hd := q7c l.length node hl hfit
      have hn := q8q l.length node hl hfit
      have hok := q7d l.length node 40 hfit
      by_cases h40 : depF l.length node ≤ 40
      · rw [decide_eq_true h40, Bool.true_and] at hok
        rw [hok] at hn
        by_cases hc : okN 40 node = true
        · rw [hc] at hn ⊢
          refine Ev.bind (g := fun k => qbm.f k l) (f := fun _ t => some t.2.2.2.2.2.2.2.2.2.2) (a := (node.f0, node.f1, node.f2, node.f3, node.f4.f0, node.f4.f1, node.f4.f2, node.f4.f3, node.f5, node.f6, true)) ?_ (Ev.now _)
          exact ja hbig (Ev.bind (g := fun k => qbu.f k l) hb (jh rfl (Ev.bind hd (ja (by omega) (Ev.bind hn (jh rfl (Ev.now _)))))))
        · have hc : okN 40 node = false := by simpa using hc
          rw [hc] at hn ⊢
          refine Ev.bind (g := fun k => qbm.f k l) (f := fun _ t => some t.2.2.2.2.2.2.2.2.2.2) (a := (0, 0, 0, ⟨#[]⟩, 0, 0, ⟨#[]⟩, [], [], [], false)) ?_ (Ev.now _)
          exact ja hbig (Ev.bind (g := fun k => qbu.f k l) hb (jh rfl (Ev.bind hd (ja (by omega) (Ev.bind hn (ja (by decide) (Ev.now _)))))))
      · rw [decide_eq_false h40, Bool.false_and] at hok
        rw [← hok]
        refine Ev.bind (g := fun k => qbm.f k l) (f := fun _ t => some t.2.2.2.2.2.2.2.2.2.2) (a := (0, 0, 0, ⟨#[]⟩, 0, 0, ⟨#[]⟩, [], [], [], false)) ?_ (Ev.now _)
        exact ja hbig (Ev.bind (g := fun k => qbu.f k l) hb (jh rfl (Ev.bind hd (jh (by omega) (Ev.now _)))))
    · rw [if_neg hr] at hsame
      rw [hsame] at hb
      rw [decide_eq_false hr]
      refine Ev.bind (g := fun k => qbm.f k l) (f := fun _ t => some t.2.2.2.2.2.2.2.2.2.2) (a := (0, 0, 0, ⟨#[]⟩, 0, 0, ⟨#[]⟩, [], [], [], false)) ?_ (Ev.now _)
      exact ja hbig (Ev.bind (g := fun k => qbu.f k l) hb (ja (by decide) (Ev.now _)))
def q0c (L : List S36) (a : Nat) (what by_ : Int) : List S36 :=
  if what = 0 then L.set a { (qz L a) with f3 := (qz L a).f3 + by_ }
  else if what = 1 then L.set a { (qz L a) with f4 := (qz L a).f4 - by_ }
  else if what = 2 then L.set a { (qz L a) with f0 := 15 + by_ }
  else if what = 3 then L.set a { (qz L a) with f2 := (qz L a).f2 + 16 + by_ }
  else if what = 4 then L.set a { (qz L a) with f0 := 10 }
  else L ++ [⟨13, 0, 0, L.length + 1, -1, ⟨#[]⟩, ⟨0, 0, ⟨#[]⟩, []⟩, []⟩]
theorem q91 {d : Nat} {n : S30} (h : qdl d n) : 1 ≤ cnt d n := by
  cases d with
  | zero => exact h.elim
  | succ d => rw [cnt]; omega
theorem all_cells (P : S36 → Prop) (hP : ∀ y e, P y → 0 ≤ e → e ≤ 2000000000 → P { y with f3 := e }) (hC : ∀ d n e p, okN e n = true → qdl d n → -1 ≤ p → p ≤ 2000000000 → P (cellOf n p)) :
    ∀ (d e : Nat) (n : S30) (l : List S36) (p : Int), qdl d n → okN e n = true → -1 ≤ p → p ≤ 2000000000 → l.length + cnt d n ≤ 2000000000 → (∀ y ∈ l, P y) → ∀ y ∈ yu d l n p, P y
  | 0, _, _, _, _, h, _, _, _, _, _ => h.elim
  | d + 1, 0, _, _, _, _, h, _, _, _, _ => by simp [okN] at h
  | d + 1, e + 1, n, l, p, h, hok, hp0, hp1, hc, hl => by
    have hcc : cnt (d + 1) n = 1 + (n.f5.map (cnt d)).sum := by rw [cnt]
    have hok2 := hok
    rw [okN, Bool.and_eq_true, List.all_eq_true] at hok2
    have hu : ∀ i, i ≤ n.f5.length → ∀ y ∈ qat d l n p i, P y := by
      intro i
      induction i with
      | zero =>
        intro _ y hy
        rw [qjp, List.mem_append, List.mem_singleton] at hy
        rcases hy with hy | rfl
        · exact hl y hy
        · exact hC (d + 1) n (e + 1) p hok h hp0 hp1
      | succ i ih =>
        intro hi
        have hs := qfj (cnt d) n.f5 i hi
        have hs2 := qe4 (cnt d) n.f5 (i + 1)
        rw [qdc d l n p i hi]
        exact all_cells P hP hC d e _ _ _ (h.2.2.2.1 _ (List.getElem_mem hi)) (hok2.2 _ (List.getElem_mem hi)) (by omega) (by omega) (by rw [qa8]; omega) (ih (by omega))
    intro y hy
    rw [qdp, qk8] at hy
    rcases List.mem_or_eq_of_mem_set hy with hy | rfl
    · exact hu _ (Nat.le_refl _) y hy
    · refine hP _ _ (hu _ (Nat.le_refl _) _ ?_) (by omega) (by rw [qa8, List.take_length]; omega)
      rw [qkq (qle d l n p)]
      exact List.mem_of_getElem? (qle d l n p)
theorem cells_in (d : Nat) (n : S30) (h : qdl d n) (hok : okN 40 n = true) (hc : cnt d n ≤ 2000000000) : ∀ y ∈ yu d [] n (-1), 0 ≤ y.f3 ∧ y.f3 ≤ 2000000000 ∧ -1 ≤ y.f4 ∧ y.f4 ≤ 2000000000 ∧ 0 ≤ y.f2 ∧ y.f2 ≤ 16 :=
  all_cells (fun y => 0 ≤ y.f3 ∧ y.f3 ≤ 2000000000 ∧ -1 ≤ y.f4 ∧ y.f4 ≤ 2000000000 ∧ 0 ≤ y.f2 ∧ y.f2 ≤ 16) (fun y e hy h0 h1 => ⟨h0, h1, hy.2.2⟩)
    (fun d n e p hok h hp0 hp1 => by
      cases e with
      | zero => simp [okN] at hok
      | succ e =>
        rw [okN, Bool.and_eq_true] at hok
        have ho := hok.1
        simp only [ownN, Bool.and_eq_true] at ho
        obtain ⟨_, hk, hcn, _⟩ := ho
        refine ⟨Int.le_refl _, by show (0 : Int) ≤ 2000000000; omega, hp0, hp1, ?_⟩
        show 0 ≤ n.f2 ∧ n.f2 ≤ 16
        unfold qdb at hcn
        unfold qk0 at hk
        split at hcn
        · rename_i h4
          rw [if_pos (.inl (by omega))] at hk
          have := of_decide_eq_true hcn
          have := of_decide_eq_true hk
          omega
        · split at hcn
          · have := of_decide_eq_true hcn
            omega
          · have := of_decide_eq_true hcn
            omega)
    d 40 n [] (-1) h hok (by omega) (by omega) (by simp; omega) (fun y hy => by cases hy)
theorem qon (d : Nat) (n : S30) (h : qdl d n) (hc : cnt d n ≤ 2000000000) (a : Nat) (ha : a < cnt d n) (x : S36) (hx : Turned (qz (yu d [] n (-1)) a) x) (hfx : qta x) : Ev (fun k => qae.f k ((yu d [] n (-1)).set a x)) false := by
  have hlen : (yu d [] n (-1)).length = cnt d n := by rw [qfa]; simp
  have zi5 := q0t d [] n (-1) h (fun y hy => by cases hy)
  obtain ⟨f, ⟨node, r⟩, hrb⟩ := rb_total ((yu d [] n (-1)).set a x) 0 (-1)
  have hbad := rb_turned d n [] (-1) ((yu d [] n (-1)).set a x) a x h (by simp) (by simpa using ha) (fun j _ _ hne => by rw [List.getElem?_set_ne (by omega)]) (by rw [List.getElem?_set_self (by omega)]) (fun c hcc => by rw [qkq hcc] at hx; exact hx) (by simp [hlen]) (fun y hy => by
    rw [List.getElem?_eq_none (by simp [hlen])] at hy
    cases hy) f (node, r) hrb
  have hp := qwn ((yu d [] n (-1)).set a x) (by rw [List.length_set]; omega) (by rw [List.length_set]; omega) (fun y hy => by
    rcases List.mem_or_eq_of_mem_set hy with hy | rfl
    · exact zi5 y hy
    · exact hfx) hrb
  have e : (decide ((((yu d [] n (-1)).set a x).length : Int) ≤ 4000) && (decide (r = ((yu d [] n (-1)).set a x).length) && okN 40 node)) = false := by
    rcases hbad with hb | hb
    · rw [decide_eq_false (show ¬ r = ((yu d [] n (-1)).set a x).length from fun e => by have : r < 0 := hb; omega), Bool.false_and, Bool.and_false]
    · rw [show okN 40 node = false from hb 40, Bool.and_false, Bool.and_false]
  rw [e] at hp
  exact hp
theorem own_kind {n : S30} (h : ¬ (0 ≤ n.f0 ∧ n.f0 ≤ 15 ∧ n.f0 ≠ 10)) : ownN n = false := by
  unfold ownN
  rw [decide_eq_false h, Bool.false_and]
theorem own_count {n : S30} (h : (qk0 n.f0 n.f5.length && qdb n.f0 n.f1 n.f2 n.f5.length) = false) : ownN n = false := by
  have e2 : ∀ p q r s : Bool, (r && s) = false → (p && (r && (s && q))) = false := by decide
  unfold ownN
  exact e2 _ _ _ _ h
theorem wrong_ev (d : Nat) (n : S30) (h : qdl d n) (hok : okN 40 n = true) (hc : cnt d n ≤ 1000000000) (a : Nat) (ha : a < cnt d n) (what by_ : Int) (hb : 1 ≤ by_) : Ev (fun k => qae.f k (q0c (yu d [] n (-1)) a what by_)) false := by
  have hlen : (yu d [] n (-1)).length = cnt d n := by rw [qfa]; simp
  have zi5 := q0t d [] n (-1) h (fun y hy => by cases hy)
  have hget : (yu d [] n (-1))[a]? = some (yu d [] n (-1))[a] := List.getElem?_eq_getElem (by omega)
  have hrd := qkq hget
  have hmem : qz (yu d [] n (-1)) (a : Int) ∈ yu d [] n (-1) := by rw [hrd]; exact List.getElem_mem (by omega)
  have hfx := zi5 _ hmem
  have hin := cells_in d n h hok (by omega) _ hmem
  have own : ∀ (x : S36), (∀ ks, ownN { qcf x with f5 := ks } = false) → ∀ e ks, okN e { qcf x with f5 := ks } = false := by
    intro x hx e ks
    cases e with
    | zero => rfl
    | succ e => rw [okN, hx ks, Bool.false_and]
  unfold q0c
  split
  · exact qon d n h (by omega) a ha _ (.inl ⟨rfl, by show _ < _ + by_; omega⟩) hfx
  split
  · exact qon d n h (by omega) a ha _ (.inr (.inl (by show _ - by_ ≠ _; omega))) hfx
  split
  · refine qon d n h (by omega) a ha _ (.inr (.inr ⟨rfl, rfl, own _ fun ks => ?_⟩)) hfx
    exact own_kind (show ¬ (0 ≤ 15 + by_ ∧ 15 + by_ ≤ 15 ∧ 15 + by_ ≠ 10) by omega)
  split
  · refine qon d n h (by omega) a ha _ (.inr (.inr ⟨rfl, rfl, own _ fun ks => ?_⟩)) hfx
    have e : (qk0 (qz (yu d [] n (-1)) (a : Int)).f0 ks.length && (qdb (qz (yu d [] n (-1)) (a : Int)).f0 (qz (yu d [] n (-1)) (a : Int)).f1 ((qz (yu d [] n (-1)) (a : Int)).f2 + 16 + by_) ks.length)) = false := by
      unfold qk0 qdb
      by_cases h4 : (qz (yu d [] n (-1)) (a : Int)).f0 = 4
      · rw [if_pos (.inl (by omega)), if_pos h4]
        by_cases h16 : (1 : Int) ≤ ks.length ∧ (ks.length : Int) ≤ 16
        · rw [decide_eq_false (show ¬ (1 ≤ (qz (yu d [] n (-1)) (a : Int)).f1 ∧ (qz (yu d [] n (-1)) (a : Int)).f1 ≤ (ks.length : Int) ∧ 1 ≤ (qz (yu d [] n (-1)) (a : Int)).f2 + 16 + by_ ∧ (qz (yu d [] n (-1)) (a : Int)).f2 + 16 + by_ ≤ (ks.length : Int)) by omega), Bool.and_false]
        · rw [decide_eq_false h16, Bool.false_and]
      · rw [if_neg h4]
        have hc2 : (if (qz (yu d [] n (-1)) (a : Int)).f0 = 6 then decide (1 ≤ (qz (yu d [] n (-1)) (a : Int)).f1 ∧ (qz (yu d [] n (-1)) (a : Int)).f1 ≤ 1000 ∧ (qz (yu d [] n (-1)) (a : Int)).f2 + 16 + by_ = 0) else decide ((qz (yu d [] n (-1)) (a : Int)).f1 = 0 ∧ (qz (yu d [] n (-1)) (a : Int)).f2 + 16 + by_ = 0)) = false := by
          split <;> exact decide_eq_false (by omega)
        rw [hc2, Bool.and_false]
    exact own_count e
  split
  · refine qon d n h (by omega) a ha _ (.inr (.inr ⟨rfl, rfl, own _ fun ks => ?_⟩)) hfx
    exact own_kind (show ¬ (0 ≤ (10 : Int) ∧ (10 : Int) ≤ 15 ∧ (10 : Int) ≠ 10) by omega)
  · have hrb := zf3 d n [] (-1) (yu d [] n (-1) ++ [⟨13, 0, 0, (yu d [] n (-1)).length + 1, -1, ⟨#[]⟩, ⟨0, 0, ⟨#[]⟩, []⟩, []⟩]) h (fun j _ hj => by rw [List.getElem?_append_left (by simp at hj; omega)]) (by simp [hlen]) (2 * cnt d n) (Nat.le_refl _)
    have hp := qwn (yu d [] n (-1) ++ [⟨13, 0, 0, (yu d [] n (-1)).length + 1, -1, ⟨#[]⟩, ⟨0, 0, ⟨#[]⟩, []⟩, []⟩]) (by simp) (by simp [hlen]; omega) (fun y hy => by
      rw [List.mem_append, List.mem_singleton] at hy
      rcases hy with hy | rfl
      · exact zi5 y hy
      · exact ⟨(show (⟨#[]⟩ : ByteArray).size ≤ 2000000000 by decide), qhu.mk _ (by simp) (by show (-9223372036854775808 : Int) ≤ 0; omega) (show (⟨#[]⟩ : ByteArray).size ≤ 2000000000 by decide) (fun y hy => by cases hy), by simp, fun y hy => by cases hy⟩) hrb
    rw [decide_eq_false (show ¬ ((([] : List S36).length + cnt d n : Nat) : Int) = ((yu d [] n (-1) ++ [(⟨13, 0, 0, (yu d [] n (-1)).length + 1, -1, ⟨#[]⟩, ⟨0, 0, ⟨#[]⟩, []⟩, []⟩ : S36)]).length : Int) by simp [hlen]; omega), Bool.false_and, Bool.and_false] at hp
    exact hp
theorem ref_flat (d : Nat) (n : S30) (h : qdl d n) (hc : cnt d n ≤ 2000000000) : ∃ r, Ev (fun k => qbh.f k (yu d [] n (-1))) r ∧ (r = true → okN 40 n = true) := by
  have hlen : (yu d [] n (-1)).length = cnt d n := by rw [qfa]; simp
  have hpos := q91 h
  have zi5 := q0t d [] n (-1) h (fun y hy => by cases hy)
  obtain ⟨r, h1, h2⟩ := right_same (yu d [] n (-1)) (by omega) zi5
  have hrb := zf3 d n [] (-1) (yu d [] n (-1)) h (fun _ _ _ => rfl) (by simp [hlen]) (2 * cnt d n) (Nat.le_refl _)
  have h3 := ev_one h1 (qwn _ (by omega) (by omega) zi5 hrb)
  refine ⟨r, h2, fun hr => ?_⟩
  rw [hr] at h3
  have h4 := h3.symm
  rw [Bool.and_eq_true, Bool.and_eq_true] at h4
  exact h4.2.2
end Go.Proofs.YtpgkhmdfddejfaaDoor.PV
end
section
namespace Go.Proofs.YtpgkhmdfddejfaaDoor.PV
open Go.RowKit Go.Proofs.YtpgkhmdfddejfaaDoorW.PrintWords Go.Proofs.YtpgkhmdfddejfaaDoorW.PrintLast Go.Proofs.YtpgkhmdfddejfaaDoorW.PrintMore
attribute [local go_sem] qcn qcp qdi qdj qb6 qb7 qco qcq   -- for this text's walks alone
set_option linter.unusedVariables false
set_option linter.unusedSimpArgs false
end Go.Proofs.YtpgkhmdfddejfaaDoor.PV
end
section
namespace Go.Proofs.YtpgkhmdfddejfaaDoor.PV
open Go.RowKit Go.Proofs.YtpgkhmdfddejfaaDoorW.PrintWords Go.Proofs.YtpgkhmdfddejfaaDoorW.PrintLast Go.Proofs.YtpgkhmdfddejfaaDoorW.PrintMore
set_option linter.unusedVariables false
set_option linter.unusedSimpArgs false
theorem qom {k : Nat} {W : World} {base : Nat} {ok : Nat → Prop} {A : Option Addr} {m c : Nat} {xs : List S36} {r : Bool} (hN : Kd.N k36 36 W base ok (.slice A m c) xs) (hG : Lay W) (h : qae.f k xs = some r) :
    Calls Tryd.prog 8 #[.slice A m c] W fun e w' => e = .returned (.bool r) ∧ Below W.heap.size W w' := by
  obtain ⟨rfl, h1, h2⟩ := Kd.N_reads' hN
  exact qae.calls k A c xs r W h2 h1 hG h
theorem qdz {k : Nat} {W : World} {base : Nat} {ok : Nat → Prop} {A : Option Addr} {m c : Nat} {xs : List S36} {r : Bool} (hN : Kd.N k36 36 W base ok (.slice A m c) xs) (h : qbh.f k xs = some r) :
    Calls Tryd.prog 9 #[.slice A m c] W fun e w' => e = .returned (.bool r) ∧ Below W.heap.size W w' := by
  obtain ⟨rfl, h1, h2⟩ := Kd.N_reads' hN
  exact qbh.calls k A c xs r W h2 h1 h
structure Elem36 (W : World) (g : Nat) (i : Int) (y : S36) (c : List Value) : Prop where
  len : c.length = 11
  at_ : ∀ j u, c[j]? = some u → W.cell? ⟨g, Int.toNat i * 11 + j, none⟩ = some u
  e2 : W.cell? ⟨g, Int.toNat i * 11 + 2, none⟩ = some (.int .i64 y.f2)
  e3 : W.cell? ⟨g, Int.toNat i * 11 + 3, none⟩ = some (.int .i64 y.f3)
  e4 : W.cell? ⟨g, Int.toNat i * 11 + 4, none⟩ = some (.int .i64 y.f4)
  p0 : ∀ v : Int, Kd.FK k36 W (fun k => True ∧ k ≠ g) { y with f0 := v } (c.take 0 ++ [Value.int .i64 v] ++ c.drop 1)
  p2 : ∀ v : Int, Kd.FK k36 W (fun k => True ∧ k ≠ g) { y with f2 := v } (c.take 2 ++ [Value.int .i64 v] ++ c.drop 3)
  p3 : ∀ v : Int, Kd.FK k36 W (fun k => True ∧ k ≠ g) { y with f3 := v } (c.take 3 ++ [Value.int .i64 v] ++ c.drop 4)
  p4 : ∀ v : Int, Kd.FK k36 W (fun k => True ∧ k ≠ g) { y with f4 := v } (c.take 4 ++ [Value.int .i64 v] ++ c.drop 5)
theorem q7f {W : World} {base g m cap : Nat} {L : List S36} (hN : Kd.N k36 36 W base (fun _ => True) (.slice (some ⟨g, 0, none⟩) m cap) L) (i : Int) (h0 : 0 ≤ i) (h1 : i < m) : ∃ c, Elem36 W g i (qz L i) c := by
  obtain ⟨c, hcl, hFK, hcc, hfr⟩ := Kd.N_elem hN z36 i h0 h1
  obtain ⟨A9, c9, A10, c10, rfl, h9, f9, h10, f10⟩ := qz6 hFK
  exact ⟨_, hcl, hcc, hcc 2 _ rfl, hcc 3 _ rfl, hcc 4 _ rfl,
    fun v => qsx W _ { (qz L i) with f0 := v } h9 f9 h10 f10, fun v => qsx W _ { (qz L i) with f2 := v } h9 f9 h10 f10,
    fun v => qsx W _ { (qz L i) with f3 := v } h9 f9 h10 f10, fun v => qsx W _ { (qz L i) with f4 := v } h9 f9 h10 f10⟩
def zge (L : List S36) (i : Int) (what by_ : Int) : List S36 :=
  if what = 0 then L.set i.toNat { (qz L i) with f3 := (qz L i).f3 + by_ }
  else if what = 1 then L.set i.toNat { (qz L i) with f4 := (qz L i).f4 - by_ }
  else if what = 2 then L.set i.toNat { (qz L i) with f0 := 15 + by_ }
  else if what = 3 then L.set i.toNat { (qz L i) with f2 := (qz L i).f2 + 16 + by_ }
  else if what = 4 then L.set i.toNat { (qz L i) with f0 := 10 }
  else L ++ [⟨13, 0, 0, L.length + 1, -1, ⟨#[]⟩, ⟨0, 0, ⟨#[]⟩, []⟩, []⟩]
theorem wrongI_eq (L : List S36) (a m : Nat) (what by_ : Int) : zge L ((a : Int) % (m : Int)) what by_ = q0c L (a % m) what by_ := by
  have e : (a : Int) % (m : Int) = ((a % m : Nat) : Int) := (Int.natCast_emod a m).symm
  unfold zge q0c
  rw [e, Int.toNat_natCast]
set_option maxHeartbeats 4000000 in
set_option maxRecDepth 100000 in
theorem wrong_walk (k : Nat) (d : Nat) (n : S30) (w : World) (A7 : Option Addr) (c7 : Nat) (A8 : Option Addr) (c8 : Nat) (A9 : Option Addr) (c9 : Nat) (at_ which by_ : Int) (r : Bool) (hfit : qdl d n) (hcnt : cnt d n ≤ 1000000000) (hE : qe6 w n A7 c7 A8 c8 A9 c9) (hG : Lay w)
    (ha : qad.f k = some true) (h9 : qbh.f k (yu d [] n (-1)) = some r) (hr : r = true → okN 40 n = true)
    (h8 : r = true → 1 ≤ by_ → qae.f k (q0c (yu d [] n (-1)) (at_.toNat % cnt d n) which by_) = some false) :
    Calls Tryd.prog 5 #[.agg #[.int .i64 n.f0, .int .i64 n.f1, .int .i64 n.f2, .string n.f3, .int .i64 n.f4.f0, .int .i64 n.f4.f1, .string n.f4.f2, .slice A7 n.f4.f3.length c7, .slice A8 n.f5.length c8, .slice A9 n.f6.length c9], .int .i64 at_, .int .i64 which, .int .i64 by_] w fun e w' => e = .returned (.bool true) ∧ Below w.heap.size w w' := by
  have z1j := Tryd.underlying22
  have qwm := Tryd.underlying30
  have zry := Tryd.underlying36
  have hlen : (yu d [] n (-1)).length = cnt d n := by rw [qfa]; simp
  have HF := qf.mk (And.intro hfit (And.intro (show cnt d n ≤ 2000000000 by omega) (And.intro (show 0 < (yu d [] n (-1)).length by rw [hlen]; exact q91 hfit) hcnt)))
  have HE := qf.mk hE
  have HG := qf.mk hG
  have HA := qf.mk ha
  have H9 := qf.mk h9
  have HR := qf.mk hr
  have H8 := qf.mk h8
  have HLEN := qf.mk hlen
  have HX : qf (Below w.heap.size w (w.alloc (.cells #[.int .i64 n.f0, .int .i64 n.f1, .int .i64 n.f2, .string n.f3, .int .i64 n.f4.f0, .int .i64 n.f4.f1, .string n.f4.f2, .slice A7 n.f4.f3.length c7, .slice A8 n.f5.length c8, .slice A9 n.f6.length c9] 30)) ∧ (w.alloc (.cells #[.int .i64 n.f0, .int .i64 n.f1, .int .i64 n.f2, .string n.f3, .int .i64 n.f4.f0, .int .i64 n.f4.f1, .string n.f4.f2, .slice A7 n.f4.f3.length c7, .slice A8 n.f5.length c8, .slice A9 n.f6.length c9] 30)).heap[w.heap.size]? = some (.cells #[.int .i64 n.f0, .int .i64 n.f1, .int .i64 n.f2, .string n.f3, .int .i64 n.f4.f0, .int .i64 n.f4.f1, .string n.f4.f2, .slice A7 n.f4.f3.length c7, .slice A8 n.f5.length c8, .slice A9 n.f6.length c9] 30 (0, 0))) := ⟨⟨qg (Below.refl _ _) _, qmi w _⟩⟩
  clear hfit hcnt hE hG ha h9 hr h8 hlen
  cases r with
  | false =>
    go_enter Tryd.func5, Tryd.ntmps5
    go_wp2_with (first
      | (go_at_call 7; (with_reducible refine (qad.calls k true _ (Lay.below HG.out HX.out.1) HA.out).mono ?_); rintro e w1 ⟨rfl, hb⟩; have HB1 := qf.mk (And.intro (jd HX.out.1 HX.out.1.size hb) (zl HX.out.2 hb)); clear hb; obtain ⟨x0, x1, x2, x3, x4, x5, x6, x7, x8, x9⟩ := qdo HB1.out.2)
      | (go_at_call 12; (with_reducible refine (qfi d n w1 A7 c7 A8 c8 A9 c9 HF.out.1 HF.out.2.1 (qe6.step HE.out HB1.out.1)).mono ?_); rintro e w2 ⟨A2, c2, rfl, hN, hb⟩; obtain ⟨g, cap, he, hg0, hg1, _⟩ := Kd.ql6 hN HF.out.2.2.1; injection he with he _ he2; subst he he2; have HN2 := qf.mk hN; have HB2 := qf.mk hb; clear hb hN x0 x1 x2 x3 x4 x5 x6 x7 x8 x9 hg0 hg1)
      | (go_at_call 9; (with_reducible refine (qdz HN2.out H9.out).mono ?_); rintro e w3 ⟨rfl, hb⟩; have HN3 := qf.mk (Kd.qh0 HN2.out hb); have HB3 := qf.mk (jd HB2.out HB2.out.size hb); clear hb))
    go_ret
    exact ⟨rfl, jd HB1.out.1 HB1.out.1.size HB3.out⟩
  | true =>
  by_cases hat : at_ < 0
  · have hd : decide (at_ < 0) = true := decide_eq_true hat
    go_enter Tryd.func5, Tryd.ntmps5
    go_wp2_with (first
      | (go_at_call 7; (with_reducible refine (qad.calls k true _ (Lay.below HG.out HX.out.1) HA.out).mono ?_); rintro e w1 ⟨rfl, hb⟩; have HB1 := qf.mk (And.intro (jd HX.out.1 HX.out.1.size hb) (zl HX.out.2 hb)); clear hb; obtain ⟨x0, x1, x2, x3, x4, x5, x6, x7, x8, x9⟩ := qdo HB1.out.2)
      | (go_at_call 12; (with_reducible refine (qfi d n w1 A7 c7 A8 c8 A9 c9 HF.out.1 HF.out.2.1 (qe6.step HE.out HB1.out.1)).mono ?_); rintro e w2 ⟨A2, c2, rfl, hN, hb⟩; obtain ⟨g, cap, he, hg0, hg1, _⟩ := Kd.ql6 hN HF.out.2.2.1; injection he with he _ he2; subst he he2; have HN2 := qf.mk hN; have HB2 := qf.mk hb; clear hb hN x0 x1 x2 x3 x4 x5 x6 x7 x8 x9 hg0 hg1)
      | (go_at_call 9; (with_reducible refine (qdz HN2.out H9.out).mono ?_); rintro e w3 ⟨rfl, hb⟩; have HN3 := qf.mk (Kd.qh0 HN2.out hb); have HB3 := qf.mk (jd HB2.out HB2.out.size hb); clear hb))
    go_ret
    exact ⟨rfl, jd HB1.out.1 HB1.out.1.size HB3.out⟩
  have hd : decide (at_ < 0) = false := decide_eq_false hat
  by_cases hb1 : by_ < 1
  · have hd1 : decide (by_ < 1) = true := decide_eq_true hb1
    go_enter Tryd.func5, Tryd.ntmps5
    go_wp2_with (first
      | (go_at_call 7; (with_reducible refine (qad.calls k true _ (Lay.below HG.out HX.out.1) HA.out).mono ?_); rintro e w1 ⟨rfl, hb⟩; have HB1 := qf.mk (And.intro (jd HX.out.1 HX.out.1.size hb) (zl HX.out.2 hb)); clear hb; obtain ⟨x0, x1, x2, x3, x4, x5, x6, x7, x8, x9⟩ := qdo HB1.out.2)
      | (go_at_call 12; (with_reducible refine (qfi d n w1 A7 c7 A8 c8 A9 c9 HF.out.1 HF.out.2.1 (qe6.step HE.out HB1.out.1)).mono ?_); rintro e w2 ⟨A2, c2, rfl, hN, hb⟩; obtain ⟨g, cap, he, hg0, hg1, _⟩ := Kd.ql6 hN HF.out.2.2.1; injection he with he _ he2; subst he he2; have HN2 := qf.mk hN; have HB2 := qf.mk hb; clear hb hN x0 x1 x2 x3 x4 x5 x6 x7 x8 x9 hg0 hg1)
      | (go_at_call 9; (with_reducible refine (qdz HN2.out H9.out).mono ?_); rintro e w3 ⟨rfl, hb⟩; have HN3 := qf.mk (Kd.qh0 HN2.out hb); have HB3 := qf.mk (jd HB2.out HB2.out.size hb); clear hb))
    go_ret
    exact ⟨rfl, jd HB1.out.1 HB1.out.1.size HB3.out⟩
  have hd1 : decide (by_ < 1) = false := decide_eq_false hb1
  by_cases hb2 : by_ > 1099511627776
  · have hd2 : decide (by_ > 1099511627776) = true := decide_eq_true hb2
    go_enter Tryd.func5, Tryd.ntmps5
    go_wp2_with (first
      | (go_at_call 7; (with_reducible refine (qad.calls k true _ (Lay.below HG.out HX.out.1) HA.out).mono ?_); rintro e w1 ⟨rfl, hb⟩; have HB1 := qf.mk (And.intro (jd HX.out.1 HX.out.1.size hb) (zl HX.out.2 hb)); clear hb; obtain ⟨x0, x1, x2, x3, x4, x5, x6, x7, x8, x9⟩ := qdo HB1.out.2)
      | (go_at_call 12; (with_reducible refine (qfi d n w1 A7 c7 A8 c8 A9 c9 HF.out.1 HF.out.2.1 (qe6.step HE.out HB1.out.1)).mono ?_); rintro e w2 ⟨A2, c2, rfl, hN, hb⟩; obtain ⟨g, cap, he, hg0, hg1, _⟩ := Kd.ql6 hN HF.out.2.2.1; injection he with he _ he2; subst he he2; have HN2 := qf.mk hN; have HB2 := qf.mk hb; clear hb hN x0 x1 x2 x3 x4 x5 x6 x7 x8 x9 hg0 hg1)
      | (go_at_call 9; (with_reducible refine (qdz HN2.out H9.out).mono ?_); rintro e w3 ⟨rfl, hb⟩; have HN3 := qf.mk (Kd.qh0 HN2.out hb); have HB3 := qf.mk (jd HB2.out HB2.out.size hb); clear hb))
    go_ret
    exact ⟨rfl, jd HB1.out.1 HB1.out.1.size HB3.out⟩
  have hd2 : decide (by_ > 1099511627776) = false := decide_eq_false hb2
  obtain ⟨at_, rfl⟩ := Int.eq_ofNat_of_zero_le (Int.not_lt.mp hat)
  have hpos := HF.out.2.2.1
  have hi0 : 0 ≤ (at_ : Int) % ((yu d [] n (-1)).length : Int) := Int.emod_nonneg _ (by omega)
  have hi1 : (at_ : Int) % ((yu d [] n (-1)).length : Int) < ((yu d [] n (-1)).length : Int) := Int.emod_lt_of_pos _ (by omega)
  have hmem : qz (yu d [] n (-1)) ((at_ : Int) % ((yu d [] n (-1)).length : Int)) ∈ (yu d [] n (-1)) := by
    have e : ((at_ : Int) % ((yu d [] n (-1)).length : Int)) = ((at_ % (yu d [] n (-1)).length : Nat) : Int) := (Int.natCast_emod at_ _).symm
    have hlt : at_ % (yu d [] n (-1)).length < (yu d [] n (-1)).length := Nat.mod_lt _ hpos
    rw [e, qkq (List.getElem?_eq_getElem hlt)]
    exact List.getElem_mem hlt
  obtain ⟨f3a, f3b, f4a, f4b, f2a, f2b⟩ := cells_in d n HF.out.1 (HR.out rfl) HF.out.2.1 _ hmem
  clear hmem
  have z1h : 1 ≤ by_ := by omega
  have z3y : by_ ≤ 1099511627776 := by omega
  have hLb : ((yu d [] n (-1)).length : Int) ≤ 1000000000 := by have := HLEN.out; have := HF.out.2.2.2; omega
  have H8' : qf (qae.f k (zge (yu d [] n (-1)) ((at_ : Int) % ((yu d [] n (-1)).length : Int)) which by_) = some false) := ⟨by
    have h := H8.out rfl z1h
    rw [← HLEN.out, show (((at_ : Nat) : Int)).toNat = at_ from rfl] at h
    rw [wrongI_eq]
    exact h⟩
  by_cases w0 : which = 0
  · subst w0
    have H80 : qf (qae.f k ((yu d [] n (-1)).set (Int.toNat ((at_ : Int) % ((yu d [] n (-1)).length : Int))) { (qz (yu d [] n (-1)) ((at_ : Int) % ((yu d [] n (-1)).length : Int))) with f3 := (qz (yu d [] n (-1)) ((at_ : Int) % ((yu d [] n (-1)).length : Int))).f3 + by_ }) = some false) := ⟨H8'.out⟩
    clear H8'
    go_enter Tryd.func5, Tryd.ntmps5
    go_wp2_with (first
      | (go_at_call 7; (with_reducible refine (qad.calls k true _ (Lay.below HG.out HX.out.1) HA.out).mono ?_); rintro e w1 ⟨rfl, hb⟩; have HB1 := qf.mk (And.intro (jd HX.out.1 HX.out.1.size hb) (zl HX.out.2 hb)); clear hb; obtain ⟨x0, x1, x2, x3, x4, x5, x6, x7, x8, x9⟩ := qdo HB1.out.2)
      | (go_at_call 12; (with_reducible refine (qfi d n w1 A7 c7 A8 c8 A9 c9 HF.out.1 HF.out.2.1 (qe6.step HE.out HB1.out.1)).mono ?_); rintro e w2 ⟨A2, c2, rfl, hN, hb⟩; obtain ⟨g, cap, he, hg0, hg1, _⟩ := Kd.ql6 hN HF.out.2.2.1; injection he with he _ he2; subst he he2; have HN2 := qf.mk hN; have HB2 := qf.mk hb; clear hb hN x0 x1 x2 x3 x4 x5 x6 x7 x8 x9 hg0 hg1)
      | (go_at_call 9; (with_reducible refine (qdz HN2.out H9.out).mono ?_); rintro e w3 ⟨rfl, hb⟩; have HN3 := qf.mk (Kd.qh0 HN2.out hb); have HB3 := qf.mk (jd HB2.out HB2.out.size hb); clear hb; obtain ⟨c, hel⟩ := q7f HN3.out ((at_ : Int) % ((yu d [] n (-1)).length : Int)) hi0 hi1; have z2 : w3.cell? ⟨g, at_ % (yu d [] n (-1)).length * 11 + 2, none⟩ = some (.int .i64 (qz (yu d [] n (-1)) ((at_ : Int) % ((yu d [] n (-1)).length : Int))).f2) := hel.e2; have z3 : w3.cell? ⟨g, at_ % (yu d [] n (-1)).length * 11 + 3, none⟩ = some (.int .i64 (qz (yu d [] n (-1)) ((at_ : Int) % ((yu d [] n (-1)).length : Int))).f3) := hel.e3; have z4 : w3.cell? ⟨g, at_ % (yu d [] n (-1)).length * 11 + 4, none⟩ = some (.int .i64 (qz (yu d [] n (-1)) ((at_ : Int) % ((yu d [] n (-1)).length : Int))).f4) := hel.e4; have HEL := qf.mk hel; clear hel)
      | (refine Kd.qtk k36 (w0 := w1) w1.heap.size rfl rfl 3 (.tmp 58) (.tmp 56) rfl 36 ((at_ : Int) % ((yu d [] n (-1)).length : Int)) 3 (yu d [] n (-1)) { (qz (yu d [] n (-1)) ((at_ : Int) % ((yu d [] n (-1)).length : Int))) with f3 := (qz (yu d [] n (-1)) ((at_ : Int) % ((yu d [] n (-1)).length : Int))).f3 + by_ } _ [Value.int .i64 ((qz (yu d [] n (-1)) ((at_ : Int) % ((yu d [] n (-1)).length : Int))).f3 + by_)] c (fun _ => True) (fun k => True ∧ k ≠ g) rfl ?off rfl rfl (by kernel_rfl) (by simp [Value.oneCell']) HN3.out hi0 hi1 HEL.out.len HEL.out.at_ (show 3 + 1 ≤ 11 from by decide) (HEL.out.p3 _) (fun k hk => hk) HB3.out ?_; (case off => rfl); intro w4 hN4 hB4 hg4; have HN4 := qf.mk hN4; have HB4 := qf.mk hB4; clear hN4 hB4 hg4)
      | (go_at_call 8; (with_reducible refine (qom HN4.out (Lay.below HG.out (jd HB1.out.1 HB1.out.1.size HB4.out)) H80.out).mono ?_); rintro e w5 ⟨rfl, hb⟩; have HB5 := qf.mk (jd HB4.out HB4.out.size hb); clear hb))
    go_ret
    exact ⟨rfl, jd HB1.out.1 HB1.out.1.size HB5.out⟩
  have v0 : (which == 0) = false := beq_eq_false_iff_ne.mpr w0
  by_cases w1 : which = 1
  · subst w1
    have H80 : qf (qae.f k ((yu d [] n (-1)).set (Int.toNat ((at_ : Int) % ((yu d [] n (-1)).length : Int))) { (qz (yu d [] n (-1)) ((at_ : Int) % ((yu d [] n (-1)).length : Int))) with f4 := (qz (yu d [] n (-1)) ((at_ : Int) % ((yu d [] n (-1)).length : Int))).f4 - by_ }) = some false) := ⟨H8'.out⟩
    clear H8'
    go_enter Tryd.func5, Tryd.ntmps5
    go_wp2_with (first
      | (go_at_call 7; (with_reducible refine (qad.calls k true _ (Lay.below HG.out HX.out.1) HA.out).mono ?_); rintro e w1 ⟨rfl, hb⟩; have HB1 := qf.mk (And.intro (jd HX.out.1 HX.out.1.size hb) (zl HX.out.2 hb)); clear hb; obtain ⟨x0, x1, x2, x3, x4, x5, x6, x7, x8, x9⟩ := qdo HB1.out.2)
      | (go_at_call 12; (with_reducible refine (qfi d n w1 A7 c7 A8 c8 A9 c9 HF.out.1 HF.out.2.1 (qe6.step HE.out HB1.out.1)).mono ?_); rintro e w2 ⟨A2, c2, rfl, hN, hb⟩; obtain ⟨g, cap, he, hg0, hg1, _⟩ := Kd.ql6 hN HF.out.2.2.1; injection he with he _ he2; subst he he2; have HN2 := qf.mk hN; have HB2 := qf.mk hb; clear hb hN x0 x1 x2 x3 x4 x5 x6 x7 x8 x9 hg0 hg1)
      | (go_at_call 9; (with_reducible refine (qdz HN2.out H9.out).mono ?_); rintro e w3 ⟨rfl, hb⟩; have HN3 := qf.mk (Kd.qh0 HN2.out hb); have HB3 := qf.mk (jd HB2.out HB2.out.size hb); clear hb; obtain ⟨c, hel⟩ := q7f HN3.out ((at_ : Int) % ((yu d [] n (-1)).length : Int)) hi0 hi1; have z2 : w3.cell? ⟨g, at_ % (yu d [] n (-1)).length * 11 + 2, none⟩ = some (.int .i64 (qz (yu d [] n (-1)) ((at_ : Int) % ((yu d [] n (-1)).length : Int))).f2) := hel.e2; have z3 : w3.cell? ⟨g, at_ % (yu d [] n (-1)).length * 11 + 3, none⟩ = some (.int .i64 (qz (yu d [] n (-1)) ((at_ : Int) % ((yu d [] n (-1)).length : Int))).f3) := hel.e3; have z4 : w3.cell? ⟨g, at_ % (yu d [] n (-1)).length * 11 + 4, none⟩ = some (.int .i64 (qz (yu d [] n (-1)) ((at_ : Int) % ((yu d [] n (-1)).length : Int))).f4) := hel.e4; have HEL := qf.mk hel; clear hel)
      | (refine Kd.qtk k36 (w0 := w1) w1.heap.size rfl rfl 3 (.tmp 71) (.tmp 69) rfl 36 ((at_ : Int) % ((yu d [] n (-1)).length : Int)) 4 (yu d [] n (-1)) { (qz (yu d [] n (-1)) ((at_ : Int) % ((yu d [] n (-1)).length : Int))) with f4 := (qz (yu d [] n (-1)) ((at_ : Int) % ((yu d [] n (-1)).length : Int))).f4 - by_ } _ [Value.int .i64 ((qz (yu d [] n (-1)) ((at_ : Int) % ((yu d [] n (-1)).length : Int))).f4 - by_)] c (fun _ => True) (fun k => True ∧ k ≠ g) rfl ?off rfl rfl (by kernel_rfl) (by simp [Value.oneCell']) HN3.out hi0 hi1 HEL.out.len HEL.out.at_ (show 4 + 1 ≤ 11 from by decide) (HEL.out.p4 _) (fun k hk => hk) HB3.out ?_; (case off => rfl); intro w4 hN4 hB4 hg4; have HN4 := qf.mk hN4; have HB4 := qf.mk hB4; clear hN4 hB4 hg4)
      | (go_at_call 8; (with_reducible refine (qom HN4.out (Lay.below HG.out (jd HB1.out.1 HB1.out.1.size HB4.out)) H80.out).mono ?_); rintro e w5 ⟨rfl, hb⟩; have HB5 := qf.mk (jd HB4.out HB4.out.size hb); clear hb))
    go_ret
    exact ⟨rfl, jd HB1.out.1 HB1.out.1.size HB5.out⟩
  have v1 : (which == 1) = false := beq_eq_false_iff_ne.mpr w1
  by_cases w2 : which = 2
  · subst w2
    have H80 : qf (qae.f k ((yu d [] n (-1)).set (Int.toNat ((at_ : Int) % ((yu d [] n (-1)).length : Int))) { (qz (yu d [] n (-1)) ((at_ : Int) % ((yu d [] n (-1)).length : Int))) with f0 := 15 + by_ }) = some false) := ⟨H8'.out⟩
    clear H8'
    go_enter Tryd.func5, Tryd.ntmps5
    go_wp2_with (first
      | (go_at_call 7; (with_reducible refine (qad.calls k true _ (Lay.below HG.out HX.out.1) HA.out).mono ?_); rintro e w1 ⟨rfl, hb⟩; have HB1 := qf.mk (And.intro (jd HX.out.1 HX.out.1.size hb) (zl HX.out.2 hb)); clear hb; obtain ⟨x0, x1, x2, x3, x4, x5, x6, x7, x8, x9⟩ := qdo HB1.out.2)
      | (go_at_call 12; (with_reducible refine (qfi d n w1 A7 c7 A8 c8 A9 c9 HF.out.1 HF.out.2.1 (qe6.step HE.out HB1.out.1)).mono ?_); rintro e w2 ⟨A2, c2, rfl, hN, hb⟩; obtain ⟨g, cap, he, hg0, hg1, _⟩ := Kd.ql6 hN HF.out.2.2.1; injection he with he _ he2; subst he he2; have HN2 := qf.mk hN; have HB2 := qf.mk hb; clear hb hN x0 x1 x2 x3 x4 x5 x6 x7 x8 x9 hg0 hg1)
      | (go_at_call 9; (with_reducible refine (qdz HN2.out H9.out).mono ?_); rintro e w3 ⟨rfl, hb⟩; have HN3 := qf.mk (Kd.qh0 HN2.out hb); have HB3 := qf.mk (jd HB2.out HB2.out.size hb); clear hb; obtain ⟨c, hel⟩ := q7f HN3.out ((at_ : Int) % ((yu d [] n (-1)).length : Int)) hi0 hi1; have z2 : w3.cell? ⟨g, at_ % (yu d [] n (-1)).length * 11 + 2, none⟩ = some (.int .i64 (qz (yu d [] n (-1)) ((at_ : Int) % ((yu d [] n (-1)).length : Int))).f2) := hel.e2; have z3 : w3.cell? ⟨g, at_ % (yu d [] n (-1)).length * 11 + 3, none⟩ = some (.int .i64 (qz (yu d [] n (-1)) ((at_ : Int) % ((yu d [] n (-1)).length : Int))).f3) := hel.e3; have z4 : w3.cell? ⟨g, at_ % (yu d [] n (-1)).length * 11 + 4, none⟩ = some (.int .i64 (qz (yu d [] n (-1)) ((at_ : Int) % ((yu d [] n (-1)).length : Int))).f4) := hel.e4; have HEL := qf.mk hel; clear hel)
      | (refine Kd.qtk k36 (w0 := w1) w1.heap.size rfl rfl 3 (.tmp 79) (.tmp 77) rfl 36 ((at_ : Int) % ((yu d [] n (-1)).length : Int)) 0 (yu d [] n (-1)) { (qz (yu d [] n (-1)) ((at_ : Int) % ((yu d [] n (-1)).length : Int))) with f0 := 15 + by_ } _ [Value.int .i64 (15 + by_)] c (fun _ => True) (fun k => True ∧ k ≠ g) rfl ?off rfl rfl (by kernel_rfl) (by simp [Value.oneCell']) HN3.out hi0 hi1 HEL.out.len HEL.out.at_ (show 0 + 1 ≤ 11 from by decide) (HEL.out.p0 _) (fun k hk => hk) HB3.out ?_; (case off => rfl); intro w4 hN4 hB4 hg4; have HN4 := qf.mk hN4; have HB4 := qf.mk hB4; clear hN4 hB4 hg4)
      | (go_at_call 8; (with_reducible refine (qom HN4.out (Lay.below HG.out (jd HB1.out.1 HB1.out.1.size HB4.out)) H80.out).mono ?_); rintro e w5 ⟨rfl, hb⟩; have HB5 := qf.mk (jd HB4.out HB4.out.size hb); clear hb))
    go_ret
    exact ⟨rfl, jd HB1.out.1 HB1.out.1.size HB5.out⟩
  have v2 : (which == 2) = false := beq_eq_false_iff_ne.mpr w2
  by_cases w3 : which = 3
  · subst w3
    have H80 : qf (qae.f k ((yu d [] n (-1)).set (Int.toNat ((at_ : Int) % ((yu d [] n (-1)).length : Int))) { (qz (yu d [] n (-1)) ((at_ : Int) % ((yu d [] n (-1)).length : Int))) with f2 := (qz (yu d [] n (-1)) ((at_ : Int) % ((yu d [] n (-1)).length : Int))).f2 + 16 + by_ }) = some false) := ⟨H8'.out⟩
    clear H8'
    go_enter Tryd.func5, Tryd.ntmps5
    go_wp2_with (first
      | (go_at_call 7; (with_reducible refine (qad.calls k true _ (Lay.below HG.out HX.out.1) HA.out).mono ?_); rintro e w1 ⟨rfl, hb⟩; have HB1 := qf.mk (And.intro (jd HX.out.1 HX.out.1.size hb) (zl HX.out.2 hb)); clear hb; obtain ⟨x0, x1, x2, x3, x4, x5, x6, x7, x8, x9⟩ := qdo HB1.out.2)
      | (go_at_call 12; (with_reducible refine (qfi d n w1 A7 c7 A8 c8 A9 c9 HF.out.1 HF.out.2.1 (qe6.step HE.out HB1.out.1)).mono ?_); rintro e w2 ⟨A2, c2, rfl, hN, hb⟩; obtain ⟨g, cap, he, hg0, hg1, _⟩ := Kd.ql6 hN HF.out.2.2.1; injection he with he _ he2; subst he he2; have HN2 := qf.mk hN; have HB2 := qf.mk hb; clear hb hN x0 x1 x2 x3 x4 x5 x6 x7 x8 x9 hg0 hg1)
      | (go_at_call 9; (with_reducible refine (qdz HN2.out H9.out).mono ?_); rintro e w3 ⟨rfl, hb⟩; have HN3 := qf.mk (Kd.qh0 HN2.out hb); have HB3 := qf.mk (jd HB2.out HB2.out.size hb); clear hb; obtain ⟨c, hel⟩ := q7f HN3.out ((at_ : Int) % ((yu d [] n (-1)).length : Int)) hi0 hi1; have z2 : w3.cell? ⟨g, at_ % (yu d [] n (-1)).length * 11 + 2, none⟩ = some (.int .i64 (qz (yu d [] n (-1)) ((at_ : Int) % ((yu d [] n (-1)).length : Int))).f2) := hel.e2; have z3 : w3.cell? ⟨g, at_ % (yu d [] n (-1)).length * 11 + 3, none⟩ = some (.int .i64 (qz (yu d [] n (-1)) ((at_ : Int) % ((yu d [] n (-1)).length : Int))).f3) := hel.e3; have z4 : w3.cell? ⟨g, at_ % (yu d [] n (-1)).length * 11 + 4, none⟩ = some (.int .i64 (qz (yu d [] n (-1)) ((at_ : Int) % ((yu d [] n (-1)).length : Int))).f4) := hel.e4; have HEL := qf.mk hel; clear hel)
      | (refine Kd.qtk k36 (w0 := w1) w1.heap.size rfl rfl 3 (.tmp 93) (.tmp 91) rfl 36 ((at_ : Int) % ((yu d [] n (-1)).length : Int)) 2 (yu d [] n (-1)) { (qz (yu d [] n (-1)) ((at_ : Int) % ((yu d [] n (-1)).length : Int))) with f2 := (qz (yu d [] n (-1)) ((at_ : Int) % ((yu d [] n (-1)).length : Int))).f2 + 16 + by_ } _ [Value.int .i64 ((qz (yu d [] n (-1)) ((at_ : Int) % ((yu d [] n (-1)).length : Int))).f2 + 16 + by_)] c (fun _ => True) (fun k => True ∧ k ≠ g) rfl ?off rfl rfl (by kernel_rfl) (by simp [Value.oneCell']) HN3.out hi0 hi1 HEL.out.len HEL.out.at_ (show 2 + 1 ≤ 11 from by decide) (HEL.out.p2 _) (fun k hk => hk) HB3.out ?_; (case off => rfl); intro w4 hN4 hB4 hg4; have HN4 := qf.mk hN4; have HB4 := qf.mk hB4; clear hN4 hB4 hg4)
      | (go_at_call 8; (with_reducible refine (qom HN4.out (Lay.below HG.out (jd HB1.out.1 HB1.out.1.size HB4.out)) H80.out).mono ?_); rintro e w5 ⟨rfl, hb⟩; have HB5 := qf.mk (jd HB4.out HB4.out.size hb); clear hb))
    go_ret
    exact ⟨rfl, jd HB1.out.1 HB1.out.1.size HB5.out⟩
  have v3 : (which == 3) = false := beq_eq_false_iff_ne.mpr w3
  by_cases w4 : which = 4
  · subst w4
    have H80 : qf (qae.f k ((yu d [] n (-1)).set (Int.toNat ((at_ : Int) % ((yu d [] n (-1)).length : Int))) { (qz (yu d [] n (-1)) ((at_ : Int) % ((yu d [] n (-1)).length : Int))) with f0 := 10 }) = some false) := ⟨H8'.out⟩
    clear H8'
    go_enter Tryd.func5, Tryd.ntmps5
    go_wp2_with (first
      | (go_at_call 7; (with_reducible refine (qad.calls k true _ (Lay.below HG.out HX.out.1) HA.out).mono ?_); rintro e w1 ⟨rfl, hb⟩; have HB1 := qf.mk (And.intro (jd HX.out.1 HX.out.1.size hb) (zl HX.out.2 hb)); clear hb; obtain ⟨x0, x1, x2, x3, x4, x5, x6, x7, x8, x9⟩ := qdo HB1.out.2)
      | (go_at_call 12; (with_reducible refine (qfi d n w1 A7 c7 A8 c8 A9 c9 HF.out.1 HF.out.2.1 (qe6.step HE.out HB1.out.1)).mono ?_); rintro e w2 ⟨A2, c2, rfl, hN, hb⟩; obtain ⟨g, cap, he, hg0, hg1, _⟩ := Kd.ql6 hN HF.out.2.2.1; injection he with he _ he2; subst he he2; have HN2 := qf.mk hN; have HB2 := qf.mk hb; clear hb hN x0 x1 x2 x3 x4 x5 x6 x7 x8 x9 hg0 hg1)
      | (go_at_call 9; (with_reducible refine (qdz HN2.out H9.out).mono ?_); rintro e w3 ⟨rfl, hb⟩; have HN3 := qf.mk (Kd.qh0 HN2.out hb); have HB3 := qf.mk (jd HB2.out HB2.out.size hb); clear hb; obtain ⟨c, hel⟩ := q7f HN3.out ((at_ : Int) % ((yu d [] n (-1)).length : Int)) hi0 hi1; have z2 : w3.cell? ⟨g, at_ % (yu d [] n (-1)).length * 11 + 2, none⟩ = some (.int .i64 (qz (yu d [] n (-1)) ((at_ : Int) % ((yu d [] n (-1)).length : Int))).f2) := hel.e2; have z3 : w3.cell? ⟨g, at_ % (yu d [] n (-1)).length * 11 + 3, none⟩ = some (.int .i64 (qz (yu d [] n (-1)) ((at_ : Int) % ((yu d [] n (-1)).length : Int))).f3) := hel.e3; have z4 : w3.cell? ⟨g, at_ % (yu d [] n (-1)).length * 11 + 4, none⟩ = some (.int .i64 (qz (yu d [] n (-1)) ((at_ : Int) % ((yu d [] n (-1)).length : Int))).f4) := hel.e4; have HEL := qf.mk hel; clear hel)
      | (refine Kd.qtk k36 (w0 := w1) w1.heap.size rfl rfl 3 (.tmp 99) (.const (.int .i64 10)) rfl 36 ((at_ : Int) % ((yu d [] n (-1)).length : Int)) 0 (yu d [] n (-1)) { (qz (yu d [] n (-1)) ((at_ : Int) % ((yu d [] n (-1)).length : Int))) with f0 := 10 } _ [Value.int .i64 (10)] c (fun _ => True) (fun k => True ∧ k ≠ g) rfl ?off rfl rfl (by kernel_rfl) (by simp [Value.oneCell']) HN3.out hi0 hi1 HEL.out.len HEL.out.at_ (show 0 + 1 ≤ 11 from by decide) (HEL.out.p0 _) (fun k hk => hk) HB3.out ?_; (case off => rfl); intro w4 hN4 hB4 hg4; have HN4 := qf.mk hN4; have HB4 := qf.mk hB4; clear hN4 hB4 hg4)
      | (go_at_call 8; (with_reducible refine (qom HN4.out (Lay.below HG.out (jd HB1.out.1 HB1.out.1.size HB4.out)) H80.out).mono ?_); rintro e w5 ⟨rfl, hb⟩; have HB5 := qf.mk (jd HB4.out HB4.out.size hb); clear hb))
    go_ret
    exact ⟨rfl, jd HB1.out.1 HB1.out.1.size HB5.out⟩
  have v4 : (which == 4) = false := beq_eq_false_iff_ne.mpr w4
  have H80 : qf (qae.f k ((yu d [] n (-1)) ++ [⟨13, 0, 0, ((yu d [] n (-1)).length : Int) + 1, -1, ⟨#[]⟩, ⟨0, 0, ⟨#[]⟩, []⟩, []⟩]) = some false) := ⟨by
    have h := H8'.out
    unfold zge at h
    rw [if_neg w0, if_neg w1, if_neg w2, if_neg w3, if_neg w4] at h
    exact h⟩
  have HLX : qf (((yu d [] n (-1)).length + 1) * 136 ≤ 140737488355328) := ⟨by omega⟩
  clear H8' w0 w1 w2 w3 w4
  go_enter Tryd.func5, Tryd.ntmps5
  go_wp2_with (first
      | (go_at_call 7; (with_reducible refine (qad.calls k true _ (Lay.below HG.out HX.out.1) HA.out).mono ?_); rintro e w1 ⟨rfl, hb⟩; have HB1 := qf.mk (And.intro (jd HX.out.1 HX.out.1.size hb) (zl HX.out.2 hb)); clear hb; obtain ⟨x0, x1, x2, x3, x4, x5, x6, x7, x8, x9⟩ := qdo HB1.out.2)
      | (go_at_call 12; (with_reducible refine (qfi d n w1 A7 c7 A8 c8 A9 c9 HF.out.1 HF.out.2.1 (qe6.step HE.out HB1.out.1)).mono ?_); rintro e w2 ⟨A2, c2, rfl, hN, hb⟩; obtain ⟨g, cap, he, hg0, hg1, _⟩ := Kd.ql6 hN HF.out.2.2.1; injection he with he _ he2; subst he he2; have HN2 := qf.mk hN; have HB2 := qf.mk hb; clear hb hN x0 x1 x2 x3 x4 x5 x6 x7 x8 x9 hg0 hg1)
      | (go_at_call 9; (with_reducible refine (qdz HN2.out H9.out).mono ?_); rintro e w3 ⟨rfl, hb⟩; have HN3 := qf.mk (Kd.qh0 HN2.out hb); have HB3 := qf.mk (jd HB2.out HB2.out.size hb); clear hb)
      | (at_builtin; refine Kd.N_append k36 (w0 := w1) (W := w3) w1.heap.size rfl (.tmp 39) (.tmp 44) 22 36 _ 136 rfl Tryd.underlying22 info36 rfl (by decide) (by decide) (.slice (some ⟨g, 0, none⟩) (yu d [] n (-1)).length c2) (yu d [] n (-1)) ⟨13, 0, 0, ((yu d [] n (-1)).length : Int) + 1, -1, ⟨#[]⟩, ⟨0, 0, ⟨#[]⟩, []⟩, []⟩ [Value.int .i64 13, .int .i64 0, .int .i64 0, .int .i64 (((yu d [] n (-1)).length : Int) + 1), .int .i64 (-1), .string ⟨#[]⟩, .int .i64 0, .int .i64 0, .string ⟨#[]⟩, .slice none 0 0, .slice none 0 0] (fun _ => True) (fun _ => False) rfl rfl (qsx _ _ (⟨13, 0, 0, ((yu d [] n (-1)).length : Int) + 1, -1, ⟨#[]⟩, ⟨0, 0, ⟨#[]⟩, []⟩, []⟩ : S36) (Nat.le_refl _) (Kd.zj6 _ _ _) (Nat.le_refl _) (Kd.zj6 _ _ _)) (fun _ h => h.elim) (fun _ _ => trivial) HN3.out HB3.out HB3.out.size HLX.out ?_; intro v4 w4 hN4 hB4 hg4 z1g; obtain ⟨A4, c4, rfl⟩ := Kd.qwu hN4; rw [List.length_append, List.length_singleton] at hN4; have HN4 := qf.mk hN4; have HB4 := qf.mk hB4; clear hN4 hB4 hg4 z1g)
      | (go_at_call 8; (with_reducible refine (qom HN4.out (Lay.below HG.out (jd HB1.out.1 HB1.out.1.size HB4.out)) H80.out).mono ?_); rintro e w5 ⟨rfl, hb⟩; have HB5 := qf.mk (jd HB4.out HB4.out.size hb); clear hb))
  go_ret
  exact ⟨rfl, jd HB1.out.1 HB1.out.1.size HB5.out⟩
end Go.Proofs.YtpgkhmdfddejfaaDoor.PV
end
