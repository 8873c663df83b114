import Derived.Test.YtpgkhmdfddejfaaDoorZXT5
import Derived.Test.YtpgkhmdfddejfaaDoorZXPVx0
section
namespace Go.Proofs.YtpgkhmdfddejfaaDoor.PV
open Go.RowKit Go.Proofs.YtpgkhmdfddejfaaDoorW.PrintWords Go.Proofs.YtpgkhmdfddejfaaDoorW.PrintLast Go.Proofs.YtpgkhmdfddejfaaDoorW.PrintMore
set_option linter.unusedVariables false
set_option linter.unusedSimpArgs false
mutual
/-- The reference's walk: the node at a place, and the place behind it. -/
def rb (l : List S36) : Nat → Int → Int → Option (S30 × Int)
  | 0, _, _ => none
  | f + 1, a, p =>
    if (qz l a).f4 ≠ p ∨ (qz l a).f3 ≤ a ∨ (qz l a).f3 > l.length then some (qcf (qz l a), -1)
    else qbw l f a (qcf (qz l a)) (a + 1)
def qbw (l : List S36) : Nat → Int → S30 → Int → Option (S30 × Int)
  | 0, _, _, _ => none
  | f + 1, a, n, t =>
    if t < (qz l a).f3 then
      (rb l f t a).bind fun q => if q.2 < 0 ∨ q.2 > (qz l a).f3 then some (n, -1) else qbw l f a { n with f5 := n.f5 ++ [q.1] } q.2
    else some (n, t)
end
theorem qv7 (l : List S36) (f : Nat) : (∀ a p n r, rb l f a p = some (n, r) → r < 0 ∨ a < r) ∧ ∀ a m t n r, a < t → qbw l f a m t = some (n, r) → r < 0 ∨ a < r := by
  induction f with
  | zero => exact ⟨fun a p n r h => by simp [rb] at h, fun a m t n r _ h => by simp [qbw] at h⟩
  | succ f ih =>
    refine ⟨fun a p n r h => ?_, fun a m t n r ht h => ?_⟩
    · rw [rb] at h
      split at h
      · injection h with h; injection h with _ h; omega
      · exact ih.2 _ _ _ _ _ (by omega) h
    · rw [qbw] at h
      split at h
      · cases hq : rb l f t a with
        | none => rw [hq] at h; simp at h
        | some q =>
          rw [hq] at h
          simp only [Option.bind_some] at h
          split at h
          · injection h with h; injection h with _ h; omega
          · have := ih.1 _ _ _ _ hq
            exact ih.2 _ _ _ _ _ (by omega) h
      · injection h with h; injection h with _ h; omega
end Go.Proofs.YtpgkhmdfddejfaaDoor.PV
end
section
namespace Go.Proofs.YtpgkhmdfddejfaaDoor.PV
open Go.RowKit Go.Proofs.YtpgkhmdfddejfaaDoorW.PrintWords Go.Proofs.YtpgkhmdfddejfaaDoorW.PrintLast Go.Proofs.YtpgkhmdfddejfaaDoorW.PrintMore
set_option linter.unusedVariables false
set_option linter.unusedSimpArgs false
def qox (base : Nat) (Q : Nat → Prop) (W : World) (ks : List S30) (v : Value) : Prop :=
  ∃ inner, W.ownsRow base 30 10 v ks.length inner ∧ Reps (fun y c => Kd.FK k30 W (fun k => (Q k ∨ base ≤ k) ∧ v.ownBlock ≠ some k) y c) 10 ks inner
theorem qzs (base : Nat) (Q : Nat → Prop) (W : World) : qox base Q W [] (.slice none 0 0) := ⟨[], zf2 _ _ _ _, Reps.none _ _⟩
theorem qv3 {base : Nat} {Q : Nat → Prop} {W W1 : World} {ks : List S30} {v : Value} (h : qox base Q W ks v) (hm : ∀ k, (Q k ∨ base ≤ k) → k < W.heap.size → W1.heap[k]? = W.heap[k]?) : qox base Q W1 ks v := by
  obtain ⟨inner, ho, hr⟩ := h
  exact ⟨inner, qti ho (fun k hk => hm k (.inr (qgb ho k hk)) (qz8 ho k hk)), hr.imp_ (fun y c hy => Kd.qjn (Kd.qhz (Kd.qkr hy) (fun k hk hl => hm k hk.1.1 hl)) (fun k hk => hk.1))⟩
theorem kids_push {base : Nat} {Q : Nat → Prop} {W W0 w1 : World} {ks : List S30} {v v1 : Value} {y : S30} {c inner : List Value}
    (ho0 : W.ownsRow base 30 10 v ks.length inner) (hr : Reps (fun y c => Kd.FK k30 W (fun k => (Q k ∨ base ≤ k) ∧ v.ownBlock ≠ some k) y c) 10 ks inner)
    (hy : Kd.FK k30 W (fun k => (Q k ∨ base ≤ k) ∧ v.ownBlock ≠ some k) y c) (hc : c.length = 10)
    (ho : w1.ownsRow base 30 10 v1 (ks.length + 1) (inner ++ c)) (hg : W.grownBy w1 v.ownBlock) (hat : v1.ownBlock = v.ownBlock ∨ ∃ b, v1.ownBlock = some b ∧ W.heap.size ≤ b) : qox base Q w1 (ks ++ [y]) v1 := by
  have key : ∀ y c, Kd.FK k30 W (fun k => (Q k ∨ base ≤ k) ∧ v.ownBlock ≠ some k) y c → Kd.FK k30 w1 (fun k => (Q k ∨ base ≤ k) ∧ v1.ownBlock ≠ some k) y c := fun y c h => by
    refine Kd.qjn (Kd.qhz (Kd.qkr h) (fun k hk hl => hg.block k hl (fun e => hk.1.2 e.symm))) (fun k hk => ⟨hk.1.1, fun e => ?_⟩)
    rcases hat with hat | ⟨b, hb, hle⟩
    · exact hk.1.2 (hat ▸ e)
    · rw [hb] at e
      injection e with e
      have := hk.2
      omega
  refine ⟨inner ++ c, by rw [List.length_append, List.length_singleton]; exact ho, Reps.snoc (hr.imp_ key) (key y c hy) hc⟩
theorem kids_F {base : Nat} {Q : Nat → Prop} {W : World} {ks : List S30} {v : Value} (h : qox base Q W ks v) :
    ∃ A c, v = .slice A ks.length c ∧ ks.length ≤ c ∧ Kd.F k30 W (fun k => Q k ∨ base ≤ k) A ks.length ks := by
  obtain ⟨inner, ho, hr⟩ := h
  obtain ⟨A, c, hv, hl, hf⟩ := row_F (d := k30) (e := 30) ho hr
  refine ⟨A, c, hv, hl, Kd.qed hf (fun k hk => ?_)⟩
  rcases hk with hk | hk
  · exact hk.1
  · exact .inr (qgb ho k hk)
end Go.Proofs.YtpgkhmdfddejfaaDoor.PV
end
section
namespace Go.Proofs.YtpgkhmdfddejfaaDoor.PV
open Go.RowKit Go.Proofs.YtpgkhmdfddejfaaDoorW.PrintWords Go.Proofs.YtpgkhmdfddejfaaDoorW.PrintLast Go.Proofs.YtpgkhmdfddejfaaDoorW.PrintMore
set_option linter.unusedVariables false
set_option linter.unusedSimpArgs false
theorem flat_FK {Q : Nat → Prop} {w : World} {A : Option Addr} {l : List S36} (h : Kd.F k36 w Q A l.length l) (i : Int) (h0 : 0 ≤ i) (h1 : i < l.length) :
    ∃ ad A9 c9 A10 c10, A = some ad ∧ w.cell? (ad.add (i.toNat * 11)) = some (.int .i64 (qz l i).f0) ∧ w.cell? ⟨(ad.add (i.toNat * 11)).block, (ad.add (i.toNat * 11)).off + 1, none⟩ = some (.int .i64 (qz l i).f1) ∧ w.cell? ⟨(ad.add (i.toNat * 11)).block, (ad.add (i.toNat * 11)).off + 2, none⟩ = some (.int .i64 (qz l i).f2) ∧ w.cell? ⟨(ad.add (i.toNat * 11)).block, (ad.add (i.toNat * 11)).off + 3, none⟩ = some (.int .i64 (qz l i).f3) ∧ w.cell? ⟨(ad.add (i.toNat * 11)).block, (ad.add (i.toNat * 11)).off + 4, none⟩ = some (.int .i64 (qz l i).f4) ∧ w.cell? ⟨(ad.add (i.toNat * 11)).block, (ad.add (i.toNat * 11)).off + 5, none⟩ = some (.string (qz l i).f5) ∧ w.cell? ⟨(ad.add (i.toNat * 11)).block, (ad.add (i.toNat * 11)).off + 6, none⟩ = some (.int .i64 (qz l i).f6.f0) ∧ w.cell? ⟨(ad.add (i.toNat * 11)).block, (ad.add (i.toNat * 11)).off + 7, none⟩ = some (.int .i64 (qz l i).f6.f1) ∧ w.cell? ⟨(ad.add (i.toNat * 11)).block, (ad.add (i.toNat * 11)).off + 8, none⟩ = some (.string (qz l i).f6.f2) ∧ w.cell? ⟨(ad.add (i.toNat * 11)).block, (ad.add (i.toNat * 11)).off + 9, none⟩ = some (.slice A9 (qz l i).f6.f3.length c9) ∧ w.cell? ⟨(ad.add (i.toNat * 11)).block, (ad.add (i.toNat * 11)).off + 10, none⟩ = some (.slice A10 (qz l i).f7.length c10) ∧ (qz l i).f6.f3.length ≤ c9 ∧ Kd.F k27 w Q A9 (qz l i).f6.f3.length (qz l i).f6.f3 ∧ (qz l i).f7.length ≤ c10 ∧ Kd.F k27 w Q A10 (qz l i).f7.length (qz l i).f7 := by
  obtain ⟨ad, c, rfl, hcl, hK, hcc, _⟩ := Kd.F_get h z36 i h0 h1
  obtain ⟨A9, c9, A10, c10, rfl, h9, f9, h10, f10⟩ := qz6 hK
  have hc : ∀ j u, _ → w.cell? (ad.add (i.toNat * 11 + j)) = some u := hcc
  exact ⟨ad, A9, c9, A10, c10, rfl, hc 0 _ rfl, by rw [← qam _ _ 1 (by omega)]; exact hc 1 _ rfl, by rw [← qam _ _ 2 (by omega)]; exact hc 2 _ rfl, by rw [← qam _ _ 3 (by omega)]; exact hc 3 _ rfl, by rw [← qam _ _ 4 (by omega)]; exact hc 4 _ rfl, by rw [← qam _ _ 5 (by omega)]; exact hc 5 _ rfl, by rw [← qam _ _ 6 (by omega)]; exact hc 6 _ rfl, by rw [← qam _ _ 7 (by omega)]; exact hc 7 _ rfl, by rw [← qam _ _ 8 (by omega)]; exact hc 8 _ rfl, by rw [← qam _ _ 9 (by omega)]; exact hc 9 _ rfl, by rw [← qam _ _ 10 (by omega)]; exact hc 10 _ rfl, h9, f9, h10, f10⟩
def RBPost (Q : Nat → Prop) (w : World) (n : S30) (r : Int) (e : Ending) (w' : World) : Prop :=
  ∃ A7 c7 A8 c8 A9 c9, e = .returned (.tuple #[.agg #[.int .i64 n.f0, .int .i64 n.f1, .int .i64 n.f2, .string n.f3, .int .i64 n.f4.f0, .int .i64 n.f4.f1, .string n.f4.f2, .slice A7 n.f4.f3.length c7, .slice A8 n.f5.length c8, .slice A9 n.f6.length c9], .int .i64 r]) ∧
    n.f4.f3.length ≤ c7 ∧ Kd.F k27 w' (fun k => Q k ∨ w.heap.size ≤ k) A7 n.f4.f3.length n.f4.f3 ∧ n.f5.length ≤ c8 ∧ Kd.F k30 w' (fun k => Q k ∨ w.heap.size ≤ k) A8 n.f5.length n.f5 ∧ n.f6.length ≤ c9 ∧ Kd.F k27 w' (fun k => Q k ∨ w.heap.size ≤ k) A9 n.f6.length n.f6 ∧ Below w.heap.size w w'
theorem below_sets {B g : Nat} {a : World} (hb : B ≤ g) : ∀ (vs : List Value) (o : Nat) (w : World), Below B a w → Below B a (w.setCells g o vs)
  | [], _, _, h => h
  | v :: r, o, w, h => by
    rw [World.setCells]
    exact below_sets hb r (o + 1) _ (h.setCell hb _)
theorem below_set10 {B g : Nat} {a w : World} (hb : B ≤ g) (h : Below B a w) (v0 v1 v2 v3 v4 v5 v6 v7 v8 v9 : Value) : Below B a ((((((((((w.setCell ⟨g, 0, none⟩ v0).setCell ⟨g, 1, none⟩ v1).setCell ⟨g, 2, none⟩ v2).setCell ⟨g, 3, none⟩ v3).setCell ⟨g, 4, none⟩ v4).setCell ⟨g, 5, none⟩ v5).setCell ⟨g, 6, none⟩ v6).setCell ⟨g, 7, none⟩ v7).setCell ⟨g, 8, none⟩ v8).setCell ⟨g, 9, none⟩ v9) := below_sets hb [v0, v1, v2, v3, v4, v5, v6, v7, v8, v9] 0 w h
theorem far_set10 {g k : Nat} (w : World) (hk : k ≠ g) (v0 v1 v2 v3 v4 v5 v6 v7 v8 v9 : Value) : ((((((((((w.setCell ⟨g, 0, none⟩ v0).setCell ⟨g, 1, none⟩ v1).setCell ⟨g, 2, none⟩ v2).setCell ⟨g, 3, none⟩ v3).setCell ⟨g, 4, none⟩ v4).setCell ⟨g, 5, none⟩ v5).setCell ⟨g, 6, none⟩ v6).setCell ⟨g, 7, none⟩ v7).setCell ⟨g, 8, none⟩ v8).setCell ⟨g, 9, none⟩ v9).heap[k]? = w.heap[k]? := qdy (w := w) [v0, v1, v2, v3, v4, v5, v6, v7, v8, v9] 0 k hk
theorem q9x (w : World) (o1 o2 o3 : Obj) : Below w.heap.size w (((w.alloc o1).alloc o2).alloc o3) :=
  (((Below.refl w.heap.size w).alloc (Nat.le_refl _) o1).alloc (by simp) o2).alloc (by simp [Nat.add_assoc]) o3
theorem zo4 (w : World) (o1 o2 o3 : Obj) : (((w.alloc o1).alloc o2).alloc o3).heap[w.heap.size]? = some o1 ∧ (((w.alloc o1).alloc o2).alloc o3).heap[w.heap.size + 1]? = some o2 ∧ (((w.alloc o1).alloc o2).alloc o3).heap[w.heap.size + 1 + 1]? = some o3 :=
  ⟨qi (qi (qmi w o1) o2) o3, qi (by simpa using qmi (w.alloc o1) o2) o3, by simpa using qmi ((w.alloc o1).alloc o2) o3⟩
theorem sized3 (w : World) (o1 o2 o3 : Obj) : w.heap.size + 3 ≤ (((w.alloc o1).alloc o2).alloc o3).heap.size := by simp [Nat.add_assoc]
theorem q8j {Q : Nat → Prop} {w wr : World} {l : List S36} {a : Int} {A9 A10 : Option Addr} {c9 c10 : Nat} {ks : List S30} {v : Value} {r : Int} (hB : ∀ k, Q k → k < w.heap.size)
    (hX : (qz l a).f6.f3.length ≤ c9 ∧ Kd.F k27 w Q A9 (qz l a).f6.f3.length (qz l a).f6.f3 ∧ (qz l a).f7.length ≤ c10 ∧ Kd.F k27 w Q A10 (qz l a).f7.length (qz l a).f7)
    (hb : Below w.heap.size w wr) (hk : qox (w.heap.size + 3) Q wr ks v) :
    RBPost Q w { qcf (qz l a) with f5 := ks } r (.returned (.tuple #[.agg #[.int .i64 (qz l a).f0, .int .i64 (qz l a).f1, .int .i64 (qz l a).f2, .string (qz l a).f5, .int .i64 (qz l a).f6.f0, .int .i64 (qz l a).f6.f1, .string (qz l a).f6.f2, .slice A9 (qz l a).f6.f3.length c9, v, .slice A10 (qz l a).f7.length c10], .int .i64 r])) wr := by
  obtain ⟨A8, c8, rfl, hl8, hf8⟩ := kids_F hk
  obtain ⟨h9, f9, h10, f10⟩ := hX
  exact ⟨A9, c9, A8, c8, A10, c10, rfl, h9, Kd.qed (Kd.qes f9 (fun k hk _ => hb.block k (hB k hk))) (fun k hk => .inl hk), hl8, Kd.qed hf8 (fun k hk => hk.imp_right (fun h => by omega)), h10, Kd.qed (Kd.qes f10 (fun k hk _ => hb.block k (hB k hk))) (fun k hk => .inl hk), hb⟩
structure BkJ (l : List S36) (Q : Nat → Prop) (w : World) (A9 A10 : Option Addr) (c9 c10 : Nat) (a : Int) (n : S30) (r : Int) (f : Nat) (k : Nat) (t : Int) (ks : List S30) (v : Value) (wr : World) : Prop where
  fuel : k ≤ f
  go : qbw l k a { qcf (qz l a) with f5 := ks } t = some (n, r)
  at0 : a < t
  count : (ks.length : Int) < t - a
  top : t ≤ l.length
  kids : qox (w.heap.size + 3) Q wr ks v
  g6 : wr.heap[w.heap.size]? = some (.cells #[.int .i64 0, .int .i64 0, .int .i64 0, .string ⟨#[]⟩, .int .i64 0, .int .i64 0, .string ⟨#[]⟩, .slice none 0 0, .slice none 0 0, .slice none 0 0] 30)
  g8 : wr.heap[w.heap.size + 1]? = some (.cells #[.int .i64 (qz l a).f0, .int .i64 (qz l a).f1, .int .i64 (qz l a).f2, .int .i64 (qz l a).f3, .int .i64 (qz l a).f4, .string (qz l a).f5, .int .i64 (qz l a).f6.f0, .int .i64 (qz l a).f6.f1, .string (qz l a).f6.f2, .slice A9 (qz l a).f6.f3.length c9, .slice A10 (qz l a).f7.length c10] 36)
  g9 : wr.heap[w.heap.size + 1 + 1]? = some (.cells #[.int .i64 (qz l a).f0, .int .i64 (qz l a).f1, .int .i64 (qz l a).f2, .string (qz l a).f5, .int .i64 (qz l a).f6.f0, .int .i64 (qz l a).f6.f1, .string (qz l a).f6.f2, .slice A9 (qz l a).f6.f3.length c9, v, .slice A10 (qz l a).f7.length c10] 30)
  below : Below w.heap.size w wr
  size : w.heap.size + 3 ≤ wr.heap.size
set_option maxHeartbeats 4000000 in
set_option maxRecDepth 100000 in
theorem refback_any (Q : Nat → Prop) (A : Option Addr) (c : Nat) (l : List S36) (hc : l.length ≤ c) (hl : l.length ≤ 900000000000) (f : Nat) : ∀ (a p : Int) (n : S30) (r : Int) (w : World), (∀ k, Q k → k < w.heap.size) → Kd.F k36 w Q A l.length l → 0 ≤ a → a < l.length → rb l f a p = some (n, r) →
    Calls Tryd.prog 44 #[.slice A l.length c, .int .i64 a, .int .i64 p] w (RBPost Q w n r) := by
  induction f using Nat.strongRecOn with
  | _ f ih =>
  intro a p n r w hB hF h0 h1 h
  cases f with
  | zero => simp [rb] at h
  | succ f =>
  have qwm := Tryd.underlying30
  have zry := Tryd.underlying36
  obtain ⟨ad, A9, c9, A10, c10, rfl, hx0, hx1, hx2, hx3, hx4, hx5, hx6, hx7, hx8, hx9, zhx, hl9, hf9, zru, zxz⟩ := flat_FK hF a h0 h1
  have IH := qf.mk ih
  have HF := qf.mk hF
  have HB := qf.mk hB
  have HC := qf.mk hc
  have HL := qf.mk hl
  have HX := qf.mk (And.intro hl9 (And.intro hf9 (And.intro zru zxz)))
  have HH := qf.mk h
  clear ih hF hB hc hl9 hf9 zru zxz h
  replace hx0 := ((Below.refl w.heap.size w).alloc (Nat.le_refl _) (.cells #[.int .i64 0, .int .i64 0, .int .i64 0, .string ⟨#[]⟩, .int .i64 0, .int .i64 0, .string ⟨#[]⟩, .slice none 0 0, .slice none 0 0, .slice none 0 0] 30) |>.cell (World.block_lt_of_cell? w _ hx0)).trans hx0
  replace hx1 := ((Below.refl w.heap.size w).alloc (Nat.le_refl _) (.cells #[.int .i64 0, .int .i64 0, .int .i64 0, .string ⟨#[]⟩, .int .i64 0, .int .i64 0, .string ⟨#[]⟩, .slice none 0 0, .slice none 0 0, .slice none 0 0] 30) |>.cell (World.block_lt_of_cell? w _ hx1)).trans hx1
  replace hx2 := ((Below.refl w.heap.size w).alloc (Nat.le_refl _) (.cells #[.int .i64 0, .int .i64 0, .int .i64 0, .string ⟨#[]⟩, .int .i64 0, .int .i64 0, .string ⟨#[]⟩, .slice none 0 0, .slice none 0 0, .slice none 0 0] 30) |>.cell (World.block_lt_of_cell? w _ hx2)).trans hx2
  replace hx3 := ((Below.refl w.heap.size w).alloc (Nat.le_refl _) (.cells #[.int .i64 0, .int .i64 0, .int .i64 0, .string ⟨#[]⟩, .int .i64 0, .int .i64 0, .string ⟨#[]⟩, .slice none 0 0, .slice none 0 0, .slice none 0 0] 30) |>.cell (World.block_lt_of_cell? w _ hx3)).trans hx3
  replace hx4 := ((Below.refl w.heap.size w).alloc (Nat.le_refl _) (.cells #[.int .i64 0, .int .i64 0, .int .i64 0, .string ⟨#[]⟩, .int .i64 0, .int .i64 0, .string ⟨#[]⟩, .slice none 0 0, .slice none 0 0, .slice none 0 0] 30) |>.cell (World.block_lt_of_cell? w _ hx4)).trans hx4
  replace hx5 := ((Below.refl w.heap.size w).alloc (Nat.le_refl _) (.cells #[.int .i64 0, .int .i64 0, .int .i64 0, .string ⟨#[]⟩, .int .i64 0, .int .i64 0, .string ⟨#[]⟩, .slice none 0 0, .slice none 0 0, .slice none 0 0] 30) |>.cell (World.block_lt_of_cell? w _ hx5)).trans hx5
  replace hx6 := ((Below.refl w.heap.size w).alloc (Nat.le_refl _) (.cells #[.int .i64 0, .int .i64 0, .int .i64 0, .string ⟨#[]⟩, .int .i64 0, .int .i64 0, .string ⟨#[]⟩, .slice none 0 0, .slice none 0 0, .slice none 0 0] 30) |>.cell (World.block_lt_of_cell? w _ hx6)).trans hx6
  replace hx7 := ((Below.refl w.heap.size w).alloc (Nat.le_refl _) (.cells #[.int .i64 0, .int .i64 0, .int .i64 0, .string ⟨#[]⟩, .int .i64 0, .int .i64 0, .string ⟨#[]⟩, .slice none 0 0, .slice none 0 0, .slice none 0 0] 30) |>.cell (World.block_lt_of_cell? w _ hx7)).trans hx7
  replace hx8 := ((Below.refl w.heap.size w).alloc (Nat.le_refl _) (.cells #[.int .i64 0, .int .i64 0, .int .i64 0, .string ⟨#[]⟩, .int .i64 0, .int .i64 0, .string ⟨#[]⟩, .slice none 0 0, .slice none 0 0, .slice none 0 0] 30) |>.cell (World.block_lt_of_cell? w _ hx8)).trans hx8
  replace hx9 := ((Below.refl w.heap.size w).alloc (Nat.le_refl _) (.cells #[.int .i64 0, .int .i64 0, .int .i64 0, .string ⟨#[]⟩, .int .i64 0, .int .i64 0, .string ⟨#[]⟩, .slice none 0 0, .slice none 0 0, .slice none 0 0] 30) |>.cell (World.block_lt_of_cell? w _ hx9)).trans hx9
  replace zhx := ((Below.refl w.heap.size w).alloc (Nat.le_refl _) (.cells #[.int .i64 0, .int .i64 0, .int .i64 0, .string ⟨#[]⟩, .int .i64 0, .int .i64 0, .string ⟨#[]⟩, .slice none 0 0, .slice none 0 0, .slice none 0 0] 30) |>.cell (World.block_lt_of_cell? w _ zhx)).trans zhx
  go_enter Tryd.func44, Tryd.ntmps44
  by_cases hbad : (qz l a).f4 ≠ p ∨ (qz l a).f3 ≤ a ∨ (qz l a).f3 > l.length
  · have hres : n = { qcf (qz l a) with f5 := [] } ∧ r = -1 := by
      have h := HH.out
      rw [rb, if_pos hbad] at h
      injection h with h
      injection h with h1 h2
      exact ⟨h1.symm, h2.symm⟩
    obtain ⟨rfl, rfl⟩ := hres
    clear HH
    have HBAD := qf.mk hbad
    clear hbad
    go_wp2
    · (refine bodyPost_ret (v := .tuple #[.agg #[.int .i64 (qz l a).f0, .int .i64 (qz l a).f1, .int .i64 (qz l a).f2, .string (qz l a).f5, .int .i64 (qz l a).f6.f0, .int .i64 (qz l a).f6.f1, .string (qz l a).f6.f2, .slice A9 (qz l a).f6.f3.length c9, .slice none 0 0, .slice A10 (qz l a).f7.length c10], .int .i64 (-1)]) (by simp [results, Tryd.results44, go_sem]) rfl ?_; refine q8j HB.out HX.out ?_ (qzs _ _ _); exact q9x w _ _ _)
    · exact absurd HBAD.out (by rename_i h1 h2 h3; omega)
    · (refine bodyPost_ret (v := .tuple #[.agg #[.int .i64 (qz l a).f0, .int .i64 (qz l a).f1, .int .i64 (qz l a).f2, .string (qz l a).f5, .int .i64 (qz l a).f6.f0, .int .i64 (qz l a).f6.f1, .string (qz l a).f6.f2, .slice A9 (qz l a).f6.f3.length c9, .slice none 0 0, .slice A10 (qz l a).f7.length c10], .int .i64 (-1)]) (by simp [results, Tryd.results44, go_sem]) rfl ?_; refine q8j HB.out HX.out ?_ (qzs _ _ _); exact q9x w _ _ _)
    · (refine bodyPost_ret (v := .tuple #[.agg #[.int .i64 (qz l a).f0, .int .i64 (qz l a).f1, .int .i64 (qz l a).f2, .string (qz l a).f5, .int .i64 (qz l a).f6.f0, .int .i64 (qz l a).f6.f1, .string (qz l a).f6.f2, .slice A9 (qz l a).f6.f3.length c9, .slice none 0 0, .slice A10 (qz l a).f7.length c10], .int .i64 (-1)]) (by simp [results, Tryd.results44, go_sem]) rfl ?_; refine q8j HB.out HX.out ?_ (qzs _ _ _); exact q9x w _ _ _)
  · have c1 : (qz l a).f4 = p := by
      by_cases h : (qz l a).f4 = p
      · exact h
      · exact absurd (.inl h) hbad
    have c2 : a < (qz l a).f3 := by omega
    have c3 : (qz l a).f3 ≤ l.length := by omega
    have hgo : qbw l f a { qcf (qz l a) with f5 := [] } (a + 1) = some (n, r) := by
      have h := HH.out
      rw [rb, if_neg hbad] at h
      exact h
    have HGO := qf.mk hgo
    clear hgo hbad HH
    subst c1
    go_wp2
    go_loopg [10] f (fun k v10 wr => ∃ t ks v, v10 = .int .i64 t ∧ qf (BkJ l Q w A9 A10 c9 c10 a n r f k t ks v wr))
    case atStart => exact ⟨a + 1, [], _, rfl, ⟨⟨Nat.le_refl _, HGO.out, by omega, by show (0 : Int) < a + 1 - a; omega, by omega, qzs _ _ _, (zo4 _ _ _ _).1, (zo4 _ _ _ _).2.1, (zo4 _ _ _ _).2.2, q9x _ _ _ _, sized3 _ _ _ _⟩⟩⟩
    case round =>
      obtain ⟨t, ks, v, rfl, HJ⟩ := hrel
      have hkv := HJ.out.kids
      obtain ⟨A8, c8, rfl, hl8, -⟩ := kids_F hkv
      clear hkv hl8
      have gd8 := HJ.out.g8
      have gd9 := HJ.out.g9
      have gc3 := qb gd8 3
      by_cases hlt : t < (qz l a).f3
      · obtain ⟨k', q1, q2, rfl, hrb, hnext⟩ : ∃ k' q1 q2, gk = k' + 1 ∧ rb l k' t a = some (q1, q2) ∧ (if q2 < 0 ∨ q2 > (qz l a).f3 then some ({ qcf (qz l a) with f5 := ks }, (-1 : Int)) else qbw l k' a { qcf (qz l a) with f5 := ks ++ [q1] } q2) = some (n, r) := by
          have h := HJ.out.go
          cases gk with
          | zero => simp [qbw] at h
          | succ k' =>
            rw [qbw, if_pos hlt] at h
            cases hq : rb l k' t a with
            | none => rw [hq] at h; simp at h
            | some q => rw [hq] at h; exact ⟨k', q.1, q.2, rfl, hq, h⟩
        have HRB := qf.mk hrb
        have HNX := qf.mk hnext
        have HFR : qf (Kd.F k36 wr Q (some ad) l.length l) := ⟨Kd.qes HF.out (fun k hk _ => HJ.out.below.block k (HB.out k hk))⟩
        have HT := qf.mk (show 0 ≤ t ∧ t < (l.length : Int) ∧ k' < f + 1 from by have := HJ.out.at0; have := HJ.out.fuel; omega)
        have HBR := qf.mk (show ∀ k, Q k → k < wr.heap.size from fun k hk => by have := HJ.out.size; have := HB.out k hk; omega)
        clear hrb hnext gd8 gd9
        by_cases hq : q2 < 0 ∨ q2 > (qz l a).f3
        · have hres : n = { qcf (qz l a) with f5 := ks } ∧ r = -1 := by
            have h := HNX.out
            rw [if_pos hq] at h
            injection h with h
            injection h with h1 h2
            exact ⟨h1.symm, h2.symm⟩
          obtain ⟨rfl, rfl⟩ := hres
          go_wp2_with (go_at_call 44; refine (IH.out k' HT.out.2.2 t a q1 q2 wr HBR.out HFR.out HT.out.1 HT.out.2.1 HRB.out).mono ?_; rintro e w6 ⟨A7', c7', A8', c8', A9', c9', rfl, h7, f7, h8, f8, h9, f9, hb6⟩; have HB6 := qf.mk (jd hb6 hb6.size ((Below.refl w6.heap.size w6).alloc (Nat.le_refl _) (.cells #[.int .i64 q1.f0, .int .i64 q1.f1, .int .i64 q1.f2, .string q1.f3, .int .i64 q1.f4.f0, .int .i64 q1.f4.f1, .string q1.f4.f2, .slice A7' q1.f4.f3.length c7', .slice A8' q1.f5.length c8', .slice A9' q1.f6.length c9'] 30))); have HF6 := qf.mk (And.intro h7 (And.intro f7 (And.intro h8 (And.intro f8 (And.intro h9 (And.intro f9 hb6)))))); clear h7 f7 h8 f8 h9 f9 hb6; have gd6 := zl HJ.out.g6 HB6.out; have gd8 := zl HJ.out.g8 HB6.out; have gd9 := zl HJ.out.g9 HB6.out; have gx3 := qb gd8 3; have gc0 := qb gd6 0; have z06 := qa gd6 0; have nc0 := qb gd9 0; have gc1 := qb gd6 1; have z07 := qa gd6 1; have nc1 := qb gd9 1; have gc2 := qb gd6 2; have z08 := qa gd6 2; have nc2 := qb gd9 2; have gc3 := qb gd6 3; have z09 := qa gd6 3; have nc3 := qb gd9 3; have gc4 := qb gd6 4; have z1a := qa gd6 4; have nc4 := qb gd9 4; have gc5 := qb gd6 5; have z1b := qa gd6 5; have nc5 := qb gd9 5; have gc6 := qb gd6 6; have z1c := qa gd6 6; have nc6 := qb gd9 6; have gc7 := qb gd6 7; have z1d := qa gd6 7; have nc7 := qb gd9 7; have gc8 := qb gd6 8; have z1e := qa gd6 8; have nc8 := qb gd9 8; have gc9 := qb gd6 9; have z1f := qa gd6 9; have nc9 := qb gd9 9; clear gd6 gd8 gd9)
          all_goals
            refine bodyPost_ret (v := .tuple #[.agg #[.int .i64 (qz l a).f0, .int .i64 (qz l a).f1, .int .i64 (qz l a).f2, .string (qz l a).f5, .int .i64 (qz l a).f6.f0, .int .i64 (qz l a).f6.f1, .string (qz l a).f6.f2, .slice A9 (qz l a).f6.f3.length c9, .slice A8 ks.length c8, .slice A10 (qz l a).f7.length c10], .int .i64 (-1)]) (by simp [results, Tryd.results44, go_sem, gc0, gc1, gc2, gc3, gc4, gc5, gc6, gc7, gc8, gc9]) rfl ?_
            have HKS := HJ.out.kids
            refine q8j HB.out HX.out ?_ ?_
            · exact below_set10 (Nat.le_refl _) (HJ.out.below.trans (HB6.out.mono (by have := HJ.out.size; omega))) _ _ _ _ _ _ _ _ _ _
            · exact qv3 (qv3 HKS (fun k hk hl => HB6.out.block k hl)) (fun k hk _ => far_set10 _ (by rcases hk with hk | hk; (have := HB.out k hk; omega); omega) _ _ _ _ _ _ _ _ _ _)
        · have hres : qbw l k' a { qcf (qz l a) with f5 := ks ++ [q1] } q2 = some (n, r) := by
            have h := HNX.out
            rw [if_neg hq] at h
            exact h
          have HRES := qf.mk hres
          obtain ⟨inner, ho, hrp⟩ := HJ.out.kids
          have HOWN := qf.mk ho
          have HRP := qf.mk hrp
          have hq0 : ¬ q2 < 0 := fun h => hq (.inl h)
          have hq1 : ¬ (qz l a).f3 < q2 := fun h => hq (.inr h)
          have HLEN := qf.mk (show ks.length ≤ 900000000000 from by have := HJ.out.count; have := HJ.out.top; have := HJ.out.at0; have := HL.out; omega)
          have HKSZ := qf.mk (show w.heap.size + 3 ≤ wr.heap.size from HJ.out.size)
          clear hres ho hrp hq
          go_wp2_with (first | (go_at_call 44; refine (IH.out k' HT.out.2.2 t a q1 q2 wr HBR.out HFR.out HT.out.1 HT.out.2.1 HRB.out).mono ?_; rintro e w6 ⟨A7', c7', A8', c8', A9', c9', rfl, h7, f7, h8, f8, h9, f9, hb6⟩; have HB6 := qf.mk (jd hb6 hb6.size ((Below.refl w6.heap.size w6).alloc (Nat.le_refl _) (.cells #[.int .i64 q1.f0, .int .i64 q1.f1, .int .i64 q1.f2, .string q1.f3, .int .i64 q1.f4.f0, .int .i64 q1.f4.f1, .string q1.f4.f2, .slice A7' q1.f4.f3.length c7', .slice A8' q1.f5.length c8', .slice A9' q1.f6.length c9'] 30))); have HF6 := qf.mk (And.intro h7 (And.intro f7 (And.intro h8 (And.intro f8 (And.intro h9 (And.intro f9 hb6)))))); clear h7 f7 h8 f8 h9 f9 hb6; have gd6 := zl HJ.out.g6 HB6.out; have gd8 := zl HJ.out.g8 HB6.out; have gd9 := zl HJ.out.g9 HB6.out; have gx3 := qb gd8 3; have nc8 := qb gd9 8; clear gd6 gd8 gd9) | (at_builtin; refine qea (w0 := (w6.alloc (.cells #[.int .i64 q1.f0, .int .i64 q1.f1, .int .i64 q1.f2, .string q1.f3, .int .i64 q1.f4.f0, .int .i64 q1.f4.f1, .string q1.f4.f2, .slice A7' q1.f4.f3.length c7', .slice A8' q1.f5.length c8', .slice A9' q1.f6.length c9'] 30))) (w.heap.size + 3) rfl (.tmp 71) (.tmp 73) 28 30 _ 10 144 rfl Tryd.underlying28 zjg rfl (by decide) (by decide) (.slice A8 ks.length c8) ks.length inner _ rfl ?o4 rfl ?o1 (qer HOWN.out HB6.out) (Below.refl _ _) ?o3 ?o2 ?_; (case o1 => intro u_ hu_; simp at hu_; rcases hu_ with rfl | rfl | rfl | rfl | rfl | rfl | rfl | rfl | rfl | rfl <;> rfl); (case o4 => show Value.slice (some ⟨w6.heap.size + 1, 0, none⟩) 1 1 = Value.slice (some ⟨(w6.alloc _).heap.size, 0, none⟩) 1 1; simp); (case o2 => have := HLEN.out; omega); (case o3 => exact Nat.le_trans HKSZ.out HB6.out.size); intro v1 w1 ho1 hb1 hg1 qji; obtain ⟨A1, c1', rfl⟩ := qjj ho1; have gd9 := (hb1.block (w.heap.size + 1 + 1) (by omega)).trans (zl HJ.out.g9 HB6.out); have mc8 := qb gd9 8; have mf8 := qa gd9 8; clear gd9; have HO1 := qf.mk ho1; have HB1 := qf.mk hb1; have HG1 := qf.mk hg1; have q86 := qf.mk qji; clear ho1 hb1 hg1 qji))
          go_roundg k'
          case measure => omega
          case rel =>
            refine ⟨q2, ks ++ [q1], .slice A1 (ks.length + 1) c1', rfl, ⟨⟨by have := HJ.out.fuel; omega, HRES.out, ?_, ?_, ?_, ?_, ?_, ?_, ?_, ?_, ?_⟩⟩⟩
            · have := (qv7 l k').1 t a q1 q2 HRB.out; have := HJ.out.at0; omega
            · have := (qv7 l k').1 t a q1 q2 HRB.out; have := HJ.out.count; rw [List.length_append, List.length_singleton]; omega
            · omega
            · obtain ⟨h7, f7, h8, f8, h9, f9, hb6⟩ := HF6.out
              have hal : ∀ k, k < w6.heap.size → (w6.alloc (.cells #[.int .i64 q1.f0, .int .i64 q1.f1, .int .i64 q1.f2, .string q1.f3, .int .i64 q1.f4.f0, .int .i64 q1.f4.f1, .string q1.f4.f2, .slice A7' q1.f4.f3.length c7', .slice A8' q1.f5.length c8', .slice A9' q1.f6.length c9'] 30)).heap[k]? = w6.heap[k]? := fun k hk => Below.heap_alloc w6 _ k hk
              have hv : ∀ k, (Value.slice A8 ks.length c8).ownBlock = some k → w.heap.size + 3 ≤ k ∧ k < wr.heap.size := fun k hk => ⟨qgb HOWN.out k hk, qz8 HOWN.out k hk⟩
              have hok : ∀ k, (Q k ∨ wr.heap.size ≤ k) → (Q k ∨ w.heap.size + 3 ≤ k) ∧ (Value.slice A8 ks.length c8).ownBlock ≠ some k := fun k hk => by
                have := HKSZ.out
                refine ⟨hk.imp_right (fun h => by omega), fun e => ?_⟩
                have := hv k e
                rcases hk with hk | hk
                · have := HB.out k hk
                  omega
                · omega
              refine qv3 (kids_push (W0 := w) (Q := Q) (base := w.heap.size + 3) (qer HOWN.out HB6.out) (HRP.out.imp_ (fun y c hy => Kd.qjn (Kd.qhz (Kd.qkr hy) (fun k hk hl => HB6.out.block k hl)) (fun k hk => hk.1))) (y := q1) (c := [.int .i64 q1.f0, .int .i64 q1.f1, .int .i64 q1.f2, .string q1.f3, .int .i64 q1.f4.f0, .int .i64 q1.f4.f1, .string q1.f4.f2, .slice A7' q1.f4.f3.length c7', .slice A8' q1.f5.length c8', .slice A9' q1.f6.length c9']) (Kd.qjn (Kd.qhz (Kd.qkr (k30_mkF w6 _ q1 h7 f7 h8 f8 h9 f9)) (fun k hk hl => hal k hl)) (fun k hk => hok k hk.1)) rfl HO1.out HG1.out q86.out) (fun k hk _ => Below.heap_setCell _ _ _ k (by show k ≠ w.heap.size + 1 + 1; rcases hk with hk | hk; (have := HB.out k hk; omega); omega))
            · exact jb ((HB1.out.block _ (by omega)).trans (zl HJ.out.g6 HB6.out)) (by show w.heap.size ≠ w.heap.size + 1 + 1; omega) _
            · exact jb ((HB1.out.block _ (by omega)).trans (zl HJ.out.g8 HB6.out)) (by show w.heap.size + 1 ≠ w.heap.size + 1 + 1; omega) _
            · exact jc ((HB1.out.block _ (by omega)).trans (zl HJ.out.g9 HB6.out)) 8 _ rfl
            · exact Below.setCell ((HJ.out.below.trans (HB6.out.mono (by have := HKSZ.out; omega))).trans (HB1.out.mono (by omega))) (by show w.heap.size ≤ w.heap.size + 1 + 1; omega) _
            · have := HKSZ.out; have := HB6.out.size; have := HB1.out.size; rw [World.size_setCell]; omega
      · have hres : n = { qcf (qz l a) with f5 := ks } ∧ r = t := by
          have h := HJ.out.go
          cases gk with
          | zero => simp [qbw] at h
          | succ k' =>
            rw [qbw, if_neg hlt] at h
            injection h with h
            injection h with h1 h2
            exact ⟨h1.symm, h2.symm⟩
        obtain ⟨rfl, rfl⟩ := hres
        have gd6 := HJ.out.g6
        have gc0 := qb gd6 0
        have z06 := qa gd6 0
        have gc1 := qb gd6 1
        have z07 := qa gd6 1
        have gc2 := qb gd6 2
        have z08 := qa gd6 2
        have gc3 := qb gd6 3
        have z09 := qa gd6 3
        have gc4 := qb gd6 4
        have z1a := qa gd6 4
        have gc5 := qb gd6 5
        have z1b := qa gd6 5
        have gc6 := qb gd6 6
        have z1c := qa gd6 6
        have gc7 := qb gd6 7
        have z1d := qa gd6 7
        have gc8 := qb gd6 8
        have z1e := qa gd6 8
        have gc9 := qb gd6 9
        have z1f := qa gd6 9
        have nc0 := qb gd9 0
        have z4p := qa gd9 0
        have nc1 := qb gd9 1
        have z4q := qa gd9 1
        have nc2 := qb gd9 2
        have z4r := qa gd9 2
        have nc3 := qb gd9 3
        have z4s := qa gd9 3
        have nc4 := qb gd9 4
        have z4t := qa gd9 4
        have nc5 := qb gd9 5
        have z4u := qa gd9 5
        have nc6 := qb gd9 6
        have z4v := qa gd9 6
        have nc7 := qb gd9 7
        have z4w := qa gd9 7
        have nc8 := qb gd9 8
        have z4x := qa gd9 8
        have nc9 := qb gd9 9
        have z4y := qa gd9 9
        clear gd6 gd8 gd9
        go_wp2
        refine bodyPost_ret (v := .tuple #[.agg #[.int .i64 (qz l a).f0, .int .i64 (qz l a).f1, .int .i64 (qz l a).f2, .string (qz l a).f5, .int .i64 (qz l a).f6.f0, .int .i64 (qz l a).f6.f1, .string (qz l a).f6.f2, .slice A9 (qz l a).f6.f3.length c9, .slice A8 ks.length c8, .slice A10 (qz l a).f7.length c10], .int .i64 r]) (by simp [results, Tryd.results44, go_sem, gc0, gc1, gc2, gc3, gc4, gc5, gc6, gc7, gc8, gc9]) rfl ?_
        have HKS := HJ.out.kids
        refine q8j HB.out HX.out ?_ ?_
        · exact below_set10 (Nat.le_refl _) HJ.out.below _ _ _ _ _ _ _ _ _ _
        · exact qv3 HKS (fun k hk _ => far_set10 _ (by rcases hk with hk | hk; (have := HB.out k hk; omega); omega) _ _ _ _ _ _ _ _ _ _)
end Go.Proofs.YtpgkhmdfddejfaaDoor.PV
end
