import Derived.Test.YtpgkhmdfddejfaaDoorZXPVx0
import Derived.Test.YtpgkhmdfddejfaaDoorZXPVx1
import Derived.Deep.RegionLaw
import Derived.Scope
import Derived.WalkMore
import Derived.Control
section
namespace Go.Proofs.YtpgkhmdfddejfaaDoor.PV
open Go.RowKit Go.Proofs.YtpgkhmdfddejfaaDoorW.PrintWords Go.Proofs.YtpgkhmdfddejfaaDoorW.PrintLast Go.Proofs.YtpgkhmdfddejfaaDoorW.PrintMore
set_option linter.unusedVariables false
set_option linter.unusedSimpArgs false
inductive qhu : S27 → Prop
  | mk (x : S27) (h : x.f3.length ≤ 2000000000) (hn : -9223372036854775808 ≤ x.f1) (hs : x.f2.size ≤ 2000000000) (hk : ∀ y ∈ x.f3, qhu y) : qhu x
theorem zf0 {α : Type} {f : Nat → Option α} (h : ∀ k, LeO (f k) (f (k + 1))) {r : α} {k : Nat} (hk : f k = some r) : ∀ m, k ≤ m → f m = some r := by
  intro m hm
  induction hm with
  | refl => exact hk
  | step _ ih => exact h _ _ ih
theorem copies_run (l : List S27) (hl : l.length ≤ 2000000000) (k0 : Nat) (hk : ∀ y ∈ l, ∀ m, k0 ≤ m → qar.f m y.f0 y.f1 y.f2 y.f3 = some (y.f0, y.f1, y.f2, y.f3)) :
    ∀ d i, i + d = l.length → jg.l0 (k0 + d + 1) (l.take i) l (l.length : Int) (i : Int) = some l := by
  intro d
  induction d with
  | zero =>
    intro i hi
    rw [jg.l0, if_neg (by omega), List.take_of_length_le (by omega)]
  | succ d ih =>
    intro i hi
    have hlt : i < l.length := by omega
    have hrd : zf l (i : Int) = l[i] := by simp [zf, hlt]
    have hw : wrap64 ((i : Int) + 1) = ((i + 1 : Nat) : Int) := by
      rw [show ((i + 1 : Nat) : Int) = (i : Int) + 1 from by omega]
      simp only [wrap64]
      omega
    rw [jg.l0, if_pos (by omega), if_pos (by omega), if_pos (by omega), hrd, hk _ (List.getElem_mem hlt) _ (by omega), Option.bind_some, if_pos (by rw [List.length_take]; omega), hw]
    have := ih (i + 1) (by omega)
    rw [List.take_succ_eq_append_getElem hlt] at this
    have he : ∀ (y : S27), (⟨(y.f0, y.f1, y.f2, y.f3).1, (y.f0, y.f1, y.f2, y.f3).2.1, (y.f0, y.f1, y.f2, y.f3).2.2.1, (y.f0, y.f1, y.f2, y.f3).2.2.2⟩ : S27) = y := fun y => by cases y; rfl
    rw [show k0 + (d + 1) = k0 + d + 1 from rfl, he]
    exact this
theorem copies_id (l : List S27) (hl : l.length ≤ 2000000000) (hk : ∀ y ∈ l, ∃ k, qar.f k y.f0 y.f1 y.f2 y.f3 = some (y.f0, y.f1, y.f2, y.f3)) : ∃ k, jg.f k l = some l := by
  have hb : ∃ k0, ∀ y ∈ l, ∀ m, k0 ≤ m → qar.f m y.f0 y.f1 y.f2 y.f3 = some (y.f0, y.f1, y.f2, y.f3) := by
    clear hl
    induction l with
    | nil => exact ⟨0, fun y hy => by cases hy⟩
    | cons a t ih =>
      obtain ⟨k1, h1⟩ := hk a (by simp)
      obtain ⟨k2, h2⟩ := ih (fun y hy => hk y (by simp [hy]))
      refine ⟨k1 + k2, fun y hy m hm => ?_⟩
      rcases List.mem_cons.1 hy with rfl | hy
      · exact zf0 (f := fun k => qar.f k y.f0 y.f1 y.f2 y.f3) (fun k => qar.mono _ _ _ _ _) h1 m (by omega)
      · exact h2 y hy m (by omega)
  obtain ⟨k0, h0⟩ := hb
  refine ⟨k0 + l.length + 1 + 1, ?_⟩
  have := copies_run l hl k0 h0 l.length 0 (by omega)
  rw [jg.f]
  exact this
def qta (x : S36) : Prop := x.f5.size ≤ 2000000000 ∧ qhu x.f6 ∧ x.f7.length ≤ 2000000000 ∧ ∀ y ∈ x.f7, qhu y
end Go.Proofs.YtpgkhmdfddejfaaDoor.PV
end
section
namespace Go.Proofs.YtpgkhmdfddejfaaDoor.PV
open Go.RowKit Go.Proofs.YtpgkhmdfddejfaaDoorW.PrintWords Go.Proofs.YtpgkhmdfddejfaaDoorW.PrintLast Go.Proofs.YtpgkhmdfddejfaaDoorW.PrintMore
set_option linter.unusedVariables false
set_option linter.unusedSimpArgs false
theorem zjg : (Tryd.prog.info? 30).map (fun i => (i.zero, i.size, i.bytes)) = some (some (.agg #[(.int .i64 0), (.int .i64 0), (.int .i64 0), (.string ⟨#[]⟩), (.int .i64 0), (.int .i64 0), (.string ⟨#[]⟩), (.slice none 0 0), (.slice none 0 0), (.slice none 0 0)]), 10, 144) := by kernel_rfl
theorem q8i {w : World} {base : Nat} {e : TypeId} {size n : Nat} {v : Value} {xs : List Value} (h : w.ownsRow base e size v n xs) : w.drew.ownsRow base e size v n xs := qer h (qf5 (Below.refl _ _))
def ql5 (w0 w : World) (b j cap : Nat) (cs : Array Value) (v8 : Value) (m : Nat) (xs : List Value) (e : Ending) (w' : World) : Prop :=
  ∃ A1 c1, e = .returned (.slice (some ⟨b, 0, none⟩) (j + 1) cap) ∧ w'.heap[b]? = some (.cells (cs.setIfInBounds (j * 11 + 9) (.slice A1 (m + 1) c1)) 124 (0, 0)) ∧
    w'.ownsRow w0.heap.size 30 10 (.slice A1 (m + 1) c1) (m + 1) xs ∧ Below w0.heap.size w0 w' ∧ (∀ i, i < w.heap.size → i ≠ b → some i ≠ v8.ownBlock → w'.heap[i]? = w.heap[i]?) ∧ w.heap.size ≤ w'.heap.size ∧
    ((Value.slice A1 (m + 1) c1).ownBlock = v8.ownBlock ∨ ∃ g, (Value.slice A1 (m + 1) c1).ownBlock = some g ∧ w.heap.size ≤ g) ∧ some b ≠ (Value.slice A1 (m + 1) c1).ownBlock
theorem own_last {w : World} {base g m c e size : Nat} {inner zs ck : List Value} (h : w.ownsRow base e size (.slice (some ⟨g, 0, none⟩) (m + 1) c) (m + 1) (inner ++ zs)) (hi : inner.length = m * size) (hk : ck.length = size) :
    (w.setCells g (m * size) ck).ownsRow base e size (.slice (some ⟨g, 0, none⟩) (m + 1) c) (m + 1) (inner ++ ck) := by
  obtain ⟨h1, h2⟩ := h
  rcases h2 with ⟨h2, _⟩ | ⟨g', cap', cur, he, hg, hh, hc, hcm, hcs, ht⟩
  · cases h2
  · injection he with he _ hcap
    injection he with he
    injection he with he _
    subst he
    subst hcap
    have hfit : m * size + ck.length ≤ cur.size := by
      rw [hcs, hk]
      have : (m + 1) * size ≤ c * size := Nat.mul_le_mul_right _ hc
      rw [Nat.add_mul, Nat.one_mul] at this
      exact this
    obtain ⟨cur', h3, h4, h5⟩ := qs1 ck (m * size) w cur hh hfit
    refine ⟨by rw [List.length_append, hi, hk, Nat.add_mul, Nat.one_mul], .inr ⟨g, c, cur', rfl, hg, h3, hc, hcm, by rw [h4, hcs], ?_⟩⟩
    have htk : cur.toList.take (m * size) = inner := by
      have := congrArg (List.take (m * size)) ht
      rw [List.take_take, Nat.min_eq_left (by rw [Nat.add_mul]; omega)] at this
      rw [this, List.take_append_of_le_length (by omega), List.take_of_length_le (by omega)]
    have hlen : (inner ++ ck).length = (m + 1) * size := by rw [List.length_append, hi, hk, Nat.add_mul, Nat.one_mul]
    rw [h5, htk, List.take_append_of_le_length (by omega), List.take_of_length_le (by omega)]
theorem qv5 {w : World} {base : Nat} {e : TypeId} {size m : Nat} {v : Value} {xs : List Value} (h : w.ownsRow base e size v (m + 1) xs) :
    ∃ g c cur, v = .slice (some ⟨g, 0, none⟩) (m + 1) c ∧ w.heap[g]? = some (.cells cur e (0, 0)) ∧ (m + 1) * size ≤ cur.size ∧ base ≤ g := by
  rcases h.2 with ⟨_, h2⟩ | ⟨g, cap, cur, he, hg, hh, hc, hcm, hcs, ht⟩
  · omega
  · exact ⟨g, cap, cur, he, hh, by rw [hcs]; exact Nat.mul_le_mul_right _ hc, hg⟩
theorem closed_end {w0 w W1 w1 : World} {b j cap m c1 : Nat} {cs : Array Value} {v8 : Value} {A1 : Option Addr} {xs : List Value} (HB1 : Below w.heap.size w W1) (hle : w0.heap.size ≤ w.heap.size) (hbb : w0.heap.size ≤ b) (hbl : b < w.heap.size) (hne : some b ≠ v8.ownBlock)
    (n1 : w1.ownsRow w0.heap.size 30 10 (.slice A1 (m + 1) c1) (m + 1) xs) (n2 : Below w0.heap.size w0 w1) (n3 : W1.grownBy w1 v8.ownBlock)
    (n4 : (Value.slice A1 (m + 1) c1).ownBlock = v8.ownBlock ∨ ∃ g, (Value.slice A1 (m + 1) c1).ownBlock = some g ∧ W1.heap.size ≤ g) (n5 : w1.heap[b]? = some (.cells cs 124 (0, 0))) :
    ql5 w0 w b j cap cs v8 m xs (.returned (.slice (some ⟨b, 0, none⟩) (j + 1) cap)) (w1.setCell ⟨b, j * 11 + 1 + 8, none⟩ (.slice A1 (m + 1) c1)) := by
  have hsz : (w1.setCell ⟨b, j * 11 + 1 + 8, none⟩ (.slice A1 (m + 1) c1)).heap.size = w1.heap.size := by simp [World.setCell]
  have hnb : some b ≠ (Value.slice A1 (m + 1) c1).ownBlock := by
    rcases n4 with n4 | ⟨g, hg, hgl⟩
    · rw [n4]; exact hne
    · rw [hg]
      intro he
      injection he with he
      have := HB1.size
      omega
  have h1 : w1.heap.size ≥ w.heap.size := Nat.le_trans HB1.size n3.size
  refine ⟨A1, c1, rfl, q0p n5 _ _, qti n1 (fun k hk => Below.heap_setCell _ _ _ _ ?_), ql n2 hbb, fun i hi hib hiv => ?_, by rw [hsz]; exact h1, ?_, hnb⟩
  · rintro rfl
    exact hnb hk.symm
  · rw [Below.heap_setCell _ _ _ _ (by simpa using hib), n3.block i (Nat.lt_of_lt_of_le hi HB1.size) hiv, HB1.block i hi]
  · rcases n4 with n4 | ⟨g, hg, hgl⟩
    · exact .inl n4
    · exact .inr ⟨g, hg, Nat.le_trans HB1.size hgl⟩
theorem closed_end2 {w0 w W1 w1 : World} {b j cap m c1 g1 : Nat} {cs : Array Value} {v8 : Value} {inner zs ck : List Value} (HB1 : Below w.heap.size w W1) (hle : w0.heap.size ≤ w.heap.size) (hbb : w0.heap.size ≤ b) (hbl : b < w.heap.size) (hne : some b ≠ v8.ownBlock) (hzs : zs.length = 10) (hck : ck.length = 10)
    (n1 : w1.ownsRow w0.heap.size 30 10 (.slice (some ⟨g1, 0, none⟩) (m + 1) c1) (m + 1) (inner ++ zs)) (n2 : Below w0.heap.size w0 w1) (n3 : W1.grownBy w1 v8.ownBlock)
    (n4 : (Value.slice (some ⟨g1, 0, none⟩) (m + 1) c1).ownBlock = v8.ownBlock ∨ ∃ g, (Value.slice (some ⟨g1, 0, none⟩) (m + 1) c1).ownBlock = some g ∧ W1.heap.size ≤ g) (n5 : w1.heap[b]? = some (.cells cs 124 (0, 0))) :
    ql5 w0 w b j cap cs v8 m (inner ++ ck) (.returned (.slice (some ⟨b, 0, none⟩) (j + 1) cap)) ((w1.setCell ⟨b, j * 11 + 1 + 8, none⟩ (.slice (some ⟨g1, 0, none⟩) (m + 1) c1)).setCells g1 (m * 10) ck) := by
  have hi : inner.length = m * 10 := by have := n1.1; rw [List.length_append, hzs] at this; omega
  obtain ⟨A, c, he, h1, h2, h3, h4, h5, h6, h7⟩ := closed_end (j := j) (cap := cap) HB1 hle hbb hbl hne n1 n2 n3 n4 n5
  have hgb : g1 ≠ b := by
    rintro rfl
    rcases n4 with n4 | ⟨g, hg, hgl⟩
    · rw [← n4] at hne; exact hne rfl
    · have hg2 : g1 = g := by simpa [Value.ownBlock] using hg
      have := HB1.size
      omega
  have hn1 := qti (w1 := w1.setCell ⟨b, j * 11 + 1 + 8, none⟩ (.slice (some ⟨g1, 0, none⟩) (m + 1) c1)) n1 (fun k hk => Below.heap_setCell _ _ _ _ (by simp [Value.ownBlock] at hk; subst hk; exact hgb))
  obtain ⟨s1, s2, s3, s4⟩ := qoc g1 ck (m * 10) (w1.setCell ⟨b, j * 11 + 1 + 8, none⟩ (.slice (some ⟨g1, 0, none⟩) (m + 1) c1))
  have hb3 : Below w0.heap.size w0 (w1.setCell ⟨b, j * 11 + 1 + 8, none⟩ (.slice (some ⟨g1, 0, none⟩) (m + 1) c1)) := ql n2 hbb
  have hgbase : w0.heap.size ≤ g1 := qgb n1 g1 rfl
  have hbs : (w1.setCell ⟨b, j * 11 + 1 + 8, none⟩ (.slice (some ⟨g1, 0, none⟩) (m + 1) c1)).heap[b]? = some (.cells (cs.setIfInBounds (j * 11 + 9) (.slice (some ⟨g1, 0, none⟩) (m + 1) c1)) 124 (0, 0)) := q0p n5 _ _
  refine ⟨some ⟨g1, 0, none⟩, c1, rfl, by rw [qdy _ _ _ (Ne.symm hgb)]; exact hbs, own_last hn1 hi hck, ⟨s1.trans hb3.os, s2.trans hb3.tape, s3.trans hb3.output, by rw [s4]; exact hb3.size, fun i hi' => by rw [qdy _ _ _ (by omega)]; exact hb3.block i hi'⟩, fun i hi' hib hiv => ?_, by rw [s4]; simpa [World.setCell] using h5, ?_, by simpa [Value.ownBlock] using Ne.symm hgb⟩
  · have hig : i ≠ g1 := by
      rintro rfl
      rcases n4 with n4 | ⟨g, hg, hgl⟩
      · exact hiv n4
      · have hg2 : i = g := by simpa [Value.ownBlock] using hg
        have := HB1.size
        omega
    rw [qdy _ _ _ hig]
    exact h4 i hi' hib hiv
  · rcases n4 with n4 | ⟨g, hg, hgl⟩
    · exact .inl n4
    · exact .inr ⟨g, hg, Nat.le_trans HB1.size hgl⟩
set_option maxHeartbeats 800000 in
set_option maxRecDepth 100000 in
theorem closed_raw (w0 : World) (j : Nat) (b cap : Nat) (w : World) (HB0 : Below w0.heap.size w0 w) (hle : w0.heap.size ≤ w.heap.size) (inner : List Value) (hbb : w0.heap.size ≤ b) (hj : j + 2 ≤ 9223372036854775807) (hcap : j + 2 ≤ cap) (cs : Array Value) (hb : w.heap[b]? = some (.cells cs 124 (0, 0)))
    (A8 : Option Addr) (m c8 : Nat) (HO : w.ownsRow w0.heap.size 30 10 (.slice A8 m c8) m inner) (hm : (m + 1) * 144 ≤ 140737488355328) (hne : some b ≠ (Value.slice A8 m c8).ownBlock) (h8 : cs[j * 11 + 9]? = some (.slice A8 m c8)) (n0 n1 n2 : Int) (n3 : ByteArray) (n4 n5 : Int) (n6 : ByteArray) (B7 B8 B9 : Option Addr) (l7 k7 l8 k8 l9 k9 : Nat)
    (e0 : cs[(j + 1) * 11 + 1]? = some (.int .i64 n0)) (e1 : cs[(j + 1) * 11 + 2]? = some (.int .i64 n1)) (e2 : cs[(j + 1) * 11 + 3]? = some (.int .i64 n2)) (e3 : cs[(j + 1) * 11 + 4]? = some (.string n3))
    (e4 : cs[(j + 1) * 11 + 5]? = some (.int .i64 n4)) (e5 : cs[(j + 1) * 11 + 6]? = some (.int .i64 n5)) (e6 : cs[(j + 1) * 11 + 7]? = some (.string n6)) (e7 : cs[(j + 1) * 11 + 8]? = some (.slice B7 l7 k7)) (e8 : cs[(j + 1) * 11 + 9]? = some (.slice B8 l8 k8)) (e9 : cs[(j + 1) * 11 + 10]? = some (.slice B9 l9 k9)) :
    Calls Tryd.prog 66 #[.slice (some ⟨b, 0, none⟩) (j + 2) cap] w (ql5 w0 w b j cap cs (.slice A8 m c8) m (inner ++ [.int .i64 n0, .int .i64 n1, .int .i64 n2, .string n3, .int .i64 n4, .int .i64 n5, .string n6, .slice B7 l7 k7, .slice B8 l8 k8, .slice B9 l9 k9])) := by
  have qwm := Tryd.underlying30
  have zyo := Tryd.underlying124
  have HBK := qf.mk hb
  have HOW := qf.mk HO
  have HB0' := qf.mk HB0
  have HLE := qf.mk hle
  have HM := qf.mk hm
  have HNE := qf.mk hne
  clear hne HO HB0 hle hm
  have HF := qf.mk (And.intro h8 (And.intro e0 (And.intro e1 (And.intro e2 (And.intro e3 (And.intro e4 (And.intro e5 (And.intro e6 (And.intro e7 (And.intro e8 e9))))))))))
  clear hb h8 e0 e1 e2 e3 e4 e5 e6 e7 e8 e9
  have hwr : IntKind.i64.wrap ((j : Int) + 2 - 1 - 1) = (j : Int) := by rw [IntWalk.i64_in _ (by omega)]; omega
  have hlo : (0 : Int) ≤ (j : Int) + 2 - 1 := by omega
  have hhi : (j : Int) + 2 - 1 < (j : Int) + 2 := by omega
  have htn : ((j : Int) + 2 - 1).toNat = j + 1 := by omega
  have hlo1 : (1 : Int) ≤ (j : Int) + 2 := by omega
  have hj2 : (j : Int) < (j : Int) + 2 := by omega
  go_enter Tryd.func66, Tryd.ntmps66
  go_wp2_with fail
  go_region
  all_goals go_wp2_with fail
  · generalize hW : (w.alloc (Obj.cells #[Value.bool false] 4)).drew = W1
    have HB1 := qf.mk (show Below w.heap.size w W1 by rw [← hW]; exact qf5 (qg (Below.refl _ _) _))
    clear hW
    have hb1 : W1.heap[b]? = some (.cells cs 124 (0, 0)) := (HB1.out.block b (qax HBK.out)).trans HBK.out
    have hc : ∀ i v, cs[i]? = some v → W1.cell? ⟨b, i, none⟩ = some v := fun i v h => (qb hb1 i).trans h
    have ck8 := hc _ _ HF.out.1
    have c0 := hc _ _ HF.out.2.1
    have c1 := hc _ _ HF.out.2.2.1
    have c2 := hc _ _ HF.out.2.2.2.1
    have c3 := hc _ _ HF.out.2.2.2.2.1
    have c4 := hc _ _ HF.out.2.2.2.2.2.1
    have c5 := hc _ _ HF.out.2.2.2.2.2.2.1
    have c6 := hc _ _ HF.out.2.2.2.2.2.2.2.1
    have c7 := hc _ _ HF.out.2.2.2.2.2.2.2.2.1
    have c8' := hc _ _ HF.out.2.2.2.2.2.2.2.2.2.1
    have c9 := hc _ _ HF.out.2.2.2.2.2.2.2.2.2.2
    have zuy := qf.mk hb1
    have ca8 : (W1.alloc (.cells #[.int .i64 n0, .int .i64 n1, .int .i64 n2, .string n3, .int .i64 n4, .int .i64 n5, .string n6, .slice B7 l7 k7, .slice B8 l8 k8, .slice B9 l9 k9] 30)).cell? ⟨b, j * 11 + 1 + 8, none⟩ = some (.slice A8 m c8) := (qb (qi hb1 _) _).trans HF.out.1
    clear hc hb1
    have HO1 := qf.mk (qer HOW.out HB1.out)
    have HB2 := qf.mk (jd HB0'.out HLE.out HB1.out)
    have HL2 := qf.mk (Nat.le_trans HLE.out HB1.out.size)
    go_region_law (refine step_append_cells (w0 := w0) (W := W1.drew) w0.heap.size (by rfl) (.tmp 40) (.tmp 46) 28 30 _ 10 144 rfl Tryd.underlying28 zjg rfl (by decide) (by decide) (.slice A8 m _) m inner [.int .i64 n0, .int .i64 n1, .int .i64 n2, .string n3, .int .i64 n4, .int .i64 n5, .string n6, .slice B7 l7 k7, .slice B8 l8 k8, .slice B9 l9 k9] rfl rfl rfl ?one (q8i HO1.out) (qf5 HB2.out) HL2.out HM.out ?_; (case one => intro u hu; simp at hu; rcases hu with rfl | rfl | rfl | rfl | rfl | rfl | rfl | rfl | rfl | rfl <;> first | rfl); intro v1 w1 ho1 hb1 hg1 qji; obtain ⟨A1, c1, rfl⟩ := qjj ho1; have hbb := qz2 (w := W1.drew) (g := b) (show W1.drew.heap[b]? = _ from zuy.out) hg1 HNE.out; have hcc := (qb hbb (j * 11 + 1 + 8)).trans HF.out.1; have hff := qa hbb (j * 11 + 1 + 8); have n1_ := qf.mk ho1; have n2_ := qf.mk hb1; have n3_ := qf.mk hg1; have n4_ := qf.mk qji; have n5_ := qf.mk hbb; clear ho1 hb1 hg1 qji hbb)
    all_goals
      go_wp2
      go_ret
      exact closed_end HB1.out HLE.out hbb (qax HBK.out) HNE.out n1_.out n2_.out ⟨n3_.out.os, n3_.out.tape, n3_.out.output, n3_.out.size, n3_.out.block⟩ n4_.out n5_.out
  · generalize hW : (w.alloc (Obj.cells #[Value.bool true] 4)).drew = W1
    have HB1 := qf.mk (show Below w.heap.size w W1 by rw [← hW]; exact qf5 (qg (Below.refl _ _) _))
    clear hW
    have hb1 : W1.heap[b]? = some (.cells cs 124 (0, 0)) := (HB1.out.block b (qax HBK.out)).trans HBK.out
    have hc : ∀ i v, cs[i]? = some v → W1.cell? ⟨b, i, none⟩ = some v := fun i v h => (qb hb1 i).trans h
    have ck8 := hc _ _ HF.out.1
    have c0 := hc _ _ HF.out.2.1
    have c1 := hc _ _ HF.out.2.2.1
    have c2 := hc _ _ HF.out.2.2.2.1
    have c3 := hc _ _ HF.out.2.2.2.2.1
    have c4 := hc _ _ HF.out.2.2.2.2.2.1
    have c5 := hc _ _ HF.out.2.2.2.2.2.2.1
    have c6 := hc _ _ HF.out.2.2.2.2.2.2.2.1
    have c7 := hc _ _ HF.out.2.2.2.2.2.2.2.2.1
    have c8' := hc _ _ HF.out.2.2.2.2.2.2.2.2.2.1
    have c9 := hc _ _ HF.out.2.2.2.2.2.2.2.2.2.2
    have zuy := qf.mk hb1
    have hba := qi (o' := (.cells #[.int .i64 0, .int .i64 0, .int .i64 0, .string ⟨#[]⟩, .int .i64 0, .int .i64 0, .string ⟨#[]⟩, .slice none 0 0, .slice none 0 0, .slice none 0 0] 30)) hb1
    have ca_0 := (qb hba ((j + 1) * 11 + 1)).trans HF.out.2.1
    have ca_1 := (qb hba ((j + 1) * 11 + 2)).trans HF.out.2.2.1
    have ca_2 := (qb hba ((j + 1) * 11 + 3)).trans HF.out.2.2.2.1
    have ca_3 := (qb hba ((j + 1) * 11 + 4)).trans HF.out.2.2.2.2.1
    have ca_4 := (qb hba ((j + 1) * 11 + 5)).trans HF.out.2.2.2.2.2.1
    have ca_5 := (qb hba ((j + 1) * 11 + 6)).trans HF.out.2.2.2.2.2.2.1
    have ca_6 := (qb hba ((j + 1) * 11 + 7)).trans HF.out.2.2.2.2.2.2.2.1
    have ca_7 := (qb hba ((j + 1) * 11 + 8)).trans HF.out.2.2.2.2.2.2.2.2.1
    have ca_8 := (qb hba ((j + 1) * 11 + 9)).trans HF.out.2.2.2.2.2.2.2.2.2.1
    have ca_9 := (qb hba ((j + 1) * 11 + 10)).trans HF.out.2.2.2.2.2.2.2.2.2.2
    clear hba
    have ca8 : (W1.alloc (.cells #[.int .i64 0, .int .i64 0, .int .i64 0, .string ⟨#[]⟩, .int .i64 0, .int .i64 0, .string ⟨#[]⟩, .slice none 0 0, .slice none 0 0, .slice none 0 0] 30)).cell? ⟨b, j * 11 + 1 + 8, none⟩ = some (.slice A8 m c8) := (qb (qi hb1 _) _).trans HF.out.1
    clear hc hb1
    have HO1 := qf.mk (qer HOW.out HB1.out)
    have HB2 := qf.mk (jd HB0'.out HLE.out HB1.out)
    have HL2 := qf.mk (Nat.le_trans HLE.out HB1.out.size)
    go_region_law (refine step_append_cells (w0 := w0) (W := W1.drew) w0.heap.size (by rfl) (.tmp 18) (.tmp 25) 28 30 _ 10 144 rfl Tryd.underlying28 zjg rfl (by decide) (by decide) (.slice A8 m _) m inner [.int .i64 0, .int .i64 0, .int .i64 0, .string ⟨#[]⟩, .int .i64 0, .int .i64 0, .string ⟨#[]⟩, .slice none 0 0, .slice none 0 0, .slice none 0 0] rfl rfl rfl ?one (q8i HO1.out) (qf5 HB2.out) HL2.out HM.out ?_; (case one => intro u hu; simp at hu; rcases hu with rfl | rfl | rfl | rfl | rfl | rfl | rfl | rfl | rfl | rfl <;> first | rfl); intro v1 w1 ho1 hb1 hg1 qji; obtain ⟨g1, c1, cur, rfl, hcur, hcsz, hgb⟩ := qv5 ho1; have hbb := qz2 (w := W1.drew) (g := b) (show W1.drew.heap[b]? = _ from zuy.out) hg1 HNE.out; have hcc := (qb hbb (j * 11 + 1 + 8)).trans HF.out.1; have hff := qa hbb (j * 11 + 1 + 8); have cb_0 := (qb hbb ((j + 1) * 11 + 1)).trans HF.out.2.1; have cb_1 := (qb hbb ((j + 1) * 11 + 2)).trans HF.out.2.2.1; have cb_2 := (qb hbb ((j + 1) * 11 + 3)).trans HF.out.2.2.2.1; have cb_3 := (qb hbb ((j + 1) * 11 + 4)).trans HF.out.2.2.2.2.1; have cb_4 := (qb hbb ((j + 1) * 11 + 5)).trans HF.out.2.2.2.2.2.1; have cb_5 := (qb hbb ((j + 1) * 11 + 6)).trans HF.out.2.2.2.2.2.2.1; have cb_6 := (qb hbb ((j + 1) * 11 + 7)).trans HF.out.2.2.2.2.2.2.2.1; have cb_7 := (qb hbb ((j + 1) * 11 + 8)).trans HF.out.2.2.2.2.2.2.2.2.1; have cb_8 := (qb hbb ((j + 1) * 11 + 9)).trans HF.out.2.2.2.2.2.2.2.2.2.1; have cb_9 := (qb hbb ((j + 1) * 11 + 10)).trans HF.out.2.2.2.2.2.2.2.2.2.2; have hgne : g1 ≠ b := (fun e_ => by subst e_; rw [hbb] at hcur; injection hcur with hcur; injection hcur with _ hcur; exact absurd hcur (by decide)); have cg_0 := (qb hcur (m * 10)).trans (Array.getElem?_eq_getElem (by omega)); have fg_0 := qa hcur (m * 10); have cg_1 := (qb hcur (m * 10 + 1)).trans (Array.getElem?_eq_getElem (by omega)); have fg_1 := qa hcur (m * 10 + 1); have cg_2 := (qb hcur (m * 10 + 2)).trans (Array.getElem?_eq_getElem (by omega)); have fg_2 := qa hcur (m * 10 + 2); have cg_3 := (qb hcur (m * 10 + 3)).trans (Array.getElem?_eq_getElem (by omega)); have fg_3 := qa hcur (m * 10 + 3); have cg_4 := (qb hcur (m * 10 + 4)).trans (Array.getElem?_eq_getElem (by omega)); have fg_4 := qa hcur (m * 10 + 4); have cg_5 := (qb hcur (m * 10 + 5)).trans (Array.getElem?_eq_getElem (by omega)); have fg_5 := qa hcur (m * 10 + 5); have cg_6 := (qb hcur (m * 10 + 6)).trans (Array.getElem?_eq_getElem (by omega)); have fg_6 := qa hcur (m * 10 + 6); have cg_7 := (qb hcur (m * 10 + 7)).trans (Array.getElem?_eq_getElem (by omega)); have fg_7 := qa hcur (m * 10 + 7); have cg_8 := (qb hcur (m * 10 + 8)).trans (Array.getElem?_eq_getElem (by omega)); have fg_8 := qa hcur (m * 10 + 8); have cg_9 := (qb hcur (m * 10 + 9)).trans (Array.getElem?_eq_getElem (by omega)); have fg_9 := qa hcur (m * 10 + 9); have HCUR := qf.mk hcur; clear hcur; have n1_ := qf.mk ho1; have n2_ := qf.mk hb1; have n3_ := qf.mk hg1; have n4_ := qf.mk qji; have n5_ := qf.mk hbb; clear ho1 hb1 hg1 qji hbb)
    all_goals
      go_wp2
      go_ret
      exact closed_end2 HB1.out HLE.out hbb (qax HBK.out) HNE.out rfl rfl n1_.out n2_.out ⟨n3_.out.os, n3_.out.tape, n3_.out.output, n3_.out.size, n3_.out.block⟩ n4_.out n5_.out
end Go.Proofs.YtpgkhmdfddejfaaDoor.PV
end
section
namespace Go.Proofs.YtpgkhmdfddejfaaDoor.PV
open Go.RowKit Go.Proofs.YtpgkhmdfddejfaaDoorW.PrintWords Go.Proofs.YtpgkhmdfddejfaaDoorW.PrintLast Go.Proofs.YtpgkhmdfddejfaaDoorW.PrintMore
set_option linter.unusedVariables false
set_option linter.unusedSimpArgs false
def Elem (W : World) (base : Nat) (X : Nat → Prop) (x : Int × S30) (u : Value) (c : List Value) : Prop :=
  ∃ A7 c7 A9 c9 inner, c = [.int .i64 x.1, .int .i64 x.2.f0, .int .i64 x.2.f1, .int .i64 x.2.f2, .string x.2.f3, .int .i64 x.2.f4.f0, .int .i64 x.2.f4.f1, .string x.2.f4.f2, .slice A7 x.2.f4.f3.length c7, u, .slice A9 x.2.f6.length c9] ∧
    x.2.f4.f3.length ≤ c7 ∧ Kd.F k27 W (fun k => base ≤ k ∧ ¬ X k) A7 x.2.f4.f3.length x.2.f4.f3 ∧ x.2.f6.length ≤ c9 ∧ Kd.F k27 W (fun k => base ≤ k ∧ ¬ X k) A9 x.2.f6.length x.2.f6 ∧
    W.ownsRow base 30 10 u x.2.f5.length inner ∧ Reps (fun y c => Kd.FK k30 W (fun k => base ≤ k ∧ ¬ X k) y c) 10 x.2.f5 inner
def Live (v : Value) (us : List Value) (k : Nat) : Prop := v.ownBlock = some k ∨ ∃ u ∈ us, u.ownBlock = some k
def Apart (v : Value) (us : List Value) : Prop := (∀ u ∈ us, ∀ k, u.ownBlock = some k → v.ownBlock ≠ some k) ∧ us.Pairwise (fun u u' => ∀ k, u.ownBlock = some k → u'.ownBlock ≠ some k)
def qjo (base : Nat) (W : World) (v : Value) (xs : List (Int × S30)) : Prop :=
  ∃ inner us, W.ownsRow base 124 11 v xs.length inner ∧ us.length = xs.length ∧ Apart v us ∧
    ∀ (j : Nat) x u, xs[j]? = some x → us[j]? = some u → Elem W base (Live v us) x u ((inner.drop (j * 11)).take 11)
theorem qz4 {W W1 : World} {base : Nat} {X Y : Nat → Prop} {x : Int × S30} {u : Value} {c : List Value} (h : Elem W base X x u c)
    (hm : ∀ k, base ≤ k → k < W.heap.size → ¬ X k → W1.heap[k]? = W.heap[k]?) (hu : ∀ k, u.ownBlock = some k → W1.heap[k]? = W.heap[k]?)
    (hY : ∀ k, k < W.heap.size → Y k → X k) : Elem W1 base Y x u c := by
  obtain ⟨A7, c7, A9, c9, inner, hc, h7, hf7, h9, hf9, ho, hr⟩ := h
  refine ⟨A7, c7, A9, c9, inner, hc, h7, Kd.qed (Kd.qes (Kd.qoq hf7) (fun k hk hl => hm k hk.1.1 hl hk.1.2)) (fun k hk => ⟨hk.1.1, fun hy => hk.1.2 (hY k hk.2 hy)⟩), h9, Kd.qed (Kd.qes (Kd.qoq hf9) (fun k hk hl => hm k hk.1.1 hl hk.1.2)) (fun k hk => ⟨hk.1.1, fun hy => hk.1.2 (hY k hk.2 hy)⟩), qti ho hu, hr.imp_ (fun y c hy => ?_)⟩
  exact Kd.qjn (Kd.qhz (Kd.qkr hy) (fun k hk hl => hm k hk.1.1 hl hk.1.2)) (fun k hk => ⟨hk.1.1, fun hz => hk.1.2 (hY k hk.2 hz)⟩)
theorem qku {W : World} {base : Nat} {X : Nat → Prop} {x : Int × S30} {u : Value} {c : List Value} (h : Elem W base X x u c) : ∀ k, u.ownBlock = some k → k < W.heap.size := by
  obtain ⟨A7, c7, A9, c9, inner, hc, h7, hf7, h9, hf9, ho, hr⟩ := h
  exact qz8 ho
theorem inv_nil (base : Nat) (W : World) : qjo base W (.slice none 0 0) [] :=
  ⟨[], [], zf2 _ _ _ _, rfl, ⟨fun u hu => by simp at hu, List.Pairwise.nil⟩, fun j x u hx => by simp at hx⟩
theorem drop_take_left {α : Type} (a b : List α) (i n : Nat) (h : i + n ≤ a.length) : ((a ++ b).drop i).take n = (a.drop i).take n := by
  rw [List.drop_append_of_le_length (by omega), List.take_append_of_le_length (by rw [List.length_drop]; omega)]
theorem inv_push {base : Nat} {W0 W w1 : World} {v v1 u : Value} {xs : List (Int × S30)} {x : Int × S30} {c inner us : List Value} (hW : Below W0.heap.size W0 W)
    (ho0 : W0.ownsRow base 124 11 v xs.length inner) (hl : us.length = xs.length) (ha : Apart v us)
    (he : ∀ (j : Nat) x u, xs[j]? = some x → us[j]? = some u → Elem W0 base (Live v us) x u ((inner.drop (j * 11)).take 11))
    (hx : Elem W base (fun k => k < W0.heap.size ∨ u.ownBlock = some k) x u c) (hc : c.length = 11) (hu : ∀ k, u.ownBlock = some k → W0.heap.size ≤ k)
    (ho : w1.ownsRow base 124 11 v1 (xs.length + 1) (inner ++ c)) (hg : W.grownBy w1 v.ownBlock) (hat : v1.ownBlock = v.ownBlock ∨ ∃ b, v1.ownBlock = some b ∧ W.heap.size ≤ b) : qjo base w1 v1 (xs ++ [x]) := by
  have hv0 : ∀ k, v.ownBlock = some k → k < W0.heap.size := qz8 ho0
  have hus : ∀ y ∈ us, ∀ k, y.ownBlock = some k → k < W0.heap.size := by
    intro y hy k hk
    obtain ⟨j, hj, rfl⟩ := List.getElem_of_mem hy
    exact qku (he j _ _ (List.getElem?_eq_getElem (by omega)) (List.getElem?_eq_getElem hj)) k hk
  have hv1 : ∀ k, v1.ownBlock = some k → v.ownBlock = some k ∨ W.heap.size ≤ k := by
    intro k hk
    rcases hat with hat | ⟨b, hb, hle⟩
    · exact .inl (hat ▸ hk)
    · rw [hb] at hk
      injection hk with hk
      exact .inr (hk ▸ hle)
  have hlen := ho0.1
  refine ⟨inner ++ c, us ++ [u], by rw [List.length_append, List.length_singleton]; exact ho, by simp [hl], ⟨?_, ?_⟩, ?_⟩
  · intro y hy k hk hvk
    rcases hv1 k hvk with h1 | h1
    · rcases List.mem_append.1 hy with hy | hy
      · exact ha.1 y hy k hk h1
      · rw [List.mem_singleton.1 hy] at hk
        have := hu k hk
        have := hv0 k h1
        omega
    · rcases List.mem_append.1 hy with hy | hy
      · have := hus y hy k hk
        have := hW.size
        omega
      · rw [List.mem_singleton.1 hy] at hk
        have := qku hx k hk
        omega
  · rw [List.pairwise_append]
    refine ⟨ha.2, List.pairwise_singleton _ _, fun a ha' b hb k hk hbk => ?_⟩
    rw [List.mem_singleton.1 hb] at hbk
    have := hus a ha' k hk
    have := hu k hbk
    omega
  · intro j y z hy hz
    rcases Nat.lt_trichotomy j xs.length with hj | hj | hj
    · rw [List.getElem?_append_left hj] at hy
      rw [List.getElem?_append_left (by omega)] at hz
      rw [drop_take_left _ _ _ _ (by omega)]
      have h0 := he j y z hy hz
      have hzm : z ∈ us := List.mem_of_getElem? hz
      refine qz4 h0 (fun k hb hk hX => ?_) (fun k hk => ?_) (fun k hk hY => ?_)
      · rw [hg.block k (Nat.lt_of_lt_of_le hk hW.size) (fun e => hX (.inl e.symm)), hW.block k hk]
      · have hkl := hus z hzm k hk
        rw [hg.block k (Nat.lt_of_lt_of_le hkl hW.size) (fun e => ha.1 z hzm k hk e.symm), hW.block k hkl]
      · rcases hY with hY | ⟨y', hy', hk'⟩
        · rcases hv1 k hY with h1 | h1
          · exact .inl h1
          · have := hW.size
            omega
        · rcases List.mem_append.1 hy' with hy' | hy'
          · exact .inr ⟨y', hy', hk'⟩
          · rw [List.mem_singleton.1 hy'] at hk'
            have := hu k hk'
            omega
    · subst hj
      rw [List.getElem?_append_right (Nat.le_refl _), Nat.sub_self] at hy
      rw [List.getElem?_append_right (by omega), hl, Nat.sub_self] at hz
      injection hy with hy
      injection hz with hz
      subst hy hz
      have hd : ((inner ++ c).drop (xs.length * 11)).take 11 = c := by
        rw [← hlen, List.drop_left, List.take_of_length_le (by omega)]
      rw [hd]
      refine qz4 hx (fun k hb hk hX => ?_) (fun k hk => ?_) (fun k hk hY => ?_)
      · refine hg.block k hk (fun e => hX (.inl (hv0 k e.symm)))
      · refine hg.block k (qku hx k hk) (fun e => ?_)
        have := hv0 k e.symm
        have := hu k hk
        omega
      · rcases hY with hY | ⟨y', hy', hk'⟩
        · rcases hv1 k hY with h1 | h1
          · exact .inl (hv0 k h1)
          · omega
        · rcases List.mem_append.1 hy' with hy' | hy'
          · exact .inl (hus y' hy' k hk')
          · rw [List.mem_singleton.1 hy'] at hk'
            exact .inr hk'
    · rw [List.getElem?_eq_none (by simp; omega)] at hy
      cases hy
theorem new_elem {w5 : World} {B base : Nat} {ok7 ok8 ok9 : Nat → Prop} {v7 v8 v9 : Value} {x : Int × S30} (hB : base ≤ B) (h5 : x.2.f5 = []) (h7 : Kd.R k27 27 w5 B ok7 v7 x.2.f4.f3) (h8 : Kd.R k30 30 w5 B ok8 v8 ([] : List S30)) (h9 : Kd.R k27 27 w5 B ok9 v9 x.2.f6) :
    Elem w5 base (fun k => k < B ∨ v8.ownBlock = some k) x v8 [.int .i64 x.1, .int .i64 x.2.f0, .int .i64 x.2.f1, .int .i64 x.2.f2, .string x.2.f3, .int .i64 x.2.f4.f0, .int .i64 x.2.f4.f1, .string x.2.f4.f2, v7, v8, v9] ∧ ∀ k, v8.ownBlock = some k → B ≤ k := by
  have key : ∀ {ok : Nat → Prop} {v : Value} {xs : List S27}, Kd.R k27 27 w5 B ok v xs → ∃ A c, v = .slice A xs.length c ∧ xs.length ≤ c ∧ Kd.F k27 w5 (fun k => base ≤ k ∧ ¬ (k < B ∨ v8.ownBlock = some k)) A xs.length xs := by
    intro ok v xs h
    obtain ⟨A, c, rfl, hl, hf⟩ := Kd.R_V (base' := B) (Kd.qmh h)
    refine ⟨A, c, rfl, hl, Kd.qed hf (fun k hk => ⟨Nat.le_trans hB hk.2.1, ?_⟩)⟩
    rintro (hk2 | hk2)
    · have := hk.2.1
      omega
    · obtain ⟨cells, hc⟩ := Kd.R_typed h8 k hk2
      obtain ⟨q, hq, cells', hc'⟩ := hk.2.2.2
      rw [hc] at hc'
      injection hc' with hc'
      injection hc' with _ hq'
      subst hq'
      exact absurd hq (by decide)
  obtain ⟨A7, c7, rfl, l7, f7⟩ := key h7
  obtain ⟨A9, c9, rfl, l9, f9⟩ := key h9
  obtain ⟨_, inner, ho, hr⟩ := h8
  refine ⟨⟨A7, c7, A9, c9, [], rfl, l7, f7, l9, f9, ?_, ?_⟩, qgb ho⟩
  · have hi : inner = [] := by
      have := ho.1
      simpa using this
    subst hi
    rw [h5]
    exact own_weaken ho hB
  · rw [h5]
    exact Reps.none _ _
theorem row_F {α : Type} {d : Kd α} {W : World} {base e : Nat} {ok : Nat → Prop} {u : Value} {xs : List α} {inner : List Value} (h : W.ownsRow base e d.sz u xs.length inner) (hr : Reps (fun y c => Kd.FK d W ok y c) d.sz xs inner) :
    ∃ A c, u = .slice A xs.length c ∧ xs.length ≤ c ∧ Kd.F d W (fun k => ok k ∨ u.ownBlock = some k) A xs.length xs := by
  rcases h.2 with ⟨rfl, h0⟩ | ⟨g, cap, cur, rfl, hg, hh, hc, hcm, hcs, ht⟩
  · have hx : xs = [] := List.length_eq_zero_iff.1 h0
    subst hx
    exact ⟨none, 0, rfl, Nat.le_refl _, Kd.zj6 d W _⟩
  · refine ⟨_, cap, rfl, hc, fun W' hW => ⟨rfl, by simp only [maxLen] at hcm; omega, fun hp => ⟨_, rfl, fun j p hj => ⟨(inner.drop (j * d.sz)).take d.sz, ?_, hr.2 j p hj W' (fun k hk hl => hW k (.inl hk) hl), fun i v hv => ?_⟩⟩⟩⟩
    · exact d.K_len (Kd.qwi (hr.2 j p hj))
    · have hb : W'.heap[g]? = some (.cells cur e (0, 0)) := (hW g (.inr rfl) (qax hh)).trans hh
      rw [add_plain, qb hb]
      have hi : i < d.sz := by
        have h1 := (List.getElem?_eq_some_iff.1 hv).1
        have h2 := d.K_len (Kd.qwi (hr.2 j p hj))
        omega
      rw [List.getElem?_take, if_pos hi, List.getElem?_drop, ← ht, List.getElem?_take] at hv
      split at hv
      · simpa using hv
      · cases hv
theorem q92 {W : World} {base : Nat} {X : Nat → Prop} {x : Int × S30} {u : Value} {c : List Value} (h : Elem W base X x u c) :
    ∃ A7 c7 A8 c8 A9 c9, u = .slice A8 x.2.f5.length c8 ∧ c = [.int .i64 x.1, .int .i64 x.2.f0, .int .i64 x.2.f1, .int .i64 x.2.f2, .string x.2.f3, .int .i64 x.2.f4.f0, .int .i64 x.2.f4.f1, .string x.2.f4.f2, .slice A7 x.2.f4.f3.length c7, .slice A8 x.2.f5.length c8, .slice A9 x.2.f6.length c9] ∧
      x.2.f4.f3.length ≤ c7 ∧ x.2.f5.length ≤ c8 ∧ x.2.f6.length ≤ c9 ∧ Kd.F k27 W (fun k => (base ≤ k ∧ ¬ X k) ∨ u.ownBlock = some k) A7 x.2.f4.f3.length x.2.f4.f3 ∧ Kd.F k30 W (fun k => (base ≤ k ∧ ¬ X k) ∨ u.ownBlock = some k) A8 x.2.f5.length x.2.f5 ∧ Kd.F k27 W (fun k => (base ≤ k ∧ ¬ X k) ∨ u.ownBlock = some k) A9 x.2.f6.length x.2.f6 ∧
      Kd.FK k30 W (fun k => (base ≤ k ∧ ¬ X k) ∨ u.ownBlock = some k) x.2 [.int .i64 x.2.f0, .int .i64 x.2.f1, .int .i64 x.2.f2, .string x.2.f3, .int .i64 x.2.f4.f0, .int .i64 x.2.f4.f1, .string x.2.f4.f2, .slice A7 x.2.f4.f3.length c7, .slice A8 x.2.f5.length c8, .slice A9 x.2.f6.length c9] := by
  obtain ⟨A7, c7, A9, c9, inner, rfl, h7, hf7, h9, hf9, ho, hr⟩ := h
  obtain ⟨A8, c8, rfl, h8, hf8⟩ := row_F (d := k30) (e := 30) ho hr
  have g7 := Kd.qed hf7 (fun k hk => (.inl hk : (base ≤ k ∧ ¬ X k) ∨ (Value.slice A8 x.2.f5.length c8).ownBlock = some k))
  have g9 := Kd.qed hf9 (fun k hk => (.inl hk : (base ≤ k ∧ ¬ X k) ∨ (Value.slice A8 x.2.f5.length c8).ownBlock = some k))
  exact ⟨A7, c7, A8, c8, A9, c9, rfl, rfl, h7, h8, h9, g7, hf8, g9, k30_mkF W _ x.2 h7 g7 h8 hf8 h9 g9⟩
theorem inv_closed {base : Nat} {w0 w w' : World} {b cap : Nat} {cs : Array Value} {xs : List (Int × S30)} {y z : Int × S30} {innerk inner us : List Value} {uy uz : Value} {e : Ending}
    (hbase : base = w0.heap.size) (hbk : w.heap[b]? = some (.cells cs 124 (0, 0))) (ho : w.ownsRow base 124 11 (.slice (some ⟨b, 0, none⟩) (xs.length + 2) cap) (xs.length + 2) inner)
    (hl : us.length = xs.length) (ha : Apart (.slice (some ⟨b, 0, none⟩) (xs.length + 2) cap) (us ++ [uy, uz]))
    (he : ∀ (j : Nat) x u, (xs ++ [y, z])[j]? = some x → (us ++ [uy, uz])[j]? = some u → Elem w base (Live (.slice (some ⟨b, 0, none⟩) (xs.length + 2) cap) (us ++ [uy, uz])) x u ((inner.drop (j * 11)).take 11))
    (hk : w.ownsRow base 30 10 uy y.2.f5.length innerk) (hkr : Reps (fun x c => Kd.FK k30 w (fun k => base ≤ k ∧ ¬ Live (.slice (some ⟨b, 0, none⟩) (xs.length + 2) cap) (us ++ [uy, uz]) k) x c) 10 y.2.f5 innerk)
    (hP : ql5 w0 w b xs.length cap cs uy y.2.f5.length (innerk ++ ((inner.drop ((xs.length + 1) * 11)).take 11).drop 1) e w') :
    e = .returned (.slice (some ⟨b, 0, none⟩) (xs.length + 1) cap) ∧ qjo base w' (.slice (some ⟨b, 0, none⟩) (xs.length + 1) cap) (xs ++ [(y.1, { y.2 with f5 := y.2.f5 ++ [z.2] })]) := by
  obtain ⟨A1, c1, rfl, h1, h2, h3, h4, h5, h6, h7⟩ := hP
  subst hbase
  refine ⟨rfl, ?_⟩
  obtain ⟨g, cap', cur, hE, hg, hh, hc, hcm, hcs, ht⟩ : ∃ g cap' cur, (Value.slice (some ⟨b, 0, none⟩) (xs.length + 2) cap) = .slice (some ⟨g, 0, none⟩) (xs.length + 2) cap' ∧ w0.heap.size ≤ g ∧ w.heap[g]? = some (.cells cur 124 (0, 0)) ∧ xs.length + 2 ≤ cap' ∧ cap' ≤ maxLen ∧ cur.size = cap' * 11 ∧ cur.toList.take ((xs.length + 2) * 11) = inner := by
    rcases ho.2 with ⟨h, _⟩ | h
    · cases h
    · exact h
  have hbg : b = g ∧ cap = cap' := by
    injection hE with hE _ hE2
    injection hE with hE
    injection hE with hE
    exact ⟨hE, hE2⟩
  obtain ⟨rfl, rfl⟩ := hbg
  have hcc : cur = cs := by
    rw [hbk] at hh
    injection hh with hh
    injection hh with hh
    exact hh.symm
  subst hcc
  have hlen : inner.length = (xs.length + 2) * 11 := ho.1
  have hbX : Live (.slice (some ⟨b, 0, none⟩) (xs.length + 2) cap) (us ++ [uy, uz]) b := .inl rfl
  have huyX : ∀ k, uy.ownBlock = some k → Live (.slice (some ⟨b, 0, none⟩) (xs.length + 2) cap) (us ++ [uy, uz]) k := fun k hk => .inr ⟨uy, by simp, hk⟩
  have hp := List.pairwise_append.1 ha.2
  have hyz : ∀ k, uy.ownBlock = some k → uz.ownBlock ≠ some k := fun k hk => (List.pairwise_cons.1 hp.2.1).1 uz (by simp) k hk
  -- what stays
  have hstay : ∀ k, w0.heap.size ≤ k → k < w.heap.size → ¬ Live (.slice (some ⟨b, 0, none⟩) (xs.length + 2) cap) (us ++ [uy, uz]) k → w'.heap[k]? = w.heap[k]? := by
    intro k _ hkl hX
    refine h4 k hkl (fun e => hX (by rw [e]; exact hbX)) (fun e => hX (huyX k e.symm))
  have hown1 : ∀ k, (Value.slice A1 (y.2.f5.length + 1) c1).ownBlock = some k → uy.ownBlock = some k ∨ w.heap.size ≤ k := by
    intro k hk
    rcases h6 with h6 | ⟨g, hg, hle⟩
    · exact .inl (h6 ▸ hk)
    · rw [hg] at hk
      injection hk with hk
      exact .inr (hk ▸ hle)
  have husl : ∀ u ∈ us, ∀ k, u.ownBlock = some k → k < w.heap.size := by
    intro u hu k hk
    obtain ⟨j, hj, rfl⟩ := List.getElem_of_mem hu
    exact qku (he j _ _ (by rw [List.getElem?_append_left (by omega)]; exact List.getElem?_eq_getElem (by omega)) (by rw [List.getElem?_append_left hj]; exact List.getElem?_eq_getElem hj)) k hk
  have hY : ∀ k, k < w.heap.size → Live (.slice (some ⟨b, 0, none⟩) (xs.length + 1) cap) (us ++ [.slice A1 (y.2.f5.length + 1) c1]) k → Live (.slice (some ⟨b, 0, none⟩) (xs.length + 2) cap) (us ++ [uy, uz]) k := by
    intro k hkl hk
    rcases hk with hk | ⟨u, hu, hk⟩
    · exact .inl hk
    · rcases List.mem_append.1 hu with hu | hu
      · exact .inr ⟨u, by simp [hu], hk⟩
      · rw [List.mem_singleton.1 hu] at hk
        rcases hown1 k hk with h | h
        · exact huyX k h
        · omega
  have hset : (cur.setIfInBounds (xs.length * 11 + 9) (.slice A1 (y.2.f5.length + 1) c1)).toList = cur.toList.set (xs.length * 11 + 9) (.slice A1 (y.2.f5.length + 1) c1) := by simp
  have hcl : cur.toList.length = cap * 11 := by rw [Array.length_toList, hcs]
  refine ⟨(inner.take ((xs.length + 1) * 11)).set (xs.length * 11 + 9) (.slice A1 (y.2.f5.length + 1) c1), us ++ [.slice A1 (y.2.f5.length + 1) c1], ?_, by simp [hl], ⟨?_, ?_⟩, ?_⟩
  · refine ⟨by simp [hlen], .inr ⟨b, cap, _, by simp, hg, h1, by simp; omega, hcm, by simp [hcs], ?_⟩⟩
    rw [hset, List.length_append, List.length_singleton, List.take_set, ← ht, List.take_take, Nat.min_eq_left (by omega)]
  · intro u hu k hk hvk
    rcases List.mem_append.1 hu with hu | hu
    · exact ha.1 u (by simp [hu]) k hk hvk
    · rw [List.mem_singleton.1 hu] at hk
      have hkb : b = k := by simpa [Value.ownBlock] using hvk
      exact h7 (by rw [hkb, hk])
  · rw [List.pairwise_append]
    refine ⟨hp.1, List.pairwise_singleton _ _, fun a ha' b' hb' k hk hbk => ?_⟩
    rw [List.mem_singleton.1 hb'] at hbk
    rcases hown1 k hbk with h | h
    · exact hp.2.2 a ha' uy (by simp) k hk h
    · have := husl a ha' k hk
      omega
  · intro j x u hx hu
    rcases Nat.lt_trichotomy j xs.length with hj | hj | hj
    · rw [List.getElem?_append_left hj] at hx
      rw [List.getElem?_append_left (by omega)] at hu
      have h0 := he j x u (by rw [List.getElem?_append_left hj]; exact hx) (by rw [List.getElem?_append_left (by omega)]; exact hu)
      have hch : (((inner.take ((xs.length + 1) * 11)).set (xs.length * 11 + 9) (.slice A1 (y.2.f5.length + 1) c1)).drop (j * 11)).take 11 = (inner.drop (j * 11)).take 11 := by
        apply List.ext_getElem?
        intro i
        simp only [List.getElem?_take, List.getElem?_drop, List.getElem?_set]
        by_cases hi : i < 11
        · rw [if_pos hi, if_pos hi, if_neg (by omega), if_pos (by omega)]
        · rw [if_neg hi, if_neg hi]
      rw [hch]
      have hum : u ∈ us := List.mem_of_getElem? hu
      refine qz4 h0 hstay (fun k hk => ?_) hY
      refine h4 k (qku h0 k hk) (fun e => ?_) (fun e => ?_)
      · subst e
        exact ha.1 u (by simp [hum]) k hk rfl
      · exact hp.2.2 u hum uy (by simp) k hk e.symm
    · subst hj
      rw [List.getElem?_append_right (Nat.le_refl _), Nat.sub_self] at hx
      rw [List.getElem?_append_right (by omega), hl, Nat.sub_self] at hu
      injection hx with hx
      injection hu with hu
      subst hx hu
      have hy0 := he xs.length y uy (by simp) (by rw [← hl]; simp)
      have hz0 := he (xs.length + 1) z uz (by simp) (by rw [← hl]; simp)
      obtain ⟨A7, c7, A9, c9, ik, hc', h7', hf7, h9, hf9, ho', hr'⟩ := hy0
      obtain ⟨B7, d7, B8, d8, B9, d9, huz, hcz, _, _, _, _, _, _, hFK⟩ := q92 hz0
      refine ⟨A7, c7, A9, c9, innerk ++ ((inner.drop ((xs.length + 1) * 11)).take 11).drop 1, ?_, h7', ?_, h9, ?_, by rw [List.length_append, List.length_singleton]; exact h2, ?_⟩
      · have hch : (((inner.take ((xs.length + 1) * 11)).set (xs.length * 11 + 9) (.slice A1 (y.2.f5.length + 1) c1)).drop (xs.length * 11)).take 11 = ((inner.drop (xs.length * 11)).take 11).set 9 (.slice A1 (y.2.f5.length + 1) c1) := by
          apply List.ext_getElem?
          intro i
          simp only [List.getElem?_take, List.getElem?_drop, List.getElem?_set, List.length_take, List.length_drop]
          by_cases hi : i < 11
          · by_cases h9 : i = 9
            · subst h9
              rw [if_pos hi, if_pos rfl, if_pos (by omega), if_pos rfl, if_pos (by omega)]
            · rw [if_pos hi, if_neg (by omega), if_pos (by omega), if_neg (by omega), if_pos hi]
          · rw [if_neg hi, if_neg (by omega), if_neg hi]
        rw [hch, hc']
        rfl
      · exact Kd.qed (Kd.qes (Kd.qoq hf7) (fun k hk hl => hstay k hk.1.1 hl hk.1.2)) (fun k hk => ⟨hk.1.1, fun hy => hk.1.2 (hY k hk.2 hy)⟩)
      · exact Kd.qed (Kd.qes (Kd.qoq hf9) (fun k hk hl => hstay k hk.1.1 hl hk.1.2)) (fun k hk => ⟨hk.1.1, fun hy => hk.1.2 (hY k hk.2 hy)⟩)
      · have hzok : ∀ k, uz.ownBlock = some k → k ≠ b ∧ some k ≠ uy.ownBlock := fun k hk => ⟨fun e => ha.1 uz (by simp) k hk (by rw [e]; rfl), fun e => hyz k e.symm hk⟩
        have hzb : ∀ k, uz.ownBlock = some k → w0.heap.size ≤ k := by
          obtain ⟨_, _, _, _, ik, _, _, _, _, _, ho'', _⟩ := hz0
          exact qgb ho''
        rw [hcz]
        refine Reps.snoc (hkr.imp_ (fun y c hy => ?_)) ?_ rfl
        · exact Kd.qjn (Kd.qhz (Kd.qkr hy) (fun k hk hl => hstay k hk.1.1 hl hk.1.2)) (fun k hk => ⟨hk.1.1, fun hz => hk.1.2 (hY k hk.2 hz)⟩)
        · refine Kd.qjn (Kd.qhz (Kd.qkr hFK) (fun k hk hl => ?_)) (fun k hk => ?_)
          · rcases hk.1 with hk1 | hk1
            · exact hstay k hk1.1 hl hk1.2
            · exact h4 k hl (hzok k hk1).1 (hzok k hk1).2
          · rcases hk.1 with hk1 | hk1
            · exact ⟨hk1.1, fun hy => hk1.2 (hY k hk.2 hy)⟩
            · refine ⟨hzb k hk1, fun hy => ?_⟩
              rcases hy with hy | ⟨u', hu', hk'⟩
              · exact (hzok k hk1).1 (by simpa [Value.ownBlock] using hy.symm)
              · rcases List.mem_append.1 hu' with hu' | hu'
                · exact hp.2.2 u' hu' uz (by simp) k hk' hk1
                · rw [List.mem_singleton.1 hu'] at hk'
                  rcases hown1 k hk' with h | h
                  · exact hyz k h hk1
                  · have := hk.2
                    omega
    · rw [List.getElem?_eq_none (by simp; omega)] at hx
      cases hx
def qs2 (y x : Int × S30) : Int × S30 := (y.1, { y.2 with f5 := y.2.f5 ++ [x.2] })
theorem closed_any (w0 w : World) (v : Value) (xs : List (Int × S30)) (y z : Int × S30) (hB : Below w0.heap.size w0 w) (h : qjo w0.heap.size w v (xs ++ [y, z])) (hx : xs.length ≤ 900000000000) (hy : y.2.f5.length ≤ 900000000000) :
    Calls Tryd.prog 66 #[v] w fun e w' => ∃ A c, e = .returned (.slice A (xs.length + 1) c) ∧ qjo w0.heap.size w' (.slice A (xs.length + 1) c) (xs ++ [qs2 y z]) ∧ Below w0.heap.size w0 w' := by
  obtain ⟨inner, us, ho, hl, ha, he⟩ := h
  have hlen : (xs ++ [y, z]).length = xs.length + 1 + 1 := by simp
  rw [hlen] at ho hl
  obtain ⟨b, cap, cs, rfl, hbk, hcs, hbb⟩ := qv5 ho
  -- the rows of Kids
  obtain ⟨us0, uy, uz, rfl, hl0⟩ : ∃ us0 uy uz, us = us0 ++ [uy, uz] ∧ us0.length = xs.length := by
    refine ⟨us.take xs.length, us[xs.length]'(by omega), us[xs.length + 1]'(by omega), ?_, by rw [List.length_take]; omega⟩
    conv => lhs; rw [← List.take_append_drop xs.length us]
    congr 1
    rw [List.drop_eq_getElem_cons (by omega), List.drop_eq_getElem_cons (by omega), List.drop_of_length_le (by omega)]
  have hy0 := he xs.length y uy (by simp) (by rw [← hl0]; simp)
  have hz0 := he (xs.length + 1) z uz (by simp) (by rw [← hl0]; simp)
  obtain ⟨A7, c7, A9, c9, ik, hcy, _, _, _, _, hok, hrk⟩ := hy0
  obtain ⟨B7, d7, B8, d8, B9, d9, rfl, hcz, _, _, _, _, _, _, _⟩ := q92 hz0
  obtain ⟨Ak, ck, rfl⟩ := qjj hok
  have hco : ∃ cap' cur, cap = cap' ∧ cs = cur ∧ xs.length + 1 + 1 ≤ cap' ∧ cur.toList.take ((xs.length + 1 + 1) * 11) = inner := by
    rcases ho.2 with ⟨h, _⟩ | ⟨g, cap', cur, hE, _, hh, hc, _, _, ht⟩
    · cases h
    · injection hE with hE _ hE2
      injection hE with hE
      injection hE with hE
      subst hE
      rw [hbk] at hh
      injection hh with hh
      injection hh with hh
      exact ⟨cap', cur, hE2, hh, hc, ht⟩
  obtain ⟨cap', cur, rfl, rfl, hcap, ht⟩ := hco
  have hcell : ∀ (j i : Nat) (cl : List Value) (v : Value), j < xs.length + 2 → i < 11 → (inner.drop (j * 11)).take 11 = cl → cl[i]? = some v → cs[j * 11 + i]? = some v := by
    intro j i cl v hj hi hcl hv
    rw [← hcl, List.getElem?_take, if_pos hi, List.getElem?_drop, ← ht, List.getElem?_take, if_pos (by omega)] at hv
    simpa using hv
  have hne : some b ≠ (Value.slice Ak y.2.f5.length ck).ownBlock := fun e => ha.1 _ (by simp) b e.symm rfl
  have hraw := closed_raw w0 xs.length b cap w hB hB.size ik hbb (by omega) hcap cs hbk Ak y.2.f5.length ck hok (by omega) hne
    (hcell _ 9 _ _ (by omega) (by omega) hcy rfl) z.2.f0 z.2.f1 z.2.f2 z.2.f3 z.2.f4.f0 z.2.f4.f1 z.2.f4.f2 B7 B8 B9 z.2.f4.f3.length d7 z.2.f5.length d8 z.2.f6.length d9
    (hcell _ 1 _ _ (by omega) (by omega) hcz rfl) (hcell _ 2 _ _ (by omega) (by omega) hcz rfl) (hcell _ 3 _ _ (by omega) (by omega) hcz rfl) (hcell _ 4 _ _ (by omega) (by omega) hcz rfl)
    (hcell _ 5 _ _ (by omega) (by omega) hcz rfl) (hcell _ 6 _ _ (by omega) (by omega) hcz rfl) (hcell _ 7 _ _ (by omega) (by omega) hcz rfl) (hcell _ 8 _ _ (by omega) (by omega) hcz rfl) (hcell _ 9 _ _ (by omega) (by omega) hcz rfl) (hcell _ 10 _ _ (by omega) (by omega) hcz rfl)
  refine hraw.mono fun e w' hP => ?_
  have hP' : ql5 w0 w b xs.length cap cs (.slice Ak y.2.f5.length ck) y.2.f5.length (ik ++ ((inner.drop ((xs.length + 1) * 11)).take 11).drop 1) e w' := by
    rw [hcz]
    exact hP
  obtain ⟨he', hi'⟩ := inv_closed rfl hbk ho hl0 ha he hok hrk hP'
  obtain ⟨_, _, _, _, _, hBw, _⟩ := hP
  exact ⟨_, _, he', hi', hBw⟩
end Go.Proofs.YtpgkhmdfddejfaaDoor.PV
end
section
namespace Go
def Exit.qzp (J0 J1 : Act → World → Prop) (Q : Exit → Act → World → Prop) : Exit → Act → World → Prop
  | .goto l, a, w => (l = 0 ∧ J0 a w) ∨ (l = 1 ∧ J1 a w)
  | e, a, w => Q e a w
theorem Exit.qkz (J0 J1 : Act → World → Prop) (Q : Exit → Act → World → Prop) (a : Act) (w : World) : Exit.qzp J0 J1 Q .ret a w = Q .ret a w := rfl
section
variable {P : Program} {a : Act} {w : World} {Q : Exit → Act → World → Prop}
theorem wp_scope_jumps01 {c rest0 X : Code} (J0 J1 : Act → World → Prop) (μ : Act → World → Nat) (hf0 : findLabel c 0 = some rest0) (hf1 : findLabel c 1 = some (Code.seq .skip X))
    (pass0 : ∀ a w, J0 a w → rest0.wp P (Exit.noGoto Q) a w)
    (pass1X : ∀ a w, J1 a w → X.wp P (Exit.qzp J0 (fun a' w' => J1 a' w' ∧ μ a' w' < μ a w) Q) a w)
    (firstX : (∀ a w, J1 a w → X.wp P (Exit.qzp J0 J1 Q) a w) → c.wp P (Exit.qzp J0 J1 Q) a w) : (Code.scope c).wp P Q a w := by
  have pass1 : ∀ a w, J1 a w → (Code.seq .skip X).wp P (Exit.qzp J0 (fun a' w' => J1 a' w' ∧ μ a' w' < μ a w) Q) a w := fun a w h => wp_seq (wp_skip (pass1X a w h))
  have first := firstX (fun a w h => wp_mono (pass1X a w h) (fun e a w h => by
    cases e with
    | goto l =>
      rcases h with h | h
      · exact .inl h
      · exact .inr ⟨h.1, h.2.1⟩
    | _ => exact h))
  intro b k cs
  have zyp : ∀ a w, J0 a w → ∃ e a' w', Q e a' w' ∧ Arrives P (lone (b.at a (.code rest0 :: .inScope c :: k)) cs w) b k cs e a' w' := by
    intro a w hJ
    obtain ⟨e, a₁, w₁, hq, harr⟩ := pass0 a w hJ b (.inScope c :: k) cs
    cases e with
    | normal => exact ⟨.normal, a₁, w₁, hq, Steps.trans harr (.one step_inScope)⟩
    | exit id => exact ⟨.exit id, a₁, w₁, hq, fun k' hk => harr k' (by simp [exitTo, hk])⟩
    | goto l' => exact hq.elim
    | ret => exact ⟨_, a₁, w₁, hq, harr⟩
    | panic ch => exact ⟨_, a₁, w₁, hq, harr⟩
    | outgrown => exact ⟨_, a₁, w₁, hq, harr⟩
  have key : ∀ n a w, μ a w = n → J1 a w → ∃ e a' w', Q e a' w' ∧ Arrives P (lone (b.at a (.code (Code.seq .skip X) :: .inScope c :: k)) cs w) b k cs e a' w' := by
    intro n
    induction n using Nat.strongRecOn with
    | _ n ih =>
      intro a w hn hJ
      obtain ⟨e, a₁, w₁, hq, harr⟩ := pass1 a w hJ b (.inScope c :: k) cs
      cases e with
      | normal => exact ⟨.normal, a₁, w₁, hq, Steps.trans harr (.one step_inScope)⟩
      | exit id => exact ⟨.exit id, a₁, w₁, hq, fun k' hk => harr k' (by simp [exitTo, hk])⟩
      | goto l' =>
        rcases hq with ⟨rfl, hJ'⟩ | ⟨rfl, hJ', hlt⟩
        · obtain ⟨e₂, a₂, w₂, hq₂, harr₂⟩ := zyp a₁ w₁ hJ'
          exact ⟨e₂, a₂, w₂, hq₂, .of_steps (harr _ (by simp [gotoIn, hf0])) harr₂⟩
        · obtain ⟨e₂, a₂, w₂, hq₂, harr₂⟩ := ih _ (by omega) a₁ w₁ rfl hJ'
          exact ⟨e₂, a₂, w₂, hq₂, .of_steps (harr _ (by simp [gotoIn, hf1])) harr₂⟩
      | ret => exact ⟨_, a₁, w₁, hq, harr⟩
      | panic ch => exact ⟨_, a₁, w₁, hq, harr⟩
      | outgrown => exact ⟨_, a₁, w₁, hq, harr⟩
  obtain ⟨e, a₁, w₁, hq, harr⟩ := first b (.inScope c :: k) cs
  cases e with
  | normal => exact ⟨.normal, a₁, w₁, hq, .head step_scope (Steps.trans harr (.one step_inScope))⟩
  | exit id => exact ⟨.exit id, a₁, w₁, hq, fun k' hk => .head step_scope (harr k' (by simp [exitTo, hk]))⟩
  | goto l' =>
    rcases hq with ⟨rfl, hJ'⟩ | ⟨rfl, hJ'⟩
    · obtain ⟨e₂, a₂, w₂, hq₂, harr₂⟩ := zyp a₁ w₁ hJ'
      exact ⟨e₂, a₂, w₂, hq₂, .of_steps (.head step_scope (harr _ (by simp [gotoIn, hf0]))) harr₂⟩
    · obtain ⟨e₂, a₂, w₂, hq₂, harr₂⟩ := key _ a₁ w₁ rfl hJ'
      exact ⟨e₂, a₂, w₂, hq₂, .of_steps (.head step_scope (harr _ (by simp [gotoIn, hf1]))) harr₂⟩
  | ret => exact ⟨_, a₁, w₁, hq, .of_steps (.one step_scope) harr⟩
  | panic ch => exact ⟨_, a₁, w₁, hq, .of_steps (.one step_scope) harr⟩
  | outgrown => exact ⟨_, a₁, w₁, hq, .of_steps (.one step_scope) harr⟩
end
end Go
namespace Go.Proofs.YtpgkhmdfddejfaaDoor.PV
open Go.RowKit Go.Proofs.YtpgkhmdfddejfaaDoorW.PrintWords Go.Proofs.YtpgkhmdfddejfaaDoorW.PrintLast Go.Proofs.YtpgkhmdfddejfaaDoorW.PrintMore
set_option linter.unusedVariables false
set_option linter.unusedSimpArgs false
theorem info124 : (Tryd.prog.info? 124).map (fun i => (i.zero, i.size, i.bytes)) = some (some (.agg #[(.int .i64 0), (.int .i64 0), (.int .i64 0), (.int .i64 0), (.string ⟨#[]⟩), (.int .i64 0), (.int .i64 0), (.string ⟨#[]⟩), (.slice none 0 0), (.slice none 0 0), (.slice none 0 0)]), 11, 152) := by kernel_rfl
def qcf (x : S36) : S30 := ⟨x.f0, x.f1, x.f2, x.f5, x.f6, [], x.f7⟩
def qd2 (l : List S36) (i : Int) : Int := (qz l i).f3
def qbs : List (Int × S30) → Int | [] => -1 | x :: _ => x.1
def weight : List (Int × S30) → Nat
  | [] => 0
  | x :: r => x.2.f5.length + 1 + weight r
theorem qsy (st : List (Int × S30)) : st.length ≤ weight st := by
  induction st with
  | nil => exact Nat.le_refl _
  | cons x r ih => simp only [List.length_cons, weight]; omega
def qcv (l : List S36) (at_ : Int) : List (Int × S30) → List (Int × S30)
  | x :: y :: r => if qd2 l x.1 = at_ then qcv l at_ (qs2 y x :: r) else x :: y :: r
  | st => st
termination_by st => st.length
def qdn (l : List S36) : Nat → Nat → List (Int × S30) → S30 × Bool
  | 0, _, [x] => if qd2 l 0 = (l.length : Int) then (x.2, true) else (z30, false)
  | 0, _, _ => (z30, false)
  | d + 1, at_, st =>
    if (qz l at_).f4 ≠ qbs st ∨ (qz l at_).f3 ≤ at_ ∨ (qz l at_).f3 > l.length ∨ (qbs st < 0 ∧ (at_ : Int) > 0) then (z30, false)
    else if qbs st ≥ 0 ∧ (qz l at_).f3 > qd2 l (qbs st) then (z30, false)
    else qdn l d (at_ + 1) (qcv l (at_ + 1) ((at_, qcf (qz l at_)) :: st))
def qch (l : List S36) : S30 × Bool := qdn l l.length 0 []
theorem inv_slice {base : Nat} {W : World} {v : Value} {xs : List (Int × S30)} (h : qjo base W v xs) : ∃ A c, v = .slice A xs.length c := by
  obtain ⟨inner, us, ho, _⟩ := h
  exact qjj ho
theorem elem_cells {W : World} {base g n c m e : Nat} {inner cs : List Value} (ho : W.ownsRow base e 11 (.slice (some ⟨g, 0, none⟩) n c) m inner) (j : Nat) (hc : (inner.drop (j * 11)).take 11 = cs) (i : Nat) (v : Value) (hi : cs[i]? = some v) : W.cell? ⟨g, j * 11 + i, none⟩ = some v := by
  have h := ho.cells (g := g) rfl (j * 11 + i) v (by
    rw [← hc, List.getElem?_take] at hi
    split at hi
    · rwa [List.getElem?_drop] at hi
    · cases hi)
  rwa [add_plain] at h
def qwt (l : List S36) (k : Nat) (st1 : List (Int × S30)) (w0 : World) (st : List (Int × S30)) (v : Value) (W : World) : Prop :=
  st ≠ [] ∧ qcv l ((k + 1 : Nat) : Int) st = qcv l ((k + 1 : Nat) : Int) st1 ∧ (∀ x ∈ st, 0 ≤ x.1 ∧ x.1 < ((k + 1 : Nat) : Int)) ∧ weight st ≤ k + 1 ∧ qjo w0.heap.size W v st.reverse ∧ Below w0.heap.size w0 W
def lenOf : Value → Nat
  | .slice _ n _ => n
  | _ => 0
theorem loop_start {l : List S36} {k : Nat} {st : List (Int × S30)} {w0 W w5 w1 : World} {v v1 : Value} {inner us c : List Value} {u : Value} (hst : (∀ x ∈ st, 0 ≤ x.1 ∧ x.1 < (k : Int)) ∧ weight st ≤ k)
    (hB : Below w0.heap.size w0 W) (h5 : Below W.heap.size W w5) (ho : W.ownsRow w0.heap.size 124 11 v st.length inner)
    (hue : us.length = st.length ∧ Apart v us ∧ ∀ (j : Nat) x u, st.reverse[j]? = some x → us[j]? = some u → Elem W w0.heap.size (Live v us) x u ((inner.drop (j * 11)).take 11))
    (hne : Elem w5 w0.heap.size (fun k => k < W.heap.size ∨ u.ownBlock = some k) ((k : Int), qcf (qz l k)) u c ∧ ∀ k, u.ownBlock = some k → W.heap.size ≤ k) (hc : c.length = 11)
    (ho1 : w1.ownsRow w0.heap.size 124 11 v1 (st.length + 1) (inner ++ c)) (hb1 : Below w0.heap.size w0 w1) (hg1 : w5.grownBy w1 v.ownBlock) (hat : v1.ownBlock = v.ownBlock ∨ ∃ b, v1.ownBlock = some b ∧ w5.heap.size ≤ b) :
    qwt l k (((k : Int), qcf (qz l k)) :: st) w0 (((k : Int), qcf (qz l k)) :: st) v1 w1 := by
  refine ⟨by simp, rfl, fun x hx => ?_, ?_, ?_, hb1⟩
  · rcases List.mem_cons.1 hx with rfl | hx
    · exact ⟨by simp, by simp; omega⟩
    · have := hst.1 x hx
      omega
  · have := hst.2
    simp only [weight, qcf, List.length_nil]
    omega
  · rw [List.reverse_cons]
    exact inv_push h5 (by rw [List.length_reverse]; exact ho) (by rw [List.length_reverse]; exact hue.1) hue.2.1 hue.2.2 hne.1 hc hne.2 (by rw [List.length_reverse]; exact ho1) hg1 hat
theorem inv_last {base : Nat} {W : World} {A : Option Addr} {c : Nat} {xs : List (Int × S30)} {y : Int × S30} (h : qjo base W (.slice A (xs.length + 1) c) (xs ++ [y])) : ∃ g, A = some ⟨g, 0, none⟩ ∧ W.cell? ⟨g, xs.length * 11, none⟩ = some (.int .i64 y.1) := by
  obtain ⟨inner, us, ho, hl, ha, he⟩ := h
  have hlen : (xs ++ [y]).length = xs.length + 1 := by simp
  rw [hlen] at ho hl
  obtain ⟨g, cg, cur, hgv, hgcur, _, hgb⟩ := qv5 ho
  injection hgv with hgA _ hgc
  subst hgA
  obtain ⟨u, hu⟩ : ∃ u, us[xs.length]? = some u := ⟨_, List.getElem?_eq_getElem (by omega)⟩
  obtain ⟨A7, c7, A9, c9, ik, hcy, _⟩ := he xs.length y u (by simp) hu
  exact ⟨g, rfl, elem_cells ho xs.length hcy 0 _ rfl⟩
theorem closed_st {l : List S36} {k : Nat} {st1 : List (Int × S30)} {w0 wr : World} {x y : Int × S30} {r : List (Int × S30)} {A' : Option Addr} {c' : Nat}
    (HI : qwt l k st1 w0 (x :: y :: r) (.slice A' (r.length + 1 + 1) c') wr) (hend : qd2 l x.1 = ((k + 1 : Nat) : Int)) (hk : k < 900000000000) :
    Calls Tryd.prog 66 #[.slice A' (r.length + 1 + 1) c'] wr fun e w' => ∃ g c2, e = .returned (.slice (some ⟨g, 0, none⟩) (r.length + 1) c2) ∧ w'.cell? ⟨g, r.length * 11, none⟩ = some (.int .i64 y.1) ∧ qf (qwt l k st1 w0 (qs2 y x :: r) (.slice (some ⟨g, 0, none⟩) (r.length + 1) c2) w') := by
  obtain ⟨_, hcl, hst, hw, hinv, hB⟩ := HI
  have hw2 : weight (x :: y :: r) = x.2.f5.length + 1 + (y.2.f5.length + 1 + weight r) := rfl
  have hr := qsy r
  have hrev : (x :: y :: r).reverse = r.reverse ++ [y, x] := by simp
  rw [hrev] at hinv
  refine (closed_any w0 wr _ r.reverse y x hB hinv (by rw [List.length_reverse]; omega) (by omega)).mono ?_
  rintro e w' ⟨A, c, rfl, hi, hb⟩
  obtain ⟨g, rfl, hcell⟩ := inv_last hi
  rw [List.length_reverse] at hi hcell ⊢
  refine ⟨g, c, rfl, hcell, ⟨by simp, ?_, ?_, ?_, by rw [List.reverse_cons]; exact hi, hb⟩⟩
  · rw [← hcl]
    conv => rhs; unfold qcv
    rw [if_pos hend]
  · intro z hz
    rcases List.mem_cons.1 hz with rfl | hz
    · exact hst y (by simp)
    · exact hst z (by simp [hz])
  · rw [hw2] at hw
    have : weight (qs2 y x :: r) = y.2.f5.length + 1 + 1 + weight r := by simp [weight, qs2]
    omega
theorem go_on {l : List S36} {k : Nat} {st : List (Int × S30)} {res : S30 × Bool} (hk : k < l.length) (h : qdn l (l.length - k) k st = res) (c1 : (qz l k).f4 = qbs st) (c2 : ¬ (qz l k).f3 ≤ k) (c3 : ¬ ((l.length : Int) < (qz l k).f3)) (c4 : ¬ (qbs st < 0 ∧ (k : Int) > 0))
    (c6 : ¬ (qbs st ≥ 0 ∧ (qz l k).f3 > qd2 l (qbs st))) : qdn l (l.length - (k + 1)) (k + 1) (qcv l ((k + 1 : Nat) : Int) (((k : Int), qcf (qz l k)) :: st)) = res := by
  obtain ⟨d, hd⟩ : ∃ d, l.length - k = d + 1 := ⟨l.length - k - 1, by omega⟩
  rw [hd] at h
  unfold qdn at h
  rw [if_neg, if_neg c6] at h
  · have : l.length - (k + 1) = d := by omega
    rw [this]
    exact h
  · rintro (h1 | h1 | h1 | h1)
    · exact h1 c1
    · exact c2 h1
    · exact c3 h1
    · exact c4 h1
theorem go_bad {l : List S36} {k : Nat} {st : List (Int × S30)} {res : S30 × Bool} (hk : k < l.length) (h : qdn l (l.length - k) k st = res) (c : ((qz l k).f4 ≠ qbs st ∨ (qz l k).f3 ≤ k ∨ (qz l k).f3 > l.length ∨ (qbs st < 0 ∧ (k : Int) > 0)) ∨ (qbs st ≥ 0 ∧ (qz l k).f3 > qd2 l (qbs st))) : res = (z30, false) := by
  obtain ⟨d, hd⟩ : ∃ d, l.length - k = d + 1 := ⟨l.length - k - 1, by omega⟩
  rw [hd] at h
  unfold qdn at h
  split at h
  · exact h.symm
  · rename_i hn
    rw [if_pos (c.resolve_left hn)] at h
    exact h.symm
theorem qtm (l : List S36) (a : Int) (x : Int × S30) : qcv l a [x] = [x] := by unfold qcv; rfl
theorem qz3 {l : List S36} {a : Int} {x y : Int × S30} {r : List (Int × S30)} (h : ¬ qd2 l x.1 = a) : qcv l a (x :: y :: r) = x :: y :: r := by unfold qcv; rw [if_neg h]
theorem list_get (l : List Value) : ∀ n, l.length = n → l = (List.range n).map (fun i => l.getD i undef) := by
  intro n hn
  apply List.ext_getElem
  · simp [hn]
  · intro i h1 h2
    simp [List.getD, List.getElem?_eq_getElem h1]
set_option maxRecDepth 100000 in
theorem frame113 (t : Array Value) (h : t.size = 113) : ∃ u : Nat → Value, (∀ i, t.getD i undef = u i) ∧ t = (u 0 :: u 1 :: u 2 :: u 3 :: u 4 :: u 5 :: u 6 :: u 7 :: u 8 :: u 9 :: u 10 :: u 11 :: u 12 :: u 13 :: u 14 :: u 15 :: u 16 :: u 17 :: u 18 :: u 19 :: u 20 :: u 21 :: u 22 :: u 23 :: u 24 :: u 25 :: u 26 :: u 27 :: u 28 :: u 29 :: u 30 :: u 31 :: u 32 :: u 33 :: u 34 :: u 35 :: u 36 :: u 37 :: u 38 :: u 39 :: u 40 :: u 41 :: u 42 :: u 43 :: u 44 :: u 45 :: u 46 :: u 47 :: u 48 :: u 49 :: u 50 :: u 51 :: u 52 :: u 53 :: u 54 :: u 55 :: u 56 :: u 57 :: u 58 :: u 59 :: u 60 :: u 61 :: u 62 :: u 63 :: u 64 :: u 65 :: u 66 :: u 67 :: u 68 :: u 69 :: u 70 :: u 71 :: u 72 :: u 73 :: u 74 :: u 75 :: u 76 :: u 77 :: u 78 :: u 79 :: u 80 :: u 81 :: u 82 :: u 83 :: u 84 :: u 85 :: u 86 :: u 87 :: u 88 :: u 89 :: u 90 :: u 91 :: u 92 :: u 93 :: u 94 :: u 95 :: u 96 :: u 97 :: u 98 :: u 99 :: u 100 :: u 101 :: u 102 :: u 103 :: u 104 :: u 105 :: u 106 :: u 107 :: u 108 :: u 109 :: u 110 :: u 111 :: u 112 :: []).toArray := by
  refine ⟨fun i => t.toList.getD i undef, fun i => by simp [Array.getD_eq_getD_getElem?, List.getD], ?_⟩
  have := list_get t.toList 113 (by simpa using h)
  have h2 : (List.range 113).map (fun i => t.toList.getD i undef) = (fun u : Nat → Value => u 0 :: u 1 :: u 2 :: u 3 :: u 4 :: u 5 :: u 6 :: u 7 :: u 8 :: u 9 :: u 10 :: u 11 :: u 12 :: u 13 :: u 14 :: u 15 :: u 16 :: u 17 :: u 18 :: u 19 :: u 20 :: u 21 :: u 22 :: u 23 :: u 24 :: u 25 :: u 26 :: u 27 :: u 28 :: u 29 :: u 30 :: u 31 :: u 32 :: u 33 :: u 34 :: u 35 :: u 36 :: u 37 :: u 38 :: u 39 :: u 40 :: u 41 :: u 42 :: u 43 :: u 44 :: u 45 :: u 46 :: u 47 :: u 48 :: u 49 :: u 50 :: u 51 :: u 52 :: u 53 :: u 54 :: u 55 :: u 56 :: u 57 :: u 58 :: u 59 :: u 60 :: u 61 :: u 62 :: u 63 :: u 64 :: u 65 :: u 66 :: u 67 :: u 68 :: u 69 :: u 70 :: u 71 :: u 72 :: u 73 :: u 74 :: u 75 :: u 76 :: u 77 :: u 78 :: u 79 :: u 80 :: u 81 :: u 82 :: u 83 :: u 84 :: u 85 :: u 86 :: u 87 :: u 88 :: u 89 :: u 90 :: u 91 :: u 92 :: u 93 :: u 94 :: u 95 :: u 96 :: u 97 :: u 98 :: u 99 :: u 100 :: u 101 :: u 102 :: u 103 :: u 104 :: u 105 :: u 106 :: u 107 :: u 108 :: u 109 :: u 110 :: u 111 :: u 112 :: []) (fun i => t.toList.getD i undef) := rfl
  rw [h2] at this
  exact (Array.toArray_toList (xs := t)).symm.trans (congrArg List.toArray this)
def zj5 (base : Nat) (w w0 : World) (A : Option Addr) (c : Nat) (l : List S36) (res : S30 × Bool) (last : Bool) (a : Act) (W : World) : Prop :=
  a.defers = [] ∧ a.tmps.size = 113 ∧ ∃ (k : Nat) (st : List (Int × S30)) (v : Value), a.tmps.getD 0 undef = .slice A l.length c ∧ a.tmps.getD 2 undef = .pointer (some ⟨w.heap.size, 0, none⟩) ∧ a.tmps.getD 3 undef = .bool false ∧ a.tmps.getD 4 undef = v ∧
    a.tmps.getD 5 undef = .int .i64 (k : Int) ∧ a.tmps.getD 6 undef = .int .i64 (qbs st) ∧ a.tmps.getD 7 undef = .int .i64 (l.length : Int) ∧
    (last = true → k = l.length) ∧ k ≤ l.length ∧ ((∀ x ∈ st, 0 ≤ x.1 ∧ x.1 < k) ∧ weight st ≤ k) ∧ qjo w0.heap.size W v st.reverse ∧ Below w0.heap.size w0 W ∧ qdn l (l.length - k) k st = res
set_option maxRecDepth 100000 in
theorem zj5.opened {base : Nat} {w w0 : World} {A : Option Addr} {c : Nat} {l : List S36} {res : S30 × Bool} {last : Bool} {a : Act} {W : World} (h : zj5 base w w0 A c l res last a W) :
    ∃ (u : Nat → Value) (k : Nat) (st : List (Int × S30)) (v : Value), a = { tmps := ((.slice A l.length c : Value) :: u 1 :: (.pointer (some ⟨w.heap.size, 0, none⟩) : Value) :: (.bool false : Value) :: (v : Value) :: (.int .i64 (k : Int) : Value) :: (.int .i64 (qbs st) : Value) :: (.int .i64 (l.length : Int) : Value) :: u 8 :: u 9 :: u 10 :: u 11 :: u 12 :: u 13 :: u 14 :: u 15 :: u 16 :: u 17 :: u 18 :: u 19 :: u 20 :: u 21 :: u 22 :: u 23 :: u 24 :: u 25 :: u 26 :: u 27 :: u 28 :: u 29 :: u 30 :: u 31 :: u 32 :: u 33 :: u 34 :: u 35 :: u 36 :: u 37 :: u 38 :: u 39 :: u 40 :: u 41 :: u 42 :: u 43 :: u 44 :: u 45 :: u 46 :: u 47 :: u 48 :: u 49 :: u 50 :: u 51 :: u 52 :: u 53 :: u 54 :: u 55 :: u 56 :: u 57 :: u 58 :: u 59 :: u 60 :: u 61 :: u 62 :: u 63 :: u 64 :: u 65 :: u 66 :: u 67 :: u 68 :: u 69 :: u 70 :: u 71 :: u 72 :: u 73 :: u 74 :: u 75 :: u 76 :: u 77 :: u 78 :: u 79 :: u 80 :: u 81 :: u 82 :: u 83 :: u 84 :: u 85 :: u 86 :: u 87 :: u 88 :: u 89 :: u 90 :: u 91 :: u 92 :: u 93 :: u 94 :: u 95 :: u 96 :: u 97 :: u 98 :: u 99 :: u 100 :: u 101 :: u 102 :: u 103 :: u 104 :: u 105 :: u 106 :: u 107 :: u 108 :: u 109 :: u 110 :: u 111 :: u 112 :: []).toArray, defers := [] } ∧
      (last = true → k = l.length) ∧ k ≤ l.length ∧ ((∀ x ∈ st, 0 ≤ x.1 ∧ x.1 < k) ∧ weight st ≤ k) ∧ qjo w0.heap.size W v st.reverse ∧ Below w0.heap.size w0 W ∧ qdn l (l.length - k) k st = res := by
  obtain ⟨hd, hs, k, st, v, h0, h2, h3, h4, h5, h6, h7, hr⟩ := h
  obtain ⟨u, hu, ht⟩ := frame113 a.tmps hs
  refine ⟨u, k, st, v, ?_, hr⟩
  rw [← h0, ← h2, ← h3, ← h4, ← h5, ← h6, ← h7, hu, hu, hu, hu, hu, hu, hu, ← ht, ← hd]
set_option maxHeartbeats 4000000 in
set_option maxRecDepth 100000 in
theorem back_walk (kf : Nat) (A : Option Addr) (c : Nat) (l : List S36) (w : World) (hr : Kd.C k36 w A l.length l) (hc : l.length ≤ c) (hl : l.length ≤ 900000000000)
    (hcp : ∀ i : Nat, i < l.length → qb3.f kf (qz l i).f0 (qz l i).f1 (qz l i).f2 (qz l i).f3 (qz l i).f4 (qz l i).f5 (qz l i).f6.f0 (qz l i).f6.f1 (qz l i).f6.f2 (qz l i).f6.f3 (qz l i).f7 = some ((qz l i).f0, (qz l i).f1, (qz l i).f2, (qz l i).f5, (qz l i).f6.f0, (qz l i).f6.f1, (qz l i).f6.f2, (qz l i).f6.f3, [], (qz l i).f7)) :
    Calls Tryd.prog 41 #[.slice A l.length c] w fun e w' => ∃ v7_ v8_ v9_ : Value, e = .returned (.tuple #[.agg #[.int .i64 (qch l).1.f0, .int .i64 (qch l).1.f1, .int .i64 (qch l).1.f2, .string (qch l).1.f3, .int .i64 (qch l).1.f4.f0, .int .i64 (qch l).1.f4.f1, .string (qch l).1.f4.f2, v7_, v8_, v9_], .bool (qch l).2]) ∧
      Kd.V k27 27 w' w.heap.size (fun k_ => (w.heap.size ≤ k_)) v7_ (qch l).1.f4.f3 ∧ Kd.V k30 30 w' w.heap.size (fun k_ => (w.heap.size ≤ k_)) v8_ (qch l).1.f5 ∧ Kd.V k27 27 w' w.heap.size (fun k_ => (w.heap.size ≤ k_)) v9_ (qch l).1.f6 ∧ Below w.heap.size w w' := by
  have qwm := Tryd.underlying30
  have zry := Tryd.underlying36
  have zyo := Tryd.underlying124
  have HR := qf.mk hr
  have HC := qf.mk hc
  have HL := qf.mk hl
  have HB0 := qf.mk (qg (Below.refl w.heap.size w) (.cells #[.int .i64 0, .int .i64 0, .int .i64 0, .string ⟨#[]⟩, .int .i64 0, .int .i64 0, .string ⟨#[]⟩, .slice none 0 0, .slice none 0 0, .slice none 0 0] 30))
  have HCP := qf.mk hcp
  clear hr hc hl hcp
  go_enter Tryd.func41, Tryd.ntmps41
  go_wp2
  obtain ⟨w0, hw0⟩ : ∃ w0, w0 = w.alloc (.cells #[.int .i64 0, .int .i64 0, .int .i64 0, .string ⟨#[]⟩, .int .i64 0, .int .i64 0, .string ⟨#[]⟩, .slice none 0 0, .slice none 0 0, .slice none 0 0] 30) := ⟨_, rfl⟩
  have W0B := qf.mk (show Below w.heap.size w w0 by rw [hw0]; exact HB0.out)
  have W0Z := qf.mk (show w0.heap.size = w.heap.size + 1 by rw [hw0]; simp)
  have W0G := qf.mk (show w0.heap[w.heap.size]? = some (.cells #[.int .i64 0, .int .i64 0, .int .i64 0, .string ⟨#[]⟩, .int .i64 0, .int .i64 0, .string ⟨#[]⟩, .slice none 0 0, .slice none 0 0, .slice none 0 0] 30 (0, 0)) by rw [hw0]; simpa using heap_alloc_new w _)
  refine wp_scope_jumps01 (zj5 w.heap.size w w0 A c l (qch l) true) (zj5 w.heap.size w w0 A c l (qch l) false) (fun a _ => l.length + 1 - (intOf (a.tmps.getD 5 undef)).toNat) rfl rfl ?pass0 ?pass1 ?first
  case first =>
    intro hpass
    go_wp2
    go_step3
    rename_i hK
    apply hK
    refine hpass _ _ ?_
    refine ⟨rfl, rfl, 0, [], .slice none 0 0, rfl, rfl, rfl, rfl, rfl, rfl, rfl, fun h => (by cases h), Nat.zero_le _, ⟨fun x hx => (by simp at hx), Nat.le_refl _⟩, inv_nil _ _, ?_, rfl⟩
    rw [← hw0]
    exact Below.refl _ _
  case pass0 =>
    clear hw0
    intro a W hJ
    obtain ⟨u, k, st, v, rfl, hlast, hk, hst, hinv, hB, hgo⟩ := hJ.opened
    clear hJ
    obtain rfl := hlast rfl
    have HINV := qf.mk hinv
    have HB := qf.mk hB
    have HGO := qf.mk hgo
    have HST := qf.mk hst
    clear hlast hk hst hinv hB hgo
    have hgb := (HB.out.block w.heap.size (by rw [W0Z.out]; omega)).trans W0G.out
    have gc0 := qb hgb 0
    have gf0 := qa hgb 0
    have gc1 := qb hgb 1
    have gf1 := qa hgb 1
    have gc2 := qb hgb 2
    have gf2 := qa hgb 2
    have gc3 := qb hgb 3
    have gf3 := qa hgb 3
    have gc4 := qb hgb 4
    have gf4 := qa hgb 4
    have gc5 := qb hgb 5
    have gf5 := qa hgb 5
    have gc6 := qb hgb 6
    have gf6 := qa hgb 6
    have gc7 := qb hgb 7
    have gf7 := qa hgb 7
    have gc8 := qb hgb 8
    have gf8 := qa hgb 8
    have gc9 := qb hgb 9
    have gf9 := qa hgb 9
    clear hgb
    obtain ⟨Av, cv, hv⟩ := inv_slice HINV.out
    rw [List.length_reverse] at hv
    subst hv
    have HBW := qf.mk (jd W0B.out (by rw [W0Z.out]; omega) HB.out)
    rcases st with _ | ⟨x, _ | ⟨y, r⟩⟩
    · have hres : qch l = (z30, false) := by rw [← HGO.out]; simp [qdn]
      have HRES := qf.mk hres
      clear hres
      go_wp2
      have hres := HRES.out
      rw [Exit.noGoto_ret]
      refine bodyPost_ret (v := .tuple #[.agg #[.int .i64 0, .int .i64 0, .int .i64 0, .string ⟨#[]⟩, .int .i64 0, .int .i64 0, .string ⟨#[]⟩, .slice none 0 0, .slice none 0 0, .slice none 0 0], .bool false]) (by simp [results, Tryd.results41, go_sem, gc0, gc1, gc2, gc3, gc4, gc5, gc6, gc7, gc8, gc9]) rfl ?_
      rw [hres]
      exact ⟨_, _, _, rfl, Kd.qeh _ _ _ _ _, Kd.qeh _ _ _ _ _, Kd.qeh _ _ _ _ _, by repeat (with_reducible first | exact HBW.out | refine ql ?_ (Nat.le_refl _) | refine qc ?_ _)⟩
    · have hx := HST.out.1 x (by simp)
      have hn : 0 < l.length := by omega
      clear hx
      obtain ⟨ad0, A9, c9, A10, c10, e0, hx_0, hx_1, hx_2, hx_3, hx_rest⟩ := q66 HR.out 0 (by omega) (by omega)
      subst e0
      clear hx_0 hx_1 hx_2 hx_rest
      have hx3 := (HBW.out.cell (World.block_lt_of_cell? w _ hx_3)).trans hx_3
      clear hx_3
      have ea : ad0.add ((0 : Int).toNat * 11) = ad0 := by simp [Addr.add]
      rw [ea] at hx3
      clear ea
      by_cases hend : qd2 l 0 = (l.length : Int)
      · have hres : qch l = (x.2, true) := by
          rw [← HGO.out, Nat.sub_self]
          unfold qdn
          rw [if_pos hend]
        have HRES := qf.mk hres
        have hend' : (qz l 0).f3 = (l.length : Int) := hend
        clear hres hend
        obtain ⟨inner, us, ho, hl, ha, he⟩ := HINV.out
        obtain ⟨u0, hu0⟩ : ∃ u0, us[0]? = some u0 := ⟨_, List.getElem?_eq_getElem (by rw [hl]; simp)⟩
        have hE := he 0 x u0 (by simp) hu0
        obtain ⟨A7, c7, A8, c8, A9', c9', hu8, hcells, l7, l8, l9, f7, f8, f9, _⟩ := q92 hE
        subst hu8
        obtain ⟨g, cg, cur, hgv, hgcur, _, hgb⟩ := qv5 ho
        injection hgv with hgA _ hgc
        subst hgA
        subst hgc
        have hce := elem_cells ho 0 (by rw [hcells])
        have ce1 := hce 1 _ rfl
        have ce2 := hce 2 _ rfl
        have ce3 := hce 3 _ rfl
        have ce4 := hce 4 _ rfl
        have ce5 := hce 5 _ rfl
        have ce6 := hce 6 _ rfl
        have ce7 := hce 7 _ rfl
        have ce8 := hce 8 _ rfl
        have ce9 := hce 9 _ rfl
        have z00 := hce 10 _ rfl
        simp only [Nat.zero_mul, Nat.zero_add] at ce1 ce2 ce3 ce4 ce5 ce6 ce7 ce8 ce9 z00
        have HFIN := qf.mk (And.intro l7 (And.intro l8 (And.intro l9 (And.intro f7 (And.intro f8 f9)))))
        have HOWN := qf.mk (show ∀ k, (Value.slice A8 x.2.f5.length c8).ownBlock = some k → w0.heap.size ≤ k by obtain ⟨_, _, _, _, ik, _, _, _, _, _, ho', _⟩ := hE; exact qgb ho')
        clear hce ho hl ha he hu0 hE hcells l7 l8 l9 f7 f8 f9 hgcur
        go_wp2
        rw [Exit.noGoto_ret]
        refine bodyPost_ret (v := .tuple #[.agg #[.int .i64 x.2.f0, .int .i64 x.2.f1, .int .i64 x.2.f2, .string x.2.f3, .int .i64 x.2.f4.f0, .int .i64 x.2.f4.f1, .string x.2.f4.f2, .slice A7 x.2.f4.f3.length c7, .slice A8 x.2.f5.length c8, .slice A9' x.2.f6.length c9'], .bool true]) (by simp [results, Tryd.results41, go_sem, gc0, gc1, gc2, gc3, gc4, gc5, gc6, gc7, gc8, gc9]) rfl ?_
        rw [HRES.out]
        obtain ⟨l7, l8, l9, f7, f8, f9⟩ := HFIN.out
        have hfar : ∀ k, ((w0.heap.size ≤ k ∧ ¬ Live (.slice (some ⟨g, 0, none⟩) [x].length cv) us k) ∨ (Value.slice A8 x.2.f5.length c8).ownBlock = some k) → w.heap.size + 1 ≤ k := fun k hk => by
          rcases hk with hk | hk
          · have := hk.1
            rw [W0Z.out] at this
            exact this
          · have := HOWN.out k hk
            rw [W0Z.out] at this
            exact this
        have hst : ∀ k, w.heap.size + 1 ≤ k → (W.setCells w.heap.size 0 [.int .i64 x.2.f0, .int .i64 x.2.f1, .int .i64 x.2.f2, .string x.2.f3, .int .i64 x.2.f4.f0, .int .i64 x.2.f4.f1, .string x.2.f4.f2, .slice A7 x.2.f4.f3.length c7, .slice A8 x.2.f5.length c8, .slice A9' x.2.f6.length c9']).heap[k]? = W.heap[k]? := fun k hk => qdy _ _ _ (by omega)
        exact ⟨_, _, _, rfl, Kd.V_mk l7 (Kd.qed (Kd.qes f7 (fun k hk _ => hst k (hfar k hk))) (fun k hk => by have := hfar k hk; omega)), Kd.V_mk l8 (Kd.qed (Kd.qes f8 (fun k hk _ => hst k (hfar k hk))) (fun k hk => by have := hfar k hk; omega)), Kd.V_mk l9 (Kd.qed (Kd.qes f9 (fun k hk _ => hst k (hfar k hk))) (fun k hk => by have := hfar k hk; omega)), by repeat (with_reducible first | exact HBW.out | refine ql ?_ (Nat.le_refl _) | refine qc ?_ _)⟩
      · have hres : qch l = (z30, false) := by
          rw [← HGO.out, Nat.sub_self]
          unfold qdn
          rw [if_neg hend]
        have HRES := qf.mk hres
        have hend' : ¬ (qz l 0).f3 = (l.length : Int) := hend
        clear hres hend
        go_wp2
        have hres := HRES.out
        rw [Exit.noGoto_ret]
        refine bodyPost_ret (v := .tuple #[.agg #[.int .i64 0, .int .i64 0, .int .i64 0, .string ⟨#[]⟩, .int .i64 0, .int .i64 0, .string ⟨#[]⟩, .slice none 0 0, .slice none 0 0, .slice none 0 0], .bool false]) (by simp [results, Tryd.results41, go_sem, gc0, gc1, gc2, gc3, gc4, gc5, gc6, gc7, gc8, gc9]) rfl ?_
        rw [hres]
        exact ⟨_, _, _, rfl, Kd.qeh _ _ _ _ _, Kd.qeh _ _ _ _ _, Kd.qeh _ _ _ _ _, by repeat (with_reducible first | exact HBW.out | refine ql ?_ (Nat.le_refl _) | refine qc ?_ _)⟩
    · have hres : qch l = (z30, false) := by rw [← HGO.out, Nat.sub_self]; rfl
      have HRES := qf.mk hres
      have hlen : ¬ ((x :: y :: r).length = 1) := by simp
      clear hres
      go_wp2
      have hres := HRES.out
      rw [Exit.noGoto_ret]
      refine bodyPost_ret (v := .tuple #[.agg #[.int .i64 0, .int .i64 0, .int .i64 0, .string ⟨#[]⟩, .int .i64 0, .int .i64 0, .string ⟨#[]⟩, .slice none 0 0, .slice none 0 0, .slice none 0 0], .bool false]) (by simp [results, Tryd.results41, go_sem, gc0, gc1, gc2, gc3, gc4, gc5, gc6, gc7, gc8, gc9]) rfl ?_
      rw [hres]
      exact ⟨_, _, _, rfl, Kd.qeh _ _ _ _ _, Kd.qeh _ _ _ _ _, Kd.qeh _ _ _ _ _, by repeat (with_reducible first | exact HBW.out | refine ql ?_ (Nat.le_refl _) | refine qc ?_ _)⟩
  case pass1 =>
    clear hw0
    intro a W hJ
    obtain ⟨u, k, st, v, rfl, hlast, hk, hst, hinv, hB, hgo⟩ := hJ.opened
    have HJ := qf.mk hJ
    have HINV := qf.mk hinv
    have HB := qf.mk hB
    have HGO := qf.mk hgo
    have HST := qf.mk hst
    clear hlast hst hinv hB hgo hJ
    by_cases hkn : k = l.length
    · have hkn' : (k : Int) = (l.length : Int) := by rw [hkn]
      have HKN := qf.mk hkn
      clear hkn hk
      go_wp2
      go_step3
      refine .inl ⟨rfl, ?_⟩
      exact ⟨rfl, rfl, k, st, v, rfl, rfl, rfl, rfl, rfl, rfl, rfl, fun _ => HKN.out, by have := HKN.out; omega, HST.out, HINV.out, HB.out, HGO.out⟩
    have hlt : k < l.length := by omega
    have hkn' : ¬ (k : Int) = (l.length : Int) := by omega
    have hgb := (HB.out.block w.heap.size (by rw [W0Z.out]; omega)).trans W0G.out
    have gc0 := qb hgb 0
    have gf0 := qa hgb 0
    have gc1 := qb hgb 1
    have gf1 := qa hgb 1
    have gc2 := qb hgb 2
    have gf2 := qa hgb 2
    have gc3 := qb hgb 3
    have gf3 := qa hgb 3
    have gc4 := qb hgb 4
    have gf4 := qa hgb 4
    have gc5 := qb hgb 5
    have gf5 := qa hgb 5
    have gc6 := qb hgb 6
    have gf6 := qa hgb 6
    have gc7 := qb hgb 7
    have gf7 := qa hgb 7
    have gc8 := qb hgb 8
    have gf8 := qa hgb 8
    have gc9 := qb hgb 9
    have gf9 := qa hgb 9
    clear hgb
    have HBW := qf.mk (jd W0B.out (by rw [W0Z.out]; omega) HB.out)
    obtain ⟨ad, A9, c9, A10, c10, e0, hx0, hx1, hx2, hx3, hx4, hx5, hx6, hx7, hx8, hx9, zhx, hl9, hi9, zru, zyl⟩ := q66 HR.out (k : Int) (by omega) (by omega)
    subst e0
    replace hx0 := (HBW.out.cell (World.block_lt_of_cell? w _ hx0)).trans hx0
    replace hx1 := (HBW.out.cell (World.block_lt_of_cell? w _ hx1)).trans hx1
    replace hx2 := (HBW.out.cell (World.block_lt_of_cell? w _ hx2)).trans hx2
    replace hx3 := (HBW.out.cell (World.block_lt_of_cell? w _ hx3)).trans hx3
    replace hx4 := (HBW.out.cell (World.block_lt_of_cell? w _ hx4)).trans hx4
    replace hx5 := (HBW.out.cell (World.block_lt_of_cell? w _ hx5)).trans hx5
    replace hx6 := (HBW.out.cell (World.block_lt_of_cell? w _ hx6)).trans hx6
    replace hx7 := (HBW.out.cell (World.block_lt_of_cell? w _ hx7)).trans hx7
    replace hx8 := (HBW.out.cell (World.block_lt_of_cell? w _ hx8)).trans hx8
    replace hx9 := (HBW.out.cell (World.block_lt_of_cell? w _ hx9)).trans hx9
    replace zhx := (HBW.out.cell (World.block_lt_of_cell? w _ zhx)).trans zhx
    simp only [Int.toNat_natCast] at hx0 hx1 hx2 hx3 hx4 hx5 hx6 hx7 hx8 hx9 zhx
    have HX9 := qf.mk (And.intro hl9 (And.intro hi9 (And.intro zru zyl)))
    clear hl9 hi9 zru zyl
    clear hkn
    have hk0 : (0 : Int) ≤ (k : Int) := by omega
    have hklt : (k : Int) < (l.length : Int) := by omega
    have hkb : (k : Int) ≤ 900000000000 := by have := HL.out; omega
    by_cases hc1 : (qz l k).f4 ≠ qbs st ∨ (qz l k).f3 ≤ k ∨ (qz l k).f3 > l.length ∨ (qbs st < 0 ∧ (k : Int) > 0)
    · have HRES := qf.mk (show qch l = (z30, false) from go_bad hlt HGO.out (.inl hc1))
      by_cases c1 : (qz l k).f4 = qbs st
      · have c1b : ((qz l k).f4 != qbs st) = false := bne_eq_false_iff_eq.mpr c1
        clear c1
        by_cases c2 : (qz l k).f3 ≤ k
        · clear hc1
          go_wp2
          rw [Exit.qkz]
          refine bodyPost_ret (v := .tuple #[.agg #[.int .i64 0, .int .i64 0, .int .i64 0, .string ⟨#[]⟩, .int .i64 0, .int .i64 0, .string ⟨#[]⟩, .slice none 0 0, .slice none 0 0, .slice none 0 0], .bool false]) (by simp [results, Tryd.results41, go_sem, gc0, gc1, gc2, gc3, gc4, gc5, gc6, gc7, gc8, gc9]) rfl ?_
          rw [HRES.out]
          exact ⟨_, _, _, rfl, Kd.qeh _ _ _ _ _, Kd.qeh _ _ _ _ _, Kd.qeh _ _ _ _ _, by repeat (with_reducible first | exact HBW.out | refine ql ?_ (Nat.le_refl _) | refine qc ?_ _)⟩
        · by_cases c3 : ((l.length : Int) < (qz l k).f3)
          · clear hc1
            go_wp2
            rw [Exit.qkz]
            refine bodyPost_ret (v := .tuple #[.agg #[.int .i64 0, .int .i64 0, .int .i64 0, .string ⟨#[]⟩, .int .i64 0, .int .i64 0, .string ⟨#[]⟩, .slice none 0 0, .slice none 0 0, .slice none 0 0], .bool false]) (by simp [results, Tryd.results41, go_sem, gc0, gc1, gc2, gc3, gc4, gc5, gc6, gc7, gc8, gc9]) rfl ?_
            rw [HRES.out]
            exact ⟨_, _, _, rfl, Kd.qeh _ _ _ _ _, Kd.qeh _ _ _ _ _, Kd.qeh _ _ _ _ _, by repeat (with_reducible first | exact HBW.out | refine ql ?_ (Nat.le_refl _) | refine qc ?_ _)⟩
          · have c4 : qbs st < 0 ∧ (k : Int) > 0 := by
              rcases hc1 with h | h | h | h
              · exact absurd (bne_eq_false_iff_eq.mp c1b) h
              · exact absurd h c2
              · exact absurd h c3
              · exact h
            obtain ⟨c4, c5⟩ := c4
            clear hc1
            go_wp2
            rw [Exit.qkz]
            refine bodyPost_ret (v := .tuple #[.agg #[.int .i64 0, .int .i64 0, .int .i64 0, .string ⟨#[]⟩, .int .i64 0, .int .i64 0, .string ⟨#[]⟩, .slice none 0 0, .slice none 0 0, .slice none 0 0], .bool false]) (by simp [results, Tryd.results41, go_sem, gc0, gc1, gc2, gc3, gc4, gc5, gc6, gc7, gc8, gc9]) rfl ?_
            rw [HRES.out]
            exact ⟨_, _, _, rfl, Kd.qeh _ _ _ _ _, Kd.qeh _ _ _ _ _, Kd.qeh _ _ _ _ _, by repeat (with_reducible first | exact HBW.out | refine ql ?_ (Nat.le_refl _) | refine qc ?_ _)⟩
      · have c1b : ((qz l k).f4 != qbs st) = true := bne_iff_ne.mpr c1
        clear c1 hc1
        go_wp2
        rw [Exit.qkz]
        refine bodyPost_ret (v := .tuple #[.agg #[.int .i64 0, .int .i64 0, .int .i64 0, .string ⟨#[]⟩, .int .i64 0, .int .i64 0, .string ⟨#[]⟩, .slice none 0 0, .slice none 0 0, .slice none 0 0], .bool false]) (by simp [results, Tryd.results41, go_sem, gc0, gc1, gc2, gc3, gc4, gc5, gc6, gc7, gc8, gc9]) rfl ?_
        rw [HRES.out]
        exact ⟨_, _, _, rfl, Kd.qeh _ _ _ _ _, Kd.qeh _ _ _ _ _, Kd.qeh _ _ _ _ _, by repeat (with_reducible first | exact HBW.out | refine ql ?_ (Nat.le_refl _) | refine qc ?_ _)⟩
    have c1 : (qz l k).f4 = qbs st := by
      by_cases h : (qz l k).f4 = qbs st
      · exact h
      · exact absurd (.inl h) hc1
    have c2 : ¬ (qz l k).f3 ≤ k := fun h => hc1 (.inr (.inl h))
    have c3 : ¬ ((l.length : Int) < (qz l k).f3) := fun h => hc1 (.inr (.inr (.inl h)))
    have c4 : ¬ (qbs st < 0 ∧ (k : Int) > 0) := fun h => hc1 (.inr (.inr (.inr h)))
    clear hc1
    obtain ⟨inner, us, ho, hul, hua, hue⟩ := HINV.out
    rw [List.length_reverse] at ho hul
    obtain ⟨Av, cv, hv⟩ := qjj ho
    subst hv
    have HOWN := qf.mk ho
    have HUE := qf.mk (And.intro hul (And.intro hua hue))
    have HSL := qf.mk (show st.length ≤ l.length from Nat.le_trans (qsy st) (Nat.le_trans HST.out.2 hk))
    clear ho hul hua hue
    have HTOP := qf.mk (show qbs st < l.length by
      rcases st with _ | ⟨x, r⟩
      · show (-1 : Int) < _; omega
      · have := (HST.out.1 x (by simp)).2; show x.1 < _; omega)
    have HC1 := qf.mk c1
    have c1b : ((qz l k).f4 != qbs st) = false := bne_eq_false_iff_eq.mpr c1
    have c1c : ((qz l k).f4 == qbs st) = true := beq_iff_eq.mpr c1
    clear c1
    have zn9 := qf.mk (And.intro c2 (And.intro c3 c4))
    by_cases ht : 0 ≤ qbs st
    · obtain ⟨ad', _, _, _, _, e0', _, _, _, hy3, _⟩ := q66 HR.out (qbs st) ht HTOP.out
      injection e0' with e0'
      subst e0'
      replace hy3 := (HBW.out.cell (World.block_lt_of_cell? w _ hy3)).trans hy3
      have htl := HTOP.out
      have c5 : ¬ (qbs st < 0) := by omega
      clear c4
      by_cases hc6 : qd2 l (qbs st) < (qz l k).f3
      · have HRES := qf.mk (show qch l = (z30, false) from go_bad hlt HGO.out (.inr ⟨ht, hc6⟩))
        have c6 : (qz l (qbs st)).f3 < (qz l k).f3 := hc6
        clear hc6
        go_wp2_with fail
        go_quiet (fail)
        go_wp2
        rw [Exit.qkz]
        refine bodyPost_ret (v := .tuple #[.agg #[.int .i64 0, .int .i64 0, .int .i64 0, .string ⟨#[]⟩, .int .i64 0, .int .i64 0, .string ⟨#[]⟩, .slice none 0 0, .slice none 0 0, .slice none 0 0], .bool false]) (by simp [results, Tryd.results41, go_sem, gc0, gc1, gc2, gc3, gc4, gc5, gc6, gc7, gc8, gc9]) rfl ?_
        rw [HRES.out]
        exact ⟨_, _, _, rfl, Kd.qeh _ _ _ _ _, Kd.qeh _ _ _ _ _, Kd.qeh _ _ _ _ _, by repeat (with_reducible first | exact HBW.out | refine ql ?_ (Nat.le_refl _) | refine qc ?_ _)⟩
      · have c6 : ¬ ((qz l (qbs st)).f3 < (qz l k).f3) := hc6
        have HC6 := qf.mk (show ¬ (qbs st ≥ 0 ∧ (qz l k).f3 > qd2 l (qbs st)) from fun h => hc6 h.2)
        have HGN := qf.mk (go_on hlt HGO.out HC1.out zn9.out.1 zn9.out.2.1 zn9.out.2.2 HC6.out)
        clear hc6
        go_wp2_with fail
        go_quiet (fail)
        go_wp2_with (first | (go_at_call 65; refine (qb3.calls kf (qz l k).f0 (qz l k).f1 (qz l k).f2 (qz l k).f3 (qz l k).f4 (qz l k).f5 (qz l k).f6.f0 (qz l k).f6.f1 (qz l k).f6.f2 _ _ (qz l k).f6.f3 _ _ (qz l k).f7 _ _ _ _ _ _ _ _ _ _ _ ?s1 ?s2 ?s3 ?s4 (HCP.out k hlt)).mono ?_; (case s1 => exact Kd.qaz (Kd.vv HX9.out.2.1 HBW.out) _); (case s2 => exact HX9.out.1); (case s3 => exact Kd.qaz (Kd.vv HX9.out.2.2.2 HBW.out) _); (case s4 => exact HX9.out.2.2.1); rintro e w5 ⟨v7, v8, v9, rfl, hR7, hR8, hR9, hb5⟩; obtain ⟨A7, k7, rfl⟩ := Kd.qeb hR7; obtain ⟨A8, k8, rfl⟩ := Kd.qeb hR8; obtain ⟨A9', k9, rfl⟩ := Kd.qeb hR9; have HB5 := qf.mk (jd (qc (Below.refl W.heap.size W) _) (Nat.le_refl _) hb5); have HNE := qf.mk (new_elem (x := ((k : Int), qcf (qz l k))) HB.out.size rfl hR7 hR8 hR9); clear hR7 hR8 hR9 hb5) | (at_builtin; refine qea (w0 := w0) w0.heap.size rfl (.tmp 63) (.tmp 71) 121 124 _ 11 152 rfl Tryd.underlying121 info124 rfl (by decide) (by decide) (.slice Av st.length cv) st.length inner _ rfl rfl rfl ?o1 (qer HOWN.out HB5.out) (jd HB.out HB.out.size HB5.out) (Nat.le_trans HB.out.size HB5.out.size) ?o2 ?_; (case o1 => intro u_ hu_; simp at hu_; rcases hu_ with rfl | rfl | rfl | rfl | rfl | rfl | rfl | rfl | rfl | rfl | rfl <;> rfl); (case o2 => have := HSL.out; have := HL.out; omega); intro v1 w1 ho1 hb1 hg1 qji; obtain ⟨A1, c1, rfl⟩ := qjj ho1; have HO1 := qf.mk ho1; have HB1 := qf.mk hb1; have HG1 := qf.mk hg1; have q86 := qf.mk qji; clear ho1 hb1 hg1 qji))
        have HLI := qf.mk (loop_start (l := l) HST.out HB.out HB5.out HOWN.out HUE.out HNE.out rfl HO1.out HB1.out HG1.out q86.out)
        clear HO1 HB1 HG1 q86 HNE
        go_loopw [4, 6] (fun v4 v6 wr => ∃ (st' : List (Int × S30)) (A' : Option Addr) (c' : Nat), v4 = .slice A' st'.length c' ∧ v6 = .int .i64 (qbs st') ∧ qf (qwt l k (((k : Int), qcf (qz l k)) :: st) w0 st' v4 wr)) (fun v4 _ _ => lenOf v4)
        case atStart => exact ⟨_, _, _, rfl, rfl, HLI⟩
        case round =>
          obtain ⟨st', A', c', rfl, rfl, HI⟩ := hrel
          rcases st' with _ | ⟨x, _ | ⟨y, r⟩⟩
          · exact absurd rfl HI.out.1
          · go_wp2
            go_step3
            refine Or.inr ⟨rfl, ?_, ?_⟩
            · obtain ⟨_, hcl, hs1, hw1, hi1, hb1⟩ := HI.out
              refine ⟨rfl, rfl, k + 1, _, _, rfl, rfl, rfl, rfl, rfl, rfl, rfl, fun h => (by cases h), by omega, ⟨hs1, hw1⟩, hi1, hb1, ?_⟩
              have hg := HGN.out
              rw [← hcl, qtm] at hg
              exact hg
            · show l.length + 1 - (intOf (.int .i64 ((k : Int) + 1))).toNat < l.length + 1 - (intOf (.int .i64 (k : Int))).toNat
              simp only [intOf]
              omega
          · have hxi := HI.out.2.2.1 x (by simp)
            have hx0 : 0 ≤ qbs (x :: y :: r) := hxi.1
            have hxn : qbs (x :: y :: r) < (l.length : Int) := by have := hxi.2; show x.1 < _; omega
            obtain ⟨ad3, _, _, _, _, e3, _, _, _, hz3, _⟩ := q66 HR.out (qbs (x :: y :: r)) hx0 hxn
            injection e3 with e3
            subst e3
            replace hz3 := ((jd W0B.out (by rw [W0Z.out]; omega) HI.out.2.2.2.2.2).cell (World.block_lt_of_cell? w _ hz3)).trans hz3
            have hlen2 : (1 : Int) < (r.length : Int) + 1 + 1 := by omega
            have hrb : (r.length : Int) ≤ 900000000001 := by
              have h1 := HI.out.2.2.2.1
              have h2 := qsy (x :: y :: r)
              simp only [List.length_cons] at h2
              omega
            clear hxi
            by_cases hend : qd2 l x.1 = ((k + 1 : Nat) : Int)
            · have hend' : ((qz l (qbs (x :: y :: r))).f3 == (k : Int) + 1) = true := beq_iff_eq.mpr hend
              have HEND := qf.mk hend
              clear hend
              go_wp2_with (go_at_call 66; refine (closed_st HI.out HEND.out (by have := HL.out; omega)).mono ?_; rintro e w6 ⟨g6, c6', rfl, z1i, HI6⟩)
              go_roundw
              case rel => exact ⟨qs2 y x :: r, _, _, rfl, rfl, HI6⟩
              case measure => simp [lenOf]
            · have hend' : ((qz l (qbs (x :: y :: r))).f3 == (k : Int) + 1) = false := beq_eq_false_iff_ne.mpr hend
              have HEND := qf.mk hend
              clear hend
              go_wp2
              go_step3
              refine Or.inr ⟨rfl, ?_, ?_⟩
              · obtain ⟨_, hcl, hs1, hw1, hi1, hb1⟩ := HI.out
                refine ⟨rfl, rfl, k + 1, _, _, rfl, rfl, rfl, rfl, rfl, rfl, rfl, fun h => (by cases h), by omega, ⟨hs1, hw1⟩, hi1, hb1, ?_⟩
                have hg := HGN.out
                rw [← hcl, qz3 HEND.out] at hg
                exact hg
              · show l.length + 1 - (intOf (.int .i64 ((k : Int) + 1))).toNat < l.length + 1 - (intOf (.int .i64 (k : Int))).toNat
                simp only [intOf]
                omega
    · have c5 : (qbs st < 0) := by omega
      have c6 : ¬ ((k : Int) > 0) := fun h => c4 ⟨c5, h⟩
      have c7 : decide (0 ≤ qbs st) = false := decide_eq_false ht
      have HC6 := qf.mk (show ¬ (qbs st ≥ 0 ∧ (qz l k).f3 > qd2 l (qbs st)) from fun h => ht h.1)
      have HGN := qf.mk (go_on hlt HGO.out HC1.out zn9.out.1 zn9.out.2.1 zn9.out.2.2 HC6.out)
      clear c4
      go_wp2_with fail
      go_quiet (fail)
      go_wp2_with (first | (go_at_call 65; refine (qb3.calls kf (qz l k).f0 (qz l k).f1 (qz l k).f2 (qz l k).f3 (qz l k).f4 (qz l k).f5 (qz l k).f6.f0 (qz l k).f6.f1 (qz l k).f6.f2 _ _ (qz l k).f6.f3 _ _ (qz l k).f7 _ _ _ _ _ _ _ _ _ _ _ ?s1 ?s2 ?s3 ?s4 (HCP.out k hlt)).mono ?_; (case s1 => exact Kd.qaz (Kd.vv HX9.out.2.1 HBW.out) _); (case s2 => exact HX9.out.1); (case s3 => exact Kd.qaz (Kd.vv HX9.out.2.2.2 HBW.out) _); (case s4 => exact HX9.out.2.2.1); rintro e w5 ⟨v7, v8, v9, rfl, hR7, hR8, hR9, hb5⟩; obtain ⟨A7, k7, rfl⟩ := Kd.qeb hR7; obtain ⟨A8, k8, rfl⟩ := Kd.qeb hR8; obtain ⟨A9', k9, rfl⟩ := Kd.qeb hR9; have HB5 := qf.mk (jd (qc (Below.refl W.heap.size W) _) (Nat.le_refl _) hb5); have HNE := qf.mk (new_elem (x := ((k : Int), qcf (qz l k))) HB.out.size rfl hR7 hR8 hR9); clear hR7 hR8 hR9 hb5) | (at_builtin; refine qea (w0 := w0) w0.heap.size rfl (.tmp 63) (.tmp 71) 121 124 _ 11 152 rfl Tryd.underlying121 info124 rfl (by decide) (by decide) (.slice Av st.length cv) st.length inner _ rfl rfl rfl ?o1 (qer HOWN.out HB5.out) (jd HB.out HB.out.size HB5.out) (Nat.le_trans HB.out.size HB5.out.size) ?o2 ?_; (case o1 => intro u_ hu_; simp at hu_; rcases hu_ with rfl | rfl | rfl | rfl | rfl | rfl | rfl | rfl | rfl | rfl | rfl <;> rfl); (case o2 => have := HSL.out; have := HL.out; omega); intro v1 w1 ho1 hb1 hg1 qji; obtain ⟨A1, c1, rfl⟩ := qjj ho1; have HO1 := qf.mk ho1; have HB1 := qf.mk hb1; have HG1 := qf.mk hg1; have q86 := qf.mk qji; clear ho1 hb1 hg1 qji))
      have HLI := qf.mk (loop_start (l := l) HST.out HB.out HB5.out HOWN.out HUE.out HNE.out rfl HO1.out HB1.out HG1.out q86.out)
      clear HO1 HB1 HG1 q86 HNE
      go_loopw [4, 6] (fun v4 v6 wr => ∃ (st' : List (Int × S30)) (A' : Option Addr) (c' : Nat), v4 = .slice A' st'.length c' ∧ v6 = .int .i64 (qbs st') ∧ qf (qwt l k (((k : Int), qcf (qz l k)) :: st) w0 st' v4 wr)) (fun v4 _ _ => lenOf v4)
      case atStart => exact ⟨_, _, _, rfl, rfl, HLI⟩
      case round =>
        obtain ⟨st', A', c', rfl, rfl, HI⟩ := hrel
        rcases st' with _ | ⟨x, _ | ⟨y, r⟩⟩
        · exact absurd rfl HI.out.1
        · go_wp2
          go_step3
          refine Or.inr ⟨rfl, ?_, ?_⟩
          · obtain ⟨_, hcl, hs1, hw1, hi1, hb1⟩ := HI.out
            refine ⟨rfl, rfl, k + 1, _, _, rfl, rfl, rfl, rfl, rfl, rfl, rfl, fun h => (by cases h), by omega, ⟨hs1, hw1⟩, hi1, hb1, ?_⟩
            have hg := HGN.out
            rw [← hcl, qtm] at hg
            exact hg
          · show l.length + 1 - (intOf (.int .i64 ((k : Int) + 1))).toNat < l.length + 1 - (intOf (.int .i64 (k : Int))).toNat
            simp only [intOf]
            omega
        · have hxi := HI.out.2.2.1 x (by simp)
          have hx0 : 0 ≤ qbs (x :: y :: r) := hxi.1
          have hxn : qbs (x :: y :: r) < (l.length : Int) := by have := hxi.2; show x.1 < _; omega
          obtain ⟨ad3, _, _, _, _, e3, _, _, _, hz3, _⟩ := q66 HR.out (qbs (x :: y :: r)) hx0 hxn
          injection e3 with e3
          subst e3
          replace hz3 := ((jd W0B.out (by rw [W0Z.out]; omega) HI.out.2.2.2.2.2).cell (World.block_lt_of_cell? w _ hz3)).trans hz3
          have hlen2 : (1 : Int) < (r.length : Int) + 1 + 1 := by omega
          have hrb : (r.length : Int) ≤ 900000000001 := by
            have h1 := HI.out.2.2.2.1
            have h2 := qsy (x :: y :: r)
            simp only [List.length_cons] at h2
            omega
          clear hxi
          by_cases hend : qd2 l x.1 = ((k + 1 : Nat) : Int)
          · have hend' : ((qz l (qbs (x :: y :: r))).f3 == (k : Int) + 1) = true := beq_iff_eq.mpr hend
            have HEND := qf.mk hend
            clear hend
            go_wp2_with (go_at_call 66; refine (closed_st HI.out HEND.out (by have := HL.out; omega)).mono ?_; rintro e w6 ⟨g6, c6', rfl, z1i, HI6⟩)
            go_roundw
            case rel => exact ⟨qs2 y x :: r, _, _, rfl, rfl, HI6⟩
            case measure => simp [lenOf]
          · have hend' : ((qz l (qbs (x :: y :: r))).f3 == (k : Int) + 1) = false := beq_eq_false_iff_ne.mpr hend
            have HEND := qf.mk hend
            clear hend
            go_wp2
            go_step3
            refine Or.inr ⟨rfl, ?_, ?_⟩
            · obtain ⟨_, hcl, hs1, hw1, hi1, hb1⟩ := HI.out
              refine ⟨rfl, rfl, k + 1, _, _, rfl, rfl, rfl, rfl, rfl, rfl, rfl, fun h => (by cases h), by omega, ⟨hs1, hw1⟩, hi1, hb1, ?_⟩
              have hg := HGN.out
              rw [← hcl, qz3 HEND.out] at hg
              exact hg
            · show l.length + 1 - (intOf (.int .i64 ((k : Int) + 1))).toNat < l.length + 1 - (intOf (.int .i64 (k : Int))).toNat
              simp only [intOf]
              omega
end Go.Proofs.YtpgkhmdfddejfaaDoor.PV
end
