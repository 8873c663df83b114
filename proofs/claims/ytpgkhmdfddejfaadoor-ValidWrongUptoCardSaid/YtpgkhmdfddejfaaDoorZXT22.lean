import Derived.Test.YtpgkhmdfddejfaaDoorZXT13
import Derived.Test.YtpgkhmdfddejfaaDoorZXPVx0
import Derived.Test.YtpgkhmdfddejfaaDoorZXT20
section
namespace Go.Proofs.YtpgkhmdfddejfaaDoor.PV
open Go.RowKit Go.Proofs.YtpgkhmdfddejfaaDoorW.PrintWords Go.Proofs.YtpgkhmdfddejfaaDoorW.PrintLast Go.Proofs.YtpgkhmdfddejfaaDoorW.PrintMore
set_option linter.unusedVariables false
set_option linter.unusedSimpArgs false
def cellOf (n : S30) (p : Int) : S36 := ⟨n.f0, n.f1, n.f2, 0, p, n.f3, n.f4, n.f6⟩
def qk8 (l : List S36) (i : Nat) : List S36 := l.set i { (qz l i) with f3 := l.length }
def yu : Nat → List S36 → S30 → Int → List S36
  | 0, l, _, _ => l
  | d + 1, l, n, p => qk8 (n.f5.foldl (fun acc k => yu d acc k l.length) (l ++ [cellOf n p])) l.length
def cnt : Nat → S30 → Nat
  | 0, _ => 0
  | d + 1, n => 1 + (n.f5.map (cnt d)).sum
theorem setEnd_length (l : List S36) (i : Nat) : (qk8 l i).length = l.length := by simp [qk8]
theorem qo0 {f : List S36 → S30 → List S36} {g : S30 → Nat} : ∀ (ks : List S30) (acc : List S36), (∀ k ∈ ks, ∀ acc, (f acc k).length = acc.length + g k) → (ks.foldl f acc).length = acc.length + (ks.map g).sum
  | [], acc, _ => by simp
  | k :: r, acc, h => by
    rw [List.foldl_cons, qo0 r _ (fun k hk => h k (by simp [hk])), h k (by simp), List.map_cons, List.sum_cons]
    omega
theorem qfa : ∀ (d : Nat) (l : List S36) (n : S30) (p : Int), (yu d l n p).length = l.length + cnt d n
  | 0, l, n, p => rfl
  | d + 1, l, n, p => by
    rw [yu, setEnd_length, qo0 (g := cnt d) n.f5 _ (fun k _ acc => qfa d acc k _), cnt, List.length_append, List.length_singleton]
    omega
theorem qe4 (g : S30 → Nat) : ∀ (l : List S30) (i : Nat), ((l.take i).map g).sum ≤ (l.map g).sum
  | [], _ => by simp
  | k :: r, 0 => by simp
  | k :: r, i + 1 => by
    simp only [List.take_succ_cons, List.map_cons, List.sum_cons]
    have := qe4 g r i
    omega
def qat (d : Nat) (l : List S36) (n : S30) (p : Int) (i : Nat) : List S36 := (n.f5.take i).foldl (fun acc k => yu d acc k l.length) (l ++ [cellOf n p])
theorem qa8 (d : Nat) (l : List S36) (n : S30) (p : Int) (i : Nat) : (qat d l n p i).length = l.length + 1 + ((n.f5.take i).map (cnt d)).sum := by
  unfold qat
  rw [qo0 (g := cnt d) _ _ (fun k _ acc => qfa d acc k _), List.length_append, List.length_singleton]
theorem qdc (d : Nat) (l : List S36) (n : S30) (p : Int) (i : Nat) (hi : i < n.f5.length) : qat d l n p (i + 1) = yu d (qat d l n p i) n.f5[i] l.length := by
  unfold qat
  rw [List.take_succ_eq_append_getElem hi, List.foldl_append]
  rfl
theorem qfj (g : S30 → Nat) (l : List S30) (i : Nat) (hi : i < l.length) : ((l.take (i + 1)).map g).sum = ((l.take i).map g).sum + g l[i] := by
  rw [List.take_succ_eq_append_getElem hi, List.map_append, List.sum_append]
  simp
theorem qdp (d : Nat) (l : List S36) (n : S30) (p : Int) : yu (d + 1) l n p = qk8 (qat d l n p n.f5.length) l.length := by
  rw [yu]
  unfold qat
  rw [List.take_length]
end Go.Proofs.YtpgkhmdfddejfaaDoor.PV
end
section
namespace Go.Proofs.YtpgkhmdfddejfaaDoor.PV
open Go.RowKit Go.Proofs.YtpgkhmdfddejfaaDoorW.PrintWords Go.Proofs.YtpgkhmdfddejfaaDoorW.PrintLast Go.Proofs.YtpgkhmdfddejfaaDoorW.PrintMore
set_option linter.unusedVariables false
set_option linter.unusedSimpArgs false
def FlatPost (w0 W : World) (v : Value) (l' : List S36) (e : Ending) (w' : World) : Prop :=
  ∃ v', e = .returned v' ∧ Kd.N k36 36 w' w0.heap.size (fun _ => True) v' l' ∧ Below w0.heap.size w0 w' ∧ W.grownBy w' v.ownBlock ∧ (v'.ownBlock = v.ownBlock ∨ ∃ b, v'.ownBlock = some b ∧ W.heap.size ≤ b)
def q6x (w0 W : World) (n : S30) (A7 : Option Addr) (c7 : Nat) (A8 : Option Addr) (c8 : Nat) (A9 : Option Addr) (c9 : Nat) : Prop :=
  n.f4.f3.length ≤ c7 ∧ Kd.F k27 W (fun k => k < w0.heap.size) A7 n.f4.f3.length n.f4.f3 ∧ n.f5.length ≤ c8 ∧ Kd.F k30 W (fun k => k < w0.heap.size) A8 n.f5.length n.f5 ∧ n.f6.length ≤ c9 ∧ Kd.F k27 W (fun k => k < w0.heap.size) A9 n.f6.length n.f6
theorem q6x.step {w0 W W1 : World} {n : S30} {A7 : Option Addr} {c7 : Nat} {A8 : Option Addr} {c8 : Nat} {A9 : Option Addr} {c9 : Nat} (h : q6x w0 W n A7 c7 A8 c8 A9 c9) (hB : Below w0.heap.size w0 W) (hB1 : Below w0.heap.size w0 W1) : q6x w0 W1 n A7 c7 A8 c8 A9 c9 := by
  obtain ⟨h7, f7, h8, f8, h9, f9⟩ := h
  have hm : ∀ k, k < w0.heap.size → k < W.heap.size → W1.heap[k]? = W.heap[k]? := fun k hk _ => (hB1.block k hk).trans (hB.block k hk).symm
  exact ⟨h7, Kd.qes f7 hm, h8, Kd.qes f8 hm, h9, Kd.qes f9 hm⟩
theorem kid_F {Q : Nat → Prop} {w : World} {A : Option Addr} {l : List S30} (h : Kd.F k30 w Q A l.length l) (i : Int) (h0 : 0 ≤ i) (h1 : i < l.length) :
    ∃ ad A7 c7 A8 c8 A9 c9, A = some ad ∧ w.cell? (ad.add (i.toNat * 10)) = some (.int .i64 (zb l i).f0) ∧ w.cell? ⟨(ad.add (i.toNat * 10)).block, (ad.add (i.toNat * 10)).off + 1, none⟩ = some (.int .i64 (zb l i).f1) ∧ w.cell? ⟨(ad.add (i.toNat * 10)).block, (ad.add (i.toNat * 10)).off + 2, none⟩ = some (.int .i64 (zb l i).f2) ∧ w.cell? ⟨(ad.add (i.toNat * 10)).block, (ad.add (i.toNat * 10)).off + 3, none⟩ = some (.string (zb l i).f3) ∧ w.cell? ⟨(ad.add (i.toNat * 10)).block, (ad.add (i.toNat * 10)).off + 4, none⟩ = some (.int .i64 (zb l i).f4.f0) ∧ w.cell? ⟨(ad.add (i.toNat * 10)).block, (ad.add (i.toNat * 10)).off + 5, none⟩ = some (.int .i64 (zb l i).f4.f1) ∧ w.cell? ⟨(ad.add (i.toNat * 10)).block, (ad.add (i.toNat * 10)).off + 6, none⟩ = some (.string (zb l i).f4.f2) ∧ w.cell? ⟨(ad.add (i.toNat * 10)).block, (ad.add (i.toNat * 10)).off + 7, none⟩ = some (.slice A7 (zb l i).f4.f3.length c7) ∧ w.cell? ⟨(ad.add (i.toNat * 10)).block, (ad.add (i.toNat * 10)).off + 8, none⟩ = some (.slice A8 (zb l i).f5.length c8) ∧ w.cell? ⟨(ad.add (i.toNat * 10)).block, (ad.add (i.toNat * 10)).off + 9, none⟩ = some (.slice A9 (zb l i).f6.length c9) ∧ (zb l i).f4.f3.length ≤ c7 ∧ Kd.F k27 w Q A7 (zb l i).f4.f3.length (zb l i).f4.f3 ∧ (zb l i).f5.length ≤ c8 ∧ Kd.F k30 w Q A8 (zb l i).f5.length (zb l i).f5 ∧ (zb l i).f6.length ≤ c9 ∧ Kd.F k27 w Q A9 (zb l i).f6.length (zb l i).f6 := by
  obtain ⟨ad, c, rfl, hcl, hK, hcc, _⟩ := Kd.F_get h z30 i h0 h1
  obtain ⟨A7, c7, A8, c8, A9, c9, rfl, h7, f7, h8, f8, h9, f9⟩ := k30_openF hK
  have hc : ∀ j u, _ → w.cell? (ad.add (i.toNat * 10 + j)) = some u := hcc
  exact ⟨ad, A7, c7, A8, c8, A9, c9, rfl, hc 0 _ rfl, by rw [← qam _ _ 1 (by omega)]; exact hc 1 _ rfl, by rw [← qam _ _ 2 (by omega)]; exact hc 2 _ rfl, by rw [← qam _ _ 3 (by omega)]; exact hc 3 _ rfl, by rw [← qam _ _ 4 (by omega)]; exact hc 4 _ rfl, by rw [← qam _ _ 5 (by omega)]; exact hc 5 _ rfl, by rw [← qam _ _ 6 (by omega)]; exact hc 6 _ rfl, by rw [← qam _ _ 7 (by omega)]; exact hc 7 _ rfl, by rw [← qam _ _ 8 (by omega)]; exact hc 8 _ rfl, by rw [← qam _ _ 9 (by omega)]; exact hc 9 _ rfl, h7, f7, h8, f8, h9, f9⟩
theorem zf4 {l : List S30} {i : Nat} (h : i < l.length) : zb l (i : Int) = l[i] := by
  show l.getD (Int.toNat (i : Int)) z30 = l[i]
  rw [Int.toNat_natCast, List.getD_eq_getElem?_getD, List.getElem?_eq_getElem h]
  rfl
structure q6y (w0 W : World) (d : Nat) (l : List S36) (n : S30) (p : Int) (v0 : Value) (cs : Array Value) (i : Nat) (v : Value) (wr : World) : Prop where
  own : Kd.N k36 36 wr w0.heap.size (fun _ => True) v (qat d l n p i)
  box : wr.heap[W.heap.size]? = some (.cells cs 30 (0, 0))
  below : Below w0.heap.size w0 wr
  grown : W.grownBy wr v0.ownBlock
  hat : v.ownBlock = v0.ownBlock ∨ ∃ b, v.ownBlock = some b ∧ W.heap.size ≤ b
  size : W.heap.size < wr.heap.size
theorem flat_start {w0 W w1 : World} {d : Nat} {l : List S36} {n : S30} {p : Int} {v0 v1 : Value} {cs : Array Value} {u : World} (hle : w0.heap.size ≤ W.heap.size) (hu : u = W.alloc (.cells cs 30))
    (hN : Kd.N k36 36 w1 w0.heap.size (fun _ => True) v1 (l ++ [cellOf n p])) (hB : Below w0.heap.size w0 w1) (hg : u.grownBy w1 v0.ownBlock) (hat : v1.ownBlock = v0.ownBlock ∨ ∃ b, v1.ownBlock = some b ∧ u.heap.size ≤ b) (hv : ∀ k, v0.ownBlock = some k → k < W.heap.size) :
    q6y w0 W d l n p v0 cs 0 v1 w1 := by
  subst hu
  have hs : (W.alloc (.cells cs 30)).heap.size = W.heap.size + 1 := by simp
  rw [hs] at hat
  refine ⟨hN, (hg.block W.heap.size (by omega) (fun e => ?_)).trans (qmi W _), hB, World.grownBy.trans (World.grownBy_alloc W _ _) hg, hat.imp_right (fun ⟨b, h1, h2⟩ => ⟨b, h1, by omega⟩), by have := hg.size; omega⟩
  have := hv _ e.symm
  omega
theorem flat_round {w0 W wr w1 : World} {d : Nat} {l : List S36} {n : S30} {p : Int} {v0 v v1 : Value} {cs : Array Value} {i : Nat} (h : q6y w0 W d l n p v0 cs i v wr) (hi : i < n.f5.length) (hv0 : ∀ k, v0.ownBlock = some k → k < W.heap.size) {kd : S30} (hkd : kd = n.f5[i])
    (hN : Kd.N k36 36 w1 w0.heap.size (fun _ => True) v1 (yu d (qat d l n p i) kd l.length)) (hB : Below w0.heap.size w0 w1) (hg : wr.grownBy w1 v.ownBlock) (hat : v1.ownBlock = v.ownBlock ∨ ∃ b, v1.ownBlock = some b ∧ wr.heap.size ≤ b) :
    q6y w0 W d l n p v0 cs (i + 1) v1 w1 := by
  subst hkd
  have hne : ∀ k, k < W.heap.size → some k ≠ v0.ownBlock → some k ≠ v.ownBlock := by
    intro k hk hne e
    rcases h.hat with h | ⟨b, hb, hle⟩
    · exact hne (h ▸ e)
    · rw [hb] at e
      injection e with e
      omega
  refine ⟨by rw [qdc d l n p i hi]; exact hN, (hg.block _ h.size (fun e => ?_)).trans h.box, hB, ⟨hg.os.trans h.grown.os, hg.tape.trans h.grown.tape, hg.output.trans h.grown.output, Nat.le_trans h.grown.size hg.size, fun k hk hkn => ?_⟩, ?_, Nat.lt_of_lt_of_le h.size hg.size⟩
  · rcases h.hat with h' | ⟨b, hb, hle⟩
    · have := hv0 _ (h' ▸ e.symm)
      omega
    · obtain ⟨cells, hc⟩ := Kd.N_typed h.own _ e.symm
      rw [h.box] at hc
      injection hc with hc
      injection hc with _ ht
      exact absurd ht (by decide)
  · exact (hg.block k (Nat.lt_of_lt_of_le hk h.grown.size) (hne k hk hkn)).trans (h.grown.block k hk hkn)
  · rcases hat with hat | ⟨b, hb, hle⟩
    · rw [hat]; exact h.hat
    · exact .inr ⟨b, hb, Nat.le_trans h.grown.size hle⟩
theorem flat_end {w0 W wr w1 : World} {d : Nat} {l : List S36} {n : S30} {p : Int} {v0 : Value} {cs : Array Value} {g m cap : Nat} (h : q6y w0 W d l n p v0 cs n.f5.length (.slice (some ⟨g, 0, none⟩) m cap) wr)
    (hN : Kd.N k36 36 w1 w0.heap.size (fun _ => True) (.slice (some ⟨g, 0, none⟩) m cap) ((qat d l n p n.f5.length).set (Int.toNat (l.length : Int)) { (qz (qat d l n p n.f5.length) l.length) with f3 := ((qat d l n p n.f5.length).length : Int) }))
    (hB : Below w0.heap.size w0 w1) (hg : wr.grownBy w1 (some g)) : FlatPost w0 W v0 (yu (d + 1) l n p) (.returned (.slice (some ⟨g, 0, none⟩) m cap)) w1 := by
  have ho : (Value.slice (some ⟨g, 0, none⟩) m cap).ownBlock = some g := by simp [Value.ownBlock]
  refine ⟨_, rfl, by rw [qdp]; exact hN, hB, ⟨hg.os.trans h.grown.os, hg.tape.trans h.grown.tape, hg.output.trans h.grown.output, Nat.le_trans h.grown.size hg.size, fun k hk hkn => ?_⟩, h.hat⟩
  refine (hg.block k (Nat.lt_of_lt_of_le hk h.grown.size) (fun e => ?_)).trans (h.grown.block k hk hkn)
  injection e with e
  rcases h.hat with h' | ⟨b, hb, hle⟩
  · exact hkn (by rw [← h', ho, e])
  · rw [ho] at hb
    injection hb with hb
    omega
set_option maxHeartbeats 4000000 in
set_option maxRecDepth 100000 in
theorem flat_walk (w0 : World) : ∀ (d : Nat) (n : S30) (l : List S36) (p : Int) (v : Value) (W : World) (A7 : Option Addr) (c7 : Nat) (A8 : Option Addr) (c8 : Nat) (A9 : Option Addr) (c9 : Nat), qdl d n → l.length + cnt d n ≤ 2000000000 → Below w0.heap.size w0 W → w0.heap.size ≤ W.heap.size →
    Kd.N k36 36 W w0.heap.size (fun _ => True) v l → q6x w0 W n A7 c7 A8 c8 A9 c9 →
    Calls Tryd.prog 20 #[v, .agg #[.int .i64 n.f0, .int .i64 n.f1, .int .i64 n.f2, .string n.f3, .int .i64 n.f4.f0, .int .i64 n.f4.f1, .string n.f4.f2, .slice A7 n.f4.f3.length c7, .slice A8 n.f5.length c8, .slice A9 n.f6.length c9], .int .i64 p] W (FlatPost w0 W v (yu d l n p)) := by
  intro d
  induction d with
  | zero => intro n l p v W A7 c7 A8 c8 A9 c9 h; exact h.elim
  | succ d ih =>
  intro n l p v W A7 c7 A8 c8 A9 c9 hfit hcnt hB hle hN hE
  have z1j := Tryd.underlying22
  have qwm := Tryd.underlying30
  have zry := Tryd.underlying36
  have z4n := Tryd.underlying28
  have IH := qf.mk ih
  have HFIT := qf.mk hfit
  have HCNT := qf.mk hcnt
  have HB := qf.mk hB
  have HLE := qf.mk hle
  have HE := qf.mk hE
  have HV := qf.mk (Kd.N_lt hN)
  have HVB := qf.mk (Kd.N_base hN)
  obtain ⟨A0, c0, rfl⟩ := Kd.qwu hN
  have HN := qf.mk hN
  have HK := qf.mk (show n.f5.length ≤ 2000000000 ∧ l.length ≤ 2000000000 ∧ l.length + 1 ≤ 2000000000 from ⟨hfit.2.2.1, by omega, by rw [cnt] at hcnt; omega⟩)
  clear ih hfit hcnt hB hle hN hE
  have hkl : (n.f5.length : Int) ≤ 2000000000 := by have := HK.out.1; omega
  have hll : (l.length : Int) ≤ 2000000000 := by have := HK.out.2.1; omega
  go_enter Tryd.func20, Tryd.ntmps20
  have AP : qf (Kd.FK k36 (W.alloc (.cells #[.int .i64 n.f0, .int .i64 n.f1, .int .i64 n.f2, .string n.f3, .int .i64 n.f4.f0, .int .i64 n.f4.f1, .string n.f4.f2, .slice A7 n.f4.f3.length c7, .slice A8 n.f5.length c8, .slice A9 n.f6.length c9] 30)) (fun k => k < w0.heap.size) (cellOf n p) [.int .i64 n.f0, .int .i64 n.f1, .int .i64 n.f2, .int .i64 0, .int .i64 p, .string n.f3, .int .i64 n.f4.f0, .int .i64 n.f4.f1, .string n.f4.f2, .slice A7 n.f4.f3.length c7, .slice A9 n.f6.length c9] ∧ (∀ k, k < w0.heap.size → True ∧ some k ≠ (Value.slice A0 l.length c0).ownBlock) ∧ Kd.N k36 36 (W.alloc (.cells #[.int .i64 n.f0, .int .i64 n.f1, .int .i64 n.f2, .string n.f3, .int .i64 n.f4.f0, .int .i64 n.f4.f1, .string n.f4.f2, .slice A7 n.f4.f3.length c7, .slice A8 n.f5.length c8, .slice A9 n.f6.length c9] 30)) w0.heap.size (fun _ => True) (.slice A0 l.length c0) l ∧ Below w0.heap.size w0 (W.alloc (.cells #[.int .i64 n.f0, .int .i64 n.f1, .int .i64 n.f2, .string n.f3, .int .i64 n.f4.f0, .int .i64 n.f4.f1, .string n.f4.f2, .slice A7 n.f4.f3.length c7, .slice A8 n.f5.length c8, .slice A9 n.f6.length c9] 30)) ∧ w0.heap.size ≤ (W.alloc (.cells #[.int .i64 n.f0, .int .i64 n.f1, .int .i64 n.f2, .string n.f3, .int .i64 n.f4.f0, .int .i64 n.f4.f1, .string n.f4.f2, .slice A7 n.f4.f3.length c7, .slice A8 n.f5.length c8, .slice A9 n.f6.length c9] 30)).heap.size ∧ (l.length + 1) * 136 ≤ 140737488355328) :=
    ⟨⟨qsx _ _ (cellOf n p) HE.out.1 (Kd.q85 HE.out.2.1 _) HE.out.2.2.2.2.1 (Kd.q85 HE.out.2.2.2.2.2 _), fun k hk => ⟨trivial, fun e => by have := HVB.out k e.symm; omega⟩, Kd.N_alloc HN.out _, qg HB.out _, by have := HLE.out; simp; omega, by have := HK.out.2.2; omega⟩⟩
  go_wp2_with (at_builtin; refine Kd.N_append k36 (w0 := w0) (W := W.alloc (.cells #[.int .i64 n.f0, .int .i64 n.f1, .int .i64 n.f2, .string n.f3, .int .i64 n.f4.f0, .int .i64 n.f4.f1, .string n.f4.f2, .slice A7 n.f4.f3.length c7, .slice A8 n.f5.length c8, .slice A9 n.f6.length c9] 30)) w0.heap.size rfl (.tmp 11) (.tmp 26) 22 36 _ 136 rfl Tryd.underlying22 info36 rfl (by decide) (by decide) (.slice A0 l.length c0) l (cellOf n p) [.int .i64 n.f0, .int .i64 n.f1, .int .i64 n.f2, .int .i64 0, .int .i64 p, .string n.f3, .int .i64 n.f4.f0, .int .i64 n.f4.f1, .string n.f4.f2, .slice A7 n.f4.f3.length c7, .slice A9 n.f6.length c9] (fun _ => True) (fun k => k < w0.heap.size) rfl ?hx AP.out.1 AP.out.2.1 (fun _ _ => trivial) AP.out.2.2.1 AP.out.2.2.2.1 AP.out.2.2.2.2.1 AP.out.2.2.2.2.2 ?_; (case hx => show Value.slice (some ⟨W.heap.size + 1, 0, none⟩) 1 1 = Value.slice (some ⟨(W.alloc _).heap.size, 0, none⟩) 1 1; simp); intro v1 w1 hN1 hB1 hg1 qji; obtain ⟨A1, c1, rfl⟩ := Kd.qwu hN1; have HS := qf.mk (flat_start (d := d) (p := p) (cs := #[.int .i64 n.f0, .int .i64 n.f1, .int .i64 n.f2, .string n.f3, .int .i64 n.f4.f0, .int .i64 n.f4.f1, .string n.f4.f2, .slice A7 n.f4.f3.length c7, .slice A8 n.f5.length c8, .slice A9 n.f6.length c9]) HLE.out rfl hN1 hB1 hg1 qji HV.out); clear hN1 hB1 hg1 qji)
  go_loopw [0, 8] (fun v0 v8 wr => ∃ (i : Nat) (A' : Option Addr) (c' : Nat), v0 = .slice A' (qat d l n p i).length c' ∧ v8 = .int .i64 (i : Int) ∧ qf (i ≤ n.f5.length ∧ q6y w0 W d l n p (.slice A0 l.length c0) #[.int .i64 n.f0, .int .i64 n.f1, .int .i64 n.f2, .string n.f3, .int .i64 n.f4.f0, .int .i64 n.f4.f1, .string n.f4.f2, .slice A7 n.f4.f3.length c7, .slice A8 n.f5.length c8, .slice A9 n.f6.length c9] i (.slice A' (qat d l n p i).length c') wr)) (fun _ v8 _ => n.f5.length - (intOf v8).toNat)
  case atStart => exact ⟨0, A1, c1, by rw [qa8]; simp, rfl, ⟨Nat.zero_le _, by have h := HS.out; rwa [List.length_append, List.length_singleton, show l.length + 1 = (qat d l n p 0).length from by rw [qa8]; simp] at h⟩⟩
  case round =>
    obtain ⟨i, A', c', rfl, rfl, HJ⟩ := hrel
    have gb8 := qb HJ.out.2.box 8
    have hil : (i : Int) ≤ 2000000000 := by have := HJ.out.1; omega
    by_cases hlt : i < n.f5.length
    · have hlt' : (i : Int) < n.f5.length := by omega
      obtain ⟨ad, B7, d7, B8, d8, B9, d9, rfl, x0, x1, x2, x3, x4, x5, x6, x7, x8, x9, hE'⟩ := kid_F (HE.out.step HB.out HJ.out.2.below).2.2.2.1 (i : Int) (by omega) hlt'
      have HEK : qf (q6x w0 wr (zb n.f5 (i : Int)) B7 d7 B8 d8 B9 d9) := ⟨hE'⟩
      have HFK : qf (qdl d (zb n.f5 (i : Int)) ∧ (qat d l n p i).length + cnt d (zb n.f5 (i : Int)) ≤ 2000000000) := ⟨by
        rw [zf4 hlt]
        refine ⟨HFIT.out.2.2.2.1 _ (List.getElem_mem hlt), ?_⟩
        have h := HCNT.out
        rw [cnt] at h
        have h1 := qfj (cnt d) n.f5 i hlt
        have h2 := qe4 (cnt d) n.f5 (i + 1)
        rw [qa8]
        omega⟩
      clear hE' hlt'
      simp only [Int.toNat_natCast] at x0 x1 x2 x3 x4 x5 x6 x7 x8 x9
      go_wp2_with (go_at_call 20; refine (IH.out (zb n.f5 (i : Int)) (qat d l n p i) (l.length : Int) _ wr B7 d7 B8 d8 B9 d9 HFK.out.1 HFK.out.2 HJ.out.2.below (Nat.le_of_lt (Nat.lt_of_le_of_lt HLE.out HJ.out.2.size)) HJ.out.2.own HEK.out).mono ?_; rintro e w1 ⟨v1, rfl, hN1, hB1, hg1, qji⟩; obtain ⟨A2, c2, rfl⟩ := Kd.qwu hN1; have HN1 := qf.mk hN1; have HB1 := qf.mk hB1; have HG1 := qf.mk hg1; have q86 := qf.mk qji; clear hN1 hB1 hg1 qji)
      go_roundw
      case rel =>
        have e : qat d l n p (i + 1) = yu d (qat d l n p i) (zb n.f5 (i : Int)) (l.length : Int) := by rw [zf4 hlt]; exact qdc d l n p i hlt
        refine ⟨i + 1, A2, c2, by rw [e], by push_cast; rfl, ⟨hlt, ?_⟩⟩
        have HR := flat_round HJ.out.2 hlt HV.out (zf4 hlt) HN1.out HB1.out HG1.out q86.out
        rw [e]
        exact HR
      case measure => simp only [intOf]; omega
    · obtain rfl : i = n.f5.length := by have := HJ.out.1; omega
      have hpos : l.length < (qat d l n p n.f5.length).length := by rw [qa8]; omega
      have hpos' : (l.length : Int) < ((qat d l n p n.f5.length).length : Int) := by omega
      obtain ⟨g, cap, he, hg0, hg1, _⟩ := Kd.ql6 HJ.out.2.own (by omega)
      injection he with he _ he2
      subst he he2
      have HST : qf (∃ c : List Value, c.length = 11 ∧ (∀ j u, c[j]? = some u → wr.cell? ⟨g, Int.toNat (l.length : Int) * 11 + j, none⟩ = some u) ∧ Kd.FK k36 wr (fun k => True ∧ k ≠ g) { (qz (qat d l n p n.f5.length) l.length) with f3 := ((qat d l n p n.f5.length).length : Int) } (c.take 3 ++ [Value.int .i64 ((qat d l n p n.f5.length).length : Int)] ++ c.drop 4)) := ⟨by
        obtain ⟨c, hcl, hFK, hcc, hfr⟩ := Kd.N_elem HJ.out.2.own z36 (l.length : Int) (by omega) hpos'
        obtain ⟨A9', c9', A10', c10', rfl, h9, f9, h10, f10⟩ := qz6 hFK
        exact ⟨_, hcl, hcc, qsx wr _ { (qz (qat d l n p n.f5.length) l.length) with f3 := ((qat d l n p n.f5.length).length : Int) } h9 f9 h10 f10⟩⟩
      obtain ⟨c, HST⟩ : ∃ c : List Value, qf (c.length = 11 ∧ (∀ j u, c[j]? = some u → wr.cell? ⟨g, Int.toNat (l.length : Int) * 11 + j, none⟩ = some u) ∧ Kd.FK k36 wr (fun k => True ∧ k ≠ g) { (qz (qat d l n p n.f5.length) l.length) with f3 := ((qat d l n p n.f5.length).length : Int) } (c.take 3 ++ [Value.int .i64 ((qat d l n p n.f5.length).length : Int)] ++ c.drop 4)) := by
        obtain ⟨c, h⟩ := HST.out
        exact ⟨c, ⟨h⟩⟩
      go_wp2_with (refine Kd.qtk k36 (w0 := w0) w0.heap.size rfl rfl 3 (.tmp 48) (.tmp 46) rfl 36 (l.length : Int) 3 (qat d l n p n.f5.length) { (qz (qat d l n p n.f5.length) l.length) with f3 := ((qat d l n p n.f5.length).length : Int) } _ [Value.int .i64 ((qat d l n p n.f5.length).length : Int)] c (fun _ => True) (fun k => True ∧ k ≠ g) rfl ?off rfl rfl (by kernel_rfl) (by simp [Value.oneCell']) HJ.out.2.own (by omega) hpos' HST.out.1 HST.out.2.1 (show 3 + 1 ≤ 11 from by decide) HST.out.2.2 (fun k hk => hk) HJ.out.2.below ?_; (case off => show l.length * 11 + 3 = Int.toNat (l.length : Int) * 11 + 3; rw [Int.toNat_natCast]); intro w1 hN1 hB1 hg1; have HN1 := qf.mk hN1; have HB1 := qf.mk hB1; have HG1 := qf.mk hg1; clear hN1 hB1 hg1)
      go_ret
      exact flat_end HJ.out.2 HN1.out HB1.out HG1.out
end Go.Proofs.YtpgkhmdfddejfaaDoor.PV
end
