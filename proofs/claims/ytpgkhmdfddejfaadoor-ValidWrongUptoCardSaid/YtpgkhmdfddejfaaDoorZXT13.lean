import Derived.Test.YtpgkhmdfddejfaaDoorZXPVx0
import Derived.Test.YtpgkhmdfddejfaaDoorZXPVx4
import Derived.Test.YtpgkhmdfddejfaaDoorZXPVx9
import Derived.Test.YtpgkhmdfddejfaaDoorZXT5
import Derived.Laws.Bits128
import Derived.Test.YtpgkhmdfddejfaaDoorZXPVx5
import Derived.Test.YtpgkhmdfddejfaaDoorZXPVx10
import Derived.Test.YtpgkhmdfddejfaaDoorZXPVx11
import Derived.Test.YtpgkhmdfddejfaaDoorZXPVx12
import Derived.Test.YtpgkhmdfddejfaaDoorZXT6
import Derived.Test.YtpgkhmdfddejfaaDoorZXPVx3
import Derived.Test.YtpgkhmdfddejfaaDoorZXPVx6
import Derived.Test.YtpgkhmdfddejfaaDoorZXPVx7
import Derived.Test.YtpgkhmdfddejfaaDoorZXPVx13d
import Derived.Test.YtpgkhmdfddejfaaDoorZXPVx2
import Derived.Test.YtpgkhmdfddejfaaDoorZXPVx8
import Derived.Test.YtpgkhmdfddejfaaDoorZXPVx14
import Derived.Test.YtpgkhmdfddejfaaDoorZXPVx15
import Derived.Test.YtpgkhmdfddejfaaDoorZXPVx16
section
namespace Go.Proofs.YtpgkhmdfddejfaaDoor.PV
open Go.RowKit Go.Proofs.YtpgkhmdfddejfaaDoorW.PrintWords Go.Proofs.YtpgkhmdfddejfaaDoorW.PrintLast Go.Proofs.YtpgkhmdfddejfaaDoorW.PrintMore
set_option linter.unusedVariables false
set_option linter.unusedSimpArgs false
theorem jh {α : Type} {c : Prop} [Decidable c] {f g : Nat → Option α} {r : α} (h : c) (k : Ev f r) : Ev (fun n => if c then f n else g n) r := Ev.congr (fun n => if_pos h) k
theorem ja {α : Type} {c : Prop} [Decidable c] {f g : Nat → Option α} {r : α} (h : ¬ c) (k : Ev g r) : Ev (fun n => if c then f n else g n) r := Ev.congr (fun n => if_neg h) k
theorem qeg (i : Nat) (h : i ≤ 2000000000) : wrap64 ((i : Int) + 1) = ((i + 1 : Nat) : Int) := by
  unfold wrap64
  omega
theorem letter_iff (c : UInt8) : qec c = true ↔ (97 ≤ c.toNat ∧ c.toNat ≤ 122) ∨ (65 ≤ c.toNat ∧ c.toNat ≤ 90) := by
  unfold qec
  simp only [Bool.or_eq_true, Bool.and_eq_true, decide_eq_true_eq, UInt8.le_iff_toNat_le]
  exact Iff.rfl
theorem goes_iff (c : UInt8) : qgz c = true ↔ (97 ≤ c.toNat ∧ c.toNat ≤ 122) ∨ (65 ≤ c.toNat ∧ c.toNat ≤ 90) ∨ (48 ≤ c.toNat ∧ c.toNat ≤ 57) ∨ c.toNat = 95 := by
  have h : (c == 95) = true ↔ c.toNat = 95 := by simp [← UInt8.toNat_inj]
  unfold qgz
  simp only [Bool.or_eq_true, Bool.and_eq_true, decide_eq_true_eq, UInt8.le_iff_toNat_le, h, or_assoc]
  exact Iff.rfl
theorem bt_get (s : ByteArray) (i : Nat) (h : i < s.size) : bt s (i : Int) = (s[i].toNat : Int) := by
  unfold bt
  simp [h]
theorem named_step (s : ByteArray) (i k : Nat) (hi : i < s.size) (hs : s.size ≤ 2000000000) (h1 : 0 < i) : zq.l0 (k + 1) s i = if qgz s[i] = true then zq.l0 k s ((i + 1 : Nat) : Int) else some false := by
  rw [zq.l0, if_pos (by omega), if_pos (by omega), bt_get s i hi, qeg i (by omega)]
  have hg := goes_iff s[i]
  generalize s[i] = c at hg ⊢
  by_cases hc : qgz c = true
  · have hc2 := hg.1 hc
    rw [if_pos hc]
    repeat' split
    all_goals first | rfl | (exfalso; omega)
  · have hc2 : ¬ _ := fun h => hc (hg.2 h)
    rw [if_neg hc]
    repeat' split
    all_goals first | rfl | (exfalso; omega)
theorem named_first (s : ByteArray) (k : Nat) (hi : 0 < s.size) : zq.l0 (k + 1) s 0 = if qec s[0] = true then zq.l0 k s ((1 : Nat) : Int) else some false := by
  have hw : wrap64 ((0 : Int) + 1) = ((1 : Nat) : Int) := qeg 0 (by omega)
  have hb : bt s 0 = (s[0].toNat : Int) := bt_get s 0 hi
  rw [zq.l0, if_pos (by omega), if_pos (by omega), hb, hw]
  have hg := letter_iff s[0]
  generalize s[0] = c at hg ⊢
  by_cases hc : qec c = true
  · have hc2 := hg.1 hc
    rw [if_pos hc]
    repeat' split
    all_goals first | rfl | (exfalso; omega)
  · have hc2 : ¬ _ := fun h => hc (hg.2 h)
    rw [if_neg hc]
    repeat' split
    all_goals first | rfl | (exfalso; omega)
theorem bytes_drop (s : ByteArray) (i : Nat) (h : i < s.size) : s.data.toList.drop i = s[i] :: s.data.toList.drop (i + 1) := by
  rw [List.drop_eq_getElem_cons (by simpa using h)]
  rfl
theorem named_rest (s : ByteArray) (hs : s.size ≤ 2000000000) : ∀ d i : Nat, i + d = s.size → 0 < i → Ev (fun k => zq.l0 k s i) ((s.data.toList.drop i).all qgz && decide (s.size ≤ 24)) := by
  intro d
  induction d with
  | zero =>
    intro i hi h0
    refine Ev.step (f := fun _ => some (decide (s.size ≤ 24))) (fun k => ?_) ?_
    · rw [zq.l0, if_neg (by omega), if_pos (by omega)]
      have h : decide ((s.size : Int) ≤ 24) = decide (s.size ≤ 24) := by rw [decide_eq_decide]; omega
      rw [h]
    · rw [List.drop_of_length_le (by simp; omega)]
      exact Ev.now _
  | succ d ih =>
    intro i hi h0
    rw [bytes_drop s i (by omega), List.all_cons]
    by_cases hg : qgz s[i] = true
    · rw [hg, Bool.true_and]
      exact Ev.step (fun k => by rw [named_step s i k (by omega) hs h0, if_pos hg]) (ih (i + 1) (by omega) (by omega))
    · have hf : qgz s[i] = false := by simpa using hg
      rw [hf, Bool.false_and, Bool.false_and]
      exact Ev.step (f := fun _ => some false) (fun k => by rw [named_step s i k (by omega) hs h0, if_neg hg]) (Ev.now _)
theorem named_ev (s : ByteArray) (hs : s.size ≤ 2000000000) : Ev (fun k => zq.f k s) (qol s) := by
  by_cases h0 : s.size = 0
  · rw [qtf s h0]
    refine Ev.step (f := fun _ => some false) (fun k => ?_) (Ev.now _)
    rw [zq.f, zq.l0, if_neg (by omega), if_neg (by omega)]
  · have hp : 0 < s.size := by omega
    have hd := bytes_drop s 0 hp
    rw [List.drop_zero] at hd
    have hn : qol s = (qec s[0] && ((s.data.toList.drop 1).all qgz && decide (s.size ≤ 24))) := by
      have hgo : qec s[0] = true → qgz s[0] = true := fun h => by
        rw [goes_iff]
        rw [letter_iff] at h
        omega
      by_cases h24 : s.size ≤ 24
      · rw [nameB_cons s hp h24, hd, List.all_cons, decide_eq_true h24, Bool.and_true]
        cases hl : qec s[0] with
        | true => rw [hgo hl]; rfl
        | false => rfl
      · rw [nameB_long s (by omega), decide_eq_false h24, Bool.and_false, Bool.and_false]
    rw [hn]
    by_cases hl : qec s[0] = true
    · rw [hl, Bool.true_and]
      exact Ev.step (fun k => by rw [zq.f, named_first s k hp, if_pos hl]) (named_rest s hs (s.size - 1) 1 (by omega) (by omega))
    · have hf : qec s[0] = false := by simpa using hl
      rw [hf, Bool.false_and]
      exact Ev.step (f := fun _ => some false) (fun k => by rw [zq.f, named_first s k hp, if_neg hl]) (Ev.now _)
def zn2 (a : ByteArray) : Bool := qdh.any fun x => decide (a.toList = x.toList)
theorem qzu (xs : List ByteArray) (i : Nat) (h : i < xs.length) : rdOf ByteArray.empty xs (i : Int) = xs[i] := by simp [rdOf, h]
theorem index_ev (ws : List ByteArray) (a : ByteArray) (hw : ws.length ≤ 2000000000) : ∀ d i : Nat, i + d = ws.length → ∃ r : Int, Ev (fun k => yc.l0 k ws a (ws.length : Int) i) r ∧ decide (r ≥ 0) = (ws.drop i).any fun x => decide (a.toList = x.toList) := by
  intro d
  induction d with
  | zero =>
    intro i hi
    refine ⟨-1, Ev.step (f := fun _ => some (-1)) (fun k => ?_) (Ev.now _), ?_⟩
    · rw [yc.l0, if_neg (by omega)]
    · rw [List.drop_of_length_le (by omega)]
      rfl
  | succ d ih =>
    intro i hi
    rw [List.drop_eq_getElem_cons (show i < ws.length by omega), List.any_cons]
    by_cases hg : a.toList = ws[i].toList
    · refine ⟨i, Ev.step (f := fun _ => some (i : Int)) (fun k => ?_) (Ev.now _), ?_⟩
      · rw [yc.l0, if_pos (by omega), if_pos (by omega), if_pos (by omega), qzu ws i (by omega), if_pos hg]
      · rw [decide_eq_true hg, decide_eq_true (by omega)]
        rfl
    · obtain ⟨r, h1, h2⟩ := ih (i + 1) (by omega)
      refine ⟨r, Ev.step (fun k => ?_) h1, ?_⟩
      · rw [yc.l0, if_pos (by omega), if_pos (by omega), if_pos (by omega), qzu ws i (by omega), if_neg hg, qeg i (by omega)]
      · rw [h2, decide_eq_false hg, Bool.false_or]
theorem word_ev (a : ByteArray) : Ev (fun k => qd9.f k a) (zn2 a) := by
  obtain ⟨r, h1, h2⟩ := index_ev qdh a (by decide +kernel) qdh.length 0 (by omega)
  rw [List.drop_zero] at h2
  have h : Ev (fun k => (yc.f k qdh a).bind fun t => some (decide (t ≥ 0))) (zn2 a) := by
    refine Ev.bind (g := fun k => yc.f k qdh a) (f := fun _ t => some (decide (t ≥ 0))) h1 ?_
    rw [h2]
    exact Ev.now _
  exact h
theorem refword_l0 (ws : List ByteArray) (a : ByteArray) (hw : ws.length ≤ 2000000000) : ∀ d i : Nat, i + d = ws.length → Ev (fun k => yt.l0 k a ws i) ((ws.drop i).any fun x => decide (a.toList = x.toList)) := by
  intro d
  induction d with
  | zero =>
    intro i hi
    refine Ev.step (f := fun _ => some false) (fun k => ?_) ?_
    · rw [yt.l0, if_neg (by omega)]
    · rw [List.drop_of_length_le (by omega)]
      exact Ev.now _
  | succ d ih =>
    intro i hi
    rw [List.drop_eq_getElem_cons (show i < ws.length by omega), List.any_cons]
    by_cases hg : a.toList = ws[i].toList
    · rw [decide_eq_true hg, Bool.true_or]
      refine Ev.step (f := fun _ => some true) (fun k => ?_) (Ev.now _)
      rw [yt.l0, if_pos (by omega), if_pos (by omega), qzu ws i (by omega), if_pos hg.symm]
    · rw [decide_eq_false hg, Bool.false_or]
      refine Ev.step (fun k => ?_) (ih (i + 1) (by omega))
      rw [yt.l0, if_pos (by omega), if_pos (by omega), qzu ws i (by omega), if_neg (fun h => hg h.symm), qeg i (by omega)]
theorem refword_ev (a : ByteArray) : Ev (fun k => yt.f k a) (zn2 a) := by
  have h := refword_l0 qdh a (by decide +kernel) qdh.length 0 (by omega)
  rw [List.drop_zero] at h
  have hw : ∀ k, yt.f k a = yt.l0 k a qdh ((0 : Nat) : Int) := fun k => by
    unfold yt.f
    congr 1
  exact Ev.congr hw h
def lexB (a : ByteArray) : Bool := qol a && !zn2 a
theorem qsz (a : ByteArray) : Ev (fun k => qaj.f k a) (lexB a) := by
  unfold lexB
  cases hn : qol a with
  | false =>
    refine Ev.congr (f := fun _ => some false) (fun k => ?_) (Ev.now _)
    simp [qaj.f, qgd.f, hn]
  | true =>
    refine Ev.congr (f := fun k => (qd9.f k a).bind fun t => some (!t)) (fun k => ?_) (Ev.bind (g := fun k => qd9.f k a) (f := fun _ t => some (!t)) (word_ev a) (Ev.now _))
    simp [qaj.f, qgd.f, hn]
theorem refName_ev (a : ByteArray) (hs : a.size ≤ 2000000000) : Ev (fun k => zt.f k a) (lexB a) := by
  unfold lexB
  refine Ev.bind (g := fun k => zq.f k a) (f := fun k t183 => (if t183 = true then ((yt.f k a).bind fun zwl => (some (!zwl))) else (some false))) (named_ev a hs) ?_
  cases hn : qol a with
  | false => exact ja (by decide) (Ev.now _)
  | true => exact jh rfl (Ev.bind (g := fun k => yt.f k a) (f := fun _ t => some (!t)) (refword_ev a) (Ev.now _))
end Go.Proofs.YtpgkhmdfddejfaaDoor.PV
end
section
namespace Go.Proofs.YtpgkhmdfddejfaaDoor.PV
open Go.RowKit Go.Proofs.YtpgkhmdfddejfaaDoorW.PrintWords Go.Proofs.YtpgkhmdfddejfaaDoorW.PrintLast Go.Proofs.YtpgkhmdfddejfaaDoorW.PrintMore
set_option linter.unusedVariables false
set_option linter.unusedSimpArgs false
theorem and1_i64 (n : Int) : bits .and .i64 n 1 = n % 2 := by
  have h1 : (BitVec.ofInt 64 1).toNat = 2 ^ 1 - 1 := by decide
  have key : (BitVec.ofInt 64 n &&& BitVec.ofInt 64 1).toNat = (n % ((2 ^ 64 : Nat) : Int)).toNat % 2 ^ 1 := by
    rw [BitVec.toNat_and, BitVec.toNat_ofInt, h1, Nat.and_two_pow_sub_one_eq_mod]
  show IntKind.i64.wrap ((BitVec.ofInt 64 n &&& BitVec.ofInt 64 1).toNat : Nat) = n % 2
  rw [key, IntKind.wrap_i64]
  omega
theorem qzt (xs : List S27) (i : Nat) (h : i < xs.length) : zf xs (i : Int) = xs[i] := by simp [zf, h]
def qs5 (k : Int) : Int := if (6 ≤ k ∧ k ≤ 13) ∨ k = 15 ∨ k = 19 then 2 else if k = 14 ∨ (16 ≤ k ∧ k ≤ 18) then 1 else 0
def ownE (k n : Int) (s : ByteArray) : Bool :=
  if k = 2 ∨ k = 3 then lexB s && decide (n = 0)
  else decide (s.toList = []) && (if k = 0 then decide (-9223372036854775807 ≤ n) else if k = 1 then decide (n = 0 ∨ n = 1) else decide (n = 0))
def okE : Nat → S27 → Bool
  | 0, _ => false
  | d + 1, x => decide (0 ≤ x.f0 ∧ x.f0 ≤ 19) && (decide ((x.f3.length : Int) = qs5 x.f0) && (ownE x.f0 x.f1 x.f2 && x.f3.all (okE d)))
theorem forms_kids (k : Int) (h0 : 0 ≤ k) (h1 : k ≤ 19) : ∃ fs, qd3.f = some fs ∧ fs.length = 20 ∧ (qs0 fs k).f0 = qs5 k := by
  refine ⟨_, rfl, rfl, ?_⟩
  obtain ⟨n, rfl⟩ : ∃ n : Nat, k = n := ⟨k.toNat, by omega⟩
  have hn : n < 20 := by omega
  clear h0 h1
  revert n
  decide
theorem sh_l0 (d : Nat) (xs : List S27) (hl : xs.length ≤ 2000000000) (hd : d ≤ 39) (h : ∀ x ∈ xs, Ev (fun k => ze.f k x.f0 x.f1 x.f2 x.f3 (d : Int)) (okE d x)) :
    ∀ m i : Nat, i + m = xs.length → Ev (fun k => ze.l0 k ((d + 1 : Nat) : Int) xs (xs.length : Int) i) ((xs.drop i).all (okE d)) := by
  have hw : wrap64 (((d + 1 : Nat) : Int) - 1) = d := by unfold wrap64; omega
  intro m
  induction m with
  | zero =>
    intro i hi
    refine Ev.step (f := fun _ => some true) (fun k => ?_) ?_
    · rw [ze.l0, if_neg (by omega)]
    · rw [List.drop_of_length_le (by omega)]
      exact Ev.now _
  | succ m ih =>
    intro i hi
    have hlt : i < xs.length := by omega
    rw [List.drop_eq_getElem_cons hlt, List.all_cons]
    refine Ev.step (f := fun k => (ze.f k xs[i].f0 xs[i].f1 xs[i].f2 xs[i].f3 (d : Int)).bind fun t => if t = true then ze.l0 k ((d + 1 : Nat) : Int) xs (xs.length : Int) ((i + 1 : Nat) : Int) else some false) (fun k => ?_) (Ev.bind (h xs[i] (List.getElem_mem hlt)) ?_)
    · rw [ze.l0, if_pos (by omega), if_pos (by omega), if_pos (by omega), qzt xs i hlt, hw, qeg i (by omega)]
    · cases okE d xs[i] with
      | true => exact jh rfl (by rw [Bool.true_and]; exact ih (i + 1) (by omega))
      | false => exact ja (by decide) (Ev.now _)
theorem sh_j3 (a : Int) (b : Bool) (k n : Int) (s : ByteArray) (xs : List S27) (r : Bool) (h : Ev (fun f => ze.l0 f a xs (xs.length : Int) 0) r) : Ev (fun f => ze.j3 f a b k n s xs) (!b && r) := by
  refine Ev.step (fun f => ze.j3.eq_2 _ _ _ _ _ _ f) ?_
  cases b with
  | true => exact jh rfl (Ev.now _)
  | false => exact ja (by decide) h
theorem zn1 (a k n : Int) (s : ByteArray) (xs : List S27) (k2 n2 : Int) (s2 : ByteArray) (r : Bool) (h : Ev (fun f => ze.l0 f a xs (xs.length : Int) 0) r) : Ev (fun f => ze.j2 f a k n s xs k2 n2 s2) ((decide (n2 = n) && decide (s2.toList = s.toList)) && r) := by
  refine Ev.step (fun f => ze.j2.eq_2 _ _ _ _ _ _ _ _ f) ?_
  by_cases hn : n2 = n
  · refine jh hn ?_
    have := sh_j3 a (s2.toList != s.toList) k n s xs r h
    rw [decide_eq_true hn, Bool.true_and]
    have e : (!(s2.toList != s.toList)) = decide (s2.toList = s.toList) := by
      by_cases hs : s2.toList = s.toList <;> simp [hs, bne]
    rw [e] at this
    exact this
  · refine ja hn ?_
    rw [decide_eq_false hn, Bool.false_and, Bool.false_and]
    exact sh_j3 a true k n s xs r h
theorem zr3 (a : Int) (b : Bool) (k n : Int) (s : ByteArray) (xs : List S27) (k2 n2 : Int) (s2 : ByteArray) (r : Bool) (h : Ev (fun f => ze.l0 f a xs (xs.length : Int) 0) r) :
    Ev (fun f => ze.j1 f a b k n s xs k2 n2 s2) (if b = true then lexB s && ((decide (n2 = n) && decide (s.toList = s.toList)) && r) else (decide (n2 = n) && decide (s2.toList = s.toList)) && r) := by
  refine Ev.step (fun f => ze.j1.eq_2 _ _ _ _ _ _ _ _ _ f) ?_
  cases b with
  | true =>
    refine jh rfl (Ev.bind (g := fun f => qaj.f f s) (qsz s) ?_)
    cases hl : lexB s with
    | true => exact jh rfl (zn1 a k n s xs k2 n2 s r h)
    | false => exact ja (by decide) (Ev.now _)
  | false => exact ja (by decide) (zn1 a k n s xs k2 n2 s2 r h)
theorem sh_j0 (a : Int) (k n : Int) (s : ByteArray) (xs : List S27) (r : Bool) (hk0 : 0 ≤ k) (hn0 : -9223372036854775808 ≤ n) (h : Ev (fun f => ze.l0 f a xs (xs.length : Int) 0) r) : Ev (fun f => ze.j0 f a false k n s xs) (ownE k n s && r) := by
  refine Ev.step (fun f => ze.j0.eq_2 _ _ _ _ _ _ f) (ja (by decide) ?_)
  have hnil : (⟨#[]⟩ : ByteArray).toList = [] := (qgc _).2 rfl
  have hflip : decide (([] : List UInt8) = s.toList) = decide (s.toList = []) := by rw [decide_eq_decide]; exact eq_comm
  by_cases c0 : k = 0
  · refine jh c0 ?_
    have := zn1 a k n s xs 0 (mx n (-9223372036854775807)) ⟨#[]⟩ r h
    rw [hnil, hflip] at this
    have e : decide (mx n (-9223372036854775807) = n) = decide (-9223372036854775807 ≤ n) := by rw [decide_eq_decide]; unfold mx; split <;> omega
    rw [e, Bool.and_comm (decide _) (decide _)] at this
    have e2 : ownE k n s = (decide (s.toList = []) && decide (-9223372036854775807 ≤ n)) := by unfold ownE; rw [if_neg (by omega), if_pos c0]
    rw [e2]
    exact this
  refine ja c0 ?_
  by_cases c1 : k = 1
  · refine jh c1 ?_
    have := zn1 a k n s xs 0 (bits .and .i64 n 1) ⟨#[]⟩ r h
    rw [hnil, hflip] at this
    have e : decide (bits .and .i64 n 1 = n) = decide (n = 0 ∨ n = 1) := by rw [decide_eq_decide, and1_i64]; omega
    rw [e, Bool.and_comm (decide _) (decide _)] at this
    have e2 : ownE k n s = (decide (s.toList = []) && decide (n = 0 ∨ n = 1)) := by unfold ownE; rw [if_neg (by omega), if_neg c0, if_pos c1]
    rw [e2]
    exact this
  refine ja c1 ?_
  have ez : decide ((0 : Int) = n) = decide (n = 0) := by rw [decide_eq_decide]; exact eq_comm
  by_cases c2 : k = 2 ∨ k = 3
  · have e2 : ownE k n s = (lexB s && decide (n = 0)) := by unfold ownE; rw [if_pos c2]
    have e3 : (lexB s && ((decide ((0 : Int) = n) && decide (s.toList = s.toList)) && r)) = (ownE k n s && r) := by rw [e2, ez]; simp [Bool.and_assoc]
    rcases c2 with c2 | c2
    · refine jh c2 ?_
      have := zr3 a (k == 2) k n s xs 0 0 ⟨#[]⟩ r h
      rw [show (k == 2) = true by simp [c2], if_pos rfl, e3] at this
      rw [show (k == 2) = true by simp [c2]]
      exact this
    · refine ja (by omega) ?_
      have := zr3 a (k == 3) k n s xs 0 0 ⟨#[]⟩ r h
      rw [show (k == 3) = true by simp [c2], if_pos rfl, e3] at this
      rw [show (k == 3) = true by simp [c2]]
      exact this
  · refine ja (by omega) ?_
    have := zr3 a (k == 3) k n s xs 0 0 ⟨#[]⟩ r h
    have hk3 : (k == 3) = false := by
      rw [beq_eq_false_iff_ne]
      omega
    have e2 : ownE k n s = (decide (s.toList = []) && decide (n = 0)) := by unfold ownE; rw [if_neg c2, if_neg c0, if_neg c1]
    rw [hk3, if_neg (by decide), hnil, hflip, ez, Bool.and_comm (decide (n = 0)), ← e2] at this
    rw [hk3]
    exact this
theorem zf7 (a k n : Int) (s : ByteArray) (xs : List S27) : Ev (fun f => ze.j0 f a true k n s xs) false :=
  Ev.step (fun f => ze.j0.eq_2 _ _ _ _ _ _ f) (jh rfl (Ev.now _))
theorem shallow_ev : ∀ (d : Nat) (x : S27), d ≤ 40 → qhu x → Ev (fun k => ze.f k x.f0 x.f1 x.f2 x.f3 (d : Int)) (okE d x) := by
  intro d
  induction d with
  | zero =>
    intro x hd hx
    exact Ev.step (fun f => ze.f.eq_2 _ _ _ _ _ f) (Ev.bind (g := fun _ => qd3.f) (Ev.now _) (jh rfl (zf7 _ _ _ _ _)))
  | succ d ih =>
    intro x hd hx
    cases hx with
    | mk x hl hn hs hk =>
    refine Ev.step (fun f => ze.f.eq_2 _ _ _ _ _ f) ?_
    by_cases hr : 0 ≤ x.f0 ∧ x.f0 ≤ 19
    · obtain ⟨fs, h1, h2, h3⟩ := forms_kids x.f0 hr.1 hr.2
      refine Ev.bind (g := fun _ => qd3.f) (by rw [h1]; exact Ev.now fs) (ja (by omega) (ja (by omega) (ja (by omega) (jh hr.1 (jh (by omega) ?_)))))
      rw [h3, okE, decide_eq_true hr, Bool.true_and]
      by_cases hc : (x.f3.length : Int) = qs5 x.f0
      · rw [decide_eq_true hc, Bool.true_and, show ((x.f3.length : Int) != qs5 x.f0) = false by simp [hc]]
        refine sh_j0 _ _ _ _ _ _ hr.1 hn ?_
        have := sh_l0 d x.f3 hl (by omega) (fun y hy => ih y (by omega) (hk y hy)) x.f3.length 0 (by omega)
        rw [List.drop_zero] at this
        exact this
      · rw [decide_eq_false hc, Bool.false_and, show ((x.f3.length : Int) != qs5 x.f0) = true by simp [hc]]
        exact zf7 _ _ _ _ _
    · have e : okE (d + 1) x = false := by rw [okE, decide_eq_false hr, Bool.false_and]
      rw [e]
      refine Ev.bind (g := fun _ => qd3.f) (Ev.now _) (ja (by omega) ?_)
      by_cases h0 : x.f0 < 0
      · exact jh h0 (zf7 _ _ _ _ _)
      · exact ja h0 (jh (by show x.f0 ≥ ((20 : Nat) : Int); omega) (zf7 _ _ _ _ _))
theorem q8n (x : S27) (hx : qhu x) : Ev (fun k => qbe.f k x.f0 x.f1 x.f2 x.f3) (okE 40 x) :=
  Ev.bind (g := fun k => ze.f k x.f0 x.f1 x.f2 x.f3 40) (f := fun _ t => some t) (shallow_ev 40 x (by omega) hx) (Ev.now _)
end Go.Proofs.YtpgkhmdfddejfaaDoor.PV
end
section
namespace Go.Proofs.YtpgkhmdfddejfaaDoor.PV
open Go.RowKit Go.Proofs.YtpgkhmdfddejfaaDoorW.PrintWords Go.Proofs.YtpgkhmdfddejfaaDoorW.PrintLast Go.Proofs.YtpgkhmdfddejfaaDoorW.PrintMore
set_option linter.unusedVariables false
set_option linter.unusedSimpArgs false
theorem rk_j0 (k : Int) (b : Bool) : Ev (fun f => z8.j0 f k b) (if b = true then 2 else if k = 14 then 1 else if 16 ≤ k ∧ k ≤ 18 then 1 else 0) := by
  refine Ev.step (fun f => z8.j0.eq_2 _ _ f) ?_
  cases b with
  | true => exact jh rfl (Ev.now _)
  | false =>
    refine ja (by decide) ?_
    by_cases h1 : k = 14
    · refine jh h1 ?_
      rw [if_neg (show ¬ (false = true) by decide), if_pos h1]
      exact Ev.now _
    · refine ja h1 ?_
      rw [if_neg (show ¬ (false = true) by decide), if_neg h1]
      by_cases h2 : k ≥ 16
      · refine jh h2 ?_
        by_cases h3 : k ≤ 18
        · refine jh h3 ?_
          rw [if_pos (show 16 ≤ k ∧ k ≤ 18 from ⟨h2, h3⟩)]
          exact Ev.now _
        · refine ja h3 ?_
          rw [if_neg (show ¬ (16 ≤ k ∧ k ≤ 18) by omega)]
          exact Ev.now _
      · refine ja h2 ?_
        rw [if_neg (show ¬ (16 ≤ k ∧ k ≤ 18) by omega)]
        exact Ev.now _
theorem rkids_ev (k : Int) : Ev (fun f => z8.f f k) (qs5 k) := by
  have hb : ∀ b : Bool, (b = true ↔ (6 ≤ k ∧ k ≤ 13) ∨ k = 15 ∨ k = 19) → Ev (fun f => z8.j0 f k b) (qs5 k) := by
    intro b hb
    have := rk_j0 k b
    have e : (if b = true then (2 : Int) else if k = 14 then 1 else if 16 ≤ k ∧ k ≤ 18 then 1 else 0) = qs5 k := by
      unfold qs5
      by_cases h : b = true
      · rw [if_pos h, if_pos (hb.1 h)]
      · rw [if_neg h, if_neg (fun g => h (hb.2 g))]
        by_cases h1 : k = 14
        · rw [if_pos h1, if_pos (.inl h1)]
        · rw [if_neg h1]
          by_cases h2 : 16 ≤ k ∧ k ≤ 18
          · rw [if_pos h2, if_pos (.inr h2)]
          · rw [if_neg h2, if_neg (by omega)]
    rwa [e] at this
  unfold z8.f
  by_cases h1 : k ≥ 6
  · refine jh h1 ?_
    by_cases h2 : k ≤ 13
    · exact jh h2 (hb true (by simp; omega))
    · refine ja h2 ?_
      by_cases h3 : k = 15
      · exact jh h3 (hb true (by simp; omega))
      · exact ja h3 (hb (k == 19) (by simp; omega))
  · refine ja h1 ?_
    by_cases h3 : k = 15
    · exact jh h3 (hb true (by simp; omega))
    · exact ja h3 (hb (k == 19) (by simp; omega))
theorem rx_l0 (d : Nat) (k n : Int) (s : ByteArray) (xs : List S27) (hl : xs.length ≤ 2000000000) (hd : d ≤ 39) (h : ∀ x ∈ xs, Ev (fun f => qp.f f x.f0 x.f1 x.f2 x.f3 (41 - (d : Int))) (okE d x)) :
    ∀ m i : Nat, i + m = xs.length → Ev (fun f => qp.l0 f (41 - ((d + 1 : Nat) : Int)) i k n s xs) ((xs.drop i).all (okE d)) := by
  have hw : wrap64 (41 - ((d + 1 : Nat) : Int) + 1) = 41 - (d : Int) := by unfold wrap64; omega
  intro m
  induction m with
  | zero =>
    intro i hi
    refine Ev.step (f := fun _ => some true) (fun k => ?_) ?_
    · rw [qp.l0, if_neg (by omega)]
    · rw [List.drop_of_length_le (by omega)]
      exact Ev.now _
  | succ m ih =>
    intro i hi
    have hlt : i < xs.length := by omega
    rw [List.drop_eq_getElem_cons hlt, List.all_cons]
    refine Ev.step (f := fun f => (qp.f f xs[i].f0 xs[i].f1 xs[i].f2 xs[i].f3 (41 - (d : Int))).bind fun t => if t = true then qp.l0 f (41 - ((d + 1 : Nat) : Int)) ((i + 1 : Nat) : Int) k n s xs else some false) (fun f => ?_) (Ev.bind (h xs[i] (List.getElem_mem hlt)) ?_)
    · rw [qp.l0, if_pos (by omega), if_pos (by omega), qzt xs i hlt, hw, qeg i (by omega)]
    · cases okE d xs[i] with
      | true => exact jh rfl (by rw [Bool.true_and]; exact ih (i + 1) (by omega))
      | false => exact ja (by decide) (Ev.now _)
def numE (k n : Int) : Bool := if k = 0 then decide (-9223372036854775807 ≤ n) else if k = 1 then decide (n = 0 ∨ n = 1) else decide (n = 0)
theorem zn0 (a k n : Int) (b : Bool) (s : ByteArray) (xs : List S27) (r : Bool) (hk : 0 ≤ k) (hn : -9223372036854775808 ≤ n) (h : Ev (fun f => qp.l0 f a 0 k n s xs) r) : Ev (fun f => qp.j2 f a b k n s xs) (!b && (numE k n && r)) := by
  have h3 : Ev (fun f => qp.j3 f a k n s xs) r := Ev.step (fun f => qp.j3.eq_2 _ _ _ _ _ f) h
  refine Ev.step (fun f => qp.j2.eq_2 _ _ _ _ _ _ f) ?_
  cases b with
  | true => exact jh rfl (Ev.now _)
  | false =>
    refine ja (by decide) ?_
    rw [show (!false) = true from rfl, Bool.true_and]
    unfold numE
    by_cases c1 : k = 1
    · rw [if_neg (show ¬ k = 0 by omega), if_pos c1]
      refine jh c1 ?_
      by_cases c2 : n = 0
      · rw [decide_eq_true (show n = 0 ∨ n = 1 from .inl c2), Bool.true_and]
        exact jh c2 (ja (by omega) (ja (by omega) h3))
      · refine ja c2 ?_
        by_cases c3 : n = 1
        · rw [decide_eq_true (show n = 0 ∨ n = 1 from .inr c3), Bool.true_and]
          exact jh c3 (ja (by omega) (ja (by omega) h3))
        · rw [decide_eq_false (show ¬ (n = 0 ∨ n = 1) by omega)]
          exact ja c3 (Ev.now _)
    · refine ja c1 ?_
      by_cases c0 : k = 0
      · rw [if_pos c0]
        refine jh c0 ?_
        by_cases c2 : n = -9223372036854775808
        · rw [decide_eq_false (show ¬ (-9223372036854775807 ≤ n) by omega)]
          exact jh c2 (Ev.now _)
        · rw [decide_eq_true (show -9223372036854775807 ≤ n by omega), Bool.true_and]
          exact ja c2 (ja (by omega) h3)
      · rw [if_neg c0, if_neg c1]
        refine ja c0 (jh (by omega) ?_)
        by_cases c2 : n = 0
        · rw [decide_eq_true c2, Bool.true_and]
          exact jh c2 h3
        · rw [decide_eq_false c2]
          exact ja c2 (Ev.now _)
theorem rx_j1 (a k n : Int) (s : ByteArray) (xs : List S27) (r : Bool) (hk : 0 ≤ k) (hn : -9223372036854775808 ≤ n) (hs : s.size ≤ 2000000000) (h : Ev (fun f => qp.l0 f a 0 k n s xs) r) : Ev (fun f => qp.j0 f a false k n s xs) (ownE k n s && r) := by
  refine Ev.step (fun f => qp.j0.eq_2 _ _ _ _ _ _ f) (ja (by decide) ?_)
  have key : ∀ b : Bool, (b = true ↔ k = 2 ∨ k = 3) → Ev (fun f => qp.j1 f a b k n s xs) (ownE k n s && r) := by
    intro b hb
    refine Ev.step (fun f => qp.j1.eq_2 _ _ _ _ _ _ f) ?_
    by_cases he : s.toList = []
    · have hx : (s.toList != ([] : List UInt8)) = false := by simp [he]
      rw [hx]
      cases b with
      | true =>
        refine jh rfl ?_
        have hf : ownE k n s = false := by
          unfold ownE lexB
          rw [if_pos (hb.1 rfl), qtf s ((qgc s).1 he)]
          rfl
        rw [hf]
        exact zn0 a k n true s xs r hk hn h
      | false =>
        refine ja (by decide) (ja (by decide) ?_)
        have hf : ownE k n s = numE k n := by
          unfold ownE numE
          rw [if_neg (fun g => by have := hb.2 g; cases this), decide_eq_true he, Bool.true_and]
        rw [hf]
        exact zn0 a k n false s xs r hk hn h
    · have hx : (s.toList != ([] : List UInt8)) = true := by simp [he]
      rw [hx]
      cases b with
      | true =>
        have h23 := hb.1 rfl
        refine ja (by decide) (jh rfl (Ev.bind (g := fun f => zt.f f s) (refName_ev s hs) ?_))
        have hf : ownE k n s = (lexB s && decide (n = 0)) := by unfold ownE; rw [if_pos h23]
        have hm : numE k n = decide (n = 0) := by unfold numE; rw [if_neg (by omega), if_neg (by omega)]
        have := zn0 a k n (!lexB s) s xs r hk hn h
        rw [Bool.not_not, hm, ← Bool.and_assoc, ← hf] at this
        exact this
      | false =>
        refine jh rfl ?_
        have hf : ownE k n s = false := by
          unfold ownE
          rw [if_neg (fun g => by have := hb.2 g; cases this), decide_eq_false he]
          rfl
        rw [hf]
        exact zn0 a k n true s xs r hk hn h
  by_cases c2 : k = 2
  · exact jh c2 (key true (by simp; omega))
  · exact ja c2 (key (k == 3) (by simp; omega))
theorem zf6 (a k n : Int) (s : ByteArray) (xs : List S27) : Ev (fun f => qp.j0 f a true k n s xs) false :=
  Ev.step (fun f => qp.j0.eq_2 _ _ _ _ _ _ f) (jh rfl (Ev.now _))
theorem refRight_ev : ∀ (d : Nat) (x : S27), d ≤ 40 → qhu x → Ev (fun k => qp.f k x.f0 x.f1 x.f2 x.f3 (41 - (d : Int))) (okE d x) := by
  intro d
  induction d with
  | zero =>
    intro x hd hx
    exact Ev.step (fun f => qp.f.eq_2 _ _ _ _ _ f) (jh (by decide) (zf6 _ _ _ _ _))
  | succ d ih =>
    intro x hd hx
    cases hx with
    | mk x hl hn hs hk =>
    refine Ev.step (fun f => qp.f.eq_2 _ _ _ _ _ f) (ja (by omega) ?_)
    by_cases hr : 0 ≤ x.f0 ∧ x.f0 ≤ 19
    · refine ja (by omega) (ja (by omega) (Ev.bind (g := fun f => z8.f f x.f0) (rkids_ev x.f0) ?_))
      rw [okE, decide_eq_true hr, Bool.true_and]
      by_cases hc : (x.f3.length : Int) = qs5 x.f0
      · rw [decide_eq_true hc, Bool.true_and, show ((x.f3.length : Int) != qs5 x.f0) = false by simp [hc]]
        refine rx_j1 _ _ _ _ _ _ hr.1 hn hs ?_
        have := rx_l0 d x.f0 x.f1 x.f2 x.f3 hl (by omega) (fun y hy => ih y (by omega) (hk y hy)) x.f3.length 0 (by omega)
        rw [List.drop_zero] at this
        exact this
      · rw [decide_eq_false hc, Bool.false_and, show ((x.f3.length : Int) != qs5 x.f0) = true by simp [hc]]
        exact zf6 _ _ _ _ _
    · have e : okE (d + 1) x = false := by rw [okE, decide_eq_false hr, Bool.false_and]
      rw [e]
      by_cases h0 : x.f0 < 0
      · exact jh h0 (zf6 _ _ _ _ _)
      · exact ja h0 (jh (by omega) (zf6 _ _ _ _ _))
theorem refRightExpr_ev (x : S27) (hx : qhu x) : Ev (fun k => zi.f k x.f0 x.f1 x.f2 x.f3) (okE 40 x) :=
  Ev.bind (g := fun k => qp.f k x.f0 x.f1 x.f2 x.f3 1) (f := fun _ t => some t) (refRight_ev 40 x (by omega) hx) (Ev.now _)
def qtg (x : S27) : Bool := decide (x.f0 = 0 ∧ x.f1 = 0 ∧ x.f2.toList = [] ∧ x.f3 = [])
theorem len_nil (xs : List S27) : ((xs.length : Int) = 0) ↔ xs = [] := by cases xs <;> simp; omega
theorem refNone_ev (x : S27) : Ev (fun k => yo.f k x.f0 x.f1 x.f2 x.f3) (qtg x) := by
  refine Ev.bind (g := fun k => je.f k x.f0 x.f1 x.f2 x.f3 0 0 ⟨#[]⟩ []) (f := fun _ t => some t) (a := qtg x) ?_ (Ev.now _)
  have hnil : (⟨#[]⟩ : ByteArray).toList = [] := (qgc _).2 rfl
  refine Ev.step (fun f => je.f.eq_2 _ _ _ _ _ _ _ _ f) ?_
  unfold qtg
  by_cases h0 : x.f0 = 0
  · refine jh h0 ?_
    by_cases h1 : x.f1 = 0
    · refine jh h1 ?_
      rw [hnil]
      by_cases h2 : x.f2.toList = []
      · refine jh h2 (Ev.bind (g := fun f => zn.f f x.f3 []) (f := fun _ t => some t) (a := decide (x.f0 = 0 ∧ x.f1 = 0 ∧ x.f2.toList = [] ∧ x.f3 = [])) ?_ (Ev.now _))
        refine Ev.step (fun f => zn.f.eq_2 _ _ f) ?_
        by_cases h3 : x.f3 = []
        · rw [decide_eq_true ⟨h0, h1, h2, h3⟩]
          refine jh (by rw [h3]) ?_
          rw [h3]
          refine Ev.step (f := fun _ => some true) (fun k => ?_) (Ev.now _)
          rw [zn.l0, if_neg (by simp)]
        · rw [decide_eq_false (fun h => h3 h.2.2.2)]
          exact ja (fun h => h3 ((len_nil _).1 h)) (Ev.now _)
      · rw [decide_eq_false (fun h => h2 h.2.2.1)]
        exact ja h2 (Ev.now _)
    · rw [decide_eq_false (fun h => h1 h.2.1)]
      exact ja h1 (Ev.now _)
  · rw [decide_eq_false (fun h => h0 h.1)]
    exact ja h0 (Ev.now _)
end Go.Proofs.YtpgkhmdfddejfaaDoor.PV
end
section
namespace Go.Proofs.YtpgkhmdfddejfaaDoor.PV
open Go.RowKit Go.Proofs.YtpgkhmdfddejfaaDoorW.PrintWords Go.Proofs.YtpgkhmdfddejfaaDoorW.PrintLast Go.Proofs.YtpgkhmdfddejfaaDoorW.PrintMore
set_option linter.unusedVariables false
set_option linter.unusedSimpArgs false
theorem rbLoop_total (l : List S36) : ∀ (d f : Nat) (a : Int) (m : S30) (t : Int), 2 * d + 1 ≤ f → (l.length : Int) - t ≤ d → (qz l a).f3 ≤ l.length → ∃ q, qbw l f a m t = some q := by
  intro d
  induction d with
  | zero =>
    intro f a m t hf ht he
    obtain ⟨f, rfl⟩ : ∃ g, f = g + 1 := ⟨f - 1, by omega⟩
    rw [qbw, if_neg (by omega)]
    exact ⟨_, rfl⟩
  | succ d ih =>
    intro f a m t hf ht he
    obtain ⟨f, rfl⟩ : ∃ g, f = g + 1 + 1 := ⟨f - 2, by omega⟩
    rw [qbw]
    by_cases hlt : t < (qz l a).f3
    · rw [if_pos hlt, rb]
      by_cases hb : (qz l t).f4 ≠ a ∨ (qz l t).f3 ≤ t ∨ (qz l t).f3 > l.length
      · rw [if_pos hb, Option.bind_some, if_pos (.inl (show (-1 : Int) < 0 by decide))]
        exact ⟨_, rfl⟩
      · rw [if_neg hb]
        obtain ⟨q, hq⟩ := ih f t (qcf (qz l t)) (t + 1) (by omega) (by omega) (by omega)
        rw [hq, Option.bind_some]
        split
        · exact ⟨_, rfl⟩
        · have := (qv7 l f).2 t _ (t + 1) q.1 q.2 (by omega) hq
          exact ih (f + 1) a _ q.2 (by omega) (by omega) he
    · rw [if_neg hlt]
      exact ⟨_, rfl⟩
theorem rb_total (l : List S36) (a p : Int) : ∃ f q, rb l f a p = some q := by
  refine ⟨2 * (l.length - a).toNat + 2, ?_⟩
  rw [rb]
  split
  · exact ⟨_, rfl⟩
  · exact rbLoop_total l ((l.length : Int) - a).toNat _ a _ _ (by omega) (by omega) (by omega)
def q83 (l : List S36) : List (Int × S30) → Int
  | [] => l.length
  | x :: _ => qd2 l x.1
def StOK (st : List (Int × S30)) (a : Nat) : Prop := (st = [] ∧ a = 0) ∨ (st ≠ [] ∧ 0 ≤ qbs st)
theorem go_step {l : List S36} {a : Nat} {st : List (Int × S30)} (ha : a < l.length) (hs : StOK st a) (h1 : (qz l a).f4 = qbs st) (h2 : (a : Int) < (qz l a).f3) (h3 : (qz l a).f3 ≤ l.length) (h4 : (qz l a).f3 ≤ q83 l st) :
    qdn l (l.length - a) a st = qdn l (l.length - (a + 1)) (a + 1) (qcv l ((a + 1 : Nat) : Int) (((a : Int), qcf (qz l a)) :: st)) := by
  obtain ⟨d, hd⟩ : ∃ d, l.length - a = d + 1 := ⟨l.length - a - 1, by omega⟩
  have hd2 : l.length - (a + 1) = d := by omega
  rw [hd, hd2]
  conv => lhs; unfold qdn
  rw [if_neg, if_neg]
  · rfl
  · rintro ⟨g1, g2⟩
    rcases hs with ⟨rfl, _⟩ | ⟨hs, _⟩
    · simp [qbs] at g1
    · cases st with
      | nil => exact hs rfl
      | cons x s => simp only [qbs] at g2; simp only [q83] at h4; omega
  · rintro (g | g | g | g)
    · exact g h1
    · omega
    · omega
    · rcases hs with ⟨_, rfl⟩ | ⟨_, hs⟩
      · simp at g
      · omega
theorem q93 {l : List S36} {a : Nat} {st : List (Int × S30)} (ha : a < l.length) (h : (qz l a).f4 ≠ qbs st ∨ (qz l a).f3 ≤ a ∨ (qz l a).f3 > l.length ∨ (st ≠ [] ∧ 0 ≤ qbs st ∧ (qz l a).f3 > q83 l st)) :
    qdn l (l.length - a) a st = (z30, false) := by
  obtain ⟨d, hd⟩ : ∃ d, l.length - a = d + 1 := ⟨l.length - a - 1, by omega⟩
  rw [hd]
  unfold qdn
  split
  · rfl
  · rename_i hn
    rw [if_pos]
    rcases h with h | h | h | ⟨h0, h1, h2⟩
    · exact absurd (.inl h) hn
    · exact absurd (.inr (.inl h)) hn
    · exact absurd (.inr (.inr (.inl h))) hn
    · cases st with
      | nil => exact absurd rfl h0
      | cons x s => exact ⟨h1, h2⟩
theorem close_top {l : List S36} {t : Int} {a : Int} {m : S30} {st : List (Int × S30)} (h : qd2 l a ≠ t) : qcv l t ((a, m) :: st) = (a, m) :: st := by
  cases st with
  | nil => exact qtm l t _
  | cons y s => exact qz3 h
theorem sim (l : List S36) (f : Nat) :
    (∀ (a : Nat) (p : Int) (st : List (Int × S30)) (node : S30) (r : Int), rb l f a p = some (node, r) → a < l.length → StOK st a → p = qbs st →
      (0 ≤ r → r = qd2 l a ∧ (a : Int) < r ∧ r ≤ l.length) ∧ (0 ≤ r → r ≤ q83 l st → qdn l (l.length - a) a st = qdn l (l.length - r.toNat) r.toNat (qcv l r (((a : Int), node) :: st))) ∧ ((r < 0 ∨ q83 l st < r) → qdn l (l.length - a) a st = (z30, false))) ∧
    (∀ (a t : Nat) (m : S30) (st : List (Int × S30)) (node : S30) (r : Int), qbw l f a m t = some (node, r) → a < t → (t : Int) ≤ qd2 l a → qd2 l a ≤ l.length → 
      (0 ≤ r → r = qd2 l a) ∧ (0 ≤ r → qdn l (l.length - t) t (qcv l t (((a : Int), m) :: st)) = qdn l (l.length - r.toNat) r.toNat (qcv l r (((a : Int), node) :: st))) ∧ (r < 0 → qdn l (l.length - t) t (qcv l t (((a : Int), m) :: st)) = (z30, false))) := by
  induction f with
  | zero => exact ⟨fun a p st node r h => by simp [rb] at h, fun a t m st node r h => by simp [qbw] at h⟩
  | succ f ih =>
    refine ⟨?_, ?_⟩
    · intro a p st node r h ha hs hp
      rw [rb] at h
      by_cases hb : (qz l a).f4 ≠ p ∨ (qz l a).f3 ≤ a ∨ (qz l a).f3 > l.length
      · rw [if_pos hb] at h
        injection h with h
        injection h with _ h
        subst h
        refine ⟨fun h => by omega, fun h => by omega, fun _ => q93 ha ?_⟩
        rcases hb with hb | hb | hb
        · exact .inl (hp ▸ hb)
        · exact .inr (.inl hb)
        · exact .inr (.inr (.inl hb))
      · rw [if_neg hb] at h
        have b1 : (qz l a).f4 = qbs st := by
          rw [← hp]
          by_cases h : (qz l a).f4 = p
          · exact h
          · exact absurd (.inl h) hb
        have b2 : (a : Int) < (qz l a).f3 := by omega
        have b3 : (qz l a).f3 ≤ l.length := by omega
        have hcast : ((a : Int) + 1) = ((a + 1 : Nat) : Int) := by omega
        rw [hcast] at h
        obtain ⟨c1, c2, c3⟩ := ih.2 a (a + 1) (qcf (qz l a)) st node r h (by omega) (by show ((a + 1 : Nat) : Int) ≤ (qz l a).f3; omega) b3
        refine ⟨fun h0 => ⟨c1 h0, by rw [c1 h0]; exact b2, by rw [c1 h0]; exact b3⟩, fun h0 h1 => ?_, fun h0 => ?_⟩
        · rw [go_step ha hs b1 b2 b3 (by have := c1 h0; unfold qd2 at this; omega)]
          exact c2 h0
        · by_cases hl : (qz l a).f3 ≤ q83 l st
          · rw [go_step ha hs b1 b2 b3 hl]
            refine c3 ?_
            rcases h0 with h0 | h0
            · exact h0
            · by_cases hr : r < 0
              · exact hr
              · have := c1 (by omega)
                unfold qd2 at this
                omega
          · refine q93 ha (.inr (.inr (.inr ?_)))
            rcases hs with ⟨rfl, _⟩ | ⟨hs, hs2⟩
            · exact absurd b3 hl
            · exact ⟨hs, hs2, by omega⟩
    · intro a t m st node r h hat hte hel
      rw [qbw] at h
      by_cases hlt : (t : Int) < (qz l a).f3
      · rw [if_pos hlt] at h
        have hct := close_top (l := l) (t := (t : Int)) (a := (a : Int)) (m := m) (st := st) (by show (qz l a).f3 ≠ t; omega)
        rw [hct]
        cases hq : rb l f t a with
        | none => rw [hq] at h; cases h
        | some q =>
          obtain ⟨k, q⟩ := q
          rw [hq, Option.bind_some] at h
          have htl : t < l.length := by unfold qd2 at hel; omega
          obtain ⟨d1, d2, d3⟩ := ih.1 t a (((a : Int), m) :: st) k q hq htl (.inr ⟨by simp, by simp [qbs]⟩) rfl
          by_cases hbad : q < 0 ∨ q > (qz l a).f3
          · rw [if_pos hbad] at h
            injection h with h
            injection h with _ h
            subst h
            exact ⟨fun h => by omega, fun h => by omega, fun _ => d3 hbad⟩
          · rw [if_neg hbad] at h
            obtain ⟨e1, e2, e3⟩ := d1 (by omega)
            have hq2 : ((q.toNat : Nat) : Int) = q := by omega
            rw [d2 (by omega) (by show q ≤ (qz l a).f3; omega)]
            have hclose : qcv l q (((t : Int), k) :: ((a : Int), m) :: st) = qcv l q (((a : Int), { m with f5 := m.f5 ++ [k] }) :: st) := by
              conv => lhs; unfold qcv
              rw [if_pos e1.symm]
              rfl
            rw [hclose]
            have hx := ih.2 a q.toNat { m with f5 := m.f5 ++ [k] } st node r (by rw [hq2]; exact h) (by omega) (by show ((q.toNat : Nat) : Int) ≤ (qz l a).f3; omega) hel
            rw [hq2] at hx
            exact hx
      · rw [if_neg hlt] at h
        injection h with h
        injection h with h1 h2
        subst h1 h2
        have : (t : Int) = qd2 l a := by unfold qd2 at hte ⊢; omega
        exact ⟨fun _ => this, fun _ => by simp, fun h => by omega⟩
theorem qz1 (l : List S36) (hl : 0 < l.length) {f : Nat} {node : S30} {r : Int} (h : rb l f 0 (-1) = some (node, r)) : qch l = if r = l.length then (node, true) else (z30, false) := by
  obtain ⟨h1, h2, h3⟩ := (sim l f).1 0 (-1) [] node r h hl (.inl ⟨rfl, rfl⟩) rfl
  unfold qch
  have h0 : l.length - 0 = l.length := by omega
  rw [h0] at h2 h3
  by_cases hr : r < 0
  · rw [h3 (.inl hr), if_neg (by omega)]
  · obtain ⟨g1, g2, g3⟩ := h1 (by omega)
    rw [h2 (by omega) g3, qtm]
    by_cases he : r = l.length
    · rw [if_pos he]
      have hz : l.length - r.toNat = 0 := by omega
      rw [hz]
      unfold qdn
      rw [if_pos (by show qd2 l ((0 : Nat) : Int) = _; rw [← g1, he])]
    · rw [if_neg he]
      refine q93 (by omega) ?_
      by_cases c1 : (qz l (r.toNat : Int)).f4 = qbs [(((0 : Nat) : Int), node)]
      · by_cases c2 : (qz l (r.toNat : Int)).f3 ≤ (r.toNat : Nat)
        · exact .inr (.inl c2)
        · refine .inr (.inr (.inr ⟨by simp, by simp [qbs], ?_⟩))
          show _ > qd2 l ((0 : Nat) : Int)
          rw [← g1]
          omega
      · exact .inl c1
end Go.Proofs.YtpgkhmdfddejfaaDoor.PV
end
section
namespace Go.Proofs.YtpgkhmdfddejfaaDoor.PV
open Go.RowKit Go.Proofs.YtpgkhmdfddejfaaDoorW.PrintWords Go.Proofs.YtpgkhmdfddejfaaDoorW.PrintLast Go.Proofs.YtpgkhmdfddejfaaDoorW.PrintMore
set_option linter.unusedVariables false
set_option linter.unusedSimpArgs false
theorem q8k (xs : List S30) (i : Nat) (h : i < xs.length) : zb xs (i : Int) = xs[i] := by simp [zb, h]
def qdl : Nat → S30 → Prop
  | 0, _ => False
  | d + 1, n => n.f3.size ≤ 2000000000 ∧ qhu n.f4 ∧ n.f5.length ≤ 2000000000 ∧ (∀ k ∈ n.f5, qdl d k) ∧ n.f6.length ≤ 2000000000 ∧ ∀ y ∈ n.f6, qhu y
theorem qdl.mono : ∀ {d e : Nat} {n : S30}, d ≤ e → qdl d n → qdl e n
  | 0, _, _, _, h => h.elim
  | d + 1, 0, _, h, _ => by omega
  | d + 1, e + 1, n, h, hn => ⟨hn.1, hn.2.1, hn.2.2.1, fun k hk => qdl.mono (by omega) (hn.2.2.2.1 k hk), hn.2.2.2.2⟩
def qk0 (k : Int) (m : Int) : Bool := if k ≤ 4 ∨ k = 11 then decide (1 ≤ m ∧ m ≤ 16) else if k = 5 ∨ k = 6 then decide (m = 1) else decide (m = 0)
def qdb (k a b m : Int) : Bool := if k = 4 then decide (1 ≤ a ∧ a ≤ m ∧ 1 ≤ b ∧ b ≤ m) else if k = 6 then decide (1 ≤ a ∧ a ≤ 1000 ∧ b = 0) else decide (a = 0 ∧ b = 0)
def qmd (k : Int) (s : ByteArray) : Bool := if k = 8 ∨ k = 9 ∨ k = 12 then lexB s else decide (s.toList = [])
def qme (k : Int) (x : S27) : Bool := if k = 7 ∨ k = 8 then okE 40 x else qtg x
def qk1 (k m w : Int) : Bool := if k = 11 then decide (w = m) else decide (w = 0)
def ownN (n : S30) : Bool :=
  decide (0 ≤ n.f0 ∧ n.f0 ≤ 15 ∧ n.f0 ≠ 10) && (qk0 n.f0 n.f5.length && (qdb n.f0 n.f1 n.f2 n.f5.length && (qmd n.f0 n.f3 && (qme n.f0 n.f4 && (qk1 n.f0 n.f5.length n.f6.length && n.f6.all (okE 40))))))
def okN : Nat → S30 → Bool
  | 0, _ => false
  | d + 1, n => ownN n && n.f5.all (okN d)
def mxl (g : S30 → Nat) : List S30 → Nat → Nat
  | [], a => a
  | x :: r, a => mxl g r (max a (g x))
theorem zji (g : S30 → Nat) (e : Nat) : ∀ (l : List S30) (a : Nat), mxl g l a ≤ e ↔ a ≤ e ∧ ∀ x ∈ l, g x ≤ e
  | [], a => by simp [mxl]
  | x :: r, a => by
    rw [mxl, zji g e r]
    simp only [List.mem_cons, forall_eq_or_imp]
    constructor
    · rintro ⟨h1, h2⟩; exact ⟨by omega, by omega, h2⟩
    · rintro ⟨h1, h2, h3⟩; exact ⟨by omega, h3⟩
def depF : Nat → S30 → Nat
  | 0, _ => 0
  | d + 1, n => mxl (depF d) n.f5 0 + 1
theorem depF_le : ∀ (d : Nat) (n : S30), depF d n ≤ d
  | 0, _ => Nat.le_refl _
  | d + 1, n => by
    rw [depF]
    have := (zji (depF d) d n.f5 0).2 ⟨Nat.zero_le _, fun x _ => depF_le d x⟩
    omega
theorem all_and {α : Type} (p q : α → Bool) (l : List α) : (l.all p && l.all q) = l.all fun x => p x && q x := by
  induction l with
  | nil => rfl
  | cons x l ih =>
    simp only [List.all_cons, ← ih]
    cases p x <;> cases q x <;> cases l.all p <;> rfl
theorem all_congr' {α : Type} {p q : α → Bool} {l : List α} (h : ∀ x ∈ l, p x = q x) : l.all p = l.all q := by
  induction l with
  | nil => rfl
  | cons x l ih => rw [List.all_cons, List.all_cons, h x (by simp), ih (fun y hy => h y (by simp [hy]))]
theorem q7d : ∀ (d : Nat) (n : S30) (e : Nat), qdl d n → (decide (depF d n ≤ e) && okN d n) = okN e n
  | 0, _, _, h => h.elim
  | d + 1, n, 0, h => by
    rw [decide_eq_false (by rw [depF]; omega)]
    rfl
  | d + 1, n, e + 1, h => by
    have h1 : decide (depF (d + 1) n ≤ e + 1) = n.f5.all (fun k => decide (depF d k ≤ e)) := by
      rw [Bool.eq_iff_iff, decide_eq_true_iff, List.all_eq_true, depF]
      have := zji (depF d) e n.f5 0
      constructor
      · intro h x hx
        exact decide_eq_true ((this.1 (by omega)).2 x hx)
      · intro h
        have := this.2 ⟨Nat.zero_le _, fun x hx => of_decide_eq_true (h x hx)⟩
        omega
    rw [h1, okN, okN, ← Bool.and_assoc, Bool.and_comm (n.f5.all _), Bool.and_assoc, all_and]
    congr 1
    exact all_congr' fun k hk => q7d d k e (h.2.2.2.1 k hk)
theorem dep_l0 (d : Nat) (hd : d ≤ 2000000000) (xs : List S30) (hl : xs.length ≤ 2000000000) (h : ∀ n ∈ xs, Ev (fun k => jq.f k n.f0 n.f1 n.f2 n.f3 n.f4.f0 n.f4.f1 n.f4.f2 n.f4.f3 n.f5 n.f6) ((depF d n : Nat) : Int)) :
    ∀ m i acc : Nat, i + m = xs.length → acc ≤ d → Ev (fun k => jq.l0 k (acc : Int) xs (xs.length : Int) i) ((mxl (depF d) (xs.drop i) acc + 1 : Nat) : Int) := by
  intro m
  induction m with
  | zero =>
    intro i acc hi ha
    refine Ev.step (f := fun _ => some ((acc + 1 : Nat) : Int)) (fun k => ?_) ?_
    · rw [jq.l0, if_neg (by omega), qeg acc (by omega)]
    · rw [List.drop_of_length_le (by omega)]
      exact Ev.now _
  | succ m ih =>
    intro i acc hi ha
    have hlt : i < xs.length := by omega
    rw [List.drop_eq_getElem_cons hlt, mxl]
    have hm : mx (acc : Int) ((depF d xs[i] : Nat) : Int) = ((max acc (depF d xs[i]) : Nat) : Int) := by unfold mx; split <;> omega
    have hdl := depF_le d xs[i]
    refine Ev.step (f := fun k => (jq.f k xs[i].f0 xs[i].f1 xs[i].f2 xs[i].f3 xs[i].f4.f0 xs[i].f4.f1 xs[i].f4.f2 xs[i].f4.f3 xs[i].f5 xs[i].f6).bind fun t => jq.l0 k (mx (acc : Int) t) xs (xs.length : Int) ((i + 1 : Nat) : Int)) (fun k => ?_) (Ev.bind (h xs[i] (List.getElem_mem hlt)) ?_)
    · rw [jq.l0, if_pos (by omega), if_pos (by omega), if_pos (by omega), q8k xs i hlt, qeg i (by omega)]
    · rw [hm]
      exact ih (i + 1) (max acc (depF d xs[i])) (by omega) (by omega)
theorem q7c : ∀ (d : Nat) (n : S30), d ≤ 2000000000 → qdl d n → Ev (fun k => jq.f k n.f0 n.f1 n.f2 n.f3 n.f4.f0 n.f4.f1 n.f4.f2 n.f4.f3 n.f5 n.f6) ((depF d n : Nat) : Int) := by
  intro d
  induction d with
  | zero => intro n _ h; exact h.elim
  | succ d ih =>
    intro n hd h
    refine Ev.step (fun f => jq.f.eq_2 _ _ _ _ _ _ _ _ _ _ f) ?_
    rw [depF]
    have := dep_l0 d (by omega) n.f5 h.2.2.1 (fun k hk => ih k (by omega) (h.2.2.2.1 k hk)) n.f5.length 0 0 (by omega) (by omega)
    rw [List.drop_zero] at this
    exact this
theorem vkids_j0 (m k : Int) (b : Bool) : Ev (fun f => jw.j0 f m k b) (if b = true then decide (1 ≤ m ∧ m ≤ 16) else if k = 5 ∨ k = 6 then decide (m = 1) else decide (m = 0)) := by
  refine Ev.step (fun f => jw.j0.eq_2 _ _ _ f) ?_
  have e1 : (m == 1) = decide (m = 1) := by rw [Bool.eq_iff_iff]; simp
  have e0 : (m == 0) = decide (m = 0) := by rw [Bool.eq_iff_iff]; simp
  rw [e1, e0]
  cases b with
  | true =>
    refine jh rfl ?_
    rw [if_pos (show (true = true) from rfl)]
    by_cases h : m ≥ 1
    · refine jh h ?_
      have e : decide (m ≤ 16) = decide (1 ≤ m ∧ m ≤ 16) := by rw [decide_eq_decide]; omega
      rw [e]
      exact Ev.now _
    · refine ja h ?_
      rw [decide_eq_false (show ¬ (1 ≤ m ∧ m ≤ 16) by omega)]
      exact Ev.now _
  | false =>
    refine ja (by decide) ?_
    rw [if_neg (show ¬ (false = true) by decide)]
    by_cases h5 : k = 5
    · refine jh h5 ?_
      rw [if_pos (show k = 5 ∨ k = 6 from .inl h5)]
      exact Ev.now _
    · refine ja h5 ?_
      by_cases h6 : k = 6
      · refine jh h6 ?_
        rw [if_pos (show k = 5 ∨ k = 6 from .inr h6)]
        exact Ev.now _
      · refine ja h6 ?_
        rw [if_neg (show ¬ (k = 5 ∨ k = 6) by omega)]
        exact Ev.now _
theorem vkids_ev (k m : Int) (hk : 0 ≤ k) : Ev (fun f => jw.f f k m) (qk0 k m) := by
  have key : ∀ b : Bool, (b = true ↔ k ≤ 4 ∨ k = 11) → Ev (fun f => jw.j0 f m k b) (qk0 k m) := by
    intro b hb
    have := vkids_j0 m k b
    have e : (if b = true then decide (1 ≤ m ∧ m ≤ 16) else if k = 5 ∨ k = 6 then decide (m = 1) else decide (m = 0)) = qk0 k m := by
      unfold qk0
      by_cases h : b = true
      · rw [if_pos h, if_pos (hb.1 h)]
      · rw [if_neg h, if_neg (fun g => h (hb.2 g))]
    rwa [e] at this
  unfold jw.f
  by_cases h0 : k = 0
  · exact jh h0 (key _ (by simp [h0]))
  refine ja h0 ?_
  by_cases h1 : k = 1
  · exact jh h1 (key _ (by simp [h1]))
  refine ja h1 ?_
  by_cases h2 : k = 2
  · exact jh h2 (key _ (by simp [h2]))
  refine ja h2 ?_
  by_cases h3 : k = 3
  · exact jh h3 (key _ (by simp [h3]))
  refine ja h3 ?_
  by_cases h4 : k = 4
  · exact jh h4 (key _ (by simp [h4]))
  exact ja h4 (key _ (by simp; omega))
theorem vcounts_is (n : S30) (hm : n.f0 = 4 → 1 ≤ (n.f5.length : Int)) : qbi.f n.f0 n.f1 n.f2 n.f3 n.f4.f0 n.f4.f1 n.f4.f2 n.f4.f3 n.f5 n.f6 = some (qdb n.f0 n.f1 n.f2 n.f5.length) := by
  unfold qbi.f qbx.f qdb
  simp only [Option.bind_some]
  have e0 : (n.f2 == 0) = decide (n.f2 = 0) := by rw [Bool.eq_iff_iff]; simp
  rw [e0]
  by_cases h4 : n.f0 = 4
  · rw [if_pos h4, if_pos h4]
    have hm := hm h4
    have e1 : n.f1 = mx 1 (mn n.f1 (n.f5.length : Int)) ↔ 1 ≤ n.f1 ∧ n.f1 ≤ n.f5.length := by unfold mx mn; split <;> split <;> omega
    have e2 : n.f2 = mx 1 (mn n.f2 (n.f5.length : Int)) ↔ 1 ≤ n.f2 ∧ n.f2 ≤ n.f5.length := by unfold mx mn; split <;> split <;> omega
    have e3 : (n.f2 == mx 1 (mn n.f2 (n.f5.length : Int))) = decide (1 ≤ n.f2 ∧ n.f2 ≤ n.f5.length) := by rw [Bool.eq_iff_iff]; simp only [beq_iff_eq, decide_eq_true_iff, e2]
    rw [e3]
    by_cases h1 : 1 ≤ n.f1 ∧ n.f1 ≤ n.f5.length
    · rw [if_pos (e1.2 h1)]
      congr 1
      rw [decide_eq_decide]
      omega
    · rw [if_neg (fun h => h1 (e1.1 h))]
      congr 1
      symm
      rw [decide_eq_false_iff_not]
      omega
  · rw [if_neg h4, if_neg h4]
    by_cases h6 : n.f0 = 6
    · rw [if_pos h6, if_pos h6]
      have e1 : n.f1 = mx 1 (mn n.f1 1000) ↔ 1 ≤ n.f1 ∧ n.f1 ≤ 1000 := by unfold mx mn; split <;> split <;> omega
      by_cases h1 : 1 ≤ n.f1 ∧ n.f1 ≤ 1000
      · rw [if_pos (e1.2 h1)]
        congr 1
        rw [decide_eq_decide]
        omega
      · rw [if_neg (fun h => h1 (e1.1 h))]
        congr 1
        symm
        rw [decide_eq_false_iff_not]
        omega
    · rw [if_neg h6, if_neg h6]
      by_cases h1 : n.f1 = 0
      · rw [if_pos h1]
        congr 1
        rw [decide_eq_decide]
        omega
      · rw [if_neg h1]
        congr 1
        symm
        rw [decide_eq_false_iff_not]
        omega
theorem vnone_is (x : S27) : qhr.f x.f0 x.f1 x.f2 x.f3 = some (qtg x) := by
  unfold qhr.f qtg
  have e : ((x.f3.length : Int) == 0) = decide (x.f3 = []) := by rw [Bool.eq_iff_iff]; simp only [beq_iff_eq, decide_eq_true_iff, len_nil]
  rw [e]
  by_cases h0 : x.f0 = 0
  · rw [if_pos h0]
    by_cases h1 : x.f1 = 0
    · rw [if_pos h1]
      by_cases h2 : x.f2.toList = []
      · rw [if_pos h2]
        congr 1
        rw [decide_eq_decide]
        exact ⟨fun h => ⟨h0, h1, h2, h⟩, fun h => h.2.2.2⟩
      · rw [if_neg h2, decide_eq_false (fun h => h2 h.2.2.1)]
    · rw [if_neg h1, decide_eq_false (fun h => h1 h.2.1)]
  · rw [if_neg h0, decide_eq_false (fun h => h0 h.1)]
theorem vt_l0 (n : S30) (a b : Bool) (m : Int) (hl : n.f6.length ≤ 2000000000) (h : ∀ y ∈ n.f6, qhu y) :
    ∀ c i : Nat, i + c = n.f6.length → Ev (fun f => zz.l0 f a b m n.f6 (n.f6.length : Int) i n.f0 n.f1 n.f2 n.f3 n.f4.f0 n.f4.f1 n.f4.f2 n.f4.f3 n.f5 n.f6) ((n.f6.drop i).all (okE 40) && (a && (b && decide ((n.f6.length : Int) = m)))) := by
  intro c
  have e : ((n.f6.length : Int) == m) = decide ((n.f6.length : Int) = m) := by rw [Bool.eq_iff_iff]; simp
  induction c with
  | zero =>
    intro i hi
    refine Ev.step (f := fun _ => some (a && (b && decide ((n.f6.length : Int) = m)))) (fun k => ?_) ?_
    · rw [zz.l0, if_neg (by omega), e]
      cases a <;> cases b <;> rfl
    · rw [List.drop_of_length_le (by omega)]
      exact Ev.now _
  | succ c ih =>
    intro i hi
    have hlt : i < n.f6.length := by omega
    rw [List.drop_eq_getElem_cons hlt, List.all_cons]
    refine Ev.step (f := fun f => (qbe.f f n.f6[i].f0 n.f6[i].f1 n.f6[i].f2 n.f6[i].f3).bind fun t => if t = true then zz.l0 f a b m n.f6 (n.f6.length : Int) ((i + 1 : Nat) : Int) n.f0 n.f1 n.f2 n.f3 n.f4.f0 n.f4.f1 n.f4.f2 n.f4.f3 n.f5 n.f6 else some false) (fun f => ?_) (Ev.bind (q8n n.f6[i] (h _ (List.getElem_mem hlt))) ?_)
    · rw [zz.l0, if_pos (by omega), if_pos (by omega), if_pos (by omega), qzt n.f6 i hlt, qeg i (by omega)]
    · cases okE 40 n.f6[i] with
      | true => exact jh rfl (by rw [Bool.true_and]; exact ih (i + 1) (by omega))
      | false => exact ja (by decide) (Ev.now _)
theorem vtexts_ev (d : Nat) (n : S30) (h : qdl (d + 1) n) : Ev (fun f => zz.f f n.f0 n.f1 n.f2 n.f3 n.f4.f0 n.f4.f1 n.f4.f2 n.f4.f3 n.f5 n.f6) (qmd n.f0 n.f3 && (qme n.f0 n.f4 && (qk1 n.f0 n.f5.length n.f6.length && n.f6.all (okE 40)))) := by
  obtain ⟨h1, h2, h3, h4, h5, h6⟩ := h
  have j0 : ∀ a b m, Ev (fun f => zz.j0 f a b m n.f0 n.f1 n.f2 n.f3 n.f4.f0 n.f4.f1 n.f4.f2 n.f4.f3 n.f5 n.f6) (a && (b && (decide ((n.f6.length : Int) = m) && n.f6.all (okE 40)))) := by
    intro a b m
    refine Ev.step (fun f => zz.j0.eq_2 _ _ _ _ _ _ _ _ _ _ _ _ _ f) ?_
    have := vt_l0 n a b m h5 h6 n.f6.length 0 (by omega)
    rw [List.drop_zero] at this
    have e : (n.f6.all (okE 40) && (a && (b && decide ((n.f6.length : Int) = m)))) = (a && (b && (decide ((n.f6.length : Int) = m) && n.f6.all (okE 40)))) := by
      cases a <;> cases b <;> simp [Bool.and_comm]
    rw [e] at this
    exact this
  have es : (n.f3.toList == ([] : List UInt8)) = decide (n.f3.toList = []) := by rw [Bool.eq_iff_iff]; simp
  unfold zz.f
  rw [es, vnone_is]
  simp only [Option.bind_some]
  unfold qmd qme qk1
  by_cases c8 : n.f0 = 8
  · refine jh c8 (Ev.bind (g := fun f => qaj.f f n.f3) (qsz n.f3) (Ev.bind (g := fun f => qbe.f f n.f4.f0 n.f4.f1 n.f4.f2 n.f4.f3) (q8n n.f4 h2) ?_))
    rw [if_pos (show n.f0 = 8 ∨ n.f0 = 9 ∨ n.f0 = 12 from .inl c8), if_pos (show n.f0 = 7 ∨ n.f0 = 8 from .inr c8), if_neg (show ¬ n.f0 = 11 by omega)]
    exact j0 _ _ _
  refine ja c8 ?_
  by_cases c7 : n.f0 = 7
  · refine jh c7 (Ev.bind (g := fun f => qbe.f f n.f4.f0 n.f4.f1 n.f4.f2 n.f4.f3) (q8n n.f4 h2) ?_)
    rw [if_neg (show ¬ (n.f0 = 8 ∨ n.f0 = 9 ∨ n.f0 = 12) by omega), if_pos (show n.f0 = 7 ∨ n.f0 = 8 from .inl c7), if_neg (show ¬ n.f0 = 11 by omega)]
    exact j0 _ _ _
  refine ja c7 ?_
  have c78 : ¬ (n.f0 = 7 ∨ n.f0 = 8) := by omega
  by_cases c9 : n.f0 = 9
  · refine jh c9 (Ev.bind (g := fun f => qaj.f f n.f3) (qsz n.f3) ?_)
    rw [if_pos (show n.f0 = 8 ∨ n.f0 = 9 ∨ n.f0 = 12 from .inr (.inl c9)), if_neg c78, if_neg (show ¬ n.f0 = 11 by omega)]
    exact j0 _ _ _
  refine ja c9 ?_
  by_cases c12 : n.f0 = 12
  · refine jh c12 (Ev.bind (g := fun f => qaj.f f n.f3) (qsz n.f3) ?_)
    rw [if_pos (show n.f0 = 8 ∨ n.f0 = 9 ∨ n.f0 = 12 from .inr (.inr c12)), if_neg c78, if_neg (show ¬ n.f0 = 11 by omega)]
    exact j0 _ _ _
  refine ja c12 ?_
  have cn : ¬ (n.f0 = 8 ∨ n.f0 = 9 ∨ n.f0 = 12) := by omega
  by_cases c11 : n.f0 = 11
  · refine jh c11 ?_
    rw [if_neg cn, if_neg c78, if_pos c11]
    exact j0 _ _ _
  · refine ja c11 ?_
    rw [if_neg cn, if_neg c78, if_neg c11]
    exact j0 _ _ _
theorem vn_l0 (d : Nat) (xs : List S30) (hl : xs.length ≤ 2000000000) (h : ∀ n ∈ xs, Ev (fun k => yw.f k n.f0 n.f1 n.f2 n.f3 n.f4.f0 n.f4.f1 n.f4.f2 n.f4.f3 n.f5 n.f6) (okN d n)) :
    ∀ m i : Nat, i + m = xs.length → Ev (fun k => yw.l0 k xs (xs.length : Int) i) ((xs.drop i).all (okN d)) := by
  intro m
  induction m with
  | zero =>
    intro i hi
    refine Ev.step (f := fun _ => some true) (fun k => ?_) ?_
    · rw [yw.l0, if_neg (by omega)]
    · rw [List.drop_of_length_le (by omega)]
      exact Ev.now _
  | succ m ih =>
    intro i hi
    have hlt : i < xs.length := by omega
    rw [List.drop_eq_getElem_cons hlt, List.all_cons]
    refine Ev.step (f := fun k => (yw.f k xs[i].f0 xs[i].f1 xs[i].f2 xs[i].f3 xs[i].f4.f0 xs[i].f4.f1 xs[i].f4.f2 xs[i].f4.f3 xs[i].f5 xs[i].f6).bind fun t => if t = true then yw.l0 k xs (xs.length : Int) ((i + 1 : Nat) : Int) else some false) (fun k => ?_) (Ev.bind (h xs[i] (List.getElem_mem hlt)) ?_)
    · rw [yw.l0, if_pos (by omega), if_pos (by omega), if_pos (by omega), q8k xs i hlt, qeg i (by omega)]
    · cases okN d xs[i] with
      | true => exact jh rfl (by rw [Bool.true_and]; exact ih (i + 1) (by omega))
      | false => exact ja (by decide) (Ev.now _)
theorem vn_j0 (n : S30) (b r : Bool) (h : Ev (fun f => yw.l0 f n.f5 (n.f5.length : Int) 0) r) : Ev (fun f => yw.j0 f b n.f0 n.f1 n.f2 n.f3 n.f4.f0 n.f4.f1 n.f4.f2 n.f4.f3 n.f5 n.f6) (!b && r) := by
  refine Ev.step (fun f => yw.j0.eq_2 _ _ _ _ _ _ _ _ _ _ _ f) ?_
  cases b with
  | true => exact jh rfl (Ev.now _)
  | false => exact ja (by decide) h
theorem q8q : ∀ (d : Nat) (n : S30), d ≤ 2000000000 → qdl d n → Ev (fun k => yw.f k n.f0 n.f1 n.f2 n.f3 n.f4.f0 n.f4.f1 n.f4.f2 n.f4.f3 n.f5 n.f6) (okN d n) := by
  intro d
  induction d with
  | zero => intro n _ h; exact h.elim
  | succ d ih =>
    intro n hd h
    have hk := vn_l0 d n.f5 h.2.2.1 (fun k hk => ih k (by omega) (h.2.2.2.1 k hk)) n.f5.length 0 (by omega)
    rw [List.drop_zero] at hk
    have jn := fun b => vn_j0 n b _ hk
    refine Ev.step (fun f => yw.f.eq_2 _ _ _ _ _ _ _ _ _ _ f) ?_
    rw [okN]
    by_cases c0 : n.f0 < 0
    · have e : ownN n = false := by unfold ownN; rw [decide_eq_false (by omega)]; rfl
      rw [e]
      exact jh c0 (jn true)
    refine ja c0 ?_
    by_cases c15 : n.f0 > 15
    · have e : ownN n = false := by unfold ownN; rw [decide_eq_false (by omega)]; rfl
      rw [e]
      exact jh c15 (jn true)
    refine ja c15 ?_
    by_cases c10 : n.f0 = 10
    · have e : ownN n = false := by unfold ownN; rw [decide_eq_false (by omega)]; rfl
      rw [e]
      exact jh c10 (jn true)
    refine ja c10 (Ev.bind (g := fun f => jw.f f n.f0 (n.f5.length : Int)) (vkids_ev n.f0 n.f5.length (by omega)) ?_)
    unfold ownN
    rw [decide_eq_true (show 0 ≤ n.f0 ∧ n.f0 ≤ 15 ∧ n.f0 ≠ 10 by omega), Bool.true_and]
    cases hkn : qk0 n.f0 n.f5.length with
    | false => exact ja (by decide) (jn true)
    | true =>
      refine jh rfl ?_
      rw [Bool.true_and, vcounts_is n (fun h4 => by
        unfold qk0 at hkn
        rw [if_pos (.inl (by omega))] at hkn
        exact (of_decide_eq_true hkn).1)]
      simp only [Option.bind_some]
      cases qdb n.f0 n.f1 n.f2 n.f5.length with
      | false => exact ja (by decide) (jn true)
      | true =>
        refine jh rfl (Ev.bind (g := fun f => zz.f f n.f0 n.f1 n.f2 n.f3 n.f4.f0 n.f4.f1 n.f4.f2 n.f4.f3 n.f5 n.f6) (vtexts_ev d n h) ?_)
        have := jn (!(qmd n.f0 n.f3 && (qme n.f0 n.f4 && (qk1 n.f0 n.f5.length n.f6.length && n.f6.all (okE 40)))))
        rw [Bool.not_not] at this
        rw [Bool.true_and]
        exact this
end Go.Proofs.YtpgkhmdfddejfaaDoor.PV
end
section
namespace Go.Proofs.YtpgkhmdfddejfaaDoor.PV
open Go.RowKit Go.Proofs.YtpgkhmdfddejfaaDoorW.PrintWords Go.Proofs.YtpgkhmdfddejfaaDoorW.PrintLast Go.Proofs.YtpgkhmdfddejfaaDoorW.PrintMore
set_option linter.unusedVariables false
set_option linter.unusedSimpArgs false
theorem rn_l1 (d : Nat) (n : S30) (hd : d ≤ 39) (hl : n.f5.length ≤ 2000000000) (h : ∀ x ∈ n.f5, Ev (fun f => qd.f f x.f0 x.f1 x.f2 x.f3 x.f4.f0 x.f4.f1 x.f4.f2 x.f4.f3 x.f5 x.f6 (41 - (d : Int))) (okN d x)) :
    ∀ m i : Nat, i + m = n.f5.length → Ev (fun f => qd.l1 f (41 - ((d + 1 : Nat) : Int)) (n.f5.length : Int) i n.f0 n.f1 n.f2 n.f3 n.f4.f0 n.f4.f1 n.f4.f2 n.f4.f3 n.f5 n.f6) ((n.f5.drop i).all (okN d)) := by
  have hw : wrap64 (41 - ((d + 1 : Nat) : Int) + 1) = 41 - (d : Int) := by unfold wrap64; omega
  intro m
  induction m with
  | zero =>
    intro i hi
    refine Ev.step (f := fun _ => some true) (fun k => ?_) ?_
    · rw [qd.l1, if_neg (by omega)]
    · rw [List.drop_of_length_le (by omega)]
      exact Ev.now _
  | succ m ih =>
    intro i hi
    have hlt : i < n.f5.length := by omega
    rw [List.drop_eq_getElem_cons hlt, List.all_cons]
    refine Ev.step (f := fun f => (qd.f f n.f5[i].f0 n.f5[i].f1 n.f5[i].f2 n.f5[i].f3 n.f5[i].f4.f0 n.f5[i].f4.f1 n.f5[i].f4.f2 n.f5[i].f4.f3 n.f5[i].f5 n.f5[i].f6 (41 - (d : Int))).bind fun t => if t = true then qd.l1 f (41 - ((d + 1 : Nat) : Int)) (n.f5.length : Int) ((i + 1 : Nat) : Int) n.f0 n.f1 n.f2 n.f3 n.f4.f0 n.f4.f1 n.f4.f2 n.f4.f3 n.f5 n.f6 else some false) (fun f => ?_) (Ev.bind (h n.f5[i] (List.getElem_mem hlt)) ?_)
    · rw [qd.l1, if_pos (by omega), if_pos (by omega), if_pos (by omega), q8k n.f5 i hlt, hw, qeg i (by omega)]
    · cases okN d n.f5[i] with
      | true => exact jh rfl (by rw [Bool.true_and]; exact ih (i + 1) (by omega))
      | false => exact ja (by decide) (Ev.now _)
theorem rn_l0 (a m : Int) (n : S30) (r : Bool) (hl : n.f6.length ≤ 2000000000) (hy : ∀ y ∈ n.f6, qhu y) (h : Ev (fun f => qd.l1 f a m 0 n.f0 n.f1 n.f2 n.f3 n.f4.f0 n.f4.f1 n.f4.f2 n.f4.f3 n.f5 n.f6) r) :
    ∀ c i : Nat, i + c = n.f6.length → Ev (fun f => qd.l0 f a m i n.f0 n.f1 n.f2 n.f3 n.f4.f0 n.f4.f1 n.f4.f2 n.f4.f3 n.f5 n.f6) ((n.f6.drop i).all (okE 40) && r) := by
  intro c
  induction c with
  | zero =>
    intro i hi
    refine Ev.step (f := fun f => qd.l1 f a m 0 n.f0 n.f1 n.f2 n.f3 n.f4.f0 n.f4.f1 n.f4.f2 n.f4.f3 n.f5 n.f6) (fun k => ?_) ?_
    · rw [qd.l0, if_neg (by omega)]
    · rw [List.drop_of_length_le (by omega)]
      exact h
  | succ c ih =>
    intro i hi
    have hlt : i < n.f6.length := by omega
    rw [List.drop_eq_getElem_cons hlt, List.all_cons]
    refine Ev.step (f := fun f => (zi.f f n.f6[i].f0 n.f6[i].f1 n.f6[i].f2 n.f6[i].f3).bind fun t => if t = true then qd.l0 f a m ((i + 1 : Nat) : Int) n.f0 n.f1 n.f2 n.f3 n.f4.f0 n.f4.f1 n.f4.f2 n.f4.f3 n.f5 n.f6 else some false) (fun f => ?_) (Ev.bind (refRightExpr_ev n.f6[i] (hy _ (List.getElem_mem hlt))) ?_)
    · rw [qd.l0, if_pos (by omega), if_pos (by omega), qzt n.f6 i hlt, qeg i (by omega)]
    · cases okE 40 n.f6[i] with
      | true => exact jh rfl (by rw [Bool.true_and]; exact ih (i + 1) (by omega))
      | false => exact ja (by decide) (Ev.now _)
theorem zr2 (a m : Int) (n : S30) (b r : Bool) (h : Ev (fun f => qd.l0 f a m 0 n.f0 n.f1 n.f2 n.f3 n.f4.f0 n.f4.f1 n.f4.f2 n.f4.f3 n.f5 n.f6) r) : Ev (fun f => qd.j8 f a m b n.f0 n.f1 n.f2 n.f3 n.f4.f0 n.f4.f1 n.f4.f2 n.f4.f3 n.f5 n.f6) (!b && r) := by
  refine Ev.step (fun f => qd.j8.eq_2 _ _ _ _ _ _ _ _ _ _ _ _ _ f) ?_
  cases b with
  | true => exact jh rfl (Ev.now _)
  | false => exact ja (by decide) h
theorem rn_j7 (a m : Int) (n : S30) (b r : Bool) (h : Ev (fun f => qd.l0 f a m 0 n.f0 n.f1 n.f2 n.f3 n.f4.f0 n.f4.f1 n.f4.f2 n.f4.f3 n.f5 n.f6) r) : Ev (fun f => qd.j7 f a m b n.f0 n.f1 n.f2 n.f3 n.f4.f0 n.f4.f1 n.f4.f2 n.f4.f3 n.f5 n.f6) (!b && (qk1 n.f0 m n.f6.length && r)) := by
  refine Ev.step (fun f => qd.j7.eq_2 _ _ _ _ _ _ _ _ _ _ _ _ _ f) ?_
  cases b with
  | true => exact jh rfl (Ev.now _)
  | false =>
    refine ja (by decide) ?_
    rw [Bool.not_false, Bool.true_and]
    unfold qk1
    by_cases c : n.f0 = 11
    · rw [if_pos c]
      refine jh c ?_
      by_cases hl : (n.f6.length : Int) = m
      · rw [decide_eq_true hl]
        exact jh hl (zr2 a m n false r h)
      · rw [decide_eq_false hl]
        exact ja hl (zr2 a m n true r h)
    · rw [if_neg c]
      refine ja c ?_
      have e : decide ((n.f6.length : Int) = 0) = !decide ((n.f6.length : Int) > 0) := by
        by_cases h0 : (n.f6.length : Int) = 0
        · rw [decide_eq_true h0, decide_eq_false (by omega)]; rfl
        · rw [decide_eq_false h0, decide_eq_true (by omega)]; rfl
      rw [e]
      exact zr2 a m n _ r h
theorem rn_j6 (a m : Int) (n : S30) (x y r : Bool) (hs : n.f3.size ≤ 2000000000) (hx : qhu n.f4) (h : Ev (fun f => qd.l0 f a m 0 n.f0 n.f1 n.f2 n.f3 n.f4.f0 n.f4.f1 n.f4.f2 n.f4.f3 n.f5 n.f6) r) :
    Ev (fun f => qd.j6 f a m x y n.f0 n.f1 n.f2 n.f3 n.f4.f0 n.f4.f1 n.f4.f2 n.f4.f3 n.f5 n.f6) ((if x = true then lexB n.f3 else decide (n.f3.toList = [])) && ((if y = true then okE 40 n.f4 else qtg n.f4) && (qk1 n.f0 m n.f6.length && r))) := by
  have j7 := fun b => rn_j7 a m n b r h
  refine Ev.step (fun f => qd.j6.eq_2 _ _ _ _ _ _ _ _ _ _ _ _ _ _ f) ?_
  have told : ∀ (B C : Nat → Option Bool), Ev (fun f => if y = true then (zi.f f n.f4.f0 n.f4.f1 n.f4.f2 n.f4.f3).bind fun t => (if t = true then qd.j7 f a m false n.f0 n.f1 n.f2 n.f3 n.f4.f0 n.f4.f1 n.f4.f2 n.f4.f3 n.f5 n.f6 else qd.j7 f a m true n.f0 n.f1 n.f2 n.f3 n.f4.f0 n.f4.f1 n.f4.f2 n.f4.f3 n.f5 n.f6) else (yo.f f n.f4.f0 n.f4.f1 n.f4.f2 n.f4.f3).bind fun t => qd.j7 f a m (!t) n.f0 n.f1 n.f2 n.f3 n.f4.f0 n.f4.f1 n.f4.f2 n.f4.f3 n.f5 n.f6) ((if y = true then okE 40 n.f4 else qtg n.f4) && (qk1 n.f0 m n.f6.length && r)) := by
    intro _ _
    cases y with
    | true =>
      refine jh rfl (Ev.bind (g := fun f => zi.f f n.f4.f0 n.f4.f1 n.f4.f2 n.f4.f3) (refRightExpr_ev n.f4 hx) ?_)
      rw [if_pos (show (true = true) from rfl)]
      cases okE 40 n.f4 with
      | true => exact jh rfl (j7 false)
      | false => exact ja (by decide) (j7 true)
    | false =>
      refine ja (by decide) (Ev.bind (g := fun f => yo.f f n.f4.f0 n.f4.f1 n.f4.f2 n.f4.f3) (refNone_ev n.f4) ?_)
      rw [if_neg (show ¬ (false = true) by decide)]
      have := j7 (!qtg n.f4)
      rw [Bool.not_not] at this
      exact this
  cases x with
  | true =>
    refine jh rfl (Ev.bind (g := fun f => zt.f f n.f3) (refName_ev n.f3 hs) ?_)
    rw [if_pos (show (true = true) from rfl)]
    cases lexB n.f3 with
    | true => exact jh rfl (told (fun _ => none) (fun _ => none))
    | false => exact ja (by decide) (j7 true)
  | false =>
    refine ja (by decide) ?_
    rw [if_neg (show ¬ (false = true) by decide)]
    by_cases hn : n.f3.toList = []
    · rw [decide_eq_true hn]
      exact jh hn (told (fun _ => none) (fun _ => none))
    · rw [decide_eq_false hn]
      exact ja hn (j7 true)
theorem rn_j4 (a m : Int) (n : S30) (r : Bool) (hs : n.f3.size ≤ 2000000000) (hx : qhu n.f4) (h : Ev (fun f => qd.l0 f a m 0 n.f0 n.f1 n.f2 n.f3 n.f4.f0 n.f4.f1 n.f4.f2 n.f4.f3 n.f5 n.f6) r) :
    Ev (fun f => qd.j4 f a m n.f0 n.f1 n.f2 n.f3 n.f4.f0 n.f4.f1 n.f4.f2 n.f4.f3 n.f5 n.f6) (qmd n.f0 n.f3 && (qme n.f0 n.f4 && (qk1 n.f0 m n.f6.length && r))) := by
  have j5 : ∀ x : Bool, (x = true ↔ n.f0 = 8 ∨ n.f0 = 9 ∨ n.f0 = 12) → Ev (fun f => qd.j5 f a m x n.f0 n.f1 n.f2 n.f3 n.f4.f0 n.f4.f1 n.f4.f2 n.f4.f3 n.f5 n.f6) (qmd n.f0 n.f3 && (qme n.f0 n.f4 && (qk1 n.f0 m n.f6.length && r))) := by
    intro x hxk
    have key : ∀ y : Bool, (y = true ↔ n.f0 = 7 ∨ n.f0 = 8) → Ev (fun f => qd.j6 f a m x y n.f0 n.f1 n.f2 n.f3 n.f4.f0 n.f4.f1 n.f4.f2 n.f4.f3 n.f5 n.f6) (qmd n.f0 n.f3 && (qme n.f0 n.f4 && (qk1 n.f0 m n.f6.length && r))) := by
      intro y hyk
      have := rn_j6 a m n x y r hs hx h
      have e1 : (if x = true then lexB n.f3 else decide (n.f3.toList = [])) = qmd n.f0 n.f3 := by
        unfold qmd
        by_cases c : x = true
        · rw [if_pos c, if_pos (hxk.1 c)]
        · rw [if_neg c, if_neg (fun g => c (hxk.2 g))]
      have e2 : (if y = true then okE 40 n.f4 else qtg n.f4) = qme n.f0 n.f4 := by
        unfold qme
        by_cases c : y = true
        · rw [if_pos c, if_pos (hyk.1 c)]
        · rw [if_neg c, if_neg (fun g => c (hyk.2 g))]
      rwa [e1, e2] at this
    refine Ev.step (fun f => qd.j5.eq_2 _ _ _ _ _ _ _ _ _ _ _ _ _ f) ?_
    by_cases c : n.f0 = 7
    · exact jh c (key true (by simp; omega))
    · exact ja c (key _ (by simp; omega))
  refine Ev.step (fun f => qd.j4.eq_2 _ _ _ _ _ _ _ _ _ _ _ _ f) ?_
  by_cases c : n.f0 = 8
  · exact jh c (j5 true (by simp; omega))
  refine ja c ?_
  by_cases c : n.f0 = 9
  · exact jh c (j5 true (by simp; omega))
  exact ja c (j5 _ (by simp; omega))
theorem rn_j3 (a m : Int) (n : S30) (b r : Bool) (hs : n.f3.size ≤ 2000000000) (hx : qhu n.f4) (h : Ev (fun f => qd.l0 f a m 0 n.f0 n.f1 n.f2 n.f3 n.f4.f0 n.f4.f1 n.f4.f2 n.f4.f3 n.f5 n.f6) r) :
    Ev (fun f => qd.j3 f a m b n.f0 n.f1 n.f2 n.f3 n.f4.f0 n.f4.f1 n.f4.f2 n.f4.f3 n.f5 n.f6) (!b && (qdb n.f0 n.f1 n.f2 m && (qmd n.f0 n.f3 && (qme n.f0 n.f4 && (qk1 n.f0 m n.f6.length && r))))) := by
  have j4 := rn_j4 a m n r hs hx h
  refine Ev.step (fun f => qd.j3.eq_2 _ _ _ _ _ _ _ _ _ _ _ _ _ f) ?_
  cases b with
  | true => exact jh rfl (Ev.now _)
  | false =>
    refine ja (by decide) ?_
    rw [Bool.not_false, Bool.true_and]
    have good : qdb n.f0 n.f1 n.f2 m = true → (qdb n.f0 n.f1 n.f2 m && (qmd n.f0 n.f3 && (qme n.f0 n.f4 && (qk1 n.f0 m n.f6.length && r)))) = (qmd n.f0 n.f3 && (qme n.f0 n.f4 && (qk1 n.f0 m n.f6.length && r))) := fun h => by rw [h, Bool.true_and]
    have bad : qdb n.f0 n.f1 n.f2 m = false → (qdb n.f0 n.f1 n.f2 m && (qmd n.f0 n.f3 && (qme n.f0 n.f4 && (qk1 n.f0 m n.f6.length && r)))) = false := fun h => by rw [h, Bool.false_and]
    by_cases c4 : n.f0 = 4
    · refine jh c4 ?_
      have e : qdb n.f0 n.f1 n.f2 m = decide (1 ≤ n.f1 ∧ n.f1 ≤ m ∧ 1 ≤ n.f2 ∧ n.f2 ≤ m) := by unfold qdb; rw [if_pos c4]
      by_cases g1 : n.f1 < 1
      · rw [bad (by rw [e, decide_eq_false (by omega)])]; exact jh g1 (Ev.now _)
      refine ja g1 ?_
      by_cases g2 : n.f2 < 1
      · rw [bad (by rw [e, decide_eq_false (by omega)])]; exact jh g2 (Ev.now _)
      refine ja g2 ?_
      by_cases g3 : n.f1 > m
      · rw [bad (by rw [e, decide_eq_false (by omega)])]; exact jh g3 (Ev.now _)
      refine ja g3 ?_
      by_cases g4 : n.f2 > m
      · rw [bad (by rw [e, decide_eq_false (by omega)])]; exact jh g4 (Ev.now _)
      refine ja g4 (ja (by omega) ?_)
      rw [good (by rw [e, decide_eq_true (by omega)])]
      exact j4
    refine ja c4 ?_
    by_cases c6 : n.f0 = 6
    · refine jh c6 ?_
      have e : qdb n.f0 n.f1 n.f2 m = decide (1 ≤ n.f1 ∧ n.f1 ≤ 1000 ∧ n.f2 = 0) := by unfold qdb; rw [if_neg c4, if_pos c6]
      by_cases g1 : n.f1 < 1
      · rw [bad (by rw [e, decide_eq_false (by omega)])]; exact jh g1 (Ev.now _)
      refine ja g1 ?_
      by_cases g2 : n.f1 > 1000
      · rw [bad (by rw [e, decide_eq_false (by omega)])]; exact jh g2 (Ev.now _)
      refine ja g2 ?_
      by_cases g3 : n.f2 = 0
      · rw [good (by rw [e, decide_eq_true (by omega)])]; exact jh g3 j4
      · rw [bad (by rw [e, decide_eq_false (by omega)])]; exact ja g3 (Ev.now _)
    refine ja c6 ?_
    have e : qdb n.f0 n.f1 n.f2 m = decide (n.f1 = 0 ∧ n.f2 = 0) := by unfold qdb; rw [if_neg c4, if_neg c6]
    by_cases g1 : n.f1 = 0
    · refine jh g1 ?_
      by_cases g3 : n.f2 = 0
      · rw [good (by rw [e, decide_eq_true (by omega)])]; exact jh g3 j4
      · rw [bad (by rw [e, decide_eq_false (by omega)])]; exact ja g3 (Ev.now _)
    · rw [bad (by rw [e, decide_eq_false (by omega)])]; exact ja g1 (Ev.now _)
theorem rn_j2 (a m : Int) (n : S30) (x y r : Bool) (h : ∀ b, Ev (fun f => qd.j3 f a m b n.f0 n.f1 n.f2 n.f3 n.f4.f0 n.f4.f1 n.f4.f2 n.f4.f3 n.f5 n.f6) (!b && r))
    (hx : x = true ↔ n.f0 ≤ 4 ∨ n.f0 = 11) (hy : y = true ↔ n.f0 = 5 ∨ n.f0 = 6) : Ev (fun f => qd.j2 f a m x y n.f0 n.f1 n.f2 n.f3 n.f4.f0 n.f4.f1 n.f4.f2 n.f4.f3 n.f5 n.f6) (qk0 n.f0 m && r) := by
  refine Ev.step (fun f => qd.j2.eq_2 _ _ _ _ _ _ _ _ _ _ _ _ _ _ f) ?_
  unfold qk0
  cases x with
  | true =>
    have hk := hx.1 rfl
    rw [if_pos hk]
    refine jh rfl ?_
    by_cases g1 : m < 1
    · rw [decide_eq_false (by omega)]; exact jh g1 (h true)
    refine ja g1 ?_
    by_cases g2 : m > 16
    · rw [decide_eq_false (by omega)]; exact jh g2 (h true)
    refine ja g2 ?_
    rw [decide_eq_true (show 1 ≤ m ∧ m ≤ 16 by omega)]
    refine ja (fun g => by have := hy.1 g; omega) (h false)
  | false =>
    have hk : ¬ (n.f0 ≤ 4 ∨ n.f0 = 11) := fun g => by have := hx.2 g; cases this
    rw [if_neg hk]
    refine ja (by decide) ?_
    cases y with
    | true =>
      rw [if_pos (hy.1 rfl)]
      refine jh rfl ?_
      by_cases g : m = 1
      · rw [decide_eq_true g]; exact jh g (h false)
      · rw [decide_eq_false g]; exact ja g (h true)
    | false =>
      rw [if_neg (fun g => by have := hy.2 g; cases this)]
      refine ja (by decide) ?_
      have e : decide (m = 0) = !(m != 0) := by
        by_cases g : m = 0 <;> simp [g]
      rw [e]
      exact h _
theorem rn_j0 (a : Int) (n : S30) (b r : Bool) (h : ∀ b, Ev (fun f => qd.j3 f a n.f5.length b n.f0 n.f1 n.f2 n.f3 n.f4.f0 n.f4.f1 n.f4.f2 n.f4.f3 n.f5 n.f6) (!b && r)) :
    Ev (fun f => qd.j0 f a b n.f0 n.f1 n.f2 n.f3 n.f4.f0 n.f4.f1 n.f4.f2 n.f4.f3 n.f5 n.f6) (!b && (qk0 n.f0 n.f5.length && r)) := by
  refine Ev.step (fun f => qd.j0.eq_2 _ _ _ _ _ _ _ _ _ _ _ _ f) ?_
  cases b with
  | true => exact jh rfl (Ev.now _)
  | false =>
    refine ja (by decide) ?_
    rw [Bool.not_false, Bool.true_and]
    have j1 : ∀ x : Bool, (x = true ↔ n.f0 ≤ 4 ∨ n.f0 = 11) → Ev (fun f => qd.j1 f a n.f5.length x n.f0 n.f1 n.f2 n.f3 n.f4.f0 n.f4.f1 n.f4.f2 n.f4.f3 n.f5 n.f6) (qk0 n.f0 n.f5.length && r) := by
      intro x hx
      refine Ev.step (fun f => qd.j1.eq_2 _ _ _ _ _ _ _ _ _ _ _ _ _ f) ?_
      by_cases c : n.f0 = 5
      · exact jh c (rn_j2 a _ n x true r h hx (by simp; omega))
      · exact ja c (rn_j2 a _ n x _ r h hx (by simp; omega))
    by_cases c : n.f0 ≤ 4
    · exact jh c (j1 true (by simp; omega))
    · exact ja c (j1 _ (by simp; omega))
theorem refNode_ev : ∀ (e D : Nat) (n : S30), e ≤ 40 → qdl D n → Ev (fun f => qd.f f n.f0 n.f1 n.f2 n.f3 n.f4.f0 n.f4.f1 n.f4.f2 n.f4.f3 n.f5 n.f6 (41 - (e : Int))) (okN e n) := by
  intro e
  induction e with
  | zero =>
    intro D n _ _
    refine Ev.step (fun f => qd.f.eq_2 _ _ _ _ _ _ _ _ _ _ _ f) (jh (by decide) ?_)
    exact Ev.step (fun f => qd.j0.eq_2 _ _ _ _ _ _ _ _ _ _ _ _ f) (jh rfl (Ev.now _))
  | succ e ih =>
    intro D n he hn
    cases D with
    | zero => exact hn.elim
    | succ D =>
    obtain ⟨h1, h2, h3, h4, h5, h6⟩ := hn
    have hl1 := rn_l1 e n (by omega) h3 (fun k hk => ih D k (by omega) (h4 k hk)) n.f5.length 0 (by omega)
    rw [List.drop_zero] at hl1
    have hl0 := rn_l0 (41 - ((e + 1 : Nat) : Int)) n.f5.length n _ h5 h6 hl1 n.f6.length 0 (by omega)
    rw [List.drop_zero] at hl0
    have h3' := fun b => rn_j3 (41 - ((e + 1 : Nat) : Int)) n.f5.length n b _ h1 h2 hl0
    have hj := fun b => rn_j0 (41 - ((e + 1 : Nat) : Int)) n b _ h3'
    refine Ev.step (fun f => qd.f.eq_2 _ _ _ _ _ _ _ _ _ _ _ f) (ja (by omega) ?_)
    rw [okN]
    have bad : ¬ (0 ≤ n.f0 ∧ n.f0 ≤ 15 ∧ n.f0 ≠ 10) → (ownN n && n.f5.all (okN e)) = false := fun g => by unfold ownN; rw [decide_eq_false g]; rfl
    by_cases c0 : n.f0 < 0
    · rw [bad (by omega)]; exact jh c0 (hj true)
    refine ja c0 ?_
    by_cases c15 : n.f0 > 15
    · rw [bad (by omega)]; exact jh c15 (hj true)
    refine ja c15 ?_
    by_cases c10 : n.f0 = 10
    · rw [bad (by omega)]
      have := hj (n.f0 == 10)
      rw [show (n.f0 == 10) = true by simp [c10]] at this ⊢
      exact this
    · have := hj (n.f0 == 10)
      rw [show (n.f0 == 10) = false by simp [c10]] at this ⊢
      have e2 : (ownN n && n.f5.all (okN e)) = (!false && (qk0 n.f0 n.f5.length && (qdb n.f0 n.f1 n.f2 n.f5.length && (qmd n.f0 n.f3 && (qme n.f0 n.f4 && (qk1 n.f0 n.f5.length n.f6.length && (n.f6.all (okE 40) && n.f5.all (okN e)))))))) := by
        unfold ownN
        rw [decide_eq_true (show 0 ≤ n.f0 ∧ n.f0 ≤ 15 ∧ n.f0 ≠ 10 by omega)]
        simp only [Bool.true_and, Bool.not_false, Bool.and_assoc]
      rw [e2]
      exact this
end Go.Proofs.YtpgkhmdfddejfaaDoor.PV
end
section
namespace Go.Proofs.YtpgkhmdfddejfaaDoor.PV
open Go.RowKit Go.Proofs.YtpgkhmdfddejfaaDoorW.PrintWords Go.Proofs.YtpgkhmdfddejfaaDoorW.PrintLast Go.Proofs.YtpgkhmdfddejfaaDoorW.PrintMore
set_option linter.unusedVariables false
set_option linter.unusedSimpArgs false
theorem rd36_get (xs : List S36) (i : Nat) (h : i < xs.length) : qz xs (i : Int) = xs[i] := by simp [qz, h]
theorem fitE_le {k m : Nat} (h : k ≤ m) {x : S27} (hx : fitE k x = true) : fitE m x = true := by
  induction h with
  | refl => exact hx
  | step _ ih => exact q0s _ _ ih
theorem q7g : ∀ l : List S27, (∀ y ∈ l, ∃ k, fitE k y = true) → ∃ k, ∀ m, k ≤ m → l.all (fitE m) = true
  | [], _ => ⟨0, fun _ _ => rfl⟩
  | x :: r, h => by
    obtain ⟨k1, h1⟩ := h x (by simp)
    obtain ⟨k2, h2⟩ := q7g r (fun y hy => h y (by simp [hy]))
    refine ⟨k1 + k2, fun m hm => ?_⟩
    rw [List.all_cons, fitE_le (by omega) h1, h2 m (by omega)]
    rfl
theorem fitE_of {x : S27} (h : qhu x) : ∃ k, fitE k x = true := by
  induction h with
  | mk x hl hn hs hk ih =>
    obtain ⟨k, h⟩ := q7g x.f3 ih
    exact ⟨k + 1, by rw [fitE, decide_eq_true hl, h k (Nat.le_refl _)]; rfl⟩
theorem fitF_of {x : S36} (h : qta x) : ∃ k, ∀ m, k ≤ m → fitF m x = true := by
  obtain ⟨k1, h1⟩ := fitE_of h.2.1
  obtain ⟨k2, h2⟩ := q7g x.f7 (fun y hy => fitE_of (h.2.2.2 y hy))
  refine ⟨k1 + k2, fun m hm => ?_⟩
  unfold fitF
  rw [fitE_le (by omega) h1, decide_eq_true h.2.2.1, h2 m (by omega)]
  rfl
theorem fitF_all : ∀ l : List S36, (∀ y ∈ l, qta y) → ∃ k, ∀ m, k ≤ m → l.all (fitF m) = true
  | [], _ => ⟨0, fun _ _ => rfl⟩
  | x :: r, h => by
    obtain ⟨k1, h1⟩ := fitF_of (h x (by simp))
    obtain ⟨k2, h2⟩ := fitF_all r (fun y hy => h y (by simp [hy]))
    refine ⟨k1 + k2, fun m hm => ?_⟩
    rw [List.all_cons, h1 m (by omega), h2 m (by omega)]
    rfl
theorem q0o (l : List S36) (hl : l.length ≤ 2000000000) (hf : ∀ y ∈ l, qta y) : Ev (fun k => qbu.f k l) ((qch l).1.f0, (qch l).1.f1, (qch l).1.f2, (qch l).1.f3, (qch l).1.f4.f0, (qch l).1.f4.f1, (qch l).1.f4.f2, (qch l).1.f4.f3, (qch l).1.f5, (qch l).1.f6, (qch l).2) := by
  obtain ⟨K, h⟩ := fitF_all l hf
  refine ⟨K, fun k hk => ?_⟩
  show qbu.f k l = _
  unfold qbu.f
  rw [if_pos (by omega), if_pos (h k hk)]
theorem rb_fit (l : List S36) (hl : l.length ≤ 2000000000) (hf : ∀ y ∈ l, qta y) : ∀ f,
    (∀ (a : Nat) (p : Int) (n : S30) (r : Int), rb l f a p = some (n, r) → a < l.length → ∀ D, l.length - a ≤ D → qdl D n) ∧
    (∀ (a t : Nat) (m n : S30) (r : Int), qbw l f a m t = some (n, r) → a < t → qd2 l a ≤ l.length → ∀ D, l.length - a ≤ D + 1 → qdl (D + 1) m → m.f5.length ≤ t - a → (t : Int) ≤ qd2 l a → qdl (D + 1) n) := by
  intro f
  induction f with
  | zero => exact ⟨fun a p n r h => by simp [rb] at h, fun a t m n r h => by simp [qbw] at h⟩
  | succ f ih =>
    have node : ∀ (a : Nat), a < l.length → ∀ D, qdl (D + 1) (qcf (qz l a)) := by
      intro a ha D
      rw [rd36_get l a ha]
      obtain ⟨h1, h2, h3, h4⟩ := hf _ (List.getElem_mem ha)
      exact ⟨h1, h2, by simp [qcf], fun k hk => by simp [qcf] at hk, h3, h4⟩
    refine ⟨fun a p n r h ha D hD => ?_, fun a t m n r h hat he D hD hm hml hte => ?_⟩
    · obtain ⟨D, rfl⟩ : ∃ d, D = d + 1 := ⟨D - 1, by omega⟩
      rw [rb] at h
      split at h
      · injection h with h
        injection h with h _
        rw [← h]
        exact node a ha D
      · rename_i hb
        rw [show ((a : Int) + 1) = ((a + 1 : Nat) : Int) by omega] at h
        exact ih.2 a (a + 1) _ n r h (by omega) (by unfold qd2; omega) D hD (node a ha D) (by simp [qcf]) (by unfold qd2; omega)
    · rw [qbw] at h
      split at h
      · rename_i hlt
        cases hq : rb l f t a with
        | none => rw [hq] at h; cases h
        | some q =>
          obtain ⟨k, q⟩ := q
          rw [hq, Option.bind_some] at h
          unfold qd2 at he hte
          have hk := ih.1 t a k q hq (by omega) D (by omega)
          split at h
          · injection h with h
            injection h with h _
            rw [← h]
            exact hm
          · rename_i hb
            have hgt := (qv7 l f).1 t a k q hq
            have hq2 : ((q.toNat : Nat) : Int) = q := by omega
            refine ih.2 a q.toNat { m with f5 := m.f5 ++ [k] } n r (by rw [hq2]; exact h) (by omega) he D hD ⟨hm.1, hm.2.1, ?_, fun y hy => ?_, hm.2.2.2.2⟩ ?_ (by show ((q.toNat : Nat) : Int) ≤ (qz l a).f3; omega)
            · rw [List.length_append, List.length_singleton]
              omega
            · rcases List.mem_append.1 hy with hy | hy
              · exact hm.2.2.2.1 y hy
              · rw [List.mem_singleton.1 hy]
                exact hk
            · rw [List.length_append, List.length_singleton]
              omega
      · injection h with h
        injection h with h _
        rw [← h]
        exact hm
theorem right_same (l : List S36) (hl : l.length ≤ 2000000000) (hf : ∀ y ∈ l, qta y) : ∃ r, Ev (fun k => qae.f k l) r ∧ Ev (fun k => qbh.f k l) r := by
  have hb := q0o l hl hf
  by_cases h0 : l.length = 0
  · obtain rfl : l = [] := List.length_eq_zero_iff.1 h0
    refine ⟨false, ?_, ?_⟩
    · refine Ev.bind (g := fun k => qbm.f k []) (f := fun _ t => some t.2.2.2.2.2.2.2.2.2.2) (a := (0, 0, 0, ⟨#[]⟩, 0, 0, ⟨#[]⟩, [], [], [], false)) ?_ (Ev.now _)
      refine ja (by simp) (Ev.bind (g := fun k => qbu.f k []) hb (ja ?_ (Ev.now _)))
      show ¬ (false = true)
      decide
    · refine Ev.bind (g := fun k => qbb.f k []) (a := (0, 0, 0, ⟨#[]⟩, 0, 0, ⟨#[]⟩, [], [], [], false)) ?_ (ja (by decide) (Ev.now _))
      exact jh (by simp) (Ev.now _)
  obtain ⟨f, ⟨node, r⟩, hrb⟩ := rb_total l 0 (-1)
  have hsame := qz1 l (by omega) hrb
  have hfit := (rb_fit l hl hf f).1 0 (-1) node r hrb (by omega) l.length (by omega)
  refine ⟨decide ((l.length : Int) ≤ 4000) && (decide (r = l.length) && okN 40 node), ?_, ?_⟩
  · by_cases hbig : (l.length : Int) > 4000
    · rw [decide_eq_false (show ¬ (l.length : Int) ≤ 4000 by omega)]
      refine Ev.bind (g := fun k => qbm.f k l) (f := fun _ t => some t.2.2.2.2.2.2.2.2.2.2) (a := (0, 0, 0, ⟨#[]⟩, 0, 0, ⟨#[]⟩, [], [], [], false)) ?_ (Ev.now _)
      exact jh hbig (Ev.now _)
    · rw [decide_eq_true (show (l.length : Int) ≤ 4000 by omega), Bool.true_and]
      by_cases hr : r = l.length
      · rw [if_pos hr] at hsame
        rw [hsame] at hb
        rw [decide_eq_true hr, Bool.true_and]
        have hd := q7c l.length node hl hfit
        have hn := q8q l.length node hl hfit
        have hok := q7d l.length node 40 hfit
        by_cases h40 : depF l.length node ≤ 40
        · rw [decide_eq_true h40, Bool.true_and] at hok
          rw [hok] at hn
          by_cases hc : okN 40 node = true
          · rw [hc] at hn ⊢
            refine Ev.bind (g := fun k => qbm.f k l) (f := fun _ t => some t.2.2.2.2.2.2.2.2.2.2) (a := (node.f0, node.f1, node.f2, node.f3, node.f4.f0, node.f4.f1, node.f4.f2, node.f4.f3, node.f5, node.f6, true)) ?_ (Ev.now _)
            exact ja hbig (Ev.bind (g := fun k => qbu.f k l) hb (jh rfl (Ev.bind hd (ja (by omega) (Ev.bind hn (jh rfl (Ev.now _)))))))
          · have hc : okN 40 node = false := by simpa using hc
            rw [hc] at hn ⊢
            refine Ev.bind (g := fun k => qbm.f k l) (f := fun _ t => some t.2.2.2.2.2.2.2.2.2.2) (a := (0, 0, 0, ⟨#[]⟩, 0, 0, ⟨#[]⟩, [], [], [], false)) ?_ (Ev.now _)
            exact ja hbig (Ev.bind (g := fun k => qbu.f k l) hb (jh rfl (Ev.bind hd (ja (by omega) (Ev.bind hn (ja (by decide) (Ev.now _)))))))
        · rw [decide_eq_false h40, Bool.false_and] at hok
          rw [← hok]
          refine Ev.bind (g := fun k => qbm.f k l) (f := fun _ t => some t.2.2.2.2.2.2.2.2.2.2) (a := (0, 0, 0, ⟨#[]⟩, 0, 0, ⟨#[]⟩, [], [], [], false)) ?_ (Ev.now _)
          exact ja hbig (Ev.bind (g := fun k => qbu.f k l) hb (jh rfl (Ev.bind hd (jh (by omega) (Ev.now _)))))
      · rw [if_neg hr] at hsame
        rw [hsame] at hb
        rw [decide_eq_false hr]
        refine Ev.bind (g := fun k => qbm.f k l) (f := fun _ t => some t.2.2.2.2.2.2.2.2.2.2) (a := (0, 0, 0, ⟨#[]⟩, 0, 0, ⟨#[]⟩, [], [], [], false)) ?_ (Ev.now _)
        exact ja hbig (Ev.bind (g := fun k => qbu.f k l) hb (ja (by decide) (Ev.now _)))
  · have hback : Ev (fun k => qbc.f k l 0 (-1)) (node.f0, node.f1, node.f2, node.f3, node.f4.f0, node.f4.f1, node.f4.f2, node.f4.f3, node.f5, node.f6, r) := by
      refine Ev.of (fun k => qbc.mono l 0 (-1) k) (k := f) ?_
      unfold qbc.f
      rw [if_pos ⟨by omega, by omega, by omega⟩, hrb]
      rfl
    by_cases hr : r = l.length
    · rw [decide_eq_true hr, Bool.true_and]
      refine Ev.bind (g := fun k => qbb.f k l) (a := (node.f0, node.f1, node.f2, node.f3, node.f4.f0, node.f4.f1, node.f4.f2, node.f4.f3, node.f5, node.f6, true)) ?_ (jh rfl ?_)
      · exact ja (by omega) (Ev.bind hback (jh hr (Ev.now _)))
      · by_cases h4 : (l.length : Int) ≤ 4000
        · rw [decide_eq_true h4, Bool.true_and]
          refine jh h4 (Ev.bind (g := fun k => qd.f k node.f0 node.f1 node.f2 node.f3 node.f4.f0 node.f4.f1 node.f4.f2 node.f4.f3 node.f5 node.f6 1) (f := fun _ t => some t) (refNode_ev 40 l.length node (by omega) hfit) (Ev.now _))
        · rw [decide_eq_false h4]
          exact ja h4 (Ev.now _)
    · rw [decide_eq_false hr, Bool.false_and, Bool.and_false]
      refine Ev.bind (g := fun k => qbb.f k l) (a := (0, 0, 0, ⟨#[]⟩, 0, 0, ⟨#[]⟩, [], [], [], false)) ?_ (ja (by decide) (Ev.now _))
      exact ja (by omega) (Ev.bind hback (ja hr (Ev.now _)))
theorem alive_ev : Ev (fun k => qad.f k) true := by
  have hn := q0o [] (by simp) (fun y hy => by cases hy)
  have h1 : Ev (fun k => qae.f k []) false := by
    refine Ev.bind (g := fun k => qbm.f k []) (f := fun _ t => some t.2.2.2.2.2.2.2.2.2.2) (a := (0, 0, 0, ⟨#[]⟩, 0, 0, ⟨#[]⟩, [], [], [], false)) ?_ (Ev.now _)
    refine ja (by simp) (Ev.bind (g := fun k => qbu.f k []) hn (ja ?_ (Ev.now _)))
    show ¬ (false = true)
    decide
  have hfit : ∀ y ∈ [(⟨13, 0, 0, 1, (-1), ⟨#[]⟩, ⟨0, 0, ⟨#[]⟩, []⟩, []⟩ : S36)], qta y := fun y hy => by
    rw [List.mem_singleton.1 hy]
    exact ⟨by decide, qhu.mk _ (by simp) (by show (-9223372036854775808 : Int) ≤ 0; omega) (by decide) (fun y hy => by cases hy), by simp, fun y hy => by cases hy⟩
  have hn2 := q0o [(⟨13, 0, 0, 1, (-1), ⟨#[]⟩, ⟨0, 0, ⟨#[]⟩, []⟩, []⟩ : S36)] (by simp) hfit
  have hb : qch [(⟨13, 0, 0, 1, (-1), ⟨#[]⟩, ⟨0, 0, ⟨#[]⟩, []⟩, []⟩ : S36)] = (⟨13, 0, 0, ⟨#[]⟩, ⟨0, 0, ⟨#[]⟩, []⟩, [], []⟩, true) := by
    refine (qz1 _ (by simp) (f := 2) (node := ⟨13, 0, 0, ⟨#[]⟩, ⟨0, 0, ⟨#[]⟩, []⟩, [], []⟩) (r := 1) ?_).trans (if_pos rfl)
    rw [rb, if_neg (by simp [qz]), qbw, if_neg (by simp [qz])]
    rfl
  rw [hb] at hn2
  have zx0 : qdl 1 (⟨13, 0, 0, ⟨#[]⟩, ⟨0, 0, ⟨#[]⟩, []⟩, [], []⟩ : S30) := ⟨by decide, (hfit (⟨13, 0, 0, 1, (-1), ⟨#[]⟩, ⟨0, 0, ⟨#[]⟩, []⟩, []⟩ : S36) (List.mem_singleton.2 rfl)).2.1, by simp, fun k hk => by simp at hk, by simp, fun y hy => by simp at hy⟩
  have hd := q7c 1 _ (by omega) zx0
  have hv := q8q 1 _ (by omega) zx0
  have hok : okN 1 (⟨13, 0, 0, ⟨#[]⟩, ⟨0, 0, ⟨#[]⟩, []⟩, [], []⟩ : S30) = true := by
    have hnil : (⟨#[]⟩ : ByteArray).toList = [] := (qgc _).2 rfl
    simp [okN, ownN, qk0, qdb, qmd, qme, qk1, qtg, hnil]
  rw [hok] at hv
  have h2 : Ev (fun k => qae.f k [(⟨13, 0, 0, 1, (-1), ⟨#[]⟩, ⟨0, 0, ⟨#[]⟩, []⟩, []⟩ : S36)]) true := by
    refine Ev.bind (g := fun k => qbm.f k _) (f := fun _ t => some t.2.2.2.2.2.2.2.2.2.2) (a := (13, 0, 0, ⟨#[]⟩, 0, 0, ⟨#[]⟩, [], [], [], true)) ?_ (Ev.now _)
    refine ja (by simp) (Ev.bind (g := fun k => qbu.f k _) hn2 (jh rfl (Ev.bind hd (ja (by simp [depF, mxl]) (Ev.bind hv (jh rfl (Ev.now _)))))))
  exact Ev.bind (g := fun k => qae.f k []) h1 (ja (by decide) (Ev.bind (g := fun k => qae.f k _) (f := fun _ t => some t) h2 (Ev.now _)))
end Go.Proofs.YtpgkhmdfddejfaaDoor.PV
end
