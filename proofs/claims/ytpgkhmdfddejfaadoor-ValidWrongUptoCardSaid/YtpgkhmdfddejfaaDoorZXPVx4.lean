import Derived.Test.YtpgkhmdfddejfaaDoorZXPVx0
section
namespace Go.Proofs.YtpgkhmdfddejfaaDoor.PV
open Go.RowKit Go.Proofs.YtpgkhmdfddejfaaDoorW.PrintWords Go.Proofs.YtpgkhmdfddejfaaDoorW.PrintLast Go.Proofs.YtpgkhmdfddejfaaDoorW.PrintMore
attribute [local go_sem] qcn qcp qdi qdj qb6 qb7 qco qcq   -- for this text's walks alone
set_option linter.unusedVariables false
set_option linter.unusedSimpArgs false
def qck.f (a0 : Int) : Option (Bool) := if a0 ≥ 97 then (if a0 ≤ 122 then (some true) else (if a0 ≥ 65 then (some (decide (a0 ≤ 90))) else (some false))) else (if a0 ≥ 65 then (some (decide (a0 ≤ 90))) else (some false))
set_option maxHeartbeats 8000000 in
set_option maxRecDepth 100000 in
theorem qck.calls (a0 : Int) (r : Bool) (w : World) (h : qck.f a0 = some r) :
  Calls Tryd.prog 89 #[.int .u8 a0] w fun e w' => e = .returned (.bool r) ∧ yx w w' := by
 have H : (if a0 ≥ 97 then (if a0 ≤ 122 then (some true) else (if a0 ≥ 65 then (some (decide (a0 ≤ 90))) else (some false))) else (if a0 ≥ 65 then (some (decide (a0 ≤ 90))) else (some false))) = some r := h
 clear h
 by_cases c2 : a0 ≥ 97
 ·rw [if_pos c2] at H
  have c2b0 : decide (97 ≤ a0) = true := decide_eq_true c2
  clear c2
  by_cases c3 : a0 ≤ 122
  ·rw [if_pos c3] at H
   have c3b0 : decide (a0 ≤ 122) = true := decide_eq_true c3
   clear c3
   obtain rfl := Option.some.inj H
   go_enter Tryd.func89, Tryd.ntmps89
   go_wp2
   go_ret
   exact ⟨by first | rfl | (simp; done) | (simp [*]; done), by repeat (first | exact yx.refl _ | apply yx.step)⟩
  ·rw [if_neg c3] at H
   have c3b0 : decide (a0 ≤ 122) = false := decide_eq_false c3
   clear c3
   by_cases c4 : a0 ≥ 65
   ·rw [if_pos c4] at H
    have c4b0 : decide (65 ≤ a0) = true := decide_eq_true c4
    clear c4
    obtain rfl := Option.some.inj H
    go_enter Tryd.func89, Tryd.ntmps89
    go_wp2
    go_ret
    exact ⟨by first | rfl | (simp; done) | (simp [*]; done), by repeat (first | exact yx.refl _ | apply yx.step)⟩
   ·rw [if_neg c4] at H
    have c4b0 : decide (65 ≤ a0) = false := decide_eq_false c4
    clear c4
    obtain rfl := Option.some.inj H
    go_enter Tryd.func89, Tryd.ntmps89
    go_wp2
    go_ret
    exact ⟨by first | rfl | (simp; done) | (simp [*]; done), by repeat (first | exact yx.refl _ | apply yx.step)⟩
 ·rw [if_neg c2] at H
  have c2b0 : decide (97 ≤ a0) = false := decide_eq_false c2
  clear c2
  by_cases c5 : a0 ≥ 65
  ·rw [if_pos c5] at H
   have c5b0 : decide (65 ≤ a0) = true := decide_eq_true c5
   clear c5
   obtain rfl := Option.some.inj H
   go_enter Tryd.func89, Tryd.ntmps89
   go_wp2
   go_ret
   exact ⟨by first | rfl | (simp; done) | (simp [*]; done), by repeat (first | exact yx.refl _ | apply yx.step)⟩
  ·rw [if_neg c5] at H
   have c5b0 : decide (65 ≤ a0) = false := decide_eq_false c5
   clear c5
   obtain rfl := Option.some.inj H
   go_enter Tryd.func89, Tryd.ntmps89
   go_wp2
   go_ret
   exact ⟨by first | rfl | (simp; done) | (simp [*]; done), by repeat (first | exact yx.refl _ | apply yx.step)⟩
def qjk.f (a0 : Int) : Option (Bool) := (qck.f a0).bind fun zoi => (if zoi = true then (some true) else (if a0 ≥ 48 then (if a0 ≤ 57 then (some true) else (some (a0 == 95))) else (some (a0 == 95))))
set_option maxHeartbeats 8000000 in
set_option maxRecDepth 100000 in
theorem qjk.calls (a0 : Int) (r : Bool) (w : World) (h : qjk.f a0 = some r) :
  Calls Tryd.prog 90 #[.int .u8 a0] w fun e w' => e = .returned (.bool r) ∧ yx w w' := by
 have H : ((qck.f a0).bind fun zoi => (if zoi = true then (some true) else (if a0 ≥ 48 then (if a0 ≤ 57 then (some true) else (some (a0 == 95))) else (some (a0 == 95))))) = some r := h
 clear h
 replace H := Option.bind_eq_some_iff.mp H
 obtain ⟨zoi, A20, H⟩ := H
 replace H : (if zoi = true then (some true) else (if a0 ≥ 48 then (if a0 ≤ 57 then (some true) else (some (a0 == 95))) else (some (a0 == 95)))) = some r := H
 have A2 := qf.mk A20
 clear A20
 by_cases c3 : zoi = true
 ·subst c3
  have H1 : (some true) = some r := by rw [if_pos rfl] at H; exact H
  clear H
  have H := H1
  clear H1
  obtain rfl := Option.some.inj H
  go_enter Tryd.func90, Tryd.ntmps90
  go_wp2_with (first | ((with_reducible refine qaq (f := 89) rfl ?_); refine qcj (some 4) rfl rfl Tryd.func89 (by kernel_rfl) rfl #[.int .u8 a0] rfl (by (try simp only [List.map_toArray, List.map_cons, List.map_nil]); first | done | rfl | (simp only [List.length_drop, List.length_take]; rfl)) ?_; (with_reducible refine (qck.calls a0 true _ A2.out).mono ?_); rintro e w' ⟨rfl, ⟨nd, rfl⟩⟩; refine ⟨_, rfl, ?_⟩))
  go_ret
  exact ⟨by first | rfl | (simp; done) | (simp [*]; done), by repeat (first | exact yx.refl _ | apply yx.step)⟩
 ·replace c3 := Bool.eq_false_iff.mpr c3
  subst c3
  have H1 : (if a0 ≥ 48 then (if a0 ≤ 57 then (some true) else (some (a0 == 95))) else (some (a0 == 95))) = some r := by rw [if_neg (show ¬ (false = true) by decide)] at H; exact H
  clear H
  have H := H1
  clear H1
  by_cases c4 : a0 ≥ 48
  ·rw [if_pos c4] at H
   have c4b0 : decide (48 ≤ a0) = true := decide_eq_true c4
   clear c4
   by_cases c5 : a0 ≤ 57
   ·rw [if_pos c5] at H
    have c5b0 : decide (a0 ≤ 57) = true := decide_eq_true c5
    clear c5
    obtain rfl := Option.some.inj H
    go_enter Tryd.func90, Tryd.ntmps90
    go_wp2_with (first | ((with_reducible refine qaq (f := 89) rfl ?_); refine qcj (some 4) rfl rfl Tryd.func89 (by kernel_rfl) rfl #[.int .u8 a0] rfl (by (try simp only [List.map_toArray, List.map_cons, List.map_nil]); first | done | rfl | (simp only [List.length_drop, List.length_take]; rfl)) ?_; (with_reducible refine (qck.calls a0 false _ A2.out).mono ?_); rintro e w' ⟨rfl, ⟨nd, rfl⟩⟩; refine ⟨_, rfl, ?_⟩))
    go_ret
    exact ⟨by first | rfl | (simp; done) | (simp [*]; done), by repeat (first | exact yx.refl _ | apply yx.step)⟩
   ·rw [if_neg c5] at H
    have c5b0 : decide (a0 ≤ 57) = false := decide_eq_false c5
    clear c5
    obtain rfl := Option.some.inj H
    go_enter Tryd.func90, Tryd.ntmps90
    go_wp2_with (first | ((with_reducible refine qaq (f := 89) rfl ?_); refine qcj (some 4) rfl rfl Tryd.func89 (by kernel_rfl) rfl #[.int .u8 a0] rfl (by (try simp only [List.map_toArray, List.map_cons, List.map_nil]); first | done | rfl | (simp only [List.length_drop, List.length_take]; rfl)) ?_; (with_reducible refine (qck.calls a0 false _ A2.out).mono ?_); rintro e w' ⟨rfl, ⟨nd, rfl⟩⟩; refine ⟨_, rfl, ?_⟩))
    go_ret
    exact ⟨by first | rfl | (simp; done) | (simp [*]; done), by repeat (first | exact yx.refl _ | apply yx.step)⟩
  ·rw [if_neg c4] at H
   have c4b0 : decide (48 ≤ a0) = false := decide_eq_false c4
   clear c4
   obtain rfl := Option.some.inj H
   go_enter Tryd.func90, Tryd.ntmps90
   go_wp2_with (first | ((with_reducible refine qaq (f := 89) rfl ?_); refine qcj (some 4) rfl rfl Tryd.func89 (by kernel_rfl) rfl #[.int .u8 a0] rfl (by (try simp only [List.map_toArray, List.map_cons, List.map_nil]); first | done | rfl | (simp only [List.length_drop, List.length_take]; rfl)) ?_; (with_reducible refine (qck.calls a0 false _ A2.out).mono ?_); rintro e w' ⟨rfl, ⟨nd, rfl⟩⟩; refine ⟨_, rfl, ?_⟩))
   go_ret
   exact ⟨by first | rfl | (simp; done) | (simp [*]; done), by repeat (first | exact yx.refl _ | apply yx.step)⟩
theorem below_bytes (w : World) (e : TypeId) (s : ByteArray) : Below w.heap.size w (Lib.bytesWorld w e s) :=
  ⟨rfl, rfl, rfl, by rw [Lib.bytesWorld_size]; omega, fun i hi => Lib.bytesWorld_at_old w e s i hi⟩
theorem letter_is (c : UInt8) : qck.f (c.toNat : Int) = some (qec c) := by
  have h1 : (97 ≤ c) = (97 ≤ c.toNat) := by rw [UInt8.le_iff_toNat_le]; rfl
  have h2 : (c ≤ 122) = (c.toNat ≤ 122) := by rw [UInt8.le_iff_toNat_le]; rfl
  have h3 : (65 ≤ c) = (65 ≤ c.toNat) := by rw [UInt8.le_iff_toNat_le]; rfl
  have h4 : (c ≤ 90) = (c.toNat ≤ 90) := by rw [UInt8.le_iff_toNat_le]; rfl
  have g1 : ((c.toNat : Int) ≥ 97) ↔ (97 ≤ c.toNat) := by omega
  have g2 : ((c.toNat : Int) ≤ 122) ↔ (c.toNat ≤ 122) := by omega
  have g3 : ((c.toNat : Int) ≥ 65) ↔ (65 ≤ c.toNat) := by omega
  have g4 : ((c.toNat : Int) ≤ 90) ↔ (c.toNat ≤ 90) := by omega
  unfold qck.f qec
  simp only [h1, h2, h3, h4, g1, g2, g3, g4]
  by_cases a : 97 ≤ c.toNat <;> by_cases b : c.toNat ≤ 122 <;> by_cases d : 65 ≤ c.toNat <;> by_cases e : c.toNat ≤ 90 <;> simp [a, b, d, e]
theorem goes_is (c : UInt8) : qjk.f (c.toNat : Int) = some (qgz c) := by
  have h1 : (48 ≤ c) = (48 ≤ c.toNat) := by rw [UInt8.le_iff_toNat_le]; rfl
  have h2 : (c ≤ 57) = (c.toNat ≤ 57) := by rw [UInt8.le_iff_toNat_le]; rfl
  have h3 : (c == 95) = decide (c.toNat = 95) := by rw [Bool.eq_iff_iff]; simp [← UInt8.toNat_inj]
  have g1 : ((c.toNat : Int) ≥ 48) ↔ (48 ≤ c.toNat) := by omega
  have g2 : ((c.toNat : Int) ≤ 57) ↔ (c.toNat ≤ 57) := by omega
  have g3 : ((c.toNat : Int) == 95) = decide (c.toNat = 95) := by rw [Bool.eq_iff_iff]; simp; omega
  unfold qjk.f qgz
  rw [letter_is]
  have hl : qec c = ((97 ≤ c && c ≤ 122) || (65 ≤ c && c ≤ 90)) := rfl
  rw [← hl]
  simp only [Option.bind_some, h1, h2, h3, g1, g2, g3]
  cases qec c <;> by_cases a : 48 ≤ c.toNat <;> by_cases b : c.toNat ≤ 57 <;> simp [a, b] <;> omega
theorem qgc (s : ByteArray) : s.toList = [] ↔ s.size = 0 := by
  rw [ByteArray.toList_eq, ← List.length_eq_zero_iff, Array.length_toList]
  rfl
theorem qtf (a0 : ByteArray) (h : a0.size = 0) : qol a0 = false := by
  have : a0.data.toList = [] := by rw [← ByteArray.toList_eq]; exact (qgc a0).2 h
  unfold qol; rw [this]; rfl
theorem nameB_long (a0 : ByteArray) (h : 24 < a0.size) : qol a0 = false := by
  unfold qol
  have hl : a0.data.toList.length = a0.size := by simp
  cases hc : a0.data.toList with
  | nil => rfl
  | cons c l => rw [hc] at hl; show (decide ((c :: l).length ≤ 24) && qec c && (c :: l).all qgz) = false; rw [decide_eq_false (by omega)]; rfl
theorem nameB_cons (a0 : ByteArray) (h0 : 0 < a0.size) (h1 : a0.size ≤ 24) : qol a0 = (qec a0[0] && a0.data.toList.all qgz) := by
  unfold qol
  have hl : a0.data.toList.length = a0.size := by simp
  have hz : a0.data.toList[0]? = some a0[0] := by simp [ByteArray.getElem_eq_getElem_data]
  cases hc : a0.data.toList with
  | nil => rw [hc] at hl; simp at hl; omega
  | cons c l =>
    rw [hc] at hl hz
    simp at hz
    subst hz
    show (decide ((a0[0] :: l).length ≤ 24) && qec a0[0] && (a0[0] :: l).all qgz) = _
    rw [decide_eq_true (by omega)]
    rfl
theorem all_upto (a0 : ByteArray) (k : Nat) (hk : k < a0.size) (h : (a0.data.toList.take k).all qgz = true) : (a0.data.toList.take (k + 1)).all qgz = qgz (a0.data.toList.getD k 0) := by
  have hl : a0.data.toList.length = a0.size := by simp
  rw [List.take_succ_eq_append_getElem (by omega), List.all_append, h]
  simp [List.getD, List.getElem?_eq_getElem (show k < a0.data.toList.length by omega)]
theorem all_bad (a0 : ByteArray) (k : Nat) (hk : k < a0.size) (h : qgz (a0.data.toList.getD k 0) = false) : a0.data.toList.all qgz = false := by
  have hl : a0.data.toList.length = a0.size := by simp
  rw [List.all_eq_false]
  refine ⟨_, List.getElem_mem (show k < a0.data.toList.length by omega), ?_⟩
  simp [List.getD, List.getElem?_eq_getElem (show k < a0.data.toList.length by omega)] at h
  simpa using h
set_option maxHeartbeats 8000000 in
set_option maxRecDepth 100000 in
theorem value_Name_any (a0 : ByteArray) (w : World) :
    Calls Tryd.prog 86 #[.string a0] w fun e w' => e = .returned (.bool (qol a0)) ∧ Below w.heap.size w w' := by
  have hcv := fun W => Lib.run_convert_string_bytes (P := Tryd.prog) W 9 38 5 a0 Tryd.underlying9 Tryd.underlying38 Tryd.underlying5
  by_cases h0 : a0.size = 0
  · have HN := qf.mk (qtf a0 h0)
    have hz : a0.toList = [] := (qgc a0).2 h0
    clear h0
    go_enter Tryd.func86, Tryd.ntmps86
    go_wp2_with fail
    go_ret
    exact ⟨by rw [HN.out]; rfl, Below.refl _ _⟩
  by_cases h24 : 24 < a0.size
  · have HN := qf.mk (nameB_long a0 h24)
    have hz : ¬ a0.toList = [] := fun h => h0 ((qgc a0).1 h)
    have hq : ¬ ((a0.size : Int) ≤ 24) := by omega
    clear h0
    go_enter Tryd.func86, Tryd.ntmps86
    go_wp2_with fail
    go_ret
    exact ⟨by rw [HN.out]; rfl, Below.refl _ _⟩
  have hz : ¬ a0.toList = [] := fun h => h0 ((qgc a0).1 h)
  have hz2 : a0.toList.isEmpty = false := by rw [List.isEmpty_eq_false_iff]; exact hz
  have hp : 0 < a0.size := by omega
  have hq : ((a0.size : Int) ≤ 24) := by omega
  have HN := qf.mk (nameB_cons a0 hp (by omega))
  have HL := qf.mk (letter_is a0[0])
  clear h0 h24
  cases hb : qec a0[0] with
  | false =>
    rw [hb] at HL HN
    clear hb
    go_enter Tryd.func86, Tryd.ntmps86
    go_wp2_with (go_at_call 89; refine (qck.calls _ false _ HL.out).mono ?_; rintro e w' ⟨rfl, ⟨⟨n, rfl⟩⟩⟩)
    go_ret
    exact ⟨by rw [HN.out]; rfl, qc (Below.refl _ _) _⟩
  | true =>
    rw [hb] at HL HN
    clear hb
    go_enter Tryd.func86, Tryd.ntmps86
    go_wp2_with (go_at_call 89; refine (qck.calls _ true _ HL.out).mono ?_; rintro e w' ⟨rfl, ⟨⟨n, rfl⟩⟩⟩)
    obtain ⟨W, hW⟩ : ∃ W, W = Lib.bytesWorld (w.drewN n) 5 a0 := ⟨_, rfl⟩
    have hcell : ∀ j, j < a0.size → W.cell? ⟨w.heap.size, j, none⟩ = some (.int .u8 (a0.data.toList.getD j 0).toNat) := fun j hj => by
      rw [hW]; exact Lib.bytesWorld_cell (w.drewN n) 5 a0 j hj
    have HB : Below w.heap.size w W := by
      rw [hW]; exact jd (qc (Below.refl _ _) n) (Nat.le_refl _) (below_bytes (w.drewN n) 5 a0)
    rw [← hW]
    have HB' := qf.mk HB
    have HC := qf.mk hcell
    clear HB hcell hW HL hz hz2
    go_loopw [4, 21] (fun v i wr => ∃ (k m : Nat), k ≤ a0.size ∧ i = .int .i64 k ∧ wr = W.drewN m ∧ qf ((a0.data.toList.take k).all qgz = true)) (fun _ i _ => a0.size - (intOf i).toNat)
    case atStart => exact ⟨0, 0, Nat.zero_le _, rfl, rfl, ⟨rfl⟩⟩
    case round =>
      obtain ⟨k, m, hk, rfl, rfl, HA⟩ := hrel
      by_cases hlt : k < a0.size
      · have hc : (W.drewN m).cell? ⟨w.heap.size, k, none⟩ = some (.int .u8 (a0.data.toList.getD k 0).toNat) := by simpa using HC.out k hlt
        have HG := qf.mk (goes_is (a0.data.toList.getD k 0))
        have HU := qf.mk (all_upto a0 k hlt HA.out)
        have HX := qf.mk (all_bad a0 k hlt)
        generalize a0.data.toList.getD k 0 = c at hc HG HU HX
        cases hg : qgz c with
        | true =>
          rw [hg] at HG HU
          clear hg HX
          go_wp2_with (go_at_call 90; refine (qjk.calls _ true _ HG.out).mono ?_; rintro e w' ⟨rfl, ⟨⟨n', rfl⟩⟩⟩)
          go_roundw
          case rel => exact ⟨k + 1, m + n', by omega, by go_num, by simp, ⟨HU.out⟩⟩
          case measure => simp [intOf]; omega
        | false =>
          rw [hg] at HG
          have HX' := qf.mk (HX.out hg)
          clear hg HX HU
          go_wp2_with (go_at_call 90; refine (qjk.calls _ false _ HG.out).mono ?_; rintro e w' ⟨rfl, ⟨⟨n', rfl⟩⟩⟩)
          go_ret
          exact ⟨by rw [HN.out, HX'.out]; rfl, qc HB'.out _⟩
      · go_wp2
        go_ret
        have hke : a0.data.toList.take k = a0.data.toList := List.take_of_length_le (by simp; omega)
        exact ⟨by rw [HN.out, ← hke, HA.out]; rfl, qc HB'.out _⟩
def qgd.f (a0 : ByteArray) : Option Bool := some (qol a0)
theorem qgd.calls (a0 : ByteArray) (r : Bool) (w : World) (h : qgd.f a0 = some r) :
    Calls Tryd.prog 86 #[.string a0] w fun e w' => e = .returned (.bool r) ∧ Below w.heap.size w w' := by
  obtain rfl := Option.some.inj h
  exact value_Name_any a0 w
def yc.l0 : Nat → List ByteArray → ByteArray → Int → Int → Option (Int)
 | 0, _, _, _, _ => none
 | k + 1, x0, x1, x7, x8 => if x8 < x7 then (if 0 ≤ x8 then (if x8 < (x0.length : Int) then (if x1.toList = (rdOf ByteArray.empty x0 x8).toList then (some x8) else (yc.l0 k x0 x1 x7 (wrap64 (x8 + 1)))) else (none)) else (none)) else (some (-1))
def yc.f (k : Nat) (l0 : List ByteArray) (a1 : ByteArray) : Option (Int) := yc.l0 k l0 a1 (l0.length : Int) 0
theorem yc.qb2 : ∀ k, (∀ y0 y1 y2 y3, LeO (yc.l0 k y0 y1 y2 y3) (yc.l0 (k + 1) y0 y1 y2 y3))
 | 0 => fun _ _ _ _ r h => by simp [yc.l0] at h
 | k + 1 => by
  have ih0 := yc.qb2 k
  ·intro y0 y1 y2 y3
   unfold yc.l0
   repeat' first
   | (with_reducible exact ih0 _ _ _ _)
   | (with_reducible exact LeO.refl _)
   | (with_reducible exact LeO.none _)
   | (with_reducible refine LeO.ite ?_ ?_)
   | (with_reducible refine LeO.bind ?_ (fun _ => ?_))
   | exact ih0 _ _ _ _
   | exact LeO.none _
   | refine LeO.ite ?_ ?_
   | refine LeO.bind ?_ (fun _ => ?_)
theorem yc.mono : ∀ a0 a1 k, LeO (yc.f k a0 a1) (yc.f (k + 1) a0 a1) := by
 intro a0 a1 k
 have ih0 := yc.qb2 k
 unfold yc.f
 repeat' first
   | (with_reducible exact ih0 _ _ _ _)
   | (with_reducible exact LeO.refl _)
   | (with_reducible exact LeO.none _)
   | (with_reducible refine LeO.ite ?_ ?_)
   | (with_reducible refine LeO.bind ?_ (fun _ => ?_))
   | exact ih0 _ _ _ _
   | exact LeO.none _
   | refine LeO.ite ?_ ?_
   | refine LeO.bind ?_ (fun _ => ?_)
set_option maxHeartbeats 8000000 in
set_option maxRecDepth 100000 in
theorem yc.calls (k : Nat) (A0 : Option Addr) (c0 : Nat) (l0 : List ByteArray) (a1 : ByteArray) (r : Int) (w : World) (hr0 : Kd.C Kd.string w A0 l0.length l0) (hc0 : l0.length ≤ c0) (h : yc.f k l0 a1 = some r) :
  Calls Tryd.prog 94 #[.slice A0 l0.length c0, .string a1] w fun e w' => e = .returned (.int .i64 r) ∧ yx w w' := by
 have HR0 := qf.mk hr0
 have HC0 := qf.mk hc0
 clear hr0 hc0
 have H : (yc.l0 k l0 a1 (l0.length : Int) 0) = some r := h
 clear h
 have H' := qf.mk H
 clear H
 go_enter Tryd.func94, Tryd.ntmps94
 go_wp2
 go_loopg [8] k (fun kq v8 w' => ∃ (qb1 : Int), v8 = .int .i64 qb1 ∧ qf (yc.l0 kq l0 a1 (l0.length : Int) qb1 = some r) ∧ qf (kq ≤ k) ∧ yx w w')
 case atStart => exact ⟨(0), (by first | rfl | (simp; done) | (simp [*]; done)), H', ⟨Nat.le_refl _⟩, by repeat (first | exact yx.refl _ | apply yx.step)⟩
 case round =>
  clear H'
  (try clear p2)
  obtain ⟨qb1, rfl, HA, HK1, ⟨m1, rfl⟩⟩ := hrel
  cases gk with
  | zero => exact absurd HA.out (by simp [yc.l0])
  | succ k1 =>
   have H := HA.out
   clear HA
   simp only [yc.l0] at H
   by_cases c3 : qb1 < (l0.length : Int)
   ·rw [if_pos c3] at H
    have c3b0 : decide (qb1 < (l0.length : Int)) = true := decide_eq_true c3
    clear c3
    by_cases c4 : 0 ≤ qb1
    ·rw [if_pos c4] at H
     have c4b0 : decide (0 ≤ qb1) = true := decide_eq_true c4
     clear c4
     by_cases c5 : qb1 < (l0.length : Int)
     ·rw [if_pos c5] at H
      have c5b0 : decide (qb1 < (l0.length : Int)) = true := decide_eq_true c5
      clear c5
      by_cases c6 : a1.toList = (rdOf ByteArray.empty l0 qb1).toList
      ·rw [if_pos c6] at H
       have c6b0 : (a1.toList == (rdOf ByteArray.empty l0 qb1).toList) = true := beq_iff_eq.mpr c6
       have c6b1 : (a1.toList != (rdOf ByteArray.empty l0 qb1).toList) = false := bne_eq_false_iff_eq.mpr c6
       clear c6
       obtain rfl := Option.some.inj H
       have zjj : 0 ≤ (qb1 : Int) := of_decide_eq_true (by first | (with_reducible assumption) | assumption)
       have zjt : qb1 < (l0.length : Int) := of_decide_eq_true (by first | (with_reducible assumption) | assumption)
       obtain ⟨zxc, e138, zt0⟩ := Kd.qtl HR0.out qb1 zjj zjt
       cases e138
       replace zjj := eq_true zjj
       replace zjt := eq_true zjt
       go_wp2
       go_ret
       exact ⟨by first | rfl | (simp; done) | (simp [*]; done), by repeat (first | exact yx.refl _ | apply yx.step)⟩
      ·rw [if_neg c6] at H
       have c6b0 : (a1.toList == (rdOf ByteArray.empty l0 qb1).toList) = false := beq_eq_false_iff_ne.mpr c6
       have c6b1 : (a1.toList != (rdOf ByteArray.empty l0 qb1).toList) = true := bne_iff_ne.mpr c6
       have H' := qf.mk H
       clear H
       have zjj : 0 ≤ (qb1 : Int) := of_decide_eq_true (by first | (with_reducible assumption) | assumption)
       have zjt : qb1 < (l0.length : Int) := of_decide_eq_true (by first | (with_reducible assumption) | assumption)
       obtain ⟨zxc, e138, zt0⟩ := Kd.qtl HR0.out qb1 zjj zjt
       cases e138
       replace zjj := eq_true zjj
       replace zjt := eq_true zjt
       go_wp2
       go_roundg k1
       case measure => have := HK1.out; omega
       case rel => exact ⟨(wrap64 (qb1 + 1)), (by first | rfl | (simp; done) | (simp [*]; done)), H', ⟨by have := HK1.out; omega⟩, by repeat (first | exact yx.refl _ | apply yx.step)⟩
     ·rw [if_neg c5] at H
      exact absurd H (by simp)
    ·rw [if_neg c4] at H
     exact absurd H (by simp)
   ·rw [if_neg c3] at H
    have c3b0 : decide (qb1 < (l0.length : Int)) = false := decide_eq_false c3
    clear c3
    obtain rfl := Option.some.inj H
    go_wp2
    go_ret
    exact ⟨by first | rfl | (simp; done) | (simp [*]; done), by repeat (first | exact yx.refl _ | apply yx.step)⟩
def qau.f (k : Nat) (l0 : List ByteArray) (a1 : ByteArray) : Option (Bool) := (yc.f k l0 a1).bind fun t139 => (some (decide (t139 ≥ 0)))
theorem qau.mono : ∀ a0 a1 k, LeO (qau.f k a0 a1) (qau.f (k + 1) a0 a1) := by
 intro a0 a1 k
 unfold qau.f
 repeat' first
   | (with_reducible exact yc.mono _ _ _)
   | (with_reducible exact LeO.refl _)
   | (with_reducible exact LeO.none _)
   | (with_reducible refine LeO.ite ?_ ?_)
   | (with_reducible refine LeO.bind ?_ (fun _ => ?_))
   | exact yc.mono _ _ _
   | exact LeO.none _
   | refine LeO.ite ?_ ?_
   | refine LeO.bind ?_ (fun _ => ?_)
set_option maxHeartbeats 8000000 in
set_option maxRecDepth 100000 in
theorem qau.calls (k : Nat) (A0 : Option Addr) (c0 : Nat) (l0 : List ByteArray) (a1 : ByteArray) (r : Bool) (w : World) (hr0 : Kd.C Kd.string w A0 l0.length l0) (hc0 : l0.length ≤ c0) (h : qau.f k l0 a1 = some r) :
  Calls Tryd.prog 91 #[.slice A0 l0.length c0, .string a1] w fun e w' => e = .returned (.bool r) ∧ yx w w' := by
 have HR0 := qf.mk hr0
 have HC0 := qf.mk hc0
 clear hr0 hc0
 have H : ((yc.f k l0 a1).bind fun t139 => (some (decide (t139 ≥ 0)))) = some r := h
 clear h
 replace H := Option.bind_eq_some_iff.mp H
 obtain ⟨t139, A30, H⟩ := H
 replace H : (some (decide (t139 ≥ 0))) = some r := H
 have A3 := qf.mk A30
 clear A30
 obtain rfl := Option.some.inj H
 go_enter Tryd.func91, Tryd.ntmps91
 go_wp2_with (first | ((with_reducible refine qaq (f := 94) rfl ?_); refine qcj (some 7) rfl rfl Tryd.func94 (by kernel_rfl) rfl #[.slice A0 l0.length c0, .string a1] rfl (by (try simp only [List.map_toArray, List.map_cons, List.map_nil]); first | done | rfl | (simp only [List.length_drop, List.length_take]; rfl)) ?_; (with_reducible refine (yc.calls k _ _ l0 a1 t139 _ ?side1 ?side2 A3.out).mono ?_); (case side1 => repeat (first | exact HR0.out | (with_reducible refine Kd.qba ?_ _) | (with_reducible refine Kd.qaz ?_ _) | (with_reducible refine Kd.qbq ?_))); (case side2 => exact HC0.out); rintro e w' ⟨rfl, ⟨nd, rfl⟩⟩; refine ⟨_, rfl, ?_⟩))
 go_ret
 exact ⟨by first | rfl | (simp; done) | (simp [*]; done), by repeat (first | exact yx.refl _ | apply yx.step)⟩
theorem C_strings_alloc (w : World) (xs : List ByteArray) (t : TypeId) (hx : xs.length ≤ 9223372036854775807) : Kd.C Kd.string (w.alloc (.cells (xs.map Value.string).toArray t)) (some ⟨w.heap.size, 0, none⟩) xs.length xs := by
  refine ⟨rfl, hx, fun _ => ⟨_, rfl, fun j p hj => ⟨[.string p], rfl, rfl, fun i u hu => ?_⟩⟩⟩
  have hi : i = 0 := by
    rcases i with _ | i
    · rfl
    · simp at hu
  subst hi
  simp at hu
  subst hu
  have hs : Kd.string.sz = 1 := rfl
  rw [hs, Nat.mul_one, Nat.add_zero, add_plain]
  have hl : j < xs.length := (List.getElem?_eq_some_iff.1 hj).1
  have hv : xs[j] = p := (List.getElem?_eq_some_iff.1 hj).2
  simp only [World.cell?]
  have hb : (w.alloc (.cells (xs.map Value.string).toArray t)).heap[w.heap.size]? = some (.cells (xs.map Value.string).toArray t (0, 0)) := by simpa using heap_alloc_new w _
  rw [hb]
  simp [hl, hv]
def qd9.f (k : Nat) (a0 : ByteArray) : Option Bool := qau.f k qdh a0
theorem qd9.mono : ∀ a0 k, LeO (qd9.f k a0) (qd9.f (k + 1) a0) := fun a0 k => qau.mono _ _ _
set_option maxHeartbeats 8000000 in
set_option maxRecDepth 100000 in
theorem qd9.calls (k : Nat) (a0 : ByteArray) (r : Bool) (w : World) (hG : Lay w) (h : qd9.f k a0 = some r) :
    Calls Tryd.prog 87 #[.string a0] w fun e w' => e = .returned (.bool r) ∧ Below w.heap.size w w' := by
  have H := qf.mk h
  have HG := qf.mk hG
  clear h hG
  go_enter Tryd.func87, Tryd.ntmps87
  go_wp2_with (first
    | (go_at_call 92; refine (words_any _ HG.out).mono ?_; rintro e w' ⟨rfl, rfl⟩)
    | (go_at_call 91; refine (qau.calls k _ _ qdh a0 r _ ?side1 (Nat.le_refl _) H.out).mono ?_; (case side1 => exact C_strings_alloc _ _ _ (by decide +kernel)); rintro e w' ⟨rfl, hd⟩))
  go_ret
  exact ⟨rfl, jd (qg (Below.refl _ _) _) (by simp) hd.below⟩
def qaj.f (k : Nat) (a0 : ByteArray) : Option (Bool) := (qgd.f a0).bind fun t143 => (if t143 = true then ((qd9.f k a0).bind fun q8u => (some (!q8u))) else (some false))
theorem qaj.mono : ∀ a0 k, LeO (qaj.f k a0) (qaj.f (k + 1) a0) := by
 intro a0 k
 unfold qaj.f
 repeat' first
   | (with_reducible exact qd9.mono _ _)
   | (with_reducible exact LeO.refl _)
   | (with_reducible exact LeO.none _)
   | (with_reducible refine LeO.ite ?_ ?_)
   | (with_reducible refine LeO.bind ?_ (fun _ => ?_))
   | exact qd9.mono _ _
   | exact LeO.none _
   | refine LeO.ite ?_ ?_
   | refine LeO.bind ?_ (fun _ => ?_)
set_option maxHeartbeats 8000000 in
set_option maxRecDepth 100000 in
theorem qaj.calls (k : Nat) (a0 : ByteArray) (r : Bool) (w : World) (hG : Lay w) (h : qaj.f k a0 = some r) :
  Calls Tryd.prog 82 #[.string a0] w fun e w' => e = .returned (.bool r) ∧ Below w.heap.size w w' := by
 have HB := qf.mk (Below.refl w.heap.size w)
 have HLAY := qf.mk hG
 clear hG
 have H : ((qgd.f a0).bind fun t143 => (if t143 = true then ((qd9.f k a0).bind fun q8u => (some (!q8u))) else (some false))) = some r := h
 clear h
 replace H := Option.bind_eq_some_iff.mp H
 obtain ⟨t143, A20, H⟩ := H
 replace H : (if t143 = true then ((qd9.f k a0).bind fun q8u => (some (!q8u))) else (some false)) = some r := H
 have A2 := qf.mk A20
 clear A20
 by_cases c3 : t143 = true
 ·subst c3
  have H1 : ((qd9.f k a0).bind fun q8u => (some (!q8u))) = some r := by rw [if_pos rfl] at H; exact H
  clear H
  have H := H1
  clear H1
  replace H := Option.bind_eq_some_iff.mp H
  obtain ⟨q8u, A40, H⟩ := H
  replace H : (some (!q8u)) = some r := H
  have A4 := qf.mk A40
  clear A40
  obtain rfl := Option.some.inj H
  go_enter Tryd.func82, Tryd.ntmps82
  go_wp2_with (first | ((with_reducible refine qaq (f := 86) rfl ?_); refine qcj (some 4) rfl rfl Tryd.func86 (by kernel_rfl) rfl #[.string a0] rfl (by (try simp only [List.map_toArray, List.map_cons, List.map_nil]); first | done | rfl | (simp only [List.length_drop, List.length_take]; rfl)) ?_; (with_reducible refine (qgd.calls a0 true _ A2.out).mono ?_); rintro e w5 ⟨rfl, hb⟩; refine ⟨_, rfl, ?_⟩; have n0_ := qf.mk (zk (by repeat (first | (with_reducible first | exact HB.out | apply qg | apply qc | apply qh) | exact HB.out)) hb); clear HB; have HB := n0_; clear n0_; (try clear hb); (try clear hb2); (try clear hk); (try clear hi)) | (go_at_call 87; (with_reducible refine (qd9.calls k a0 q8u _ ?side1 A4.out).mono ?_); (case side1 => exact Lay.below HLAY.out (by repeat (first | (with_reducible first | exact HB.out | apply qg | apply qc | apply qh) | exact HB.out))); rintro e w6 ⟨rfl, hb⟩; have n0_ := qf.mk (zk (by repeat (first | (with_reducible first | exact HB.out | apply qg | apply qc | apply qh) | exact HB.out)) hb); clear HB; have HB := n0_; clear n0_; (try clear hb); (try clear hb2); (try clear hk); (try clear hi)))
  go_ret
  exact ⟨by first | rfl | (simp [zg, zh] <;> rfl) | (simp [*, zg, zh] <;> rfl), by repeat (first | (with_reducible first | exact HB.out | apply qg | apply qc | apply qh) | exact HB.out)⟩
 ·replace c3 := Bool.eq_false_iff.mpr c3
  subst c3
  have H1 : (some false) = some r := by rw [if_neg (show ¬ (false = true) by decide)] at H; exact H
  clear H
  have H := H1
  clear H1
  obtain rfl := Option.some.inj H
  go_enter Tryd.func82, Tryd.ntmps82
  go_wp2_with (first | ((with_reducible refine qaq (f := 86) rfl ?_); refine qcj (some 4) rfl rfl Tryd.func86 (by kernel_rfl) rfl #[.string a0] rfl (by (try simp only [List.map_toArray, List.map_cons, List.map_nil]); first | done | rfl | (simp only [List.length_drop, List.length_take]; rfl)) ?_; (with_reducible refine (qgd.calls a0 false _ A2.out).mono ?_); rintro e w7 ⟨rfl, hb⟩; refine ⟨_, rfl, ?_⟩; have n0_ := qf.mk (zk (by repeat (first | (with_reducible first | exact HB.out | apply qg | apply qc | apply qh) | exact HB.out)) hb); clear HB; have HB := n0_; clear n0_; (try clear hb); (try clear hb2); (try clear hk); (try clear hi)))
  go_ret
  exact ⟨by first | rfl | (simp [zg, zh] <;> rfl) | (simp [*, zg, zh] <;> rfl), by repeat (first | (with_reducible first | exact HB.out | apply qg | apply qc | apply qh) | exact HB.out)⟩
def qd3.f  : Option ((List (S145))) := some (([(⟨0, (⟨#[]⟩ : ByteArray)⟩ : S145), (⟨0, (⟨#[]⟩ : ByteArray)⟩ : S145), (⟨0, (⟨#[]⟩ : ByteArray)⟩ : S145), (⟨0, (⟨#[]⟩ : ByteArray)⟩ : S145), (⟨0, (⟨#[115, 101, 108, 102]⟩ : ByteArray)⟩ : S145), (⟨0, (⟨#[116, 105, 109, 101]⟩ : ByteArray)⟩ : S145), (⟨2, (⟨#[43]⟩ : ByteArray)⟩ : S145), (⟨2, (⟨#[45]⟩ : ByteArray)⟩ : S145), (⟨2, (⟨#[42]⟩ : ByteArray)⟩ : S145), (⟨2, (⟨#[47]⟩ : ByteArray)⟩ : S145), (⟨2, (⟨#[61, 61]⟩ : ByteArray)⟩ : S145), (⟨2, (⟨#[60]⟩ : ByteArray)⟩ : S145), (⟨2, (⟨#[97, 110, 100]⟩ : ByteArray)⟩ : S145), (⟨2, (⟨#[111, 114]⟩ : ByteArray)⟩ : S145), (⟨1, (⟨#[110, 111, 116]⟩ : ByteArray)⟩ : S145), (⟨2, (⟨#[44]⟩ : ByteArray)⟩ : S145), (⟨1, (⟨#[114, 101]⟩ : ByteArray)⟩ : S145), (⟨1, (⟨#[105, 109]⟩ : ByteArray)⟩ : S145), (⟨1, (⟨#[116, 117, 114, 110]⟩ : ByteArray)⟩ : S145), (⟨2, (⟨#[102, 97, 114]⟩ : ByteArray)⟩ : S145)] : List (S145)))
set_option maxHeartbeats 8000000 in
set_option maxRecDepth 100000 in
theorem qd3.calls  (r : List (S145)) (w : World) (h : qd3.f  = some r) :
  Calls Tryd.prog 93 #[] w fun e w' => ∃ v0_ : Value, e = .returned (v0_) ∧ Kd.R k145 145 w' w.heap.size (fun _ => True) v0_ r ∧ Below w.heap.size w w' := by
 have z3t := Tryd.underlying145
 have HB := qf.mk (Below.refl w.heap.size w)
 have H : (some (([(⟨0, (⟨#[]⟩ : ByteArray)⟩ : S145), (⟨0, (⟨#[]⟩ : ByteArray)⟩ : S145), (⟨0, (⟨#[]⟩ : ByteArray)⟩ : S145), (⟨0, (⟨#[]⟩ : ByteArray)⟩ : S145), (⟨0, (⟨#[115, 101, 108, 102]⟩ : ByteArray)⟩ : S145), (⟨0, (⟨#[116, 105, 109, 101]⟩ : ByteArray)⟩ : S145), (⟨2, (⟨#[43]⟩ : ByteArray)⟩ : S145), (⟨2, (⟨#[45]⟩ : ByteArray)⟩ : S145), (⟨2, (⟨#[42]⟩ : ByteArray)⟩ : S145), (⟨2, (⟨#[47]⟩ : ByteArray)⟩ : S145), (⟨2, (⟨#[61, 61]⟩ : ByteArray)⟩ : S145), (⟨2, (⟨#[60]⟩ : ByteArray)⟩ : S145), (⟨2, (⟨#[97, 110, 100]⟩ : ByteArray)⟩ : S145), (⟨2, (⟨#[111, 114]⟩ : ByteArray)⟩ : S145), (⟨1, (⟨#[110, 111, 116]⟩ : ByteArray)⟩ : S145), (⟨2, (⟨#[44]⟩ : ByteArray)⟩ : S145), (⟨1, (⟨#[114, 101]⟩ : ByteArray)⟩ : S145), (⟨1, (⟨#[105, 109]⟩ : ByteArray)⟩ : S145), (⟨1, (⟨#[116, 117, 114, 110]⟩ : ByteArray)⟩ : S145), (⟨2, (⟨#[102, 97, 114]⟩ : ByteArray)⟩ : S145)] : List (S145)))) = some r := h
 clear h
 obtain ⟨z11, zhz⟩ : ∃ y_ : List (S145), y_ = (([(⟨0, (⟨#[]⟩ : ByteArray)⟩ : S145), (⟨0, (⟨#[]⟩ : ByteArray)⟩ : S145), (⟨0, (⟨#[]⟩ : ByteArray)⟩ : S145), (⟨0, (⟨#[]⟩ : ByteArray)⟩ : S145), (⟨0, (⟨#[115, 101, 108, 102]⟩ : ByteArray)⟩ : S145), (⟨0, (⟨#[116, 105, 109, 101]⟩ : ByteArray)⟩ : S145), (⟨2, (⟨#[43]⟩ : ByteArray)⟩ : S145), (⟨2, (⟨#[45]⟩ : ByteArray)⟩ : S145), (⟨2, (⟨#[42]⟩ : ByteArray)⟩ : S145), (⟨2, (⟨#[47]⟩ : ByteArray)⟩ : S145), (⟨2, (⟨#[61, 61]⟩ : ByteArray)⟩ : S145), (⟨2, (⟨#[60]⟩ : ByteArray)⟩ : S145), (⟨2, (⟨#[97, 110, 100]⟩ : ByteArray)⟩ : S145), (⟨2, (⟨#[111, 114]⟩ : ByteArray)⟩ : S145), (⟨1, (⟨#[110, 111, 116]⟩ : ByteArray)⟩ : S145), (⟨2, (⟨#[44]⟩ : ByteArray)⟩ : S145), (⟨1, (⟨#[114, 101]⟩ : ByteArray)⟩ : S145), (⟨1, (⟨#[105, 109]⟩ : ByteArray)⟩ : S145), (⟨1, (⟨#[116, 117, 114, 110]⟩ : ByteArray)⟩ : S145), (⟨2, (⟨#[102, 97, 114]⟩ : ByteArray)⟩ : S145)] : List (S145))) := ⟨_, rfl⟩
 replace H : (some z11) = some r := by first | (rw [zhz]; with_reducible exact H) | (have H2_ := (Option.bind_some _ _).symm.trans H; rw [zhz]; with_reducible exact H2_) | (have H2_ := (Option.bind_some _ _).symm.trans H; with_reducible exact H2_) | with_reducible exact H | (rw [zhz]; exact H) | exact H
 have zum := qf.mk zhz
 clear zhz
 obtain rfl := Option.some.inj H
 go_enter Tryd.func93, Tryd.ntmps93
 go_wp2_with (first | ((with_reducible refine qah (N := 21) rfl ?_); refine Kd.zoy k145 _ 145 ?hg (N := 21) ?hd (xs := ([(⟨0, (⟨#[]⟩ : ByteArray)⟩ : S145), (⟨0, (⟨#[]⟩ : ByteArray)⟩ : S145), (⟨0, (⟨#[]⟩ : ByteArray)⟩ : S145), (⟨0, (⟨#[]⟩ : ByteArray)⟩ : S145), (⟨0, (⟨#[115, 101, 108, 102]⟩ : ByteArray)⟩ : S145), (⟨0, (⟨#[116, 105, 109, 101]⟩ : ByteArray)⟩ : S145), (⟨2, (⟨#[43]⟩ : ByteArray)⟩ : S145), (⟨2, (⟨#[45]⟩ : ByteArray)⟩ : S145), (⟨2, (⟨#[42]⟩ : ByteArray)⟩ : S145), (⟨2, (⟨#[47]⟩ : ByteArray)⟩ : S145), (⟨2, (⟨#[61, 61]⟩ : ByteArray)⟩ : S145), (⟨2, (⟨#[60]⟩ : ByteArray)⟩ : S145), (⟨2, (⟨#[97, 110, 100]⟩ : ByteArray)⟩ : S145), (⟨2, (⟨#[111, 114]⟩ : ByteArray)⟩ : S145), (⟨1, (⟨#[110, 111, 116]⟩ : ByteArray)⟩ : S145), (⟨2, (⟨#[44]⟩ : ByteArray)⟩ : S145), (⟨1, (⟨#[114, 101]⟩ : ByteArray)⟩ : S145), (⟨1, (⟨#[105, 109]⟩ : ByteArray)⟩ : S145), (⟨1, (⟨#[116, 117, 114, 110]⟩ : ByteArray)⟩ : S145), (⟨2, (⟨#[102, 97, 114]⟩ : ByteArray)⟩ : S145)] : List (S145))) (inner := [.int .i64 0, .string (⟨#[]⟩ : ByteArray), .int .i64 0, .string (⟨#[]⟩ : ByteArray), .int .i64 0, .string (⟨#[]⟩ : ByteArray), .int .i64 0, .string (⟨#[]⟩ : ByteArray), .int .i64 0, .string (⟨#[115, 101, 108, 102]⟩ : ByteArray), .int .i64 0, .string (⟨#[116, 105, 109, 101]⟩ : ByteArray), .int .i64 2, .string (⟨#[43]⟩ : ByteArray), .int .i64 2, .string (⟨#[45]⟩ : ByteArray), .int .i64 2, .string (⟨#[42]⟩ : ByteArray), .int .i64 2, .string (⟨#[47]⟩ : ByteArray), .int .i64 2, .string (⟨#[61, 61]⟩ : ByteArray), .int .i64 2, .string (⟨#[60]⟩ : ByteArray), .int .i64 2, .string (⟨#[97, 110, 100]⟩ : ByteArray), .int .i64 2, .string (⟨#[111, 114]⟩ : ByteArray), .int .i64 1, .string (⟨#[110, 111, 116]⟩ : ByteArray), .int .i64 2, .string (⟨#[44]⟩ : ByteArray), .int .i64 1, .string (⟨#[114, 101]⟩ : ByteArray), .int .i64 1, .string (⟨#[105, 109]⟩ : ByteArray), .int .i64 1, .string (⟨#[116, 117, 114, 110]⟩ : ByteArray), .int .i64 2, .string (⟨#[102, 97, 114]⟩ : ByteArray)]) (ok := fun _ => True) (okp := fun _ => True) ?hr ?hp (fun _ hk => hk) trivial (Below.refl _ _) (Nat.le_refl _) (by simp) ?_; (case hd => rfl); (case hg => rfl); (case hr => first | (go_simp; done) | (go_simp; rfl)); (case hp => exact (Reps.c2 (show Kd.M k145 _ _ _ (⟨0, (⟨#[]⟩ : ByteArray)⟩ : S145) [.int .i64 0, .string (⟨#[]⟩ : ByteArray)] from (qcm _ _ _ (⟨0, (⟨#[]⟩ : ByteArray)⟩ : S145) )) (Reps.c2 (show Kd.M k145 _ _ _ (⟨0, (⟨#[]⟩ : ByteArray)⟩ : S145) [.int .i64 0, .string (⟨#[]⟩ : ByteArray)] from (qcm _ _ _ (⟨0, (⟨#[]⟩ : ByteArray)⟩ : S145) )) (Reps.c2 (show Kd.M k145 _ _ _ (⟨0, (⟨#[]⟩ : ByteArray)⟩ : S145) [.int .i64 0, .string (⟨#[]⟩ : ByteArray)] from (qcm _ _ _ (⟨0, (⟨#[]⟩ : ByteArray)⟩ : S145) )) (Reps.c2 (show Kd.M k145 _ _ _ (⟨0, (⟨#[]⟩ : ByteArray)⟩ : S145) [.int .i64 0, .string (⟨#[]⟩ : ByteArray)] from (qcm _ _ _ (⟨0, (⟨#[]⟩ : ByteArray)⟩ : S145) )) (Reps.c2 (show Kd.M k145 _ _ _ (⟨0, (⟨#[115, 101, 108, 102]⟩ : ByteArray)⟩ : S145) [.int .i64 0, .string (⟨#[115, 101, 108, 102]⟩ : ByteArray)] from (qcm _ _ _ (⟨0, (⟨#[115, 101, 108, 102]⟩ : ByteArray)⟩ : S145) )) (Reps.c2 (show Kd.M k145 _ _ _ (⟨0, (⟨#[116, 105, 109, 101]⟩ : ByteArray)⟩ : S145) [.int .i64 0, .string (⟨#[116, 105, 109, 101]⟩ : ByteArray)] from (qcm _ _ _ (⟨0, (⟨#[116, 105, 109, 101]⟩ : ByteArray)⟩ : S145) )) (Reps.c2 (show Kd.M k145 _ _ _ (⟨2, (⟨#[43]⟩ : ByteArray)⟩ : S145) [.int .i64 2, .string (⟨#[43]⟩ : ByteArray)] from (qcm _ _ _ (⟨2, (⟨#[43]⟩ : ByteArray)⟩ : S145) )) (Reps.c2 (show Kd.M k145 _ _ _ (⟨2, (⟨#[45]⟩ : ByteArray)⟩ : S145) [.int .i64 2, .string (⟨#[45]⟩ : ByteArray)] from (qcm _ _ _ (⟨2, (⟨#[45]⟩ : ByteArray)⟩ : S145) )) (Reps.c2 (show Kd.M k145 _ _ _ (⟨2, (⟨#[42]⟩ : ByteArray)⟩ : S145) [.int .i64 2, .string (⟨#[42]⟩ : ByteArray)] from (qcm _ _ _ (⟨2, (⟨#[42]⟩ : ByteArray)⟩ : S145) )) (Reps.c2 (show Kd.M k145 _ _ _ (⟨2, (⟨#[47]⟩ : ByteArray)⟩ : S145) [.int .i64 2, .string (⟨#[47]⟩ : ByteArray)] from (qcm _ _ _ (⟨2, (⟨#[47]⟩ : ByteArray)⟩ : S145) )) (Reps.c2 (show Kd.M k145 _ _ _ (⟨2, (⟨#[61, 61]⟩ : ByteArray)⟩ : S145) [.int .i64 2, .string (⟨#[61, 61]⟩ : ByteArray)] from (qcm _ _ _ (⟨2, (⟨#[61, 61]⟩ : ByteArray)⟩ : S145) )) (Reps.c2 (show Kd.M k145 _ _ _ (⟨2, (⟨#[60]⟩ : ByteArray)⟩ : S145) [.int .i64 2, .string (⟨#[60]⟩ : ByteArray)] from (qcm _ _ _ (⟨2, (⟨#[60]⟩ : ByteArray)⟩ : S145) )) (Reps.c2 (show Kd.M k145 _ _ _ (⟨2, (⟨#[97, 110, 100]⟩ : ByteArray)⟩ : S145) [.int .i64 2, .string (⟨#[97, 110, 100]⟩ : ByteArray)] from (qcm _ _ _ (⟨2, (⟨#[97, 110, 100]⟩ : ByteArray)⟩ : S145) )) (Reps.c2 (show Kd.M k145 _ _ _ (⟨2, (⟨#[111, 114]⟩ : ByteArray)⟩ : S145) [.int .i64 2, .string (⟨#[111, 114]⟩ : ByteArray)] from (qcm _ _ _ (⟨2, (⟨#[111, 114]⟩ : ByteArray)⟩ : S145) )) (Reps.c2 (show Kd.M k145 _ _ _ (⟨1, (⟨#[110, 111, 116]⟩ : ByteArray)⟩ : S145) [.int .i64 1, .string (⟨#[110, 111, 116]⟩ : ByteArray)] from (qcm _ _ _ (⟨1, (⟨#[110, 111, 116]⟩ : ByteArray)⟩ : S145) )) (Reps.c2 (show Kd.M k145 _ _ _ (⟨2, (⟨#[44]⟩ : ByteArray)⟩ : S145) [.int .i64 2, .string (⟨#[44]⟩ : ByteArray)] from (qcm _ _ _ (⟨2, (⟨#[44]⟩ : ByteArray)⟩ : S145) )) (Reps.c2 (show Kd.M k145 _ _ _ (⟨1, (⟨#[114, 101]⟩ : ByteArray)⟩ : S145) [.int .i64 1, .string (⟨#[114, 101]⟩ : ByteArray)] from (qcm _ _ _ (⟨1, (⟨#[114, 101]⟩ : ByteArray)⟩ : S145) )) (Reps.c2 (show Kd.M k145 _ _ _ (⟨1, (⟨#[105, 109]⟩ : ByteArray)⟩ : S145) [.int .i64 1, .string (⟨#[105, 109]⟩ : ByteArray)] from (qcm _ _ _ (⟨1, (⟨#[105, 109]⟩ : ByteArray)⟩ : S145) )) (Reps.c2 (show Kd.M k145 _ _ _ (⟨1, (⟨#[116, 117, 114, 110]⟩ : ByteArray)⟩ : S145) [.int .i64 1, .string (⟨#[116, 117, 114, 110]⟩ : ByteArray)] from (qcm _ _ _ (⟨1, (⟨#[116, 117, 114, 110]⟩ : ByteArray)⟩ : S145) )) (Reps.c2 (show Kd.M k145 _ _ _ (⟨2, (⟨#[102, 97, 114]⟩ : ByteArray)⟩ : S145) [.int .i64 2, .string (⟨#[102, 97, 114]⟩ : ByteArray)] from (qcm _ _ _ (⟨2, (⟨#[102, 97, 114]⟩ : ByteArray)⟩ : S145) )) (Reps.none _ _)))))))))))))))))))))); intro v146 w1 ho2 hb hg_ hnew_; clear hg_ hnew_; (first | rw [← zum.out] at ho2 | (simp only [Int.reduceToNat] at ho2; rw [← zum.out] at ho2)); have n0_ := qf.mk (Kd.qh1 ho2 (zo (by repeat (first | (with_reducible first | exact HB.out | apply qg | apply qc | apply qh) | exact HB.out)))); have n1_ := qf.mk (zk (by repeat (first | (with_reducible first | exact HB.out | apply qg | apply qc | apply qh) | exact HB.out)) hb); clear HB; have zw8 := n0_; have HB := n1_; clear n0_ n1_; clear hb ho2))
 go_ret
 exact ⟨_, by first | rfl | (simp [zg, zh] <;> rfl) | (simp [*, zg, zh] <;> rfl), by (with_reducible repeat (first | apply Kd.qe7 | apply Kd.qe8 | apply Kd.qhq)); exact zw8.out, by repeat (first | (with_reducible first | exact HB.out | apply qg | apply qc | apply qh) | exact HB.out)⟩
end Go.Proofs.YtpgkhmdfddejfaaDoor.PV
end
