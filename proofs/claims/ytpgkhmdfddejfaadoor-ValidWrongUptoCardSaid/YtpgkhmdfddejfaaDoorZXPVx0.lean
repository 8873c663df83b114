import Derived.Test.YtpgkhmdfddejfaaDoorProg
import Derived.Below
import Derived.Deep.Draws
import Derived.Deep.AppendLies
import Derived.Maps.AppendAt
import Derived.OwnWalk
import Derived.Laws.BytesArg
import Derived.Laws.MakeOwn
import Derived.Laws.OwnMore
import Derived.Deep.OwnRows
import Derived.Tactics
import Derived.Lib.ConvBytes
import Derived.Laws.Slices
import Derived.WalkKit
import Derived.KernelRfl
import Derived.RowKit3
import Derived.Deep.LoopGhost
import Derived.Deep.QuietTactic
import Derived.BigQuiet
import Derived.WideLaws
import Derived.Deep.DeepCutAuto
import Derived.Deep.CutBlock
import Derived.Deep.RegionHeld3
import Derived.Laws.Rows
import Derived.Lib.AppendStr
import Derived.ArgAppend
import Derived.Laws.IdiomCopy
import Derived.OrdersHeld
import Derived.Laws.BitsLemmas
import Derived.RowKit
import Derived.Test.YtpgkhmdfddejfaaDoorZXLay
import Derived.Test.YtpgkhmdfddejfaaDoorZXW
section
namespace Go.Proofs.YtpgkhmdfddejfaaDoor.PV
open Go.RowKit Go.Proofs.YtpgkhmdfddejfaaDoorW.PrintWords Go.Proofs.YtpgkhmdfddejfaaDoorW.PrintLast Go.Proofs.YtpgkhmdfddejfaaDoorW.PrintMore
attribute [local go_sem] qcn qcp qdi qdj qb6 qb7 qco qcq   -- for this text's walks alone
set_option linter.unusedVariables false
set_option linter.unusedSimpArgs false
def errW : Option Int → Value
  | none => .nilIface
  | some c => .iface 0 (.int .i64 c)
theorem zg : errW none = .nilIface := rfl
theorem zh (c : Int) : errW (some c) = .iface 0 (.int .i64 c) := rfl
theorem info27 : (Tryd.prog.info? 27).map (fun i => (i.zero, i.size, i.bytes)) = some (some (.agg #[(.int .i64 0), (.int .i64 0), (.string ⟨#[]⟩), (.slice none 0 0)]), 4, 56) := by kernel_rfl
theorem info36 : (Tryd.prog.info? 36).map (fun i => (i.zero, i.size, i.bytes)) = some (some (.agg #[(.int .i64 0), (.int .i64 0), (.int .i64 0), (.int .i64 0), (.int .i64 0), (.string ⟨#[]⟩), (.int .i64 0), (.int .i64 0), (.string ⟨#[]⟩), (.slice none 0 0), (.slice none 0 0)]), 11, 136) := by kernel_rfl
structure S27 where
  f0 : Int
  f1 : Int
  f2 : ByteArray
  f3 : (List S27)
def z27 : S27 := ⟨(0 : Int), (0 : Int), (⟨#[]⟩ : ByteArray), ([] : List S27)⟩
def F27 (d : Kd S27) : Kd S27 := Kd.iso (Kd.pair (Kd.int .i64) (Kd.pair (Kd.int .i64) (Kd.pair Kd.string (Kd.slice 27 d)))) (fun x : S27 => (x.f0, x.f1, x.f2, x.f3))
theorem zf1 : Kd.Mono F27 := Kd.mono_iso _ (Kd.qgw (Kd.qfb _) (Kd.qgw (Kd.qfb _) (Kd.qgw (Kd.qfb _) (Kd.mono_slice 27 Kd.mono_id))))
theorem sub27 : Kd.Sub F27 [27] := Kd.sub_iso _ (Kd.qjd (Kd.qgx _ (by decide)) (Kd.qjd (Kd.qgx _ (by decide)) (Kd.qjd (Kd.qgx _ (by decide)) (Kd.sub_slice 27 (by decide) Kd.sub_id))))
theorem sz27 : ∀ n, (Kd.upto F27 4 [27] n).sz = 4 := Kd.upto_sz (fun _ => rfl)
def k27 : Kd S27 := Kd.fix F27 4 [27] sz27 (Kd.zj3 sub27)
theorem qzq {w : World} {x : S27} {cs : List Value} (h : k27.K w x cs) : ∃ A3 c3, cs = [.int .i64 x.f0, .int .i64 x.f1, .string x.f2, .slice A3 x.f3.length c3] ∧ x.f3.length ≤ c3 ∧ k27.C w A3 x.f3.length x.f3 := by
  obtain ⟨n, h⟩ := h
  cases n with
  | zero => exact h.elim
  | succ n =>
    obtain ⟨_, _, rfl, rfl, ⟨_, _, rfl, rfl, ⟨_, _, rfl, rfl, ⟨A3, c3, rfl, l3, g3⟩⟩⟩⟩ := h
    exact ⟨A3, c3, rfl, l3, Kd.fix_C g3⟩
theorem zjh (w : World) (x : S27) {A3 : Option Addr} {c3 : Nat} (l3 : x.f3.length ≤ c3) (g3 : k27.C w A3 x.f3.length x.f3) : k27.K w x [.int .i64 x.f0, .int .i64 x.f1, .string x.f2, .slice A3 x.f3.length c3] := by
  obtain ⟨n3, q3⟩ := Kd.fix_C_back zf1 g3
  have r3 := Kd.upto_C_le zf1 sz27 (show n3 ≤ n3 by omega) q3
  exact ⟨n3 + 1, ⟨[.int .i64 x.f0], [.int .i64 x.f1, .string x.f2, .slice A3 x.f3.length c3], rfl, rfl, ⟨[.int .i64 x.f1], [.string x.f2, .slice A3 x.f3.length c3], rfl, rfl, ⟨[.string x.f2], [.slice A3 x.f3.length c3], rfl, rfl, ⟨A3, c3, rfl, l3, r3⟩⟩⟩⟩⟩
theorem k27_mkM (w : World) (base : Nat) (ok : Nat → Prop) (x : S27) {v3 : Value} (g3 : k27.R 27 w base ok v3 x.f3) : k27.M w base ok x [.int .i64 x.f0, .int .i64 x.f1, .string x.f2, v3] := by
  obtain ⟨n3, q3⟩ := Kd.fix_R_back zf1 g3
  have r3 := Kd.upto_R_le zf1 sz27 (show n3 ≤ n3 by omega) q3
  exact ⟨n3 + 1, ⟨[.int .i64 x.f0], [.int .i64 x.f1, .string x.f2, v3], rfl, rfl, ⟨[.int .i64 x.f1], [.string x.f2, v3], rfl, rfl, ⟨[.string x.f2], [v3], rfl, rfl, ⟨v3, rfl, r3⟩⟩⟩⟩⟩
def zf (xs : List S27) (i : Int) : S27 := xs.getD i.toNat z27
theorem qjh {w : World} {A : Option Addr} {n : Nat} {xs : List S27} (h : Kd.C k27 w A n xs) (i : Int) (h0 : 0 ≤ i) (h1 : i < n) : ∃ ad A3 c3, A = some ad ∧ w.cell? (ad.add (i.toNat * 4)) = some (.int .i64 (zf xs i).f0) ∧ w.cell? ⟨(ad.add (i.toNat * 4)).block, (ad.add (i.toNat * 4)).off + 1, none⟩ = some (.int .i64 (zf xs i).f1) ∧ w.cell? ⟨(ad.add (i.toNat * 4)).block, (ad.add (i.toNat * 4)).off + 2, none⟩ = some (.string (zf xs i).f2) ∧ w.cell? ⟨(ad.add (i.toNat * 4)).block, (ad.add (i.toNat * 4)).off + 3, none⟩ = some (.slice A3 (zf xs i).f3.length c3) ∧ (zf xs i).f3.length ≤ c3 ∧ k27.C w A3 (zf xs i).f3.length (zf xs i).f3 := by
  obtain ⟨ad, c, e, _, hK, hc0⟩ := Kd.q6w h z27 i h0 h1
  have hc : ∀ j u, c[j]? = some u → w.cell? (ad.add (i.toNat * 4 + j)) = some u := hc0
  obtain ⟨A3, c3, rfl, l3, g3⟩ := qzq hK
  exact ⟨ad, A3, c3, e, hc 0 _ rfl, by rw [← qam _ _ 1 (by omega)]; exact hc 1 _ rfl, by rw [← qam _ _ 2 (by omega)]; exact hc 2 _ rfl, by rw [← qam _ _ 3 (by omega)]; exact hc 3 _ rfl, l3, g3⟩
structure S30 where
  f0 : Int
  f1 : Int
  f2 : Int
  f3 : ByteArray
  f4 : S27
  f5 : (List S30)
  f6 : (List S27)
def z30 : S30 := ⟨(0 : Int), (0 : Int), (0 : Int), (⟨#[]⟩ : ByteArray), z27, ([] : List S30), ([] : List S27)⟩
def F30 (d : Kd S30) : Kd S30 := Kd.iso (Kd.pair (Kd.int .i64) (Kd.pair (Kd.int .i64) (Kd.pair (Kd.int .i64) (Kd.pair Kd.string (Kd.pair k27 (Kd.pair (Kd.slice 30 d) (Kd.slice 27 k27))))))) (fun x : S30 => (x.f0, x.f1, x.f2, x.f3, x.f4, x.f5, x.f6))
theorem mono30 : Kd.Mono F30 := Kd.mono_iso _ (Kd.qgw (Kd.qfb _) (Kd.qgw (Kd.qfb _) (Kd.qgw (Kd.qfb _) (Kd.qgw (Kd.qfb _) (Kd.qgw (Kd.qfb _) (Kd.qgw (Kd.mono_slice 30 Kd.mono_id) (Kd.qfb _)))))))
theorem sub30 : Kd.Sub F30 [27, 30] := Kd.sub_iso _ (Kd.qjd (Kd.qgx _ (by decide)) (Kd.qjd (Kd.qgx _ (by decide)) (Kd.qjd (Kd.qgx _ (by decide)) (Kd.qjd (Kd.qgx _ (by decide)) (Kd.qjd (Kd.qgx _ (by decide)) (Kd.qjd (Kd.sub_slice 30 (by decide) Kd.sub_id) (Kd.qgx _ (by decide))))))))
theorem sz30 : ∀ n, (Kd.upto F30 10 [27, 30] n).sz = 10 := Kd.upto_sz (fun _ => rfl)
def k30 : Kd S30 := Kd.fix F30 10 [27, 30] sz30 (Kd.zj3 sub30)
theorem qok {w : World} {x : S30} {cs : List Value} (h : k30.K w x cs) : ∃ A7 c7 A8 c8 A9 c9, cs = [.int .i64 x.f0, .int .i64 x.f1, .int .i64 x.f2, .string x.f3, .int .i64 x.f4.f0, .int .i64 x.f4.f1, .string x.f4.f2, .slice A7 x.f4.f3.length c7, .slice A8 x.f5.length c8, .slice A9 x.f6.length c9] ∧ x.f4.f3.length ≤ c7 ∧ k27.C w A7 x.f4.f3.length x.f4.f3 ∧ x.f5.length ≤ c8 ∧ k30.C w A8 x.f5.length x.f5 ∧ x.f6.length ≤ c9 ∧ k27.C w A9 x.f6.length x.f6 := by
  obtain ⟨n, h⟩ := h
  cases n with
  | zero => exact h.elim
  | succ n =>
    obtain ⟨_, _, rfl, rfl, ⟨_, _, rfl, rfl, ⟨_, _, rfl, rfl, ⟨_, _, rfl, rfl, ⟨_, _, rfl, s4, ⟨_, _, rfl, ⟨A8, c8, rfl, l8, g8⟩, ⟨A9, c9, rfl, l9, g9⟩⟩⟩⟩⟩⟩⟩ := h
    obtain ⟨A7, c7, rfl, l7, g7⟩ := qzq s4
    exact ⟨A7, c7, A8, c8, A9, c9, rfl, l7, g7, l8, Kd.fix_C g8, l9, g9⟩
theorem k30_mk (w : World) (x : S30) {A7 : Option Addr} {c7 : Nat} (l7 : x.f4.f3.length ≤ c7) (g7 : k27.C w A7 x.f4.f3.length x.f4.f3) {A8 : Option Addr} {c8 : Nat} (l8 : x.f5.length ≤ c8) (g8 : k30.C w A8 x.f5.length x.f5) {A9 : Option Addr} {c9 : Nat} (l9 : x.f6.length ≤ c9) (g9 : k27.C w A9 x.f6.length x.f6) : k30.K w x [.int .i64 x.f0, .int .i64 x.f1, .int .i64 x.f2, .string x.f3, .int .i64 x.f4.f0, .int .i64 x.f4.f1, .string x.f4.f2, .slice A7 x.f4.f3.length c7, .slice A8 x.f5.length c8, .slice A9 x.f6.length c9] := by
  obtain ⟨n8, q8⟩ := Kd.fix_C_back mono30 g8
  have r8 := Kd.upto_C_le mono30 sz30 (show n8 ≤ n8 by omega) q8
  exact ⟨n8 + 1, ⟨[.int .i64 x.f0], [.int .i64 x.f1, .int .i64 x.f2, .string x.f3, .int .i64 x.f4.f0, .int .i64 x.f4.f1, .string x.f4.f2, .slice A7 x.f4.f3.length c7, .slice A8 x.f5.length c8, .slice A9 x.f6.length c9], rfl, rfl, ⟨[.int .i64 x.f1], [.int .i64 x.f2, .string x.f3, .int .i64 x.f4.f0, .int .i64 x.f4.f1, .string x.f4.f2, .slice A7 x.f4.f3.length c7, .slice A8 x.f5.length c8, .slice A9 x.f6.length c9], rfl, rfl, ⟨[.int .i64 x.f2], [.string x.f3, .int .i64 x.f4.f0, .int .i64 x.f4.f1, .string x.f4.f2, .slice A7 x.f4.f3.length c7, .slice A8 x.f5.length c8, .slice A9 x.f6.length c9], rfl, rfl, ⟨[.string x.f3], [.int .i64 x.f4.f0, .int .i64 x.f4.f1, .string x.f4.f2, .slice A7 x.f4.f3.length c7, .slice A8 x.f5.length c8, .slice A9 x.f6.length c9], rfl, rfl, ⟨[.int .i64 x.f4.f0, .int .i64 x.f4.f1, .string x.f4.f2, .slice A7 x.f4.f3.length c7], [.slice A8 x.f5.length c8, .slice A9 x.f6.length c9], rfl, (zjh w x.f4 l7 g7), ⟨[.slice A8 x.f5.length c8], [.slice A9 x.f6.length c9], rfl, ⟨A8, c8, rfl, l8, r8⟩, ⟨A9, c9, rfl, l9, g9⟩⟩⟩⟩⟩⟩⟩⟩
theorem k30_openF {W : World} {ok : Nat → Prop} {x : S30} {cs : List Value} (h : Kd.FK k30 W ok x cs) : ∃ A7 c7 A8 c8 A9 c9, cs = [.int .i64 x.f0, .int .i64 x.f1, .int .i64 x.f2, .string x.f3, .int .i64 x.f4.f0, .int .i64 x.f4.f1, .string x.f4.f2, .slice A7 x.f4.f3.length c7, .slice A8 x.f5.length c8, .slice A9 x.f6.length c9] ∧ x.f4.f3.length ≤ c7 ∧ Kd.F k27 W ok A7 x.f4.f3.length x.f4.f3 ∧ x.f5.length ≤ c8 ∧ Kd.F k30 W ok A8 x.f5.length x.f5 ∧ x.f6.length ≤ c9 ∧ Kd.F k27 W ok A9 x.f6.length x.f6 := by
  obtain ⟨A7, c7, A8, c8, A9, c9, rfl, l7, _, l8, _, l9, _⟩ := qok (Kd.qwi h)
  exact ⟨A7, c7, A8, c8, A9, c9, rfl, l7, (fun W' hW => by obtain ⟨A7_, c7_, A8_, c8_, A9_, c9_, he, l7_, g7_, l8_, g8_, l9_, g9_⟩ := qok (h W' hW); injection (Option.some.inj (show some (Value.slice A7 x.f4.f3.length c7) = some (Value.slice A7_ x.f4.f3.length c7_) from congrArg (fun l => l[7]?) he)) with ha_ _ _; rw [ha_]; exact g7_), l8, (fun W' hW => by obtain ⟨A7_, c7_, A8_, c8_, A9_, c9_, he, l7_, g7_, l8_, g8_, l9_, g9_⟩ := qok (h W' hW); injection (Option.some.inj (show some (Value.slice A8 x.f5.length c8) = some (Value.slice A8_ x.f5.length c8_) from congrArg (fun l => l[8]?) he)) with ha_ _ _; rw [ha_]; exact g8_), l9, (fun W' hW => by obtain ⟨A7_, c7_, A8_, c8_, A9_, c9_, he, l7_, g7_, l8_, g8_, l9_, g9_⟩ := qok (h W' hW); injection (Option.some.inj (show some (Value.slice A9 x.f6.length c9) = some (Value.slice A9_ x.f6.length c9_) from congrArg (fun l => l[9]?) he)) with ha_ _ _; rw [ha_]; exact g9_)⟩
theorem k30_mkF (W : World) (ok : Nat → Prop) (x : S30) {A7 : Option Addr} {c7 : Nat} (l7 : x.f4.f3.length ≤ c7) (g7 : Kd.F k27 W ok A7 x.f4.f3.length x.f4.f3) {A8 : Option Addr} {c8 : Nat} (l8 : x.f5.length ≤ c8) (g8 : Kd.F k30 W ok A8 x.f5.length x.f5) {A9 : Option Addr} {c9 : Nat} (l9 : x.f6.length ≤ c9) (g9 : Kd.F k27 W ok A9 x.f6.length x.f6) : Kd.FK k30 W ok x [.int .i64 x.f0, .int .i64 x.f1, .int .i64 x.f2, .string x.f3, .int .i64 x.f4.f0, .int .i64 x.f4.f1, .string x.f4.f2, .slice A7 x.f4.f3.length c7, .slice A8 x.f5.length c8, .slice A9 x.f6.length c9] := fun W2 hW => k30_mk W2 x l7 (g7 W2 hW) l8 (g8 W2 hW) l9 (g9 W2 hW)
def zb (xs : List S30) (i : Int) : S30 := xs.getD i.toNat z30
theorem q65 {w : World} {A : Option Addr} {n : Nat} {xs : List S30} (h : Kd.C k30 w A n xs) (i : Int) (h0 : 0 ≤ i) (h1 : i < n) : ∃ ad A7 c7 A8 c8 A9 c9, A = some ad ∧ w.cell? (ad.add (i.toNat * 10)) = some (.int .i64 (zb xs i).f0) ∧ w.cell? ⟨(ad.add (i.toNat * 10)).block, (ad.add (i.toNat * 10)).off + 1, none⟩ = some (.int .i64 (zb xs i).f1) ∧ w.cell? ⟨(ad.add (i.toNat * 10)).block, (ad.add (i.toNat * 10)).off + 2, none⟩ = some (.int .i64 (zb xs i).f2) ∧ w.cell? ⟨(ad.add (i.toNat * 10)).block, (ad.add (i.toNat * 10)).off + 3, none⟩ = some (.string (zb xs i).f3) ∧ w.cell? ⟨(ad.add (i.toNat * 10)).block, (ad.add (i.toNat * 10)).off + 4, none⟩ = some (.int .i64 (zb xs i).f4.f0) ∧ w.cell? ⟨(ad.add (i.toNat * 10)).block, (ad.add (i.toNat * 10)).off + 5, none⟩ = some (.int .i64 (zb xs i).f4.f1) ∧ w.cell? ⟨(ad.add (i.toNat * 10)).block, (ad.add (i.toNat * 10)).off + 6, none⟩ = some (.string (zb xs i).f4.f2) ∧ w.cell? ⟨(ad.add (i.toNat * 10)).block, (ad.add (i.toNat * 10)).off + 7, none⟩ = some (.slice A7 (zb xs i).f4.f3.length c7) ∧ w.cell? ⟨(ad.add (i.toNat * 10)).block, (ad.add (i.toNat * 10)).off + 8, none⟩ = some (.slice A8 (zb xs i).f5.length c8) ∧ w.cell? ⟨(ad.add (i.toNat * 10)).block, (ad.add (i.toNat * 10)).off + 9, none⟩ = some (.slice A9 (zb xs i).f6.length c9) ∧ (zb xs i).f4.f3.length ≤ c7 ∧ k27.C w A7 (zb xs i).f4.f3.length (zb xs i).f4.f3 ∧ (zb xs i).f5.length ≤ c8 ∧ k30.C w A8 (zb xs i).f5.length (zb xs i).f5 ∧ (zb xs i).f6.length ≤ c9 ∧ k27.C w A9 (zb xs i).f6.length (zb xs i).f6 := by
  obtain ⟨ad, c, e, _, hK, hc0⟩ := Kd.q6w h z30 i h0 h1
  have hc : ∀ j u, c[j]? = some u → w.cell? (ad.add (i.toNat * 10 + j)) = some u := hc0
  obtain ⟨A7, c7, A8, c8, A9, c9, rfl, l7, g7, l8, g8, l9, g9⟩ := qok hK
  exact ⟨ad, A7, c7, A8, c8, A9, c9, e, hc 0 _ rfl, by rw [← qam _ _ 1 (by omega)]; exact hc 1 _ rfl, by rw [← qam _ _ 2 (by omega)]; exact hc 2 _ rfl, by rw [← qam _ _ 3 (by omega)]; exact hc 3 _ rfl, by rw [← qam _ _ 4 (by omega)]; exact hc 4 _ rfl, by rw [← qam _ _ 5 (by omega)]; exact hc 5 _ rfl, by rw [← qam _ _ 6 (by omega)]; exact hc 6 _ rfl, by rw [← qam _ _ 7 (by omega)]; exact hc 7 _ rfl, by rw [← qam _ _ 8 (by omega)]; exact hc 8 _ rfl, by rw [← qam _ _ 9 (by omega)]; exact hc 9 _ rfl, l7, g7, l8, g8, l9, g9⟩
structure S36 where
  f0 : Int
  f1 : Int
  f2 : Int
  f3 : Int
  f4 : Int
  f5 : ByteArray
  f6 : S27
  f7 : (List S27)
def z36 : S36 := ⟨(0 : Int), (0 : Int), (0 : Int), (0 : Int), (0 : Int), (⟨#[]⟩ : ByteArray), z27, ([] : List S27)⟩
def k36 : Kd S36 := Kd.iso (Kd.pair (Kd.int .i64) (Kd.pair (Kd.int .i64) (Kd.pair (Kd.int .i64) (Kd.pair (Kd.int .i64) (Kd.pair (Kd.int .i64) (Kd.pair Kd.string (Kd.pair k27 (Kd.slice 27 k27)))))))) (fun x : S36 => (x.f0, x.f1, x.f2, x.f3, x.f4, x.f5, x.f6, x.f7))
theorem qzr {w : World} {x : S36} {cs : List Value} (h : k36.K w x cs) : ∃ A9 c9 A10 c10, cs = [.int .i64 x.f0, .int .i64 x.f1, .int .i64 x.f2, .int .i64 x.f3, .int .i64 x.f4, .string x.f5, .int .i64 x.f6.f0, .int .i64 x.f6.f1, .string x.f6.f2, .slice A9 x.f6.f3.length c9, .slice A10 x.f7.length c10] ∧ x.f6.f3.length ≤ c9 ∧ k27.C w A9 x.f6.f3.length x.f6.f3 ∧ x.f7.length ≤ c10 ∧ k27.C w A10 x.f7.length x.f7 := by
  obtain ⟨_, _, rfl, rfl, ⟨_, _, rfl, rfl, ⟨_, _, rfl, rfl, ⟨_, _, rfl, rfl, ⟨_, _, rfl, rfl, ⟨_, _, rfl, rfl, ⟨_, _, rfl, s6, ⟨A10, c10, rfl, l10, g10⟩⟩⟩⟩⟩⟩⟩⟩ := h
  obtain ⟨A9, c9, rfl, l9, g9⟩ := qzq s6
  exact ⟨A9, c9, A10, c10, rfl, l9, g9, l10, g10⟩
theorem k36_mk (w : World) (x : S36) {A9 : Option Addr} {c9 : Nat} (l9 : x.f6.f3.length ≤ c9) (g9 : k27.C w A9 x.f6.f3.length x.f6.f3) {A10 : Option Addr} {c10 : Nat} (l10 : x.f7.length ≤ c10) (g10 : k27.C w A10 x.f7.length x.f7) : k36.K w x [.int .i64 x.f0, .int .i64 x.f1, .int .i64 x.f2, .int .i64 x.f3, .int .i64 x.f4, .string x.f5, .int .i64 x.f6.f0, .int .i64 x.f6.f1, .string x.f6.f2, .slice A9 x.f6.f3.length c9, .slice A10 x.f7.length c10] := ⟨[.int .i64 x.f0], [.int .i64 x.f1, .int .i64 x.f2, .int .i64 x.f3, .int .i64 x.f4, .string x.f5, .int .i64 x.f6.f0, .int .i64 x.f6.f1, .string x.f6.f2, .slice A9 x.f6.f3.length c9, .slice A10 x.f7.length c10], rfl, rfl, ⟨[.int .i64 x.f1], [.int .i64 x.f2, .int .i64 x.f3, .int .i64 x.f4, .string x.f5, .int .i64 x.f6.f0, .int .i64 x.f6.f1, .string x.f6.f2, .slice A9 x.f6.f3.length c9, .slice A10 x.f7.length c10], rfl, rfl, ⟨[.int .i64 x.f2], [.int .i64 x.f3, .int .i64 x.f4, .string x.f5, .int .i64 x.f6.f0, .int .i64 x.f6.f1, .string x.f6.f2, .slice A9 x.f6.f3.length c9, .slice A10 x.f7.length c10], rfl, rfl, ⟨[.int .i64 x.f3], [.int .i64 x.f4, .string x.f5, .int .i64 x.f6.f0, .int .i64 x.f6.f1, .string x.f6.f2, .slice A9 x.f6.f3.length c9, .slice A10 x.f7.length c10], rfl, rfl, ⟨[.int .i64 x.f4], [.string x.f5, .int .i64 x.f6.f0, .int .i64 x.f6.f1, .string x.f6.f2, .slice A9 x.f6.f3.length c9, .slice A10 x.f7.length c10], rfl, rfl, ⟨[.string x.f5], [.int .i64 x.f6.f0, .int .i64 x.f6.f1, .string x.f6.f2, .slice A9 x.f6.f3.length c9, .slice A10 x.f7.length c10], rfl, rfl, ⟨[.int .i64 x.f6.f0, .int .i64 x.f6.f1, .string x.f6.f2, .slice A9 x.f6.f3.length c9], [.slice A10 x.f7.length c10], rfl, (zjh w x.f6 l9 g9), ⟨A10, c10, rfl, l10, g10⟩⟩⟩⟩⟩⟩⟩⟩
theorem k36_mkM (w : World) (base : Nat) (ok : Nat → Prop) (x : S36) {v9 : Value} (g9 : k27.R 27 w base ok v9 x.f6.f3) {v10 : Value} (g10 : k27.R 27 w base ok v10 x.f7) : k36.M w base ok x [.int .i64 x.f0, .int .i64 x.f1, .int .i64 x.f2, .int .i64 x.f3, .int .i64 x.f4, .string x.f5, .int .i64 x.f6.f0, .int .i64 x.f6.f1, .string x.f6.f2, v9, v10] := ⟨[.int .i64 x.f0], [.int .i64 x.f1, .int .i64 x.f2, .int .i64 x.f3, .int .i64 x.f4, .string x.f5, .int .i64 x.f6.f0, .int .i64 x.f6.f1, .string x.f6.f2, v9, v10], rfl, rfl, ⟨[.int .i64 x.f1], [.int .i64 x.f2, .int .i64 x.f3, .int .i64 x.f4, .string x.f5, .int .i64 x.f6.f0, .int .i64 x.f6.f1, .string x.f6.f2, v9, v10], rfl, rfl, ⟨[.int .i64 x.f2], [.int .i64 x.f3, .int .i64 x.f4, .string x.f5, .int .i64 x.f6.f0, .int .i64 x.f6.f1, .string x.f6.f2, v9, v10], rfl, rfl, ⟨[.int .i64 x.f3], [.int .i64 x.f4, .string x.f5, .int .i64 x.f6.f0, .int .i64 x.f6.f1, .string x.f6.f2, v9, v10], rfl, rfl, ⟨[.int .i64 x.f4], [.string x.f5, .int .i64 x.f6.f0, .int .i64 x.f6.f1, .string x.f6.f2, v9, v10], rfl, rfl, ⟨[.string x.f5], [.int .i64 x.f6.f0, .int .i64 x.f6.f1, .string x.f6.f2, v9, v10], rfl, rfl, ⟨[.int .i64 x.f6.f0, .int .i64 x.f6.f1, .string x.f6.f2, v9], [v10], rfl, (k27_mkM w base ok x.f6 g9), ⟨v10, rfl, g10⟩⟩⟩⟩⟩⟩⟩⟩
theorem qz6 {W : World} {ok : Nat → Prop} {x : S36} {cs : List Value} (h : Kd.FK k36 W ok x cs) : ∃ A9 c9 A10 c10, cs = [.int .i64 x.f0, .int .i64 x.f1, .int .i64 x.f2, .int .i64 x.f3, .int .i64 x.f4, .string x.f5, .int .i64 x.f6.f0, .int .i64 x.f6.f1, .string x.f6.f2, .slice A9 x.f6.f3.length c9, .slice A10 x.f7.length c10] ∧ x.f6.f3.length ≤ c9 ∧ Kd.F k27 W ok A9 x.f6.f3.length x.f6.f3 ∧ x.f7.length ≤ c10 ∧ Kd.F k27 W ok A10 x.f7.length x.f7 := by
  obtain ⟨A9, c9, A10, c10, rfl, l9, _, l10, _⟩ := qzr (Kd.qwi h)
  exact ⟨A9, c9, A10, c10, rfl, l9, (fun W' hW => by obtain ⟨A9_, c9_, A10_, c10_, he, l9_, g9_, l10_, g10_⟩ := qzr (h W' hW); injection (Option.some.inj (show some (Value.slice A9 x.f6.f3.length c9) = some (Value.slice A9_ x.f6.f3.length c9_) from congrArg (fun l => l[9]?) he)) with ha_ _ _; rw [ha_]; exact g9_), l10, (fun W' hW => by obtain ⟨A9_, c9_, A10_, c10_, he, l9_, g9_, l10_, g10_⟩ := qzr (h W' hW); injection (Option.some.inj (show some (Value.slice A10 x.f7.length c10) = some (Value.slice A10_ x.f7.length c10_) from congrArg (fun l => l[10]?) he)) with ha_ _ _; rw [ha_]; exact g10_)⟩
theorem qsx (W : World) (ok : Nat → Prop) (x : S36) {A9 : Option Addr} {c9 : Nat} (l9 : x.f6.f3.length ≤ c9) (g9 : Kd.F k27 W ok A9 x.f6.f3.length x.f6.f3) {A10 : Option Addr} {c10 : Nat} (l10 : x.f7.length ≤ c10) (g10 : Kd.F k27 W ok A10 x.f7.length x.f7) : Kd.FK k36 W ok x [.int .i64 x.f0, .int .i64 x.f1, .int .i64 x.f2, .int .i64 x.f3, .int .i64 x.f4, .string x.f5, .int .i64 x.f6.f0, .int .i64 x.f6.f1, .string x.f6.f2, .slice A9 x.f6.f3.length c9, .slice A10 x.f7.length c10] := fun W2 hW => k36_mk W2 x l9 (g9 W2 hW) l10 (g10 W2 hW)
def qz (xs : List S36) (i : Int) : S36 := xs.getD i.toNat z36
theorem q66 {w : World} {A : Option Addr} {n : Nat} {xs : List S36} (h : Kd.C k36 w A n xs) (i : Int) (h0 : 0 ≤ i) (h1 : i < n) : ∃ ad A9 c9 A10 c10, A = some ad ∧ w.cell? (ad.add (i.toNat * 11)) = some (.int .i64 (qz xs i).f0) ∧ w.cell? ⟨(ad.add (i.toNat * 11)).block, (ad.add (i.toNat * 11)).off + 1, none⟩ = some (.int .i64 (qz xs i).f1) ∧ w.cell? ⟨(ad.add (i.toNat * 11)).block, (ad.add (i.toNat * 11)).off + 2, none⟩ = some (.int .i64 (qz xs i).f2) ∧ w.cell? ⟨(ad.add (i.toNat * 11)).block, (ad.add (i.toNat * 11)).off + 3, none⟩ = some (.int .i64 (qz xs i).f3) ∧ w.cell? ⟨(ad.add (i.toNat * 11)).block, (ad.add (i.toNat * 11)).off + 4, none⟩ = some (.int .i64 (qz xs i).f4) ∧ w.cell? ⟨(ad.add (i.toNat * 11)).block, (ad.add (i.toNat * 11)).off + 5, none⟩ = some (.string (qz xs i).f5) ∧ w.cell? ⟨(ad.add (i.toNat * 11)).block, (ad.add (i.toNat * 11)).off + 6, none⟩ = some (.int .i64 (qz xs i).f6.f0) ∧ w.cell? ⟨(ad.add (i.toNat * 11)).block, (ad.add (i.toNat * 11)).off + 7, none⟩ = some (.int .i64 (qz xs i).f6.f1) ∧ w.cell? ⟨(ad.add (i.toNat * 11)).block, (ad.add (i.toNat * 11)).off + 8, none⟩ = some (.string (qz xs i).f6.f2) ∧ w.cell? ⟨(ad.add (i.toNat * 11)).block, (ad.add (i.toNat * 11)).off + 9, none⟩ = some (.slice A9 (qz xs i).f6.f3.length c9) ∧ w.cell? ⟨(ad.add (i.toNat * 11)).block, (ad.add (i.toNat * 11)).off + 10, none⟩ = some (.slice A10 (qz xs i).f7.length c10) ∧ (qz xs i).f6.f3.length ≤ c9 ∧ k27.C w A9 (qz xs i).f6.f3.length (qz xs i).f6.f3 ∧ (qz xs i).f7.length ≤ c10 ∧ k27.C w A10 (qz xs i).f7.length (qz xs i).f7 := by
  obtain ⟨ad, c, e, _, hK, hc0⟩ := Kd.q6w h z36 i h0 h1
  have hc : ∀ j u, c[j]? = some u → w.cell? (ad.add (i.toNat * 11 + j)) = some u := hc0
  obtain ⟨A9, c9, A10, c10, rfl, l9, g9, l10, g10⟩ := qzr hK
  exact ⟨ad, A9, c9, A10, c10, e, hc 0 _ rfl, by rw [← qam _ _ 1 (by omega)]; exact hc 1 _ rfl, by rw [← qam _ _ 2 (by omega)]; exact hc 2 _ rfl, by rw [← qam _ _ 3 (by omega)]; exact hc 3 _ rfl, by rw [← qam _ _ 4 (by omega)]; exact hc 4 _ rfl, by rw [← qam _ _ 5 (by omega)]; exact hc 5 _ rfl, by rw [← qam _ _ 6 (by omega)]; exact hc 6 _ rfl, by rw [← qam _ _ 7 (by omega)]; exact hc 7 _ rfl, by rw [← qam _ _ 8 (by omega)]; exact hc 8 _ rfl, by rw [← qam _ _ 9 (by omega)]; exact hc 9 _ rfl, by rw [← qam _ _ 10 (by omega)]; exact hc 10 _ rfl, l9, g9, l10, g10⟩
structure S162 where
  f0 : Int
  f1 : Int
  f2 : Int
structure S165 where
  f0 : Int
  f1 : Int
  f2 : Int
structure S145 where
  f0 : Int
  f1 : ByteArray
def z145 : S145 := ⟨(0 : Int), (⟨#[]⟩ : ByteArray)⟩
def k145 : Kd S145 := Kd.iso (Kd.pair (Kd.int .i64) Kd.string) (fun x : S145 => (x.f0, x.f1))
theorem k145_open {w : World} {x : S145} {cs : List Value} (h : k145.K w x cs) : cs = [.int .i64 x.f0, .string x.f1] := by
  obtain ⟨_, _, rfl, rfl, rfl⟩ := h
  exact rfl
theorem qcm (w : World) (base : Nat) (ok : Nat → Prop) (x : S145)  : k145.M w base ok x [.int .i64 x.f0, .string x.f1] := ⟨[.int .i64 x.f0], [.string x.f1], rfl, rfl, rfl⟩
def qs0 (xs : List S145) (i : Int) : S145 := xs.getD i.toNat z145
theorem at_T145 {w : World} {A : Option Addr} {n : Nat} {xs : List S145} (h : Kd.C k145 w A n xs) (i : Int) (h0 : 0 ≤ i) (h1 : i < n) : ∃ ad , A = some ad ∧ w.cell? (ad.add (i.toNat * 2)) = some (.int .i64 (qs0 xs i).f0) ∧ w.cell? ⟨(ad.add (i.toNat * 2)).block, (ad.add (i.toNat * 2)).off + 1, none⟩ = some (.string (qs0 xs i).f1) := by
  obtain ⟨ad, c, e, _, hK, hc0⟩ := Kd.q6w h z145 i h0 h1
  have hc : ∀ j u, c[j]? = some u → w.cell? (ad.add (i.toNat * 2 + j)) = some u := hc0
  obtain rfl := k145_open hK
  exact ⟨ad, e, hc 0 _ rfl, by rw [← qam _ _ 1 (by omega)]; exact hc 1 _ rfl⟩
end Go.Proofs.YtpgkhmdfddejfaaDoor.PV
end
