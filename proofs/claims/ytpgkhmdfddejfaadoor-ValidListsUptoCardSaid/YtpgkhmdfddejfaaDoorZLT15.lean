import Derived.Test.YtpgkhmdfddejfaaDoorZLPVx0
import Derived.Test.YtpgkhmdfddejfaaDoorZLPVx9
import Derived.Test.YtpgkhmdfddejfaaDoorZLPVx16
section
namespace Go.Proofs.YtpgkhmdfddejfaaDoor.PV
open Go.RowKit Go.Proofs.YtpgkhmdfddejfaaDoorW.PrintWords Go.Proofs.YtpgkhmdfddejfaaDoorW.PrintLast Go.Proofs.YtpgkhmdfddejfaaDoorW.PrintMore
attribute [local go_sem] qcz qcx qdc qdb qcr qcq qcv qcy   -- for this text's walks alone
set_option linter.unusedVariables false
set_option linter.unusedSimpArgs false
set_option maxHeartbeats 4000000 in
set_option maxRecDepth 100000 in
theorem lists_walk (k : Nat) (A : Option Addr) (c : Nat) (l : List S36) (r : Bool) (w : World) (hF : Kd.F k36 w (fun k => k < w.heap.size) A l.length l) (hc : l.length ≤ c) (hl : l.length ≤ 2000000000) (hG : Lay w)
    (ha : qci.f k = some true) (h1 : qca.f k l = some r) (h2 : qck.f k l = some r) :
    Calls Tryd.prog 3 #[.slice A l.length c] w fun e w' => e = .returned (.bool true) ∧ Below w.heap.size w w' := by
  have hu22 := Tryd.underlying22
  have hu36 := Tryd.underlying36
  have HF := qd.mk hF
  have HC := qd.mk hc
  have HL := qd.mk hl
  have HG := qd.mk hG
  have HA := qd.mk ha
  have H1 := qd.mk h1
  have H2 := qd.mk h2
  clear hF hc hG ha h1 h2
  by_cases h60 : l.length ≤ 60
  · have hd : decide ((l.length : Int) > 60) = false := by simp; omega
    go_enter Tryd.func3, Tryd.ntmps3
    go_wp2_with (first
      | (go_at_call 7; (with_reducible refine (qci.calls k true w HG.out HA.out).mono ?_); rintro e w1 ⟨rfl, hb⟩; have HB1 := qd.mk hb; clear hb)
      | (at_builtin; refine Kd.N_append_rows k36 (w0 := w) w.heap.size rfl _ _ 22 36 _ 136 rfl Tryd.underlying22 info36 rfl (by decide) (by decide) (.slice none 0 0) [] l A l.length c (fun _ => True) (fun k => k < w.heap.size) rfl rfl (Kd.R_N (Kd.R_nil k36 36 _ _ _)) (Kd.qe2 HF.out HB1.out) (fun _ _ => ⟨trivial, by simp [Value.ownBlock]⟩) (fun _ _ => trivial) HB1.out HB1.out.size (by have := HL.out; simp; omega) ?_; intro v1 w2 hN hb hg hat; rw [List.nil_append] at hN; obtain ⟨A', c', rfl⟩ := Kd.N_slice hN; have HN := qd.mk hN; have HB2 := qd.mk hb; clear hN hb hg hat)
      | (go_at_call 8; (with_reducible refine (qca.calls k A' c' l r w2 (Kd.N_reads' HN.out).2.2 (Kd.N_reads' HN.out).2.1 (Lay.below HG.out HB2.out) H1.out).mono ?_); rintro e w3 ⟨rfl, hb⟩; have HB3 := qd.mk (qcg HB2.out HB2.out.size hb); clear hb)
      | (go_at_call 9; (with_reducible refine (qck.calls k A c l r w3 (Kd.F_now (Kd.qe2 HF.out HB3.out)) HC.out H2.out).mono ?_); rintro e w4 ⟨rfl, hb⟩; have HB4 := qd.mk (qcg HB3.out HB3.out.size hb); clear hb))
    go_ret
    exact ⟨by simp, HB4.out⟩
  · have hd : decide ((l.length : Int) > 60) = true := by simp; omega
    go_enter Tryd.func3, Tryd.ntmps3
    go_wp2_with (go_at_call 7; (with_reducible refine (qci.calls k true w HG.out HA.out).mono ?_); rintro e w1 ⟨rfl, hb⟩; have HB1 := qd.mk hb; clear hb)
    go_ret
    exact ⟨rfl, HB1.out⟩
end Go.Proofs.YtpgkhmdfddejfaaDoor.PV
end
