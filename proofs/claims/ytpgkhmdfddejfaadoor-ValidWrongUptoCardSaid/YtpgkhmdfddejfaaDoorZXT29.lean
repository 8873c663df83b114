/- ValidWrong: whatever tree and whatever three numbers come in (of bulk at most 1048576), the law returns true: a list that can be run can't any more when one number of it is turned or a node is added. Condition: the bound on the input's bulk (the second form). -/
import Derived.Test.YtpgkhmdfddejfaaDoorRows
import Derived.Test.YtpgkhmdfddejfaaDoorZXT13
import Derived.Test.YtpgkhmdfddejfaaDoorZXT22
import Derived.Deep.Slices
import Derived.Test.YtpgkhmdfddejfaaDoorZXPVx0
import Derived.Test.YtpgkhmdfddejfaaDoorCards
import Derived.Test.YtpgkhmdfddejfaaDoorTie
import Derived.Test.YtpgkhmdfddejfaaDoorZXLay
import Derived.WalkKit
import Derived.ProofKit
import Derived.OpenShut
import Derived.Deep.DeepHandedRow
import Derived.Deep.DeepWitnessRowRef
import Derived.Lib.LaidTab
import Derived.MakeChecks
import Derived.Test.YtpgkhmdfddejfaaDoorZXT28
section
namespace Go.Proofs.YtpgkhmdfddejfaaDoor.bulks
variable {H : Type}
theorem one_le (d : DataW H) : 1 ≤ Rows.uptoBulk d := by
  cases d
  case lit l => cases l <;> simp only [Rows.uptoBulk] <;> omega
  all_goals simp only [Rows.uptoBulk] <;> omega
theorem string_eq (s : List UInt8) : Rows.uptoBulk (DataW.lit (H := H) (.string s)) = s.length + 1 := by simp only [Rows.uptoBulk]
theorem q6p : ∀ {l : List (DataW H)} {d : DataW H}, d ∈ l → Rows.uptoBulk d ≤ Rows.uptoBulkAll l
  | x :: r, d, h => by
    rw [Rows.uptoBulkAll]
    rcases List.mem_cons.1 h with rfl | h
    · omega
    · have := q6p h
      omega
theorem length_le : ∀ l : List (DataW H), l.length ≤ Rows.uptoBulkAll l
  | [] => Nat.zero_le _
  | x :: r => by
    rw [Rows.uptoBulkAll, List.length_cons]
    have := length_le r
    have := one_le x
    omega
theorem slice_elems (es sp : List (DataW H)) : Rows.uptoBulkAll es + 1 ≤ Rows.uptoBulk (.slice es sp) := by
  simp only [Rows.uptoBulk]
  omega
set_option maxRecDepth 100000 in
theorem bound {l : List (DataW H)} (hk : Rows.uptoSmall H l = true) : Rows.uptoBulkAll l ≤ 1048576 := of_decide_eq_true hk
end Go.Proofs.YtpgkhmdfddejfaaDoor.bulks
end
section
namespace Go.Proofs.YtpgkhmdfddejfaaDoor.PV
open Go.RowKit Go.Proofs.YtpgkhmdfddejfaaDoorW.PrintWords Go.Proofs.YtpgkhmdfddejfaaDoorW.PrintLast Go.Proofs.YtpgkhmdfddejfaaDoorW.PrintMore
set_option linter.unusedVariables false
set_option linter.unusedSimpArgs false
section
variable {H : Type} {enc : TypeId × Value → H} {w : World} {base : Nat} {spare : Nat → Bool} {held : Bool}
theorem q8l {α : Type} (d : Kd α) (t e : TypeId) (ht : Tryd.prog.underlying t = some (.slice e)) (hc : Tryd.prog.cellsOf e = d.sz) (Rel : α → DataW H → Prop) {fuel : Nat} {cs : List Value} {x : DataW H × List MemPlace}
    (hel : ∀ n, n < fuel → ∀ cs' y, DataW.trod enc Tryd.prog w base spare held n e cs' = some y → ∃ s, d.K w s cs' ∧ Rel s y.1) (h : DataW.trod enc Tryd.prog w base spare held fuel t cs = some x) :
    ∃ (A : Option Addr) (c : Nat) (l : List α), cs = [.slice A l.length c] ∧ l.length ≤ c ∧ d.C w A l.length l ∧ ((x.1 = .nil ∧ l = []) ∨ ∃ Ds rest, x.1 = .slice Ds rest ∧ Ds.length = l.length ∧ ∀ i (h1 : i < l.length) (h2 : i < Ds.length), Rel l[i] Ds[i]) := by
  rcases DataW.trod_slice ht h with ⟨rfl, rfl⟩ | ⟨a, len, cap, elems, rest, n, hn, rfl, rfl, hb, hl, hm, hlen, hat, _, _⟩
  · exact ⟨none, 0, [], rfl, Nat.le_refl _, Kd.zgu d w, .inl ⟨rfl, rfl⟩⟩
  · have key : ∀ i (hi : i < len), ∃ s cs', w.cells? base (a.add (i * d.sz)) d.sz = some cs' ∧ d.K w s cs' ∧ Rel s (elems[i]'(by omega)).1 := by
      intro i hi
      have := hat i hi
      rw [hc, List.getElem?_eq_getElem (by omega)] at this
      obtain ⟨cs', h1, h2⟩ := Option.bind_eq_some_iff.mp this
      obtain ⟨s, h3, h4⟩ := hel n (by omega) cs' _ h2
      exact ⟨s, cs', h1, h3, h4⟩
    have hlist : ∃ l : List α, l.length = len ∧ ∀ i (hi : i < len) (hi2 : i < l.length), ∃ cs', w.cells? base (a.add (i * d.sz)) d.sz = some cs' ∧ d.K w l[i] cs' ∧ Rel l[i] (elems[i]'(by omega)).1 := by
      clear hat hel h hm hl
      have : ∀ m, (_hm : m ≤ len) → ∃ l : List α, l.length = m ∧ ∀ i (hi : i < m) (hi2 : i < l.length), ∃ cs', w.cells? base (a.add (i * d.sz)) d.sz = some cs' ∧ d.K w l[i] cs' ∧ Rel l[i] (elems[i]'(by omega)).1 := by
        intro m
        induction m with
        | zero => exact fun _ => ⟨[], rfl, fun i hi => by omega⟩
        | succ m ih =>
          intro hm
          obtain ⟨l, h1, h2⟩ := ih (by omega)
          obtain ⟨s, cs', h3, h4, h5⟩ := key m (by omega)
          refine ⟨l ++ [s], by simp [h1], fun i hi hi2 => ?_⟩
          by_cases hlt : i < m
          · obtain ⟨cs'', g1, g2, g3⟩ := h2 i hlt (by omega)
            rw [List.getElem_append_left (by omega)]
            exact ⟨cs'', g1, g2, g3⟩
          · obtain rfl : i = m := by omega
            rw [List.getElem_append_right (by omega)]
            simp only [h1, Nat.sub_self, List.getElem_cons_zero]
            exact ⟨cs', h3, h4, h5⟩
      obtain ⟨l, h1, h2⟩ := this len (Nat.le_refl _)
      exact ⟨l, h1, h2⟩
    obtain ⟨l, hll, hl2⟩ := hlist
    refine ⟨some a, cap, l, by rw [hll], by omega, ⟨rfl, by unfold maxLen at hm; omega, fun _ => ⟨a, rfl, fun j p hj => ?_⟩⟩, .inr ⟨_, _, rfl, by rw [List.length_map]; omega, fun i h1 h2 => ?_⟩⟩
    · have hjl := (List.getElem?_eq_some_iff.1 hj).1
      have hjv := (List.getElem?_eq_some_iff.1 hj).2
      obtain ⟨cs', g1, g2, g3⟩ := hl2 j (by omega) hjl
      rw [hjv] at g2
      obtain ⟨_, gl, gc⟩ := World.cells?_some g1
      refine ⟨cs', gl, g2, fun i u hu => ?_⟩
      have hiu := (List.getElem?_eq_some_iff.1 hu).1
      have := gc i (by omega)
      rw [hu] at this
      rw [← Go.Deep.add_add]
      exact this
    · obtain ⟨cs', g1, g2, g3⟩ := hl2 i (by omega) h1
      rw [List.getElem_map]
      exact g3
theorem i64_wf {n : Int} (h : (Lit.int .i64 n).wf = true) : -9223372036854775808 ≤ n := by
  have h1 : IntKind.i64.min = -9223372036854775808 := by decide
  simp only [Lit.wf, Bool.and_eq_true, decide_eq_true_eq] at h
  omega
theorem q67 {α : Type} {Rel : α → DataW H → Prop} {D : DataW H} {l : List α} {B : Nat} (h : (D = .nil ∧ l = []) ∨ ∃ Ds rest, D = .slice Ds rest ∧ Ds.length = l.length ∧ ∀ i (h1 : i < l.length) (h2 : i < Ds.length), Rel l[i] Ds[i]) (hB : Rows.uptoBulk D ≤ B) :
    l.length < B ∧ ∀ y ∈ l, ∃ D', Rel y D' ∧ Rows.uptoBulk D' < B := by
  rcases h with ⟨rfl, rfl⟩ | ⟨Ds, rest, rfl, hl, hr⟩
  · exact ⟨by have := bulks.one_le (DataW.nil (H := H)); simp; omega, fun y hy => by cases hy⟩
  · have h1 := bulks.slice_elems Ds rest
    have h2 := bulks.length_le Ds
    refine ⟨by omega, fun y hy => ?_⟩
    obtain ⟨i, hi, rfl⟩ := List.getElem_of_mem hy
    refine ⟨Ds[i]'(by omega), hr i hi (by omega), ?_⟩
    have := bulks.q6p (List.getElem_mem (show i < Ds.length by omega))
    omega
def zoz (s : S27) (D : DataW H) : Prop := ∀ B, Rows.uptoBulk D ≤ B → B ≤ 2000000000 → qhu s
theorem q0q : Tryd.prog.cellsOf 27 = 4 := by kernel_rfl
theorem cells30 : Tryd.prog.cellsOf 30 = 10 := by kernel_rfl
theorem cells3 : Tryd.prog.cellsOf 3 = 1 := by kernel_rfl
theorem cells9 : Tryd.prog.cellsOf 9 = 1 := by kernel_rfl
theorem cells25 : Tryd.prog.cellsOf 25 = 1 := by kernel_rfl
theorem cells28 : Tryd.prog.cellsOf 28 = 1 := by kernel_rfl
theorem sum4 (a b c d : DataW H) : Rows.uptoBulk (DataW.agg [a, b, c, d]) = Rows.uptoBulk a + Rows.uptoBulk b + Rows.uptoBulk c + Rows.uptoBulk d + 1 := by simp only [Rows.uptoBulk, Rows.uptoBulkAll]; omega
set_option maxRecDepth 100000 in
theorem read27 : ∀ (fuel : Nat) (cs : List Value) (x : DataW H × List MemPlace), DataW.trod enc Tryd.prog w base spare held fuel 27 cs = some x → ∃ s, k27.K w s cs ∧ zoz s x.1 := by
  intro fuel
  induction fuel using Nat.strongRecOn with
  | _ fuel ih =>
  intro cs x h
  obtain ⟨xs, n, hn, rfl, hlen, hxl, hf⟩ := DataW.trod_struct Tryd.underlying27 h
  rw [q0q] at hlen
  match cs, hlen with
  | [c0, c1, c2, c3], _ =>
    match xs, hxl with
    | [y0, y1, y2, y3], _ =>
      have f0 := hf 0 _ rfl
      have f1 := hf 1 _ rfl
      have f2 := hf 2 _ rfl
      have f3 := hf 3 _ rfl
      simp [cells3, cells9, cells25] at f0 f1 f2 f3
      obtain ⟨n0, e0, rfl, w0⟩ := DataW.trod_int Tryd.underlying3 f0
      obtain ⟨n1, e1, rfl, w1⟩ := DataW.trod_int Tryd.underlying3 f1
      obtain ⟨s2, e2, rfl, w2⟩ := DataW.trod_string Tryd.underlying9 f2
      obtain ⟨A3, k3, l3, e3, hl3, hC3, hr3⟩ := q8l k27 25 27 Tryd.underlying25 q0q zoz (fun m hm cs' y hy => ih m (by omega) cs' y hy) f3
      simp only [List.cons.injEq, and_true] at e0 e1 e2 e3
      subst e0 e1 e2 e3
      refine ⟨⟨n0, n1, s2, l3⟩, zjh w ⟨n0, n1, s2, l3⟩ hl3 hC3, fun B hB hB2 => ?_⟩
      simp only [List.map_cons, List.map_nil] at hB
      rw [sum4, bulks.string_eq] at hB
      obtain ⟨g1, g2⟩ := q67 (B := B) hr3 (by omega)
      have hs2 : s2.data.toList.length = s2.size := by simp
      refine qhu.mk ⟨n0, n1, s2, l3⟩ (show l3.length ≤ 2000000000 by omega) (i64_wf w1) (show s2.size ≤ 2000000000 by omega) (fun y hy => ?_)
      obtain ⟨D', hD, hlt⟩ := g2 y hy
      exact hD B (by omega) hB2
def zo0 (s : S30) (D : DataW H) : Prop := ∀ B, Rows.uptoBulk D ≤ B → B ≤ 2000000000 → qdl B s ∧ cnt B s ≤ Rows.uptoBulk D
theorem sum_all (B : Nat) : ∀ (l : List S30) (Ds : List (DataW H)), Ds.length = l.length → (∀ i (h1 : i < l.length) (h2 : i < Ds.length), cnt B l[i] ≤ Rows.uptoBulk Ds[i]) → (l.map (cnt B)).sum ≤ Rows.uptoBulkAll Ds
  | [], _, _, _ => by simp
  | _ :: _, [], h, _ => by simp at h
  | x :: l, D :: Ds, h, hc => by
    rw [List.map_cons, List.sum_cons, Rows.uptoBulkAll]
    have h0 := hc 0 (by simp) (by simp)
    have h1 := sum_all B l Ds (by simpa using h) (fun i h1 h2 => hc (i + 1) (by simp; omega) (by simp; omega))
    simp only [List.getElem_cons_zero] at h0
    omega
theorem bulk_sum {D : DataW H} {l : List S30} {B : Nat} (h : (D = .nil ∧ l = []) ∨ ∃ Ds rest, D = .slice Ds rest ∧ Ds.length = l.length ∧ ∀ i (h1 : i < l.length) (h2 : i < Ds.length), zo0 l[i] Ds[i]) (hB : Rows.uptoBulk D ≤ B) (hB2 : B ≤ 2000000000) : (l.map (cnt B)).sum ≤ Rows.uptoBulk D := by
  rcases h with ⟨rfl, rfl⟩ | ⟨Ds, rest, rfl, hl, hr⟩
  · simp
  · have h1 := bulks.slice_elems Ds rest
    have h2 := sum_all B l Ds hl (fun i h1' h2' => (hr i h1' h2' B (by have := bulks.q6p (List.getElem_mem h2'); omega) hB2).2)
    omega
theorem sum7 (a b c d e f g : DataW H) : Rows.uptoBulk (DataW.agg [a, b, c, d, e, f, g]) = Rows.uptoBulk a + Rows.uptoBulk b + Rows.uptoBulk c + Rows.uptoBulk d + Rows.uptoBulk e + Rows.uptoBulk f + Rows.uptoBulk g + 1 := by simp only [Rows.uptoBulk, Rows.uptoBulkAll]; omega
set_option maxRecDepth 100000 in
theorem read30 : ∀ (fuel : Nat) (cs : List Value) (x : DataW H × List MemPlace), DataW.trod enc Tryd.prog w base spare held fuel 30 cs = some x → ∃ s, k30.K w s cs ∧ zo0 s x.1 := by
  intro fuel
  induction fuel using Nat.strongRecOn with
  | _ fuel ih =>
  intro cs x h
  obtain ⟨xs, n, hn, rfl, hlen, hxl, hf⟩ := DataW.trod_struct Tryd.underlying30 h
  rw [cells30] at hlen
  match cs, hlen with
  | [c0, c1, c2, c3, c4, c5, c6, c7, c8, c9], _ =>
    match xs, hxl with
    | [y0, y1, y2, y3, y4, y5, y6], _ =>
      have f0 := hf 0 _ rfl
      have f1 := hf 1 _ rfl
      have f2 := hf 2 _ rfl
      have f3 := hf 3 _ rfl
      have f4 := hf 4 _ rfl
      have f5 := hf 5 _ rfl
      have f6 := hf 6 _ rfl
      simp [cells3, cells9, cells25, q0q, cells28] at f0 f1 f2 f3 f4 f5 f6
      obtain ⟨n0, e0, rfl, w0⟩ := DataW.trod_int Tryd.underlying3 f0
      obtain ⟨n1, e1, rfl, w1⟩ := DataW.trod_int Tryd.underlying3 f1
      obtain ⟨n2, e2, rfl, w2⟩ := DataW.trod_int Tryd.underlying3 f2
      obtain ⟨s3, e3, rfl, w3⟩ := DataW.trod_string Tryd.underlying9 f3
      obtain ⟨x4, hx4, r4⟩ := read27 n _ _ f4
      obtain ⟨A5, k5, l5, e5, hl5, hC5, hr5⟩ := q8l k30 28 30 Tryd.underlying28 cells30 zo0 (fun m hm cs' y hy => ih m (by omega) cs' y hy) f5
      obtain ⟨A6, k6, l6, e6, hl6, hC6, hr6⟩ := q8l k27 25 27 Tryd.underlying25 q0q zoz (fun m _ cs' y hy => read27 m cs' y hy) f6
      obtain ⟨A4, k4, e4, hl4, hC4⟩ := qzq hx4
      simp only [List.cons.injEq, and_true] at e0 e1 e2 e3 e4 e5 e6
      obtain ⟨e40, e41, e42, e43⟩ := e4
      subst e0 e1 e2 e3 e40 e41 e42 e43 e5 e6
      refine ⟨⟨n0, n1, n2, s3, x4, l5, l6⟩, k30_mk w ⟨n0, n1, n2, s3, x4, l5, l6⟩ hl4 hC4 hl5 hC5 hl6 hC6, fun B hB hB2 => ?_⟩
      simp only [List.map_cons, List.map_nil] at hB
      rw [sum7, bulks.string_eq] at hB
      obtain ⟨B, rfl⟩ : ∃ b, B = b + 1 := ⟨B - 1, by omega⟩
      obtain ⟨g1, g2⟩ := q67 (B := B) hr5 (by omega)
      obtain ⟨g3, g4⟩ := q67 (B := B) hr6 (by omega)
      have g5 := bulk_sum (B := B) hr5 (by omega) (by omega)
      refine ⟨⟨?_, r4 B (by omega) (by omega), by show l5.length ≤ _; omega, fun y hy => ?_, by show l6.length ≤ _; omega, fun y hy => ?_⟩, by simp only [List.map_cons, List.map_nil]; rw [cnt, sum7]; show 1 + (l5.map (cnt B)).sum ≤ _; omega⟩
      · show s3.size ≤ _
        have : s3.data.toList.length = s3.size := by simp
        omega
      · obtain ⟨D', hD, hlt⟩ := g2 y hy
        exact (hD B (by omega) (by omega)).1
      · obtain ⟨D', hD, hlt⟩ := g4 y hy
        exact hD B (by omega) (by omega)
end
end Go.Proofs.YtpgkhmdfddejfaaDoor.PV
end
section
namespace Go.Proofs.YtpgkhmdfddejfaaDoor
open Go.ChangeShapes Go.WideShapes Go.ChangeAt Go.RowKit
theorem Tryd.own : ownKnob Tryd.prog.godebug = none := by kernel_rfl
theorem Tryd.laidOut : laidOutB Tryd.prog = true := by kernel_rfl
theorem gTabType : (Tryd.prog.globals[0]?).map (·.type) = some 147 := by kernel_rfl
theorem cells147 : Tryd.prog.cellsOf 147 = 256 := by kernel_rfl
theorem cells5 : Tryd.prog.cellsOf 5 = 1 := by kernel_rfl
theorem laid_eq : ([("unicode.White_Space", Rows.laid_unicode_White_Space), ("strings.asciiSpace", Rows.laid_strings_asciiSpace)] : List (String × DataW Unit)).filter (fun x => x.1 == "strings.asciiSpace") = [("strings.asciiSpace", Lib.tabData .u8 Lib.asciiSpaceTab)] := by kernel_rfl
theorem lay_of {W : World} (h : laidMetH Tryd.prog [("unicode.White_Space", Rows.laid_unicode_White_Space), ("strings.asciiSpace", Rows.laid_strings_asciiSpace)] W) : Lay W := by
  have h2 := laidMetH.filter (fun x => x.1 == "strings.asciiSpace") h
  rw [laid_eq, Go.MakeChecks.laidMetH_plain _ _ _ (by kernel_rfl)] at h2
  exact Lib.tabIs_of_head lay_global gTabType Tryd.underlying147 Tryd.underlying5 cells5 cells147 h2
noncomputable def qz7 (os : Os) : World :=
  let N := (World.settled Tryd.prog os).heap.size
  let w0 := World.holding Tryd.prog os ⟨#[.cells (([9, 13, 1, 32, 133, 101, 160, 5760, 5600, 8192, 8202, 1, 8232, 8233, 1, 8239, 8287, 48, 12288, 12288, 1] : List Nat).map fun (z : Nat) => Value.int .u16 (z : Int)).toArray 162, .cells #[.slice (some ⟨N, 0, none⟩) 7 7, .slice none 0 0, .int .i64 2] 159], #[], []⟩
  let put (h : Array Obj) (g : Nat) (cs : Array Value) : Array Obj := h.modify g fun
    | .cells _ t frozen => .cells cs t frozen
    | o => o
  let h1 := put w0.heap 0 (Lib.asciiSpaceTab.map fun z => Value.int .u8 z).toArray
  let h2 := put h1 1 #[.pointer (some ⟨N + 1, 0, none⟩)]
  { w0 with heap := h2 }
theorem laid_met (os : Os) (args : Array Value) : laidMet Tryd.prog [("unicode.White_Space", Rows.laid_unicode_White_Space), ("strings.asciiSpace", Rows.laid_strings_asciiSpace)] ((qz7 os).forCall (fun _ _ => 0) ⟨#[], args, []⟩).memory :=
  laidMet_of_run' 8 (by kernel_rfl) (by kernel_rfl)
end Go.Proofs.YtpgkhmdfddejfaaDoor
end
section
namespace Go.Proofs.YtpgkhmdfddejfaaDoor.validWrong
open Go.ChangeShapes Go.WideShapes Go.ChangeAt Go.RowKit
open Go.Proofs.YtpgkhmdfddejfaaDoor.PV Go.Proofs.YtpgkhmdfddejfaaDoorW.PrintWords
theorem heap27 : Kd.Heap k27 := Kd.q7l (fun _ h_ => Kd.qxu _ (Kd.qcc (Kd.qfg .i64) (Kd.qcc (Kd.qfg .i64) (Kd.qcc Kd.qmv (Kd.qmc 27 h_)))))
theorem heap30 : Kd.Heap k30 := Kd.q7l (fun _ h_ => Kd.qxu _ (Kd.qcc (Kd.qfg .i64) (Kd.qcc (Kd.qfg .i64) (Kd.qcc (Kd.qfg .i64) (Kd.qcc Kd.qmv (Kd.qcc heap27 (Kd.qcc (Kd.qmc 30 h_) (Kd.qmc 27 heap27))))))))
theorem walk (d : Nat) (n : S30) (W : World) (A7 : Option Addr) (c7 : Nat) (A8 : Option Addr) (c8 : Nat) (A9 : Option Addr) (c9 : Nat) (at_ which by_ : Int) (hfit : qdl d n) (hcnt : cnt d n ≤ 1000000000) (hE : qe6 W n A7 c7 A8 c8 A9 c9) (hG : Lay W) :
    Calls Tryd.prog 5 #[.agg #[.int .i64 n.f0, .int .i64 n.f1, .int .i64 n.f2, .string n.f3, .int .i64 n.f4.f0, .int .i64 n.f4.f1, .string n.f4.f2, .slice A7 n.f4.f3.length c7, .slice A8 n.f5.length c8, .slice A9 n.f6.length c9], .int .i64 at_, .int .i64 which, .int .i64 by_] W fun e w' => e = .returned (.bool true) ∧ Below W.heap.size W w' := by
  obtain ⟨r, ⟨k1, h1⟩, hr⟩ := ref_flat d n hfit (by omega)
  obtain ⟨k2, h2⟩ := alive_ev
  obtain ⟨k3, h3⟩ : ∃ k, ∀ m, k ≤ m → r = true → 1 ≤ by_ → qae.f m (q0c (yu d [] n (-1)) (at_.toNat % cnt d n) which by_) = some false := by
    by_cases h : r = true ∧ 1 ≤ by_
    · obtain ⟨k, hk⟩ := wrong_ev d n hfit (hr h.1) hcnt (at_.toNat % cnt d n) (Nat.mod_lt _ (q91 hfit)) which by_ h.2
      exact ⟨k, fun m hm _ _ => hk m hm⟩
    · exact ⟨0, fun _ _ h1 h2 => absurd ⟨h1, h2⟩ h⟩
  exact wrong_walk (k1 + k2 + k3) d n W A7 c7 A8 c8 A9 c9 at_ which by_ r hfit hcnt hE hG (h2 _ (by omega)) (h1 _ (by omega)) hr (h3 _ (by omega))
set_option maxRecDepth 100000 in
theorem contract (H : Type) (enc : TypeId × Value → H) (W : World) (base : Nat) (args : Array Value) (ds gs : List (DataW H)) (before : List MemPlace)
    (hval : ∀ (j : Nat) t v, Tryd.f5.params[j]? = some t → args[j]? = some v → Value.okWide Tryd.prog W .any base t v)
    (hW : DataW.Whole enc Tryd.prog Tryd.f5.params.toList Rows.validWrongSpec.vars false W args.toList ds gs before) (hL : laidMetH Tryd.prog Rows.validWrongUptoRow.laid W) (hk : Rows.uptoSmall H (ds ++ gs) = true) :
    Calls Tryd.prog 5 args W fun e W' => ∃ v, e = .returned v ∧ Rows.validWrongSpec.post enc Tryd.prog Tryd.f5 false true false false W args v W' := by
  have hW' := hW
  obtain ⟨p, q, hA0, hV, rfl, hfz, hnd⟩ := hW
  have hA : DataW.TrodAll enc Tryd.prog W 0 (fun _ => true) true Tryd.f5.params.toList args.toList ds p := hA0
  rw [Tryd.params5] at hA hval
  obtain ⟨v0, vs0, d0, ds0, p0, q0, hargs, rfl, rfl, h0, r0⟩ := trodAll_cons hA
  obtain ⟨v1, vs1, d1, ds1, p1, q1, rfl, rfl, rfl, h1, r1⟩ := trodAll_cons r0
  obtain ⟨v2, vs2, d2, ds2, p2, q2, rfl, rfl, rfl, h2, r2⟩ := trodAll_cons r1
  obtain ⟨v3, vs3, d3, ds3, p3, q3, rfl, rfl, rfl, h3, r3⟩ := trodAll_cons r2
  obtain ⟨rfl, rfl, rfl⟩ := trodAll_nil r3
  obtain rfl : args = #[v0, v1, v2, v3] := by cases args; simp_all
  obtain ⟨rfl, rfl⟩ := trodVars_none hV
  obtain ⟨i1, rfl⟩ := okWide_int Tryd.underlying3 (hval 1 3 v1 rfl rfl)
  obtain ⟨i2, rfl⟩ := okWide_int Tryd.underlying3 (hval 2 3 v2 rfl rfl)
  obtain ⟨i3, rfl⟩ := okWide_int Tryd.underlying3 (hval 3 3 v3 rfl rfl)
  have k1 := h1
  have k2 := h2
  have k3 := h3
  have lt1 : ∀ x ∈ p1, x.block < W.heap.size := by obtain ⟨m, hm⟩ := k1; exact DataW.trod_lt m _ _ _ hm
  have lt2 : ∀ x ∈ p2, x.block < W.heap.size := by obtain ⟨m, hm⟩ := k2; exact DataW.trod_lt m _ _ _ hm
  have lt3 : ∀ x ∈ p3, x.block < W.heap.size := by obtain ⟨m, hm⟩ := k3; exact DataW.trod_lt m _ _ _ hm
  obtain ⟨cs, rfl, _⟩ := okWide_struct Tryd.underlying30 (hval 0 30 v0 rfl rfl)
  have k0 := h0
  have lt0 : ∀ x ∈ p0, x.block < W.heap.size := by obtain ⟨m, hm⟩ := k0; exact DataW.trod_lt m _ _ _ hm
  obtain ⟨fuel, hf⟩ := h0
  obtain ⟨n, hK, hR⟩ := read30 fuel _ _ hf
  obtain ⟨B, hB, hbulk⟩ : ∃ B, B = 1048576 ∧ Rows.uptoBulk d0 ≤ B := ⟨_, rfl, Nat.le_trans (bulks.q6p (by simp)) (bulks.bound hk)⟩
  have hB2 : B ≤ 2000000000 := by omega
  obtain ⟨hfit, hcnt⟩ := hR B hbulk hB2
  obtain ⟨A7, c7, A8, c8, A9, c9, hcs, l7, g7, l8, g8, l9, g9⟩ := qok hK
  have hcs2 : cs.toList = [.int .i64 n.f0, .int .i64 n.f1, .int .i64 n.f2, .string n.f3, .int .i64 n.f4.f0, .int .i64 n.f4.f1, .string n.f4.f2, .slice A7 n.f4.f3.length c7, .slice A8 n.f5.length c8, .slice A9 n.f6.length c9] := by simpa [Value.cells] using hcs
  obtain rfl : cs = #[.int .i64 n.f0, .int .i64 n.f1, .int .i64 n.f2, .string n.f3, .int .i64 n.f4.f0, .int .i64 n.f4.f1, .string n.f4.f2, .slice A7 n.f4.f3.length c7, .slice A8 n.f5.length c8, .slice A9 n.f6.length c9] := Array.ext' hcs2
  clear hA0
  have hE : qe6 W n A7 c7 A8 c8 A9 c9 := ⟨l7, Kd.C_F heap27 g7, l8, Kd.C_F heap30 g8, l9, Kd.C_F heap27 g9⟩
  refine (walk B n W A7 c7 A8 c8 A9 c9 i1 i2 i3 hfit (Nat.le_trans hcnt (Nat.le_trans hbulk (by omega))) hE (lay_of hL)).mono fun e W' ⟨he, bel⟩ => ?_
  subst he
  exact ⟨_, rfl, _, _, _, [], _, [], hW', trodAll_mk1 (shut_bool Tryd.underlying4 _), (trodAll_cons_mk (Below.trod Tryd.laidOut (by kernel_rfl) (of_decide_eq_true (by kernel_rfl)) k0 bel lt0) (trodAll_cons_mk (Below.trod Tryd.laidOut (by kernel_rfl) (of_decide_eq_true (by kernel_rfl)) k1 bel lt1) (trodAll_cons_mk (Below.trod Tryd.laidOut (by kernel_rfl) (of_decide_eq_true (by kernel_rfl)) k2 bel lt2) (trodAll_cons_mk (Below.trod Tryd.laidOut (by kernel_rfl) (of_decide_eq_true (by kernel_rfl)) k3 bel lt3) trodAll_mk0)))), rfl, bel.frame _, fun h => by cases h⟩
def none30 : Value := .agg #[.int .i64 0, .int .i64 0, .int .i64 0, .string ⟨#[]⟩, .int .i64 0, .int .i64 0, .string ⟨#[]⟩, .slice none 0 0, .slice none 0 0, .slice none 0 0]
def data30 (H : Type) : DataW H := .agg [.lit (.int .i64 0), .lit (.int .i64 0), .lit (.int .i64 0), .lit (.string []), .agg [.lit (.int .i64 0), .lit (.int .i64 0), .lit (.string []), .nil], .nil, .nil]
theorem reads (os : Os) {H : Type} (enc : TypeId × Value → H) : ∃ places, DataW.whole enc Tryd.prog ((qz7 os).forCall (fun _ _ => 0) ⟨#[], #[none30, .int .i64 0, .int .i64 0, .int .i64 0], []⟩).memory Tryd.f5.params.toList Rows.validWrongSpec.vars false #[none30, .int .i64 0, .int .i64 0, .int .i64 0].toList 8 = some ([data30 H, .lit (.int .i64 0), .lit (.int .i64 0), .lit (.int .i64 0)], [], places) :=
  ⟨[], by kernel_rfl⟩
set_option maxRecDepth 100000 in
theorem liftedUpto (os : Os) (started : os.Started) (H : Type) (enc : TypeId × Value → H) (F : Stop.Interp) :
    ReturnsInHanded {} Tryd.checked os 5 .any ((Rows.OpenSpec.upto Rows.validWrongSpec).preRow enc Tryd.prog Tryd.f5 Rows.validWrongUptoRow.domain false Rows.validWrongUptoRow.laid) (((Rows.OpenSpec.upto Rows.validWrongSpec).at F).post enc Tryd.prog Tryd.f5 false true false false) := by
  obtain ⟨places, hx⟩ := reads os enc
  refine returnsInHanded_of_row (C := Tryd.checked) (s := Rows.OpenSpec.upto Rows.validWrongSpec) Tryd.own started (by kernel_rfl) Tryd.func5
    (witness_row_atRef (enc := enc) (C := Tryd.checked) false (qz7 os) #[none30, .int .i64 0, .int .i64 0, .int .i64 0] rfl (by kernel_rfl) (by kernel_rfl) (by kernel_rfl)
      (OpenSpec.preRow_of_cond 8 hx (by kernel_rfl) (fun k hk => by cases hk; kernel_rfl) (by kernel_rfl) (laid_met os _))) ?_
  intro W base args ds gs before hval hW _ hcond _ hL _ _
  exact contract H enc W base args ds gs before hval hW hL (hcond _ rfl)
theorem saidUpto : Rows.ValidWrongUptoSaid :=
  OpenClaim.holds_of_cond 5 Tryd.f5 rfl rfl rfl rfl rfl rfl rfl ⟨rfl, rfl, rfl, rfl, rfl⟩ rfl rfl rfl rfl rfl (by kernel_rfl) Tryd.func5 (by kernel_rfl)
    (of_decide_eq_true (by kernel_rfl)) (by unfold Func.isWrapper; first | (rw [if_pos (by decide +kernel)]; kernel_rfl) | (rw [if_neg (by decide +kernel)]; exact ⟨rfl, rfl⟩))
    (fun os started H enc _ F => by rw [OpenClaim.pre_eq_preRow]; exact liftedUpto os started H enc F)
theorem plain (f : FuncId) (fn : Func) (hf : Tryd.pinned.checked.prog.funcNamed "puppeteer/puppeteerlaw16.ValidWrong" = some f) (hfn : Tryd.pinned.checked.prog.funcs[f]? = some fn) :
    false = Tryd.pinned.checked.prog.looks [] ∧ ∀ (j : Nat) t, fn.params[j]? = some t → Tryd.pinned.checked.prog.wantsStandIn t = false := by
  obtain rfl : f = 5 := Option.some.inj ((show Tryd.prog.funcNamed "puppeteer/puppeteerlaw16.ValidWrong" = some 5 by kernel_rfl).symm.trans hf) |>.symm
  obtain rfl : fn = Tryd.f5 := (Option.some.inj (Tryd.func5.symm.trans hfn)).symm
  refine ⟨by kernel_rfl, fun j t ht => ?_⟩
  rw [Tryd.params5] at ht
  have ht : t = 30 ∨ t = 3 := by simpa using Array.mem_of_getElem? ht
  rcases ht with rfl | rfl
  · exact (show Tryd.prog.wantsStandIn 30 = false by kernel_rfl)
  · exact (show Tryd.prog.wantsStandIn 3 = false by kernel_rfl)
end Go.Proofs.YtpgkhmdfddejfaaDoor.validWrong
namespace Go.Proofs.YtpgkhmdfddejfaaDoor
theorem validWrong_upto : Rows.ValidWrongUptoCardSaid :=
  Claim7.holds_tied_plain_at .later [] _ _ _ _ validWrong.saidUpto (fun _ h => by cases h) (by kernel_rfl) (fun _ h => by cases h) validWrongUpto_row_tie rfl ⟨rfl, rfl⟩ (by kernel_rfl) rfl validWrong.plain (by kernel_rfl)
#print axioms validWrong_upto
end Go.Proofs.YtpgkhmdfddejfaaDoor
end
