/- ValidLists: whatever list of flat nodes comes in (of bulk at most 1048576), the law returns true: valid.Right and the reference's Right tell the same of each list of at most 60 flat nodes. Condition: the bound on the input's bulk (the second form). -/
import Derived.Test.YtpgkhmdfddejfaaDoorRows
import Derived.Test.YtpgkhmdfddejfaaDoorZLT13
import Derived.Deep.Slices
import Derived.Test.YtpgkhmdfddejfaaDoorZLPVx0
import Derived.Test.YtpgkhmdfddejfaaDoorCards
import Derived.Test.YtpgkhmdfddejfaaDoorTie
import Derived.Test.YtpgkhmdfddejfaaDoorZLLay
import Derived.WalkKit
import Derived.ProofKit
import Derived.OpenShut
import Derived.Deep.DeepHandedRow
import Derived.Deep.DeepWitnessRowRef
import Derived.Lib.LaidTab
import Derived.MakeChecks
import Derived.Test.YtpgkhmdfddejfaaDoorZLT15
section
namespace Go.Proofs.YtpgkhmdfddejfaaDoor.bulks
variable {H : Type}
theorem one_le (d : DataW H) : 1 ≤ Rows.uptoBulk d := by
  cases d
  case lit l => cases l <;> simp only [Rows.uptoBulk] <;> omega
  all_goals simp only [Rows.uptoBulk] <;> omega
theorem string_eq (s : List UInt8) : Rows.uptoBulk (DataW.lit (H := H) (.string s)) = s.length + 1 := by simp only [Rows.uptoBulk]
theorem part_le : ∀ {l : List (DataW H)} {d : DataW H}, d ∈ l → Rows.uptoBulk d ≤ Rows.uptoBulkAll l
  | x :: r, d, h => by
    rw [Rows.uptoBulkAll]
    rcases List.mem_cons.1 h with rfl | h
    · omega
    · have := part_le h
      omega
theorem length_le : ∀ l : List (DataW H), l.length ≤ Rows.uptoBulkAll l
  | [] => Nat.zero_le _
  | x :: r => by
    rw [Rows.uptoBulkAll, List.length_cons]
    have := length_le r
    have := one_le x
    omega
theorem slice_elems (es sp : List (DataW H)) : Rows.uptoBulkAll es + 1 ≤ Rows.uptoBulk (.slice es sp) := by
  simp only [Rows.uptoBulk]
  omega
set_option maxRecDepth 100000 in
theorem bound {l : List (DataW H)} (hk : Rows.uptoSmall H l = true) : Rows.uptoBulkAll l ≤ 1048576 := of_decide_eq_true hk
theorem bound_one {d : DataW H} {gs : List (DataW H)} (hk : Rows.uptoSmall H ([d] ++ gs) = true) : ∃ B, B = 1048576 ∧ Rows.uptoBulk d ≤ B := by
  have h := bound hk
  rw [List.cons_append, Rows.uptoBulkAll] at h
  exact ⟨_, rfl, by omega⟩
end Go.Proofs.YtpgkhmdfddejfaaDoor.bulks
end
section
namespace Go.Proofs.YtpgkhmdfddejfaaDoor.PV
open Go.RowKit Go.Proofs.YtpgkhmdfddejfaaDoorW.PrintWords Go.Proofs.YtpgkhmdfddejfaaDoorW.PrintLast Go.Proofs.YtpgkhmdfddejfaaDoorW.PrintMore
set_option linter.unusedVariables false
set_option linter.unusedSimpArgs false
section
variable {H : Type} {enc : TypeId × Value → H} {w : World} {base : Nat} {spare : Nat → Bool} {held : Bool}
theorem read_row {α : Type} (d : Kd α) (t e : TypeId) (ht : Tryd.prog.underlying t = some (.slice e)) (hc : Tryd.prog.cellsOf e = d.sz) (Rel : α → DataW H → Prop) {fuel : Nat} {cs : List Value} {x : DataW H × List MemPlace}
    (hel : ∀ n, n < fuel → ∀ cs' y, DataW.trod enc Tryd.prog w base spare held n e cs' = some y → ∃ s, d.K w s cs' ∧ Rel s y.1) (h : DataW.trod enc Tryd.prog w base spare held fuel t cs = some x) :
    ∃ (A : Option Addr) (c : Nat) (l : List α), cs = [.slice A l.length c] ∧ l.length ≤ c ∧ d.C w A l.length l ∧ ((x.1 = .nil ∧ l = []) ∨ ∃ Ds rest, x.1 = .slice Ds rest ∧ Ds.length = l.length ∧ ∀ i (h1 : i < l.length) (h2 : i < Ds.length), Rel l[i] Ds[i]) := by
  rcases DataW.trod_slice ht h with ⟨rfl, rfl⟩ | ⟨a, len, cap, elems, rest, n, hn, rfl, rfl, hb, hl, hm, hlen, hat, _, _⟩
  · exact ⟨none, 0, [], rfl, Nat.le_refl _, Kd.C_nil d w, .inl ⟨rfl, rfl⟩⟩
  · have key : ∀ i (hi : i < len), ∃ s cs', w.cells? base (a.add (i * d.sz)) d.sz = some cs' ∧ d.K w s cs' ∧ Rel s (elems[i]'(by omega)).1 := by
      intro i hi
      have := hat i hi
      rw [hc, List.getElem?_eq_getElem (by omega)] at this
      obtain ⟨cs', h1, h2⟩ := Option.bind_eq_some_iff.mp this
      obtain ⟨s, h3, h4⟩ := hel n (by omega) cs' _ h2
      exact ⟨s, cs', h1, h3, h4⟩
    have hlist : ∃ l : List α, l.length = len ∧ ∀ i (hi : i < len) (hi2 : i < l.length), ∃ cs', w.cells? base (a.add (i * d.sz)) d.sz = some cs' ∧ d.K w l[i] cs' ∧ Rel l[i] (elems[i]'(by omega)).1 := by
      clear hat hel h hm hl
      have : ∀ m, (_hm : m ≤ len) → ∃ l : List α, l.length = m ∧ ∀ i (hi : i < m) (hi2 : i < l.length), ∃ cs', w.cells? base (a.add (i * d.sz)) d.sz = some cs' ∧ d.K w l[i] cs' ∧ Rel l[i] (elems[i]'(by omega)).1 := by
        intro m
        induction m with
        | zero => exact fun _ => ⟨[], rfl, fun i hi => by omega⟩
        | succ m ih =>
          intro hm
          obtain ⟨l, h1, h2⟩ := ih (by omega)
          obtain ⟨s, cs', h3, h4, h5⟩ := key m (by omega)
          refine ⟨l ++ [s], by simp [h1], fun i hi hi2 => ?_⟩
          by_cases hlt : i < m
          · obtain ⟨cs'', g1, g2, g3⟩ := h2 i hlt (by omega)
            rw [List.getElem_append_left (by omega)]
            exact ⟨cs'', g1, g2, g3⟩
          · obtain rfl : i = m := by omega
            rw [List.getElem_append_right (by omega)]
            simp only [h1, Nat.sub_self, List.getElem_cons_zero]
            exact ⟨cs', h3, h4, h5⟩
      obtain ⟨l, h1, h2⟩ := this len (Nat.le_refl _)
      exact ⟨l, h1, h2⟩
    obtain ⟨l, hll, hl2⟩ := hlist
    refine ⟨some a, cap, l, by rw [hll], by omega, ⟨rfl, by unfold maxLen at hm; omega, fun _ => ⟨a, rfl, fun j p hj => ?_⟩⟩, .inr ⟨_, _, rfl, by rw [List.length_map]; omega, fun i h1 h2 => ?_⟩⟩
    · have hjl := (List.getElem?_eq_some_iff.1 hj).1
      have hjv := (List.getElem?_eq_some_iff.1 hj).2
      obtain ⟨cs', g1, g2, g3⟩ := hl2 j (by omega) hjl
      rw [hjv] at g2
      obtain ⟨_, gl, gc⟩ := World.cells?_some g1
      refine ⟨cs', gl, g2, fun i u hu => ?_⟩
      have hiu := (List.getElem?_eq_some_iff.1 hu).1
      have := gc i (by omega)
      rw [hu] at this
      rw [← Go.Deep.add_add]
      exact this
    · obtain ⟨cs', g1, g2, g3⟩ := hl2 i (by omega) h1
      rw [List.getElem_map]
      exact g3
theorem i64_wf {n : Int} (h : (Lit.int .i64 n).wf = true) : -9223372036854775808 ≤ n := by
  have h1 : IntKind.i64.min = -9223372036854775808 := by decide
  simp only [Lit.wf, Bool.and_eq_true, decide_eq_true_eq] at h
  omega
theorem bulk_row {α : Type} {Rel : α → DataW H → Prop} {D : DataW H} {l : List α} {B : Nat} (h : (D = .nil ∧ l = []) ∨ ∃ Ds rest, D = .slice Ds rest ∧ Ds.length = l.length ∧ ∀ i (h1 : i < l.length) (h2 : i < Ds.length), Rel l[i] Ds[i]) (hB : Rows.uptoBulk D ≤ B) :
    l.length < B ∧ ∀ y ∈ l, ∃ D', Rel y D' ∧ Rows.uptoBulk D' < B := by
  rcases h with ⟨rfl, rfl⟩ | ⟨Ds, rest, rfl, hl, hr⟩
  · exact ⟨by have := bulks.one_le (DataW.nil (H := H)); simp; omega, fun y hy => by cases hy⟩
  · have h1 := bulks.slice_elems Ds rest
    have h2 := bulks.length_le Ds
    refine ⟨by omega, fun y hy => ?_⟩
    obtain ⟨i, hi, rfl⟩ := List.getElem_of_mem hy
    refine ⟨Ds[i]'(by omega), hr i hi (by omega), ?_⟩
    have := bulks.part_le (List.getElem_mem (show i < Ds.length by omega))
    omega
def Rel27 (s : S27) (D : DataW H) : Prop := ∀ B, Rows.uptoBulk D ≤ B → B ≤ 2000000000 → Fit27 s
theorem cells27 : Tryd.prog.cellsOf 27 = 4 := by kernel_rfl
theorem cells36 : Tryd.prog.cellsOf 36 = 11 := by kernel_rfl
theorem cells3 : Tryd.prog.cellsOf 3 = 1 := by kernel_rfl
theorem cells9 : Tryd.prog.cellsOf 9 = 1 := by kernel_rfl
theorem cells25 : Tryd.prog.cellsOf 25 = 1 := by kernel_rfl
theorem sum4 (a b c d : DataW H) : Rows.uptoBulk (DataW.agg [a, b, c, d]) = Rows.uptoBulk a + Rows.uptoBulk b + Rows.uptoBulk c + Rows.uptoBulk d + 1 := by simp only [Rows.uptoBulk, Rows.uptoBulkAll]; omega
set_option maxRecDepth 100000 in
theorem read27 : ∀ (fuel : Nat) (cs : List Value) (x : DataW H × List MemPlace), DataW.trod enc Tryd.prog w base spare held fuel 27 cs = some x → ∃ s, k27.K w s cs ∧ Rel27 s x.1 := by
  intro fuel
  induction fuel using Nat.strongRecOn with
  | _ fuel ih =>
  intro cs x h
  obtain ⟨xs, n, hn, rfl, hlen, hxl, hf⟩ := DataW.trod_struct Tryd.underlying27 h
  rw [cells27] at hlen
  match cs, hlen with
  | [c0, c1, c2, c3], _ =>
    match xs, hxl with
    | [y0, y1, y2, y3], _ =>
      have f0 := hf 0 _ rfl
      have f1 := hf 1 _ rfl
      have f2 := hf 2 _ rfl
      have f3 := hf 3 _ rfl
      simp [cells3, cells9, cells25] at f0 f1 f2 f3
      obtain ⟨n0, e0, rfl, w0⟩ := DataW.trod_int Tryd.underlying3 f0
      obtain ⟨n1, e1, rfl, w1⟩ := DataW.trod_int Tryd.underlying3 f1
      obtain ⟨s2, e2, rfl, w2⟩ := DataW.trod_string Tryd.underlying9 f2
      obtain ⟨A3, k3, l3, e3, hl3, hC3, hr3⟩ := read_row k27 25 27 Tryd.underlying25 cells27 Rel27 (fun m hm cs' y hy => ih m (by omega) cs' y hy) f3
      simp only [List.cons.injEq, and_true] at e0 e1 e2 e3
      subst e0 e1 e2 e3
      refine ⟨⟨n0, n1, s2, l3⟩, k27_mk w ⟨n0, n1, s2, l3⟩ hl3 hC3, fun B hB hB2 => ?_⟩
      simp only [List.map_cons, List.map_nil] at hB
      rw [sum4, bulks.string_eq] at hB
      obtain ⟨g1, g2⟩ := bulk_row (B := B) hr3 (by omega)
      have hs2 : s2.data.toList.length = s2.size := by simp
      refine Fit27.mk ⟨n0, n1, s2, l3⟩ (show l3.length ≤ 2000000000 by omega) (i64_wf w1) (show s2.size ≤ 2000000000 by omega) (fun y hy => ?_)
      obtain ⟨D', hD, hlt⟩ := g2 y hy
      exact hD B (by omega) hB2
def Rel36 (s : S36) (D : DataW H) : Prop := ∀ B, Rows.uptoBulk D ≤ B → B ≤ 2000000000 → Fit36 s
theorem sum8 (a b c d e f g i : DataW H) : Rows.uptoBulk (DataW.agg [a, b, c, d, e, f, g, i]) = Rows.uptoBulk a + Rows.uptoBulk b + Rows.uptoBulk c + Rows.uptoBulk d + Rows.uptoBulk e + Rows.uptoBulk f + Rows.uptoBulk g + Rows.uptoBulk i + 1 := by simp only [Rows.uptoBulk, Rows.uptoBulkAll]; omega
set_option maxRecDepth 100000 in
theorem read36 (fuel : Nat) (cs : List Value) (x : DataW H × List MemPlace) (h : DataW.trod enc Tryd.prog w base spare held fuel 36 cs = some x) : ∃ s, k36.K w s cs ∧ Rel36 s x.1 := by
  obtain ⟨xs, n, hn, rfl, hlen, hxl, hf⟩ := DataW.trod_struct Tryd.underlying36 h
  rw [cells36] at hlen
  match cs, hlen with
  | [c0, c1, c2, c3, c4, c5, c6, c7, c8, c9, c10], _ =>
    match xs, hxl with
    | [y0, y1, y2, y3, y4, y5, y6, y7], _ =>
      have f0 := hf 0 _ rfl
      have f1 := hf 1 _ rfl
      have f2 := hf 2 _ rfl
      have f3 := hf 3 _ rfl
      have f4 := hf 4 _ rfl
      have f5 := hf 5 _ rfl
      have f6 := hf 6 _ rfl
      have f7 := hf 7 _ rfl
      simp [cells3, cells9, cells25, cells27] at f0 f1 f2 f3 f4 f5 f6 f7
      obtain ⟨n0, e0, rfl, w0⟩ := DataW.trod_int Tryd.underlying3 f0
      obtain ⟨n1, e1, rfl, w1⟩ := DataW.trod_int Tryd.underlying3 f1
      obtain ⟨n2, e2, rfl, w2⟩ := DataW.trod_int Tryd.underlying3 f2
      obtain ⟨n3, e3, rfl, w3⟩ := DataW.trod_int Tryd.underlying3 f3
      obtain ⟨n4, e4, rfl, w4⟩ := DataW.trod_int Tryd.underlying3 f4
      obtain ⟨s5, e5, rfl, w5⟩ := DataW.trod_string Tryd.underlying9 f5
      obtain ⟨x6, hx6, r6⟩ := read27 n _ _ f6
      obtain ⟨A7, k7, l7, e7, hl7, hC7, hr7⟩ := read_row k27 25 27 Tryd.underlying25 cells27 Rel27 (fun m _ cs' y hy => read27 m cs' y hy) f7
      obtain ⟨A6, k6, e6, hl6, hC6⟩ := k27_open hx6
      simp only [List.cons.injEq, and_true] at e0 e1 e2 e3 e4 e5 e6 e7
      obtain ⟨e60, e61, e62, e63⟩ := e6
      subst e0 e1 e2 e3 e4 e5 e60 e61 e62 e63 e7
      refine ⟨⟨n0, n1, n2, n3, n4, s5, x6, l7⟩, k36_mk w ⟨n0, n1, n2, n3, n4, s5, x6, l7⟩ hl6 hC6 hl7 hC7, fun B hB hB2 => ?_⟩
      simp only [List.map_cons, List.map_nil] at hB
      rw [sum8, bulks.string_eq] at hB
      obtain ⟨g3, g4⟩ := bulk_row (B := B) hr7 (by omega)
      refine ⟨?_, r6 B (by omega) (by omega), by show l7.length ≤ _; omega, fun y hy => ?_⟩
      · show s5.size ≤ _
        have : s5.data.toList.length = s5.size := by simp
        omega
      · obtain ⟨D', hD, hlt⟩ := g4 y hy
        exact hD B (by omega) (by omega)
end
end Go.Proofs.YtpgkhmdfddejfaaDoor.PV
end
section
namespace Go.Proofs.YtpgkhmdfddejfaaDoor
open Go.ChangeShapes Go.WideShapes Go.ChangeAt Go.RowKit
theorem Tryd.own : ownKnob Tryd.prog.godebug = none := by kernel_rfl
theorem Tryd.laidOut : laidOutB Tryd.prog = true := by kernel_rfl
theorem gTabType : (Tryd.prog.globals[0]?).map (·.type) = some 147 := by kernel_rfl
theorem cells147 : Tryd.prog.cellsOf 147 = 256 := by kernel_rfl
theorem cells5 : Tryd.prog.cellsOf 5 = 1 := by kernel_rfl
theorem laid_eq : ([("unicode.White_Space", Rows.laid_unicode_White_Space), ("strings.asciiSpace", Rows.laid_strings_asciiSpace)] : List (String × DataW Unit)).filter (fun x => x.1 == "strings.asciiSpace") = [("strings.asciiSpace", Lib.tabData .u8 Lib.asciiSpaceTab)] := by kernel_rfl
theorem lay_of {W : World} (h : laidMetH Tryd.prog [("unicode.White_Space", Rows.laid_unicode_White_Space), ("strings.asciiSpace", Rows.laid_strings_asciiSpace)] W) : Lay W := by
  have h2 := laidMetH.filter (fun x => x.1 == "strings.asciiSpace") h
  rw [laid_eq, Go.MakeChecks.laidMetH_plain _ _ _ (by kernel_rfl)] at h2
  exact Lib.tabIs_of_head lay_global gTabType Tryd.underlying147 Tryd.underlying5 cells5 cells147 h2
noncomputable def laidWorld (os : Os) : World :=
  let N := (World.settled Tryd.prog os).heap.size
  let w0 := World.holding Tryd.prog os ⟨#[.cells (([9, 13, 1, 32, 133, 101, 160, 5760, 5600, 8192, 8202, 1, 8232, 8233, 1, 8239, 8287, 48, 12288, 12288, 1] : List Nat).map fun (z : Nat) => Value.int .u16 (z : Int)).toArray 162, .cells #[.slice (some ⟨N, 0, none⟩) 7 7, .slice none 0 0, .int .i64 2] 159], #[], []⟩
  let put (h : Array Obj) (g : Nat) (cs : Array Value) : Array Obj := h.modify g fun
    | .cells _ t frozen => .cells cs t frozen
    | o => o
  let h1 := put w0.heap 0 (Lib.asciiSpaceTab.map fun z => Value.int .u8 z).toArray
  let h2 := put h1 1 #[.pointer (some ⟨N + 1, 0, none⟩)]
  { w0 with heap := h2 }
theorem laid_met (os : Os) (args : Array Value) : laidMet Tryd.prog [("unicode.White_Space", Rows.laid_unicode_White_Space), ("strings.asciiSpace", Rows.laid_strings_asciiSpace)] ((laidWorld os).forCall (fun _ _ => 0) ⟨#[], args, []⟩).memory :=
  laidMet_of_run' 8 (by kernel_rfl) (by kernel_rfl)
end Go.Proofs.YtpgkhmdfddejfaaDoor
end
section
namespace Go.Proofs.YtpgkhmdfddejfaaDoor.validLists
open Go.ChangeShapes Go.WideShapes Go.ChangeAt Go.RowKit
open Go.Proofs.YtpgkhmdfddejfaaDoor.PV Go.Proofs.YtpgkhmdfddejfaaDoorW.PrintWords
theorem walk (A : Option Addr) (c : Nat) (l : List S36) (W : World) (hC : Kd.C k36 W A l.length l) (hc : l.length ≤ c) (hl : l.length ≤ 2000000000) (hf : ∀ y ∈ l, Fit36 y) (hG : Lay W) :
    Calls Tryd.prog 3 #[.slice A l.length c] W fun e w' => e = .returned (.bool true) ∧ Below W.heap.size W w' := by
  obtain ⟨r, h1, h2⟩ := right_same l hl hf
  obtain ⟨k1, h1⟩ := h1
  obtain ⟨k2, h2⟩ := h2
  obtain ⟨k3, h3⟩ := alive_ev
  exact lists_walk (k1 + k2 + k3) A c l r W (Kd.C_F k36H hC) hc hl hG (h3 _ (by omega)) (h1 _ (by omega)) (h2 _ (by omega))
set_option maxRecDepth 100000 in
theorem contract (H : Type) (enc : TypeId × Value → H) (W : World) (base : Nat) (args : Array Value) (ds gs : List (DataW H)) (before : List MemPlace)
    (hval : ∀ (j : Nat) t v, Tryd.f3.params[j]? = some t → args[j]? = some v → Value.okWide Tryd.prog W .any base t v)
    (hW : DataW.Whole enc Tryd.prog Tryd.f3.params.toList Rows.validListsSpec.vars false W args.toList ds gs before) (hL : laidMetH Tryd.prog Rows.validListsUptoRow.laid W) (hk : Rows.uptoSmall H (ds ++ gs) = true) :
    Calls Tryd.prog 3 args W fun e W' => ∃ v, e = .returned v ∧ Rows.validListsSpec.post enc Tryd.prog Tryd.f3 false true false false W args v W' := by
  have hW' := hW
  obtain ⟨p, q, hA0, hV, rfl, hfz, hnd⟩ := hW
  have hA : DataW.TrodAll enc Tryd.prog W 0 (fun _ => true) true Tryd.f3.params.toList args.toList ds p := hA0
  rw [Tryd.params3] at hA hval
  obtain ⟨v0, vs0, d0, ds0, p0, q0, hargs, rfl, rfl, h0, r0⟩ := trodAll_cons hA
  obtain ⟨rfl, rfl, rfl⟩ := trodAll_nil r0
  obtain rfl : args = #[v0] := by cases args; simp_all
  obtain ⟨rfl, rfl⟩ := trodVars_none hV
  obtain ⟨a0, n0, c0, rfl⟩ := okWide_slice Tryd.underlying22 (hval 0 22 v0 rfl rfl)
  have k0 := h0
  have lt0 : ∀ x ∈ p0, x.block < W.heap.size := by obtain ⟨m, hm⟩ := k0; exact DataW.trod_lt m _ _ _ hm
  obtain ⟨fuel, hf⟩ := h0
  obtain ⟨A, c, l, hcs, hlc, hC, hR⟩ := read_row k36 22 36 Tryd.underlying22 cells36 Rel36 (fun m _ cs' y hy => read36 m cs' y hy) hf
  obtain ⟨B, hB, hbulk⟩ := bulks.bound_one hk
  have hB2 : B ≤ 2000000000 := by omega
  obtain ⟨b1, b2⟩ := bulk_row hR hbulk
  simp [Value.cells] at hcs
  obtain ⟨rfl, rfl, rfl⟩ := hcs
  clear hA0
  refine (walk a0 c0 l W hC hlc (by omega) (fun y hy => ?_) (lay_of hL)).mono fun e W' ⟨he, bel⟩ => ?_
  · obtain ⟨D', hD, hlt⟩ := b2 y hy
    exact hD B (by omega) hB2
  subst he
  exact ⟨_, rfl, _, _, _, [], _, [], hW', trodAll_mk1 (shut_bool Tryd.underlying4 _), (trodAll_cons_mk (Below.trod Tryd.laidOut (by kernel_rfl) (of_decide_eq_true (by kernel_rfl)) k0 bel lt0) trodAll_mk0), rfl, bel.frame _, fun h => by cases h⟩
theorem reads (os : Os) {H : Type} (enc : TypeId × Value → H) : ∃ places, DataW.whole enc Tryd.prog ((laidWorld os).forCall (fun _ _ => 0) ⟨#[], #[.slice none 0 0], []⟩).memory Tryd.f3.params.toList Rows.validListsSpec.vars false #[Value.slice none 0 0].toList 8 = some ([.nil], [], places) :=
  ⟨[], by kernel_rfl⟩
set_option maxRecDepth 100000 in
theorem liftedUpto (os : Os) (started : os.Started) (H : Type) (enc : TypeId × Value → H) (F : Stop.Interp) :
    ReturnsInHanded {} Tryd.checked os 3 .any ((Rows.OpenSpec.upto Rows.validListsSpec).preRow enc Tryd.prog Tryd.f3 Rows.validListsUptoRow.domain false Rows.validListsUptoRow.laid) (((Rows.OpenSpec.upto Rows.validListsSpec).at F).post enc Tryd.prog Tryd.f3 false true false false) := by
  obtain ⟨places, hx⟩ := reads os enc
  refine returnsInHanded_of_row (C := Tryd.checked) (s := Rows.OpenSpec.upto Rows.validListsSpec) Tryd.own started (by kernel_rfl) Tryd.func3
    (witness_row_atRef (enc := enc) (C := Tryd.checked) false (laidWorld os) #[.slice none 0 0] rfl (by kernel_rfl) (by kernel_rfl) (by kernel_rfl)
      (OpenSpec.preRow_of_cond 8 hx (by kernel_rfl) (fun k hk => by cases hk; kernel_rfl) (by kernel_rfl) (laid_met os _))) ?_
  intro W base args ds gs before hval hW _ hcond _ hL _ _
  exact contract H enc W base args ds gs before hval hW hL (hcond _ rfl)
theorem saidUpto : Rows.ValidListsUptoSaid :=
  OpenClaim.holds_of_cond 3 Tryd.f3 rfl rfl rfl rfl rfl rfl rfl ⟨rfl, rfl, rfl, rfl, rfl⟩ rfl rfl rfl rfl rfl (by kernel_rfl) Tryd.func3 (by kernel_rfl)
    (of_decide_eq_true (by kernel_rfl)) (by unfold Func.isWrapper; first | (rw [if_pos (by decide +kernel)]; kernel_rfl) | (rw [if_neg (by decide +kernel)]; exact ⟨rfl, rfl⟩))
    (fun os started H enc _ F => by rw [OpenClaim.pre_eq_preRow]; exact liftedUpto os started H enc F)
theorem plain (f : FuncId) (fn : Func) (hf : Tryd.pinned.checked.prog.funcNamed "puppeteer/puppeteerlaw16.ValidLists" = some f) (hfn : Tryd.pinned.checked.prog.funcs[f]? = some fn) :
    false = Tryd.pinned.checked.prog.looks [] ∧ ∀ (j : Nat) t, fn.params[j]? = some t → Tryd.pinned.checked.prog.wantsStandIn t = false := by
  obtain rfl : f = 3 := Option.some.inj ((show Tryd.prog.funcNamed "puppeteer/puppeteerlaw16.ValidLists" = some 3 by kernel_rfl).symm.trans hf) |>.symm
  obtain rfl : fn = Tryd.f3 := (Option.some.inj (Tryd.func3.symm.trans hfn)).symm
  refine ⟨by kernel_rfl, fun j t ht => ?_⟩
  rw [Tryd.params3] at ht
  obtain rfl : t = 22 := by simpa using Array.mem_of_getElem? ht
  exact (show Tryd.prog.wantsStandIn 22 = false by kernel_rfl)
end Go.Proofs.YtpgkhmdfddejfaaDoor.validLists
namespace Go.Proofs.YtpgkhmdfddejfaaDoor
theorem validLists_upto : Rows.ValidListsUptoCardSaid :=
  Claim7.holds_tied_plain_at .later [] _ _ _ _ validLists.saidUpto (fun _ h => by cases h) (by kernel_rfl) (fun _ h => by cases h) validListsUpto_row_tie rfl ⟨rfl, rfl⟩ (by kernel_rfl) rfl validLists.plain (by kernel_rfl)
#print axioms validLists_upto
end Go.Proofs.YtpgkhmdfddejfaaDoor
end
