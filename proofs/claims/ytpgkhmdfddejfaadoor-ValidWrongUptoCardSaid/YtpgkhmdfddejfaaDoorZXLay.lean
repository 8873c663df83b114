import Derived.Test.YtpgkhmdfddejfaaDoorProg
import Derived.Shelf.Strings.Fields
import Derived.Below
section
namespace Go.Proofs
open Go.Shelf
def Tryd.lays157_ren : Go.Shelf.Ren := ⟨fun | 157 => 92 | 229 => 95 | 199 => 96 | 261 => 97 | 311 => 98 | 312 => 99 | n => n, fun | 9 => 9 | 31 => 88 | 3 => 3 | 5 => 5 | 4 => 4 | 119 => 147 | 0 => 0 | 40 => 149 | 152 => 150 | 21 => 21 | 154 => 152 | 51 => 153 | 141 => 155 | 196 => 159 | 193 => 156 | 198 => 162 | 49 => 160 | 194 => 157 | 201 => 165 | 226 => 167 | 46 => 168 | 227 => 169 | n => n, fun | 0 => 0 | 6 => 1 | n => n⟩
theorem Tryd.lays157 : Go.Proofs.Lays.n157 Tryd.prog Tryd.lays157_ren := {
  mixed := by kernel_rfl
  f157 := Tryd.func92.trans (congrArg some (by kernel_rfl))
  f199 := Tryd.func96.trans (congrArg some (by kernel_rfl))
  f229 := Tryd.func95.trans (congrArg some (by kernel_rfl))
  f261 := Tryd.func97.trans (congrArg some (by kernel_rfl))
  f311 := Tryd.func98.trans (congrArg some (by kernel_rfl))
  f312 := Tryd.func99.trans (congrArg some (by kernel_rfl))
  t0 := Tryd.underlying0
  a0 := Tryd.isAgg0
  z0 := Tryd.sizeOf0
  v0 := Tryd.zeroValue0
  t3 := Tryd.underlying3
  a3 := Tryd.isAgg3
  z3 := Tryd.sizeOf3
  v3 := Tryd.zeroValue3
  t4 := Tryd.underlying4
  a4 := Tryd.isAgg4
  z4 := Tryd.sizeOf4
  v4 := Tryd.zeroValue4
  t5 := Tryd.underlying5
  a5 := Tryd.isAgg5
  z5 := Tryd.sizeOf5
  v5 := Tryd.zeroValue5
  t9 := Tryd.underlying9
  a9 := Tryd.isAgg9
  z9 := Tryd.sizeOf9
  v9 := Tryd.zeroValue9
  t21 := Tryd.underlying21
  a21 := Tryd.isAgg21
  z21 := Tryd.sizeOf21
  v21 := Tryd.zeroValue21
  t31 := Tryd.underlying88
  a31 := Tryd.isAgg88
  z31 := Tryd.sizeOf88
  v31 := Tryd.zeroValue88
  t40 := Tryd.underlying149
  a40 := Tryd.isAgg149
  z40 := Tryd.sizeOf149
  v40 := Tryd.zeroValue149
  t46 := Tryd.underlying168
  a46 := Tryd.isAgg168
  z46 := Tryd.sizeOf168
  v46 := Tryd.zeroValue168
  t49 := Tryd.underlying160
  a49 := Tryd.isAgg160
  z49 := Tryd.sizeOf160
  v49 := Tryd.zeroValue160
  t51 := Tryd.underlying153
  a51 := Tryd.isAgg153
  z51 := Tryd.sizeOf153
  v51 := Tryd.zeroValue153
  t119 := Tryd.underlying147
  a119 := Tryd.isAgg147
  z119 := Tryd.sizeOf147
  t141 := Tryd.underlying155
  a141 := Tryd.isAgg155
  z141 := Tryd.sizeOf155
  v141 := Tryd.zeroValue155
  t152 := Tryd.underlying150
  a152 := Tryd.isAgg150
  z152 := Tryd.sizeOf150
  v152 := Tryd.zeroValue150
  t154 := Tryd.underlying152
  a154 := Tryd.isAgg152
  z154 := Tryd.sizeOf152
  v154 := Tryd.zeroValue152
  t193 := Tryd.underlying156
  a193 := Tryd.isAgg156
  z193 := Tryd.sizeOf156
  v193 := Tryd.zeroValue156
  t194 := Tryd.underlying157
  a194 := Tryd.isAgg157
  z194 := Tryd.sizeOf157
  v194 := Tryd.zeroValue157
  t196 := Tryd.underlying159
  a196 := Tryd.isAgg159
  z196 := Tryd.sizeOf159
  v196 := Tryd.zeroValue159
  t198 := Tryd.underlying162
  a198 := Tryd.isAgg162
  z198 := Tryd.sizeOf162
  v198 := Tryd.zeroValue162
  t201 := Tryd.underlying165
  a201 := Tryd.isAgg165
  z201 := Tryd.sizeOf165
  v201 := Tryd.zeroValue165
  t226 := Tryd.underlying167
  a226 := Tryd.isAgg167
  z226 := Tryd.sizeOf167
  v226 := Tryd.zeroValue167
  t227 := Tryd.underlying169
  a227 := Tryd.isAgg169
  z227 := Tryd.sizeOf169
  v227 := Tryd.zeroValue169
  g0 := by kernel_rfl
  g6 := by kernel_rfl }
end Go.Proofs
namespace Go.Proofs.YtpgkhmdfddejfaaDoor
open Go.RowKit
def Lay (w : World) : Prop := Lib.TabIs Tryd.prog w "strings.asciiSpace" .u8 Lib.asciiSpaceTab
theorem lay_global : Tryd.prog.globalNamed "strings.asciiSpace" = some 0 := by kernel_rfl
theorem Lay.below {w w1 : World} (h : Lay w) (hb : Below w.heap.size w w1) : Lay w1 := by
  unfold Lay Lib.TabIs World.var? at h ⊢
  rw [lay_global] at h ⊢
  simp only [Option.bind_some] at h ⊢
  have hlt : 0 < w.heap.size := by
    rcases Nat.eq_zero_or_pos w.heap.size with h0 | h0
    · exfalso
      have hn : w.heap[0]? = none := Array.getElem?_eq_none (by omega)
      rw [hn] at h
      cases h
    · exact h0
  rw [hb.block 0 hlt]
  exact h
theorem fields_any (s : ByteArray) (w : World) (hs : s.size < 4294967281) (hascii : ∀ (j : Nat) b, s.data.toList[j]? = some b → b.toNat < 128) (htab : Lay w) :
    Calls Tryd.prog 92 #[.string s] w fun e w' =>
      e = .returned (.slice (some ⟨w.heap.size, 0, none⟩) (Lib.fields s.data.toList).length (Lib.fields s.data.toList).length) ∧ w' = w.alloc (.cells ((Lib.fields s.data.toList).map fun l => Value.string ⟨l.toArray⟩).toArray 9) :=
  Any.strings_Fields Tryd.lays157 (by kernel_rfl) (by kernel_rfl) s w hs hascii htab
def qjm : ByteArray := ⟨#[107, 101, 121, 32, 116, 114, 101, 101, 32, 100, 111, 109, 97, 105, 110, 32, 111, 119, 110, 32, 115, 104, 97, 114, 101, 100, 32, 105, 110, 116, 32, 98, 111, 111, 108, 32, 114, 101, 102, 32, 115, 121, 109, 32, 112, 111, 105, 110, 116, 32, 115, 101, 113, 32, 115, 101, 108, 32, 109, 115, 101, 113, 32, 109, 115, 101, 108, 32, 112, 97, 114, 32, 110, 111, 116, 32, 114, 101, 112, 101, 97, 116, 32, 105, 102, 32, 115, 101, 116, 32, 100, 111, 32, 117, 115, 101, 32, 112, 105, 99, 107, 32, 112, 108, 97, 110, 32, 111, 107, 32, 102, 97, 105, 108, 32, 119, 97, 105, 116, 32, 118, 97, 114, 32, 97, 99, 116, 32, 99, 111, 115, 116, 32, 110, 101, 101, 100, 32, 109, 97, 107, 101, 32, 103, 111, 97, 108, 32, 116, 114, 117, 101, 32, 102, 97, 108, 115, 101, 32, 115, 101, 108, 102, 32, 116, 105, 109, 101, 32, 97, 110, 100, 32, 111, 114, 32, 114, 101, 32, 105, 109, 32, 116, 117, 114, 110, 32, 102, 97, 114]⟩
def qdh : List ByteArray := (Lib.fields qjm.data.toList).map fun l => ⟨l.toArray⟩
theorem words_ascii : ∀ (j : Nat) b, qjm.data.toList[j]? = some b → b.toNat < 128 := by
  have h : qjm.data.toList.all (fun b => decide (b.toNat < 128)) = true := by decide +kernel
  intro j b hb
  have := List.all_eq_true.1 h b (List.mem_of_getElem? hb)
  simpa using this
theorem words_any (w : World) (h : Lay w) :
    Calls Tryd.prog 92 #[.string qjm] w fun e w' =>
      e = .returned (.slice (some ⟨w.heap.size, 0, none⟩) qdh.length qdh.length) ∧ w' = w.alloc (.cells (qdh.map Value.string).toArray 9) := by
  have hf := fields_any qjm w (by decide +kernel) words_ascii h
  have h1 : (Lib.fields qjm.data.toList).length = qdh.length := by simp [qdh]
  have h2 : ((Lib.fields qjm.data.toList).map fun l => Value.string ⟨l.toArray⟩) = qdh.map Value.string := by simp [qdh]
  rw [h1, h2] at hf
  exact hf
def qgz (c : UInt8) : Bool := (97 ≤ c && c ≤ 122) || (65 ≤ c && c ≤ 90) || (48 ≤ c && c ≤ 57) || c == 95
def qec (c : UInt8) : Bool := (97 ≤ c && c ≤ 122) || (65 ≤ c && c ≤ 90)
def nameL : List UInt8 → Bool
  | [] => false
  | c :: l => decide ((c :: l).length ≤ 24) && qec c && (c :: l).all qgz
def qol (s : ByteArray) : Bool := nameL s.data.toList
end Go.Proofs.YtpgkhmdfddejfaaDoor
end
