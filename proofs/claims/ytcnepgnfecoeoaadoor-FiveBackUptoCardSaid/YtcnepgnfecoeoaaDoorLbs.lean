/- The library functions that names lean on: splitting, small letters. No condition. -/
import Derived.Test.YtcnepgnfecoeoaaDoorHst2
import Derived.Test.YtcnepgnfecoeoaaDoorCmp
import Derived.Shelf.Lays
import Derived.Shelf.Strings.Split
import Derived.Shelf.Strings.OnBuilder
set_option linter.unusedVariables false
set_option linter.unusedSimpArgs false
namespace Go.Proofs.YtcnepgnfecoeoaaDoor
open Go Go.Proofs.GP Go.Proofs.Tryd
def splitL_ren : Go.Shelf.Ren := ⟨fun | 146 => 107 | 221 => 126 | 268 => 142 | 138 => 143 | 143 => 144 | 195 => 159 | 197 => 147 | 218 => 160 | 219 => 161 | 260 => 164 | 217 => 169 | 225 => 170 | 224 => 171 | 267 => 172 | 266 => 176 | 314 => 177 | n => n, fun | 9 => 9 | 31 => 157 | 3 => 3 | 4 => 4 | 0 => 0 | 105 => 206 | 21 => 21 | 5 => 5 | 46 => 104 | 119 => 230 | 139 => 233 | 138 => 232 | 146 => 239 | 51 => 214 | n => n, fun | 1 => 4 | 3 => 5 | 4 => 6 | n => n⟩
theorem splitL : Lays.n146 Tryd.prog splitL_ren where
  mixed := by kernel_rfl
  f138 := Tryd.func143.trans (congrArg some (by kernel_rfl))
  f143 := Tryd.func144.trans (congrArg some (by kernel_rfl))
  f146 := Tryd.func107.trans (congrArg some (by kernel_rfl))
  f195 := Tryd.func159.trans (congrArg some (by kernel_rfl))
  f197 := Tryd.func147.trans (congrArg some (by kernel_rfl))
  f217 := Tryd.func169.trans (congrArg some (by kernel_rfl))
  f218 := Tryd.func160.trans (congrArg some (by kernel_rfl))
  f219 := Tryd.func161.trans (congrArg some (by kernel_rfl))
  f221 := Tryd.func126.trans (congrArg some (by kernel_rfl))
  f224 := Tryd.func171.trans (congrArg some (by kernel_rfl))
  f225 := Tryd.func170.trans (congrArg some (by kernel_rfl))
  f260 := Tryd.func164.trans (congrArg some (by kernel_rfl))
  f266 := Tryd.func176.trans (congrArg some (by kernel_rfl))
  f267 := Tryd.func172.trans (congrArg some (by kernel_rfl))
  f268 := Tryd.func142.trans (congrArg some (by kernel_rfl))
  f314 := Tryd.func177.trans (congrArg some (by kernel_rfl))
  t0 := Tryd.underlying0
  a0 := Tryd.isAgg0
  z0 := Tryd.sizeOf0
  v0 := Tryd.zeroValue0
  t3 := Tryd.underlying3
  a3 := Tryd.isAgg3
  z3 := Tryd.sizeOf3
  v3 := Tryd.zeroValue3
  t4 := Tryd.underlying4
  a4 := Tryd.isAgg4
  z4 := Tryd.sizeOf4
  v4 := Tryd.zeroValue4
  t5 := Tryd.underlying5
  a5 := Tryd.isAgg5
  z5 := Tryd.sizeOf5
  v5 := Tryd.zeroValue5
  t9 := Tryd.underlying9
  a9 := Tryd.isAgg9
  z9 := Tryd.sizeOf9
  v9 := Tryd.zeroValue9
  t21 := Tryd.underlying21
  a21 := Tryd.isAgg21
  z21 := Tryd.sizeOf21
  v21 := Tryd.zeroValue21
  t31 := Tryd.underlying157
  a31 := Tryd.isAgg157
  z31 := Tryd.sizeOf157
  v31 := Tryd.zeroValue157
  t46 := Tryd.underlying104
  a46 := Tryd.isAgg104
  z46 := Tryd.sizeOf104
  v46 := Tryd.zeroValue104
  t51 := Tryd.underlying214
  a51 := Tryd.isAgg214
  z51 := Tryd.sizeOf214
  v51 := Tryd.zeroValue214
  t105 := Tryd.underlying206
  a105 := Tryd.isAgg206
  z105 := Tryd.sizeOf206
  v105 := Tryd.zeroValue206
  t119 := Tryd.underlying230
  a119 := Tryd.isAgg230
  z119 := Tryd.sizeOf230
  t138 := Tryd.underlying232
  a138 := Tryd.isAgg232
  z138 := Tryd.sizeOf232
  v138 := Tryd.zeroValue232
  t139 := Tryd.underlying233
  a139 := Tryd.isAgg233
  z139 := Tryd.sizeOf233
  v139 := Tryd.zeroValue233
  t146 := Tryd.underlying239
  a146 := Tryd.isAgg239
  z146 := Tryd.sizeOf239
  v146 := Tryd.zeroValue239
  g1 := by kernel_rfl
  g3 := by kernel_rfl
  g4 := by kernel_rfl
def lowL_ren : Go.Shelf.Ren := ⟨fun | 159 => 109 | 165 => 128 | 166 => 129 | 167 => 130 | 169 => 131 | 230 => 132 | 204 => 133 | 240 => 145 | 241 => 146 | 197 => 147 | 118 => 148 | 168 => 149 | 270 => 150 | 262 => 151 | 276 => 162 | 277 => 163 | 260 => 164 | 242 => 165 | 313 => 166 | 278 => 173 | 274 => 174 | 275 => 175 | n => n, fun | 9 => 9 | 4 => 4 | 3 => 3 | 5 => 5 | 72 => 189 | 0 => 0 | 76 => 113 | 75 => 31 | 107 => 193 | 70 => 187 | 20 => 20 | 37 => 22 | 127 => 205 | 21 => 21 | 105 => 206 | 164 => 223 | 162 => 228 | 203 => 226 | 119 => 230 | 46 => 104 | 139 => 233 | 138 => 232 | 51 => 214 | 160 => 234 | 208 => 244 | 206 => 242 | 80 => 191 | n => n, fun | 13 => 3 | 3 => 5 | 4 => 6 | n => n⟩
theorem lowL : Lays.n159 Tryd.prog lowL_ren where
  mixed := by kernel_rfl
  f118 := Tryd.func148.trans (congrArg some (by kernel_rfl))
  f159 := Tryd.func109.trans (congrArg some (by kernel_rfl))
  f165 := Tryd.func128.trans (congrArg some (by kernel_rfl))
  f166 := Tryd.func129.trans (congrArg some (by kernel_rfl))
  f167 := Tryd.func130.trans (congrArg some (by kernel_rfl))
  f168 := Tryd.func149.trans (congrArg some (by kernel_rfl))
  f169 := Tryd.func131.trans (congrArg some (by kernel_rfl))
  f197 := Tryd.func147.trans (congrArg some (by kernel_rfl))
  f204 := Tryd.func133.trans (congrArg some (by kernel_rfl))
  f230 := Tryd.func132.trans (congrArg some (by kernel_rfl))
  f240 := Tryd.func145.trans (congrArg some (by kernel_rfl))
  f241 := Tryd.func146.trans (congrArg some (by kernel_rfl))
  f242 := Tryd.func165.trans (congrArg some (by kernel_rfl))
  f260 := Tryd.func164.trans (congrArg some (by kernel_rfl))
  f262 := Tryd.func151.trans (congrArg some (by kernel_rfl))
  f270 := Tryd.func150.trans (congrArg some (by kernel_rfl))
  f274 := Tryd.func174.trans (congrArg some (by kernel_rfl))
  f275 := Tryd.func175.trans (congrArg some (by kernel_rfl))
  f276 := Tryd.func162.trans (congrArg some (by kernel_rfl))
  f277 := Tryd.func163.trans (congrArg some (by kernel_rfl))
  f278 := Tryd.func173.trans (congrArg some (by kernel_rfl))
  f313 := Tryd.func166.trans (congrArg some (by kernel_rfl))
  t0 := Tryd.underlying0
  a0 := Tryd.isAgg0
  z0 := Tryd.sizeOf0
  v0 := Tryd.zeroValue0
  t3 := Tryd.underlying3
  a3 := Tryd.isAgg3
  z3 := Tryd.sizeOf3
  v3 := Tryd.zeroValue3
  t4 := Tryd.underlying4
  a4 := Tryd.isAgg4
  z4 := Tryd.sizeOf4
  v4 := Tryd.zeroValue4
  t5 := Tryd.underlying5
  a5 := Tryd.isAgg5
  z5 := Tryd.sizeOf5
  v5 := Tryd.zeroValue5
  t9 := Tryd.underlying9
  a9 := Tryd.isAgg9
  z9 := Tryd.sizeOf9
  v9 := Tryd.zeroValue9
  t20 := Tryd.underlying20
  a20 := Tryd.isAgg20
  z20 := Tryd.sizeOf20
  v20 := Tryd.zeroValue20
  t21 := Tryd.underlying21
  a21 := Tryd.isAgg21
  z21 := Tryd.sizeOf21
  v21 := Tryd.zeroValue21
  t37 := Tryd.underlying22
  a37 := Tryd.isAgg22
  z37 := Tryd.sizeOf22
  v37 := Tryd.zeroValue22
  t46 := Tryd.underlying104
  a46 := Tryd.isAgg104
  z46 := Tryd.sizeOf104
  v46 := Tryd.zeroValue104
  t51 := Tryd.underlying214
  a51 := Tryd.isAgg214
  z51 := Tryd.sizeOf214
  v51 := Tryd.zeroValue214
  t70 := Tryd.underlying187
  a70 := Tryd.isAgg187
  z70 := Tryd.sizeOf187
  v70 := Tryd.zeroValue187
  t72 := Tryd.underlying189
  a72 := Tryd.isAgg189
  z72 := Tryd.sizeOf189
  v72 := Tryd.zeroValue189
  t75 := Tryd.underlying31
  a75 := Tryd.isAgg31
  z75 := Tryd.sizeOf31
  v75 := Tryd.zeroValue31
  t76 := Tryd.underlying113
  a76 := Tryd.isAgg113
  z76 := Tryd.sizeOf113
  v76 := Tryd.zeroValue113
  t105 := Tryd.underlying206
  a105 := Tryd.isAgg206
  z105 := Tryd.sizeOf206
  v105 := Tryd.zeroValue206
  t107 := Tryd.underlying193
  a107 := Tryd.isAgg193
  z107 := Tryd.sizeOf193
  v107 := Tryd.zeroValue193
  t119 := Tryd.underlying230
  a119 := Tryd.isAgg230
  z119 := Tryd.sizeOf230
  t127 := Tryd.underlying205
  a127 := Tryd.isAgg205
  z127 := Tryd.sizeOf205
  v127 := Tryd.zeroValue205
  t138 := Tryd.underlying232
  a138 := Tryd.isAgg232
  z138 := Tryd.sizeOf232
  v138 := Tryd.zeroValue232
  t139 := Tryd.underlying233
  a139 := Tryd.isAgg233
  z139 := Tryd.sizeOf233
  v139 := Tryd.zeroValue233
  t160 := Tryd.underlying234
  a160 := Tryd.isAgg234
  z160 := Tryd.sizeOf234
  v160 := Tryd.zeroValue234
  t162 := Tryd.underlying228
  a162 := Tryd.isAgg228
  z162 := Tryd.sizeOf228
  v162 := Tryd.zeroValue228
  t164 := Tryd.underlying223
  a164 := Tryd.isAgg223
  z164 := Tryd.sizeOf223
  v164 := Tryd.zeroValue223
  t203 := Tryd.underlying226
  a203 := Tryd.isAgg226
  z203 := Tryd.sizeOf226
  v203 := Tryd.zeroValue226
  t206 := Tryd.underlying242
  a206 := Tryd.isAgg242
  z206 := Tryd.sizeOf242
  v206 := Tryd.zeroValue242
  t208 := Tryd.underlying244
  a208 := Tryd.isAgg244
  z208 := Tryd.sizeOf244
  v208 := Tryd.zeroValue244
  g3 := by kernel_rfl
  g4 := by kernel_rfl
  g13 := by kernel_rfl
theorem lowX : Builder.Extra Tryd.prog lowL_ren where
  sizeBuilder := by kernel_rfl
  liesBuilder := by kernel_rfl
  t5 := Tryd.underlying5
  a5 := Tryd.isAgg5
  z5 := Tryd.sizeOf5
  v5 := Tryd.zeroValue5
  infoByte := by kernel_rfl
  cellsByte := by kernel_rfl
  sizeByte := by kernel_rfl
  neB5 := by decide
def sv (p : By) : Value := .string ⟨p.toArray⟩
theorem split_ok (s : By) (m : Int) (w : World) (hs : s.length ≤ 253) (hm : w.cell? ⟨4, 0, none⟩ = some (.int .i64 m)) :
    Calls Tryd.prog 107 #[.string ⟨s.toArray⟩, .string ⟨([46] : List UInt8).toArray⟩] w fun e w' => ∃ g, e = .returned (.slice (some ⟨g, 0, none⟩) (dots s).length (dots s).length) ∧ Fr [] w w' ∧ w.heap.size ≤ g ∧ Blk w' g 9 ((dots s).map sv) := by
  have hz : (⟨s.toArray⟩ : ByteArray).size = s.length := by simp [ByteArray.size]
  have hc : Lib.countB ⟨s.toArray⟩ ⟨([46] : List UInt8).toArray⟩ = s.count 46 := Lib.count_one 46 s
  have hd := Lib.splitB_data ⟨([46] : List UInt8).toArray⟩ 0 (s.count 46) ⟨s.toArray⟩
  have hd' : (Lib.splitB ⟨([46] : List UInt8).toArray⟩ 0 (s.count 46) ⟨s.toArray⟩).map (·.data.toList) = dots s := hd.trans (splitK_dots s)
  have hl : (dots s).length = s.count 46 + 1 := by
    rw [← hd', List.length_map]
    have h := Lib.splitB_all ⟨([46] : List UInt8).toArray⟩ (by decide) 0 (s.count 46) ⟨s.toArray⟩ hc
    exact h
  have hv : (Lib.splitB ⟨([46] : List UInt8).toArray⟩ 0 (s.count 46) ⟨s.toArray⟩).map Value.string = (dots s).map sv := by
    rw [← hd', List.map_map]
    refine List.map_congr_left fun a _ => ?_
    simp [sv]
  refine (Any.strings_Split splitL (by kernel_rfl) ⟨s.toArray⟩ ⟨([46] : List UInt8).toArray⟩ m w (by rw [hz]; omega) hm (by decide)).mono fun e w' h => ?_
  obtain ⟨h1, h2⟩ := h
  rw [hc] at h1 h2
  rw [hv] at h2
  refine ⟨w.heap.size, by rw [h1, hl], ?_, Nat.le_refl _, ?_⟩
  · rw [h2]; exact Fr.push w _
  · rw [h2]; exact Blk.new w 9 _
theorem lower_ok (s : By) (w : World) (hs : s.length ≤ 253) (ha : ∀ (j : Nat) (b : UInt8), s[j]? = some b → b.toNat < 128) :
    Calls Tryd.prog 109 #[.string ⟨s.toArray⟩] w fun e w' => e = .returned (.string ⟨(s.map lowB).toArray⟩) ∧ Fr [] w w' := by
  have hz : (⟨s.toArray⟩ : ByteArray).size = s.length := by simp [ByteArray.size]
  refine (Any.strings_ToLower_ascii lowL lowX ⟨s.toArray⟩ w (by rw [hz]; omega) (fun j b h => ha j b (by simpa using h))).mono fun e w' h => ?_
  obtain ⟨h1, h2⟩ := h
  refine ⟨?_, Fr.of_below h2⟩
  rw [h1, ← low_map]
/-- The one table that is asked: a number lies in it. -/
def Gl (w : World) : Prop := ∃ m, w.cell? ⟨4, 0, none⟩ = some (.int .i64 m)
theorem Gl.lt {w : World} (h : Gl w) : 4 < w.heap.size := by
  obtain ⟨m, hm⟩ := h
  exact World.block_lt_of_cell? w _ hm
theorem Gl.fr {w w' : World} {gs : List Nat} (h : Gl w) (f : Fr gs w w') (hg : 4 ∉ gs) : Gl w' := by
  have hlt := h.lt
  obtain ⟨m, hm⟩ := h
  exact ⟨m, (World.cell?_of_block (w := w) (f.block 4 hlt hg)).trans hm⟩
theorem Gl.fr0 {w w' : World} (h : Gl w) (f : Fr [] w w') : Gl w' := h.fr f (by simp)
theorem Gl.ne_slice {w : World} {g t : Nat} {A : Option Addr} {n c : Nat} {l : List Value} (h : Gl w) (hb : Blk w g t (.slice A n c :: l)) : 4 ≠ g := by
  rintro rfl
  obtain ⟨m, hm⟩ := h
  rw [hb.cell] at hm
  cases hm
theorem not4 {A : Option Addr} {g n : Nat} (wh : A = none ∨ g ∈ ([] : List Nat) ∨ n ≤ g) (h4 : 4 < n) : 4 ∉ ownL A g := by
  rcases wh with rfl | h | h
  · simp [ownL]
  · cases h
  · cases A with
    | none => simp [ownL]
    | some a => simp [ownL]; omega
theorem Gl.ne_new {w : World} {g : Nat} (h : Gl w) (hg : w.heap.size ≤ g) : 4 ≠ g := by have := h.lt; omega
end Go.Proofs.YtcnepgnfecoeoaaDoor
