/- The messages of layer 7 in plain Lean. No condition. -/
import Derived.Test.YtcnepgnfecoeoaaDoorHst
set_option linter.unusedVariables false
set_option linter.unusedSimpArgs false
namespace Go.Proofs.YtcnepgnfecoeoaaDoor
open Go Go.Proofs.GP

def shortE (b : By) : Er := .one fiveS b.length 6
/-- a byte of a list, as a number -/
def at8 (b : By) (i : Nat) : Nat := (b.getD i 0).toNat
theorem at8_out (b : By) (i : Nat) (h : b.length ≤ i) : at8 b i = 0 := by
  unfold at8; rw [List.getD_eq_getElem?_getD, List.getElem?_eq_none h]; rfl
theorem sub_at (b : By) (a n j : Nat) (h : a + n ≤ b.length) (hj : j < n) : (((b.drop a).take n).map bv)[j]? = some (bv (b.getD (a + j) 0)) := by
  rw [List.getElem?_map, List.getElem?_take, if_pos hj, List.getElem?_drop, List.getElem?_eq_getElem (by omega), List.getD_eq_getElem?_getD, List.getElem?_eq_getElem (by omega)]; rfl
theorem cut_bv (b : By) (a n : Nat) : ((b.map bv).drop (a * 1)).take ((a + n - a) * 1) = ((b.drop a).take n).map bv := by
  rw [Nat.mul_one, Nat.mul_one, Nat.add_sub_cancel_left, List.map_take, List.map_drop]
theorem bv_ne {b : By} (h : 0 < b.length) : ¬ b.map bv = [] := fun e => by
  rw [List.map_eq_nil_iff] at e
  rw [e] at h; simp at h
theorem at8_lt (b : By) (i : Nat) : at8 b i < 256 := UInt8.toNat_lt _
def verL (b : By) (v : Nat) : Er := if b.length = 0 then shortE b else if at8 b 0 ≠ v then .one fiveS 0 70 else .no
/-- n and n bytes -/
def textL (b : By) (a most : Nat) : By × Nat × Er :=
  if b.length ≤ a then ([], 0, shortE b) else if at8 b a < 1 ∨ most < at8 b a then ([], 0, .one fiveS a 72) else
    if b.length < a + 1 + at8 b a then ([], 0, shortE b) else ((b.drop (a + 1)).take (at8 b a), a + 1 + at8 b a, .no)
theorem text_s (b : By) (a most : Nat) (h : b.length ≤ a) : textL b a most = ([], 0, shortE b) := if_pos h
theorem text_w (b : By) (a most : Nat) (h : ¬ b.length ≤ a) (h1 : at8 b a < 1 ∨ most < at8 b a) : textL b a most = ([], 0, .one fiveS a 72) := by unfold textL; rw [if_neg h, if_pos h1]
theorem text_t (b : By) (a most : Nat) (h : ¬ b.length ≤ a) (h1 : ¬ (at8 b a < 1 ∨ most < at8 b a)) (h2 : b.length < a + 1 + at8 b a) : textL b a most = ([], 0, shortE b) := by unfold textL; rw [if_neg h, if_neg h1, if_pos h2]
theorem text_k (b : By) (a most : Nat) (h : ¬ b.length ≤ a) (h1 : ¬ (at8 b a < 1 ∨ most < at8 b a)) (h2 : ¬ b.length < a + 1 + at8 b a) : textL b a most = ((b.drop (a + 1)).take (at8 b a), a + 1 + at8 b a, .no) := by unfold textL; rw [if_neg h, if_neg h1, if_neg h2]
theorem ver_s (b : By) (v : Nat) (h : b.length ≤ 0) : verL b v = shortE b := if_pos (by omega)
theorem ver_v (b : By) (v : Nat) (h : ¬ b.length ≤ 0) (h1 : at8 b 0 ≠ v) : verL b v = .one fiveS 0 70 := by unfold verL; rw [if_neg (by omega), if_pos h1]
theorem ver_k (b : By) (v : Nat) (h : ¬ b.length ≤ 0) (h1 : at8 b 0 = v) : verL b v = .no := by unfold verL; rw [if_neg (by omega), if_neg (by simpa using h1)]
def greetL (b : By) : By × Nat × Er := if verL b 5 ≠ .no then ([], 0, verL b 5) else textL b 1 255
theorem greet_v (b : By) (h : verL b 5 ≠ .no) : greetL b = ([], 0, verL b 5) := if_pos h
theorem greet_k (b : By) (h : verL b 5 = .no) : greetL b = textL b 1 255 := by unfold greetL; rw [if_neg (by simpa using h)]
theorem text_e (b : By) (a most : Nat) (h : (textL b a most).2.2 ≠ .no) : textL b a most = ([], 0, (textL b a most).2.2) := by
  by_cases h1 : b.length ≤ a
  · rw [text_s b a most h1]
  · by_cases h2 : at8 b a < 1 ∨ most < at8 b a
    · rw [text_w b a most h1 h2]
    · by_cases h3 : b.length < a + 1 + at8 b a
      · rw [text_t b a most h1 h2 h3]
      · rw [text_k b a most h1 h2 h3] at h; exact absurd rfl h
theorem greet_e (b : By) (h : verL b 5 = .no) (h1 : (textL b 1 255).2.2 ≠ .no) : greetL b = ([], 0, (textL b 1 255).2.2) := by rw [greet_k b h]; exact text_e b 1 255 h1
def gi (x : UInt8) : Int := x.toNat
theorem take_gi (s : By) (i : Nat) (h : i < s.length) : (s.take (i + 1)).map gi = (s.take i).map gi ++ [gi (s.getD i 0)] := by
  rw [List.take_add_one, List.getElem?_eq_getElem h, List.map_append, List.getD_eq_getElem?_getD, List.getElem?_eq_getElem h]; rfl
def loginL (b : By) : By × By × Nat × Er :=
  if verL b 1 ≠ .no then ([], [], 0, verL b 1) else
  if (textL b 1 255).2.2 ≠ .no then ([], [], 0, (textL b 1 255).2.2) else
  if (textL b (textL b 1 255).2.1 255).2.2 ≠ .no then ([], [], 0, (textL b (textL b 1 255).2.1 255).2.2) else
    ((textL b 1 255).1, (textL b (textL b 1 255).2.1 255).1, (textL b (textL b 1 255).2.1 255).2.1, .no)
def twoL (b : By) (v : Nat) : Nat × Nat × Er :=
  if verL b v ≠ .no then (0, 0, verL b v) else if b.length < 2 then (0, 0, shortE b) else (at8 b 1, 2, .no)
/-- an address: four bytes -/
structure Ad where
  a : UInt8
  b : UInt8
  c : UInt8
  d : UInt8
  deriving DecidableEq
def Ad.zero : Ad := ⟨0, 0, 0, 0⟩
/-- a host: an address, or a name -/
structure Hs where
  ad : Ad
  n : By
  deriving DecidableEq
def Hs.zero : Hs := ⟨Ad.zero, []⟩
def wrapE (a : Int) : Er → Er
  | .one l x c => .two fiveS a l x c
  | e => e
def placeL (b : By) (a : Nat) : Hs × Nat × Er :=
  if b.length ≤ a then (Hs.zero, 0, shortE b) else
  if at8 b a = 1 then (if b.length < a + 5 then (Hs.zero, 0, shortE b) else (⟨⟨b.getD (a + 1) 0, b.getD (a + 2) 0, b.getD (a + 3) 0, b.getD (a + 4) 0⟩, []⟩, a + 5, .no)) else
  if at8 b a = 3 then (if (textL b (a + 1) 253).2.2 ≠ .no then (Hs.zero, 0, (textL b (a + 1) 253).2.2) else
    if (nameL (textL b (a + 1) 253).1).2 ≠ .no then (Hs.zero, 0, wrapE (a + 2) (nameL (textL b (a + 1) 253).1).2) else (⟨Ad.zero, (nameL (textL b (a + 1) 253).1).1⟩, (textL b (a + 1) 253).2.1, .no)) else
  (Hs.zero, 0, .one fiveS a 71)
theorem place_s (b : By) (a : Nat) (h : b.length ≤ a) : placeL b a = (Hs.zero, 0, shortE b) := if_pos h
theorem place_1s (b : By) (a : Nat) (h : ¬ b.length ≤ a) (h1 : at8 b a = 1) (h2 : b.length < a + 5) : placeL b a = (Hs.zero, 0, shortE b) := by unfold placeL; rw [if_neg h, if_pos h1, if_pos h2]
theorem place_1 (b : By) (a : Nat) (h : ¬ b.length ≤ a) (h1 : at8 b a = 1) (h2 : ¬ b.length < a + 5) : placeL b a = (⟨⟨b.getD (a + 1) 0, b.getD (a + 2) 0, b.getD (a + 3) 0, b.getD (a + 4) 0⟩, []⟩, a + 5, .no) := by unfold placeL; rw [if_neg h, if_pos h1, if_neg h2]
theorem place_3e (b : By) (a : Nat) (h : ¬ b.length ≤ a) (h1 : at8 b a = 3) (h2 : (textL b (a + 1) 253).2.2 ≠ .no) : placeL b a = (Hs.zero, 0, (textL b (a + 1) 253).2.2) := by unfold placeL; rw [if_neg h, if_neg (by omega), if_pos h1, if_pos h2]
theorem place_3n (b : By) (a : Nat) (h : ¬ b.length ≤ a) (h1 : at8 b a = 3) (h2 : (textL b (a + 1) 253).2.2 = .no) (h3 : (nameL (textL b (a + 1) 253).1).2 ≠ .no) : placeL b a = (Hs.zero, 0, wrapE (a + 2) (nameL (textL b (a + 1) 253).1).2) := by
  unfold placeL; rw [if_neg h, if_neg (by omega), if_pos h1, if_neg (by simpa using h2), if_pos h3]
theorem place_3 (b : By) (a : Nat) (h : ¬ b.length ≤ a) (h1 : at8 b a = 3) (h2 : (textL b (a + 1) 253).2.2 = .no) (h3 : (nameL (textL b (a + 1) 253).1).2 = .no) : placeL b a = (⟨Ad.zero, (nameL (textL b (a + 1) 253).1).1⟩, (textL b (a + 1) 253).2.1, .no) := by
  unfold placeL; rw [if_neg h, if_neg (by omega), if_pos h1, if_neg (by simpa using h2), if_neg (by simpa using h3)]
theorem place_t (b : By) (a : Nat) (h : ¬ b.length ≤ a) (h1 : ¬ at8 b a = 1) (h3 : ¬ at8 b a = 3) : placeL b a = (Hs.zero, 0, .one fiveS a 71) := by unfold placeL; rw [if_neg h, if_neg h1, if_neg h3]
theorem name_one (s : By) (h : (nameL s).2 ≠ .no) : ∃ x y, (nameL s).2 = .one hostS x y := by
  unfold nameL at h ⊢
  split
  · exact ⟨_, _, rfl⟩
  · split
    · exact ⟨_, _, rfl⟩
    · rename_i h1 _ h2
      rw [if_neg h1, h2] at h
      split
      · exact ⟨_, _, rfl⟩
      · rename_i h3
        exfalso; apply h
        show (if _ then _ else _ : By × Er).2 = _
        rw [if_neg h3]
theorem text_end (b : By) (a most : Nat) (h : (textL b a most).2.2 = .no) : (textL b a most).2.1 ≤ b.length ∧ a + 2 ≤ (textL b a most).2.1 ∧ (textL b a most).1.length = (textL b a most).2.1 - (a + 1) ∧ (textL b a most).1.length ≤ most := by
  by_cases h1 : b.length ≤ a
  · rw [text_s b a most h1] at h; cases h
  · by_cases h2 : at8 b a < 1 ∨ most < at8 b a
    · rw [text_w b a most h1 h2] at h; cases h
    · by_cases h3 : b.length < a + 1 + at8 b a
      · rw [text_t b a most h1 h2 h3] at h; cases h
      · rw [text_k b a most h1 h2 h3]
        refine ⟨?_, ?_, ?_, ?_⟩
        · show a + 1 + at8 b a ≤ b.length; omega
        · show a + 2 ≤ a + 1 + at8 b a; omega
        · show ((b.drop (a + 1)).take (at8 b a)).length = a + 1 + at8 b a - (a + 1); rw [List.length_take, List.length_drop]; omega
        · show ((b.drop (a + 1)).take (at8 b a)).length ≤ most; rw [List.length_take]; omega
theorem place_end (b : By) (a : Nat) (h : (placeL b a).2.2 = .no) : (placeL b a).2.1 ≤ b.length ∧ a + 3 ≤ (placeL b a).2.1 := by
  by_cases h1 : b.length ≤ a
  · rw [place_s b a h1] at h; cases h
  · by_cases h2 : at8 b a = 1
    · by_cases h3 : b.length < a + 5
      · rw [place_1s b a h1 h2 h3] at h; cases h
      · rw [place_1 b a h1 h2 h3]; show a + 5 ≤ b.length ∧ a + 3 ≤ a + 5; omega
    · by_cases h3 : at8 b a = 3
      · by_cases h4 : (textL b (a + 1) 253).2.2 = .no
        · have ht := text_end b (a + 1) 253 h4
          by_cases h5 : (nameL (textL b (a + 1) 253).1).2 = .no
          · rw [place_3 b a h1 h3 h4 h5]
            have hn := name_len (textL b (a + 1) 253).1 (nameL (textL b (a + 1) 253).1).1 (by rw [← h5])
            show (textL b (a + 1) 253).2.1 ≤ b.length ∧ a + 3 ≤ (textL b (a + 1) 253).2.1
            refine ⟨ht.1, ?_⟩
            have := ht.2.1
            omega
          · rw [place_3n b a h1 h3 h4 h5] at h
            obtain ⟨x, y, e⟩ := name_one _ h5
            rw [e] at h; cases h
        · rw [place_3e b a h1 h3 h4] at h; exact absurd h h4
      · rw [place_t b a h1 h2 h3] at h; cases h
/-- a destination -/
structure Ds where
  h : Hs
  p : Int
  deriving DecidableEq
def Ds.zero : Ds := ⟨Hs.zero, 0⟩
def reqL (b : By) : Nat × Ds × Nat × Er :=
  if verL b 5 ≠ .no then (0, Ds.zero, 0, verL b 5) else
  if b.length < 3 then (0, Ds.zero, 0, shortE b) else
  if at8 b 2 ≠ 0 then (0, Ds.zero, 0, .one fiveS 2 72) else
  if (placeL b 3).2.2 ≠ .no then (0, Ds.zero, 0, (placeL b 3).2.2) else
  if b.length < (placeL b 3).2.1 + 2 then (0, Ds.zero, 0, shortE b) else
    (at8 b 1, ⟨(placeL b 3).1, at8 b (placeL b 3).2.1 * 256 + at8 b ((placeL b 3).2.1 + 1)⟩, (placeL b 3).2.1 + 2, .no)

theorem req_v (b : By) (h : verL b 5 ≠ .no) : reqL b = (0, Ds.zero, 0, verL b 5) := if_pos h
theorem req_s (b : By) (h : verL b 5 = .no) (h1 : b.length < 3) : reqL b = (0, Ds.zero, 0, shortE b) := by unfold reqL; rw [if_neg (by simpa using h), if_pos h1]
theorem req_w (b : By) (h : verL b 5 = .no) (h1 : ¬ b.length < 3) (h2 : at8 b 2 ≠ 0) : reqL b = (0, Ds.zero, 0, .one fiveS 2 72) := by unfold reqL; rw [if_neg (by simpa using h), if_neg h1, if_pos h2]
theorem req_p (b : By) (h : verL b 5 = .no) (h1 : ¬ b.length < 3) (h2 : at8 b 2 = 0) (h3 : (placeL b 3).2.2 ≠ .no) : reqL b = (0, Ds.zero, 0, (placeL b 3).2.2) := by
  unfold reqL; rw [if_neg (by simpa using h), if_neg h1, if_neg (by simpa using h2), if_pos h3]
theorem req_t (b : By) (h : verL b 5 = .no) (h1 : ¬ b.length < 3) (h2 : at8 b 2 = 0) (h3 : (placeL b 3).2.2 = .no) (h4 : b.length < (placeL b 3).2.1 + 2) : reqL b = (0, Ds.zero, 0, shortE b) := by
  unfold reqL; rw [if_neg (by simpa using h), if_neg h1, if_neg (by simpa using h2), if_neg (by simpa using h3), if_pos h4]
theorem req_k (b : By) (h : verL b 5 = .no) (h1 : ¬ b.length < 3) (h2 : at8 b 2 = 0) (h3 : (placeL b 3).2.2 = .no) (h4 : ¬ b.length < (placeL b 3).2.1 + 2) :
    reqL b = (at8 b 1, ⟨(placeL b 3).1, at8 b (placeL b 3).2.1 * 256 + at8 b ((placeL b 3).2.1 + 1)⟩, (placeL b 3).2.1 + 2, .no) := by
  unfold reqL; rw [if_neg (by simpa using h), if_neg h1, if_neg (by simpa using h2), if_neg (by simpa using h3), if_neg h4]
theorem shlI8 (a : Int) (h0 : 0 ≤ a) (h1 : a ≤ 255) : IntKind.i64.wrap (a * 2 ^ (min (8 : Int).toNat IntKind.i64.bits)) = a * 256 := by
  have : (2 : Int) ^ (min (8 : Int).toNat IntKind.i64.bits) = 256 := by decide
  rw [this]; exact wrI (by omega) (by omega)
theorem shrI8 (a : Int) (h : 0 ≤ a) : a.fdiv (2 ^ (min (8 : Int).toNat IntKind.i64.bits)) = a / 256 := by
  have : (2 : Int) ^ (min (8 : Int).toNat IntKind.i64.bits) = 256 := by decide
  rw [this, Int.fdiv_eq_ediv_of_nonneg _ (by decide)]
theorem orI8 (x y : Nat) (hx : x < 256) (hy : y < 256) : IntKind.i64.wrap ↑(BitVec.ofInt IntKind.i64.bits ((x : Int) * 256) ||| BitVec.ofInt IntKind.i64.bits (y : Int)).toNat = (x : Int) * 256 + y := by
  have h1 : BitVec.ofInt IntKind.i64.bits ((x : Int) * 256) = BitVec.ofNat 64 (x * 256) := by
    rw [show ((x : Int) * 256) = ((x * 256 : Nat) : Int) by omega]; exact BitVec.ofInt_natCast 64 _
  have h2 : BitVec.ofInt IntKind.i64.bits (y : Int) = BitVec.ofNat 64 y := BitVec.ofInt_natCast 64 _
  rw [h1, h2]
  have h3 : (BitVec.ofNat 64 (x * 256) ||| BitVec.ofNat 64 y).toNat = x * 256 + y := by
    rw [BitVec.toNat_or, BitVec.toNat_ofNat, BitVec.toNat_ofNat, Nat.mod_eq_of_lt (by omega), Nat.mod_eq_of_lt (by omega)]
    have := Nat.shiftLeft_add_eq_or_of_lt (b := y) (i := 8) (by omega) x
    rw [Nat.shiftLeft_eq] at this
    exact this.symm
  have h4 : (((BitVec.ofNat 64 (x * 256) ||| BitVec.ofNat 64 y).toNat : Nat) : Int) = (x : Int) * 256 + y := by rw [h3]; omega
  exact (congrArg IntKind.i64.wrap h4).trans (wrI (by omega) (by omega))
/-! what is written -/
abbrev b8 (n : Int) : UInt8 := lowI n
def small (n : Int) : Bool := decide (0 ≤ n) && decide (n ≤ 255)
def putGreetL (ms : List Int) : By × Int := if ms.length < 1 ∨ 255 < ms.length ∨ ms.all small = false then ([], 2) else ([5, b8 ms.length] ++ ms.map b8, 0)
def putLoginL (u p : By) : By × Int := if u.length = 0 ∨ p.length = 0 ∨ 255 < u.length ∨ 255 < p.length then ([], 2) else ([1, b8 u.length] ++ u ++ [b8 p.length] ++ p, 0)
/-- is a host right? -/
def hostOk (h : Hs) : Bool := decide (h.n = []) || (decide ((nameL h.n).2 = .no) && (decide ((nameL h.n).1 = h.n) && decide (h.ad = Ad.zero)))
def putReqL (n : Int) (d : Ds) : By × Int :=
  if small n = false ∨ hostOk d.h = false ∨ d.p < 0 ∨ 65535 < d.p then ([], 2) else
    ([5, b8 n, 0] ++ (if d.h.n = [] then [1, d.h.ad.a, d.h.ad.b, d.h.ad.c, d.h.ad.d] else [3, b8 d.h.n.length] ++ d.h.n) ++ [b8 (d.p / 256), b8 d.p], 0)
theorem put_e (n : Int) (d : Ds) (h : small n = false ∨ hostOk d.h = false ∨ d.p < 0 ∨ 65535 < d.p) : putReqL n d = ([], 2) := if_pos h
theorem put_k (n : Int) (d : Ds) (h0 : small n = true) (h1 : hostOk d.h = true) (h2 : 0 ≤ d.p) (h3 : d.p ≤ 65535) :
    putReqL n d = ([5, b8 n, 0] ++ (if d.h.n = [] then [1, d.h.ad.a, d.h.ad.b, d.h.ad.c, d.h.ad.d] else [3, b8 d.h.n.length] ++ d.h.n) ++ [b8 (d.p / 256), b8 d.p], 0) := by
  unfold putReqL; rw [if_neg (by rw [h0, h1]; simp; omega)]
theorem put_a (n : Int) (d : Ds) (h0 : small n = true) (h1 : hostOk d.h = true) (h2 : 0 ≤ d.p) (h3 : d.p ≤ 65535) (h4 : d.h.n = []) :
    putReqL n d = ([5, b8 n, 0, 1, d.h.ad.a, d.h.ad.b, d.h.ad.c, d.h.ad.d] ++ [b8 (d.p / 256), b8 d.p], 0) := by rw [put_k n d h0 h1 h2 h3, if_pos h4]; rfl
theorem put_n (n : Int) (d : Ds) (h0 : small n = true) (h1 : hostOk d.h = true) (h2 : 0 ≤ d.p) (h3 : d.p ≤ 65535) (h4 : ¬ d.h.n = []) :
    putReqL n d = (([5, b8 n, 0] ++ [3, b8 d.h.n.length]) ++ d.h.n ++ [b8 (d.p / 256), b8 d.p], 0) := by
  rw [put_k n d h0 h1 h2 h3, if_neg h4]
  simp only [List.append_assoc]
theorem host_len (h : Hs) (hk : hostOk h = true) : h.n.length ≤ 253 := by
  unfold hostOk at hk
  by_cases hn : h.n = []
  · rw [hn]; decide
  · rw [decide_eq_false hn, Bool.false_or, Bool.and_eq_true, Bool.and_eq_true, decide_eq_true_eq, decide_eq_true_eq] at hk
    exact (name_len h.n h.n (Prod.ext hk.2.1 hk.1)).2.2
theorem host_nm (h : Hs) (hk : hostOk h = true) (hn : ¬ h.n = []) : nameL h.n = (h.n, .no) ∧ h.ad = Ad.zero := by
  unfold hostOk at hk
  rw [decide_eq_false hn, Bool.false_or, Bool.and_eq_true, Bool.and_eq_true, decide_eq_true_eq, decide_eq_true_eq, decide_eq_true_eq] at hk
  exact ⟨Prod.ext hk.2.1 hk.1, hk.2.2⟩
def putTwoL (v : UInt8) (n : Int) : By × Int := if small n = false then ([], 2) else ([v, b8 n], 0)
/-! cells -/
def badL (e : Er) : List Value := [.int .i64 e.N, .string ⟨e.l0.toArray⟩, .string ⟨e.l1.toArray⟩, .string ⟨([] : List UInt8).toArray⟩, .string ⟨([] : List UInt8).toArray⟩, .int .i64 e.a0, .int .i64 e.a1, .int .i64 0, .int .i64 0, .int .i64 e.c]
def Ad.cells (x : Ad) : List Value := [.int .u8 ↑x.a.toNat, .int .u8 ↑x.b.toNat, .int .u8 ↑x.c.toNat, .int .u8 ↑x.d.toNat]
def Hs.cells (x : Hs) : List Value := [.int .u8 ↑x.ad.a.toNat, .int .u8 ↑x.ad.b.toNat, .int .u8 ↑x.ad.c.toNat, .int .u8 ↑x.ad.d.toNat, .string ⟨x.n.toArray⟩]
def Ds.cells (x : Ds) : List Value := [.int .u8 ↑x.h.ad.a.toNat, .int .u8 ↑x.h.ad.b.toNat, .int .u8 ↑x.h.ad.c.toNat, .int .u8 ↑x.h.ad.d.toNat, .string ⟨x.h.n.toArray⟩, .int .i64 x.p]
end Go.Proofs.YtcnepgnfecoeoaaDoor
