/- Names of hosts in plain Lean. No condition. -/
import Derived.Test.YtcnepgnfecoeoaaDoorGFault
set_option linter.unusedVariables false
set_option linter.unusedSimpArgs false
namespace Go.Proofs.YtcnepgnfecoeoaaDoor
open Go Go.Proofs.GP

def hostS : By := [104, 111, 115, 116]
def fiveS : By := [102, 105, 118, 101]
/-- a capital made small -/
def lowB (c : UInt8) : UInt8 := if 65 ≤ c.toNat ∧ c.toNat ≤ 90 then c + 32 else c
def isDig (c : UInt8) : Bool := decide (48 ≤ c.toNat) && decide (c.toNat ≤ 57)
def isLet (c : UInt8) : Bool := (decide (65 ≤ c.toNat) && decide (c.toNat ≤ 90)) || (decide (97 ≤ c.toNat) && decide (c.toNat ≤ 122))
def okC (c : UInt8) : Bool := isDig c || c == 45 || isLet c
/-- is a part of a name one? -/
def labelOk (p : By) : Bool := decide (p.length ≠ 0) && decide (p.length ≤ 63) && p.all okC && decide (p.getD 0 0 ≠ 45) && decide (p.getD (p.length - 1) 0 ≠ 45)
/-- the parts between points -/
def dots : By → List By
  | [] => [[]]
  | c :: r => if c = 46 then [] :: dots r else (c :: (dots r).headD []) :: (dots r).tail
theorem dots_ne (s : By) : dots s ≠ [] := by
  cases s with
  | nil => simp [dots]
  | cons c r => unfold dots; split <;> simp
theorem dots_cons (s : By) : dots s = (dots s).headD [] :: (dots s).tail := by
  have := dots_ne s
  cases h : dots s with
  | nil => exact absurd h this
  | cons a l => rfl
/-- where the first part begins that is none -/
def scanL : List By → Nat → Option Nat
  | [], _ => none
  | p :: r, a => if labelOk p then scanL r (a + p.length + 1) else some a
/-- where the k-th part begins -/
def offs (ps : List By) (k : Nat) : Nat := ((ps.take k).map fun p => p.length + 1).sum
theorem offs_zero (ps : List By) : offs ps 0 = 0 := rfl
theorem offs_cons (p : By) (ps : List By) (k : Nat) : offs (p :: ps) (k + 1) = p.length + 1 + offs ps k := by simp [offs]
theorem offs_succ : ∀ (ps : List By) (k : Nat) (hk : k < ps.length), offs ps (k + 1) = offs ps k + (ps.getD k []).length + 1
  | [], k, hk => by simp at hk
  | p :: ps, 0, _ => by simp [offs]
  | p :: ps, k + 1, hk => by
    rw [offs_cons, offs_succ ps k (by simpa using hk), offs_cons]
    show _ = _ + (ps.getD k []).length + 1
    omega
theorem scan_none' : ∀ (ps : List By) (a : Nat), (∀ i, i < ps.length → labelOk (ps.getD i []) = true) → scanL ps a = none
  | [], _, _ => rfl
  | p :: r, a, h => by
    have h0 : labelOk p = true := h 0 (by simp)
    unfold scanL
    rw [if_pos h0]
    exact scan_none' r _ fun i hi => h (i + 1) (by simpa using hi)
theorem scan_some' : ∀ (ps : List By) (a k : Nat), k < ps.length → (∀ i, i < k → labelOk (ps.getD i []) = true) → labelOk (ps.getD k []) = false → scanL ps a = some (a + offs ps k)
  | [], _, _, hk, _, _ => by simp at hk
  | p :: r, a, 0, _, _, hb => by
    have hb' : labelOk p = false := hb
    unfold scanL
    rw [if_neg (by simp [hb'])]; rfl
  | p :: r, a, k + 1, hk, h, hb => by
    have h0 : labelOk p = true := h 0 (by omega)
    unfold scanL
    rw [if_pos h0, scan_some' r _ k (by simpa using hk) (fun i hi => h (i + 1) (by omega)) hb, offs_cons]
    congr 1; omega
theorem dots_total : ∀ (s : By), offs (dots s) (dots s).length = s.length + 1
  | [] => rfl
  | c :: r => by
    have ih := dots_total r
    unfold dots
    split
    · rw [List.length_cons, offs_cons, ih]; simp; omega
    · rw [dots_cons r, List.length_cons, offs_cons] at ih
      rw [List.length_cons, offs_cons]
      simp only [List.length_cons, List.headD_cons] at ih ⊢
      rw [dots_cons r] 
      simp only [List.headD_cons, List.tail_cons]
      omega
/-- the last part -/
def lastP (s : By) : By := (dots s).getLastD []
theorem lastP_at (s : By) : lastP s = (dots s).getD ((dots s).length - 1) [] := by
  have h := dots_ne s
  have hl : (dots s).length - 1 < (dots s).length := by have := List.length_pos_iff.2 h; omega
  unfold lastP
  rw [List.getLastD_eq_getLast?, List.getLast?_eq_getElem?, List.getD_eq_getElem?_getD]
theorem last_offs (s : By) : offs (dots s) ((dots s).length - 1) + (lastP s).length = s.length := by
  have h := dots_ne s
  have hl : (dots s).length - 1 < (dots s).length := by have := List.length_pos_iff.2 h; omega
  have h1 := dots_total s
  have h2 := offs_succ (dots s) ((dots s).length - 1) hl
  rw [show (dots s).length - 1 + 1 = (dots s).length by omega] at h2
  rw [lastP_at]; omega
/-- a name read -/
def nameL (s : By) : By × Er :=
  if 253 < s.length then ([], .one hostS 253 3) else match scanL (dots s) 0 with
    | some a => ([], .one hostS a 61)
    | none => if (lastP s).all isDig then ([], .one hostS (s.length - (lastP s).length) 63) else (s.map lowB, .no)
theorem name_long (s : By) (h : 253 < s.length) : nameL s = ([], .one hostS 253 3) := if_pos h
theorem name_bad (s : By) (h : ¬ 253 < s.length) (k : Nat) (hk : k < (dots s).length) (hi : ∀ i, i < k → labelOk ((dots s).getD i []) = true) (hb : labelOk ((dots s).getD k []) = false) : nameL s = ([], .one hostS (offs (dots s) k) 61) := by
  unfold nameL
  rw [if_neg h, scan_some' _ 0 k hk hi hb, Nat.zero_add]
theorem name_dig (s : By) (h : ¬ 253 < s.length) (hi : ∀ i, i < (dots s).length → labelOk ((dots s).getD i []) = true) (hd : (lastP s).all isDig = true) : nameL s = ([], .one hostS (s.length - (lastP s).length) 63) := by
  unfold nameL
  rw [if_neg h, scan_none' _ 0 hi]
  show (if _ then _ else _) = _
  rw [if_pos hd]
theorem name_ok (s : By) (h : ¬ 253 < s.length) (hi : ∀ i, i < (dots s).length → labelOk ((dots s).getD i []) = true) (hd : ¬ (lastP s).all isDig = true) : nameL s = (s.map lowB, .no) := by
  unfold nameL
  rw [if_neg h, scan_none' _ 0 hi]
  show (if _ then _ else _) = _
  rw [if_neg hd]
/-! small letters -/
theorem lowB_toNat (c : UInt8) : (lowB c).toNat = if 65 ≤ c.toNat ∧ c.toNat ≤ 90 then c.toNat + 32 else c.toNat := by
  unfold lowB
  split
  · rename_i h
    rw [UInt8.toNat_add]
    have : (32 : UInt8).toNat = 32 := rfl
    omega
  · rfl
theorem lowB_46 (c : UInt8) : lowB c = 46 ↔ c = 46 := by
  rw [← UInt8.toNat_inj, ← UInt8.toNat_inj, lowB_toNat]
  have : (46 : UInt8).toNat = 46 := rfl
  split <;> omega
theorem lowB_45 (c : UInt8) : lowB c = 45 ↔ c = 45 := by
  rw [← UInt8.toNat_inj, ← UInt8.toNat_inj, lowB_toNat]
  have : (45 : UInt8).toNat = 45 := rfl
  split <;> omega
theorem lowB_low (c : UInt8) : lowB (lowB c) = lowB c := by
  rw [← UInt8.toNat_inj, lowB_toNat, lowB_toNat]
  by_cases h : 65 ≤ c.toNat ∧ c.toNat ≤ 90
  · rw [if_pos h, if_neg (by omega)]
  · rw [if_neg h, if_neg h]
theorem lowB_dig (c : UInt8) : isDig (lowB c) = isDig c := by
  unfold isDig
  rw [lowB_toNat]
  by_cases h : 65 ≤ c.toNat ∧ c.toNat ≤ 90
  · rw [if_pos h]
    rw [decide_eq_false (show ¬ c.toNat + 32 ≤ 57 by omega), decide_eq_false (show ¬ c.toNat ≤ 57 by omega)]; simp
  · rw [if_neg h]
theorem lowB_okC (c : UInt8) : okC (lowB c) = okC c := by
  unfold okC
  rw [lowB_dig]
  have h45 : (lowB c == 45) = (c == 45) := by
    rw [Bool.eq_iff_iff]; simp [lowB_45]
  have hl : isLet (lowB c) = isLet c := by
    unfold isLet
    rw [lowB_toNat]
    by_cases h : 65 ≤ c.toNat ∧ c.toNat ≤ 90
    · rw [if_pos h]
      simp [h]
    · rw [if_neg h]
  rw [h45, hl]
theorem dots_low : ∀ s : By, dots (s.map lowB) = (dots s).map (·.map lowB)
  | [] => rfl
  | c :: r => by
    have ih := dots_low r
    show dots (lowB c :: r.map lowB) = _
    unfold dots
    by_cases h : c = 46
    · rw [if_pos h, if_pos ((lowB_46 c).2 h), ih]; rfl
    · rw [if_neg h, if_neg (fun e => h ((lowB_46 c).1 e)), ih, dots_cons r]; rfl
theorem labelOk_low (p : By) : labelOk (p.map lowB) = labelOk p := by
  unfold labelOk
  have h0 : ∀ i, ((p.map lowB).getD i 0 ≠ 45) = (p.getD i 0 ≠ 45) := by
    intro i
    rw [List.getD_eq_getElem?_getD, List.getD_eq_getElem?_getD, List.getElem?_map]
    cases p[i]? with
    | none => rfl
    | some c => simp [lowB_45]
  have hall : (p.map lowB).all okC = p.all okC := by
    rw [List.all_map]
    congr 1
    funext c; exact lowB_okC c
  simp only [List.length_map, h0, hall]
theorem scanL_low : ∀ (ps : List By) (a : Nat), scanL (ps.map (·.map lowB)) a = scanL ps a
  | [], _ => rfl
  | p :: r, a => by
    show scanL (p.map lowB :: r.map (·.map lowB)) a = _
    unfold scanL
    rw [labelOk_low, scanL_low r, List.length_map]
theorem lastP_low (s : By) : lastP (s.map lowB) = (lastP s).map lowB := by
  unfold lastP
  rw [dots_low, List.getLastD_eq_getLast?, List.getLastD_eq_getLast?, List.getLast?_map]
  cases (dots s).getLast? <;> rfl
theorem name_low (s : By) : nameL (s.map lowB) = nameL s := by
  unfold nameL
  rw [List.length_map, dots_low, scanL_low, lastP_low, List.length_map, List.all_map]
  rw [show (isDig ∘ lowB) = isDig from funext lowB_dig, List.map_map, show (lowB ∘ lowB) = lowB from funext lowB_low]
/-- what is read as a name is read again as it is -/
theorem name_again (s n : By) (h : nameL s = (n, .no)) : nameL n = (n, .no) := by
  by_cases h1 : 253 < s.length
  · rw [name_long s h1] at h; cases h
  · unfold nameL at h
    rw [if_neg h1] at h
    split at h
    · cases h
    · split at h
      · cases h
      · rename_i hs hd
        have hn : s.map lowB = n := by injection h
        subst hn
        rw [name_low]
        unfold nameL
        rw [if_neg h1, hs]
        show (if _ then _ else _) = _
        rw [if_neg hd]
theorem name_len (s n : By) (h : nameL s = (n, .no)) : n.length = s.length ∧ 1 ≤ n.length ∧ n.length ≤ 253 := by
  by_cases h1 : 253 < s.length
  · rw [name_long s h1] at h; cases h
  · unfold nameL at h
    rw [if_neg h1] at h
    split at h
    · cases h
    · split at h
      · cases h
      · rename_i hs hd
        have hn : s.map lowB = n := by injection h
        subst hn
        refine ⟨by simp, ?_, by simp; omega⟩
        cases s with
        | nil =>
          exfalso
          simp [dots, scanL, labelOk] at hs
        | cons c r => simp
end Go.Proofs.YtcnepgnfecoeoaaDoor
