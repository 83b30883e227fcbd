/- Names of hosts in plain Lean: kinds of bytes, the library's splitting and small letters. No condition. -/
import Derived.Test.YtcnepgnfecoeoaaDoorHst
import Derived.Lib.Split
import Derived.Lib.SplitLaws
import Derived.Lib.Case
set_option linter.unusedVariables false
set_option linter.unusedSimpArgs false
namespace Go.Proofs.YtcnepgnfecoeoaaDoor
open Go Go.Proofs.GP
def kindL (c : UInt8) : Int := if c.toNat = 46 then 1 else if 48 ≤ c.toNat ∧ c.toNat ≤ 57 then 2 else if c.toNat = 45 then 3 else if 65 ≤ c.toNat ∧ c.toNat ≤ 90 then 4 else if 97 ≤ c.toNat ∧ c.toNat ≤ 122 then 4 else 0
def kin (ks : List Int) (c : UInt8) : Bool := ks.any fun k => decide (kindL c = k)
def onlyL (s : By) (ks : List Int) : Bool := s.all (kin ks)
def jv (n : Int) : Value := .int .i64 n
theorem any_succ {α : Type} (q : α → Bool) (d : α) : ∀ (l : List α) (j : Nat), j < l.length → (l.take (j + 1)).any q = ((l.take j).any q || q (l.getD j d))
  | [], j, h => by simp at h
  | x :: l, 0, _ => by simp
  | x :: l, j + 1, h => by
    have := any_succ q d l j (by simpa using h)
    rw [List.take_succ_cons, List.any_cons, this, List.take_succ_cons, List.any_cons, Bool.or_assoc]; rfl
theorem all_succ {α : Type} (q : α → Bool) (d : α) : ∀ (l : List α) (j : Nat), j < l.length → (l.take (j + 1)).all q = ((l.take j).all q && q (l.getD j d))
  | [], j, h => by simp at h
  | x :: l, 0, _ => by simp
  | x :: l, j + 1, h => by
    have := all_succ q d l j (by simpa using h)
    rw [List.take_succ_cons, List.all_cons, this, List.take_succ_cons, List.all_cons, Bool.and_assoc]; rfl
theorem all_no {α : Type} (q : α → Bool) (d : α) (l : List α) (j : Nat) (hj : j < l.length) (h : q (l.getD j d) = false) : l.all q = false := by
  rw [List.all_eq_false]
  refine ⟨l[j], List.getElem_mem hj, ?_⟩
  rw [List.getD_eq_getElem?_getD, List.getElem?_eq_getElem hj] at h
  simpa using h
theorem kin3 (c : UInt8) : kin [2, 3, 4] c = okC c := by
  have h45 : (c == 45) = decide (c.toNat = 45) := by
    rw [Bool.eq_iff_iff]
    simp only [beq_iff_eq, decide_eq_true_eq]
    rw [← UInt8.toNat_inj]; rfl
  unfold kin okC isDig isLet kindL
  rw [h45]
  simp only [List.any_cons, List.any_nil, Bool.or_false]
  by_cases h1 : c.toNat = 46
  · simp [h1]
  · by_cases h2 : 48 ≤ c.toNat ∧ c.toNat ≤ 57
    · simp [h1, h2]
    · by_cases h3 : c.toNat = 45
      · simp [h3]
      · by_cases h4 : 65 ≤ c.toNat ∧ c.toNat ≤ 90
        · rw [if_neg h1, if_neg h2, if_neg h3, if_pos h4]; simp [h4]
        · by_cases h5 : 97 ≤ c.toNat ∧ c.toNat ≤ 122
          · rw [if_neg h1, if_neg h2, if_neg h3, if_neg h4, if_pos h5]; simp [h5]
          · rw [if_neg h1, if_neg h2, if_neg h3, if_neg h4, if_neg h5]
            simp only [show decide ((0 : Int) = 2) = false from rfl, show decide ((0 : Int) = 3) = false from rfl, show decide ((0 : Int) = 4) = false from rfl, Bool.or_false]
            symm
            rw [Bool.eq_false_iff]
            simp only [ne_eq, Bool.or_eq_true, Bool.and_eq_true, decide_eq_true_eq, not_or]
            exact ⟨⟨h2, h3⟩, h4, h5⟩
theorem kin1 (c : UInt8) : kin [2] c = isDig c := by
  unfold kin isDig kindL
  simp only [List.any_cons, List.any_nil, Bool.or_false]
  by_cases h1 : c.toNat = 46
  · simp [h1]
  · by_cases h2 : 48 ≤ c.toNat ∧ c.toNat ≤ 57
    · simp [h1, h2]
    · have hd : (decide (48 ≤ c.toNat) && decide (c.toNat ≤ 57)) = false := by
        rw [Bool.eq_false_iff]; simpa using h2
      rw [hd, if_neg h1, if_neg h2]
      split
      · rfl
      · split
        · rfl
        · split <;> rfl
theorem only3 (p : By) : onlyL p [2, 3, 4] = p.all okC := by unfold onlyL; rw [show kin [2, 3, 4] = okC from funext kin3]
theorem only1 (p : By) : onlyL p [2] = p.all isDig := by unfold onlyL; rw [show kin [2] = isDig from funext kin1]
theorem offs_mono (ps : List By) : ∀ (d k : Nat), offs ps k ≤ offs ps (k + d)
  | 0, _ => Nat.le_refl _
  | d + 1, k => by
    refine Nat.le_trans (offs_mono ps d k) ?_
    rcases Nat.lt_or_ge (k + d) ps.length with h | h
    · rw [← Nat.add_assoc, offs_succ ps (k + d) h]; omega
    · unfold offs
      rw [List.take_of_length_le (by omega), List.take_of_length_le (by omega)]; exact Nat.le_refl _
theorem offs_le (s : By) (k : Nat) (hk : k ≤ (dots s).length) : offs (dots s) k ≤ s.length + 1 := by
  have := offs_mono (dots s) ((dots s).length - k) k
  rw [show k + ((dots s).length - k) = (dots s).length by omega, dots_total] at this
  exact this
theorem u8_eq {c : UInt8} (h : (c.toNat : Int) = 45) : c = 45 := by
  rw [← UInt8.toNat_inj]; show c.toNat = 45; omega
theorem u8_ne {c : UInt8} (h : ¬ (c.toNat : Int) = 45) : ¬ c = 45 := fun e => h (by rw [e]; rfl)
theorem by_nil {p : By} (h : p = []) : p.length = 0 := by rw [h]; rfl
theorem by_ne {p : By} (h : ¬ p = []) : ¬ p.length = 0 := fun e => h (List.eq_nil_of_length_eq_zero e)
theorem dots_len : ∀ s : By, (dots s).length ≤ s.length + 1
  | [] => by simp [dots]
  | c :: r => by
    have ih := dots_len r
    unfold dots
    split
    · simpa using ih
    · rw [dots_cons r] at ih
      simp only [List.length_cons] at ih ⊢
      omega
/-- a part of a name, test by test -/
theorem lab_0 (p : By) (h : p.length = 0) : labelOk p = false := by unfold labelOk; simp [h]
theorem lab_1 (p : By) (h : 63 < p.length) : labelOk p = false := by unfold labelOk; rw [decide_eq_false (p := p.length ≤ 63) (by omega)]; simp
theorem lab_2 (p : By) (h : p.all okC = false) : labelOk p = false := by unfold labelOk; rw [h]; simp
theorem lab_3 (p : By) (h : p.getD 0 0 = 45) : labelOk p = false := by unfold labelOk; rw [h]; simp
theorem lab_4 (p : By) (h : p.getD (p.length - 1) 0 = 45) : labelOk p = false := by unfold labelOk; rw [h]; simp
theorem lab_k (p : By) (h0 : ¬ p.length = 0) (h1 : ¬ 63 < p.length) (h2 : p.all okC = true) (h3 : ¬ p.getD 0 0 = 45) (h4 : ¬ p.getD (p.length - 1) 0 = 45) : labelOk p = true := by
  unfold labelOk; rw [h2, decide_eq_true (p := p.length ≤ 63) (by omega), decide_eq_true (p := p.length ≠ 0) h0, decide_eq_true (p := p.getD 0 0 ≠ 45) h3, decide_eq_true (p := p.getD (p.length - 1) 0 ≠ 45) h4]; rfl
theorem splitK_dots : ∀ l : By, Lib.splitK [46] 0 (l.count 46) l = dots l
  | [] => rfl
  | b :: r => by
    have ih := splitK_dots r
    unfold dots
    by_cases hb : b = 46
    · subst hb
      rw [if_pos rfl, List.count_cons_self]
      have hi : Lib.index (46 :: r) [46] = 0 := by unfold Lib.index; simp
      unfold Lib.splitK
      rw [hi]
      simp [ih]
    · rw [if_neg hb]
      have hc : (b :: r).count 46 = r.count 46 := List.count_cons_of_ne hb
      rw [hc]
      have hi : Lib.index (b :: r) [46] = if Lib.index r [46] == -1 then -1 else Lib.index r [46] + 1 := by
        have hp : ([46] : By).isPrefixOf (b :: r) = false := by
          show (((46 : UInt8) == b) && ([] : By).isPrefixOf r) = false
          rw [show ((46 : UInt8) == b) = false from beq_eq_false_iff_ne.2 (Ne.symm hb)]; rfl
        rw [Lib.index, hp]; rfl
      cases hk : r.count 46 with
      | zero =>
        rw [hk] at ih
        have : dots r = [r] := ih.symm
        rw [this]; rfl
      | succ k =>
        rw [hk] at ih
        unfold Lib.splitK at ih ⊢
        rw [hi]
        have hge : Lib.index r [46] = -1 ∨ 0 ≤ Lib.index r [46] := by
          have key : ∀ l : By, Lib.index l [46] = -1 ∨ 0 ≤ Lib.index l [46] := by
            intro l
            induction l with
            | nil => left; rfl
            | cons a l ih =>
              unfold Lib.index
              split
              · right; decide
              · split
                · left; rfl
                · rename_i h
                  right
                  rcases ih with h' | h'
                  · rw [h'] at h; exact absurd rfl h
                  · omega
          exact key r
        rcases hge with h | h
        · rw [h] at ih ⊢
          have : dots r = [r] := ih.symm
          rw [this]; rfl
        · have hne : (Lib.index r [46] == -1) = false := by rw [beq_eq_false_iff_ne]; omega
          rw [hne] at ih ⊢
          have hne2 : (Lib.index r [46] + 1 == -1) = false := by rw [beq_eq_false_iff_ne]; omega
          simp only [Bool.false_eq_true, if_false] at ih ⊢
          rw [hne2]
          simp only [Bool.false_eq_true, if_false]
          rw [← ih, show (Lib.index r [46] + 1).toNat = (Lib.index r [46]).toNat + 1 by omega]
          rfl
theorem lowB_eq (c : UInt8) : Lib.lowerB c = lowB c := by
  unfold Lib.lowerB lowB Lib.isUpperB
  by_cases h : 65 ≤ c.toNat ∧ c.toNat ≤ 90
  · rw [if_pos h, if_pos]
    simp only [Bool.and_eq_true, decide_eq_true_eq, UInt8.le_iff_toNat_le]
    exact h
  · rw [if_neg h, if_neg]
    simp only [Bool.and_eq_true, decide_eq_true_eq, UInt8.le_iff_toNat_le]
    exact h
theorem low_map (s : By) : Lib.toLowerA s = s.map lowB := by unfold Lib.toLowerA; rw [show Lib.lowerB = lowB from funext lowB_eq]
theorem okC_lt (c : UInt8) (h : okC c = true) : c.toNat < 128 := by
  unfold okC isDig isLet at h
  have h45 : (c == 45) = decide (c.toNat = 45) := by
    rw [Bool.eq_iff_iff]
    simp only [beq_iff_eq, decide_eq_true_eq]
    rw [← UInt8.toNat_inj]; rfl
  rw [h45] at h
  simp only [Bool.or_eq_true, Bool.and_eq_true, decide_eq_true_eq] at h
  omega
theorem dots_mem : ∀ (s : By) (c : UInt8), c ∈ s → c = 46 ∨ ∃ p, p ∈ dots s ∧ c ∈ p
  | b :: r, c, h => by
    unfold dots
    by_cases hb : b = 46
    · rw [if_pos hb]
      rcases List.mem_cons.1 h with rfl | h
      · exact .inl hb
      · rcases dots_mem r c h with h | ⟨p, hp, hc⟩
        · exact .inl h
        · exact .inr ⟨p, List.mem_cons_of_mem _ hp, hc⟩
    · rw [if_neg hb]
      rcases List.mem_cons.1 h with rfl | h
      · exact .inr ⟨_, List.mem_cons_self, List.mem_cons_self⟩
      · rcases dots_mem r c h with h | ⟨p, hp, hc⟩
        · exact .inl h
        · rw [dots_cons r] at hp
          rcases List.mem_cons.1 hp with rfl | hp
          · exact .inr ⟨_, List.mem_cons_self, List.mem_cons_of_mem _ hc⟩
          · exact .inr ⟨p, List.mem_cons_of_mem _ hp, hc⟩
theorem name_ascii (s : By) (h : ∀ i, i < (dots s).length → labelOk ((dots s).getD i []) = true) : ∀ (j : Nat) (b : UInt8), s[j]? = some b → b.toNat < 128 := by
  intro j b hj
  rcases dots_mem s b (List.mem_of_getElem? hj) with rfl | ⟨p, hp, hc⟩
  · decide
  · obtain ⟨i, hi, rfl⟩ := List.mem_iff_getElem.1 hp
    have := h i hi
    rw [List.getD_eq_getElem?_getD, List.getElem?_eq_getElem hi] at this
    unfold labelOk at this
    simp only [Option.getD_some, Bool.and_eq_true, List.all_eq_true] at this
    exact okC_lt b (this.1.1.2 b hc)
end Go.Proofs.YtcnepgnfecoeoaaDoor
