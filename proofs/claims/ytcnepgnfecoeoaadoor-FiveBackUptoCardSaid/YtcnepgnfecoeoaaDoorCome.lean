/- How requests come: what stands behind one changes nothing; as long as it is not whole it is short. In plain Lean. No condition. -/
import Derived.Test.YtcnepgnfecoeoaaDoorBack
set_option linter.unusedVariables false
set_option linter.unusedSimpArgs false
namespace Go.Proofs.YtcnepgnfecoeoaaDoor
open Go Go.Proofs.GP
/-- a number made one from 0 to m - 1 -/
def among (x : Int) (m : Nat) : Nat := ((x % 18446744073709551616).tmod (m : Int)).toNat
theorem among_rem (x : Int) (m : Nat) (h : 0 < m) : (x % 18446744073709551616).tmod (m : Int) = (among x m : Int) := by
  unfold among
  rw [Int.toNat_of_nonneg (Int.tmod_nonneg _ (Int.emod_nonneg _ (by decide)))]
theorem among_lt (x : Int) (m : Nat) (h : 0 < m) : among x m < m := by
  have h1 := among_rem x m h
  have h2 := Int.tmod_lt_of_pos (x % 18446744073709551616) (show (0 : Int) < (m : Int) by omega)
  omega
theorem getD_app (a m : By) (i : Nat) (h : i < a.length) : (a ++ m).getD i 0 = a.getD i 0 := by
  rw [List.getD_eq_getElem?_getD, List.getElem?_append_left h, ← List.getD_eq_getElem?_getD]
theorem cut_app (b m : By) (a n : Nat) (h : a + n ≤ b.length) : ((b ++ m).drop a).take n = (b.drop a).take n := by
  rw [List.drop_append_of_le_length (by omega), List.take_append_of_le_length (by rw [List.length_drop]; omega)]
theorem ver_app (b m : By) (v : Nat) (h : ¬ b.length ≤ 0) : verL (b ++ m) v = verL b v := by
  have h' : ¬ (b ++ m).length ≤ 0 := by rw [List.length_append]; omega
  have h8 := at8_app b m 0 (by omega)
  by_cases h1 : at8 b 0 = v
  · rw [ver_k b v h h1, ver_k (b ++ m) v h' (by rw [h8]; exact h1)]
  · rw [ver_v b v h h1, ver_v (b ++ m) v h' (by rw [h8]; exact h1)]
theorem text_app (b m : By) (a most : Nat) (h : (textL b a most).2.2 ≠ shortE b) : textL (b ++ m) a most = textL b a most := by
  have hl : (b ++ m).length = b.length + m.length := List.length_append
  by_cases h1 : b.length ≤ a
  · rw [text_s b a most h1] at h; exact absurd rfl h
  · have h8 := at8_app b m a (by omega)
    by_cases h2 : at8 b a < 1 ∨ most < at8 b a
    · rw [text_w b a most h1 h2, text_w (b ++ m) a most (by omega) (by rw [h8]; exact h2)]
    · by_cases h3 : b.length < a + 1 + at8 b a
      · rw [text_t b a most h1 h2 h3] at h; exact absurd rfl h
      · rw [text_k b a most h1 h2 h3, text_k (b ++ m) a most (by omega) (by rw [h8]; exact h2) (by rw [h8]; omega), h8, cut_app b m (a + 1) (at8 b a) (by omega)]
theorem place_app (b m : By) (a : Nat) (h : (placeL b a).2.2 ≠ shortE b) : placeL (b ++ m) a = placeL b a := by
  have hl : (b ++ m).length = b.length + m.length := List.length_append
  by_cases h1 : b.length ≤ a
  · rw [place_s b a h1] at h; exact absurd rfl h
  · have h8 := at8_app b m a (by omega)
    by_cases h2 : at8 b a = 1
    · by_cases h3 : b.length < a + 5
      · rw [place_1s b a h1 h2 h3] at h; exact absurd rfl h
      · rw [place_1 b a h1 h2 h3, place_1 (b ++ m) a (by omega) (by rw [h8]; exact h2) (by omega), getD_app b m _ (by omega), getD_app b m _ (by omega), getD_app b m _ (by omega), getD_app b m _ (by omega)]
    · by_cases h3 : at8 b a = 3
      · by_cases h4 : (textL b (a + 1) 253).2.2 = .no
        · have ht := text_app b m (a + 1) 253 (by rw [h4]; exact fun e => by cases e)
          by_cases h5 : (nameL (textL b (a + 1) 253).1).2 = .no
          · rw [place_3 b a h1 h3 h4 h5, place_3 (b ++ m) a (by omega) (by rw [h8]; exact h3) (by rw [ht]; exact h4) (by rw [ht]; exact h5), ht]
          · rw [place_3n b a h1 h3 h4 h5, place_3n (b ++ m) a (by omega) (by rw [h8]; exact h3) (by rw [ht]; exact h4) (by rw [ht]; exact h5), ht]
        · rw [place_3e b a h1 h3 h4] at h
          have ht := text_app b m (a + 1) 253 h
          rw [place_3e b a h1 h3 h4, place_3e (b ++ m) a (by omega) (by rw [h8]; exact h3) (by rw [ht]; exact h4), ht]
      · rw [place_t b a h1 h2 h3, place_t (b ++ m) a (by omega) (by rw [h8]; exact h2) (by rw [h8]; exact h3)]
theorem req_app (b m : By) (h : (reqL b).2.2.2 ≠ shortE b) : reqL (b ++ m) = reqL b := by
  have hl : (b ++ m).length = b.length + m.length := List.length_append
  by_cases h0 : b.length ≤ 0
  · have hv := ver_s b 5 h0
    rw [req_v b (by rw [hv]; exact fun e => by cases e), hv] at h; exact absurd rfl h
  · have hv := ver_app b m 5 h0
    by_cases h1 : verL b 5 = .no
    · by_cases h2 : b.length < 3
      · rw [req_s b h1 h2] at h; exact absurd rfl h
      · have h8 := at8_app b m 2 (by omega)
        by_cases h3 : at8 b 2 = 0
        · by_cases h4 : (placeL b 3).2.2 = .no
          · have hp := place_app b m 3 (by rw [h4]; exact fun e => by cases e)
            by_cases h5 : b.length < (placeL b 3).2.1 + 2
            · rw [req_t b h1 h2 h3 h4 h5] at h; exact absurd rfl h
            · rw [req_k b h1 h2 h3 h4 h5, req_k (b ++ m) (by rw [hv]; exact h1) (by omega) (by rw [h8]; exact h3) (by rw [hp]; exact h4) (by rw [hp]; omega), hp, at8_app b m 1 (by omega), at8_app b m _ (by omega), at8_app b m _ (by omega)]
          · rw [req_p b h1 h2 h3 h4] at h
            have hp := place_app b m 3 h
            rw [req_p b h1 h2 h3 h4, req_p (b ++ m) (by rw [hv]; exact h1) (by omega) (by rw [h8]; exact h3) (by rw [hp]; exact h4), hp]
        · rw [req_w b h1 h2 h3, req_w (b ++ m) (by rw [hv]; exact h1) (by omega) (by rw [h8]; exact h3)]
    · rw [req_v b h1, req_v (b ++ m) (by rw [hv]; exact h1), hv]
/-- what is told beside an error -/
theorem req_err (b : By) (h : (reqL b).2.2.2 ≠ .no) : reqL b = (0, Ds.zero, 0, (reqL b).2.2.2) := by
  by_cases h1 : verL b 5 = .no
  · by_cases h2 : b.length < 3
    · rw [req_s b h1 h2]
    · by_cases h3 : at8 b 2 = 0
      · by_cases h4 : (placeL b 3).2.2 = .no
        · by_cases h5 : b.length < (placeL b 3).2.1 + 2
          · rw [req_t b h1 h2 h3 h4 h5]
          · rw [req_k b h1 h2 h3 h4 h5] at h; exact absurd rfl h
        · rw [req_p b h1 h2 h3 h4]
      · rw [req_w b h1 h2 h3]
  · rw [req_v b h1]
theorem text_max (b : By) (a most : Nat) (h : (textL b a most).2.2 = .no) : (textL b a most).2.1 ≤ a + 1 + most := by
  have := text_end b a most h
  omega
theorem place_max (b : By) (a : Nat) (h : (placeL b a).2.2 = .no) : (placeL b a).2.1 ≤ a + 255 := by
  by_cases h1 : b.length ≤ a
  · rw [place_s b a h1] at h; cases h
  · by_cases h2 : at8 b a = 1
    · by_cases h3 : b.length < a + 5
      · rw [place_1s b a h1 h2 h3] at h; cases h
      · rw [place_1 b a h1 h2 h3]; show a + 5 ≤ a + 255; omega
    · by_cases h3 : at8 b a = 3
      · by_cases h4 : (textL b (a + 1) 253).2.2 = .no
        · have ht := text_max b (a + 1) 253 h4
          by_cases h5 : (nameL (textL b (a + 1) 253).1).2 = .no
          · rw [place_3 b a h1 h3 h4 h5]
            show (textL b (a + 1) 253).2.1 ≤ a + 255; omega
          · rw [place_3n b a h1 h3 h4 h5] at h
            obtain ⟨x, y, e⟩ := name_one _ h5
            rw [e] at h; cases h
        · rw [place_3e b a h1 h3 h4] at h; exact absurd h h4
      · rw [place_t b a h1 h2 h3] at h; cases h
theorem req_n (b : By) (h : (reqL b).2.2.2 = .no) : 1 ≤ (reqL b).2.2.1 ∧ (reqL b).2.2.1 ≤ b.length ∧ (reqL b).2.2.1 ≤ 263 := by
  obtain ⟨h1, h2, h3, h4, h5⟩ := req_has b h
  rw [req_k b h1 h2 h3 h4 h5]
  have := place_max b 3 h4
  show 1 ≤ (placeL b 3).2.1 + 2 ∧ (placeL b 3).2.1 + 2 ≤ b.length ∧ (placeL b 3).2.1 + 2 ≤ 263
  omega
theorem text_short (b : By) (a most : Nat) (h : (textL b a most).2.2 = shortE b) (hm : most ≤ 255) : b.length ≤ a + 1 + most := by
  by_cases h1 : b.length ≤ a
  · omega
  · by_cases h2 : at8 b a < 1 ∨ most < at8 b a
    · rw [text_w b a most h1 h2] at h; unfold shortE at h; injection h with _ _ h; omega
    · by_cases h3 : b.length < a + 1 + at8 b a
      · omega
      · rw [text_k b a most h1 h2 h3] at h; cases h
theorem req_short (b : By) (h : (reqL b).2.2.2 = shortE b) : b.length < 263 := by
  by_cases h1 : verL b 5 = .no
  · by_cases h2 : b.length < 3
    · omega
    · by_cases h3 : at8 b 2 = 0
      · by_cases h4 : (placeL b 3).2.2 = .no
        · by_cases h5 : b.length < (placeL b 3).2.1 + 2
          · have := place_max b 3 h4; omega
          · rw [req_k b h1 h2 h3 h4 h5] at h; cases h
        · rw [req_p b h1 h2 h3 h4] at h
          by_cases g1 : b.length ≤ 3
          · omega
          · by_cases g2 : at8 b 3 = 1
            · by_cases g3 : b.length < 3 + 5
              · omega
              · rw [place_1 b 3 g1 g2 g3] at h; cases h
            · by_cases g3 : at8 b 3 = 3
              · by_cases g4 : (textL b (3 + 1) 253).2.2 = .no
                · by_cases g5 : (nameL (textL b (3 + 1) 253).1).2 = .no
                  · rw [place_3 b 3 g1 g3 g4 g5] at h; cases h
                  · rw [place_3n b 3 g1 g3 g4 g5] at h
                    obtain ⟨x, y, e⟩ := name_one _ g5
                    rw [e] at h; cases h
                · rw [place_3e b 3 g1 g3 g4] at h
                  have := text_short b (3 + 1) 253 h (by decide)
                  omega
              · rw [place_t b 3 g1 g2 g3] at h; unfold shortE at h; injection h with _ _ h; omega
      · rw [req_w b h1 h2 h3] at h; unfold shortE at h; injection h with _ _ h; omega
  · rw [req_v b h1] at h
    by_cases g : b.length ≤ 0
    · omega
    · by_cases g1 : at8 b 0 = 5
      · exact absurd (ver_k b 5 g g1) h1
      · rw [ver_v b 5 g g1] at h; unfold shortE at h; injection h with _ _ h; omega
theorem req_take (b : By) (k : Nat) (h : (reqL b).2.2.2 = .no) (hk : k < (reqL b).2.2.1) : reqL (b.take k) = (0, Ds.zero, 0, shortE (b.take k)) := by
  have hn := req_n b h
  by_cases hs : (reqL (b.take k)).2.2.2 = shortE (b.take k)
  · have := req_err (b.take k) (by rw [hs]; exact fun e => by cases e)
    rw [hs] at this; exact this
  · exfalso
    have ha := req_app (b.take k) (b.drop k) hs
    rw [List.take_append_drop] at ha
    rw [ha] at h hk
    have hn2 := req_n (b.take k) h
    have hl : (b.take k).length ≤ k := by rw [List.length_take]; omega
    omega
end Go.Proofs.YtcnepgnfecoeoaaDoor
