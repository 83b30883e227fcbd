/- What is written is read as it was: requests, in plain Lean. No condition. -/
import Derived.Test.YtcnepgnfecoeoaaDoorFiv
set_option linter.unusedVariables false
set_option linter.unusedSimpArgs false
namespace Go.Proofs.YtcnepgnfecoeoaaDoor
open Go Go.Proofs.GP
theorem lowI_nat (n : Int) : ((lowI n).toNat : Int) = n % 256 := by
  unfold lowI
  have h0 : 0 ≤ n % 256 := Int.emod_nonneg _ (by decide)
  have h1 : n % 256 < 256 := Int.emod_lt_of_pos _ (by decide)
  rw [UInt8.toNat_ofNat', Nat.mod_eq_of_lt (by omega)]
  omega
theorem small_of {n : Int} (h : small n = true) : 0 ≤ n ∧ n ≤ 255 := by
  unfold small at h
  simp only [Bool.and_eq_true, decide_eq_true_eq] at h
  exact h
theorem small_nat (k : Nat) (h : k < 256) : small (k : Int) = true := by
  unfold small
  simp only [Bool.and_eq_true, decide_eq_true_eq]
  omega
theorem at8_app (a b : By) (i : Nat) (h : i < a.length) : at8 (a ++ b) i = at8 a i := by
  unfold at8
  rw [List.getD_eq_getElem?_getD, List.getElem?_append_left h, ← List.getD_eq_getElem?_getD]
theorem at8_appr (a b : By) (i : Nat) : at8 (a ++ b) (a.length + i) = at8 b i := by
  unfold at8
  rw [List.getD_eq_getElem?_getD, List.getElem?_append_right (by omega), Nat.add_sub_cancel_left, ← List.getD_eq_getElem?_getD]
theorem ver_5 (b : By) (h : b.length ≠ 0) (h1 : at8 b 0 = 5) : verL b 5 = .no := ver_k b 5 (by omega) h1
theorem port_back (p : Int) (h0 : 0 ≤ p) (h1 : p ≤ 65535) : ((lowI (p / 256)).toNat : Int) * 256 + (lowI p).toNat = p := by
  rw [lowI_nat, lowI_nat]; omega
theorem put_0 (n : Int) (d : Ds) (h : (putReqL n d).2 = 0) : small n = true ∧ hostOk d.h = true ∧ 0 ≤ d.p ∧ d.p ≤ 65535 := by
  unfold putReqL at h
  split at h
  · cases h
  · rename_i hc
    cases h1 : small n with
    | false => exact absurd (.inl h1) hc
    | true =>
      cases h2 : hostOk d.h with
      | false => exact absurd (.inr (.inl h2)) hc
      | true =>
        refine ⟨rfl, rfl, ?_, ?_⟩
        · rcases (by omega : d.p < 0 ∨ 0 ≤ d.p) with h | h
          · exact absurd (.inr (.inr (.inl h))) hc
          · exact h
        · rcases (by omega : 65535 < d.p ∨ d.p ≤ 65535) with h | h
          · exact absurd (.inr (.inr (.inr h))) hc
          · exact h
theorem req_back (n : Int) (d : Ds) (more : By) (h : (putReqL n d).2 = 0) : reqL ((putReqL n d).1 ++ more) = (n.toNat, d, (putReqL n d).1.length, .no) := by
  obtain ⟨h0, h1, h2, h3⟩ := put_0 n d h
  obtain ⟨hn0, hn1⟩ := small_of h0
  have hl := lowI_nat n
  have hp := port_back d.p h2 h3
  by_cases hn : d.h.n = []
  · rw [put_a n d h0 h1 h2 h3 hn]
    obtain ⟨B, hB⟩ : ∃ B, B = ([5, lowI n, 0, 1, d.h.ad.a, d.h.ad.b, d.h.ad.c, d.h.ad.d] ++ [lowI (d.p / 256), lowI d.p]) ++ more := ⟨_, rfl⟩
    show reqL (([5, lowI n, 0, 1, d.h.ad.a, d.h.ad.b, d.h.ad.c, d.h.ad.d] ++ [lowI (d.p / 256), lowI d.p]) ++ more) = _
    rw [← hB]
    have hlen : B.length = 10 + more.length := by rw [hB]; simp; omega
    have hv : verL B 5 = .no := ver_5 B (by omega) (by rw [hB]; rfl)
    have e3 : at8 B 3 = 1 := by rw [hB]; rfl
    have hpl := place_1 B 3 (by omega) e3 (by omega)
    have g4 : B.getD (3 + 1) 0 = d.h.ad.a := by rw [hB]; rfl
    have g5 : B.getD (3 + 2) 0 = d.h.ad.b := by rw [hB]; rfl
    have g6 : B.getD (3 + 3) 0 = d.h.ad.c := by rw [hB]; rfl
    have g7 : B.getD (3 + 4) 0 = d.h.ad.d := by rw [hB]; rfl
    rw [g4, g5, g6, g7] at hpl
    have e1 : at8 B 1 = (lowI n).toNat := by rw [hB]; rfl
    have e8 : at8 B (3 + 5) = (lowI (d.p / 256)).toNat := by rw [hB]; rfl
    have e9 : at8 B (3 + 5 + 1) = (lowI d.p).toNat := by rw [hB]; rfl
    have hr := req_k B hv (by omega) (by rw [hB]; rfl) (by rw [hpl]) (by rw [hpl]; show ¬ B.length < 3 + 5 + 2; omega)
    rw [hpl] at hr
    rw [hr]
    show (at8 B 1, (⟨_, (at8 B (3 + 5) : Int) * 256 + at8 B (3 + 5 + 1)⟩ : Ds), 3 + 5 + 2, Er.no) = _
    rw [e1, e8, e9, hp]
    have hd : (⟨⟨⟨d.h.ad.a, d.h.ad.b, d.h.ad.c, d.h.ad.d⟩, []⟩, d.p⟩ : Ds) = d := by
      rw [← hn]
    rw [hd, show (lowI n).toNat = n.toNat by omega]
    rfl
  · obtain ⟨hnm, had⟩ := host_nm d.h h1 hn
    have hnl := name_len d.h.n d.h.n hnm
    rw [put_n n d h0 h1 h2 h3 hn]
    obtain ⟨B, hB⟩ : ∃ B, B = (([5, lowI n, 0] ++ [3, lowI ↑d.h.n.length]) ++ d.h.n ++ [lowI (d.p / 256), lowI d.p]) ++ more := ⟨_, rfl⟩
    show reqL ((([5, lowI n, 0] ++ [3, lowI ↑d.h.n.length]) ++ d.h.n ++ [lowI (d.p / 256), lowI d.p]) ++ more) = _
    rw [← hB]
    have hB2 : B = [5, lowI n, 0, 3, lowI ↑d.h.n.length] ++ (d.h.n ++ ([lowI (d.p / 256), lowI d.p] ++ more)) := by rw [hB]; simp
    have hlen : B.length = 7 + d.h.n.length + more.length := by rw [hB2]; simp; omega
    have hv : verL B 5 = .no := ver_5 B (by omega) (by rw [hB2]; rfl)
    have e3 : at8 B 3 = 3 := by rw [hB2]; rfl
    have hll := lowI_nat ↑d.h.n.length
    have e4 : at8 B (3 + 1) = d.h.n.length := by
      have : at8 B (3 + 1) = (lowI ↑d.h.n.length).toNat := by rw [hB2]; rfl
      rw [this]; omega
    have ht := text_k B (3 + 1) 253 (by omega) (by omega) (by omega)
    have hcut : (B.drop (3 + 1 + 1)).take (at8 B (3 + 1)) = d.h.n := by
      rw [e4, hB2]
      show (d.h.n ++ ([lowI (d.p / 256), lowI d.p] ++ more)).take d.h.n.length = d.h.n
      rw [List.take_append_of_le_length (Nat.le_refl _), List.take_length]
    rw [hcut, e4] at ht
    have hpl := place_3 B 3 (by omega) e3 (by rw [ht]) (by rw [ht]; show (nameL d.h.n).2 = .no; rw [hnm])
    rw [ht] at hpl
    have hpl2 : placeL B 3 = (⟨Ad.zero, d.h.n⟩, 3 + 1 + 1 + d.h.n.length, .no) := by rw [hpl]; show ((⟨Ad.zero, (nameL d.h.n).1⟩ : Hs), _, _) = _; rw [hnm]
    have e1 : at8 B 1 = (lowI n).toNat := by rw [hB2]; rfl
    have e8 : at8 B (3 + 1 + 1 + d.h.n.length) = (lowI (d.p / 256)).toNat := by
      rw [hB2]
      have := at8_appr [5, lowI n, 0, 3, lowI ↑d.h.n.length] (d.h.n ++ ([lowI (d.p / 256), lowI d.p] ++ more)) d.h.n.length
      rw [show 3 + 1 + 1 + d.h.n.length = [5, lowI n, 0, 3, lowI ↑d.h.n.length].length + d.h.n.length from rfl, this]
      exact at8_appr d.h.n ([lowI (d.p / 256), lowI d.p] ++ more) 0
    have e9 : at8 B (3 + 1 + 1 + d.h.n.length + 1) = (lowI d.p).toNat := by
      rw [hB2]
      have := at8_appr [5, lowI n, 0, 3, lowI ↑d.h.n.length] (d.h.n ++ ([lowI (d.p / 256), lowI d.p] ++ more)) (d.h.n.length + 1)
      rw [show 3 + 1 + 1 + d.h.n.length + 1 = [5, lowI n, 0, 3, lowI ↑d.h.n.length].length + (d.h.n.length + 1) from by simp; omega, this]
      exact at8_appr d.h.n ([lowI (d.p / 256), lowI d.p] ++ more) 1
    have hr := req_k B hv (by omega) (by rw [hB2]; rfl) (by rw [hpl2]) (by rw [hpl2]; show ¬ B.length < 3 + 1 + 1 + d.h.n.length + 2; omega)
    rw [hpl2] at hr
    rw [hr]
    show (at8 B 1, (⟨_, (at8 B (3 + 1 + 1 + d.h.n.length) : Int) * 256 + at8 B (3 + 1 + 1 + d.h.n.length + 1)⟩ : Ds), 3 + 1 + 1 + d.h.n.length + 2, Er.no) = _
    rw [e1, e8, e9, hp]
    have hd : (⟨⟨Ad.zero, d.h.n⟩, d.p⟩ : Ds) = d := by rw [← had]
    rw [hd, show (lowI n).toNat = n.toNat by omega]
    have hlen2 : (([5, lowI n, 0] ++ [3, lowI ↑d.h.n.length]) ++ d.h.n ++ [lowI (d.p / 256), lowI d.p]).length = 3 + 1 + 1 + d.h.n.length + 2 := by simp; omega
    show _ = (_, _, ((([5, lowI n, 0] ++ [3, lowI ↑d.h.n.length]) ++ d.h.n ++ [lowI (d.p / 256), lowI d.p]).length), Er.no)
    rw [hlen2]
/-- what a request that is read has -/
theorem req_has (b : By) (h : (reqL b).2.2.2 = .no) : verL b 5 = .no ∧ ¬ b.length < 3 ∧ at8 b 2 = 0 ∧ (placeL b 3).2.2 = .no ∧ ¬ b.length < (placeL b 3).2.1 + 2 := by
  by_cases h1 : verL b 5 = .no
  · by_cases h2 : b.length < 3
    · rw [req_s b h1 h2] at h; cases h
    · by_cases h3 : at8 b 2 = 0
      · by_cases h4 : (placeL b 3).2.2 = .no
        · by_cases h5 : b.length < (placeL b 3).2.1 + 2
          · rw [req_t b h1 h2 h3 h4 h5] at h; cases h
          · exact ⟨h1, h2, h3, h4, h5⟩
        · rw [req_p b h1 h2 h3 h4] at h; exact absurd h h4
      · rw [req_w b h1 h2 h3] at h; cases h
  · rw [req_v b h1] at h; exact absurd h h1
theorem place_ok (b : By) (a : Nat) (h : (placeL b a).2.2 = .no) : hostOk (placeL b a).1 = true := by
  by_cases h1 : b.length ≤ a
  · rw [place_s b a h1] at h; cases h
  · by_cases h2 : at8 b a = 1
    · by_cases h3 : b.length < a + 5
      · rw [place_1s b a h1 h2 h3] at h; cases h
      · rw [place_1 b a h1 h2 h3]; rfl
    · by_cases h3 : at8 b a = 3
      · by_cases h4 : (textL b (a + 1) 253).2.2 = .no
        · by_cases h5 : (nameL (textL b (a + 1) 253).1).2 = .no
          · rw [place_3 b a h1 h3 h4 h5]
            have hag := name_again (textL b (a + 1) 253).1 (nameL (textL b (a + 1) 253).1).1 (by rw [← h5])
            unfold hostOk
            show (decide ((nameL (textL b (a + 1) 253).1).1 = []) || (decide ((nameL (nameL (textL b (a + 1) 253).1).1).2 = .no) && (decide ((nameL (nameL (textL b (a + 1) 253).1).1).1 = (nameL (textL b (a + 1) 253).1).1) && decide (Ad.zero = Ad.zero)))) = true
            rw [hag]; simp
          · rw [place_3n b a h1 h3 h4 h5] at h
            obtain ⟨x, y, e⟩ := name_one _ h5
            rw [e] at h; cases h
        · rw [place_3e b a h1 h3 h4] at h; exact absurd h h4
      · rw [place_t b a h1 h2 h3] at h; cases h
theorem req_nlen (b : By) : (reqL b).2.1.h.n.length ≤ 253 := by
  by_cases h : (reqL b).2.2.2 = .no
  · obtain ⟨h1, h2, h3, h4, h5⟩ := req_has b h
    rw [req_k b h1 h2 h3 h4 h5]
    exact host_len _ (place_ok b 3 h4)
  · have : (reqL b).2.1 = Ds.zero := by
      by_cases h1 : verL b 5 = .no
      · by_cases h2 : b.length < 3
        · rw [req_s b h1 h2]
        · by_cases h3 : at8 b 2 = 0
          · by_cases h4 : (placeL b 3).2.2 = .no
            · by_cases h5 : b.length < (placeL b 3).2.1 + 2
              · rw [req_t b h1 h2 h3 h4 h5]
              · rw [req_k b h1 h2 h3 h4 h5] at h; exact absurd rfl h
            · rw [req_p b h1 h2 h3 h4]
          · rw [req_w b h1 h2 h3]
      · rw [req_v b h1]
    rw [this]; decide
theorem putReq_len (n : Int) (d : Ds) : (putReqL n d).1.length ≤ 263 := by
  unfold putReqL
  split
  · simp
  · rename_i hc
    have hk : hostOk d.h = true := by
      cases h : hostOk d.h with
      | true => rfl
      | false => exact absurd (.inr (.inl h)) hc
    have := host_len d.h hk
    split <;> simp <;> omega
theorem req_again (b : By) (h : (reqL b).2.2.2 = .no) : (putReqL ↑(reqL b).1 (reqL b).2.1).2 = 0 ∧ reqL (putReqL ↑(reqL b).1 (reqL b).2.1).1 = ((reqL b).1, (reqL b).2.1, (putReqL ↑(reqL b).1 (reqL b).2.1).1.length, .no) := by
  obtain ⟨h1, h2, h3, h4, h5⟩ := req_has b h
  have hk := req_k b h1 h2 h3 h4 h5
  have hok := place_ok b 3 h4
  have x0 := at8_lt b (placeL b 3).2.1
  have x1 := at8_lt b ((placeL b 3).2.1 + 1)
  have x2 := at8_lt b 1
  have hput : (putReqL ↑(reqL b).1 (reqL b).2.1).2 = 0 := by
    rw [hk]
    rw [put_k _ _ (small_nat _ x2) hok (by show (0 : Int) ≤ (at8 b (placeL b 3).2.1 : Int) * 256 + at8 b ((placeL b 3).2.1 + 1); omega) (by show (at8 b (placeL b 3).2.1 : Int) * 256 + at8 b ((placeL b 3).2.1 + 1) ≤ 65535; omega)]
  refine ⟨hput, ?_⟩
  have := req_back ↑(reqL b).1 (reqL b).2.1 [] hput
  rw [List.append_nil] at this
  rw [this]
  simp
end Go.Proofs.YtcnepgnfecoeoaaDoor
