/- What is written is read as it was: greetings and logins, in plain Lean. No condition. -/
import Derived.Test.YtcnepgnfecoeoaaDoorBack
import Derived.Test.YtcnepgnfecoeoaaDoorHst2
set_option linter.unusedVariables false
set_option linter.unusedSimpArgs false
namespace Go.Proofs.YtcnepgnfecoeoaaDoor
open Go Go.Proofs.GP
theorem lowI_len (n : Nat) : (lowI ↑n).toNat = n % 256 := by have := lowI_nat ↑n; omega
theorem low_gi {n : Int} (h : small n = true) : gi (lowI n) = n := by
  obtain ⟨h0, h1⟩ := small_of h
  unfold gi
  rw [lowI_nat]
  omega
theorem gi_map : ∀ (ms : List Int), ms.all small = true → (ms.map lowI).map gi = ms
  | [], _ => rfl
  | m :: ms, h => by
    rw [List.all_cons, Bool.and_eq_true] at h
    rw [List.map_cons, List.map_cons, low_gi h.1, gi_map ms h.2]
def greetP (ms : List Int) (i : Nat) : By := [5, lowI ↑ms.length] ++ (ms.take i).map lowI
def greetB (ms : List Int) : By := greetP ms ms.length
theorem greetP_len (ms : List Int) (i : Nat) (h : i < ms.length) : (greetP ms i).length + 1 = (greetP ms (i + 1)).length := by
  unfold greetP
  simp only [List.length_append, List.length_map, List.length_take, List.length_cons, List.length_nil]
  omega
theorem greetP_le (ms : List Int) (i : Nat) : (greetP ms i).length ≤ 2 + ms.length := by
  unfold greetP
  simp only [List.length_append, List.length_map, List.length_take, List.length_cons, List.length_nil]
  omega
theorem greetP_succ (ms : List Int) (i : Nat) (h : i < ms.length) : (greetP ms (i + 1)).map bv = (greetP ms i).map bv ++ [.int .u8 ↑(lowI (ms.getD i 0)).toNat] := by
  unfold greetP
  rw [List.take_add_one, List.getElem?_eq_getElem h, List.map_append, List.map_append, List.map_append, List.map_append, List.getD_eq_getElem?_getD, List.getElem?_eq_getElem h, List.append_assoc]
  rfl
theorem greetB_len (ms : List Int) : (greetB ms).length = 2 + ms.length := by
  unfold greetB greetP
  simp only [List.length_append, List.length_map, List.length_take, List.length_cons, List.length_nil]
  omega
theorem greet_val (ms : List Int) (more : By) : greetL (greetB ms ++ more) = if ms.length % 256 = 0 then ([], 0, .one fiveS 1 72) else ((ms.map lowI ++ more).take (ms.length % 256), 2 + ms.length % 256, .no) := by
  obtain ⟨B, hB⟩ : ∃ B, B = greetB ms ++ more := ⟨_, rfl⟩
  rw [← hB]
  have hlen : B.length = 2 + ms.length + more.length := by rw [hB, List.length_append, greetB_len]
  have hv : verL B 5 = .no := ver_5 B (by omega) (by rw [hB]; rfl)
  have h1 : at8 B 1 = ms.length % 256 := by
    have : at8 B 1 = (lowI ↑ms.length).toNat := by rw [hB]; rfl
    rw [this, lowI_len]
  rw [greet_k B hv]
  by_cases h0 : ms.length % 256 = 0
  · rw [if_pos h0]
    exact text_w B 1 255 (by omega) (.inl (by omega))
  · rw [if_neg h0, text_k B 1 255 (by omega) (by omega) (by rw [h1]; omega), h1]
    have hd : B.drop (1 + 1) = ms.map lowI ++ more := by
      rw [hB]
      show ((ms.take ms.length).map lowI ++ more) = _
      rw [List.take_length]
    rw [hd]
theorem greet_val0 (ms : List Int) : greetL (greetB ms) = if ms.length % 256 = 0 then ([], 0, .one fiveS 1 72) else ((ms.map lowI).take (ms.length % 256), 2 + ms.length % 256, .no) := by
  have := greet_val ms []
  rwa [List.append_nil, List.append_nil] at this
theorem pg_s (ms : List Int) (i : Nat) (hi : i < ms.length) (h : small (ms.getD i 0) = false) : putGreetL ms = ([], 2) := if_pos (.inr (.inr (all_no small 0 ms i hi h)))
theorem pg_n (ms : List Int) (h : (greetL (greetB ms)).2.2 ≠ .no) : putGreetL ms = ([], 2) := by
  rw [greet_val0] at h
  by_cases h0 : ms.length % 256 = 0
  · exact if_pos (by omega)
  · rw [if_neg h0] at h
    exact absurd rfl h
theorem pg_l (ms : List Int) (h1 : (greetL (greetB ms)).2.2 = .no) (h : (greetL (greetB ms)).2.1 ≠ (greetB ms).length) : putGreetL ms = ([], 2) := by
  rw [greet_val0] at h h1
  by_cases h0 : ms.length % 256 = 0
  · rw [if_pos h0] at h1; cases h1
  · rw [if_neg h0, greetB_len] at h
    exact if_pos (by have h : 2 + ms.length % 256 ≠ 2 + ms.length := h; omega)
theorem pg_k (ms : List Int) (ha : ms.all small = true) (h1 : (greetL (greetB ms)).2.2 = .no) (h : (greetL (greetB ms)).2.1 = (greetB ms).length) : putGreetL ms = (greetB ms, 0) := by
  rw [greet_val0] at h h1
  by_cases h0 : ms.length % 256 = 0
  · rw [if_pos h0] at h1; cases h1
  · rw [if_neg h0, greetB_len] at h
    have h : 2 + ms.length % 256 = 2 + ms.length := h
    have he : greetB ms = [5, b8 ms.length] ++ ms.map b8 := by unfold greetB greetP; rw [List.take_length]
    unfold putGreetL
    rw [if_neg (by rintro (h' | h' | h'); omega; omega; (rw [ha] at h'; cases h')), he]
theorem greet_back (ms : List Int) (more : By) (h : (putGreetL ms).2 = 0) : greetL ((putGreetL ms).1 ++ more) = (ms.map lowI, (putGreetL ms).1.length, .no) ∧ (ms.map lowI).map gi = ms := by
  unfold putGreetL at h ⊢
  split at h
  · cases h
  · rename_i hc
    rw [if_neg hc]
    have he : [5, b8 ms.length] ++ ms.map b8 = greetB ms := by unfold greetB greetP; rw [List.take_length]
    have hs : ms.all small = true := by
      cases hh : ms.all small with
      | true => rfl
      | false => exact absurd (.inr (.inr hh)) hc
    refine ⟨?_, gi_map ms hs⟩
    have hl : 1 ≤ ms.length ∧ ms.length ≤ 255 := by
      refine ⟨?_, ?_⟩
      · rcases (by omega : ms.length < 1 ∨ 1 ≤ ms.length) with h | h
        · exact absurd (.inl h) hc
        · exact h
      · rcases (by omega : 255 < ms.length ∨ ms.length ≤ 255) with h | h
        · exact absurd (.inr (.inl h)) hc
        · exact h
    show greetL (([5, b8 ms.length] ++ ms.map b8) ++ more) = (_, ([5, b8 ms.length] ++ ms.map b8).length, _)
    rw [he, greet_val, if_neg (by omega), greetB_len, show ms.length % 256 = ms.length by omega]
    rw [show (ms.map lowI ++ more).take ms.length = ms.map lowI from by rw [List.take_append_of_le_length (by simp), List.take_of_length_le (by simp)]]
theorem putGreet_len (ms : List Int) : (putGreetL ms).1.length ≤ 257 := by
  unfold putGreetL
  split
  · simp
  · rename_i hc
    have : ms.length ≤ 255 := by
      rcases (by omega : 255 < ms.length ∨ ms.length ≤ 255) with h | h
      · exact absurd (.inr (.inl h)) hc
      · exact h
    simp
    omega
def loginB (u p : By) : By := [1, lowI ↑u.length] ++ u ++ [lowI ↑p.length] ++ p
theorem pl_e (u p : By) (h : u = [] ∨ p = [] ∨ 255 < u.length ∨ 255 < p.length) : putLoginL u p = ([], 2) := by
  refine if_pos ?_
  rcases h with h | h | h | h
  · exact .inl (by rw [h]; rfl)
  · exact .inr (.inl (by rw [h]; rfl))
  · exact .inr (.inr (.inl h))
  · exact .inr (.inr (.inr h))
theorem pl_k (u p : By) (h0 : ¬ u = []) (h1 : ¬ p = []) (h2 : u.length ≤ 255) (h3 : p.length ≤ 255) : putLoginL u p = (loginB u p, 0) := by
  have e0 := by_ne h0
  have e1 := by_ne h1
  exact if_neg (by omega)
theorem login_back (u p more : By) (h : (putLoginL u p).2 = 0) : loginL ((putLoginL u p).1 ++ more) = (u, p, (putLoginL u p).1.length, .no) := by
  unfold putLoginL at h ⊢
  split at h
  · cases h
  · rename_i hc
    rw [if_neg hc]
    show loginL (loginB u p ++ more) = (u, p, (loginB u p).length, .no)
    have hll : (loginB u p).length = 3 + u.length + p.length := by unfold loginB; simp; omega
    obtain ⟨B, hB⟩ : ∃ B, B = loginB u p ++ more := ⟨_, rfl⟩
    have hB2 : B = [1, lowI ↑u.length] ++ (u ++ (lowI ↑p.length :: (p ++ more))) := by rw [hB]; unfold loginB; simp
    rw [← hB, hll]
    have hlen : B.length = 3 + u.length + p.length + more.length := by rw [hB, List.length_append, hll]
    have hv : verL B 1 = .no := ver_k B 1 (by omega) (by rw [hB2]; rfl)
    have e1 : at8 B 1 = u.length := by
      have : at8 B 1 = (lowI ↑u.length).toNat := by rw [hB2]; rfl
      rw [this, lowI_len]; omega
    have t1 := text_k B 1 255 (by omega) (by omega) (by omega)
    have c1 : (B.drop (1 + 1)).take (at8 B 1) = u := by
      rw [e1, hB2]
      show (u ++ (lowI ↑p.length :: (p ++ more))).take u.length = u
      rw [List.take_append_of_le_length (Nat.le_refl _), List.take_length]
    rw [c1, e1] at t1
    have e2 : at8 B (1 + 1 + u.length) = p.length := by
      have : at8 B (1 + 1 + u.length) = (lowI ↑p.length).toNat := by
        rw [hB2, show 1 + 1 + u.length = [1, lowI ↑u.length].length + u.length from rfl, at8_appr]
        exact at8_appr u (lowI ↑p.length :: (p ++ more)) 0
      rw [this, lowI_len]; omega
    have t2 := text_k B (1 + 1 + u.length) 255 (by omega) (by omega) (by omega)
    have c2 : (B.drop (1 + 1 + u.length + 1)).take (at8 B (1 + 1 + u.length)) = p := by
      rw [e2]
      have : B.drop (1 + 1 + u.length + 1) = p ++ more := by
        have h3 : B = ([1, lowI ↑u.length] ++ (u ++ [lowI ↑p.length])) ++ (p ++ more) := by rw [hB2]; simp
        rw [h3]
        exact List.drop_left' (by simp; omega)
      rw [this, List.take_append_of_le_length (Nat.le_refl _), List.take_length]
    rw [c2, e2] at t2
    unfold loginL
    rw [if_neg (by rw [hv]; exact fun e => e rfl), t1]
    show (if (Er.no : Er) ≠ .no then _ else if (textL B (1 + 1 + u.length) 255).2.2 ≠ .no then _ else (u, (textL B (1 + 1 + u.length) 255).1, (textL B (1 + 1 + u.length) 255).2.1, Er.no)) = _
    rw [if_neg (fun e => e rfl), t2]
    show (if (Er.no : Er) ≠ .no then _ else (u, p, 1 + 1 + u.length + 1 + p.length, Er.no)) = _
    rw [if_neg (fun e => e rfl), show 1 + 1 + u.length + 1 + p.length = 3 + u.length + p.length by omega]
theorem putLogin_len (u p : By) : (putLoginL u p).1.length ≤ 513 := by
  unfold putLoginL
  split
  · simp
  · simp
    omega
theorem put_e0 (n : Int) (d : Ds) (h : (putReqL n d).2 ≠ 0) : (putReqL n d).1.length = 0 := by
  unfold putReqL at h ⊢
  split at h
  · rename_i hc; rw [if_pos hc]; rfl
  · exact absurd rfl h
theorem login_v (b : By) (h : verL b 1 ≠ .no) : loginL b = ([], [], 0, verL b 1) := if_pos h
theorem login_1 (b : By) (h : verL b 1 = .no) (h1 : (textL b 1 255).2.2 ≠ .no) : loginL b = ([], [], 0, (textL b 1 255).2.2) := by
  unfold loginL; rw [if_neg (by simpa using h), if_pos h1]
theorem login_2 (b : By) (h : verL b 1 = .no) (h1 : (textL b 1 255).2.2 = .no) (h2 : (textL b (textL b 1 255).2.1 255).2.2 ≠ .no) : loginL b = ([], [], 0, (textL b (textL b 1 255).2.1 255).2.2) := by
  unfold loginL; rw [if_neg (by simpa using h), if_neg (by simpa using h1), if_pos h2]
theorem login_k (b : By) (h : verL b 1 = .no) (h1 : (textL b 1 255).2.2 = .no) (h2 : (textL b (textL b 1 255).2.1 255).2.2 = .no) : loginL b = ((textL b 1 255).1, (textL b (textL b 1 255).2.1 255).1, (textL b (textL b 1 255).2.1 255).2.1, .no) := by
  unfold loginL; rw [if_neg (by simpa using h), if_neg (by simpa using h1), if_neg (by simpa using h2)]
theorem ints_eq (x y : List Int) (hl : x.length = y.length) (h : x.take x.length = y.take x.length) : x = y := by
  rw [List.take_length, hl, List.take_length] at h
  exact h
theorem ints_succ (x y : List Int) (i : Nat) (hx : i < x.length) (hy : i < y.length) (h : x.take i = y.take i) (he : x.getD i 0 = y.getD i 0) : x.take (i + 1) = y.take (i + 1) := by
  rw [List.take_add_one, List.take_add_one, h, List.getElem?_eq_getElem hx, List.getElem?_eq_getElem hy]
  rw [List.getD_eq_getElem?_getD, List.getElem?_eq_getElem hx, List.getD_eq_getElem?_getD, List.getElem?_eq_getElem hy] at he
  simp only [Option.getD_some] at he
  rw [he]
end Go.Proofs.YtcnepgnfecoeoaaDoor
