/- Names of hosts: one is read. No condition. -/
import Derived.Test.YtcnepgnfecoeoaaDoorA
import Derived.Test.YtcnepgnfecoeoaaDoorGMem4
import Derived.Test.YtcnepgnfecoeoaaDoorBT
import Derived.Test.YtcnepgnfecoeoaaDoorProg
set_option linter.unusedVariables false
set_option linter.unusedSimpArgs false
namespace Go.Proofs.YtcnepgnfecoeoaaDoor
open Go Go.Proofs.GP Go.Proofs.Tryd
set_option maxHeartbeats 8000000 in
set_option maxRecDepth 100000 in
theorem wrong_ok (a c : Int) (w : World) :
    Calls Tryd.prog 106 #[.int .i64 a, .iface 39 (.int .i64 c)] w fun e w' => ∃ g, e = .returned (.iface 136 (.pointer (some ⟨g, 0, none⟩))) ∧ Fr [] w w' ∧ w.heap.size ≤ g ∧ FaultAt w' 138 136 39 g (.one hostS a c) := by
  refine c_start (args := [.int .i64 a, .iface 39 (.int .i64 c)]) Tryd.func106 rfl rfl rfl ?_
  try simp only [enum, Nat.zero_add, Nat.reduceAdd]
  have hF0 := Fr.refl [] w
  refine c_seq ?_
  refine c_region ?_
  refine s_y (y_assign rfl) rfl rfl ?_
  refine s_nil ?_
  refine n_then ?_
  refine c_seq ?_
  refine c_region ?_
  refine s_y (y_move rfl) rfl rfl ?_
  refine s_y (y_move rfl) rfl rfl ?_
  refine s_y (y_build (vs := [(0, .string ⟨([104, 111, 115, 116] : List UInt8).toArray⟩), (1, .int .i64 a), (2, .iface 39 (.int .i64 c))]) rfl (by apply T.lit0)) rfl rfl ?_
  refine s_d (d_box (cs := [.string ⟨([104, 111, 115, 116] : List UInt8).toArray⟩, .int .i64 a, .iface 39 (.int .i64 c)]) rfl rfl) rfl rfl ?_
  rintro _ w2 ⟨g1, rfl, hg5, b3, f4⟩
  have nw6 := Nat.le_trans hF0.size hg5
  have hF7 := hF0.then0 f4
  refine s_y (y_iface rfl Tryd.underlying136 rfl) rfl rfl ?_
  refine s_y (y_assign rfl) rfl rfl ?_
  refine s_nil ?_
  refine n_then ?_
  refine c_ret ?_
  refine fin1 (by simp) rfl rfl ?_
  exact ⟨_, rfl, hF7, nw6, b3⟩

set_option maxHeartbeats 8000000 in
set_option maxRecDepth 100000 in
theorem name94_ok (s : By) (w : World) (hs : s.length ≤ 9223372036854775807) (hG : Gl w) :
    Calls Tryd.prog 94 #[.string ⟨s.toArray⟩] w fun e w' => ∃ v, e = .returned (.tuple #[.string ⟨(nameL s).1.toArray⟩, v]) ∧ Fr [] w w' ∧ (((nameL s).2 = .no ∧ v = .nilIface) ∨ ∃ g, v = .iface 136 (.pointer (some ⟨g, 0, none⟩)) ∧ w.heap.size ≤ g ∧ FaultAt w' 138 136 39 g (nameL s).2) := by
  have hG4 := hG.lt
  refine c_start (args := [.string ⟨s.toArray⟩]) Tryd.func94 rfl rfl rfl ?_
  try simp only [enum, Nat.zero_add, Nat.reduceAdd]
  have hF0 := Fr.refl [] w
  refine c_seq ?_
  refine c_region ?_
  refine s_y (y_assign rfl) rfl rfl ?_
  refine s_y (y_assign rfl) rfl rfl ?_
  refine s_nil ?_
  refine n_then ?_
  refine c_seq ?_
  refine c_seq ?_
  refine c_region ?_
  refine s_y (y_move rfl) rfl rfl ?_
  refine s_y (y_lenS Tryd.underlying9 rfl) rfl rfl ?_
  refine s_y (y_gtr rfl rfl rfl) rfl rfl ?_
  refine s_nil ?_
  refine n_then ?_
  refine c_cond rfl ?_ ?_
  · intro h1
    replace h1 : (253 : Int) < ↑s.length := of_decide_eq_true h1
    refine c_seq ?_
    refine c_region ?_
    refine s_y (y_iface rfl Tryd.underlying39 rfl) rfl rfl ?_
    refine s_d (d_callR T.ent106 (vs := [.int .i64 253, .iface 39 (.int .i64 3)]) rfl (wrong_ok 253 3 _) (by rintro e w' ⟨_, rfl, -⟩; exact ⟨_, rfl⟩)) rfl rfl ?_
    rintro v7 w5 ⟨g2, hv8, f6, hg3, hfa4⟩
    obtain rfl := ret_inj hv8
    have nw9 := Nat.le_trans hF0.size hg3
    replace hG := hG.fr0 f6
    have hF10 := hF0.then0 f6
    refine s_y (y_assign rfl) rfl rfl ?_
    refine s_y (y_assign rfl) rfl rfl ?_
    refine s_nil ?_
    refine n_then ?_
    refine c_ret ?_
    refine r_then ?_
    refine fin2 (by simp) rfl rfl rfl ?_
    have hnm := name_long s (by omega)
    exact ⟨_, by rw [hnm], hF10, .inr ⟨_, rfl, nw9, by rw [hnm]; exact hfa4⟩⟩
  · intro h11
    replace h11 : ¬ ((253 : Int) < ↑s.length) := of_decide_eq_false h11
    refine c_skip ?_
    refine n_then ?_
    refine c_seq ?_
    refine c_region ?_
    refine s_y (y_assign rfl) rfl rfl ?_
    refine s_y (y_assign rfl) rfl rfl ?_
    refine s_nil ?_
    refine n_then ?_
    refine c_seq ?_
    refine c_seq ?_
    refine c_region ?_
    refine s_y (y_move rfl) rfl rfl ?_
    obtain ⟨mx, hmx⟩ := hG
    replace hG : Gl w := ⟨mx, hmx⟩
    refine s_d (d_callR T.ent107 (vs := [.string ⟨s.toArray⟩, .string ⟨([46] : List UInt8).toArray⟩]) rfl (split_ok s mx _ (by omega) hmx) (by rintro e w' ⟨_, rfl, -⟩; exact ⟨_, rfl⟩)) rfl rfl ?_
    rintro v17 w15 ⟨g12, hv18, f16, hg13, hb14⟩
    obtain rfl := ret_inj hv18
    have nw19 := Nat.le_trans hF0.size hg13
    replace hG := hG.fr0 f16
    have hF20 := hF0.then0 f16
    refine s_y (y_len Tryd.underlying157 rfl) rfl rfl ?_
    refine s_y (y_move rfl) rfl rfl ?_
    refine s_nil ?_
    refine n_then ?_
    refine c_block ?_
    refine c_loop (fun m a W => ∃ k : Nat, ∃ lst : By, m = (dots s).length - k ∧ GP.St 68 [(0, .string ⟨s.toArray⟩), (4, .int .i64 (↑(offs (dots s) k))), (5, .string ⟨lst.toArray⟩), (14, .slice (some ⟨g12, 0, none⟩) (dots s).length (dots s).length), (15, .int .i64 (↑(dots s).length)), (16, .int .i64 ↑k)] a ∧ Fr [] w W ∧ Gl W ∧ Blk W g12 9 ((dots s).map sv) ∧ (k ≤ (dots s).length) ∧ (k = 0 ∨ lst = (dots s).getD (k - 1) []) ∧ (∀ i, i < k → labelOk ((dots s).getD i []) = true)) ((dots s).length) ?_ ?_
    · intro a ha
      exact ⟨0, [], rfl, ha.cut ⟨rfl, rfl, rfl, rfl, rfl, rfl, trivial⟩, hF20, hG, hb14, Nat.zero_le _, .inl rfl, (fun i hi => by omega)⟩
    · rintro _ a W21 ⟨k, lst, rfl, hst23, hF24, hG, hb14, hk, hlst, hlab⟩
      refine (show Wc _ _ _ _ _ _ from ?_) a hst23
      clear hst23 a
      have hole := offs_le s k hk
      have hdl := dots_len s
      refine c_seq ?_
      refine c_region ?_
      refine s_y (y_lss rfl rfl rfl) rfl rfl ?_
      refine s_nil ?_
      refine n_then ?_
      refine c_seq ?_
      refine c_cond rfl ?_ ?_
      · intro h25
        replace h25 : (↑k : Int) < (↑(dots s).length) := of_decide_eq_true h25
        refine c_skip ?_
        refine n_then ?_
        refine c_seq ?_
        refine c_block ?_
        refine c_seq ?_
        refine c_region ?_
        obtain ⟨p, hp⟩ : ∃ p, p = (dots s).getD k [] := ⟨_, rfl⟩
        have hos := offs_succ (dots s) k (by omega)
        rw [← hp] at hos
        have hol2 := offs_le s (k + 1) (by omega)
        refine s_y (y_index (r := k) Tryd.underlying157 T.ty9 rfl rfl rfl (by omega) (by omega) (by omega)) rfl rfl ?_
        refine s_y (y_ldB (v := .string ⟨p.toArray⟩) T.ty9 rfl hb14 (by rw [hp]; exact map_at sv (dots s) k [] (by omega))) rfl rfl ?_
        refine s_y (y_assign rfl) rfl rfl ?_
        refine s_nil ?_
        refine n_then ?_
        refine c_seq ?_
        refine c_seq ?_
        refine c_region ?_
        refine s_y (y_move rfl) rfl rfl ?_
        refine s_y (y_seql rfl rfl rfl) rfl rfl ?_
        refine s_y (y_move rfl) rfl rfl ?_
        refine wl_bool (decide (p = ([] : List UInt8))) ?_ ?_
        · intro hb26
          rw [hb26]
          have hp27 : p = ([] : List UInt8) := of_decide_eq_true hb26
          clear hb26
          refine s_skip ⟨_, _, _, _, rfl, rfl, rfl, rfl⟩ rfl ?_
          refine s_skip ⟨_, _, _, _, rfl, rfl, rfl, rfl⟩ rfl ?_
          refine s_skip ⟨_, _, _, _, rfl, rfl, rfl, rfl⟩ rfl ?_
          refine s_y (y_pick rfl rfl rfl rfl) rfl rfl ?_
          refine s_y (y_move rfl) rfl rfl ?_
          refine s_skip ⟨_, _, _, _, rfl, rfl, rfl, rfl⟩ rfl ?_
          refine s_skip ⟨_, _, _, _, rfl, rfl, rfl, rfl⟩ rfl ?_
          refine s_skip ⟨_, _, _, _, rfl, rfl, rfl, rfl⟩ rfl ?_
          refine s_skip ⟨_, _, _, _, rfl, rfl, rfl, rfl⟩ rfl ?_
          refine s_y (y_pick rfl rfl rfl rfl) rfl rfl ?_
          refine s_y (y_move rfl) rfl rfl ?_
          refine s_skip ⟨_, _, _, _, rfl, rfl, rfl, rfl⟩ rfl ?_
          refine s_skip ⟨_, _, _, _, rfl, rfl, rfl, rfl⟩ rfl ?_
          refine s_skip ⟨_, _, _, _, rfl, rfl, rfl, rfl⟩ rfl ?_
          refine s_y (y_pick rfl rfl rfl rfl) rfl rfl ?_
          refine s_y (y_move rfl) rfl rfl ?_
          refine s_skip ⟨_, _, _, _, rfl, rfl, rfl, rfl⟩ rfl ?_
          refine s_skip ⟨_, _, _, _, rfl, rfl, rfl, rfl⟩ rfl ?_
          refine s_skip ⟨_, _, _, _, rfl, rfl, rfl, rfl⟩ rfl ?_
          refine s_skip ⟨_, _, _, _, rfl, rfl, rfl, rfl⟩ rfl ?_
          refine s_skip ⟨_, _, _, _, rfl, rfl, rfl, rfl⟩ rfl ?_
          refine s_skip ⟨_, _, _, _, rfl, rfl, rfl, rfl⟩ rfl ?_
          refine s_y (y_pick rfl rfl rfl rfl) rfl rfl ?_
          refine s_nil ?_
          refine n_then ?_
          refine c_true rfl ?_
          refine c_seq ?_
          refine c_region ?_
          refine s_y (y_move rfl) rfl rfl ?_
          refine s_y (y_iface rfl Tryd.underlying39 rfl) rfl rfl ?_
          refine s_d (d_callR T.ent106 (vs := [.int .i64 (↑(offs (dots s) k)), .iface 39 (.int .i64 61)]) rfl (wrong_ok (↑(offs (dots s) k)) 61 _) (by rintro e w' ⟨_, rfl, -⟩; exact ⟨_, rfl⟩)) rfl rfl ?_
          rintro v33 w31 ⟨g28, hv34, f32, hg29, hfa30⟩
          obtain rfl := ret_inj hv34
          have ne35 : g12 ≠ g28 := Nat.ne_of_lt (Nat.lt_of_lt_of_le hb14.lt hg29)
          have nw36 := Nat.le_trans hF24.size hg29
          replace hG := hG.fr0 f32
          replace hb14 := hb14.fr0 f32
          have hF37 := hF24.then0 f32
          refine s_y (y_assign rfl) rfl rfl ?_
          refine s_y (y_assign rfl) rfl rfl ?_
          refine s_nil ?_
          refine n_then ?_
          refine c_ret ?_
          refine r_then ?_
          refine r_inb ?_
          refine r_then ?_
          refine r_then ?_
          refine r_inb ?_
          refine r_then ?_
          refine fin2 (by simp) rfl rfl rfl ?_
          have hb : labelOk p = false := by first | exact lab_0 p (by_nil (by assumption)) | exact lab_1 p (by omega) | exact lab_2 p (by rw [← only3]; assumption) | exact lab_3 p (u8_eq (by omega)) | exact lab_4 p (u8_eq (by omega))
          have hnm := name_bad s (by omega) k (by omega) hlab (by rw [← hp]; exact hb)
          exact ⟨_, by rw [hnm], hF37, .inr ⟨_, rfl, nw36, by rw [hnm]; exact hfa30⟩⟩
        · intro hb26
          rw [hb26]
          have hp38 : ¬ (p = ([] : List UInt8)) := of_decide_eq_false hb26
          clear hb26
          have hpl := by_ne (p := p) (by assumption)
          refine s_gy (y_move rfl) ⟨_, _, _, _, rfl, rfl, rfl, rfl⟩ rfl ?_
          refine s_gy (y_lenS Tryd.underlying9 rfl) ⟨_, _, _, _, rfl, rfl, rfl, rfl⟩ rfl ?_
          refine s_gy (y_gtr rfl rfl rfl) ⟨_, _, _, _, rfl, rfl, rfl, rfl⟩ rfl ?_
          refine s_y (y_pick rfl rfl rfl rfl) rfl rfl ?_
          refine s_y (y_move rfl) rfl rfl ?_
          refine wl_bool (decide ((63 : Int) < ↑p.length)) ?_ ?_
          · intro hb39
            rw [hb39]
            have hp40 : (63 : Int) < ↑p.length := of_decide_eq_true hb39
            clear hb39
            refine s_skip ⟨_, _, _, _, rfl, rfl, rfl, rfl⟩ rfl ?_
            refine s_skip ⟨_, _, _, _, rfl, rfl, rfl, rfl⟩ rfl ?_
            refine s_skip ⟨_, _, _, _, rfl, rfl, rfl, rfl⟩ rfl ?_
            refine s_skip ⟨_, _, _, _, rfl, rfl, rfl, rfl⟩ rfl ?_
            refine s_y (y_pick rfl rfl rfl rfl) rfl rfl ?_
            refine s_y (y_move rfl) rfl rfl ?_
            refine s_skip ⟨_, _, _, _, rfl, rfl, rfl, rfl⟩ rfl ?_
            refine s_skip ⟨_, _, _, _, rfl, rfl, rfl, rfl⟩ rfl ?_
            refine s_skip ⟨_, _, _, _, rfl, rfl, rfl, rfl⟩ rfl ?_
            refine s_y (y_pick rfl rfl rfl rfl) rfl rfl ?_
            refine s_y (y_move rfl) rfl rfl ?_
            refine s_skip ⟨_, _, _, _, rfl, rfl, rfl, rfl⟩ rfl ?_
            refine s_skip ⟨_, _, _, _, rfl, rfl, rfl, rfl⟩ rfl ?_
            refine s_skip ⟨_, _, _, _, rfl, rfl, rfl, rfl⟩ rfl ?_
            refine s_skip ⟨_, _, _, _, rfl, rfl, rfl, rfl⟩ rfl ?_
            refine s_skip ⟨_, _, _, _, rfl, rfl, rfl, rfl⟩ rfl ?_
            refine s_skip ⟨_, _, _, _, rfl, rfl, rfl, rfl⟩ rfl ?_
            refine s_y (y_pick rfl rfl rfl rfl) rfl rfl ?_
            refine s_nil ?_
            refine n_then ?_
            refine c_true rfl ?_
            refine c_seq ?_
            refine c_region ?_
            refine s_y (y_move rfl) rfl rfl ?_
            refine s_y (y_iface rfl Tryd.underlying39 rfl) rfl rfl ?_
            refine s_d (d_callR T.ent106 (vs := [.int .i64 (↑(offs (dots s) k)), .iface 39 (.int .i64 61)]) rfl (wrong_ok (↑(offs (dots s) k)) 61 _) (by rintro e w' ⟨_, rfl, -⟩; exact ⟨_, rfl⟩)) rfl rfl ?_
            rintro v46 w44 ⟨g41, hv47, f45, hg42, hfa43⟩
            obtain rfl := ret_inj hv47
            have ne48 : g12 ≠ g41 := Nat.ne_of_lt (Nat.lt_of_lt_of_le hb14.lt hg42)
            have nw49 := Nat.le_trans hF24.size hg42
            replace hG := hG.fr0 f45
            replace hb14 := hb14.fr0 f45
            have hF50 := hF24.then0 f45
            refine s_y (y_assign rfl) rfl rfl ?_
            refine s_y (y_assign rfl) rfl rfl ?_
            refine s_nil ?_
            refine n_then ?_
            refine c_ret ?_
            refine r_then ?_
            refine r_inb ?_
            refine r_then ?_
            refine r_then ?_
            refine r_inb ?_
            refine r_then ?_
            refine fin2 (by simp) rfl rfl rfl ?_
            have hb : labelOk p = false := by first | exact lab_0 p (by_nil (by assumption)) | exact lab_1 p (by omega) | exact lab_2 p (by rw [← only3]; assumption) | exact lab_3 p (u8_eq (by omega)) | exact lab_4 p (u8_eq (by omega))
            have hnm := name_bad s (by omega) k (by omega) hlab (by rw [← hp]; exact hb)
            exact ⟨_, by rw [hnm], hF50, .inr ⟨_, rfl, nw49, by rw [hnm]; exact hfa43⟩⟩
          · intro hb39
            rw [hb39]
            have hp51 : ¬ ((63 : Int) < ↑p.length) := of_decide_eq_false hb39
            clear hb39
            refine s_gy (y_move rfl) ⟨_, _, _, _, rfl, rfl, rfl, rfl⟩ rfl ?_
            have hlit52 := (T.lit1 2 3 4)
            refine s_gd (d_bs2 hlit52 ⟨rfl, rfl, rfl, rfl, rfl, rfl, trivial⟩) ⟨_, _, _, _, rfl, rfl, rfl, rfl⟩ rfl ?_
            rintro _ w54 ⟨g53, rfl, hg57, b55, f56⟩
            have ne58 : g12 ≠ g53 := Nat.ne_of_lt (Nat.lt_of_lt_of_le hb14.lt hg57)
            have nw59 := Nat.le_trans hF24.size hg57
            replace hG := hG.fr0 f56
            replace hb14 := hb14.fr0 f56
            have hF60 := hF24.then0 f56
            have o61 := Own.of_blk (n := 3) (k := 1) b55 rfl (by decide)
            refine s_gd (d_callR T.ent108 (vs := [.string ⟨p.toArray⟩, .slice (some ⟨g53, 0, none⟩) 3 3]) rfl (only_ok (some ⟨g53, 0, none⟩) g53 0 3 p [2, 3, 4] _ (by omega) (by decide) (show Row _ _ _ _ _ _ (([2, 3, 4] : List Int).map jv) from o61.row)) (by rintro e w' ⟨rfl, -⟩; exact ⟨_, rfl⟩)) ⟨_, _, _, _, rfl, rfl, rfl, rfl⟩ rfl ?_
            rintro v64 w62 ⟨hv65, f63⟩
            obtain rfl := ret_inj hv65
            replace hG := hG.fr0 f63
            replace hb14 := hb14.fr0 f63
            replace o61 := o61.fr0 f63
            have hF66 := hF60.then0 f63
            refine s_gy (y_not rfl rfl) ⟨_, _, _, _, rfl, rfl, rfl, rfl⟩ rfl ?_
            refine s_y (y_pick rfl rfl rfl rfl) rfl rfl ?_
            refine s_y (y_move rfl) rfl rfl ?_
            refine wl_bool (!(onlyL p [2, 3, 4])) ?_ ?_
            · intro hb67
              rw [hb67]
              have hp68 : onlyL p [2, 3, 4] = false := by simpa using hb67
              clear hb67
              refine s_skip ⟨_, _, _, _, rfl, rfl, rfl, rfl⟩ rfl ?_
              refine s_skip ⟨_, _, _, _, rfl, rfl, rfl, rfl⟩ rfl ?_
              refine s_skip ⟨_, _, _, _, rfl, rfl, rfl, rfl⟩ rfl ?_
              refine s_y (y_pick rfl rfl rfl rfl) rfl rfl ?_
              refine s_y (y_move rfl) rfl rfl ?_
              refine s_skip ⟨_, _, _, _, rfl, rfl, rfl, rfl⟩ rfl ?_
              refine s_skip ⟨_, _, _, _, rfl, rfl, rfl, rfl⟩ rfl ?_
              refine s_skip ⟨_, _, _, _, rfl, rfl, rfl, rfl⟩ rfl ?_
              refine s_skip ⟨_, _, _, _, rfl, rfl, rfl, rfl⟩ rfl ?_
              refine s_skip ⟨_, _, _, _, rfl, rfl, rfl, rfl⟩ rfl ?_
              refine s_skip ⟨_, _, _, _, rfl, rfl, rfl, rfl⟩ rfl ?_
              refine s_y (y_pick rfl rfl rfl rfl) rfl rfl ?_
              refine s_nil ?_
              refine n_then ?_
              refine c_true rfl ?_
              refine c_seq ?_
              refine c_region ?_
              refine s_y (y_move rfl) rfl rfl ?_
              refine s_y (y_iface rfl Tryd.underlying39 rfl) rfl rfl ?_
              refine s_d (d_callR T.ent106 (vs := [.int .i64 (↑(offs (dots s) k)), .iface 39 (.int .i64 61)]) rfl (wrong_ok (↑(offs (dots s) k)) 61 _) (by rintro e w' ⟨_, rfl, -⟩; exact ⟨_, rfl⟩)) rfl rfl ?_
              rintro v74 w72 ⟨g69, hv75, f73, hg70, hfa71⟩
              obtain rfl := ret_inj hv75
              have ne76 : g12 ≠ g69 := Nat.ne_of_lt (Nat.lt_of_lt_of_le hb14.lt hg70)
              have ne77 := o61.ne_new hg70
              have nw78 := Nat.le_trans hF66.size hg70
              replace hG := hG.fr0 f73
              replace hb14 := hb14.fr0 f73
              replace o61 := o61.fr0 f73
              have hF79 := hF66.then0 f73
              refine s_y (y_assign rfl) rfl rfl ?_
              refine s_y (y_assign rfl) rfl rfl ?_
              refine s_nil ?_
              refine n_then ?_
              refine c_ret ?_
              refine r_then ?_
              refine r_inb ?_
              refine r_then ?_
              refine r_then ?_
              refine r_inb ?_
              refine r_then ?_
              refine fin2 (by simp) rfl rfl rfl ?_
              have hb : labelOk p = false := by first | exact lab_0 p (by_nil (by assumption)) | exact lab_1 p (by omega) | exact lab_2 p (by rw [← only3]; assumption) | exact lab_3 p (u8_eq (by omega)) | exact lab_4 p (u8_eq (by omega))
              have hnm := name_bad s (by omega) k (by omega) hlab (by rw [← hp]; exact hb)
              exact ⟨_, by rw [hnm], hF79, .inr ⟨_, rfl, nw78, by rw [hnm]; exact hfa71⟩⟩
            · intro hb67
              rw [hb67]
              have hp80 : onlyL p [2, 3, 4] = true := by simpa using hb67
              clear hb67
              refine s_gy (y_move rfl) ⟨_, _, _, _, rfl, rfl, rfl, rfl⟩ rfl ?_
              refine s_gy (y_indexS (b := p.getD 0 0) Tryd.underlying9 rfl rfl (by omega) (str_atI p _ 0 rfl (by omega))) ⟨_, _, _, _, rfl, rfl, rfl, rfl⟩ rfl ?_
              refine s_gy (y_eql rfl rfl rfl) ⟨_, _, _, _, rfl, rfl, rfl, rfl⟩ rfl ?_
              refine s_y (y_pick rfl rfl rfl rfl) rfl rfl ?_
              refine s_y (y_move rfl) rfl rfl ?_
              refine wl_bool (decide (((↑(p.getD 0 0).toNat) : Int) = 45)) ?_ ?_
              · intro hb81
                rw [hb81]
                have hp82 : ((↑(p.getD 0 0).toNat) : Int) = 45 := of_decide_eq_true hb81
                clear hb81
                refine s_skip ⟨_, _, _, _, rfl, rfl, rfl, rfl⟩ rfl ?_
                refine s_skip ⟨_, _, _, _, rfl, rfl, rfl, rfl⟩ rfl ?_
                refine s_skip ⟨_, _, _, _, rfl, rfl, rfl, rfl⟩ rfl ?_
                refine s_skip ⟨_, _, _, _, rfl, rfl, rfl, rfl⟩ rfl ?_
                refine s_skip ⟨_, _, _, _, rfl, rfl, rfl, rfl⟩ rfl ?_
                refine s_skip ⟨_, _, _, _, rfl, rfl, rfl, rfl⟩ rfl ?_
                refine s_y (y_pick rfl rfl rfl rfl) rfl rfl ?_
                refine s_nil ?_
                refine n_then ?_
                refine c_true rfl ?_
                refine c_seq ?_
                refine c_region ?_
                refine s_y (y_move rfl) rfl rfl ?_
                refine s_y (y_iface rfl Tryd.underlying39 rfl) rfl rfl ?_
                refine s_d (d_callR T.ent106 (vs := [.int .i64 (↑(offs (dots s) k)), .iface 39 (.int .i64 61)]) rfl (wrong_ok (↑(offs (dots s) k)) 61 _) (by rintro e w' ⟨_, rfl, -⟩; exact ⟨_, rfl⟩)) rfl rfl ?_
                rintro v88 w86 ⟨g83, hv89, f87, hg84, hfa85⟩
                obtain rfl := ret_inj hv89
                have ne90 : g12 ≠ g83 := Nat.ne_of_lt (Nat.lt_of_lt_of_le hb14.lt hg84)
                have ne91 := o61.ne_new hg84
                have nw92 := Nat.le_trans hF66.size hg84
                replace hG := hG.fr0 f87
                replace hb14 := hb14.fr0 f87
                replace o61 := o61.fr0 f87
                have hF93 := hF66.then0 f87
                refine s_y (y_assign rfl) rfl rfl ?_
                refine s_y (y_assign rfl) rfl rfl ?_
                refine s_nil ?_
                refine n_then ?_
                refine c_ret ?_
                refine r_then ?_
                refine r_inb ?_
                refine r_then ?_
                refine r_then ?_
                refine r_inb ?_
                refine r_then ?_
                refine fin2 (by simp) rfl rfl rfl ?_
                have hb : labelOk p = false := by first | exact lab_0 p (by_nil (by assumption)) | exact lab_1 p (by omega) | exact lab_2 p (by rw [← only3]; assumption) | exact lab_3 p (u8_eq (by omega)) | exact lab_4 p (u8_eq (by omega))
                have hnm := name_bad s (by omega) k (by omega) hlab (by rw [← hp]; exact hb)
                exact ⟨_, by rw [hnm], hF93, .inr ⟨_, rfl, nw92, by rw [hnm]; exact hfa85⟩⟩
              · intro hb81
                rw [hb81]
                have hp94 : ¬ (((↑(p.getD 0 0).toNat) : Int) = 45) := of_decide_eq_false hb81
                clear hb81
                refine s_gy (y_move rfl) ⟨_, _, _, _, rfl, rfl, rfl, rfl⟩ rfl ?_
                refine s_gy (y_move rfl) ⟨_, _, _, _, rfl, rfl, rfl, rfl⟩ rfl ?_
                refine s_gy (y_lenS Tryd.underlying9 rfl) ⟨_, _, _, _, rfl, rfl, rfl, rfl⟩ rfl ?_
                refine s_gy (y_sub rfl rfl (wrI (by omega) (by omega))) ⟨_, _, _, _, rfl, rfl, rfl, rfl⟩ rfl ?_
                refine s_gy (y_indexS (b := p.getD (p.length - 1) 0) Tryd.underlying9 rfl rfl (by omega) (str_atI p _ (p.length - 1) (by omega) (by omega))) ⟨_, _, _, _, rfl, rfl, rfl, rfl⟩ rfl ?_
                refine s_gy (y_eql rfl rfl rfl) ⟨_, _, _, _, rfl, rfl, rfl, rfl⟩ rfl ?_
                refine s_y (y_pick rfl rfl rfl rfl) rfl rfl ?_
                refine s_nil ?_
                refine n_then ?_
                refine c_cond rfl ?_ ?_
                · intro h95
                  replace h95 : ((↑(p.getD (p.length - 1) 0).toNat) : Int) = 45 := of_decide_eq_true h95
                  refine c_seq ?_
                  refine c_region ?_
                  refine s_y (y_move rfl) rfl rfl ?_
                  refine s_y (y_iface rfl Tryd.underlying39 rfl) rfl rfl ?_
                  refine s_d (d_callR T.ent106 (vs := [.int .i64 (↑(offs (dots s) k)), .iface 39 (.int .i64 61)]) rfl (wrong_ok (↑(offs (dots s) k)) 61 _) (by rintro e w' ⟨_, rfl, -⟩; exact ⟨_, rfl⟩)) rfl rfl ?_
                  rintro v101 w99 ⟨g96, hv102, f100, hg97, hfa98⟩
                  obtain rfl := ret_inj hv102
                  have ne103 : g12 ≠ g96 := Nat.ne_of_lt (Nat.lt_of_lt_of_le hb14.lt hg97)
                  have ne104 := o61.ne_new hg97
                  have nw105 := Nat.le_trans hF66.size hg97
                  replace hG := hG.fr0 f100
                  replace hb14 := hb14.fr0 f100
                  replace o61 := o61.fr0 f100
                  have hF106 := hF66.then0 f100
                  refine s_y (y_assign rfl) rfl rfl ?_
                  refine s_y (y_assign rfl) rfl rfl ?_
                  refine s_nil ?_
                  refine n_then ?_
                  refine c_ret ?_
                  refine r_then ?_
                  refine r_inb ?_
                  refine r_then ?_
                  refine r_then ?_
                  refine r_inb ?_
                  refine r_then ?_
                  refine fin2 (by simp) rfl rfl rfl ?_
                  have hb : labelOk p = false := by first | exact lab_0 p (by_nil (by assumption)) | exact lab_1 p (by omega) | exact lab_2 p (by rw [← only3]; assumption) | exact lab_3 p (u8_eq (by omega)) | exact lab_4 p (u8_eq (by omega))
                  have hnm := name_bad s (by omega) k (by omega) hlab (by rw [← hp]; exact hb)
                  exact ⟨_, by rw [hnm], hF106, .inr ⟨_, rfl, nw105, by rw [hnm]; exact hfa98⟩⟩
                · intro h107
                  replace h107 : ¬ (((↑(p.getD (p.length - 1) 0).toNat) : Int) = 45) := of_decide_eq_false h107
                  refine c_skip ?_
                  refine n_then ?_
                  refine c_seq ?_
                  refine c_region ?_
                  refine s_y (y_move rfl) rfl rfl ?_
                  refine s_y (y_move rfl) rfl rfl ?_
                  refine s_y (y_lenS Tryd.underlying9 rfl) rfl rfl ?_
                  refine s_y (y_add rfl rfl (wrI (by omega) (by omega))) rfl rfl ?_
                  refine s_y (y_add rfl rfl (wrI (by omega) (by omega))) rfl rfl ?_
                  refine s_y (y_assign rfl) rfl rfl ?_
                  refine s_nil ?_
                  refine n_then ?_
                  refine c_region ?_
                  refine s_y (y_move rfl) rfl rfl ?_
                  refine s_y (y_assign rfl) rfl rfl ?_
                  refine s_nil ?_
                  refine n_inb ?_
                  refine n_then ?_
                  refine c_region ?_
                  refine s_y (y_add rfl rfl (wrI (by omega) (by omega))) rfl rfl ?_
                  refine s_y (y_move rfl) rfl rfl ?_
                  refine s_nil ?_
                  exact fun a ha => ⟨_, by omega, k + 1, p, rfl, ha.cut ⟨rfl, (iv (by rw [offs_succ (dots s) k (by omega), ← hp]; omega)), rfl, rfl, rfl, (iv (by omega)), trivial⟩, hF66, hG, hb14, by omega, (.inr (by rw [hp]; rfl)), (fun i hi => by rcases Nat.lt_succ_iff_lt_or_eq.1 hi with h | rfl; exact hlab i h; rw [← hp]; exact lab_k p (by omega) (by omega) (by rw [← only3]; assumption) (u8_ne (by omega)) (u8_ne (by omega)))⟩
      · intro h108
        replace h108 : ¬ ((↑k : Int) < (↑(dots s).length)) := of_decide_eq_false h108
        refine c_exit ?_
        refine x_then ?_
        obtain rfl : k = (dots s).length := by omega
        have hdn := List.length_pos_iff.2 (dots_ne s)
        have hlp : lst = lastP s := by rw [lastP_at]; exact hlst.resolve_left (by omega)
        subst hlp
        have hlo := last_offs s
        have hdt := dots_total s
        refine x_then ?_
        refine x_hit ?_
        refine n_then ?_
        refine c_seq ?_
        refine c_seq ?_
        refine c_region ?_
        refine s_y (y_move rfl) rfl rfl ?_
        have hlit109 := (T.lit2 2)
        refine s_d (d_bs2 hlit109 ⟨rfl, rfl, trivial⟩) rfl rfl ?_
        rintro _ w111 ⟨g110, rfl, hg114, b112, f113⟩
        have ne115 : g12 ≠ g110 := Nat.ne_of_lt (Nat.lt_of_lt_of_le hb14.lt hg114)
        have nw116 := Nat.le_trans hF24.size hg114
        replace hG := hG.fr0 f113
        replace hb14 := hb14.fr0 f113
        have hF117 := hF24.then0 f113
        have o118 := Own.of_blk (n := 1) (k := 1) b112 rfl (by decide)
        refine s_d (d_callR T.ent108 (vs := [.string ⟨(lastP s).toArray⟩, .slice (some ⟨g110, 0, none⟩) 1 1]) rfl (only_ok (some ⟨g110, 0, none⟩) g110 0 1 (lastP s) [2] _ (by omega) (by decide) (show Row _ _ _ _ _ _ (([2] : List Int).map jv) from o118.row)) (by rintro e w' ⟨rfl, -⟩; exact ⟨_, rfl⟩)) rfl rfl ?_
        rintro v121 w119 ⟨hv122, f120⟩
        obtain rfl := ret_inj hv122
        replace hG := hG.fr0 f120
        replace hb14 := hb14.fr0 f120
        replace o118 := o118.fr0 f120
        have hF123 := hF117.then0 f120
        refine s_nil ?_
        refine n_then ?_
        refine c_cond rfl ?_ ?_
        · intro h124
          replace h124 : onlyL (lastP s) [2] = true := by simpa using h124
          refine c_seq ?_
          refine c_region ?_
          refine s_y (y_move rfl) rfl rfl ?_
          refine s_y (y_sub rfl rfl (wrI (by omega) (by omega))) rfl rfl ?_
          refine s_y (y_move rfl) rfl rfl ?_
          refine s_y (y_lenS Tryd.underlying9 rfl) rfl rfl ?_
          refine s_y (y_sub rfl rfl (wrI (by omega) (by omega))) rfl rfl ?_
          refine s_y (y_iface rfl Tryd.underlying39 rfl) rfl rfl ?_
          refine s_d (d_callR T.ent106 (vs := [.int .i64 (((↑(offs (dots s) (dots s).length) : Int) - 1) - (↑(lastP s).length : Int)), .iface 39 (.int .i64 63)]) rfl (wrong_ok (((↑(offs (dots s) (dots s).length) : Int) - 1) - (↑(lastP s).length : Int)) 63 _) (by rintro e w' ⟨_, rfl, -⟩; exact ⟨_, rfl⟩)) rfl rfl ?_
          rintro v130 w128 ⟨g125, hv131, f129, hg126, hfa127⟩
          obtain rfl := ret_inj hv131
          have ne132 : g12 ≠ g125 := Nat.ne_of_lt (Nat.lt_of_lt_of_le hb14.lt hg126)
          have ne133 := o118.ne_new hg126
          have nw134 := Nat.le_trans hF123.size hg126
          replace hG := hG.fr0 f129
          replace hb14 := hb14.fr0 f129
          replace o118 := o118.fr0 f129
          have hF135 := hF123.then0 f129
          refine s_y (y_assign rfl) rfl rfl ?_
          refine s_y (y_assign rfl) rfl rfl ?_
          refine s_nil ?_
          refine n_then ?_
          refine c_ret ?_
          refine r_then ?_
          refine fin2 (by simp) rfl rfl rfl ?_
          have hnm := name_dig s (by omega) hlab (by rw [← only1]; assumption)
          exact ⟨_, by rw [hnm], hF135, .inr ⟨_, rfl, nw134, by rw [hnm]; exact (by rw [show ((s.length : Int) - (lastP s).length) = ↑(offs (dots s) (dots s).length) - 1 - ↑(lastP s).length by omega]; exact hfa127)⟩⟩
        · intro h136
          replace h136 : onlyL (lastP s) [2] = false := by simpa using h136
          refine c_skip ?_
          refine n_then ?_
          refine c_seq ?_
          refine c_region ?_
          refine s_y (y_move rfl) rfl rfl ?_
          refine s_d (d_callR T.ent109 (vs := [.string ⟨s.toArray⟩]) rfl (lower_ok s _ (by omega) (name_ascii s hlab)) (by rintro e w' ⟨rfl, -⟩; exact ⟨_, rfl⟩)) rfl rfl ?_
          rintro v139 w137 ⟨hv140, f138⟩
          obtain rfl := ret_inj hv140
          replace hG := hG.fr0 f138
          replace hb14 := hb14.fr0 f138
          replace o118 := o118.fr0 f138
          have hF141 := hF123.then0 f138
          refine s_y (y_assign rfl) rfl rfl ?_
          refine s_y (y_assign rfl) rfl rfl ?_
          refine s_nil ?_
          refine n_then ?_
          refine c_ret ?_
          refine fin2 (by simp) rfl rfl rfl ?_
          have hnm := name_ok s (by omega) hlab (by rw [← only1]; exact fun h => by simp_all)
          exact ⟨_, by rw [hnm], hF141, .inl ⟨by rw [hnm], rfl⟩⟩

end Go.Proofs.YtcnepgnfecoeoaaDoor
