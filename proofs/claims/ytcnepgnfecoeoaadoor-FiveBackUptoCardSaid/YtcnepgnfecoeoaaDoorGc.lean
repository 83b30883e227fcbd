/- A request written. No condition. -/
import Derived.Test.YtcnepgnfecoeoaaDoorGb
import Derived.Test.YtcnepgnfecoeoaaDoorGMem4
import Derived.Test.YtcnepgnfecoeoaaDoorGcT
import Derived.Test.YtcnepgnfecoeoaaDoorProg
set_option linter.unusedVariables false
set_option linter.unusedSimpArgs false
namespace Go.Proofs.YtcnepgnfecoeoaaDoor
open Go Go.Proofs.GP Go.Proofs.Tryd
set_option maxHeartbeats 8000000 in
set_option maxRecDepth 100000 in
theorem putReq_ok (n : Int) (d : Ds) (w : World) (hn : d.h.n.length ≤ 9223372036854775807) (hG : Gl w) :
    Calls Tryd.prog 20 #[.int .i64 n, .agg [.int .u8 ↑d.h.ad.a.toNat, .int .u8 ↑d.h.ad.b.toNat, .int .u8 ↑d.h.ad.c.toNat, .int .u8 ↑d.h.ad.d.toNat, .string ⟨d.h.n.toArray⟩, .int .i64 d.p].toArray] w fun e w' => ∃ A' g' n' c', e = .returned (.tuple #[.slice A' n' c', .int .i64 (putReqL n d).2]) ∧ Fr [] w w' ∧ n' = (putReqL n d).1.length ∧ Own w' A' g' n' c' 5 1 ((putReqL n d).1.map bv) ∧ (A' = none ∨ w.heap.size ≤ g') := by
  have hG4 := hG.lt
  refine c_start (args := [.int .i64 n, _]) Tryd.func20 rfl rfl rfl ?_
  try simp only [enum, Nat.zero_add, Nat.reduceAdd]
  have hF0 := Fr.refl [] w
  refine c_seq ?_
  refine c_region ?_
  refine s_d (d_box (cs := [.int .u8 ↑d.h.ad.a.toNat, .int .u8 ↑d.h.ad.b.toNat, .int .u8 ↑d.h.ad.c.toNat, .int .u8 ↑d.h.ad.d.toNat, .string ⟨d.h.n.toArray⟩, .int .i64 d.p]) rfl rfl) rfl rfl ?_
  rintro _ w2 ⟨g1, rfl, hg5, b3, f4⟩
  have nw6 := Nat.le_trans hF0.size hg5
  replace hG := hG.fr0 f4
  have hF7 := hF0.then0 f4
  refine s_y (y_assign rfl) rfl rfl ?_
  refine s_y (y_assign rfl) rfl rfl ?_
  refine s_nil ?_
  refine n_then ?_
  refine c_seq ?_
  refine c_region ?_
  refine s_y (y_move rfl) rfl rfl ?_
  refine s_d (d_callR T.ent65 (vs := [.int .i64 n]) rfl (byteOf_ok n _) (by rintro e w' ⟨rfl, -⟩; exact ⟨_, rfl⟩)) rfl rfl ?_
  rintro v10 w8 ⟨hv11, f9⟩
  obtain rfl := ret_inj hv11
  replace hG := hG.fr0 f9
  replace b3 := b3.fr0 f9
  have hF12 := hF7.then0 f9
  refine s_y (y_move rfl) rfl rfl ?_
  refine s_y (y_extract rfl rfl) rfl rfl ?_
  refine s_y (y_extract rfl rfl) rfl rfl ?_
  refine s_y (y_assign rfl) rfl rfl ?_
  refine s_y (y_assign rfl) rfl rfl ?_
  refine s_nil ?_
  refine n_then ?_
  refine c_seq ?_
  refine c_seq ?_
  refine c_region ?_
  refine s_y (y_move rfl) rfl rfl ?_
  refine s_y (y_not rfl rfl) rfl rfl ?_
  refine s_y (y_move rfl) rfl rfl ?_
  refine wl_bool (!(small n)) ?_ ?_
  · intro hb13
    rw [hb13]
    have hp14 : small n = false := by simpa using hb13
    clear hb13
    refine s_skip ⟨_, _, _, _, rfl, rfl, rfl, rfl⟩ rfl ?_
    refine s_skip ⟨_, _, _, _, rfl, rfl, rfl, rfl⟩ rfl ?_
    refine s_skip ⟨_, _, _, _, rfl, rfl, rfl, rfl⟩ rfl ?_
    refine s_skip ⟨_, _, _, _, rfl, rfl, rfl, rfl⟩ rfl ?_
    refine s_y (y_pick rfl rfl rfl rfl) rfl rfl ?_
    refine s_y (y_move rfl) rfl rfl ?_
    refine s_skip ⟨_, _, _, _, rfl, rfl, rfl, rfl⟩ rfl ?_
    refine s_skip ⟨_, _, _, _, rfl, rfl, rfl, rfl⟩ rfl ?_
    refine s_skip ⟨_, _, _, _, rfl, rfl, rfl, rfl⟩ rfl ?_
    refine s_y (y_pick rfl rfl rfl rfl) rfl rfl ?_
    refine s_y (y_move rfl) rfl rfl ?_
    refine s_skip ⟨_, _, _, _, rfl, rfl, rfl, rfl⟩ rfl ?_
    refine s_skip ⟨_, _, _, _, rfl, rfl, rfl, rfl⟩ rfl ?_
    refine s_skip ⟨_, _, _, _, rfl, rfl, rfl, rfl⟩ rfl ?_
    refine s_y (y_pick rfl rfl rfl rfl) rfl rfl ?_
    refine s_nil ?_
    refine n_then ?_
    refine c_true rfl ?_
    refine c_seq ?_
    refine c_region ?_
    refine s_y (y_assign rfl) rfl rfl ?_
    refine s_y (y_assign rfl) rfl rfl ?_
    refine s_nil ?_
    refine n_then ?_
    refine c_ret ?_
    refine r_then ?_
    refine fin2 (by simp) rfl rfl rfl ?_
    have hp := put_e n d (by first | exact .inl (by assumption) | exact .inr (.inl (by assumption)) | exact .inr (.inr (by omega)))
    exact ⟨none, 0, 0, 0, by rw [hp], hF12, by rw [hp]; rfl, by rw [hp]; exact Own.nil _ _ _ _, .inl rfl⟩
  · intro hb13
    rw [hb13]
    have hp15 : small n = true := by simpa using hb13
    clear hb13
    refine s_gy (y_field rfl T.fld29_0 rfl) ⟨_, _, _, _, rfl, rfl, rfl, rfl⟩ rfl ?_
    refine s_gy (y_ldBA (xs := [.int .u8 ↑d.h.ad.a.toNat, .int .u8 ↑d.h.ad.b.toNat, .int .u8 ↑d.h.ad.c.toNat, .int .u8 ↑d.h.ad.d.toNat, .string ⟨d.h.n.toArray⟩]) T.ty27 rfl b3 rfl rfl) ⟨_, _, _, _, rfl, rfl, rfl, rfl⟩ rfl ?_
    refine s_gd (d_callR T.ent66 (vs := [_]) rfl (check_ok d.h _ (by omega) hG) (by rintro e w' ⟨rfl, -⟩; exact ⟨_, rfl⟩)) ⟨_, _, _, _, rfl, rfl, rfl, rfl⟩ rfl ?_
    rintro v18 w16 ⟨hv19, f17⟩
    obtain rfl := ret_inj hv19
    replace hG := hG.fr0 f17
    replace b3 := b3.fr0 f17
    have hF20 := hF12.then0 f17
    refine s_gy (y_not rfl rfl) ⟨_, _, _, _, rfl, rfl, rfl, rfl⟩ rfl ?_
    refine s_y (y_pick rfl rfl rfl rfl) rfl rfl ?_
    refine s_y (y_move rfl) rfl rfl ?_
    refine wl_bool (!(hostOk d.h)) ?_ ?_
    · intro hb21
      rw [hb21]
      have hp22 : hostOk d.h = false := by simpa using hb21
      clear hb21
      refine s_skip ⟨_, _, _, _, rfl, rfl, rfl, rfl⟩ rfl ?_
      refine s_skip ⟨_, _, _, _, rfl, rfl, rfl, rfl⟩ rfl ?_
      refine s_skip ⟨_, _, _, _, rfl, rfl, rfl, rfl⟩ rfl ?_
      refine s_y (y_pick rfl rfl rfl rfl) rfl rfl ?_
      refine s_y (y_move rfl) rfl rfl ?_
      refine s_skip ⟨_, _, _, _, rfl, rfl, rfl, rfl⟩ rfl ?_
      refine s_skip ⟨_, _, _, _, rfl, rfl, rfl, rfl⟩ rfl ?_
      refine s_skip ⟨_, _, _, _, rfl, rfl, rfl, rfl⟩ rfl ?_
      refine s_y (y_pick rfl rfl rfl rfl) rfl rfl ?_
      refine s_nil ?_
      refine n_then ?_
      refine c_true rfl ?_
      refine c_seq ?_
      refine c_region ?_
      refine s_y (y_assign rfl) rfl rfl ?_
      refine s_y (y_assign rfl) rfl rfl ?_
      refine s_nil ?_
      refine n_then ?_
      refine c_ret ?_
      refine r_then ?_
      refine fin2 (by simp) rfl rfl rfl ?_
      have hp := put_e n d (by first | exact .inl (by assumption) | exact .inr (.inl (by assumption)) | exact .inr (.inr (by omega)))
      exact ⟨none, 0, 0, 0, by rw [hp], hF20, by rw [hp]; rfl, by rw [hp]; exact Own.nil _ _ _ _, .inl rfl⟩
    · intro hb21
      rw [hb21]
      have hp23 : hostOk d.h = true := by simpa using hb21
      clear hb21
      refine s_gy (y_field rfl T.fld29_1 rfl) ⟨_, _, _, _, rfl, rfl, rfl, rfl⟩ rfl ?_
      refine s_gy (y_ldB T.ty3 rfl b3 rfl) ⟨_, _, _, _, rfl, rfl, rfl, rfl⟩ rfl ?_
      refine s_gy (y_lss rfl rfl rfl) ⟨_, _, _, _, rfl, rfl, rfl, rfl⟩ rfl ?_
      refine s_y (y_pick rfl rfl rfl rfl) rfl rfl ?_
      refine s_y (y_move rfl) rfl rfl ?_
      refine wl_bool (decide ((d.p : Int) < 0)) ?_ ?_
      · intro hb24
        rw [hb24]
        have hp25 : (d.p : Int) < 0 := of_decide_eq_true hb24
        clear hb24
        refine s_skip ⟨_, _, _, _, rfl, rfl, rfl, rfl⟩ rfl ?_
        refine s_skip ⟨_, _, _, _, rfl, rfl, rfl, rfl⟩ rfl ?_
        refine s_skip ⟨_, _, _, _, rfl, rfl, rfl, rfl⟩ rfl ?_
        refine s_y (y_pick rfl rfl rfl rfl) rfl rfl ?_
        refine s_nil ?_
        refine n_then ?_
        refine c_true rfl ?_
        refine c_seq ?_
        refine c_region ?_
        refine s_y (y_assign rfl) rfl rfl ?_
        refine s_y (y_assign rfl) rfl rfl ?_
        refine s_nil ?_
        refine n_then ?_
        refine c_ret ?_
        refine r_then ?_
        refine fin2 (by simp) rfl rfl rfl ?_
        have hp := put_e n d (by first | exact .inl (by assumption) | exact .inr (.inl (by assumption)) | exact .inr (.inr (by omega)))
        exact ⟨none, 0, 0, 0, by rw [hp], hF20, by rw [hp]; rfl, by rw [hp]; exact Own.nil _ _ _ _, .inl rfl⟩
      · intro hb24
        rw [hb24]
        have hp26 : ¬ ((d.p : Int) < 0) := of_decide_eq_false hb24
        clear hb24
        refine s_gy (y_field rfl T.fld29_1 rfl) ⟨_, _, _, _, rfl, rfl, rfl, rfl⟩ rfl ?_
        refine s_gy (y_ldB T.ty3 rfl b3 rfl) ⟨_, _, _, _, rfl, rfl, rfl, rfl⟩ rfl ?_
        refine s_gy (y_gtr rfl rfl rfl) ⟨_, _, _, _, rfl, rfl, rfl, rfl⟩ rfl ?_
        refine s_y (y_pick rfl rfl rfl rfl) rfl rfl ?_
        refine s_nil ?_
        refine n_then ?_
        refine c_cond rfl ?_ ?_
        · intro h27
          replace h27 : (65535 : Int) < d.p := of_decide_eq_true h27
          refine c_seq ?_
          refine c_region ?_
          refine s_y (y_assign rfl) rfl rfl ?_
          refine s_y (y_assign rfl) rfl rfl ?_
          refine s_nil ?_
          refine n_then ?_
          refine c_ret ?_
          refine r_then ?_
          refine fin2 (by simp) rfl rfl rfl ?_
          have hp := put_e n d (by first | exact .inl (by assumption) | exact .inr (.inl (by assumption)) | exact .inr (.inr (by omega)))
          exact ⟨none, 0, 0, 0, by rw [hp], hF20, by rw [hp]; rfl, by rw [hp]; exact Own.nil _ _ _ _, .inl rfl⟩
        · intro h28
          replace h28 : ¬ ((65535 : Int) < d.p) := of_decide_eq_false h28
          refine c_skip ?_
          refine n_then ?_
          refine c_seq ?_
          refine c_region ?_
          have hnl := host_len d.h (by assumption)
          refine s_y (y_field rfl T.fld29_0 rfl) rfl rfl ?_
          refine s_y (y_field rfl T.fld27_0 rfl) rfl rfl ?_
          refine s_y (y_ldBA (xs := [.int .u8 ↑d.h.ad.a.toNat, .int .u8 ↑d.h.ad.b.toNat, .int .u8 ↑d.h.ad.c.toNat, .int .u8 ↑d.h.ad.d.toNat]) T.ty25 rfl b3 rfl rfl) rfl rfl ?_
          refine s_d (d_alloc (cs := [.int .u8 0, .int .u8 0, .int .u8 0, .int .u8 0]) T.zero25 rfl) rfl rfl ?_
          rintro _ w30 ⟨g29, rfl, hg33, b31, f32⟩
          have ne34 : g1 ≠ g29 := Nat.ne_of_lt (Nat.lt_of_lt_of_le b3.lt hg33)
          have nw35 := Nat.le_trans hF20.size hg33
          replace hG := hG.fr0 f32
          replace b3 := b3.fr0 f32
          have hF36 := hF20.then0 f32
          refine s_d (d_store (cs := [.int .u8 ↑d.h.ad.a.toNat, .int .u8 ↑d.h.ad.b.toNat, .int .u8 ↑d.h.ad.c.toNat, .int .u8 ↑d.h.ad.d.toNat]) (l' := [.int .u8 ↑d.h.ad.a.toNat, .int .u8 ↑d.h.ad.b.toNat, .int .u8 ↑d.h.ad.c.toNat, .int .u8 ↑d.h.ad.d.toNat]) T.ty25 rfl rfl b31 rfl rfl (ones rfl) (Nat.le_of_ble_eq_true rfl) rfl) rfl rfl ?_
          rintro _ w37 ⟨rfl, b38, f39⟩
          replace hG := hG.fr f39 (by simp only [List.mem_cons, List.not_mem_nil, or_false, not_or]; exact by omega)
          replace b3 := b3.fr1 f39 ne34
          clear b31
          have hF40 := hF36.thenNew f39 nw35
          refine s_nil ?_
          refine n_then ?_
          refine c_seq ?_
          refine c_region ?_
          refine s_y (y_move rfl) rfl rfl ?_
          refine s_y (y_field rfl T.fld25_0 rfl) rfl rfl ?_
          refine s_y (y_ldB T.ty5 rfl b38 rfl) rfl rfl ?_
          refine s_y (y_field rfl T.fld25_1 rfl) rfl rfl ?_
          refine s_y (y_ldB T.ty5 rfl b38 rfl) rfl rfl ?_
          refine s_y (y_field rfl T.fld25_2 rfl) rfl rfl ?_
          refine s_y (y_ldB T.ty5 rfl b38 rfl) rfl rfl ?_
          refine s_y (y_field rfl T.fld25_3 rfl) rfl rfl ?_
          refine s_y (y_ldB T.ty5 rfl b38 rfl) rfl rfl ?_
          have hlit41 := (T.lit9 5 (↑(lowI n).toNat) 0 1 ↑d.h.ad.a.toNat ↑d.h.ad.b.toNat ↑d.h.ad.c.toNat ↑d.h.ad.d.toNat)
          refine s_d (d_bs2 hlit41 ⟨rfl, rfl, rfl, rfl, rfl, rfl, rfl, rfl, rfl, rfl, rfl, rfl, rfl, rfl, rfl, rfl, trivial⟩) rfl rfl ?_
          rintro _ w43 ⟨g42, rfl, hg46, b44, f45⟩
          have ne47 : g1 ≠ g42 := Nat.ne_of_lt (Nat.lt_of_lt_of_le b3.lt hg46)
          have ne48 : g29 ≠ g42 := Nat.ne_of_lt (Nat.lt_of_lt_of_le b38.lt hg46)
          have nw49 := Nat.le_trans hF40.size hg46
          replace hG := hG.fr0 f45
          replace b3 := b3.fr0 f45
          replace b38 := b38.fr0 f45
          have hF50 := hF40.then0 f45
          have o51 := Own.of_blk (n := 8) (k := 1) b44 rfl (by decide)
          replace o51 : Own w43 (some ⟨g42, 0, none⟩) g42 8 8 5 1 (([5, lowI n, 0, 1, d.h.ad.a, d.h.ad.b, d.h.ad.c, d.h.ad.d] : By).map bv) := o51
          refine s_y (y_assign rfl) rfl rfl ?_
          refine s_nil ?_
          refine n_then ?_
          refine c_seq ?_
          refine c_seq ?_
          refine c_region ?_
          refine s_y (y_field rfl T.fld29_0 rfl) rfl rfl ?_
          refine s_y (y_field rfl T.fld27_1 rfl) rfl rfl ?_
          refine s_y (y_ldB T.ty9 rfl b3 rfl) rfl rfl ?_
          refine s_y (y_assign rfl) rfl rfl ?_
          refine s_nil ?_
          refine n_then ?_
          refine c_seq ?_
          refine c_region ?_
          refine s_y (y_move rfl) rfl rfl ?_
          refine s_y (y_sneq rfl rfl rfl) rfl rfl ?_
          refine s_nil ?_
          refine n_then ?_
          refine c_cond rfl ?_ ?_
          · intro h52
            replace h52 : ¬ (d.h.n = ([] : List UInt8)) := of_decide_eq_true h52
            refine c_seq ?_
            refine c_region ?_
            refine s_y (y_move rfl) rfl rfl ?_
            refine s_d (d_sliceO (m := 3) Tryd.underlying22 T.ty5 rfl rfl rfl o51 (by omega)) rfl rfl ?_
            rintro _ _ ⟨rfl, rfl, o53⟩
            replace o53 : Own w43 (some ⟨g42, 0, none⟩) g42 3 8 5 1 (([5, lowI n, 0] : By).map bv) := o53
            refine s_y (y_move rfl) rfl rfl ?_
            refine s_y (y_lenS Tryd.underlying9 rfl) rfl rfl ?_
            refine s_y (y_conv (r := ↑(lowI ↑d.h.n.length).toNat) Tryd.underlying3 Tryd.underlying5 rfl (conv_lowI _)) rfl rfl ?_
            have hlit54 := (T.lit10 3 (↑(lowI ↑d.h.n.length).toNat))
            refine s_d (d_bs2 hlit54 ⟨rfl, rfl, rfl, rfl, trivial⟩) rfl rfl ?_
            rintro _ w56 ⟨g55, rfl, hg59, b57, f58⟩
            have ne60 : g1 ≠ g55 := Nat.ne_of_lt (Nat.lt_of_lt_of_le b3.lt hg59)
            have ne61 : g29 ≠ g55 := Nat.ne_of_lt (Nat.lt_of_lt_of_le b38.lt hg59)
            have ne62 := o53.ne_new hg59
            have nw63 := Nat.le_trans hF50.size hg59
            replace hG := hG.fr0 f58
            replace b3 := b3.fr0 f58
            replace b38 := b38.fr0 f58
            replace o53 := o53.fr0 f58
            have hF64 := hF50.then0 f58
            have o65 := Own.of_blk (n := 2) (k := 1) b57 rfl (by decide)
            replace o65 : Own w56 (some ⟨g55, 0, none⟩) g55 2 2 5 1 ([3, lowI ↑d.h.n.length].map bv) := o65
            refine s_d (d_append Tryd.underlying22 T.ty5 T.app5 rfl o53 rfl (src_row Tryd.underlying22 T.ty5 o65.row ()) (ones (by first | exact all_bv _ | exact all_wv _ | exact rfl | simp [all_bv, all_u32])) (by omega)) rfl rfl ?_
            rintro _ w69 ⟨A66, g67, c68, rfl, o70, f71, hat72⟩
            replace o70 : Own w69 A66 g67 5 c68 5 1 ((([5, lowI n, 0] : By) ++ [3, lowI ↑d.h.n.length]).map bv) := (by rw [List.map_append]; exact o70)
            obtain ⟨hno70⟩ : Nonempty (5 = (([5, lowI n, 0] : By) ++ [3, lowI ↑d.h.n.length]).length) := ⟨rfl⟩
            rw [hno70] at o70 ⊢
            replace hG := hG.fr f71 (not4 (.inr (.inr nw49)) hG4)
            have ne74 := app_ap hat72 (.inr (Ne.symm ne47)) b3.lt
            replace b3 := b3.fr f71 (no_own (.inr (Ne.symm ne47)))
            have ne75 := app_ap hat72 (.inr (Ne.symm ne48)) b38.lt
            replace b38 := b38.fr f71 (no_own (.inr (Ne.symm ne48)))
            have wh76 : A66 = none ∨ g67 ∈ ([] : List Nat) ∨ w.heap.size ≤ g67 := app_wh hat72 (.inr (.inr nw49)) hF64.size
            have hF77 := hF64.thenOwnIn f71 (.inr (.inr nw49))
            refine s_y (y_assign rfl) rfl rfl ?_
            refine s_nil ?_
            refine n_then ?_
            refine c_region ?_
            refine s_y (y_move rfl) rfl rfl ?_
            refine s_y (y_move rfl) rfl rfl ?_
            refine s_d (d_append Tryd.underlying22 T.ty5 T.app5 rfl o70 rfl (src_str Tryd.underlying9 d.h.n) (ones (by first | exact all_bv _ | exact all_wv _ | exact rfl | simp [all_bv, all_u32])) (by omega)) rfl rfl ?_
            rintro _ w81 ⟨A78, g79, c80, rfl, o82, f83, hat84⟩
            replace o82 : Own w81 A78 g79 ((([5, lowI n, 0] : By) ++ [3, lowI ↑d.h.n.length]).length + d.h.n.length) c80 5 1 (((([5, lowI n, 0] : By) ++ [3, lowI ↑d.h.n.length]) ++ d.h.n).map bv) := (by rw [List.map_append]; exact o82)
            obtain ⟨hno82⟩ : Nonempty ((([5, lowI n, 0] : By) ++ [3, lowI ↑d.h.n.length]).length + d.h.n.length = ((([5, lowI n, 0] : By) ++ [3, lowI ↑d.h.n.length]) ++ d.h.n).length) := ⟨List.length_append.symm⟩
            rw [hno82] at o82 ⊢
            replace hG := hG.fr f83 (not4 wh76 hG4)
            have ne86 := app_ap hat84 ne74 b3.lt
            replace b3 := b3.fr f83 (no_own ne74)
            have ne87 := app_ap hat84 ne75 b38.lt
            replace b38 := b38.fr f83 (no_own ne75)
            have wh88 : A78 = none ∨ g79 ∈ ([] : List Nat) ∨ w.heap.size ≤ g79 := app_wh hat84 wh76 hF77.size
            have hF89 := hF77.thenOwnIn f83 wh76
            refine s_y (y_assign rfl) rfl rfl ?_
            refine s_nil ?_
            refine n_then ?_
            refine c_seq ?_
            refine c_region ?_
            refine s_y (y_move rfl) rfl rfl ?_
            refine s_y (y_field rfl T.fld29_1 rfl) rfl rfl ?_
            refine s_y (y_ldB T.ty3 rfl b3 rfl) rfl rfl ?_
            refine s_y (y_shr (r := d.p / 256) rfl rfl (by decide) (shrI8 _ (by omega))) rfl rfl ?_
            refine s_y (y_conv (r := ↑(lowI (d.p / 256)).toNat) Tryd.underlying3 Tryd.underlying5 rfl (conv_lowI _)) rfl rfl ?_
            refine s_y (y_field rfl T.fld29_1 rfl) rfl rfl ?_
            refine s_y (y_ldB T.ty3 rfl b3 rfl) rfl rfl ?_
            refine s_y (y_conv (r := ↑(lowI d.p).toNat) Tryd.underlying3 Tryd.underlying5 rfl (conv_lowI _)) rfl rfl ?_
            have hlit90 := (T.lit10 (↑(lowI (d.p / 256)).toNat) (↑(lowI d.p).toNat))
            refine s_d (d_bs2 hlit90 ⟨rfl, rfl, rfl, rfl, trivial⟩) rfl rfl ?_
            rintro _ w92 ⟨g91, rfl, hg95, b93, f94⟩
            have ne96 : g1 ≠ g91 := Nat.ne_of_lt (Nat.lt_of_lt_of_le b3.lt hg95)
            have ne97 : g29 ≠ g91 := Nat.ne_of_lt (Nat.lt_of_lt_of_le b38.lt hg95)
            have ne98 := o82.ne_new hg95
            have nw99 := Nat.le_trans hF89.size hg95
            replace hG := hG.fr0 f94
            replace b3 := b3.fr0 f94
            replace b38 := b38.fr0 f94
            replace o82 := o82.fr0 f94
            have hF100 := hF89.then0 f94
            have o101 := Own.of_blk (n := 2) (k := 1) b93 rfl (by decide)
            replace o101 : Own w92 (some ⟨g91, 0, none⟩) g91 2 2 5 1 ([lowI (d.p / 256), lowI d.p].map bv) := o101
            refine s_d (d_append Tryd.underlying22 T.ty5 T.app5 rfl o82 rfl (src_row Tryd.underlying22 T.ty5 o101.row ()) (ones (by first | exact all_bv _ | exact all_wv _ | exact rfl | simp [all_bv, all_u32])) (by omega)) rfl rfl ?_
            rintro _ w105 ⟨A102, g103, c104, rfl, o106, f107, hat108⟩
            replace o106 : Own w105 A102 g103 (((([5, lowI n, 0] : By) ++ [3, lowI ↑d.h.n.length]) ++ d.h.n).length + 2) c104 5 1 ((((([5, lowI n, 0] : By) ++ [3, lowI ↑d.h.n.length]) ++ d.h.n) ++ [lowI (d.p / 256), lowI d.p]).map bv) := (by rw [List.map_append]; exact o106)
            replace hG := hG.fr f107 (not4 wh88 hG4)
            have ne110 := app_ap hat108 ne86 b3.lt
            replace b3 := b3.fr f107 (no_own ne86)
            have ne111 := app_ap hat108 ne87 b38.lt
            replace b38 := b38.fr f107 (no_own ne87)
            have wh112 : A102 = none ∨ g103 ∈ ([] : List Nat) ∨ w.heap.size ≤ g103 := app_wh hat108 wh88 hF100.size
            have hF113 := hF100.thenOwnIn f107 wh88
            refine s_y (y_assign rfl) rfl rfl ?_
            refine s_y (y_assign rfl) rfl rfl ?_
            refine s_nil ?_
            refine n_then ?_
            refine c_ret ?_
            refine fin2 (by simp) rfl rfl rfl ?_
            have hp := put_n n d (by assumption) (by assumption) (by omega) (by omega) (by assumption)
            exact ⟨_, _, _, _, by rw [hp], hF113, by rw [hp]; simp, by rw [hp]; exact o106, (by rcases (show _ ∨ _ ∈ ([] : List Nat) ∨ _ from wh112) with h | h | h; exact .inl h; cases h; exact .inr h)⟩
          · intro h114
            replace h114 : d.h.n = ([] : List UInt8) := Decidable.not_not.1 (of_decide_eq_false h114)
            refine c_skip ?_
            refine n_then ?_
            refine c_seq ?_
            refine c_region ?_
            refine s_y (y_move rfl) rfl rfl ?_
            refine s_y (y_field rfl T.fld29_1 rfl) rfl rfl ?_
            refine s_y (y_ldB T.ty3 rfl b3 rfl) rfl rfl ?_
            refine s_y (y_shr (r := d.p / 256) rfl rfl (by decide) (shrI8 _ (by omega))) rfl rfl ?_
            refine s_y (y_conv (r := ↑(lowI (d.p / 256)).toNat) Tryd.underlying3 Tryd.underlying5 rfl (conv_lowI _)) rfl rfl ?_
            refine s_y (y_field rfl T.fld29_1 rfl) rfl rfl ?_
            refine s_y (y_ldB T.ty3 rfl b3 rfl) rfl rfl ?_
            refine s_y (y_conv (r := ↑(lowI d.p).toNat) Tryd.underlying3 Tryd.underlying5 rfl (conv_lowI _)) rfl rfl ?_
            have hlit115 := (T.lit10 (↑(lowI (d.p / 256)).toNat) (↑(lowI d.p).toNat))
            refine s_d (d_bs2 hlit115 ⟨rfl, rfl, rfl, rfl, trivial⟩) rfl rfl ?_
            rintro _ w117 ⟨g116, rfl, hg120, b118, f119⟩
            have ne121 : g1 ≠ g116 := Nat.ne_of_lt (Nat.lt_of_lt_of_le b3.lt hg120)
            have ne122 : g29 ≠ g116 := Nat.ne_of_lt (Nat.lt_of_lt_of_le b38.lt hg120)
            have ne123 := o51.ne_new hg120
            have nw124 := Nat.le_trans hF50.size hg120
            replace hG := hG.fr0 f119
            replace b3 := b3.fr0 f119
            replace b38 := b38.fr0 f119
            replace o51 := o51.fr0 f119
            have hF125 := hF50.then0 f119
            have o126 := Own.of_blk (n := 2) (k := 1) b118 rfl (by decide)
            replace o126 : Own w117 (some ⟨g116, 0, none⟩) g116 2 2 5 1 ([lowI (d.p / 256), lowI d.p].map bv) := o126
            refine s_d (d_append Tryd.underlying22 T.ty5 T.app5 rfl o51 rfl (src_row Tryd.underlying22 T.ty5 o126.row ()) (ones (by first | exact all_bv _ | exact all_wv _ | exact rfl | simp [all_bv, all_u32])) (by omega)) rfl rfl ?_
            rintro _ w130 ⟨A127, g128, c129, rfl, o131, f132, hat133⟩
            replace o131 : Own w130 A127 g128 10 c129 5 1 ((([5, lowI n, 0, 1, d.h.ad.a, d.h.ad.b, d.h.ad.c, d.h.ad.d] : By) ++ [lowI (d.p / 256), lowI d.p]).map bv) := (by rw [List.map_append]; exact o131)
            replace hG := hG.fr f132 (not4 (.inr (.inr nw49)) hG4)
            have ne135 := app_ap hat133 (.inr (Ne.symm ne47)) b3.lt
            replace b3 := b3.fr f132 (no_own (.inr (Ne.symm ne47)))
            have ne136 := app_ap hat133 (.inr (Ne.symm ne48)) b38.lt
            replace b38 := b38.fr f132 (no_own (.inr (Ne.symm ne48)))
            have wh137 : A127 = none ∨ g128 ∈ ([] : List Nat) ∨ w.heap.size ≤ g128 := app_wh hat133 (.inr (.inr nw49)) hF125.size
            have hF138 := hF125.thenOwnIn f132 (.inr (.inr nw49))
            refine s_y (y_assign rfl) rfl rfl ?_
            refine s_y (y_assign rfl) rfl rfl ?_
            refine s_nil ?_
            refine n_then ?_
            refine c_ret ?_
            refine fin2 (by simp) rfl rfl rfl ?_
            have hp := put_a n d (by assumption) (by assumption) (by omega) (by omega) (by assumption)
            exact ⟨_, _, _, _, by rw [hp], hF138, by rw [hp]; simp, by rw [hp]; exact o131, (by rcases (show _ ∨ _ ∈ ([] : List Nat) ∨ _ from wh137) with h | h | h; exact .inl h; cases h; exact .inr h)⟩

end Go.Proofs.YtcnepgnfecoeoaaDoor
