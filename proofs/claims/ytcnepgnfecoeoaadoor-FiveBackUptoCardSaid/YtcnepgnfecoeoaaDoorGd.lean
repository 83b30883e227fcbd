/- The chapter's examples; the law FiveAgain: the walk. No condition. -/
import Derived.Test.YtcnepgnfecoeoaaDoorGc
import Derived.Test.YtcnepgnfecoeoaaDoorGMem4
import Derived.Test.YtcnepgnfecoeoaaDoorBack
import Derived.Test.YtcnepgnfecoeoaaDoorGdT
import Derived.Test.YtcnepgnfecoeoaaDoorProg
set_option linter.unusedVariables false
set_option linter.unusedSimpArgs false
namespace Go.Proofs.YtcnepgnfecoeoaaDoor
open Go Go.Proofs.GP Go.Proofs.Tryd
set_option maxHeartbeats 8000000 in
set_option maxRecDepth 100000 in
theorem works_ok  (w : World) (hG : Gl w) :
    Calls Tryd.prog 13 #[] w fun e w' => e = .returned (.bool true) ∧ Fr [] w w' := by
  have hG4 := hG.lt
  refine c_start (args := []) Tryd.func13 rfl rfl rfl ?_
  try simp only [enum, Nat.zero_add, Nat.reduceAdd]
  have hF0 := Fr.refl [] w
  refine c_seq ?_
  refine c_region ?_
  refine s_y (y_assign rfl) rfl rfl ?_
  refine s_nil ?_
  refine n_then ?_
  refine c_seq ?_
  refine c_region ?_
  have hlit1 := (T.lit11 5 1 0 255)
  refine s_d (d_bs2 hlit1 ⟨rfl, rfl, rfl, rfl, rfl, rfl, rfl, rfl, trivial⟩) rfl rfl ?_
  rintro _ w3 ⟨g2, rfl, hg6, b4, f5⟩
  have nw7 := Nat.le_trans hF0.size hg6
  replace hG := hG.fr0 f5
  have hF8 := hF0.then0 f5
  have o9 := Own.of_blk (n := 4) (k := 1) b4 rfl (by decide)
  have hE16 : greetL ([5, 1, 0, 255] : By) = ([0], 3, .no) := by decide
  refine s_d (d_callR T.ent27 (vs := [.slice (some ⟨g2, 0, none⟩) 4 4]) rfl (greet_ok (some ⟨g2, 0, none⟩) g2 0 4 ([5, 1, 0, 255] : By) _ (by decide) (by decide) o9.row) (by rintro e w' ⟨_, _, _, _, _, _, rfl, -⟩; exact ⟨_, rfl⟩)) rfl rfl ?_
  rintro v24 w22 ⟨A10, g11, n12, c13, v14, x15, hv25, f23, ha26⟩
  obtain rfl := ret_inj hv25
  rcases ha26 with ⟨-, rfl, hx17, hn18, -, -⟩ | ⟨_, -, -, -, -, -, -, hfa21⟩
  ·
    obtain rfl : x15 = 3 := by rw [hE16] at hx17; exact hx17
    obtain rfl : n12 = 1 := by rw [hE16] at hn18; exact hn18
    replace hG := hG.fr0 f23
    replace o9 := o9.fr0 f23
    have hF27 := hF8.then0 f23
    refine s_y (y_move rfl) rfl rfl ?_
    refine s_y (y_extract rfl rfl) rfl rfl ?_
    refine s_y (y_extract rfl rfl) rfl rfl ?_
    refine s_y (y_extract rfl rfl) rfl rfl ?_
    refine s_y (y_assign rfl) rfl rfl ?_
    refine s_y (y_assign rfl) rfl rfl ?_
    refine s_y (y_assign rfl) rfl rfl ?_
    refine s_nil ?_
    refine n_then ?_
    refine c_seq ?_
    refine c_region ?_
    have hlit28 := (T.lit9 5 1 0 3 1 97 0 80)
    refine s_d (d_bs2 hlit28 ⟨rfl, rfl, rfl, rfl, rfl, rfl, rfl, rfl, rfl, rfl, rfl, rfl, rfl, rfl, rfl, rfl, trivial⟩) rfl rfl ?_
    rintro _ w30 ⟨g29, rfl, hg33, b31, f32⟩
    have ne34 := o9.ne_new hg33
    have nw35 := Nat.le_trans hF27.size hg33
    replace hG := hG.fr0 f32
    replace o9 := o9.fr0 f32
    have hF36 := hF27.then0 f32
    have o37 := Own.of_blk (n := 8) (k := 1) b31 rfl (by decide)
    have hE49 : reqL ([5, 1, 0, 3, 1, 97, 0, 80] : By) = (1, (⟨⟨Ad.zero, [97]⟩, 80⟩ : Ds), 8, .no) := by decide
    refine s_d (d_callR T.ent14 (vs := [.slice (some ⟨g29, 0, none⟩) 8 8]) rfl (request_ok (some ⟨g29, 0, none⟩) g29 0 8 ([5, 1, 0, 3, 1, 97, 0, 80] : By) _ (by first | omega | decide | (fail)) (by first | omega | decide) o37.row hG) (by rintro e w' ⟨_, _, _, _, rfl, -⟩; exact ⟨_, rfl⟩)) rfl rfl ?_
    rintro v52 w50 ⟨d38, v39, c40, x41, hv53, f51, ha54⟩
    obtain rfl := ret_inj hv53
    rcases ha54 with ⟨-, rfl, hc46, hd47, hx48⟩ | ⟨_, -, -, -, -, -, hfa45⟩
    ·
      obtain rfl : c40 = ↑(1 : Nat) := by rw [hE49] at hc46; exact hc46
      obtain rfl : (⟨⟨Ad.zero, [97]⟩, 80⟩ : Ds) = d38 := by rw [hE49] at hd47; exact hd47.symm
      obtain rfl : x41 = ↑(8 : Nat) := by rw [hE49] at hx48; exact hx48
      replace hG := hG.fr0 f51
      replace o9 := o9.fr0 f51
      replace o37 := o37.fr0 f51
      have hF55 := hF36.then0 f51
      refine s_y (y_move rfl) rfl rfl ?_
      refine s_y (y_extract rfl rfl) rfl rfl ?_
      refine s_y (y_extract rfl rfl) rfl rfl ?_
      refine s_y (y_extract rfl rfl) rfl rfl ?_
      refine s_y (y_extract rfl rfl) rfl rfl ?_
      refine s_d (d_alloc (cs := [.int .u8 0, .int .u8 0, .int .u8 0, .int .u8 0, .string ⟨[].toArray⟩, .int .i64 0]) T.zero29 rfl) rfl rfl ?_
      rintro _ w57 ⟨g56, rfl, hg60, b58, f59⟩
      have ne61 := o9.ne_new hg60
      have ne62 := o37.ne_new hg60
      have nw63 := Nat.le_trans hF55.size hg60
      replace hG := hG.fr0 f59
      replace o9 := o9.fr0 f59
      replace o37 := o37.fr0 f59
      have hF64 := hF55.then0 f59
      refine s_y (y_assign rfl) rfl rfl ?_
      refine s_d (d_store (cs := [.int .u8 (↑(⟨⟨Ad.zero, [97]⟩, 80⟩ : Ds).h.ad.a.toNat), .int .u8 (↑(⟨⟨Ad.zero, [97]⟩, 80⟩ : Ds).h.ad.b.toNat), .int .u8 (↑(⟨⟨Ad.zero, [97]⟩, 80⟩ : Ds).h.ad.c.toNat), .int .u8 (↑(⟨⟨Ad.zero, [97]⟩, 80⟩ : Ds).h.ad.d.toNat), .string ⟨(⟨⟨Ad.zero, [97]⟩, 80⟩ : Ds).h.n.toArray⟩, .int .i64 (⟨⟨Ad.zero, [97]⟩, 80⟩ : Ds).p]) (l' := [.int .u8 (↑(⟨⟨Ad.zero, [97]⟩, 80⟩ : Ds).h.ad.a.toNat), .int .u8 (↑(⟨⟨Ad.zero, [97]⟩, 80⟩ : Ds).h.ad.b.toNat), .int .u8 (↑(⟨⟨Ad.zero, [97]⟩, 80⟩ : Ds).h.ad.c.toNat), .int .u8 (↑(⟨⟨Ad.zero, [97]⟩, 80⟩ : Ds).h.ad.d.toNat), .string ⟨(⟨⟨Ad.zero, [97]⟩, 80⟩ : Ds).h.n.toArray⟩, .int .i64 (⟨⟨Ad.zero, [97]⟩, 80⟩ : Ds).p]) T.ty29 rfl rfl b58 rfl rfl (ones rfl) (Nat.le_of_ble_eq_true rfl) rfl) rfl rfl ?_
      rintro _ w65 ⟨rfl, b66, f67⟩
      replace hG := hG.fr f67 (by simp only [List.mem_cons, List.not_mem_nil, or_false, not_or]; exact by omega)
      replace o9 := o9.fr1 f67 ne61
      replace o37 := o37.fr1 f67 ne62
      clear b58
      have hF68 := hF64.thenNew f67 nw63
      refine s_y (y_assign rfl) rfl rfl ?_
      refine s_y (y_assign rfl) rfl rfl ?_
      refine s_nil ?_
      refine n_then ?_
      refine c_seq ?_
      refine c_region ?_
      have hlit69 := (T.lit11 5 1 0 4)
      refine s_d (d_bs2 hlit69 ⟨rfl, rfl, rfl, rfl, rfl, rfl, rfl, rfl, trivial⟩) rfl rfl ?_
      rintro _ w71 ⟨g70, rfl, hg74, b72, f73⟩
      have ne75 := o9.ne_new hg74
      have ne76 := o37.ne_new hg74
      have ne77 : g56 ≠ g70 := Nat.ne_of_lt (Nat.lt_of_lt_of_le b66.lt hg74)
      have nw78 := Nat.le_trans hF68.size hg74
      replace hG := hG.fr0 f73
      replace o9 := o9.fr0 f73
      replace o37 := o37.fr0 f73
      replace b66 := b66.fr0 f73
      have hF79 := hF68.then0 f73
      have o80 := Own.of_blk (n := 4) (k := 1) b72 rfl (by decide)
      have hE92 : reqL ([5, 1, 0, 4] : By) = (0, Ds.zero, 0, (.one fiveS 3 71)) := by decide
      refine s_d (d_callR T.ent14 (vs := [.slice (some ⟨g70, 0, none⟩) 4 4]) rfl (request_ok (some ⟨g70, 0, none⟩) g70 0 4 ([5, 1, 0, 4] : By) _ (by first | omega | decide | (fail)) (by first | omega | decide) o80.row hG) (by rintro e w' ⟨_, _, _, _, rfl, -⟩; exact ⟨_, rfl⟩)) rfl rfl ?_
      rintro v95 w93 ⟨d81, v82, c83, x84, hv96, f94, ha97⟩
      obtain rfl := ret_inj hv96
      rcases ha97 with ⟨hno85, -, -, -, -⟩ | ⟨gE86, rfl, rfl, rfl, rfl, hg87, hfa88⟩
      · (rw [hE92] at hno85; exact absurd hno85 (fun e => by cases e))
      ·
        rw [hE92] at hfa88
        have ne98 := o9.ne_new hg87
        have ne99 := o37.ne_new hg87
        have ne100 : g56 ≠ gE86 := Nat.ne_of_lt (Nat.lt_of_lt_of_le b66.lt hg87)
        have ne101 := o80.ne_new hg87
        have nw102 := Nat.le_trans hF79.size hg87
        replace hG := hG.fr0 f94
        replace o9 := o9.fr0 f94
        replace o37 := o37.fr0 f94
        replace b66 := b66.fr0 f94
        replace o80 := o80.fr0 f94
        have hF103 := hF79.then0 f94
        refine s_y (y_move rfl) rfl rfl ?_
        refine s_y (y_extract rfl rfl) rfl rfl ?_
        refine s_y (y_extract rfl rfl) rfl rfl ?_
        refine s_y (y_extract rfl rfl) rfl rfl ?_
        refine s_y (y_extract rfl rfl) rfl rfl ?_
        refine s_d (d_alloc (cs := [.int .u8 0, .int .u8 0, .int .u8 0, .int .u8 0, .string ⟨[].toArray⟩, .int .i64 0]) T.zero29 rfl) rfl rfl ?_
        rintro _ w105 ⟨g104, rfl, hg108, b106, f107⟩
        have ne109 := o9.ne_new hg108
        have ne110 := o37.ne_new hg108
        have ne111 : g56 ≠ g104 := Nat.ne_of_lt (Nat.lt_of_lt_of_le b66.lt hg108)
        have ne112 := o80.ne_new hg108
        have nw113 := Nat.le_trans hF103.size hg108
        replace hG := hG.fr0 f107
        replace hfa88 := hfa88.fr0 f107
        replace o9 := o9.fr0 f107
        replace o37 := o37.fr0 f107
        replace b66 := b66.fr0 f107
        replace o80 := o80.fr0 f107
        have hF114 := hF103.then0 f107
        refine s_y (y_assign rfl) rfl rfl ?_
        refine s_d (d_store (cs := [.int .u8 ↑Ds.zero.h.ad.a.toNat, .int .u8 ↑Ds.zero.h.ad.b.toNat, .int .u8 ↑Ds.zero.h.ad.c.toNat, .int .u8 ↑Ds.zero.h.ad.d.toNat, .string ⟨Ds.zero.h.n.toArray⟩, .int .i64 Ds.zero.p]) (l' := [.int .u8 ↑Ds.zero.h.ad.a.toNat, .int .u8 ↑Ds.zero.h.ad.b.toNat, .int .u8 ↑Ds.zero.h.ad.c.toNat, .int .u8 ↑Ds.zero.h.ad.d.toNat, .string ⟨Ds.zero.h.n.toArray⟩, .int .i64 Ds.zero.p]) T.ty29 rfl rfl b106 rfl rfl (ones rfl) (Nat.le_of_ble_eq_true rfl) rfl) rfl rfl ?_
        rintro _ w115 ⟨rfl, b116, f117⟩
        replace hG := hG.fr f117 (by simp only [List.mem_cons, List.not_mem_nil, or_false, not_or]; exact by omega)
        replace hfa88 := hfa88.fr f117 (nf_cons (nf_blk b106 (by decide)) (nf_nil _ _))
        replace o9 := o9.fr1 f117 ne109
        replace o37 := o37.fr1 f117 ne110
        replace b66 := b66.fr1 f117 ne111
        replace o80 := o80.fr1 f117 ne112
        clear b106
        have hF118 := hF114.thenNew f117 nw113
        refine s_y (y_assign rfl) rfl rfl ?_
        refine s_y (y_assign rfl) rfl rfl ?_
        refine s_nil ?_
        refine n_then ?_
        refine c_seq ?_
        refine c_region ?_
        refine s_y (y_move rfl) rfl rfl ?_
        refine s_y (y_len Tryd.underlying53 rfl) rfl rfl ?_
        refine s_y (y_eql (r := true) rfl rfl rfl) rfl rfl ?_
        refine s_y (y_move rfl) rfl rfl ?_
        refine s_gy (y_move rfl) ⟨_, _, _, _, rfl, rfl, rfl, rfl⟩ rfl ?_
        refine s_gy (y_eql (r := true) rfl rfl rfl) ⟨_, _, _, _, rfl, rfl, rfl, rfl⟩ rfl ?_
        refine s_y (y_pick rfl rfl rfl rfl) rfl rfl ?_
        refine s_y (y_move rfl) rfl rfl ?_
        refine s_gy (y_move rfl) ⟨_, _, _, _, rfl, rfl, rfl, rfl⟩ rfl ?_
        refine s_gy (y_ii Tryd.underlying31 rfl) ⟨_, _, _, _, rfl, rfl, rfl, rfl⟩ rfl ?_
        refine s_y (y_pick rfl rfl rfl rfl) rfl rfl ?_
        refine s_y (y_move rfl) rfl rfl ?_
        refine s_gy (y_move rfl) ⟨_, _, _, _, rfl, rfl, rfl, rfl⟩ rfl ?_
        refine s_gy (y_eql (r := true) rfl rfl rfl) ⟨_, _, _, _, rfl, rfl, rfl, rfl⟩ rfl ?_
        refine s_y (y_pick rfl rfl rfl rfl) rfl rfl ?_
        refine s_y (y_move rfl) rfl rfl ?_
        refine s_gy (y_ldBA (xs := [.int .u8 (↑(⟨⟨Ad.zero, [97]⟩, 80⟩ : Ds).h.ad.a.toNat), .int .u8 (↑(⟨⟨Ad.zero, [97]⟩, 80⟩ : Ds).h.ad.b.toNat), .int .u8 (↑(⟨⟨Ad.zero, [97]⟩, 80⟩ : Ds).h.ad.c.toNat), .int .u8 (↑(⟨⟨Ad.zero, [97]⟩, 80⟩ : Ds).h.ad.d.toNat), .string ⟨(⟨⟨Ad.zero, [97]⟩, 80⟩ : Ds).h.n.toArray⟩, .int .i64 (⟨⟨Ad.zero, [97]⟩, 80⟩ : Ds).p]) T.ty29 rfl b66 rfl rfl) ⟨_, _, _, _, rfl, rfl, rfl, rfl⟩ rfl ?_
        refine s_gy (y_build (vs := [(1, .string ⟨([97] : List UInt8).toArray⟩)]) rfl (by apply T.lit5)) ⟨_, _, _, _, rfl, rfl, rfl, rfl⟩ rfl ?_
        refine s_gy (y_build (vs := [(0, .agg [.int .u8 0, .int .u8 0, .int .u8 0, .int .u8 0, .string ⟨([97] : List UInt8).toArray⟩].toArray), (1, .int .i64 80)]) rfl (by apply T.lit7)) ⟨_, _, _, _, rfl, rfl, rfl, rfl⟩ rfl ?_
        refine s_gy (y_eqA (eq29 (⟨⟨Ad.zero, [97]⟩, 80⟩ : Ds) (⟨(⟨Ad.zero, ([97] : List UInt8)⟩ : Hs), 80⟩ : Ds)) rfl rfl rfl) ⟨_, _, _, _, rfl, rfl, rfl, rfl⟩ rfl ?_
        refine s_y (y_pick rfl rfl rfl rfl) rfl rfl ?_
        refine s_y (y_move rfl) rfl rfl ?_
        refine wl_bool (decide ((⟨⟨Ad.zero, [97]⟩, 80⟩ : Ds) = (⟨(⟨Ad.zero, ([97] : List UInt8)⟩ : Hs), 80⟩ : Ds))) ?_ ?_
        · intro hb119
          rw [hb119]
          have hp120 : (⟨⟨Ad.zero, [97]⟩, 80⟩ : Ds) = (⟨(⟨Ad.zero, ([97] : List UInt8)⟩ : Hs), 80⟩ : Ds) := of_decide_eq_true hb119
          clear hb119
          refine s_gy (y_move rfl) ⟨_, _, _, _, rfl, rfl, rfl, rfl⟩ rfl ?_
          refine s_gy (y_eql (r := true) rfl rfl rfl) ⟨_, _, _, _, rfl, rfl, rfl, rfl⟩ rfl ?_
          refine s_y (y_pick rfl rfl rfl rfl) rfl rfl ?_
          refine s_y (y_move rfl) rfl rfl ?_
          refine s_gy (y_move rfl) ⟨_, _, _, _, rfl, rfl, rfl, rfl⟩ rfl ?_
          refine s_gy (y_ii Tryd.underlying31 rfl) ⟨_, _, _, _, rfl, rfl, rfl, rfl⟩ rfl ?_
          refine s_y (y_pick rfl rfl rfl rfl) rfl rfl ?_
          refine s_y (y_move rfl) rfl rfl ?_
          refine s_gy (y_move rfl) ⟨_, _, _, _, rfl, rfl, rfl, rfl⟩ rfl ?_
          refine s_gd (d_callR T.ent18 (vs := [.string ⟨([102, 105, 118, 101] : List UInt8).toArray⟩, .int .i64 3, .int .i64 71]) rfl (failB_ok ([102, 105, 118, 101] : List UInt8) 3 71 _) (by rintro e w' ⟨rfl, -⟩; exact ⟨_, rfl⟩)) ⟨_, _, _, _, rfl, rfl, rfl, rfl⟩ rfl ?_
          rintro v123 w121 ⟨hv124, f122⟩
          obtain rfl := ret_inj hv124
          replace hG := hG.fr0 f122
          replace hfa88 := hfa88.fr0 f122
          replace o9 := o9.fr0 f122
          replace o37 := o37.fr0 f122
          replace b66 := b66.fr0 f122
          replace o80 := o80.fr0 f122
          replace b116 := b116.fr0 f122
          have hF125 := hF118.then0 f122
          refine s_gd (d_callR T.ent17 (vs := [.iface 136 (.pointer (some ⟨gE86, 0, none⟩)), _]) rfl (is_f gE86 (Er.one fiveS 3 71) (Er.one ([102, 105, 118, 101] : List UInt8) 3 71) _ hfa88) (by rintro e w' ⟨rfl, -⟩; exact ⟨_, rfl⟩)) ⟨_, _, _, _, rfl, rfl, rfl, rfl⟩ rfl ?_
          rintro v128 w126 ⟨hv129, f127⟩
          obtain rfl := ret_inj hv129
          replace hG := hG.fr0 f127
          replace hfa88 := hfa88.fr0 f127
          replace o9 := o9.fr0 f127
          replace o37 := o37.fr0 f127
          replace b66 := b66.fr0 f127
          replace o80 := o80.fr0 f127
          replace b116 := b116.fr0 f127
          have hF130 := hF125.then0 f127
          refine s_y (y_pick rfl rfl rfl rfl) rfl rfl ?_
          refine s_y (y_assign rfl) rfl rfl ?_
          refine s_nil ?_
          refine n_then ?_
          refine c_ret ?_
          refine fin1 (by simp) rfl rfl ?_
          exact ⟨rfl, hF130⟩
        · intro hb119
          rw [hb119]
          have hp131 : ¬ ((⟨⟨Ad.zero, [97]⟩, 80⟩ : Ds) = (⟨(⟨Ad.zero, ([97] : List UInt8)⟩ : Hs), 80⟩ : Ds)) := of_decide_eq_false hb119
          clear hb119
          refine s_skip ⟨_, _, _, _, rfl, rfl, rfl, rfl⟩ rfl ?_
          refine s_skip ⟨_, _, _, _, rfl, rfl, rfl, rfl⟩ rfl ?_
          refine s_y (y_pick rfl rfl rfl rfl) rfl rfl ?_
          refine s_y (y_move rfl) rfl rfl ?_
          refine s_skip ⟨_, _, _, _, rfl, rfl, rfl, rfl⟩ rfl ?_
          refine s_skip ⟨_, _, _, _, rfl, rfl, rfl, rfl⟩ rfl ?_
          refine s_y (y_pick rfl rfl rfl rfl) rfl rfl ?_
          refine s_y (y_move rfl) rfl rfl ?_
          refine s_skip ⟨_, _, _, _, rfl, rfl, rfl, rfl⟩ rfl ?_
          refine s_skip ⟨_, _, _, _, rfl, rfl, rfl, rfl⟩ rfl ?_
          refine s_skip ⟨_, _, _, _, rfl, rfl, rfl, rfl⟩ rfl ?_
          refine s_y (y_pick rfl rfl rfl rfl) rfl rfl ?_
          refine s_y (y_assign rfl) rfl rfl ?_
          refine s_nil ?_
          refine n_then ?_
          refine c_ret ?_
          refine fin1 (by simp) rfl rfl ?_
          exact absurd rfl ‹¬ (_ = _)›
    · (rw [hE49] at hfa45; exact hfa45.elim)
  · (rw [hE16] at hfa21; exact hfa21.elim)

set_option maxHeartbeats 8000000 in
set_option maxRecDepth 100000 in
theorem again_ok (A : Option Addr) (g o c : Nat) (b : By) (w : World) (hb : b.length ≤ 9223372036854775807) (hc : b.length ≤ c) (hw : Row w A g o b.length 1 (b.map bv)) (hG : Gl w) :
    Calls Tryd.prog 4 #[.slice A b.length c] w fun e w' => e = .returned (.bool true) ∧ Fr [] w w' := by
  have hG4 := hG.lt
  refine c_start (args := [.slice A b.length c]) Tryd.func4 rfl rfl rfl ?_
  try simp only [enum, Nat.zero_add, Nat.reduceAdd]
  have hF0 := Fr.refl [] w
  have lt_hw := hw.lt'
  refine c_seq ?_
  refine c_region ?_
  refine s_y (y_assign rfl) rfl rfl ?_
  refine s_nil ?_
  refine n_then ?_
  refine c_seq ?_
  refine c_seq ?_
  refine c_region ?_
  refine s_d (d_callR T.ent13 (vs := []) rfl (works_ok _ hG) (by rintro e w' ⟨rfl, -⟩; exact ⟨_, rfl⟩)) rfl rfl ?_
  rintro v3 w1 ⟨hv4, f2⟩
  obtain rfl := ret_inj hv4
  replace hG := hG.fr0 f2
  replace hw := hw.fr0 f2
  have hF5 := hF0.then0 f2
  refine s_y (y_not rfl rfl) rfl rfl ?_
  refine s_nil ?_
  refine n_then ?_
  refine c_false rfl ?_
  refine c_skip ?_
  refine n_then ?_
  refine c_seq ?_
  refine c_region ?_
  refine s_y (y_move rfl) rfl rfl ?_
  refine s_d (d_callR T.ent14 (vs := [.slice A b.length c]) rfl (request_ok A g o c b _ (by first | omega | decide | (have := putReq_len ↑(reqL b).1 (reqL b).2.1; omega)) (by first | omega | decide) hw hG) (by rintro e w' ⟨_, _, _, _, rfl, -⟩; exact ⟨_, rfl⟩)) rfl rfl ?_
  rintro v19 w17 ⟨d6, v7, c8, x9, hv20, f18, ha21⟩
  obtain rfl := ret_inj hv20
  rcases ha21 with ⟨hno10, rfl, rfl, rfl, rfl⟩ | ⟨gE11, rfl, rfl, rfl, rfl, hg12, hfa13⟩
  ·
    replace hG := hG.fr0 f18
    replace hw := hw.fr0 f18
    have hF22 := hF5.then0 f18
    refine s_y (y_move rfl) rfl rfl ?_
    obtain ⟨hag1, hag2⟩ := req_again b hno10
    have hnl2 := req_nlen b
    refine s_y (y_extract rfl rfl) rfl rfl ?_
    refine s_y (y_extract rfl rfl) rfl rfl ?_
    refine s_y (y_extract rfl rfl) rfl rfl ?_
    refine s_y (y_extract rfl rfl) rfl rfl ?_
    refine s_d (d_alloc (cs := [.int .u8 0, .int .u8 0, .int .u8 0, .int .u8 0, .string ⟨[].toArray⟩, .int .i64 0]) T.zero29 rfl) rfl rfl ?_
    rintro _ w24 ⟨g23, rfl, hg27, b25, f26⟩
    have ne28 := row_ne_new hw hg27
    have nw29 := Nat.le_trans hF22.size hg27
    replace hG := hG.fr0 f26
    replace hw := hw.fr0 f26
    have hF30 := hF22.then0 f26
    refine s_y (y_assign rfl) rfl rfl ?_
    refine s_d (d_store (cs := [.int .u8 (↑(reqL b).2.1.h.ad.a.toNat), .int .u8 (↑(reqL b).2.1.h.ad.b.toNat), .int .u8 (↑(reqL b).2.1.h.ad.c.toNat), .int .u8 (↑(reqL b).2.1.h.ad.d.toNat), .string ⟨(reqL b).2.1.h.n.toArray⟩, .int .i64 (reqL b).2.1.p]) (l' := [.int .u8 (↑(reqL b).2.1.h.ad.a.toNat), .int .u8 (↑(reqL b).2.1.h.ad.b.toNat), .int .u8 (↑(reqL b).2.1.h.ad.c.toNat), .int .u8 (↑(reqL b).2.1.h.ad.d.toNat), .string ⟨(reqL b).2.1.h.n.toArray⟩, .int .i64 (reqL b).2.1.p]) T.ty29 rfl rfl b25 rfl rfl (ones rfl) (Nat.le_of_ble_eq_true rfl) rfl) rfl rfl ?_
    rintro _ w31 ⟨rfl, b32, f33⟩
    replace hG := hG.fr f33 (by simp only [List.mem_cons, List.not_mem_nil, or_false, not_or]; exact by omega)
    replace hw := hw.fr1 f33 ne28
    clear b25
    have hF34 := hF30.thenNew f33 nw29
    refine s_y (y_assign rfl) rfl rfl ?_
    refine s_y (y_assign rfl) rfl rfl ?_
    refine s_nil ?_
    refine n_then ?_
    refine c_seq ?_
    refine c_seq ?_
    refine c_region ?_
    refine s_y (y_move rfl) rfl rfl ?_
    refine s_y (y_iix Tryd.underlying31 rfl) rfl rfl ?_
    refine s_nil ?_
    refine n_then ?_
    refine c_false rfl ?_
    refine c_skip ?_
    refine n_then ?_
    refine c_seq ?_
    refine c_region ?_
    refine s_y (y_move rfl) rfl rfl ?_
    refine s_y (y_ldBA (xs := [.int .u8 (↑(reqL b).2.1.h.ad.a.toNat), .int .u8 (↑(reqL b).2.1.h.ad.b.toNat), .int .u8 (↑(reqL b).2.1.h.ad.c.toNat), .int .u8 (↑(reqL b).2.1.h.ad.d.toNat), .string ⟨(reqL b).2.1.h.n.toArray⟩, .int .i64 (reqL b).2.1.p]) T.ty29 rfl b32 rfl rfl) rfl rfl ?_
    have hput0 := putReq_ok (↑(reqL b).1) (reqL b).2.1 _ (by omega) hG
    rw [hag1] at hput0
    refine s_d (d_callR T.ent20 (vs := [.int .i64 (↑(reqL b).1), _]) rfl (hput0) (by rintro e w' ⟨_, _, _, _, rfl, -⟩; exact ⟨_, rfl⟩)) rfl rfl ?_
    rintro v44 w42 ⟨A35, g36, n37, c38, hv45, f43, rfl, ho40, hwx41⟩
    obtain rfl := ret_inj hv45
    replace hG := hG.fr0 f43
    replace hw := hw.fr0 f43
    replace b32 := b32.fr0 f43
    have hF46 := hF34.then0 f43
    have wh47 : A35 = none ∨ g36 ∈ ([] : List Nat) ∨ w.heap.size ≤ g36 := hwx41.imp id fun h => .inr (Nat.le_trans hF34.size h)
    refine s_y (y_move rfl) rfl rfl ?_
    refine s_y (y_extract rfl rfl) rfl rfl ?_
    refine s_y (y_extract rfl rfl) rfl rfl ?_
    refine s_y (y_assign rfl) rfl rfl ?_
    refine s_y (y_assign rfl) rfl rfl ?_
    refine s_nil ?_
    refine n_then ?_
    refine c_seq ?_
    refine c_region ?_
    refine s_y (y_move rfl) rfl rfl ?_
    refine s_d (d_callR T.ent14 (vs := [.slice A35 (putReqL (↑(reqL b).1) (reqL b).2.1).1.length c38]) rfl (request_ok A35 g36 0 c38 (putReqL (↑(reqL b).1) (reqL b).2.1).1 _ (by first | omega | decide | (have := putReq_len ↑(reqL b).1 (reqL b).2.1; omega)) ho40.cap ho40.row hG) (by rintro e w' ⟨_, _, _, _, rfl, -⟩; exact ⟨_, rfl⟩)) rfl rfl ?_
    rintro v61 w59 ⟨d48, v49, c50, x51, hv62, f60, ha63⟩
    obtain rfl := ret_inj hv62
    rcases ha63 with ⟨-, rfl, hc56, hd57, hx58⟩ | ⟨_, -, -, -, -, -, hfa55⟩
    ·
      obtain rfl : c50 = ↑((reqL b).1 : Nat) := by rw [hag2] at hc56; exact hc56
      obtain rfl : (reqL b).2.1 = d48 := by rw [hag2] at hd57; exact hd57.symm
      obtain rfl : x51 = ↑((putReqL (↑(reqL b).1) (reqL b).2.1).1.length : Nat) := by rw [hag2] at hx58; exact hx58
      replace hG := hG.fr0 f60
      replace hw := hw.fr0 f60
      replace b32 := b32.fr0 f60
      replace ho40 := ho40.fr0 f60
      have hF64 := hF46.then0 f60
      refine s_y (y_move rfl) rfl rfl ?_
      refine s_y (y_extract rfl rfl) rfl rfl ?_
      refine s_y (y_extract rfl rfl) rfl rfl ?_
      refine s_y (y_extract rfl rfl) rfl rfl ?_
      refine s_y (y_extract rfl rfl) rfl rfl ?_
      refine s_d (d_alloc (cs := [.int .u8 0, .int .u8 0, .int .u8 0, .int .u8 0, .string ⟨[].toArray⟩, .int .i64 0]) T.zero29 rfl) rfl rfl ?_
      rintro _ w66 ⟨g65, rfl, hg69, b67, f68⟩
      have ne70 := row_ne_new hw hg69
      have ne71 : g23 ≠ g65 := Nat.ne_of_lt (Nat.lt_of_lt_of_le b32.lt hg69)
      have ne72 := ho40.ne_new hg69
      have nw73 := Nat.le_trans hF64.size hg69
      replace hG := hG.fr0 f68
      replace hw := hw.fr0 f68
      replace b32 := b32.fr0 f68
      replace ho40 := ho40.fr0 f68
      have hF74 := hF64.then0 f68
      refine s_y (y_assign rfl) rfl rfl ?_
      refine s_d (d_store (cs := [.int .u8 (↑(reqL b).2.1.h.ad.a.toNat), .int .u8 (↑(reqL b).2.1.h.ad.b.toNat), .int .u8 (↑(reqL b).2.1.h.ad.c.toNat), .int .u8 (↑(reqL b).2.1.h.ad.d.toNat), .string ⟨(reqL b).2.1.h.n.toArray⟩, .int .i64 (reqL b).2.1.p]) (l' := [.int .u8 (↑(reqL b).2.1.h.ad.a.toNat), .int .u8 (↑(reqL b).2.1.h.ad.b.toNat), .int .u8 (↑(reqL b).2.1.h.ad.c.toNat), .int .u8 (↑(reqL b).2.1.h.ad.d.toNat), .string ⟨(reqL b).2.1.h.n.toArray⟩, .int .i64 (reqL b).2.1.p]) T.ty29 rfl rfl b67 rfl rfl (ones rfl) (Nat.le_of_ble_eq_true rfl) rfl) rfl rfl ?_
      rintro _ w75 ⟨rfl, b76, f77⟩
      replace hG := hG.fr f77 (by simp only [List.mem_cons, List.not_mem_nil, or_false, not_or]; exact by omega)
      replace hw := hw.fr1 f77 ne70
      replace b32 := b32.fr1 f77 ne71
      replace ho40 := ho40.fr1 f77 ne72
      clear b67
      have hF78 := hF74.thenNew f77 nw73
      refine s_y (y_assign rfl) rfl rfl ?_
      refine s_y (y_assign rfl) rfl rfl ?_
      refine s_nil ?_
      refine n_then ?_
      refine c_seq ?_
      refine c_region ?_
      refine s_y (y_move rfl) rfl rfl ?_
      refine s_y (y_eql (r := true) rfl rfl rfl) rfl rfl ?_
      refine s_y (y_move rfl) rfl rfl ?_
      refine s_gy (y_move rfl) ⟨_, _, _, _, rfl, rfl, rfl, rfl⟩ rfl ?_
      refine s_gy (y_ii Tryd.underlying31 rfl) ⟨_, _, _, _, rfl, rfl, rfl, rfl⟩ rfl ?_
      refine s_y (y_pick rfl rfl rfl rfl) rfl rfl ?_
      refine s_y (y_move rfl) rfl rfl ?_
      refine s_gy (y_move rfl) ⟨_, _, _, _, rfl, rfl, rfl, rfl⟩ rfl ?_
      refine s_gy (y_move rfl) ⟨_, _, _, _, rfl, rfl, rfl, rfl⟩ rfl ?_
      refine s_gy (y_eql (r := true) rfl rfl (by simp)) ⟨_, _, _, _, rfl, rfl, rfl, rfl⟩ rfl ?_
      refine s_y (y_pick rfl rfl rfl rfl) rfl rfl ?_
      refine s_y (y_move rfl) rfl rfl ?_
      refine s_gy (y_ldBA (xs := [.int .u8 (↑(reqL b).2.1.h.ad.a.toNat), .int .u8 (↑(reqL b).2.1.h.ad.b.toNat), .int .u8 (↑(reqL b).2.1.h.ad.c.toNat), .int .u8 (↑(reqL b).2.1.h.ad.d.toNat), .string ⟨(reqL b).2.1.h.n.toArray⟩, .int .i64 (reqL b).2.1.p]) T.ty29 rfl b76 rfl rfl) ⟨_, _, _, _, rfl, rfl, rfl, rfl⟩ rfl ?_
      refine s_gy (y_ldBA (xs := [.int .u8 (↑(reqL b).2.1.h.ad.a.toNat), .int .u8 (↑(reqL b).2.1.h.ad.b.toNat), .int .u8 (↑(reqL b).2.1.h.ad.c.toNat), .int .u8 (↑(reqL b).2.1.h.ad.d.toNat), .string ⟨(reqL b).2.1.h.n.toArray⟩, .int .i64 (reqL b).2.1.p]) T.ty29 rfl b32 rfl rfl) ⟨_, _, _, _, rfl, rfl, rfl, rfl⟩ rfl ?_
      refine s_gy (y_eqA (r := true) (eq29 (reqL b).2.1 (reqL b).2.1) rfl rfl (by rw [decide_eq_true rfl])) ⟨_, _, _, _, rfl, rfl, rfl, rfl⟩ rfl ?_
      refine s_y (y_pick rfl rfl rfl rfl) rfl rfl ?_
      refine s_y (y_move rfl) rfl rfl ?_
      refine s_gy (y_move rfl) ⟨_, _, _, _, rfl, rfl, rfl, rfl⟩ rfl ?_
      refine s_gy (y_move rfl) ⟨_, _, _, _, rfl, rfl, rfl, rfl⟩ rfl ?_
      refine s_gy (y_len Tryd.underlying22 rfl) ⟨_, _, _, _, rfl, rfl, rfl, rfl⟩ rfl ?_
      refine s_gy (y_eql (r := true) rfl rfl (by simp)) ⟨_, _, _, _, rfl, rfl, rfl, rfl⟩ rfl ?_
      refine s_y (y_pick rfl rfl rfl rfl) rfl rfl ?_
      refine s_y (y_assign rfl) rfl rfl ?_
      refine s_nil ?_
      refine n_then ?_
      refine c_ret ?_
      refine fin1 (by simp) rfl rfl ?_
      exact ⟨rfl, hF78⟩
    · (rw [hag2] at hfa55; exact hfa55.elim)
  ·
    have ne79 := row_ne_new hw hg12
    have nw80 := Nat.le_trans hF5.size hg12
    replace hG := hG.fr0 f18
    replace hw := hw.fr0 f18
    have hF81 := hF5.then0 f18
    refine s_y (y_move rfl) rfl rfl ?_
    have hnl2 := req_nlen b
    refine s_y (y_extract rfl rfl) rfl rfl ?_
    refine s_y (y_extract rfl rfl) rfl rfl ?_
    refine s_y (y_extract rfl rfl) rfl rfl ?_
    refine s_y (y_extract rfl rfl) rfl rfl ?_
    refine s_d (d_alloc (cs := [.int .u8 0, .int .u8 0, .int .u8 0, .int .u8 0, .string ⟨[].toArray⟩, .int .i64 0]) T.zero29 rfl) rfl rfl ?_
    rintro _ w83 ⟨g82, rfl, hg86, b84, f85⟩
    have ne87 := row_ne_new hw hg86
    have nw88 := Nat.le_trans hF81.size hg86
    replace hG := hG.fr0 f85
    replace hfa13 := hfa13.fr0 f85
    replace hw := hw.fr0 f85
    have hF89 := hF81.then0 f85
    refine s_y (y_assign rfl) rfl rfl ?_
    refine s_d (d_store (cs := [.int .u8 ↑Ds.zero.h.ad.a.toNat, .int .u8 ↑Ds.zero.h.ad.b.toNat, .int .u8 ↑Ds.zero.h.ad.c.toNat, .int .u8 ↑Ds.zero.h.ad.d.toNat, .string ⟨Ds.zero.h.n.toArray⟩, .int .i64 Ds.zero.p]) (l' := [.int .u8 ↑Ds.zero.h.ad.a.toNat, .int .u8 ↑Ds.zero.h.ad.b.toNat, .int .u8 ↑Ds.zero.h.ad.c.toNat, .int .u8 ↑Ds.zero.h.ad.d.toNat, .string ⟨Ds.zero.h.n.toArray⟩, .int .i64 Ds.zero.p]) T.ty29 rfl rfl b84 rfl rfl (ones rfl) (Nat.le_of_ble_eq_true rfl) rfl) rfl rfl ?_
    rintro _ w90 ⟨rfl, b91, f92⟩
    replace hG := hG.fr f92 (by simp only [List.mem_cons, List.not_mem_nil, or_false, not_or]; exact by omega)
    replace hfa13 := hfa13.fr f92 (nf_cons (nf_blk b84 (by decide)) (nf_nil _ _))
    replace hw := hw.fr1 f92 ne87
    clear b84
    have hF93 := hF89.thenNew f92 nw88
    refine s_y (y_assign rfl) rfl rfl ?_
    refine s_y (y_assign rfl) rfl rfl ?_
    refine s_nil ?_
    refine n_then ?_
    refine c_seq ?_
    refine c_seq ?_
    refine c_region ?_
    refine s_y (y_move rfl) rfl rfl ?_
    refine s_y (y_inx Tryd.underlying31 rfl rfl) rfl rfl ?_
    refine s_nil ?_
    refine n_then ?_
    refine c_true rfl ?_
    refine c_seq ?_
    refine c_region ?_
    refine s_y (y_move rfl) rfl rfl ?_
    refine s_y (y_eql (r := true) rfl rfl rfl) rfl rfl ?_
    refine s_y (y_assign rfl) rfl rfl ?_
    refine s_nil ?_
    refine n_then ?_
    refine c_ret ?_
    refine r_then ?_
    refine fin1 (by simp) rfl rfl ?_
    exact ⟨rfl, hF93⟩

end Go.Proofs.YtcnepgnfecoeoaaDoor
