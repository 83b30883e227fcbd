/- The law FiveComes: the walk. No condition. -/
import Derived.Test.YtcnepgnfecoeoaaDoorGe
import Derived.Test.YtcnepgnfecoeoaaDoorGMem4
import Derived.Test.YtcnepgnfecoeoaaDoorGfT
import Derived.Test.YtcnepgnfecoeoaaDoorProg
set_option linter.unusedVariables false
set_option linter.unusedSimpArgs false
namespace Go.Proofs.YtcnepgnfecoeoaaDoor
open Go Go.Proofs.GP Go.Proofs.Tryd
set_option maxHeartbeats 8000000 in
set_option maxRecDepth 100000 in
theorem comes_ok (A : Option Addr) (g o c : Nat) (b : By) (cut : Int) (A2 : Option Addr) (g2 o2 c2 : Nat) (more : By) (w : World) (hb : b.length ≤ 1048576) (hc : b.length ≤ c) (hm : more.length ≤ 1048576) (hw : Row w A g o b.length 1 (b.map bv)) (hw2 : Row w A2 g2 o2 more.length 1 (more.map bv)) (hG : Gl w) :
    Calls Tryd.prog 3 #[.slice A b.length c, .int .i64 cut, .slice A2 more.length c2] w fun e w' => e = .returned (.bool true) ∧ Fr [] w w' := by
  have hG4 := hG.lt
  refine c_start (args := [.slice A b.length c, .int .i64 cut, .slice A2 more.length c2]) Tryd.func3 rfl rfl rfl ?_
  try simp only [enum, Nat.zero_add, Nat.reduceAdd]
  have hF0 := Fr.refl [] w
  have lt_hw := hw.lt'
  have lt_hw2 := hw2.lt'
  refine c_seq ?_
  refine c_region ?_
  refine s_y (y_assign rfl) rfl rfl ?_
  refine s_nil ?_
  refine n_then ?_
  refine c_seq ?_
  refine c_seq ?_
  refine c_region ?_
  refine s_d (d_callR T.ent13 (vs := []) rfl (works_ok _ hG) (by rintro e w' ⟨rfl, -⟩; exact ⟨_, rfl⟩)) rfl rfl ?_
  rintro v3 w1 ⟨hv4, f2⟩
  obtain rfl := ret_inj hv4
  replace hG := hG.fr0 f2
  replace hw := hw.fr0 f2
  replace hw2 := hw2.fr0 f2
  have hF5 := hF0.then0 f2
  refine s_y (y_not rfl rfl) rfl rfl ?_
  refine s_nil ?_
  refine n_then ?_
  refine c_false rfl ?_
  refine c_skip ?_
  refine n_then ?_
  refine c_seq ?_
  refine c_region ?_
  refine s_y (y_move rfl) rfl rfl ?_
  refine s_d (d_callR T.ent14 (vs := [.slice A b.length c]) rfl (request_ok A g o c b _ (by first | omega | decide | (rw [List.length_append]; omega)) (by first | omega | decide) hw hG) (by rintro e w' ⟨_, _, _, _, rfl, -⟩; exact ⟨_, rfl⟩)) rfl rfl ?_
  rintro v19 w17 ⟨d6, v7, c8, x9, hv20, f18, ha21⟩
  obtain rfl := ret_inj hv20
  rcases ha21 with ⟨hno10, rfl, rfl, rfl, rfl⟩ | ⟨gE11, rfl, rfl, rfl, rfl, hg12, hfa13⟩
  ·
    replace hG := hG.fr0 f18
    replace hw := hw.fr0 f18
    replace hw2 := hw2.fr0 f18
    have hF22 := hF5.then0 f18
    refine s_y (y_move rfl) rfl rfl ?_
    have hrn := req_n b hno10
    refine s_y (y_extract rfl rfl) rfl rfl ?_
    refine s_y (y_extract rfl rfl) rfl rfl ?_
    refine s_y (y_extract rfl rfl) rfl rfl ?_
    refine s_y (y_extract rfl rfl) rfl rfl ?_
    refine s_d (d_alloc (cs := [.int .u8 0, .int .u8 0, .int .u8 0, .int .u8 0, .string ⟨[].toArray⟩, .int .i64 0]) T.zero29 rfl) rfl rfl ?_
    rintro _ w24 ⟨g23, rfl, hg27, b25, f26⟩
    have ne28 := row_ne_new hw hg27
    have ne29 := row_ne_new hw2 hg27
    have nw30 := Nat.le_trans hF22.size hg27
    replace hG := hG.fr0 f26
    replace hw := hw.fr0 f26
    replace hw2 := hw2.fr0 f26
    have hF31 := hF22.then0 f26
    refine s_y (y_assign rfl) rfl rfl ?_
    refine s_d (d_store (cs := [.int .u8 (↑(reqL b).2.1.h.ad.a.toNat), .int .u8 (↑(reqL b).2.1.h.ad.b.toNat), .int .u8 (↑(reqL b).2.1.h.ad.c.toNat), .int .u8 (↑(reqL b).2.1.h.ad.d.toNat), .string ⟨(reqL b).2.1.h.n.toArray⟩, .int .i64 (reqL b).2.1.p]) (l' := [.int .u8 (↑(reqL b).2.1.h.ad.a.toNat), .int .u8 (↑(reqL b).2.1.h.ad.b.toNat), .int .u8 (↑(reqL b).2.1.h.ad.c.toNat), .int .u8 (↑(reqL b).2.1.h.ad.d.toNat), .string ⟨(reqL b).2.1.h.n.toArray⟩, .int .i64 (reqL b).2.1.p]) T.ty29 rfl rfl b25 rfl rfl (ones rfl) (Nat.le_of_ble_eq_true rfl) rfl) rfl rfl ?_
    rintro _ w32 ⟨rfl, b33, f34⟩
    replace hG := hG.fr f34 (by simp only [List.mem_cons, List.not_mem_nil, or_false, not_or]; exact by omega)
    replace hw := hw.fr1 f34 ne28
    replace hw2 := hw2.fr1 f34 ne29
    clear b25
    have hF35 := hF31.thenNew f34 nw30
    refine s_y (y_assign rfl) rfl rfl ?_
    refine s_y (y_assign rfl) rfl rfl ?_
    refine s_nil ?_
    refine n_then ?_
    refine c_seq ?_
    refine c_seq ?_
    refine c_region ?_
    refine s_y (y_move rfl) rfl rfl ?_
    refine s_y (y_ii Tryd.underlying31 rfl) rfl rfl ?_
    refine s_nil ?_
    refine n_then ?_
    refine c_true rfl ?_
    refine c_seq ?_
    refine c_seq ?_
    refine c_region ?_
    refine s_y (y_move rfl) rfl rfl ?_
    refine s_y (y_lss rfl rfl rfl) rfl rfl ?_
    refine s_y (y_move rfl) rfl rfl ?_
    refine wl_bool (decide (((↑(reqL b).2.2.1) : Int) < 1)) ?_ ?_
    · intro hb36
      rw [hb36]
      have hp37 : ((↑(reqL b).2.2.1) : Int) < 1 := of_decide_eq_true hb36
      clear hb36
      refine s_skip ⟨_, _, _, _, rfl, rfl, rfl, rfl⟩ rfl ?_
      refine s_skip ⟨_, _, _, _, rfl, rfl, rfl, rfl⟩ rfl ?_
      refine s_skip ⟨_, _, _, _, rfl, rfl, rfl, rfl⟩ rfl ?_
      refine s_skip ⟨_, _, _, _, rfl, rfl, rfl, rfl⟩ rfl ?_
      refine s_y (y_pick rfl rfl rfl rfl) rfl rfl ?_
      refine s_y (y_move rfl) rfl rfl ?_
      refine s_skip ⟨_, _, _, _, rfl, rfl, rfl, rfl⟩ rfl ?_
      refine s_skip ⟨_, _, _, _, rfl, rfl, rfl, rfl⟩ rfl ?_
      refine s_y (y_pick rfl rfl rfl rfl) rfl rfl ?_
      refine s_nil ?_
      refine n_then ?_
      refine c_true rfl ?_
      refine c_seq ?_
      refine c_region ?_
      refine s_y (y_assign rfl) rfl rfl ?_
      refine s_nil ?_
      refine n_then ?_
      refine c_ret ?_
      refine r_then ?_
      refine r_then ?_
      refine fin1 (by simp) rfl rfl ?_
      exfalso; first | omega | exact absurd rfl ‹¬ (_ = _)›
    · intro hb36
      rw [hb36]
      have hp38 : ¬ (((↑(reqL b).2.2.1) : Int) < 1) := of_decide_eq_false hb36
      clear hb36
      refine s_gy (y_move rfl) ⟨_, _, _, _, rfl, rfl, rfl, rfl⟩ rfl ?_
      refine s_gy (y_move rfl) ⟨_, _, _, _, rfl, rfl, rfl, rfl⟩ rfl ?_
      refine s_gy (y_len Tryd.underlying22 rfl) ⟨_, _, _, _, rfl, rfl, rfl, rfl⟩ rfl ?_
      refine s_gy (y_gtr rfl rfl rfl) ⟨_, _, _, _, rfl, rfl, rfl, rfl⟩ rfl ?_
      refine s_y (y_pick rfl rfl rfl rfl) rfl rfl ?_
      refine s_y (y_move rfl) rfl rfl ?_
      refine wl_bool (decide ((↑b.length : Int) < (↑(reqL b).2.2.1))) ?_ ?_
      · intro hb39
        rw [hb39]
        have hp40 : (↑b.length : Int) < (↑(reqL b).2.2.1) := of_decide_eq_true hb39
        clear hb39
        refine s_skip ⟨_, _, _, _, rfl, rfl, rfl, rfl⟩ rfl ?_
        refine s_skip ⟨_, _, _, _, rfl, rfl, rfl, rfl⟩ rfl ?_
        refine s_y (y_pick rfl rfl rfl rfl) rfl rfl ?_
        refine s_nil ?_
        refine n_then ?_
        refine c_true rfl ?_
        refine c_seq ?_
        refine c_region ?_
        refine s_y (y_assign rfl) rfl rfl ?_
        refine s_nil ?_
        refine n_then ?_
        refine c_ret ?_
        refine r_then ?_
        refine r_then ?_
        refine fin1 (by simp) rfl rfl ?_
        exfalso; first | omega | exact absurd rfl ‹¬ (_ = _)›
      · intro hb39
        rw [hb39]
        have hp41 : ¬ ((↑b.length : Int) < (↑(reqL b).2.2.1)) := of_decide_eq_false hb39
        clear hb39
        refine s_gy (y_move rfl) ⟨_, _, _, _, rfl, rfl, rfl, rfl⟩ rfl ?_
        refine s_gy (y_gtr rfl rfl rfl) ⟨_, _, _, _, rfl, rfl, rfl, rfl⟩ rfl ?_
        refine s_y (y_pick rfl rfl rfl rfl) rfl rfl ?_
        refine s_nil ?_
        refine n_then ?_
        refine c_cond rfl ?_ ?_
        · intro h42
          replace h42 : (263 : Int) < (↑(reqL b).2.2.1) := of_decide_eq_true h42
          refine c_seq ?_
          refine c_region ?_
          refine s_y (y_assign rfl) rfl rfl ?_
          refine s_nil ?_
          refine n_then ?_
          refine c_ret ?_
          refine r_then ?_
          refine r_then ?_
          refine fin1 (by simp) rfl rfl ?_
          exfalso; first | omega | exact absurd rfl ‹¬ (_ = _)›
        · intro h43
          replace h43 : ¬ ((263 : Int) < (↑(reqL b).2.2.1)) := of_decide_eq_false h43
          refine c_skip ?_
          refine n_then ?_
          refine c_seq ?_
          refine c_region ?_
          refine s_y (y_move rfl) rfl rfl ?_
          refine s_y (y_move rfl) rfl rfl ?_
          refine s_d (d_callR T.ent15 (vs := [.int .i64 cut, .int .i64 (↑(reqL b).2.2.1)]) rfl (among_ok cut (reqL b).2.2.1 _ (by omega) (by omega)) (by rintro e w' ⟨_, rfl, -⟩; exact ⟨_, rfl⟩)) rfl rfl ?_
          rintro v48 w46 ⟨k44, hv49, f47, hk45⟩
          obtain rfl := ret_inj hv49
          replace hG := hG.fr0 f47
          replace hw := hw.fr0 f47
          replace hw2 := hw2.fr0 f47
          replace b33 := b33.fr0 f47
          have hF50 := hF35.then0 f47
          have hlk : (b.take k44).length = k44 := by rw [List.length_take]; omega
          have hE1 := req_take b k44 hno10 hk45
          have hE2 : reqL (b ++ more) = ((reqL b).1, (reqL b).2.1, (reqL b).2.2.1, .no) := by rw [req_app b more (by rw [hno10]; exact fun e => by cases e), ← hno10]
          refine s_y (y_assign rfl) rfl rfl ?_
          refine s_nil ?_
          refine n_then ?_
          refine c_seq ?_
          refine c_region ?_
          refine s_y (y_move rfl) rfl rfl ?_
          refine s_y (y_move rfl) rfl rfl ?_
          refine s_d (d_sliceh (l := 0) (m := k44) (n' := (b.take k44).length) (o' := o) (ys := ((b.take k44).map bv)) Tryd.underlying22 T.ty5 rfl rfl (by omega) hw (by omega) (by omega) hc (by omega) (by omega) (by simp [List.map_take])) rfl rfl ?_
          rintro _ _ ⟨A51, c52, rfl, rfl, r53, hc54⟩
          refine s_d (d_callR T.ent14 (vs := [.slice A51 (b.take k44).length c52]) rfl (request_ok A51 g o c52 (b.take k44) _ (by first | omega | decide | (rw [List.length_append]; omega)) (by first | omega | decide) r53 hG) (by rintro e w' ⟨_, _, _, _, rfl, -⟩; exact ⟨_, rfl⟩)) rfl rfl ?_
          rintro v68 w66 ⟨d55, v56, c57, x58, hv69, f67, ha70⟩
          obtain rfl := ret_inj hv69
          rcases ha70 with ⟨hno59, -, -, -, -⟩ | ⟨gE60, rfl, rfl, rfl, rfl, hg61, hfa62⟩
          · (rw [hE1] at hno59; exact absurd hno59 (fun e => by cases e))
          ·
            rw [hE1] at hfa62
            have ne71 := row_ne_new hw hg61
            have ne72 := row_ne_new hw2 hg61
            have ne73 : g23 ≠ gE60 := Nat.ne_of_lt (Nat.lt_of_lt_of_le b33.lt hg61)
            have ne74 := row_ne_new r53 hg61
            have nw75 := Nat.le_trans hF50.size hg61
            replace hG := hG.fr0 f67
            replace hw := hw.fr0 f67
            replace hw2 := hw2.fr0 f67
            replace b33 := b33.fr0 f67
            replace r53 := r53.fr0 f67
            have hF76 := hF50.then0 f67
            refine s_y (y_move rfl) rfl rfl ?_
            refine s_y (y_extract rfl rfl) rfl rfl ?_
            refine s_y (y_extract rfl rfl) rfl rfl ?_
            refine s_y (y_extract rfl rfl) rfl rfl ?_
            refine s_y (y_extract rfl rfl) rfl rfl ?_
            refine s_d (d_alloc (cs := [.int .u8 0, .int .u8 0, .int .u8 0, .int .u8 0, .string ⟨[].toArray⟩, .int .i64 0]) T.zero29 rfl) rfl rfl ?_
            rintro _ w78 ⟨g77, rfl, hg81, b79, f80⟩
            have ne82 := row_ne_new hw hg81
            have ne83 := row_ne_new hw2 hg81
            have ne84 : g23 ≠ g77 := Nat.ne_of_lt (Nat.lt_of_lt_of_le b33.lt hg81)
            have nw85 := Nat.le_trans hF76.size hg81
            replace hG := hG.fr0 f80
            replace hfa62 := hfa62.fr0 f80
            replace hw := hw.fr0 f80
            replace hw2 := hw2.fr0 f80
            replace b33 := b33.fr0 f80
            have hF86 := hF76.then0 f80
            refine s_y (y_assign rfl) rfl rfl ?_
            refine s_d (d_store (cs := [.int .u8 ↑Ds.zero.h.ad.a.toNat, .int .u8 ↑Ds.zero.h.ad.b.toNat, .int .u8 ↑Ds.zero.h.ad.c.toNat, .int .u8 ↑Ds.zero.h.ad.d.toNat, .string ⟨Ds.zero.h.n.toArray⟩, .int .i64 Ds.zero.p]) (l' := [.int .u8 ↑Ds.zero.h.ad.a.toNat, .int .u8 ↑Ds.zero.h.ad.b.toNat, .int .u8 ↑Ds.zero.h.ad.c.toNat, .int .u8 ↑Ds.zero.h.ad.d.toNat, .string ⟨Ds.zero.h.n.toArray⟩, .int .i64 Ds.zero.p]) T.ty29 rfl rfl b79 rfl rfl (ones rfl) (Nat.le_of_ble_eq_true rfl) rfl) rfl rfl ?_
            rintro _ w87 ⟨rfl, b88, f89⟩
            replace hG := hG.fr f89 (by simp only [List.mem_cons, List.not_mem_nil, or_false, not_or]; exact by omega)
            replace hfa62 := hfa62.fr f89 (nf_cons (nf_blk b79 (by decide)) (nf_nil _ _))
            replace hw := hw.fr1 f89 ne82
            replace hw2 := hw2.fr1 f89 ne83
            replace b33 := b33.fr1 f89 ne84
            clear b79
            have hF90 := hF86.thenNew f89 nw85
            refine s_y (y_assign rfl) rfl rfl ?_
            refine s_y (y_assign rfl) rfl rfl ?_
            refine s_nil ?_
            refine n_then ?_
            refine c_seq ?_
            refine c_region ?_
            refine s_y (y_move rfl) rfl rfl ?_
            refine s_d (d_callR T.ent16 (vs := [.slice A b.length c]) rfl (bytes_ok A g o c b _ (by omega) hw) (by rintro e w' ⟨_, _, _, rfl, -⟩; exact ⟨_, rfl⟩)) rfl rfl ?_
            rintro v98 w96 ⟨A91, g92, c93, hv99, f97, ho94, hwx95⟩
            obtain rfl := ret_inj hv99
            replace hG := hG.fr0 f97
            replace hfa62 := hfa62.fr0 f97
            replace hw := hw.fr0 f97
            replace hw2 := hw2.fr0 f97
            replace b33 := b33.fr0 f97
            replace b88 := b88.fr0 f97
            have hF100 := hF90.then0 f97
            have wh101 : A91 = none ∨ g92 ∈ ([] : List Nat) ∨ w.heap.size ≤ g92 := hwx95.imp id fun h => .inr (Nat.le_trans hF90.size h)
            refine s_y (y_move rfl) rfl rfl ?_
            refine s_d (d_append Tryd.underlying22 T.ty5 T.app5 rfl ho94 rfl (src_row Tryd.underlying22 T.ty5 hw2 ()) (ones (by first | exact all_bv _ | exact all_wv _ | exact rfl | simp [all_bv, all_u32])) (by omega)) rfl rfl ?_
            rintro _ w105 ⟨A102, g103, c104, rfl, o106, f107, hat108⟩
            replace o106 : Own w105 A102 g103 (b.length + more.length) c104 5 1 ((b ++ more).map bv) := (by rw [List.map_append]; exact o106)
            obtain ⟨hno106⟩ : Nonempty (b.length + more.length = (b ++ more).length) := ⟨List.length_append.symm⟩
            rw [hno106] at o106 ⊢
            replace hw := hw.fr f107 (row_app (wh_nw wh101) lt_hw)
            replace hw2 := hw2.fr f107 (row_app (wh_nw wh101) lt_hw2)
            replace hG := hG.fr f107 (not4 wh101 hG4)
            have ne110 := app_ap hat108 (ho94.ne_blk b33 (by decide)) b33.lt
            replace b33 := b33.fr f107 (no_own (ho94.ne_blk b33 (by decide)))
            replace hfa62 := hfa62.fr f107 (nf_own ho94 (by decide))
            have ne111 := app_ap hat108 (ho94.ne_blk b88 (by decide)) b88.lt
            replace b88 := b88.fr f107 (no_own (ho94.ne_blk b88 (by decide)))
            have wh112 : A102 = none ∨ g103 ∈ ([] : List Nat) ∨ w.heap.size ≤ g103 := app_wh hat108 wh101 hF100.size
            have hF113 := hF100.thenOwnIn f107 wh101
            refine s_d (d_callR T.ent14 (vs := [.slice A102 (b ++ more).length c104]) rfl (request_ok A102 g103 0 c104 (b ++ more) _ (by first | omega | decide | (rw [List.length_append]; omega)) o106.cap o106.row hG) (by rintro e w' ⟨_, _, _, _, rfl, -⟩; exact ⟨_, rfl⟩)) rfl rfl ?_
            rintro v127 w125 ⟨d114, v115, c116, x117, hv128, f126, ha129⟩
            obtain rfl := ret_inj hv128
            rcases ha129 with ⟨-, rfl, hc122, hd123, hx124⟩ | ⟨_, -, -, -, -, -, hfa121⟩
            ·
              obtain rfl : c116 = ↑((reqL b).1 : Nat) := by rw [hE2] at hc122; exact hc122
              obtain rfl : d114 = (reqL b).2.1 := by rw [hE2] at hd123; exact hd123
              obtain rfl : x117 = ↑((reqL b).2.2.1 : Nat) := by rw [hE2] at hx124; exact hx124
              replace hG := hG.fr0 f126
              replace hfa62 := hfa62.fr0 f126
              replace hw := hw.fr0 f126
              replace hw2 := hw2.fr0 f126
              replace b33 := b33.fr0 f126
              replace b88 := b88.fr0 f126
              replace o106 := o106.fr0 f126
              have hF130 := hF113.then0 f126
              refine s_y (y_move rfl) rfl rfl ?_
              refine s_y (y_extract rfl rfl) rfl rfl ?_
              refine s_y (y_extract rfl rfl) rfl rfl ?_
              refine s_y (y_extract rfl rfl) rfl rfl ?_
              refine s_y (y_extract rfl rfl) rfl rfl ?_
              refine s_d (d_alloc (cs := [.int .u8 0, .int .u8 0, .int .u8 0, .int .u8 0, .string ⟨[].toArray⟩, .int .i64 0]) T.zero29 rfl) rfl rfl ?_
              rintro _ w132 ⟨g131, rfl, hg135, b133, f134⟩
              have ne136 := row_ne_new hw hg135
              have ne137 := row_ne_new hw2 hg135
              have ne138 : g23 ≠ g131 := Nat.ne_of_lt (Nat.lt_of_lt_of_le b33.lt hg135)
              have ne139 : g77 ≠ g131 := Nat.ne_of_lt (Nat.lt_of_lt_of_le b88.lt hg135)
              have ne140 := o106.ne_new hg135
              have nw141 := Nat.le_trans hF130.size hg135
              replace hG := hG.fr0 f134
              replace hfa62 := hfa62.fr0 f134
              replace hw := hw.fr0 f134
              replace hw2 := hw2.fr0 f134
              replace b33 := b33.fr0 f134
              replace b88 := b88.fr0 f134
              replace o106 := o106.fr0 f134
              have hF142 := hF130.then0 f134
              refine s_y (y_assign rfl) rfl rfl ?_
              refine s_d (d_store (cs := [.int .u8 (↑(reqL b).2.1.h.ad.a.toNat), .int .u8 (↑(reqL b).2.1.h.ad.b.toNat), .int .u8 (↑(reqL b).2.1.h.ad.c.toNat), .int .u8 (↑(reqL b).2.1.h.ad.d.toNat), .string ⟨(reqL b).2.1.h.n.toArray⟩, .int .i64 (reqL b).2.1.p]) (l' := [.int .u8 (↑(reqL b).2.1.h.ad.a.toNat), .int .u8 (↑(reqL b).2.1.h.ad.b.toNat), .int .u8 (↑(reqL b).2.1.h.ad.c.toNat), .int .u8 (↑(reqL b).2.1.h.ad.d.toNat), .string ⟨(reqL b).2.1.h.n.toArray⟩, .int .i64 (reqL b).2.1.p]) T.ty29 rfl rfl b133 rfl rfl (ones rfl) (Nat.le_of_ble_eq_true rfl) rfl) rfl rfl ?_
              rintro _ w143 ⟨rfl, b144, f145⟩
              replace hG := hG.fr f145 (by simp only [List.mem_cons, List.not_mem_nil, or_false, not_or]; exact by omega)
              replace hfa62 := hfa62.fr f145 (nf_cons (nf_blk b133 (by decide)) (nf_nil _ _))
              replace hw := hw.fr1 f145 ne136
              replace hw2 := hw2.fr1 f145 ne137
              replace b33 := b33.fr1 f145 ne138
              replace b88 := b88.fr1 f145 ne139
              replace o106 := o106.fr1 f145 ne140
              clear b133
              have hF146 := hF142.thenNew f145 nw141
              refine s_y (y_assign rfl) rfl rfl ?_
              refine s_y (y_assign rfl) rfl rfl ?_
              refine s_nil ?_
              refine n_then ?_
              refine c_seq ?_
              refine c_region ?_
              refine s_y (y_move rfl) rfl rfl ?_
              refine s_y (y_move rfl) rfl rfl ?_
              refine s_d (d_callR T.ent18 (vs := [.string ⟨([102, 105, 118, 101] : List UInt8).toArray⟩, .int .i64 ↑k44, .int .i64 6]) rfl (failB_ok ([102, 105, 118, 101] : List UInt8) ↑k44 6 _) (by rintro e w' ⟨rfl, -⟩; exact ⟨_, rfl⟩)) rfl rfl ?_
              rintro v149 w147 ⟨hv150, f148⟩
              obtain rfl := ret_inj hv150
              replace hG := hG.fr0 f148
              replace hfa62 := hfa62.fr0 f148
              replace hw := hw.fr0 f148
              replace hw2 := hw2.fr0 f148
              replace b33 := b33.fr0 f148
              replace b88 := b88.fr0 f148
              replace o106 := o106.fr0 f148
              replace b144 := b144.fr0 f148
              have hF151 := hF146.then0 f148
              have hdec : decide ((shortE (b.take k44)) = (Er.one ([102, 105, 118, 101] : List UInt8) ↑k44 6)) = true := decide_eq_true (by unfold shortE; rw [hlk]; rfl)
              refine s_d (d_callR T.ent17 (vs := [.iface 136 (.pointer (some ⟨gE60, 0, none⟩)), _]) rfl ((by have hh := is_f gE60 (shortE (b.take k44)) (Er.one ([102, 105, 118, 101] : List UInt8) ↑k44 6) _ hfa62; rw [hdec] at hh; exact hh)) (by rintro e w' ⟨rfl, -⟩; exact ⟨_, rfl⟩)) rfl rfl ?_
              rintro v154 w152 ⟨hv155, f153⟩
              obtain rfl := ret_inj hv155
              replace hG := hG.fr0 f153
              replace hfa62 := hfa62.fr0 f153
              replace hw := hw.fr0 f153
              replace hw2 := hw2.fr0 f153
              replace b33 := b33.fr0 f153
              replace b88 := b88.fr0 f153
              replace o106 := o106.fr0 f153
              replace b144 := b144.fr0 f153
              have hF156 := hF151.then0 f153
              refine s_y (y_move rfl) rfl rfl ?_
              refine s_gy (y_move rfl) ⟨_, _, _, _, rfl, rfl, rfl, rfl⟩ rfl ?_
              refine s_gy (y_ii Tryd.underlying31 rfl) ⟨_, _, _, _, rfl, rfl, rfl, rfl⟩ rfl ?_
              refine s_y (y_pick rfl rfl rfl rfl) rfl rfl ?_
              refine s_y (y_move rfl) rfl rfl ?_
              refine s_gy (y_move rfl) ⟨_, _, _, _, rfl, rfl, rfl, rfl⟩ rfl ?_
              refine s_gy (y_move rfl) ⟨_, _, _, _, rfl, rfl, rfl, rfl⟩ rfl ?_
              refine s_gy (y_eql (r := true) rfl rfl (by simp)) ⟨_, _, _, _, rfl, rfl, rfl, rfl⟩ rfl ?_
              refine s_y (y_pick rfl rfl rfl rfl) rfl rfl ?_
              refine s_y (y_move rfl) rfl rfl ?_
              refine s_gy (y_ldBA (xs := [.int .u8 (↑(reqL b).2.1.h.ad.a.toNat), .int .u8 (↑(reqL b).2.1.h.ad.b.toNat), .int .u8 (↑(reqL b).2.1.h.ad.c.toNat), .int .u8 (↑(reqL b).2.1.h.ad.d.toNat), .string ⟨(reqL b).2.1.h.n.toArray⟩, .int .i64 (reqL b).2.1.p]) T.ty29 rfl b144 rfl rfl) ⟨_, _, _, _, rfl, rfl, rfl, rfl⟩ rfl ?_
              refine s_gy (y_ldBA (xs := [.int .u8 (↑(reqL b).2.1.h.ad.a.toNat), .int .u8 (↑(reqL b).2.1.h.ad.b.toNat), .int .u8 (↑(reqL b).2.1.h.ad.c.toNat), .int .u8 (↑(reqL b).2.1.h.ad.d.toNat), .string ⟨(reqL b).2.1.h.n.toArray⟩, .int .i64 (reqL b).2.1.p]) T.ty29 rfl b33 rfl rfl) ⟨_, _, _, _, rfl, rfl, rfl, rfl⟩ rfl ?_
              refine s_gy (y_eqA (r := true) (eq29 (reqL b).2.1 (reqL b).2.1) rfl rfl (by rw [decide_eq_true rfl])) ⟨_, _, _, _, rfl, rfl, rfl, rfl⟩ rfl ?_
              refine s_y (y_pick rfl rfl rfl rfl) rfl rfl ?_
              refine s_y (y_move rfl) rfl rfl ?_
              refine s_gy (y_move rfl) ⟨_, _, _, _, rfl, rfl, rfl, rfl⟩ rfl ?_
              refine s_gy (y_move rfl) ⟨_, _, _, _, rfl, rfl, rfl, rfl⟩ rfl ?_
              refine s_gy (y_eql (r := true) rfl rfl (by simp)) ⟨_, _, _, _, rfl, rfl, rfl, rfl⟩ rfl ?_
              refine s_y (y_pick rfl rfl rfl rfl) rfl rfl ?_
              refine s_y (y_assign rfl) rfl rfl ?_
              refine s_nil ?_
              refine n_then ?_
              refine c_ret ?_
              refine r_then ?_
              refine fin1 (by simp) rfl rfl ?_
              exact ⟨rfl, hF156⟩
            · (rw [hE2] at hfa121; exact hfa121.elim)
  ·
    have ne157 := row_ne_new hw hg12
    have ne158 := row_ne_new hw2 hg12
    have nw159 := Nat.le_trans hF5.size hg12
    replace hG := hG.fr0 f18
    replace hw := hw.fr0 f18
    replace hw2 := hw2.fr0 f18
    have hF160 := hF5.then0 f18
    refine s_y (y_move rfl) rfl rfl ?_
    refine s_y (y_extract rfl rfl) rfl rfl ?_
    refine s_y (y_extract rfl rfl) rfl rfl ?_
    refine s_y (y_extract rfl rfl) rfl rfl ?_
    refine s_y (y_extract rfl rfl) rfl rfl ?_
    refine s_d (d_alloc (cs := [.int .u8 0, .int .u8 0, .int .u8 0, .int .u8 0, .string ⟨[].toArray⟩, .int .i64 0]) T.zero29 rfl) rfl rfl ?_
    rintro _ w162 ⟨g161, rfl, hg165, b163, f164⟩
    have ne166 := row_ne_new hw hg165
    have ne167 := row_ne_new hw2 hg165
    have nw168 := Nat.le_trans hF160.size hg165
    replace hG := hG.fr0 f164
    replace hfa13 := hfa13.fr0 f164
    replace hw := hw.fr0 f164
    replace hw2 := hw2.fr0 f164
    have hF169 := hF160.then0 f164
    refine s_y (y_assign rfl) rfl rfl ?_
    refine s_d (d_store (cs := [.int .u8 ↑Ds.zero.h.ad.a.toNat, .int .u8 ↑Ds.zero.h.ad.b.toNat, .int .u8 ↑Ds.zero.h.ad.c.toNat, .int .u8 ↑Ds.zero.h.ad.d.toNat, .string ⟨Ds.zero.h.n.toArray⟩, .int .i64 Ds.zero.p]) (l' := [.int .u8 ↑Ds.zero.h.ad.a.toNat, .int .u8 ↑Ds.zero.h.ad.b.toNat, .int .u8 ↑Ds.zero.h.ad.c.toNat, .int .u8 ↑Ds.zero.h.ad.d.toNat, .string ⟨Ds.zero.h.n.toArray⟩, .int .i64 Ds.zero.p]) T.ty29 rfl rfl b163 rfl rfl (ones rfl) (Nat.le_of_ble_eq_true rfl) rfl) rfl rfl ?_
    rintro _ w170 ⟨rfl, b171, f172⟩
    replace hG := hG.fr f172 (by simp only [List.mem_cons, List.not_mem_nil, or_false, not_or]; exact by omega)
    replace hfa13 := hfa13.fr f172 (nf_cons (nf_blk b163 (by decide)) (nf_nil _ _))
    replace hw := hw.fr1 f172 ne166
    replace hw2 := hw2.fr1 f172 ne167
    clear b163
    have hF173 := hF169.thenNew f172 nw168
    refine s_y (y_assign rfl) rfl rfl ?_
    refine s_y (y_assign rfl) rfl rfl ?_
    refine s_nil ?_
    refine n_then ?_
    refine c_seq ?_
    refine c_seq ?_
    refine c_region ?_
    refine s_y (y_move rfl) rfl rfl ?_
    refine s_y (y_in Tryd.underlying31 rfl rfl) rfl rfl ?_
    refine s_nil ?_
    refine n_then ?_
    refine c_false rfl ?_
    refine c_skip ?_
    refine n_then ?_
    refine c_seq ?_
    refine c_seq ?_
    refine c_region ?_
    refine s_y (y_move rfl) rfl rfl ?_
    refine s_y (y_move rfl) rfl rfl ?_
    refine s_y (y_len Tryd.underlying22 rfl) rfl rfl ?_
    refine s_d (d_callR T.ent18 (vs := [.string ⟨([102, 105, 118, 101] : List UInt8).toArray⟩, .int .i64 ↑b.length, .int .i64 6]) rfl (failB_ok ([102, 105, 118, 101] : List UInt8) ↑b.length 6 _) (by rintro e w' ⟨rfl, -⟩; exact ⟨_, rfl⟩)) rfl rfl ?_
    rintro v176 w174 ⟨hv177, f175⟩
    obtain rfl := ret_inj hv177
    replace hG := hG.fr0 f175
    replace hfa13 := hfa13.fr0 f175
    replace hw := hw.fr0 f175
    replace hw2 := hw2.fr0 f175
    replace b171 := b171.fr0 f175
    have hF178 := hF173.then0 f175
    refine s_d (d_callR T.ent17 (vs := [.iface 136 (.pointer (some ⟨gE11, 0, none⟩)), _]) rfl (is_f gE11 (reqL b).2.2.2 (Er.one ([102, 105, 118, 101] : List UInt8) ↑b.length 6) _ hfa13) (by rintro e w' ⟨rfl, -⟩; exact ⟨_, rfl⟩)) rfl rfl ?_
    rintro v181 w179 ⟨hv182, f180⟩
    obtain rfl := ret_inj hv182
    replace hG := hG.fr0 f180
    replace hfa13 := hfa13.fr0 f180
    replace hw := hw.fr0 f180
    replace hw2 := hw2.fr0 f180
    replace b171 := b171.fr0 f180
    have hF183 := hF178.then0 f180
    refine s_nil ?_
    refine n_then ?_
    refine c_cond rfl ?_ ?_
    · intro h184
      replace h184 : (reqL b).2.2.2 = (Er.one ([102, 105, 118, 101] : List UInt8) ↑b.length 6) := of_decide_eq_true h184
      have hsl := req_short b (by assumption)
      refine c_seq ?_
      refine c_region ?_
      refine s_y (y_move rfl) rfl rfl ?_
      refine s_y (y_eql (r := true) rfl rfl rfl) rfl rfl ?_
      refine s_y (y_move rfl) rfl rfl ?_
      refine s_gy (y_move rfl) ⟨_, _, _, _, rfl, rfl, rfl, rfl⟩ rfl ?_
      refine s_gy (y_len Tryd.underlying22 rfl) ⟨_, _, _, _, rfl, rfl, rfl, rfl⟩ rfl ?_
      refine s_gy (y_lss rfl rfl rfl) ⟨_, _, _, _, rfl, rfl, rfl, rfl⟩ rfl ?_
      refine s_y (y_pick rfl rfl rfl rfl) rfl rfl ?_
      refine s_y (y_assign rfl) rfl rfl ?_
      refine s_nil ?_
      refine n_then ?_
      refine c_ret ?_
      refine r_then ?_
      refine fin1 (by simp) rfl rfl ?_
      exact ⟨by rw [show decide ((↑b.length : Int) < 263) = true from decide_eq_true (by omega)] <;> rfl, hF183⟩
    · intro h185
      replace h185 : ¬ ((reqL b).2.2.2 = (Er.one ([102, 105, 118, 101] : List UInt8) ↑b.length 6)) := of_decide_eq_false h185
      have hE3 : reqL (b ++ more) = (0, Ds.zero, 0, (reqL b).2.2.2) := by rw [req_app b more (by assumption)]; exact req_err b hfa13.ne
      refine c_skip ?_
      refine n_then ?_
      refine c_seq ?_
      refine c_region ?_
      refine s_y (y_move rfl) rfl rfl ?_
      refine s_d (d_callR T.ent16 (vs := [.slice A b.length c]) rfl (bytes_ok A g o c b _ (by omega) hw) (by rintro e w' ⟨_, _, _, rfl, -⟩; exact ⟨_, rfl⟩)) rfl rfl ?_
      rintro v193 w191 ⟨A186, g187, c188, hv194, f192, ho189, hwx190⟩
      obtain rfl := ret_inj hv194
      replace hG := hG.fr0 f192
      replace hfa13 := hfa13.fr0 f192
      replace hw := hw.fr0 f192
      replace hw2 := hw2.fr0 f192
      replace b171 := b171.fr0 f192
      have hF195 := hF183.then0 f192
      have wh196 : A186 = none ∨ g187 ∈ ([] : List Nat) ∨ w.heap.size ≤ g187 := hwx190.imp id fun h => .inr (Nat.le_trans hF183.size h)
      refine s_y (y_move rfl) rfl rfl ?_
      refine s_d (d_append Tryd.underlying22 T.ty5 T.app5 rfl ho189 rfl (src_row Tryd.underlying22 T.ty5 hw2 ()) (ones (by first | exact all_bv _ | exact all_wv _ | exact rfl | simp [all_bv, all_u32])) (by omega)) rfl rfl ?_
      rintro _ w200 ⟨A197, g198, c199, rfl, o201, f202, hat203⟩
      replace o201 : Own w200 A197 g198 (b.length + more.length) c199 5 1 ((b ++ more).map bv) := (by rw [List.map_append]; exact o201)
      obtain ⟨hno201⟩ : Nonempty (b.length + more.length = (b ++ more).length) := ⟨List.length_append.symm⟩
      rw [hno201] at o201 ⊢
      replace hw := hw.fr f202 (row_app (wh_nw wh196) lt_hw)
      replace hw2 := hw2.fr f202 (row_app (wh_nw wh196) lt_hw2)
      replace hG := hG.fr f202 (not4 wh196 hG4)
      replace hfa13 := hfa13.fr f202 (nf_own ho189 (by decide))
      have ne205 := app_ap hat203 (ho189.ne_blk b171 (by decide)) b171.lt
      replace b171 := b171.fr f202 (no_own (ho189.ne_blk b171 (by decide)))
      have wh206 : A197 = none ∨ g198 ∈ ([] : List Nat) ∨ w.heap.size ≤ g198 := app_wh hat203 wh196 hF195.size
      have hF207 := hF195.thenOwnIn f202 wh196
      refine s_d (d_callR T.ent14 (vs := [.slice A197 (b ++ more).length c199]) rfl (request_ok A197 g198 0 c199 (b ++ more) _ (by first | omega | decide | (rw [List.length_append]; omega)) o201.cap o201.row hG) (by rintro e w' ⟨_, _, _, _, rfl, -⟩; exact ⟨_, rfl⟩)) rfl rfl ?_
      rintro v221 w219 ⟨d208, v209, c210, x211, hv222, f220, ha223⟩
      obtain rfl := ret_inj hv222
      rcases ha223 with ⟨hno212, -, -, -, -⟩ | ⟨gE213, rfl, rfl, rfl, rfl, hg214, hfa215⟩
      · (rw [hE3] at hno212; exact absurd hno212 (hfa13.ne))
      ·
        rw [hE3] at hfa215
        have ne224 := row_ne_new hw hg214
        have ne225 := row_ne_new hw2 hg214
        have ne226 : g161 ≠ gE213 := Nat.ne_of_lt (Nat.lt_of_lt_of_le b171.lt hg214)
        have ne227 := o201.ne_new hg214
        have nw228 := Nat.le_trans hF207.size hg214
        replace hG := hG.fr0 f220
        replace hfa13 := hfa13.fr0 f220
        replace hw := hw.fr0 f220
        replace hw2 := hw2.fr0 f220
        replace b171 := b171.fr0 f220
        replace o201 := o201.fr0 f220
        have hF229 := hF207.then0 f220
        refine s_y (y_move rfl) rfl rfl ?_
        refine s_y (y_extract rfl rfl) rfl rfl ?_
        refine s_y (y_extract rfl rfl) rfl rfl ?_
        refine s_y (y_extract rfl rfl) rfl rfl ?_
        refine s_y (y_extract rfl rfl) rfl rfl ?_
        refine s_d (d_alloc (cs := [.int .u8 0, .int .u8 0, .int .u8 0, .int .u8 0, .string ⟨[].toArray⟩, .int .i64 0]) T.zero29 rfl) rfl rfl ?_
        rintro _ w231 ⟨g230, rfl, hg234, b232, f233⟩
        have ne235 := row_ne_new hw hg234
        have ne236 := row_ne_new hw2 hg234
        have ne237 : g161 ≠ g230 := Nat.ne_of_lt (Nat.lt_of_lt_of_le b171.lt hg234)
        have ne238 := o201.ne_new hg234
        have nw239 := Nat.le_trans hF229.size hg234
        replace hG := hG.fr0 f233
        replace hfa13 := hfa13.fr0 f233
        replace hfa215 := hfa215.fr0 f233
        replace hw := hw.fr0 f233
        replace hw2 := hw2.fr0 f233
        replace b171 := b171.fr0 f233
        replace o201 := o201.fr0 f233
        have hF240 := hF229.then0 f233
        refine s_y (y_assign rfl) rfl rfl ?_
        refine s_d (d_store (cs := [.int .u8 ↑Ds.zero.h.ad.a.toNat, .int .u8 ↑Ds.zero.h.ad.b.toNat, .int .u8 ↑Ds.zero.h.ad.c.toNat, .int .u8 ↑Ds.zero.h.ad.d.toNat, .string ⟨Ds.zero.h.n.toArray⟩, .int .i64 Ds.zero.p]) (l' := [.int .u8 ↑Ds.zero.h.ad.a.toNat, .int .u8 ↑Ds.zero.h.ad.b.toNat, .int .u8 ↑Ds.zero.h.ad.c.toNat, .int .u8 ↑Ds.zero.h.ad.d.toNat, .string ⟨Ds.zero.h.n.toArray⟩, .int .i64 Ds.zero.p]) T.ty29 rfl rfl b232 rfl rfl (ones rfl) (Nat.le_of_ble_eq_true rfl) rfl) rfl rfl ?_
        rintro _ w241 ⟨rfl, b242, f243⟩
        replace hG := hG.fr f243 (by simp only [List.mem_cons, List.not_mem_nil, or_false, not_or]; exact by omega)
        replace hfa13 := hfa13.fr f243 (nf_cons (nf_blk b232 (by decide)) (nf_nil _ _))
        replace hfa215 := hfa215.fr f243 (nf_cons (nf_blk b232 (by decide)) (nf_nil _ _))
        replace hw := hw.fr1 f243 ne235
        replace hw2 := hw2.fr1 f243 ne236
        replace b171 := b171.fr1 f243 ne237
        replace o201 := o201.fr1 f243 ne238
        clear b232
        have hF244 := hF240.thenNew f243 nw239
        refine s_y (y_assign rfl) rfl rfl ?_
        refine s_y (y_assign rfl) rfl rfl ?_
        refine s_nil ?_
        refine n_then ?_
        refine c_seq ?_
        refine c_region ?_
        refine s_y (y_move rfl) rfl rfl ?_
        refine s_y (y_eql (r := true) rfl rfl rfl) rfl rfl ?_
        refine s_y (y_move rfl) rfl rfl ?_
        refine s_gy (y_move rfl) ⟨_, _, _, _, rfl, rfl, rfl, rfl⟩ rfl ?_
        refine s_gy (y_eql (r := true) rfl rfl rfl) ⟨_, _, _, _, rfl, rfl, rfl, rfl⟩ rfl ?_
        refine s_y (y_pick rfl rfl rfl rfl) rfl rfl ?_
        refine s_y (y_move rfl) rfl rfl ?_
        refine s_gy (y_ldBA (xs := [.int .u8 ↑Ds.zero.h.ad.a.toNat, .int .u8 ↑Ds.zero.h.ad.b.toNat, .int .u8 ↑Ds.zero.h.ad.c.toNat, .int .u8 ↑Ds.zero.h.ad.d.toNat, .string ⟨Ds.zero.h.n.toArray⟩, .int .i64 Ds.zero.p]) T.ty29 rfl b171 rfl rfl) ⟨_, _, _, _, rfl, rfl, rfl, rfl⟩ rfl ?_
        refine s_gy (y_build (vs := []) rfl (T.bz29 _)) ⟨_, _, _, _, rfl, rfl, rfl, rfl⟩ rfl ?_
        refine s_gy (y_eqA (eq29 Ds.zero (⟨(⟨Ad.zero, []⟩ : Hs), 0⟩ : Ds)) rfl rfl rfl) ⟨_, _, _, _, rfl, rfl, rfl, rfl⟩ rfl ?_
        refine s_y (y_pick rfl rfl rfl rfl) rfl rfl ?_
        refine s_y (y_move rfl) rfl rfl ?_
        refine wl_bool (decide (Ds.zero = (⟨(⟨Ad.zero, []⟩ : Hs), 0⟩ : Ds))) ?_ ?_
        · intro hb245
          rw [hb245]
          have hp246 : Ds.zero = (⟨(⟨Ad.zero, []⟩ : Hs), 0⟩ : Ds) := of_decide_eq_true hb245
          clear hb245
          refine s_gy (y_move rfl) ⟨_, _, _, _, rfl, rfl, rfl, rfl⟩ rfl ?_
          refine s_gy (y_move rfl) ⟨_, _, _, _, rfl, rfl, rfl, rfl⟩ rfl ?_
          refine s_gd (d_callR T.ent19 (vs := [.iface 136 (.pointer (some ⟨gE213, 0, none⟩)), .iface 136 (.pointer (some ⟨gE11, 0, none⟩))]) rfl ((by have hh := like_f gE213 gE11 (reqL b).2.2.2 (reqL b).2.2.2 _ hfa215 hfa13; rw [decide_eq_true rfl] at hh; exact hh)) (by rintro e w' ⟨rfl, -⟩; exact ⟨_, rfl⟩)) ⟨_, _, _, _, rfl, rfl, rfl, rfl⟩ rfl ?_
          rintro v249 w247 ⟨hv250, f248⟩
          obtain rfl := ret_inj hv250
          replace hG := hG.fr0 f248
          replace hfa13 := hfa13.fr0 f248
          replace hfa215 := hfa215.fr0 f248
          replace hw := hw.fr0 f248
          replace hw2 := hw2.fr0 f248
          replace b171 := b171.fr0 f248
          replace o201 := o201.fr0 f248
          replace b242 := b242.fr0 f248
          have hF251 := hF244.then0 f248
          refine s_y (y_pick rfl rfl rfl rfl) rfl rfl ?_
          refine s_y (y_assign rfl) rfl rfl ?_
          refine s_nil ?_
          refine n_then ?_
          refine c_ret ?_
          refine fin1 (by simp) rfl rfl ?_
          exact ⟨rfl, hF251⟩
        · intro hb245
          rw [hb245]
          have hp252 : ¬ (Ds.zero = (⟨(⟨Ad.zero, []⟩ : Hs), 0⟩ : Ds)) := of_decide_eq_false hb245
          clear hb245
          refine s_skip ⟨_, _, _, _, rfl, rfl, rfl, rfl⟩ rfl ?_
          refine s_skip ⟨_, _, _, _, rfl, rfl, rfl, rfl⟩ rfl ?_
          refine s_skip ⟨_, _, _, _, rfl, rfl, rfl, rfl⟩ rfl ?_
          refine s_y (y_pick rfl rfl rfl rfl) rfl rfl ?_
          refine s_y (y_assign rfl) rfl rfl ?_
          refine s_nil ?_
          refine n_then ?_
          refine c_ret ?_
          refine fin1 (by simp) rfl rfl ?_
          exfalso; first | omega | exact absurd rfl ‹¬ (_ = _)›

end Go.Proofs.YtcnepgnfecoeoaaDoor
