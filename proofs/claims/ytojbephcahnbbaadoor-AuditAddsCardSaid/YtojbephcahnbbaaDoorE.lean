/- The digest's functions, third part. No condition. -/
import Derived.Test.YtojbephcahnbbaaDoorSha2
import Derived.Test.YtojbephcahnbbaaDoorC
import Derived.Test.YtojbephcahnbbaaDoorET
import Derived.Test.YtojbephcahnbbaaDoorProg
set_option linter.unusedVariables false
set_option linter.unusedSimpArgs false
namespace Go.Proofs.YtojbephcahnbbaaDoor
open Go Go.Proofs.GP Go.Proofs.Tryd
set_option maxRecDepth 100000 in
theorem dsum_ok (p g o c : Nat) (A : Option Addr) (d : Dg) (w : World) (hl : d.rest.length ≤ 549755813888) (hp : Blk w p 81 [.int .u32 ↑d.s.a.toNat, .int .u32 ↑d.s.c.toNat, .int .u32 ↑d.s.d.toNat, .int .u32 ↑d.s.e.toNat, .int .u32 ↑d.s.f.toNat, .int .u32 ↑d.s.g.toNat, .int .u32 ↑d.s.h.toNat, .int .u32 ↑d.s.i.toNat, .slice A d.rest.length c, .int .u64 ↑d.n.toNat, .bool true]) (hr : Row w A g o d.rest.length 1 (d.rest.map bv)) (hG : Row w (some ⟨0, 0, none⟩) 0 0 64 1 (roots.map wv)) :
    Calls Tryd.prog 41 #[.pointer (some ⟨p, 0, none⟩)] w fun e w' => e = .returned (.agg d.sum.cells.toArray) ∧ Fr [] w w' := by
  have hz : 0 < w.heap.size := (hG.lt (by decide))
  refine c_start (args := [.pointer (some ⟨p, 0, none⟩)]) Tryd.func41 rfl rfl rfl ?_
  try simp only [enum, Nat.zero_add, Nat.reduceAdd]
  have hF0 := Fr.refl [] w
  have lt_hp := hp.lt
  have lt_hr := hr.lt'
  have lt_hG := hG.lt'
  refine c_seq ?_
  refine c_region ?_
  refine s_d (d_alloc (cs := Dig.zero.cells) T.zero26 rfl) rfl rfl ?_
  rintro _ w2 ⟨g1, rfl, hg5, b3, f4⟩
  have ne6 : p ≠ g1 := Nat.ne_of_lt (Nat.lt_of_lt_of_le hp.lt hg5)
  have ne7 := row_ne_new hr hg5
  have ne8 := row_ne_new hG hg5
  have nw9 := Nat.le_trans hF0.size hg5
  replace hp := hp.fr0 f4
  replace hr := hr.fr0 f4
  replace hG := hG.fr0 f4
  have hF10 := hF0.then0 f4
  refine s_nil ?_
  refine n_then ?_
  refine c_seq ?_
  refine c_region ?_
  refine s_d (d_alloc (cs := Dig.zero.cells) T.zero26 rfl) rfl rfl ?_
  rintro _ w12 ⟨g11, rfl, hg15, b13, f14⟩
  have ne16 : p ≠ g11 := Nat.ne_of_lt (Nat.lt_of_lt_of_le hp.lt hg15)
  have ne17 := row_ne_new hr hg15
  have ne18 := row_ne_new hG hg15
  have ne19 : g1 ≠ g11 := Nat.ne_of_lt (Nat.lt_of_lt_of_le b3.lt hg15)
  have nw20 := Nat.le_trans hF10.size hg15
  replace hp := hp.fr0 f14
  replace hr := hr.fr0 f14
  replace hG := hG.fr0 f14
  replace b3 := b3.fr0 f14
  have hF21 := hF10.then0 f14
  refine s_nil ?_
  refine n_then ?_
  refine c_seq ?_
  refine c_seq ?_
  refine c_region ?_
  refine s_y (y_move rfl) rfl rfl ?_
  refine s_y (y_pn Tryd.underlying71 rfl rfl) rfl rfl ?_
  refine s_y (y_move rfl) rfl rfl ?_
  refine s_gy (y_move rfl) ⟨_, _, _, _, rfl, rfl, rfl, rfl⟩ rfl ?_
  refine s_gy (y_nilCheck rfl) ⟨_, _, _, _, rfl, rfl, rfl, rfl⟩ rfl ?_
  refine s_gy (y_field rfl T.fld81_3 rfl) ⟨_, _, _, _, rfl, rfl, rfl, rfl⟩ rfl ?_
  refine s_gy (y_ldB (v := .bool true) T.ty4 rfl hp rfl) ⟨_, _, _, _, rfl, rfl, rfl, rfl⟩ rfl ?_
  refine s_gy (y_not rfl rfl) ⟨_, _, _, _, rfl, rfl, rfl, rfl⟩ rfl ?_
  refine s_y (y_pick rfl rfl rfl rfl) rfl rfl ?_
  refine s_nil ?_
  refine n_then ?_
  refine c_false rfl ?_
  refine c_skip ?_
  refine n_then ?_
  refine c_seq ?_
  refine c_region ?_
  refine s_y (y_move rfl) rfl rfl ?_
  refine s_y (y_nilCheck rfl) rfl rfl ?_
  refine s_y (y_ldBA (xs := [.int .u32 ↑d.s.a.toNat, .int .u32 ↑d.s.c.toNat, .int .u32 ↑d.s.d.toNat, .int .u32 ↑d.s.e.toNat, .int .u32 ↑d.s.f.toNat, .int .u32 ↑d.s.g.toNat, .int .u32 ↑d.s.h.toNat, .int .u32 ↑d.s.i.toNat, .slice A d.rest.length c, .int .u64 ↑d.n.toNat, .bool true]) T.ty81 rfl hp rfl rfl) rfl rfl ?_
  refine s_d (d_alloc (cs := [.int .u32 0, .int .u32 0, .int .u32 0, .int .u32 0, .int .u32 0, .int .u32 0, .int .u32 0, .int .u32 0, .slice none 0 0, .int .u64 0, .bool false]) T.zero81 rfl) rfl rfl ?_
  rintro _ w23 ⟨g22, rfl, hg26, b24, f25⟩
  have ne27 : p ≠ g22 := Nat.ne_of_lt (Nat.lt_of_lt_of_le hp.lt hg26)
  have ne28 := row_ne_new hr hg26
  have ne29 := row_ne_new hG hg26
  have ne30 : g1 ≠ g22 := Nat.ne_of_lt (Nat.lt_of_lt_of_le b3.lt hg26)
  have ne31 : g11 ≠ g22 := Nat.ne_of_lt (Nat.lt_of_lt_of_le b13.lt hg26)
  have nw32 := Nat.le_trans hF21.size hg26
  replace hp := hp.fr0 f25
  replace hr := hr.fr0 f25
  replace hG := hG.fr0 f25
  replace b3 := b3.fr0 f25
  replace b13 := b13.fr0 f25
  have hF33 := hF21.then0 f25
  refine s_d (d_store (cs := [.int .u32 ↑d.s.a.toNat, .int .u32 ↑d.s.c.toNat, .int .u32 ↑d.s.d.toNat, .int .u32 ↑d.s.e.toNat, .int .u32 ↑d.s.f.toNat, .int .u32 ↑d.s.g.toNat, .int .u32 ↑d.s.h.toNat, .int .u32 ↑d.s.i.toNat, .slice A d.rest.length c, .int .u64 ↑d.n.toNat, .bool true]) (l' := [.int .u32 ↑d.s.a.toNat, .int .u32 ↑d.s.c.toNat, .int .u32 ↑d.s.d.toNat, .int .u32 ↑d.s.e.toNat, .int .u32 ↑d.s.f.toNat, .int .u32 ↑d.s.g.toNat, .int .u32 ↑d.s.h.toNat, .int .u32 ↑d.s.i.toNat, .slice A d.rest.length c, .int .u64 ↑d.n.toNat, .bool true]) T.ty81 rfl rfl b24 rfl rfl (ones rfl) (Nat.le_of_ble_eq_true rfl) rfl) rfl rfl ?_
  rintro _ w34 ⟨rfl, b35, f36⟩
  replace hp := hp.fr1 f36 ne27
  replace hr := hr.fr1 f36 ne28
  replace hG := hG.fr1 f36 ne29
  replace b3 := b3.fr1 f36 ne30
  replace b13 := b13.fr1 f36 ne31
  clear b24
  have hF37 := hF33.thenNew f36 nw32
  refine s_nil ?_
  refine n_then ?_
  refine c_seq ?_
  refine c_region ?_
  have hlit38 := (T.lit2 )
  refine s_d (d_bs2 hlit38 trivial) rfl rfl ?_
  rintro _ w40 ⟨g39, rfl, hg43, b41, f42⟩
  have ne44 : p ≠ g39 := Nat.ne_of_lt (Nat.lt_of_lt_of_le hp.lt hg43)
  have ne45 := row_ne_new hr hg43
  have ne46 := row_ne_new hG hg43
  have ne47 : g1 ≠ g39 := Nat.ne_of_lt (Nat.lt_of_lt_of_le b3.lt hg43)
  have ne48 : g11 ≠ g39 := Nat.ne_of_lt (Nat.lt_of_lt_of_le b13.lt hg43)
  have ne49 : g22 ≠ g39 := Nat.ne_of_lt (Nat.lt_of_lt_of_le b35.lt hg43)
  have nw50 := Nat.le_trans hF37.size hg43
  replace hp := hp.fr0 f42
  replace hr := hr.fr0 f42
  replace hG := hG.fr0 f42
  replace b3 := b3.fr0 f42
  replace b13 := b13.fr0 f42
  replace b35 := b35.fr0 f42
  have hF51 := hF37.then0 f42
  have o52 := Own.of_blk (n := 0) (k := 1) b41 rfl (by decide)
  refine s_y (y_move rfl) rfl rfl ?_
  refine s_y (y_nilCheck rfl) rfl rfl ?_
  refine s_y (y_field rfl T.fld81_1 rfl) rfl rfl ?_
  refine s_y (y_ldB (v := .slice A d.rest.length c) T.ty64 rfl hp rfl) rfl rfl ?_
  refine s_d (d_append Tryd.underlying64 T.ty5 T.app5 rfl o52 rfl (src_row Tryd.underlying64 T.ty5 hr ()) (ones (by first | exact all_bv _ | exact all_wv _ | exact rfl | simp [all_bv, all_u32, all_ent, all_dig, all_ents])) (by omega)) rfl rfl ?_
  rintro _ w56 ⟨A53, g54, c55, rfl, o57, f58, hat59⟩
  replace o57 : Own w56 A53 g54 (0 + d.rest.length) c55 5 1 (d.rest.map bv) := (by simpa using o57)
  obtain ⟨hno57⟩ : Nonempty (0 + d.rest.length = d.rest.length) := ⟨by simp⟩
  rw [hno57] at o57 ⊢
  have ne61 := app_ap hat59 (.inr (Ne.symm ne44)) hp.lt
  replace hp := hp.fr f58 (no_own (.inr (Ne.symm ne44)))
  replace hr := hr.fr f58 (nin ne45)
  replace hG := hG.fr f58 (nin ne46)
  have ne62 := app_ap hat59 (.inr (Ne.symm ne47)) b3.lt
  replace b3 := b3.fr f58 (no_own (.inr (Ne.symm ne47)))
  have ne63 := app_ap hat59 (.inr (Ne.symm ne48)) b13.lt
  replace b13 := b13.fr f58 (no_own (.inr (Ne.symm ne48)))
  have ne64 := app_ap hat59 (.inr (Ne.symm ne49)) b35.lt
  replace b35 := b35.fr f58 (no_own (.inr (Ne.symm ne49)))
  have wh65 : A53 = none ∨ g54 ∈ ([] : List Nat) ∨ w.heap.size ≤ g54 := app_wh hat59 (.inr (.inr nw50)) hF51.size
  have hF66 := hF51.thenOwnIn f58 (.inr (.inr nw50))
  have hlit67 := (T.lit3 128)
  refine s_d (d_bs2 hlit67 ⟨rfl, rfl, trivial⟩) rfl rfl ?_
  rintro _ w69 ⟨g68, rfl, hg72, b70, f71⟩
  have ne73 : p ≠ g68 := Nat.ne_of_lt (Nat.lt_of_lt_of_le hp.lt hg72)
  have ne74 := row_ne_new hr hg72
  have ne75 := row_ne_new hG hg72
  have ne76 : g1 ≠ g68 := Nat.ne_of_lt (Nat.lt_of_lt_of_le b3.lt hg72)
  have ne77 : g11 ≠ g68 := Nat.ne_of_lt (Nat.lt_of_lt_of_le b13.lt hg72)
  have ne78 : g22 ≠ g68 := Nat.ne_of_lt (Nat.lt_of_lt_of_le b35.lt hg72)
  have ne79 := o57.ne_new hg72
  have nw80 := Nat.le_trans hF66.size hg72
  replace hp := hp.fr0 f71
  replace hr := hr.fr0 f71
  replace hG := hG.fr0 f71
  replace b3 := b3.fr0 f71
  replace b13 := b13.fr0 f71
  replace b35 := b35.fr0 f71
  replace o57 := o57.fr0 f71
  have hF81 := hF66.then0 f71
  have o82 := Own.of_blk (n := 1) (k := 1) b70 rfl (by decide)
  refine s_d (d_append Tryd.underlying64 T.ty5 T.app5 rfl o57 rfl (src_row Tryd.underlying64 T.ty5 o82.row ()) (ones (by first | exact all_bv _ | exact all_wv _ | exact rfl | simp [all_bv, all_u32, all_ent, all_dig, all_ents])) (by omega)) rfl rfl ?_
  rintro _ w86 ⟨A83, g84, c85, rfl, o87, f88, hat89⟩
  replace o87 : Own w86 A83 g84 (d.rest.length + 1) c85 5 1 ((d.rest ++ [0x80]).map bv) := (by simpa [bv] using o87)
  obtain ⟨hno87⟩ : Nonempty (d.rest.length + 1 = (d.rest ++ [0x80]).length) := ⟨by simp⟩
  rw [hno87] at o87 ⊢
  have ne91 := app_ap hat89 ne61 hp.lt
  replace hp := hp.fr f88 (no_own ne61)
  replace hr := hr.fr f88 (row_app (wh_nw wh65) lt_hr)
  replace hG := hG.fr f88 (row_app (wh_nw wh65) lt_hG)
  have ne92 := app_ap hat89 ne62 b3.lt
  replace b3 := b3.fr f88 (no_own ne62)
  have ne93 := app_ap hat89 ne63 b13.lt
  replace b13 := b13.fr f88 (no_own ne63)
  have ne94 := app_ap hat89 ne64 b35.lt
  replace b35 := b35.fr f88 (no_own ne64)
  have wh95 : A83 = none ∨ g84 ∈ ([] : List Nat) ∨ w.heap.size ≤ g84 := app_wh hat89 wh65 hF81.size
  have hF96 := hF81.thenOwnIn f88 wh65
  refine s_y (y_field rfl T.fld81_1 rfl) rfl rfl ?_
  refine s_d (d_store (cs := [.slice A83 ((d.rest ++ [0x80]).length) c85]) (l' := [.int .u32 ↑d.s.a.toNat, .int .u32 ↑d.s.c.toNat, .int .u32 ↑d.s.d.toNat, .int .u32 ↑d.s.e.toNat, .int .u32 ↑d.s.f.toNat, .int .u32 ↑d.s.g.toNat, .int .u32 ↑d.s.h.toNat, .int .u32 ↑d.s.i.toNat, .slice A83 ((d.rest ++ [0x80]).length) c85, .int .u64 ↑d.n.toNat, .bool true]) T.ty64 rfl rfl b35 rfl rfl (ones rfl) (Nat.le_of_ble_eq_true rfl) rfl) rfl rfl ?_
  rintro _ w97 ⟨rfl, b98, f99⟩
  replace hp := hp.fr1 f99 ne27
  replace hr := hr.fr1 f99 ne28
  replace hG := hG.fr1 f99 ne29
  replace b3 := b3.fr1 f99 ne30
  replace b13 := b13.fr1 f99 ne31
  replace o87 := o87.fr1 f99 ne94
  clear b35
  have hF100 := hF96.thenNew f99 nw32
  refine s_nil ?_
  refine n_then ?_
  refine c_seq ?_
  refine c_block ?_
  refine c_loop (fun m a W => ∃ r' : List UInt8, ∃ A' : Option Addr, ∃ g' : Nat, ∃ c' : Nat, m = (120 - r'.length % 64) % 64 ∧ GP.St 93 [(0, .pointer (some ⟨p, 0, none⟩)), (2, .pointer (some ⟨g1, 0, none⟩)), (3, .pointer (some ⟨g11, 0, none⟩)), (4, .pointer (some ⟨g22, 0, none⟩))] a ∧ Fr [] w W ∧ Blk W p 81 [.int .u32 ↑d.s.a.toNat, .int .u32 ↑d.s.c.toNat, .int .u32 ↑d.s.d.toNat, .int .u32 ↑d.s.e.toNat, .int .u32 ↑d.s.f.toNat, .int .u32 ↑d.s.g.toNat, .int .u32 ↑d.s.h.toNat, .int .u32 ↑d.s.i.toNat, .slice A d.rest.length c, .int .u64 ↑d.n.toNat, .bool true] ∧ Row W (some ⟨0, 0, none⟩) 0 0 64 1 (roots.map wv) ∧ Blk W g1 26 Dig.zero.cells ∧ Blk W g11 26 Dig.zero.cells ∧ Blk W g22 81 [.int .u32 ↑d.s.a.toNat, .int .u32 ↑d.s.c.toNat, .int .u32 ↑d.s.d.toNat, .int .u32 ↑d.s.e.toNat, .int .u32 ↑d.s.f.toNat, .int .u32 ↑d.s.g.toNat, .int .u32 ↑d.s.h.toNat, .int .u32 ↑d.s.i.toNat, .slice A' r'.length c', .int .u64 ↑d.n.toNat, .bool true] ∧ Own W A' g' r'.length c' 5 1 (r'.map bv) ∧ (padZ r' = padZ (d.rest ++ [0x80])) ∧ (A' = none ∨ g' ∈ ([] : List Nat) ∨ w.heap.size ≤ g') ∧ (r'.length ≤ d.rest.length + 1 + 63)) ((120 - (d.rest ++ [0x80]).length % 64) % 64) ?_ ?_
  · intro a ha
    exact ⟨(d.rest ++ [0x80]), A83, g84, c85, rfl, ha.cut ⟨rfl, rfl, rfl, rfl, trivial⟩, hF100, hp, hG, b3, b13, (by simpa using b98), (by simpa using o87), rfl, wh95, (by simp)⟩
  · rintro _ a W101 ⟨r', A', g', c', rfl, hst103, hF104, hp, hG, b3, b13, hc, hoL, hq, whL, hln⟩
    refine (show Wc _ _ _ _ _ _ from ?_) a hst103
    clear hst103 a
    refine c_seq ?_
    refine c_seq ?_
    refine c_region ?_
    refine s_y (y_field rfl T.fld81_1 rfl) rfl rfl ?_
    refine s_y (y_ldB (v := .slice A' r'.length c') T.ty64 rfl hc rfl) rfl rfl ?_
    refine s_y (y_len Tryd.underlying64 rfl) rfl rfl ?_
    refine s_y (y_rem (r := ↑r'.length % 64) rfl rfl (by decide) (Int.tmod_eq_emod_of_nonneg (by omega))) rfl rfl ?_
    refine s_y (y_neq rfl rfl rfl) rfl rfl ?_
    refine s_nil ?_
    refine n_then ?_
    refine c_cond rfl ?_ ?_
    · intro h105
      replace h105 : ((↑r'.length % 64) : Int) ≠ 56 := of_decide_eq_true h105
      refine c_skip ?_
      refine n_then ?_
      refine c_block ?_
      refine c_region ?_
      refine s_y (y_field rfl T.fld81_1 rfl) rfl rfl ?_
      refine s_y (y_ldB (v := .slice A' r'.length c') T.ty64 rfl hc rfl) rfl rfl ?_
      have hlit106 := (T.lit3 0)
      refine s_d (d_bs2 hlit106 ⟨rfl, rfl, trivial⟩) rfl rfl ?_
      rintro _ w108 ⟨g107, rfl, hg111, b109, f110⟩
      have ne112 : p ≠ g107 := Nat.ne_of_lt (Nat.lt_of_lt_of_le hp.lt hg111)
      have ne113 := row_ne_new hG hg111
      have ne114 : g1 ≠ g107 := Nat.ne_of_lt (Nat.lt_of_lt_of_le b3.lt hg111)
      have ne115 : g11 ≠ g107 := Nat.ne_of_lt (Nat.lt_of_lt_of_le b13.lt hg111)
      have ne116 : g22 ≠ g107 := Nat.ne_of_lt (Nat.lt_of_lt_of_le hc.lt hg111)
      have ne117 := hoL.ne_new hg111
      have nw118 := Nat.le_trans hF104.size hg111
      replace hp := hp.fr0 f110
      replace hG := hG.fr0 f110
      replace b3 := b3.fr0 f110
      replace b13 := b13.fr0 f110
      replace hc := hc.fr0 f110
      replace hoL := hoL.fr0 f110
      have hF119 := hF104.then0 f110
      have o120 := Own.of_blk (n := 1) (k := 1) b109 rfl (by decide)
      refine s_d (d_append Tryd.underlying64 T.ty5 T.app5 rfl hoL rfl (src_row Tryd.underlying64 T.ty5 o120.row ()) (ones (by first | exact all_bv _ | exact all_wv _ | exact rfl | simp [all_bv, all_u32, all_ent, all_dig, all_ents])) (by omega)) rfl rfl ?_
      rintro _ w124 ⟨A121, g122, c123, rfl, o125, f126, hat127⟩
      replace o125 : Own w124 A121 g122 (r'.length + 1) c123 5 1 ((r' ++ [0]).map bv) := (by simpa [bv] using o125)
      obtain ⟨hno125⟩ : Nonempty (r'.length + 1 = (r' ++ [0]).length) := ⟨by simp⟩
      rw [hno125] at o125 ⊢
      have ne129 := app_ap hat127 (hoL.ne_blk hp (by decide)) hp.lt
      replace hp := hp.fr f126 (no_own (hoL.ne_blk hp (by decide)))
      replace hG := hG.fr f126 (row_app (wh_nw whL) lt_hG)
      have ne130 := app_ap hat127 (hoL.ne_blk b3 (by decide)) b3.lt
      replace b3 := b3.fr f126 (no_own (hoL.ne_blk b3 (by decide)))
      have ne131 := app_ap hat127 (hoL.ne_blk b13 (by decide)) b13.lt
      replace b13 := b13.fr f126 (no_own (hoL.ne_blk b13 (by decide)))
      have ne132 := app_ap hat127 (hoL.ne_blk hc (by decide)) hc.lt
      replace hc := hc.fr f126 (no_own (hoL.ne_blk hc (by decide)))
      have wh133 : A121 = none ∨ g122 ∈ ([] : List Nat) ∨ w.heap.size ≤ g122 := app_wh hat127 whL hF119.size
      have hF134 := hF119.thenOwnIn f126 whL
      refine s_y (y_field rfl T.fld81_1 rfl) rfl rfl ?_
      refine s_d (d_store (cs := [.slice A121 ((r' ++ [0]).length) c123]) (l' := [.int .u32 ↑d.s.a.toNat, .int .u32 ↑d.s.c.toNat, .int .u32 ↑d.s.d.toNat, .int .u32 ↑d.s.e.toNat, .int .u32 ↑d.s.f.toNat, .int .u32 ↑d.s.g.toNat, .int .u32 ↑d.s.h.toNat, .int .u32 ↑d.s.i.toNat, .slice A121 ((r' ++ [0]).length) c123, .int .u64 ↑d.n.toNat, .bool true]) T.ty64 rfl rfl hc rfl rfl (ones rfl) (Nat.le_of_ble_eq_true rfl) rfl) rfl rfl ?_
      rintro _ w135 ⟨rfl, b136, f137⟩
      replace hp := hp.fr1 f137 ne27
      replace hG := hG.fr1 f137 ne29
      replace b3 := b3.fr1 f137 ne30
      replace b13 := b13.fr1 f137 ne31
      replace o125 := o125.fr1 f137 ne132
      clear hc
      have hF138 := hF134.thenNew f137 nw32
      refine s_nil ?_
      refine n_inb ?_
      exact fun a ha => ⟨_, by rw [List.length_append, List.length_singleton]; omega, r' ++ [0], A121, g122, c123, rfl, ha.cut ⟨rfl, rfl, rfl, rfl, trivial⟩, hF138, hp, hG, b3, b13, (by simpa using b136), (by simpa using o125), (padZ_step r' (by omega)).trans hq, wh133, pad_le _ _ ((padZ_step r' (by omega)).trans hq)⟩
    · intro h139
      replace h139 : ((↑r'.length % 64) : Int) = 56 := Decidable.not_not.1 (of_decide_eq_false h139)
      refine c_exit ?_
      refine x_then ?_
      have hr1 : r' = padZ (d.rest ++ [0x80]) := (padZ_done r' (by omega)).symm.trans hq
      subst hr1
      refine x_then ?_
      refine x_hit ?_
      refine n_then ?_
      refine c_seq ?_
      refine c_seq ?_
      refine c_region ?_
      refine s_y (y_assign rfl) rfl rfl ?_
      refine s_nil ?_
      refine n_then ?_
      refine c_block ?_
      refine c_loop (fun m a W => ∃ k : Nat, ∃ A1 : Option Addr, ∃ g1' : Nat, ∃ c1 : Nat, m = 8 - k ∧ GP.St 93 [(0, .pointer (some ⟨p, 0, none⟩)), (2, .pointer (some ⟨g1, 0, none⟩)), (3, .pointer (some ⟨g11, 0, none⟩)), (4, .pointer (some ⟨g22, 0, none⟩)), (5, .int .i64 (7 - ↑k))] a ∧ Fr [] w W ∧ Blk W p 81 [.int .u32 ↑d.s.a.toNat, .int .u32 ↑d.s.c.toNat, .int .u32 ↑d.s.d.toNat, .int .u32 ↑d.s.e.toNat, .int .u32 ↑d.s.f.toNat, .int .u32 ↑d.s.g.toNat, .int .u32 ↑d.s.h.toNat, .int .u32 ↑d.s.i.toNat, .slice A d.rest.length c, .int .u64 ↑d.n.toNat, .bool true] ∧ Row W (some ⟨0, 0, none⟩) 0 0 64 1 (roots.map wv) ∧ Blk W g1 26 Dig.zero.cells ∧ Blk W g11 26 Dig.zero.cells ∧ Blk W g22 81 [.int .u32 ↑d.s.a.toNat, .int .u32 ↑d.s.c.toNat, .int .u32 ↑d.s.d.toNat, .int .u32 ↑d.s.e.toNat, .int .u32 ↑d.s.f.toNat, .int .u32 ↑d.s.g.toNat, .int .u32 ↑d.s.h.toNat, .int .u32 ↑d.s.i.toNat, .slice A1 ((padZ (d.rest ++ [0x80]) ++ (lenB d.n).take k).length) c1, .int .u64 ↑d.n.toNat, .bool true] ∧ Own W A1 g1' ((padZ (d.rest ++ [0x80]) ++ (lenB d.n).take k).length) c1 5 1 ((padZ (d.rest ++ [0x80]) ++ (lenB d.n).take k).map bv) ∧ (k ≤ 8) ∧ (A1 = none ∨ g1' ∈ ([] : List Nat) ∨ w.heap.size ≤ g1')) (8) ?_ ?_
      · intro a ha
        exact ⟨0, A', g', c', rfl, ha.cut ⟨rfl, rfl, rfl, rfl, (iv (by simp)), trivial⟩, hF104, hp, hG, b3, b13, (by simpa using hc), (by simpa using hoL), Nat.zero_le _, whL⟩
      · rintro _ a W140 ⟨k, A1, g1', c1, rfl, hst142, hF143, hp, hG, b3, b13, hc1, ho1, hk, wh1⟩
        refine (show Wc _ _ _ _ _ _ from ?_) a hst142
        clear hst142 a
        have hl8 : (lenB d.n).length = 8 := rfl
        have hpl := padZ_len (d.rest ++ [0x80])
        rw [List.length_append, List.length_singleton] at hpl
        refine c_seq ?_
        refine c_seq ?_
        refine c_region ?_
        refine s_y (y_move rfl) rfl rfl ?_
        refine s_y (y_geq rfl rfl rfl) rfl rfl ?_
        refine s_nil ?_
        refine n_then ?_
        refine c_cond rfl ?_ ?_
        · intro h144
          replace h144 : (0 : Int) ≤ (7 - ↑k) := of_decide_eq_true h144
          refine c_skip ?_
          refine n_then ?_
          refine c_seq ?_
          refine c_block ?_
          refine dr_begin (fun _ => True) 14 (by kernel_rfl) ?_
          intro w145 f146
          replace hp := hp.fr0 f146
          replace hG := hG.fr0 f146
          replace b3 := b3.fr0 f146
          replace b13 := b13.fr0 f146
          replace hc1 := hc1.fr0 f146
          replace ho1 := ho1.fr0 f146
          have hF147 := hF143.then0 f146
          refine dr_y 0 rfl (fun _ => y_field rfl T.fld81_1 rfl) rfl (by kernel_rfl) (qp_inb (qp_then (qp_then (qp_inb (qp_then qp_body))))) (fun _ => trivial) ?_
          refine dr_y 2 rfl (fun _ => y_move rfl) rfl (by kernel_rfl) (qp_inb (qp_then (qp_then (qp_inb (qp_then qp_body))))) (fun _ => trivial) ?_
          refine dr_y 3 rfl (fun _ => y_nilCheck rfl) rfl (by kernel_rfl) (qp_inb (qp_then (qp_then (qp_inb (qp_then qp_body))))) (fun _ => trivial) ?_
          refine dr_y 4 rfl (fun _ => y_field rfl T.fld81_2 rfl) rfl (by kernel_rfl) (qp_inb (qp_then (qp_then (qp_inb (qp_then qp_body))))) (fun _ => trivial) ?_
          refine dr_y 7 rfl (fun _ => y_move rfl) rfl (by kernel_rfl) (qp_inb (qp_then (qp_then (qp_inb (qp_then qp_body))))) (fun _ => trivial) ?_
          refine dr_y 8 rfl (fun _ => y_mul rfl rfl (wrI (by omega) (by omega))) rfl (by kernel_rfl) (qp_inb (qp_then (qp_then (qp_inb (qp_then qp_body))))) (fun _ => trivial) ?_
          refine dr_2 (i := 1) (j := 5) (by kernel_rfl) ?_ ?_
          ·
            refine rd_d rfl (doe_y (y_ldB (v := .slice A1 ((padZ (d.rest ++ [0x80]) ++ (lenB d.n).take k).length) c1) T.ty64 rfl hc1 rfl)) rfl rfl ?_
            rintro _ _ ⟨rfl, rfl⟩
            refine ⟨fun _ => trivial, ?_⟩
            refine dr_1 (i := 5) (by kernel_rfl) ?_
            refine rd_d rfl (doe_y (y_ldB (v := .int .u64 ↑d.n.toNat) T.ty59 rfl hp rfl)) rfl rfl ?_
            rintro _ _ ⟨rfl, rfl⟩
            refine ⟨fun _ => trivial, ?_⟩
            refine dr_y 6 rfl (fun _ => y_mul (r := ↑(d.n * 8#64).toNat) rfl (show some (Value.int IntKind.u64 _) = some (Value.int IntKind.u64 ↑(8#64).toNat) from rfl) (mul64 _ _)) rfl (by kernel_rfl) (qp_inb (qp_then (qp_then (qp_inb (qp_then qp_body))))) (fun _ => trivial) ?_
            refine dr_y 9 rfl (fun _ => y_shr (r := ↑((d.n * 8#64) >>> (8 * (7 - k))).toNat) rfl rfl (by omega) (shr64 (d.n * 8#64) (8 * (7 - k)) (8 * (7 - (k : Int))) (by omega) (by omega))) rfl (by kernel_rfl) (qp_inb (qp_then (qp_then (qp_inb (qp_then qp_body))))) (fun _ => trivial) ?_
            refine dr_y 10 rfl (fun _ => y_conv (r := ↑(lenb d.n k).toNat) Tryd.underlying59 Tryd.underlying5 rfl (conv_low64 _)) rfl (by kernel_rfl) (qp_inb (qp_then (qp_then (qp_inb (qp_then qp_body))))) (fun _ => trivial) ?_
            refine dr_1 (i := 11) (by kernel_rfl) ?_
            have hlit148 := (T.lit3 (↑(lenb d.n k).toNat))
            refine rd_d rfl (d_bs2 hlit148 ⟨rfl, rfl, trivial⟩) rfl rfl ?_
            rintro _ w150 ⟨g149, rfl, hg153, b151, f152⟩
            have ne154 : p ≠ g149 := Nat.ne_of_lt (Nat.lt_of_lt_of_le hp.lt hg153)
            have ne155 := row_ne_new hG hg153
            have ne156 : g1 ≠ g149 := Nat.ne_of_lt (Nat.lt_of_lt_of_le b3.lt hg153)
            have ne157 : g11 ≠ g149 := Nat.ne_of_lt (Nat.lt_of_lt_of_le b13.lt hg153)
            have ne158 : g22 ≠ g149 := Nat.ne_of_lt (Nat.lt_of_lt_of_le hc1.lt hg153)
            have ne159 := ho1.ne_new hg153
            have nw160 := Nat.le_trans hF147.size hg153
            replace hp := hp.fr0 f152
            replace hG := hG.fr0 f152
            replace b3 := b3.fr0 f152
            replace b13 := b13.fr0 f152
            replace hc1 := hc1.fr0 f152
            replace ho1 := ho1.fr0 f152
            have hF161 := hF147.then0 f152
            have o162 := Own.of_blk (n := 1) (k := 1) b151 rfl (by decide)
            refine ⟨fun _ => trivial, ?_⟩
            refine dr_1 (i := 12) (by kernel_rfl) ?_
            refine rd_d rfl (d_append Tryd.underlying64 T.ty5 T.app5 rfl ho1 rfl (src_row Tryd.underlying64 T.ty5 o162.row ()) (ones (by first | exact all_bv _ | exact all_wv _ | exact rfl | simp [all_bv, all_u32, all_ent, all_dig, all_ents])) (by simp only [List.length_append, List.length_take] at *; omega)) rfl rfl ?_
            rintro _ w166 ⟨A163, g164, c165, rfl, o167, f168, hat169⟩
            replace o167 : Own w166 A163 g164 ((padZ (d.rest ++ [0x80]) ++ (lenB d.n).take k).length + 1) c165 5 1 ((padZ (d.rest ++ [0x80]) ++ (lenB d.n).take k ++ [lenb d.n k]).map bv) := (by simpa [bv] using o167)
            obtain ⟨hno167⟩ : Nonempty ((padZ (d.rest ++ [0x80]) ++ (lenB d.n).take k).length + 1 = (padZ (d.rest ++ [0x80]) ++ (lenB d.n).take k ++ [lenb d.n k]).length) := ⟨by simp; omega⟩
            rw [hno167] at o167 ⊢
            have ne171 := app_ap hat169 (ho1.ne_blk hp (by decide)) hp.lt
            replace hp := hp.fr f168 (no_own (ho1.ne_blk hp (by decide)))
            replace hG := hG.fr f168 (row_app (wh_nw wh1) lt_hG)
            have ne172 := app_ap hat169 (ho1.ne_blk b3 (by decide)) b3.lt
            replace b3 := b3.fr f168 (no_own (ho1.ne_blk b3 (by decide)))
            have ne173 := app_ap hat169 (ho1.ne_blk b13 (by decide)) b13.lt
            replace b13 := b13.fr f168 (no_own (ho1.ne_blk b13 (by decide)))
            have ne174 := app_ap hat169 (ho1.ne_blk hc1 (by decide)) hc1.lt
            replace hc1 := hc1.fr f168 (no_own (ho1.ne_blk hc1 (by decide)))
            have wh175 : A163 = none ∨ g164 ∈ ([] : List Nat) ∨ w.heap.size ≤ g164 := app_wh hat169 wh1 hF161.size
            have hF176 := hF161.thenOwnIn f168 wh1
            refine ⟨fun _ => trivial, ?_⟩
            refine dr_y 13 rfl (fun _ => y_field rfl T.fld81_1 rfl) rfl (by kernel_rfl) (qp_inb (qp_then (qp_then (qp_inb (qp_then qp_body))))) (fun _ => trivial) ?_
            refine dr_1 (i := 14) (by kernel_rfl) ?_
            refine rd_d rfl (d_store (cs := [.slice A163 ((padZ (d.rest ++ [0x80]) ++ (lenB d.n).take k ++ [lenb d.n k]).length) c165]) (l' := [.int .u32 ↑d.s.a.toNat, .int .u32 ↑d.s.c.toNat, .int .u32 ↑d.s.d.toNat, .int .u32 ↑d.s.e.toNat, .int .u32 ↑d.s.f.toNat, .int .u32 ↑d.s.g.toNat, .int .u32 ↑d.s.h.toNat, .int .u32 ↑d.s.i.toNat, .slice A163 ((padZ (d.rest ++ [0x80]) ++ (lenB d.n).take k ++ [lenb d.n k]).length) c165, .int .u64 ↑d.n.toNat, .bool true]) T.ty64 rfl rfl hc1 rfl rfl (ones rfl) (Nat.le_of_ble_eq_true rfl) rfl) rfl rfl ?_
            rintro _ w177 ⟨rfl, b178, f179⟩
            replace hp := hp.fr1 f179 ne27
            replace hG := hG.fr1 f179 ne29
            replace b3 := b3.fr1 f179 ne30
            replace b13 := b13.fr1 f179 ne31
            replace o167 := o167.fr1 f179 ne174
            clear hc1
            have hF180 := hF176.thenNew f179 nw32
            refine ⟨fun h => (Bool.false_ne_true (h.symm.trans (by kernel_rfl))).elim, ?_⟩
            refine dr_done (by kernel_rfl) ?_
            refine n_inb ?_
            refine n_then ?_
            refine c_region ?_
            refine s_y (y_move rfl) rfl rfl ?_
            refine s_y (y_sub rfl rfl (wrI (by omega) (by omega))) rfl rfl ?_
            refine s_y (y_assign rfl) rfl rfl ?_
            refine s_nil ?_
            exact fun a ha => ⟨_, by omega, k + 1, A163, g164, c165, rfl, ha.cut ⟨rfl, rfl, rfl, rfl, (iv (by omega)), trivial⟩, hF180, hp, hG, b3, b13, (by rw [← lenB_add d.n k (by omega)]; simpa [lenb] using b178), (by rw [← lenB_add d.n k (by omega)]; simpa [lenb] using o167), by omega, wh175⟩
          ·
            refine rd_d rfl (doe_y (y_ldB (v := .int .u64 ↑d.n.toNat) T.ty59 rfl hp rfl)) rfl rfl ?_
            rintro _ _ ⟨rfl, rfl⟩
            refine ⟨fun _ => trivial, ?_⟩
            refine dr_y 6 rfl (fun _ => y_mul (r := ↑(d.n * 8#64).toNat) rfl (show some (Value.int IntKind.u64 _) = some (Value.int IntKind.u64 ↑(8#64).toNat) from rfl) (mul64 _ _)) rfl (by kernel_rfl) (qp_inb (qp_then (qp_then (qp_inb (qp_then qp_body))))) (fun _ => trivial) ?_
            refine dr_y 9 rfl (fun _ => y_shr (r := ↑((d.n * 8#64) >>> (8 * (7 - k))).toNat) rfl rfl (by omega) (shr64 (d.n * 8#64) (8 * (7 - k)) (8 * (7 - (k : Int))) (by omega) (by omega))) rfl (by kernel_rfl) (qp_inb (qp_then (qp_then (qp_inb (qp_then qp_body))))) (fun _ => trivial) ?_
            refine dr_y 10 rfl (fun _ => y_conv (r := ↑(lenb d.n k).toNat) Tryd.underlying59 Tryd.underlying5 rfl (conv_low64 _)) rfl (by kernel_rfl) (qp_inb (qp_then (qp_then (qp_inb (qp_then qp_body))))) (fun _ => trivial) ?_
            refine dr_2 (i := 1) (j := 11) (by kernel_rfl) ?_ ?_
            ·
              refine rd_d rfl (doe_y (y_ldB (v := .slice A1 ((padZ (d.rest ++ [0x80]) ++ (lenB d.n).take k).length) c1) T.ty64 rfl hc1 rfl)) rfl rfl ?_
              rintro _ _ ⟨rfl, rfl⟩
              refine ⟨fun _ => trivial, ?_⟩
              refine dr_1 (i := 11) (by kernel_rfl) ?_
              have hlit181 := (T.lit3 (↑(lenb d.n k).toNat))
              refine rd_d rfl (d_bs2 hlit181 ⟨rfl, rfl, trivial⟩) rfl rfl ?_
              rintro _ w183 ⟨g182, rfl, hg186, b184, f185⟩
              have ne187 : p ≠ g182 := Nat.ne_of_lt (Nat.lt_of_lt_of_le hp.lt hg186)
              have ne188 := row_ne_new hG hg186
              have ne189 : g1 ≠ g182 := Nat.ne_of_lt (Nat.lt_of_lt_of_le b3.lt hg186)
              have ne190 : g11 ≠ g182 := Nat.ne_of_lt (Nat.lt_of_lt_of_le b13.lt hg186)
              have ne191 : g22 ≠ g182 := Nat.ne_of_lt (Nat.lt_of_lt_of_le hc1.lt hg186)
              have ne192 := ho1.ne_new hg186
              have nw193 := Nat.le_trans hF147.size hg186
              replace hp := hp.fr0 f185
              replace hG := hG.fr0 f185
              replace b3 := b3.fr0 f185
              replace b13 := b13.fr0 f185
              replace hc1 := hc1.fr0 f185
              replace ho1 := ho1.fr0 f185
              have hF194 := hF147.then0 f185
              have o195 := Own.of_blk (n := 1) (k := 1) b184 rfl (by decide)
              refine ⟨fun _ => trivial, ?_⟩
              refine dr_1 (i := 12) (by kernel_rfl) ?_
              refine rd_d rfl (d_append Tryd.underlying64 T.ty5 T.app5 rfl ho1 rfl (src_row Tryd.underlying64 T.ty5 o195.row ()) (ones (by first | exact all_bv _ | exact all_wv _ | exact rfl | simp [all_bv, all_u32, all_ent, all_dig, all_ents])) (by simp only [List.length_append, List.length_take] at *; omega)) rfl rfl ?_
              rintro _ w199 ⟨A196, g197, c198, rfl, o200, f201, hat202⟩
              replace o200 : Own w199 A196 g197 ((padZ (d.rest ++ [0x80]) ++ (lenB d.n).take k).length + 1) c198 5 1 ((padZ (d.rest ++ [0x80]) ++ (lenB d.n).take k ++ [lenb d.n k]).map bv) := (by simpa [bv] using o200)
              obtain ⟨hno200⟩ : Nonempty ((padZ (d.rest ++ [0x80]) ++ (lenB d.n).take k).length + 1 = (padZ (d.rest ++ [0x80]) ++ (lenB d.n).take k ++ [lenb d.n k]).length) := ⟨by simp; omega⟩
              rw [hno200] at o200 ⊢
              have ne204 := app_ap hat202 (ho1.ne_blk hp (by decide)) hp.lt
              replace hp := hp.fr f201 (no_own (ho1.ne_blk hp (by decide)))
              replace hG := hG.fr f201 (row_app (wh_nw wh1) lt_hG)
              have ne205 := app_ap hat202 (ho1.ne_blk b3 (by decide)) b3.lt
              replace b3 := b3.fr f201 (no_own (ho1.ne_blk b3 (by decide)))
              have ne206 := app_ap hat202 (ho1.ne_blk b13 (by decide)) b13.lt
              replace b13 := b13.fr f201 (no_own (ho1.ne_blk b13 (by decide)))
              have ne207 := app_ap hat202 (ho1.ne_blk hc1 (by decide)) hc1.lt
              replace hc1 := hc1.fr f201 (no_own (ho1.ne_blk hc1 (by decide)))
              have wh208 : A196 = none ∨ g197 ∈ ([] : List Nat) ∨ w.heap.size ≤ g197 := app_wh hat202 wh1 hF194.size
              have hF209 := hF194.thenOwnIn f201 wh1
              refine ⟨fun _ => trivial, ?_⟩
              refine dr_y 13 rfl (fun _ => y_field rfl T.fld81_1 rfl) rfl (by kernel_rfl) (qp_inb (qp_then (qp_then (qp_inb (qp_then qp_body))))) (fun _ => trivial) ?_
              refine dr_1 (i := 14) (by kernel_rfl) ?_
              refine rd_d rfl (d_store (cs := [.slice A196 ((padZ (d.rest ++ [0x80]) ++ (lenB d.n).take k ++ [lenb d.n k]).length) c198]) (l' := [.int .u32 ↑d.s.a.toNat, .int .u32 ↑d.s.c.toNat, .int .u32 ↑d.s.d.toNat, .int .u32 ↑d.s.e.toNat, .int .u32 ↑d.s.f.toNat, .int .u32 ↑d.s.g.toNat, .int .u32 ↑d.s.h.toNat, .int .u32 ↑d.s.i.toNat, .slice A196 ((padZ (d.rest ++ [0x80]) ++ (lenB d.n).take k ++ [lenb d.n k]).length) c198, .int .u64 ↑d.n.toNat, .bool true]) T.ty64 rfl rfl hc1 rfl rfl (ones rfl) (Nat.le_of_ble_eq_true rfl) rfl) rfl rfl ?_
              rintro _ w210 ⟨rfl, b211, f212⟩
              replace hp := hp.fr1 f212 ne27
              replace hG := hG.fr1 f212 ne29
              replace b3 := b3.fr1 f212 ne30
              replace b13 := b13.fr1 f212 ne31
              replace o200 := o200.fr1 f212 ne207
              clear hc1
              have hF213 := hF209.thenNew f212 nw32
              refine ⟨fun h => (Bool.false_ne_true (h.symm.trans (by kernel_rfl))).elim, ?_⟩
              refine dr_done (by kernel_rfl) ?_
              refine n_inb ?_
              refine n_then ?_
              refine c_region ?_
              refine s_y (y_move rfl) rfl rfl ?_
              refine s_y (y_sub rfl rfl (wrI (by omega) (by omega))) rfl rfl ?_
              refine s_y (y_assign rfl) rfl rfl ?_
              refine s_nil ?_
              exact fun a ha => ⟨_, by omega, k + 1, A196, g197, c198, rfl, ha.cut ⟨rfl, rfl, rfl, rfl, (iv (by omega)), trivial⟩, hF213, hp, hG, b3, b13, (by rw [← lenB_add d.n k (by omega)]; simpa [lenb] using b211), (by rw [← lenB_add d.n k (by omega)]; simpa [lenb] using o200), by omega, wh208⟩
            ·
              have hlit214 := (T.lit3 (↑(lenb d.n k).toNat))
              refine rd_d rfl (d_bs2 hlit214 ⟨rfl, rfl, trivial⟩) rfl rfl ?_
              rintro _ w216 ⟨g215, rfl, hg219, b217, f218⟩
              have ne220 : p ≠ g215 := Nat.ne_of_lt (Nat.lt_of_lt_of_le hp.lt hg219)
              have ne221 := row_ne_new hG hg219
              have ne222 : g1 ≠ g215 := Nat.ne_of_lt (Nat.lt_of_lt_of_le b3.lt hg219)
              have ne223 : g11 ≠ g215 := Nat.ne_of_lt (Nat.lt_of_lt_of_le b13.lt hg219)
              have ne224 : g22 ≠ g215 := Nat.ne_of_lt (Nat.lt_of_lt_of_le hc1.lt hg219)
              have ne225 := ho1.ne_new hg219
              have nw226 := Nat.le_trans hF147.size hg219
              replace hp := hp.fr0 f218
              replace hG := hG.fr0 f218
              replace b3 := b3.fr0 f218
              replace b13 := b13.fr0 f218
              replace hc1 := hc1.fr0 f218
              replace ho1 := ho1.fr0 f218
              have hF227 := hF147.then0 f218
              have o228 := Own.of_blk (n := 1) (k := 1) b217 rfl (by decide)
              refine ⟨fun _ => trivial, ?_⟩
              refine dr_1 (i := 1) (by kernel_rfl) ?_
              refine rd_d rfl (doe_y (y_ldB (v := .slice A1 ((padZ (d.rest ++ [0x80]) ++ (lenB d.n).take k).length) c1) T.ty64 rfl hc1 rfl)) rfl rfl ?_
              rintro _ _ ⟨rfl, rfl⟩
              refine ⟨fun _ => trivial, ?_⟩
              refine dr_1 (i := 12) (by kernel_rfl) ?_
              refine rd_d rfl (d_append Tryd.underlying64 T.ty5 T.app5 rfl ho1 rfl (src_row Tryd.underlying64 T.ty5 o228.row ()) (ones (by first | exact all_bv _ | exact all_wv _ | exact rfl | simp [all_bv, all_u32, all_ent, all_dig, all_ents])) (by simp only [List.length_append, List.length_take] at *; omega)) rfl rfl ?_
              rintro _ w232 ⟨A229, g230, c231, rfl, o233, f234, hat235⟩
              replace o233 : Own w232 A229 g230 ((padZ (d.rest ++ [0x80]) ++ (lenB d.n).take k).length + 1) c231 5 1 ((padZ (d.rest ++ [0x80]) ++ (lenB d.n).take k ++ [lenb d.n k]).map bv) := (by simpa [bv] using o233)
              obtain ⟨hno233⟩ : Nonempty ((padZ (d.rest ++ [0x80]) ++ (lenB d.n).take k).length + 1 = (padZ (d.rest ++ [0x80]) ++ (lenB d.n).take k ++ [lenb d.n k]).length) := ⟨by simp; omega⟩
              rw [hno233] at o233 ⊢
              have ne237 := app_ap hat235 (ho1.ne_blk hp (by decide)) hp.lt
              replace hp := hp.fr f234 (no_own (ho1.ne_blk hp (by decide)))
              replace hG := hG.fr f234 (row_app (wh_nw wh1) lt_hG)
              have ne238 := app_ap hat235 (ho1.ne_blk b3 (by decide)) b3.lt
              replace b3 := b3.fr f234 (no_own (ho1.ne_blk b3 (by decide)))
              have ne239 := app_ap hat235 (ho1.ne_blk b13 (by decide)) b13.lt
              replace b13 := b13.fr f234 (no_own (ho1.ne_blk b13 (by decide)))
              have ne240 := app_ap hat235 (ho1.ne_blk hc1 (by decide)) hc1.lt
              replace hc1 := hc1.fr f234 (no_own (ho1.ne_blk hc1 (by decide)))
              have wh241 : A229 = none ∨ g230 ∈ ([] : List Nat) ∨ w.heap.size ≤ g230 := app_wh hat235 wh1 hF227.size
              have hF242 := hF227.thenOwnIn f234 wh1
              refine ⟨fun _ => trivial, ?_⟩
              refine dr_y 13 rfl (fun _ => y_field rfl T.fld81_1 rfl) rfl (by kernel_rfl) (qp_inb (qp_then (qp_then (qp_inb (qp_then qp_body))))) (fun _ => trivial) ?_
              refine dr_1 (i := 14) (by kernel_rfl) ?_
              refine rd_d rfl (d_store (cs := [.slice A229 ((padZ (d.rest ++ [0x80]) ++ (lenB d.n).take k ++ [lenb d.n k]).length) c231]) (l' := [.int .u32 ↑d.s.a.toNat, .int .u32 ↑d.s.c.toNat, .int .u32 ↑d.s.d.toNat, .int .u32 ↑d.s.e.toNat, .int .u32 ↑d.s.f.toNat, .int .u32 ↑d.s.g.toNat, .int .u32 ↑d.s.h.toNat, .int .u32 ↑d.s.i.toNat, .slice A229 ((padZ (d.rest ++ [0x80]) ++ (lenB d.n).take k ++ [lenb d.n k]).length) c231, .int .u64 ↑d.n.toNat, .bool true]) T.ty64 rfl rfl hc1 rfl rfl (ones rfl) (Nat.le_of_ble_eq_true rfl) rfl) rfl rfl ?_
              rintro _ w243 ⟨rfl, b244, f245⟩
              replace hp := hp.fr1 f245 ne27
              replace hG := hG.fr1 f245 ne29
              replace b3 := b3.fr1 f245 ne30
              replace b13 := b13.fr1 f245 ne31
              replace o233 := o233.fr1 f245 ne240
              clear hc1
              have hF246 := hF242.thenNew f245 nw32
              refine ⟨fun h => (Bool.false_ne_true (h.symm.trans (by kernel_rfl))).elim, ?_⟩
              refine dr_done (by kernel_rfl) ?_
              refine n_inb ?_
              refine n_then ?_
              refine c_region ?_
              refine s_y (y_move rfl) rfl rfl ?_
              refine s_y (y_sub rfl rfl (wrI (by omega) (by omega))) rfl rfl ?_
              refine s_y (y_assign rfl) rfl rfl ?_
              refine s_nil ?_
              exact fun a ha => ⟨_, by omega, k + 1, A229, g230, c231, rfl, ha.cut ⟨rfl, rfl, rfl, rfl, (iv (by omega)), trivial⟩, hF246, hp, hG, b3, b13, (by rw [← lenB_add d.n k (by omega)]; simpa [lenb] using b244), (by rw [← lenB_add d.n k (by omega)]; simpa [lenb] using o233), by omega, wh241⟩
        · intro h247
          replace h247 : ¬ ((0 : Int) ≤ (7 - ↑k)) := of_decide_eq_false h247
          refine c_exit ?_
          refine x_then ?_
          obtain rfl : k = 8 := by omega
          rw [lenB_all] at hc1 ho1
          replace ho1 : Own W140 A1 g1' d.all.length c1 5 1 (d.all.map bv) := ho1
          replace hc1 : Blk W140 g22 81 [.int .u32 ↑d.s.a.toNat, .int .u32 ↑d.s.c.toNat, .int .u32 ↑d.s.d.toNat, .int .u32 ↑d.s.e.toNat, .int .u32 ↑d.s.f.toNat, .int .u32 ↑d.s.g.toNat, .int .u32 ↑d.s.h.toNat, .int .u32 ↑d.s.i.toNat, .slice A1 d.all.length c1, .int .u64 ↑d.n.toNat, .bool true] := hc1
          have hal : 0 < d.all.length := by simp [Dg.all, lenB]
          have hgn := ho1.new (by simpa using hal) wh1
          have hbn : d.all.length ≤ d.rest.length + 1 + 63 + 8 := by simp only [Dg.all, List.length_append]; omega
          have neo248 := (own_ne ho1 hp (by decide) (by simpa using hal)).symm
          have neo249 := (own_ne ho1 b3 (by decide) (by simpa using hal)).symm
          have neo250 := (own_ne ho1 b13 (by decide) (by simpa using hal)).symm
          have neo251 := (own_ne ho1 hc1 (by decide) (by simpa using hal)).symm
          refine x_then ?_
          refine x_hit ?_
          refine n_then ?_
          refine c_seq ?_
          refine c_region ?_
          refine s_d (d_callR T.ent40 (vs := [.pointer (some ⟨g22, 0, none⟩), .slice none 0 0]) rfl (dadd_ok g22 g1' c1 (g22 + g1' + 1) 0 0 A1 none ⟨d.s, d.all, d.n⟩ [] _ (by simp; omega) (by omega) (by omega) (by omega) (by omega) (.inr (by omega)) hc1 ho1 (Row.nil _ _ _ _ _) hG) (by rintro e w' ⟨_, _, _, rfl, -⟩; exact ⟨_, rfl⟩)) rfl rfl ?_
          rintro v254 w252 ⟨AF, gF, cF, hv255, f253, hF_, -, -⟩
          obtain rfl := ret_inj hv255
          replace hp := hp.fr f253 (by simp only [List.mem_cons, List.not_mem_nil, or_false, not_or]; exact ⟨ne27, neo248⟩)
          replace hG := hG.fr f253 (nin_cons ne29 (nin_cons (by first | exact .inr (by omega) | exact lt_hG.imp id fun h => by omega) (nin_nil _ _)))
          replace b3 := b3.fr f253 (by simp only [List.mem_cons, List.not_mem_nil, or_false, not_or]; exact ⟨ne30, neo249⟩)
          replace b13 := b13.fr f253 (by simp only [List.mem_cons, List.not_mem_nil, or_false, not_or]; exact ⟨ne31, neo250⟩)
          have hF256 := hF143.trans f253 (by simp; omega)
          replace hF_ : Blk w252 g22 81 ((((procS d.s d.all).1).cells) ++ ([.slice AF ((procS d.s d.all).2.length) cF, .int .u64 (↑(d.n + n64 0).toNat), .bool true] : List Value)) := by simpa [Dg.add, Dg.cells] using hF_
          refine s_nil ?_
          refine n_then ?_
          refine c_seq ?_
          refine c_seq ?_
          refine c_region ?_
          refine s_y (y_field rfl T.fld81_0 rfl) rfl rfl ?_
          refine s_y (y_ldBA (xs := (((procS d.s d.all).1).cells)) T.ty79 rfl hF_ (by simp [S8.len]) (take_seg (by simp [S8.len]))) rfl rfl ?_
          refine s_y (y_move rfl) rfl rfl ?_
          refine s_nil ?_
          refine n_then ?_
          refine c_block ?_
          refine c_loop (fun m a W => ∃ i : Nat, m = 8 - i ∧ GP.St 93 [(2, .pointer (some ⟨g1, 0, none⟩)), (3, .pointer (some ⟨g11, 0, none⟩)), (60, .agg (((procS d.s d.all).1).cells).toArray), (61, .int .i64 ↑i)] a ∧ Fr [] w W ∧ Blk W p 81 [.int .u32 ↑d.s.a.toNat, .int .u32 ↑d.s.c.toNat, .int .u32 ↑d.s.d.toNat, .int .u32 ↑d.s.e.toNat, .int .u32 ↑d.s.f.toNat, .int .u32 ↑d.s.g.toNat, .int .u32 ↑d.s.h.toNat, .int .u32 ↑d.s.i.toNat, .slice A d.rest.length c, .int .u64 ↑d.n.toNat, .bool true] ∧ Row W (some ⟨0, 0, none⟩) 0 0 64 1 (roots.map wv) ∧ Blk W g1 26 Dig.zero.cells ∧ Blk W g22 81 ((((procS d.s d.all).1).cells) ++ ([.slice AF ((procS d.s d.all).2.length) cF, .int .u64 (↑(d.n + n64 0).toNat), .bool true] : List Value)) ∧ Blk W g11 26 ((digP (procS d.s d.all).1 i).map bv) ∧ (i ≤ 8)) (8) ?_ ?_
          · intro a ha
            exact ⟨0, rfl, ha.cut ⟨rfl, rfl, rfl, rfl, trivial⟩, hF256, hp, hG, b3, hF_, b13, Nat.zero_le _⟩
          · rintro _ a W257 ⟨i, rfl, hst259, hF260, hp, hG, b3, hF_, hout, hi⟩
            refine (show Wc _ _ _ _ _ _ from ?_) a hst259
            clear hst259 a
            refine c_seq ?_
            refine c_region ?_
            refine s_y (y_lss rfl rfl rfl) rfl rfl ?_
            refine s_nil ?_
            refine n_then ?_
            refine c_seq ?_
            refine c_cond rfl ?_ ?_
            · intro h261
              replace h261 : (↑i : Int) < 8 := of_decide_eq_true h261
              refine c_skip ?_
              refine n_then ?_
              refine c_seq ?_
              refine c_block ?_
              refine c_seq ?_
              refine c_region ?_
              refine s_y (y_move rfl) rfl rfl ?_
              refine s_y (y_indexAg (xs := (((procS d.s d.all).1).cells)) (v := .int .u32 (↑(((procS d.s d.all).1).list.getD i 0).toNat)) Tryd.underlying79 T.ty74 rfl rfl (by omega) (by omega) (by rw [Int.toNat_natCast, Nat.mul_one]; exact map_at wv ((procS d.s d.all).1).list i 0 (show _ < 8 by omega))) rfl rfl ?_
              refine s_y (y_assign rfl) rfl rfl ?_
              refine s_y (y_assign rfl) rfl rfl ?_
              refine s_nil ?_
              refine n_then ?_
              refine c_region ?_
              refine s_y (y_move rfl) rfl rfl ?_
              refine s_y (y_mul rfl rfl (wrI (by omega) (by omega))) rfl rfl ?_
              refine s_y (y_move rfl) rfl rfl ?_
              refine s_y (y_mul rfl rfl (wrI (by omega) (by omega))) rfl rfl ?_
              refine s_y (y_add rfl rfl (wrI (by omega) (by omega))) rfl rfl ?_
              refine s_y (y_move rfl) rfl rfl ?_
              refine s_y (y_mul rfl rfl (wrI (by omega) (by omega))) rfl rfl ?_
              refine s_y (y_add rfl rfl (wrI (by omega) (by omega))) rfl rfl ?_
              refine s_y (y_move rfl) rfl rfl ?_
              refine s_y (y_mul rfl rfl (wrI (by omega) (by omega))) rfl rfl ?_
              refine s_y (y_add rfl rfl (wrI (by omega) (by omega))) rfl rfl ?_
              refine s_y (y_move rfl) rfl rfl ?_
              refine s_y (y_shr (r := ↑((((procS d.s d.all).1).list.getD i 0) >>> 24).toNat) rfl rfl (by decide) (shr32 _ 24 _ rfl (by decide))) rfl rfl ?_
              refine s_y (y_conv (r := ↑(low32 ((((procS d.s d.all).1).list.getD i 0) >>> 24)).toNat) Tryd.underlying74 Tryd.underlying5 rfl (conv_low32 _)) rfl rfl ?_
              refine s_y (y_move rfl) rfl rfl ?_
              refine s_y (y_shr (r := ↑((((procS d.s d.all).1).list.getD i 0) >>> 16).toNat) rfl rfl (by decide) (shr32 _ 16 _ rfl (by decide))) rfl rfl ?_
              refine s_y (y_conv (r := ↑(low32 ((((procS d.s d.all).1).list.getD i 0) >>> 16)).toNat) Tryd.underlying74 Tryd.underlying5 rfl (conv_low32 _)) rfl rfl ?_
              refine s_y (y_move rfl) rfl rfl ?_
              refine s_y (y_shr (r := ↑((((procS d.s d.all).1).list.getD i 0) >>> 8).toNat) rfl rfl (by decide) (shr32 _ 8 _ rfl (by decide))) rfl rfl ?_
              refine s_y (y_conv (r := ↑(low32 ((((procS d.s d.all).1).list.getD i 0) >>> 8)).toNat) Tryd.underlying74 Tryd.underlying5 rfl (conv_low32 _)) rfl rfl ?_
              refine s_y (y_move rfl) rfl rfl ?_
              refine s_y (y_conv (r := ↑(low32 (((procS d.s d.all).1).list.getD i 0)).toNat) Tryd.underlying74 Tryd.underlying5 rfl (conv_low32 _)) rfl rfl ?_
              refine s_y (y_indexArr (r := 4 * i) Tryd.underlying26 T.ty5 rfl rfl (by omega) (by omega) (by omega)) rfl rfl ?_
              refine s_d (d_store (cs := [.int .u8 (↑(low32 ((((procS d.s d.all).1).list.getD i 0) >>> 24)).toNat)]) (l' := ((digP (procS d.s d.all).1 i).set (4 * i) (low32 ((((procS d.s d.all).1).list.getD i 0) >>> 24))).map bv) T.ty5 rfl rfl hout rfl rfl (ones rfl) (by simp [digP_len (procS d.s d.all).1 i (by omega)]; omega) (map_set bv _ _ _)) rfl rfl ?_
              rintro _ w262 ⟨rfl, b263, f264⟩
              replace hp := hp.fr1 f264 ne16
              replace hG := hG.fr1 f264 ne18
              replace b3 := b3.fr1 f264 ne19
              replace hF_ := hF_.fr1 f264 ne31.symm
              clear hout
              have hF265 := hF260.thenNew f264 nw20
              refine s_y (y_indexArr (r := 4 * i + 1) Tryd.underlying26 T.ty5 rfl rfl (by omega) (by omega) (by omega)) rfl rfl ?_
              refine s_d (d_store (cs := [.int .u8 (↑(low32 ((((procS d.s d.all).1).list.getD i 0) >>> 16)).toNat)]) (l' := (((digP (procS d.s d.all).1 i).set (4 * i) (low32 ((((procS d.s d.all).1).list.getD i 0) >>> 24))).set (4 * i + 1) (low32 ((((procS d.s d.all).1).list.getD i 0) >>> 16))).map bv) T.ty5 rfl rfl b263 rfl rfl (ones rfl) (by simp [digP_len (procS d.s d.all).1 i (by omega)]; omega) (map_set bv _ _ _)) rfl rfl ?_
              rintro _ w266 ⟨rfl, b267, f268⟩
              replace hp := hp.fr1 f268 ne16
              replace hG := hG.fr1 f268 ne18
              replace b3 := b3.fr1 f268 ne19
              replace hF_ := hF_.fr1 f268 ne31.symm
              clear b263
              have hF269 := hF265.thenNew f268 nw20
              refine s_y (y_indexArr (r := 4 * i + 2) Tryd.underlying26 T.ty5 rfl rfl (by omega) (by omega) (by omega)) rfl rfl ?_
              refine s_d (d_store (cs := [.int .u8 (↑(low32 ((((procS d.s d.all).1).list.getD i 0) >>> 8)).toNat)]) (l' := ((((digP (procS d.s d.all).1 i).set (4 * i) (low32 ((((procS d.s d.all).1).list.getD i 0) >>> 24))).set (4 * i + 1) (low32 ((((procS d.s d.all).1).list.getD i 0) >>> 16))).set (4 * i + 2) (low32 ((((procS d.s d.all).1).list.getD i 0) >>> 8))).map bv) T.ty5 rfl rfl b267 rfl rfl (ones rfl) (by simp [digP_len (procS d.s d.all).1 i (by omega)]; omega) (map_set bv _ _ _)) rfl rfl ?_
              rintro _ w270 ⟨rfl, b271, f272⟩
              replace hp := hp.fr1 f272 ne16
              replace hG := hG.fr1 f272 ne18
              replace b3 := b3.fr1 f272 ne19
              replace hF_ := hF_.fr1 f272 ne31.symm
              clear b267
              have hF273 := hF269.thenNew f272 nw20
              refine s_y (y_indexArr (r := 4 * i + 3) Tryd.underlying26 T.ty5 rfl rfl (by omega) (by omega) (by omega)) rfl rfl ?_
              refine s_d (d_store (cs := [.int .u8 (↑(low32 (((procS d.s d.all).1).list.getD i 0)).toNat)]) (l' := (((((digP (procS d.s d.all).1 i).set (4 * i) (low32 ((((procS d.s d.all).1).list.getD i 0) >>> 24))).set (4 * i + 1) (low32 ((((procS d.s d.all).1).list.getD i 0) >>> 16))).set (4 * i + 2) (low32 ((((procS d.s d.all).1).list.getD i 0) >>> 8))).set (4 * i + 3) (low32 (((procS d.s d.all).1).list.getD i 0))).map bv) T.ty5 rfl rfl b271 rfl rfl (ones rfl) (by simp [digP_len (procS d.s d.all).1 i (by omega)]; omega) (map_set bv _ _ _)) rfl rfl ?_
              rintro _ w274 ⟨rfl, b275, f276⟩
              replace hp := hp.fr1 f276 ne16
              replace hG := hG.fr1 f276 ne18
              replace b3 := b3.fr1 f276 ne19
              replace hF_ := hF_.fr1 f276 ne31.symm
              clear b271
              have hF277 := hF273.thenNew f276 nw20
              refine s_nil ?_
              refine n_inb ?_
              refine n_then ?_
              refine c_region ?_
              refine s_y (y_add rfl rfl (wrI (by omega) (by omega))) rfl rfl ?_
              refine s_y (y_move rfl) rfl rfl ?_
              refine s_nil ?_
              exact fun a ha => ⟨_, by omega, i + 1, rfl, ha.cut ⟨rfl, rfl, rfl, (iv (by omega)), trivial⟩, hF277, hp, hG, b3, hF_, (by rw [← digP_step (procS d.s d.all).1 i (by omega)]; exact b275), by omega⟩
            · intro h278
              replace h278 : ¬ ((↑i : Int) < 8) := of_decide_eq_false h278
              refine c_exit ?_
              refine x_then ?_
              obtain rfl : i = 8 := by omega
              replace hout : Blk W257 g11 26 d.sum.cells := hout
              refine x_then ?_
              refine x_hit ?_
              refine n_then ?_
              refine c_seq ?_
              refine c_region ?_
              refine s_y (y_ldBA (xs := d.sum.cells) T.ty26 rfl hout (Dig.len _) (take_all _ (Dig.len _))) rfl rfl ?_
              refine s_d (d_store (cs := d.sum.cells) (l' := d.sum.cells) T.ty26 rfl rfl b3 rfl (by simp [Dig.len]) (ones (by simp [all_bv, all_u32, all_ent, all_dig, all_ents])) (by simp [Dig.len, Dig.len]) (setL_all (by simp [Dig.len, Dig.len]))) rfl rfl ?_
              rintro _ w279 ⟨rfl, b280, f281⟩
              replace hp := hp.fr1 f281 ne6
              replace hG := hG.fr1 f281 ne8
              replace hF_ := hF_.fr1 f281 ne30.symm
              replace hout := hout.fr1 f281 ne19.symm
              clear b3
              have hF282 := hF260.thenNew f281 nw9
              refine s_nil ?_
              refine n_then ?_
              refine c_ret ?_
              refine fin1 (by simp) rfl (rv_A (xs := d.sum.cells) T.ty26 rfl b280 (by simp [Dig.len]) (take_all _ (by simp [Dig.len]))) ?_
              exact ⟨rfl, hF282⟩

end Go.Proofs.YtojbephcahnbbaaDoor
