/- The digest's functions, second part. No condition. -/
import Derived.Test.YtojbephcahnbbaaDoorSha2
import Derived.Test.YtojbephcahnbbaaDoorB
import Derived.Test.YtojbephcahnbbaaDoorCT
import Derived.Test.YtojbephcahnbbaaDoorProg
set_option linter.unusedVariables false
set_option linter.unusedSimpArgs false
namespace Go.Proofs.YtojbephcahnbbaaDoor
open Go Go.Proofs.GP Go.Proofs.Tryd
set_option maxRecDepth 100000 in
theorem dnew_ok  (w : World) :
    Calls Tryd.prog 39 #[] w fun e w' => ∃ g, e = .returned (.pointer (some ⟨g, 0, none⟩)) ∧ Fr [] w w' ∧ w.heap.size ≤ g ∧ Blk w' g 81 (Dg.new.cells none 0) := by
  refine c_start (args := []) Tryd.func39 rfl rfl rfl ?_
  try simp only [enum, Nat.zero_add, Nat.reduceAdd]
  have hF0 := Fr.refl [] w
  refine c_seq ?_
  refine c_region ?_
  refine s_y (y_assign rfl) rfl rfl ?_
  refine s_nil ?_
  refine n_then ?_
  refine c_seq ?_
  refine c_region ?_
  refine s_y (y_build rfl (T.init79 _)) rfl rfl ?_
  refine s_y (y_build (vs := [(0, .agg init8.cells.toArray), (3, .bool true)]) rfl (T.lit1 init8.cells (by simp [S8.len]) true _)) rfl rfl ?_
  refine s_d (d_box (cs := init8.cells ++ ([.slice none 0 0, .int .u64 0, .bool true] : List Value)) rfl rfl) rfl rfl ?_
  rintro _ w2 ⟨g1, rfl, hg5, b3, f4⟩
  have nw6 := Nat.le_trans hF0.size hg5
  have hF7 := hF0.then0 f4
  refine s_y (y_assign rfl) rfl rfl ?_
  refine s_nil ?_
  refine n_then ?_
  refine c_ret ?_
  refine fin1 (by simp) rfl rfl ?_
  exact ⟨_, rfl, hF7, nw6, b3⟩

set_option maxRecDepth 100000 in
theorem dadd_ok (p g c gb ob cb : Nat) (A Ab : Option Addr) (d : Dg) (b : List UInt8) (w : World) (hl : d.rest.length + b.length ≤ 1099511627776) (h0 : 0 ≠ p) (h0g : 0 ≠ g) (hgp : gb ≠ p) (hgg : gb ≠ g) (hg0 : A = none ∨ g ≠ 0) (hp : Blk w p 81 [.int .u32 ↑d.s.a.toNat, .int .u32 ↑d.s.c.toNat, .int .u32 ↑d.s.d.toNat, .int .u32 ↑d.s.e.toNat, .int .u32 ↑d.s.f.toNat, .int .u32 ↑d.s.g.toNat, .int .u32 ↑d.s.h.toNat, .int .u32 ↑d.s.i.toNat, .slice A d.rest.length c, .int .u64 ↑d.n.toNat, .bool true]) (ho : Own w A g d.rest.length c 5 1 (d.rest.map bv)) (hb : Row w Ab gb ob b.length 1 (b.map bv)) (hG : Row w (some ⟨0, 0, none⟩) 0 0 64 1 (roots.map wv)) :
    Calls Tryd.prog 40 #[.pointer (some ⟨p, 0, none⟩), .slice Ab b.length cb] w fun e w' => ∃ A' g' c', e = .returned (.tuple #[]) ∧ Fr [p, g] w w' ∧ Blk w' p 81 ((d.add b).cells A' c') ∧ Own w' A' g' (d.add b).rest.length c' 5 1 ((d.add b).rest.map bv) ∧ (A' = none ∨ g' ∈ ([p, g] : List Nat) ∨ w.heap.size ≤ g') := by
  refine c_start (args := [.pointer (some ⟨p, 0, none⟩), .slice Ab b.length cb]) Tryd.func40 rfl rfl rfl ?_
  try simp only [enum, Nat.zero_add, Nat.reduceAdd]
  have hF0 := Fr.refl [p, g] w
  have lt_hp := hp.lt
  have lt_hb := hb.lt'
  have lt_hG := hG.lt'
  refine c_seq ?_
  refine c_seq ?_
  refine c_region ?_
  refine s_y (y_move rfl) rfl rfl ?_
  refine s_y (y_pn Tryd.underlying71 rfl rfl) rfl rfl ?_
  refine s_y (y_move rfl) rfl rfl ?_
  refine s_gy (y_move rfl) ⟨_, _, _, _, rfl, rfl, rfl, rfl⟩ rfl ?_
  refine s_gy (y_nilCheck rfl) ⟨_, _, _, _, rfl, rfl, rfl, rfl⟩ rfl ?_
  refine s_gy (y_field rfl T.fld81_3 rfl) ⟨_, _, _, _, rfl, rfl, rfl, rfl⟩ rfl ?_
  refine s_gy (y_ldB (v := .bool true) T.ty4 rfl hp rfl) ⟨_, _, _, _, rfl, rfl, rfl, rfl⟩ rfl ?_
  refine s_gy (y_not rfl rfl) ⟨_, _, _, _, rfl, rfl, rfl, rfl⟩ rfl ?_
  refine s_y (y_pick rfl rfl rfl rfl) rfl rfl ?_
  refine s_nil ?_
  refine n_then ?_
  refine c_false rfl ?_
  refine c_skip ?_
  refine n_then ?_
  refine c_seq ?_
  refine c_region ?_
  refine s_y (y_move rfl) rfl rfl ?_
  refine s_y (y_nilCheck rfl) rfl rfl ?_
  refine s_y (y_field rfl T.fld81_2 rfl) rfl rfl ?_
  refine s_y (y_ldB (v := .int .u64 ↑d.n.toNat) T.ty59 rfl hp rfl) rfl rfl ?_
  refine s_y (y_move rfl) rfl rfl ?_
  refine s_y (y_len Tryd.underlying64 rfl) rfl rfl ?_
  refine s_y (y_conv (r := ↑(n64 b.length).toNat) Tryd.underlying3 Tryd.underlying59 rfl (conv_n64 _)) rfl rfl ?_
  refine s_y (y_add (r := ↑(d.n + (n64 b.length)).toNat) rfl rfl (add64 _ _)) rfl rfl ?_
  refine s_y (y_nilCheck rfl) rfl rfl ?_
  refine s_y (y_field rfl T.fld81_2 rfl) rfl rfl ?_
  refine s_d (d_store (cs := [.int .u64 (↑(d.n + (n64 b.length)).toNat)]) (l' := [.int .u32 ↑d.s.a.toNat, .int .u32 ↑d.s.c.toNat, .int .u32 ↑d.s.d.toNat, .int .u32 ↑d.s.e.toNat, .int .u32 ↑d.s.f.toNat, .int .u32 ↑d.s.g.toNat, .int .u32 ↑d.s.h.toNat, .int .u32 ↑d.s.i.toNat, .slice A d.rest.length c, .int .u64 (↑(d.n + (n64 b.length)).toNat), .bool true]) T.ty59 rfl rfl hp rfl rfl (ones rfl) (Nat.le_of_ble_eq_true rfl) rfl) rfl rfl ?_
  rintro _ w1 ⟨rfl, b2, f3⟩
  have ne4 := ho.ne_blk hp (by decide)
  replace ho := ho.fr1 f3 ne4
  replace hb := hb.fr1 f3 (by first | exact .inr (by omega) | exact lt_hb.imp id fun h => by omega)
  replace hG := hG.fr1 f3 (by first | exact .inr (by omega) | exact lt_hG.imp id fun h => by omega)
  clear hp
  have hF5 := hF0.thenIn f3 (by simp)
  refine s_nil ?_
  refine n_then ?_
  refine c_seq ?_
  refine c_region ?_
  refine s_y (y_move rfl) rfl rfl ?_
  refine s_y (y_move rfl) rfl rfl ?_
  refine s_y (y_nilCheck rfl) rfl rfl ?_
  refine s_y (y_field rfl T.fld81_1 rfl) rfl rfl ?_
  refine s_y (y_ldB (v := .slice A d.rest.length c) T.ty64 rfl b2 rfl) rfl rfl ?_
  refine s_y (y_move rfl) rfl rfl ?_
  refine s_d (d_append Tryd.underlying64 T.ty5 T.app5 rfl ho rfl (src_row Tryd.underlying64 T.ty5 hb ()) (ones (by first | exact all_bv _ | exact all_wv _ | exact rfl | simp [all_bv, all_u32, all_ent, all_dig, all_ents])) (by omega)) rfl rfl ?_
  rintro _ w9 ⟨A6, g7, c8, rfl, o10, f11, hat12⟩
  replace o10 : Own w9 A6 g7 (d.rest.length + b.length) c8 5 1 ((d.rest ++ b).map bv) := (by simpa using o10)
  obtain ⟨hno10⟩ : Nonempty (d.rest.length + b.length = (d.rest ++ b).length) := ⟨by simp⟩
  rw [hno10] at o10 ⊢
  replace hb := hb.fr f11 (.inr (no_own (.inr (by omega))))
  replace hG := hG.fr f11 (.inr (no_own (.inr (by omega))))
  have ne14 := app_ap hat12 (ho.ne_blk b2 (by decide)) b2.lt
  replace b2 := b2.fr f11 (no_own (ho.ne_blk b2 (by decide)))
  have wh15 : A6 = none ∨ g7 ∈ ([p, g] : List Nat) ∨ w.heap.size ≤ g7 := app_wh hat12 (.inr (.inl (by simp))) hF5.size
  have hF16 := hF5.thenOwnIn f11 (.inr (.inl (by simp)))
  refine s_y (y_nilCheck rfl) rfl rfl ?_
  refine s_y (y_field rfl T.fld81_1 rfl) rfl rfl ?_
  refine s_d (d_store (cs := [.slice A6 ((d.rest ++ b).length) c8]) (l' := [.int .u32 ↑d.s.a.toNat, .int .u32 ↑d.s.c.toNat, .int .u32 ↑d.s.d.toNat, .int .u32 ↑d.s.e.toNat, .int .u32 ↑d.s.f.toNat, .int .u32 ↑d.s.g.toNat, .int .u32 ↑d.s.h.toNat, .int .u32 ↑d.s.i.toNat, .slice A6 ((d.rest ++ b).length) c8, .int .u64 (↑(d.n + (n64 b.length)).toNat), .bool true]) T.ty64 rfl rfl b2 rfl rfl (ones rfl) (Nat.le_of_ble_eq_true rfl) rfl) rfl rfl ?_
  rintro _ w17 ⟨rfl, b18, f19⟩
  replace hb := hb.fr1 f19 (by first | exact .inr (by omega) | exact lt_hb.imp id fun h => by omega)
  replace hG := hG.fr1 f19 (by first | exact .inr (by omega) | exact lt_hG.imp id fun h => by omega)
  replace o10 := o10.fr1 f19 ne14
  clear b2
  have hF20 := hF16.thenIn f19 (by simp)
  refine s_nil ?_
  refine n_then ?_
  refine c_block ?_
  refine c_loop (fun m a W => ∃ s' : S8, ∃ r' : List UInt8, ∃ A' : Option Addr, ∃ g' : Nat, ∃ c' : Nat, m = r'.length ∧ GP.St 57 [(0, .pointer (some ⟨p, 0, none⟩))] a ∧ Fr [p, g] w W ∧ Row W (some ⟨0, 0, none⟩) 0 0 64 1 (roots.map wv) ∧ Blk W p 81 (((s').cells) ++ ([.slice A' r'.length c', .int .u64 (↑(d.n + n64 b.length).toNat), .bool true] : List Value)) ∧ Own W A' g' r'.length c' 5 1 (r'.map bv) ∧ (procS s' r' = procS d.s (d.rest ++ b)) ∧ (r'.length ≤ 1099511627776) ∧ (A' = none ∨ g' ∈ ([p, g] : List Nat) ∨ w.heap.size ≤ g')) ((d.rest ++ b).length) ?_ ?_
  · intro a ha
    exact ⟨d.s, (d.rest ++ b), A6, g7, c8, rfl, ha.cut ⟨rfl, trivial⟩, hF20, hG, (by simpa [S8.cells, wv, Nat.add_assoc] using b18), (by simpa using o10), rfl, (by simp; omega), wh15⟩
  · rintro _ a W21 ⟨s', r', A', g', c', rfl, hst23, hF24, hG, hpL, hoL, hq, hlr, whL⟩
    refine (show Wc _ _ _ _ _ _ from ?_) a hst23
    clear hst23 a
    refine c_seq ?_
    refine c_seq ?_
    refine c_region ?_
    refine s_y (y_move rfl) rfl rfl ?_
    refine s_y (y_nilCheck rfl) rfl rfl ?_
    refine s_y (y_field rfl T.fld81_1 rfl) rfl rfl ?_
    refine s_y (y_ldB (v := .slice A' r'.length c') T.ty64 rfl hpL (seg_at (n := 8) (by simp [S8.len]) 0 rfl)) rfl rfl ?_
    refine s_y (y_len Tryd.underlying64 rfl) rfl rfl ?_
    refine s_y (y_geq rfl rfl rfl) rfl rfl ?_
    refine s_nil ?_
    refine n_then ?_
    refine c_cond rfl ?_ ?_
    · intro h25
      replace h25 : (64 : Int) ≤ ↑r'.length := of_decide_eq_true h25
      refine c_skip ?_
      refine n_then ?_
      refine c_block ?_
      refine c_seq ?_
      refine dr_begin (fun _ => True) 9 (by kernel_rfl) ?_
      intro w26 f27
      replace hG := hG.fr0 f27
      replace hpL := hpL.fr0 f27
      replace hoL := hoL.fr0 f27
      have hF28 := hF24.then0 f27
      refine dr_y 0 rfl (fun _ => y_move rfl) rfl (by kernel_rfl) (qp_then (qp_inb (qp_then (qp_inb qp_body)))) (fun _ => trivial) ?_
      refine dr_y 1 rfl (fun _ => y_nilCheck rfl) rfl (by kernel_rfl) (qp_then (qp_inb (qp_then (qp_inb qp_body)))) (fun _ => trivial) ?_
      refine dr_y 2 rfl (fun _ => y_field rfl T.fld81_0 rfl) rfl (by kernel_rfl) (qp_then (qp_inb (qp_then (qp_inb qp_body)))) (fun _ => trivial) ?_
      refine dr_y 3 rfl (fun _ => y_move rfl) rfl (by kernel_rfl) (qp_then (qp_inb (qp_then (qp_inb qp_body)))) (fun _ => trivial) ?_
      refine dr_y 4 rfl (fun _ => y_nilCheck rfl) rfl (by kernel_rfl) (qp_then (qp_inb (qp_then (qp_inb qp_body)))) (fun _ => trivial) ?_
      refine dr_y 5 rfl (fun _ => y_field rfl T.fld81_1 rfl) rfl (by kernel_rfl) (qp_then (qp_inb (qp_then (qp_inb qp_body)))) (fun _ => trivial) ?_
      refine dr_1 (i := 6) (by kernel_rfl) ?_
      refine rd_d rfl (doe_y (y_ldB (v := .slice A' r'.length c') T.ty64 rfl hpL (seg_at (n := 8) (by simp [S8.len]) 0 rfl))) rfl rfl ?_
      rintro _ _ ⟨rfl, rfl⟩
      refine ⟨fun _ => trivial, ?_⟩
      refine dr_1 (i := 7) (by kernel_rfl) ?_
      refine rd_d rfl (d_sliceh (l := 0) (m := 64) (n' := 64) (o' := 0) (ys := ((r'.take 64).map bv)) Tryd.underlying64 T.ty5 rfl rfl (by omega) hoL.row (by omega) (by omega) hoL.cap (by omega) (by omega) (cut_head bv r' 64)) rfl rfl ?_
      rintro _ _ ⟨A29, c30, rfl, rfl, r31, hc32⟩
      refine ⟨fun _ => trivial, ?_⟩
      refine dr_1 (i := 8) (by kernel_rfl) ?_
      refine rd_d rfl (d_callR T.ent44 (vs := [.pointer (some ⟨p, 0, none⟩), .slice A29 64 c30]) rfl (turn_ok p 81 g' 0 _ A29 s' [.slice A' r'.length c', .int .u64 (↑(d.n + n64 b.length).toNat), .bool true] (r'.take 64) _ (by simp; omega) (by omega) (own_ne hoL hpL (by decide) (by simp; omega)) hpL r31 hG) (by rintro e w' ⟨rfl, -⟩; exact ⟨_, rfl⟩)) rfl rfl ?_
      rintro v35 w33 ⟨hv36, f34, hpT⟩
      obtain rfl := ret_inj hv36
      have ne37 := hoL.ne_blk hpL (by decide)
      replace hG := hG.fr1 f34 (by first | exact .inr (by omega) | exact lt_hG.imp id fun h => by omega)
      clear hpL
      replace hoL := hoL.fr1 f34 ne37
      have hF38 := hF28.thenIn f34 (by simp)
      refine ⟨fun _ => trivial, ?_⟩
      refine dr_done (by kernel_rfl) ?_
      refine n_then ?_
      refine c_region ?_
      refine s_y (y_move rfl) rfl rfl ?_
      have hlit39 := (T.lit2 )
      refine s_d (d_bs2 hlit39 trivial) rfl rfl ?_
      rintro _ w41 ⟨g40, rfl, hg44, b42, f43⟩
      have ne45 := row_ne_new hG hg44
      have ne46 := hoL.ne_new hg44
      have ne47 : p ≠ g40 := Nat.ne_of_lt (Nat.lt_of_lt_of_le hpT.lt hg44)
      have nw48 := Nat.le_trans hF38.size hg44
      replace hG := hG.fr0 f43
      replace hoL := hoL.fr0 f43
      replace hpT := hpT.fr0 f43
      have hF49 := hF38.then0 f43
      have o50 := Own.of_blk (n := 0) (k := 1) b42 rfl (by decide)
      refine s_y (y_move rfl) rfl rfl ?_
      refine s_y (y_nilCheck rfl) rfl rfl ?_
      refine s_y (y_field rfl T.fld81_1 rfl) rfl rfl ?_
      refine s_y (y_ldB (v := .slice A' r'.length c') T.ty64 rfl hpT (seg_at (n := 8) (by simp [S8.len]) 0 rfl)) rfl rfl ?_
      refine s_d (d_slicel (l := 64) (m := r'.length) (n' := r'.length - 64) (o' := 0 + (64 * 1)) (ys := ((r'.drop 64).map bv)) Tryd.underlying64 T.ty5 rfl rfl (by omega) hoL.row (by omega) (by omega) hoL.cap (by omega) (by omega) (cut_tail bv r' 64 r'.length (Nat.le_refl _))) rfl rfl ?_
      rintro _ _ ⟨A51, c52, rfl, rfl, r53, hc54⟩
      refine s_d (d_append Tryd.underlying64 T.ty5 T.app5 rfl o50 rfl (src_row Tryd.underlying64 T.ty5 r53 ()) (ones (by first | exact all_bv _ | exact all_wv _ | exact rfl | simp [all_bv, all_u32, all_ent, all_dig, all_ents])) (by omega)) rfl rfl ?_
      rintro _ w58 ⟨A55, g56, c57, rfl, o59, f60, hat61⟩
      replace hG := hG.fr f60 (nin ne45)
      replace hoL := hoL.fr f60 (nin ne46)
      have ne63 := app_ap hat61 (.inr (Ne.symm ne47)) hpT.lt
      replace hpT := hpT.fr f60 (no_own (.inr (Ne.symm ne47)))
      have wh64 : A55 = none ∨ g56 ∈ ([p, g] : List Nat) ∨ w.heap.size ≤ g56 := app_wh hat61 (.inr (.inr nw48)) hF49.size
      have hF65 := hF49.thenOwnIn f60 (.inr (.inr nw48))
      refine s_y (y_nilCheck rfl) rfl rfl ?_
      refine s_y (y_field rfl T.fld81_1 rfl) rfl rfl ?_
      refine s_d (d_store (cs := [.slice A55 (0 + (r'.length - 64)) c57]) (l' := ((turnS s' (r'.take 64)).cells) ++ ([.slice A55 (0 + (r'.length - 64)) c57, .int .u64 (↑(d.n + n64 b.length).toNat), .bool true] : List Value)) T.ty64 rfl rfl hpT rfl rfl (ones rfl) (by simp [S8.len]) (setL_seg (n := 8) (by simp [S8.len]) _ _ 0)) rfl rfl ?_
      rintro _ w66 ⟨rfl, b67, f68⟩
      have ne69 := hoL.ne_blk hpT (by decide)
      replace hG := hG.fr1 f68 (by first | exact .inr (by omega) | exact lt_hG.imp id fun h => by omega)
      replace hoL := hoL.fr1 f68 ne69
      replace o59 := o59.fr1 f68 ne63
      clear hpT
      have hF70 := hF65.thenIn f68 (by simp)
      refine s_nil ?_
      refine n_inb ?_
      exact fun a ha => ⟨_, by rw [List.length_drop]; omega, turnS s' (r'.take 64), r'.drop 64, A55, g56, c57, rfl, ha.cut ⟨rfl, trivial⟩, hF70, hG, (by simpa using b67), (by simpa using o59), (procS_step s' r' (by omega)).trans hq, by rw [List.length_drop]; omega, wh64⟩
    · intro h71
      replace h71 : ¬ ((64 : Int) ≤ ↑r'.length) := of_decide_eq_false h71
      refine c_exit ?_
      refine x_then ?_
      refine x_then ?_
      refine x_hit ?_
      refine fin0 (by simp) rfl  ?_
      have hfin := (procS_done s' r' (by omega)).symm.trans hq
      have h1 : s' = (d.add b).s := congrArg Prod.fst hfin
      have h2 : r' = (d.add b).rest := congrArg Prod.snd hfin
      subst h1; subst h2
      exact ⟨_, _, _, rfl, hF24, hpL, hoL, whL⟩

end Go.Proofs.YtojbephcahnbbaaDoor
