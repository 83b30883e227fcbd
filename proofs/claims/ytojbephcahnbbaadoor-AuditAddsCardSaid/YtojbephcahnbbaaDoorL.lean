/- The reference digest of a block. No condition. -/
import Derived.Test.YtojbephcahnbbaaDoorSha4
import Derived.Test.YtojbephcahnbbaaDoorLT
import Derived.Test.YtojbephcahnbbaaDoorProg
set_option linter.unusedVariables false
set_option linter.unusedSimpArgs false
namespace Go.Proofs.YtojbephcahnbbaaDoor
open Go Go.Proofs.GP Go.Proofs.Tryd
set_option maxRecDepth 100000 in
theorem ror45_ok (x : B32) (n : Nat) (w : World) (hn : n ≤ 32) :
    Calls Tryd.prog 45 #[.int .u32 ↑x.toNat, .int .u64 ↑n] w fun e w' => e = .returned (.int .u32 ↑(ror x n).toNat) ∧ Fr [] w w' := by
  refine c_start (args := [.int .u32 ↑x.toNat, .int .u64 ↑n]) Tryd.func45 rfl rfl rfl ?_
  try simp only [enum, Nat.zero_add, Nat.reduceAdd]
  have hF0 := Fr.refl [] w
  refine c_seq ?_
  refine c_region ?_
  refine s_y (y_assign rfl) rfl rfl ?_
  refine s_nil ?_
  refine n_then ?_
  refine c_seq ?_
  refine c_region ?_
  refine s_y (y_move rfl) rfl rfl ?_
  refine s_y (y_move rfl) rfl rfl ?_
  refine s_y (y_shr (r := ↑(x >>> n).toNat) rfl rfl (by omega) (shr32 _ n _ (by omega) (by omega))) rfl rfl ?_
  refine s_y (y_move rfl) rfl rfl ?_
  refine s_y (y_move rfl) rfl rfl ?_
  refine s_y (y_sub (r := ↑(32 - n)) rfl rfl (by rw [show ((32 : Int) - ↑n) = ↑(32 - n) by omega, wrap_u64]; omega)) rfl rfl ?_
  refine s_y (y_shl (r := ↑(x <<< (32 - n)).toNat) rfl rfl (by omega) (shl32 _ (32 - n) _ (by omega) (by omega))) rfl rfl ?_
  refine s_y (y_or (r := ↑((x >>> n) ||| (x <<< (32 - n))).toNat) rfl rfl (or32 _ _)) rfl rfl ?_
  refine s_y (y_assign rfl) rfl rfl ?_
  refine s_nil ?_
  refine n_then ?_
  refine c_ret ?_
  refine fin1 (by simp) rfl rfl ?_
  exact ⟨rfl, hF0⟩

set_option maxRecDepth 100000 in
theorem cubes_ok  (w : World) :
    Calls Tryd.prog 46 #[] w fun e w' => ∃ g, e = .returned (.slice (some ⟨g, 0, none⟩) 64 64) ∧ Fr [] w w' ∧ w.heap.size ≤ g ∧ Blk w' g 74 (roots.map wv) := by
  refine c_start (args := []) Tryd.func46 rfl rfl rfl ?_
  try simp only [enum, Nat.zero_add, Nat.reduceAdd]
  have hF0 := Fr.refl [] w
  refine c_seq ?_
  refine c_region ?_
  refine s_y (y_assign rfl) rfl rfl ?_
  refine s_nil ?_
  refine n_then ?_
  refine c_seq ?_
  refine c_region ?_
  refine s_d (d_bs2 T.cubesLit ⟨rfl, rfl, rfl, rfl, rfl, rfl, rfl, rfl, rfl, rfl, rfl, rfl, rfl, rfl, rfl, rfl, rfl, rfl, rfl, rfl, rfl, rfl, rfl, rfl, rfl, rfl, rfl, rfl, rfl, rfl, rfl, rfl, rfl, rfl, rfl, rfl, rfl, rfl, rfl, rfl, rfl, rfl, rfl, rfl, rfl, rfl, rfl, rfl, rfl, rfl, rfl, rfl, rfl, rfl, rfl, rfl, rfl, rfl, rfl, rfl, rfl, rfl, rfl, rfl, rfl, rfl, rfl, rfl, rfl, rfl, rfl, rfl, rfl, rfl, rfl, rfl, rfl, rfl, rfl, rfl, rfl, rfl, rfl, rfl, rfl, rfl, rfl, rfl, rfl, rfl, rfl, rfl, rfl, rfl, rfl, rfl, rfl, rfl, rfl, rfl, rfl, rfl, rfl, rfl, rfl, rfl, rfl, rfl, rfl, rfl, rfl, rfl, rfl, rfl, rfl, rfl, rfl, rfl, rfl, rfl, rfl, rfl, rfl, rfl, rfl, rfl, rfl, rfl, trivial⟩) rfl rfl ?_
  rintro _ w2 ⟨g1, rfl, hg5, b3, f4⟩
  have nw6 := Nat.le_trans hF0.size hg5
  have hF7 := hF0.then0 f4
  refine s_y (y_assign rfl) rfl rfl ?_
  refine s_nil ?_
  refine n_then ?_
  refine c_ret ?_
  refine fin1 (by simp) rfl rfl ?_
  exact ⟨_, rfl, hF7, nw6, b3⟩

set_option maxRecDepth 100000 in
theorem block42_ok (gs os cs gb ob cb : Nat) (As Ab : Option Addr) (s : S8) (bs : List UInt8) (w : World) (hb : bs.length = 64) (hs : Row w As gs os 8 1 s.cells) (hbs : Row w Ab gb ob 64 1 (bs.map bv)) :
    Calls Tryd.prog 42 #[.slice As 8 cs, .slice Ab 64 cb] w fun e w' => ∃ A' g' c', e = .returned (.slice A' 8 c') ∧ Fr [] w w' ∧ Own w' A' g' 8 c' 74 1 (turnS s bs).cells ∧ (A' = none ∨ w.heap.size ≤ g') := by
  refine c_start (args := [.slice As 8 cs, .slice Ab 64 cb]) Tryd.func42 rfl rfl rfl ?_
  try simp only [enum, Nat.zero_add, Nat.reduceAdd]
  have hF0 := Fr.refl [] w
  have lt_hs := hs.lt'
  have lt_hbs := hbs.lt'
  refine c_seq ?_
  refine c_region ?_
  refine s_y (y_assign rfl) rfl rfl ?_
  refine s_nil ?_
  refine n_then ?_
  refine c_seq ?_
  refine c_region ?_
  refine s_d (d_make (cs := (sched bs 0).map wv) rfl rfl T.make75) rfl rfl ?_
  rintro _ w2 ⟨g1, rfl, hg5, b3, f4⟩
  have ne6 := row_ne_new hs hg5
  have ne7 := row_ne_new hbs hg5
  have nw8 := Nat.le_trans hF0.size hg5
  replace hs := hs.fr0 f4
  replace hbs := hbs.fr0 f4
  have hF9 := hF0.then0 f4
  refine s_y (y_assign rfl) rfl rfl ?_
  refine s_nil ?_
  refine n_then ?_
  refine c_seq ?_
  refine c_seq ?_
  refine c_region ?_
  refine s_y (y_assign rfl) rfl rfl ?_
  refine s_nil ?_
  refine n_then ?_
  refine c_block ?_
  refine c_loop (fun m a W => ∃ t : Nat, m = 16 - t ∧ GP.St 228 [(0, .slice As 8 cs), (1, .slice Ab 64 cb), (5, .slice (some ⟨g1, 0, none⟩) 64 64), (6, .int .i64 ↑t)] a ∧ Fr [] w W ∧ Row W As gs os 8 1 s.cells ∧ Row W Ab gb ob 64 1 (bs.map bv) ∧ Blk W g1 74 ((sched bs t).map wv) ∧ (t ≤ 16)) (16) ?_ ?_
  · intro a ha
    exact ⟨0, rfl, ha.cut ⟨rfl, rfl, rfl, rfl, trivial⟩, hF9, hs, hbs, b3, Nat.zero_le _⟩
  · rintro _ a W10 ⟨t, rfl, hst12, hF13, hs, hbs, hw, ht⟩
    refine (show Wc _ _ _ _ _ _ from ?_) a hst12
    clear hst12 a
    refine c_seq ?_
    refine c_seq ?_
    refine c_region ?_
    refine s_y (y_move rfl) rfl rfl ?_
    refine s_y (y_lss rfl rfl rfl) rfl rfl ?_
    refine s_nil ?_
    refine n_then ?_
    refine c_cond rfl ?_ ?_
    · intro h14
      replace h14 : (↑t : Int) < 16 := of_decide_eq_true h14
      refine c_skip ?_
      refine n_then ?_
      refine c_seq ?_
      refine c_block ?_
      refine dr_begin (fun W => Row W As gs os 8 1 s.cells ∧ Row W Ab gb ob 64 1 (bs.map bv) ∧ Blk W g1 74 ((sched bs t).map wv)) 36 (by kernel_rfl) ?_
      intro w15 f16
      replace hs := hs.fr0 f16
      replace hbs := hbs.fr0 f16
      replace hw := hw.fr0 f16
      have hF17 := hF13.then0 f16
      refine dr_y 0 rfl (fun _ => y_move rfl) rfl (by kernel_rfl) (qp_inb (qp_then (qp_then (qp_inb (qp_then qp_body))))) (fun _ => ⟨hs, hbs, hw⟩) ?_
      refine dr_y 1 rfl (fun _ => y_move rfl) rfl (by kernel_rfl) (qp_inb (qp_then (qp_then (qp_inb (qp_then qp_body))))) (fun _ => ⟨hs, hbs, hw⟩) ?_
      refine dr_y 2 rfl (fun _ => y_move rfl) rfl (by kernel_rfl) (qp_inb (qp_then (qp_then (qp_inb (qp_then qp_body))))) (fun _ => ⟨hs, hbs, hw⟩) ?_
      refine dr_y 3 rfl (fun _ => y_move rfl) rfl (by kernel_rfl) (qp_inb (qp_then (qp_then (qp_inb (qp_then qp_body))))) (fun _ => ⟨hs, hbs, hw⟩) ?_
      refine dr_y 4 rfl (fun _ => y_mul rfl rfl (wrI (by omega) (by omega))) rfl (by kernel_rfl) (qp_inb (qp_then (qp_then (qp_inb (qp_then qp_body))))) (fun _ => ⟨hs, hbs, hw⟩) ?_
      refine dr_y 5 rfl (fun _ => y_index (r := ob + (4 * t)) Tryd.underlying64 T.ty5 rfl rfl (hbs.addr (j := (4 * t)) (by first | (simp; omega) | (show _ < 8; omega))) (by omega) (by omega) (by omega)) rfl (by kernel_rfl) (qp_inb (qp_then (qp_then (qp_inb (qp_then qp_body))))) (fun _ => ⟨hs, hbs, hw⟩) ?_
      refine dr_l 6 rfl (fun _ hS => by obtain ⟨q0, q1, q2⟩ := hS; exact y_ldR (v := .int .u8 (↑(bs.getD (4 * t) 0).toNat)) (j := (4 * t)) T.ty5 rfl q1 (by first | rfl | omega) (map_at bv bs (4 * t) 0 (by omega))) rfl (by kernel_rfl) (qp_inb (qp_then (qp_then (qp_inb (qp_then qp_body))))) ⟨hs, hbs, hw⟩ ?_
      refine dr_y 7 rfl (fun _ => y_conv (r := ↑(b32 (bs.getD (4 * t) 0)).toNat) Tryd.underlying5 Tryd.underlying74 rfl (conv_b32 _)) rfl (by kernel_rfl) (qp_inb (qp_then (qp_then (qp_inb (qp_then qp_body))))) (fun _ => ⟨hs, hbs, hw⟩) ?_
      refine dr_y 8 rfl (fun _ => y_shl (r := ↑((b32 (bs.getD (4 * t) 0)) <<< 24).toNat) rfl rfl (by decide) (shl32 _ 24 _ rfl (by decide))) rfl (by kernel_rfl) (qp_inb (qp_then (qp_then (qp_inb (qp_then qp_body))))) (fun _ => ⟨hs, hbs, hw⟩) ?_
      refine dr_y 9 rfl (fun _ => y_move rfl) rfl (by kernel_rfl) (qp_inb (qp_then (qp_then (qp_inb (qp_then qp_body))))) (fun _ => ⟨hs, hbs, hw⟩) ?_
      refine dr_y 10 rfl (fun _ => y_move rfl) rfl (by kernel_rfl) (qp_inb (qp_then (qp_then (qp_inb (qp_then qp_body))))) (fun _ => ⟨hs, hbs, hw⟩) ?_
      refine dr_y 11 rfl (fun _ => y_mul rfl rfl (wrI (by omega) (by omega))) rfl (by kernel_rfl) (qp_inb (qp_then (qp_then (qp_inb (qp_then qp_body))))) (fun _ => ⟨hs, hbs, hw⟩) ?_
      refine dr_y 12 rfl (fun _ => y_add rfl rfl (wrI (by omega) (by omega))) rfl (by kernel_rfl) (qp_inb (qp_then (qp_then (qp_inb (qp_then qp_body))))) (fun _ => ⟨hs, hbs, hw⟩) ?_
      refine dr_y 13 rfl (fun _ => y_index (r := ob + (4 * t + 1)) Tryd.underlying64 T.ty5 rfl rfl (hbs.addr (j := (4 * t + 1)) (by first | (simp; omega) | (show _ < 8; omega))) (by omega) (by omega) (by omega)) rfl (by kernel_rfl) (qp_inb (qp_then (qp_then (qp_inb (qp_then qp_body))))) (fun _ => ⟨hs, hbs, hw⟩) ?_
      refine dr_l 14 rfl (fun _ hS => by obtain ⟨q0, q1, q2⟩ := hS; exact y_ldR (v := .int .u8 (↑(bs.getD (4 * t + 1) 0).toNat)) (j := (4 * t + 1)) T.ty5 rfl q1 (by first | rfl | omega) (map_at bv bs (4 * t + 1) 0 (by omega))) rfl (by kernel_rfl) (qp_inb (qp_then (qp_then (qp_inb (qp_then qp_body))))) ⟨hs, hbs, hw⟩ ?_
      refine dr_y 15 rfl (fun _ => y_conv (r := ↑(b32 (bs.getD (4 * t + 1) 0)).toNat) Tryd.underlying5 Tryd.underlying74 rfl (conv_b32 _)) rfl (by kernel_rfl) (qp_inb (qp_then (qp_then (qp_inb (qp_then qp_body))))) (fun _ => ⟨hs, hbs, hw⟩) ?_
      refine dr_y 16 rfl (fun _ => y_shl (r := ↑((b32 (bs.getD (4 * t + 1) 0)) <<< 16).toNat) rfl rfl (by decide) (shl32 _ 16 _ rfl (by decide))) rfl (by kernel_rfl) (qp_inb (qp_then (qp_then (qp_inb (qp_then qp_body))))) (fun _ => ⟨hs, hbs, hw⟩) ?_
      refine dr_y 17 rfl (fun _ => y_or (r := ↑(((b32 (bs.getD (4 * t) 0)) <<< 24) ||| ((b32 (bs.getD (4 * t + 1) 0)) <<< 16)).toNat) rfl rfl (or32 _ _)) rfl (by kernel_rfl) (qp_inb (qp_then (qp_then (qp_inb (qp_then qp_body))))) (fun _ => ⟨hs, hbs, hw⟩) ?_
      refine dr_y 18 rfl (fun _ => y_move rfl) rfl (by kernel_rfl) (qp_inb (qp_then (qp_then (qp_inb (qp_then qp_body))))) (fun _ => ⟨hs, hbs, hw⟩) ?_
      refine dr_y 19 rfl (fun _ => y_move rfl) rfl (by kernel_rfl) (qp_inb (qp_then (qp_then (qp_inb (qp_then qp_body))))) (fun _ => ⟨hs, hbs, hw⟩) ?_
      refine dr_y 20 rfl (fun _ => y_mul rfl rfl (wrI (by omega) (by omega))) rfl (by kernel_rfl) (qp_inb (qp_then (qp_then (qp_inb (qp_then qp_body))))) (fun _ => ⟨hs, hbs, hw⟩) ?_
      refine dr_y 21 rfl (fun _ => y_add rfl rfl (wrI (by omega) (by omega))) rfl (by kernel_rfl) (qp_inb (qp_then (qp_then (qp_inb (qp_then qp_body))))) (fun _ => ⟨hs, hbs, hw⟩) ?_
      refine dr_y 22 rfl (fun _ => y_index (r := ob + (4 * t + 2)) Tryd.underlying64 T.ty5 rfl rfl (hbs.addr (j := (4 * t + 2)) (by first | (simp; omega) | (show _ < 8; omega))) (by omega) (by omega) (by omega)) rfl (by kernel_rfl) (qp_inb (qp_then (qp_then (qp_inb (qp_then qp_body))))) (fun _ => ⟨hs, hbs, hw⟩) ?_
      refine dr_l 23 rfl (fun _ hS => by obtain ⟨q0, q1, q2⟩ := hS; exact y_ldR (v := .int .u8 (↑(bs.getD (4 * t + 2) 0).toNat)) (j := (4 * t + 2)) T.ty5 rfl q1 (by first | rfl | omega) (map_at bv bs (4 * t + 2) 0 (by omega))) rfl (by kernel_rfl) (qp_inb (qp_then (qp_then (qp_inb (qp_then qp_body))))) ⟨hs, hbs, hw⟩ ?_
      refine dr_y 24 rfl (fun _ => y_conv (r := ↑(b32 (bs.getD (4 * t + 2) 0)).toNat) Tryd.underlying5 Tryd.underlying74 rfl (conv_b32 _)) rfl (by kernel_rfl) (qp_inb (qp_then (qp_then (qp_inb (qp_then qp_body))))) (fun _ => ⟨hs, hbs, hw⟩) ?_
      refine dr_y 25 rfl (fun _ => y_shl (r := ↑((b32 (bs.getD (4 * t + 2) 0)) <<< 8).toNat) rfl rfl (by decide) (shl32 _ 8 _ rfl (by decide))) rfl (by kernel_rfl) (qp_inb (qp_then (qp_then (qp_inb (qp_then qp_body))))) (fun _ => ⟨hs, hbs, hw⟩) ?_
      refine dr_y 26 rfl (fun _ => y_or (r := ↑((((b32 (bs.getD (4 * t) 0)) <<< 24) ||| ((b32 (bs.getD (4 * t + 1) 0)) <<< 16)) ||| ((b32 (bs.getD (4 * t + 2) 0)) <<< 8)).toNat) rfl rfl (or32 _ _)) rfl (by kernel_rfl) (qp_inb (qp_then (qp_then (qp_inb (qp_then qp_body))))) (fun _ => ⟨hs, hbs, hw⟩) ?_
      refine dr_y 27 rfl (fun _ => y_move rfl) rfl (by kernel_rfl) (qp_inb (qp_then (qp_then (qp_inb (qp_then qp_body))))) (fun _ => ⟨hs, hbs, hw⟩) ?_
      refine dr_y 28 rfl (fun _ => y_move rfl) rfl (by kernel_rfl) (qp_inb (qp_then (qp_then (qp_inb (qp_then qp_body))))) (fun _ => ⟨hs, hbs, hw⟩) ?_
      refine dr_y 29 rfl (fun _ => y_mul rfl rfl (wrI (by omega) (by omega))) rfl (by kernel_rfl) (qp_inb (qp_then (qp_then (qp_inb (qp_then qp_body))))) (fun _ => ⟨hs, hbs, hw⟩) ?_
      refine dr_y 30 rfl (fun _ => y_add rfl rfl (wrI (by omega) (by omega))) rfl (by kernel_rfl) (qp_inb (qp_then (qp_then (qp_inb (qp_then qp_body))))) (fun _ => ⟨hs, hbs, hw⟩) ?_
      refine dr_y 31 rfl (fun _ => y_index (r := ob + (4 * t + 3)) Tryd.underlying64 T.ty5 rfl rfl (hbs.addr (j := (4 * t + 3)) (by first | (simp; omega) | (show _ < 8; omega))) (by omega) (by omega) (by omega)) rfl (by kernel_rfl) (qp_inb (qp_then (qp_then (qp_inb (qp_then qp_body))))) (fun _ => ⟨hs, hbs, hw⟩) ?_
      refine dr_l 32 rfl (fun _ hS => by obtain ⟨q0, q1, q2⟩ := hS; exact y_ldR (v := .int .u8 (↑(bs.getD (4 * t + 3) 0).toNat)) (j := (4 * t + 3)) T.ty5 rfl q1 (by first | rfl | omega) (map_at bv bs (4 * t + 3) 0 (by omega))) rfl (by kernel_rfl) (qp_inb (qp_then (qp_then (qp_inb (qp_then qp_body))))) ⟨hs, hbs, hw⟩ ?_
      refine dr_y 33 rfl (fun _ => y_conv (r := ↑(b32 (bs.getD (4 * t + 3) 0)).toNat) Tryd.underlying5 Tryd.underlying74 rfl (conv_b32 _)) rfl (by kernel_rfl) (qp_inb (qp_then (qp_then (qp_inb (qp_then qp_body))))) (fun _ => ⟨hs, hbs, hw⟩) ?_
      refine dr_y 34 rfl (fun _ => y_or (r := ↑(((((b32 (bs.getD (4 * t) 0)) <<< 24) ||| ((b32 (bs.getD (4 * t + 1) 0)) <<< 16)) ||| ((b32 (bs.getD (4 * t + 2) 0)) <<< 8)) ||| (b32 (bs.getD (4 * t + 3) 0))).toNat) rfl rfl (or32 _ _)) rfl (by kernel_rfl) (qp_inb (qp_then (qp_then (qp_inb (qp_then qp_body))))) (fun _ => ⟨hs, hbs, hw⟩) ?_
      refine dr_y 35 rfl (fun _ => y_index (r := t) Tryd.underlying75 T.ty74 rfl rfl rfl (by omega) (by omega) (by omega)) rfl (by kernel_rfl) (qp_inb (qp_then (qp_then (qp_inb (qp_then qp_body))))) (fun _ => ⟨hs, hbs, hw⟩) ?_
      refine dr_1 (i := 36) (by kernel_rfl) ?_
      refine rd_d rfl (d_store (cs := [.int .u32 (↑(((((b32 (bs.getD (4 * t) 0)) <<< 24) ||| ((b32 (bs.getD (4 * t + 1) 0)) <<< 16)) ||| ((b32 (bs.getD (4 * t + 2) 0)) <<< 8)) ||| (b32 (bs.getD (4 * t + 3) 0))).toNat)]) (l' := (sched bs (t + 1)).map wv) T.ty74 rfl rfl hw rfl rfl (ones rfl) (by simp [sched_len]; omega) (by first | (rw [sched_lt bs t (by omega)]; exact map_set wv _ _ _) | (rw [sched_ge bs t (by omega), ← mixR_eq]; exact map_set wv _ _ _))) rfl rfl ?_
      rintro _ w18 ⟨rfl, b19, f20⟩
      replace hs := hs.fr1 f20 ne6
      replace hbs := hbs.fr1 f20 ne7
      clear hw
      have hF21 := hF17.thenNew f20 nw8
      refine ⟨fun h => (Bool.false_ne_true (h.symm.trans (by kernel_rfl))).elim, ?_⟩
      refine dr_done (by kernel_rfl) ?_
      refine n_inb ?_
      refine n_then ?_
      refine c_region ?_
      refine s_y (y_move rfl) rfl rfl ?_
      refine s_y (y_add rfl rfl (wrI (by omega) (by omega))) rfl rfl ?_
      refine s_y (y_assign rfl) rfl rfl ?_
      refine s_nil ?_
      exact fun a ha => ⟨_, by omega, t + 1, rfl, ha.cut ⟨rfl, rfl, rfl, (iv (by omega)), trivial⟩, hF21, hs, hbs, b19, by omega⟩
    · intro h22
      replace h22 : ¬ ((↑t : Int) < 16) := of_decide_eq_false h22
      refine c_exit ?_
      refine x_then ?_
      obtain rfl : t = 16 := by omega
      refine x_then ?_
      refine x_hit ?_
      refine n_then ?_
      refine c_seq ?_
      refine c_seq ?_
      refine c_region ?_
      refine s_y (y_assign rfl) rfl rfl ?_
      refine s_nil ?_
      refine n_then ?_
      refine c_block ?_
      refine c_loop (fun m a W => ∃ t : Nat, m = 64 - t ∧ GP.St 228 [(0, .slice As 8 cs), (1, .slice Ab 64 cb), (5, .slice (some ⟨g1, 0, none⟩) 64 64), (7, .int .i64 ↑t)] a ∧ Fr [] w W ∧ Row W As gs os 8 1 s.cells ∧ Row W Ab gb ob 64 1 (bs.map bv) ∧ Blk W g1 74 ((sched bs t).map wv) ∧ (16 ≤ t ∧ t ≤ 64)) (64 - 16) ?_ ?_
      · intro a ha
        exact ⟨16, rfl, ha.cut ⟨rfl, rfl, rfl, rfl, trivial⟩, hF13, hs, hbs, hw, (by omega)⟩
      · rintro _ a W23 ⟨t, rfl, hst25, hF26, hs, hbs, hw2, ht⟩
        refine (show Wc _ _ _ _ _ _ from ?_) a hst25
        clear hst25 a
        refine c_seq ?_
        refine c_seq ?_
        refine c_region ?_
        refine s_y (y_move rfl) rfl rfl ?_
        refine s_y (y_lss rfl rfl rfl) rfl rfl ?_
        refine s_nil ?_
        refine n_then ?_
        refine c_cond rfl ?_ ?_
        · intro h27
          replace h27 : (↑t : Int) < 64 := of_decide_eq_true h27
          refine c_skip ?_
          refine n_then ?_
          refine c_seq ?_
          refine c_block ?_
          refine c_seq ?_
          refine dr_begin (fun W => Row W As gs os 8 1 s.cells ∧ Row W Ab gb ob 64 1 (bs.map bv) ∧ Blk W g1 74 ((sched bs t).map wv)) 12 (by kernel_rfl) ?_
          intro w28 f29
          replace hs := hs.fr0 f29
          replace hbs := hbs.fr0 f29
          replace hw2 := hw2.fr0 f29
          have hF30 := hF26.then0 f29
          refine dr_y 0 rfl (fun _ => y_move rfl) rfl (by kernel_rfl) (qp_then (qp_inb (qp_then (qp_then (qp_inb (qp_then qp_body)))))) (fun _ => ⟨hs, hbs, hw2⟩) ?_
          refine dr_y 1 rfl (fun _ => y_move rfl) rfl (by kernel_rfl) (qp_then (qp_inb (qp_then (qp_then (qp_inb (qp_then qp_body)))))) (fun _ => ⟨hs, hbs, hw2⟩) ?_
          refine dr_y 2 rfl (fun _ => y_sub rfl rfl (wrI (by omega) (by omega))) rfl (by kernel_rfl) (qp_then (qp_inb (qp_then (qp_then (qp_inb (qp_then qp_body)))))) (fun _ => ⟨hs, hbs, hw2⟩) ?_
          refine dr_y 3 rfl (fun _ => y_index (r := (t - 15)) Tryd.underlying75 T.ty74 rfl rfl rfl (by omega) (by omega) (by omega)) rfl (by kernel_rfl) (qp_then (qp_inb (qp_then (qp_then (qp_inb (qp_then qp_body)))))) (fun _ => ⟨hs, hbs, hw2⟩) ?_
          refine dr_l 4 rfl (fun _ hS => by obtain ⟨q0, q1, q2⟩ := hS; exact y_ldB (v := .int .u32 (↑((sched bs t).getD (t - 15) 0).toNat)) T.ty74 rfl q2 (map_at wv (sched bs t) (t - 15) 0 (by rw [sched_len]; omega))) rfl (by kernel_rfl) (qp_then (qp_inb (qp_then (qp_then (qp_inb (qp_then qp_body)))))) ⟨hs, hbs, hw2⟩ ?_
          refine dr_y 5 rfl (fun _ => y_move rfl) rfl (by kernel_rfl) (qp_then (qp_inb (qp_then (qp_then (qp_inb (qp_then qp_body)))))) (fun _ => ⟨hs, hbs, hw2⟩) ?_
          refine dr_y 6 rfl (fun _ => y_move rfl) rfl (by kernel_rfl) (qp_then (qp_inb (qp_then (qp_then (qp_inb (qp_then qp_body)))))) (fun _ => ⟨hs, hbs, hw2⟩) ?_
          refine dr_y 7 rfl (fun _ => y_sub rfl rfl (wrI (by omega) (by omega))) rfl (by kernel_rfl) (qp_then (qp_inb (qp_then (qp_then (qp_inb (qp_then qp_body)))))) (fun _ => ⟨hs, hbs, hw2⟩) ?_
          refine dr_y 8 rfl (fun _ => y_index (r := (t - 2)) Tryd.underlying75 T.ty74 rfl rfl rfl (by omega) (by omega) (by omega)) rfl (by kernel_rfl) (qp_then (qp_inb (qp_then (qp_then (qp_inb (qp_then qp_body)))))) (fun _ => ⟨hs, hbs, hw2⟩) ?_
          refine dr_l 9 rfl (fun _ hS => by obtain ⟨q0, q1, q2⟩ := hS; exact y_ldB (v := .int .u32 (↑((sched bs t).getD (t - 2) 0).toNat)) T.ty74 rfl q2 (map_at wv (sched bs t) (t - 2) 0 (by rw [sched_len]; omega))) rfl (by kernel_rfl) (qp_then (qp_inb (qp_then (qp_then (qp_inb (qp_then qp_body)))))) ⟨hs, hbs, hw2⟩ ?_
          refine dr_y 10 rfl (fun _ => y_assign rfl) rfl (by kernel_rfl) (qp_then (qp_inb (qp_then (qp_then (qp_inb (qp_then qp_body)))))) (fun _ => ⟨hs, hbs, hw2⟩) ?_
          refine dr_y 11 rfl (fun _ => y_assign rfl) rfl (by kernel_rfl) (qp_then (qp_inb (qp_then (qp_then (qp_inb (qp_then qp_body)))))) (fun _ => ⟨hs, hbs, hw2⟩) ?_
          refine dr_done (by kernel_rfl) ?_
          refine n_then ?_
          refine dr_begin (fun W => Row W As gs os 8 1 s.cells ∧ Row W Ab gb ob 64 1 (bs.map bv) ∧ Blk W g1 74 ((sched bs t).map wv)) 32 (by kernel_rfl) ?_
          intro w31 f32
          replace hs := hs.fr0 f32
          replace hbs := hbs.fr0 f32
          replace hw2 := hw2.fr0 f32
          have hF33 := hF30.then0 f32
          refine dr_y 0 rfl (fun _ => y_move rfl) rfl (by kernel_rfl) (qp_inb (qp_then (qp_then (qp_inb (qp_then qp_body))))) (fun _ => ⟨hs, hbs, hw2⟩) ?_
          refine dr_y 1 rfl (fun _ => y_move rfl) rfl (by kernel_rfl) (qp_inb (qp_then (qp_then (qp_inb (qp_then qp_body))))) (fun _ => ⟨hs, hbs, hw2⟩) ?_
          refine dr_y 2 rfl (fun _ => y_move rfl) rfl (by kernel_rfl) (qp_inb (qp_then (qp_then (qp_inb (qp_then qp_body))))) (fun _ => ⟨hs, hbs, hw2⟩) ?_
          refine dr_y 4 rfl (fun _ => y_move rfl) rfl (by kernel_rfl) (qp_inb (qp_then (qp_then (qp_inb (qp_then qp_body))))) (fun _ => ⟨hs, hbs, hw2⟩) ?_
          refine dr_y 7 rfl (fun _ => y_move rfl) rfl (by kernel_rfl) (qp_inb (qp_then (qp_then (qp_inb (qp_then qp_body))))) (fun _ => ⟨hs, hbs, hw2⟩) ?_
          refine dr_y 8 rfl (fun _ => y_shr (r := ↑(((sched bs t).getD (t - 2) 0) >>> 10).toNat) rfl rfl (by decide) (shr32 _ 10 _ rfl (by decide))) rfl (by kernel_rfl) (qp_inb (qp_then (qp_then (qp_inb (qp_then qp_body))))) (fun _ => ⟨hs, hbs, hw2⟩) ?_
          refine dr_y 10 rfl (fun _ => y_move rfl) rfl (by kernel_rfl) (qp_inb (qp_then (qp_then (qp_inb (qp_then qp_body))))) (fun _ => ⟨hs, hbs, hw2⟩) ?_
          refine dr_y 11 rfl (fun _ => y_move rfl) rfl (by kernel_rfl) (qp_inb (qp_then (qp_then (qp_inb (qp_then qp_body))))) (fun _ => ⟨hs, hbs, hw2⟩) ?_
          refine dr_y 12 rfl (fun _ => y_sub rfl rfl (wrI (by omega) (by omega))) rfl (by kernel_rfl) (qp_inb (qp_then (qp_then (qp_inb (qp_then qp_body))))) (fun _ => ⟨hs, hbs, hw2⟩) ?_
          refine dr_y 13 rfl (fun _ => y_index (r := (t - 7)) Tryd.underlying75 T.ty74 rfl rfl rfl (by omega) (by omega) (by omega)) rfl (by kernel_rfl) (qp_inb (qp_then (qp_then (qp_inb (qp_then qp_body))))) (fun _ => ⟨hs, hbs, hw2⟩) ?_
          refine dr_l 14 rfl (fun _ hS => by obtain ⟨q0, q1, q2⟩ := hS; exact y_ldB (v := .int .u32 (↑((sched bs t).getD (t - 7) 0).toNat)) T.ty74 rfl q2 (map_at wv (sched bs t) (t - 7) 0 (by rw [sched_len]; omega))) rfl (by kernel_rfl) (qp_inb (qp_then (qp_then (qp_inb (qp_then qp_body))))) ⟨hs, hbs, hw2⟩ ?_
          refine dr_y 16 rfl (fun _ => y_move rfl) rfl (by kernel_rfl) (qp_inb (qp_then (qp_then (qp_inb (qp_then qp_body))))) (fun _ => ⟨hs, hbs, hw2⟩) ?_
          refine dr_y 18 rfl (fun _ => y_move rfl) rfl (by kernel_rfl) (qp_inb (qp_then (qp_then (qp_inb (qp_then qp_body))))) (fun _ => ⟨hs, hbs, hw2⟩) ?_
          refine dr_y 21 rfl (fun _ => y_move rfl) rfl (by kernel_rfl) (qp_inb (qp_then (qp_then (qp_inb (qp_then qp_body))))) (fun _ => ⟨hs, hbs, hw2⟩) ?_
          refine dr_y 22 rfl (fun _ => y_shr (r := ↑(((sched bs t).getD (t - 15) 0) >>> 3).toNat) rfl rfl (by decide) (shr32 _ 3 _ rfl (by decide))) rfl (by kernel_rfl) (qp_inb (qp_then (qp_then (qp_inb (qp_then qp_body))))) (fun _ => ⟨hs, hbs, hw2⟩) ?_
          refine dr_y 25 rfl (fun _ => y_move rfl) rfl (by kernel_rfl) (qp_inb (qp_then (qp_then (qp_inb (qp_then qp_body))))) (fun _ => ⟨hs, hbs, hw2⟩) ?_
          refine dr_y 26 rfl (fun _ => y_move rfl) rfl (by kernel_rfl) (qp_inb (qp_then (qp_then (qp_inb (qp_then qp_body))))) (fun _ => ⟨hs, hbs, hw2⟩) ?_
          refine dr_y 27 rfl (fun _ => y_sub rfl rfl (wrI (by omega) (by omega))) rfl (by kernel_rfl) (qp_inb (qp_then (qp_then (qp_inb (qp_then qp_body))))) (fun _ => ⟨hs, hbs, hw2⟩) ?_
          refine dr_y 28 rfl (fun _ => y_index (r := (t - 16)) Tryd.underlying75 T.ty74 rfl rfl rfl (by omega) (by omega) (by omega)) rfl (by kernel_rfl) (qp_inb (qp_then (qp_then (qp_inb (qp_then qp_body))))) (fun _ => ⟨hs, hbs, hw2⟩) ?_
          refine dr_l 29 rfl (fun _ hS => by obtain ⟨q0, q1, q2⟩ := hS; exact y_ldB (v := .int .u32 (↑((sched bs t).getD (t - 16) 0).toNat)) T.ty74 rfl q2 (map_at wv (sched bs t) (t - 16) 0 (by rw [sched_len]; omega))) rfl (by kernel_rfl) (qp_inb (qp_then (qp_then (qp_inb (qp_then qp_body))))) ⟨hs, hbs, hw2⟩ ?_
          refine dr_1 (i := 3) (by kernel_rfl) ?_
          refine rd_d rfl (d_callR T.ent45 (vs := [.int .u32 (↑((sched bs t).getD (t - 2) 0).toNat), .int .u64 17]) rfl (ror45_ok ((sched bs t).getD (t - 2) 0) 17 _ (by decide)) (by rintro e w' ⟨rfl, -⟩; exact ⟨_, rfl⟩)) rfl rfl ?_
          rintro v36 w34 ⟨hv37, f35⟩
          obtain rfl := ret_inj hv37
          replace hs := hs.fr0 f35
          replace hbs := hbs.fr0 f35
          replace hw2 := hw2.fr0 f35
          have hF38 := hF33.then0 f35
          refine ⟨fun _ => ⟨hs, hbs, hw2⟩, ?_⟩
          refine dr_1 (i := 5) (by kernel_rfl) ?_
          refine rd_d rfl (d_callR T.ent45 (vs := [.int .u32 (↑((sched bs t).getD (t - 2) 0).toNat), .int .u64 19]) rfl (ror45_ok ((sched bs t).getD (t - 2) 0) 19 _ (by decide)) (by rintro e w' ⟨rfl, -⟩; exact ⟨_, rfl⟩)) rfl rfl ?_
          rintro v41 w39 ⟨hv42, f40⟩
          obtain rfl := ret_inj hv42
          replace hs := hs.fr0 f40
          replace hbs := hbs.fr0 f40
          replace hw2 := hw2.fr0 f40
          have hF43 := hF38.then0 f40
          refine ⟨fun _ => ⟨hs, hbs, hw2⟩, ?_⟩
          refine dr_y 6 rfl (fun _ => y_xor (r := ↑((ror ((sched bs t).getD (t - 2) 0) 17) ^^^ (ror ((sched bs t).getD (t - 2) 0) 19)).toNat) rfl rfl (xor32 _ _)) rfl (by kernel_rfl) (qp_inb (qp_then (qp_then (qp_inb (qp_then qp_body))))) (fun _ => ⟨hs, hbs, hw2⟩) ?_
          refine dr_y 9 rfl (fun _ => y_xor (r := ↑(((ror ((sched bs t).getD (t - 2) 0) 17) ^^^ (ror ((sched bs t).getD (t - 2) 0) 19)) ^^^ (((sched bs t).getD (t - 2) 0) >>> 10)).toNat) rfl rfl (xor32 _ _)) rfl (by kernel_rfl) (qp_inb (qp_then (qp_then (qp_inb (qp_then qp_body))))) (fun _ => ⟨hs, hbs, hw2⟩) ?_
          refine dr_y 15 rfl (fun _ => y_add (r := ↑((((ror ((sched bs t).getD (t - 2) 0) 17) ^^^ (ror ((sched bs t).getD (t - 2) 0) 19)) ^^^ (((sched bs t).getD (t - 2) 0) >>> 10)) + ((sched bs t).getD (t - 7) 0)).toNat) rfl rfl (add32 _ _)) rfl (by kernel_rfl) (qp_inb (qp_then (qp_then (qp_inb (qp_then qp_body))))) (fun _ => ⟨hs, hbs, hw2⟩) ?_
          refine dr_1 (i := 17) (by kernel_rfl) ?_
          refine rd_d rfl (d_callR T.ent45 (vs := [.int .u32 (↑((sched bs t).getD (t - 15) 0).toNat), .int .u64 7]) rfl (ror45_ok ((sched bs t).getD (t - 15) 0) 7 _ (by decide)) (by rintro e w' ⟨rfl, -⟩; exact ⟨_, rfl⟩)) rfl rfl ?_
          rintro v46 w44 ⟨hv47, f45⟩
          obtain rfl := ret_inj hv47
          replace hs := hs.fr0 f45
          replace hbs := hbs.fr0 f45
          replace hw2 := hw2.fr0 f45
          have hF48 := hF43.then0 f45
          refine ⟨fun _ => ⟨hs, hbs, hw2⟩, ?_⟩
          refine dr_1 (i := 19) (by kernel_rfl) ?_
          refine rd_d rfl (d_callR T.ent45 (vs := [.int .u32 (↑((sched bs t).getD (t - 15) 0).toNat), .int .u64 18]) rfl (ror45_ok ((sched bs t).getD (t - 15) 0) 18 _ (by decide)) (by rintro e w' ⟨rfl, -⟩; exact ⟨_, rfl⟩)) rfl rfl ?_
          rintro v51 w49 ⟨hv52, f50⟩
          obtain rfl := ret_inj hv52
          replace hs := hs.fr0 f50
          replace hbs := hbs.fr0 f50
          replace hw2 := hw2.fr0 f50
          have hF53 := hF48.then0 f50
          refine ⟨fun _ => ⟨hs, hbs, hw2⟩, ?_⟩
          refine dr_y 20 rfl (fun _ => y_xor (r := ↑((ror ((sched bs t).getD (t - 15) 0) 7) ^^^ (ror ((sched bs t).getD (t - 15) 0) 18)).toNat) rfl rfl (xor32 _ _)) rfl (by kernel_rfl) (qp_inb (qp_then (qp_then (qp_inb (qp_then qp_body))))) (fun _ => ⟨hs, hbs, hw2⟩) ?_
          refine dr_y 23 rfl (fun _ => y_xor (r := ↑(((ror ((sched bs t).getD (t - 15) 0) 7) ^^^ (ror ((sched bs t).getD (t - 15) 0) 18)) ^^^ (((sched bs t).getD (t - 15) 0) >>> 3)).toNat) rfl rfl (xor32 _ _)) rfl (by kernel_rfl) (qp_inb (qp_then (qp_then (qp_inb (qp_then qp_body))))) (fun _ => ⟨hs, hbs, hw2⟩) ?_
          refine dr_y 24 rfl (fun _ => y_add (r := ↑(((((ror ((sched bs t).getD (t - 2) 0) 17) ^^^ (ror ((sched bs t).getD (t - 2) 0) 19)) ^^^ (((sched bs t).getD (t - 2) 0) >>> 10)) + ((sched bs t).getD (t - 7) 0)) + (((ror ((sched bs t).getD (t - 15) 0) 7) ^^^ (ror ((sched bs t).getD (t - 15) 0) 18)) ^^^ (((sched bs t).getD (t - 15) 0) >>> 3))).toNat) rfl rfl (add32 _ _)) rfl (by kernel_rfl) (qp_inb (qp_then (qp_then (qp_inb (qp_then qp_body))))) (fun _ => ⟨hs, hbs, hw2⟩) ?_
          refine dr_y 30 rfl (fun _ => y_add (r := ↑((((((ror ((sched bs t).getD (t - 2) 0) 17) ^^^ (ror ((sched bs t).getD (t - 2) 0) 19)) ^^^ (((sched bs t).getD (t - 2) 0) >>> 10)) + ((sched bs t).getD (t - 7) 0)) + (((ror ((sched bs t).getD (t - 15) 0) 7) ^^^ (ror ((sched bs t).getD (t - 15) 0) 18)) ^^^ (((sched bs t).getD (t - 15) 0) >>> 3))) + ((sched bs t).getD (t - 16) 0)).toNat) rfl rfl (add32 _ _)) rfl (by kernel_rfl) (qp_inb (qp_then (qp_then (qp_inb (qp_then qp_body))))) (fun _ => ⟨hs, hbs, hw2⟩) ?_
          refine dr_y 31 rfl (fun _ => y_index (r := t) Tryd.underlying75 T.ty74 rfl rfl rfl (by omega) (by omega) (by omega)) rfl (by kernel_rfl) (qp_inb (qp_then (qp_then (qp_inb (qp_then qp_body))))) (fun _ => ⟨hs, hbs, hw2⟩) ?_
          refine dr_1 (i := 32) (by kernel_rfl) ?_
          refine rd_d rfl (d_store (cs := [.int .u32 (↑((((((ror ((sched bs t).getD (t - 2) 0) 17) ^^^ (ror ((sched bs t).getD (t - 2) 0) 19)) ^^^ (((sched bs t).getD (t - 2) 0) >>> 10)) + ((sched bs t).getD (t - 7) 0)) + (((ror ((sched bs t).getD (t - 15) 0) 7) ^^^ (ror ((sched bs t).getD (t - 15) 0) 18)) ^^^ (((sched bs t).getD (t - 15) 0) >>> 3))) + ((sched bs t).getD (t - 16) 0)).toNat)]) (l' := (sched bs (t + 1)).map wv) T.ty74 rfl rfl hw2 rfl rfl (ones rfl) (by simp [sched_len]; omega) (by first | (rw [sched_lt bs t (by omega)]; exact map_set wv _ _ _) | (rw [sched_ge bs t (by omega), ← mixR_eq]; exact map_set wv _ _ _))) rfl rfl ?_
          rintro _ w54 ⟨rfl, b55, f56⟩
          replace hs := hs.fr1 f56 ne6
          replace hbs := hbs.fr1 f56 ne7
          clear hw2
          have hF57 := hF53.thenNew f56 nw8
          refine ⟨fun h => (Bool.false_ne_true (h.symm.trans (by kernel_rfl))).elim, ?_⟩
          refine dr_done (by kernel_rfl) ?_
          refine n_inb ?_
          refine n_then ?_
          refine c_region ?_
          refine s_y (y_move rfl) rfl rfl ?_
          refine s_y (y_add rfl rfl (wrI (by omega) (by omega))) rfl rfl ?_
          refine s_y (y_assign rfl) rfl rfl ?_
          refine s_nil ?_
          exact fun a ha => ⟨_, by omega, t + 1, rfl, ha.cut ⟨rfl, rfl, rfl, (iv (by omega)), trivial⟩, hF57, hs, hbs, b55, by omega⟩
        · intro h58
          replace h58 : ¬ ((↑t : Int) < 64) := of_decide_eq_false h58
          refine c_exit ?_
          refine x_then ?_
          obtain rfl : t = 64 := by omega
          refine x_then ?_
          refine x_hit ?_
          refine n_then ?_
          refine c_seq ?_
          refine c_region ?_
          refine s_d (d_callR T.ent46 (vs := []) rfl (cubes_ok _) (by rintro e w' ⟨_, rfl, -⟩; exact ⟨_, rfl⟩)) rfl rfl ?_
          rintro v61 w59 ⟨gK, hv62, f60, hgK, hK⟩
          obtain rfl := ret_inj hv62
          have ne63 := row_ne_new hs hgK
          have ne64 := row_ne_new hbs hgK
          have ne65 : g1 ≠ gK := Nat.ne_of_lt (Nat.lt_of_lt_of_le hw2.lt hgK)
          have nw66 := Nat.le_trans hF26.size hgK
          replace hs := hs.fr0 f60
          replace hbs := hbs.fr0 f60
          replace hw2 := hw2.fr0 f60
          have hF67 := hF26.then0 f60
          refine s_y (y_assign rfl) rfl rfl ?_
          refine s_nil ?_
          refine n_then ?_
          refine c_seq ?_
          refine c_region ?_
          have hlit68 := (T.lit11 )
          refine s_d (d_bs2 hlit68 trivial) rfl rfl ?_
          rintro _ w70 ⟨g69, rfl, hg73, b71, f72⟩
          have ne74 := row_ne_new hs hg73
          have ne75 := row_ne_new hbs hg73
          have ne76 : g1 ≠ g69 := Nat.ne_of_lt (Nat.lt_of_lt_of_le hw2.lt hg73)
          have ne77 : gK ≠ g69 := Nat.ne_of_lt (Nat.lt_of_lt_of_le hK.lt hg73)
          have nw78 := Nat.le_trans hF67.size hg73
          replace hs := hs.fr0 f72
          replace hbs := hbs.fr0 f72
          replace hw2 := hw2.fr0 f72
          replace hK := hK.fr0 f72
          have hF79 := hF67.then0 f72
          have o80 := Own.of_blk (n := 0) (k := 1) b71 rfl (by decide)
          refine s_y (y_move rfl) rfl rfl ?_
          refine s_d (d_append Tryd.underlying75 T.ty74 T.app74 rfl o80 rfl (src_row Tryd.underlying75 T.ty74 hs ()) (ones (by first | exact all_bv _ | exact all_wv _ | exact rfl | simp [all_bv, all_u32, all_ent, all_dig, all_ents])) (by omega)) rfl rfl ?_
          rintro _ w84 ⟨A81, g82, c83, rfl, o85, f86, hat87⟩
          replace hs := hs.fr f86 (nin ne74)
          replace hbs := hbs.fr f86 (nin ne75)
          have ne89 := app_ap hat87 (.inr (Ne.symm ne76)) hw2.lt
          replace hw2 := hw2.fr f86 (no_own (.inr (Ne.symm ne76)))
          have ne90 := app_ap hat87 (.inr (Ne.symm ne77)) hK.lt
          replace hK := hK.fr f86 (no_own (.inr (Ne.symm ne77)))
          have wh91 : A81 = none ∨ g82 ∈ ([] : List Nat) ∨ w.heap.size ≤ g82 := app_wh hat87 (.inr (.inr nw78)) hF79.size
          have hF92 := hF79.thenOwnIn f86 (.inr (.inr nw78))
          refine s_y (y_assign rfl) rfl rfl ?_
          refine s_nil ?_
          refine n_then ?_
          refine c_seq ?_
          refine c_seq ?_
          refine c_region ?_
          refine s_y (y_assign rfl) rfl rfl ?_
          refine s_nil ?_
          refine n_then ?_
          refine c_block ?_
          have hA93 := own_some o85 (by exact (by decide : 0 < 8))
          subst hA93
          refine c_loop (fun m a W => ∃ t : Nat, ∃ gv : Nat, ∃ cv : Nat, m = 64 - t ∧ GP.St 228 [(0, .slice As 8 cs), (1, .slice Ab 64 cb), (5, .slice (some ⟨g1, 0, none⟩) 64 64), (10, .slice (some ⟨gK, 0, none⟩) 64 64), (11, .slice (some ⟨gv, 0, none⟩) 8 cv), (12, .int .i64 ↑t)] a ∧ Fr [] w W ∧ Row W As gs os 8 1 s.cells ∧ Row W Ab gb ob 64 1 (bs.map bv) ∧ Blk W g1 74 ((sched bs 64).map wv) ∧ Blk W gK 74 (roots.map wv) ∧ Own W (some ⟨gv, 0, none⟩) gv 8 cv 74 1 ((rounds (sched bs 64) s t).cells) ∧ (t ≤ 64)) (64) ?_ ?_
          · intro a ha
            exact ⟨0, g82, c83, rfl, ha.cut ⟨rfl, rfl, rfl, rfl, rfl, rfl, trivial⟩, hF92, hs, hbs, hw2, hK, o85, Nat.zero_le _⟩
          · rintro _ a W94 ⟨t, gv, cv, rfl, hst96, hF97, hs, hbs, hw2, hK, hv, ht⟩
            refine (show Wc _ _ _ _ _ _ from ?_) a hst96
            clear hst96 a
            refine c_seq ?_
            refine c_seq ?_
            refine c_region ?_
            refine s_y (y_move rfl) rfl rfl ?_
            refine s_y (y_lss rfl rfl rfl) rfl rfl ?_
            refine s_nil ?_
            refine n_then ?_
            refine c_cond rfl ?_ ?_
            · intro h98
              replace h98 : (↑t : Int) < 64 := of_decide_eq_true h98
              refine c_skip ?_
              refine n_then ?_
              refine c_seq ?_
              refine c_block ?_
              refine c_seq ?_
              refine dr_begin (fun W => Row W As gs os 8 1 s.cells ∧ Row W Ab gb ob 64 1 (bs.map bv) ∧ Blk W g1 74 ((sched bs 64).map wv) ∧ Blk W gK 74 (roots.map wv) ∧ Own W (some ⟨gv, 0, none⟩) gv 8 cv 74 1 ((rounds (sched bs 64) s t).cells)) 8 (by kernel_rfl) ?_
              intro w99 f100
              replace hs := hs.fr0 f100
              replace hbs := hbs.fr0 f100
              replace hw2 := hw2.fr0 f100
              replace hK := hK.fr0 f100
              replace hv := hv.fr0 f100
              have hF101 := hF97.then0 f100
              refine dr_y 0 rfl (fun _ => y_move rfl) rfl (by kernel_rfl) (qp_then (qp_inb (qp_then (qp_then (qp_inb (qp_then qp_body)))))) (fun _ => ⟨hs, hbs, hw2, hK, hv⟩) ?_
              refine dr_y 1 rfl (fun _ => y_index (r := 0 + 0) Tryd.underlying75 T.ty74 rfl rfl (hv.row.addr (j := 0) (by first | (simp; omega) | (show _ < 8; omega))) (by omega) (by omega) (by omega)) rfl (by kernel_rfl) (qp_then (qp_inb (qp_then (qp_then (qp_inb (qp_then qp_body)))))) (fun _ => ⟨hs, hbs, hw2, hK, hv⟩) ?_
              refine dr_l 2 rfl (fun _ hS => by obtain ⟨q0, q1, q2, q3, q4⟩ := hS; exact y_ldR (v := .int .u32 (↑((rounds (sched bs 64) s t).a).toNat)) (j := 0) T.ty74 rfl q4.row (by first | rfl | omega) rfl) rfl (by kernel_rfl) (qp_then (qp_inb (qp_then (qp_then (qp_inb (qp_then qp_body)))))) ⟨hs, hbs, hw2, hK, hv⟩ ?_
              refine dr_y 3 rfl (fun _ => y_move rfl) rfl (by kernel_rfl) (qp_then (qp_inb (qp_then (qp_then (qp_inb (qp_then qp_body)))))) (fun _ => ⟨hs, hbs, hw2, hK, hv⟩) ?_
              refine dr_y 4 rfl (fun _ => y_index (r := 0 + 4) Tryd.underlying75 T.ty74 rfl rfl (hv.row.addr (j := 4) (by first | (simp; omega) | (show _ < 8; omega))) (by omega) (by omega) (by omega)) rfl (by kernel_rfl) (qp_then (qp_inb (qp_then (qp_then (qp_inb (qp_then qp_body)))))) (fun _ => ⟨hs, hbs, hw2, hK, hv⟩) ?_
              refine dr_l 5 rfl (fun _ hS => by obtain ⟨q0, q1, q2, q3, q4⟩ := hS; exact y_ldR (v := .int .u32 (↑((rounds (sched bs 64) s t).f).toNat)) (j := 4) T.ty74 rfl q4.row (by first | rfl | omega) rfl) rfl (by kernel_rfl) (qp_then (qp_inb (qp_then (qp_then (qp_inb (qp_then qp_body)))))) ⟨hs, hbs, hw2, hK, hv⟩ ?_
              refine dr_y 6 rfl (fun _ => y_assign rfl) rfl (by kernel_rfl) (qp_then (qp_inb (qp_then (qp_then (qp_inb (qp_then qp_body)))))) (fun _ => ⟨hs, hbs, hw2, hK, hv⟩) ?_
              refine dr_y 7 rfl (fun _ => y_assign rfl) rfl (by kernel_rfl) (qp_then (qp_inb (qp_then (qp_then (qp_inb (qp_then qp_body)))))) (fun _ => ⟨hs, hbs, hw2, hK, hv⟩) ?_
              refine dr_done (by kernel_rfl) ?_
              refine n_then ?_
              refine c_seq ?_
              refine dr_begin (fun W => Row W As gs os 8 1 s.cells ∧ Row W Ab gb ob 64 1 (bs.map bv) ∧ Blk W g1 74 ((sched bs 64).map wv) ∧ Blk W gK 74 (roots.map wv) ∧ Own W (some ⟨gv, 0, none⟩) gv 8 cv 74 1 ((rounds (sched bs 64) s t).cells)) 36 (by kernel_rfl) ?_
              intro w102 f103
              replace hs := hs.fr0 f103
              replace hbs := hbs.fr0 f103
              replace hw2 := hw2.fr0 f103
              replace hK := hK.fr0 f103
              replace hv := hv.fr0 f103
              have hF104 := hF101.then0 f103
              refine dr_y 0 rfl (fun _ => y_move rfl) rfl (by kernel_rfl) (qp_then (qp_inb (qp_then (qp_then (qp_inb (qp_then qp_body)))))) (fun _ => ⟨hs, hbs, hw2, hK, hv⟩) ?_
              refine dr_y 1 rfl (fun _ => y_index (r := 0 + 7) Tryd.underlying75 T.ty74 rfl rfl (hv.row.addr (j := 7) (by first | (simp; omega) | (show _ < 8; omega))) (by omega) (by omega) (by omega)) rfl (by kernel_rfl) (qp_then (qp_inb (qp_then (qp_then (qp_inb (qp_then qp_body)))))) (fun _ => ⟨hs, hbs, hw2, hK, hv⟩) ?_
              refine dr_l 2 rfl (fun _ hS => by obtain ⟨q0, q1, q2, q3, q4⟩ := hS; exact y_ldR (v := .int .u32 (↑((rounds (sched bs 64) s t).i).toNat)) (j := 7) T.ty74 rfl q4.row (by first | rfl | omega) rfl) rfl (by kernel_rfl) (qp_then (qp_inb (qp_then (qp_then (qp_inb (qp_then qp_body)))))) ⟨hs, hbs, hw2, hK, hv⟩ ?_
              refine dr_y 3 rfl (fun _ => y_move rfl) rfl (by kernel_rfl) (qp_then (qp_inb (qp_then (qp_then (qp_inb (qp_then qp_body)))))) (fun _ => ⟨hs, hbs, hw2, hK, hv⟩) ?_
              refine dr_y 5 rfl (fun _ => y_move rfl) rfl (by kernel_rfl) (qp_then (qp_inb (qp_then (qp_then (qp_inb (qp_then qp_body)))))) (fun _ => ⟨hs, hbs, hw2, hK, hv⟩) ?_
              refine dr_y 8 rfl (fun _ => y_move rfl) rfl (by kernel_rfl) (qp_then (qp_inb (qp_then (qp_then (qp_inb (qp_then qp_body)))))) (fun _ => ⟨hs, hbs, hw2, hK, hv⟩) ?_
              refine dr_y 12 rfl (fun _ => y_move rfl) rfl (by kernel_rfl) (qp_then (qp_inb (qp_then (qp_then (qp_inb (qp_then qp_body)))))) (fun _ => ⟨hs, hbs, hw2, hK, hv⟩) ?_
              refine dr_y 13 rfl (fun _ => y_move rfl) rfl (by kernel_rfl) (qp_then (qp_inb (qp_then (qp_then (qp_inb (qp_then qp_body)))))) (fun _ => ⟨hs, hbs, hw2, hK, hv⟩) ?_
              refine dr_y 14 rfl (fun _ => y_index (r := 0 + 5) Tryd.underlying75 T.ty74 rfl rfl (hv.row.addr (j := 5) (by first | (simp; omega) | (show _ < 8; omega))) (by omega) (by omega) (by omega)) rfl (by kernel_rfl) (qp_then (qp_inb (qp_then (qp_then (qp_inb (qp_then qp_body)))))) (fun _ => ⟨hs, hbs, hw2, hK, hv⟩) ?_
              refine dr_l 15 rfl (fun _ hS => by obtain ⟨q0, q1, q2, q3, q4⟩ := hS; exact y_ldR (v := .int .u32 (↑((rounds (sched bs 64) s t).g).toNat)) (j := 5) T.ty74 rfl q4.row (by first | rfl | omega) rfl) rfl (by kernel_rfl) (qp_then (qp_inb (qp_then (qp_then (qp_inb (qp_then qp_body)))))) ⟨hs, hbs, hw2, hK, hv⟩ ?_
              refine dr_y 16 rfl (fun _ => y_and (r := ↑(((rounds (sched bs 64) s t).f) &&& ((rounds (sched bs 64) s t).g)).toNat) rfl rfl (and32 _ _)) rfl (by kernel_rfl) (qp_then (qp_inb (qp_then (qp_then (qp_inb (qp_then qp_body)))))) (fun _ => ⟨hs, hbs, hw2, hK, hv⟩) ?_
              refine dr_y 17 rfl (fun _ => y_move rfl) rfl (by kernel_rfl) (qp_then (qp_inb (qp_then (qp_then (qp_inb (qp_then qp_body)))))) (fun _ => ⟨hs, hbs, hw2, hK, hv⟩) ?_
              refine dr_y 18 rfl (fun _ => y_comp (r := ↑(~~~((rounds (sched bs 64) s t).f)).toNat) rfl (not32 _)) rfl (by kernel_rfl) (qp_then (qp_inb (qp_then (qp_then (qp_inb (qp_then qp_body)))))) (fun _ => ⟨hs, hbs, hw2, hK, hv⟩) ?_
              refine dr_y 19 rfl (fun _ => y_move rfl) rfl (by kernel_rfl) (qp_then (qp_inb (qp_then (qp_then (qp_inb (qp_then qp_body)))))) (fun _ => ⟨hs, hbs, hw2, hK, hv⟩) ?_
              refine dr_y 20 rfl (fun _ => y_index (r := 0 + 6) Tryd.underlying75 T.ty74 rfl rfl (hv.row.addr (j := 6) (by first | (simp; omega) | (show _ < 8; omega))) (by omega) (by omega) (by omega)) rfl (by kernel_rfl) (qp_then (qp_inb (qp_then (qp_then (qp_inb (qp_then qp_body)))))) (fun _ => ⟨hs, hbs, hw2, hK, hv⟩) ?_
              refine dr_l 21 rfl (fun _ hS => by obtain ⟨q0, q1, q2, q3, q4⟩ := hS; exact y_ldR (v := .int .u32 (↑((rounds (sched bs 64) s t).h).toNat)) (j := 6) T.ty74 rfl q4.row (by first | rfl | omega) rfl) rfl (by kernel_rfl) (qp_then (qp_inb (qp_then (qp_then (qp_inb (qp_then qp_body)))))) ⟨hs, hbs, hw2, hK, hv⟩ ?_
              refine dr_y 22 rfl (fun _ => y_and (r := ↑((~~~((rounds (sched bs 64) s t).f)) &&& ((rounds (sched bs 64) s t).h)).toNat) rfl rfl (and32 _ _)) rfl (by kernel_rfl) (qp_then (qp_inb (qp_then (qp_then (qp_inb (qp_then qp_body)))))) (fun _ => ⟨hs, hbs, hw2, hK, hv⟩) ?_
              refine dr_y 23 rfl (fun _ => y_xor (r := ↑((((rounds (sched bs 64) s t).f) &&& ((rounds (sched bs 64) s t).g)) ^^^ ((~~~((rounds (sched bs 64) s t).f)) &&& ((rounds (sched bs 64) s t).h))).toNat) rfl rfl (xor32 _ _)) rfl (by kernel_rfl) (qp_then (qp_inb (qp_then (qp_then (qp_inb (qp_then qp_body)))))) (fun _ => ⟨hs, hbs, hw2, hK, hv⟩) ?_
              refine dr_y 25 rfl (fun _ => y_move rfl) rfl (by kernel_rfl) (qp_then (qp_inb (qp_then (qp_then (qp_inb (qp_then qp_body)))))) (fun _ => ⟨hs, hbs, hw2, hK, hv⟩) ?_
              refine dr_y 26 rfl (fun _ => y_move rfl) rfl (by kernel_rfl) (qp_then (qp_inb (qp_then (qp_then (qp_inb (qp_then qp_body)))))) (fun _ => ⟨hs, hbs, hw2, hK, hv⟩) ?_
              refine dr_y 27 rfl (fun _ => y_index (r := t) Tryd.underlying75 T.ty74 rfl rfl rfl (by omega) (by omega) (by omega)) rfl (by kernel_rfl) (qp_then (qp_inb (qp_then (qp_then (qp_inb (qp_then qp_body)))))) (fun _ => ⟨hs, hbs, hw2, hK, hv⟩) ?_
              refine dr_l 28 rfl (fun _ hS => by obtain ⟨q0, q1, q2, q3, q4⟩ := hS; exact y_ldB (v := .int .u32 (↑(roots.getD t 0).toNat)) T.ty74 rfl q3 (map_at wv roots t 0 (by rw [roots_len]; omega))) rfl (by kernel_rfl) (qp_then (qp_inb (qp_then (qp_then (qp_inb (qp_then qp_body)))))) ⟨hs, hbs, hw2, hK, hv⟩ ?_
              refine dr_y 30 rfl (fun _ => y_move rfl) rfl (by kernel_rfl) (qp_then (qp_inb (qp_then (qp_then (qp_inb (qp_then qp_body)))))) (fun _ => ⟨hs, hbs, hw2, hK, hv⟩) ?_
              refine dr_y 31 rfl (fun _ => y_move rfl) rfl (by kernel_rfl) (qp_then (qp_inb (qp_then (qp_then (qp_inb (qp_then qp_body)))))) (fun _ => ⟨hs, hbs, hw2, hK, hv⟩) ?_
              refine dr_y 32 rfl (fun _ => y_index (r := t) Tryd.underlying75 T.ty74 rfl rfl rfl (by omega) (by omega) (by omega)) rfl (by kernel_rfl) (qp_then (qp_inb (qp_then (qp_then (qp_inb (qp_then qp_body)))))) (fun _ => ⟨hs, hbs, hw2, hK, hv⟩) ?_
              refine dr_l 33 rfl (fun _ hS => by obtain ⟨q0, q1, q2, q3, q4⟩ := hS; exact y_ldB (v := .int .u32 (↑((sched bs 64).getD t 0).toNat)) T.ty74 rfl q2 (map_at wv (sched bs 64) t 0 (by rw [sched_len]; omega))) rfl (by kernel_rfl) (qp_then (qp_inb (qp_then (qp_then (qp_inb (qp_then qp_body)))))) ⟨hs, hbs, hw2, hK, hv⟩ ?_
              refine dr_1 (i := 4) (by kernel_rfl) ?_
              refine rd_d rfl (d_callR T.ent45 (vs := [.int .u32 (↑((rounds (sched bs 64) s t).f).toNat), .int .u64 6]) rfl (ror45_ok ((rounds (sched bs 64) s t).f) 6 _ (by decide)) (by rintro e w' ⟨rfl, -⟩; exact ⟨_, rfl⟩)) rfl rfl ?_
              rintro v107 w105 ⟨hv108, f106⟩
              obtain rfl := ret_inj hv108
              replace hs := hs.fr0 f106
              replace hbs := hbs.fr0 f106
              replace hw2 := hw2.fr0 f106
              replace hK := hK.fr0 f106
              replace hv := hv.fr0 f106
              have hF109 := hF104.then0 f106
              refine ⟨fun _ => ⟨hs, hbs, hw2, hK, hv⟩, ?_⟩
              refine dr_1 (i := 6) (by kernel_rfl) ?_
              refine rd_d rfl (d_callR T.ent45 (vs := [.int .u32 (↑((rounds (sched bs 64) s t).f).toNat), .int .u64 11]) rfl (ror45_ok ((rounds (sched bs 64) s t).f) 11 _ (by decide)) (by rintro e w' ⟨rfl, -⟩; exact ⟨_, rfl⟩)) rfl rfl ?_
              rintro v112 w110 ⟨hv113, f111⟩
              obtain rfl := ret_inj hv113
              replace hs := hs.fr0 f111
              replace hbs := hbs.fr0 f111
              replace hw2 := hw2.fr0 f111
              replace hK := hK.fr0 f111
              replace hv := hv.fr0 f111
              have hF114 := hF109.then0 f111
              refine ⟨fun _ => ⟨hs, hbs, hw2, hK, hv⟩, ?_⟩
              refine dr_y 7 rfl (fun _ => y_xor (r := ↑((ror ((rounds (sched bs 64) s t).f) 6) ^^^ (ror ((rounds (sched bs 64) s t).f) 11)).toNat) rfl rfl (xor32 _ _)) rfl (by kernel_rfl) (qp_then (qp_inb (qp_then (qp_then (qp_inb (qp_then qp_body)))))) (fun _ => ⟨hs, hbs, hw2, hK, hv⟩) ?_
              refine dr_1 (i := 9) (by kernel_rfl) ?_
              refine rd_d rfl (d_callR T.ent45 (vs := [.int .u32 (↑((rounds (sched bs 64) s t).f).toNat), .int .u64 25]) rfl (ror45_ok ((rounds (sched bs 64) s t).f) 25 _ (by decide)) (by rintro e w' ⟨rfl, -⟩; exact ⟨_, rfl⟩)) rfl rfl ?_
              rintro v117 w115 ⟨hv118, f116⟩
              obtain rfl := ret_inj hv118
              replace hs := hs.fr0 f116
              replace hbs := hbs.fr0 f116
              replace hw2 := hw2.fr0 f116
              replace hK := hK.fr0 f116
              replace hv := hv.fr0 f116
              have hF119 := hF114.then0 f116
              refine ⟨fun _ => ⟨hs, hbs, hw2, hK, hv⟩, ?_⟩
              refine dr_y 10 rfl (fun _ => y_xor (r := ↑(((ror ((rounds (sched bs 64) s t).f) 6) ^^^ (ror ((rounds (sched bs 64) s t).f) 11)) ^^^ (ror ((rounds (sched bs 64) s t).f) 25)).toNat) rfl rfl (xor32 _ _)) rfl (by kernel_rfl) (qp_then (qp_inb (qp_then (qp_then (qp_inb (qp_then qp_body)))))) (fun _ => ⟨hs, hbs, hw2, hK, hv⟩) ?_
              refine dr_y 11 rfl (fun _ => y_add (r := ↑(((rounds (sched bs 64) s t).i) + (((ror ((rounds (sched bs 64) s t).f) 6) ^^^ (ror ((rounds (sched bs 64) s t).f) 11)) ^^^ (ror ((rounds (sched bs 64) s t).f) 25))).toNat) rfl rfl (add32 _ _)) rfl (by kernel_rfl) (qp_then (qp_inb (qp_then (qp_then (qp_inb (qp_then qp_body)))))) (fun _ => ⟨hs, hbs, hw2, hK, hv⟩) ?_
              refine dr_y 24 rfl (fun _ => y_add (r := ↑((((rounds (sched bs 64) s t).i) + (((ror ((rounds (sched bs 64) s t).f) 6) ^^^ (ror ((rounds (sched bs 64) s t).f) 11)) ^^^ (ror ((rounds (sched bs 64) s t).f) 25))) + ((((rounds (sched bs 64) s t).f) &&& ((rounds (sched bs 64) s t).g)) ^^^ ((~~~((rounds (sched bs 64) s t).f)) &&& ((rounds (sched bs 64) s t).h)))).toNat) rfl rfl (add32 _ _)) rfl (by kernel_rfl) (qp_then (qp_inb (qp_then (qp_then (qp_inb (qp_then qp_body)))))) (fun _ => ⟨hs, hbs, hw2, hK, hv⟩) ?_
              refine dr_y 29 rfl (fun _ => y_add (r := ↑(((((rounds (sched bs 64) s t).i) + (((ror ((rounds (sched bs 64) s t).f) 6) ^^^ (ror ((rounds (sched bs 64) s t).f) 11)) ^^^ (ror ((rounds (sched bs 64) s t).f) 25))) + ((((rounds (sched bs 64) s t).f) &&& ((rounds (sched bs 64) s t).g)) ^^^ ((~~~((rounds (sched bs 64) s t).f)) &&& ((rounds (sched bs 64) s t).h)))) + (roots.getD t 0)).toNat) rfl rfl (add32 _ _)) rfl (by kernel_rfl) (qp_then (qp_inb (qp_then (qp_then (qp_inb (qp_then qp_body)))))) (fun _ => ⟨hs, hbs, hw2, hK, hv⟩) ?_
              refine dr_y 34 rfl (fun _ => y_add (r := ↑((((((rounds (sched bs 64) s t).i) + (((ror ((rounds (sched bs 64) s t).f) 6) ^^^ (ror ((rounds (sched bs 64) s t).f) 11)) ^^^ (ror ((rounds (sched bs 64) s t).f) 25))) + ((((rounds (sched bs 64) s t).f) &&& ((rounds (sched bs 64) s t).g)) ^^^ ((~~~((rounds (sched bs 64) s t).f)) &&& ((rounds (sched bs 64) s t).h)))) + (roots.getD t 0)) + ((sched bs 64).getD t 0)).toNat) rfl rfl (add32 _ _)) rfl (by kernel_rfl) (qp_then (qp_inb (qp_then (qp_then (qp_inb (qp_then qp_body)))))) (fun _ => ⟨hs, hbs, hw2, hK, hv⟩) ?_
              refine dr_y 35 rfl (fun _ => y_assign rfl) rfl (by kernel_rfl) (qp_then (qp_inb (qp_then (qp_then (qp_inb (qp_then qp_body)))))) (fun _ => ⟨hs, hbs, hw2, hK, hv⟩) ?_
              refine dr_done (by kernel_rfl) ?_
              refine n_then ?_
              refine c_seq ?_
              refine dr_begin (fun W => Row W As gs os 8 1 s.cells ∧ Row W Ab gb ob 64 1 (bs.map bv) ∧ Blk W g1 74 ((sched bs 64).map wv) ∧ Blk W gK 74 (roots.map wv) ∧ Own W (some ⟨gv, 0, none⟩) gv 8 cv 74 1 ((rounds (sched bs 64) s t).cells)) 29 (by kernel_rfl) ?_
              intro w120 f121
              replace hs := hs.fr0 f121
              replace hbs := hbs.fr0 f121
              replace hw2 := hw2.fr0 f121
              replace hK := hK.fr0 f121
              replace hv := hv.fr0 f121
              have hF122 := hF119.then0 f121
              refine dr_y 0 rfl (fun _ => y_move rfl) rfl (by kernel_rfl) (qp_then (qp_inb (qp_then (qp_then (qp_inb (qp_then qp_body)))))) (fun _ => ⟨hs, hbs, hw2, hK, hv⟩) ?_
              refine dr_y 2 rfl (fun _ => y_move rfl) rfl (by kernel_rfl) (qp_then (qp_inb (qp_then (qp_then (qp_inb (qp_then qp_body)))))) (fun _ => ⟨hs, hbs, hw2, hK, hv⟩) ?_
              refine dr_y 5 rfl (fun _ => y_move rfl) rfl (by kernel_rfl) (qp_then (qp_inb (qp_then (qp_then (qp_inb (qp_then qp_body)))))) (fun _ => ⟨hs, hbs, hw2, hK, hv⟩) ?_
              refine dr_y 8 rfl (fun _ => y_move rfl) rfl (by kernel_rfl) (qp_then (qp_inb (qp_then (qp_then (qp_inb (qp_then qp_body)))))) (fun _ => ⟨hs, hbs, hw2, hK, hv⟩) ?_
              refine dr_y 9 rfl (fun _ => y_move rfl) rfl (by kernel_rfl) (qp_then (qp_inb (qp_then (qp_then (qp_inb (qp_then qp_body)))))) (fun _ => ⟨hs, hbs, hw2, hK, hv⟩) ?_
              refine dr_y 10 rfl (fun _ => y_index (r := 0 + 1) Tryd.underlying75 T.ty74 rfl rfl (hv.row.addr (j := 1) (by first | (simp; omega) | (show _ < 8; omega))) (by omega) (by omega) (by omega)) rfl (by kernel_rfl) (qp_then (qp_inb (qp_then (qp_then (qp_inb (qp_then qp_body)))))) (fun _ => ⟨hs, hbs, hw2, hK, hv⟩) ?_
              refine dr_l 11 rfl (fun _ hS => by obtain ⟨q0, q1, q2, q3, q4⟩ := hS; exact y_ldR (v := .int .u32 (↑((rounds (sched bs 64) s t).c).toNat)) (j := 1) T.ty74 rfl q4.row (by first | rfl | omega) rfl) rfl (by kernel_rfl) (qp_then (qp_inb (qp_then (qp_then (qp_inb (qp_then qp_body)))))) ⟨hs, hbs, hw2, hK, hv⟩ ?_
              refine dr_y 12 rfl (fun _ => y_and (r := ↑(((rounds (sched bs 64) s t).a) &&& ((rounds (sched bs 64) s t).c)).toNat) rfl rfl (and32 _ _)) rfl (by kernel_rfl) (qp_then (qp_inb (qp_then (qp_then (qp_inb (qp_then qp_body)))))) (fun _ => ⟨hs, hbs, hw2, hK, hv⟩) ?_
              refine dr_y 13 rfl (fun _ => y_move rfl) rfl (by kernel_rfl) (qp_then (qp_inb (qp_then (qp_then (qp_inb (qp_then qp_body)))))) (fun _ => ⟨hs, hbs, hw2, hK, hv⟩) ?_
              refine dr_y 14 rfl (fun _ => y_move rfl) rfl (by kernel_rfl) (qp_then (qp_inb (qp_then (qp_then (qp_inb (qp_then qp_body)))))) (fun _ => ⟨hs, hbs, hw2, hK, hv⟩) ?_
              refine dr_y 15 rfl (fun _ => y_index (r := 0 + 2) Tryd.underlying75 T.ty74 rfl rfl (hv.row.addr (j := 2) (by first | (simp; omega) | (show _ < 8; omega))) (by omega) (by omega) (by omega)) rfl (by kernel_rfl) (qp_then (qp_inb (qp_then (qp_then (qp_inb (qp_then qp_body)))))) (fun _ => ⟨hs, hbs, hw2, hK, hv⟩) ?_
              refine dr_l 16 rfl (fun _ hS => by obtain ⟨q0, q1, q2, q3, q4⟩ := hS; exact y_ldR (v := .int .u32 (↑((rounds (sched bs 64) s t).d).toNat)) (j := 2) T.ty74 rfl q4.row (by first | rfl | omega) rfl) rfl (by kernel_rfl) (qp_then (qp_inb (qp_then (qp_then (qp_inb (qp_then qp_body)))))) ⟨hs, hbs, hw2, hK, hv⟩ ?_
              refine dr_y 17 rfl (fun _ => y_and (r := ↑(((rounds (sched bs 64) s t).a) &&& ((rounds (sched bs 64) s t).d)).toNat) rfl rfl (and32 _ _)) rfl (by kernel_rfl) (qp_then (qp_inb (qp_then (qp_then (qp_inb (qp_then qp_body)))))) (fun _ => ⟨hs, hbs, hw2, hK, hv⟩) ?_
              refine dr_y 18 rfl (fun _ => y_xor (r := ↑((((rounds (sched bs 64) s t).a) &&& ((rounds (sched bs 64) s t).c)) ^^^ (((rounds (sched bs 64) s t).a) &&& ((rounds (sched bs 64) s t).d))).toNat) rfl rfl (xor32 _ _)) rfl (by kernel_rfl) (qp_then (qp_inb (qp_then (qp_then (qp_inb (qp_then qp_body)))))) (fun _ => ⟨hs, hbs, hw2, hK, hv⟩) ?_
              refine dr_y 19 rfl (fun _ => y_move rfl) rfl (by kernel_rfl) (qp_then (qp_inb (qp_then (qp_then (qp_inb (qp_then qp_body)))))) (fun _ => ⟨hs, hbs, hw2, hK, hv⟩) ?_
              refine dr_y 20 rfl (fun _ => y_index (r := 0 + 1) Tryd.underlying75 T.ty74 rfl rfl (hv.row.addr (j := 1) (by first | (simp; omega) | (show _ < 8; omega))) (by omega) (by omega) (by omega)) rfl (by kernel_rfl) (qp_then (qp_inb (qp_then (qp_then (qp_inb (qp_then qp_body)))))) (fun _ => ⟨hs, hbs, hw2, hK, hv⟩) ?_
              refine dr_l 21 rfl (fun _ hS => by obtain ⟨q0, q1, q2, q3, q4⟩ := hS; exact y_ldR (v := .int .u32 (↑((rounds (sched bs 64) s t).c).toNat)) (j := 1) T.ty74 rfl q4.row (by first | rfl | omega) rfl) rfl (by kernel_rfl) (qp_then (qp_inb (qp_then (qp_then (qp_inb (qp_then qp_body)))))) ⟨hs, hbs, hw2, hK, hv⟩ ?_
              refine dr_y 22 rfl (fun _ => y_move rfl) rfl (by kernel_rfl) (qp_then (qp_inb (qp_then (qp_then (qp_inb (qp_then qp_body)))))) (fun _ => ⟨hs, hbs, hw2, hK, hv⟩) ?_
              refine dr_y 23 rfl (fun _ => y_index (r := 0 + 2) Tryd.underlying75 T.ty74 rfl rfl (hv.row.addr (j := 2) (by first | (simp; omega) | (show _ < 8; omega))) (by omega) (by omega) (by omega)) rfl (by kernel_rfl) (qp_then (qp_inb (qp_then (qp_then (qp_inb (qp_then qp_body)))))) (fun _ => ⟨hs, hbs, hw2, hK, hv⟩) ?_
              refine dr_l 24 rfl (fun _ hS => by obtain ⟨q0, q1, q2, q3, q4⟩ := hS; exact y_ldR (v := .int .u32 (↑((rounds (sched bs 64) s t).d).toNat)) (j := 2) T.ty74 rfl q4.row (by first | rfl | omega) rfl) rfl (by kernel_rfl) (qp_then (qp_inb (qp_then (qp_then (qp_inb (qp_then qp_body)))))) ⟨hs, hbs, hw2, hK, hv⟩ ?_
              refine dr_y 25 rfl (fun _ => y_and (r := ↑(((rounds (sched bs 64) s t).c) &&& ((rounds (sched bs 64) s t).d)).toNat) rfl rfl (and32 _ _)) rfl (by kernel_rfl) (qp_then (qp_inb (qp_then (qp_then (qp_inb (qp_then qp_body)))))) (fun _ => ⟨hs, hbs, hw2, hK, hv⟩) ?_
              refine dr_y 26 rfl (fun _ => y_xor (r := ↑(((((rounds (sched bs 64) s t).a) &&& ((rounds (sched bs 64) s t).c)) ^^^ (((rounds (sched bs 64) s t).a) &&& ((rounds (sched bs 64) s t).d))) ^^^ (((rounds (sched bs 64) s t).c) &&& ((rounds (sched bs 64) s t).d))).toNat) rfl rfl (xor32 _ _)) rfl (by kernel_rfl) (qp_then (qp_inb (qp_then (qp_then (qp_inb (qp_then qp_body)))))) (fun _ => ⟨hs, hbs, hw2, hK, hv⟩) ?_
              refine dr_1 (i := 1) (by kernel_rfl) ?_
              refine rd_d rfl (d_callR T.ent45 (vs := [.int .u32 (↑((rounds (sched bs 64) s t).a).toNat), .int .u64 2]) rfl (ror45_ok ((rounds (sched bs 64) s t).a) 2 _ (by decide)) (by rintro e w' ⟨rfl, -⟩; exact ⟨_, rfl⟩)) rfl rfl ?_
              rintro v125 w123 ⟨hv126, f124⟩
              obtain rfl := ret_inj hv126
              replace hs := hs.fr0 f124
              replace hbs := hbs.fr0 f124
              replace hw2 := hw2.fr0 f124
              replace hK := hK.fr0 f124
              replace hv := hv.fr0 f124
              have hF127 := hF122.then0 f124
              refine ⟨fun _ => ⟨hs, hbs, hw2, hK, hv⟩, ?_⟩
              refine dr_1 (i := 3) (by kernel_rfl) ?_
              refine rd_d rfl (d_callR T.ent45 (vs := [.int .u32 (↑((rounds (sched bs 64) s t).a).toNat), .int .u64 13]) rfl (ror45_ok ((rounds (sched bs 64) s t).a) 13 _ (by decide)) (by rintro e w' ⟨rfl, -⟩; exact ⟨_, rfl⟩)) rfl rfl ?_
              rintro v130 w128 ⟨hv131, f129⟩
              obtain rfl := ret_inj hv131
              replace hs := hs.fr0 f129
              replace hbs := hbs.fr0 f129
              replace hw2 := hw2.fr0 f129
              replace hK := hK.fr0 f129
              replace hv := hv.fr0 f129
              have hF132 := hF127.then0 f129
              refine ⟨fun _ => ⟨hs, hbs, hw2, hK, hv⟩, ?_⟩
              refine dr_y 4 rfl (fun _ => y_xor (r := ↑((ror ((rounds (sched bs 64) s t).a) 2) ^^^ (ror ((rounds (sched bs 64) s t).a) 13)).toNat) rfl rfl (xor32 _ _)) rfl (by kernel_rfl) (qp_then (qp_inb (qp_then (qp_then (qp_inb (qp_then qp_body)))))) (fun _ => ⟨hs, hbs, hw2, hK, hv⟩) ?_
              refine dr_1 (i := 6) (by kernel_rfl) ?_
              refine rd_d rfl (d_callR T.ent45 (vs := [.int .u32 (↑((rounds (sched bs 64) s t).a).toNat), .int .u64 22]) rfl (ror45_ok ((rounds (sched bs 64) s t).a) 22 _ (by decide)) (by rintro e w' ⟨rfl, -⟩; exact ⟨_, rfl⟩)) rfl rfl ?_
              rintro v135 w133 ⟨hv136, f134⟩
              obtain rfl := ret_inj hv136
              replace hs := hs.fr0 f134
              replace hbs := hbs.fr0 f134
              replace hw2 := hw2.fr0 f134
              replace hK := hK.fr0 f134
              replace hv := hv.fr0 f134
              have hF137 := hF132.then0 f134
              refine ⟨fun _ => ⟨hs, hbs, hw2, hK, hv⟩, ?_⟩
              refine dr_y 7 rfl (fun _ => y_xor (r := ↑(((ror ((rounds (sched bs 64) s t).a) 2) ^^^ (ror ((rounds (sched bs 64) s t).a) 13)) ^^^ (ror ((rounds (sched bs 64) s t).a) 22)).toNat) rfl rfl (xor32 _ _)) rfl (by kernel_rfl) (qp_then (qp_inb (qp_then (qp_then (qp_inb (qp_then qp_body)))))) (fun _ => ⟨hs, hbs, hw2, hK, hv⟩) ?_
              refine dr_y 27 rfl (fun _ => y_add (r := ↑((((ror ((rounds (sched bs 64) s t).a) 2) ^^^ (ror ((rounds (sched bs 64) s t).a) 13)) ^^^ (ror ((rounds (sched bs 64) s t).a) 22)) + (((((rounds (sched bs 64) s t).a) &&& ((rounds (sched bs 64) s t).c)) ^^^ (((rounds (sched bs 64) s t).a) &&& ((rounds (sched bs 64) s t).d))) ^^^ (((rounds (sched bs 64) s t).c) &&& ((rounds (sched bs 64) s t).d)))).toNat) rfl rfl (add32 _ _)) rfl (by kernel_rfl) (qp_then (qp_inb (qp_then (qp_then (qp_inb (qp_then qp_body)))))) (fun _ => ⟨hs, hbs, hw2, hK, hv⟩) ?_
              refine dr_y 28 rfl (fun _ => y_assign rfl) rfl (by kernel_rfl) (qp_then (qp_inb (qp_then (qp_then (qp_inb (qp_then qp_body)))))) (fun _ => ⟨hs, hbs, hw2, hK, hv⟩) ?_
              refine dr_done (by kernel_rfl) ?_
              refine n_then ?_
              refine dr_begin (fun W => Row W As gs os 8 1 s.cells ∧ Row W Ab gb ob 64 1 (bs.map bv) ∧ Blk W g1 74 ((sched bs 64).map wv) ∧ Blk W gK 74 (roots.map wv) ∧ Own W (some ⟨gv, 0, none⟩) gv 8 cv 74 1 ((rounds (sched bs 64) s t).cells)) 28 (by kernel_rfl) ?_
              intro w138 f139
              replace hs := hs.fr0 f139
              replace hbs := hbs.fr0 f139
              replace hw2 := hw2.fr0 f139
              replace hK := hK.fr0 f139
              replace hv := hv.fr0 f139
              have hF140 := hF137.then0 f139
              refine dr_y 0 rfl (fun _ => y_move rfl) rfl (by kernel_rfl) (qp_inb (qp_then (qp_then (qp_inb (qp_then qp_body))))) (fun _ => ⟨hs, hbs, hw2, hK, hv⟩) ?_
              refine dr_y 1 rfl (fun _ => y_move rfl) rfl (by kernel_rfl) (qp_inb (qp_then (qp_then (qp_inb (qp_then qp_body))))) (fun _ => ⟨hs, hbs, hw2, hK, hv⟩) ?_
              refine dr_y 2 rfl (fun _ => y_add (r := ↑(((((((rounds (sched bs 64) s t).i) + (((ror ((rounds (sched bs 64) s t).f) 6) ^^^ (ror ((rounds (sched bs 64) s t).f) 11)) ^^^ (ror ((rounds (sched bs 64) s t).f) 25))) + ((((rounds (sched bs 64) s t).f) &&& ((rounds (sched bs 64) s t).g)) ^^^ ((~~~((rounds (sched bs 64) s t).f)) &&& ((rounds (sched bs 64) s t).h)))) + (roots.getD t 0)) + ((sched bs 64).getD t 0)) + ((((ror ((rounds (sched bs 64) s t).a) 2) ^^^ (ror ((rounds (sched bs 64) s t).a) 13)) ^^^ (ror ((rounds (sched bs 64) s t).a) 22)) + (((((rounds (sched bs 64) s t).a) &&& ((rounds (sched bs 64) s t).c)) ^^^ (((rounds (sched bs 64) s t).a) &&& ((rounds (sched bs 64) s t).d))) ^^^ (((rounds (sched bs 64) s t).c) &&& ((rounds (sched bs 64) s t).d))))).toNat) rfl rfl (add32 _ _)) rfl (by kernel_rfl) (qp_inb (qp_then (qp_then (qp_inb (qp_then qp_body))))) (fun _ => ⟨hs, hbs, hw2, hK, hv⟩) ?_
              refine dr_y 3 rfl (fun _ => y_move rfl) rfl (by kernel_rfl) (qp_inb (qp_then (qp_then (qp_inb (qp_then qp_body))))) (fun _ => ⟨hs, hbs, hw2, hK, hv⟩) ?_
              refine dr_y 4 rfl (fun _ => y_index (r := 0 + 0) Tryd.underlying75 T.ty74 rfl rfl (hv.row.addr (j := 0) (by first | (simp; omega) | (show _ < 8; omega))) (by omega) (by omega) (by omega)) rfl (by kernel_rfl) (qp_inb (qp_then (qp_then (qp_inb (qp_then qp_body))))) (fun _ => ⟨hs, hbs, hw2, hK, hv⟩) ?_
              refine dr_l 5 rfl (fun _ hS => by obtain ⟨q0, q1, q2, q3, q4⟩ := hS; exact y_ldR (v := .int .u32 (↑((rounds (sched bs 64) s t).a).toNat)) (j := 0) T.ty74 rfl q4.row (by first | rfl | omega) rfl) rfl (by kernel_rfl) (qp_inb (qp_then (qp_then (qp_inb (qp_then qp_body))))) ⟨hs, hbs, hw2, hK, hv⟩ ?_
              refine dr_y 6 rfl (fun _ => y_move rfl) rfl (by kernel_rfl) (qp_inb (qp_then (qp_then (qp_inb (qp_then qp_body))))) (fun _ => ⟨hs, hbs, hw2, hK, hv⟩) ?_
              refine dr_y 7 rfl (fun _ => y_index (r := 0 + 1) Tryd.underlying75 T.ty74 rfl rfl (hv.row.addr (j := 1) (by first | (simp; omega) | (show _ < 8; omega))) (by omega) (by omega) (by omega)) rfl (by kernel_rfl) (qp_inb (qp_then (qp_then (qp_inb (qp_then qp_body))))) (fun _ => ⟨hs, hbs, hw2, hK, hv⟩) ?_
              refine dr_l 8 rfl (fun _ hS => by obtain ⟨q0, q1, q2, q3, q4⟩ := hS; exact y_ldR (v := .int .u32 (↑((rounds (sched bs 64) s t).c).toNat)) (j := 1) T.ty74 rfl q4.row (by first | rfl | omega) rfl) rfl (by kernel_rfl) (qp_inb (qp_then (qp_then (qp_inb (qp_then qp_body))))) ⟨hs, hbs, hw2, hK, hv⟩ ?_
              refine dr_y 9 rfl (fun _ => y_move rfl) rfl (by kernel_rfl) (qp_inb (qp_then (qp_then (qp_inb (qp_then qp_body))))) (fun _ => ⟨hs, hbs, hw2, hK, hv⟩) ?_
              refine dr_y 10 rfl (fun _ => y_index (r := 0 + 2) Tryd.underlying75 T.ty74 rfl rfl (hv.row.addr (j := 2) (by first | (simp; omega) | (show _ < 8; omega))) (by omega) (by omega) (by omega)) rfl (by kernel_rfl) (qp_inb (qp_then (qp_then (qp_inb (qp_then qp_body))))) (fun _ => ⟨hs, hbs, hw2, hK, hv⟩) ?_
              refine dr_l 11 rfl (fun _ hS => by obtain ⟨q0, q1, q2, q3, q4⟩ := hS; exact y_ldR (v := .int .u32 (↑((rounds (sched bs 64) s t).d).toNat)) (j := 2) T.ty74 rfl q4.row (by first | rfl | omega) rfl) rfl (by kernel_rfl) (qp_inb (qp_then (qp_then (qp_inb (qp_then qp_body))))) ⟨hs, hbs, hw2, hK, hv⟩ ?_
              refine dr_y 12 rfl (fun _ => y_move rfl) rfl (by kernel_rfl) (qp_inb (qp_then (qp_then (qp_inb (qp_then qp_body))))) (fun _ => ⟨hs, hbs, hw2, hK, hv⟩) ?_
              refine dr_y 13 rfl (fun _ => y_index (r := 0 + 3) Tryd.underlying75 T.ty74 rfl rfl (hv.row.addr (j := 3) (by first | (simp; omega) | (show _ < 8; omega))) (by omega) (by omega) (by omega)) rfl (by kernel_rfl) (qp_inb (qp_then (qp_then (qp_inb (qp_then qp_body))))) (fun _ => ⟨hs, hbs, hw2, hK, hv⟩) ?_
              refine dr_l 14 rfl (fun _ hS => by obtain ⟨q0, q1, q2, q3, q4⟩ := hS; exact y_ldR (v := .int .u32 (↑((rounds (sched bs 64) s t).e).toNat)) (j := 3) T.ty74 rfl q4.row (by first | rfl | omega) rfl) rfl (by kernel_rfl) (qp_inb (qp_then (qp_then (qp_inb (qp_then qp_body))))) ⟨hs, hbs, hw2, hK, hv⟩ ?_
              refine dr_y 15 rfl (fun _ => y_move rfl) rfl (by kernel_rfl) (qp_inb (qp_then (qp_then (qp_inb (qp_then qp_body))))) (fun _ => ⟨hs, hbs, hw2, hK, hv⟩) ?_
              refine dr_y 16 rfl (fun _ => y_add (r := ↑(((rounds (sched bs 64) s t).e) + ((((((rounds (sched bs 64) s t).i) + (((ror ((rounds (sched bs 64) s t).f) 6) ^^^ (ror ((rounds (sched bs 64) s t).f) 11)) ^^^ (ror ((rounds (sched bs 64) s t).f) 25))) + ((((rounds (sched bs 64) s t).f) &&& ((rounds (sched bs 64) s t).g)) ^^^ ((~~~((rounds (sched bs 64) s t).f)) &&& ((rounds (sched bs 64) s t).h)))) + (roots.getD t 0)) + ((sched bs 64).getD t 0))).toNat) rfl rfl (add32 _ _)) rfl (by kernel_rfl) (qp_inb (qp_then (qp_then (qp_inb (qp_then qp_body))))) (fun _ => ⟨hs, hbs, hw2, hK, hv⟩) ?_
              refine dr_y 17 rfl (fun _ => y_move rfl) rfl (by kernel_rfl) (qp_inb (qp_then (qp_then (qp_inb (qp_then qp_body))))) (fun _ => ⟨hs, hbs, hw2, hK, hv⟩) ?_
              refine dr_y 18 rfl (fun _ => y_index (r := 0 + 4) Tryd.underlying75 T.ty74 rfl rfl (hv.row.addr (j := 4) (by first | (simp; omega) | (show _ < 8; omega))) (by omega) (by omega) (by omega)) rfl (by kernel_rfl) (qp_inb (qp_then (qp_then (qp_inb (qp_then qp_body))))) (fun _ => ⟨hs, hbs, hw2, hK, hv⟩) ?_
              refine dr_l 19 rfl (fun _ hS => by obtain ⟨q0, q1, q2, q3, q4⟩ := hS; exact y_ldR (v := .int .u32 (↑((rounds (sched bs 64) s t).f).toNat)) (j := 4) T.ty74 rfl q4.row (by first | rfl | omega) rfl) rfl (by kernel_rfl) (qp_inb (qp_then (qp_then (qp_inb (qp_then qp_body))))) ⟨hs, hbs, hw2, hK, hv⟩ ?_
              refine dr_y 20 rfl (fun _ => y_move rfl) rfl (by kernel_rfl) (qp_inb (qp_then (qp_then (qp_inb (qp_then qp_body))))) (fun _ => ⟨hs, hbs, hw2, hK, hv⟩) ?_
              refine dr_y 21 rfl (fun _ => y_index (r := 0 + 5) Tryd.underlying75 T.ty74 rfl rfl (hv.row.addr (j := 5) (by first | (simp; omega) | (show _ < 8; omega))) (by omega) (by omega) (by omega)) rfl (by kernel_rfl) (qp_inb (qp_then (qp_then (qp_inb (qp_then qp_body))))) (fun _ => ⟨hs, hbs, hw2, hK, hv⟩) ?_
              refine dr_l 22 rfl (fun _ hS => by obtain ⟨q0, q1, q2, q3, q4⟩ := hS; exact y_ldR (v := .int .u32 (↑((rounds (sched bs 64) s t).g).toNat)) (j := 5) T.ty74 rfl q4.row (by first | rfl | omega) rfl) rfl (by kernel_rfl) (qp_inb (qp_then (qp_then (qp_inb (qp_then qp_body))))) ⟨hs, hbs, hw2, hK, hv⟩ ?_
              refine dr_y 23 rfl (fun _ => y_move rfl) rfl (by kernel_rfl) (qp_inb (qp_then (qp_then (qp_inb (qp_then qp_body))))) (fun _ => ⟨hs, hbs, hw2, hK, hv⟩) ?_
              refine dr_y 24 rfl (fun _ => y_index (r := 0 + 6) Tryd.underlying75 T.ty74 rfl rfl (hv.row.addr (j := 6) (by first | (simp; omega) | (show _ < 8; omega))) (by omega) (by omega) (by omega)) rfl (by kernel_rfl) (qp_inb (qp_then (qp_then (qp_inb (qp_then qp_body))))) (fun _ => ⟨hs, hbs, hw2, hK, hv⟩) ?_
              refine dr_l 25 rfl (fun _ hS => by obtain ⟨q0, q1, q2, q3, q4⟩ := hS; exact y_ldR (v := .int .u32 (↑((rounds (sched bs 64) s t).h).toNat)) (j := 6) T.ty74 rfl q4.row (by first | rfl | omega) rfl) rfl (by kernel_rfl) (qp_inb (qp_then (qp_then (qp_inb (qp_then qp_body))))) ⟨hs, hbs, hw2, hK, hv⟩ ?_
              refine dr_1 (i := 26) (by kernel_rfl) ?_
              have hlit141 := (T.lit12 (↑(((((((rounds (sched bs 64) s t).i) + (((ror ((rounds (sched bs 64) s t).f) 6) ^^^ (ror ((rounds (sched bs 64) s t).f) 11)) ^^^ (ror ((rounds (sched bs 64) s t).f) 25))) + ((((rounds (sched bs 64) s t).f) &&& ((rounds (sched bs 64) s t).g)) ^^^ ((~~~((rounds (sched bs 64) s t).f)) &&& ((rounds (sched bs 64) s t).h)))) + (roots.getD t 0)) + ((sched bs 64).getD t 0)) + ((((ror ((rounds (sched bs 64) s t).a) 2) ^^^ (ror ((rounds (sched bs 64) s t).a) 13)) ^^^ (ror ((rounds (sched bs 64) s t).a) 22)) + (((((rounds (sched bs 64) s t).a) &&& ((rounds (sched bs 64) s t).c)) ^^^ (((rounds (sched bs 64) s t).a) &&& ((rounds (sched bs 64) s t).d))) ^^^ (((rounds (sched bs 64) s t).c) &&& ((rounds (sched bs 64) s t).d))))).toNat) (↑((rounds (sched bs 64) s t).a).toNat) (↑((rounds (sched bs 64) s t).c).toNat) (↑((rounds (sched bs 64) s t).d).toNat) (↑(((rounds (sched bs 64) s t).e) + ((((((rounds (sched bs 64) s t).i) + (((ror ((rounds (sched bs 64) s t).f) 6) ^^^ (ror ((rounds (sched bs 64) s t).f) 11)) ^^^ (ror ((rounds (sched bs 64) s t).f) 25))) + ((((rounds (sched bs 64) s t).f) &&& ((rounds (sched bs 64) s t).g)) ^^^ ((~~~((rounds (sched bs 64) s t).f)) &&& ((rounds (sched bs 64) s t).h)))) + (roots.getD t 0)) + ((sched bs 64).getD t 0))).toNat) (↑((rounds (sched bs 64) s t).f).toNat) (↑((rounds (sched bs 64) s t).g).toNat) (↑((rounds (sched bs 64) s t).h).toNat))
              refine rd_d rfl (d_bs2 hlit141 ⟨rfl, rfl, rfl, rfl, rfl, rfl, rfl, rfl, rfl, rfl, rfl, rfl, rfl, rfl, rfl, rfl, trivial⟩) rfl rfl ?_
              rintro _ w143 ⟨g142, rfl, hg146, b144, f145⟩
              have ne147 := row_ne_new hs hg146
              have ne148 := row_ne_new hbs hg146
              have ne149 : g1 ≠ g142 := Nat.ne_of_lt (Nat.lt_of_lt_of_le hw2.lt hg146)
              have ne150 : gK ≠ g142 := Nat.ne_of_lt (Nat.lt_of_lt_of_le hK.lt hg146)
              have ne151 := hv.ne_new hg146
              have nw152 := Nat.le_trans hF140.size hg146
              replace hs := hs.fr0 f145
              replace hbs := hbs.fr0 f145
              replace hw2 := hw2.fr0 f145
              replace hK := hK.fr0 f145
              replace hv := hv.fr0 f145
              have hF153 := hF140.then0 f145
              have o154 := Own.of_blk (n := 8) (k := 1) b144 rfl (by decide)
              refine ⟨fun _ => ⟨hs, hbs, hw2, hK, hv⟩, ?_⟩
              refine dr_y 27 rfl (fun _ => y_assign rfl) rfl (by kernel_rfl) (qp_inb (qp_then (qp_then (qp_inb (qp_then qp_body))))) (fun _ => ⟨hs, hbs, hw2, hK, hv⟩) ?_
              refine dr_done (by kernel_rfl) ?_
              refine n_inb ?_
              refine n_then ?_
              refine c_region ?_
              refine s_y (y_move rfl) rfl rfl ?_
              refine s_y (y_add rfl rfl (wrI (by omega) (by omega))) rfl rfl ?_
              refine s_y (y_assign rfl) rfl rfl ?_
              refine s_nil ?_
              exact fun a ha => ⟨_, by omega, t + 1, g142, 8, rfl, ha.cut ⟨rfl, rfl, rfl, rfl, rfl, (iv (by omega)), trivial⟩, hF153, hs, hbs, hw2, hK, o154, by omega⟩
            · intro h155
              replace h155 : ¬ ((↑t : Int) < 64) := of_decide_eq_false h155
              refine c_exit ?_
              refine x_then ?_
              obtain rfl : t = 64 := by omega
              refine x_then ?_
              refine x_hit ?_
              refine n_then ?_
              refine c_seq ?_
              refine c_region ?_
              have hlit156 := (T.lit11 )
              refine s_d (d_bs2 hlit156 trivial) rfl rfl ?_
              rintro _ w158 ⟨g157, rfl, hg161, b159, f160⟩
              have ne162 := row_ne_new hs hg161
              have ne163 := row_ne_new hbs hg161
              have ne164 : g1 ≠ g157 := Nat.ne_of_lt (Nat.lt_of_lt_of_le hw2.lt hg161)
              have ne165 : gK ≠ g157 := Nat.ne_of_lt (Nat.lt_of_lt_of_le hK.lt hg161)
              have ne166 := hv.ne_new hg161
              have nw167 := Nat.le_trans hF97.size hg161
              replace hs := hs.fr0 f160
              replace hbs := hbs.fr0 f160
              replace hw2 := hw2.fr0 f160
              replace hK := hK.fr0 f160
              replace hv := hv.fr0 f160
              have hF168 := hF97.then0 f160
              have o169 := Own.of_blk (n := 0) (k := 1) b159 rfl (by decide)
              refine s_y (y_assign rfl) rfl rfl ?_
              refine s_nil ?_
              refine n_then ?_
              refine c_seq ?_
              refine c_seq ?_
              refine c_region ?_
              refine s_y (y_assign rfl) rfl rfl ?_
              refine s_nil ?_
              refine n_then ?_
              refine c_block ?_
              refine c_loop (fun m a W => ∃ j : Nat, ∃ go : Nat, ∃ co : Nat, m = 8 - j ∧ GP.St 228 [(0, .slice As 8 cs), (11, .slice (some ⟨gv, 0, none⟩) 8 cv), (17, .slice (some ⟨go, 0, none⟩) j co), (18, .int .i64 ↑j)] a ∧ Fr [] w W ∧ Row W As gs os 8 1 s.cells ∧ Row W Ab gb ob 64 1 (bs.map bv) ∧ Own W (some ⟨gv, 0, none⟩) gv 8 cv 74 1 ((rounds (sched bs 64) s 64).cells) ∧ Own W (some ⟨go, 0, none⟩) go j co 74 1 (((sum8 s (rounds (sched bs 64) s 64)).list.take j).map wv) ∧ (j ≤ 8) ∧ (w.heap.size ≤ go) ∧ (gv ≠ go)) (8) ?_ ?_
              · intro a ha
                exact ⟨0, g157, 0, rfl, ha.cut ⟨rfl, rfl, rfl, rfl, trivial⟩, hF168, hs, hbs, hv, (by simpa using o169), Nat.zero_le _, nw167, (ne166.resolve_left (by simp))⟩
              · rintro _ a W170 ⟨j, go, co, rfl, hst172, hF173, hs, hbs, hv, hout, hj, who, hgo⟩
                refine (show Wc _ _ _ _ _ _ from ?_) a hst172
                clear hst172 a
                refine c_seq ?_
                refine c_seq ?_
                refine c_region ?_
                refine s_y (y_move rfl) rfl rfl ?_
                refine s_y (y_lss rfl rfl rfl) rfl rfl ?_
                refine s_nil ?_
                refine n_then ?_
                refine c_cond rfl ?_ ?_
                · intro h174
                  replace h174 : (↑j : Int) < 8 := of_decide_eq_true h174
                  refine c_skip ?_
                  refine n_then ?_
                  refine c_seq ?_
                  refine c_block ?_
                  refine dr_begin (fun W => Row W As gs os 8 1 s.cells ∧ Own W (some ⟨gv, 0, none⟩) gv 8 cv 74 1 ((rounds (sched bs 64) s 64).cells)) 13 (by kernel_rfl) ?_
                  intro w175 f176
                  replace hs := hs.fr0 f176
                  replace hbs := hbs.fr0 f176
                  replace hv := hv.fr0 f176
                  replace hout := hout.fr0 f176
                  have hF177 := hF173.then0 f176
                  refine dr_y 0 rfl (fun _ => y_move rfl) rfl (by kernel_rfl) (qp_inb (qp_then (qp_then (qp_inb (qp_then qp_body))))) (fun _ => ⟨hs, hv⟩) ?_
                  refine dr_y 1 rfl (fun _ => y_move rfl) rfl (by kernel_rfl) (qp_inb (qp_then (qp_then (qp_inb (qp_then qp_body))))) (fun _ => ⟨hs, hv⟩) ?_
                  refine dr_y 2 rfl (fun _ => y_move rfl) rfl (by kernel_rfl) (qp_inb (qp_then (qp_then (qp_inb (qp_then qp_body))))) (fun _ => ⟨hs, hv⟩) ?_
                  refine dr_y 3 rfl (fun _ => y_index (r := os + j) Tryd.underlying75 T.ty74 rfl rfl (hs.addr (j := j) (by first | (simp; omega) | (show _ < 8; omega))) (by omega) (by omega) (by omega)) rfl (by kernel_rfl) (qp_inb (qp_then (qp_then (qp_inb (qp_then qp_body))))) (fun _ => ⟨hs, hv⟩) ?_
                  refine dr_l 4 rfl (fun _ hS => by obtain ⟨q0, q1⟩ := hS; exact y_ldR (v := .int .u32 (↑(s.list.getD j 0).toNat)) (j := j) T.ty74 rfl q0 (by first | rfl | omega) (map_at wv s.list j 0 (show _ < 8 by omega))) rfl (by kernel_rfl) (qp_inb (qp_then (qp_then (qp_inb (qp_then qp_body))))) ⟨hs, hv⟩ ?_
                  refine dr_y 5 rfl (fun _ => y_move rfl) rfl (by kernel_rfl) (qp_inb (qp_then (qp_then (qp_inb (qp_then qp_body))))) (fun _ => ⟨hs, hv⟩) ?_
                  refine dr_y 6 rfl (fun _ => y_move rfl) rfl (by kernel_rfl) (qp_inb (qp_then (qp_then (qp_inb (qp_then qp_body))))) (fun _ => ⟨hs, hv⟩) ?_
                  refine dr_y 7 rfl (fun _ => y_index (r := 0 + j) Tryd.underlying75 T.ty74 rfl rfl (hv.row.addr (j := j) (by first | (simp; omega) | (show _ < 8; omega))) (by omega) (by omega) (by omega)) rfl (by kernel_rfl) (qp_inb (qp_then (qp_then (qp_inb (qp_then qp_body))))) (fun _ => ⟨hs, hv⟩) ?_
                  refine dr_l 8 rfl (fun _ hS => by obtain ⟨q0, q1⟩ := hS; exact y_ldR (v := .int .u32 (↑((rounds (sched bs 64) s 64).list.getD j 0).toNat)) (j := j) T.ty74 rfl q1.row (by first | rfl | omega) (map_at wv (rounds (sched bs 64) s 64).list j 0 (show _ < 8 by omega))) rfl (by kernel_rfl) (qp_inb (qp_then (qp_then (qp_inb (qp_then qp_body))))) ⟨hs, hv⟩ ?_
                  refine dr_y 9 rfl (fun _ => y_add (r := ↑((s.list.getD j 0) + ((rounds (sched bs 64) s 64).list.getD j 0)).toNat) rfl rfl (add32 _ _)) rfl (by kernel_rfl) (qp_inb (qp_then (qp_then (qp_inb (qp_then qp_body))))) (fun _ => ⟨hs, hv⟩) ?_
                  refine dr_1 (i := 10) (by kernel_rfl) ?_
                  have hlit178 := (T.lit13 (↑((s.list.getD j 0) + ((rounds (sched bs 64) s 64).list.getD j 0)).toNat))
                  refine rd_d rfl (d_bs2 hlit178 ⟨rfl, rfl, trivial⟩) rfl rfl ?_
                  rintro _ w180 ⟨g179, rfl, hg183, b181, f182⟩
                  have ne184 := row_ne_new hs hg183
                  have ne185 := row_ne_new hbs hg183
                  have ne186 := hv.ne_new hg183
                  have ne187 := hout.ne_new hg183
                  have nw188 := Nat.le_trans hF177.size hg183
                  replace hs := hs.fr0 f182
                  replace hbs := hbs.fr0 f182
                  replace hv := hv.fr0 f182
                  replace hout := hout.fr0 f182
                  have hF189 := hF177.then0 f182
                  have o190 := Own.of_blk (n := 1) (k := 1) b181 rfl (by decide)
                  refine ⟨fun _ => ⟨hs, hv⟩, ?_⟩
                  refine dr_1 (i := 11) (by kernel_rfl) ?_
                  have hv_ := hv
                  refine rd_d rfl (d_append Tryd.underlying75 T.ty74 T.app74 rfl hout rfl (src_row Tryd.underlying75 T.ty74 o190.row ()) (ones (by first | exact all_bv _ | exact all_wv _ | exact rfl | simp [all_bv, all_u32, all_ent, all_dig, all_ents])) (by omega)) rfl rfl ?_
                  rintro _ w194 ⟨A191, g192, c193, rfl, o195, f196, hat197⟩
                  replace o195 : Own w194 A191 g192 (j + 1) c193 74 1 (((sum8 s (rounds (sched bs 64) s 64)).list.take (j + 1)).map wv) := (by rw [take_succ8 _ j (by omega), sum8_at _ _ j (by omega)]; simpa [wv] using o195)
                  replace hs := hs.fr f196 (row_app (wh_nw (.inr (.inr who))) lt_hs)
                  replace hbs := hbs.fr f196 (row_app (wh_nw (.inr (.inr who))) lt_hbs)
                  replace hv := hv.fr f196 (.inr (no_own (.inr (by omega))))
                  have wh199 : A191 = none ∨ g192 ∈ ([] : List Nat) ∨ w.heap.size ≤ g192 := app_wh hat197 (.inr (.inr who)) hF189.size
                  have hF200 := hF189.thenOwnIn f196 (.inr (.inr who))
                  refine ⟨fun _ => ⟨hs, hv⟩, ?_⟩
                  have far201 := own_far (w := w180) hv_ (by exact (by decide : 0 < 8)) hat197 hgo
                  have hA202 := own_some o195 (by rw [List.length_map, List.length_take]; exact Nat.lt_min.2 ⟨by omega, (by exact (by decide : 0 < 8))⟩)
                  subst hA202
                  refine dr_y 12 rfl (fun _ => y_assign rfl) rfl (by kernel_rfl) (qp_inb (qp_then (qp_then (qp_inb (qp_then qp_body))))) (fun _ => ⟨hs, hv⟩) ?_
                  refine dr_done (by kernel_rfl) ?_
                  refine n_inb ?_
                  refine n_then ?_
                  refine c_region ?_
                  refine s_y (y_move rfl) rfl rfl ?_
                  refine s_y (y_add rfl rfl (wrI (by omega) (by omega))) rfl rfl ?_
                  refine s_y (y_assign rfl) rfl rfl ?_
                  refine s_nil ?_
                  exact fun a ha => ⟨_, by omega, j + 1, g192, c193, rfl, ha.cut ⟨rfl, rfl, rfl, (iv (by omega)), trivial⟩, hF200, hs, hbs, hv, o195, by omega, ((wh199).resolve_left (by simp)).resolve_left (by simp), far201⟩
                · intro h203
                  replace h203 : ¬ ((↑j : Int) < 8) := of_decide_eq_false h203
                  refine c_exit ?_
                  refine x_then ?_
                  obtain rfl : j = 8 := by omega
                  refine x_then ?_
                  refine x_hit ?_
                  refine n_then ?_
                  refine c_seq ?_
                  refine c_region ?_
                  refine s_y (y_move rfl) rfl rfl ?_
                  refine s_y (y_assign rfl) rfl rfl ?_
                  refine s_nil ?_
                  refine n_then ?_
                  refine c_ret ?_
                  refine fin1 (by simp) rfl rfl ?_
                  exact ⟨_, _, _, rfl, hF173, hout, .inr who⟩

end Go.Proofs.YtojbephcahnbbaaDoor
