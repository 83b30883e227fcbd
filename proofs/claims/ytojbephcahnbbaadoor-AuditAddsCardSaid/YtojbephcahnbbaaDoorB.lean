/- The digest's functions. No condition. -/
import Derived.Test.YtojbephcahnbbaaDoorD
import Derived.Test.YtojbephcahnbbaaDoorSha
import Derived.Test.YtojbephcahnbbaaDoorBT
import Derived.Test.YtojbephcahnbbaaDoorProg
set_option linter.unusedVariables false
set_option linter.unusedSimpArgs false
namespace Go.Proofs.YtojbephcahnbbaaDoor
open Go Go.Proofs.GP Go.Proofs.Tryd
set_option maxRecDepth 100000 in
theorem ror51_ok (x : B32) (n : Nat) (w : World) (hn : n ≤ 32) :
    Calls Tryd.prog 51 #[.int .u32 ↑x.toNat, .int .i64 ↑n] w fun e w' => e = .returned (.int .u32 ↑(ror x n).toNat) ∧ Fr [] w w' := by
  refine c_start (args := [.int .u32 ↑x.toNat, .int .i64 ↑n]) Tryd.func51 rfl rfl rfl ?_
  try simp only [enum, Nat.zero_add, Nat.reduceAdd]
  have hF0 := Fr.refl [] w
  refine c_seq ?_
  refine c_region ?_
  refine s_y (y_assign rfl) rfl rfl ?_
  refine s_nil ?_
  refine n_then ?_
  refine c_seq ?_
  refine dr_begin (fun _ => True) 9 (by kernel_rfl) ?_
  intro w1 f2
  have hF3 := hF0.then0 f2
  refine dr_y 0 rfl (fun _ => y_move rfl) rfl (by kernel_rfl) (qp_then qp_body) (fun _ => trivial) ?_
  refine dr_y 1 rfl (fun _ => y_move rfl) rfl (by kernel_rfl) (qp_then qp_body) (fun _ => trivial) ?_
  refine dr_y 2 rfl (fun _ => y_shr (r := ↑(x >>> n).toNat) rfl rfl (by omega) (shr32 _ n _ (by omega) (by omega))) rfl (by kernel_rfl) (qp_then qp_body) (fun _ => trivial) ?_
  refine dr_y 3 rfl (fun _ => y_move rfl) rfl (by kernel_rfl) (qp_then qp_body) (fun _ => trivial) ?_
  refine dr_y 4 rfl (fun _ => y_move rfl) rfl (by kernel_rfl) (qp_then qp_body) (fun _ => trivial) ?_
  refine dr_y 5 rfl (fun _ => y_sub (r := ↑(32 - n)) rfl rfl (by rw [show ((32 : Int) - ↑n) = ↑(32 - n) by omega]; exact wrI (by omega) (by omega))) rfl (by kernel_rfl) (qp_then qp_body) (fun _ => trivial) ?_
  refine dr_y 6 rfl (fun _ => y_shl (r := ↑(x <<< (32 - n)).toNat) rfl rfl (by omega) (shl32 _ (32 - n) _ (by omega) (by omega))) rfl (by kernel_rfl) (qp_then qp_body) (fun _ => trivial) ?_
  refine dr_y 7 rfl (fun _ => y_or (r := ↑((x >>> n) ||| (x <<< (32 - n))).toNat) rfl rfl (or32 _ _)) rfl (by kernel_rfl) (qp_then qp_body) (fun _ => trivial) ?_
  refine dr_y 8 rfl (fun _ => y_assign rfl) rfl (by kernel_rfl) (qp_then qp_body) (fun _ => trivial) ?_
  refine dr_done (by kernel_rfl) ?_
  refine n_then ?_
  refine c_ret ?_
  refine fin1 (by simp) rfl rfl ?_
  exact ⟨rfl, hF3⟩

set_option maxRecDepth 100000 in
theorem turn_ok (p tb g o c : Nat) (A : Option Addr) (s : S8) (tl : List Value) (bs : List UInt8) (w : World) (hb : bs.length = 64) (h0 : 0 ≠ p) (hgp : g ≠ p) (hp : Blk w p tb (([.int .u32 ↑s.a.toNat, .int .u32 ↑s.c.toNat, .int .u32 ↑s.d.toNat, .int .u32 ↑s.e.toNat, .int .u32 ↑s.f.toNat, .int .u32 ↑s.g.toNat, .int .u32 ↑s.h.toNat, .int .u32 ↑s.i.toNat] : List Value) ++ tl)) (hr : Row w A g o 64 1 (bs.map bv)) (hG : Row w (some ⟨0, 0, none⟩) 0 0 64 1 (roots.map wv)) :
    Calls Tryd.prog 44 #[.pointer (some ⟨p, 0, none⟩), .slice A 64 c] w fun e w' => e = .returned (.tuple #[]) ∧ Fr [p] w w' ∧ Blk w' p tb ((turnS s bs).cells ++ tl) := by
  refine c_start (args := [.pointer (some ⟨p, 0, none⟩), .slice A 64 c]) Tryd.func44 rfl rfl rfl ?_
  try simp only [enum, Nat.zero_add, Nat.reduceAdd]
  have hF0 := Fr.refl [p] w
  have lt_hp := hp.lt
  have lt_hr := hr.lt'
  have lt_hG := hG.lt'
  refine c_seq ?_
  refine c_region ?_
  refine s_d (d_alloc (cs := [.int .u32 0, .int .u32 0, .int .u32 0, .int .u32 0, .int .u32 0, .int .u32 0, .int .u32 0, .int .u32 0, .int .u32 0, .int .u32 0, .int .u32 0, .int .u32 0, .int .u32 0, .int .u32 0, .int .u32 0, .int .u32 0, .int .u32 0, .int .u32 0, .int .u32 0, .int .u32 0, .int .u32 0, .int .u32 0, .int .u32 0, .int .u32 0, .int .u32 0, .int .u32 0, .int .u32 0, .int .u32 0, .int .u32 0, .int .u32 0, .int .u32 0, .int .u32 0, .int .u32 0, .int .u32 0, .int .u32 0, .int .u32 0, .int .u32 0, .int .u32 0, .int .u32 0, .int .u32 0, .int .u32 0, .int .u32 0, .int .u32 0, .int .u32 0, .int .u32 0, .int .u32 0, .int .u32 0, .int .u32 0, .int .u32 0, .int .u32 0, .int .u32 0, .int .u32 0, .int .u32 0, .int .u32 0, .int .u32 0, .int .u32 0, .int .u32 0, .int .u32 0, .int .u32 0, .int .u32 0, .int .u32 0, .int .u32 0, .int .u32 0, .int .u32 0]) T.zero90 rfl) rfl rfl ?_
  rintro _ w2 ⟨g1, rfl, hg5, b3, f4⟩
  have ne6 : p ≠ g1 := Nat.ne_of_lt (Nat.lt_of_lt_of_le hp.lt hg5)
  have ne7 := row_ne_new hr hg5
  have ne8 := row_ne_new hG hg5
  have nw9 := Nat.le_trans hF0.size hg5
  replace hp := hp.fr0 f4
  replace hr := hr.fr0 f4
  replace hG := hG.fr0 f4
  have hF10 := hF0.then0 f4
  refine s_nil ?_
  refine n_then ?_
  refine c_seq ?_
  refine c_seq ?_
  refine c_region ?_
  refine s_y (y_move rfl) rfl rfl ?_
  refine s_nil ?_
  refine n_then ?_
  refine c_block ?_
  refine c_loop (fun m a W => ∃ t : Nat, m = 64 - t ∧ GP.St 218 [(0, .pointer (some ⟨p, 0, none⟩)), (1, .slice A 64 c), (4, .pointer (some ⟨g1, 0, none⟩)), (22, .int .i64 ↑t)] a ∧ Fr [p] w W ∧ Blk W p tb (([.int .u32 ↑s.a.toNat, .int .u32 ↑s.c.toNat, .int .u32 ↑s.d.toNat, .int .u32 ↑s.e.toNat, .int .u32 ↑s.f.toNat, .int .u32 ↑s.g.toNat, .int .u32 ↑s.h.toNat, .int .u32 ↑s.i.toNat] : List Value) ++ tl) ∧ Row W A g o 64 1 (bs.map bv) ∧ Row W (some ⟨0, 0, none⟩) 0 0 64 1 (roots.map wv) ∧ Blk W g1 90 ((sched bs t).map wv) ∧ (t ≤ 64)) (64) ?_ ?_
  · intro a ha
    exact ⟨0, rfl, ha.cut ⟨rfl, rfl, rfl, rfl, trivial⟩, hF10, hp, hr, hG, b3, Nat.zero_le _⟩
  · rintro _ a W11 ⟨t, rfl, hst13, hF14, hp, hr, hG, hw, ht⟩
    refine (show Wc _ _ _ _ _ _ from ?_) a hst13
    clear hst13 a
    refine c_seq ?_
    refine c_region ?_
    refine s_y (y_lss rfl rfl rfl) rfl rfl ?_
    refine s_nil ?_
    refine n_then ?_
    refine c_seq ?_
    refine c_cond rfl ?_ ?_
    · intro h15
      replace h15 : (↑t : Int) < 64 := of_decide_eq_true h15
      refine c_skip ?_
      refine n_then ?_
      refine c_seq ?_
      refine c_block ?_
      refine c_seq ?_
      refine c_region ?_
      refine s_y (y_move rfl) rfl rfl ?_
      refine s_y (y_assign rfl) rfl rfl ?_
      refine s_nil ?_
      refine n_then ?_
      refine c_seq ?_
      refine c_seq ?_
      refine c_region ?_
      refine s_y (y_move rfl) rfl rfl ?_
      refine s_y (y_lss rfl rfl rfl) rfl rfl ?_
      refine s_nil ?_
      refine n_then ?_
      refine c_cond rfl ?_ ?_
      · intro h16
        replace h16 : (↑t : Int) < 16 := of_decide_eq_true h16
        refine c_seq ?_
        refine dr_begin (fun W => Blk W p tb (([.int .u32 ↑s.a.toNat, .int .u32 ↑s.c.toNat, .int .u32 ↑s.d.toNat, .int .u32 ↑s.e.toNat, .int .u32 ↑s.f.toNat, .int .u32 ↑s.g.toNat, .int .u32 ↑s.h.toNat, .int .u32 ↑s.i.toNat] : List Value) ++ tl) ∧ Row W A g o 64 1 (bs.map bv) ∧ Row W (some ⟨0, 0, none⟩) 0 0 64 1 (roots.map wv) ∧ Blk W g1 90 ((sched bs t).map wv)) 35 (by kernel_rfl) ?_
        intro w17 f18
        replace hp := hp.fr0 f18
        replace hr := hr.fr0 f18
        replace hG := hG.fr0 f18
        replace hw := hw.fr0 f18
        have hF19 := hF14.then0 f18
        refine dr_y 0 rfl (fun _ => y_move rfl) rfl (by kernel_rfl) (qp_then (qp_then (qp_inb (qp_then (qp_then (qp_inb (qp_then qp_body))))))) (fun _ => ⟨hp, hr, hG, hw⟩) ?_
        refine dr_y 1 rfl (fun _ => y_move rfl) rfl (by kernel_rfl) (qp_then (qp_then (qp_inb (qp_then (qp_then (qp_inb (qp_then qp_body))))))) (fun _ => ⟨hp, hr, hG, hw⟩) ?_
        refine dr_y 2 rfl (fun _ => y_move rfl) rfl (by kernel_rfl) (qp_then (qp_then (qp_inb (qp_then (qp_then (qp_inb (qp_then qp_body))))))) (fun _ => ⟨hp, hr, hG, hw⟩) ?_
        refine dr_y 3 rfl (fun _ => y_mul rfl rfl (wrI (by omega) (by omega))) rfl (by kernel_rfl) (qp_then (qp_then (qp_inb (qp_then (qp_then (qp_inb (qp_then qp_body))))))) (fun _ => ⟨hp, hr, hG, hw⟩) ?_
        refine dr_y 4 rfl (fun _ => y_index (r := o + (4 * t)) Tryd.underlying64 T.ty5 rfl rfl (hr.addr (j := (4 * t)) (by simp; omega)) (by omega) (by omega) (by omega)) rfl (by kernel_rfl) (qp_then (qp_then (qp_inb (qp_then (qp_then (qp_inb (qp_then qp_body))))))) (fun _ => ⟨hp, hr, hG, hw⟩) ?_
        refine dr_l 5 rfl (fun _ hS => by obtain ⟨q0, q1, q2, q3⟩ := hS; exact y_ldR (v := .int .u8 (↑(bs.getD (4 * t) 0).toNat)) (j := (4 * t)) T.ty5 rfl q1 (by first | rfl | omega) (map_at bv bs (4 * t) 0 (by omega))) rfl (by kernel_rfl) (qp_then (qp_then (qp_inb (qp_then (qp_then (qp_inb (qp_then qp_body))))))) ⟨hp, hr, hG, hw⟩ ?_
        refine dr_y 6 rfl (fun _ => y_conv (r := ↑(b32 (bs.getD (4 * t) 0)).toNat) Tryd.underlying5 Tryd.underlying74 rfl (conv_b32 _)) rfl (by kernel_rfl) (qp_then (qp_then (qp_inb (qp_then (qp_then (qp_inb (qp_then qp_body))))))) (fun _ => ⟨hp, hr, hG, hw⟩) ?_
        refine dr_y 7 rfl (fun _ => y_shl (r := ↑((b32 (bs.getD (4 * t) 0)) <<< 24).toNat) rfl rfl (by decide) (shl32 _ 24 _ rfl (by decide))) rfl (by kernel_rfl) (qp_then (qp_then (qp_inb (qp_then (qp_then (qp_inb (qp_then qp_body))))))) (fun _ => ⟨hp, hr, hG, hw⟩) ?_
        refine dr_y 8 rfl (fun _ => y_move rfl) rfl (by kernel_rfl) (qp_then (qp_then (qp_inb (qp_then (qp_then (qp_inb (qp_then qp_body))))))) (fun _ => ⟨hp, hr, hG, hw⟩) ?_
        refine dr_y 9 rfl (fun _ => y_move rfl) rfl (by kernel_rfl) (qp_then (qp_then (qp_inb (qp_then (qp_then (qp_inb (qp_then qp_body))))))) (fun _ => ⟨hp, hr, hG, hw⟩) ?_
        refine dr_y 10 rfl (fun _ => y_mul rfl rfl (wrI (by omega) (by omega))) rfl (by kernel_rfl) (qp_then (qp_then (qp_inb (qp_then (qp_then (qp_inb (qp_then qp_body))))))) (fun _ => ⟨hp, hr, hG, hw⟩) ?_
        refine dr_y 11 rfl (fun _ => y_add rfl rfl (wrI (by omega) (by omega))) rfl (by kernel_rfl) (qp_then (qp_then (qp_inb (qp_then (qp_then (qp_inb (qp_then qp_body))))))) (fun _ => ⟨hp, hr, hG, hw⟩) ?_
        refine dr_y 12 rfl (fun _ => y_index (r := o + (4 * t + 1)) Tryd.underlying64 T.ty5 rfl rfl (hr.addr (j := (4 * t + 1)) (by simp; omega)) (by omega) (by omega) (by omega)) rfl (by kernel_rfl) (qp_then (qp_then (qp_inb (qp_then (qp_then (qp_inb (qp_then qp_body))))))) (fun _ => ⟨hp, hr, hG, hw⟩) ?_
        refine dr_l 13 rfl (fun _ hS => by obtain ⟨q0, q1, q2, q3⟩ := hS; exact y_ldR (v := .int .u8 (↑(bs.getD (4 * t + 1) 0).toNat)) (j := (4 * t + 1)) T.ty5 rfl q1 (by first | rfl | omega) (map_at bv bs (4 * t + 1) 0 (by omega))) rfl (by kernel_rfl) (qp_then (qp_then (qp_inb (qp_then (qp_then (qp_inb (qp_then qp_body))))))) ⟨hp, hr, hG, hw⟩ ?_
        refine dr_y 14 rfl (fun _ => y_conv (r := ↑(b32 (bs.getD (4 * t + 1) 0)).toNat) Tryd.underlying5 Tryd.underlying74 rfl (conv_b32 _)) rfl (by kernel_rfl) (qp_then (qp_then (qp_inb (qp_then (qp_then (qp_inb (qp_then qp_body))))))) (fun _ => ⟨hp, hr, hG, hw⟩) ?_
        refine dr_y 15 rfl (fun _ => y_shl (r := ↑((b32 (bs.getD (4 * t + 1) 0)) <<< 16).toNat) rfl rfl (by decide) (shl32 _ 16 _ rfl (by decide))) rfl (by kernel_rfl) (qp_then (qp_then (qp_inb (qp_then (qp_then (qp_inb (qp_then qp_body))))))) (fun _ => ⟨hp, hr, hG, hw⟩) ?_
        refine dr_y 16 rfl (fun _ => y_or (r := ↑(((b32 (bs.getD (4 * t) 0)) <<< 24) ||| ((b32 (bs.getD (4 * t + 1) 0)) <<< 16)).toNat) rfl rfl (or32 _ _)) rfl (by kernel_rfl) (qp_then (qp_then (qp_inb (qp_then (qp_then (qp_inb (qp_then qp_body))))))) (fun _ => ⟨hp, hr, hG, hw⟩) ?_
        refine dr_y 17 rfl (fun _ => y_move rfl) rfl (by kernel_rfl) (qp_then (qp_then (qp_inb (qp_then (qp_then (qp_inb (qp_then qp_body))))))) (fun _ => ⟨hp, hr, hG, hw⟩) ?_
        refine dr_y 18 rfl (fun _ => y_move rfl) rfl (by kernel_rfl) (qp_then (qp_then (qp_inb (qp_then (qp_then (qp_inb (qp_then qp_body))))))) (fun _ => ⟨hp, hr, hG, hw⟩) ?_
        refine dr_y 19 rfl (fun _ => y_mul rfl rfl (wrI (by omega) (by omega))) rfl (by kernel_rfl) (qp_then (qp_then (qp_inb (qp_then (qp_then (qp_inb (qp_then qp_body))))))) (fun _ => ⟨hp, hr, hG, hw⟩) ?_
        refine dr_y 20 rfl (fun _ => y_add rfl rfl (wrI (by omega) (by omega))) rfl (by kernel_rfl) (qp_then (qp_then (qp_inb (qp_then (qp_then (qp_inb (qp_then qp_body))))))) (fun _ => ⟨hp, hr, hG, hw⟩) ?_
        refine dr_y 21 rfl (fun _ => y_index (r := o + (4 * t + 2)) Tryd.underlying64 T.ty5 rfl rfl (hr.addr (j := (4 * t + 2)) (by simp; omega)) (by omega) (by omega) (by omega)) rfl (by kernel_rfl) (qp_then (qp_then (qp_inb (qp_then (qp_then (qp_inb (qp_then qp_body))))))) (fun _ => ⟨hp, hr, hG, hw⟩) ?_
        refine dr_l 22 rfl (fun _ hS => by obtain ⟨q0, q1, q2, q3⟩ := hS; exact y_ldR (v := .int .u8 (↑(bs.getD (4 * t + 2) 0).toNat)) (j := (4 * t + 2)) T.ty5 rfl q1 (by first | rfl | omega) (map_at bv bs (4 * t + 2) 0 (by omega))) rfl (by kernel_rfl) (qp_then (qp_then (qp_inb (qp_then (qp_then (qp_inb (qp_then qp_body))))))) ⟨hp, hr, hG, hw⟩ ?_
        refine dr_y 23 rfl (fun _ => y_conv (r := ↑(b32 (bs.getD (4 * t + 2) 0)).toNat) Tryd.underlying5 Tryd.underlying74 rfl (conv_b32 _)) rfl (by kernel_rfl) (qp_then (qp_then (qp_inb (qp_then (qp_then (qp_inb (qp_then qp_body))))))) (fun _ => ⟨hp, hr, hG, hw⟩) ?_
        refine dr_y 24 rfl (fun _ => y_shl (r := ↑((b32 (bs.getD (4 * t + 2) 0)) <<< 8).toNat) rfl rfl (by decide) (shl32 _ 8 _ rfl (by decide))) rfl (by kernel_rfl) (qp_then (qp_then (qp_inb (qp_then (qp_then (qp_inb (qp_then qp_body))))))) (fun _ => ⟨hp, hr, hG, hw⟩) ?_
        refine dr_y 25 rfl (fun _ => y_or (r := ↑((((b32 (bs.getD (4 * t) 0)) <<< 24) ||| ((b32 (bs.getD (4 * t + 1) 0)) <<< 16)) ||| ((b32 (bs.getD (4 * t + 2) 0)) <<< 8)).toNat) rfl rfl (or32 _ _)) rfl (by kernel_rfl) (qp_then (qp_then (qp_inb (qp_then (qp_then (qp_inb (qp_then qp_body))))))) (fun _ => ⟨hp, hr, hG, hw⟩) ?_
        refine dr_y 26 rfl (fun _ => y_move rfl) rfl (by kernel_rfl) (qp_then (qp_then (qp_inb (qp_then (qp_then (qp_inb (qp_then qp_body))))))) (fun _ => ⟨hp, hr, hG, hw⟩) ?_
        refine dr_y 27 rfl (fun _ => y_move rfl) rfl (by kernel_rfl) (qp_then (qp_then (qp_inb (qp_then (qp_then (qp_inb (qp_then qp_body))))))) (fun _ => ⟨hp, hr, hG, hw⟩) ?_
        refine dr_y 28 rfl (fun _ => y_mul rfl rfl (wrI (by omega) (by omega))) rfl (by kernel_rfl) (qp_then (qp_then (qp_inb (qp_then (qp_then (qp_inb (qp_then qp_body))))))) (fun _ => ⟨hp, hr, hG, hw⟩) ?_
        refine dr_y 29 rfl (fun _ => y_add rfl rfl (wrI (by omega) (by omega))) rfl (by kernel_rfl) (qp_then (qp_then (qp_inb (qp_then (qp_then (qp_inb (qp_then qp_body))))))) (fun _ => ⟨hp, hr, hG, hw⟩) ?_
        refine dr_y 30 rfl (fun _ => y_index (r := o + (4 * t + 3)) Tryd.underlying64 T.ty5 rfl rfl (hr.addr (j := (4 * t + 3)) (by simp; omega)) (by omega) (by omega) (by omega)) rfl (by kernel_rfl) (qp_then (qp_then (qp_inb (qp_then (qp_then (qp_inb (qp_then qp_body))))))) (fun _ => ⟨hp, hr, hG, hw⟩) ?_
        refine dr_l 31 rfl (fun _ hS => by obtain ⟨q0, q1, q2, q3⟩ := hS; exact y_ldR (v := .int .u8 (↑(bs.getD (4 * t + 3) 0).toNat)) (j := (4 * t + 3)) T.ty5 rfl q1 (by first | rfl | omega) (map_at bv bs (4 * t + 3) 0 (by omega))) rfl (by kernel_rfl) (qp_then (qp_then (qp_inb (qp_then (qp_then (qp_inb (qp_then qp_body))))))) ⟨hp, hr, hG, hw⟩ ?_
        refine dr_y 32 rfl (fun _ => y_conv (r := ↑(b32 (bs.getD (4 * t + 3) 0)).toNat) Tryd.underlying5 Tryd.underlying74 rfl (conv_b32 _)) rfl (by kernel_rfl) (qp_then (qp_then (qp_inb (qp_then (qp_then (qp_inb (qp_then qp_body))))))) (fun _ => ⟨hp, hr, hG, hw⟩) ?_
        refine dr_y 33 rfl (fun _ => y_or (r := ↑(((((b32 (bs.getD (4 * t) 0)) <<< 24) ||| ((b32 (bs.getD (4 * t + 1) 0)) <<< 16)) ||| ((b32 (bs.getD (4 * t + 2) 0)) <<< 8)) ||| (b32 (bs.getD (4 * t + 3) 0))).toNat) rfl rfl (or32 _ _)) rfl (by kernel_rfl) (qp_then (qp_then (qp_inb (qp_then (qp_then (qp_inb (qp_then qp_body))))))) (fun _ => ⟨hp, hr, hG, hw⟩) ?_
        refine dr_y 34 rfl (fun _ => y_indexArr (r := t) Tryd.underlying90 T.ty74 rfl rfl (by omega) (by omega) (by omega)) rfl (by kernel_rfl) (qp_then (qp_then (qp_inb (qp_then (qp_then (qp_inb (qp_then qp_body))))))) (fun _ => ⟨hp, hr, hG, hw⟩) ?_
        refine dr_1 (i := 35) (by kernel_rfl) ?_
        refine rd_d rfl (d_store (cs := [.int .u32 (↑(((((b32 (bs.getD (4 * t) 0)) <<< 24) ||| ((b32 (bs.getD (4 * t + 1) 0)) <<< 16)) ||| ((b32 (bs.getD (4 * t + 2) 0)) <<< 8)) ||| (b32 (bs.getD (4 * t + 3) 0))).toNat)]) (l' := (sched bs (t + 1)).map wv) T.ty74 rfl rfl hw rfl rfl (ones rfl) (by simp [sched_len]; omega) (by first | (rw [sched_lt bs t (by omega)]; exact map_set wv _ _ _) | (rw [sched_ge bs t (by omega)]; exact map_set wv _ _ _))) rfl rfl ?_
        rintro _ w20 ⟨rfl, b21, f22⟩
        replace hp := hp.fr1 f22 ne6
        replace hr := hr.fr1 f22 ne7
        replace hG := hG.fr1 f22 ne8
        clear hw
        have hF23 := hF19.thenNew f22 nw9
        refine ⟨fun h => (Bool.false_ne_true (h.symm.trans (by kernel_rfl))).elim, ?_⟩
        refine dr_done (by kernel_rfl) ?_
        refine n_then ?_
        refine c_exit ?_
        refine x_then ?_
        refine x_hit ?_
        refine n_then ?_
        refine c_region ?_
        refine s_y (y_add rfl rfl (wrI (by omega) (by omega))) rfl rfl ?_
        refine s_y (y_move rfl) rfl rfl ?_
        refine s_nil ?_
        exact fun a ha => ⟨_, by omega, t + 1, rfl, ha.cut ⟨rfl, rfl, rfl, (iv (by omega)), trivial⟩, hF23, hp, hr, hG, b21, by omega⟩
      · intro h24
        replace h24 : ¬ ((↑t : Int) < 16) := of_decide_eq_false h24
        refine c_skip ?_
        refine n_then ?_
        refine c_seq ?_
        refine dr_begin (fun W => Blk W p tb (([.int .u32 ↑s.a.toNat, .int .u32 ↑s.c.toNat, .int .u32 ↑s.d.toNat, .int .u32 ↑s.e.toNat, .int .u32 ↑s.f.toNat, .int .u32 ↑s.g.toNat, .int .u32 ↑s.h.toNat, .int .u32 ↑s.i.toNat] : List Value) ++ tl) ∧ Row W A g o 64 1 (bs.map bv) ∧ Row W (some ⟨0, 0, none⟩) 0 0 64 1 (roots.map wv) ∧ Blk W g1 90 ((sched bs t).map wv)) 10 (by kernel_rfl) ?_
        intro w25 f26
        replace hp := hp.fr0 f26
        replace hr := hr.fr0 f26
        replace hG := hG.fr0 f26
        replace hw := hw.fr0 f26
        have hF27 := hF14.then0 f26
        refine dr_y 0 rfl (fun _ => y_move rfl) rfl (by kernel_rfl) (qp_then (qp_inb (qp_then (qp_then (qp_inb (qp_then qp_body)))))) (fun _ => ⟨hp, hr, hG, hw⟩) ?_
        refine dr_y 1 rfl (fun _ => y_sub rfl rfl (wrI (by omega) (by omega))) rfl (by kernel_rfl) (qp_then (qp_inb (qp_then (qp_then (qp_inb (qp_then qp_body)))))) (fun _ => ⟨hp, hr, hG, hw⟩) ?_
        refine dr_y 2 rfl (fun _ => y_indexArr (r := (t - 15)) Tryd.underlying90 T.ty74 rfl rfl (by omega) (by omega) (by omega)) rfl (by kernel_rfl) (qp_then (qp_inb (qp_then (qp_then (qp_inb (qp_then qp_body)))))) (fun _ => ⟨hp, hr, hG, hw⟩) ?_
        refine dr_l 3 rfl (fun _ hS => by obtain ⟨q0, q1, q2, q3⟩ := hS; exact y_ldB (v := .int .u32 (↑((sched bs t).getD (t - 15) 0).toNat)) T.ty74 rfl q3 (map_at wv (sched bs t) (t - 15) 0 (by rw [sched_len]; omega))) rfl (by kernel_rfl) (qp_then (qp_inb (qp_then (qp_then (qp_inb (qp_then qp_body)))))) ⟨hp, hr, hG, hw⟩ ?_
        refine dr_y 4 rfl (fun _ => y_move rfl) rfl (by kernel_rfl) (qp_then (qp_inb (qp_then (qp_then (qp_inb (qp_then qp_body)))))) (fun _ => ⟨hp, hr, hG, hw⟩) ?_
        refine dr_y 5 rfl (fun _ => y_sub rfl rfl (wrI (by omega) (by omega))) rfl (by kernel_rfl) (qp_then (qp_inb (qp_then (qp_then (qp_inb (qp_then qp_body)))))) (fun _ => ⟨hp, hr, hG, hw⟩) ?_
        refine dr_y 6 rfl (fun _ => y_indexArr (r := (t - 2)) Tryd.underlying90 T.ty74 rfl rfl (by omega) (by omega) (by omega)) rfl (by kernel_rfl) (qp_then (qp_inb (qp_then (qp_then (qp_inb (qp_then qp_body)))))) (fun _ => ⟨hp, hr, hG, hw⟩) ?_
        refine dr_l 7 rfl (fun _ hS => by obtain ⟨q0, q1, q2, q3⟩ := hS; exact y_ldB (v := .int .u32 (↑((sched bs t).getD (t - 2) 0).toNat)) T.ty74 rfl q3 (map_at wv (sched bs t) (t - 2) 0 (by rw [sched_len]; omega))) rfl (by kernel_rfl) (qp_then (qp_inb (qp_then (qp_then (qp_inb (qp_then qp_body)))))) ⟨hp, hr, hG, hw⟩ ?_
        refine dr_y 8 rfl (fun _ => y_assign rfl) rfl (by kernel_rfl) (qp_then (qp_inb (qp_then (qp_then (qp_inb (qp_then qp_body)))))) (fun _ => ⟨hp, hr, hG, hw⟩) ?_
        refine dr_y 9 rfl (fun _ => y_assign rfl) rfl (by kernel_rfl) (qp_then (qp_inb (qp_then (qp_then (qp_inb (qp_then qp_body)))))) (fun _ => ⟨hp, hr, hG, hw⟩) ?_
        refine dr_done (by kernel_rfl) ?_
        refine n_then ?_
        refine dr_begin (fun W => Blk W p tb (([.int .u32 ↑s.a.toNat, .int .u32 ↑s.c.toNat, .int .u32 ↑s.d.toNat, .int .u32 ↑s.e.toNat, .int .u32 ↑s.f.toNat, .int .u32 ↑s.g.toNat, .int .u32 ↑s.h.toNat, .int .u32 ↑s.i.toNat] : List Value) ++ tl) ∧ Row W A g o 64 1 (bs.map bv) ∧ Row W (some ⟨0, 0, none⟩) 0 0 64 1 (roots.map wv) ∧ Blk W g1 90 ((sched bs t).map wv)) 29 (by kernel_rfl) ?_
        intro w28 f29
        replace hp := hp.fr0 f29
        replace hr := hr.fr0 f29
        replace hG := hG.fr0 f29
        replace hw := hw.fr0 f29
        have hF30 := hF27.then0 f29
        refine dr_y 0 rfl (fun _ => y_move rfl) rfl (by kernel_rfl) (qp_inb (qp_then (qp_then (qp_inb (qp_then qp_body))))) (fun _ => ⟨hp, hr, hG, hw⟩) ?_
        refine dr_y 1 rfl (fun _ => y_move rfl) rfl (by kernel_rfl) (qp_inb (qp_then (qp_then (qp_inb (qp_then qp_body))))) (fun _ => ⟨hp, hr, hG, hw⟩) ?_
        refine dr_y 2 rfl (fun _ => y_sub rfl rfl (wrI (by omega) (by omega))) rfl (by kernel_rfl) (qp_inb (qp_then (qp_then (qp_inb (qp_then qp_body))))) (fun _ => ⟨hp, hr, hG, hw⟩) ?_
        refine dr_y 3 rfl (fun _ => y_indexArr (r := (t - 16)) Tryd.underlying90 T.ty74 rfl rfl (by omega) (by omega) (by omega)) rfl (by kernel_rfl) (qp_inb (qp_then (qp_then (qp_inb (qp_then qp_body))))) (fun _ => ⟨hp, hr, hG, hw⟩) ?_
        refine dr_l 4 rfl (fun _ hS => by obtain ⟨q0, q1, q2, q3⟩ := hS; exact y_ldB (v := .int .u32 (↑((sched bs t).getD (t - 16) 0).toNat)) T.ty74 rfl q3 (map_at wv (sched bs t) (t - 16) 0 (by rw [sched_len]; omega))) rfl (by kernel_rfl) (qp_inb (qp_then (qp_then (qp_inb (qp_then qp_body))))) ⟨hp, hr, hG, hw⟩ ?_
        refine dr_y 5 rfl (fun _ => y_move rfl) rfl (by kernel_rfl) (qp_inb (qp_then (qp_then (qp_inb (qp_then qp_body))))) (fun _ => ⟨hp, hr, hG, hw⟩) ?_
        refine dr_y 6 rfl (fun _ => y_sub rfl rfl (wrI (by omega) (by omega))) rfl (by kernel_rfl) (qp_inb (qp_then (qp_then (qp_inb (qp_then qp_body))))) (fun _ => ⟨hp, hr, hG, hw⟩) ?_
        refine dr_y 7 rfl (fun _ => y_indexArr (r := (t - 7)) Tryd.underlying90 T.ty74 rfl rfl (by omega) (by omega) (by omega)) rfl (by kernel_rfl) (qp_inb (qp_then (qp_then (qp_inb (qp_then qp_body))))) (fun _ => ⟨hp, hr, hG, hw⟩) ?_
        refine dr_l 8 rfl (fun _ hS => by obtain ⟨q0, q1, q2, q3⟩ := hS; exact y_ldB (v := .int .u32 (↑((sched bs t).getD (t - 7) 0).toNat)) T.ty74 rfl q3 (map_at wv (sched bs t) (t - 7) 0 (by rw [sched_len]; omega))) rfl (by kernel_rfl) (qp_inb (qp_then (qp_then (qp_inb (qp_then qp_body))))) ⟨hp, hr, hG, hw⟩ ?_
        refine dr_y 9 rfl (fun _ => y_add (r := ↑(((sched bs t).getD (t - 16) 0) + ((sched bs t).getD (t - 7) 0)).toNat) rfl rfl (add32 _ _)) rfl (by kernel_rfl) (qp_inb (qp_then (qp_then (qp_inb (qp_then qp_body))))) (fun _ => ⟨hp, hr, hG, hw⟩) ?_
        refine dr_y 10 rfl (fun _ => y_move rfl) rfl (by kernel_rfl) (qp_inb (qp_then (qp_then (qp_inb (qp_then qp_body))))) (fun _ => ⟨hp, hr, hG, hw⟩) ?_
        refine dr_y 12 rfl (fun _ => y_move rfl) rfl (by kernel_rfl) (qp_inb (qp_then (qp_then (qp_inb (qp_then qp_body))))) (fun _ => ⟨hp, hr, hG, hw⟩) ?_
        refine dr_y 15 rfl (fun _ => y_move rfl) rfl (by kernel_rfl) (qp_inb (qp_then (qp_then (qp_inb (qp_then qp_body))))) (fun _ => ⟨hp, hr, hG, hw⟩) ?_
        refine dr_y 16 rfl (fun _ => y_shr (r := ↑(((sched bs t).getD (t - 15) 0) >>> 3).toNat) rfl rfl (by decide) (shr32 _ 3 _ rfl (by decide))) rfl (by kernel_rfl) (qp_inb (qp_then (qp_then (qp_inb (qp_then qp_body))))) (fun _ => ⟨hp, hr, hG, hw⟩) ?_
        refine dr_y 19 rfl (fun _ => y_move rfl) rfl (by kernel_rfl) (qp_inb (qp_then (qp_then (qp_inb (qp_then qp_body))))) (fun _ => ⟨hp, hr, hG, hw⟩) ?_
        refine dr_y 21 rfl (fun _ => y_move rfl) rfl (by kernel_rfl) (qp_inb (qp_then (qp_then (qp_inb (qp_then qp_body))))) (fun _ => ⟨hp, hr, hG, hw⟩) ?_
        refine dr_y 24 rfl (fun _ => y_move rfl) rfl (by kernel_rfl) (qp_inb (qp_then (qp_then (qp_inb (qp_then qp_body))))) (fun _ => ⟨hp, hr, hG, hw⟩) ?_
        refine dr_y 25 rfl (fun _ => y_shr (r := ↑(((sched bs t).getD (t - 2) 0) >>> 10).toNat) rfl rfl (by decide) (shr32 _ 10 _ rfl (by decide))) rfl (by kernel_rfl) (qp_inb (qp_then (qp_then (qp_inb (qp_then qp_body))))) (fun _ => ⟨hp, hr, hG, hw⟩) ?_
        refine dr_1 (i := 11) (by kernel_rfl) ?_
        refine rd_d rfl (d_callR T.ent51 (vs := [.int .u32 (↑((sched bs t).getD (t - 15) 0).toNat), .int .i64 7]) rfl (ror51_ok ((sched bs t).getD (t - 15) 0) 7 _ (by decide)) (by rintro e w' ⟨rfl, -⟩; exact ⟨_, rfl⟩)) rfl rfl ?_
        rintro v33 w31 ⟨hv34, f32⟩
        obtain rfl := ret_inj hv34
        replace hp := hp.fr0 f32
        replace hr := hr.fr0 f32
        replace hG := hG.fr0 f32
        replace hw := hw.fr0 f32
        have hF35 := hF30.then0 f32
        refine ⟨fun _ => ⟨hp, hr, hG, hw⟩, ?_⟩
        refine dr_1 (i := 13) (by kernel_rfl) ?_
        refine rd_d rfl (d_callR T.ent51 (vs := [.int .u32 (↑((sched bs t).getD (t - 15) 0).toNat), .int .i64 18]) rfl (ror51_ok ((sched bs t).getD (t - 15) 0) 18 _ (by decide)) (by rintro e w' ⟨rfl, -⟩; exact ⟨_, rfl⟩)) rfl rfl ?_
        rintro v38 w36 ⟨hv39, f37⟩
        obtain rfl := ret_inj hv39
        replace hp := hp.fr0 f37
        replace hr := hr.fr0 f37
        replace hG := hG.fr0 f37
        replace hw := hw.fr0 f37
        have hF40 := hF35.then0 f37
        refine ⟨fun _ => ⟨hp, hr, hG, hw⟩, ?_⟩
        refine dr_y 14 rfl (fun _ => y_xor (r := ↑((ror ((sched bs t).getD (t - 15) 0) 7) ^^^ (ror ((sched bs t).getD (t - 15) 0) 18)).toNat) rfl rfl (xor32 _ _)) rfl (by kernel_rfl) (qp_inb (qp_then (qp_then (qp_inb (qp_then qp_body))))) (fun _ => ⟨hp, hr, hG, hw⟩) ?_
        refine dr_y 17 rfl (fun _ => y_xor (r := ↑(((ror ((sched bs t).getD (t - 15) 0) 7) ^^^ (ror ((sched bs t).getD (t - 15) 0) 18)) ^^^ (((sched bs t).getD (t - 15) 0) >>> 3)).toNat) rfl rfl (xor32 _ _)) rfl (by kernel_rfl) (qp_inb (qp_then (qp_then (qp_inb (qp_then qp_body))))) (fun _ => ⟨hp, hr, hG, hw⟩) ?_
        refine dr_y 18 rfl (fun _ => y_add (r := ↑((((sched bs t).getD (t - 16) 0) + ((sched bs t).getD (t - 7) 0)) + (((ror ((sched bs t).getD (t - 15) 0) 7) ^^^ (ror ((sched bs t).getD (t - 15) 0) 18)) ^^^ (((sched bs t).getD (t - 15) 0) >>> 3))).toNat) rfl rfl (add32 _ _)) rfl (by kernel_rfl) (qp_inb (qp_then (qp_then (qp_inb (qp_then qp_body))))) (fun _ => ⟨hp, hr, hG, hw⟩) ?_
        refine dr_1 (i := 20) (by kernel_rfl) ?_
        refine rd_d rfl (d_callR T.ent51 (vs := [.int .u32 (↑((sched bs t).getD (t - 2) 0).toNat), .int .i64 17]) rfl (ror51_ok ((sched bs t).getD (t - 2) 0) 17 _ (by decide)) (by rintro e w' ⟨rfl, -⟩; exact ⟨_, rfl⟩)) rfl rfl ?_
        rintro v43 w41 ⟨hv44, f42⟩
        obtain rfl := ret_inj hv44
        replace hp := hp.fr0 f42
        replace hr := hr.fr0 f42
        replace hG := hG.fr0 f42
        replace hw := hw.fr0 f42
        have hF45 := hF40.then0 f42
        refine ⟨fun _ => ⟨hp, hr, hG, hw⟩, ?_⟩
        refine dr_1 (i := 22) (by kernel_rfl) ?_
        refine rd_d rfl (d_callR T.ent51 (vs := [.int .u32 (↑((sched bs t).getD (t - 2) 0).toNat), .int .i64 19]) rfl (ror51_ok ((sched bs t).getD (t - 2) 0) 19 _ (by decide)) (by rintro e w' ⟨rfl, -⟩; exact ⟨_, rfl⟩)) rfl rfl ?_
        rintro v48 w46 ⟨hv49, f47⟩
        obtain rfl := ret_inj hv49
        replace hp := hp.fr0 f47
        replace hr := hr.fr0 f47
        replace hG := hG.fr0 f47
        replace hw := hw.fr0 f47
        have hF50 := hF45.then0 f47
        refine ⟨fun _ => ⟨hp, hr, hG, hw⟩, ?_⟩
        refine dr_y 23 rfl (fun _ => y_xor (r := ↑((ror ((sched bs t).getD (t - 2) 0) 17) ^^^ (ror ((sched bs t).getD (t - 2) 0) 19)).toNat) rfl rfl (xor32 _ _)) rfl (by kernel_rfl) (qp_inb (qp_then (qp_then (qp_inb (qp_then qp_body))))) (fun _ => ⟨hp, hr, hG, hw⟩) ?_
        refine dr_y 26 rfl (fun _ => y_xor (r := ↑(((ror ((sched bs t).getD (t - 2) 0) 17) ^^^ (ror ((sched bs t).getD (t - 2) 0) 19)) ^^^ (((sched bs t).getD (t - 2) 0) >>> 10)).toNat) rfl rfl (xor32 _ _)) rfl (by kernel_rfl) (qp_inb (qp_then (qp_then (qp_inb (qp_then qp_body))))) (fun _ => ⟨hp, hr, hG, hw⟩) ?_
        refine dr_y 27 rfl (fun _ => y_add (r := ↑(((((sched bs t).getD (t - 16) 0) + ((sched bs t).getD (t - 7) 0)) + (((ror ((sched bs t).getD (t - 15) 0) 7) ^^^ (ror ((sched bs t).getD (t - 15) 0) 18)) ^^^ (((sched bs t).getD (t - 15) 0) >>> 3))) + (((ror ((sched bs t).getD (t - 2) 0) 17) ^^^ (ror ((sched bs t).getD (t - 2) 0) 19)) ^^^ (((sched bs t).getD (t - 2) 0) >>> 10))).toNat) rfl rfl (add32 _ _)) rfl (by kernel_rfl) (qp_inb (qp_then (qp_then (qp_inb (qp_then qp_body))))) (fun _ => ⟨hp, hr, hG, hw⟩) ?_
        refine dr_y 28 rfl (fun _ => y_indexArr (r := t) Tryd.underlying90 T.ty74 rfl rfl (by omega) (by omega) (by omega)) rfl (by kernel_rfl) (qp_inb (qp_then (qp_then (qp_inb (qp_then qp_body))))) (fun _ => ⟨hp, hr, hG, hw⟩) ?_
        refine dr_1 (i := 29) (by kernel_rfl) ?_
        refine rd_d rfl (d_store (cs := [.int .u32 (↑(((((sched bs t).getD (t - 16) 0) + ((sched bs t).getD (t - 7) 0)) + (((ror ((sched bs t).getD (t - 15) 0) 7) ^^^ (ror ((sched bs t).getD (t - 15) 0) 18)) ^^^ (((sched bs t).getD (t - 15) 0) >>> 3))) + (((ror ((sched bs t).getD (t - 2) 0) 17) ^^^ (ror ((sched bs t).getD (t - 2) 0) 19)) ^^^ (((sched bs t).getD (t - 2) 0) >>> 10))).toNat)]) (l' := (sched bs (t + 1)).map wv) T.ty74 rfl rfl hw rfl rfl (ones rfl) (by simp [sched_len]; omega) (by first | (rw [sched_lt bs t (by omega)]; exact map_set wv _ _ _) | (rw [sched_ge bs t (by omega)]; exact map_set wv _ _ _))) rfl rfl ?_
        rintro _ w51 ⟨rfl, b52, f53⟩
        replace hp := hp.fr1 f53 ne6
        replace hr := hr.fr1 f53 ne7
        replace hG := hG.fr1 f53 ne8
        clear hw
        have hF54 := hF50.thenNew f53 nw9
        refine ⟨fun h => (Bool.false_ne_true (h.symm.trans (by kernel_rfl))).elim, ?_⟩
        refine dr_done (by kernel_rfl) ?_
        refine n_inb ?_
        refine n_then ?_
        refine c_region ?_
        refine s_y (y_add rfl rfl (wrI (by omega) (by omega))) rfl rfl ?_
        refine s_y (y_move rfl) rfl rfl ?_
        refine s_nil ?_
        exact fun a ha => ⟨_, by omega, t + 1, rfl, ha.cut ⟨rfl, rfl, rfl, (iv (by omega)), trivial⟩, hF54, hp, hr, hG, b52, by omega⟩
    · intro h55
      replace h55 : ¬ ((↑t : Int) < 64) := of_decide_eq_false h55
      refine c_exit ?_
      refine x_then ?_
      obtain rfl : t = 64 := by omega
      refine x_then ?_
      refine x_hit ?_
      refine n_then ?_
      refine c_seq ?_
      refine dr_begin (fun W => Blk W p tb (([.int .u32 ↑s.a.toNat, .int .u32 ↑s.c.toNat, .int .u32 ↑s.d.toNat, .int .u32 ↑s.e.toNat, .int .u32 ↑s.f.toNat, .int .u32 ↑s.g.toNat, .int .u32 ↑s.h.toNat, .int .u32 ↑s.i.toNat] : List Value) ++ tl) ∧ Row W A g o 64 1 (bs.map bv) ∧ Row W (some ⟨0, 0, none⟩) 0 0 64 1 (roots.map wv) ∧ Blk W g1 90 ((sched bs 64).map wv)) 40 (by kernel_rfl) ?_
      intro w56 f57
      replace hp := hp.fr0 f57
      replace hr := hr.fr0 f57
      replace hG := hG.fr0 f57
      replace hw := hw.fr0 f57
      have hF58 := hF14.then0 f57
      refine dr_y 0 rfl (fun _ => y_move rfl) rfl (by kernel_rfl) (qp_then qp_body) (fun _ => ⟨hp, hr, hG, hw⟩) ?_
      refine dr_y 1 rfl (fun _ => y_nilCheck rfl) rfl (by kernel_rfl) (qp_then qp_body) (fun _ => ⟨hp, hr, hG, hw⟩) ?_
      refine dr_y 2 rfl (fun _ => y_indexArr (r := 0) Tryd.underlying79 T.ty74 rfl rfl (by decide) (by decide) rfl) rfl (by kernel_rfl) (qp_then qp_body) (fun _ => ⟨hp, hr, hG, hw⟩) ?_
      refine dr_l 3 rfl (fun _ hS => by obtain ⟨q0, q1, q2, q3⟩ := hS; exact y_ldB (v := .int .u32 ↑s.a.toNat) T.ty74 rfl q0 rfl) rfl (by kernel_rfl) (qp_then qp_body) ⟨hp, hr, hG, hw⟩ ?_
      refine dr_y 4 rfl (fun _ => y_move rfl) rfl (by kernel_rfl) (qp_then qp_body) (fun _ => ⟨hp, hr, hG, hw⟩) ?_
      refine dr_y 5 rfl (fun _ => y_nilCheck rfl) rfl (by kernel_rfl) (qp_then qp_body) (fun _ => ⟨hp, hr, hG, hw⟩) ?_
      refine dr_y 6 rfl (fun _ => y_indexArr (r := 1) Tryd.underlying79 T.ty74 rfl rfl (by decide) (by decide) rfl) rfl (by kernel_rfl) (qp_then qp_body) (fun _ => ⟨hp, hr, hG, hw⟩) ?_
      refine dr_l 7 rfl (fun _ hS => by obtain ⟨q0, q1, q2, q3⟩ := hS; exact y_ldB (v := .int .u32 ↑s.c.toNat) T.ty74 rfl q0 rfl) rfl (by kernel_rfl) (qp_then qp_body) ⟨hp, hr, hG, hw⟩ ?_
      refine dr_y 8 rfl (fun _ => y_move rfl) rfl (by kernel_rfl) (qp_then qp_body) (fun _ => ⟨hp, hr, hG, hw⟩) ?_
      refine dr_y 9 rfl (fun _ => y_nilCheck rfl) rfl (by kernel_rfl) (qp_then qp_body) (fun _ => ⟨hp, hr, hG, hw⟩) ?_
      refine dr_y 10 rfl (fun _ => y_indexArr (r := 2) Tryd.underlying79 T.ty74 rfl rfl (by decide) (by decide) rfl) rfl (by kernel_rfl) (qp_then qp_body) (fun _ => ⟨hp, hr, hG, hw⟩) ?_
      refine dr_l 11 rfl (fun _ hS => by obtain ⟨q0, q1, q2, q3⟩ := hS; exact y_ldB (v := .int .u32 ↑s.d.toNat) T.ty74 rfl q0 rfl) rfl (by kernel_rfl) (qp_then qp_body) ⟨hp, hr, hG, hw⟩ ?_
      refine dr_y 12 rfl (fun _ => y_move rfl) rfl (by kernel_rfl) (qp_then qp_body) (fun _ => ⟨hp, hr, hG, hw⟩) ?_
      refine dr_y 13 rfl (fun _ => y_nilCheck rfl) rfl (by kernel_rfl) (qp_then qp_body) (fun _ => ⟨hp, hr, hG, hw⟩) ?_
      refine dr_y 14 rfl (fun _ => y_indexArr (r := 3) Tryd.underlying79 T.ty74 rfl rfl (by decide) (by decide) rfl) rfl (by kernel_rfl) (qp_then qp_body) (fun _ => ⟨hp, hr, hG, hw⟩) ?_
      refine dr_l 15 rfl (fun _ hS => by obtain ⟨q0, q1, q2, q3⟩ := hS; exact y_ldB (v := .int .u32 ↑s.e.toNat) T.ty74 rfl q0 rfl) rfl (by kernel_rfl) (qp_then qp_body) ⟨hp, hr, hG, hw⟩ ?_
      refine dr_y 16 rfl (fun _ => y_move rfl) rfl (by kernel_rfl) (qp_then qp_body) (fun _ => ⟨hp, hr, hG, hw⟩) ?_
      refine dr_y 17 rfl (fun _ => y_nilCheck rfl) rfl (by kernel_rfl) (qp_then qp_body) (fun _ => ⟨hp, hr, hG, hw⟩) ?_
      refine dr_y 18 rfl (fun _ => y_indexArr (r := 4) Tryd.underlying79 T.ty74 rfl rfl (by decide) (by decide) rfl) rfl (by kernel_rfl) (qp_then qp_body) (fun _ => ⟨hp, hr, hG, hw⟩) ?_
      refine dr_l 19 rfl (fun _ hS => by obtain ⟨q0, q1, q2, q3⟩ := hS; exact y_ldB (v := .int .u32 ↑s.f.toNat) T.ty74 rfl q0 rfl) rfl (by kernel_rfl) (qp_then qp_body) ⟨hp, hr, hG, hw⟩ ?_
      refine dr_y 20 rfl (fun _ => y_move rfl) rfl (by kernel_rfl) (qp_then qp_body) (fun _ => ⟨hp, hr, hG, hw⟩) ?_
      refine dr_y 21 rfl (fun _ => y_nilCheck rfl) rfl (by kernel_rfl) (qp_then qp_body) (fun _ => ⟨hp, hr, hG, hw⟩) ?_
      refine dr_y 22 rfl (fun _ => y_indexArr (r := 5) Tryd.underlying79 T.ty74 rfl rfl (by decide) (by decide) rfl) rfl (by kernel_rfl) (qp_then qp_body) (fun _ => ⟨hp, hr, hG, hw⟩) ?_
      refine dr_l 23 rfl (fun _ hS => by obtain ⟨q0, q1, q2, q3⟩ := hS; exact y_ldB (v := .int .u32 ↑s.g.toNat) T.ty74 rfl q0 rfl) rfl (by kernel_rfl) (qp_then qp_body) ⟨hp, hr, hG, hw⟩ ?_
      refine dr_y 24 rfl (fun _ => y_move rfl) rfl (by kernel_rfl) (qp_then qp_body) (fun _ => ⟨hp, hr, hG, hw⟩) ?_
      refine dr_y 25 rfl (fun _ => y_nilCheck rfl) rfl (by kernel_rfl) (qp_then qp_body) (fun _ => ⟨hp, hr, hG, hw⟩) ?_
      refine dr_y 26 rfl (fun _ => y_indexArr (r := 6) Tryd.underlying79 T.ty74 rfl rfl (by decide) (by decide) rfl) rfl (by kernel_rfl) (qp_then qp_body) (fun _ => ⟨hp, hr, hG, hw⟩) ?_
      refine dr_l 27 rfl (fun _ hS => by obtain ⟨q0, q1, q2, q3⟩ := hS; exact y_ldB (v := .int .u32 ↑s.h.toNat) T.ty74 rfl q0 rfl) rfl (by kernel_rfl) (qp_then qp_body) ⟨hp, hr, hG, hw⟩ ?_
      refine dr_y 28 rfl (fun _ => y_move rfl) rfl (by kernel_rfl) (qp_then qp_body) (fun _ => ⟨hp, hr, hG, hw⟩) ?_
      refine dr_y 29 rfl (fun _ => y_nilCheck rfl) rfl (by kernel_rfl) (qp_then qp_body) (fun _ => ⟨hp, hr, hG, hw⟩) ?_
      refine dr_y 30 rfl (fun _ => y_indexArr (r := 7) Tryd.underlying79 T.ty74 rfl rfl (by decide) (by decide) rfl) rfl (by kernel_rfl) (qp_then qp_body) (fun _ => ⟨hp, hr, hG, hw⟩) ?_
      refine dr_l 31 rfl (fun _ hS => by obtain ⟨q0, q1, q2, q3⟩ := hS; exact y_ldB (v := .int .u32 ↑s.i.toNat) T.ty74 rfl q0 rfl) rfl (by kernel_rfl) (qp_then qp_body) ⟨hp, hr, hG, hw⟩ ?_
      refine dr_y 32 rfl (fun _ => y_assign rfl) rfl (by kernel_rfl) (qp_then qp_body) (fun _ => ⟨hp, hr, hG, hw⟩) ?_
      refine dr_y 33 rfl (fun _ => y_assign rfl) rfl (by kernel_rfl) (qp_then qp_body) (fun _ => ⟨hp, hr, hG, hw⟩) ?_
      refine dr_y 34 rfl (fun _ => y_assign rfl) rfl (by kernel_rfl) (qp_then qp_body) (fun _ => ⟨hp, hr, hG, hw⟩) ?_
      refine dr_y 35 rfl (fun _ => y_assign rfl) rfl (by kernel_rfl) (qp_then qp_body) (fun _ => ⟨hp, hr, hG, hw⟩) ?_
      refine dr_y 36 rfl (fun _ => y_assign rfl) rfl (by kernel_rfl) (qp_then qp_body) (fun _ => ⟨hp, hr, hG, hw⟩) ?_
      refine dr_y 37 rfl (fun _ => y_assign rfl) rfl (by kernel_rfl) (qp_then qp_body) (fun _ => ⟨hp, hr, hG, hw⟩) ?_
      refine dr_y 38 rfl (fun _ => y_assign rfl) rfl (by kernel_rfl) (qp_then qp_body) (fun _ => ⟨hp, hr, hG, hw⟩) ?_
      refine dr_y 39 rfl (fun _ => y_assign rfl) rfl (by kernel_rfl) (qp_then qp_body) (fun _ => ⟨hp, hr, hG, hw⟩) ?_
      refine dr_done (by kernel_rfl) ?_
      refine n_then ?_
      refine c_seq ?_
      refine c_seq ?_
      refine c_region ?_
      refine s_y (y_ldRA (xs := (roots.map wv)) (j := 0) T.ty90 rfl hG (by first | rfl | omega) rfl (take_all _ rfl)) rfl rfl ?_
      refine s_y (y_move rfl) rfl rfl ?_
      refine s_nil ?_
      refine n_then ?_
      refine c_block ?_
      refine c_loop (fun m a W => ∃ t : Nat, m = 64 - t ∧ GP.St 218 [(0, .pointer (some ⟨p, 0, none⟩)), (4, .pointer (some ⟨g1, 0, none⟩)), (8, .int .u32 (↑((rounds (sched bs 64) s t).a).toNat)), (9, .int .u32 (↑((rounds (sched bs 64) s t).c).toNat)), (10, .int .u32 (↑((rounds (sched bs 64) s t).d).toNat)), (11, .int .u32 (↑((rounds (sched bs 64) s t).e).toNat)), (12, .int .u32 (↑((rounds (sched bs 64) s t).f).toNat)), (13, .int .u32 (↑((rounds (sched bs 64) s t).g).toNat)), (14, .int .u32 (↑((rounds (sched bs 64) s t).h).toNat)), (15, .int .u32 (↑((rounds (sched bs 64) s t).i).toNat)), (132, .agg (roots.map wv).toArray), (133, .int .i64 ↑t)] a ∧ Fr [p] w W ∧ Blk W p tb (([.int .u32 ↑s.a.toNat, .int .u32 ↑s.c.toNat, .int .u32 ↑s.d.toNat, .int .u32 ↑s.e.toNat, .int .u32 ↑s.f.toNat, .int .u32 ↑s.g.toNat, .int .u32 ↑s.h.toNat, .int .u32 ↑s.i.toNat] : List Value) ++ tl) ∧ Row W A g o 64 1 (bs.map bv) ∧ Row W (some ⟨0, 0, none⟩) 0 0 64 1 (roots.map wv) ∧ Blk W g1 90 ((sched bs 64).map wv) ∧ (t ≤ 64)) (64) ?_ ?_
      · intro a ha
        exact ⟨0, rfl, ha.cut ⟨rfl, rfl, rfl, rfl, rfl, rfl, rfl, rfl, rfl, rfl, rfl, rfl, trivial⟩, hF58, hp, hr, hG, hw, Nat.zero_le _⟩
      · rintro _ a W59 ⟨t, rfl, hst61, hF62, hp, hr, hG, hw, ht⟩
        refine (show Wc _ _ _ _ _ _ from ?_) a hst61
        clear hst61 a
        refine c_seq ?_
        refine c_region ?_
        refine s_y (y_lss rfl rfl rfl) rfl rfl ?_
        refine s_nil ?_
        refine n_then ?_
        refine c_seq ?_
        refine c_cond rfl ?_ ?_
        · intro h63
          replace h63 : (↑t : Int) < 64 := of_decide_eq_true h63
          refine c_skip ?_
          refine n_then ?_
          refine c_seq ?_
          refine c_block ?_
          refine c_seq ?_
          refine c_region ?_
          refine s_y (y_move rfl) rfl rfl ?_
          refine s_y (y_indexAg (xs := (roots.map wv)) (v := .int .u32 (↑(roots.getD t 0).toNat)) Tryd.underlying90 T.ty74 rfl rfl (by omega) (by omega) (by rw [Int.toNat_natCast, Nat.mul_one]; exact map_at wv roots t 0 (by rw [roots_len]; omega))) rfl rfl ?_
          refine s_y (y_assign rfl) rfl rfl ?_
          refine s_y (y_assign rfl) rfl rfl ?_
          refine s_nil ?_
          refine n_then ?_
          refine c_seq ?_
          refine dr_begin (fun W => Blk W p tb (([.int .u32 ↑s.a.toNat, .int .u32 ↑s.c.toNat, .int .u32 ↑s.d.toNat, .int .u32 ↑s.e.toNat, .int .u32 ↑s.f.toNat, .int .u32 ↑s.g.toNat, .int .u32 ↑s.h.toNat, .int .u32 ↑s.i.toNat] : List Value) ++ tl) ∧ Row W A g o 64 1 (bs.map bv) ∧ Row W (some ⟨0, 0, none⟩) 0 0 64 1 (roots.map wv) ∧ Blk W g1 90 ((sched bs 64).map wv)) 26 (by kernel_rfl) ?_
          intro w64 f65
          replace hp := hp.fr0 f65
          replace hr := hr.fr0 f65
          replace hG := hG.fr0 f65
          replace hw := hw.fr0 f65
          have hF66 := hF62.then0 f65
          refine dr_y 0 rfl (fun _ => y_move rfl) rfl (by kernel_rfl) (qp_then (qp_inb (qp_then (qp_then (qp_inb (qp_then qp_body)))))) (fun _ => ⟨hp, hr, hG, hw⟩) ?_
          refine dr_y 1 rfl (fun _ => y_move rfl) rfl (by kernel_rfl) (qp_then (qp_inb (qp_then (qp_then (qp_inb (qp_then qp_body)))))) (fun _ => ⟨hp, hr, hG, hw⟩) ?_
          refine dr_y 3 rfl (fun _ => y_move rfl) rfl (by kernel_rfl) (qp_then (qp_inb (qp_then (qp_then (qp_inb (qp_then qp_body)))))) (fun _ => ⟨hp, hr, hG, hw⟩) ?_
          refine dr_y 6 rfl (fun _ => y_move rfl) rfl (by kernel_rfl) (qp_then (qp_inb (qp_then (qp_then (qp_inb (qp_then qp_body)))))) (fun _ => ⟨hp, hr, hG, hw⟩) ?_
          refine dr_y 10 rfl (fun _ => y_move rfl) rfl (by kernel_rfl) (qp_then (qp_inb (qp_then (qp_then (qp_inb (qp_then qp_body)))))) (fun _ => ⟨hp, hr, hG, hw⟩) ?_
          refine dr_y 11 rfl (fun _ => y_move rfl) rfl (by kernel_rfl) (qp_then (qp_inb (qp_then (qp_then (qp_inb (qp_then qp_body)))))) (fun _ => ⟨hp, hr, hG, hw⟩) ?_
          refine dr_y 12 rfl (fun _ => y_and (r := ↑(((rounds (sched bs 64) s t).f) &&& ((rounds (sched bs 64) s t).g)).toNat) rfl rfl (and32 _ _)) rfl (by kernel_rfl) (qp_then (qp_inb (qp_then (qp_then (qp_inb (qp_then qp_body)))))) (fun _ => ⟨hp, hr, hG, hw⟩) ?_
          refine dr_y 13 rfl (fun _ => y_move rfl) rfl (by kernel_rfl) (qp_then (qp_inb (qp_then (qp_then (qp_inb (qp_then qp_body)))))) (fun _ => ⟨hp, hr, hG, hw⟩) ?_
          refine dr_y 14 rfl (fun _ => y_comp (r := ↑(~~~((rounds (sched bs 64) s t).f)).toNat) rfl (not32 _)) rfl (by kernel_rfl) (qp_then (qp_inb (qp_then (qp_then (qp_inb (qp_then qp_body)))))) (fun _ => ⟨hp, hr, hG, hw⟩) ?_
          refine dr_y 15 rfl (fun _ => y_move rfl) rfl (by kernel_rfl) (qp_then (qp_inb (qp_then (qp_then (qp_inb (qp_then qp_body)))))) (fun _ => ⟨hp, hr, hG, hw⟩) ?_
          refine dr_y 16 rfl (fun _ => y_and (r := ↑((~~~((rounds (sched bs 64) s t).f)) &&& ((rounds (sched bs 64) s t).h)).toNat) rfl rfl (and32 _ _)) rfl (by kernel_rfl) (qp_then (qp_inb (qp_then (qp_then (qp_inb (qp_then qp_body)))))) (fun _ => ⟨hp, hr, hG, hw⟩) ?_
          refine dr_y 17 rfl (fun _ => y_xor (r := ↑((((rounds (sched bs 64) s t).f) &&& ((rounds (sched bs 64) s t).g)) ^^^ ((~~~((rounds (sched bs 64) s t).f)) &&& ((rounds (sched bs 64) s t).h))).toNat) rfl rfl (xor32 _ _)) rfl (by kernel_rfl) (qp_then (qp_inb (qp_then (qp_then (qp_inb (qp_then qp_body)))))) (fun _ => ⟨hp, hr, hG, hw⟩) ?_
          refine dr_y 19 rfl (fun _ => y_move rfl) rfl (by kernel_rfl) (qp_then (qp_inb (qp_then (qp_then (qp_inb (qp_then qp_body)))))) (fun _ => ⟨hp, hr, hG, hw⟩) ?_
          refine dr_y 21 rfl (fun _ => y_move rfl) rfl (by kernel_rfl) (qp_then (qp_inb (qp_then (qp_then (qp_inb (qp_then qp_body)))))) (fun _ => ⟨hp, hr, hG, hw⟩) ?_
          refine dr_y 22 rfl (fun _ => y_indexArr (r := t) Tryd.underlying90 T.ty74 rfl rfl (by omega) (by omega) (by omega)) rfl (by kernel_rfl) (qp_then (qp_inb (qp_then (qp_then (qp_inb (qp_then qp_body)))))) (fun _ => ⟨hp, hr, hG, hw⟩) ?_
          refine dr_l 23 rfl (fun _ hS => by obtain ⟨q0, q1, q2, q3⟩ := hS; exact y_ldB (v := .int .u32 (↑((sched bs 64).getD t 0).toNat)) T.ty74 rfl q3 (map_at wv (sched bs 64) t 0 (by rw [sched_len]; omega))) rfl (by kernel_rfl) (qp_then (qp_inb (qp_then (qp_then (qp_inb (qp_then qp_body)))))) ⟨hp, hr, hG, hw⟩ ?_
          refine dr_1 (i := 2) (by kernel_rfl) ?_
          refine rd_d rfl (d_callR T.ent51 (vs := [.int .u32 (↑((rounds (sched bs 64) s t).f).toNat), .int .i64 6]) rfl (ror51_ok ((rounds (sched bs 64) s t).f) 6 _ (by decide)) (by rintro e w' ⟨rfl, -⟩; exact ⟨_, rfl⟩)) rfl rfl ?_
          rintro v69 w67 ⟨hv70, f68⟩
          obtain rfl := ret_inj hv70
          replace hp := hp.fr0 f68
          replace hr := hr.fr0 f68
          replace hG := hG.fr0 f68
          replace hw := hw.fr0 f68
          have hF71 := hF66.then0 f68
          refine ⟨fun _ => ⟨hp, hr, hG, hw⟩, ?_⟩
          refine dr_1 (i := 4) (by kernel_rfl) ?_
          refine rd_d rfl (d_callR T.ent51 (vs := [.int .u32 (↑((rounds (sched bs 64) s t).f).toNat), .int .i64 11]) rfl (ror51_ok ((rounds (sched bs 64) s t).f) 11 _ (by decide)) (by rintro e w' ⟨rfl, -⟩; exact ⟨_, rfl⟩)) rfl rfl ?_
          rintro v74 w72 ⟨hv75, f73⟩
          obtain rfl := ret_inj hv75
          replace hp := hp.fr0 f73
          replace hr := hr.fr0 f73
          replace hG := hG.fr0 f73
          replace hw := hw.fr0 f73
          have hF76 := hF71.then0 f73
          refine ⟨fun _ => ⟨hp, hr, hG, hw⟩, ?_⟩
          refine dr_y 5 rfl (fun _ => y_xor (r := ↑((ror ((rounds (sched bs 64) s t).f) 6) ^^^ (ror ((rounds (sched bs 64) s t).f) 11)).toNat) rfl rfl (xor32 _ _)) rfl (by kernel_rfl) (qp_then (qp_inb (qp_then (qp_then (qp_inb (qp_then qp_body)))))) (fun _ => ⟨hp, hr, hG, hw⟩) ?_
          refine dr_1 (i := 7) (by kernel_rfl) ?_
          refine rd_d rfl (d_callR T.ent51 (vs := [.int .u32 (↑((rounds (sched bs 64) s t).f).toNat), .int .i64 25]) rfl (ror51_ok ((rounds (sched bs 64) s t).f) 25 _ (by decide)) (by rintro e w' ⟨rfl, -⟩; exact ⟨_, rfl⟩)) rfl rfl ?_
          rintro v79 w77 ⟨hv80, f78⟩
          obtain rfl := ret_inj hv80
          replace hp := hp.fr0 f78
          replace hr := hr.fr0 f78
          replace hG := hG.fr0 f78
          replace hw := hw.fr0 f78
          have hF81 := hF76.then0 f78
          refine ⟨fun _ => ⟨hp, hr, hG, hw⟩, ?_⟩
          refine dr_y 8 rfl (fun _ => y_xor (r := ↑(((ror ((rounds (sched bs 64) s t).f) 6) ^^^ (ror ((rounds (sched bs 64) s t).f) 11)) ^^^ (ror ((rounds (sched bs 64) s t).f) 25)).toNat) rfl rfl (xor32 _ _)) rfl (by kernel_rfl) (qp_then (qp_inb (qp_then (qp_then (qp_inb (qp_then qp_body)))))) (fun _ => ⟨hp, hr, hG, hw⟩) ?_
          refine dr_y 9 rfl (fun _ => y_add (r := ↑(((rounds (sched bs 64) s t).i) + (((ror ((rounds (sched bs 64) s t).f) 6) ^^^ (ror ((rounds (sched bs 64) s t).f) 11)) ^^^ (ror ((rounds (sched bs 64) s t).f) 25))).toNat) rfl rfl (add32 _ _)) rfl (by kernel_rfl) (qp_then (qp_inb (qp_then (qp_then (qp_inb (qp_then qp_body)))))) (fun _ => ⟨hp, hr, hG, hw⟩) ?_
          refine dr_y 18 rfl (fun _ => y_add (r := ↑((((rounds (sched bs 64) s t).i) + (((ror ((rounds (sched bs 64) s t).f) 6) ^^^ (ror ((rounds (sched bs 64) s t).f) 11)) ^^^ (ror ((rounds (sched bs 64) s t).f) 25))) + ((((rounds (sched bs 64) s t).f) &&& ((rounds (sched bs 64) s t).g)) ^^^ ((~~~((rounds (sched bs 64) s t).f)) &&& ((rounds (sched bs 64) s t).h)))).toNat) rfl rfl (add32 _ _)) rfl (by kernel_rfl) (qp_then (qp_inb (qp_then (qp_then (qp_inb (qp_then qp_body)))))) (fun _ => ⟨hp, hr, hG, hw⟩) ?_
          refine dr_y 20 rfl (fun _ => y_add (r := ↑(((((rounds (sched bs 64) s t).i) + (((ror ((rounds (sched bs 64) s t).f) 6) ^^^ (ror ((rounds (sched bs 64) s t).f) 11)) ^^^ (ror ((rounds (sched bs 64) s t).f) 25))) + ((((rounds (sched bs 64) s t).f) &&& ((rounds (sched bs 64) s t).g)) ^^^ ((~~~((rounds (sched bs 64) s t).f)) &&& ((rounds (sched bs 64) s t).h)))) + (roots.getD t 0)).toNat) rfl rfl (add32 _ _)) rfl (by kernel_rfl) (qp_then (qp_inb (qp_then (qp_then (qp_inb (qp_then qp_body)))))) (fun _ => ⟨hp, hr, hG, hw⟩) ?_
          refine dr_y 24 rfl (fun _ => y_add (r := ↑((((((rounds (sched bs 64) s t).i) + (((ror ((rounds (sched bs 64) s t).f) 6) ^^^ (ror ((rounds (sched bs 64) s t).f) 11)) ^^^ (ror ((rounds (sched bs 64) s t).f) 25))) + ((((rounds (sched bs 64) s t).f) &&& ((rounds (sched bs 64) s t).g)) ^^^ ((~~~((rounds (sched bs 64) s t).f)) &&& ((rounds (sched bs 64) s t).h)))) + (roots.getD t 0)) + ((sched bs 64).getD t 0)).toNat) rfl rfl (add32 _ _)) rfl (by kernel_rfl) (qp_then (qp_inb (qp_then (qp_then (qp_inb (qp_then qp_body)))))) (fun _ => ⟨hp, hr, hG, hw⟩) ?_
          refine dr_y 25 rfl (fun _ => y_assign rfl) rfl (by kernel_rfl) (qp_then (qp_inb (qp_then (qp_then (qp_inb (qp_then qp_body)))))) (fun _ => ⟨hp, hr, hG, hw⟩) ?_
          refine dr_done (by kernel_rfl) ?_
          refine n_then ?_
          refine c_seq ?_
          refine c_region ?_
          refine s_y (y_move rfl) rfl rfl ?_
          refine s_d (d_callR T.ent51 (vs := [.int .u32 (↑((rounds (sched bs 64) s t).a).toNat), .int .i64 2]) rfl (ror51_ok ((rounds (sched bs 64) s t).a) 2 _ (by decide)) (by rintro e w' ⟨rfl, -⟩; exact ⟨_, rfl⟩)) rfl rfl ?_
          rintro v84 w82 ⟨hv85, f83⟩
          obtain rfl := ret_inj hv85
          replace hp := hp.fr0 f83
          replace hr := hr.fr0 f83
          replace hG := hG.fr0 f83
          replace hw := hw.fr0 f83
          have hF86 := hF81.then0 f83
          refine s_y (y_move rfl) rfl rfl ?_
          refine s_d (d_callR T.ent51 (vs := [.int .u32 (↑((rounds (sched bs 64) s t).a).toNat), .int .i64 13]) rfl (ror51_ok ((rounds (sched bs 64) s t).a) 13 _ (by decide)) (by rintro e w' ⟨rfl, -⟩; exact ⟨_, rfl⟩)) rfl rfl ?_
          rintro v89 w87 ⟨hv90, f88⟩
          obtain rfl := ret_inj hv90
          replace hp := hp.fr0 f88
          replace hr := hr.fr0 f88
          replace hG := hG.fr0 f88
          replace hw := hw.fr0 f88
          have hF91 := hF86.then0 f88
          refine s_y (y_xor (r := ↑((ror ((rounds (sched bs 64) s t).a) 2) ^^^ (ror ((rounds (sched bs 64) s t).a) 13)).toNat) rfl rfl (xor32 _ _)) rfl rfl ?_
          refine s_y (y_move rfl) rfl rfl ?_
          refine s_d (d_callR T.ent51 (vs := [.int .u32 (↑((rounds (sched bs 64) s t).a).toNat), .int .i64 22]) rfl (ror51_ok ((rounds (sched bs 64) s t).a) 22 _ (by decide)) (by rintro e w' ⟨rfl, -⟩; exact ⟨_, rfl⟩)) rfl rfl ?_
          rintro v94 w92 ⟨hv95, f93⟩
          obtain rfl := ret_inj hv95
          replace hp := hp.fr0 f93
          replace hr := hr.fr0 f93
          replace hG := hG.fr0 f93
          replace hw := hw.fr0 f93
          have hF96 := hF91.then0 f93
          refine s_y (y_xor (r := ↑(((ror ((rounds (sched bs 64) s t).a) 2) ^^^ (ror ((rounds (sched bs 64) s t).a) 13)) ^^^ (ror ((rounds (sched bs 64) s t).a) 22)).toNat) rfl rfl (xor32 _ _)) rfl rfl ?_
          refine s_y (y_move rfl) rfl rfl ?_
          refine s_y (y_move rfl) rfl rfl ?_
          refine s_y (y_and (r := ↑(((rounds (sched bs 64) s t).a) &&& ((rounds (sched bs 64) s t).c)).toNat) rfl rfl (and32 _ _)) rfl rfl ?_
          refine s_y (y_move rfl) rfl rfl ?_
          refine s_y (y_move rfl) rfl rfl ?_
          refine s_y (y_and (r := ↑(((rounds (sched bs 64) s t).a) &&& ((rounds (sched bs 64) s t).d)).toNat) rfl rfl (and32 _ _)) rfl rfl ?_
          refine s_y (y_xor (r := ↑((((rounds (sched bs 64) s t).a) &&& ((rounds (sched bs 64) s t).c)) ^^^ (((rounds (sched bs 64) s t).a) &&& ((rounds (sched bs 64) s t).d))).toNat) rfl rfl (xor32 _ _)) rfl rfl ?_
          refine s_y (y_move rfl) rfl rfl ?_
          refine s_y (y_move rfl) rfl rfl ?_
          refine s_y (y_and (r := ↑(((rounds (sched bs 64) s t).c) &&& ((rounds (sched bs 64) s t).d)).toNat) rfl rfl (and32 _ _)) rfl rfl ?_
          refine s_y (y_xor (r := ↑(((((rounds (sched bs 64) s t).a) &&& ((rounds (sched bs 64) s t).c)) ^^^ (((rounds (sched bs 64) s t).a) &&& ((rounds (sched bs 64) s t).d))) ^^^ (((rounds (sched bs 64) s t).c) &&& ((rounds (sched bs 64) s t).d))).toNat) rfl rfl (xor32 _ _)) rfl rfl ?_
          refine s_y (y_add (r := ↑((((ror ((rounds (sched bs 64) s t).a) 2) ^^^ (ror ((rounds (sched bs 64) s t).a) 13)) ^^^ (ror ((rounds (sched bs 64) s t).a) 22)) + (((((rounds (sched bs 64) s t).a) &&& ((rounds (sched bs 64) s t).c)) ^^^ (((rounds (sched bs 64) s t).a) &&& ((rounds (sched bs 64) s t).d))) ^^^ (((rounds (sched bs 64) s t).c) &&& ((rounds (sched bs 64) s t).d)))).toNat) rfl rfl (add32 _ _)) rfl rfl ?_
          refine s_y (y_assign rfl) rfl rfl ?_
          refine s_nil ?_
          refine n_then ?_
          refine c_region ?_
          refine s_y (y_move rfl) rfl rfl ?_
          refine s_y (y_move rfl) rfl rfl ?_
          refine s_y (y_move rfl) rfl rfl ?_
          refine s_y (y_move rfl) rfl rfl ?_
          refine s_y (y_move rfl) rfl rfl ?_
          refine s_y (y_add (r := ↑(((rounds (sched bs 64) s t).e) + ((((((rounds (sched bs 64) s t).i) + (((ror ((rounds (sched bs 64) s t).f) 6) ^^^ (ror ((rounds (sched bs 64) s t).f) 11)) ^^^ (ror ((rounds (sched bs 64) s t).f) 25))) + ((((rounds (sched bs 64) s t).f) &&& ((rounds (sched bs 64) s t).g)) ^^^ ((~~~((rounds (sched bs 64) s t).f)) &&& ((rounds (sched bs 64) s t).h)))) + (roots.getD t 0)) + ((sched bs 64).getD t 0))).toNat) rfl rfl (add32 _ _)) rfl rfl ?_
          refine s_y (y_move rfl) rfl rfl ?_
          refine s_y (y_move rfl) rfl rfl ?_
          refine s_y (y_move rfl) rfl rfl ?_
          refine s_y (y_move rfl) rfl rfl ?_
          refine s_y (y_move rfl) rfl rfl ?_
          refine s_y (y_add (r := ↑(((((((rounds (sched bs 64) s t).i) + (((ror ((rounds (sched bs 64) s t).f) 6) ^^^ (ror ((rounds (sched bs 64) s t).f) 11)) ^^^ (ror ((rounds (sched bs 64) s t).f) 25))) + ((((rounds (sched bs 64) s t).f) &&& ((rounds (sched bs 64) s t).g)) ^^^ ((~~~((rounds (sched bs 64) s t).f)) &&& ((rounds (sched bs 64) s t).h)))) + (roots.getD t 0)) + ((sched bs 64).getD t 0)) + ((((ror ((rounds (sched bs 64) s t).a) 2) ^^^ (ror ((rounds (sched bs 64) s t).a) 13)) ^^^ (ror ((rounds (sched bs 64) s t).a) 22)) + (((((rounds (sched bs 64) s t).a) &&& ((rounds (sched bs 64) s t).c)) ^^^ (((rounds (sched bs 64) s t).a) &&& ((rounds (sched bs 64) s t).d))) ^^^ (((rounds (sched bs 64) s t).c) &&& ((rounds (sched bs 64) s t).d))))).toNat) rfl rfl (add32 _ _)) rfl rfl ?_
          refine s_y (y_assign rfl) rfl rfl ?_
          refine s_y (y_assign rfl) rfl rfl ?_
          refine s_y (y_assign rfl) rfl rfl ?_
          refine s_y (y_assign rfl) rfl rfl ?_
          refine s_y (y_assign rfl) rfl rfl ?_
          refine s_y (y_assign rfl) rfl rfl ?_
          refine s_y (y_assign rfl) rfl rfl ?_
          refine s_y (y_assign rfl) rfl rfl ?_
          refine s_nil ?_
          refine n_inb ?_
          refine n_then ?_
          refine c_region ?_
          refine s_y (y_add rfl rfl (wrI (by omega) (by omega))) rfl rfl ?_
          refine s_y (y_move rfl) rfl rfl ?_
          refine s_nil ?_
          exact fun a ha => ⟨_, by omega, t + 1, rfl, ha.cut ⟨rfl, rfl, rfl, rfl, rfl, rfl, rfl, rfl, rfl, rfl, rfl, (iv (by omega)), trivial⟩, hF96, hp, hr, hG, hw, by omega⟩
        · intro h97
          replace h97 : ¬ ((↑t : Int) < 64) := of_decide_eq_false h97
          refine c_exit ?_
          refine x_then ?_
          obtain rfl : t = 64 := by omega
          refine x_then ?_
          refine x_hit ?_
          refine n_then ?_
          refine c_seq ?_
          refine c_region ?_
          refine s_y (y_move rfl) rfl rfl ?_
          refine s_y (y_move rfl) rfl rfl ?_
          refine s_y (y_move rfl) rfl rfl ?_
          refine s_y (y_move rfl) rfl rfl ?_
          refine s_y (y_move rfl) rfl rfl ?_
          refine s_y (y_move rfl) rfl rfl ?_
          refine s_y (y_move rfl) rfl rfl ?_
          refine s_y (y_move rfl) rfl rfl ?_
          refine s_y (y_build (vs := [(0, .int .u32 (↑((rounds (sched bs 64) s 64).a).toNat)), (1, .int .u32 (↑((rounds (sched bs 64) s 64).c).toNat)), (2, .int .u32 (↑((rounds (sched bs 64) s 64).d).toNat)), (3, .int .u32 (↑((rounds (sched bs 64) s 64).e).toNat)), (4, .int .u32 (↑((rounds (sched bs 64) s 64).f).toNat)), (5, .int .u32 (↑((rounds (sched bs 64) s 64).g).toNat)), (6, .int .u32 (↑((rounds (sched bs 64) s 64).h).toNat)), (7, .int .u32 (↑((rounds (sched bs 64) s 64).i).toNat))]) rfl (T.lit0 (↑((rounds (sched bs 64) s 64).a).toNat) (↑((rounds (sched bs 64) s 64).c).toNat) (↑((rounds (sched bs 64) s 64).d).toNat) (↑((rounds (sched bs 64) s 64).e).toNat) (↑((rounds (sched bs 64) s 64).f).toNat) (↑((rounds (sched bs 64) s 64).g).toNat) (↑((rounds (sched bs 64) s 64).h).toNat) (↑((rounds (sched bs 64) s 64).i).toNat) _)) rfl rfl ?_
          refine s_y (y_move rfl) rfl rfl ?_
          refine s_nil ?_
          refine n_then ?_
          refine c_block ?_
          refine c_loop (fun m a W => ∃ j : Nat, m = 8 - j ∧ GP.St 218 [(0, .pointer (some ⟨p, 0, none⟩)), (203, .agg (((rounds (sched bs 64) s 64)).cells).toArray), (204, .int .i64 ↑j)] a ∧ Fr [p] w W ∧ Row W A g o 64 1 (bs.map bv) ∧ Row W (some ⟨0, 0, none⟩) 0 0 64 1 (roots.map wv) ∧ Blk W g1 90 ((sched bs 64).map wv) ∧ Blk W p tb ((part8 s (rounds (sched bs 64) s 64) j).map wv ++ tl) ∧ (j ≤ 8)) (8) ?_ ?_
          · intro a ha
            exact ⟨0, rfl, ha.cut ⟨rfl, rfl, rfl, trivial⟩, hF62, hr, hG, hw, hp, Nat.zero_le _⟩
          · rintro _ a W98 ⟨j, rfl, hst100, hF101, hr, hG, hw, hp3, hj⟩
            refine (show Wc _ _ _ _ _ _ from ?_) a hst100
            clear hst100 a
            refine c_seq ?_
            refine c_region ?_
            refine s_y (y_lss rfl rfl rfl) rfl rfl ?_
            refine s_nil ?_
            refine n_then ?_
            refine c_seq ?_
            refine c_cond rfl ?_ ?_
            · intro h102
              replace h102 : (↑j : Int) < 8 := of_decide_eq_true h102
              refine c_skip ?_
              refine n_then ?_
              refine c_seq ?_
              refine c_block ?_
              refine c_seq ?_
              refine c_region ?_
              refine s_y (y_move rfl) rfl rfl ?_
              refine s_y (y_indexAg (xs := (((rounds (sched bs 64) s 64)).cells)) (v := .int .u32 (↑(((rounds (sched bs 64) s 64)).list.getD j 0).toNat)) Tryd.underlying78 T.ty74 rfl rfl (by omega) (by omega) (by rw [Int.toNat_natCast, Nat.mul_one]; exact map_at wv ((rounds (sched bs 64) s 64)).list j 0 (show _ < 8 by omega))) rfl rfl ?_
              refine s_y (y_assign rfl) rfl rfl ?_
              refine s_y (y_assign rfl) rfl rfl ?_
              refine s_nil ?_
              refine n_then ?_
              refine dr_begin (fun W => Row W A g o 64 1 (bs.map bv) ∧ Row W (some ⟨0, 0, none⟩) 0 0 64 1 (roots.map wv) ∧ Blk W g1 90 ((sched bs 64).map wv) ∧ Blk W p tb ((part8 s (rounds (sched bs 64) s 64) j).map wv ++ tl)) 9 (by kernel_rfl) ?_
              intro w103 f104
              replace hr := hr.fr0 f104
              replace hG := hG.fr0 f104
              replace hw := hw.fr0 f104
              replace hp3 := hp3.fr0 f104
              have hF105 := hF101.then0 f104
              refine dr_y 0 rfl (fun _ => y_move rfl) rfl (by kernel_rfl) (qp_inb (qp_then (qp_then (qp_inb qp_body)))) (fun _ => ⟨hr, hG, hw, hp3⟩) ?_
              refine dr_y 1 rfl (fun _ => y_move rfl) rfl (by kernel_rfl) (qp_inb (qp_then (qp_then (qp_inb qp_body)))) (fun _ => ⟨hr, hG, hw, hp3⟩) ?_
              refine dr_y 2 rfl (fun _ => y_nilCheck rfl) rfl (by kernel_rfl) (qp_inb (qp_then (qp_then (qp_inb qp_body)))) (fun _ => ⟨hr, hG, hw, hp3⟩) ?_
              refine dr_y 3 rfl (fun _ => y_indexArr (r := j) Tryd.underlying79 T.ty74 rfl rfl (by omega) (by omega) (by omega)) rfl (by kernel_rfl) (qp_inb (qp_then (qp_then (qp_inb qp_body)))) (fun _ => ⟨hr, hG, hw, hp3⟩) ?_
              refine dr_l 4 rfl (fun _ hS => by obtain ⟨q0, q1, q2, q3⟩ := hS; exact y_ldB (v := .int .u32 (↑((part8 s (rounds (sched bs 64) s 64) j).getD j 0).toNat)) T.ty74 rfl q3 (map_app_at _ tl j (by rw [part8_len _ _ _ (by omega)]; omega))) rfl (by kernel_rfl) (qp_inb (qp_then (qp_then (qp_inb qp_body)))) ⟨hr, hG, hw, hp3⟩ ?_
              refine dr_y 5 rfl (fun _ => y_move rfl) rfl (by kernel_rfl) (qp_inb (qp_then (qp_then (qp_inb qp_body)))) (fun _ => ⟨hr, hG, hw, hp3⟩) ?_
              refine dr_y 6 rfl (fun _ => y_add (r := ↑(((part8 s (rounds (sched bs 64) s 64) j).getD j 0) + (((rounds (sched bs 64) s 64)).list.getD j 0)).toNat) rfl rfl (add32 _ _)) rfl (by kernel_rfl) (qp_inb (qp_then (qp_then (qp_inb qp_body)))) (fun _ => ⟨hr, hG, hw, hp3⟩) ?_
              refine dr_y 7 rfl (fun _ => y_nilCheck rfl) rfl (by kernel_rfl) (qp_inb (qp_then (qp_then (qp_inb qp_body)))) (fun _ => ⟨hr, hG, hw, hp3⟩) ?_
              refine dr_y 8 rfl (fun _ => y_indexArr (r := j) Tryd.underlying79 T.ty74 rfl rfl (by omega) (by omega) (by omega)) rfl (by kernel_rfl) (qp_inb (qp_then (qp_then (qp_inb qp_body)))) (fun _ => ⟨hr, hG, hw, hp3⟩) ?_
              refine dr_1 (i := 9) (by kernel_rfl) ?_
              refine rd_d rfl (d_store (cs := [.int .u32 (↑(((part8 s (rounds (sched bs 64) s 64) j).getD j 0) + (((rounds (sched bs 64) s 64)).list.getD j 0)).toNat)]) (l' := (part8 s (rounds (sched bs 64) s 64) (j + 1)).map wv ++ tl) T.ty74 rfl rfl hp3 rfl rfl (ones rfl) (by simp [part8_len s (rounds (sched bs 64) s 64) j (by omega)]; omega) (by rw [← part8_set s (rounds (sched bs 64) s 64) j (by omega)]; exact map_app_set _ tl j _ (by rw [part8_len _ _ _ (by omega)]; omega))) rfl rfl ?_
              rintro _ w106 ⟨rfl, b107, f108⟩
              replace hr := hr.fr1 f108 (by first | exact .inr (by omega) | exact lt_hr.imp id fun h => by omega)
              replace hG := hG.fr1 f108 (by first | exact .inr (by omega) | exact lt_hG.imp id fun h => by omega)
              replace hw := hw.fr1 f108 ne6.symm
              clear hp3
              have hF109 := hF105.thenIn f108 (by simp)
              refine ⟨fun h => (Bool.false_ne_true (h.symm.trans (by kernel_rfl))).elim, ?_⟩
              refine dr_done (by kernel_rfl) ?_
              refine n_inb ?_
              refine n_then ?_
              refine c_region ?_
              refine s_y (y_add rfl rfl (wrI (by omega) (by omega))) rfl rfl ?_
              refine s_y (y_move rfl) rfl rfl ?_
              refine s_nil ?_
              exact fun a ha => ⟨_, by omega, j + 1, rfl, ha.cut ⟨rfl, rfl, (iv (by omega)), trivial⟩, hF109, hr, hG, hw, b107, by omega⟩
            · intro h110
              replace h110 : ¬ ((↑j : Int) < 8) := of_decide_eq_false h110
              refine c_exit ?_
              refine x_then ?_
              refine x_then ?_
              refine x_hit ?_
              refine fin0 (by simp) rfl  ?_
              exact ⟨rfl, hF101, (by rw [show j = 8 by omega] at hp3; exact hp3)⟩

end Go.Proofs.YtojbephcahnbbaaDoor
