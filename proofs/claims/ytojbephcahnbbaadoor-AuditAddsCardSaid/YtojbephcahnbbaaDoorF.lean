/- The digest of several parts. No condition. -/
import Derived.Test.YtojbephcahnbbaaDoorSha3
import Derived.Test.YtojbephcahnbbaaDoorE
import Derived.Test.YtojbephcahnbbaaDoorFT
import Derived.Test.YtojbephcahnbbaaDoorProg
set_option linter.unusedVariables false
set_option linter.unusedSimpArgs false
namespace Go.Proofs.YtojbephcahnbbaaDoor
open Go Go.Proofs.GP Go.Proofs.Tryd
set_option maxRecDepth 100000 in
theorem sum32_ok (A : Option Addr) (g o c : Nat) (ps : List Part) (w : World) (hln : ps.length ≤ 1000) (hb : ∀ p, p ∈ ps → p.b.length ≤ 549755813888) (hrw : Row w A g o ps.length 1 (ps.map Part.v)) (hP : Parts w.heap.size w ps) (hG : Row w (some ⟨0, 0, none⟩) 0 0 64 1 (roots.map wv)) :
    Calls Tryd.prog 32 #[.slice A ps.length c] w fun e w' => e = .returned (.agg (Dg.adds ps).sum.cells.toArray) ∧ Fr [] w w' := by
  have hz : 0 < w.heap.size := (hG.lt (by decide))
  refine c_start (args := [.slice A ps.length c]) Tryd.func32 rfl rfl rfl ?_
  try simp only [enum, Nat.zero_add, Nat.reduceAdd]
  have hF0 := Fr.refl [] w
  have lt_hrw := hrw.lt'
  have lt_hG := hG.lt'
  refine c_seq ?_
  refine c_region ?_
  refine s_d (d_alloc (cs := Dig.zero.cells) T.zero26 rfl) rfl rfl ?_
  rintro _ w2 ⟨g1, rfl, hg5, b3, f4⟩
  have ne6 := row_ne_new hrw hg5
  have ne7 := row_ne_new hG hg5
  have nw8 := Nat.le_trans hF0.size hg5
  replace hrw := hrw.fr0 f4
  replace hP := hP.fr0 f4
  replace hG := hG.fr0 f4
  have hF9 := hF0.then0 f4
  refine s_nil ?_
  refine n_then ?_
  refine c_seq ?_
  refine c_region ?_
  refine s_d (d_callR T.ent39 (vs := []) rfl (dnew_ok _) (by rintro e w' ⟨_, rfl, -⟩; exact ⟨_, rfl⟩)) rfl rfl ?_
  rintro v12 w10 ⟨gd, hv13, f11, hgd, bd⟩
  obtain rfl := ret_inj hv13
  have ne14 := row_ne_new hrw hgd
  have ne15 := row_ne_new hG hgd
  have ne16 : g1 ≠ gd := Nat.ne_of_lt (Nat.lt_of_lt_of_le b3.lt hgd)
  have nw17 := Nat.le_trans hF9.size hgd
  replace hrw := hrw.fr0 f11
  replace hP := hP.fr0 f11
  replace hG := hG.fr0 f11
  replace b3 := b3.fr0 f11
  have hF18 := hF9.then0 f11
  replace bd : Blk w10 gd 81 (Dg.new.s.cells ++ ([.slice none 0 0, .int .u64 ↑Dg.new.n.toNat, .bool true] : List Value)) := bd
  refine s_y (y_assign rfl) rfl rfl ?_
  refine s_nil ?_
  refine n_then ?_
  refine c_seq ?_
  refine c_seq ?_
  refine c_region ?_
  refine s_y (y_move rfl) rfl rfl ?_
  refine s_y (y_len Tryd.underlying69 rfl) rfl rfl ?_
  refine s_y (y_move rfl) rfl rfl ?_
  refine s_nil ?_
  refine n_then ?_
  refine c_block ?_
  have ho0 := Own.nil w10 (max w.heap.size (max g1 gd) + 1) 5 1
  refine c_loop (fun m a W => ∃ i : Nat, ∃ g' : Nat, ∃ A' : Option Addr, ∃ c' : Nat, m = ps.length - i ∧ GP.St 19 [(2, .pointer (some ⟨g1, 0, none⟩)), (3, .pointer (some ⟨gd, 0, none⟩)), (7, .slice A ps.length c), (8, .int .i64 ↑ps.length), (9, .int .i64 ↑i)] a ∧ Fr [] w W ∧ Row W A g o ps.length 1 (ps.map Part.v) ∧ Parts w.heap.size W ps ∧ Row W (some ⟨0, 0, none⟩) 0 0 64 1 (roots.map wv) ∧ Blk W g1 26 Dig.zero.cells ∧ Blk W gd 81 (((Dg.adds (ps.take i)).s.cells) ++ ([.slice A' ((Dg.adds (ps.take i)).rest.length) c', .int .u64 (↑((Dg.adds (ps.take i)).n).toNat), .bool true] : List Value)) ∧ Own W A' g' ((Dg.adds (ps.take i)).rest.length) c' 5 1 ((Dg.adds (ps.take i)).rest.map bv) ∧ (i ≤ ps.length) ∧ (w.heap.size ≤ g') ∧ (g' ≠ g1) ∧ (g' ≠ gd)) (ps.length) ?_ ?_
  · intro a ha
    exact ⟨0, (max w.heap.size (max g1 gd) + 1), none, 0, rfl, ha.cut ⟨rfl, rfl, rfl, rfl, rfl, trivial⟩, hF18, hrw, hP, hG, b3, bd, ho0, Nat.zero_le _, (by omega), (by omega), (by omega)⟩
  · rintro _ a W19 ⟨i, g', A', c', rfl, hst21, hF22, hrw, hP, hG, b3, hd, ho, hi, hgn, hn1, hn2⟩
    refine (show Wc _ _ _ _ _ _ from ?_) a hst21
    clear hst21 a
    have hrl := Dg.adds_lt ps i
    refine c_seq ?_
    refine c_region ?_
    refine s_y (y_lss rfl rfl rfl) rfl rfl ?_
    refine s_nil ?_
    refine n_then ?_
    refine c_seq ?_
    refine c_cond rfl ?_ ?_
    · intro h23
      replace h23 : (↑i : Int) < ↑ps.length := of_decide_eq_true h23
      refine c_skip ?_
      refine n_then ?_
      refine c_seq ?_
      refine c_block ?_
      refine c_seq ?_
      refine c_region ?_
      refine s_y (y_index (r := o + i) Tryd.underlying69 T.ty64 rfl rfl (hrw.addr (j := i) (by simp; omega)) (by omega) (by omega) (by omega)) rfl rfl ?_
      obtain ⟨hpg, -⟩ := hP.at_ i (by omega)
      have hpl := hb _ (List.getElem_mem (show i < ps.length by omega))
      refine s_y (y_ldR (v := .slice (ps[i].A) (ps[i].b.length) (ps[i].c)) (j := i) T.ty64 rfl hrw (by first | rfl | omega) (vmap_at Part.v ps i (by omega))) rfl rfl ?_
      refine s_y (y_assign rfl) rfl rfl ?_
      refine s_nil ?_
      refine n_then ?_
      refine c_region ?_
      refine s_y (y_move rfl) rfl rfl ?_
      refine s_y (y_move rfl) rfl rfl ?_
      refine s_d (d_callR T.ent40 (vs := [.pointer (some ⟨gd, 0, none⟩), .slice (ps[i].A) (ps[i].b.length) (ps[i].c)]) rfl (dadd_ok gd g' c' _ _ ps[i].c A' _ (Dg.adds (ps.take i)) ps[i].b _ (by omega) (by omega) (by omega) (by omega) (by omega) (.inr (by omega)) hd ho (hP.at_ i (by omega)).2 hG) (by rintro e w' ⟨_, _, _, rfl, -⟩; exact ⟨_, rfl⟩)) rfl rfl ?_
      rintro v26 w24 ⟨A2, g2, c2, hv27, f25, hd2, ho2, hw2⟩
      obtain rfl := ret_inj hv27
      replace hrw := hrw.fr f25 (nin_cons ne14 (nin_cons (by first | exact .inr (by omega) | exact lt_hrw.imp id fun h => by omega) (nin_nil _ _)))
      replace hP := hP.fr f25 (by simp; omega)
      replace hG := hG.fr f25 (nin_cons ne15 (nin_cons (by first | exact .inr (by omega) | exact lt_hG.imp id fun h => by omega) (nin_nil _ _)))
      replace b3 := b3.fr f25 (by simp only [List.mem_cons, List.not_mem_nil, or_false, not_or]; exact ⟨ne16, hn1.symm⟩)
      have hF28 := hF22.trans f25 (by simp; omega)
      rw [← Dg.adds_step ps i (by omega)] at hd2 ho2
      obtain ⟨g3, ho3, hg3, hp3⟩ := own_pick ho2 (by rcases hw2 with h | h | h; exact .inl h; exact .inr (by simp at h; omega); exact .inr (Nat.le_trans hF22.size h)) hF28.size
      replace hd2 : Blk w24 gd 81 (((Dg.adds (ps.take (i + 1))).s.cells) ++ ([.slice A2 ((Dg.adds (ps.take (i + 1))).rest.length) c2, .int .u64 (↑((Dg.adds (ps.take (i + 1))).n).toNat), .bool true] : List Value)) := hd2
      refine s_nil ?_
      refine n_inb ?_
      refine n_then ?_
      refine c_region ?_
      refine s_y (y_add rfl rfl (wrI (by omega) (by omega))) rfl rfl ?_
      refine s_y (y_move rfl) rfl rfl ?_
      refine s_nil ?_
      exact fun a ha => ⟨_, by omega, i + 1, g3, A2, c2, rfl, ha.cut ⟨rfl, rfl, rfl, rfl, (iv (by omega)), trivial⟩, hF28, hrw, hP, hG, b3, hd2, ho3, by omega, hg3, hp3 _ _ _ b3 (by decide), hp3 _ _ _ hd2 (by decide)⟩
    · intro h29
      replace h29 : ¬ ((↑i : Int) < ↑ps.length) := of_decide_eq_false h29
      refine c_exit ?_
      refine x_then ?_
      obtain rfl : i = ps.length := by omega
      rw [List.take_length] at hd ho hrl
      refine x_then ?_
      refine x_hit ?_
      refine n_then ?_
      refine c_seq ?_
      refine c_region ?_
      refine s_y (y_move rfl) rfl rfl ?_
      refine s_d (d_callR T.ent41 (vs := [.pointer (some ⟨gd, 0, none⟩)]) rfl (dsum_ok gd g' 0 c' A' (Dg.adds ps) _ (by omega) hd ho.row hG) (by rintro e w' ⟨rfl, -⟩; exact ⟨_, rfl⟩)) rfl rfl ?_
      rintro v32 w30 ⟨hv33, f31⟩
      obtain rfl := ret_inj hv33
      replace hrw := hrw.fr0 f31
      replace hP := hP.fr0 f31
      replace hG := hG.fr0 f31
      replace b3 := b3.fr0 f31
      replace hd := hd.fr0 f31
      replace ho := ho.fr0 f31
      have hF34 := hF22.then0 f31
      refine s_d (d_store (cs := ((Dg.adds ps).sum.cells)) (l' := ((Dg.adds ps).sum.cells)) T.ty26 rfl rfl b3 rfl (by simp [Dig.len]) (ones (by simp [all_bv, all_u32, all_ent, all_dig, all_ents])) (by simp [Dig.len, Dig.len]) (setL_all (by simp [Dig.len, Dig.len]))) rfl rfl ?_
      rintro _ w35 ⟨rfl, b36, f37⟩
      replace hrw := hrw.fr1 f37 ne6
      replace hP := hP.fr f37 (by simp; omega)
      replace hG := hG.fr1 f37 ne7
      replace hd := hd.fr1 f37 ne16.symm
      replace ho := ho.fr1 f37 (.inr hn1.symm.symm)
      clear b3
      have hF38 := hF34.thenNew f37 nw8
      refine s_nil ?_
      refine n_then ?_
      refine c_ret ?_
      refine fin1 (by simp) rfl (rv_A (xs := ((Dg.adds ps).sum.cells)) T.ty26 rfl b36 (by simp [Dig.len]) (take_all _ (by simp [Dig.len]))) ?_
      exact ⟨rfl, hF38⟩

end Go.Proofs.YtojbephcahnbbaaDoor
