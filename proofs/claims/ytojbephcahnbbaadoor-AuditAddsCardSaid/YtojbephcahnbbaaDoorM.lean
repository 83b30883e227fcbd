/- The reference digest of several parts. No condition. -/
import Derived.Test.YtojbephcahnbbaaDoorSha5
import Derived.Test.YtojbephcahnbbaaDoorL
import Derived.Test.YtojbephcahnbbaaDoorMT
import Derived.Test.YtojbephcahnbbaaDoorProg
set_option linter.unusedVariables false
set_option linter.unusedSimpArgs false
namespace Go.Proofs.YtojbephcahnbbaaDoor
open Go Go.Proofs.GP Go.Proofs.Tryd
set_option maxRecDepth 100000 in
theorem sum35_ok (A : Option Addr) (g o c : Nat) (ps : List Part) (w : World) (hln : ps.length ≤ 1000) (hb : (flat ps).length ≤ 549755813888) (hrw : Row w A g o ps.length 1 (ps.map Part.v)) (hP : Parts w.heap.size w ps) :
    Calls Tryd.prog 35 #[.slice A ps.length c] w fun e w' => e = .returned (.agg (refSum (flat ps)).cells.toArray) ∧ Fr [] w w' := by
  refine c_start (args := [.slice A ps.length c]) Tryd.func35 rfl rfl rfl ?_
  try simp only [enum, Nat.zero_add, Nat.reduceAdd]
  have hF0 := Fr.refl [] w
  have lt_hrw := hrw.lt'
  refine c_seq ?_
  refine c_region ?_
  refine s_d (d_alloc (cs := Dig.zero.cells) T.zero26 rfl) rfl rfl ?_
  rintro _ w2 ⟨g1, rfl, hg5, b3, f4⟩
  have ne6 := row_ne_new hrw hg5
  have nw7 := Nat.le_trans hF0.size hg5
  replace hrw := hrw.fr0 f4
  replace hP := hP.fr0 f4
  have hF8 := hF0.then0 f4
  refine s_nil ?_
  refine n_then ?_
  refine c_seq ?_
  refine c_region ?_
  have hlit9 := (T.lit2 )
  refine s_d (d_bs2 hlit9 trivial) rfl rfl ?_
  rintro _ w11 ⟨g10, rfl, hg14, b12, f13⟩
  have ne15 := row_ne_new hrw hg14
  have ne16 : g1 ≠ g10 := Nat.ne_of_lt (Nat.lt_of_lt_of_le b3.lt hg14)
  have nw17 := Nat.le_trans hF8.size hg14
  replace hrw := hrw.fr0 f13
  replace hP := hP.fr0 f13
  replace b3 := b3.fr0 f13
  have hF18 := hF8.then0 f13
  have o19 := Own.of_blk (n := 0) (k := 1) b12 rfl (by decide)
  refine s_y (y_assign rfl) rfl rfl ?_
  refine s_nil ?_
  refine n_then ?_
  refine c_seq ?_
  refine c_seq ?_
  refine c_region ?_
  refine s_y (y_assign rfl) rfl rfl ?_
  refine s_nil ?_
  refine n_then ?_
  refine c_block ?_
  refine c_loop (fun m a W => ∃ i : Nat, ∃ A' : Option Addr, ∃ g' : Nat, ∃ c' : Nat, m = ps.length - i ∧ GP.St 86 [(0, .slice A ps.length c), (2, .pointer (some ⟨g1, 0, none⟩)), (3, .slice A' ((flat (ps.take i)).length) c'), (4, .int .i64 ↑i)] a ∧ Fr [] w W ∧ Row W A g o ps.length 1 (ps.map Part.v) ∧ Parts w.heap.size W ps ∧ Blk W g1 26 Dig.zero.cells ∧ Own W A' g' ((flat (ps.take i)).length) c' 5 1 ((flat (ps.take i)).map bv) ∧ (i ≤ ps.length) ∧ (A' = none ∨ g' ∈ ([] : List Nat) ∨ w.heap.size ≤ g')) (ps.length) ?_ ?_
  · intro a ha
    exact ⟨0, some ⟨g10, 0, none⟩, g10, 0, rfl, ha.cut ⟨rfl, rfl, rfl, rfl, trivial⟩, hF18, hrw, hP, b3, (by simpa [flat] using o19), Nat.zero_le _, .inr (.inr nw17)⟩
  · rintro _ a W20 ⟨i, A', g', c', rfl, hst22, hF23, hrw, hP, b3, ho, hi, wh0⟩
    refine (show Wc _ _ _ _ _ _ from ?_) a hst22
    clear hst22 a
    have hfl := flat_le ps i
    refine c_seq ?_
    refine c_seq ?_
    refine c_region ?_
    refine s_y (y_move rfl) rfl rfl ?_
    refine s_y (y_move rfl) rfl rfl ?_
    refine s_y (y_len Tryd.underlying69 rfl) rfl rfl ?_
    refine s_y (y_lss rfl rfl rfl) rfl rfl ?_
    refine s_nil ?_
    refine n_then ?_
    refine c_cond rfl ?_ ?_
    · intro h24
      replace h24 : (↑i : Int) < ↑ps.length := of_decide_eq_true h24
      refine c_skip ?_
      refine n_then ?_
      refine c_seq ?_
      refine c_block ?_
      refine c_region ?_
      refine s_y (y_move rfl) rfl rfl ?_
      refine s_y (y_move rfl) rfl rfl ?_
      refine s_y (y_move rfl) rfl rfl ?_
      refine s_y (y_index (r := o + i) Tryd.underlying69 T.ty64 rfl rfl (hrw.addr (j := i) (by first | (simp; omega) | (show _ < 8; omega))) (by omega) (by omega) (by omega)) rfl rfl ?_
      refine s_y (y_ldR (v := .slice (ps[i].A) (ps[i].b.length) (ps[i].c)) (j := i) T.ty64 rfl hrw (by first | rfl | omega) (vmap_at Part.v ps i (by omega))) rfl rfl ?_
      obtain ⟨hpg, hpr⟩ := hP.at_ i (by omega)
      have lt_hpr : ps[i].b.map bv = [] ∨ ps[i].g < w.heap.size := .inr hpg
      have hfs := flat_step ps i (by omega)
      have hfl2 := flat_le ps (i + 1)
      have hfs2 := congrArg List.length hfs
      rw [List.length_append] at hfs2
      refine s_d (d_append Tryd.underlying64 T.ty5 T.app5 rfl ho rfl (src_row Tryd.underlying64 T.ty5 hpr ()) (ones (by first | exact all_bv _ | exact all_wv _ | exact rfl | simp [all_bv, all_u32, all_ent, all_dig, all_ents])) (by omega)) rfl rfl ?_
      rintro _ w28 ⟨A25, g26, c27, rfl, o29, f30, hat31⟩
      replace o29 : Own w28 A25 g26 ((flat (ps.take i)).length + (ps[i].b.length)) c27 5 1 ((flat (ps.take (i + 1))).map bv) := (by rw [hfs]; simpa using o29)
      obtain ⟨hno29⟩ : Nonempty ((flat (ps.take i)).length + (ps[i].b.length) = (flat (ps.take (i + 1))).length) := ⟨hfs2.symm⟩
      rw [hno29] at o29 ⊢
      replace hrw := hrw.fr f30 (row_app (wh_nw wh0) lt_hrw)
      replace hP := Parts.fro hP f30 wh0
      have ne33 := app_ap hat31 (ho.ne_blk b3 (by decide)) b3.lt
      replace b3 := b3.fr f30 (no_own (ho.ne_blk b3 (by decide)))
      have wh34 : A25 = none ∨ g26 ∈ ([] : List Nat) ∨ w.heap.size ≤ g26 := app_wh hat31 wh0 hF23.size
      have hF35 := hF23.thenOwnIn f30 wh0
      refine s_y (y_assign rfl) rfl rfl ?_
      refine s_nil ?_
      refine n_inb ?_
      refine n_then ?_
      refine c_region ?_
      refine s_y (y_move rfl) rfl rfl ?_
      refine s_y (y_add rfl rfl (wrI (by omega) (by omega))) rfl rfl ?_
      refine s_y (y_assign rfl) rfl rfl ?_
      refine s_nil ?_
      exact fun a ha => ⟨_, by omega, i + 1, A25, g26, c27, rfl, ha.cut ⟨rfl, rfl, rfl, (iv (by omega)), trivial⟩, hF35, hrw, hP, b3, o29, by omega, wh34⟩
    · intro h36
      replace h36 : ¬ ((↑i : Int) < ↑ps.length) := of_decide_eq_false h36
      refine c_exit ?_
      refine x_then ?_
      obtain rfl : i = ps.length := by omega
      rw [List.take_length] at ho
      try rw [List.take_length]
      refine x_then ?_
      refine x_hit ?_
      refine n_then ?_
      refine c_seq ?_
      refine c_region ?_
      refine s_y (y_move rfl) rfl rfl ?_
      refine s_y (y_len Tryd.underlying64 rfl) rfl rfl ?_
      refine s_y (y_conv (r := ↑(n64 ((flat ps).length)).toNat) Tryd.underlying3 Tryd.underlying59 rfl (conv_n64 _)) rfl rfl ?_
      refine s_y (y_mul (r := ↑((n64 ((flat ps).length)) * 8#64).toNat) rfl (show some (Value.int IntKind.u64 _) = some (Value.int IntKind.u64 ↑(8#64).toNat) from rfl) (mul64 _ _)) rfl rfl ?_
      refine s_y (y_assign rfl) rfl rfl ?_
      refine s_nil ?_
      refine n_then ?_
      refine c_seq ?_
      refine c_region ?_
      refine s_y (y_move rfl) rfl rfl ?_
      have hlit37 := (T.lit3 128)
      refine s_d (d_bs2 hlit37 ⟨rfl, rfl, trivial⟩) rfl rfl ?_
      rintro _ w39 ⟨g38, rfl, hg42, b40, f41⟩
      have ne43 := row_ne_new hrw hg42
      have ne44 : g1 ≠ g38 := Nat.ne_of_lt (Nat.lt_of_lt_of_le b3.lt hg42)
      have ne45 := ho.ne_new hg42
      have nw46 := Nat.le_trans hF23.size hg42
      replace hrw := hrw.fr0 f41
      replace hP := hP.fr0 f41
      replace b3 := b3.fr0 f41
      replace ho := ho.fr0 f41
      have hF47 := hF23.then0 f41
      have o48 := Own.of_blk (n := 1) (k := 1) b40 rfl (by decide)
      refine s_d (d_append Tryd.underlying64 T.ty5 T.app5 rfl ho rfl (src_row Tryd.underlying64 T.ty5 o48.row ()) (ones (by first | exact all_bv _ | exact all_wv _ | exact rfl | simp [all_bv, all_u32, all_ent, all_dig, all_ents])) (by omega)) rfl rfl ?_
      rintro _ w52 ⟨A49, g50, c51, rfl, o53, f54, hat55⟩
      replace o53 : Own w52 A49 g50 ((flat ps).length + 1) c51 5 1 ((flat ps ++ [0x80]).map bv) := (by simpa [bv] using o53)
      obtain ⟨hno53⟩ : Nonempty ((flat ps).length + 1 = (flat ps ++ [0x80]).length) := ⟨by simp⟩
      rw [hno53] at o53 ⊢
      replace hrw := hrw.fr f54 (row_app (wh_nw wh0) lt_hrw)
      replace hP := Parts.fro hP f54 wh0
      have ne57 := app_ap hat55 (ho.ne_blk b3 (by decide)) b3.lt
      replace b3 := b3.fr f54 (no_own (ho.ne_blk b3 (by decide)))
      have wh58 : A49 = none ∨ g50 ∈ ([] : List Nat) ∨ w.heap.size ≤ g50 := app_wh hat55 wh0 hF47.size
      have hF59 := hF47.thenOwnIn f54 wh0
      refine s_y (y_assign rfl) rfl rfl ?_
      refine s_nil ?_
      refine n_then ?_
      refine c_seq ?_
      refine c_block ?_
      refine c_loop (fun m a W => ∃ r' : List UInt8, ∃ A1 : Option Addr, ∃ g1' : Nat, ∃ c1 : Nat, m = (120 - r'.length % 64) % 64 ∧ GP.St 86 [(0, .slice A ps.length c), (2, .pointer (some ⟨g1, 0, none⟩)), (3, .slice A1 r'.length c1), (5, .int .u64 (↑((n64 ((flat ps).length)) * 8#64).toNat))] a ∧ Fr [] w W ∧ Row W A g o ps.length 1 (ps.map Part.v) ∧ Parts w.heap.size W ps ∧ Blk W g1 26 Dig.zero.cells ∧ Own W A1 g1' r'.length c1 5 1 (r'.map bv) ∧ (padZ r' = padZ (flat ps ++ [0x80])) ∧ (A1 = none ∨ g1' ∈ ([] : List Nat) ∨ w.heap.size ≤ g1') ∧ (r'.length ≤ (flat ps).length + 1 + 63)) ((120 - (flat ps ++ [0x80]).length % 64) % 64) ?_ ?_
      · intro a ha
        exact ⟨(flat ps ++ [0x80]), A49, g50, c51, rfl, ha.cut ⟨rfl, rfl, rfl, rfl, trivial⟩, hF59, hrw, hP, b3, (by simpa using o53), rfl, wh58, (by simp)⟩
      · rintro _ a W60 ⟨r', A1, g1', c1, rfl, hst62, hF63, hrw, hP, b3, ho1, hq, wh1, hln⟩
        refine (show Wc _ _ _ _ _ _ from ?_) a hst62
        clear hst62 a
        refine c_seq ?_
        refine c_seq ?_
        refine c_region ?_
        refine s_y (y_move rfl) rfl rfl ?_
        refine s_y (y_len Tryd.underlying64 rfl) rfl rfl ?_
        refine s_y (y_rem (r := ↑r'.length % 64) rfl rfl (by decide) (Int.tmod_eq_emod_of_nonneg (by omega))) rfl rfl ?_
        refine s_y (y_neq rfl rfl rfl) rfl rfl ?_
        refine s_nil ?_
        refine n_then ?_
        refine c_cond rfl ?_ ?_
        · intro h64
          replace h64 : ((↑r'.length % 64) : Int) ≠ 56 := of_decide_eq_true h64
          refine c_skip ?_
          refine n_then ?_
          refine c_block ?_
          refine c_region ?_
          refine s_y (y_move rfl) rfl rfl ?_
          have hlit65 := (T.lit3 0)
          refine s_d (d_bs2 hlit65 ⟨rfl, rfl, trivial⟩) rfl rfl ?_
          rintro _ w67 ⟨g66, rfl, hg70, b68, f69⟩
          have ne71 := row_ne_new hrw hg70
          have ne72 : g1 ≠ g66 := Nat.ne_of_lt (Nat.lt_of_lt_of_le b3.lt hg70)
          have ne73 := ho1.ne_new hg70
          have nw74 := Nat.le_trans hF63.size hg70
          replace hrw := hrw.fr0 f69
          replace hP := hP.fr0 f69
          replace b3 := b3.fr0 f69
          replace ho1 := ho1.fr0 f69
          have hF75 := hF63.then0 f69
          have o76 := Own.of_blk (n := 1) (k := 1) b68 rfl (by decide)
          refine s_d (d_append Tryd.underlying64 T.ty5 T.app5 rfl ho1 rfl (src_row Tryd.underlying64 T.ty5 o76.row ()) (ones (by first | exact all_bv _ | exact all_wv _ | exact rfl | simp [all_bv, all_u32, all_ent, all_dig, all_ents])) (by omega)) rfl rfl ?_
          rintro _ w80 ⟨A77, g78, c79, rfl, o81, f82, hat83⟩
          replace o81 : Own w80 A77 g78 (r'.length + 1) c79 5 1 ((r' ++ [0]).map bv) := (by simpa [bv] using o81)
          obtain ⟨hno81⟩ : Nonempty (r'.length + 1 = (r' ++ [0]).length) := ⟨by simp⟩
          rw [hno81] at o81 ⊢
          replace hrw := hrw.fr f82 (row_app (wh_nw wh1) lt_hrw)
          replace hP := Parts.fro hP f82 wh1
          have ne85 := app_ap hat83 (ho1.ne_blk b3 (by decide)) b3.lt
          replace b3 := b3.fr f82 (no_own (ho1.ne_blk b3 (by decide)))
          have wh86 : A77 = none ∨ g78 ∈ ([] : List Nat) ∨ w.heap.size ≤ g78 := app_wh hat83 wh1 hF75.size
          have hF87 := hF75.thenOwnIn f82 wh1
          refine s_y (y_assign rfl) rfl rfl ?_
          refine s_nil ?_
          refine n_inb ?_
          exact fun a ha => ⟨_, by rw [List.length_append, List.length_singleton]; omega, r' ++ [0], A77, g78, c79, rfl, ha.cut ⟨rfl, rfl, rfl, rfl, trivial⟩, hF87, hrw, hP, b3, (by simpa using o81), (padZ_step r' (by omega)).trans hq, wh86, pad_le _ _ ((padZ_step r' (by omega)).trans hq)⟩
        · intro h88
          replace h88 : ((↑r'.length % 64) : Int) = 56 := Decidable.not_not.1 (of_decide_eq_false h88)
          refine c_exit ?_
          refine x_then ?_
          have hr1 : r' = padZ (flat ps ++ [0x80]) := (padZ_done r' (by omega)).symm.trans hq
          subst hr1
          refine x_then ?_
          refine x_hit ?_
          refine n_then ?_
          refine c_seq ?_
          refine c_seq ?_
          refine c_region ?_
          refine s_y (y_assign rfl) rfl rfl ?_
          refine s_nil ?_
          refine n_then ?_
          refine c_block ?_
          refine c_loop (fun m a W => ∃ k : Nat, ∃ A2 : Option Addr, ∃ g2' : Nat, ∃ c2 : Nat, m = 8 - k ∧ GP.St 86 [(0, .slice A ps.length c), (2, .pointer (some ⟨g1, 0, none⟩)), (3, .slice A2 (((padZ (flat ps ++ [0x80])) ++ (lenB (n64 (flat ps).length)).take k).length) c2), (5, .int .u64 (↑((n64 ((flat ps).length)) * 8#64).toNat)), (6, .int .i64 ↑k)] a ∧ Fr [] w W ∧ Row W A g o ps.length 1 (ps.map Part.v) ∧ Parts w.heap.size W ps ∧ Blk W g1 26 Dig.zero.cells ∧ Own W A2 g2' (((padZ (flat ps ++ [0x80])) ++ (lenB (n64 (flat ps).length)).take k).length) c2 5 1 (((padZ (flat ps ++ [0x80])) ++ (lenB (n64 (flat ps).length)).take k).map bv) ∧ (k ≤ 8) ∧ (A2 = none ∨ g2' ∈ ([] : List Nat) ∨ w.heap.size ≤ g2')) (8) ?_ ?_
          · intro a ha
            exact ⟨0, A1, g1', c1, rfl, ha.cut ⟨rfl, rfl, (by rw [List.take_zero, List.append_nil]; rfl), rfl, rfl, trivial⟩, hF63, hrw, hP, b3, (by simpa using ho1), Nat.zero_le _, wh1⟩
          · rintro _ a W89 ⟨k, A2, g2', c2, rfl, hst91, hF92, hrw, hP, b3, ho2, hk, wh2⟩
            refine (show Wc _ _ _ _ _ _ from ?_) a hst91
            clear hst91 a
            have hl8 : (lenB (n64 (flat ps).length)).length = 8 := rfl
            have hpl := padZ_len (flat ps ++ [0x80])
            rw [List.length_append, List.length_singleton] at hpl
            refine c_seq ?_
            refine c_seq ?_
            refine c_region ?_
            refine s_y (y_move rfl) rfl rfl ?_
            refine s_y (y_lss rfl rfl rfl) rfl rfl ?_
            refine s_nil ?_
            refine n_then ?_
            refine c_cond rfl ?_ ?_
            · intro h93
              replace h93 : (↑k : Int) < 8 := of_decide_eq_true h93
              refine c_skip ?_
              refine n_then ?_
              refine c_seq ?_
              refine c_block ?_
              refine c_region ?_
              refine s_y (y_move rfl) rfl rfl ?_
              refine s_y (y_move rfl) rfl rfl ?_
              refine s_y (y_move rfl) rfl rfl ?_
              refine s_y (y_mul rfl rfl (wrI (by omega) (by omega))) rfl rfl ?_
              refine s_y (y_sub rfl rfl (wrI (by omega) (by omega))) rfl rfl ?_
              refine s_y (y_conv (r := ↑(8 * (7 - k))) Tryd.underlying3 Tryd.underlying65 rfl (by rw [wrap_u64]; omega)) rfl rfl ?_
              refine s_y (y_shr (r := ↑((n64 (flat ps).length * 8#64) >>> (8 * (7 - k))).toNat) rfl rfl (by omega) (shr64 (n64 (flat ps).length * 8#64) (8 * (7 - k)) (8 * (7 - k) : Nat) (by omega) (by omega))) rfl rfl ?_
              refine s_y (y_conv (r := ↑(lenb (n64 (flat ps).length) k).toNat) Tryd.underlying59 Tryd.underlying5 rfl (conv_low64 _)) rfl rfl ?_
              have hlit94 := (T.lit3 (↑(lenb (n64 (flat ps).length) k).toNat))
              refine s_d (d_bs2 hlit94 ⟨rfl, rfl, trivial⟩) rfl rfl ?_
              rintro _ w96 ⟨g95, rfl, hg99, b97, f98⟩
              have ne100 := row_ne_new hrw hg99
              have ne101 : g1 ≠ g95 := Nat.ne_of_lt (Nat.lt_of_lt_of_le b3.lt hg99)
              have ne102 := ho2.ne_new hg99
              have nw103 := Nat.le_trans hF92.size hg99
              replace hrw := hrw.fr0 f98
              replace hP := hP.fr0 f98
              replace b3 := b3.fr0 f98
              replace ho2 := ho2.fr0 f98
              have hF104 := hF92.then0 f98
              have o105 := Own.of_blk (n := 1) (k := 1) b97 rfl (by decide)
              refine s_d (d_append Tryd.underlying64 T.ty5 T.app5 rfl ho2 rfl (src_row Tryd.underlying64 T.ty5 o105.row ()) (ones (by first | exact all_bv _ | exact all_wv _ | exact rfl | simp [all_bv, all_u32, all_ent, all_dig, all_ents])) (by simp only [List.length_append, List.length_take, hl8]; omega)) rfl rfl ?_
              rintro _ w109 ⟨A106, g107, c108, rfl, o110, f111, hat112⟩
              replace o110 : Own w109 A106 g107 (((padZ (flat ps ++ [0x80])) ++ (lenB (n64 (flat ps).length)).take k).length + 1) c108 5 1 (((padZ (flat ps ++ [0x80])) ++ (lenB (n64 (flat ps).length)).take (k + 1)).map bv) := (by rw [← lenB_add (n64 (flat ps).length) k (by omega)]; simpa [bv, lenb] using o110)
              obtain ⟨hno110⟩ : Nonempty (((padZ (flat ps ++ [0x80])) ++ (lenB (n64 (flat ps).length)).take k).length + 1 = ((padZ (flat ps ++ [0x80])) ++ (lenB (n64 (flat ps).length)).take (k + 1)).length) := ⟨by simp only [List.length_append, List.length_take, hl8]; omega⟩
              rw [hno110] at o110 ⊢
              replace hrw := hrw.fr f111 (row_app (wh_nw wh2) lt_hrw)
              replace hP := Parts.fro hP f111 wh2
              have ne114 := app_ap hat112 (ho2.ne_blk b3 (by decide)) b3.lt
              replace b3 := b3.fr f111 (no_own (ho2.ne_blk b3 (by decide)))
              have wh115 : A106 = none ∨ g107 ∈ ([] : List Nat) ∨ w.heap.size ≤ g107 := app_wh hat112 wh2 hF104.size
              have hF116 := hF104.thenOwnIn f111 wh2
              refine s_y (y_assign rfl) rfl rfl ?_
              refine s_nil ?_
              refine n_inb ?_
              refine n_then ?_
              refine c_region ?_
              refine s_y (y_move rfl) rfl rfl ?_
              refine s_y (y_add rfl rfl (wrI (by omega) (by omega))) rfl rfl ?_
              refine s_y (y_assign rfl) rfl rfl ?_
              refine s_nil ?_
              exact fun a ha => ⟨_, by omega, k + 1, A106, g107, c108, rfl, ha.cut ⟨rfl, rfl, rfl, rfl, (iv (by omega)), trivial⟩, hF116, hrw, hP, b3, o110, by omega, wh115⟩
            · intro h117
              replace h117 : ¬ ((↑k : Int) < 8) := of_decide_eq_false h117
              refine c_exit ?_
              refine x_then ?_
              obtain rfl : k = 8 := by omega
              rw [lenB_all] at ho2
              try rw [lenB_all]
              replace ho2 : Own W89 A2 g2' ((refAll (flat ps)).length) c2 5 1 ((refAll (flat ps)).map bv) := ho2
              have hrm := refAll_mod (flat ps)
              have hrl := refAll_le (flat ps)
              refine x_then ?_
              refine x_hit ?_
              refine n_then ?_
              refine c_seq ?_
              refine c_region ?_
              refine s_d (d_bs2 T.init75 ⟨rfl, rfl, rfl, rfl, rfl, rfl, rfl, rfl, rfl, rfl, rfl, rfl, rfl, rfl, rfl, rfl, trivial⟩) rfl rfl ?_
              rintro _ w119 ⟨g118, rfl, hg122, b120, f121⟩
              have ne124 := row_ne_new hrw hg122
              have ne125 : g1 ≠ g118 := Nat.ne_of_lt (Nat.lt_of_lt_of_le b3.lt hg122)
              have ne126 := ho2.ne_new hg122
              have nw127 := Nat.le_trans hF92.size hg122
              replace hrw := hrw.fr0 f121
              replace hP := hP.fr0 f121
              replace b3 := b3.fr0 f121
              replace ho2 := ho2.fr0 f121
              have hF128 := hF92.then0 f121
              have o123 := Own.of_blk (n := 8) (k := 1) b120 rfl (by decide)
              refine s_y (y_assign rfl) rfl rfl ?_
              refine s_nil ?_
              refine n_then ?_
              refine c_seq ?_
              refine c_seq ?_
              refine c_region ?_
              refine s_y (y_assign rfl) rfl rfl ?_
              refine s_nil ?_
              refine n_then ?_
              refine c_block ?_
              refine c_loop (fun m a W => ∃ q : Nat, ∃ sq : S8, ∃ A3 : Option Addr, ∃ g3' : Nat, ∃ c3 : Nat, m = (refAll (flat ps)).length - 64 * q ∧ GP.St 86 [(0, .slice A ps.length c), (2, .pointer (some ⟨g1, 0, none⟩)), (3, .slice A2 ((refAll (flat ps)).length) c2), (7, .slice A3 8 c3), (8, .int .i64 (64 * ↑q))] a ∧ Fr [] w W ∧ Row W A g o ps.length 1 (ps.map Part.v) ∧ Parts w.heap.size W ps ∧ Blk W g1 26 Dig.zero.cells ∧ Own W A2 g2' ((refAll (flat ps)).length) c2 5 1 ((refAll (flat ps)).map bv) ∧ Own W A3 g3' 8 c3 74 1 sq.cells ∧ (64 * q ≤ (refAll (flat ps)).length) ∧ (procS sq ((refAll (flat ps)).drop (64 * q)) = procS init8 (refAll (flat ps)))) ((refAll (flat ps)).length) ?_ ?_
              · intro a ha
                exact ⟨0, init8, some ⟨g118, 0, none⟩, g118, 8, rfl, ha.cut ⟨rfl, rfl, rfl, rfl, (iv (by simp)), trivial⟩, hF128, hrw, hP, b3, ho2, o123, (by omega), rfl⟩
              · rintro _ a W129 ⟨q, sq, A3, g3', c3, rfl, hst131, hF132, hrw, hP, b3, ho2, hst8, hq2, hqs⟩
                refine (show Wc _ _ _ _ _ _ from ?_) a hst131
                clear hst131 a
                refine c_seq ?_
                refine c_seq ?_
                refine c_region ?_
                refine s_y (y_move rfl) rfl rfl ?_
                refine s_y (y_move rfl) rfl rfl ?_
                refine s_y (y_len Tryd.underlying64 rfl) rfl rfl ?_
                refine s_y (y_lss rfl rfl rfl) rfl rfl ?_
                refine s_nil ?_
                refine n_then ?_
                refine c_cond rfl ?_ ?_
                · intro h133
                  replace h133 : ((64 * ↑q) : Int) < (↑((refAll (flat ps)).length)) := of_decide_eq_true h133
                  refine c_skip ?_
                  refine n_then ?_
                  refine c_seq ?_
                  refine c_block ?_
                  refine c_region ?_
                  refine s_y (y_move rfl) rfl rfl ?_
                  refine s_y (y_move rfl) rfl rfl ?_
                  refine s_y (y_move rfl) rfl rfl ?_
                  refine s_y (y_move rfl) rfl rfl ?_
                  refine s_y (y_add rfl rfl (wrI (by omega) (by omega))) rfl rfl ?_
                  refine s_d (d_slicelh (l := (64 * q)) (m := (64 * q + 64)) (n' := 64) (o' := 0 + ((64 * q) * 1)) (ys := ((((refAll (flat ps)).drop (64 * q)).take 64).map bv)) Tryd.underlying64 T.ty5 rfl rfl (by omega) rfl (by omega) ho2.row (by omega) (by omega) ho2.cap (by omega) (by omega) (by rw [Nat.mul_one, Nat.mul_one, show 64 * q + 64 - 64 * q = 64 by omega]; simp [List.map_take, List.map_drop])) rfl rfl ?_
                  rintro _ _ ⟨A134, c135, rfl, rfl, r136, hc137⟩
                  refine s_d (d_callR T.ent42 (vs := [.slice A3 8 c3, .slice A134 64 c135]) rfl (block42_ok _ _ _ _ _ _ _ _ sq (((refAll (flat ps)).drop (64 * q)).take 64) _ (by rw [List.length_take, List.length_drop]; omega) hst8.row r136) (by rintro e w' ⟨_, _, _, rfl, -⟩; exact ⟨_, rfl⟩)) rfl rfl ?_
                  rintro v145 w143 ⟨A138, g139, c140, hv146, f144, o141, wh142⟩
                  obtain rfl := ret_inj hv146
                  replace hrw := hrw.fr0 f144
                  replace hP := hP.fr0 f144
                  replace b3 := b3.fr0 f144
                  replace ho2 := ho2.fr0 f144
                  replace hst8 := hst8.fr0 f144
                  have hF147 := hF132.then0 f144
                  refine s_y (y_assign rfl) rfl rfl ?_
                  refine s_nil ?_
                  refine n_inb ?_
                  refine n_then ?_
                  refine c_region ?_
                  refine s_y (y_move rfl) rfl rfl ?_
                  refine s_y (y_add rfl rfl (wrI (by omega) (by omega))) rfl rfl ?_
                  refine s_y (y_assign rfl) rfl rfl ?_
                  refine s_nil ?_
                  exact fun a ha => ⟨_, by omega, q + 1, turnS sq (((refAll (flat ps)).drop (64 * q)).take 64), A138, g139, c140, rfl, ha.cut ⟨rfl, rfl, rfl, rfl, (iv (by omega)), trivial⟩, hF147, hrw, hP, b3, ho2, o141, by omega, (by rw [← hqs, ← procS_step sq ((refAll (flat ps)).drop (64 * q)) (by rw [List.length_drop]; omega), List.drop_drop, show 64 * q + 64 = 64 * (q + 1) by omega])⟩
                · intro h148
                  replace h148 : ¬ (((64 * ↑q) : Int) < (↑((refAll (flat ps)).length))) := of_decide_eq_false h148
                  refine c_exit ?_
                  refine x_then ?_
                  have hS : sq = (procS init8 (refAll (flat ps))).1 := by rw [← hqs, procS_done sq _ (by rw [List.length_drop]; omega)]
                  subst hS
                  refine x_then ?_
                  refine x_hit ?_
                  refine n_then ?_
                  refine c_seq ?_
                  refine c_region ?_
                  refine s_y (y_build (vs := []) rfl (T.bz26 _)) rfl rfl ?_
                  refine s_d (d_alloc (cs := Dig.zero.cells) T.zero26 rfl) rfl rfl ?_
                  rintro _ w150 ⟨g149, rfl, hg153, b151, f152⟩
                  have ne154 := row_ne_new hrw hg153
                  have ne155 : g1 ≠ g149 := Nat.ne_of_lt (Nat.lt_of_lt_of_le b3.lt hg153)
                  have ne156 := ho2.ne_new hg153
                  have ne157 := hst8.ne_new hg153
                  have nw158 := Nat.le_trans hF132.size hg153
                  replace hrw := hrw.fr0 f152
                  replace hP := hP.fr0 f152
                  replace b3 := b3.fr0 f152
                  replace ho2 := ho2.fr0 f152
                  replace hst8 := hst8.fr0 f152
                  have hF159 := hF132.then0 f152
                  refine s_d (d_store (cs := Dig.zero.cells) (l' := Dig.zero.cells) T.ty26 rfl rfl b151 rfl (by simp [Dig.len]) (ones (by simp [all_bv, all_u32, all_ent, all_dig, all_ents])) (by simp [Dig.len, Dig.len]) (setL_all (by simp [Dig.len, Dig.len]))) rfl rfl ?_
                  rintro _ w160 ⟨rfl, b161, f162⟩
                  replace hrw := hrw.fr1 f162 ne154
                  replace hP := hP.fr f162 (by simp; omega)
                  replace b3 := b3.fr1 f162 ne155
                  replace ho2 := ho2.fr1 f162 ne156
                  replace hst8 := hst8.fr1 f162 ne157
                  clear b151
                  have hF163 := hF159.thenNew f162 nw158
                  refine s_nil ?_
                  refine n_then ?_
                  refine c_seq ?_
                  refine c_seq ?_
                  refine c_region ?_
                  refine s_y (y_assign rfl) rfl rfl ?_
                  refine s_nil ?_
                  refine n_then ?_
                  refine c_block ?_
                  refine c_loop (fun m a W => ∃ k : Nat, m = 32 - k ∧ GP.St 86 [(2, .pointer (some ⟨g1, 0, none⟩)), (7, .slice A3 8 c3), (9, .pointer (some ⟨g149, 0, none⟩)), (10, .int .i64 ↑k)] a ∧ Fr [] w W ∧ Row W A g o ps.length 1 (ps.map Part.v) ∧ Parts w.heap.size W ps ∧ Blk W g1 26 Dig.zero.cells ∧ Own W A2 g2' ((refAll (flat ps)).length) c2 5 1 ((refAll (flat ps)).map bv) ∧ Own W A3 g3' 8 c3 74 1 ((procS init8 (refAll (flat ps))).1.cells) ∧ Blk W g149 26 ((outP ((procS init8 (refAll (flat ps))).1) k).map bv) ∧ (k ≤ 32)) (32) ?_ ?_
                  · intro a ha
                    exact ⟨0, rfl, ha.cut ⟨rfl, rfl, rfl, rfl, trivial⟩, hF163, hrw, hP, b3, ho2, hst8, b161, Nat.zero_le _⟩
                  · rintro _ a W164 ⟨k, rfl, hst166, hF167, hrw, hP, b3, ho2, hst8, hout, hk⟩
                    refine (show Wc _ _ _ _ _ _ from ?_) a hst166
                    clear hst166 a
                    refine c_seq ?_
                    refine c_seq ?_
                    refine c_region ?_
                    refine s_y (y_move rfl) rfl rfl ?_
                    refine s_y (y_lss rfl rfl rfl) rfl rfl ?_
                    refine s_nil ?_
                    refine n_then ?_
                    refine c_cond rfl ?_ ?_
                    · intro h168
                      replace h168 : (↑k : Int) < 32 := of_decide_eq_true h168
                      refine c_skip ?_
                      refine n_then ?_
                      refine c_seq ?_
                      refine c_block ?_
                      refine c_region ?_
                      refine s_y (y_move rfl) rfl rfl ?_
                      refine s_y (y_move rfl) rfl rfl ?_
                      refine s_y (y_move rfl) rfl rfl ?_
                      refine s_y (y_quo (r := ↑k / 4) rfl rfl (by decide) (quoP (by omega) (by omega) (by decide))) rfl rfl ?_
                      refine s_y (y_index (r := 0 + (k / 4)) Tryd.underlying75 T.ty74 rfl rfl (hst8.row.addr (j := (k / 4)) (by first | (simp; omega) | (show _ < 8; omega))) (by omega) (by omega) (by omega)) rfl rfl ?_
                      refine s_y (y_ldR (v := .int .u32 (↑((procS init8 (refAll (flat ps))).1.list.getD (k / 4) 0).toNat)) (j := (k / 4)) T.ty74 rfl hst8.row (by first | rfl | omega) (map_at wv (procS init8 (refAll (flat ps))).1.list (k / 4) 0 (show _ < 8 by omega))) rfl rfl ?_
                      refine s_y (y_move rfl) rfl rfl ?_
                      refine s_y (y_rem (r := ↑k % 4) rfl rfl (by decide) (Int.tmod_eq_emod_of_nonneg (by omega))) rfl rfl ?_
                      refine s_y (y_mul rfl rfl (wrI (by omega) (by omega))) rfl rfl ?_
                      refine s_y (y_sub rfl rfl (wrI (by omega) (by omega))) rfl rfl ?_
                      refine s_y (y_conv (r := ↑(24 - 8 * (k % 4))) Tryd.underlying3 Tryd.underlying65 rfl (by rw [wrap_u64]; omega)) rfl rfl ?_
                      refine s_y (y_shr (r := ↑(((procS init8 (refAll (flat ps))).1.list.getD (k / 4) 0) >>> (24 - 8 * (k % 4))).toNat) rfl rfl (by omega) (shr32 _ (24 - 8 * (k % 4)) _ (by omega) (by omega))) rfl rfl ?_
                      refine s_y (y_conv (r := ↑(outb ((procS init8 (refAll (flat ps))).1) k).toNat) Tryd.underlying74 Tryd.underlying5 rfl (conv_low32 _)) rfl rfl ?_
                      refine s_y (y_indexArr (r := k) Tryd.underlying26 T.ty5 rfl rfl (by omega) (by omega) (by omega)) rfl rfl ?_
                      refine s_d (d_store (cs := [.int .u8 (↑(outb ((procS init8 (refAll (flat ps))).1) k).toNat)]) (l' := (outP ((procS init8 (refAll (flat ps))).1) (k + 1)).map bv) T.ty5 rfl rfl hout rfl rfl (ones rfl) (by simp [outP_len ((procS init8 (refAll (flat ps))).1) k (by omega)]; omega) (by rw [← outP_step ((procS init8 (refAll (flat ps))).1) k (by omega)]; exact map_set bv _ _ _)) rfl rfl ?_
                      rintro _ w169 ⟨rfl, b170, f171⟩
                      replace hrw := hrw.fr1 f171 ne154
                      replace hP := hP.fr f171 (by simp; omega)
                      replace b3 := b3.fr1 f171 ne155
                      replace ho2 := ho2.fr1 f171 ne156
                      replace hst8 := hst8.fr1 f171 ne157
                      clear hout
                      have hF172 := hF167.thenNew f171 nw158
                      refine s_nil ?_
                      refine n_inb ?_
                      refine n_then ?_
                      refine c_region ?_
                      refine s_y (y_move rfl) rfl rfl ?_
                      refine s_y (y_add rfl rfl (wrI (by omega) (by omega))) rfl rfl ?_
                      refine s_y (y_assign rfl) rfl rfl ?_
                      refine s_nil ?_
                      exact fun a ha => ⟨_, by omega, k + 1, rfl, ha.cut ⟨rfl, rfl, rfl, (iv (by omega)), trivial⟩, hF172, hrw, hP, b3, ho2, hst8, b170, by omega⟩
                    · intro h173
                      replace h173 : ¬ ((↑k : Int) < 32) := of_decide_eq_false h173
                      refine c_exit ?_
                      refine x_then ?_
                      obtain rfl : k = 32 := by omega
                      replace hout : Blk W164 g149 26 ((refSum (flat ps)).cells) := hout
                      refine x_then ?_
                      refine x_hit ?_
                      refine n_then ?_
                      refine c_seq ?_
                      refine c_region ?_
                      refine s_y (y_ldBA (xs := ((refSum (flat ps)).cells)) T.ty26 rfl hout (Dig.len _) (take_all _ (Dig.len _))) rfl rfl ?_
                      refine s_d (d_store (cs := ((refSum (flat ps)).cells)) (l' := ((refSum (flat ps)).cells)) T.ty26 rfl rfl b3 rfl (by simp [Dig.len]) (ones (by simp [all_bv, all_u32, all_ent, all_dig, all_ents])) (by simp [Dig.len, Dig.len]) (setL_all (by simp [Dig.len, Dig.len]))) rfl rfl ?_
                      rintro _ w174 ⟨rfl, b175, f176⟩
                      have ne177 := ho2.ne_blk b3 (by decide)
                      have ne178 := hst8.ne_blk b3 (by decide)
                      replace hrw := hrw.fr1 f176 ne6
                      replace hP := hP.fr f176 (by simp; omega)
                      replace ho2 := ho2.fr1 f176 ne177
                      replace hst8 := hst8.fr1 f176 ne178
                      replace hout := hout.fr1 f176 ne155.symm
                      clear b3
                      have hF179 := hF167.thenNew f176 nw7
                      refine s_nil ?_
                      refine n_then ?_
                      refine c_ret ?_
                      refine fin1 (by simp) rfl (rv_A (xs := ((refSum (flat ps)).cells)) T.ty26 rfl b175 (by simp [Dig.len]) (take_all _ (by simp [Dig.len]))) ?_
                      exact ⟨rfl, hF179⟩

end Go.Proofs.YtojbephcahnbbaaDoor
