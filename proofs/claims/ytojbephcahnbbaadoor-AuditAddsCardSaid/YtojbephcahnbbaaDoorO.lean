/- The reference log: numeral, line, link. No condition. -/
import Derived.Test.YtojbephcahnbbaaDoorDec
import Derived.Test.YtojbephcahnbbaaDoorM
import Derived.Test.YtojbephcahnbbaaDoorOT
import Derived.Test.YtojbephcahnbbaaDoorProg
set_option linter.unusedVariables false
set_option linter.unusedSimpArgs false
namespace Go.Proofs.YtojbephcahnbbaaDoor
open Go Go.Proofs.GP Go.Proofs.Tryd
set_option maxRecDepth 100000 in
theorem chain28_ok (last : Dig) (text : List UInt8) (w : World) (hl : text.length ≤ 549755000000) :
    Calls Tryd.prog 28 #[.agg last.cells.toArray, .string ⟨text.toArray⟩] w fun e w' => e = .returned (.agg (chain last text).cells.toArray) ∧ Fr [] w w' := by
  refine c_start (args := [.agg last.cells.toArray, .string ⟨text.toArray⟩]) Tryd.func28 rfl rfl rfl ?_
  try simp only [enum, Nat.zero_add, Nat.reduceAdd]
  have hF0 := Fr.refl [] w
  refine c_seq ?_
  refine c_region ?_
  refine s_d (d_box (cs := last.cells) rfl rfl) rfl rfl ?_
  rintro _ w2 ⟨g1, rfl, hg5, b3, f4⟩
  have nw6 := Nat.le_trans hF0.size hg5
  have hF7 := hF0.then0 f4
  refine s_d (d_alloc (cs := Dig.zero.cells) T.zero26 rfl) rfl rfl ?_
  rintro _ w9 ⟨g8, rfl, hg12, b10, f11⟩
  have ne13 : g1 ≠ g8 := Nat.ne_of_lt (Nat.lt_of_lt_of_le b3.lt hg12)
  have nw14 := Nat.le_trans hF7.size hg12
  replace b3 := b3.fr0 f11
  have hF15 := hF7.then0 f11
  refine s_nil ?_
  refine n_then ?_
  refine c_seq ?_
  refine c_region ?_
  refine s_y (y_move rfl) rfl rfl ?_
  refine s_y (y_lenS Tryd.underlying9 rfl) rfl rfl ?_
  refine s_y (y_assign rfl) rfl rfl ?_
  refine s_nil ?_
  refine n_then ?_
  refine c_seq ?_
  refine c_region ?_
  have hlit16 := (T.lit2 )
  refine s_d (d_bs2 hlit16 trivial) rfl rfl ?_
  rintro _ w18 ⟨g17, rfl, hg21, b19, f20⟩
  have ne22 : g1 ≠ g17 := Nat.ne_of_lt (Nat.lt_of_lt_of_le b3.lt hg21)
  have ne23 : g8 ≠ g17 := Nat.ne_of_lt (Nat.lt_of_lt_of_le b10.lt hg21)
  have nw24 := Nat.le_trans hF15.size hg21
  replace b3 := b3.fr0 f20
  replace b10 := b10.fr0 f20
  have hF25 := hF15.then0 f20
  have o26 := Own.of_blk (n := 0) (k := 1) b19 rfl (by decide)
  refine s_d (d_sliceArr Tryd.underlying26 rfl ⟨_, _, T.ty5⟩) rfl rfl ?_
  rintro _ _ ⟨rfl, rfl⟩
  have r27 := Row.of_blk (n := 32) (k := 1) b3 (by simp [Dig.len])
  refine s_d (d_append Tryd.underlying64 T.ty5 T.app5 rfl o26 rfl (src_row Tryd.underlying64 T.ty5 r27 ()) (ones (by first | exact all_bv _ | exact all_wv _ | exact rfl | simp [all_bv, all_u32, all_ent, all_dig, all_ents])) (by omega)) rfl rfl ?_
  rintro _ w31 ⟨A28, g29, c30, rfl, o32, f33, hat34⟩
  replace o32 : Own w31 A28 g29 32 c30 5 1 last.cells := (by simpa using o32)
  obtain ⟨hno32⟩ : Nonempty (32 = 32) := ⟨rfl⟩
  rw [hno32] at o32 ⊢
  have ne36 := app_ap hat34 (.inr (Ne.symm ne22)) b3.lt
  replace b3 := b3.fr f33 (no_own (.inr (Ne.symm ne22)))
  have ne37 := app_ap hat34 (.inr (Ne.symm ne23)) b10.lt
  replace b10 := b10.fr f33 (no_own (.inr (Ne.symm ne23)))
  replace r27 := r27.fr f33 (.inr (no_own (.inr (Ne.symm ne22))))
  have wh38 : A28 = none ∨ g29 ∈ ([] : List Nat) ∨ w.heap.size ≤ g29 := app_wh hat34 (.inr (.inr nw24)) hF25.size
  have hF39 := hF25.thenOwnIn f33 (.inr (.inr nw24))
  have hA40 := own_some o32 (by rw [Dig.len]; decide)
  subst hA40
  refine s_y (y_move rfl) rfl rfl ?_
  refine s_y (y_shr (r := ↑text.length / 16777216) rfl rfl (by decide) (shrI24 _ (by omega))) rfl rfl ?_
  refine s_y (y_conv (r := ↑(lowI (↑text.length / 16777216)).toNat) Tryd.underlying3 Tryd.underlying5 rfl (conv_lowI _)) rfl rfl ?_
  refine s_y (y_move rfl) rfl rfl ?_
  refine s_y (y_shr (r := ↑text.length / 65536) rfl rfl (by decide) (shrI16 _ (by omega))) rfl rfl ?_
  refine s_y (y_conv (r := ↑(lowI (↑text.length / 65536)).toNat) Tryd.underlying3 Tryd.underlying5 rfl (conv_lowI _)) rfl rfl ?_
  refine s_y (y_move rfl) rfl rfl ?_
  refine s_y (y_shr (r := ↑text.length / 256) rfl rfl (by decide) (shrI8 _ (by omega))) rfl rfl ?_
  refine s_y (y_conv (r := ↑(lowI (↑text.length / 256)).toNat) Tryd.underlying3 Tryd.underlying5 rfl (conv_lowI _)) rfl rfl ?_
  refine s_y (y_move rfl) rfl rfl ?_
  refine s_y (y_conv (r := ↑(lowI ↑text.length).toNat) Tryd.underlying3 Tryd.underlying5 rfl (conv_lowI _)) rfl rfl ?_
  have hlit41 := (T.lit4 (↑(lowI (↑text.length / 16777216)).toNat) (↑(lowI (↑text.length / 65536)).toNat) (↑(lowI (↑text.length / 256)).toNat) (↑(lowI ↑text.length).toNat))
  refine s_d (d_bs2 hlit41 ⟨rfl, rfl, rfl, rfl, rfl, rfl, rfl, rfl, trivial⟩) rfl rfl ?_
  rintro _ w43 ⟨g42, rfl, hg46, b44, f45⟩
  have ne47 : g1 ≠ g42 := Nat.ne_of_lt (Nat.lt_of_lt_of_le b3.lt hg46)
  have ne48 : g8 ≠ g42 := Nat.ne_of_lt (Nat.lt_of_lt_of_le b10.lt hg46)
  have ne49 := row_ne_new r27 hg46
  have ne50 := o32.ne_new hg46
  have nw51 := Nat.le_trans hF39.size hg46
  replace b3 := b3.fr0 f45
  replace b10 := b10.fr0 f45
  replace r27 := r27.fr0 f45
  replace o32 := o32.fr0 f45
  have hF52 := hF39.then0 f45
  have o53 := Own.of_blk (n := 4) (k := 1) b44 rfl (by decide)
  refine s_y (y_move rfl) rfl rfl ?_
  refine s_d (d_sbytes Tryd.underlying9 Tryd.underlying64 Tryd.underlying5 rfl) rfl rfl ?_
  rintro _ w56 ⟨g54, c55, rfl, hg59, r57, f58, hl60, hc61⟩
  have ne62 : g1 ≠ g54 := Nat.ne_of_lt (Nat.lt_of_lt_of_le b3.lt hg59)
  have ne63 : g8 ≠ g54 := Nat.ne_of_lt (Nat.lt_of_lt_of_le b10.lt hg59)
  have ne64 := row_ne_new r27 hg59
  have ne65 := o32.ne_new hg59
  have ne66 := o53.ne_new hg59
  have nw67 := Nat.le_trans hF52.size hg59
  replace b3 := b3.fr0 f58
  replace b10 := b10.fr0 f58
  replace r27 := r27.fr0 f58
  replace o32 := o32.fr0 f58
  replace o53 := o53.fr0 f58
  have hF68 := hF52.then0 f58
  have hlit69 := (T.lit5 (some ⟨g29, 0, none⟩) 32 c30 (some ⟨g42, 0, none⟩) 4 4 (some ⟨g54, 0, none⟩) text.length c55)
  refine s_d (d_bs2 hlit69 ⟨rfl, rfl, rfl, rfl, rfl, rfl, trivial⟩) rfl rfl ?_
  rintro _ w71 ⟨g70, rfl, hg74, b72, f73⟩
  have ne75 : g1 ≠ g70 := Nat.ne_of_lt (Nat.lt_of_lt_of_le b3.lt hg74)
  have ne76 : g8 ≠ g70 := Nat.ne_of_lt (Nat.lt_of_lt_of_le b10.lt hg74)
  have ne77 := row_ne_new r27 hg74
  have ne78 := o32.ne_new hg74
  have ne79 := o53.ne_new hg74
  have ne80 := row_ne_new r57 hg74
  have nw81 := Nat.le_trans hF68.size hg74
  replace b3 := b3.fr0 f73
  replace b10 := b10.fr0 f73
  replace r27 := r27.fr0 f73
  replace o32 := o32.fr0 f73
  replace o53 := o53.fr0 f73
  replace r57 := r57.fr0 f73
  replace hl60 := Nat.lt_of_lt_of_le hl60 f73.size
  have hF82 := hF68.then0 f73
  have o83 := Own.of_blk (n := 3) (k := 1) b72 rfl (by decide)
  have hP : Parts w71.heap.size w71 [⟨some ⟨g29, 0, none⟩, g29, 0, c30, last.l⟩, ⟨some ⟨g42, 0, none⟩, g42, 0, 4, len4 text.length⟩, ⟨some ⟨g54, 0, none⟩, g54, 0, c55, text⟩] := by
    intro p hp
    simp only [List.mem_cons, List.not_mem_nil, or_false] at hp
    rcases hp with rfl | rfl | rfl
    · exact ⟨o32.lt.resolve_left (by simp), by show Row _ _ _ _ last.l.length 1 (last.l.map bv); rw [last.h]; exact o32.row⟩
    · exact ⟨o53.lt.resolve_left (by simp), o53.row⟩
    · exact ⟨hl60, r57⟩
  have hrw : Row w71 (some ⟨g70, 0, none⟩) g70 0 3 1 (([⟨some ⟨g29, 0, none⟩, g29, 0, c30, last.l⟩, ⟨some ⟨g42, 0, none⟩, g42, 0, 4, len4 text.length⟩, ⟨some ⟨g54, 0, none⟩, g54, 0, c55, text⟩] : List Part).map Part.v) := by have h := o83.row; simpa [Part.v, last.h, len4] using h
  have hmx : (flat [⟨some ⟨g29, 0, none⟩, g29, 0, c30, last.l⟩, ⟨some ⟨g42, 0, none⟩, g42, 0, 4, len4 text.length⟩, ⟨some ⟨g54, 0, none⟩, g54, 0, c55, text⟩]).length ≤ 549755813888 := by
    have h4 : (len4 text.length).length = 4 := rfl
    have hL := last.h
    simp only [flat, List.flatMap_cons, List.flatMap_nil, List.length_append, List.length_nil, h4, hL]; omega
  have hch : refSum (flat [⟨some ⟨g29, 0, none⟩, g29, 0, c30, last.l⟩, ⟨some ⟨g42, 0, none⟩, g42, 0, 4, len4 text.length⟩, ⟨some ⟨g54, 0, none⟩, g54, 0, c55, text⟩]) = chain last text := chain_flat _ _ _ _ _ rfl rfl rfl
  have hcall := sum35_ok _ _ _ 3 [⟨some ⟨g29, 0, none⟩, g29, 0, c30, last.l⟩, ⟨some ⟨g42, 0, none⟩, g42, 0, 4, len4 text.length⟩, ⟨some ⟨g54, 0, none⟩, g54, 0, c55, text⟩] _ (by simp) hmx hrw hP
  rw [hch] at hcall
  refine s_d (d_callR T.ent35 (vs := [.slice (some ⟨g70, 0, none⟩) 3 3]) rfl (hcall) (by rintro e w' ⟨rfl, -⟩; exact ⟨_, rfl⟩)) rfl rfl ?_
  rintro v86 w84 ⟨hv87, f85⟩
  obtain rfl := ret_inj hv87
  replace b3 := b3.fr0 f85
  replace b10 := b10.fr0 f85
  replace r27 := r27.fr0 f85
  replace o32 := o32.fr0 f85
  replace o53 := o53.fr0 f85
  replace r57 := r57.fr0 f85
  replace hl60 := Nat.lt_of_lt_of_le hl60 f85.size
  replace o83 := o83.fr0 f85
  have hF88 := hF82.then0 f85
  refine s_d (d_store (cs := ((chain last text).cells)) (l' := ((chain last text).cells)) T.ty26 rfl rfl b10 rfl (by simp [Dig.len]) (ones (by simp [all_bv, all_u32, all_ent, all_dig, all_ents])) (by simp [Dig.len, Dig.len]) (setL_all (by simp [Dig.len, Dig.len]))) rfl rfl ?_
  rintro _ w89 ⟨rfl, b90, f91⟩
  replace b3 := b3.fr1 f91 ne13
  replace r27 := r27.fr1 f91 (.inr ne13)
  replace o32 := o32.fr1 f91 ne37
  replace o53 := o53.fr1 f91 (.inr (Ne.symm ne48))
  replace r57 := r57.fr1 f91 (.inr ne63.symm)
  replace hl60 := Nat.lt_of_lt_of_le hl60 f91.size
  replace o83 := o83.fr1 f91 (.inr (Ne.symm ne76))
  clear b10
  have hF92 := hF88.thenNew f91 nw14
  refine s_nil ?_
  refine n_then ?_
  refine c_ret ?_
  refine fin1 (by simp) rfl (rv_A (xs := ((chain last text).cells)) T.ty26 rfl b90 (by simp [Dig.len]) (take_all _ (by simp [Dig.len]))) ?_
  exact ⟨rfl, hF92⟩

set_option maxRecDepth 100000 in
theorem itoa36_ok (N : Nat) (w : World) (hN : N ≤ 9223372036854775807) :
    Calls Tryd.prog 36 #[.int .i64 ↑N] w fun e w' => e = .returned (.string ⟨(Lib.itoa (N : Int)).toArray⟩) ∧ Fr [] w w' := by
  refine c_start (args := [.int .i64 ↑N]) Tryd.func36 rfl rfl rfl ?_
  try simp only [enum, Nat.zero_add, Nat.reduceAdd]
  have hF0 := Fr.refl [] w
  refine c_seq ?_
  refine c_region ?_
  refine s_y (y_assign rfl) rfl rfl ?_
  refine s_nil ?_
  refine n_then ?_
  refine c_seq ?_
  refine c_seq ?_
  refine c_region ?_
  refine s_y (y_move rfl) rfl rfl ?_
  refine s_y (y_eql rfl rfl rfl) rfl rfl ?_
  refine s_nil ?_
  refine n_then ?_
  refine c_cond rfl ?_ ?_
  · intro h1
    replace h1 : (↑N : Int) = 0 := of_decide_eq_true h1
    refine c_seq ?_
    refine c_region ?_
    refine s_y (y_assign rfl) rfl rfl ?_
    refine s_nil ?_
    refine n_then ?_
    refine c_ret ?_
    refine r_then ?_
    refine fin1 (by simp) rfl rfl ?_
    obtain rfl : N = 0 := by omega
    exact ⟨by rw [itoa_zero], hF0⟩
  · intro h2
    replace h2 : ¬ ((↑N : Int) = 0) := of_decide_eq_false h2
    refine c_skip ?_
    refine n_then ?_
    refine c_seq ?_
    refine c_region ?_
    refine s_y (y_assign rfl) rfl rfl ?_
    refine s_nil ?_
    refine n_then ?_
    refine c_seq ?_
    refine c_region ?_
    refine s_y (y_move rfl) rfl rfl ?_
    refine s_y (y_lss rfl rfl rfl) rfl rfl ?_
    refine s_y (y_assign rfl) rfl rfl ?_
    refine s_nil ?_
    refine n_then ?_
    refine c_seq ?_
    refine c_block ?_
    refine c_loop (fun m a W => ∃ u : Nat, ∃ s' : List UInt8, m = u + 1 ∧ GP.St 31 [(0, .int .i64 ↑u), (3, .string ⟨s'.toArray⟩), (4, .bool (decide ((↑N : Int) < 0)))] a ∧ Fr [] w W ∧ (Half N u s') ∧ (u ≤ N)) (N + 1) ?_ ?_
    · intro a ha
      exact ⟨N, [], rfl, ha.cut ⟨rfl, rfl, rfl, trivial⟩, hF0, (half_start N (by omega)), Nat.le_refl _⟩
    · rintro _ a W3 ⟨u, s', rfl, hst5, hF6, hh, hm⟩
      refine (show Wc _ _ _ _ _ _ from ?_) a hst5
      clear hst5 a
      have hlen := half_len N u s' hh hN
      refine c_seq ?_
      refine c_seq ?_
      refine c_region ?_
      refine s_y (y_move rfl) rfl rfl ?_
      refine s_y (y_neq rfl rfl rfl) rfl rfl ?_
      refine s_nil ?_
      refine n_then ?_
      refine c_cond rfl ?_ ?_
      · intro h7
        replace h7 : (↑u : Int) ≠ 0 := of_decide_eq_true h7
        refine c_skip ?_
        refine n_then ?_
        refine c_block ?_
        refine c_seq ?_
        refine c_region ?_
        refine s_y (y_move rfl) rfl rfl ?_
        refine s_y (y_rem (r := ↑u % 10) rfl rfl (by decide) (Int.tmod_eq_emod_of_nonneg (by omega))) rfl rfl ?_
        refine s_y (y_assign rfl) rfl rfl ?_
        refine s_nil ?_
        refine n_then ?_
        refine c_seq ?_
        refine c_seq ?_
        refine c_region ?_
        refine s_y (y_move rfl) rfl rfl ?_
        refine s_y (y_lss rfl rfl rfl) rfl rfl ?_
        refine s_nil ?_
        refine n_then ?_
        refine c_cond rfl ?_ ?_
        · intro h8
          replace h8 : ((↑u % 10) : Int) < 0 := of_decide_eq_true h8
          exfalso; omega
        · intro h9
          replace h9 : ¬ (((↑u % 10) : Int) < 0) := of_decide_eq_false h9
          refine c_skip ?_
          refine n_then ?_
          refine c_seq ?_
          refine c_region ?_
          refine s_y (y_move rfl) rfl rfl ?_
          refine s_y (y_add rfl rfl (wrI (by omega) (by omega))) rfl rfl ?_
          refine s_y (y_conv (r := ↑(dgt u).toNat) Tryd.underlying3 Tryd.underlying5 rfl (conv_lowI _)) rfl rfl ?_
          have hlit10 := (T.lit3 (↑(dgt u).toNat))
          refine s_d (d_bs2 hlit10 ⟨rfl, rfl, trivial⟩) rfl rfl ?_
          rintro _ w12 ⟨g11, rfl, hg15, b13, f14⟩
          have nw16 := Nat.le_trans hF6.size hg15
          have hF17 := hF6.then0 f14
          have o18 := Own.of_blk (n := 1) (k := 1) b13 rfl (by decide)
          refine s_y (y_bstr Tryd.underlying64 Tryd.underlying5 Tryd.underlying9 rfl (show Row _ _ _ _ _ _ ([dgt u].map bv) from o18.row)) rfl rfl ?_
          refine s_y (y_move rfl) rfl rfl ?_
          refine s_y (y_sadd rfl rfl (by simp; omega)) rfl rfl ?_
          refine s_y (y_assign rfl) rfl rfl ?_
          refine s_nil ?_
          refine n_then ?_
          refine c_region ?_
          refine s_y (y_move rfl) rfl rfl ?_
          refine s_y (y_quo (r := ↑u / 10) rfl rfl (by decide) (quoP (by omega) (by omega) (by decide))) rfl rfl ?_
          refine s_y (y_assign rfl) rfl rfl ?_
          refine s_nil ?_
          refine n_inb ?_
          exact fun a ha => ⟨_, by omega, u / 10, [dgt u] ++ s', rfl, ha.cut ⟨(iv (by omega)), rfl, rfl, trivial⟩, hF17, half_step N u s' hh (by omega), by omega⟩
      · intro h19
        replace h19 : (↑u : Int) = 0 := Decidable.not_not.1 (of_decide_eq_false h19)
        refine c_exit ?_
        refine x_then ?_
        obtain rfl : u = 0 := by omega
        refine x_then ?_
        refine x_hit ?_
        refine n_then ?_
        refine c_seq ?_
        refine c_seq ?_
        refine c_region ?_
        refine s_y (y_move rfl) rfl rfl ?_
        refine s_nil ?_
        refine n_then ?_
        refine c_cond rfl ?_ ?_
        · intro h20
          replace h20 : (↑N : Int) < 0 := of_decide_eq_true h20
          exfalso; omega
        · intro h21
          replace h21 : ¬ ((↑N : Int) < 0) := of_decide_eq_false h21
          refine c_skip ?_
          refine n_then ?_
          refine c_seq ?_
          refine c_region ?_
          refine s_y (y_move rfl) rfl rfl ?_
          refine s_y (y_assign rfl) rfl rfl ?_
          refine s_nil ?_
          refine n_then ?_
          refine c_ret ?_
          refine fin1 (by simp) rfl rfl ?_
          exact ⟨by rw [half_end N s' hh], hF6⟩

set_option maxRecDepth 100000 in
theorem line29_ok (N : Nat) (t : List UInt8) (w : World) (hN : N ≤ 9223372036854775807) (ht : t.length ≤ 549755813000) :
    Calls Tryd.prog 29 #[.int .i64 ↑N, .string ⟨t.toArray⟩] w fun e w' => e = .returned (.string ⟨(line ↑N t).toArray⟩) ∧ Fr [] w w' := by
  have hil := itoa_len N (by omega) (by omega)
  refine c_start (args := [.int .i64 ↑N, .string ⟨t.toArray⟩]) Tryd.func29 rfl rfl rfl ?_
  try simp only [enum, Nat.zero_add, Nat.reduceAdd]
  have hF0 := Fr.refl [] w
  refine c_seq ?_
  refine c_region ?_
  refine s_y (y_assign rfl) rfl rfl ?_
  refine s_nil ?_
  refine n_then ?_
  refine c_seq ?_
  refine c_region ?_
  refine s_y (y_move rfl) rfl rfl ?_
  refine s_d (d_callR T.ent36 (vs := [.int .i64 ↑N]) rfl (itoa36_ok N _ hN) (by rintro e w' ⟨rfl, -⟩; exact ⟨_, rfl⟩)) rfl rfl ?_
  rintro v3 w1 ⟨hv4, f2⟩
  obtain rfl := ret_inj hv4
  have hF5 := hF0.then0 f2
  refine s_y (y_sadd rfl rfl (by first | omega | (rw [List.length_append, List.length_singleton]; omega) | (simp; omega))) rfl rfl ?_
  refine s_y (y_move rfl) rfl rfl ?_
  refine s_y (y_sadd rfl rfl (by first | omega | (rw [List.length_append, List.length_singleton]; omega) | (simp; omega))) rfl rfl ?_
  refine s_y (y_assign rfl) rfl rfl ?_
  refine s_nil ?_
  refine n_then ?_
  refine c_ret ?_
  refine fin1 (by simp) rfl rfl ?_
  exact ⟨rfl, hF5⟩

end Go.Proofs.YtojbephcahnbbaaDoor
