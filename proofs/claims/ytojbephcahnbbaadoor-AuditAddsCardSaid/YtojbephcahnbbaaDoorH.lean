/- A link's digest. No condition. -/
import Derived.Test.YtojbephcahnbbaaDoorSha3
import Derived.Test.YtojbephcahnbbaaDoorF
import Derived.Test.YtojbephcahnbbaaDoorHT
import Derived.Test.YtojbephcahnbbaaDoorProg
set_option linter.unusedVariables false
set_option linter.unusedSimpArgs false
namespace Go.Proofs.YtojbephcahnbbaaDoor
open Go Go.Proofs.GP Go.Proofs.Tryd
set_option maxRecDepth 100000 in
theorem chain20_ok (last : Dig) (text : List UInt8) (w : World) (hl : text.length ≤ 549755813888) (hG : Row w (some ⟨0, 0, none⟩) 0 0 64 1 (roots.map wv)) :
    Calls Tryd.prog 20 #[.agg last.cells.toArray, .string ⟨text.toArray⟩] w fun e w' => e = .returned (.agg (chain last text).cells.toArray) ∧ Fr [] w w' := by
  refine c_start (args := [.agg last.cells.toArray, .string ⟨text.toArray⟩]) Tryd.func20 rfl rfl rfl ?_
  try simp only [enum, Nat.zero_add, Nat.reduceAdd]
  have hF0 := Fr.refl [] w
  have lt_hG := hG.lt'
  refine c_seq ?_
  refine c_region ?_
  refine s_d (d_box (cs := last.cells) rfl rfl) rfl rfl ?_
  rintro _ w2 ⟨g1, rfl, hg5, b3, f4⟩
  have ne6 := row_ne_new hG hg5
  have nw7 := Nat.le_trans hF0.size hg5
  replace hG := hG.fr0 f4
  have hF8 := hF0.then0 f4
  refine s_d (d_alloc (cs := Dig.zero.cells) T.zero26 rfl) rfl rfl ?_
  rintro _ w10 ⟨g9, rfl, hg13, b11, f12⟩
  have ne14 := row_ne_new hG hg13
  have ne15 : g1 ≠ g9 := Nat.ne_of_lt (Nat.lt_of_lt_of_le b3.lt hg13)
  have nw16 := Nat.le_trans hF8.size hg13
  replace hG := hG.fr0 f12
  replace b3 := b3.fr0 f12
  have hF17 := hF8.then0 f12
  refine s_nil ?_
  refine n_then ?_
  refine c_seq ?_
  refine c_region ?_
  refine s_y (y_move rfl) rfl rfl ?_
  refine s_y (y_lenS Tryd.underlying9 rfl) rfl rfl ?_
  refine s_y (y_assign rfl) rfl rfl ?_
  refine s_nil ?_
  refine n_then ?_
  refine c_seq ?_
  refine c_region ?_
  refine s_d (d_sliceArr Tryd.underlying26 rfl ⟨_, _, T.ty5⟩) rfl rfl ?_
  rintro _ _ ⟨rfl, rfl⟩
  have r18 := Row.of_blk (n := 32) (k := 1) b3 (by simp [Dig.len])
  refine s_y (y_move rfl) rfl rfl ?_
  refine s_y (y_shr (r := ↑text.length / 16777216) rfl rfl (by decide) (shrI24 _ (by omega))) rfl rfl ?_
  refine s_y (y_conv (r := ↑(lowI (↑text.length / 16777216)).toNat) Tryd.underlying3 Tryd.underlying5 rfl (conv_lowI _)) rfl rfl ?_
  refine s_y (y_move rfl) rfl rfl ?_
  refine s_y (y_shr (r := ↑text.length / 65536) rfl rfl (by decide) (shrI16 _ (by omega))) rfl rfl ?_
  refine s_y (y_conv (r := ↑(lowI (↑text.length / 65536)).toNat) Tryd.underlying3 Tryd.underlying5 rfl (conv_lowI _)) rfl rfl ?_
  refine s_y (y_move rfl) rfl rfl ?_
  refine s_y (y_shr (r := ↑text.length / 256) rfl rfl (by decide) (shrI8 _ (by omega))) rfl rfl ?_
  refine s_y (y_conv (r := ↑(lowI (↑text.length / 256)).toNat) Tryd.underlying3 Tryd.underlying5 rfl (conv_lowI _)) rfl rfl ?_
  refine s_y (y_move rfl) rfl rfl ?_
  refine s_y (y_conv (r := ↑(lowI ↑text.length).toNat) Tryd.underlying3 Tryd.underlying5 rfl (conv_lowI _)) rfl rfl ?_
  have hlit19 := (T.lit4 (↑(lowI (↑text.length / 16777216)).toNat) (↑(lowI (↑text.length / 65536)).toNat) (↑(lowI (↑text.length / 256)).toNat) (↑(lowI ↑text.length).toNat))
  refine s_d (d_bs2 hlit19 ⟨rfl, rfl, rfl, rfl, rfl, rfl, rfl, rfl, trivial⟩) rfl rfl ?_
  rintro _ w21 ⟨g20, rfl, hg24, b22, f23⟩
  have ne25 := row_ne_new hG hg24
  have ne26 : g1 ≠ g20 := Nat.ne_of_lt (Nat.lt_of_lt_of_le b3.lt hg24)
  have ne27 : g9 ≠ g20 := Nat.ne_of_lt (Nat.lt_of_lt_of_le b11.lt hg24)
  have ne28 := row_ne_new r18 hg24
  have nw29 := Nat.le_trans hF17.size hg24
  replace hG := hG.fr0 f23
  replace b3 := b3.fr0 f23
  replace b11 := b11.fr0 f23
  replace r18 := r18.fr0 f23
  have hF30 := hF17.then0 f23
  have o31 := Own.of_blk (n := 4) (k := 1) b22 rfl (by decide)
  refine s_y (y_move rfl) rfl rfl ?_
  refine s_d (d_sbytes Tryd.underlying9 Tryd.underlying64 Tryd.underlying5 rfl) rfl rfl ?_
  rintro _ w34 ⟨g32, c33, rfl, hg37, r35, f36, hl38, hc39⟩
  have ne40 := row_ne_new hG hg37
  have ne41 : g1 ≠ g32 := Nat.ne_of_lt (Nat.lt_of_lt_of_le b3.lt hg37)
  have ne42 : g9 ≠ g32 := Nat.ne_of_lt (Nat.lt_of_lt_of_le b11.lt hg37)
  have ne43 := row_ne_new r18 hg37
  have ne44 := o31.ne_new hg37
  have nw45 := Nat.le_trans hF30.size hg37
  replace hG := hG.fr0 f36
  replace b3 := b3.fr0 f36
  replace b11 := b11.fr0 f36
  replace r18 := r18.fr0 f36
  replace o31 := o31.fr0 f36
  have hF46 := hF30.then0 f36
  have hlit47 := (T.lit5 (some ⟨g1, 0, none⟩) 32 32 (some ⟨g20, 0, none⟩) 4 4 (some ⟨g32, 0, none⟩) text.length c33)
  refine s_d (d_bs2 hlit47 ⟨rfl, rfl, rfl, rfl, rfl, rfl, trivial⟩) rfl rfl ?_
  rintro _ w49 ⟨g48, rfl, hg52, b50, f51⟩
  have ne53 := row_ne_new hG hg52
  have ne54 : g1 ≠ g48 := Nat.ne_of_lt (Nat.lt_of_lt_of_le b3.lt hg52)
  have ne55 : g9 ≠ g48 := Nat.ne_of_lt (Nat.lt_of_lt_of_le b11.lt hg52)
  have ne56 := row_ne_new r18 hg52
  have ne57 := o31.ne_new hg52
  have ne58 := row_ne_new r35 hg52
  have nw59 := Nat.le_trans hF46.size hg52
  replace hG := hG.fr0 f51
  replace b3 := b3.fr0 f51
  replace b11 := b11.fr0 f51
  replace r18 := r18.fr0 f51
  replace o31 := o31.fr0 f51
  replace r35 := r35.fr0 f51
  replace hl38 := Nat.lt_of_lt_of_le hl38 f51.size
  have hF60 := hF46.then0 f51
  have o61 := Own.of_blk (n := 3) (k := 1) b50 rfl (by decide)
  have hP : Parts w49.heap.size w49 [⟨some ⟨g1, 0, none⟩, g1, 0, 32, last.l⟩, ⟨some ⟨g20, 0, none⟩, g20, 0, 4, len4 text.length⟩, ⟨some ⟨g32, 0, none⟩, g32, 0, c33, text⟩] := by
    intro p hp
    simp only [List.mem_cons, List.not_mem_nil, or_false] at hp
    rcases hp with rfl | rfl | rfl
    · exact ⟨b3.lt, by show Row _ _ _ _ last.l.length 1 (last.l.map bv); rw [last.h]; exact r18⟩
    · exact ⟨o31.lt.resolve_left (by simp), o31.row⟩
    · exact ⟨hl38, r35⟩
  have hrw : Row w49 (some ⟨g48, 0, none⟩) g48 0 3 1 (([⟨some ⟨g1, 0, none⟩, g1, 0, 32, last.l⟩, ⟨some ⟨g20, 0, none⟩, g20, 0, 4, len4 text.length⟩, ⟨some ⟨g32, 0, none⟩, g32, 0, c33, text⟩] : List Part).map Part.v) := by have h := o61.row; simpa [Part.v, last.h, len4] using h
  have hmx : ∀ p, p ∈ ([⟨some ⟨g1, 0, none⟩, g1, 0, 32, last.l⟩, ⟨some ⟨g20, 0, none⟩, g20, 0, 4, len4 text.length⟩, ⟨some ⟨g32, 0, none⟩, g32, 0, c33, text⟩] : List Part) → p.b.length ≤ 549755813888 := by
    intro p hp
    simp only [List.mem_cons, List.not_mem_nil, or_false] at hp
    rcases hp with rfl | rfl | rfl
    · show last.l.length ≤ _; rw [last.h]; decide
    · exact (by decide : 4 ≤ 549755813888)
    · exact hl
  have hch : (Dg.adds [⟨some ⟨g1, 0, none⟩, g1, 0, 32, last.l⟩, ⟨some ⟨g20, 0, none⟩, g20, 0, 4, len4 text.length⟩, ⟨some ⟨g32, 0, none⟩, g32, 0, c33, text⟩]).sum = chain last text := chain_adds _ _ _ _ _ rfl rfl rfl
  have hcall := sum32_ok _ _ _ 3 [⟨some ⟨g1, 0, none⟩, g1, 0, 32, last.l⟩, ⟨some ⟨g20, 0, none⟩, g20, 0, 4, len4 text.length⟩, ⟨some ⟨g32, 0, none⟩, g32, 0, c33, text⟩] _ (by simp) hmx hrw hP hG
  rw [hch] at hcall
  refine s_d (d_callR T.ent32 (vs := [.slice (some ⟨g48, 0, none⟩) 3 3]) rfl (hcall) (by rintro e w' ⟨rfl, -⟩; exact ⟨_, rfl⟩)) rfl rfl ?_
  rintro v64 w62 ⟨hv65, f63⟩
  obtain rfl := ret_inj hv65
  replace hG := hG.fr0 f63
  replace b3 := b3.fr0 f63
  replace b11 := b11.fr0 f63
  replace r18 := r18.fr0 f63
  replace o31 := o31.fr0 f63
  replace r35 := r35.fr0 f63
  replace hl38 := Nat.lt_of_lt_of_le hl38 f63.size
  replace o61 := o61.fr0 f63
  have hF66 := hF60.then0 f63
  refine s_d (d_store (cs := ((chain last text).cells)) (l' := ((chain last text).cells)) T.ty26 rfl rfl b11 rfl (by simp [Dig.len]) (ones (by simp [all_bv, all_u32, all_ent, all_dig, all_ents])) (by simp [Dig.len, Dig.len]) (setL_all (by simp [Dig.len, Dig.len]))) rfl rfl ?_
  rintro _ w67 ⟨rfl, b68, f69⟩
  replace hG := hG.fr1 f69 ne14
  replace b3 := b3.fr1 f69 ne15
  replace r18 := r18.fr1 f69 (.inr ne15)
  replace o31 := o31.fr1 f69 (.inr (Ne.symm ne27))
  replace r35 := r35.fr1 f69 (.inr ne42.symm)
  replace hl38 := Nat.lt_of_lt_of_le hl38 f69.size
  replace o61 := o61.fr1 f69 (.inr (Ne.symm ne55))
  clear b11
  have hF70 := hF66.thenNew f69 nw16
  refine s_nil ?_
  refine n_then ?_
  refine c_ret ?_
  refine fin1 (by simp) rfl (rv_A (xs := ((chain last text).cells)) T.ty26 rfl b68 (by simp [Dig.len]) (take_all _ (by simp [Dig.len]))) ?_
  exact ⟨rfl, hF70⟩

end Go.Proofs.YtojbephcahnbbaaDoor
