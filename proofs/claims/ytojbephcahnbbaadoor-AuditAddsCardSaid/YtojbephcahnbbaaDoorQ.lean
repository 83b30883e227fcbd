/- The audit log: the chapter's example. No condition. -/
import Derived.Test.YtojbephcahnbbaaDoorP
import Derived.Test.YtojbephcahnbbaaDoorH
import Derived.Test.YtojbephcahnbbaaDoorQT
import Derived.Test.YtojbephcahnbbaaDoorProg
set_option linter.unusedVariables false
set_option linter.unusedSimpArgs false
namespace Go.Proofs.YtojbephcahnbbaaDoor
open Go Go.Proofs.GP Go.Proofs.Tryd
set_option maxRecDepth 100000 in
theorem works15_ok  (w : World) (hG : Gl w) :
    Calls Tryd.prog 15 #[] w fun e w' => e = .returned (.bool true) ∧ Fr [] w w' := by
  have hz4 : 4 ≤ w.heap.size := hG.s
  refine c_start (args := []) Tryd.func15 rfl rfl rfl ?_
  try simp only [enum, Nat.zero_add, Nat.reduceAdd]
  have hF0 := Fr.refl [] w
  refine c_seq ?_
  refine c_region ?_
  refine s_y (y_assign rfl) rfl rfl ?_
  refine s_nil ?_
  refine n_then ?_
  refine c_seq ?_
  refine c_region ?_
  refine s_d (d_callR T.ent7 (vs := []) rfl (new7_ok _) (by rintro e w' ⟨_, rfl, -⟩; exact ⟨_, rfl⟩)) rfl rfl ?_
  rintro v6 w4 ⟨p1, hv7, f5, hp2, bl3⟩
  obtain rfl := ret_inj hv7
  have nw8 := Nat.le_trans hF0.size hp2
  replace hG := hG.fr0 f5
  have hF9 := hF0.then0 f5
  refine s_y (y_assign rfl) rfl rfl ?_
  refine s_nil ?_
  refine n_then ?_
  refine c_seq ?_
  refine c_seq ?_
  refine c_region ?_
  refine s_y (y_move rfl) rfl rfl ?_
  refine s_y (y_pn Tryd.underlying23 rfl rfl) rfl rfl ?_
  refine s_nil ?_
  refine n_then ?_
  refine c_false rfl ?_
  refine c_skip ?_
  refine n_then ?_
  refine c_seq ?_
  refine c_region ?_
  refine s_y (y_move rfl) rfl rfl ?_
  have hlt10 := bl3.lt
  have hc11 := add9_ok p1 (p1 + 1 + w4.heap.size) 0 none [] 5 ([120] : List UInt8) _ (by omega) (by omega) (by first | decide | omega | (simp; omega)) (by first | decide | omega) (by omega) (by omega) bl3 (Own.nil _ (p1 + 1 + w4.heap.size) 28 34) hG
  rw [addW1] at hc11
  refine s_d (d_callR T.ent9 (vs := [.pointer (some ⟨p1, 0, none⟩), .int .i64 5, .string ⟨([120] : List UInt8).toArray⟩]) rfl (hc11) (by rintro e w' ⟨_, _, _, rfl, -⟩; exact ⟨_, rfl⟩)) rfl rfl ?_
  rintro v20 w18 ⟨A12, g13, c14, hv21, f19, bl15, ow16, wh17⟩
  obtain rfl := ret_inj hv21
  replace hG := hG.fr f19 (by simp; omega)
  have hF22 := hF9.trans f19 (by simp; omega)
  have hsz28 := hF9.size
  obtain ⟨g23, ow24, hg25, hq27, hn26⟩ := own_pick4 (w0 := w) ow16 (by rcases wh17 with h | h | h; exact .inl h; exact .inr (by simp at h; omega); exact .inr (by omega)) hF22.size 0 (by rcases wh17 with h | h | h; exact .inl h; exact .inr (by simp at h; omega); exact .inr (by omega))
  replace bl15 : Blk w18 p1 39 [.slice A12 (([xW]).length) c14, .bool true] := bl15
  replace ow24 : Own w18 A12 g23 ([xW].length) c14 28 34 (ents [xW]) := ow24
  have ne29 : g23 ≠ p1 := hn26 _ _ _ bl15 (.inl (by decide))
  refine s_y (y_move rfl) rfl rfl ?_
  refine s_y (y_extract rfl rfl) rfl rfl ?_
  refine s_y (y_extract rfl rfl) rfl rfl ?_
  refine s_d (d_alloc (cs := ([.int .i64 0, .string ⟨([] : List UInt8).toArray⟩] : List Value) ++ Dig.zero.cells) T.zero28 rfl) rfl rfl ?_
  rintro _ w31 ⟨g30, rfl, hg34, b32, f33⟩
  have ne35 : p1 ≠ g30 := Nat.ne_of_lt (Nat.lt_of_lt_of_le bl15.lt hg34)
  have ne36 := ow24.ne_new hg34
  have nw37 := Nat.le_trans hF22.size hg34
  replace hG := hG.fr0 f33
  replace bl15 := bl15.fr0 f33
  replace ow24 := ow24.fr0 f33
  have hF38 := hF22.then0 f33
  refine s_d (d_store (cs := xW.cells) (l' := xW.cells) T.ty28 rfl rfl b32 rfl (by simp [Ent.len]) (ones (by simp [all_bv, all_u32, all_ent, all_dig, all_ents])) (by simp [Dig.len, Ent.len]) (setL_all (by simp [Dig.len, Ent.len]))) rfl rfl ?_
  rintro _ w39 ⟨rfl, b40, f41⟩
  replace hG := hG.fr f41 (by simp; omega)
  replace bl15 := bl15.fr1 f41 ne35
  replace ow24 := ow24.fr1 f41 ne36
  clear b32
  have hF42 := hF38.thenNew f41 nw37
  replace b40 : Blk w39 g30 28 (([.int .i64 5, .string ⟨([120] : List UInt8).toArray⟩] : List Value) ++ ((chain Dig.zero ([53, 32, 120] : List UInt8)).cells)) := b40
  refine s_y (y_assign rfl) rfl rfl ?_
  refine s_nil ?_
  refine n_then ?_
  refine c_seq ?_
  refine c_region ?_
  refine s_y (y_move rfl) rfl rfl ?_
  obtain ⟨g43, ow44, hg45, hq46, hn47⟩ := own_pick5 (w0 := w) ow24 (.inr (by omega)) hF42.size 0 0 (.inr (by omega)) (.inr (by omega))
  have ne48 : g43 ≠ p1 := hn47 _ _ _ bl15 (.inl (by decide))
  have ne49 : g43 ≠ g30 := hn47 _ _ _ b40 (.inr ne36)
  have hlt50 := bl15.lt
  have hlt51 := b40.lt
  have hc52 := add9_ok p1 g43 c14 A12 [xW] 4 ([121] : List UInt8) _ (by omega) (by omega) (by first | decide | omega | (simp; omega)) (by first | decide | omega) (by omega) (by omega) bl15 ow44 hG
  rw [addW2] at hc52
  refine s_d (d_callR T.ent9 (vs := [.pointer (some ⟨p1, 0, none⟩), .int .i64 4, .string ⟨([121] : List UInt8).toArray⟩]) rfl (hc52) (by rintro e w' ⟨_, _, _, rfl, -⟩; exact ⟨_, rfl⟩)) rfl rfl ?_
  rintro v61 w59 ⟨A53, g54, c55, hv62, f60, bl56, ow57, wh58⟩
  obtain rfl := ret_inj hv62
  replace hG := hG.fr f60 (by simp; omega)
  replace b40 := b40.fr f60 (by simp only [List.mem_cons, List.not_mem_nil, or_false, not_or]; exact ⟨ne35.symm, ne49.symm⟩)
  have hF63 := hF42.trans f60 (by simp; omega)
  have hsz69 := hF42.size
  obtain ⟨g64, ow65, hg66, hq68, hn67⟩ := own_pick4 (w0 := w) ow57 (by rcases wh58 with h | h | h; exact .inl h; exact .inr (by simp at h; omega); exact .inr (by omega)) hF63.size 0 (by rcases wh58 with h | h | h; exact .inl h; exact .inr (by simp at h; omega); exact .inr (by omega))
  replace bl56 : Blk w59 p1 39 [.slice A53 (([xW]).length) c55, .bool true] := bl56
  replace ow65 : Own w59 A53 g64 ([xW].length) c55 28 34 (ents [xW]) := ow65
  have ne70 : g64 ≠ g30 := hn67 _ _ _ b40 (.inr (by rcases wh58 with h | h | h; exact .inl h; exact .inr (by simp at h; omega); exact .inr (by omega)))
  have ne71 : g64 ≠ p1 := hn67 _ _ _ bl56 (.inl (by decide))
  refine s_y (y_move rfl) rfl rfl ?_
  refine s_y (y_extract rfl rfl) rfl rfl ?_
  refine s_y (y_extract rfl rfl) rfl rfl ?_
  refine s_d (d_alloc (cs := ([.int .i64 0, .string ⟨([] : List UInt8).toArray⟩] : List Value) ++ Dig.zero.cells) T.zero28 rfl) rfl rfl ?_
  rintro _ w73 ⟨g72, rfl, hg76, b74, f75⟩
  have ne77 : g30 ≠ g72 := Nat.ne_of_lt (Nat.lt_of_lt_of_le b40.lt hg76)
  have ne78 : p1 ≠ g72 := Nat.ne_of_lt (Nat.lt_of_lt_of_le bl56.lt hg76)
  have ne79 := ow65.ne_new hg76
  have nw80 := Nat.le_trans hF63.size hg76
  replace hG := hG.fr0 f75
  replace b40 := b40.fr0 f75
  replace bl56 := bl56.fr0 f75
  replace ow65 := ow65.fr0 f75
  have hF81 := hF63.then0 f75
  refine s_d (d_store (cs := Ent.zero.cells) (l' := Ent.zero.cells) T.ty28 rfl rfl b74 rfl (by simp [Ent.len]) (ones (by simp [all_bv, all_u32, all_ent, all_dig, all_ents])) (by simp [Dig.len, Ent.len]) (setL_all (by simp [Dig.len, Ent.len]))) rfl rfl ?_
  rintro _ w82 ⟨rfl, b83, f84⟩
  replace hG := hG.fr f84 (by simp; omega)
  replace b40 := b40.fr1 f84 ne77
  replace bl56 := bl56.fr1 f84 ne78
  replace ow65 := ow65.fr1 f84 ne79
  clear b74
  have hF85 := hF81.thenNew f84 nw80
  refine s_y (y_assign rfl) rfl rfl ?_
  refine s_nil ?_
  refine n_then ?_
  refine c_seq ?_
  refine dr_begin (fun W => Blk W g30 28 (([.int .i64 5, .string ⟨([120] : List UInt8).toArray⟩] : List Value) ++ ((chain Dig.zero ([53, 32, 120] : List UInt8)).cells)) ∧ Blk W p1 39 [.slice A53 (([xW]).length) c55, .bool true] ∧ Own W A53 g64 ([xW].length) c55 28 34 (ents [xW]) ∧ Blk W g72 28 Ent.zero.cells) 31 (by kernel_rfl) ?_
  intro w86 f87
  replace hG := hG.fr0 f87
  replace b40 := b40.fr0 f87
  replace bl56 := bl56.fr0 f87
  replace ow65 := ow65.fr0 f87
  replace b83 := b83.fr0 f87
  have hF88 := hF85.then0 f87
  refine dr_y 0 rfl (fun _ => y_move rfl) rfl (by kernel_rfl) (qp_then qp_body) (fun _ => ⟨b40, bl56, ow65, b83⟩) ?_
  refine dr_y 1 rfl (fun _ => y_eql (r := true) rfl rfl rfl) rfl (by kernel_rfl) (qp_then qp_body) (fun _ => ⟨b40, bl56, ow65, b83⟩) ?_
  refine dr_y 2 rfl (fun _ => y_move rfl) rfl (by kernel_rfl) (qp_then qp_body) (fun _ => ⟨b40, bl56, ow65, b83⟩) ?_
  refine dr_gy 3 rfl (fun _ => y_move rfl) ⟨_, _, _, _, rfl, rfl, rfl, rfl⟩ (by kernel_rfl) (qp_then qp_body) (fun _ => ⟨b40, bl56, ow65, b83⟩) ?_
  refine dr_gy 4 rfl (fun _ => y_eql (r := true) rfl rfl rfl) ⟨_, _, _, _, rfl, rfl, rfl, rfl⟩ (by kernel_rfl) (qp_then qp_body) (fun _ => ⟨b40, bl56, ow65, b83⟩) ?_
  refine dr_y 5 rfl (fun _ => y_pick rfl rfl rfl rfl) rfl (by kernel_rfl) (qp_then qp_body) (fun _ => ⟨b40, bl56, ow65, b83⟩) ?_
  refine dr_y 6 rfl (fun _ => y_move rfl) rfl (by kernel_rfl) (qp_then qp_body) (fun _ => ⟨b40, bl56, ow65, b83⟩) ?_
  refine dr_gy 7 rfl (fun _ => y_field rfl T.fld28_0 rfl) ⟨_, _, _, _, rfl, rfl, rfl, rfl⟩ (by kernel_rfl) (qp_then qp_body) (fun _ => ⟨b40, bl56, ow65, b83⟩) ?_
  refine dr_gl 8 rfl (fun _ hS => by obtain ⟨q0, q1, q2, q3⟩ := hS; exact y_ldB (v := .int .i64 5) T.ty3 rfl q0 rfl) ⟨_, _, _, _, rfl, rfl, rfl, rfl⟩ (by kernel_rfl) (qp_then qp_body) ⟨b40, bl56, ow65, b83⟩ ?_
  refine dr_gy 9 rfl (fun _ => y_eql (r := true) rfl rfl rfl) ⟨_, _, _, _, rfl, rfl, rfl, rfl⟩ (by kernel_rfl) (qp_then qp_body) (fun _ => ⟨b40, bl56, ow65, b83⟩) ?_
  refine dr_y 10 rfl (fun _ => y_pick rfl rfl rfl rfl) rfl (by kernel_rfl) (qp_then qp_body) (fun _ => ⟨b40, bl56, ow65, b83⟩) ?_
  refine dr_y 11 rfl (fun _ => y_move rfl) rfl (by kernel_rfl) (qp_then qp_body) (fun _ => ⟨b40, bl56, ow65, b83⟩) ?_
  refine dr_gy 12 rfl (fun _ => y_field rfl T.fld28_1 rfl) ⟨_, _, _, _, rfl, rfl, rfl, rfl⟩ (by kernel_rfl) (qp_then qp_body) (fun _ => ⟨b40, bl56, ow65, b83⟩) ?_
  refine dr_gl 13 rfl (fun _ hS => by obtain ⟨q0, q1, q2, q3⟩ := hS; exact y_ldB (v := .string ⟨([120] : List UInt8).toArray⟩) T.ty9 rfl q0 rfl) ⟨_, _, _, _, rfl, rfl, rfl, rfl⟩ (by kernel_rfl) (qp_then qp_body) ⟨b40, bl56, ow65, b83⟩ ?_
  refine dr_gy 14 rfl (fun _ => y_seql (r := true) rfl rfl (by simp)) ⟨_, _, _, _, rfl, rfl, rfl, rfl⟩ (by kernel_rfl) (qp_then qp_body) (fun _ => ⟨b40, bl56, ow65, b83⟩) ?_
  refine dr_y 15 rfl (fun _ => y_pick rfl rfl rfl rfl) rfl (by kernel_rfl) (qp_then qp_body) (fun _ => ⟨b40, bl56, ow65, b83⟩) ?_
  refine dr_y 16 rfl (fun _ => y_move rfl) rfl (by kernel_rfl) (qp_then qp_body) (fun _ => ⟨b40, bl56, ow65, b83⟩) ?_
  refine dr_gy 17 rfl (fun _ => y_field rfl T.fld28_2 rfl) ⟨_, _, _, _, rfl, rfl, rfl, rfl⟩ (by kernel_rfl) (qp_then qp_body) (fun _ => ⟨b40, bl56, ow65, b83⟩) ?_
  refine dr_gl 18 rfl (fun _ hS => by obtain ⟨q0, q1, q2, q3⟩ := hS; exact y_ldBA (xs := ((chain Dig.zero ([53, 32, 120] : List UInt8)).cells)) T.ty26 rfl q0 (by simp [Dig.len]) (take_all ((chain Dig.zero ([53, 32, 120] : List UInt8)).cells) (by simp [Dig.len]))) ⟨_, _, _, _, rfl, rfl, rfl, rfl⟩ (by kernel_rfl) (qp_then qp_body) ⟨b40, bl56, ow65, b83⟩ ?_
  refine dr_gy 19 rfl (fun _ => y_build (vs := []) rfl (T.bz26 _)) ⟨_, _, _, _, rfl, rfl, rfl, rfl⟩ (by kernel_rfl) (qp_then qp_body) (fun _ => ⟨b40, bl56, ow65, b83⟩) ?_
  refine dr_1 (i := 20) (by kernel_rfl) ?_
  refine rd_gd rfl (d_callR T.ent20 (vs := [.agg Dig.zero.cells.toArray, .string ⟨([53, 32, 120] : List UInt8).toArray⟩]) rfl (chain20_ok Dig.zero ([53, 32, 120] : List UInt8) _ (by first | decide | omega) hG.r) (by rintro e w' ⟨rfl, -⟩; exact ⟨_, rfl⟩)) ⟨_, _, _, _, rfl, rfl, rfl, rfl⟩ rfl ?_
  rintro v91 w89 ⟨hv92, f90⟩
  obtain rfl := ret_inj hv92
  replace hG := hG.fr0 f90
  replace b40 := b40.fr0 f90
  replace bl56 := bl56.fr0 f90
  replace ow65 := ow65.fr0 f90
  replace b83 := b83.fr0 f90
  have hF93 := hF88.then0 f90
  refine ⟨fun _ => ⟨b40, bl56, ow65, b83⟩, ?_⟩
  refine dr_gy 21 rfl (fun _ => y_eqA (r := true) (eq26 (chain Dig.zero ([53, 32, 120] : List UInt8)) (chain Dig.zero ([53, 32, 120] : List UInt8))) rfl rfl (by rw [decide_eq_true rfl])) ⟨_, _, _, _, rfl, rfl, rfl, rfl⟩ (by kernel_rfl) (qp_then qp_body) (fun _ => ⟨b40, bl56, ow65, b83⟩) ?_
  refine dr_y 22 rfl (fun _ => y_pick rfl rfl rfl rfl) rfl (by kernel_rfl) (qp_then qp_body) (fun _ => ⟨b40, bl56, ow65, b83⟩) ?_
  refine dr_y 23 rfl (fun _ => y_move rfl) rfl (by kernel_rfl) (qp_then qp_body) (fun _ => ⟨b40, bl56, ow65, b83⟩) ?_
  refine dr_gy 24 rfl (fun _ => y_move rfl) ⟨_, _, _, _, rfl, rfl, rfl, rfl⟩ (by kernel_rfl) (qp_then qp_body) (fun _ => ⟨b40, bl56, ow65, b83⟩) ?_
  refine dr_gy 26 rfl (fun _ => y_field rfl T.fld28_2 rfl) ⟨_, _, _, _, rfl, rfl, rfl, rfl⟩ (by kernel_rfl) (qp_then qp_body) (fun _ => ⟨b40, bl56, ow65, b83⟩) ?_
  refine dr_gl 27 rfl (fun _ hS => by obtain ⟨q0, q1, q2, q3⟩ := hS; exact y_ldBA (xs := ((chain Dig.zero ([53, 32, 120] : List UInt8)).cells)) T.ty26 rfl q0 (by simp [Dig.len]) (take_all ((chain Dig.zero ([53, 32, 120] : List UInt8)).cells) (by simp [Dig.len]))) ⟨_, _, _, _, rfl, rfl, rfl, rfl⟩ (by kernel_rfl) (qp_then qp_body) ⟨b40, bl56, ow65, b83⟩ ?_
  refine dr_1 (i := 25) (by kernel_rfl) ?_
  have hc94 := head_ok p1 g64 c55 A53 [xW] _ (by first | decide | omega) bl56 ow65
  rw [headW] at hc94
  refine rd_gd rfl (d_callR T.ent13 (vs := [.pointer (some ⟨p1, 0, none⟩)]) rfl (hc94) (by rintro e w' ⟨rfl, -⟩; exact ⟨_, rfl⟩)) ⟨_, _, _, _, rfl, rfl, rfl, rfl⟩ rfl ?_
  rintro v97 w95 ⟨hv98, f96⟩
  obtain rfl := ret_inj hv98
  replace hG := hG.fr0 f96
  replace b40 := b40.fr0 f96
  replace bl56 := bl56.fr0 f96
  replace ow65 := ow65.fr0 f96
  replace b83 := b83.fr0 f96
  have hF99 := hF93.then0 f96
  refine ⟨fun _ => ⟨b40, bl56, ow65, b83⟩, ?_⟩
  refine dr_gy 28 rfl (fun _ => y_eqA (eq26 xW.sum (chain Dig.zero ([53, 32, 120] : List UInt8))) rfl rfl rfl) ⟨_, _, _, _, rfl, rfl, rfl, rfl⟩ (by kernel_rfl) (qp_then qp_body) (fun _ => ⟨b40, bl56, ow65, b83⟩) ?_
  refine dr_y 29 rfl (fun _ => y_pick rfl rfl rfl rfl) rfl (by kernel_rfl) (qp_then qp_body) (fun _ => ⟨b40, bl56, ow65, b83⟩) ?_
  refine dr_y 30 rfl (fun _ => y_assign rfl) rfl (by kernel_rfl) (qp_then qp_body) (fun _ => ⟨b40, bl56, ow65, b83⟩) ?_
  refine dr_done (by kernel_rfl) ?_
  refine n_then ?_
  refine c_ret ?_
  refine fin1 (by simp) rfl rfl ?_
  exact ⟨rfl, hF99⟩

end Go.Proofs.YtojbephcahnbbaaDoor
