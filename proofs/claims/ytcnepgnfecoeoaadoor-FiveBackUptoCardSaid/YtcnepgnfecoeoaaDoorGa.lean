/- Errors as chains. No condition. -/
import Derived.Test.YtcnepgnfecoeoaaDoorF
import Derived.Test.YtcnepgnfecoeoaaDoorGMem4
import Derived.Test.YtcnepgnfecoeoaaDoorGaT
import Derived.Test.YtcnepgnfecoeoaaDoorProg
set_option linter.unusedVariables false
set_option linter.unusedSimpArgs false
namespace Go.Proofs.YtcnepgnfecoeoaaDoor
open Go Go.Proofs.GP Go.Proofs.Tryd
set_option maxHeartbeats 8000000 in
set_option maxRecDepth 100000 in
theorem of_no  (w : World) :
    Calls Tryd.prog 64 #[.nilIface] w fun e w' => e = .returned (.tuple #[.agg [.int .i64 Er.no.N, .string ⟨Er.no.l0.toArray⟩, .string ⟨Er.no.l1.toArray⟩, .string ⟨([] : List UInt8).toArray⟩, .string ⟨([] : List UInt8).toArray⟩, .int .i64 Er.no.a0, .int .i64 Er.no.a1, .int .i64 0, .int .i64 0, .int .i64 Er.no.c].toArray, .bool true]) ∧ Fr [] w w' := by
  refine c_start (args := [.nilIface]) Tryd.func64 rfl rfl rfl ?_
  try simp only [enum, Nat.zero_add, Nat.reduceAdd]
  have hF0 := Fr.refl [] w
  refine c_seq ?_
  refine c_region ?_
  refine s_d (d_alloc (cs := [.int .i64 0, .string ⟨[].toArray⟩, .string ⟨[].toArray⟩, .string ⟨[].toArray⟩, .string ⟨[].toArray⟩, .int .i64 0, .int .i64 0, .int .i64 0, .int .i64 0, .int .i64 0]) T.zero41 rfl) rfl rfl ?_
  rintro _ w2 ⟨g1, rfl, hg5, b3, f4⟩
  have nw6 := Nat.le_trans hF0.size hg5
  have hF7 := hF0.then0 f4
  refine s_y (y_assign rfl) rfl rfl ?_
  refine s_nil ?_
  refine n_then ?_
  refine c_seq ?_
  refine c_region ?_
  refine s_y (y_build (vs := []) rfl (T.bz41 _)) rfl rfl ?_
  refine s_d (d_alloc (cs := [.int .i64 0, .string ⟨[].toArray⟩, .string ⟨[].toArray⟩, .string ⟨[].toArray⟩, .string ⟨[].toArray⟩, .int .i64 0, .int .i64 0, .int .i64 0, .int .i64 0, .int .i64 0]) T.zero41 rfl) rfl rfl ?_
  rintro _ w9 ⟨g8, rfl, hg12, b10, f11⟩
  have ne13 : g1 ≠ g8 := Nat.ne_of_lt (Nat.lt_of_lt_of_le b3.lt hg12)
  have nw14 := Nat.le_trans hF7.size hg12
  replace b3 := b3.fr0 f11
  have hF15 := hF7.then0 f11
  refine s_d (d_store (cs := [.int .i64 0, .string ⟨[].toArray⟩, .string ⟨[].toArray⟩, .string ⟨[].toArray⟩, .string ⟨[].toArray⟩, .int .i64 0, .int .i64 0, .int .i64 0, .int .i64 0, .int .i64 0]) (l' := [.int .i64 0, .string ⟨[].toArray⟩, .string ⟨[].toArray⟩, .string ⟨[].toArray⟩, .string ⟨[].toArray⟩, .int .i64 0, .int .i64 0, .int .i64 0, .int .i64 0, .int .i64 0]) T.ty41 rfl rfl b10 rfl rfl (ones rfl) (Nat.le_of_ble_eq_true rfl) rfl) rfl rfl ?_
  rintro _ w16 ⟨rfl, b17, f18⟩
  replace b3 := b3.fr1 f18 ne13
  clear b10
  have hF19 := hF15.thenNew f18 nw14
  refine s_nil ?_
  refine n_then ?_
  refine c_seq ?_
  refine c_block ?_
  refine c_unroll ?_
  refine c_seq ?_
  refine c_seq ?_
  refine c_region ?_
  refine s_y (y_move rfl) rfl rfl ?_
  refine s_y (y_iix Tryd.underlying31 rfl) rfl rfl ?_
  refine s_nil ?_
  refine n_then ?_
  refine c_false rfl ?_
  refine c_exit ?_
  refine x_then ?_
  refine x_then ?_
  refine x_hit ?_
  refine n_then ?_
  refine c_seq ?_
  refine dr_begin (fun W => Blk W g8 41 [.int .i64 0, .string ⟨[].toArray⟩, .string ⟨[].toArray⟩, .string ⟨[].toArray⟩, .string ⟨[].toArray⟩, .int .i64 0, .int .i64 0, .int .i64 0, .int .i64 0, .int .i64 0]) 6 (by kernel_rfl) ?_
  intro w20 f21
  replace b3 := b3.fr0 f21
  replace b17 := b17.fr0 f21
  have hF22 := hF19.then0 f21
  refine dr_l 0 rfl (fun _ hS => by have q0 := hS; exact y_ldBA (xs := [.int .i64 0, .string ⟨[].toArray⟩, .string ⟨[].toArray⟩, .string ⟨[].toArray⟩, .string ⟨[].toArray⟩, .int .i64 0, .int .i64 0, .int .i64 0, .int .i64 0, .int .i64 0]) T.ty41 rfl q0 rfl rfl) rfl (by kernel_rfl) (qp_then qp_body) b17 ?_
  refine dr_y 1 rfl (fun _ => y_field rfl T.fld41_0 rfl) rfl (by kernel_rfl) (qp_then qp_body) (fun _ => b17) ?_
  refine dr_l 2 rfl (fun _ hS => by have q0 := hS; exact y_ldB T.ty3 rfl q0 rfl) rfl (by kernel_rfl) (qp_then qp_body) b17 ?_
  refine dr_y 3 rfl (fun _ => y_eql (r := true) rfl rfl rfl) rfl (by kernel_rfl) (qp_then qp_body) (fun _ => b17) ?_
  refine dr_1 (i := 4) (by kernel_rfl) ?_
  refine rd_d rfl (d_store (cs := [.int .i64 0, .string ⟨[].toArray⟩, .string ⟨[].toArray⟩, .string ⟨[].toArray⟩, .string ⟨[].toArray⟩, .int .i64 0, .int .i64 0, .int .i64 0, .int .i64 0, .int .i64 0]) (l' := [.int .i64 0, .string ⟨[].toArray⟩, .string ⟨[].toArray⟩, .string ⟨[].toArray⟩, .string ⟨[].toArray⟩, .int .i64 0, .int .i64 0, .int .i64 0, .int .i64 0, .int .i64 0]) T.ty41 rfl rfl b3 rfl rfl (ones rfl) (Nat.le_of_ble_eq_true rfl) rfl) rfl rfl ?_
  rintro _ w23 ⟨rfl, b24, f25⟩
  replace b17 := b17.fr1 f25 ne13.symm
  clear b3
  have hF26 := hF22.thenNew f25 nw6
  refine ⟨fun _ => b17, ?_⟩
  refine dr_y 5 rfl (fun _ => y_assign rfl) rfl (by kernel_rfl) (qp_then qp_body) (fun _ => b17) ?_
  refine dr_done (by kernel_rfl) ?_
  refine n_then ?_
  refine c_ret ?_
  refine fin2 (by simp) rfl (rv_A (xs := [.int .i64 0, .string ⟨[].toArray⟩, .string ⟨[].toArray⟩, .string ⟨[].toArray⟩, .string ⟨[].toArray⟩, .int .i64 0, .int .i64 0, .int .i64 0, .int .i64 0, .int .i64 0]) T.ty41 rfl b24 rfl rfl) rfl ?_
  exact ⟨rfl, hF26⟩

set_option maxHeartbeats 8000000 in
set_option maxRecDepth 100000 in
theorem of_1 (g : Nat) (l : By) (a c : Int) (w : World) (h0 : Blk w g 138 [.string ⟨l.toArray⟩, .int .i64 a, .iface 39 (.int .i64 c)]) :
    Calls Tryd.prog 64 #[.iface 136 (.pointer (some ⟨g, 0, none⟩))] w fun e w' => e = .returned (.tuple #[.agg [.int .i64 (Er.one l a c).N, .string ⟨(Er.one l a c).l0.toArray⟩, .string ⟨(Er.one l a c).l1.toArray⟩, .string ⟨([] : List UInt8).toArray⟩, .string ⟨([] : List UInt8).toArray⟩, .int .i64 (Er.one l a c).a0, .int .i64 (Er.one l a c).a1, .int .i64 0, .int .i64 0, .int .i64 (Er.one l a c).c].toArray, .bool true]) ∧ Fr [] w w' := by
  refine c_start (args := [.iface 136 (.pointer (some ⟨g, 0, none⟩))]) Tryd.func64 rfl rfl rfl ?_
  try simp only [enum, Nat.zero_add, Nat.reduceAdd]
  have hF0 := Fr.refl [] w
  have lt_h0 := h0.lt
  refine c_seq ?_
  refine c_region ?_
  refine s_d (d_alloc (cs := [.int .i64 0, .string ⟨[].toArray⟩, .string ⟨[].toArray⟩, .string ⟨[].toArray⟩, .string ⟨[].toArray⟩, .int .i64 0, .int .i64 0, .int .i64 0, .int .i64 0, .int .i64 0]) T.zero41 rfl) rfl rfl ?_
  rintro _ w2 ⟨g1, rfl, hg5, b3, f4⟩
  have ne6 : g ≠ g1 := Nat.ne_of_lt (Nat.lt_of_lt_of_le h0.lt hg5)
  have nw7 := Nat.le_trans hF0.size hg5
  replace h0 := h0.fr0 f4
  have hF8 := hF0.then0 f4
  refine s_y (y_assign rfl) rfl rfl ?_
  refine s_nil ?_
  refine n_then ?_
  refine c_seq ?_
  refine c_region ?_
  refine s_y (y_build (vs := []) rfl (T.bz41 _)) rfl rfl ?_
  refine s_d (d_alloc (cs := [.int .i64 0, .string ⟨[].toArray⟩, .string ⟨[].toArray⟩, .string ⟨[].toArray⟩, .string ⟨[].toArray⟩, .int .i64 0, .int .i64 0, .int .i64 0, .int .i64 0, .int .i64 0]) T.zero41 rfl) rfl rfl ?_
  rintro _ w10 ⟨g9, rfl, hg13, b11, f12⟩
  have ne14 : g ≠ g9 := Nat.ne_of_lt (Nat.lt_of_lt_of_le h0.lt hg13)
  have ne15 : g1 ≠ g9 := Nat.ne_of_lt (Nat.lt_of_lt_of_le b3.lt hg13)
  have nw16 := Nat.le_trans hF8.size hg13
  replace h0 := h0.fr0 f12
  replace b3 := b3.fr0 f12
  have hF17 := hF8.then0 f12
  refine s_d (d_store (cs := [.int .i64 0, .string ⟨[].toArray⟩, .string ⟨[].toArray⟩, .string ⟨[].toArray⟩, .string ⟨[].toArray⟩, .int .i64 0, .int .i64 0, .int .i64 0, .int .i64 0, .int .i64 0]) (l' := [.int .i64 0, .string ⟨[].toArray⟩, .string ⟨[].toArray⟩, .string ⟨[].toArray⟩, .string ⟨[].toArray⟩, .int .i64 0, .int .i64 0, .int .i64 0, .int .i64 0, .int .i64 0]) T.ty41 rfl rfl b11 rfl rfl (ones rfl) (Nat.le_of_ble_eq_true rfl) rfl) rfl rfl ?_
  rintro _ w18 ⟨rfl, b19, f20⟩
  replace h0 := h0.fr1 f20 ne14
  replace b3 := b3.fr1 f20 ne15
  clear b11
  have hF21 := hF17.thenNew f20 nw16
  refine s_nil ?_
  refine n_then ?_
  refine c_seq ?_
  refine c_block ?_
  refine c_unroll ?_
  refine c_seq ?_
  refine c_seq ?_
  refine c_region ?_
  refine s_y (y_move rfl) rfl rfl ?_
  refine s_y (y_inx Tryd.underlying31 rfl rfl) rfl rfl ?_
  refine s_nil ?_
  refine n_then ?_
  refine c_true rfl ?_
  refine c_skip ?_
  refine n_then ?_
  refine c_block ?_
  refine c_seq ?_
  refine c_region ?_
  refine s_y (y_move rfl) rfl rfl ?_
  refine s_y (y_assert (r := .int .i64 0) rfl T.as136_39 rfl) rfl rfl ?_
  refine s_y (y_move rfl) rfl rfl ?_
  refine s_y (y_extract rfl rfl) rfl rfl ?_
  refine s_y (y_extract rfl rfl) rfl rfl ?_
  refine s_y (y_assign rfl) rfl rfl ?_
  refine s_y (y_assign rfl) rfl rfl ?_
  refine s_nil ?_
  refine n_then ?_
  refine c_seq ?_
  refine c_seq ?_
  refine c_region ?_
  refine s_y (y_move rfl) rfl rfl ?_
  refine s_nil ?_
  refine n_then ?_
  refine c_false rfl ?_
  refine c_skip ?_
  refine n_then ?_
  refine c_seq ?_
  refine c_region ?_
  refine s_y (y_move rfl) rfl rfl ?_
  refine s_y (y_assert (r := .pointer (some ⟨g, 0, none⟩)) rfl T.as136_136 rfl) rfl rfl ?_
  refine s_y (y_move rfl) rfl rfl ?_
  refine s_y (y_extract rfl rfl) rfl rfl ?_
  refine s_y (y_extract rfl rfl) rfl rfl ?_
  refine s_y (y_assign rfl) rfl rfl ?_
  refine s_y (y_assign rfl) rfl rfl ?_
  refine s_nil ?_
  refine n_then ?_
  refine c_seq ?_
  refine c_seq ?_
  refine c_region ?_
  refine s_y (y_move rfl) rfl rfl ?_
  refine s_y (y_not rfl rfl) rfl rfl ?_
  refine s_y (y_move rfl) rfl rfl ?_
  refine s_gy (y_move rfl) ⟨_, _, _, _, rfl, rfl, rfl, rfl⟩ rfl ?_
  refine s_gy (y_pn Tryd.underlying136 rfl rfl) ⟨_, _, _, _, rfl, rfl, rfl, rfl⟩ rfl ?_
  refine s_y (y_pick rfl rfl rfl rfl) rfl rfl ?_
  refine s_y (y_move rfl) rfl rfl ?_
  refine s_gy (y_field rfl T.fld41_0 rfl) ⟨_, _, _, _, rfl, rfl, rfl, rfl⟩ rfl ?_
  refine s_gy (y_ldB T.ty3 rfl b19 rfl) ⟨_, _, _, _, rfl, rfl, rfl, rfl⟩ rfl ?_
  refine s_gy (y_gtr (r := false) rfl rfl rfl) ⟨_, _, _, _, rfl, rfl, rfl, rfl⟩ rfl ?_
  refine s_y (y_pick rfl rfl rfl rfl) rfl rfl ?_
  refine s_nil ?_
  refine n_then ?_
  refine c_false rfl ?_
  refine c_skip ?_
  refine n_then ?_
  refine c_seq ?_
  have hcell : World.cell? w18 ⟨g9, 0, none⟩ = some (.int .i64 0) := (b19.cell 0).trans rfl
  refine dr_begin (fun W => Blk W g 138 [.string ⟨l.toArray⟩, .int .i64 a, .iface 39 (.int .i64 c)] ∧ World.cell? W ⟨g9, 0, none⟩ = some (.int .i64 0)) 18 (by kernel_rfl) ?_
  intro w22 f23
  replace hcell := cell_fr0 hcell f23
  replace h0 := h0.fr0 f23
  replace b3 := b3.fr0 f23
  replace b19 := b19.fr0 f23
  have hF24 := hF21.then0 f23
  refine dr_y 0 rfl (fun _ => y_field rfl T.fld41_0 rfl) rfl (by kernel_rfl) (qp_then (qp_inb (qp_then (qp_inb (qp_then qp_body))))) (fun _ => ⟨h0, hcell⟩) ?_
  refine dr_l 1 rfl (fun _ hS => by obtain ⟨q0, q1⟩ := hS; exact y_load1 T.ty3 rfl q1) rfl (by kernel_rfl) (qp_then (qp_inb (qp_then (qp_inb (qp_then qp_body))))) ⟨h0, hcell⟩ ?_
  refine dr_y 2 rfl (fun _ => y_field rfl T.fld41_0 rfl) rfl (by kernel_rfl) (qp_then (qp_inb (qp_then (qp_inb (qp_then qp_body))))) (fun _ => ⟨h0, hcell⟩) ?_
  refine dr_l 3 rfl (fun _ hS => by obtain ⟨q0, q1⟩ := hS; exact y_load1 T.ty3 rfl q1) rfl (by kernel_rfl) (qp_then (qp_inb (qp_then (qp_inb (qp_then qp_body))))) ⟨h0, hcell⟩ ?_
  refine dr_y 4 rfl (fun _ => y_move rfl) rfl (by kernel_rfl) (qp_then (qp_inb (qp_then (qp_inb (qp_then qp_body))))) (fun _ => ⟨h0, hcell⟩) ?_
  refine dr_y 5 rfl (fun _ => y_nilCheck rfl) rfl (by kernel_rfl) (qp_then (qp_inb (qp_then (qp_inb (qp_then qp_body))))) (fun _ => ⟨h0, hcell⟩) ?_
  refine dr_y 6 rfl (fun _ => y_field rfl T.fld138_0 rfl) rfl (by kernel_rfl) (qp_then (qp_inb (qp_then (qp_inb (qp_then qp_body))))) (fun _ => ⟨h0, hcell⟩) ?_
  refine dr_l 7 rfl (fun _ hS => by obtain ⟨q0, q1⟩ := hS; exact y_ldB T.ty9 rfl q0 rfl) rfl (by kernel_rfl) (qp_then (qp_inb (qp_then (qp_inb (qp_then qp_body))))) ⟨h0, hcell⟩ ?_
  refine dr_y 8 rfl (fun _ => y_move rfl) rfl (by kernel_rfl) (qp_then (qp_inb (qp_then (qp_inb (qp_then qp_body))))) (fun _ => ⟨h0, hcell⟩) ?_
  refine dr_y 9 rfl (fun _ => y_nilCheck rfl) rfl (by kernel_rfl) (qp_then (qp_inb (qp_then (qp_inb (qp_then qp_body))))) (fun _ => ⟨h0, hcell⟩) ?_
  refine dr_y 10 rfl (fun _ => y_field rfl T.fld138_1 rfl) rfl (by kernel_rfl) (qp_then (qp_inb (qp_then (qp_inb (qp_then qp_body))))) (fun _ => ⟨h0, hcell⟩) ?_
  refine dr_l 11 rfl (fun _ hS => by obtain ⟨q0, q1⟩ := hS; exact y_ldB T.ty3 rfl q0 rfl) rfl (by kernel_rfl) (qp_then (qp_inb (qp_then (qp_inb (qp_then qp_body))))) ⟨h0, hcell⟩ ?_
  refine dr_y 12 rfl (fun _ => y_field rfl T.fld41_1 rfl) rfl (by kernel_rfl) (qp_then (qp_inb (qp_then (qp_inb (qp_then qp_body))))) (fun _ => ⟨h0, hcell⟩) ?_
  refine dr_y 13 rfl (fun _ => y_indexArr (r := 1) Tryd.underlying37 T.ty9 rfl rfl (by decide) (by decide) rfl) rfl (by kernel_rfl) (qp_then (qp_inb (qp_then (qp_inb (qp_then qp_body))))) (fun _ => ⟨h0, hcell⟩) ?_
  refine dr_y 15 rfl (fun _ => y_field rfl T.fld41_2 rfl) rfl (by kernel_rfl) (qp_then (qp_inb (qp_then (qp_inb (qp_then qp_body))))) (fun _ => ⟨h0, hcell⟩) ?_
  refine dr_1 (i := 14) (by kernel_rfl) ?_
  refine rd_d rfl (d_store (cs := [.string ⟨l.toArray⟩]) (l' := [.int .i64 0, .string ⟨l.toArray⟩, .string ⟨[].toArray⟩, .string ⟨[].toArray⟩, .string ⟨[].toArray⟩, .int .i64 0, .int .i64 0, .int .i64 0, .int .i64 0, .int .i64 0]) T.ty9 rfl rfl b19 rfl rfl (ones rfl) (Nat.le_of_ble_eq_true rfl) rfl) rfl rfl ?_
  rintro _ w25 ⟨rfl, b26, f27⟩
  replace h0 := h0.fr1 f27 ne14
  replace b3 := b3.fr1 f27 ne15
  clear b19
  have hF28 := hF24.thenNew f27 nw16
  have hcell : World.cell? w25 ⟨g9, 0, none⟩ = some (.int .i64 0) := (b26.cell 0).trans rfl
  refine ⟨fun _ => ⟨h0, hcell⟩, ?_⟩
  refine dr_y 16 rfl (fun _ => y_indexArr (r := 5) Tryd.underlying38 T.ty3 rfl rfl (by decide) (by decide) rfl) rfl (by kernel_rfl) (qp_then (qp_inb (qp_then (qp_inb (qp_then qp_body))))) (fun _ => ⟨h0, hcell⟩) ?_
  refine dr_1 (i := 17) (by kernel_rfl) ?_
  refine rd_d rfl (d_store (cs := [.int .i64 a]) (l' := [.int .i64 0, .string ⟨l.toArray⟩, .string ⟨[].toArray⟩, .string ⟨[].toArray⟩, .string ⟨[].toArray⟩, .int .i64 a, .int .i64 0, .int .i64 0, .int .i64 0, .int .i64 0]) T.ty3 rfl rfl b26 rfl rfl (ones rfl) (Nat.le_of_ble_eq_true rfl) rfl) rfl rfl ?_
  rintro _ w29 ⟨rfl, b30, f31⟩
  replace h0 := h0.fr1 f31 ne14
  replace b3 := b3.fr1 f31 ne15
  clear b26
  have hF32 := hF28.thenNew f31 nw16
  have hcell : World.cell? w29 ⟨g9, 0, none⟩ = some (.int .i64 0) := (b30.cell 0).trans rfl
  refine ⟨fun _ => ⟨h0, hcell⟩, ?_⟩
  refine dr_done (by kernel_rfl) ?_
  refine n_then ?_
  refine c_seq ?_
  refine c_region ?_
  refine s_y (y_field rfl T.fld41_0 rfl) rfl rfl ?_
  refine s_y (y_ldB T.ty3 rfl b30 rfl) rfl rfl ?_
  refine s_y (y_add (r := 1) rfl rfl (wrI (by decide) (by decide))) rfl rfl ?_
  refine s_y (y_field rfl T.fld41_0 rfl) rfl rfl ?_
  refine s_d (d_store (cs := [.int .i64 1]) (l' := [.int .i64 1, .string ⟨l.toArray⟩, .string ⟨[].toArray⟩, .string ⟨[].toArray⟩, .string ⟨[].toArray⟩, .int .i64 a, .int .i64 0, .int .i64 0, .int .i64 0, .int .i64 0]) T.ty3 rfl rfl b30 rfl rfl (ones rfl) (Nat.le_of_ble_eq_true rfl) rfl) rfl rfl ?_
  rintro _ w33 ⟨rfl, b34, f35⟩
  replace h0 := h0.fr1 f35 ne14
  replace b3 := b3.fr1 f35 ne15
  clear b30
  have hF36 := hF32.thenNew f35 nw16
  refine s_nil ?_
  refine n_then ?_
  refine c_region ?_
  refine s_y (y_move rfl) rfl rfl ?_
  refine s_y (y_nilCheck rfl) rfl rfl ?_
  refine s_y (y_field rfl T.fld138_2 rfl) rfl rfl ?_
  refine s_y (y_ldB T.ty31 rfl h0 rfl) rfl rfl ?_
  refine s_y (y_assign rfl) rfl rfl ?_
  refine s_nil ?_
  refine n_inb ?_
  refine n_again ?_
  refine c_seq ?_
  refine c_seq ?_
  refine c_region ?_
  refine s_y (y_move rfl) rfl rfl ?_
  refine s_y (y_inx Tryd.underlying31 rfl rfl) rfl rfl ?_
  refine s_nil ?_
  refine n_then ?_
  refine c_true rfl ?_
  refine c_skip ?_
  refine n_then ?_
  refine c_block ?_
  refine c_seq ?_
  refine c_region ?_
  refine s_y (y_move rfl) rfl rfl ?_
  refine s_y (y_assert (r := .int .i64 c) rfl T.as39_39 rfl) rfl rfl ?_
  refine s_y (y_move rfl) rfl rfl ?_
  refine s_y (y_extract rfl rfl) rfl rfl ?_
  refine s_y (y_extract rfl rfl) rfl rfl ?_
  refine s_y (y_assign rfl) rfl rfl ?_
  refine s_y (y_assign rfl) rfl rfl ?_
  refine s_nil ?_
  refine n_then ?_
  refine c_seq ?_
  refine c_seq ?_
  refine c_region ?_
  refine s_y (y_move rfl) rfl rfl ?_
  refine s_nil ?_
  refine n_then ?_
  refine c_true rfl ?_
  refine c_seq ?_
  refine c_region ?_
  refine s_y (y_move rfl) rfl rfl ?_
  refine s_y (y_field rfl T.fld41_3 rfl) rfl rfl ?_
  refine s_d (d_store (cs := [.int .i64 c]) (l' := [.int .i64 1, .string ⟨l.toArray⟩, .string ⟨[].toArray⟩, .string ⟨[].toArray⟩, .string ⟨[].toArray⟩, .int .i64 a, .int .i64 0, .int .i64 0, .int .i64 0, .int .i64 c]) T.ty39 rfl rfl b34 rfl rfl (ones rfl) (Nat.le_of_ble_eq_true rfl) rfl) rfl rfl ?_
  rintro _ w37 ⟨rfl, b38, f39⟩
  replace h0 := h0.fr1 f39 ne14
  replace b3 := b3.fr1 f39 ne15
  clear b34
  have hF40 := hF36.thenNew f39 nw16
  refine s_nil ?_
  refine n_then ?_
  refine c_seq ?_
  refine dr_begin (fun W => Blk W g9 41 [.int .i64 1, .string ⟨l.toArray⟩, .string ⟨[].toArray⟩, .string ⟨[].toArray⟩, .string ⟨[].toArray⟩, .int .i64 a, .int .i64 0, .int .i64 0, .int .i64 0, .int .i64 c]) 6 (by kernel_rfl) ?_
  intro w41 f42
  replace h0 := h0.fr0 f42
  replace b3 := b3.fr0 f42
  replace b38 := b38.fr0 f42
  have hF43 := hF40.then0 f42
  refine dr_l 0 rfl (fun _ hS => by have q0 := hS; exact y_ldBA (xs := [.int .i64 1, .string ⟨l.toArray⟩, .string ⟨[].toArray⟩, .string ⟨[].toArray⟩, .string ⟨[].toArray⟩, .int .i64 a, .int .i64 0, .int .i64 0, .int .i64 0, .int .i64 c]) T.ty41 rfl q0 rfl rfl) rfl (by kernel_rfl) (qp_then (qp_then (qp_inb (qp_then (qp_inb (qp_then qp_body)))))) b38 ?_
  refine dr_y 1 rfl (fun _ => y_field rfl T.fld41_0 rfl) rfl (by kernel_rfl) (qp_then (qp_then (qp_inb (qp_then (qp_inb (qp_then qp_body)))))) (fun _ => b38) ?_
  refine dr_l 2 rfl (fun _ hS => by have q0 := hS; exact y_ldB T.ty3 rfl q0 rfl) rfl (by kernel_rfl) (qp_then (qp_then (qp_inb (qp_then (qp_inb (qp_then qp_body)))))) b38 ?_
  refine dr_y 3 rfl (fun _ => y_gtr (r := true) rfl rfl rfl) rfl (by kernel_rfl) (qp_then (qp_then (qp_inb (qp_then (qp_inb (qp_then qp_body)))))) (fun _ => b38) ?_
  refine dr_1 (i := 4) (by kernel_rfl) ?_
  refine rd_d rfl (d_store (cs := [.int .i64 1, .string ⟨l.toArray⟩, .string ⟨[].toArray⟩, .string ⟨[].toArray⟩, .string ⟨[].toArray⟩, .int .i64 a, .int .i64 0, .int .i64 0, .int .i64 0, .int .i64 c]) (l' := [.int .i64 1, .string ⟨l.toArray⟩, .string ⟨[].toArray⟩, .string ⟨[].toArray⟩, .string ⟨[].toArray⟩, .int .i64 a, .int .i64 0, .int .i64 0, .int .i64 0, .int .i64 c]) T.ty41 rfl rfl b3 rfl rfl (ones rfl) (Nat.le_of_ble_eq_true rfl) rfl) rfl rfl ?_
  rintro _ w44 ⟨rfl, b45, f46⟩
  replace h0 := h0.fr1 f46 ne6
  replace b38 := b38.fr1 f46 ne15.symm
  clear b3
  have hF47 := hF43.thenNew f46 nw7
  refine ⟨fun _ => b38, ?_⟩
  refine dr_y 5 rfl (fun _ => y_assign rfl) rfl (by kernel_rfl) (qp_then (qp_then (qp_inb (qp_then (qp_inb (qp_then qp_body)))))) (fun _ => b38) ?_
  refine dr_done (by kernel_rfl) ?_
  refine n_then ?_
  refine c_ret ?_
  refine r_then ?_
  refine r_inb ?_
  refine r_then ?_
  refine r_inb ?_
  refine r_then ?_
  refine fin2 (by simp) rfl (rv_A (xs := [.int .i64 1, .string ⟨l.toArray⟩, .string ⟨[].toArray⟩, .string ⟨[].toArray⟩, .string ⟨[].toArray⟩, .int .i64 a, .int .i64 0, .int .i64 0, .int .i64 0, .int .i64 c]) T.ty41 rfl b45 rfl rfl) rfl ?_
  exact ⟨rfl, hF47⟩

set_option maxHeartbeats 8000000 in
set_option maxRecDepth 100000 in
theorem of_2 (g g2 : Nat) (l l2 : By) (a a2 c : Int) (w : World) (h0 : Blk w g 138 [.string ⟨l.toArray⟩, .int .i64 a, .iface 136 (.pointer (some ⟨g2, 0, none⟩))]) (h1 : Blk w g2 138 [.string ⟨l2.toArray⟩, .int .i64 a2, .iface 39 (.int .i64 c)]) :
    Calls Tryd.prog 64 #[.iface 136 (.pointer (some ⟨g, 0, none⟩))] w fun e w' => e = .returned (.tuple #[.agg [.int .i64 (Er.two l a l2 a2 c).N, .string ⟨(Er.two l a l2 a2 c).l0.toArray⟩, .string ⟨(Er.two l a l2 a2 c).l1.toArray⟩, .string ⟨([] : List UInt8).toArray⟩, .string ⟨([] : List UInt8).toArray⟩, .int .i64 (Er.two l a l2 a2 c).a0, .int .i64 (Er.two l a l2 a2 c).a1, .int .i64 0, .int .i64 0, .int .i64 (Er.two l a l2 a2 c).c].toArray, .bool true]) ∧ Fr [] w w' := by
  refine c_start (args := [.iface 136 (.pointer (some ⟨g, 0, none⟩))]) Tryd.func64 rfl rfl rfl ?_
  try simp only [enum, Nat.zero_add, Nat.reduceAdd]
  have hF0 := Fr.refl [] w
  have lt_h0 := h0.lt
  have lt_h1 := h1.lt
  refine c_seq ?_
  refine c_region ?_
  refine s_d (d_alloc (cs := [.int .i64 0, .string ⟨[].toArray⟩, .string ⟨[].toArray⟩, .string ⟨[].toArray⟩, .string ⟨[].toArray⟩, .int .i64 0, .int .i64 0, .int .i64 0, .int .i64 0, .int .i64 0]) T.zero41 rfl) rfl rfl ?_
  rintro _ w2 ⟨g1, rfl, hg5, b3, f4⟩
  have ne6 : g ≠ g1 := Nat.ne_of_lt (Nat.lt_of_lt_of_le h0.lt hg5)
  have ne7 : g2 ≠ g1 := Nat.ne_of_lt (Nat.lt_of_lt_of_le h1.lt hg5)
  have nw8 := Nat.le_trans hF0.size hg5
  replace h0 := h0.fr0 f4
  replace h1 := h1.fr0 f4
  have hF9 := hF0.then0 f4
  refine s_y (y_assign rfl) rfl rfl ?_
  refine s_nil ?_
  refine n_then ?_
  refine c_seq ?_
  refine c_region ?_
  refine s_y (y_build (vs := []) rfl (T.bz41 _)) rfl rfl ?_
  refine s_d (d_alloc (cs := [.int .i64 0, .string ⟨[].toArray⟩, .string ⟨[].toArray⟩, .string ⟨[].toArray⟩, .string ⟨[].toArray⟩, .int .i64 0, .int .i64 0, .int .i64 0, .int .i64 0, .int .i64 0]) T.zero41 rfl) rfl rfl ?_
  rintro _ w11 ⟨g10, rfl, hg14, b12, f13⟩
  have ne15 : g ≠ g10 := Nat.ne_of_lt (Nat.lt_of_lt_of_le h0.lt hg14)
  have ne16 : g2 ≠ g10 := Nat.ne_of_lt (Nat.lt_of_lt_of_le h1.lt hg14)
  have ne17 : g1 ≠ g10 := Nat.ne_of_lt (Nat.lt_of_lt_of_le b3.lt hg14)
  have nw18 := Nat.le_trans hF9.size hg14
  replace h0 := h0.fr0 f13
  replace h1 := h1.fr0 f13
  replace b3 := b3.fr0 f13
  have hF19 := hF9.then0 f13
  refine s_d (d_store (cs := [.int .i64 0, .string ⟨[].toArray⟩, .string ⟨[].toArray⟩, .string ⟨[].toArray⟩, .string ⟨[].toArray⟩, .int .i64 0, .int .i64 0, .int .i64 0, .int .i64 0, .int .i64 0]) (l' := [.int .i64 0, .string ⟨[].toArray⟩, .string ⟨[].toArray⟩, .string ⟨[].toArray⟩, .string ⟨[].toArray⟩, .int .i64 0, .int .i64 0, .int .i64 0, .int .i64 0, .int .i64 0]) T.ty41 rfl rfl b12 rfl rfl (ones rfl) (Nat.le_of_ble_eq_true rfl) rfl) rfl rfl ?_
  rintro _ w20 ⟨rfl, b21, f22⟩
  replace h0 := h0.fr1 f22 ne15
  replace h1 := h1.fr1 f22 ne16
  replace b3 := b3.fr1 f22 ne17
  clear b12
  have hF23 := hF19.thenNew f22 nw18
  refine s_nil ?_
  refine n_then ?_
  refine c_seq ?_
  refine c_block ?_
  refine c_unroll ?_
  refine c_seq ?_
  refine c_seq ?_
  refine c_region ?_
  refine s_y (y_move rfl) rfl rfl ?_
  refine s_y (y_inx Tryd.underlying31 rfl rfl) rfl rfl ?_
  refine s_nil ?_
  refine n_then ?_
  refine c_true rfl ?_
  refine c_skip ?_
  refine n_then ?_
  refine c_block ?_
  refine c_seq ?_
  refine c_region ?_
  refine s_y (y_move rfl) rfl rfl ?_
  refine s_y (y_assert (r := .int .i64 0) rfl T.as136_39 rfl) rfl rfl ?_
  refine s_y (y_move rfl) rfl rfl ?_
  refine s_y (y_extract rfl rfl) rfl rfl ?_
  refine s_y (y_extract rfl rfl) rfl rfl ?_
  refine s_y (y_assign rfl) rfl rfl ?_
  refine s_y (y_assign rfl) rfl rfl ?_
  refine s_nil ?_
  refine n_then ?_
  refine c_seq ?_
  refine c_seq ?_
  refine c_region ?_
  refine s_y (y_move rfl) rfl rfl ?_
  refine s_nil ?_
  refine n_then ?_
  refine c_false rfl ?_
  refine c_skip ?_
  refine n_then ?_
  refine c_seq ?_
  refine c_region ?_
  refine s_y (y_move rfl) rfl rfl ?_
  refine s_y (y_assert (r := .pointer (some ⟨g, 0, none⟩)) rfl T.as136_136 rfl) rfl rfl ?_
  refine s_y (y_move rfl) rfl rfl ?_
  refine s_y (y_extract rfl rfl) rfl rfl ?_
  refine s_y (y_extract rfl rfl) rfl rfl ?_
  refine s_y (y_assign rfl) rfl rfl ?_
  refine s_y (y_assign rfl) rfl rfl ?_
  refine s_nil ?_
  refine n_then ?_
  refine c_seq ?_
  refine c_seq ?_
  refine c_region ?_
  refine s_y (y_move rfl) rfl rfl ?_
  refine s_y (y_not rfl rfl) rfl rfl ?_
  refine s_y (y_move rfl) rfl rfl ?_
  refine s_gy (y_move rfl) ⟨_, _, _, _, rfl, rfl, rfl, rfl⟩ rfl ?_
  refine s_gy (y_pn Tryd.underlying136 rfl rfl) ⟨_, _, _, _, rfl, rfl, rfl, rfl⟩ rfl ?_
  refine s_y (y_pick rfl rfl rfl rfl) rfl rfl ?_
  refine s_y (y_move rfl) rfl rfl ?_
  refine s_gy (y_field rfl T.fld41_0 rfl) ⟨_, _, _, _, rfl, rfl, rfl, rfl⟩ rfl ?_
  refine s_gy (y_ldB T.ty3 rfl b21 rfl) ⟨_, _, _, _, rfl, rfl, rfl, rfl⟩ rfl ?_
  refine s_gy (y_gtr (r := false) rfl rfl rfl) ⟨_, _, _, _, rfl, rfl, rfl, rfl⟩ rfl ?_
  refine s_y (y_pick rfl rfl rfl rfl) rfl rfl ?_
  refine s_nil ?_
  refine n_then ?_
  refine c_false rfl ?_
  refine c_skip ?_
  refine n_then ?_
  refine c_seq ?_
  have hcell : World.cell? w20 ⟨g10, 0, none⟩ = some (.int .i64 0) := (b21.cell 0).trans rfl
  refine dr_begin (fun W => Blk W g 138 [.string ⟨l.toArray⟩, .int .i64 a, .iface 136 (.pointer (some ⟨g2, 0, none⟩))] ∧ Blk W g2 138 [.string ⟨l2.toArray⟩, .int .i64 a2, .iface 39 (.int .i64 c)] ∧ World.cell? W ⟨g10, 0, none⟩ = some (.int .i64 0)) 18 (by kernel_rfl) ?_
  intro w24 f25
  replace hcell := cell_fr0 hcell f25
  replace h0 := h0.fr0 f25
  replace h1 := h1.fr0 f25
  replace b3 := b3.fr0 f25
  replace b21 := b21.fr0 f25
  have hF26 := hF23.then0 f25
  refine dr_y 0 rfl (fun _ => y_field rfl T.fld41_0 rfl) rfl (by kernel_rfl) (qp_then (qp_inb (qp_then (qp_inb (qp_then qp_body))))) (fun _ => ⟨h0, h1, hcell⟩) ?_
  refine dr_l 1 rfl (fun _ hS => by obtain ⟨q0, q1, q2⟩ := hS; exact y_load1 T.ty3 rfl q2) rfl (by kernel_rfl) (qp_then (qp_inb (qp_then (qp_inb (qp_then qp_body))))) ⟨h0, h1, hcell⟩ ?_
  refine dr_y 2 rfl (fun _ => y_field rfl T.fld41_0 rfl) rfl (by kernel_rfl) (qp_then (qp_inb (qp_then (qp_inb (qp_then qp_body))))) (fun _ => ⟨h0, h1, hcell⟩) ?_
  refine dr_l 3 rfl (fun _ hS => by obtain ⟨q0, q1, q2⟩ := hS; exact y_load1 T.ty3 rfl q2) rfl (by kernel_rfl) (qp_then (qp_inb (qp_then (qp_inb (qp_then qp_body))))) ⟨h0, h1, hcell⟩ ?_
  refine dr_y 4 rfl (fun _ => y_move rfl) rfl (by kernel_rfl) (qp_then (qp_inb (qp_then (qp_inb (qp_then qp_body))))) (fun _ => ⟨h0, h1, hcell⟩) ?_
  refine dr_y 5 rfl (fun _ => y_nilCheck rfl) rfl (by kernel_rfl) (qp_then (qp_inb (qp_then (qp_inb (qp_then qp_body))))) (fun _ => ⟨h0, h1, hcell⟩) ?_
  refine dr_y 6 rfl (fun _ => y_field rfl T.fld138_0 rfl) rfl (by kernel_rfl) (qp_then (qp_inb (qp_then (qp_inb (qp_then qp_body))))) (fun _ => ⟨h0, h1, hcell⟩) ?_
  refine dr_l 7 rfl (fun _ hS => by obtain ⟨q0, q1, q2⟩ := hS; exact y_ldB T.ty9 rfl q0 rfl) rfl (by kernel_rfl) (qp_then (qp_inb (qp_then (qp_inb (qp_then qp_body))))) ⟨h0, h1, hcell⟩ ?_
  refine dr_y 8 rfl (fun _ => y_move rfl) rfl (by kernel_rfl) (qp_then (qp_inb (qp_then (qp_inb (qp_then qp_body))))) (fun _ => ⟨h0, h1, hcell⟩) ?_
  refine dr_y 9 rfl (fun _ => y_nilCheck rfl) rfl (by kernel_rfl) (qp_then (qp_inb (qp_then (qp_inb (qp_then qp_body))))) (fun _ => ⟨h0, h1, hcell⟩) ?_
  refine dr_y 10 rfl (fun _ => y_field rfl T.fld138_1 rfl) rfl (by kernel_rfl) (qp_then (qp_inb (qp_then (qp_inb (qp_then qp_body))))) (fun _ => ⟨h0, h1, hcell⟩) ?_
  refine dr_l 11 rfl (fun _ hS => by obtain ⟨q0, q1, q2⟩ := hS; exact y_ldB T.ty3 rfl q0 rfl) rfl (by kernel_rfl) (qp_then (qp_inb (qp_then (qp_inb (qp_then qp_body))))) ⟨h0, h1, hcell⟩ ?_
  refine dr_y 12 rfl (fun _ => y_field rfl T.fld41_1 rfl) rfl (by kernel_rfl) (qp_then (qp_inb (qp_then (qp_inb (qp_then qp_body))))) (fun _ => ⟨h0, h1, hcell⟩) ?_
  refine dr_y 13 rfl (fun _ => y_indexArr (r := 1) Tryd.underlying37 T.ty9 rfl rfl (by decide) (by decide) rfl) rfl (by kernel_rfl) (qp_then (qp_inb (qp_then (qp_inb (qp_then qp_body))))) (fun _ => ⟨h0, h1, hcell⟩) ?_
  refine dr_y 15 rfl (fun _ => y_field rfl T.fld41_2 rfl) rfl (by kernel_rfl) (qp_then (qp_inb (qp_then (qp_inb (qp_then qp_body))))) (fun _ => ⟨h0, h1, hcell⟩) ?_
  refine dr_1 (i := 14) (by kernel_rfl) ?_
  refine rd_d rfl (d_store (cs := [.string ⟨l.toArray⟩]) (l' := [.int .i64 0, .string ⟨l.toArray⟩, .string ⟨[].toArray⟩, .string ⟨[].toArray⟩, .string ⟨[].toArray⟩, .int .i64 0, .int .i64 0, .int .i64 0, .int .i64 0, .int .i64 0]) T.ty9 rfl rfl b21 rfl rfl (ones rfl) (Nat.le_of_ble_eq_true rfl) rfl) rfl rfl ?_
  rintro _ w27 ⟨rfl, b28, f29⟩
  replace h0 := h0.fr1 f29 ne15
  replace h1 := h1.fr1 f29 ne16
  replace b3 := b3.fr1 f29 ne17
  clear b21
  have hF30 := hF26.thenNew f29 nw18
  have hcell : World.cell? w27 ⟨g10, 0, none⟩ = some (.int .i64 0) := (b28.cell 0).trans rfl
  refine ⟨fun _ => ⟨h0, h1, hcell⟩, ?_⟩
  refine dr_y 16 rfl (fun _ => y_indexArr (r := 5) Tryd.underlying38 T.ty3 rfl rfl (by decide) (by decide) rfl) rfl (by kernel_rfl) (qp_then (qp_inb (qp_then (qp_inb (qp_then qp_body))))) (fun _ => ⟨h0, h1, hcell⟩) ?_
  refine dr_1 (i := 17) (by kernel_rfl) ?_
  refine rd_d rfl (d_store (cs := [.int .i64 a]) (l' := [.int .i64 0, .string ⟨l.toArray⟩, .string ⟨[].toArray⟩, .string ⟨[].toArray⟩, .string ⟨[].toArray⟩, .int .i64 a, .int .i64 0, .int .i64 0, .int .i64 0, .int .i64 0]) T.ty3 rfl rfl b28 rfl rfl (ones rfl) (Nat.le_of_ble_eq_true rfl) rfl) rfl rfl ?_
  rintro _ w31 ⟨rfl, b32, f33⟩
  replace h0 := h0.fr1 f33 ne15
  replace h1 := h1.fr1 f33 ne16
  replace b3 := b3.fr1 f33 ne17
  clear b28
  have hF34 := hF30.thenNew f33 nw18
  have hcell : World.cell? w31 ⟨g10, 0, none⟩ = some (.int .i64 0) := (b32.cell 0).trans rfl
  refine ⟨fun _ => ⟨h0, h1, hcell⟩, ?_⟩
  refine dr_done (by kernel_rfl) ?_
  refine n_then ?_
  refine c_seq ?_
  refine c_region ?_
  refine s_y (y_field rfl T.fld41_0 rfl) rfl rfl ?_
  refine s_y (y_ldB T.ty3 rfl b32 rfl) rfl rfl ?_
  refine s_y (y_add (r := 1) rfl rfl (wrI (by decide) (by decide))) rfl rfl ?_
  refine s_y (y_field rfl T.fld41_0 rfl) rfl rfl ?_
  refine s_d (d_store (cs := [.int .i64 1]) (l' := [.int .i64 1, .string ⟨l.toArray⟩, .string ⟨[].toArray⟩, .string ⟨[].toArray⟩, .string ⟨[].toArray⟩, .int .i64 a, .int .i64 0, .int .i64 0, .int .i64 0, .int .i64 0]) T.ty3 rfl rfl b32 rfl rfl (ones rfl) (Nat.le_of_ble_eq_true rfl) rfl) rfl rfl ?_
  rintro _ w35 ⟨rfl, b36, f37⟩
  replace h0 := h0.fr1 f37 ne15
  replace h1 := h1.fr1 f37 ne16
  replace b3 := b3.fr1 f37 ne17
  clear b32
  have hF38 := hF34.thenNew f37 nw18
  refine s_nil ?_
  refine n_then ?_
  refine c_region ?_
  refine s_y (y_move rfl) rfl rfl ?_
  refine s_y (y_nilCheck rfl) rfl rfl ?_
  refine s_y (y_field rfl T.fld138_2 rfl) rfl rfl ?_
  refine s_y (y_ldB T.ty31 rfl h0 rfl) rfl rfl ?_
  refine s_y (y_assign rfl) rfl rfl ?_
  refine s_nil ?_
  refine n_inb ?_
  refine n_again ?_
  refine c_seq ?_
  refine c_seq ?_
  refine c_region ?_
  refine s_y (y_move rfl) rfl rfl ?_
  refine s_y (y_inx Tryd.underlying31 rfl rfl) rfl rfl ?_
  refine s_nil ?_
  refine n_then ?_
  refine c_true rfl ?_
  refine c_skip ?_
  refine n_then ?_
  refine c_block ?_
  refine c_seq ?_
  refine c_region ?_
  refine s_y (y_move rfl) rfl rfl ?_
  refine s_y (y_assert (r := .int .i64 0) rfl T.as136_39 rfl) rfl rfl ?_
  refine s_y (y_move rfl) rfl rfl ?_
  refine s_y (y_extract rfl rfl) rfl rfl ?_
  refine s_y (y_extract rfl rfl) rfl rfl ?_
  refine s_y (y_assign rfl) rfl rfl ?_
  refine s_y (y_assign rfl) rfl rfl ?_
  refine s_nil ?_
  refine n_then ?_
  refine c_seq ?_
  refine c_seq ?_
  refine c_region ?_
  refine s_y (y_move rfl) rfl rfl ?_
  refine s_nil ?_
  refine n_then ?_
  refine c_false rfl ?_
  refine c_skip ?_
  refine n_then ?_
  refine c_seq ?_
  refine c_region ?_
  refine s_y (y_move rfl) rfl rfl ?_
  refine s_y (y_assert (r := .pointer (some ⟨g2, 0, none⟩)) rfl T.as136_136 rfl) rfl rfl ?_
  refine s_y (y_move rfl) rfl rfl ?_
  refine s_y (y_extract rfl rfl) rfl rfl ?_
  refine s_y (y_extract rfl rfl) rfl rfl ?_
  refine s_y (y_assign rfl) rfl rfl ?_
  refine s_y (y_assign rfl) rfl rfl ?_
  refine s_nil ?_
  refine n_then ?_
  refine c_seq ?_
  refine c_seq ?_
  refine c_region ?_
  refine s_y (y_move rfl) rfl rfl ?_
  refine s_y (y_not rfl rfl) rfl rfl ?_
  refine s_y (y_move rfl) rfl rfl ?_
  refine s_gy (y_move rfl) ⟨_, _, _, _, rfl, rfl, rfl, rfl⟩ rfl ?_
  refine s_gy (y_pn Tryd.underlying136 rfl rfl) ⟨_, _, _, _, rfl, rfl, rfl, rfl⟩ rfl ?_
  refine s_y (y_pick rfl rfl rfl rfl) rfl rfl ?_
  refine s_y (y_move rfl) rfl rfl ?_
  refine s_gy (y_field rfl T.fld41_0 rfl) ⟨_, _, _, _, rfl, rfl, rfl, rfl⟩ rfl ?_
  refine s_gy (y_ldB T.ty3 rfl b36 rfl) ⟨_, _, _, _, rfl, rfl, rfl, rfl⟩ rfl ?_
  refine s_gy (y_gtr (r := false) rfl rfl rfl) ⟨_, _, _, _, rfl, rfl, rfl, rfl⟩ rfl ?_
  refine s_y (y_pick rfl rfl rfl rfl) rfl rfl ?_
  refine s_nil ?_
  refine n_then ?_
  refine c_false rfl ?_
  refine c_skip ?_
  refine n_then ?_
  refine c_seq ?_
  have hcell : World.cell? w35 ⟨g10, 0, none⟩ = some (.int .i64 1) := (b36.cell 0).trans rfl
  refine dr_begin (fun W => Blk W g 138 [.string ⟨l.toArray⟩, .int .i64 a, .iface 136 (.pointer (some ⟨g2, 0, none⟩))] ∧ Blk W g2 138 [.string ⟨l2.toArray⟩, .int .i64 a2, .iface 39 (.int .i64 c)] ∧ World.cell? W ⟨g10, 0, none⟩ = some (.int .i64 1)) 18 (by kernel_rfl) ?_
  intro w39 f40
  replace hcell := cell_fr0 hcell f40
  replace h0 := h0.fr0 f40
  replace h1 := h1.fr0 f40
  replace b3 := b3.fr0 f40
  replace b36 := b36.fr0 f40
  have hF41 := hF38.then0 f40
  refine dr_y 0 rfl (fun _ => y_field rfl T.fld41_0 rfl) rfl (by kernel_rfl) (qp_then (qp_inb (qp_then (qp_inb (qp_then qp_body))))) (fun _ => ⟨h0, h1, hcell⟩) ?_
  refine dr_l 1 rfl (fun _ hS => by obtain ⟨q0, q1, q2⟩ := hS; exact y_load1 T.ty3 rfl q2) rfl (by kernel_rfl) (qp_then (qp_inb (qp_then (qp_inb (qp_then qp_body))))) ⟨h0, h1, hcell⟩ ?_
  refine dr_y 2 rfl (fun _ => y_field rfl T.fld41_0 rfl) rfl (by kernel_rfl) (qp_then (qp_inb (qp_then (qp_inb (qp_then qp_body))))) (fun _ => ⟨h0, h1, hcell⟩) ?_
  refine dr_l 3 rfl (fun _ hS => by obtain ⟨q0, q1, q2⟩ := hS; exact y_load1 T.ty3 rfl q2) rfl (by kernel_rfl) (qp_then (qp_inb (qp_then (qp_inb (qp_then qp_body))))) ⟨h0, h1, hcell⟩ ?_
  refine dr_y 4 rfl (fun _ => y_move rfl) rfl (by kernel_rfl) (qp_then (qp_inb (qp_then (qp_inb (qp_then qp_body))))) (fun _ => ⟨h0, h1, hcell⟩) ?_
  refine dr_y 5 rfl (fun _ => y_nilCheck rfl) rfl (by kernel_rfl) (qp_then (qp_inb (qp_then (qp_inb (qp_then qp_body))))) (fun _ => ⟨h0, h1, hcell⟩) ?_
  refine dr_y 6 rfl (fun _ => y_field rfl T.fld138_0 rfl) rfl (by kernel_rfl) (qp_then (qp_inb (qp_then (qp_inb (qp_then qp_body))))) (fun _ => ⟨h0, h1, hcell⟩) ?_
  refine dr_l 7 rfl (fun _ hS => by obtain ⟨q0, q1, q2⟩ := hS; exact y_ldB T.ty9 rfl q1 rfl) rfl (by kernel_rfl) (qp_then (qp_inb (qp_then (qp_inb (qp_then qp_body))))) ⟨h0, h1, hcell⟩ ?_
  refine dr_y 8 rfl (fun _ => y_move rfl) rfl (by kernel_rfl) (qp_then (qp_inb (qp_then (qp_inb (qp_then qp_body))))) (fun _ => ⟨h0, h1, hcell⟩) ?_
  refine dr_y 9 rfl (fun _ => y_nilCheck rfl) rfl (by kernel_rfl) (qp_then (qp_inb (qp_then (qp_inb (qp_then qp_body))))) (fun _ => ⟨h0, h1, hcell⟩) ?_
  refine dr_y 10 rfl (fun _ => y_field rfl T.fld138_1 rfl) rfl (by kernel_rfl) (qp_then (qp_inb (qp_then (qp_inb (qp_then qp_body))))) (fun _ => ⟨h0, h1, hcell⟩) ?_
  refine dr_l 11 rfl (fun _ hS => by obtain ⟨q0, q1, q2⟩ := hS; exact y_ldB T.ty3 rfl q1 rfl) rfl (by kernel_rfl) (qp_then (qp_inb (qp_then (qp_inb (qp_then qp_body))))) ⟨h0, h1, hcell⟩ ?_
  refine dr_y 12 rfl (fun _ => y_field rfl T.fld41_1 rfl) rfl (by kernel_rfl) (qp_then (qp_inb (qp_then (qp_inb (qp_then qp_body))))) (fun _ => ⟨h0, h1, hcell⟩) ?_
  refine dr_y 13 rfl (fun _ => y_indexArr (r := 2) Tryd.underlying37 T.ty9 rfl rfl (by decide) (by decide) rfl) rfl (by kernel_rfl) (qp_then (qp_inb (qp_then (qp_inb (qp_then qp_body))))) (fun _ => ⟨h0, h1, hcell⟩) ?_
  refine dr_y 15 rfl (fun _ => y_field rfl T.fld41_2 rfl) rfl (by kernel_rfl) (qp_then (qp_inb (qp_then (qp_inb (qp_then qp_body))))) (fun _ => ⟨h0, h1, hcell⟩) ?_
  refine dr_1 (i := 14) (by kernel_rfl) ?_
  refine rd_d rfl (d_store (cs := [.string ⟨l2.toArray⟩]) (l' := [.int .i64 1, .string ⟨l.toArray⟩, .string ⟨l2.toArray⟩, .string ⟨[].toArray⟩, .string ⟨[].toArray⟩, .int .i64 a, .int .i64 0, .int .i64 0, .int .i64 0, .int .i64 0]) T.ty9 rfl rfl b36 rfl rfl (ones rfl) (Nat.le_of_ble_eq_true rfl) rfl) rfl rfl ?_
  rintro _ w42 ⟨rfl, b43, f44⟩
  replace h0 := h0.fr1 f44 ne15
  replace h1 := h1.fr1 f44 ne16
  replace b3 := b3.fr1 f44 ne17
  clear b36
  have hF45 := hF41.thenNew f44 nw18
  have hcell : World.cell? w42 ⟨g10, 0, none⟩ = some (.int .i64 1) := (b43.cell 0).trans rfl
  refine ⟨fun _ => ⟨h0, h1, hcell⟩, ?_⟩
  refine dr_y 16 rfl (fun _ => y_indexArr (r := 6) Tryd.underlying38 T.ty3 rfl rfl (by decide) (by decide) rfl) rfl (by kernel_rfl) (qp_then (qp_inb (qp_then (qp_inb (qp_then qp_body))))) (fun _ => ⟨h0, h1, hcell⟩) ?_
  refine dr_1 (i := 17) (by kernel_rfl) ?_
  refine rd_d rfl (d_store (cs := [.int .i64 a2]) (l' := [.int .i64 1, .string ⟨l.toArray⟩, .string ⟨l2.toArray⟩, .string ⟨[].toArray⟩, .string ⟨[].toArray⟩, .int .i64 a, .int .i64 a2, .int .i64 0, .int .i64 0, .int .i64 0]) T.ty3 rfl rfl b43 rfl rfl (ones rfl) (Nat.le_of_ble_eq_true rfl) rfl) rfl rfl ?_
  rintro _ w46 ⟨rfl, b47, f48⟩
  replace h0 := h0.fr1 f48 ne15
  replace h1 := h1.fr1 f48 ne16
  replace b3 := b3.fr1 f48 ne17
  clear b43
  have hF49 := hF45.thenNew f48 nw18
  have hcell : World.cell? w46 ⟨g10, 0, none⟩ = some (.int .i64 1) := (b47.cell 0).trans rfl
  refine ⟨fun _ => ⟨h0, h1, hcell⟩, ?_⟩
  refine dr_done (by kernel_rfl) ?_
  refine n_then ?_
  refine c_seq ?_
  refine c_region ?_
  refine s_y (y_field rfl T.fld41_0 rfl) rfl rfl ?_
  refine s_y (y_ldB T.ty3 rfl b47 rfl) rfl rfl ?_
  refine s_y (y_add (r := 2) rfl rfl (wrI (by decide) (by decide))) rfl rfl ?_
  refine s_y (y_field rfl T.fld41_0 rfl) rfl rfl ?_
  refine s_d (d_store (cs := [.int .i64 2]) (l' := [.int .i64 2, .string ⟨l.toArray⟩, .string ⟨l2.toArray⟩, .string ⟨[].toArray⟩, .string ⟨[].toArray⟩, .int .i64 a, .int .i64 a2, .int .i64 0, .int .i64 0, .int .i64 0]) T.ty3 rfl rfl b47 rfl rfl (ones rfl) (Nat.le_of_ble_eq_true rfl) rfl) rfl rfl ?_
  rintro _ w50 ⟨rfl, b51, f52⟩
  replace h0 := h0.fr1 f52 ne15
  replace h1 := h1.fr1 f52 ne16
  replace b3 := b3.fr1 f52 ne17
  clear b47
  have hF53 := hF49.thenNew f52 nw18
  refine s_nil ?_
  refine n_then ?_
  refine c_region ?_
  refine s_y (y_move rfl) rfl rfl ?_
  refine s_y (y_nilCheck rfl) rfl rfl ?_
  refine s_y (y_field rfl T.fld138_2 rfl) rfl rfl ?_
  refine s_y (y_ldB T.ty31 rfl h1 rfl) rfl rfl ?_
  refine s_y (y_assign rfl) rfl rfl ?_
  refine s_nil ?_
  refine n_inb ?_
  refine n_again ?_
  refine c_seq ?_
  refine c_seq ?_
  refine c_region ?_
  refine s_y (y_move rfl) rfl rfl ?_
  refine s_y (y_inx Tryd.underlying31 rfl rfl) rfl rfl ?_
  refine s_nil ?_
  refine n_then ?_
  refine c_true rfl ?_
  refine c_skip ?_
  refine n_then ?_
  refine c_block ?_
  refine c_seq ?_
  refine c_region ?_
  refine s_y (y_move rfl) rfl rfl ?_
  refine s_y (y_assert (r := .int .i64 c) rfl T.as39_39 rfl) rfl rfl ?_
  refine s_y (y_move rfl) rfl rfl ?_
  refine s_y (y_extract rfl rfl) rfl rfl ?_
  refine s_y (y_extract rfl rfl) rfl rfl ?_
  refine s_y (y_assign rfl) rfl rfl ?_
  refine s_y (y_assign rfl) rfl rfl ?_
  refine s_nil ?_
  refine n_then ?_
  refine c_seq ?_
  refine c_seq ?_
  refine c_region ?_
  refine s_y (y_move rfl) rfl rfl ?_
  refine s_nil ?_
  refine n_then ?_
  refine c_true rfl ?_
  refine c_seq ?_
  refine c_region ?_
  refine s_y (y_move rfl) rfl rfl ?_
  refine s_y (y_field rfl T.fld41_3 rfl) rfl rfl ?_
  refine s_d (d_store (cs := [.int .i64 c]) (l' := [.int .i64 2, .string ⟨l.toArray⟩, .string ⟨l2.toArray⟩, .string ⟨[].toArray⟩, .string ⟨[].toArray⟩, .int .i64 a, .int .i64 a2, .int .i64 0, .int .i64 0, .int .i64 c]) T.ty39 rfl rfl b51 rfl rfl (ones rfl) (Nat.le_of_ble_eq_true rfl) rfl) rfl rfl ?_
  rintro _ w54 ⟨rfl, b55, f56⟩
  replace h0 := h0.fr1 f56 ne15
  replace h1 := h1.fr1 f56 ne16
  replace b3 := b3.fr1 f56 ne17
  clear b51
  have hF57 := hF53.thenNew f56 nw18
  refine s_nil ?_
  refine n_then ?_
  refine c_seq ?_
  refine dr_begin (fun W => Blk W g10 41 [.int .i64 2, .string ⟨l.toArray⟩, .string ⟨l2.toArray⟩, .string ⟨[].toArray⟩, .string ⟨[].toArray⟩, .int .i64 a, .int .i64 a2, .int .i64 0, .int .i64 0, .int .i64 c]) 6 (by kernel_rfl) ?_
  intro w58 f59
  replace h0 := h0.fr0 f59
  replace h1 := h1.fr0 f59
  replace b3 := b3.fr0 f59
  replace b55 := b55.fr0 f59
  have hF60 := hF57.then0 f59
  refine dr_l 0 rfl (fun _ hS => by have q0 := hS; exact y_ldBA (xs := [.int .i64 2, .string ⟨l.toArray⟩, .string ⟨l2.toArray⟩, .string ⟨[].toArray⟩, .string ⟨[].toArray⟩, .int .i64 a, .int .i64 a2, .int .i64 0, .int .i64 0, .int .i64 c]) T.ty41 rfl q0 rfl rfl) rfl (by kernel_rfl) (qp_then (qp_then (qp_inb (qp_then (qp_inb (qp_then qp_body)))))) b55 ?_
  refine dr_y 1 rfl (fun _ => y_field rfl T.fld41_0 rfl) rfl (by kernel_rfl) (qp_then (qp_then (qp_inb (qp_then (qp_inb (qp_then qp_body)))))) (fun _ => b55) ?_
  refine dr_l 2 rfl (fun _ hS => by have q0 := hS; exact y_ldB T.ty3 rfl q0 rfl) rfl (by kernel_rfl) (qp_then (qp_then (qp_inb (qp_then (qp_inb (qp_then qp_body)))))) b55 ?_
  refine dr_y 3 rfl (fun _ => y_gtr (r := true) rfl rfl rfl) rfl (by kernel_rfl) (qp_then (qp_then (qp_inb (qp_then (qp_inb (qp_then qp_body)))))) (fun _ => b55) ?_
  refine dr_1 (i := 4) (by kernel_rfl) ?_
  refine rd_d rfl (d_store (cs := [.int .i64 2, .string ⟨l.toArray⟩, .string ⟨l2.toArray⟩, .string ⟨[].toArray⟩, .string ⟨[].toArray⟩, .int .i64 a, .int .i64 a2, .int .i64 0, .int .i64 0, .int .i64 c]) (l' := [.int .i64 2, .string ⟨l.toArray⟩, .string ⟨l2.toArray⟩, .string ⟨[].toArray⟩, .string ⟨[].toArray⟩, .int .i64 a, .int .i64 a2, .int .i64 0, .int .i64 0, .int .i64 c]) T.ty41 rfl rfl b3 rfl rfl (ones rfl) (Nat.le_of_ble_eq_true rfl) rfl) rfl rfl ?_
  rintro _ w61 ⟨rfl, b62, f63⟩
  replace h0 := h0.fr1 f63 ne6
  replace h1 := h1.fr1 f63 ne7
  replace b55 := b55.fr1 f63 ne17.symm
  clear b3
  have hF64 := hF60.thenNew f63 nw8
  refine ⟨fun _ => b55, ?_⟩
  refine dr_y 5 rfl (fun _ => y_assign rfl) rfl (by kernel_rfl) (qp_then (qp_then (qp_inb (qp_then (qp_inb (qp_then qp_body)))))) (fun _ => b55) ?_
  refine dr_done (by kernel_rfl) ?_
  refine n_then ?_
  refine c_ret ?_
  refine r_then ?_
  refine r_inb ?_
  refine r_then ?_
  refine r_inb ?_
  refine r_then ?_
  refine fin2 (by simp) rfl (rv_A (xs := [.int .i64 2, .string ⟨l.toArray⟩, .string ⟨l2.toArray⟩, .string ⟨[].toArray⟩, .string ⟨[].toArray⟩, .int .i64 a, .int .i64 a2, .int .i64 0, .int .i64 0, .int .i64 c]) T.ty41 rfl b62 rfl rfl) rfl ?_
  exact ⟨rfl, hF64⟩

end Go.Proofs.YtcnepgnfecoeoaaDoor
