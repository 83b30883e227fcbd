/- Errors compared; a number as a byte; a host checked. No condition. -/
import Derived.Test.YtcnepgnfecoeoaaDoorGa
import Derived.Test.YtcnepgnfecoeoaaDoorGMem4
import Derived.Test.YtcnepgnfecoeoaaDoorGbT
import Derived.Test.YtcnepgnfecoeoaaDoorProg
set_option linter.unusedVariables false
set_option linter.unusedSimpArgs false
namespace Go.Proofs.YtcnepgnfecoeoaaDoor
open Go Go.Proofs.GP Go.Proofs.Tryd
theorem of_f (g : Nat) (er : Er) (w : World) (h : FaultAt w 138 136 39 g er) :
    Calls Tryd.prog 64 #[.iface 136 (.pointer (some ⟨g, 0, none⟩))] w fun e w' => e = .returned (.tuple #[.agg [.int .i64 er.N, .string ⟨er.l0.toArray⟩, .string ⟨er.l1.toArray⟩, .string ⟨([] : List UInt8).toArray⟩, .string ⟨([] : List UInt8).toArray⟩, .int .i64 er.a0, .int .i64 er.a1, .int .i64 0, .int .i64 0, .int .i64 er.c].toArray, .bool true]) ∧ Fr [] w w' := by
  cases er with
  | no => exact h.elim
  | one l a c => exact of_1 g l a c w h
  | two l a l2 a2 c => obtain ⟨g2, h0, h1⟩ := h; exact of_2 g g2 l l2 a a2 c w h0 h1
set_option maxHeartbeats 8000000 in
set_option maxRecDepth 100000 in
theorem is_no (f : Er) (w : World) :
    Calls Tryd.prog 17 #[.nilIface, .agg [.int .i64 f.N, .string ⟨f.l0.toArray⟩, .string ⟨f.l1.toArray⟩, .string ⟨([] : List UInt8).toArray⟩, .string ⟨([] : List UInt8).toArray⟩, .int .i64 f.a0, .int .i64 f.a1, .int .i64 0, .int .i64 0, .int .i64 f.c].toArray] w fun e w' => e = .returned (.bool (decide (Er.no = f))) ∧ Fr [] w w' := by
  refine c_start (args := [.nilIface, _]) Tryd.func17 rfl rfl rfl ?_
  try simp only [enum, Nat.zero_add, Nat.reduceAdd]
  have hF0 := Fr.refl [] w
  refine c_seq ?_
  refine c_region ?_
  refine s_d (d_box (cs := [.int .i64 f.N, .string ⟨f.l0.toArray⟩, .string ⟨f.l1.toArray⟩, .string ⟨([] : List UInt8).toArray⟩, .string ⟨([] : List UInt8).toArray⟩, .int .i64 f.a0, .int .i64 f.a1, .int .i64 0, .int .i64 0, .int .i64 f.c]) rfl rfl) rfl rfl ?_
  rintro _ w2 ⟨g1, rfl, hg5, b3, f4⟩
  have nw6 := Nat.le_trans hF0.size hg5
  have hF7 := hF0.then0 f4
  refine s_y (y_assign rfl) rfl rfl ?_
  refine s_nil ?_
  refine n_then ?_
  refine c_seq ?_
  refine c_region ?_
  refine s_y (y_move rfl) rfl rfl ?_
  refine s_d (d_callR T.ent64 (vs := [.nilIface]) rfl (of_no _) (by rintro e w' ⟨rfl, -⟩; exact ⟨_, rfl⟩)) rfl rfl ?_
  rintro v10 w8 ⟨hv11, f9⟩
  obtain rfl := ret_inj hv11
  replace b3 := b3.fr0 f9
  have hF12 := hF7.then0 f9
  refine s_y (y_move rfl) rfl rfl ?_
  refine s_y (y_extract rfl rfl) rfl rfl ?_
  refine s_y (y_extract rfl rfl) rfl rfl ?_
  refine s_d (d_alloc (cs := [.int .i64 0, .string ⟨[].toArray⟩, .string ⟨[].toArray⟩, .string ⟨[].toArray⟩, .string ⟨[].toArray⟩, .int .i64 0, .int .i64 0, .int .i64 0, .int .i64 0, .int .i64 0]) T.zero41 rfl) rfl rfl ?_
  rintro _ w14 ⟨g13, rfl, hg17, b15, f16⟩
  have ne18 : g1 ≠ g13 := Nat.ne_of_lt (Nat.lt_of_lt_of_le b3.lt hg17)
  have nw19 := Nat.le_trans hF12.size hg17
  replace b3 := b3.fr0 f16
  have hF20 := hF12.then0 f16
  refine s_d (d_store (cs := [.int .i64 Er.no.N, .string ⟨Er.no.l0.toArray⟩, .string ⟨Er.no.l1.toArray⟩, .string ⟨([] : List UInt8).toArray⟩, .string ⟨([] : List UInt8).toArray⟩, .int .i64 Er.no.a0, .int .i64 Er.no.a1, .int .i64 0, .int .i64 0, .int .i64 Er.no.c]) (l' := [.int .i64 Er.no.N, .string ⟨Er.no.l0.toArray⟩, .string ⟨Er.no.l1.toArray⟩, .string ⟨([] : List UInt8).toArray⟩, .string ⟨([] : List UInt8).toArray⟩, .int .i64 Er.no.a0, .int .i64 Er.no.a1, .int .i64 0, .int .i64 0, .int .i64 Er.no.c]) T.ty41 rfl rfl b15 rfl rfl (ones rfl) (Nat.le_of_ble_eq_true rfl) rfl) rfl rfl ?_
  rintro _ w21 ⟨rfl, b22, f23⟩
  replace b3 := b3.fr1 f23 ne18
  clear b15
  have hF24 := hF20.thenNew f23 nw19
  refine s_y (y_assign rfl) rfl rfl ?_
  refine s_nil ?_
  refine n_then ?_
  refine c_seq ?_
  refine c_region ?_
  refine s_y (y_move rfl) rfl rfl ?_
  refine s_y (y_move rfl) rfl rfl ?_
  refine s_gy (y_ldBA (xs := [.int .i64 Er.no.N, .string ⟨Er.no.l0.toArray⟩, .string ⟨Er.no.l1.toArray⟩, .string ⟨([] : List UInt8).toArray⟩, .string ⟨([] : List UInt8).toArray⟩, .int .i64 Er.no.a0, .int .i64 Er.no.a1, .int .i64 0, .int .i64 0, .int .i64 Er.no.c]) T.ty41 rfl b22 rfl rfl) ⟨_, _, _, _, rfl, rfl, rfl, rfl⟩ rfl ?_
  refine s_gy (y_ldBA (xs := [.int .i64 f.N, .string ⟨f.l0.toArray⟩, .string ⟨f.l1.toArray⟩, .string ⟨([] : List UInt8).toArray⟩, .string ⟨([] : List UInt8).toArray⟩, .int .i64 f.a0, .int .i64 f.a1, .int .i64 0, .int .i64 0, .int .i64 f.c]) T.ty41 rfl b3 rfl rfl) ⟨_, _, _, _, rfl, rfl, rfl, rfl⟩ rfl ?_
  refine s_gy (y_eqA (eq41 Er.no f) rfl rfl rfl) ⟨_, _, _, _, rfl, rfl, rfl, rfl⟩ rfl ?_
  refine s_y (y_pick rfl rfl rfl rfl) rfl rfl ?_
  refine s_y (y_assign rfl) rfl rfl ?_
  refine s_nil ?_
  refine n_then ?_
  refine c_ret ?_
  refine fin1 (by simp) rfl rfl ?_
  exact ⟨rfl, hF24⟩

set_option maxHeartbeats 8000000 in
set_option maxRecDepth 100000 in
theorem is_f (g : Nat) (er f : Er) (w : World) (h0 : FaultAt w 138 136 39 g er) :
    Calls Tryd.prog 17 #[.iface 136 (.pointer (some ⟨g, 0, none⟩)), .agg [.int .i64 f.N, .string ⟨f.l0.toArray⟩, .string ⟨f.l1.toArray⟩, .string ⟨([] : List UInt8).toArray⟩, .string ⟨([] : List UInt8).toArray⟩, .int .i64 f.a0, .int .i64 f.a1, .int .i64 0, .int .i64 0, .int .i64 f.c].toArray] w fun e w' => e = .returned (.bool (decide (er = f))) ∧ Fr [] w w' := by
  refine c_start (args := [.iface 136 (.pointer (some ⟨g, 0, none⟩)), _]) Tryd.func17 rfl rfl rfl ?_
  try simp only [enum, Nat.zero_add, Nat.reduceAdd]
  have hF0 := Fr.refl [] w
  refine c_seq ?_
  refine c_region ?_
  refine s_d (d_box (cs := [.int .i64 f.N, .string ⟨f.l0.toArray⟩, .string ⟨f.l1.toArray⟩, .string ⟨([] : List UInt8).toArray⟩, .string ⟨([] : List UInt8).toArray⟩, .int .i64 f.a0, .int .i64 f.a1, .int .i64 0, .int .i64 0, .int .i64 f.c]) rfl rfl) rfl rfl ?_
  rintro _ w2 ⟨g1, rfl, hg5, b3, f4⟩
  have nw6 := Nat.le_trans hF0.size hg5
  replace h0 := h0.fr0 f4
  have hF7 := hF0.then0 f4
  refine s_y (y_assign rfl) rfl rfl ?_
  refine s_nil ?_
  refine n_then ?_
  refine c_seq ?_
  refine c_region ?_
  refine s_y (y_move rfl) rfl rfl ?_
  refine s_d (d_callR T.ent64 (vs := [.iface 136 (.pointer (some ⟨g, 0, none⟩))]) rfl (of_f g er _ h0) (by rintro e w' ⟨rfl, -⟩; exact ⟨_, rfl⟩)) rfl rfl ?_
  rintro v10 w8 ⟨hv11, f9⟩
  obtain rfl := ret_inj hv11
  replace h0 := h0.fr0 f9
  replace b3 := b3.fr0 f9
  have hF12 := hF7.then0 f9
  refine s_y (y_move rfl) rfl rfl ?_
  refine s_y (y_extract rfl rfl) rfl rfl ?_
  refine s_y (y_extract rfl rfl) rfl rfl ?_
  refine s_d (d_alloc (cs := [.int .i64 0, .string ⟨[].toArray⟩, .string ⟨[].toArray⟩, .string ⟨[].toArray⟩, .string ⟨[].toArray⟩, .int .i64 0, .int .i64 0, .int .i64 0, .int .i64 0, .int .i64 0]) T.zero41 rfl) rfl rfl ?_
  rintro _ w14 ⟨g13, rfl, hg17, b15, f16⟩
  have ne18 : g1 ≠ g13 := Nat.ne_of_lt (Nat.lt_of_lt_of_le b3.lt hg17)
  have nw19 := Nat.le_trans hF12.size hg17
  replace h0 := h0.fr0 f16
  replace b3 := b3.fr0 f16
  have hF20 := hF12.then0 f16
  refine s_d (d_store (cs := [.int .i64 er.N, .string ⟨er.l0.toArray⟩, .string ⟨er.l1.toArray⟩, .string ⟨([] : List UInt8).toArray⟩, .string ⟨([] : List UInt8).toArray⟩, .int .i64 er.a0, .int .i64 er.a1, .int .i64 0, .int .i64 0, .int .i64 er.c]) (l' := [.int .i64 er.N, .string ⟨er.l0.toArray⟩, .string ⟨er.l1.toArray⟩, .string ⟨([] : List UInt8).toArray⟩, .string ⟨([] : List UInt8).toArray⟩, .int .i64 er.a0, .int .i64 er.a1, .int .i64 0, .int .i64 0, .int .i64 er.c]) T.ty41 rfl rfl b15 rfl rfl (ones rfl) (Nat.le_of_ble_eq_true rfl) rfl) rfl rfl ?_
  rintro _ w21 ⟨rfl, b22, f23⟩
  replace h0 := h0.fr f23 (nf_cons (nf_blk b15 (by decide)) (nf_nil _ _))
  replace b3 := b3.fr1 f23 ne18
  clear b15
  have hF24 := hF20.thenNew f23 nw19
  refine s_y (y_assign rfl) rfl rfl ?_
  refine s_nil ?_
  refine n_then ?_
  refine c_seq ?_
  refine c_region ?_
  refine s_y (y_move rfl) rfl rfl ?_
  refine s_y (y_move rfl) rfl rfl ?_
  refine s_gy (y_ldBA (xs := [.int .i64 er.N, .string ⟨er.l0.toArray⟩, .string ⟨er.l1.toArray⟩, .string ⟨([] : List UInt8).toArray⟩, .string ⟨([] : List UInt8).toArray⟩, .int .i64 er.a0, .int .i64 er.a1, .int .i64 0, .int .i64 0, .int .i64 er.c]) T.ty41 rfl b22 rfl rfl) ⟨_, _, _, _, rfl, rfl, rfl, rfl⟩ rfl ?_
  refine s_gy (y_ldBA (xs := [.int .i64 f.N, .string ⟨f.l0.toArray⟩, .string ⟨f.l1.toArray⟩, .string ⟨([] : List UInt8).toArray⟩, .string ⟨([] : List UInt8).toArray⟩, .int .i64 f.a0, .int .i64 f.a1, .int .i64 0, .int .i64 0, .int .i64 f.c]) T.ty41 rfl b3 rfl rfl) ⟨_, _, _, _, rfl, rfl, rfl, rfl⟩ rfl ?_
  refine s_gy (y_eqA (eq41 er f) rfl rfl rfl) ⟨_, _, _, _, rfl, rfl, rfl, rfl⟩ rfl ?_
  refine s_y (y_pick rfl rfl rfl rfl) rfl rfl ?_
  refine s_y (y_assign rfl) rfl rfl ?_
  refine s_nil ?_
  refine n_then ?_
  refine c_ret ?_
  refine fin1 (by simp) rfl rfl ?_
  exact ⟨rfl, hF24⟩

set_option maxHeartbeats 8000000 in
set_option maxRecDepth 100000 in
theorem failB_ok (l : By) (a c : Int) (w : World) :
    Calls Tryd.prog 18 #[.string ⟨l.toArray⟩, .int .i64 a, .int .i64 c] w fun e w' => e = .returned (.agg [.int .i64 (Er.one l a c).N, .string ⟨(Er.one l a c).l0.toArray⟩, .string ⟨(Er.one l a c).l1.toArray⟩, .string ⟨([] : List UInt8).toArray⟩, .string ⟨([] : List UInt8).toArray⟩, .int .i64 (Er.one l a c).a0, .int .i64 (Er.one l a c).a1, .int .i64 0, .int .i64 0, .int .i64 (Er.one l a c).c].toArray) ∧ Fr [] w w' := by
  refine c_start (args := [.string ⟨l.toArray⟩, .int .i64 a, .int .i64 c]) Tryd.func18 rfl rfl rfl ?_
  try simp only [enum, Nat.zero_add, Nat.reduceAdd]
  have hF0 := Fr.refl [] w
  refine c_seq ?_
  refine c_region ?_
  refine s_d (d_alloc (cs := [.int .i64 0, .string ⟨[].toArray⟩, .string ⟨[].toArray⟩, .string ⟨[].toArray⟩, .string ⟨[].toArray⟩, .int .i64 0, .int .i64 0, .int .i64 0, .int .i64 0, .int .i64 0]) T.zero41 rfl) rfl rfl ?_
  rintro _ w2 ⟨g1, rfl, hg5, b3, f4⟩
  have nw6 := Nat.le_trans hF0.size hg5
  have hF7 := hF0.then0 f4
  refine s_nil ?_
  refine n_then ?_
  refine c_seq ?_
  refine c_region ?_
  refine s_y (y_move rfl) rfl rfl ?_
  refine s_y (y_build (vs := [(0, .int .i64 1), (3, .int .i64 c)]) rfl (by apply T.lit8)) rfl rfl ?_
  refine s_d (d_alloc (cs := [.int .i64 0, .string ⟨[].toArray⟩, .string ⟨[].toArray⟩, .string ⟨[].toArray⟩, .string ⟨[].toArray⟩, .int .i64 0, .int .i64 0, .int .i64 0, .int .i64 0, .int .i64 0]) T.zero41 rfl) rfl rfl ?_
  rintro _ w9 ⟨g8, rfl, hg12, b10, f11⟩
  have ne13 : g1 ≠ g8 := Nat.ne_of_lt (Nat.lt_of_lt_of_le b3.lt hg12)
  have nw14 := Nat.le_trans hF7.size hg12
  replace b3 := b3.fr0 f11
  have hF15 := hF7.then0 f11
  refine s_d (d_store (cs := [.int .i64 1, .string ⟨[].toArray⟩, .string ⟨[].toArray⟩, .string ⟨[].toArray⟩, .string ⟨[].toArray⟩, .int .i64 0, .int .i64 0, .int .i64 0, .int .i64 0, .int .i64 c]) (l' := [.int .i64 1, .string ⟨[].toArray⟩, .string ⟨[].toArray⟩, .string ⟨[].toArray⟩, .string ⟨[].toArray⟩, .int .i64 0, .int .i64 0, .int .i64 0, .int .i64 0, .int .i64 c]) T.ty41 rfl rfl b10 rfl rfl (ones rfl) (Nat.le_of_ble_eq_true rfl) rfl) rfl rfl ?_
  rintro _ w16 ⟨rfl, b17, f18⟩
  replace b3 := b3.fr1 f18 ne13
  clear b10
  have hF19 := hF15.thenNew f18 nw14
  refine s_nil ?_
  refine n_then ?_
  refine c_seq ?_
  refine c_region ?_
  refine s_y (y_move rfl) rfl rfl ?_
  refine s_y (y_move rfl) rfl rfl ?_
  refine s_y (y_field rfl T.fld41_1 rfl) rfl rfl ?_
  refine s_y (y_indexArr (r := 1) Tryd.underlying37 T.ty9 rfl rfl (by decide) (by decide) rfl) rfl rfl ?_
  refine s_d (d_store (cs := [.string ⟨l.toArray⟩]) (l' := [.int .i64 1, .string ⟨l.toArray⟩, .string ⟨[].toArray⟩, .string ⟨[].toArray⟩, .string ⟨[].toArray⟩, .int .i64 0, .int .i64 0, .int .i64 0, .int .i64 0, .int .i64 c]) T.ty9 rfl rfl b17 rfl rfl (ones rfl) (Nat.le_of_ble_eq_true rfl) rfl) rfl rfl ?_
  rintro _ w20 ⟨rfl, b21, f22⟩
  replace b3 := b3.fr1 f22 ne13
  clear b17
  have hF23 := hF19.thenNew f22 nw14
  refine s_y (y_field rfl T.fld41_2 rfl) rfl rfl ?_
  refine s_y (y_indexArr (r := 5) Tryd.underlying38 T.ty3 rfl rfl (by decide) (by decide) rfl) rfl rfl ?_
  refine s_d (d_store (cs := [.int .i64 a]) (l' := [.int .i64 1, .string ⟨l.toArray⟩, .string ⟨[].toArray⟩, .string ⟨[].toArray⟩, .string ⟨[].toArray⟩, .int .i64 a, .int .i64 0, .int .i64 0, .int .i64 0, .int .i64 c]) T.ty3 rfl rfl b21 rfl rfl (ones rfl) (Nat.le_of_ble_eq_true rfl) rfl) rfl rfl ?_
  rintro _ w24 ⟨rfl, b25, f26⟩
  replace b3 := b3.fr1 f26 ne13
  clear b21
  have hF27 := hF23.thenNew f26 nw14
  refine s_nil ?_
  refine n_then ?_
  refine c_seq ?_
  refine c_region ?_
  refine s_y (y_ldBA (xs := [.int .i64 1, .string ⟨l.toArray⟩, .string ⟨[].toArray⟩, .string ⟨[].toArray⟩, .string ⟨[].toArray⟩, .int .i64 a, .int .i64 0, .int .i64 0, .int .i64 0, .int .i64 c]) T.ty41 rfl b25 rfl rfl) rfl rfl ?_
  refine s_d (d_store (cs := [.int .i64 1, .string ⟨l.toArray⟩, .string ⟨[].toArray⟩, .string ⟨[].toArray⟩, .string ⟨[].toArray⟩, .int .i64 a, .int .i64 0, .int .i64 0, .int .i64 0, .int .i64 c]) (l' := [.int .i64 1, .string ⟨l.toArray⟩, .string ⟨[].toArray⟩, .string ⟨[].toArray⟩, .string ⟨[].toArray⟩, .int .i64 a, .int .i64 0, .int .i64 0, .int .i64 0, .int .i64 c]) T.ty41 rfl rfl b3 rfl rfl (ones rfl) (Nat.le_of_ble_eq_true rfl) rfl) rfl rfl ?_
  rintro _ w28 ⟨rfl, b29, f30⟩
  replace b25 := b25.fr1 f30 ne13.symm
  clear b3
  have hF31 := hF27.thenNew f30 nw6
  refine s_nil ?_
  refine n_then ?_
  refine c_ret ?_
  refine fin1 (by simp) rfl (rv_A (xs := [.int .i64 1, .string ⟨l.toArray⟩, .string ⟨[].toArray⟩, .string ⟨[].toArray⟩, .string ⟨[].toArray⟩, .int .i64 a, .int .i64 0, .int .i64 0, .int .i64 0, .int .i64 c]) T.ty41 rfl b29 rfl rfl) ?_
  exact ⟨rfl, hF31⟩

set_option maxHeartbeats 8000000 in
set_option maxRecDepth 100000 in
theorem byteOf_ok (n : Int) (w : World) :
    Calls Tryd.prog 65 #[.int .i64 n] w fun e w' => e = .returned (.tuple #[.int .u8 ↑(lowI n).toNat, .bool (small n)]) ∧ Fr [] w w' := by
  refine c_start (args := [.int .i64 n]) Tryd.func65 rfl rfl rfl ?_
  try simp only [enum, Nat.zero_add, Nat.reduceAdd]
  have hF0 := Fr.refl [] w
  refine c_seq ?_
  refine c_region ?_
  refine s_y (y_assign rfl) rfl rfl ?_
  refine s_y (y_assign rfl) rfl rfl ?_
  refine s_nil ?_
  refine n_then ?_
  refine c_seq ?_
  refine c_region ?_
  refine s_y (y_move rfl) rfl rfl ?_
  refine s_y (y_conv (r := ↑(lowI n).toNat) Tryd.underlying3 Tryd.underlying5 rfl (conv_lowI _)) rfl rfl ?_
  refine s_y (y_move rfl) rfl rfl ?_
  refine s_y (y_geq rfl rfl rfl) rfl rfl ?_
  refine s_y (y_move rfl) rfl rfl ?_
  refine wl_bool (decide ((0 : Int) ≤ n)) ?_ ?_
  · intro hb1
    rw [hb1]
    have hp2 : (0 : Int) ≤ n := of_decide_eq_true hb1
    clear hb1
    refine s_gy (y_move rfl) ⟨_, _, _, _, rfl, rfl, rfl, rfl⟩ rfl ?_
    refine s_gy (y_leq rfl rfl rfl) ⟨_, _, _, _, rfl, rfl, rfl, rfl⟩ rfl ?_
    refine s_y (y_pick rfl rfl rfl rfl) rfl rfl ?_
    refine s_y (y_assign rfl) rfl rfl ?_
    refine s_y (y_assign rfl) rfl rfl ?_
    refine s_nil ?_
    refine n_then ?_
    refine c_ret ?_
    refine fin2 (by simp) rfl rfl rfl ?_
    exact ⟨by rw [show small n = decide ((n : Int) ≤ 255) from (by unfold small; rw [decide_eq_true (p := 0 ≤ n) (by omega)]; rfl)] <;> rfl, hF0⟩
  · intro hb1
    rw [hb1]
    have hp3 : ¬ ((0 : Int) ≤ n) := of_decide_eq_false hb1
    clear hb1
    refine s_skip ⟨_, _, _, _, rfl, rfl, rfl, rfl⟩ rfl ?_
    refine s_skip ⟨_, _, _, _, rfl, rfl, rfl, rfl⟩ rfl ?_
    refine s_y (y_pick rfl rfl rfl rfl) rfl rfl ?_
    refine s_y (y_assign rfl) rfl rfl ?_
    refine s_y (y_assign rfl) rfl rfl ?_
    refine s_nil ?_
    refine n_then ?_
    refine c_ret ?_
    refine fin2 (by simp) rfl rfl rfl ?_
    exact ⟨by rw [show small n = false from (by unfold small; rw [decide_eq_false (p := 0 ≤ n) (by omega)]; rfl)] <;> rfl, hF0⟩

set_option maxHeartbeats 8000000 in
set_option maxRecDepth 100000 in
theorem check_ok (h : Hs) (w : World) (hn : h.n.length ≤ 9223372036854775807) (hG : Gl w) :
    Calls Tryd.prog 66 #[.agg [.int .u8 ↑h.ad.a.toNat, .int .u8 ↑h.ad.b.toNat, .int .u8 ↑h.ad.c.toNat, .int .u8 ↑h.ad.d.toNat, .string ⟨h.n.toArray⟩].toArray] w fun e w' => e = .returned (.bool (hostOk h)) ∧ Fr [] w w' := by
  have hG4 := hG.lt
  refine c_start (args := [_]) Tryd.func66 rfl rfl rfl ?_
  try simp only [enum, Nat.zero_add, Nat.reduceAdd]
  have hF0 := Fr.refl [] w
  refine c_seq ?_
  refine c_region ?_
  refine s_d (d_box (cs := [.int .u8 ↑h.ad.a.toNat, .int .u8 ↑h.ad.b.toNat, .int .u8 ↑h.ad.c.toNat, .int .u8 ↑h.ad.d.toNat, .string ⟨h.n.toArray⟩]) rfl rfl) rfl rfl ?_
  rintro _ w2 ⟨g1, rfl, hg5, b3, f4⟩
  have nw6 := Nat.le_trans hF0.size hg5
  replace hG := hG.fr0 f4
  have hF7 := hF0.then0 f4
  refine s_y (y_assign rfl) rfl rfl ?_
  refine s_nil ?_
  refine n_then ?_
  refine c_seq ?_
  refine c_seq ?_
  refine c_region ?_
  refine s_y (y_field rfl T.fld27_1 rfl) rfl rfl ?_
  refine s_y (y_ldB T.ty9 rfl b3 rfl) rfl rfl ?_
  refine s_y (y_seql rfl rfl rfl) rfl rfl ?_
  refine s_nil ?_
  refine n_then ?_
  refine c_cond rfl ?_ ?_
  · intro h8
    replace h8 : h.n = ([] : List UInt8) := of_decide_eq_true h8
    refine c_seq ?_
    refine c_region ?_
    refine s_y (y_assign rfl) rfl rfl ?_
    refine s_nil ?_
    refine n_then ?_
    refine c_ret ?_
    refine r_then ?_
    refine fin1 (by simp) rfl rfl ?_
    exact ⟨by rw [show hostOk h = true from (by unfold hostOk; rw [decide_eq_true (p := h.n = []) (by assumption)]; rfl)] <;> rfl, hF7⟩
  · intro h9
    replace h9 : ¬ (h.n = ([] : List UInt8)) := of_decide_eq_false h9
    refine c_skip ?_
    refine n_then ?_
    refine c_seq ?_
    refine c_region ?_
    refine s_y (y_field rfl T.fld27_1 rfl) rfl rfl ?_
    refine s_y (y_ldB T.ty9 rfl b3 rfl) rfl rfl ?_
    refine s_d (d_callR T.ent94 (vs := [.string ⟨h.n.toArray⟩]) rfl (name94_ok h.n _ (by omega) hG) (by rintro e w' ⟨_, rfl, -⟩; exact ⟨_, rfl⟩)) rfl rfl ?_
    rintro v18 w16 ⟨v10, hv19, f17, ha20⟩
    obtain rfl := ret_inj hv19
    rcases ha20 with ⟨hno11, rfl⟩ | ⟨gE12, rfl, hg13, hfa14⟩
    ·
      replace hG := hG.fr0 f17
      replace b3 := b3.fr0 f17
      have hF21 := hF7.then0 f17
      refine s_y (y_move rfl) rfl rfl ?_
      refine s_y (y_extract rfl rfl) rfl rfl ?_
      refine s_y (y_extract rfl rfl) rfl rfl ?_
      refine s_y (y_assign rfl) rfl rfl ?_
      refine s_y (y_assign rfl) rfl rfl ?_
      refine s_nil ?_
      refine n_then ?_
      refine c_seq ?_
      refine c_region ?_
      refine s_y (y_move rfl) rfl rfl ?_
      refine s_y (y_ii Tryd.underlying31 rfl) rfl rfl ?_
      refine s_y (y_move rfl) rfl rfl ?_
      refine s_gy (y_move rfl) ⟨_, _, _, _, rfl, rfl, rfl, rfl⟩ rfl ?_
      refine s_gy (y_field rfl T.fld27_1 rfl) ⟨_, _, _, _, rfl, rfl, rfl, rfl⟩ rfl ?_
      refine s_gy (y_ldB T.ty9 rfl b3 rfl) ⟨_, _, _, _, rfl, rfl, rfl, rfl⟩ rfl ?_
      refine s_gy (y_seql rfl rfl rfl) ⟨_, _, _, _, rfl, rfl, rfl, rfl⟩ rfl ?_
      refine s_y (y_pick rfl rfl rfl rfl) rfl rfl ?_
      refine s_y (y_move rfl) rfl rfl ?_
      refine wl_bool (decide ((nameL h.n).1 = h.n)) ?_ ?_
      · intro hb22
        rw [hb22]
        have hp23 : (nameL h.n).1 = h.n := of_decide_eq_true hb22
        clear hb22
        refine s_gy (y_field rfl T.fld27_0 rfl) ⟨_, _, _, _, rfl, rfl, rfl, rfl⟩ rfl ?_
        refine s_gy (y_ldBA (xs := [.int .u8 ↑h.ad.a.toNat, .int .u8 ↑h.ad.b.toNat, .int .u8 ↑h.ad.c.toNat, .int .u8 ↑h.ad.d.toNat]) T.ty25 rfl b3 rfl rfl) ⟨_, _, _, _, rfl, rfl, rfl, rfl⟩ rfl ?_
        refine s_gy (y_build (vs := []) rfl (T.bz25 _)) ⟨_, _, _, _, rfl, rfl, rfl, rfl⟩ rfl ?_
        refine s_gy (y_eqA (eq25 h.ad Ad.zero) rfl rfl rfl) ⟨_, _, _, _, rfl, rfl, rfl, rfl⟩ rfl ?_
        refine s_y (y_pick rfl rfl rfl rfl) rfl rfl ?_
        refine s_y (y_assign rfl) rfl rfl ?_
        refine s_nil ?_
        refine n_then ?_
        refine c_ret ?_
        refine fin1 (by simp) rfl rfl ?_
        exact ⟨by rw [show hostOk h = decide (h.ad = Ad.zero) from (by unfold hostOk; rw [decide_eq_false (p := h.n = []) (by assumption)]; first | (rw [decide_eq_false (p := (nameL h.n).2 = .no) (by assumption)]; rfl) | (rw [decide_eq_true (p := (nameL h.n).2 = .no) (by assumption), decide_eq_false (p := (nameL h.n).1 = h.n) (by assumption)]; rfl) | (rw [decide_eq_true (p := (nameL h.n).2 = .no) (by assumption), decide_eq_true (p := (nameL h.n).1 = h.n) (by assumption)]; rfl))] <;> rfl, hF21⟩
      · intro hb22
        rw [hb22]
        have hp24 : ¬ ((nameL h.n).1 = h.n) := of_decide_eq_false hb22
        clear hb22
        refine s_skip ⟨_, _, _, _, rfl, rfl, rfl, rfl⟩ rfl ?_
        refine s_skip ⟨_, _, _, _, rfl, rfl, rfl, rfl⟩ rfl ?_
        refine s_skip ⟨_, _, _, _, rfl, rfl, rfl, rfl⟩ rfl ?_
        refine s_skip ⟨_, _, _, _, rfl, rfl, rfl, rfl⟩ rfl ?_
        refine s_y (y_pick rfl rfl rfl rfl) rfl rfl ?_
        refine s_y (y_assign rfl) rfl rfl ?_
        refine s_nil ?_
        refine n_then ?_
        refine c_ret ?_
        refine fin1 (by simp) rfl rfl ?_
        exact ⟨by rw [show hostOk h = false from (by unfold hostOk; rw [decide_eq_false (p := h.n = []) (by assumption)]; first | (rw [decide_eq_false (p := (nameL h.n).2 = .no) (by assumption)]; rfl) | (rw [decide_eq_true (p := (nameL h.n).2 = .no) (by assumption), decide_eq_false (p := (nameL h.n).1 = h.n) (by assumption)]; rfl) | (rw [decide_eq_true (p := (nameL h.n).2 = .no) (by assumption), decide_eq_true (p := (nameL h.n).1 = h.n) (by assumption)]; rfl))] <;> rfl, hF21⟩
    ·
      have ne25 : g1 ≠ gE12 := Nat.ne_of_lt (Nat.lt_of_lt_of_le b3.lt hg13)
      have nw26 := Nat.le_trans hF7.size hg13
      replace hG := hG.fr0 f17
      replace b3 := b3.fr0 f17
      have hF27 := hF7.then0 f17
      have hne30 := hfa14.ne
      obtain ⟨x28, y29, hx15⟩ := name_one h.n hne30
      rw [hx15] at hfa14
      refine s_y (y_move rfl) rfl rfl ?_
      refine s_y (y_extract rfl rfl) rfl rfl ?_
      refine s_y (y_extract rfl rfl) rfl rfl ?_
      refine s_y (y_assign rfl) rfl rfl ?_
      refine s_y (y_assign rfl) rfl rfl ?_
      refine s_nil ?_
      refine n_then ?_
      refine c_seq ?_
      refine c_region ?_
      refine s_y (y_move rfl) rfl rfl ?_
      refine s_y (y_in Tryd.underlying31 rfl rfl) rfl rfl ?_
      refine s_y (y_move rfl) rfl rfl ?_
      refine s_skip ⟨_, _, _, _, rfl, rfl, rfl, rfl⟩ rfl ?_
      refine s_skip ⟨_, _, _, _, rfl, rfl, rfl, rfl⟩ rfl ?_
      refine s_skip ⟨_, _, _, _, rfl, rfl, rfl, rfl⟩ rfl ?_
      refine s_skip ⟨_, _, _, _, rfl, rfl, rfl, rfl⟩ rfl ?_
      refine s_y (y_pick rfl rfl rfl rfl) rfl rfl ?_
      refine s_y (y_move rfl) rfl rfl ?_
      refine s_skip ⟨_, _, _, _, rfl, rfl, rfl, rfl⟩ rfl ?_
      refine s_skip ⟨_, _, _, _, rfl, rfl, rfl, rfl⟩ rfl ?_
      refine s_skip ⟨_, _, _, _, rfl, rfl, rfl, rfl⟩ rfl ?_
      refine s_skip ⟨_, _, _, _, rfl, rfl, rfl, rfl⟩ rfl ?_
      refine s_y (y_pick rfl rfl rfl rfl) rfl rfl ?_
      refine s_y (y_assign rfl) rfl rfl ?_
      refine s_nil ?_
      refine n_then ?_
      refine c_ret ?_
      refine fin1 (by simp) rfl rfl ?_
      have hne := hfa14.ne
      exact ⟨by rw [show hostOk h = false from (by unfold hostOk; rw [decide_eq_false (p := h.n = []) (by assumption)]; first | (rw [decide_eq_false (p := (nameL h.n).2 = .no) (by assumption)]; rfl) | (rw [decide_eq_true (p := (nameL h.n).2 = .no) (by assumption), decide_eq_false (p := (nameL h.n).1 = h.n) (by assumption)]; rfl) | (rw [decide_eq_true (p := (nameL h.n).2 = .no) (by assumption), decide_eq_true (p := (nameL h.n).1 = h.n) (by assumption)]; rfl))] <;> rfl, hF27⟩

end Go.Proofs.YtcnepgnfecoeoaaDoor
