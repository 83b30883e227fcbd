/- The audit log's small functions. No condition. -/
import Derived.Test.YtojbephcahnbbaaDoorD
import Derived.Test.YtojbephcahnbbaaDoorAT
import Derived.Test.YtojbephcahnbbaaDoorProg
set_option linter.unusedVariables false
set_option linter.unusedSimpArgs false
namespace Go.Proofs.YtojbephcahnbbaaDoor
open Go Go.Proofs.GP Go.Proofs.Tryd
set_option maxRecDepth 100000 in
theorem last_ok (A : Option Addr) (g o c : Nat) (es : List Ent) (w : World) (hlen : es.length ≤ 9223372036854775807) (hr : Row w A g o es.length 34 (ents es)) :
    Calls Tryd.prog 27 #[.slice A es.length c] w fun e w' => e = .returned (.agg (lastE es).cells.toArray) ∧ Fr [] w w' := by
  refine c_start (args := [.slice A es.length c]) Tryd.func27 rfl rfl rfl ?_
  try simp only [enum, Nat.zero_add, Nat.reduceAdd]
  have hF0 := Fr.refl [] w
  have lt_hr := hr.lt'
  refine c_seq ?_
  refine c_region ?_
  refine s_d (d_alloc (cs := ([.int .i64 0, .string ⟨[].toArray⟩] : List Value) ++ Dig.zero.cells) T.zero28 rfl) rfl rfl ?_
  rintro _ w2 ⟨g1, rfl, hg5, b3, f4⟩
  have ne6 := row_ne_new hr hg5
  have nw7 := Nat.le_trans hF0.size hg5
  replace hr := hr.fr0 f4
  have hF8 := hF0.then0 f4
  refine s_nil ?_
  refine n_then ?_
  refine c_seq ?_
  refine c_seq ?_
  refine c_region ?_
  refine s_y (y_move rfl) rfl rfl ?_
  refine s_y (y_len Tryd.underlying25 rfl) rfl rfl ?_
  refine s_y (y_eql rfl rfl rfl) rfl rfl ?_
  refine s_nil ?_
  refine n_then ?_
  refine c_cond rfl ?_ ?_
  · intro h9
    replace h9 : (↑es.length : Int) = 0 := of_decide_eq_true h9
    refine c_seq ?_
    refine c_region ?_
    refine s_y (y_build (vs := []) rfl (T.bz28 _)) rfl rfl ?_
    refine s_d (d_store (cs := ([.int .i64 0, .string ⟨[].toArray⟩] : List Value) ++ Dig.zero.cells) (l' := ([.int .i64 0, .string ⟨[].toArray⟩] : List Value) ++ Dig.zero.cells) T.ty28 rfl rfl b3 rfl (by simp [Dig.len]) (ones (by simp [all_bv, all_u32, all_ent, all_dig, all_ents])) (by simp [Dig.len, Dig.len]) (setL_all (by simp [Dig.len, Dig.len]))) rfl rfl ?_
    rintro _ w10 ⟨rfl, b11, f12⟩
    replace hr := hr.fr1 f12 ne6
    clear b3
    have hF13 := hF8.thenNew f12 nw7
    refine s_nil ?_
    refine n_then ?_
    refine c_ret ?_
    refine r_then ?_
    refine fin1 (by simp) rfl (rv_A (xs := ([.int .i64 0, .string ⟨[].toArray⟩] : List Value) ++ Dig.zero.cells) T.ty28 rfl b11 (by simp [Dig.len]) (take_all _ (by simp [Dig.len]))) ?_
    exact ⟨by rw [show es = [] from List.eq_nil_of_length_eq_zero (by omega)]; rfl, hF13⟩
  · intro h14
    replace h14 : ¬ ((↑es.length : Int) = 0) := of_decide_eq_false h14
    refine c_skip ?_
    refine n_then ?_
    refine c_seq ?_
    refine c_region ?_
    refine s_y (y_move rfl) rfl rfl ?_
    refine s_y (y_move rfl) rfl rfl ?_
    refine s_y (y_len Tryd.underlying25 rfl) rfl rfl ?_
    refine s_y (y_sub rfl rfl (wrI (by omega) (by omega))) rfl rfl ?_
    refine s_y (y_index (r := o + (es.length - 1) * 34) Tryd.underlying25 T.ty28 rfl rfl (hr.addr (j := (es.length - 1) * 34) (by rw [ents_len]; omega)) (by omega) (by omega) (by omega)) rfl rfl ?_
    refine s_y (y_ldRA (xs := ((es.getD (es.length - 1) Ent.zero).cells)) (j := (es.length - 1) * 34) T.ty28 rfl hr (by first | rfl | omega) (Ent.len _) (ents_w es (es.length - 1) (by omega))) rfl rfl ?_
    refine s_d (d_store (cs := ((es.getD (es.length - 1) Ent.zero).cells)) (l' := ((es.getD (es.length - 1) Ent.zero).cells)) T.ty28 rfl rfl b3 rfl (by simp [Ent.len]) (ones (by simp [all_bv, all_u32, all_ent, all_dig, all_ents])) (by simp [Dig.len, Ent.len]) (setL_all (by simp [Dig.len, Ent.len]))) rfl rfl ?_
    rintro _ w15 ⟨rfl, b16, f17⟩
    replace hr := hr.fr1 f17 ne6
    clear b3
    have hF18 := hF8.thenNew f17 nw7
    refine s_nil ?_
    refine n_then ?_
    refine c_ret ?_
    refine fin1 (by simp) rfl (rv_A (xs := ((es.getD (es.length - 1) Ent.zero).cells)) T.ty28 rfl b16 (by simp [Ent.len]) (take_all _ (by simp [Ent.len]))) ?_
    exact ⟨by rw [show lastE es = es.getD (es.length - 1) Ent.zero from lastE_w es (by omega)], hF18⟩

end Go.Proofs.YtojbephcahnbbaaDoor
