/- The law AuditAdds: the walk. No condition. -/
import Derived.Test.YtojbephcahnbbaaDoorQ
import Derived.Test.YtojbephcahnbbaaDoorJ
import Derived.Test.YtojbephcahnbbaaDoorRT
import Derived.Test.YtojbephcahnbbaaDoorProg
set_option linter.unusedVariables false
set_option linter.unusedSimpArgs false
namespace Go.Proofs.YtojbephcahnbbaaDoor
open Go Go.Proofs.GP Go.Proofs.Tryd
set_option maxRecDepth 100000 in
theorem entriesC_ok (p : Nat) (w : World) (hp : Blk w p 39 [.slice none 0 0, .bool false]) :
    Calls Tryd.prog 11 #[.pointer (some ⟨p, 0, none⟩)] w fun e w' => ∃ A' c', e = .returned (.slice A' 0 c') ∧ Fr [] w w' := by
  refine c_start (args := [.pointer (some ⟨p, 0, none⟩)]) Tryd.func11 rfl rfl rfl ?_
  try simp only [enum, Nat.zero_add, Nat.reduceAdd]
  have hF0 := Fr.refl [] w
  have lt_hp := hp.lt
  refine c_seq ?_
  refine c_region ?_
  refine s_y (y_assign rfl) rfl rfl ?_
  refine s_nil ?_
  refine n_then ?_
  refine c_seq ?_
  refine c_seq ?_
  refine c_region ?_
  refine s_y (y_move rfl) rfl rfl ?_
  refine s_y (y_pn Tryd.underlying23 rfl rfl) rfl rfl ?_
  refine s_nil ?_
  refine n_then ?_
  refine c_false rfl ?_
  refine c_skip ?_
  refine n_then ?_
  refine c_seq ?_
  refine c_region ?_
  refine s_y (y_move rfl) rfl rfl ?_
  refine s_y (y_nilCheck rfl) rfl rfl ?_
  refine s_y (y_field rfl T.fld39_0 rfl) rfl rfl ?_
  refine s_y (y_ldB (v := .slice none 0 0) T.ty25 rfl hp rfl) rfl rfl ?_
  refine s_d (d_callR T.ent25 (vs := [.slice none 0 0]) rfl (clone25_ok none 0 0 0 [] _ (by decide) (Row.nil _ _ _ _ _)) (by rintro e w' ⟨_, _, _, rfl, -⟩; exact ⟨_, rfl⟩)) rfl rfl ?_
  rintro v8 w6 ⟨A1, g2, c3, hv9, f7, o4, wh5⟩
  obtain rfl := ret_inj hv9
  replace hp := hp.fr0 f7
  have hF10 := hF0.then0 f7
  refine s_y (y_assign rfl) rfl rfl ?_
  refine s_nil ?_
  refine n_then ?_
  refine c_ret ?_
  refine fin1 (by simp) rfl rfl ?_
  exact ⟨_, _, rfl, hF10⟩

set_option maxRecDepth 100000 in
theorem headC_ok (p : Nat) (w : World) (hp : Blk w p 39 [.slice none 0 0, .bool false]) :
    Calls Tryd.prog 13 #[.pointer (some ⟨p, 0, none⟩)] w fun e w' => e = .returned (.agg Dig.zero.cells.toArray) ∧ Fr [] w w' := by
  refine c_start (args := [.pointer (some ⟨p, 0, none⟩)]) Tryd.func13 rfl rfl rfl ?_
  try simp only [enum, Nat.zero_add, Nat.reduceAdd]
  have hF0 := Fr.refl [] w
  have lt_hp := hp.lt
  refine c_seq ?_
  refine c_region ?_
  refine s_d (d_alloc (cs := Dig.zero.cells) T.zero26 rfl) rfl rfl ?_
  rintro _ w2 ⟨g1, rfl, hg5, b3, f4⟩
  have ne6 : p ≠ g1 := Nat.ne_of_lt (Nat.lt_of_lt_of_le hp.lt hg5)
  have nw7 := Nat.le_trans hF0.size hg5
  replace hp := hp.fr0 f4
  have hF8 := hF0.then0 f4
  refine s_nil ?_
  refine n_then ?_
  refine c_seq ?_
  refine c_seq ?_
  refine c_region ?_
  refine s_y (y_move rfl) rfl rfl ?_
  refine s_y (y_pn Tryd.underlying23 rfl rfl) rfl rfl ?_
  refine s_nil ?_
  refine n_then ?_
  refine c_false rfl ?_
  refine c_skip ?_
  refine n_then ?_
  refine c_seq ?_
  refine c_region ?_
  refine s_y (y_move rfl) rfl rfl ?_
  refine s_y (y_nilCheck rfl) rfl rfl ?_
  refine s_y (y_field rfl T.fld39_0 rfl) rfl rfl ?_
  refine s_y (y_ldB (v := .slice none 0 0) T.ty25 rfl hp rfl) rfl rfl ?_
  refine s_d (d_callR T.ent27 (vs := [.slice none 0 0]) rfl (last_ok none 0 0 0 [] _ (by decide) (Row.nil _ _ _ _ _)) (by rintro e w' ⟨rfl, -⟩; exact ⟨_, rfl⟩)) rfl rfl ?_
  rintro v11 w9 ⟨hv12, f10⟩
  obtain rfl := ret_inj hv12
  replace hp := hp.fr0 f10
  replace b3 := b3.fr0 f10
  have hF13 := hF8.then0 f10
  refine s_y (y_fieldA (xs := Dig.zero.cells) T.flv28_2 T.ty26 rfl (take_all Dig.zero.cells (by simp [Dig.len]))) rfl rfl ?_
  refine s_d (d_store (cs := Dig.zero.cells) (l' := Dig.zero.cells) T.ty26 rfl rfl b3 rfl (by simp [Dig.len]) (ones (by simp [all_bv, all_u32, all_ent, all_dig, all_ents])) (by simp [Dig.len, Dig.len]) (setL_all (by simp [Dig.len, Dig.len]))) rfl rfl ?_
  rintro _ w14 ⟨rfl, b15, f16⟩
  replace hp := hp.fr1 f16 ne6
  clear b3
  have hF17 := hF13.thenNew f16 nw7
  refine s_nil ?_
  refine n_then ?_
  refine c_ret ?_
  refine fin1 (by simp) rfl (rv_A (xs := Dig.zero.cells) T.ty26 rfl b15 (by simp [Dig.len]) (take_all _ (by simp [Dig.len]))) ?_
  exact ⟨rfl, hF17⟩

set_option maxHeartbeats 8000000 in
set_option maxRecDepth 100000 in
theorem adds_ok (N : Option Addr) (gn on cn : Nat) (ns : List Note) (w : World) (hns : ∀ x, x ∈ ns → x.ok) (hnl : ns.length ≤ 9223372036854775807) (hn : Row w N gn on ns.length 2 (notes ns)) (hG : Gl w) :
    Calls Tryd.prog 3 #[.slice N ns.length cn] w fun e w' => e = .returned (.bool true) ∧ Fr [] w w' := by
  have hz4 : 4 ≤ w.heap.size := hG.s
  refine c_start (args := [.slice N ns.length cn]) Tryd.func3 rfl rfl rfl ?_
  try simp only [enum, Nat.zero_add, Nat.reduceAdd]
  have hF0 := Fr.refl [] w
  have lt_hn := hn.lt'
  refine c_seq ?_
  refine c_region ?_
  refine s_y (y_assign rfl) rfl rfl ?_
  refine s_nil ?_
  refine n_then ?_
  refine c_seq ?_
  refine c_region ?_
  refine s_d (d_callR T.ent7 (vs := []) rfl (new7_ok _) (by rintro e w' ⟨_, rfl, -⟩; exact ⟨_, rfl⟩)) rfl rfl ?_
  rintro v6 w4 ⟨p1, hv7, f5, hp2, bl3⟩
  obtain rfl := ret_inj hv7
  have ne8 := row_ne_new hn hp2
  have nw9 := Nat.le_trans hF0.size hp2
  replace hn := hn.fr0 f5
  replace hG := hG.fr0 f5
  have hF10 := hF0.then0 f5
  refine s_y (y_assign rfl) rfl rfl ?_
  refine s_nil ?_
  refine n_then ?_
  refine c_seq ?_
  refine c_seq ?_
  refine c_region ?_
  refine s_y (y_move rfl) rfl rfl ?_
  refine s_y (y_pn Tryd.underlying23 rfl rfl) rfl rfl ?_
  refine s_nil ?_
  refine n_then ?_
  refine c_false rfl ?_
  refine c_skip ?_
  refine n_then ?_
  refine c_seq ?_
  refine c_region ?_
  have hlit11 := (T.lit8 )
  refine s_d (d_bs2 hlit11 trivial) rfl rfl ?_
  rintro _ w13 ⟨g12, rfl, hg16, b14, f15⟩
  have ne17 := row_ne_new hn hg16
  have ne18 : p1 ≠ g12 := Nat.ne_of_lt (Nat.lt_of_lt_of_le bl3.lt hg16)
  have nw19 := Nat.le_trans hF10.size hg16
  replace hn := hn.fr0 f15
  replace hG := hG.fr0 f15
  replace bl3 := bl3.fr0 f15
  have hF20 := hF10.then0 f15
  have o21 := Own.of_blk (n := 0) (k := 34) b14 rfl (by decide)
  refine s_y (y_assign rfl) rfl rfl ?_
  refine s_nil ?_
  refine n_then ?_
  refine c_seq ?_
  refine c_seq ?_
  refine c_region ?_
  refine s_y (y_assign rfl) rfl rfl ?_
  refine s_nil ?_
  refine n_then ?_
  refine c_block ?_
  refine c_loop (fun m a W => ∃ i : Nat, ∃ p : Nat, ∃ gl : Nat, ∃ Al : Option Addr, ∃ cl : Nat, ∃ gw : Nat, ∃ cw : Nat, ∃ es : List Ent, m = ns.length - i ∧ GP.St 168 [(0, .slice N ns.length cn), (3, .pointer (some ⟨p, 0, none⟩)), (4, .slice (some ⟨gw, 0, none⟩) es.length cw), (5, .int .i64 ↑i)] a ∧ Fr [] w W ∧ Row W N gn on ns.length 2 (notes ns) ∧ Gl W ∧ Blk W p 39 [.slice Al es.length cl, .bool true] ∧ Own W Al gl es.length cl 28 34 (ents es) ∧ Own W (some ⟨gw, 0, none⟩) gw es.length cw 28 34 (ents es) ∧ (i ≤ ns.length) ∧ (w.heap.size ≤ p) ∧ (w.heap.size ≤ gl) ∧ (w.heap.size ≤ gw) ∧ (gl ≠ gw) ∧ (gl ≠ p) ∧ (gw ≠ p) ∧ (es.length ≤ 4096) ∧ (0 ≤ (lastE es).at_)) (ns.length) ?_ ?_
  · intro a ha
    exact ⟨0, p1, (p1 + g12 + w13.heap.size + 1), none, 0, g12, 0, [], rfl, ha.cut ⟨rfl, rfl, rfl, rfl, trivial⟩, hF20, hn, hG, bl3, (Own.nil _ _ 28 34), o21, Nat.zero_le _, nw9, (by omega), nw19, (by omega), (by omega), (by omega), (by decide), (by decide)⟩
  · rintro _ a W22 ⟨i, p, gl, Al, cl, gw, cw, es, rfl, hst24, hF25, hn, hG, hlog, hlo, hwo, hi, hpp, hgl, hgw, hlw, hlp, hwp, hes, hat⟩
    refine (show Wc _ _ _ _ _ _ from ?_) a hst24
    clear hst24 a
    have hgw_ := hwo.lt.resolve_left (by simp)
    have hpl_ := hlog.lt
    have hsz_ := hF25.size
    refine c_seq ?_
    refine c_seq ?_
    refine c_region ?_
    refine s_y (y_move rfl) rfl rfl ?_
    refine s_y (y_move rfl) rfl rfl ?_
    refine s_y (y_len Tryd.underlying22 rfl) rfl rfl ?_
    refine s_y (y_lss rfl rfl rfl) rfl rfl ?_
    refine s_nil ?_
    refine n_then ?_
    refine c_cond rfl ?_ ?_
    · intro h26
      replace h26 : (↑i : Int) < ↑ns.length := of_decide_eq_true h26
      obtain ⟨na, hna⟩ : ∃ x, x = (ns.getD i Note.zero).a := ⟨_, rfl⟩
      obtain ⟨nt, hnt⟩ : ∃ x, x = (ns.getD i Note.zero).t := ⟨_, rfl⟩
      obtain ⟨hna0, hna1, hnt1⟩ := note_ok hns i (by omega)
      rw [← hna] at hna0 hna1
      rw [← hnt] at hnt1
      have hadl := add_len es na nt (by omega)
      have hada := add_at es na nt hat
      refine c_skip ?_
      refine n_then ?_
      refine c_seq ?_
      refine c_block ?_
      refine c_cut (fun a W => ∃ pX : Nat, ∃ glX : Nat, ∃ AlX : Option Addr, ∃ clX : Nat, GP.St 168 [(0, .slice N ns.length cn), (3, .pointer (some ⟨pX, 0, none⟩)), (4, .slice (some ⟨gw, 0, none⟩) es.length cw), (5, .int .i64 ↑i)] a ∧ Fr [] w W ∧ Row W N gn on ns.length 2 (notes ns) ∧ Gl W ∧ Own W (some ⟨gw, 0, none⟩) gw es.length cw 28 34 (ents es) ∧ Blk W pX 39 [.slice AlX es.length clX, .bool true] ∧ Own W AlX glX es.length clX 28 34 (ents es) ∧ (w.heap.size ≤ pX) ∧ (w.heap.size ≤ glX) ∧ (glX ≠ gw) ∧ (glX ≠ pX) ∧ (gw ≠ pX)) ?_ ?_
      ·
        refine c_seq ?_
        refine c_region ?_
        refine s_y (y_move rfl) rfl rfl ?_
        refine s_y (y_rem (r := ↑i % 5) rfl rfl (by decide) (Int.tmod_eq_emod_of_nonneg (by omega))) rfl rfl ?_
        refine s_y (y_eql rfl rfl rfl) rfl rfl ?_
        refine s_nil ?_
        refine n_then ?_
        refine c_cond rfl ?_ ?_
        · intro h28
          replace h28 : ((↑i % 5) : Int) = 4 := of_decide_eq_true h28
          refine c_seq ?_
          refine c_region ?_
          refine s_y (y_move rfl) rfl rfl ?_
          have hlt38 := hlog.lt
          have hlt39 := hwo.lt.resolve_left (by simp)
          have hsz40 := hF25.size
          have hltL := hlo.lt
          refine s_d (d_callR T.ent8 (vs := [.pointer (some ⟨p, 0, none⟩)]) rfl (clone8_ok p gl cl Al es _ (by omega) hlog hlo) (by rintro e w' ⟨_, _, _, _, rfl, -⟩; exact ⟨_, rfl⟩)) rfl rfl ?_
          rintro v43 w41 ⟨p29, A30, g31, c32, hv44, f42, hp33, bl34, ow35, hg36, hn37⟩
          obtain rfl := ret_inj hv44
          have ne45 := row_ne_new hn hp33
          have ne46 : p ≠ p29 := Nat.ne_of_lt (Nat.lt_of_lt_of_le hlog.lt hp33)
          have ne47 := hlo.ne_new hp33
          have ne48 := hwo.ne_new hp33
          have nw49 := Nat.le_trans hF25.size hp33
          replace hn := hn.fr0 f42
          replace hG := hG.fr0 f42
          replace hlog := hlog.fr0 f42
          replace hlo := hlo.fr0 f42
          replace hwo := hwo.fr0 f42
          have hF50 := hF25.then0 f42
          refine s_y (y_assign rfl) rfl rfl ?_
          refine s_nil ?_
          refine n_then ?_
          refine c_seq ?_
          refine c_seq ?_
          refine c_region ?_
          refine s_y (y_move rfl) rfl rfl ?_
          refine s_y (y_pn Tryd.underlying23 rfl rfl) rfl rfl ?_
          refine s_nil ?_
          refine n_then ?_
          refine c_false rfl ?_
          refine c_skip ?_
          refine n_then ?_
          refine c_seq ?_
          refine c_region ?_
          refine s_y (y_move rfl) rfl rfl ?_
          obtain ⟨g51, ow52, hg53, hq54, hn55⟩ := own_pick5 (w0 := w) hlo (.inr (by omega)) hF50.size gw g31 (.inr (by omega)) (hltL.imp id fun h => by omega)
          have ne56 : g51 ≠ p := hn55 _ _ _ hlog (.inl (by decide))
          have ne57 : g51 ≠ p29 := hn55 _ _ _ bl34 (.inl (by decide))
          have hlt58 := hlog.lt
          have hlt59 := hwo.lt.resolve_left (by simp)
          have hlt60 := bl34.lt
          have hc61 := add9_ok p g51 cl Al es 1099511627776 ([115, 112, 111, 105, 108, 116] : List UInt8) _ (by omega) (by omega) (by first | decide | omega | (simp; omega)) (by first | decide | omega) (by omega) (by omega) hlog ow52 hG
          refine s_d (d_callR T.ent9 (vs := [.pointer (some ⟨p, 0, none⟩), .int .i64 1099511627776, .string ⟨([115, 112, 111, 105, 108, 116] : List UInt8).toArray⟩]) rfl (hc61) (by rintro e w' ⟨_, _, _, rfl, -⟩; exact ⟨_, rfl⟩)) rfl rfl ?_
          rintro v70 w68 ⟨A62, g63, c64, hv71, f69, bl65, ow66, wh67⟩
          obtain rfl := ret_inj hv71
          replace hn := hn.fr f69 (nin_cons (by first | exact .inr (by omega) | exact lt_hn.imp id fun h => by omega) (nin_cons (by first | exact .inr (by omega) | exact lt_hn.imp id fun h => by omega) (nin_nil _ _)))
          replace hG := hG.fr f69 (by simp; omega)
          replace hwo := hwo.fr f69 (nin_cons (.inr hwp) (nin_cons (.inr (by omega)) (nin_nil _ _)))
          replace bl34 := bl34.fr f69 (by simp only [List.mem_cons, List.not_mem_nil, or_false, not_or]; exact ⟨ne46.symm, ne57.symm⟩)
          replace ow35 := ow35.fr f69 (nin_cons (.inr (by omega)) (nin_cons (.inr (by omega)) (nin_nil _ _)))
          have hF72 := hF50.trans f69 (by simp; omega)
          have hsz78 := hF50.size
          obtain ⟨g73, ow74, hg75, hq77, hn76⟩ := own_pick4 (w0 := w) ow66 (by rcases wh67 with h | h | h; exact .inl h; exact .inr (by simp at h; omega); exact .inr (by omega)) hF72.size gw (by rcases wh67 with h | h | h; exact .inl h; exact .inr (by simp at h; omega); exact .inr (by omega))
          replace bl65 : Blk w68 p 39 [.slice A62 (((addL es 1099511627776 ([115, 112, 111, 105, 108, 116] : List UInt8)).2.2).length) c64, .bool true] := bl65
          replace ow74 : Own w68 A62 g73 (((addL es 1099511627776 ([115, 112, 111, 105, 108, 116] : List UInt8)).2.2).length) c64 28 34 (ents ((addL es 1099511627776 ([115, 112, 111, 105, 108, 116] : List UInt8)).2.2)) := ow74
          have ne79 : g73 ≠ p29 := hn76 _ _ _ bl34 (.inl (by decide))
          have ne80 : g73 ≠ p := hn76 _ _ _ bl65 (.inl (by decide))
          refine s_nil ?_
          refine n_then ?_
          refine c_region ?_
          refine s_y (y_move rfl) rfl rfl ?_
          refine s_y (y_assign rfl) rfl rfl ?_
          refine s_nil ?_
          exact fun a ha => ⟨p29, g31, A30, c32, ha.cut ⟨rfl, rfl, rfl, rfl, trivial⟩, hF72, hn, hG, hwo, bl34, ow35, (by omega), (by omega), (by omega), (by omega), (by omega)⟩
        · intro h81
          replace h81 : ¬ (((↑i % 5) : Int) = 4) := of_decide_eq_false h81
          refine c_skip ?_
          exact fun a ha => ⟨p, gl, Al, cl, ha.cut ⟨rfl, rfl, rfl, rfl, trivial⟩, hF25, hn, hG, hwo, hlog, hlo, (by omega), (by omega), (by omega), (by omega), (by omega)⟩
      · rintro a W27 ⟨pX, glX, AlX, clX, hst82, hF83, hn, hG, hwo, hlogA, hloA, hpp1, hgl1, hlw1, hlp1, hwp1⟩
        refine (show Wc _ _ _ _ _ _ from ?_) a hst82
        clear hst82 a
        have hlt84 := hwo.lt.resolve_left (by simp)
        have hlt85 := hlogA.lt
        have hsz86 := hF83.size
        refine c_cut (fun a W => ∃ glY : Nat, ∃ AlY : Option Addr, ∃ clY : Nat, ∃ gx7 : Nat, GP.St 168 [(0, .slice N ns.length cn), (3, .pointer (some ⟨pX, 0, none⟩)), (4, .slice (some ⟨gw, 0, none⟩) es.length cw), (5, .int .i64 ↑i), (7, .pointer (some ⟨gx7, 0, none⟩)), (8, .int .i64 ((addL es na nt).2.1))] a ∧ Fr [] w W ∧ Row W N gn on ns.length 2 (notes ns) ∧ Gl W ∧ Own W (some ⟨gw, 0, none⟩) gw es.length cw 28 34 (ents es) ∧ Blk W pX 39 [.slice AlY (((addL es na nt).2.2).length) clY, .bool true] ∧ Own W AlY glY (((addL es na nt).2.2).length) clY 28 34 (ents ((addL es na nt).2.2)) ∧ Blk W gx7 28 ((addL es na nt).1.cells) ∧ (w.heap.size ≤ glY) ∧ (glY ≠ gw) ∧ (glY ≠ pX) ∧ (w.heap.size ≤ gx7) ∧ (gx7 ≠ gw)) ?_ ?_
        ·
          refine dr_begin (fun W => Row W N gn on ns.length 2 (notes ns)) 16 (by kernel_rfl) ?_
          intro w88 f89
          replace hn := hn.fr0 f89
          replace hG := hG.fr0 f89
          replace hwo := hwo.fr0 f89
          replace hlogA := hlogA.fr0 f89
          replace hloA := hloA.fr0 f89
          have hF90 := hF83.then0 f89
          refine dr_y 0 rfl (fun _ => y_move rfl) rfl (by kernel_rfl) (qp_then (qp_inb (qp_then (qp_then (qp_inb (qp_then qp_body)))))) (fun _ => hn) ?_
          refine dr_y 1 rfl (fun _ => y_move rfl) rfl (by kernel_rfl) (qp_then (qp_inb (qp_then (qp_then (qp_inb (qp_then qp_body)))))) (fun _ => hn) ?_
          refine dr_y 2 rfl (fun _ => y_move rfl) rfl (by kernel_rfl) (qp_then (qp_inb (qp_then (qp_then (qp_inb (qp_then qp_body)))))) (fun _ => hn) ?_
          refine dr_y 3 rfl (fun _ => y_index (r := on + i * 2) Tryd.underlying22 T.ty33 rfl rfl (hn.addr (j := i * 2) (by rw [notes_len]; omega)) (by omega) (by omega) (by omega)) rfl (by kernel_rfl) (qp_then (qp_inb (qp_then (qp_then (qp_inb (qp_then qp_body)))))) (fun _ => hn) ?_
          refine dr_y 4 rfl (fun _ => y_field rfl T.fld33_0 rfl) rfl (by kernel_rfl) (qp_then (qp_inb (qp_then (qp_then (qp_inb (qp_then qp_body)))))) (fun _ => hn) ?_
          refine dr_l 5 rfl (fun _ hS => by have q0 := hS; exact y_ldR (v := .int .i64 na) (j := i * 2) T.ty3 rfl q0 (by first | rfl | omega) (notes_0 ns i (by omega) hna)) rfl (by kernel_rfl) (qp_then (qp_inb (qp_then (qp_then (qp_inb (qp_then qp_body)))))) hn ?_
          refine dr_y 6 rfl (fun _ => y_move rfl) rfl (by kernel_rfl) (qp_then (qp_inb (qp_then (qp_then (qp_inb (qp_then qp_body)))))) (fun _ => hn) ?_
          refine dr_y 7 rfl (fun _ => y_move rfl) rfl (by kernel_rfl) (qp_then (qp_inb (qp_then (qp_then (qp_inb (qp_then qp_body)))))) (fun _ => hn) ?_
          refine dr_y 8 rfl (fun _ => y_index (r := on + i * 2) Tryd.underlying22 T.ty33 rfl rfl (hn.addr (j := i * 2) (by rw [notes_len]; omega)) (by omega) (by omega) (by omega)) rfl (by kernel_rfl) (qp_then (qp_inb (qp_then (qp_then (qp_inb (qp_then qp_body)))))) (fun _ => hn) ?_
          refine dr_y 9 rfl (fun _ => y_field rfl T.fld33_1 rfl) rfl (by kernel_rfl) (qp_then (qp_inb (qp_then (qp_then (qp_inb (qp_then qp_body)))))) (fun _ => hn) ?_
          refine dr_l 10 rfl (fun _ hS => by have q0 := hS; exact y_ldR (v := .string ⟨nt.toArray⟩) (j := i * 2 + 1) T.ty9 rfl q0 (by first | rfl | omega) (notes_1 ns i (by omega) hnt)) rfl (by kernel_rfl) (qp_then (qp_inb (qp_then (qp_then (qp_inb (qp_then qp_body)))))) hn ?_
          refine dr_2 (i := 11) (j := 15) (by kernel_rfl) ?_ ?_
          ·
            obtain ⟨g91, ow92, hg93, hq94, hn95⟩ := own_pick5 (w0 := w) hloA (.inr (by omega)) hF90.size gw gw (.inr (by omega)) (.inr (by omega))
            have ne96 : g91 ≠ pX := hn95 _ _ _ hlogA (.inl (by decide))
            have hlt97 := hwo.lt.resolve_left (by simp)
            have hlt98 := hlogA.lt
            have hc99 := add9_ok pX g91 clX AlX es na nt _ (by omega) (by omega) (by first | decide | omega | (simp; omega)) (by first | decide | omega) (by omega) (by omega) hlogA ow92 hG
            refine rd_d rfl (d_callR T.ent9 (vs := [.pointer (some ⟨pX, 0, none⟩), .int .i64 na, .string ⟨nt.toArray⟩]) rfl (hc99) (by rintro e w' ⟨_, _, _, rfl, -⟩; exact ⟨_, rfl⟩)) rfl rfl ?_
            rintro v108 w106 ⟨A100, g101, c102, hv109, f107, bl103, ow104, wh105⟩
            obtain rfl := ret_inj hv109
            replace hn := hn.fr f107 (nin_cons (by first | exact .inr (by omega) | exact lt_hn.imp id fun h => by omega) (nin_cons (by first | exact .inr (by omega) | exact lt_hn.imp id fun h => by omega) (nin_nil _ _)))
            replace hG := hG.fr f107 (by simp; omega)
            replace hwo := hwo.fr f107 (nin_cons (.inr hwp1) (nin_cons (.inr (by omega)) (nin_nil _ _)))
            have hF110 := hF90.trans f107 (by simp; omega)
            have hsz116 := hF90.size
            obtain ⟨g111, ow112, hg113, hq115, hn114⟩ := own_pick4 (w0 := w) ow104 (by rcases wh105 with h | h | h; exact .inl h; exact .inr (by simp at h; omega); exact .inr (by omega)) hF110.size gw (by rcases wh105 with h | h | h; exact .inl h; exact .inr (by simp at h; omega); exact .inr (by omega))
            replace bl103 : Blk w106 pX 39 [.slice A100 (((addL es na nt).2.2).length) c102, .bool true] := bl103
            replace ow112 : Own w106 A100 g111 (((addL es na nt).2.2).length) c102 28 34 (ents ((addL es na nt).2.2)) := ow112
            have ne117 : g111 ≠ pX := hn114 _ _ _ bl103 (.inl (by decide))
            refine ⟨fun _ => hn, ?_⟩
            refine dr_y 12 rfl (fun _ => y_move rfl) rfl (by kernel_rfl) (qp_then (qp_inb (qp_then (qp_then (qp_inb (qp_then qp_body)))))) (fun _ => hn) ?_
            refine dr_y 13 rfl (fun _ => y_extract rfl rfl) rfl (by kernel_rfl) (qp_then (qp_inb (qp_then (qp_then (qp_inb (qp_then qp_body)))))) (fun _ => hn) ?_
            refine dr_y 14 rfl (fun _ => y_extract rfl rfl) rfl (by kernel_rfl) (qp_then (qp_inb (qp_then (qp_then (qp_inb (qp_then qp_body)))))) (fun _ => hn) ?_
            refine dr_1 (i := 15) (by kernel_rfl) ?_
            refine rd_d rfl (d_alloc (cs := ([.int .i64 0, .string ⟨([] : List UInt8).toArray⟩] : List Value) ++ Dig.zero.cells) T.zero28 rfl) rfl rfl ?_
            rintro _ w119 ⟨g118, rfl, hg122, b120, f121⟩
            have ne123 := row_ne_new hn hg122
            have ne124 := hwo.ne_new hg122
            have ne125 : pX ≠ g118 := Nat.ne_of_lt (Nat.lt_of_lt_of_le bl103.lt hg122)
            have ne126 := ow112.ne_new hg122
            have nw127 := Nat.le_trans hF110.size hg122
            replace hn := hn.fr0 f121
            replace hG := hG.fr0 f121
            replace hwo := hwo.fr0 f121
            replace bl103 := bl103.fr0 f121
            replace ow112 := ow112.fr0 f121
            have hF128 := hF110.then0 f121
            refine ⟨fun _ => hn, ?_⟩
            refine dr_1 (i := 16) (by kernel_rfl) ?_
            refine rd_d rfl (d_store (cs := ((addL es na nt).1.cells)) (l' := ((addL es na nt).1.cells)) T.ty28 rfl rfl b120 rfl (by simp [Ent.len]) (ones (by simp [all_bv, all_u32, all_ent, all_dig, all_ents])) (by simp [Dig.len, Ent.len]) (setL_all (by simp [Dig.len, Ent.len]))) rfl rfl ?_
            rintro _ w129 ⟨rfl, b130, f131⟩
            replace hn := hn.fr1 f131 ne123
            replace hG := hG.fr f131 (by simp; omega)
            replace hwo := hwo.fr1 f131 ne124
            replace bl103 := bl103.fr1 f131 ne125
            replace ow112 := ow112.fr1 f131 ne126
            clear b120
            have hF132 := hF128.thenNew f131 nw127
            refine ⟨fun h => (Bool.false_ne_true (h.symm.trans (by kernel_rfl))).elim, ?_⟩
            refine dr_y 17 rfl (fun _ => y_assign rfl) rfl (by kernel_rfl) (qp_then (qp_inb (qp_then (qp_then (qp_inb (qp_then qp_body)))))) (fun h => (Bool.false_ne_true (h.symm.trans (by kernel_rfl))).elim) ?_
            refine dr_done (by kernel_rfl) ?_
            exact fun a ha => ⟨g111, A100, c102, g118, ha.cut ⟨rfl, rfl, rfl, rfl, rfl, rfl, trivial⟩, hF132, hn, hG, hwo, bl103, ow112, b130, (by omega), (by omega), (by omega), (by omega), ((ne124).resolve_left (by simp)).symm⟩
          ·
            refine rd_d rfl (d_alloc (cs := ([.int .i64 0, .string ⟨([] : List UInt8).toArray⟩] : List Value) ++ Dig.zero.cells) T.zero28 rfl) rfl rfl ?_
            rintro _ w134 ⟨g133, rfl, hg137, b135, f136⟩
            have ne138 := row_ne_new hn hg137
            have ne139 := hwo.ne_new hg137
            have ne140 : pX ≠ g133 := Nat.ne_of_lt (Nat.lt_of_lt_of_le hlogA.lt hg137)
            have ne141 := hloA.ne_new hg137
            have nw142 := Nat.le_trans hF90.size hg137
            replace hn := hn.fr0 f136
            replace hG := hG.fr0 f136
            replace hwo := hwo.fr0 f136
            replace hlogA := hlogA.fr0 f136
            replace hloA := hloA.fr0 f136
            have hF143 := hF90.then0 f136
            refine ⟨fun _ => hn, ?_⟩
            refine dr_1 (i := 11) (by kernel_rfl) ?_
            obtain ⟨g144, ow145, hg146, hq147, hn148⟩ := own_pick5 (w0 := w) hloA (.inr (by omega)) hF143.size gw gw (.inr (by omega)) (.inr (by omega))
            have ne149 : g144 ≠ pX := hn148 _ _ _ hlogA (.inl (by decide))
            have ne150 : g144 ≠ g133 := hn148 _ _ _ b135 (.inr ne141)
            have hlt151 := hwo.lt.resolve_left (by simp)
            have hlt152 := hlogA.lt
            have hlt153 := b135.lt
            have hc154 := add9_ok pX g144 clX AlX es na nt _ (by omega) (by omega) (by first | decide | omega | (simp; omega)) (by first | decide | omega) (by omega) (by omega) hlogA ow145 hG
            refine rd_d rfl (d_callR T.ent9 (vs := [.pointer (some ⟨pX, 0, none⟩), .int .i64 na, .string ⟨nt.toArray⟩]) rfl (hc154) (by rintro e w' ⟨_, _, _, rfl, -⟩; exact ⟨_, rfl⟩)) rfl rfl ?_
            rintro v163 w161 ⟨A155, g156, c157, hv164, f162, bl158, ow159, wh160⟩
            obtain rfl := ret_inj hv164
            replace hn := hn.fr f162 (nin_cons (by first | exact .inr (by omega) | exact lt_hn.imp id fun h => by omega) (nin_cons (by first | exact .inr (by omega) | exact lt_hn.imp id fun h => by omega) (nin_nil _ _)))
            replace hG := hG.fr f162 (by simp; omega)
            replace hwo := hwo.fr f162 (nin_cons (.inr hwp1) (nin_cons (.inr (by omega)) (nin_nil _ _)))
            replace b135 := b135.fr f162 (by simp only [List.mem_cons, List.not_mem_nil, or_false, not_or]; exact ⟨ne140.symm, ne150.symm⟩)
            have hF165 := hF143.trans f162 (by simp; omega)
            have hsz171 := hF143.size
            obtain ⟨g166, ow167, hg168, hq170, hn169⟩ := own_pick4 (w0 := w) ow159 (by rcases wh160 with h | h | h; exact .inl h; exact .inr (by simp at h; omega); exact .inr (by omega)) hF165.size gw (by rcases wh160 with h | h | h; exact .inl h; exact .inr (by simp at h; omega); exact .inr (by omega))
            replace bl158 : Blk w161 pX 39 [.slice A155 (((addL es na nt).2.2).length) c157, .bool true] := bl158
            replace ow167 : Own w161 A155 g166 (((addL es na nt).2.2).length) c157 28 34 (ents ((addL es na nt).2.2)) := ow167
            have ne172 : g166 ≠ g133 := hn169 _ _ _ b135 (.inr (by rcases wh160 with h | h | h; exact .inl h; exact .inr (by simp at h; omega); exact .inr (by omega)))
            have ne173 : g166 ≠ pX := hn169 _ _ _ bl158 (.inl (by decide))
            refine ⟨fun _ => hn, ?_⟩
            refine dr_y 12 rfl (fun _ => y_move rfl) rfl (by kernel_rfl) (qp_then (qp_inb (qp_then (qp_then (qp_inb (qp_then qp_body)))))) (fun _ => hn) ?_
            refine dr_y 13 rfl (fun _ => y_extract rfl rfl) rfl (by kernel_rfl) (qp_then (qp_inb (qp_then (qp_then (qp_inb (qp_then qp_body)))))) (fun _ => hn) ?_
            refine dr_y 14 rfl (fun _ => y_extract rfl rfl) rfl (by kernel_rfl) (qp_then (qp_inb (qp_then (qp_then (qp_inb (qp_then qp_body)))))) (fun _ => hn) ?_
            refine dr_1 (i := 16) (by kernel_rfl) ?_
            refine rd_d rfl (d_store (cs := ((addL es na nt).1.cells)) (l' := ((addL es na nt).1.cells)) T.ty28 rfl rfl b135 rfl (by simp [Ent.len]) (ones (by simp [all_bv, all_u32, all_ent, all_dig, all_ents])) (by simp [Dig.len, Ent.len]) (setL_all (by simp [Dig.len, Ent.len]))) rfl rfl ?_
            rintro _ w174 ⟨rfl, b175, f176⟩
            replace hn := hn.fr1 f176 ne138
            replace hG := hG.fr f176 (by simp; omega)
            replace hwo := hwo.fr1 f176 ne139
            replace bl158 := bl158.fr1 f176 ne140
            replace ow167 := ow167.fr1 f176 (.inr ne172)
            clear b135
            have hF177 := hF165.thenNew f176 nw142
            refine ⟨fun h => (Bool.false_ne_true (h.symm.trans (by kernel_rfl))).elim, ?_⟩
            refine dr_y 17 rfl (fun _ => y_assign rfl) rfl (by kernel_rfl) (qp_then (qp_inb (qp_then (qp_then (qp_inb (qp_then qp_body)))))) (fun h => (Bool.false_ne_true (h.symm.trans (by kernel_rfl))).elim) ?_
            refine dr_done (by kernel_rfl) ?_
            exact fun a ha => ⟨g166, A155, c157, g133, ha.cut ⟨rfl, rfl, rfl, rfl, rfl, rfl, trivial⟩, hF177, hn, hG, hwo, bl158, ow167, b175, (by omega), (by omega), (by omega), (by omega), ((ne139).resolve_left (by simp)).symm⟩
        · rintro a W87 ⟨glY, AlY, clY, gx7, hst178, hF179, hn, hG, hwo, hlogB, hloB, h7, hgl2, hlw2, hlp2, hg7, h7w⟩
          refine (show Wc _ _ _ _ _ _ from ?_) a hst178
          clear hst178 a
          have hlt180 := hwo.lt.resolve_left (by simp)
          have hlt181 := hlogB.lt
          have hlt182 := h7.lt
          have hsz183 := hF179.size
          refine c_cut (fun a W => ∃ gx9 : Nat, GP.St 168 [(0, .slice N ns.length cn), (3, .pointer (some ⟨pX, 0, none⟩)), (4, .slice (some ⟨gw, 0, none⟩) es.length cw), (5, .int .i64 ↑i), (7, .pointer (some ⟨gx7, 0, none⟩)), (8, .int .i64 ((addL es na nt).2.1)), (9, .pointer (some ⟨gx9, 0, none⟩)), (10, .int .i64 ((addL es na nt).2.1))] a ∧ Fr [] w W ∧ Row W N gn on ns.length 2 (notes ns) ∧ Gl W ∧ Own W (some ⟨gw, 0, none⟩) gw es.length cw 28 34 (ents es) ∧ Blk W pX 39 [.slice AlY (((addL es na nt).2.2).length) clY, .bool true] ∧ Own W AlY glY (((addL es na nt).2.2).length) clY 28 34 (ents ((addL es na nt).2.2)) ∧ Blk W gx7 28 ((addL es na nt).1.cells) ∧ Blk W gx9 28 ((addL es na nt).1.cells) ∧ (w.heap.size ≤ gx9) ∧ (gx9 ≠ gw)) ?_ ?_
          ·
            refine dr_begin (fun W => Row W N gn on ns.length 2 (notes ns)) 16 (by kernel_rfl) ?_
            intro w185 f186
            replace hn := hn.fr0 f186
            replace hG := hG.fr0 f186
            replace hwo := hwo.fr0 f186
            replace hlogB := hlogB.fr0 f186
            replace hloB := hloB.fr0 f186
            replace h7 := h7.fr0 f186
            have hF187 := hF179.then0 f186
            refine dr_y 0 rfl (fun _ => y_move rfl) rfl (by kernel_rfl) (qp_then (qp_inb (qp_then (qp_then (qp_inb (qp_then qp_body)))))) (fun _ => hn) ?_
            refine dr_y 1 rfl (fun _ => y_move rfl) rfl (by kernel_rfl) (qp_then (qp_inb (qp_then (qp_then (qp_inb (qp_then qp_body)))))) (fun _ => hn) ?_
            refine dr_y 2 rfl (fun _ => y_move rfl) rfl (by kernel_rfl) (qp_then (qp_inb (qp_then (qp_then (qp_inb (qp_then qp_body)))))) (fun _ => hn) ?_
            refine dr_y 3 rfl (fun _ => y_index (r := on + i * 2) Tryd.underlying22 T.ty33 rfl rfl (hn.addr (j := i * 2) (by rw [notes_len]; omega)) (by omega) (by omega) (by omega)) rfl (by kernel_rfl) (qp_then (qp_inb (qp_then (qp_then (qp_inb (qp_then qp_body)))))) (fun _ => hn) ?_
            refine dr_y 4 rfl (fun _ => y_field rfl T.fld33_0 rfl) rfl (by kernel_rfl) (qp_then (qp_inb (qp_then (qp_then (qp_inb (qp_then qp_body)))))) (fun _ => hn) ?_
            refine dr_l 5 rfl (fun _ hS => by have q0 := hS; exact y_ldR (v := .int .i64 na) (j := i * 2) T.ty3 rfl q0 (by first | rfl | omega) (notes_0 ns i (by omega) hna)) rfl (by kernel_rfl) (qp_then (qp_inb (qp_then (qp_then (qp_inb (qp_then qp_body)))))) hn ?_
            refine dr_y 6 rfl (fun _ => y_move rfl) rfl (by kernel_rfl) (qp_then (qp_inb (qp_then (qp_then (qp_inb (qp_then qp_body)))))) (fun _ => hn) ?_
            refine dr_y 7 rfl (fun _ => y_move rfl) rfl (by kernel_rfl) (qp_then (qp_inb (qp_then (qp_then (qp_inb (qp_then qp_body)))))) (fun _ => hn) ?_
            refine dr_y 8 rfl (fun _ => y_index (r := on + i * 2) Tryd.underlying22 T.ty33 rfl rfl (hn.addr (j := i * 2) (by rw [notes_len]; omega)) (by omega) (by omega) (by omega)) rfl (by kernel_rfl) (qp_then (qp_inb (qp_then (qp_then (qp_inb (qp_then qp_body)))))) (fun _ => hn) ?_
            refine dr_y 9 rfl (fun _ => y_field rfl T.fld33_1 rfl) rfl (by kernel_rfl) (qp_then (qp_inb (qp_then (qp_then (qp_inb (qp_then qp_body)))))) (fun _ => hn) ?_
            refine dr_l 10 rfl (fun _ hS => by have q0 := hS; exact y_ldR (v := .string ⟨nt.toArray⟩) (j := i * 2 + 1) T.ty9 rfl q0 (by first | rfl | omega) (notes_1 ns i (by omega) hnt)) rfl (by kernel_rfl) (qp_then (qp_inb (qp_then (qp_then (qp_inb (qp_then qp_body)))))) hn ?_
            refine dr_2 (i := 11) (j := 15) (by kernel_rfl) ?_ ?_
            ·
              refine rd_d rfl (d_callR T.ent10 (vs := [.slice (some ⟨gw, 0, none⟩) es.length cw, .int .i64 na, .string ⟨nt.toArray⟩]) rfl (ref10_ok (some ⟨gw, 0, none⟩) gw 0 cw es na nt _ (by omega) (by omega) (by omega) (by omega) (by omega) hwo.row) (by rintro e w' ⟨rfl, -⟩; exact ⟨_, rfl⟩)) rfl rfl ?_
              rintro v190 w188 ⟨hv191, f189⟩
              obtain rfl := ret_inj hv191
              replace hn := hn.fr0 f189
              replace hG := hG.fr0 f189
              replace hwo := hwo.fr0 f189
              replace hlogB := hlogB.fr0 f189
              replace hloB := hloB.fr0 f189
              replace h7 := h7.fr0 f189
              have hF192 := hF187.then0 f189
              refine ⟨fun _ => hn, ?_⟩
              refine dr_y 12 rfl (fun _ => y_move rfl) rfl (by kernel_rfl) (qp_then (qp_inb (qp_then (qp_then (qp_inb (qp_then qp_body)))))) (fun _ => hn) ?_
              refine dr_y 13 rfl (fun _ => y_extract rfl rfl) rfl (by kernel_rfl) (qp_then (qp_inb (qp_then (qp_then (qp_inb (qp_then qp_body)))))) (fun _ => hn) ?_
              refine dr_y 14 rfl (fun _ => y_extract rfl rfl) rfl (by kernel_rfl) (qp_then (qp_inb (qp_then (qp_then (qp_inb (qp_then qp_body)))))) (fun _ => hn) ?_
              refine dr_1 (i := 15) (by kernel_rfl) ?_
              refine rd_d rfl (d_alloc (cs := ([.int .i64 0, .string ⟨([] : List UInt8).toArray⟩] : List Value) ++ Dig.zero.cells) T.zero28 rfl) rfl rfl ?_
              rintro _ w194 ⟨g193, rfl, hg197, b195, f196⟩
              have ne198 := row_ne_new hn hg197
              have ne199 := hwo.ne_new hg197
              have ne200 : pX ≠ g193 := Nat.ne_of_lt (Nat.lt_of_lt_of_le hlogB.lt hg197)
              have ne201 := hloB.ne_new hg197
              have ne202 : gx7 ≠ g193 := Nat.ne_of_lt (Nat.lt_of_lt_of_le h7.lt hg197)
              have nw203 := Nat.le_trans hF192.size hg197
              replace hn := hn.fr0 f196
              replace hG := hG.fr0 f196
              replace hwo := hwo.fr0 f196
              replace hlogB := hlogB.fr0 f196
              replace hloB := hloB.fr0 f196
              replace h7 := h7.fr0 f196
              have hF204 := hF192.then0 f196
              refine ⟨fun _ => hn, ?_⟩
              refine dr_1 (i := 16) (by kernel_rfl) ?_
              refine rd_d rfl (d_store (cs := ((addL es na nt).1.cells)) (l' := ((addL es na nt).1.cells)) T.ty28 rfl rfl b195 rfl (by simp [Ent.len]) (ones (by simp [all_bv, all_u32, all_ent, all_dig, all_ents])) (by simp [Dig.len, Ent.len]) (setL_all (by simp [Dig.len, Ent.len]))) rfl rfl ?_
              rintro _ w205 ⟨rfl, b206, f207⟩
              replace hn := hn.fr1 f207 ne198
              replace hG := hG.fr f207 (by simp; omega)
              replace hwo := hwo.fr1 f207 ne199
              replace hlogB := hlogB.fr1 f207 ne200
              replace hloB := hloB.fr1 f207 ne201
              replace h7 := h7.fr1 f207 ne202
              clear b195
              have hF208 := hF204.thenNew f207 nw203
              refine ⟨fun h => (Bool.false_ne_true (h.symm.trans (by kernel_rfl))).elim, ?_⟩
              refine dr_y 17 rfl (fun _ => y_assign rfl) rfl (by kernel_rfl) (qp_then (qp_inb (qp_then (qp_then (qp_inb (qp_then qp_body)))))) (fun h => (Bool.false_ne_true (h.symm.trans (by kernel_rfl))).elim) ?_
              refine dr_done (by kernel_rfl) ?_
              exact fun a ha => ⟨g193, ha.cut ⟨rfl, rfl, rfl, rfl, rfl, rfl, rfl, rfl, trivial⟩, hF208, hn, hG, hwo, hlogB, hloB, h7, b206, (by omega), ((ne199).resolve_left (by simp)).symm⟩
            ·
              refine rd_d rfl (d_alloc (cs := ([.int .i64 0, .string ⟨([] : List UInt8).toArray⟩] : List Value) ++ Dig.zero.cells) T.zero28 rfl) rfl rfl ?_
              rintro _ w210 ⟨g209, rfl, hg213, b211, f212⟩
              have ne214 := row_ne_new hn hg213
              have ne215 := hwo.ne_new hg213
              have ne216 : pX ≠ g209 := Nat.ne_of_lt (Nat.lt_of_lt_of_le hlogB.lt hg213)
              have ne217 := hloB.ne_new hg213
              have ne218 : gx7 ≠ g209 := Nat.ne_of_lt (Nat.lt_of_lt_of_le h7.lt hg213)
              have nw219 := Nat.le_trans hF187.size hg213
              replace hn := hn.fr0 f212
              replace hG := hG.fr0 f212
              replace hwo := hwo.fr0 f212
              replace hlogB := hlogB.fr0 f212
              replace hloB := hloB.fr0 f212
              replace h7 := h7.fr0 f212
              have hF220 := hF187.then0 f212
              refine ⟨fun _ => hn, ?_⟩
              refine dr_1 (i := 11) (by kernel_rfl) ?_
              refine rd_d rfl (d_callR T.ent10 (vs := [.slice (some ⟨gw, 0, none⟩) es.length cw, .int .i64 na, .string ⟨nt.toArray⟩]) rfl (ref10_ok (some ⟨gw, 0, none⟩) gw 0 cw es na nt _ (by omega) (by omega) (by omega) (by omega) (by omega) hwo.row) (by rintro e w' ⟨rfl, -⟩; exact ⟨_, rfl⟩)) rfl rfl ?_
              rintro v223 w221 ⟨hv224, f222⟩
              obtain rfl := ret_inj hv224
              replace hn := hn.fr0 f222
              replace hG := hG.fr0 f222
              replace hwo := hwo.fr0 f222
              replace hlogB := hlogB.fr0 f222
              replace hloB := hloB.fr0 f222
              replace h7 := h7.fr0 f222
              replace b211 := b211.fr0 f222
              have hF225 := hF220.then0 f222
              refine ⟨fun _ => hn, ?_⟩
              refine dr_y 12 rfl (fun _ => y_move rfl) rfl (by kernel_rfl) (qp_then (qp_inb (qp_then (qp_then (qp_inb (qp_then qp_body)))))) (fun _ => hn) ?_
              refine dr_y 13 rfl (fun _ => y_extract rfl rfl) rfl (by kernel_rfl) (qp_then (qp_inb (qp_then (qp_then (qp_inb (qp_then qp_body)))))) (fun _ => hn) ?_
              refine dr_y 14 rfl (fun _ => y_extract rfl rfl) rfl (by kernel_rfl) (qp_then (qp_inb (qp_then (qp_then (qp_inb (qp_then qp_body)))))) (fun _ => hn) ?_
              refine dr_1 (i := 16) (by kernel_rfl) ?_
              refine rd_d rfl (d_store (cs := ((addL es na nt).1.cells)) (l' := ((addL es na nt).1.cells)) T.ty28 rfl rfl b211 rfl (by simp [Ent.len]) (ones (by simp [all_bv, all_u32, all_ent, all_dig, all_ents])) (by simp [Dig.len, Ent.len]) (setL_all (by simp [Dig.len, Ent.len]))) rfl rfl ?_
              rintro _ w226 ⟨rfl, b227, f228⟩
              replace hn := hn.fr1 f228 ne214
              replace hG := hG.fr f228 (by simp; omega)
              replace hwo := hwo.fr1 f228 ne215
              replace hlogB := hlogB.fr1 f228 ne216
              replace hloB := hloB.fr1 f228 ne217
              replace h7 := h7.fr1 f228 ne218
              clear b211
              have hF229 := hF225.thenNew f228 nw219
              refine ⟨fun h => (Bool.false_ne_true (h.symm.trans (by kernel_rfl))).elim, ?_⟩
              refine dr_y 17 rfl (fun _ => y_assign rfl) rfl (by kernel_rfl) (qp_then (qp_inb (qp_then (qp_then (qp_inb (qp_then qp_body)))))) (fun h => (Bool.false_ne_true (h.symm.trans (by kernel_rfl))).elim) ?_
              refine dr_done (by kernel_rfl) ?_
              exact fun a ha => ⟨g209, ha.cut ⟨rfl, rfl, rfl, rfl, rfl, rfl, rfl, rfl, trivial⟩, hF229, hn, hG, hwo, hlogB, hloB, h7, b227, (by omega), ((ne215).resolve_left (by simp)).symm⟩
          · rintro a W184 ⟨gx9, hst230, hF231, hn, hG, hwo, hlogB, hloB, h7, h9, hg9, h9w⟩
            refine (show Wc _ _ _ _ _ _ from ?_) a hst230
            clear hst230 a
            have hlt232 := hwo.lt.resolve_left (by simp)
            have hlt233 := hlogB.lt
            have hlt234 := h7.lt
            have hlt235 := h9.lt
            have hsz236 := hF231.size
            refine c_seq ?_
            refine c_seq ?_
            refine c_region ?_
            refine s_y (y_ldBA (xs := ((addL es na nt).1.cells)) T.ty28 rfl h7 (by simp [Ent.len]) (take_all _ (by simp [Ent.len]))) rfl rfl ?_
            refine s_y (y_ldBA (xs := ((addL es na nt).1.cells)) T.ty28 rfl h9 (by simp [Ent.len]) (take_all _ (by simp [Ent.len]))) rfl rfl ?_
            refine s_y (y_neA (r := false) (eq28 ((addL es na nt).1) ((addL es na nt).1)) rfl rfl (by rw [decide_eq_true rfl]; rfl)) rfl rfl ?_
            refine s_y (y_move rfl) rfl rfl ?_
            refine s_gy (y_move rfl) ⟨_, _, _, _, rfl, rfl, rfl, rfl⟩ rfl ?_
            refine s_gy (y_move rfl) ⟨_, _, _, _, rfl, rfl, rfl, rfl⟩ rfl ?_
            refine s_gy (y_neq (r := false) rfl rfl (by simp)) ⟨_, _, _, _, rfl, rfl, rfl, rfl⟩ rfl ?_
            refine s_y (y_pick rfl rfl rfl rfl) rfl rfl ?_
            refine s_nil ?_
            refine n_then ?_
            refine c_false rfl ?_
            refine c_skip ?_
            refine n_then ?_
            refine c_cut (fun a W => ∃ gw' : Nat, ∃ cw' : Nat, GP.St 168 [(0, .slice N ns.length cn), (3, .pointer (some ⟨pX, 0, none⟩)), (4, .slice (some ⟨gw', 0, none⟩) (((addL es na nt).2.2).length) cw'), (5, .int .i64 ↑i)] a ∧ Fr [] w W ∧ Row W N gn on ns.length 2 (notes ns) ∧ Gl W ∧ Blk W pX 39 [.slice AlY (((addL es na nt).2.2).length) clY, .bool true] ∧ Own W AlY glY (((addL es na nt).2.2).length) clY 28 34 (ents ((addL es na nt).2.2)) ∧ Own W (some ⟨gw', 0, none⟩) gw' (((addL es na nt).2.2).length) cw' 28 34 (ents ((addL es na nt).2.2)) ∧ (w.heap.size ≤ gw') ∧ (glY ≠ gw') ∧ (gw' ≠ pX)) ?_ ?_
            ·
              refine c_seq ?_
              refine c_region ?_
              refine s_y (y_move rfl) rfl rfl ?_
              refine s_y (y_eql rfl rfl rfl) rfl rfl ?_
              refine s_nil ?_
              refine n_then ?_
              refine c_cond rfl ?_ ?_
              · intro h238
                replace h238 : (((addL es na nt).2.1) : Int) = 0 := of_decide_eq_true h238
                have hok := add_ok es na nt (by assumption)
                refine c_region ?_
                refine s_y (y_move rfl) rfl rfl ?_
                refine s_y (y_ldBA (xs := ((addL es na nt).1.cells)) T.ty28 rfl h9 (by simp [Ent.len]) (take_all _ (by simp [Ent.len]))) rfl rfl ?_
                have hlit239 := (T.lit14 ((addL es na nt).1.cells) (by simp [Ent.len]))
                refine s_d (d_bs2 hlit239 ⟨rfl, rfl, trivial⟩) rfl rfl ?_
                rintro _ w241 ⟨g240, rfl, hg244, b242, f243⟩
                have ne245 := row_ne_new hn hg244
                have ne246 := hwo.ne_new hg244
                have ne247 : pX ≠ g240 := Nat.ne_of_lt (Nat.lt_of_lt_of_le hlogB.lt hg244)
                have ne248 := hloB.ne_new hg244
                have ne249 : gx7 ≠ g240 := Nat.ne_of_lt (Nat.lt_of_lt_of_le h7.lt hg244)
                have ne250 : gx9 ≠ g240 := Nat.ne_of_lt (Nat.lt_of_lt_of_le h9.lt hg244)
                have nw251 := Nat.le_trans hF231.size hg244
                replace hn := hn.fr0 f243
                replace hG := hG.fr0 f243
                replace hwo := hwo.fr0 f243
                replace hlogB := hlogB.fr0 f243
                replace hloB := hloB.fr0 f243
                replace h7 := h7.fr0 f243
                replace h9 := h9.fr0 f243
                have hF252 := hF231.then0 f243
                have o253 := Own.of_blk (n := 1) (k := 34) b242 (by simp [Ent.len]) (by decide)
                have hlog_ := hloB
                have hwl_ := hwo
                refine s_d (d_append Tryd.underlying25 T.ty28 T.app28 rfl hwo rfl (src_row Tryd.underlying25 T.ty28 o253.row ()) (ones (by first | exact all_bv _ | exact all_wv _ | exact rfl | simp [all_bv, all_u32, all_ent, all_dig, all_ents])) (by omega)) rfl rfl ?_
                rintro _ w257 ⟨A254, g255, c256, rfl, o258, f259, hat260⟩
                replace o258 : Own w257 A254 g255 (es.length + 1) c256 28 34 (ents (es ++ [(addL es na nt).1])) := (by simpa [ents_app, ents, Ent.cells] using o258)
                obtain ⟨hno258⟩ : Nonempty (es.length + 1 = (es ++ [(addL es na nt).1]).length) := ⟨by simp⟩
                rw [hno258] at o258 ⊢
                replace hn := hn.fr f259 (row_app (wh_nw (.inr (.inr hgw))) lt_hn)
                replace hG := hG.fr f259 (by simp [ownL]; omega)
                have ne262 := app_ap hat260 (.inr hwp1) hlogB.lt
                replace hlogB := hlogB.fr f259 (no_own (.inr hwp1))
                replace hloB := hloB.fr f259 (.inr (no_own (.inr (by omega))))
                have ne263 := app_ap hat260 (.inr h7w.symm) h7.lt
                replace h7 := h7.fr f259 (no_own (.inr h7w.symm))
                have ne264 := app_ap hat260 (.inr h9w.symm) h9.lt
                replace h9 := h9.fr f259 (no_own (.inr h9w.symm))
                have wh265 : A254 = none ∨ g255 ∈ ([] : List Nat) ∨ w.heap.size ≤ g255 := app_wh hat260 (.inr (.inr hgw)) hF252.size
                have hF266 := hF252.thenOwnIn f259 (.inr (.inr hgw))
                have hA267 := own_some o258 (by rw [ents_len]; simp)
                subst hA267
                have far268 := own_far (w := w241) hlog_ (by rw [ents_len, hok]; simp) hat260 hlw2
                have hgw269 : w.heap.size ≤ g255 := (wh265.resolve_left (by simp)).resolve_left (by simp)
                have ne270 := (o258.ne_blk hlogB (by decide)).resolve_left (by simp)
                refine s_y (y_assign rfl) rfl rfl ?_
                refine s_nil ?_
                exact fun a ha => ⟨g255, c256, ha.cut ⟨rfl, rfl, (by rw [hok]; rfl), rfl, trivial⟩, hF266, hn, hG, hlogB, hloB, (by rw [hok]; exact o258), (by omega), (by omega), (by omega)⟩
              · intro h271
                replace h271 : ¬ ((((addL es na nt).2.1) : Int) = 0) := of_decide_eq_false h271
                have hno := add_no es na nt (by assumption)
                refine c_skip ?_
                exact fun a ha => ⟨gw, cw, ha.cut ⟨rfl, rfl, (by rw [hno]; rfl), rfl, trivial⟩, hF231, hn, hG, hlogB, hloB, (by rw [hno]; exact hwo), (by omega), (by omega), (by omega)⟩
            · rintro a W237 ⟨gw', cw', hst272, hF273, hn, hG, hlogB, hloB, hwoD, hgwD, hlwD, hwpD⟩
              refine (show Wc _ _ _ _ _ _ from ?_) a hst272
              clear hst272 a
              have hlt274 := hlogB.lt
              have hlt275 := hwoD.lt.resolve_left (by simp)
              have hsz276 := hF273.size
              refine c_seq ?_
              refine c_region ?_
              refine s_y (y_build (vs := []) rfl (T.bz26 _)) rfl rfl ?_
              refine s_d (d_alloc (cs := Dig.zero.cells) T.zero26 rfl) rfl rfl ?_
              rintro _ w278 ⟨g277, rfl, hg281, b279, f280⟩
              have ne282 := row_ne_new hn hg281
              have ne283 : pX ≠ g277 := Nat.ne_of_lt (Nat.lt_of_lt_of_le hlogB.lt hg281)
              have ne284 := hloB.ne_new hg281
              have ne285 := hwoD.ne_new hg281
              have nw286 := Nat.le_trans hF273.size hg281
              replace hn := hn.fr0 f280
              replace hG := hG.fr0 f280
              replace hlogB := hlogB.fr0 f280
              replace hloB := hloB.fr0 f280
              replace hwoD := hwoD.fr0 f280
              have hF287 := hF273.then0 f280
              refine s_d (d_store (cs := Dig.zero.cells) (l' := Dig.zero.cells) T.ty26 rfl rfl b279 rfl (by simp [Dig.len]) (ones (by simp [all_bv, all_u32, all_ent, all_dig, all_ents])) (by simp [Dig.len, Dig.len]) (setL_all (by simp [Dig.len, Dig.len]))) rfl rfl ?_
              rintro _ w288 ⟨rfl, b289, f290⟩
              replace hn := hn.fr1 f290 ne282
              replace hG := hG.fr f290 (by simp; omega)
              replace hlogB := hlogB.fr1 f290 ne283
              replace hloB := hloB.fr1 f290 ne284
              replace hwoD := hwoD.fr1 f290 ne285
              clear b279
              have hF291 := hF287.thenNew f290 nw286
              refine s_nil ?_
              refine n_then ?_
              refine c_cut (fun a W => GP.St 168 [(0, .slice N ns.length cn), (3, .pointer (some ⟨pX, 0, none⟩)), (4, .slice (some ⟨gw', 0, none⟩) (((addL es na nt).2.2).length) cw'), (5, .int .i64 ↑i), (11, .pointer (some ⟨g277, 0, none⟩))] a ∧ Fr [] w W ∧ Row W N gn on ns.length 2 (notes ns) ∧ Gl W ∧ Blk W pX 39 [.slice AlY (((addL es na nt).2.2).length) clY, .bool true] ∧ Own W AlY glY (((addL es na nt).2.2).length) clY 28 34 (ents ((addL es na nt).2.2)) ∧ Own W (some ⟨gw', 0, none⟩) gw' (((addL es na nt).2.2).length) cw' 28 34 (ents ((addL es na nt).2.2)) ∧ Blk W g277 26 (((lastE ((addL es na nt).2.2)).sum).cells)) ?_ ?_
              ·
                refine c_seq ?_
                refine c_region ?_
                refine s_y (y_move rfl) rfl rfl ?_
                refine s_y (y_len Tryd.underlying25 rfl) rfl rfl ?_
                refine s_y (y_gtr rfl rfl rfl) rfl rfl ?_
                refine s_nil ?_
                refine n_then ?_
                refine c_cond rfl ?_ ?_
                · intro h293
                  replace h293 : (0 : Int) < (↑(((addL es na nt).2.2).length)) := of_decide_eq_true h293
                  refine c_region ?_
                  refine s_y (y_move rfl) rfl rfl ?_
                  refine s_y (y_move rfl) rfl rfl ?_
                  refine s_y (y_len Tryd.underlying25 rfl) rfl rfl ?_
                  refine s_y (y_sub rfl rfl (wrI (by omega) (by omega))) rfl rfl ?_
                  refine s_y (y_index (r := 0 + (((addL es na nt).2.2).length - 1) * 34) Tryd.underlying25 T.ty28 rfl rfl (hwoD.row.addr (j := (((addL es na nt).2.2).length - 1) * 34) (by rw [ents_len]; omega)) (by omega) (by omega) (by omega)) rfl rfl ?_
                  refine s_y (y_field rfl T.fld28_2 rfl) rfl rfl ?_
                  refine s_y (y_ldRA (xs := (((((addL es na nt).2.2).getD (((addL es na nt).2.2).length - 1) Ent.zero).sum).cells)) (j := (((addL es na nt).2.2).length - 1) * 34 + 2) T.ty26 rfl hwoD.row (by first | rfl | omega) (Dig.len _) (ents_2 ((addL es na nt).2.2) (((addL es na nt).2.2).length - 1) (by omega))) rfl rfl ?_
                  refine s_d (d_store (cs := (((((addL es na nt).2.2).getD (((addL es na nt).2.2).length - 1) Ent.zero).sum).cells)) (l' := (((((addL es na nt).2.2).getD (((addL es na nt).2.2).length - 1) Ent.zero).sum).cells)) T.ty26 rfl rfl b289 rfl (by simp [Dig.len]) (ones (by simp [all_bv, all_u32, all_ent, all_dig, all_ents])) (by simp [Dig.len, Dig.len]) (setL_all (by simp [Dig.len, Dig.len]))) rfl rfl ?_
                  rintro _ w294 ⟨rfl, b295, f296⟩
                  replace hn := hn.fr1 f296 ne282
                  replace hG := hG.fr f296 (by simp; omega)
                  replace hlogB := hlogB.fr1 f296 ne283
                  replace hloB := hloB.fr1 f296 ne284
                  replace hwoD := hwoD.fr1 f296 ne285
                  clear b289
                  have hF297 := hF291.thenNew f296 nw286
                  refine s_nil ?_
                  exact fun a ha => ⟨ha.cut ⟨rfl, rfl, rfl, rfl, rfl, trivial⟩, hF297, hn, hG, hlogB, hloB, hwoD, (by rw [lastE_w ((addL es na nt).2.2) (by omega)]; exact b295)⟩
                · intro h298
                  replace h298 : ¬ ((0 : Int) < (↑(((addL es na nt).2.2).length))) := of_decide_eq_false h298
                  refine c_skip ?_
                  exact fun a ha => ⟨ha.cut ⟨rfl, rfl, rfl, rfl, rfl, trivial⟩, hF291, hn, hG, hlogB, hloB, hwoD, (by rw [lastE_nil ((addL es na nt).2.2) (by omega)]; exact b289)⟩
              · rintro a W292 ⟨hst299, hF300, hn, hG, hlogB, hloB, hwoD, h11⟩
                refine (show Wc _ _ _ _ _ _ from ?_) a hst299
                clear hst299 a
                have hlt301 := hlogB.lt
                have hlt302 := hwoD.lt.resolve_left (by simp)
                have hlt303 := h11.lt
                have hsz304 := hF300.size
                refine c_seq ?_
                refine c_region ?_
                refine s_y (y_move rfl) rfl rfl ?_
                have hlt310 := hlogB.lt
                have hlt311 := hwoD.lt.resolve_left (by simp)
                have hlt312 := h11.lt
                have hsz313 := hF300.size
                have hltE := hloB.lt
                refine s_d (d_callR T.ent11 (vs := [.pointer (some ⟨pX, 0, none⟩)]) rfl (entries_ok pX glY clY AlY ((addL es na nt).2.2) _ (by omega) hlogB hloB) (by rintro e w' ⟨_, _, _, rfl, -⟩; exact ⟨_, rfl⟩)) rfl rfl ?_
                rintro v316 w314 ⟨A305, g306, c307, hv317, f315, o308, hg309⟩
                obtain rfl := ret_inj hv317
                replace hn := hn.fr0 f315
                replace hG := hG.fr0 f315
                replace hlogB := hlogB.fr0 f315
                replace hloB := hloB.fr0 f315
                replace hwoD := hwoD.fr0 f315
                replace h11 := h11.fr0 f315
                have hF318 := hF300.then0 f315
                have nw319 : w.heap.size ≤ g306 := by omega
                refine s_y (y_assign rfl) rfl rfl ?_
                refine s_nil ?_
                refine n_then ?_
                refine c_seq ?_
                refine c_seq ?_
                refine dr_begin (fun W => Blk W g277 26 (((lastE ((addL es na nt).2.2)).sum).cells)) 10 (by kernel_rfl) ?_
                intro w320 f321
                replace hn := hn.fr0 f321
                replace hG := hG.fr0 f321
                replace hlogB := hlogB.fr0 f321
                replace hloB := hloB.fr0 f321
                replace hwoD := hwoD.fr0 f321
                replace h11 := h11.fr0 f321
                replace o308 := o308.fr0 f321
                have hF322 := hF318.then0 f321
                refine dr_y 0 rfl (fun _ => y_move rfl) rfl (by kernel_rfl) (qp_then (qp_then (qp_inb (qp_then (qp_then (qp_inb (qp_then qp_body))))))) (fun _ => h11) ?_
                refine dr_y 1 rfl (fun _ => y_move rfl) rfl (by kernel_rfl) (qp_then (qp_then (qp_inb (qp_then (qp_then (qp_inb (qp_then qp_body))))))) (fun _ => h11) ?_
                refine dr_1 (i := 2) (by kernel_rfl) ?_
                refine rd_d rfl (d_callR T.ent12 (vs := [.slice A305 (((addL es na nt).2.2).length) c307, .slice (some ⟨gw', 0, none⟩) (((addL es na nt).2.2).length) cw']) rfl (same12_ok A305 (some ⟨gw', 0, none⟩) g306 gw' 0 0 c307 cw' ((addL es na nt).2.2) _ (by omega) o308.row hwoD.row) (by rintro e w' ⟨rfl, -⟩; exact ⟨_, rfl⟩)) rfl rfl ?_
                rintro v325 w323 ⟨hv326, f324⟩
                obtain rfl := ret_inj hv326
                replace hn := hn.fr0 f324
                replace hG := hG.fr0 f324
                replace hlogB := hlogB.fr0 f324
                replace hloB := hloB.fr0 f324
                replace hwoD := hwoD.fr0 f324
                replace h11 := h11.fr0 f324
                replace o308 := o308.fr0 f324
                have hF327 := hF322.then0 f324
                refine ⟨fun _ => h11, ?_⟩
                refine dr_y 3 rfl (fun _ => y_not rfl rfl) rfl (by kernel_rfl) (qp_then (qp_then (qp_inb (qp_then (qp_then (qp_inb (qp_then qp_body))))))) (fun _ => h11) ?_
                refine dr_y 4 rfl (fun _ => y_move rfl) rfl (by kernel_rfl) (qp_then (qp_then (qp_inb (qp_then (qp_then (qp_inb (qp_then qp_body))))))) (fun _ => h11) ?_
                refine dr_gy 5 rfl (fun _ => y_move rfl) ⟨_, _, _, _, rfl, rfl, rfl, rfl⟩ (by kernel_rfl) (qp_then (qp_then (qp_inb (qp_then (qp_then (qp_inb (qp_then qp_body))))))) (fun _ => h11) ?_
                refine dr_gl 7 rfl (fun _ hS => by have q0 := hS; exact y_ldBA (xs := (((lastE ((addL es na nt).2.2)).sum).cells)) T.ty26 rfl q0 (by simp [Dig.len]) (take_all _ (by simp [Dig.len]))) ⟨_, _, _, _, rfl, rfl, rfl, rfl⟩ (by kernel_rfl) (qp_then (qp_then (qp_inb (qp_then (qp_then (qp_inb (qp_then qp_body))))))) h11 ?_
                refine dr_1 (i := 6) (by kernel_rfl) ?_
                have hc328 := head_ok pX glY clY AlY ((addL es na nt).2.2) _ (by first | decide | omega) hlogB hloB
                refine rd_gd rfl (d_callR T.ent13 (vs := [.pointer (some ⟨pX, 0, none⟩)]) rfl (hc328) (by rintro e w' ⟨rfl, -⟩; exact ⟨_, rfl⟩)) ⟨_, _, _, _, rfl, rfl, rfl, rfl⟩ rfl ?_
                rintro v331 w329 ⟨hv332, f330⟩
                obtain rfl := ret_inj hv332
                replace hn := hn.fr0 f330
                replace hG := hG.fr0 f330
                replace hlogB := hlogB.fr0 f330
                replace hloB := hloB.fr0 f330
                replace hwoD := hwoD.fr0 f330
                replace h11 := h11.fr0 f330
                replace o308 := o308.fr0 f330
                have hF333 := hF327.then0 f330
                refine ⟨fun _ => h11, ?_⟩
                refine dr_gy 8 rfl (fun _ => y_neA (r := false) (eq26 ((lastE ((addL es na nt).2.2)).sum) ((lastE ((addL es na nt).2.2)).sum)) rfl rfl (by rw [decide_eq_true rfl]; rfl)) ⟨_, _, _, _, rfl, rfl, rfl, rfl⟩ (by kernel_rfl) (qp_then (qp_then (qp_inb (qp_then (qp_then (qp_inb (qp_then qp_body))))))) (fun _ => h11) ?_
                refine dr_y 9 rfl (fun _ => y_pick rfl rfl rfl rfl) rfl (by kernel_rfl) (qp_then (qp_then (qp_inb (qp_then (qp_then (qp_inb (qp_then qp_body))))))) (fun _ => h11) ?_
                refine dr_done (by kernel_rfl) ?_
                refine n_then ?_
                refine c_false rfl ?_
                refine c_skip ?_
                refine n_then ?_
                refine c_seq ?_
                refine c_region ?_
                refine s_y (y_assign rfl) rfl rfl ?_
                refine s_nil ?_
                refine n_then ?_
                refine c_block ?_
                refine c_loop (fun m a W => ∃ k : Nat, ∃ xs : List Value, m = ((addL es na nt).2.2).length - k ∧ GP.St 168 [(0, .slice N ns.length cn), (3, .pointer (some ⟨pX, 0, none⟩)), (4, .slice (some ⟨gw', 0, none⟩) (((addL es na nt).2.2).length) cw'), (5, .int .i64 ↑i), (12, .slice A305 (((addL es na nt).2.2).length) c307), (13, .int .i64 ↑k)] a ∧ Fr [] w W ∧ Row W N gn on ns.length 2 (notes ns) ∧ Gl W ∧ Blk W pX 39 [.slice AlY (((addL es na nt).2.2).length) clY, .bool true] ∧ Own W AlY glY (((addL es na nt).2.2).length) clY 28 34 (ents ((addL es na nt).2.2)) ∧ Own W (some ⟨gw', 0, none⟩) gw' (((addL es na nt).2.2).length) cw' 28 34 (ents ((addL es na nt).2.2)) ∧ Blk W g277 26 (((lastE ((addL es na nt).2.2)).sum).cells) ∧ Own W A305 g306 (((addL es na nt).2.2).length) c307 28 34 xs ∧ (k ≤ ((addL es na nt).2.2).length)) (((addL es na nt).2.2).length) ?_ ?_
                · intro a ha
                  exact ⟨0, ents ((addL es na nt).2.2), rfl, ha.cut ⟨rfl, rfl, rfl, rfl, rfl, rfl, trivial⟩, hF333, hn, hG, hlogB, hloB, hwoD, h11, o308, Nat.zero_le _⟩
                · rintro _ a W334 ⟨k, xs, rfl, hst336, hF337, hn, hG, hlogB, hloB, hwoD, h11, hal, hk⟩
                  refine (show Wc _ _ _ _ _ _ from ?_) a hst336
                  clear hst336 a
                  have hxl := hal.len
                  refine c_seq ?_
                  refine c_seq ?_
                  refine c_region ?_
                  refine s_y (y_move rfl) rfl rfl ?_
                  refine s_y (y_move rfl) rfl rfl ?_
                  refine s_y (y_len Tryd.underlying25 rfl) rfl rfl ?_
                  refine s_y (y_lss rfl rfl rfl) rfl rfl ?_
                  refine s_nil ?_
                  refine n_then ?_
                  refine c_cond rfl ?_ ?_
                  · intro h338
                    replace h338 : (↑k : Int) < (↑(((addL es na nt).2.2).length)) := of_decide_eq_true h338
                    refine c_skip ?_
                    refine n_then ?_
                    refine c_seq ?_
                    refine c_block ?_
                    refine c_region ?_
                    refine s_y (y_move rfl) rfl rfl ?_
                    refine s_y (y_move rfl) rfl rfl ?_
                    refine s_y (y_index (r := 0 + k * 34) Tryd.underlying25 T.ty28 rfl rfl (hal.row.addr (j := k * 34) (by first | (rw [ents_len]; omega) | omega)) (by omega) (by omega) (by omega)) rfl rfl ?_
                    refine s_y (y_field rfl T.fld28_1 rfl) rfl rfl ?_
                    refine s_d (d_storeO T.ty9 rfl rfl rfl rfl hal (by omega)) rfl rfl ?_
                    rintro _ w339 ⟨rfl, ow340, f341⟩
                    replace hn := hn.fr1 f341 (by first | exact .inr (by omega) | exact lt_hn.imp id fun h => by omega)
                    replace hG := hG.fr f341 (by simp; omega)
                    replace hlogB := hlogB.fr1 f341 (by omega)
                    replace hloB := hloB.fr1 f341 (hltE.imp id fun h => by omega)
                    replace hwoD := hwoD.fr1 f341 (.inr (by omega))
                    replace h11 := h11.fr1 f341 (by omega)
                    have hF342 := hF337.thenNew f341 nw319
                    refine s_nil ?_
                    refine n_inb ?_
                    refine n_then ?_
                    refine c_region ?_
                    refine s_y (y_move rfl) rfl rfl ?_
                    refine s_y (y_add rfl rfl (wrI (by omega) (by omega))) rfl rfl ?_
                    refine s_y (y_assign rfl) rfl rfl ?_
                    refine s_nil ?_
                    exact fun a ha => ⟨_, by omega, k + 1, setL xs (0 + k * 34 + 1) [.string ⟨([115, 112, 111, 105, 108, 116] : List UInt8).toArray⟩], rfl, ha.cut ⟨rfl, rfl, rfl, rfl, rfl, (iv (by omega)), trivial⟩, hF342, hn, hG, hlogB, hloB, hwoD, h11, ow340, by omega⟩
                  · intro h343
                    replace h343 : ¬ ((↑k : Int) < (↑(((addL es na nt).2.2).length))) := of_decide_eq_false h343
                    refine c_exit ?_
                    refine x_then ?_
                    refine x_then ?_
                    refine x_hit ?_
                    refine n_inb ?_
                    refine n_then ?_
                    refine c_region ?_
                    refine s_y (y_move rfl) rfl rfl ?_
                    refine s_y (y_add rfl rfl (wrI (by omega) (by omega))) rfl rfl ?_
                    refine s_y (y_assign rfl) rfl rfl ?_
                    refine s_nil ?_
                    exact fun a ha => ⟨_, by omega, i + 1, pX, glY, AlY, clY, gw', cw', ((addL es na nt).2.2), rfl, ha.cut ⟨rfl, rfl, rfl, (iv (by omega)), trivial⟩, hF337, hn, hG, hlogB, hloB, hwoD, by omega, by omega, by omega, by omega, by omega, by omega, by omega, by omega, hada⟩
    · intro h344
      replace h344 : ¬ ((↑i : Int) < ↑ns.length) := of_decide_eq_false h344
      refine c_exit ?_
      refine x_then ?_
      refine x_then ?_
      refine x_hit ?_
      refine n_then ?_
      refine c_seq ?_
      refine c_region ?_
      refine s_d (d_alloc (cs := [.slice none 0 0, .bool false]) T.zero39 rfl) rfl rfl ?_
      rintro _ w346 ⟨g345, rfl, hg349, b347, f348⟩
      have ne350 := row_ne_new hn hg349
      have ne351 : p ≠ g345 := Nat.ne_of_lt (Nat.lt_of_lt_of_le hlog.lt hg349)
      have ne352 := hlo.ne_new hg349
      have ne353 := hwo.ne_new hg349
      have nw354 := Nat.le_trans hF25.size hg349
      replace hn := hn.fr0 f348
      replace hG := hG.fr0 f348
      replace hlog := hlog.fr0 f348
      replace hlo := hlo.fr0 f348
      replace hwo := hwo.fr0 f348
      have hF355 := hF25.then0 f348
      refine s_nil ?_
      refine n_then ?_
      refine c_seq ?_
      refine c_region ?_
      refine s_y (y_assign rfl) rfl rfl ?_
      refine s_nil ?_
      refine n_then ?_
      refine c_seq ?_
      refine c_region ?_
      refine s_d (d_callR T.ent9 (vs := [.pointer (some ⟨g345, 0, none⟩), .int .i64 1, .string ⟨([97] : List UInt8).toArray⟩]) rfl (add9C_ok g345 0 0 none 1 ([97] : List UInt8) _ b347) (by rintro e w' ⟨rfl, -⟩; exact ⟨_, rfl⟩)) rfl rfl ?_
      rintro v358 w356 ⟨hv359, f357⟩
      obtain rfl := ret_inj hv359
      replace hn := hn.fr0 f357
      replace hG := hG.fr0 f357
      replace hlog := hlog.fr0 f357
      replace hlo := hlo.fr0 f357
      replace hwo := hwo.fr0 f357
      replace b347 := b347.fr0 f357
      have hF360 := hF355.then0 f357
      refine s_y (y_move rfl) rfl rfl ?_
      refine s_y (y_extract rfl rfl) rfl rfl ?_
      refine s_y (y_extract rfl rfl) rfl rfl ?_
      refine s_d (d_alloc (cs := ([.int .i64 0, .string ⟨([] : List UInt8).toArray⟩] : List Value) ++ Dig.zero.cells) T.zero28 rfl) rfl rfl ?_
      rintro _ w362 ⟨g361, rfl, hg365, b363, f364⟩
      have ne366 := row_ne_new hn hg365
      have ne367 : p ≠ g361 := Nat.ne_of_lt (Nat.lt_of_lt_of_le hlog.lt hg365)
      have ne368 := hlo.ne_new hg365
      have ne369 := hwo.ne_new hg365
      have ne370 : g345 ≠ g361 := Nat.ne_of_lt (Nat.lt_of_lt_of_le b347.lt hg365)
      have nw371 := Nat.le_trans hF360.size hg365
      replace hn := hn.fr0 f364
      replace hG := hG.fr0 f364
      replace hlog := hlog.fr0 f364
      replace hlo := hlo.fr0 f364
      replace hwo := hwo.fr0 f364
      replace b347 := b347.fr0 f364
      have hF372 := hF360.then0 f364
      refine s_d (d_store (cs := Ent.zero.cells) (l' := Ent.zero.cells) T.ty28 rfl rfl b363 rfl (by simp [Ent.len]) (ones (by simp [all_bv, all_u32, all_ent, all_dig, all_ents])) (by simp [Dig.len, Ent.len]) (setL_all (by simp [Dig.len, Ent.len]))) rfl rfl ?_
      rintro _ w373 ⟨rfl, b374, f375⟩
      replace hn := hn.fr1 f375 ne366
      replace hG := hG.fr f375 (by simp; omega)
      replace hlog := hlog.fr1 f375 ne367
      replace hlo := hlo.fr1 f375 ne368
      replace hwo := hwo.fr1 f375 ne369
      replace b347 := b347.fr1 f375 ne370
      clear b363
      have hF376 := hF372.thenNew f375 nw371
      refine s_y (y_assign rfl) rfl rfl ?_
      refine s_nil ?_
      refine n_then ?_
      refine c_seq ?_
      refine c_region ?_
      refine s_y (y_move rfl) rfl rfl ?_
      refine s_d (d_callR T.ent9 (vs := [.pointer none, .int .i64 1, .string ⟨([97] : List UInt8).toArray⟩]) rfl (add9N_ok 1 ([97] : List UInt8) _) (by rintro e w' ⟨rfl, -⟩; exact ⟨_, rfl⟩)) rfl rfl ?_
      rintro v379 w377 ⟨hv380, f378⟩
      obtain rfl := ret_inj hv380
      replace hn := hn.fr0 f378
      replace hG := hG.fr0 f378
      replace hlog := hlog.fr0 f378
      replace hlo := hlo.fr0 f378
      replace hwo := hwo.fr0 f378
      replace b347 := b347.fr0 f378
      replace b374 := b374.fr0 f378
      have hF381 := hF376.then0 f378
      refine s_y (y_move rfl) rfl rfl ?_
      refine s_y (y_extract rfl rfl) rfl rfl ?_
      refine s_y (y_extract rfl rfl) rfl rfl ?_
      refine s_d (d_alloc (cs := ([.int .i64 0, .string ⟨([] : List UInt8).toArray⟩] : List Value) ++ Dig.zero.cells) T.zero28 rfl) rfl rfl ?_
      rintro _ w383 ⟨g382, rfl, hg386, b384, f385⟩
      have ne387 := row_ne_new hn hg386
      have ne388 : p ≠ g382 := Nat.ne_of_lt (Nat.lt_of_lt_of_le hlog.lt hg386)
      have ne389 := hlo.ne_new hg386
      have ne390 := hwo.ne_new hg386
      have ne391 : g345 ≠ g382 := Nat.ne_of_lt (Nat.lt_of_lt_of_le b347.lt hg386)
      have ne392 : g361 ≠ g382 := Nat.ne_of_lt (Nat.lt_of_lt_of_le b374.lt hg386)
      have nw393 := Nat.le_trans hF381.size hg386
      replace hn := hn.fr0 f385
      replace hG := hG.fr0 f385
      replace hlog := hlog.fr0 f385
      replace hlo := hlo.fr0 f385
      replace hwo := hwo.fr0 f385
      replace b347 := b347.fr0 f385
      replace b374 := b374.fr0 f385
      have hF394 := hF381.then0 f385
      refine s_d (d_store (cs := Ent.zero.cells) (l' := Ent.zero.cells) T.ty28 rfl rfl b384 rfl (by simp [Ent.len]) (ones (by simp [all_bv, all_u32, all_ent, all_dig, all_ents])) (by simp [Dig.len, Ent.len]) (setL_all (by simp [Dig.len, Ent.len]))) rfl rfl ?_
      rintro _ w395 ⟨rfl, b396, f397⟩
      replace hn := hn.fr1 f397 ne387
      replace hG := hG.fr f397 (by simp; omega)
      replace hlog := hlog.fr1 f397 ne388
      replace hlo := hlo.fr1 f397 ne389
      replace hwo := hwo.fr1 f397 ne390
      replace b347 := b347.fr1 f397 ne391
      replace b374 := b374.fr1 f397 ne392
      clear b384
      have hF398 := hF394.thenNew f397 nw393
      refine s_y (y_assign rfl) rfl rfl ?_
      refine s_nil ?_
      refine n_then ?_
      refine c_seq ?_
      refine c_region ?_
      refine s_y (y_move rfl) rfl rfl ?_
      refine s_y (y_eql (r := true) rfl rfl rfl) rfl rfl ?_
      refine s_y (y_move rfl) rfl rfl ?_
      refine s_gy (y_move rfl) ⟨_, _, _, _, rfl, rfl, rfl, rfl⟩ rfl ?_
      refine s_gy (y_eql (r := true) rfl rfl rfl) ⟨_, _, _, _, rfl, rfl, rfl, rfl⟩ rfl ?_
      refine s_y (y_pick rfl rfl rfl rfl) rfl rfl ?_
      refine s_y (y_move rfl) rfl rfl ?_
      refine s_gd (d_callR T.ent11 (vs := [.pointer (some ⟨g345, 0, none⟩)]) rfl (entriesC_ok g345 _ b347) (by rintro e w' ⟨_, _, rfl, -⟩; exact ⟨_, rfl⟩)) ⟨_, _, _, _, rfl, rfl, rfl, rfl⟩ rfl ?_
      rintro v403 w401 ⟨A399, c400, hv404, f402⟩
      obtain rfl := ret_inj hv404
      replace hn := hn.fr0 f402
      replace hG := hG.fr0 f402
      replace hlog := hlog.fr0 f402
      replace hlo := hlo.fr0 f402
      replace hwo := hwo.fr0 f402
      replace b347 := b347.fr0 f402
      replace b374 := b374.fr0 f402
      replace b396 := b396.fr0 f402
      have hF405 := hF398.then0 f402
      refine s_gy (y_len Tryd.underlying25 rfl) ⟨_, _, _, _, rfl, rfl, rfl, rfl⟩ rfl ?_
      refine s_gy (y_move rfl) ⟨_, _, _, _, rfl, rfl, rfl, rfl⟩ rfl ?_
      refine s_gd (d_callR T.ent11 (vs := [.pointer none]) rfl (entriesN_ok _) (by rintro e w' ⟨rfl, -⟩; exact ⟨_, rfl⟩)) ⟨_, _, _, _, rfl, rfl, rfl, rfl⟩ rfl ?_
      rintro v408 w406 ⟨hv409, f407⟩
      obtain rfl := ret_inj hv409
      replace hn := hn.fr0 f407
      replace hG := hG.fr0 f407
      replace hlog := hlog.fr0 f407
      replace hlo := hlo.fr0 f407
      replace hwo := hwo.fr0 f407
      replace b347 := b347.fr0 f407
      replace b374 := b374.fr0 f407
      replace b396 := b396.fr0 f407
      have hF410 := hF405.then0 f407
      refine s_gy (y_len Tryd.underlying25 rfl) ⟨_, _, _, _, rfl, rfl, rfl, rfl⟩ rfl ?_
      refine s_gy (y_add (r := 0) rfl rfl (wrI (by decide) (by decide))) ⟨_, _, _, _, rfl, rfl, rfl, rfl⟩ rfl ?_
      refine s_gy (y_eql (r := true) rfl rfl rfl) ⟨_, _, _, _, rfl, rfl, rfl, rfl⟩ rfl ?_
      refine s_y (y_pick rfl rfl rfl rfl) rfl rfl ?_
      refine s_y (y_move rfl) rfl rfl ?_
      refine s_gd (d_callR T.ent13 (vs := [.pointer (some ⟨g345, 0, none⟩)]) rfl (headC_ok g345 _ b347) (by rintro e w' ⟨rfl, -⟩; exact ⟨_, rfl⟩)) ⟨_, _, _, _, rfl, rfl, rfl, rfl⟩ rfl ?_
      rintro v413 w411 ⟨hv414, f412⟩
      obtain rfl := ret_inj hv414
      replace hn := hn.fr0 f412
      replace hG := hG.fr0 f412
      replace hlog := hlog.fr0 f412
      replace hlo := hlo.fr0 f412
      replace hwo := hwo.fr0 f412
      replace b347 := b347.fr0 f412
      replace b374 := b374.fr0 f412
      replace b396 := b396.fr0 f412
      have hF415 := hF410.then0 f412
      refine s_gy (y_build (vs := []) rfl (T.bz26 _)) ⟨_, _, _, _, rfl, rfl, rfl, rfl⟩ rfl ?_
      refine s_gy (y_eqA (r := true) (eq26 Dig.zero Dig.zero) rfl rfl (by rw [decide_eq_true rfl])) ⟨_, _, _, _, rfl, rfl, rfl, rfl⟩ rfl ?_
      refine s_y (y_pick rfl rfl rfl rfl) rfl rfl ?_
      refine s_y (y_move rfl) rfl rfl ?_
      refine s_gy (y_move rfl) ⟨_, _, _, _, rfl, rfl, rfl, rfl⟩ rfl ?_
      refine s_gd (d_callR T.ent13 (vs := [.pointer none]) rfl (headN_ok _) (by rintro e w' ⟨rfl, -⟩; exact ⟨_, rfl⟩)) ⟨_, _, _, _, rfl, rfl, rfl, rfl⟩ rfl ?_
      rintro v418 w416 ⟨hv419, f417⟩
      obtain rfl := ret_inj hv419
      replace hn := hn.fr0 f417
      replace hG := hG.fr0 f417
      replace hlog := hlog.fr0 f417
      replace hlo := hlo.fr0 f417
      replace hwo := hwo.fr0 f417
      replace b347 := b347.fr0 f417
      replace b374 := b374.fr0 f417
      replace b396 := b396.fr0 f417
      have hF420 := hF415.then0 f417
      refine s_gy (y_build (vs := []) rfl (T.bz26 _)) ⟨_, _, _, _, rfl, rfl, rfl, rfl⟩ rfl ?_
      refine s_gy (y_eqA (r := true) (eq26 Dig.zero Dig.zero) rfl rfl (by rw [decide_eq_true rfl])) ⟨_, _, _, _, rfl, rfl, rfl, rfl⟩ rfl ?_
      refine s_y (y_pick rfl rfl rfl rfl) rfl rfl ?_
      refine s_y (y_move rfl) rfl rfl ?_
      refine s_gd (d_callR T.ent8 (vs := [.pointer (some ⟨g345, 0, none⟩)]) rfl (clone8C_ok g345 0 0 none _ b347) (by rintro e w' ⟨rfl, -⟩; exact ⟨_, rfl⟩)) ⟨_, _, _, _, rfl, rfl, rfl, rfl⟩ rfl ?_
      rintro v423 w421 ⟨hv424, f422⟩
      obtain rfl := ret_inj hv424
      replace hn := hn.fr0 f422
      replace hG := hG.fr0 f422
      replace hlog := hlog.fr0 f422
      replace hlo := hlo.fr0 f422
      replace hwo := hwo.fr0 f422
      replace b347 := b347.fr0 f422
      replace b374 := b374.fr0 f422
      replace b396 := b396.fr0 f422
      have hF425 := hF420.then0 f422
      refine s_gy (y_nn Tryd.underlying23 rfl rfl) ⟨_, _, _, _, rfl, rfl, rfl, rfl⟩ rfl ?_
      refine s_y (y_pick rfl rfl rfl rfl) rfl rfl ?_
      refine s_y (y_move rfl) rfl rfl ?_
      refine s_gy (y_move rfl) ⟨_, _, _, _, rfl, rfl, rfl, rfl⟩ rfl ?_
      refine s_gd (d_callR T.ent8 (vs := [.pointer none]) rfl (clone8N_ok _) (by rintro e w' ⟨rfl, -⟩; exact ⟨_, rfl⟩)) ⟨_, _, _, _, rfl, rfl, rfl, rfl⟩ rfl ?_
      rintro v428 w426 ⟨hv429, f427⟩
      obtain rfl := ret_inj hv429
      replace hn := hn.fr0 f427
      replace hG := hG.fr0 f427
      replace hlog := hlog.fr0 f427
      replace hlo := hlo.fr0 f427
      replace hwo := hwo.fr0 f427
      replace b347 := b347.fr0 f427
      replace b374 := b374.fr0 f427
      replace b396 := b396.fr0 f427
      have hF430 := hF425.then0 f427
      refine s_gy (y_nn Tryd.underlying23 rfl rfl) ⟨_, _, _, _, rfl, rfl, rfl, rfl⟩ rfl ?_
      refine s_y (y_pick rfl rfl rfl rfl) rfl rfl ?_
      refine s_y (y_move rfl) rfl rfl ?_
      have h7 := line14_ok 7 [113] w426 (by decide) (by decide) (by decide) hG
      rw [line7] at h7
      refine s_gd (d_callR T.ent14 (vs := [.int .i64 7, .string ⟨([113] : List UInt8).toArray⟩]) rfl (h7) (by rintro e w' ⟨rfl, -⟩; exact ⟨_, rfl⟩)) ⟨_, _, _, _, rfl, rfl, rfl, rfl⟩ rfl ?_
      rintro v433 w431 ⟨hv434, f432⟩
      obtain rfl := ret_inj hv434
      replace hn := hn.fr0 f432
      replace hG := hG.fr0 f432
      replace hlog := hlog.fr0 f432
      replace hlo := hlo.fr0 f432
      replace hwo := hwo.fr0 f432
      replace b347 := b347.fr0 f432
      replace b374 := b374.fr0 f432
      replace b396 := b396.fr0 f432
      have hF435 := hF430.then0 f432
      refine s_gy (y_seql (r := true) rfl rfl (by simp)) ⟨_, _, _, _, rfl, rfl, rfl, rfl⟩ rfl ?_
      refine s_y (y_pick rfl rfl rfl rfl) rfl rfl ?_
      refine s_y (y_move rfl) rfl rfl ?_
      refine s_gd (d_callR T.ent15 (vs := []) rfl (works15_ok _ hG) (by rintro e w' ⟨rfl, -⟩; exact ⟨_, rfl⟩)) ⟨_, _, _, _, rfl, rfl, rfl, rfl⟩ rfl ?_
      rintro v438 w436 ⟨hv439, f437⟩
      obtain rfl := ret_inj hv439
      replace hn := hn.fr0 f437
      replace hG := hG.fr0 f437
      replace hlog := hlog.fr0 f437
      replace hlo := hlo.fr0 f437
      replace hwo := hwo.fr0 f437
      replace b347 := b347.fr0 f437
      replace b374 := b374.fr0 f437
      replace b396 := b396.fr0 f437
      have hF440 := hF435.then0 f437
      refine s_y (y_pick rfl rfl rfl rfl) rfl rfl ?_
      refine s_y (y_assign rfl) rfl rfl ?_
      refine s_nil ?_
      refine n_then ?_
      refine c_ret ?_
      refine fin1 (by simp) rfl rfl ?_
      exact ⟨rfl, hF440⟩

end Go.Proofs.YtojbephcahnbbaaDoor
