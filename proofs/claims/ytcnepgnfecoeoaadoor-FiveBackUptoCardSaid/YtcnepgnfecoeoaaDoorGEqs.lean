/- Step lemmas, ninth part: comparisons of arrays of bytes and of nil slices. No condition. -/
import Derived.Test.YtcnepgnfecoeoaaDoorGMem3
import Derived.Laws.StructEq
import Derived.Laws.Cover3
import Derived.ChangeKeysEq
import Derived.Laws.BytesArg
set_option linter.unusedVariables false
set_option linter.unusedSimpArgs false
namespace Go.Proofs.GP
open Go Go.RowKit
variable {P : Program} {env : Env} {w : World}
theorem guard_sl {op : BinOp} {t : TypeId} {x y : Operand} {A B : Option Addr} {n c m d : Nat} : (eqGuard op t x y (.slice A n c) (.slice B m d)).run P w = .ok () w := by
  unfold eqGuard; cases op <;> rfl
theorem y_snil {dst : Option Tmp} {ty : TypeId} {pos : String} {after gd} {t e : TypeId} {x y : Operand} {yt : TypeId} {A : Option Addr} {n c : Nat} (ht : P.underlying t = some (.slice e)) (hx : ev env x = some (.slice A n c)) (hy : ev env y = some (.slice none 0 0)) : Yld P env ⟨dst, .binOp .eql t x y yt, ty, pos, after, gd⟩ w (.bool A.isNone) :=
  y_bin hx hy guard_sl (run_eqlV rfl (run_equalIn_slice_nil w 9999 t e A n c ht) rfl)
theorem y_snilx {dst : Option Tmp} {ty : TypeId} {pos : String} {after gd} {t e : TypeId} {x y : Operand} {yt : TypeId} {A : Option Addr} {n c : Nat} (ht : P.underlying t = some (.slice e)) (hx : ev env x = some (.slice A n c)) (hy : ev env y = some (.slice none 0 0)) : Yld P env ⟨dst, .binOp .neq t x y yt, ty, pos, after, gd⟩ w (.bool !A.isNone) :=
  y_bin hx hy guard_sl (run_neqV rfl (run_equalIn_slice_nil w 9999 t e A n c ht) rfl)
/-- the items' loop of an array of bytes -/
theorem run_items (d : Nat) {e : TypeId} (he : P.underlying e = some (.int .u8)) (ht : TyS P e false 1) (xs ys : List UInt8) (hl : xs.length = ys.length) : ∀ (k i : Nat), i + k = xs.length →
    (Op.eqItems (d + 1) e 1 (xs.map bv).toArray (ys.map bv).toArray (List.range' i k)).run P w = .ok (decide (xs.drop i = ys.drop i)) w
  | 0, i, h => by
    have h1 : xs.drop i = [] := List.drop_eq_nil_of_le (by omega)
    have h2 : ys.drop i = [] := List.drop_eq_nil_of_le (by omega)
    simp [Op.eqItems, h1, h2]
  | k + 1, i, h => by
    have hx : i < xs.length := by omega
    have hy : i < ys.length := by omega
    have p1 : (part e (xs.map bv).toArray (i * 1)).run P w = .ok (bv xs[i]) w := run_part1 ht (by simp [hx])
    have p2 : (part e (ys.map bv).toArray (i * 1)).run P w = .ok (bv ys[i]) w := run_part1 ht (by simp [hy])
    have p3 : (Op.equalIn (d + 1) e (bv xs[i]) (bv ys[i])).run P w = .ok (((xs[i]).toNat : Int) == (ys[i]).toNat) w := run_equalIn_int w d e .u8 .u8 _ _ he
    rw [List.range'_succ]
    simp only [Op.eqItems, Sem.run_bind, p1, p2, p3, Result.andThen_ok]
    rw [List.drop_eq_getElem_cons hx, List.drop_eq_getElem_cons hy]
    by_cases hb : xs[i] = ys[i]
    · rw [show (((xs[i]).toNat : Int) == (ys[i]).toNat) = true by simp [hb]]
      have ih := run_items d he ht xs ys hl k (i + 1) (by omega)
      simp only [Bool.not_true, Bool.false_eq_true, if_false, ih, hb, List.cons.injEq, true_and]
    · have : (((xs[i]).toNat : Int) == (ys[i]).toNat) = false := by
        rw [beq_eq_false_iff_ne]; intro hc; exact hb (UInt8.toNat_inj.1 (by omega))
      rw [this, decide_eq_false (p := xs[i] :: List.drop (i + 1) xs = ys[i] :: List.drop (i + 1) ys) (fun hc => hb (List.cons.inj hc).1)]
      simp
theorem ein_bytes {t e : TypeId} {n : Nat} {i : TypeInfo} (d : Nat) (ht : P.underlying t = some (.array n e)) (hi : P.info? e = some i) (hc : P.cellsOf e = 1) (he : P.underlying e = some (.int .u8)) (hs : TyS P e false 1) (xs ys : List UInt8) (hx : xs.length = n) (hy : ys.length = n) :
    (Op.equalIn (d + 2) t (.agg (xs.map bv).toArray) (.agg (ys.map bv).toArray)).run P w = .ok (decide (xs = ys)) w := by
  have := run_items (w := w) d he hs xs ys (by omega) n 0 (by omega)
  rw [run_equalIn_array w (d + 1) _ _ ht hi, hc, List.range_eq_range']
  simpa using this
theorem eqf_nil {d : Nat} {xs ys : Array Value} : (Op.eqFields d xs ys []).run P w = .ok true w := by simp [Op.eqFields]
theorem eqf_cons {d : Nat} {xs ys : Array Value} {f : Field} {fs : List Field} {a b : Value} {r q : Bool} (hn : f.name ≠ "_") (p1 : (part f.type xs f.offset).run P w = .ok a w) (p2 : (part f.type ys f.offset).run P w = .ok b w)
    (p3 : (Op.equalIn d f.type a b).run P w = .ok r w) (h : (Op.eqFields d xs ys fs).run P w = .ok q w) : (Op.eqFields d xs ys (f :: fs)).run P w = .ok (r && q) w := by
  simp only [Op.eqFields, hn, ne_eq, not_false_eq_true, if_true, Sem.run_bind, p1, p2, p3, Result.andThen_ok]
  cases r <;> simp [h]
/-- Two values of type t compare so. -/
structure EqS (P : Program) (t : TypeId) (xs ys : List Value) (b : Bool) : Prop where
  g : P.eqGuardType P.depth t = false
  r : ∀ w, (Op.equalIn 10000 t (.agg xs.toArray) (.agg ys.toArray)).run P w = .ok b w
theorem y_eqA {dst : Option Tmp} {ty : TypeId} {pos : String} {after gd} {t : TypeId} {x y : Operand} {yt : TypeId} {xs ys : List Value} {b r : Bool} (h : EqS P t xs ys b) (hx : ev env x = some (.agg xs.toArray)) (hy : ev env y = some (.agg ys.toArray)) (hr : b = r) : Yld P env ⟨dst, .binOp .eql t x y yt, ty, pos, after, gd⟩ w (.bool r) :=
  y_bin hx hy (run_eqGuard_agg w _ _ _ _ _ _ h.g) (by subst hr; rw [run_eql_struct, h.r]; rfl)
theorem y_neA {dst : Option Tmp} {ty : TypeId} {pos : String} {after gd} {t : TypeId} {x y : Operand} {yt : TypeId} {xs ys : List Value} {b r : Bool} (h : EqS P t xs ys b) (hx : ev env x = some (.agg xs.toArray)) (hy : ev env y = some (.agg ys.toArray)) (hr : (!b) = r) : Yld P env ⟨dst, .binOp .neq t x y yt, ty, pos, after, gd⟩ w (.bool r) :=
  y_bin hx hy (run_eqGuard_agg w _ _ _ _ _ _ h.g) (by subst hr; rw [run_neq_struct, h.r]; rfl)
theorem run_bstr {src t e : TypeId} {A : Option Addr} {g o n c : Nat} {bs : List UInt8} (hs : P.underlying src = some (.slice e)) (he : P.underlying e = some (.int .u8)) (ht : P.underlying t = some .string) (hr : Row w A g o n 1 (bs.map bv)) :
    (convert src t (.slice A n c)).run P w = .ok (.string ⟨bs.toArray⟩) w := by
  have hn : bs.length = n := by have := hr.len; simpa using this
  rcases hr.cells with h | ⟨h, hc⟩
  · have hb : bs = [] := by simpa using h
    subst hb
    have h0 : n = 0 := by simpa using hn.symm
    subst h0
    cases A with
    | none => exact run_convert_bytes_nil w src e hs he 0 c t ht
    | some a =>
      rw [run_convert_bytes_string w src t e _ 0 c hs he ht, run_bytesToString w a 0 c [] (by simp [loadCells, loadCellsFrom])]
      rfl
  · subst h
    rw [run_convert_bytes_arg w src e hs he g o n c (bs.map fun b => (b.toNat : Int)) (by simpa using hn) (fun i hi => ?_) t ht]
    · congr 2
      simp [strOfNums, Function.comp_def]
    · have hi' : i < bs.length := by omega
      rw [hc i (by simpa using hi')]
      simp [hi', bv]
theorem y_bstr {dst : Option Tmp} {ty : TypeId} {pos : String} {after gd} {src t e : TypeId} {x : Operand} {A : Option Addr} {g o n c : Nat} {bs : List UInt8} (hs : P.underlying src = some (.slice e)) (he : P.underlying e = some (.int .u8)) (ht : P.underlying t = some .string) (hx : ev env x = some (.slice A n c)) (hr : Row w A g o n 1 (bs.map bv)) :
    Yld P env ⟨dst, .convert src t x, ty, pos, after, gd⟩ w (.string ⟨bs.toArray⟩) := by
  intro ρ ha
  simp only [execOp, ha x _ hx, run_bstr hs he ht hr, Sem.run_bind, Result.andThen_ok, Sem.run_pure]
theorem take_setL (l : List Value) (m j : Nat) (v : Value) (hj : j < m) : (setL l j [v]).take m = setL (l.take m) j [v] := by
  simp only [setL]
  rw [List.take_set]
theorem d_storeO {dst : Option Tmp} {ty : TypeId} {pos : String} {after gd} {t e : TypeId} {x y : Operand} {A : Option Addr} {g n c k j : Nat} {xs : List Value} {v : Value} (ht : TyS P t false 1) (hx : ev env x = some (.pointer (some ⟨g, j, none⟩))) (hy : ev env y = some v) (hv : v.cells = #[v]) (h1 : oneV v = true) (own : Own w A g n c e k xs) (hj : j < n * k) :
    Doe P env ⟨dst, .store t x y, ty, pos, after, gd⟩ w (fun u w' => u = undef ∧ Own w' A g n c e k (setL xs j [v]) ∧ Fr [g] w w') := by
  rcases own.at_ with ⟨_, h0, _⟩ | ⟨hA, cur, hb, hl, htk⟩
  · rw [h0] at hj; omega
  · have hnk : n * k ≤ c * k := Nat.mul_le_mul_right _ own.cap
    refine fun a next Q ha hn => d_store (cs := [v]) (l' := setL cur j [v]) ht hx hy hb (by rw [hv]) rfl (by simpa using h1) (by rw [hl]; omega) rfl a next Q ha fun u w' hr => hn u w' ?_
    obtain ⟨h2, h3, h4⟩ := hr
    refine ⟨h2, ⟨?_, own.cap, own.most, .inr ⟨hA, _, h3, by rw [setL_length, hl], ?_⟩⟩, h4⟩
    · rw [setL_length]; exact own.len
    · rw [take_setL _ _ _ _ hj, htk]
end Go.Proofs.GP
