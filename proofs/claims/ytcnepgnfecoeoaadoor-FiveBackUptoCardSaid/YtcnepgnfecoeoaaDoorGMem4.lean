/- Step lemmas, tenth part: type assertions, loops gone through round by round, new slices of a length, arrays compared. No condition. -/
import Derived.Test.YtcnepgnfecoeoaaDoorGFault
import Derived.Test.YtcnepgnfecoeoaaDoorGFlow
import Derived.Laws.MakeOwn
set_option linter.unusedVariables false
set_option linter.unusedSimpArgs false
namespace Go.Proofs.GP
open Go Go.RowKit
section
variable {P : Program} {env : Env} {w : World} {n : Nat} {Q : Post}
/-- An assertion's fact: of a value of the dynamic type k. -/
def AsS (P : Program) (xt t k : TypeId) (ok : Bool) (z : Value) : Prop := ∀ (v : Value) (w : World), (Instr.typeAssert (.iface k v) xt t true).run P w = .ok (.tuple #[if ok then v else z, .bool ok]) w
theorem y_assert {dst : Option Tmp} {ty : TypeId} {pos : String} {after gd} {x : Operand} {xt t k : TypeId} {ok : Bool} {z v r : Value} (hx : ev env x = some (.iface k v)) (h : AsS P xt t k ok z) (hr : (if ok then v else z) = r) : Yld P env ⟨dst, .typeAssert x xt t true, ty, pos, after, gd⟩ w (.tuple #[r, .bool ok]) := by
  intro ρ ha; subst hr
  simp [execOp, ha x _ hx, h v w]
/-- What is left of a loop at a round's end. -/
def LI (P : Program) (c : Code) (Q : Post) (a : Act) (w : World) : Prop := ∀ b k cs, ∃ e a' w', Q e a' w' ∧ Arrives P (lone (b.at a (.inLoop c :: k)) cs w) b k cs e a' w'
theorem li_round {c : Code} {a : Act} (h : c.wp P (Exit.then (LI P c Q) Q) a w) (b : Frame) (k : List Item) (cs : List Frame) : ∃ e a' w', Q e a' w' ∧ Arrives P (lone (b.at a (.code c :: .inLoop c :: k)) cs w) b k cs e a' w' := by
  obtain ⟨e, a₁, w₁, hq, harr⟩ := h b (.inLoop c :: k) cs
  cases e with
  | normal =>
    obtain ⟨e₂, a₂, w₂, hq₂, harr₂⟩ := hq b k cs
    exact ⟨e₂, a₂, w₂, hq₂, .of_steps harr harr₂⟩
  | exit id => exact ⟨_, a₁, w₁, hq, .pass (x := .inLoop c) rfl (fun _ _ => .inl (by simp)) harr⟩
  | goto l => exact ⟨_, a₁, w₁, hq, .pass (x := .inLoop c) rfl (fun _ _ => .inl (by simp)) harr⟩
  | ret => exact ⟨_, a₁, w₁, hq, .pass (x := .inLoop c) rfl (fun _ _ => .inl (by simp)) harr⟩
  | panic ch => exact ⟨_, a₁, w₁, hq, .pass (x := .inLoop c) rfl (fun _ _ => .inl (by simp)) harr⟩
  | outgrown => exact ⟨_, a₁, w₁, hq, .pass (x := .inLoop c) rfl (fun _ _ => .inl (by simp)) harr⟩
theorem c_unroll {c : Code} (h : Wc P c (Exit.then (LI P c Q) Q) n env w) : Wc P (.loop c) Q n env w := fun a ha b k cs => by
  obtain ⟨e, a', w', hq, harr⟩ := li_round (h a ha) b k cs
  exact ⟨e, a', w', hq, .of_steps (.one step_loop) harr⟩
theorem n_again {c : Code} {Q' : Post} (h : Wc P c (Exit.then (LI P c Q) Q) n env w) : Wx (Exit.then (LI P c Q) Q') .normal n env w := fun a ha b k cs => by
  obtain ⟨e, a', w', hq, harr⟩ := li_round (h a ha) b k cs
  exact ⟨e, a', w', hq, .of_steps (.one step_inLoop) harr⟩
theorem wl_cases {ops : Array Oper} {l : List Oper} {p q : Prop} (h : p ∨ q) (h1 : p → Wl P ops Q l n env w) (h2 : q → Wl P ops Q l n env w) : Wl P ops Q l n env w := h.elim h1 h2
theorem wc_cases {c : Code} {p q : Prop} (h : p ∨ q) (h1 : p → Wc P c Q n env w) (h2 : q → Wc P c Q n env w) : Wc P c Q n env w := h.elim h1 h2
/-- A new slice of n cells. -/
theorem make_n {t e : TypeId} {z : Value} {by_ : Nat} (ht : P.underlying t = some (.slice e)) (hi : (P.info? e).map (fun i => (i.zero, i.size, i.bytes)) = some (some z, 1, by_)) (hz : z.cells = #[z]) (m : Nat) (hm : by_ * m ≤ 281474976710656) (h63 : m ≤ 9223372036854775807) :
    MakeS P t e (.int .i64 ↑m) (.int .i64 ↑m) m (List.replicate m z) := by
  intro w
  obtain ⟨i, h1, h2⟩ := Option.map_eq_some_iff.1 hi
  simp only [Prod.mk.injEq] at h2
  obtain ⟨hz', hs, hb⟩ := h2
  have hb' : (i.bytes : Int) * (m : Int) ≤ 281474976710656 := by
    have h3 : ((by_ * m : Nat) : Int) ≤ 281474976710656 := by omega
    rw [hb]; rwa [Int.natCast_mul] at h3
  rw [run_make (P := P) w t e i z ht h1 hz' .i64 .i64 m m (by omega) (by omega) hb' (by omega)]
  simp only [Int.toNat_natCast, hs, Nat.mul_one, hz]
  congr 1
  unfold World.alloc
  congr 2
  apply congrArg (fun a => Obj.cells a e)
  apply Array.ext'
  simp only [madeCells]
  apply List.ext_getElem
  · simp
  · intro j h3 h4
    simp [Nat.mod_one]
theorem cell_fr0 {w' : World} {p : Addr} {v : Value} (h : w.cell? p = some v) (f : Fr [] w w') : w'.cell? p = some v :=
  (World.cell?_of_block (w := w) (f.block p.block (World.block_lt_of_cell? w _ h) (by simp))).trans h
theorem own_take {A : Option Addr} {g m q c k : Nat} {e : TypeId} {xs : List Value} (h : Own w A g q c e k xs) (hA : A ≠ none) (hm : m ≤ q) : Own w A g m c e k (xs.take (m * k)) := by
  have hmul : m * k ≤ q * k := Nat.mul_le_mul_right _ hm
  refine ⟨by rw [List.length_take, h.len]; omega, Nat.le_trans hm h.cap, h.most, ?_⟩
  rcases h.at_ with ⟨h1, _⟩ | ⟨h1, cur, hb, h2, h3⟩
  · exact absurd h1 hA
  · exact .inr ⟨h1, cur, hb, h2, by rw [← h3, List.take_take, Nat.min_eq_left hmul]⟩
theorem d_sliceO {dst : Option Tmp} {ty : TypeId} {pos : String} {after gd} {x hh : Operand} {t e : TypeId} {ag : Bool} {g m q c k : Nat} {xs : List Value} {kk : IntKind} {z : Int} (ht : P.underlying t = some (.slice e)) (hs : TyS P e ag k) (hx : ev env x = some (.slice (some ⟨g, 0, none⟩) q c)) (hhi : ev env hh = some (.int kk z)) (hz : z = (m : Int))
    (ho : Own w (some ⟨g, 0, none⟩) g q c e k xs) (hmn : m ≤ q) : Doe P env ⟨dst, .slice t x none (some hh) none, ty, pos, after, gd⟩ w (fun v w' => v = .slice (some ⟨g, 0, none⟩) m c ∧ w = w' ∧ Own w' (some ⟨g, 0, none⟩) g m c e k (xs.take (m * k))) :=
  Doe.of_run fun ρ ha => by
    subst hz
    refine ⟨.slice (some ⟨g, 0, none⟩) m c, w, ?_, rfl, rfl, own_take ho (by simp) hmn⟩
    have hc := ho.cap
    have b1 := fun code => run_bound (P := P) (w := w) (code := code) (y := c) (show (Value.int kk (m : Int)) = .int kk m from rfl) (by omega) (by omega)
    simp only [Int.toNat_natCast] at b1
    simp [execOp, ha x _ hx, ha hh _ hhi, Instr.sliceAt, Instr.slice, run_und ht, Instr.sliceBounds, b1, hs.size, addr_add]
theorem row_z {g m t : Nat} (h : Blk w g t (List.replicate m (.int .u8 0))) : Row w (some ⟨g, 0, none⟩) g 0 m 1 ((List.replicate m (0 : UInt8)).map bv) := by
  rw [List.map_replicate]
  exact Row.of_blk (n := m) (k := 1) h (by simp)
theorem str_at (s : List UInt8) (i : Nat) (h : i < s.length) : s[((i : Nat) : Int).toNat]? = some (s.getD i 0) := by
  rw [Int.toNat_natCast, List.getD_eq_getElem?_getD, List.getElem?_eq_getElem h]; rfl
theorem str_atI (s : List UInt8) (q : Int) (i : Nat) (hq : q = i) (h : i < s.length) : s[q.toNat]? = some (s.getD i 0) := by subst hq; exact str_at s i h
/-- the items' loop of an array of one-celled items -/
theorem run_items1 (d : Nat) {e : TypeId} (ht : TyS P e false 1) (xs ys : List Value) (r : Nat → Bool) (hr : ∀ i x y, xs[i]? = some x → ys[i]? = some y → (Op.equalIn (d + 1) e x y).run P w = .ok (r i) w) (hl : xs.length = ys.length) : ∀ (k i : Nat), i + k = xs.length →
    (Op.eqItems (d + 1) e 1 xs.toArray ys.toArray (List.range' i k)).run P w = .ok ((List.range' i k).all r) w
  | 0, i, h => by simp [Op.eqItems]
  | k + 1, i, h => by
    have hx : i < xs.length := by omega
    have hy : i < ys.length := by omega
    have p1 : (part e xs.toArray (i * 1)).run P w = .ok xs[i] w := run_part1 ht (by simp [hx])
    have p2 : (part e ys.toArray (i * 1)).run P w = .ok ys[i] w := run_part1 ht (by simp [hy])
    have p3 := hr i xs[i] ys[i] (List.getElem?_eq_getElem hx) (List.getElem?_eq_getElem hy)
    rw [List.range'_succ]
    simp only [Op.eqItems, Sem.run_bind, p1, p2, p3, Result.andThen_ok]
    have ih := run_items1 d ht xs ys r hr hl k (i + 1) (by omega)
    rw [List.all_cons]
    cases r i with
    | true => simpa using ih
    | false => simp
theorem ein_items {t e : TypeId} {m : Nat} {i : TypeInfo} (d : Nat) (ht : P.underlying t = some (.array m e)) (hi : P.info? e = some i) (hc : P.cellsOf e = 1) (hs : TyS P e false 1) (xs ys : List Value) (hx : xs.length = m) (hy : ys.length = m) (r : Nat → Bool)
    (hr : ∀ i x y, xs[i]? = some x → ys[i]? = some y → (Op.equalIn (d + 1) e x y).run P w = .ok (r i) w) :
    (Op.equalIn (d + 2) t (.agg xs.toArray) (.agg ys.toArray)).run P w = .ok ((List.range m).all r) w := by
  have := run_items1 (w := w) d hs xs ys r hr (by omega) m 0 (by omega)
  rw [run_equalIn_array w (d + 1) _ _ ht hi, hc, List.range_eq_range']
  simpa using this
end
end Go.Proofs.GP
