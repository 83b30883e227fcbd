/- Step lemmas, third part: reads and writes of memory, slices, strings, calls. No condition. -/
import Derived.Test.YtcnepgnfecoeoaaDoorGOps
import Derived.Laws.BytesArg
import Derived.Lib.LazyBuf
set_option linter.unusedVariables false
set_option linter.unusedSimpArgs false
namespace Go.Proofs.GP
open Go Go.RowKit

/-! ### 5. Slices -/
/-- The slice (A, n elements of k cells) reads as xs; it lies in block g from o on (of no meaning where it is empty). -/
structure Row (w : World) (A : Option Addr) (g o n k : Nat) (xs : List Value) : Prop where
  len : xs.length = n * k
  cells : xs = [] ∨ (A = some ⟨g, o, none⟩ ∧ ∀ j, j < xs.length → w.cell? ⟨g, o + j, none⟩ = xs[j]?)
section
variable {w w' : World} {A : Option Addr} {g o n k : Nat} {xs : List Value}
theorem Row.nil (w : World) (A : Option Addr) (g o k : Nat) : Row w A g o 0 k [] := ⟨by simp, .inl rfl⟩
theorem Row.nil' (w : World) (A : Option Addr) (g o n k : Nat) (h : n * k = 0) : Row w A g o n k [] := ⟨by simp [h], .inl rfl⟩
theorem Row.lt (h : Row w A g o n k xs) (hx : xs ≠ []) : g < w.heap.size := by
  rcases h.cells with e | ⟨_, hc⟩
  · exact absurd e hx
  · have h0 : 0 < xs.length := List.length_pos_iff.2 hx
    have := hc 0 h0
    rw [List.getElem?_eq_getElem h0] at this
    exact World.block_lt_of_cell? w _ this
theorem Row.cell (h : Row w A g o n k xs) {j : Nat} {v : Value} (hj : xs[j]? = some v) : w.cell? ⟨g, o + j, none⟩ = some v := by
  have hlt : j < xs.length := (List.getElem?_eq_some_iff.1 hj).1
  rcases h.cells with e | ⟨_, hc⟩
  · subst e; simp at hlt
  · rw [hc j hlt, hj]
theorem Row.addr (h : Row w A g o n k xs) {j : Nat} (hj : j < xs.length) : A = some ⟨g, o, none⟩ := by
  rcases h.cells with e | ⟨e, _⟩
  · subst e; simp at hj
  · exact e
theorem Row.fr {gs : List Nat} (h : Row w A g o n k xs) (f : Fr gs w w') (hg : xs = [] ∨ g ∉ gs) : Row w' A g o n k xs := by
  refine ⟨h.len, ?_⟩
  rcases hg with e | hn
  · exact .inl e
  rcases h.cells with e | ⟨e, hc⟩
  · exact .inl e
  refine .inr ⟨e, fun j hj => ?_⟩
  have hlt : g < w.heap.size := h.lt (fun e => by subst e; simp at hj)
  rw [← hc j hj]
  exact World.cell?_of_block (w := w) (f.block g hlt hn)
theorem Row.fr0 (h : Row w A g o n k xs) (f : Fr [] w w') : Row w' A g o n k xs := h.fr f (.inr (by simp))
theorem Row.fr1 (h : Row w A g o n k xs) {m : Nat} (f : Fr [m] w w') (hg : xs = [] ∨ g ≠ m) : Row w' A g o n k xs := h.fr f (hg.imp id fun h => by simpa using h)
theorem Row.of_blk {t : TypeId} {l : List Value} (h : Blk w g t l) (hl : l.length = n * k) : Row w (some ⟨g, 0, none⟩) g 0 n k l :=
  ⟨hl, .inr ⟨rfl, fun j hj => by rw [h.cell, Nat.zero_add]⟩⟩
/-- A part of it. -/
theorem Row.cut (h : Row w A g o n k xs) {l m c : Nat} (hlm : l ≤ m) (hmn : m ≤ n) (hc : n ≤ c) : Row w (if c = l then A else A.map (·.add (l * k))) g (o + l * k) (m - l) k ((xs.drop (l * k)).take ((m - l) * k)) := by
  have hmul : l * k + (m - l) * k = m * k := by rw [← Nat.add_mul]; congr 1; omega
  have hle : m * k ≤ n * k := Nat.mul_le_mul_right _ hmn
  refine ⟨by rw [List.length_take, List.length_drop, h.len]; omega, ?_⟩
  by_cases h0 : (m - l) * k = 0
  · left; rw [h0]; rfl
  · right
    have hne : c ≠ l := by
      intro e; subst e
      have : m - c = 0 := by omega
      rw [this] at h0; simp at h0
    have hA := h.addr (j := 0) (by rw [h.len]; omega)
    subst hA
    rw [if_neg hne]
    refine ⟨by simp [addr_add], fun j hj => ?_⟩
    have hj' : j < (m - l) * k := by rw [List.length_take] at hj; omega
    have hc' := h.cells.resolve_left (by intro e; have := h.len; rw [e] at this; simp at this; omega)
    have := hc'.2 (l * k + j) (by rw [h.len]; omega)
    rw [Nat.add_assoc, this, List.getElem?_take, if_pos hj', List.getElem?_drop]
end
/-- A slice of the call's own, that may be appended to: in block g, from its begin on (or nil). -/
structure Own (w : World) (A : Option Addr) (g n c : Nat) (e : TypeId) (k : Nat) (xs : List Value) : Prop where
  len : xs.length = n * k
  cap : n ≤ c
  most : c ≤ 9223372036854775807
  at_ : (A = none ∧ n = 0 ∧ c = 0) ∨ (A = some ⟨g, 0, none⟩ ∧ ∃ cur, Blk w g e cur ∧ cur.length = c * k ∧ cur.take (n * k) = xs)
def ownL (A : Option Addr) (g : Nat) : List Nat := match A with | some _ => [g] | none => []
section
variable {w w' : World} {A : Option Addr} {g n c k : Nat} {e : TypeId} {xs : List Value}
theorem Own.nil (w : World) (g : Nat) (e : TypeId) (k : Nat) : Own w none g 0 0 e k [] := ⟨by simp, by omega, by omega, .inl ⟨rfl, rfl, rfl⟩⟩
theorem Own.of_blk (h : Blk w g e xs) (hl : xs.length = n * k) (hn : n ≤ 9223372036854775807) : Own w (some ⟨g, 0, none⟩) g n n e k xs :=
  ⟨hl, Nat.le_refl _, hn, .inr ⟨rfl, xs, h, hl, by rw [← hl]; exact List.take_length⟩⟩
theorem Own.fr {gs : List Nat} (h : Own w A g n c e k xs) (f : Fr gs w w') (hg : A = none ∨ g ∉ gs) : Own w' A g n c e k xs := by
  refine ⟨h.len, h.cap, h.most, ?_⟩
  rcases h.at_ with h1 | ⟨h1, cur, hb, h2, h3⟩
  · exact .inl h1
  · rcases hg with e1 | hn
    · rw [e1] at h1; cases h1
    · exact .inr ⟨h1, cur, hb.fr f hn, h2, h3⟩
theorem Own.fr0 (h : Own w A g n c e k xs) (f : Fr [] w w') : Own w' A g n c e k xs := h.fr f (.inr (by simp))
theorem Own.fr1 (h : Own w A g n c e k xs) {m : Nat} (f : Fr [m] w w') (hg : A = none ∨ g ≠ m) : Own w' A g n c e k xs := h.fr f (hg.imp id fun h => by simpa using h)
theorem Own.row (h : Own w A g n c e k xs) : Row w A g 0 n k xs := by
  refine ⟨h.len, ?_⟩
  rcases h.at_ with ⟨rfl, rfl, rfl⟩ | ⟨h1, cur, hb, h2, h3⟩
  · exact .inl (List.eq_nil_of_length_eq_zero (by simpa using h.len))
  · refine .inr ⟨h1, fun j hj => ?_⟩
    rw [Nat.zero_add, hb.cell, ← h3, List.getElem?_take, if_pos (by rw [← h.len]; exact hj)]
theorem Own.ne_blk {m : Nat} {t : TypeId} {l : List Value} (h : Own w A g n c e k xs) (hb : Blk w m t l) (hne : e ≠ t) : A = none ∨ g ≠ m := by
  rcases h.at_ with ⟨h1, _⟩ | ⟨_, cur, hb', _⟩
  · exact .inl h1
  · exact .inr (hb'.ne_type hb hne)
theorem Own.ne_new {m : Nat} (h : Own w A g n c e k xs) (hm : w.heap.size ≤ m) : A = none ∨ g ≠ m := by
  rcases h.at_ with ⟨h1, _⟩ | ⟨_, cur, hb', _⟩
  · exact .inl h1
  · have := hb'.lt
    exact .inr (by omega)
theorem Own.lt (h : Own w A g n c e k xs) : A = none ∨ g < w.heap.size := by
  rcases h.at_ with ⟨h1, _⟩ | ⟨_, cur, hb', _⟩
  · exact .inl h1
  · exact .inr hb'.lt
theorem not_ownL {m : Nat} (h : A = none ∨ m ≠ g) : m ∉ ownL A g := by
  rcases h with rfl | h
  · simp [ownL]
  · cases A <;> simp [ownL, h]
end

/-! ### 6. Facts of the program's tables: each by 'kernel_rfl' -/
def FldS (P : Program) (s : TypeId) (i off : Nat) : Prop := ∀ (p : Addr) (w : World), (Instr.fieldAt s (.pointer (some p)) i).run P w = .ok (.pointer (some (p.add off))) w
/-- A variable's zero value. -/
def ZeroS (P : Program) (t : TypeId) (z : Value) : Prop := ∀ w, (zeroValue t).run P w = .ok z w
def EntS (P : Program) (f : FuncId) : Prop := ∀ (args : Array Value) (w : World), (callFunc f args).run P w = .ok (.enter f args) w
theorem ent_of {P : Program} {f : FuncId} {fn : Func} (hf : P.funcs[f]? = some fn) (hn : (fn.name == "runtime.NumGoroutine") = false) (hb : fn.body.isNone = false) : EntS P f := by
  intro args w
  simp only [callFunc, Sem.run_bind, program, Sem.run, Result.andThen_ok, hf, hn, hb, Bool.false_eq_true, if_false]
  rfl
section
variable {P : Program} {env : Env} {w : World} {dst : Option Tmp} {ty : TypeId} {pos : String} {after : Array Edge} {gd : Option (Nat × Bool)}
theorem run_und {t : TypeId} {d : TypeDesc} (h : P.underlying t = some d) (w : World) : (underlying t).run P w = .ok d w := by simp [underlying, program, Sem.run, h]

/-! ### 7. Places -/
theorem y_field {x : Operand} {s : TypeId} {i g o k r : Nat} (hx : ev env x = some (.pointer (some ⟨g, o, none⟩))) (hf : FldS P s i k) (hr : o + k = r) : Yld P env ⟨dst, .fieldAddr s x i, ty, pos, after, gd⟩ w (.pointer (some ⟨g, r, none⟩)) := by
  intro ρ ha; subst hr; simp [execOp, ha x _ hx, hf ⟨g, o, none⟩ w, addr_add]
theorem y_index {x y : Operand} {t e : TypeId} {ag : Bool} {A : Option Addr} {n c g o k r : Nat} {kk : IntKind} {q : Int} (ht : P.underlying t = some (.slice e)) (hs : TyS P e ag k) (hx : ev env x = some (.slice A n c)) (hy : ev env y = some (.int kk q))
    (hA : A = some ⟨g, o, none⟩) (h0 : 0 ≤ q) (h1 : q < (n : Int)) (hr : o + q.toNat * k = r) : Yld P env ⟨dst, .indexAddr t x y, ty, pos, after, gd⟩ w (.pointer (some ⟨g, r, none⟩)) := by
  intro ρ ha; subst hr; subst hA
  simp [execOp, ha x _ hx, ha y _ hy, Instr.indexAt, asIntOf, run_und ht, h0, h1, hs.size, addr_add]
theorem y_indexArr {x y : Operand} {t e : TypeId} {ag : Bool} {m g o k r : Nat} {kk : IntKind} {q : Int} (ht : P.underlying t = some (.array m e)) (hs : TyS P e ag k) (hx : ev env x = some (.pointer (some ⟨g, o, none⟩))) (hy : ev env y = some (.int kk q))
    (h0 : 0 ≤ q) (h1 : q < (m : Int)) (hr : o + q.toNat * k = r) : Yld P env ⟨dst, .indexAddr t x y, ty, pos, after, gd⟩ w (.pointer (some ⟨g, r, none⟩)) := by
  intro ρ ha; subst hr
  simp [execOp, ha x _ hx, ha y _ hy, Instr.indexAt, asIntOf, run_und ht, h0, h1, hs.size, addr_add, Instr.sureAddr]

/-! ### 8. Reads -/
theorem y_load1 {x : Operand} {t : TypeId} {k : Nat} {p : Addr} {v : Value} (ht : TyS P t false k) (hx : ev env x = some (.pointer (some p))) (hc : w.cell? p = some v) : Yld P env ⟨dst, .load t x, ty, pos, after, gd⟩ w v := by
  intro ρ ha
  simp [execOp, ha x _ hx, Instr.loadAt, Instr.sureAddr, run_loadVar1 ht hc]
theorem y_ldB {x : Operand} {t tb : TypeId} {k g o : Nat} {l : List Value} {v : Value} (ht : TyS P t false k) (hx : ev env x = some (.pointer (some ⟨g, o, none⟩))) (hb : Blk w g tb l) (hv : l[o]? = some v) : Yld P env ⟨dst, .load t x, ty, pos, after, gd⟩ w v :=
  y_load1 ht hx ((hb.cell o).trans hv)
theorem y_ldR {x : Operand} {t : TypeId} {k k' g o p j n : Nat} {A : Option Addr} {xs : List Value} {v : Value} (ht : TyS P t false k) (hx : ev env x = some (.pointer (some ⟨g, p, none⟩))) (hb : Row w A g o n k' xs) (hp : p = o + j) (hv : xs[j]? = some v) : Yld P env ⟨dst, .load t x, ty, pos, after, gd⟩ w v := by
  subst hp; exact y_load1 ht hx (hb.cell hv)
theorem y_loadA {x : Operand} {t : TypeId} {k g o : Nat} {xs : List Value} (ht : TyS P t true k) (hx : ev env x = some (.pointer (some ⟨g, o, none⟩))) (hk : xs.length = k) (hc : ∀ j, j < k → w.cell? ⟨g, o + j, none⟩ = xs[j]?) : Yld P env ⟨dst, .load t x, ty, pos, after, gd⟩ w (.agg xs.toArray) := by
  intro ρ ha
  simp [execOp, ha x _ hx, Instr.loadAt, Instr.sureAddr, run_loadVarA ht hk hc]
theorem y_ldBA {x : Operand} {t tb : TypeId} {k g o : Nat} {l xs : List Value} (ht : TyS P t true k) (hx : ev env x = some (.pointer (some ⟨g, o, none⟩))) (hb : Blk w g tb l) (hk : xs.length = k) (hv : (l.drop o).take k = xs) : Yld P env ⟨dst, .load t x, ty, pos, after, gd⟩ w (.agg xs.toArray) :=
  y_loadA ht hx hk fun j hj => by rw [hb.cell, ← hv, List.getElem?_take, if_pos hj, List.getElem?_drop]
theorem y_ldRA {x : Operand} {t : TypeId} {k k' g o p j n : Nat} {A : Option Addr} {l xs : List Value} (ht : TyS P t true k) (hx : ev env x = some (.pointer (some ⟨g, p, none⟩))) (hb : Row w A g o n k' l) (hp : p = o + j) (hk : xs.length = k) (hv : (l.drop j).take k = xs) : Yld P env ⟨dst, .load t x, ty, pos, after, gd⟩ w (.agg xs.toArray) :=
  y_loadA ht hx hk fun i hi => by
    subst hp
    have hi' : (l.drop j).take k = xs := hv
    have hx' : xs[i]? = l[j + i]? := by rw [← hv, List.getElem?_take, if_pos hi, List.getElem?_drop]
    rw [hx', Nat.add_assoc]
    have hlt : i < xs.length := by omega
    obtain ⟨v, hv'⟩ : ∃ v, l[j + i]? = some v := ⟨_, hx'.symm.trans (List.getElem?_eq_getElem hlt)⟩
    rw [hv']
    exact hb.cell hv'
theorem y_len {x : Operand} {t : TypeId} {e : TypeId} {A : Option Addr} {n c : Nat} (ht : P.underlying t = some (.slice e)) (hx : ev env x = some (.slice A n c)) : Yld P env ⟨dst, .call { callee := .builtin .len, args := #[x], argTypes := #[t] }, ty, pos, after, gd⟩ w (.int .i64 n) := by
  intro ρ ha
  simp [execOp, resolve, invoke, builtin, Builtin.len_, ha x _ hx, run_und ht, goInt]
theorem y_lenS {x : Operand} {t : TypeId} {s : List UInt8} (ht : P.underlying t = some .string) (hx : ev env x = some (.string ⟨s.toArray⟩)) : Yld P env ⟨dst, .call { callee := .builtin .len, args := #[x], argTypes := #[t] }, ty, pos, after, gd⟩ w (.int .i64 s.length) := by
  intro ρ ha
  have hs : (⟨s.toArray⟩ : ByteArray).size = s.length := by simp [ByteArray.size]
  simp [execOp, resolve, invoke, builtin, Builtin.len_, ha x _ hx, run_und ht, goInt, -ByteArray.size_data, hs]
theorem y_indexS {x y : Operand} {t : TypeId} {kk : IntKind} {q : Int} {s : List UInt8} {b : UInt8} (ht : P.underlying t = some .string) (hx : ev env x = some (.string ⟨s.toArray⟩)) (hy : ev env y = some (.int kk q)) (h0 : 0 ≤ q) (hb : s[q.toNat]? = some b) : Yld P env ⟨dst, .index t x y, ty, pos, after, gd⟩ w (.int .u8 b.toNat) := by
  intro ρ ha
  have : (⟨s.toArray⟩ : ByteArray)[q.toNat]? = some b := by
    have hlt : q.toNat < s.length := (List.getElem?_eq_some_iff.1 hb).1
    have e : s[q.toNat] = b := by rw [List.getElem?_eq_getElem hlt] at hb; exact Option.some.inj hb
    rw [getElem?_pos (⟨s.toArray⟩ : ByteArray) q.toNat (by simpa [ByteArray.size] using hlt)]
    simp [ByteArray.getElem_eq_getElem_data, e]
  simp [execOp, ha x _ hx, ha y _ hy, Instr.index, asIntOf, run_und ht, h0, this]
/-! ### 9. New memory, writes -/
theorem d_alloc {t : TypeId} {z : Value} {cs : List Value} (hz : ZeroS P t z) (hc : z.cells = cs.toArray) : Doe P env ⟨dst, .alloc t, ty, pos, after, gd⟩ w (fun v w' => ∃ g, v = .pointer (some ⟨g, 0, none⟩) ∧ w.heap.size ≤ g ∧ Blk w' g t cs ∧ Fr [] w w') :=
  Doe.of_run fun ρ ha => ⟨_, _, by simp [execOp, Instr.alloc, hz w, newVar, newRow, newObj, Sem.run, hc], _, rfl, Nat.le_refl _, Blk.new w t cs, Fr.push w _⟩
theorem d_box {t : TypeId} {x : Operand} {v : Value} {cs : List Value} (hx : ev env x = some v) (hc : v.cells = cs.toArray) : Doe P env ⟨dst, .box t x, ty, pos, after, gd⟩ w (fun v w' => ∃ g, v = .pointer (some ⟨g, 0, none⟩) ∧ w.heap.size ≤ g ∧ Blk w' g t cs ∧ Fr [] w w') :=
  Doe.of_run fun ρ ha => ⟨_, _, by simp [execOp, ha x _ hx, Instr.box, newVar, newRow, newObj, Sem.run, hc], _, rfl, Nat.le_refl _, Blk.new w t cs, Fr.push w _⟩
theorem d_store {t tb : TypeId} {x y : Operand} {ag : Bool} {k g o : Nat} {l cs l' : List Value} {v : Value} (ht : TyS P t ag k) (hx : ev env x = some (.pointer (some ⟨g, o, none⟩))) (hy : ev env y = some v) (hb : Blk w g tb l)
    (hc : v.cells = cs.toArray) (hk : cs.length = k) (h1 : ∀ u ∈ cs, oneV u = true) (hfit : o + k ≤ l.length) (hl : setL l o cs = l') : Doe P env ⟨dst, .store t x y, ty, pos, after, gd⟩ w (fun u w' => u = undef ∧ Blk w' g tb l' ∧ Fr [g] w w') :=
  Doe.of_skip fun ρ ha => by
    subst hl
    obtain ⟨w', h2, h3, h4⟩ := run_storeVar (P := P) ht hb hc hk h1 hfit
    exact ⟨w', by simp [execOp, ha x _ hx, ha y _ hy, Instr.storeAt, Instr.sureAddr, h2], rfl, h3, h4⟩

/-! ### 10. Calls -/
theorem map_args {ρ : Operand → Value} {env : Env} (ha : Ag ρ env) : ∀ {xs : List Operand} {vs : List Value}, xs.map (ev env) = vs.map some → xs.map ρ = vs
  | [], [], _ => rfl
  | [], _ :: _, h => by cases h
  | _ :: _, [], h => by cases h
  | x :: xs, v :: vs, h => by
    simp only [List.map_cons, List.cons.injEq] at h
    simp only [List.map_cons, ha x v h.1, map_args ha h.2]
theorem d_call {f : FuncId} {xs : List Operand} {ts : Array TypeId} {vs : List Value} {K : Value → World → Prop} (he : EntS P f) (hx : xs.map (ev env) = vs.map some)
    (hc : Calls P f vs.toArray w fun e w' => ∃ v, e = .returned v ∧ K v w') : Doe P env ⟨dst, .call { callee := .value (.func f), args := xs.toArray, argTypes := ts }, ty, pos, after, gd⟩ w K := by
  intro a next Q ha hn
  have hm : xs.map a.eval = vs := map_args ha hx
  have hrun : (execOp a.eval ⟨dst, .call { callee := .value (.func f), args := xs.toArray, argTypes := ts }, ty, pos, after, gd⟩).run P w = .ok (.enter f vs.toArray) w := by
    simp [execOp, resolve, Act.eval, Deferred.ofValue, invoke, he _ w]
    exact hm
  unfold Oper.wp
  rw [hrun, Oper.upon_enter]
  refine hc.mono fun e w' h => ?_
  obtain ⟨v, rfl, hk⟩ := h
  exact hn v w' hk
/-- A call of a function value. -/
theorem d_callV {f : FuncId} {c : Operand} {fi ca : List Value} {xs : List Operand} {ts : Array TypeId} {vs : List Value} {K : Value → World → Prop} (he : EntS P f) (hf : ev env c = some (.func (.func f) fi.toArray ca.toArray)) (hx : xs.map (ev env) = vs.map some)
    (hc : Calls P f (fi ++ vs ++ ca).toArray w fun e w' => ∃ v, e = .returned v ∧ K v w') : Doe P env ⟨dst, .call { callee := .value c, args := xs.toArray, argTypes := ts }, ty, pos, after, gd⟩ w K := by
  intro a next Q ha hn
  have hm : xs.map a.eval = vs := map_args ha hx
  have hrun : (execOp a.eval ⟨dst, .call { callee := .value c, args := xs.toArray, argTypes := ts }, ty, pos, after, gd⟩).run P w = .ok (.enter f (fi ++ vs ++ ca).toArray) w := by
    simp [execOp, resolve, ha c _ hf, Deferred.ofValue, invoke, he _ w]
    exact hm
  unfold Oper.wp
  rw [hrun, Oper.upon_enter]
  refine hc.mono fun e w' h => ?_
  obtain ⟨v, rfl, hk⟩ := h
  exact hn v w' hk
end
end Go.Proofs.GP
