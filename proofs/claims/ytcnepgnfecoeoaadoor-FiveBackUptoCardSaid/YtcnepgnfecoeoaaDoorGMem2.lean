/- Step lemmas, sixth part: small facts, appends, literals, strings. No condition. -/
import Derived.Test.YtcnepgnfecoeoaaDoorGDr
import Derived.Lib.Strings
import Derived.Laws.AppendOwn
set_option linter.unusedVariables false
set_option linter.unusedSimpArgs false
namespace Go.Proofs.GP
open Go Go.RowKit

theorem wrI {z : Int} (h0 : -9223372036854775808 ≤ z) (h1 : z ≤ 9223372036854775807) : IntKind.i64.wrap z = z := by
  unfold IntKind.wrap
  simp only [IntKind.bits, IntKind.signed, Bool.true_and, ge_iff_le, decide_eq_true_eq]
  split <;> omega
theorem quoP {a b : Int} (h0 : 0 ≤ a) (h1 : a ≤ 9223372036854775807) (hb : 0 < b) : IntKind.i64.wrap (a.tdiv b) = a / b := by
  rw [Int.tdiv_eq_ediv_of_nonneg h0]
  have h2 : a / b ≤ a := Int.ediv_le_self b h0
  have h3 : 0 ≤ a / b := Int.ediv_nonneg h0 (by omega)
  exact wrI (by omega) (by omega)
theorem iv {k : IntKind} {a b : Int} (h : a = b) : some (Value.int k a) = some (Value.int k b) := by rw [h]
theorem ones {cs : List Value} (h : cs.all oneV = true) : ∀ u ∈ cs, oneV u = true := List.all_eq_true.1 h
def bv (b : UInt8) : Value := .int .u8 b.toNat
def u32v (x : Int) : Value := .int .u32 x
def i64v (x : Int) : Value := .int .i64 x
theorem all_map {α : Type} (f : α → Value) (h : ∀ x, oneV (f x) = true) (l : List α) : (l.map f).all oneV = true := by simp [h]
@[simp] theorem one_int (k : IntKind) (n : Int) : oneV (.int k n) = true := rfl
@[simp] theorem one_str (s : ByteArray) : oneV (.string s) = true := rfl
@[simp] theorem one_bool (b : Bool) : oneV (.bool b) = true := rfl
@[simp] theorem one_ptr (a : Option Addr) : oneV (.pointer a) = true := rfl
@[simp] theorem one_slice (a : Option Addr) (n c : Nat) : oneV (.slice a n c) = true := rfl
@[simp] theorem one_iface (t : TypeId) (v : Value) : oneV (.iface t v) = true := rfl
@[simp] theorem one_nil : oneV .nilIface = true := rfl
@[simp] theorem one_bv (b : UInt8) : oneV (bv b) = true := rfl
@[simp] theorem one_u32 (x : Int) : oneV (u32v x) = true := rfl
@[simp] theorem one_i64 (x : Int) : oneV (i64v x) = true := rfl
theorem all_bv (l : List UInt8) : (l.map bv).all oneV = true := all_map bv (fun _ => rfl) l
theorem all_u32 (l : List Int) : (l.map u32v).all oneV = true := all_map u32v (fun _ => rfl) l
theorem take_all {k : Nat} (l : List Value) (h : l.length = k) : (l.drop 0).take k = l := by simp [← h]
theorem setL_get : ∀ (vs l : List Value) (i j : Nat), (setL l i vs)[j]? = if i ≤ j ∧ j < i + vs.length ∧ j < l.length then vs[j - i]? else l[j]?
  | [], l, i, j => by
    simp only [setL, List.length_nil]
    rw [if_neg (by omega)]
  | v :: r, l, i, j => by
    simp only [setL, List.length_cons]
    rw [setL_get r (l.set i v) (i + 1) j, List.length_set]
    by_cases h1 : i + 1 ≤ j ∧ j < i + 1 + r.length ∧ j < l.length
    · rw [if_pos h1, if_pos (by omega)]
      rw [show j - i = (j - (i + 1)) + 1 by omega, List.getElem?_cons_succ]
    · rw [if_neg h1]
      by_cases h2 : i = j
      · subst h2
        by_cases h3 : i < l.length
        · rw [if_pos (by omega)]
          simp [h3]
        · rw [if_neg (by omega)]
          simp [List.getElem?_eq_none (Nat.le_of_not_lt h3)]
          omega
      · rw [List.getElem?_set_ne h2, if_neg (by omega)]
theorem setL_all {l cs : List Value} (h : cs.length = l.length) : setL l 0 cs = cs := by
  apply List.ext_getElem?
  intro j
  rw [setL_get]
  by_cases hj : j < l.length
  · rw [if_pos (by omega)]; simp
  · rw [if_neg (by omega), List.getElem?_eq_none (by omega), List.getElem?_eq_none (by omega)]
section
variable {Q : Post} {n : Nat} {env : Env} {w w' W : World} {P : Program} {ops : Array Oper} {rest : List Oper}
theorem r_then {K : Act → World → Prop} (h : Wx Q .ret n env w) : Wx (Exit.then K Q) .ret n env w := h
theorem r_inb {id : Nat} (h : Wx Q .ret n env w) : Wx (Exit.inBlock id Q) .ret n env w := h
theorem wl_bool (b : Bool) (ht : b = true → Wl P ops Q rest n env w) (hf : b = false → Wl P ops Q rest n env w) : Wl P ops Q rest n env w := by
  cases b
  · exact hf rfl
  · exact ht rfl
variable {A A' : Option Addr} {g g' o k c m : Nat} {e : TypeId} {xs ys : List Value} {gs : List Nat}
theorem Row.lt' (h : Row w A g o n k xs) : xs = [] ∨ g < w.heap.size := by
  by_cases hx : xs = []
  · exact .inl hx
  · exact .inr (h.lt hx)
theorem row_ne_new (h : Row w A g o n k xs) (hm : w.heap.size ≤ m) : xs = [] ∨ g ≠ m := h.lt'.imp id fun h => by omega
theorem ap_of (hn : A = none ∨ w.heap.size ≤ g) (hl : m < w.heap.size) : A = none ∨ g ≠ m := hn.imp id fun h => by omega
theorem no_own (h : A = none ∨ g ≠ m) : m ∉ ownL A g := not_ownL (h.imp id Ne.symm)
theorem row_app (hn : A = none ∨ w.heap.size ≤ g) (hl : xs = [] ∨ m < w.heap.size) : xs = [] ∨ m ∉ ownL A g := hl.imp id fun h => no_own (ap_of hn h)
theorem Fr.thenOwn (h : Fr gs w w') (k : Fr (ownL A g) w' W) (hn : A = none ∨ w.heap.size ≤ g) : Fr gs w W := h.trans k fun i hi hc => by
  cases A with
  | none => simp [ownL] at hc
  | some a =>
    simp only [ownL, List.mem_singleton] at hc
    have := hn.resolve_left (by simp)
    omega
theorem Fr.thenOwnIn (h : Fr gs w w') (k : Fr (ownL A g) w' W) (hn : A = none ∨ g ∈ gs ∨ w.heap.size ≤ g) : Fr gs w W := h.trans k fun i hi hc => by
  cases A with
  | none => simp [ownL] at hc
  | some a =>
    simp only [ownL, List.mem_singleton] at hc
    subst hc
    rcases hn.resolve_left (by simp) with h1 | h1
    · exact h1
    · omega
theorem app_ap (hat : (A' = A ∧ g' = g) ∨ w.heap.size ≤ g') (h : A = none ∨ g ≠ m) (hl : m < w.heap.size) : A' = none ∨ g' ≠ m := by
  rcases hat with ⟨rfl, rfl⟩ | hat
  · exact h
  · exact .inr (by omega)
theorem app_nw (hat : (A' = A ∧ g' = g) ∨ w'.heap.size ≤ g') (h : A = none ∨ w.heap.size ≤ g) (hf : w.heap.size ≤ w'.heap.size) : A' = none ∨ w.heap.size ≤ g' := by
  rcases hat with ⟨rfl, rfl⟩ | hat
  · exact h
  · exact .inr (by omega)
end
section
variable {w w' : World} {A A' : Option Addr} {g g' : Nat} {gs : List Nat}
theorem app_wh (hat : (A' = A ∧ g' = g) ∨ w'.heap.size ≤ g') (h : A = none ∨ g ∈ gs ∨ w.heap.size ≤ g) (hf : w.heap.size ≤ w'.heap.size) : A' = none ∨ g' ∈ gs ∨ w.heap.size ≤ g' := by
  rcases hat with ⟨rfl, rfl⟩ | hat
  · exact h
  · exact .inr (.inr (by omega))
theorem wh_nw (h : A = none ∨ g ∈ ([] : List Nat) ∨ w.heap.size ≤ g) : A = none ∨ w.heap.size ≤ g := h.imp id fun h => h.resolve_left (by simp)
theorem Own.ne_own {n c k n' c' k' : Nat} {e e' : TypeId} {xs xs' : List Value} (h : Own w A g n c e k xs) (h' : Own w A' g' n' c' e' k' xs') (hne : e ≠ e') : A = none ∨ A' = none ∨ g ≠ g' := by
  rcases h.at_ with ⟨h1, _⟩ | ⟨_, cur, hb, _⟩
  · exact .inl h1
  · rcases h'.at_ with ⟨h1, _⟩ | ⟨_, cur', hb', _⟩
    · exact .inr (.inl h1)
    · exact .inr (.inr (hb.ne_type hb' hne))
end
theorem seg_at {seg l : List Value} {n : Nat} (h : seg.length = n) (i : Nat) {v : Value} (hv : l[i]? = some v) : (seg ++ l)[n + i]? = some v := by
  rw [List.getElem?_append_right (by omega), h, Nat.add_sub_cancel_left, hv]
theorem setL_seg {seg : List Value} {n : Nat} (h : seg.length = n) : ∀ (vs : List Value) (l : List Value) (i : Nat), setL (seg ++ l) (n + i) vs = seg ++ setL l i vs
  | [], l, i => rfl
  | v :: r, l, i => by
    simp only [setL]
    rw [show (seg ++ l).set (n + i) v = seg ++ l.set i v by rw [List.set_append_right _ _ (by omega), h, Nat.add_sub_cancel_left], Nat.add_assoc, setL_seg h r (l.set i v) (i + 1)]
theorem drop_seg {seg l : List Value} {n : Nat} (h : seg.length = n) (i : Nat) : (seg ++ l).drop (n + i) = l.drop i := by
  rw [List.drop_append, h, Nat.add_sub_cancel_left, List.drop_eq_nil_of_le (by omega), List.nil_append]
theorem take_seg {seg l : List Value} {n : Nat} (h : seg.length = n) : ((seg ++ l).drop 0).take n = seg := by
  simp [← h]
theorem own_ne {w : World} {A : Option Addr} {g m n c k : Nat} {e t : TypeId} {xs l : List Value} (h : Own w A g n c e k xs) (hb : Blk w m t l) (hne : e ≠ t) (hx : 0 < xs.length) : g ≠ m :=
  (h.ne_blk hb hne).resolve_left fun e0 => by
    subst e0
    rcases h.at_ with ⟨_, h1, _⟩ | ⟨h1, _⟩
    · have := h.len; rw [h1] at this; simp at this; rw [this] at hx; simp at hx
    · cases h1
theorem nin {p : Prop} {a g : Nat} {A : Option Addr} (h : p ∨ a ≠ g) : p ∨ a ∉ ownL A g := h.imp id fun h => not_ownL (.inr h)
theorem cut_tail {α : Type} (f : α → Value) (l : List α) (k n : Nat) (h : l.length ≤ n) : ((l.map f).drop (k * 1)).take ((n - k) * 1) = (l.drop k).map f := by
  rw [Nat.mul_one, Nat.mul_one, List.take_of_length_le (by simp; omega), List.map_drop]
theorem cut_head {α : Type} (f : α → Value) (l : List α) (k : Nat) : ((l.map f).drop (0 * 1)).take ((k - 0) * 1) = (l.take k).map f := by
  simp [List.map_take]
theorem cut_mid {α : Type} (f : α → Value) (l : List α) (a b : Nat) : ((l.map f).drop (a * 1)).take ((b - a) * 1) = ((l.take b).drop a).map f := by
  rw [Nat.mul_one, Nat.mul_one, List.drop_take, List.map_take, List.map_drop]
theorem Own.new {w w0 : World} {A : Option Addr} {g n c k : Nat} {e : TypeId} {xs : List Value} (h : Own w A g n c e k xs) (hx : 0 < xs.length) (wh : A = none ∨ g ∈ ([] : List Nat) ∨ w0.heap.size ≤ g) : w0.heap.size ≤ g := by
  rcases wh with e0 | e0 | e0
  · subst e0
    rcases h.at_ with ⟨_, h1, _⟩ | ⟨h1, _⟩
    · have := h.len; rw [h1] at this; simp at this; rw [this] at hx; simp at hx
    · cases h1
  · cases e0
  · exact e0
/-! ### append -/
/-- What is appended, as the model reads it. -/
def Src (P : Program) (w : World) (t2 : TypeId) (k : Nat) (y : Value) (m : Nat) (ys : List Value) : Prop :=
  ys.length = m * k ∧ (Builtin.lenOf y).run P w = .ok m w ∧ (∀ w' : World, w'.heap = w.heap → (Builtin.firstCells k m y).run P w' = .ok ys.toArray w') ∧ (P.underlying t2 = some .string ∨ ∃ e2, P.underlying t2 = some (.slice e2))
def AppS (P : Program) (e : TypeId) (k bytes : Nat) : Prop := ∃ i z, P.info? e = some i ∧ i.size = k ∧ i.bytes = bytes ∧ i.zero = some z ∧ z.cells.size = k ∧ 0 < k ∧ 0 < bytes
section
variable {P : Program} {env : Env} {w : World} {dst : Option Tmp} {ty : TypeId} {pos : String} {after : Array Edge} {gd : Option (Nat × Bool)}
theorem src_row {t2 e2 : TypeId} {ag : Bool} {k : Nat} (ht : P.underlying t2 = some (.slice e2)) (hk : TyS P e2 ag k) {A : Option Addr} {g o m c : Nat} {ys : List Value} (h : Row w A g o m k ys) (_ : Unit) : Src P w t2 k (.slice A m c) m ys := by
  refine ⟨h.len, by simp [Builtin.lenOf], fun w' hw => ?_, .inr ⟨_, ht⟩⟩
  have h : Row w' A g o m k ys := ⟨h.len, h.cells.imp id fun ⟨e, hc⟩ => ⟨e, fun j hj => by rw [← hc j hj]; simp [World.cell?, hw]⟩⟩
  rcases h.cells with e | ⟨e, hc⟩
  · subst e
    have h0 : m * k = 0 := by have := h.len; simpa using this.symm
    cases A with
    | none => simp [Builtin.firstCells]
    | some a => simp [Builtin.firstCells, h0, loadCells, loadCellsFrom]
  · subst e
    simp only [Builtin.firstCells]
    rw [← h.len]
    exact run_loadCells P hc
theorem src_str {t2 : TypeId} (ht : P.underlying t2 = some .string) (s : List UInt8) : Src P w t2 1 (.string ⟨s.toArray⟩) s.length (s.map bv) := by
  have hsz : (⟨s.toArray⟩ : ByteArray).size = s.length := by simp [ByteArray.size]
  refine ⟨by simp, ?_, ?_, .inl ht⟩
  · simp only [Builtin.lenOf, hsz, Sem.run_pure]
  · intro w' _
    simp only [Builtin.firstCells, Sem.run_pure]
    congr 1
    apply Array.ext'
    have he : ((⟨s.toArray⟩ : ByteArray).extract 0 s.length).data.toList = s := by
      have := Lib.extract_data (⟨s.toArray⟩ : ByteArray) 0 s.length
      simp [this]
    simp only [Array.toList_map, he]
    rfl
theorem run_append {t t2 ty e : TypeId} {k bytes : Nat} (ht : P.underlying t = some (.slice e)) (hs : AppS P e k bytes) {A : Option Addr} {g n c : Nat} {xs : List Value} (own : Own w A g n c e k xs) {y : Value} {m : Nat} {ys : List Value} (src : Src P w t2 k y m ys)
    (h1 : ∀ u ∈ ys, oneV u = true) (hroom : (n + m) * bytes ≤ 140737488355328) :
    ∃ A' g' c' w', (Builtin.append_ #[t, t2] ty #[.slice A n c, y]).run P w = .ok (.slice A' (n + m) c') w' ∧ Own w' A' g' (n + m) c' e k (xs ++ ys) ∧ Fr (ownL A g) w w' ∧ ((A' = A ∧ g' = g) ∨ w.heap.size ≤ g') := by
  obtain ⟨i, z, hi, hsize, hby, hz, hzs, hk, hb⟩ := hs
  obtain ⟨hyl, hlen, hfc, hd⟩ := src
  have hsz : ∀ w, (sizeOf e).run P w = .ok k w := fun w => by simp [sizeOf, typeInfo, program, Sem.run, hi, hsize]
  have hti : ∀ w, (typeInfo e).run P w = .ok i w := fun w => by simp [typeInfo, program, Sem.run, hi]
  have hzv : ∀ w, (zeroValue e).run P w = .ok z w := fun w => by simp [zeroValue, typeInfo, program, Sem.run, hi, hz]
  have hle : n + m ≤ 140737488355328 := Nat.le_trans (Nat.le_mul_of_pos_right _ hb) hroom
  have hlx : (xs ++ ys).length = (n + m) * k := by rw [List.length_append, own.len, hyl, Nat.add_mul]
  by_cases hcap : n + m ≤ c
  · rcases own.at_ with ⟨rfl, rfl, rfl⟩ | ⟨rfl, cur, hblk, hcl, htake⟩
    · have hm : m = 0 := by omega
      subst hm
      have : ys = [] := List.eq_nil_of_length_eq_zero (by simpa using hyl)
      subst this
      refine ⟨none, g, 0, w, ?_, by simpa using own, Fr.refl _ _, .inl ⟨rfl, rfl⟩⟩
      rcases hd with hd | ⟨e2, hd⟩ <;> simp [Builtin.append_, run_und ht, run_und hd, hsz, hlen, hfc]
    · have hfit : n * k + 0 + ys.length ≤ cur.length := by
        rw [hyl, hcl, Nat.add_zero, ← Nat.add_mul]; exact Nat.mul_le_mul_right _ hcap
      obtain ⟨w', h2, h3, h4⟩ := run_storeCells P (o := n * k) ys 0 w cur hblk hfit h1
      refine ⟨some ⟨g, 0, none⟩, g, c, w', ?_, ⟨hlx, hcap, own.most, .inr ⟨rfl, _, h3, by rw [setL_length, hcl], ?_⟩⟩, by simpa [ownL] using h4, .inl ⟨rfl, rfl⟩⟩
      · rcases hd with hd | ⟨e2, hd⟩ <;> simp [Builtin.append_, run_und ht, run_und hd, hsz, hlen, hfc, hcap, addr_add, h2]
      · apply List.ext_getElem?
        intro j
        have hnl : xs.length = n * k := own.len
        have hnk : n * k ≤ cur.length := by omega
        rw [List.getElem?_take, setL_get]
        by_cases hj : j < (n + m) * k
        · rw [if_pos hj]
          by_cases hj2 : j < n * k
          · rw [if_neg (by omega), List.getElem?_append_left (by omega), ← htake, List.getElem?_take, if_pos hj2]
          · have : j < n * k + ys.length := by rw [hyl, ← Nat.add_mul]; exact hj
            rw [if_pos (by omega), List.getElem?_append_right (by omega), hnl, Nat.add_zero]
        · rw [if_neg hj, List.getElem?_eq_none (by omega)]
  · have hneed : ¬ ((n : Int) + (m : Int) > 9223372036854775807) := by omega
    have hfits : ¬ (Builtin.nextslicecap (n + m) c * i.bytes > 281474976710656) := by
      have := growslice_fits (bytes := i.bytes) (show c < n + m by omega) (by rw [hby]; exact hroom)
      omega
    have hlo : (Builtin.firstCells k n (.slice A n c)).run P { w with drawn := w.drawn + 1 } = .ok xs.toArray { w with drawn := w.drawn + 1 } := by
      have r := own.row
      rcases r.cells with e0 | ⟨e0, hc⟩
      · subst e0
        have h0 : n * k = 0 := by have := own.len; simpa using this.symm
        cases A with
        | none => simp [Builtin.firstCells]
        | some a => simp [Builtin.firstCells, h0, loadCells, loadCellsFrom]
      · subst e0
        simp only [Builtin.firstCells]
        rw [← own.len]
        exact run_loadCells P (w := { w with drawn := w.drawn + 1 }) hc
    have hfc2 := hfc { w with drawn := w.drawn + 1 } rfl
    have hlo' : (Builtin.firstCells k n (.slice A n c)).run P w.drew = .ok xs.toArray w.drew := hlo
    have hfc2' : (Builtin.firstCells k m y).run P w.drew = .ok ys.toArray w.drew := hfc2
    generalize hN : Question.cut (.appendCap (n + m) c e) (w.tape w.drawn (.appendCap (n + m) c e)) = N
    have hN1 : n + m ≤ N := by rw [← hN]; simp [Question.cut]
    have hN2 : N ≤ 9223372036854775807 := by
      have hlt := Nat.mod_lt (w.tape w.drawn (.appendCap (n + m) c e)) (show 0 < 2 ^ 63 - (n + m) by omega)
      rw [← hN]; simp only [Question.cut]; omega
    have hlen0 : (xs ++ ys ++ (Builtin.zeroCells z.cells (N - (n + m))).toList).length = N * k := by
      simp only [List.length_append, own.len, hyl, Array.length_toList, size_zeroCells, hzs, ← Nat.add_mul]
      congr 1; omega
    refine ⟨some ⟨w.heap.size, 0, none⟩, w.heap.size, N, { ({ w with drawn := w.drawn + 1 } : World) with heap := w.heap.push (.cells (xs ++ ys ++ (Builtin.zeroCells z.cells (N - (n + m))).toList).toArray e) }, ?_, ⟨hlx, hN1, hN2, .inr ⟨rfl, _, by simp [Blk], hlen0, ?_⟩⟩, ?_, .inr (Nat.le_refl _)⟩
    · rcases hd with hd | ⟨e2, hd⟩
      all_goals
        simp only [Builtin.append_, List.getElem?_toArray, List.getElem?_cons_zero, List.getElem?_cons_succ, Sem.run_bind, Result.andThen_ok, run_und ht, run_und hd, hsz, hlen, Sem.run_pure, Bool.false_eq_true, if_false, Bool.not_false, if_true, hcap, hti]
        simp [hneed, hfits, choose, Sem.run, Question.forced, hN, hlo', hfc2', hzv, askRoom, newRow, newObj, hsz, hti, hlen, hcap]
        have e0 : xs.toArray ++ (ys.toArray ++ Builtin.zeroCells z.cells (N - (n + m))) = (xs ++ (ys ++ (Builtin.zeroCells z.cells (N - (n + m))).toList)).toArray := by apply Array.ext'; simp
        rw [e0]
        rfl
    · rw [List.append_assoc, ← List.append_assoc, ← hlx]; exact List.take_left
    · have := (Fr.drew (ownL A g) w).trans (Fr.push { w with drawn := w.drawn + 1 } (.cells (xs ++ ys ++ (Builtin.zeroCells z.cells (N - (n + m))).toList).toArray e)) (fun _ _ h => by cases h)
      exact this
theorem d_append {t t2 e : TypeId} {ag : Bool} {k bytes : Nat} {x y : Operand} (ht : P.underlying t = some (.slice e)) (_ : TyS P e ag k) (hs : AppS P e k bytes) {A : Option Addr} {g n c : Nat} {xs : List Value} (hx : ev env x = some (.slice A n c)) (own : Own w A g n c e k xs)
    {vy : Value} {m : Nat} {ys : List Value} (hy : ev env y = some vy) (src : Src P w t2 k vy m ys) (h1 : ∀ u ∈ ys, oneV u = true) (hroom : (n + m) * bytes ≤ 140737488355328) :
    Doe P env ⟨dst, .call { callee := .builtin .append, args := #[x, y], argTypes := #[t, t2] }, ty, pos, after, gd⟩ w
      (fun v w' => ∃ A' g' c', v = .slice A' (n + m) c' ∧ Own w' A' g' (n + m) c' e k (xs ++ ys) ∧ Fr (ownL A g) w w' ∧ ((A' = A ∧ g' = g) ∨ w.heap.size ≤ g')) :=
  Doe.of_run fun ρ ha => by
    obtain ⟨A', g', c', w', h2, h3, h4, h5⟩ := run_append (ty := ty) ht hs own src h1 hroom
    exact ⟨_, w', by simp [execOp, resolve, invoke, builtin, ha x _ hx, ha y _ hy, h2], A', g', c', rfl, h3, h4, h5⟩
theorem parts_eq {ρ : Operand → Value} (ha : Ag ρ env) {ps : Array (Nat × Operand)} {vs : List (Nat × Value)} (hp : ps.toList.map (fun p => (p.1, ev env p.2)) = vs.map (fun p => (p.1, some p.2))) : (ps.map fun (i, x) => (i, ρ x)) = vs.toArray := by
  apply Array.ext'
  simp only [Array.toList_map]
  generalize ps.toList = l at hp
  induction l generalizing vs with
  | nil => cases vs with
    | nil => rfl
    | cons a b => cases hp
  | cons p l ih =>
    cases vs with
    | nil => cases hp
    | cons a b =>
      simp only [List.map_cons, List.cons.injEq, Prod.mk.injEq] at hp
      simp only [List.map_cons]
      rw [ih hp.2]
      have := ha p.2 a.2 hp.1.2
      simp [this, hp.1.1]
theorem y_build {t : TypeId} {ps : Array (Nat × Operand)} {vs : List (Nat × Value)} {r : Value} (hp : ps.toList.map (fun p => (p.1, ev env p.2)) = vs.map (fun p => (p.1, some p.2))) (hr : (Instr.build t vs.toArray).run P w = .ok r w) : Yld P env ⟨dst, .build t ps, ty, pos, after, gd⟩ w r := by
  intro ρ ha
  simp only [execOp, parts_eq ha hp, Sem.run_bind, hr, Result.andThen_ok, Sem.run_pure]
/-- A slice literal's cells. -/
def BsS (P : Program) (t e : TypeId) (n : Nat) (vs : List (Nat × Value)) (cs : List Value) : Prop := ∀ w : World, (Instr.buildSlice t n vs.toArray).run P w = .ok (.slice (some ⟨w.heap.size, 0, none⟩) n n) { w with heap := w.heap.push (.cells cs.toArray e) }
def EvL (env : Env) : List (Nat × Operand) → List (Nat × Value) → Prop
  | [], [] => True
  | p :: ps, v :: vs => p.1 = v.1 ∧ ev env p.2 = some v.2 ∧ EvL env ps vs
  | _, _ => False
theorem EvL.map {env : Env} : ∀ {ps : List (Nat × Operand)} {vs : List (Nat × Value)}, EvL env ps vs → ps.map (fun p => (p.1, ev env p.2)) = vs.map (fun p => (p.1, some p.2))
  | [], [], _ => rfl
  | p :: ps, v :: vs, h => by
    rw [List.map_cons, List.map_cons, h.1, h.2.1, EvL.map h.2.2]
  | [], _ :: _, h => h.elim
  | _ :: _, [], h => h.elim
theorem d_bs {t e : TypeId} {n : Nat} {ps : Array (Nat × Operand)} {vs : List (Nat × Value)} {cs : List Value} (hp : EvL env ps.toList vs) (hr : BsS P t e n vs cs) :
    Doe P env ⟨dst, .buildSlice t n ps, ty, pos, after, gd⟩ w (fun v w' => ∃ g, v = .slice (some ⟨g, 0, none⟩) n n ∧ w.heap.size ≤ g ∧ Blk w' g e cs ∧ Fr [] w w') :=
  Doe.of_run fun ρ ha => ⟨_, _, by simp only [execOp, parts_eq ha hp.map, Sem.run_bind, hr w, Result.andThen_ok, Sem.run_pure], _, rfl, Nat.le_refl _, Blk.new w e cs, Fr.push w _⟩
/-! ### comparisons -/
theorem guard_ptr {op : BinOp} {t : TypeId} {x y : Operand} {a b : Option Addr} : (eqGuard op t x y (.pointer a) (.pointer b)).run P w = .ok () w := by
  unfold eqGuard; cases op <;> rfl
theorem run_eqlV {t : TypeId} {u v : Value} {b r : Bool} (hs : binOp .eql t u v = (do pure (.bool (← Op.equal t u v)))) (h : (Op.equalIn (9999 + 1) t u v).run P w = .ok b w) (hr : b = r) : (binOp .eql t u v).run P w = .ok (.bool r) w := by
  subst hr
  have h' : (Op.equal t u v).run P w = .ok b w := h
  rw [hs, Sem.run_bind, h', Result.andThen_ok, Sem.run_pure]
theorem run_neqV {t : TypeId} {u v : Value} {b r : Bool} (hs : binOp .neq t u v = (do pure (.bool (!(← Op.equal t u v))))) (h : (Op.equalIn (9999 + 1) t u v).run P w = .ok b w) (hr : (!b) = r) : (binOp .neq t u v).run P w = .ok (.bool r) w := by
  subst hr
  have h' : (Op.equal t u v).run P w = .ok b w := h
  rw [hs, Sem.run_bind, h', Result.andThen_ok, Sem.run_pure]
theorem ein_pn {t e : TypeId} {p : Addr} (d : Nat) (ht : P.underlying t = some (.pointer e)) : (Op.equalIn (d + 1) t (.pointer (some p)) (.pointer none)).run P w = .ok false w := by simp [Op.equalIn, run_und ht]
theorem ein_nn {t e : TypeId} (d : Nat) (ht : P.underlying t = some (.pointer e)) : (Op.equalIn (d + 1) t (.pointer none) (.pointer none)).run P w = .ok true w := by simp [Op.equalIn, run_und ht]
theorem ein_bb {t : TypeId} {a b : Bool} (d : Nat) (ht : P.underlying t = some .bool) : (Op.equalIn (d + 1) t (.bool a) (.bool b)).run P w = .ok (a == b) w := by simp [Op.equalIn, run_und ht]
theorem ein_in {t u : TypeId} {ms : Array (String × TypeId)} {v : Value} (d : Nat) (ht : P.underlying t = some (.interface ms)) : (Op.equalIn (d + 1) t (.iface u v) .nilIface).run P w = .ok false w := by simp [Op.equalIn, run_und ht]
theorem ein_ii {t : TypeId} {ms : Array (String × TypeId)} (d : Nat) (ht : P.underlying t = some (.interface ms)) : (Op.equalIn (d + 1) t .nilIface .nilIface).run P w = .ok true w := by simp [Op.equalIn, run_und ht]
theorem y_pn {t e : TypeId} {x y : Operand} {yt : TypeId} {p : Addr} (ht : P.underlying t = some (.pointer e)) (hx : ev env x = some (.pointer (some p))) (hy : ev env y = some (.pointer none)) : Yld P env ⟨dst, .binOp .eql t x y yt, ty, pos, after, gd⟩ w (.bool false) :=
  y_bin hx hy guard_ptr (run_eqlV rfl (ein_pn 9999 ht) rfl)
theorem y_pnx {t e : TypeId} {x y : Operand} {yt : TypeId} {p : Addr} (ht : P.underlying t = some (.pointer e)) (hx : ev env x = some (.pointer (some p))) (hy : ev env y = some (.pointer none)) : Yld P env ⟨dst, .binOp .neq t x y yt, ty, pos, after, gd⟩ w (.bool true) :=
  y_bin hx hy guard_ptr (run_neqV rfl (ein_pn 9999 ht) rfl)
theorem y_nn {t e : TypeId} {x y : Operand} {yt : TypeId} (ht : P.underlying t = some (.pointer e)) (hx : ev env x = some (.pointer none)) (hy : ev env y = some (.pointer none)) : Yld P env ⟨dst, .binOp .eql t x y yt, ty, pos, after, gd⟩ w (.bool true) :=
  y_bin hx hy guard_ptr (run_eqlV rfl (ein_nn 9999 ht) rfl)
theorem y_nnx {t e : TypeId} {x y : Operand} {yt : TypeId} (ht : P.underlying t = some (.pointer e)) (hx : ev env x = some (.pointer none)) (hy : ev env y = some (.pointer none)) : Yld P env ⟨dst, .binOp .neq t x y yt, ty, pos, after, gd⟩ w (.bool false) :=
  y_bin hx hy guard_ptr (run_neqV rfl (ein_nn 9999 ht) rfl)
theorem guard_str {op : BinOp} {t : TypeId} {x y : Operand} {a b : ByteArray} : (eqGuard op t x y (.string a) (.string b)).run P w = .ok () w := by
  unfold eqGuard; cases op <;> rfl
theorem str_toList (s : List UInt8) : (⟨s.toArray⟩ : ByteArray).toList = s := by rw [ByteArray.toList_eq]
theorem y_seql {t : TypeId} {x y : Operand} {yt : TypeId} {a b : List UInt8} {r : Bool} (hx : ev env x = some (.string ⟨a.toArray⟩)) (hy : ev env y = some (.string ⟨b.toArray⟩)) (hr : decide (a = b) = r) : Yld P env ⟨dst, .binOp .eql t x y yt, ty, pos, after, gd⟩ w (.bool r) :=
  y_bin hx hy guard_str (by subst hr; by_cases h : a = b <;> simp [binOp, Op.stringOp, str_toList, h])
theorem y_sneq {t : TypeId} {x y : Operand} {yt : TypeId} {a b : List UInt8} {r : Bool} (hx : ev env x = some (.string ⟨a.toArray⟩)) (hy : ev env y = some (.string ⟨b.toArray⟩)) (hr : decide (¬ (a = b)) = r) : Yld P env ⟨dst, .binOp .neq t x y yt, ty, pos, after, gd⟩ w (.bool r) :=
  y_bin hx hy guard_str (by subst hr; by_cases h : a = b <;> simp [binOp, Op.stringOp, str_toList, h])
theorem str_app (a b : List UInt8) : (⟨a.toArray⟩ : ByteArray) ++ ⟨b.toArray⟩ = ⟨(a ++ b).toArray⟩ := by
  apply ByteArray.ext
  rw [ByteArray.data_append]
  simp
theorem y_sadd {t : TypeId} {x y : Operand} {yt : TypeId} {a b : List UInt8} (hx : ev env x = some (.string ⟨a.toArray⟩)) (hy : ev env y = some (.string ⟨b.toArray⟩)) (hl : a.length + b.length ≤ 9223372036854775807) : Yld P env ⟨dst, .binOp .add t x y yt, ty, pos, after, gd⟩ w (.string ⟨(a ++ b).toArray⟩) :=
  y_bin hx hy guard_str (by
    have h1 : (⟨a.toArray⟩ : ByteArray).size = a.length := by simp [ByteArray.size]
    have h2 : (⟨b.toArray⟩ : ByteArray).size = b.length := by simp [ByteArray.size]
    have hm : IntKind.i64.max = 9223372036854775807 := by decide
    have hn : ¬ (((a.length + b.length : Nat) : Int) > IntKind.i64.max) := by rw [hm]; omega
    simp only [binOp, Op.stringOp, h1, h2, if_neg hn, str_app]
    rfl)
theorem guard_bool {op : BinOp} {t : TypeId} {x y : Operand} {a b : Bool} : (eqGuard op t x y (.bool a) (.bool b)).run P w = .ok () w := by
  unfold eqGuard; cases op <;> rfl
theorem y_beql {t : TypeId} {x y : Operand} {yt : TypeId} {a b r : Bool} (ht : P.underlying t = some .bool) (hx : ev env x = some (.bool a)) (hy : ev env y = some (.bool b)) (hr : (a == b) = r) : Yld P env ⟨dst, .binOp .eql t x y yt, ty, pos, after, gd⟩ w (.bool r) :=
  y_bin hx hy guard_bool (run_eqlV rfl (ein_bb 9999 ht) hr)
theorem y_bneq {t : TypeId} {x y : Operand} {yt : TypeId} {a b r : Bool} (ht : P.underlying t = some .bool) (hx : ev env x = some (.bool a)) (hy : ev env y = some (.bool b)) (hr : (a != b) = r) : Yld P env ⟨dst, .binOp .neq t x y yt, ty, pos, after, gd⟩ w (.bool r) :=
  y_bin hx hy guard_bool (run_neqV rfl (ein_bb 9999 ht) hr)
theorem y_in {t u : TypeId} {ms : Array (String × TypeId)} {x y : Operand} {yt : TypeId} {v : Value} (ht : P.underlying t = some (.interface ms)) (hx : ev env x = some (.iface u v)) (hy : ev env y = some .nilIface) : Yld P env ⟨dst, .binOp .eql t x y yt, ty, pos, after, gd⟩ w (.bool false) :=
  y_bin hx hy (by unfold eqGuard; rfl) (run_eqlV rfl (ein_in 9999 ht) rfl)
theorem y_inx {t u : TypeId} {ms : Array (String × TypeId)} {x y : Operand} {yt : TypeId} {v : Value} (ht : P.underlying t = some (.interface ms)) (hx : ev env x = some (.iface u v)) (hy : ev env y = some .nilIface) : Yld P env ⟨dst, .binOp .neq t x y yt, ty, pos, after, gd⟩ w (.bool true) :=
  y_bin hx hy (by unfold eqGuard; rfl) (run_neqV rfl (ein_in 9999 ht) rfl)
theorem y_ii {t : TypeId} {ms : Array (String × TypeId)} {x : Operand} {yt : TypeId} (ht : P.underlying t = some (.interface ms)) (hx : ev env x = some .nilIface) : Yld P env ⟨dst, .binOp .eql t x (.const .nilIface) yt, ty, pos, after, gd⟩ w (.bool true) :=
  y_bin (y := .const .nilIface) hx rfl (by unfold eqGuard; cases x <;> rfl) (run_eqlV rfl (ein_ii 9999 ht) rfl)
theorem y_iix {t : TypeId} {ms : Array (String × TypeId)} {x : Operand} {yt : TypeId} (ht : P.underlying t = some (.interface ms)) (hx : ev env x = some .nilIface) : Yld P env ⟨dst, .binOp .neq t x (.const .nilIface) yt, ty, pos, after, gd⟩ w (.bool false) :=
  y_bin (y := .const .nilIface) hx rfl (by unfold eqGuard; cases x <;> rfl) (run_neqV rfl (ein_ii 9999 ht) rfl)
/-! ### conversions of integers -/
theorem y_conv {src t : TypeId} {d : TypeDesc} {x : Operand} {k k' : IntKind} {a r : Int} (hs : P.underlying src = some d) (ht : P.underlying t = some (.int k)) (hx : ev env x = some (.int k' a)) (hr : k.wrap a = r) : Yld P env ⟨dst, .convert src t x, ty, pos, after, gd⟩ w (.int k r) := by
  intro ρ ha; subst hr
  simp [execOp, ha x _ hx, convert, run_und hs, run_und ht, Conv.intToInt]
theorem byte_bd (b : UInt8) : 0 ≤ (b.toNat : Int) ∧ (b.toNat : Int) ≤ 255 := by have := b.toNat_lt; omega
theorem y_convb_i64 {src t : TypeId} {d : TypeDesc} {x : Operand} {b : UInt8} (hs : P.underlying src = some d) (ht : P.underlying t = some (.int .i64)) (hx : ev env x = some (.int .u8 b.toNat)) : Yld P env ⟨dst, .convert src t x, ty, pos, after, gd⟩ w (.int .i64 b.toNat) :=
  y_conv hs ht hx (wrI (by have := byte_bd b; omega) (by have := byte_bd b; omega))
/-! ### parts of values -/
def FlvS (P : Program) (t : TypeId) (i off : Nat) (ft : TypeId) : Prop := ∃ (fs : Array Field) (f : Field), P.underlying t = some (.struct fs) ∧ fs[i]? = some f ∧ f.offset = off ∧ f.type = ft
theorem run_part1 {ft : TypeId} {k off : Nat} {cs : Array Value} {v : Value} (ht : TyS P ft false k) (hv : cs[off]? = some v) : (part ft cs off).run P w = .ok v w := by
  simp [part, ht.agg_, hv]
theorem run_partA {ft : TypeId} {k off : Nat} {cs xs : List Value} (ht : TyS P ft true k) (hv : (cs.drop off).take k = xs) : (part ft cs.toArray off).run P w = .ok (.agg xs.toArray) w := by
  subst hv
  simp [part, ht.agg_, ht.size]
theorem y_fieldV {x : Operand} {t ft : TypeId} {i off k : Nat} {cs : List Value} {v : Value} (hf : FlvS P t i off ft) (ht : TyS P ft false k) (hx : ev env x = some (.agg cs.toArray)) (hv : cs[off]? = some v) : Yld P env ⟨dst, .field t x i, ty, pos, after, gd⟩ w v := by
  intro ρ ha
  obtain ⟨fs, f, h1, h2, rfl, rfl⟩ := hf
  have := run_part1 (w := w) ht (cs := cs.toArray) (by simpa using hv)
  simp [execOp, ha x _ hx, Instr.field, run_und h1, h2, asAgg, this]
theorem y_fieldA {x : Operand} {t ft : TypeId} {i off k : Nat} {cs xs : List Value} (hf : FlvS P t i off ft) (ht : TyS P ft true k) (hx : ev env x = some (.agg cs.toArray)) (hv : (cs.drop off).take k = xs) : Yld P env ⟨dst, .field t x i, ty, pos, after, gd⟩ w (.agg xs.toArray) := by
  intro ρ ha
  obtain ⟨fs, f, h1, h2, rfl, rfl⟩ := hf
  have := run_partA (w := w) ht hv
  simp [execOp, ha x _ hx, Instr.field, run_und h1, h2, asAgg, this]
theorem y_indexAg {x y : Operand} {t e : TypeId} {m k : Nat} {kk : IntKind} {q : Int} {xs : List Value} {v : Value} (ht : P.underlying t = some (.array m e)) (hs : TyS P e false k) (hx : ev env x = some (.agg xs.toArray)) (hy : ev env y = some (.int kk q)) (h0 : 0 ≤ q) (h1 : q < (m : Int)) (hv : xs[q.toNat * k]? = some v) : Yld P env ⟨dst, .index t x y, ty, pos, after, gd⟩ w v := by
  intro ρ ha
  have := run_part1 (P := P) (w := w) hs (cs := xs.toArray) (off := q.toNat * k) (by simpa using hv)
  simp [execOp, ha x _ hx, ha y _ hy, Instr.index, asIntOf, run_und ht, h0, h1, hs.size, this]
def MakeS (P : Program) (t e : TypeId) (u v : Value) (n : Nat) (cs : List Value) : Prop := ∀ w : World, (Instr.makeSlice t u v).run P w = .ok (.slice (some ⟨w.heap.size, 0, none⟩) n n) { w with heap := w.heap.push (.cells cs.toArray e) }
theorem d_make {t e : TypeId} {x y : Operand} {u v : Value} {n : Nat} {cs : List Value} (hx : ev env x = some u) (hy : ev env y = some v) (hm : MakeS P t e u v n cs) : Doe P env ⟨dst, .makeSlice t x y, ty, pos, after, gd⟩ w (fun v w' => ∃ g, v = .slice (some ⟨g, 0, none⟩) n n ∧ w.heap.size ≤ g ∧ Blk w' g e cs ∧ Fr [] w w') :=
  Doe.of_run fun ρ ha => ⟨_, _, by simp only [execOp, ha x _ hx, ha y _ hy, Sem.run_bind, hm w, Result.andThen_ok, Sem.run_pure], _, rfl, Nat.le_refl _, Blk.new w e cs, Fr.push w _⟩
theorem map_at {α : Type} (f : α → Value) (l : List α) (j : Nat) (d : α) (hj : j < l.length) : (l.map f)[j]? = some (f (l.getD j d)) := by
  simp [hj]
theorem map_set {α : Type} (f : α → Value) (l : List α) (j : Nat) (x : α) : setL (l.map f) j [f x] = (l.set j x).map f := by
  simp [setL, List.map_set]
theorem foldl_set (cs : List Value) : ∀ (off j : Nat) (l : List Value), (cs.zipIdx j).foldl (fun (a : Array Value) (x : Value × Nat) => a.setIfInBounds (off + x.2) x.1) l.toArray = (setL l (off + j) cs).toArray := by
  induction cs with
  | nil => intro off j l; rfl
  | cons c cs ih =>
    intro off j l
    simp only [List.zipIdx_cons, List.foldl_cons, setL]
    rw [List.setIfInBounds_toArray, ih off (j + 1) (l.set (off + j) c), Nat.add_assoc]
theorem fill_cons {place : Nat → Option (Nat × Nat)} {l cs : List Value} {i off size : Nat} {v : Value} {rest : List (Nat × Value)} (hp : place i = some (off, size)) (hc : v.cells = cs.toArray) (hs : cs.length = size) (hf : off + size ≤ l.length) :
    Instr.fill place l.toArray ((i, v) :: rest) = Instr.fill place (setL l off cs).toArray rest := by
  subst hs
  simp only [Instr.fill, hp, hc]
  rw [if_neg (by simp; omega)]
  congr 1
  have := foldl_set cs off 0 l
  simp only [Nat.add_zero] at this
  rw [← this]
  rw [← Array.foldl_toList, Array.toList_zipIdx]
theorem setL_tail (a b d : List Value) (h : d.length = b.length) : setL (a ++ b) a.length d = a ++ d := by
  apply List.ext_getElem?
  intro j
  rw [setL_get]
  by_cases h1 : j < a.length
  · rw [if_neg (by omega), List.getElem?_append_left h1, List.getElem?_append_left h1]
  · by_cases h2 : j < a.length + d.length
    · rw [if_pos (by rw [List.length_append]; omega), List.getElem?_append_right (by omega)]
    · rw [if_neg (by omega), List.getElem?_eq_none (by rw [List.length_append]; omega), List.getElem?_eq_none (by rw [List.length_append]; omega)]
theorem ret_inj {a b : Value} (h : Ending.returned a = Ending.returned b) : a = b := by injection h
theorem d_callR {f : FuncId} {xs : List Operand} {ts : Array TypeId} {vs : List Value} {R : Ending → World → Prop} (he : EntS P f) (hx : xs.map (ev env) = vs.map some)
    (hc : Calls P f vs.toArray w R) (hr : ∀ e w', R e w' → ∃ v, e = .returned v) : Doe P env ⟨dst, .call { callee := .value (.func f), args := xs.toArray, argTypes := ts }, ty, pos, after, gd⟩ w (fun v w' => R (.returned v) w') :=
  d_call he hx (hc.mono fun e w' h => by obtain ⟨v, rfl⟩ := hr e w' h; exact ⟨v, rfl, h⟩)
theorem d_callVR {f : FuncId} {c : Operand} {fi ca : List Value} {xs : List Operand} {ts : Array TypeId} {vs : List Value} {R : Ending → World → Prop} (he : EntS P f) (hf : ev env c = some (.func (.func f) fi.toArray ca.toArray)) (hx : xs.map (ev env) = vs.map some)
    (hc : Calls P f (fi ++ vs ++ ca).toArray w R) (hr : ∀ e w', R e w' → ∃ v, e = .returned v) : Doe P env ⟨dst, .call { callee := .value c, args := xs.toArray, argTypes := ts }, ty, pos, after, gd⟩ w (fun v w' => R (.returned v) w') :=
  d_callV he hf hx (hc.mono fun e w' h => by obtain ⟨v, rfl⟩ := hr e w' h; exact ⟨v, rfl, h⟩)
/-! ### parts of slices -/
theorem run_bound {x : Value} {kk : IntKind} {q : Int} {y : Nat} {code : BoundsCode} (hx : x = .int kk q) (h0 : 0 ≤ q) (h1 : q ≤ (y : Int)) : (Instr.sliceBound x y code).run P w = .ok q.toNat w := by
  subst hx
  simp [Instr.sliceBound, asIntOf, h0, h1]
section
variable {x lo hh : Operand} {t e : TypeId} {ag : Bool} {k l m n' o' n c g o : Nat} {A : Option Addr} {xs ys : List Value} {kk kk' : IntKind} {p q : Int}
def SlPost (g o' n' k : Nat) (ys : List Value) (w : World) (v : Value) (w' : World) : Prop := ∃ A' c', v = .slice A' n' c' ∧ w = w' ∧ Row w' A' g o' n' k ys ∧ n' ≤ c'
theorem sl_post (hr : Row w A g o n k xs) (hlm : l ≤ m) (hmn : m ≤ n) (hc : n ≤ c) (hn : n' = m - l) (ho : o' = o + l * k) (hy : (xs.drop (l * k)).take ((m - l) * k) = ys) : SlPost g o' n' k ys w (.slice (if c = l then A else A.map (·.add (l * k))) (m - l) (c - l)) w := by
  subst hn; subst ho; subst hy
  exact ⟨_, _, rfl, rfl, hr.cut hlm hmn hc, by omega⟩
theorem d_slicelh (ht : P.underlying t = some (.slice e)) (hs : TyS P e ag k) (hx : ev env x = some (.slice A n c)) (hlo : ev env lo = some (.int kk p)) (hl : p = (l : Int)) (hhi : ev env hh = some (.int kk' q)) (hm : q = (m : Int))
    (hr : Row w A g o n k xs) (hlm : l ≤ m) (hmn : m ≤ n) (hc : n ≤ c) (hn : n' = m - l) (ho : o' = o + l * k) (hy : (xs.drop (l * k)).take ((m - l) * k) = ys) : Doe P env ⟨dst, .slice t x (some lo) (some hh) none, ty, pos, after, gd⟩ w (fun v w' => SlPost g o' n' k ys w v w') :=
  Doe.of_run fun ρ ha => by
    subst hl; subst hm
    refine ⟨_, w, ?_, sl_post hr hlm hmn hc hn ho hy⟩
    have b1 := fun code => run_bound (P := P) (w := w) (code := code) (y := c) (show (Value.int kk' (m : Int)) = .int kk' m from rfl) (by omega) (by omega)
    have b2 := fun code => run_bound (P := P) (w := w) (code := code) (y := m) (show (Value.int kk (l : Int)) = .int kk l from rfl) (by omega) (by omega)
    simp only [Int.toNat_natCast] at b1 b2
    simp [execOp, ha x _ hx, ha lo _ hlo, ha hh _ hhi, Instr.sliceAt, Instr.slice, run_und ht, Instr.sliceBounds, b1, b2, hs.size]
theorem d_slicel (ht : P.underlying t = some (.slice e)) (hs : TyS P e ag k) (hx : ev env x = some (.slice A n c)) (hlo : ev env lo = some (.int kk p)) (hl : p = (l : Int))
    (hr : Row w A g o n k xs) (hlm : l ≤ m) (hmn : m ≤ n) (hc : n ≤ c) (hn : n' = m - l) (ho : o' = o + l * k) (hy : (xs.drop (l * k)).take ((m - l) * k) = ys) (hmm : m = n := by rfl) : Doe P env ⟨dst, .slice t x (some lo) none none, ty, pos, after, gd⟩ w (fun v w' => SlPost g o' n' k ys w v w') :=
  Doe.of_run fun ρ ha => by
    subst hl; subst hmm
    refine ⟨_, w, ?_, sl_post hr hlm hmn hc hn ho hy⟩
    have b2 := fun code => run_bound (P := P) (w := w) (code := code) (y := m) (show (Value.int kk (l : Int)) = .int kk l from rfl) (by omega) (by omega)
    simp only [Int.toNat_natCast] at b2
    simp [execOp, ha x _ hx, ha lo _ hlo, Instr.sliceAt, Instr.slice, run_und ht, Instr.sliceBounds, b2, hs.size]
theorem d_sliceh (ht : P.underlying t = some (.slice e)) (hs : TyS P e ag k) (hx : ev env x = some (.slice A n c)) (hhi : ev env hh = some (.int kk' q)) (hm : q = (m : Int))
    (hr : Row w A g o n k xs) (hlm : l ≤ m) (hmn : m ≤ n) (hc : n ≤ c) (hn : n' = m - l) (ho : o' = o + l * k) (hy : (xs.drop (l * k)).take ((m - l) * k) = ys) (hl0 : l = 0 := by rfl) : Doe P env ⟨dst, .slice t x none (some hh) none, ty, pos, after, gd⟩ w (fun v w' => SlPost g o' n' k ys w v w') :=
  Doe.of_run fun ρ ha => by
    subst hm; subst hl0
    refine ⟨_, w, ?_, sl_post hr hlm hmn hc hn ho hy⟩
    have b1 := fun code => run_bound (P := P) (w := w) (code := code) (y := c) (show (Value.int kk' (m : Int)) = .int kk' m from rfl) (by omega) (by omega)
    simp only [Int.toNat_natCast] at b1
    simp [execOp, ha x _ hx, ha hh _ hhi, Instr.sliceAt, Instr.slice, run_und ht, Instr.sliceBounds, b1, hs.size]
theorem d_slice (ht : P.underlying t = some (.slice e)) (hs : TyS P e ag k) (hx : ev env x = some (.slice A n c))
    (hr : Row w A g o n k xs) (hlm : l ≤ m) (hmn : m ≤ n) (hc : n ≤ c) (hn : n' = m - l) (ho : o' = o + l * k) (hy : (xs.drop (l * k)).take ((m - l) * k) = ys) (hl0 : l = 0 := by rfl) (hmm : m = n := by rfl) : Doe P env ⟨dst, .slice t x none none none, ty, pos, after, gd⟩ w (fun v w' => SlPost g o' n' k ys w v w') :=
  Doe.of_run fun ρ ha => by
    subst hmm; subst hl0
    refine ⟨_, w, ?_, sl_post hr hlm hmn hc hn ho hy⟩
    simp [execOp, ha x _ hx, Instr.sliceAt, Instr.slice, run_und ht, Instr.sliceBounds, hs.size]
theorem d_sliceArr {m : Nat} (ht : P.underlying t = some (.array m e)) (hx : ev env x = some (.pointer (some ⟨g, 0, none⟩))) (hs : ∃ ag k, TyS P e ag k := by exact ⟨_, _, ‹_›⟩) : Doe P env ⟨dst, .slice t x none none none, ty, pos, after, gd⟩ w (fun v w' => v = .slice (some ⟨g, 0, none⟩) m m ∧ w = w') :=
  Doe.of_run fun ρ ha => by
    obtain ⟨ag, k, hs⟩ := hs
    refine ⟨_, w, ?_, rfl, rfl⟩
    by_cases h0 : m = 0
    · subst h0
      simp [execOp, ha x _ hx, Instr.sliceAt, Instr.sureAddr, run_und ht, Instr.sliceBounds, hs.size]
    · simp [execOp, ha x _ hx, Instr.sliceAt, Instr.sureAddr, run_und ht, Instr.sliceBounds, hs.size, h0, addr_add]
/-- Parts of strings. -/
theorem str_cut (s : List UInt8) (l m : Nat) : (⟨s.toArray⟩ : ByteArray).extract l m = ⟨((s.take m).drop l).toArray⟩ := by
  have h := Lib.extract_data (⟨s.toArray⟩ : ByteArray) l m
  apply ByteArray.ext
  apply Array.ext'
  simp only [h]
  rw [List.drop_take]
variable {s r : List UInt8}
theorem y_sliceSlh (ht : P.underlying t = some .string) (hx : ev env x = some (.string ⟨s.toArray⟩)) (hlo : ev env lo = some (.int kk p)) (hl : p = (l : Int)) (hhi : ev env hh = some (.int kk' q)) (hm : q = (m : Int)) (hlm : l ≤ m) (hmn : m ≤ s.length) (hy : (s.take m).drop l = r) : Yld P env ⟨dst, .slice t x (some lo) (some hh) none, ty, pos, after, gd⟩ w (.string ⟨r.toArray⟩) := by
  intro ρ ha; subst hl; subst hm; subst hy
  have hsz : (⟨s.toArray⟩ : ByteArray).size = s.length := by simp [ByteArray.size]
  have b1 := fun code => run_bound (P := P) (w := w) (code := code) (y := s.length) (show (Value.int kk' (m : Int)) = .int kk' m from rfl) (by omega) (by omega)
  have b2 := fun code => run_bound (P := P) (w := w) (code := code) (y := m) (show (Value.int kk (l : Int)) = .int kk l from rfl) (by omega) (by omega)
  simp only [Int.toNat_natCast] at b1 b2
  simp [execOp, ha x _ hx, ha lo _ hlo, ha hh _ hhi, Instr.sliceAt, Instr.slice, run_und ht, Instr.sliceBounds, hsz, -ByteArray.size_data, b1, b2, str_cut]
theorem y_sliceSl (ht : P.underlying t = some .string) (hx : ev env x = some (.string ⟨s.toArray⟩)) (hlo : ev env lo = some (.int kk p)) (hl : p = (l : Int)) (hlm : l ≤ m) (hmn : m ≤ s.length) (hy : s.drop l = r) (hmm : m = s.length := by rfl) : Yld P env ⟨dst, .slice t x (some lo) none none, ty, pos, after, gd⟩ w (.string ⟨r.toArray⟩) := by
  intro ρ ha; subst hl; subst hy; subst hmm
  have hsz : (⟨s.toArray⟩ : ByteArray).size = s.length := by simp [ByteArray.size]
  have b2 := fun code => run_bound (P := P) (w := w) (code := code) (y := s.length) (show (Value.int kk (l : Int)) = .int kk l from rfl) (by omega) (by omega)
  simp only [Int.toNat_natCast] at b2
  simp [execOp, ha x _ hx, ha lo _ hlo, Instr.sliceAt, Instr.slice, run_und ht, Instr.sliceBounds, hsz, -ByteArray.size_data, b2, str_cut]
theorem y_sliceSh (ht : P.underlying t = some .string) (hx : ev env x = some (.string ⟨s.toArray⟩)) (hhi : ev env hh = some (.int kk' q)) (hm : q = (m : Int)) (hlm : l ≤ m) (hmn : m ≤ s.length) (hy : s.take m = r) (hl0 : l = 0 := by rfl) : Yld P env ⟨dst, .slice t x none (some hh) none, ty, pos, after, gd⟩ w (.string ⟨r.toArray⟩) := by
  intro ρ ha; subst hm; subst hy
  have hsz : (⟨s.toArray⟩ : ByteArray).size = s.length := by simp [ByteArray.size]
  have b1 := fun code => run_bound (P := P) (w := w) (code := code) (y := s.length) (show (Value.int kk' (m : Int)) = .int kk' m from rfl) (by omega) (by omega)
  simp only [Int.toNat_natCast] at b1
  simp [execOp, ha x _ hx, ha hh _ hhi, Instr.sliceAt, Instr.slice, run_und ht, Instr.sliceBounds, hsz, -ByteArray.size_data, b1, str_cut]
end
end
end Go.Proofs.GP
