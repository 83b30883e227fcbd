/- Step lemmas, second part: what one operation does to a frame and a world. No condition. -/
import Derived.Test.YtcnepgnfecoeoaaDoorGBase
import Derived.WalkKit
set_option linter.unusedVariables false
set_option linter.unusedSimpArgs false
namespace Go.Proofs.GP
open Go Go.RowKit

/-! ### 4. One operation -/
def Ag (ρ : Operand → Value) (env : Env) : Prop := ∀ x v, ev env x = some v → ρ x = v
theorem St.ag {n : Nat} {env : Env} {a : Act} (h : St n env a) : Ag a.eval env := fun _ _ hx => h.eval hx
/-- It leaves a value and nothing else. -/
def Yld (P : Program) (env : Env) (o : Oper) (w : World) (v : Value) : Prop := ∀ ρ, Ag ρ env → (execOp ρ o).run P w = .ok (.value v) w
/-- It leaves a value and a world of which K is known. -/
def Doe (P : Program) (env : Env) (o : Oper) (w : World) (K : Value → World → Prop) : Prop :=
  ∀ (a : Act) (next : Act → World → Prop) (Q : Exit → Act → World → Prop), Ag a.eval env → (∀ v w', K v w' → next (a.put o.dst v) w') → o.wp P a w next Q
section
variable {P : Program} {env : Env} {w : World} {dst : Option Tmp} {ty : TypeId} {pos : String} {after : Array Edge} {gd : Option (Nat × Bool)}

theorem Doe.of_run {o : Oper} {K : Value → World → Prop} (h : ∀ ρ, Ag ρ env → ∃ v w', (execOp ρ o).run P w = .ok (.value v) w' ∧ K v w') : Doe P env o w K := by
  intro a next Q ha hn
  obtain ⟨v, w', h1, h2⟩ := h a.eval ha
  unfold Oper.wp
  rw [h1]
  exact hn v w' h2
theorem Doe.of_skip {o : Oper} {K : Value → World → Prop} (h : ∀ ρ, Ag ρ env → ∃ w', (execOp ρ o).run P w = .ok .skip w' ∧ K undef w') : Doe P env o w K := by
  intro a next Q ha hn
  obtain ⟨w', h1, h2⟩ := h a.eval ha
  unfold Oper.wp
  rw [h1]
  exact hn _ w' h2

/-! #### values alone -/
theorem y_move {x : Operand} {v : Value} (hx : ev env x = some v) : Yld P env ⟨dst, .move x, ty, pos, after, gd⟩ w v := by
  intro ρ ha; simp [execOp, ha x v hx]
theorem y_assign {x : Operand} {v : Value} (hx : ev env x = some v) : Yld P env ⟨dst, .assign x, ty, pos, after, gd⟩ w v := by
  intro ρ ha; simp [execOp, ha x v hx]
theorem y_pick {c x y : Operand} {b : Bool} {u v r : Value} (hc : ev env c = some (.bool b)) (hx : ev env x = some u) (hy : ev env y = some v) (hr : (if b = true then u else v) = r) : Yld P env ⟨dst, .pick c x y, ty, pos, after, gd⟩ w r := by
  intro ρ ha; subst hr; simp [execOp, ha c _ hc, ha x _ hx, ha y _ hy, asBool]
theorem y_extract {x : Operand} {i : Nat} {vs : Array Value} {v : Value} (hx : ev env x = some (.tuple vs)) (hv : vs[i]? = some v) : Yld P env ⟨dst, .extract x i, ty, pos, after, gd⟩ w v := by
  intro ρ ha; simp [execOp, ha x _ hx, Instr.extract, hv]
theorem y_nilCheck {x : Operand} {p : Addr} (hx : ev env x = some (.pointer (some p))) : Yld P env ⟨dst, .nilCheck x, ty, pos, after, gd⟩ w (.pointer (some p)) := by
  intro ρ ha; simp [execOp, ha x _ hx]
theorem y_nilCheckF {x : Operand} {f : FuncId} {fi ca : Array Value} (hx : ev env x = some (.func (.func f) fi ca)) : Yld P env ⟨dst, .nilCheck x, ty, pos, after, gd⟩ w (.func (.func f) fi ca) := by
  intro ρ ha; simp [execOp, ha x _ hx]
theorem y_not {x : Operand} {t : TypeId} {b r : Bool} (hx : ev env x = some (.bool b)) (hr : (!b) = r) : Yld P env ⟨dst, .unOp .not t x, ty, pos, after, gd⟩ w (.bool r) := by
  intro ρ ha; subst hr; simp [execOp, ha x _ hx, Op.unary]
theorem y_comp {x : Operand} {t : TypeId} {k : IntKind} {p r : Int} (hx : ev env x = some (.int k p)) (hr : k.wrap (BitVec.ofInt k.bits (if k.signed then -1 else k.max) ^^^ BitVec.ofInt k.bits p).toNat = r) : Yld P env ⟨dst, .unOp .xor t x, ty, pos, after, gd⟩ w (.int k r) := by
  intro ρ ha; subst hr; simp [execOp, ha x _ hx, Op.unary, Op.intBits]
theorem y_iface {x : Operand} {t : TypeId} {d : TypeDesc} {v : Value} (hx : ev env x = some v) (ht : P.underlying t = some d) (hd : (match d with | .interface _ => false | _ => true) = true) : Yld P env ⟨dst, .makeInterface t x, ty, pos, after, gd⟩ w (.iface t v) := by
  intro ρ ha
  simp only [execOp, ha x _ hx, Instr.makeInterface, underlying, program]
  cases d <;> simp_all [Sem.run]
theorem y_func {fn : Fn} {fs cs : Array Operand} {us vs : Array Value} (hf : ∀ ρ, Ag ρ env → fs.map ρ = us) (hc : ∀ ρ, Ag ρ env → cs.map ρ = vs) : Yld P env ⟨dst, .makeFunc fn fs cs, ty, pos, after, gd⟩ w (.func fn us vs) := by
  intro ρ ha; simp [execOp, Instr.makeFunc, hf ρ ha, hc ρ ha]

/-- Two operands' operation, its value known. -/
theorem y_bin {op : BinOp} {t : TypeId} {x y : Operand} {yt : TypeId} {u v r : Value} (hx : ev env x = some u) (hy : ev env y = some v)
    (hg : (eqGuard op t x y u v).run P w = .ok () w) (hr : (binOp op t u v).run P w = .ok r w) : Yld P env ⟨dst, .binOp op t x y yt, ty, pos, after, gd⟩ w r := by
  intro ρ ha
  simp only [execOp, ha x _ hx, ha y _ hy, Sem.run_bind, hg, hr, Result.andThen_ok, Sem.run_pure]
theorem guard_int {op : BinOp} {t : TypeId} {x y : Operand} {k k' : IntKind} {a b : Int} : (eqGuard op t x y (.int k a) (.int k' b)).run P w = .ok () w := by
  unfold eqGuard; cases op <;> rfl
theorem y_add {t : TypeId} {x y : Operand} {yt : TypeId} {k : IntKind} {a b r : Int} (hx : ev env x = some (.int k a)) (hy : ev env y = some (.int k b)) (hr : k.wrap (a + b) = r) : Yld P env ⟨dst, .binOp .add t x y yt, ty, pos, after, gd⟩ w (.int k r) :=
  y_bin hx hy guard_int (by subst hr; simp [binOp, Op.intArith])
theorem y_sub {t : TypeId} {x y : Operand} {yt : TypeId} {k : IntKind} {a b r : Int} (hx : ev env x = some (.int k a)) (hy : ev env y = some (.int k b)) (hr : k.wrap (a - b) = r) : Yld P env ⟨dst, .binOp .sub t x y yt, ty, pos, after, gd⟩ w (.int k r) :=
  y_bin hx hy guard_int (by subst hr; simp [binOp, Op.intArith])
theorem y_mul {t : TypeId} {x y : Operand} {yt : TypeId} {k : IntKind} {a b r : Int} (hx : ev env x = some (.int k a)) (hy : ev env y = some (.int k b)) (hr : k.wrap (a * b) = r) : Yld P env ⟨dst, .binOp .mul t x y yt, ty, pos, after, gd⟩ w (.int k r) :=
  y_bin hx hy guard_int (by subst hr; simp [binOp, Op.intArith])
theorem y_quo {t : TypeId} {x y : Operand} {yt : TypeId} {k : IntKind} {a b r : Int} (hx : ev env x = some (.int k a)) (hy : ev env y = some (.int k b)) (hb : b ≠ 0) (hr : k.wrap (a.tdiv b) = r) : Yld P env ⟨dst, .binOp .quo t x y yt, ty, pos, after, gd⟩ w (.int k r) :=
  y_bin hx hy guard_int (by subst hr; simp [binOp, Op.intDiv, hb])
theorem y_rem {t : TypeId} {x y : Operand} {yt : TypeId} {k : IntKind} {a b r : Int} (hx : ev env x = some (.int k a)) (hy : ev env y = some (.int k b)) (hb : b ≠ 0) (hr : a.tmod b = r) : Yld P env ⟨dst, .binOp .rem t x y yt, ty, pos, after, gd⟩ w (.int k r) :=
  y_bin hx hy guard_int (by subst hr; simp [binOp, Op.intDiv, hb])
theorem y_and {t : TypeId} {x y : Operand} {yt : TypeId} {k : IntKind} {a b r : Int} (hx : ev env x = some (.int k a)) (hy : ev env y = some (.int k b)) (hr : k.wrap (BitVec.ofInt k.bits a &&& BitVec.ofInt k.bits b).toNat = r) : Yld P env ⟨dst, .binOp .and t x y yt, ty, pos, after, gd⟩ w (.int k r) :=
  y_bin hx hy guard_int (by subst hr; simp [binOp, Op.intBits])
theorem y_or {t : TypeId} {x y : Operand} {yt : TypeId} {k : IntKind} {a b r : Int} (hx : ev env x = some (.int k a)) (hy : ev env y = some (.int k b)) (hr : k.wrap (BitVec.ofInt k.bits a ||| BitVec.ofInt k.bits b).toNat = r) : Yld P env ⟨dst, .binOp .or t x y yt, ty, pos, after, gd⟩ w (.int k r) :=
  y_bin hx hy guard_int (by subst hr; simp [binOp, Op.intBits])
theorem y_xor {t : TypeId} {x y : Operand} {yt : TypeId} {k : IntKind} {a b r : Int} (hx : ev env x = some (.int k a)) (hy : ev env y = some (.int k b)) (hr : k.wrap (BitVec.ofInt k.bits a ^^^ BitVec.ofInt k.bits b).toNat = r) : Yld P env ⟨dst, .binOp .xor t x y yt, ty, pos, after, gd⟩ w (.int k r) :=
  y_bin hx hy guard_int (by subst hr; simp [binOp, Op.intBits])
theorem guard_sh {op : BinOp} {t : TypeId} {x y : Operand} {k k' : IntKind} {a b : Int} (h : op = .shl ∨ op = .shr) : (eqGuard op t x y (.int k a) (.int k' b)).run P w = .ok () w := guard_int
theorem y_shl {t : TypeId} {x y : Operand} {yt : TypeId} {k k' : IntKind} {a b r : Int} (hx : ev env x = some (.int k a)) (hy : ev env y = some (.int k' b)) (hb : 0 ≤ b) (hr : k.wrap (a * 2 ^ (min b.toNat k.bits)) = r) : Yld P env ⟨dst, .binOp .shl t x y yt, ty, pos, after, gd⟩ w (.int k r) :=
  y_bin hx hy guard_int (by subst hr; simp [binOp, Op.shift, Int.not_lt.2 hb])
theorem y_shr {t : TypeId} {x y : Operand} {yt : TypeId} {k k' : IntKind} {a b r : Int} (hx : ev env x = some (.int k a)) (hy : ev env y = some (.int k' b)) (hb : 0 ≤ b) (hr : a.fdiv (2 ^ (min b.toNat k.bits)) = r) : Yld P env ⟨dst, .binOp .shr t x y yt, ty, pos, after, gd⟩ w (.int k r) :=
  y_bin hx hy guard_int (by subst hr; simp [binOp, Op.shift, Int.not_lt.2 hb])
theorem y_lss {t : TypeId} {x y : Operand} {yt : TypeId} {k : IntKind} {a b : Int} {r : Bool} (hx : ev env x = some (.int k a)) (hy : ev env y = some (.int k b)) (hr : decide (a < b) = r) : Yld P env ⟨dst, .binOp .lss t x y yt, ty, pos, after, gd⟩ w (.bool r) :=
  y_bin hx hy guard_int (by subst hr; simp [binOp, Op.intCmp])
theorem y_leq {t : TypeId} {x y : Operand} {yt : TypeId} {k : IntKind} {a b : Int} {r : Bool} (hx : ev env x = some (.int k a)) (hy : ev env y = some (.int k b)) (hr : decide (a ≤ b) = r) : Yld P env ⟨dst, .binOp .leq t x y yt, ty, pos, after, gd⟩ w (.bool r) :=
  y_bin hx hy guard_int (by subst hr; simp [binOp, Op.intCmp])
theorem y_gtr {t : TypeId} {x y : Operand} {yt : TypeId} {k : IntKind} {a b : Int} {r : Bool} (hx : ev env x = some (.int k a)) (hy : ev env y = some (.int k b)) (hr : decide (b < a) = r) : Yld P env ⟨dst, .binOp .gtr t x y yt, ty, pos, after, gd⟩ w (.bool r) :=
  y_bin hx hy guard_int (by subst hr; simp [binOp, Op.intCmp])
theorem y_geq {t : TypeId} {x y : Operand} {yt : TypeId} {k : IntKind} {a b : Int} {r : Bool} (hx : ev env x = some (.int k a)) (hy : ev env y = some (.int k b)) (hr : decide (b ≤ a) = r) : Yld P env ⟨dst, .binOp .geq t x y yt, ty, pos, after, gd⟩ w (.bool r) :=
  y_bin hx hy guard_int (by subst hr; simp [binOp, Op.intCmp])
theorem y_eql {t : TypeId} {x y : Operand} {yt : TypeId} {k : IntKind} {a b : Int} {r : Bool} (hx : ev env x = some (.int k a)) (hy : ev env y = some (.int k b)) (hr : decide (a = b) = r) : Yld P env ⟨dst, .binOp .eql t x y yt, ty, pos, after, gd⟩ w (.bool r) :=
  y_bin hx hy guard_int (by subst hr; by_cases h : a = b <;> simp [binOp, Op.intCmp, h])
theorem y_neq {t : TypeId} {x y : Operand} {yt : TypeId} {k : IntKind} {a b : Int} {r : Bool} (hx : ev env x = some (.int k a)) (hy : ev env y = some (.int k b)) (hr : decide (a ≠ b) = r) : Yld P env ⟨dst, .binOp .neq t x y yt, ty, pos, after, gd⟩ w (.bool r) :=
  y_bin hx hy guard_int (by subst hr; by_cases h : a = b <;> simp [binOp, Op.intCmp, h])
end
end Go.Proofs.GP
