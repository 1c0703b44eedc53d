/- Equality of structs whose fields are integers, bools, strings; make; cuts of slices; closures. -/
import Derived.Test.YtehlnkhbbnddmaaLD
namespace Go.Proofs.Ytehlnkhbbnddmaa
open Go.RowKit

/-- Two one-cell values of a type that '==' compares by itself. -/
def veq : Value → Value → Bool
  | .int _ a, .int _ b => decide (a = b)
  | .bool a, .bool b => decide (a = b)
  | .string a, .string b => decide (a = b)
  | _, _ => false
def tyOk : TypeDesc → Value → Bool
  | .int k, .int k' _ => decide (k = k')
  | .bool, .bool _ => true
  | .string, .string _ => true
  | _, _ => false
def veqs : List Value → List Value → Bool
  | [], _ => true
  | _, [] => true
  | x :: xs, y :: ys => veq x y && veqs xs ys
def fieldsOk (P : Program) : Nat → List Field → List Value → List Value → Bool
  | _, [], [], [] => true
  | i, f :: fs, x :: xs, y :: ys => (f.name != "_") && Nat.beq f.offset i && (match P.underlying f.type with
      | some D => tyOk D x && tyOk D y
      | none => false) && fieldsOk P (i + 1) fs xs ys
  | _, _, _, _ => false
def structOk (P : Program) (T : TypeId) (xs ys : List Value) : Bool :=
  (match P.underlying T with | some (.struct fs) => fieldsOk P 0 fs.toList xs ys | _ => false) && !P.stoodInHeld T && !P.eqGuardType P.depth T

theorem run_veq {P : Program} {T : TypeId} {D : TypeDesc} {x y : Value} (d : Nat) (hu : P.underlying T = some D) (hx : tyOk D x = true) (hy : tyOk D y = true) (w : World) : (Op.equalIn (d + 1) T x y).run P w = .ok (veq x y) w := by
  cases D <;> cases x <;> simp [tyOk] at hx <;> cases y <;> simp [tyOk] at hy
  · exact run_equalIn_bool' w d T _ _ hu
  · subst hx hy; exact run_equalIn_int w d T _ _ _ _ hu
  · rw [run_equalIn_string w d T _ _ hu]
    congr 1
    rename_i s t
    simp only [veq]
    rw [Bool.eq_iff_iff]; simp only [beq_iff_eq, decide_eq_true_eq, ByteArray.toList_eq]
    constructor
    · intro h; cases s; cases t; simp only [ByteArray.mk.injEq]; exact Array.toList_inj.1 h
    · rintro rfl; rfl

theorem run_eqFields {P : Program} (d : Nat) (w : World) (X Y : List Value) : ∀ (fs : List Field) (i : Nat) (xs ys : List Value), (∀ j, xs[j]? = X[i + j]?) → (∀ j, ys[j]? = Y[i + j]?) → fieldsOk P i fs xs ys = true →
    (Op.eqFields (d + 1) X.toArray Y.toArray fs).run P w = .ok (veqs xs ys) w
  | [], i, [], [], _, _, _ => by simp [Op.eqFields, veqs]
  | [], i, x :: xs, _, _, _, h => by simp [fieldsOk] at h
  | [], i, [], y :: ys, _, _, h => by simp [fieldsOk] at h
  | f :: fs, i, [], _, _, _, h => by simp [fieldsOk] at h
  | f :: fs, i, x :: xs, [], _, _, h => by simp [fieldsOk] at h
  | f :: fs, i, x :: xs, y :: ys, hX, hY, h => by
    simp only [fieldsOk, Bool.and_eq_true] at h
    obtain ⟨⟨⟨h1, h2⟩, h3⟩, h4⟩ := h
    have h1' : f.name ≠ "_" := by simpa using h1
    have h2' : f.offset = i := Nat.eq_of_beq_eq_true h2
    cases hu : P.underlying f.type with
    | none => simp [hu] at h3
    | some D =>
      simp only [hu, Bool.and_eq_true] at h3
      have ha : aggD D = false := by cases D <;> simp [tyOk] at h3 <;> rfl
      have hx0 : X[i]? = some x := by have := hX 0; simpa using this.symm
      have hy0 : Y[i]? = some y := by have := hY 0; simpa using this.symm
      have ih := run_eqFields d w X Y fs (i + 1) xs ys (fun j => by have := hX (j + 1); rw [List.getElem?_cons_succ] at this; rw [this]; congr 1; omega) (fun j => by have := hY (j + 1); rw [List.getElem?_cons_succ] at this; rw [this]; congr 1; omega) h4
      simp only [Op.eqFields, ne_eq, h1', not_false_eq_true, if_true]
      simp only [part, Sem.run_bind, run_isAgg hu, Result.andThen_ok, ha, h2', Bool.false_eq_true, if_false, List.getElem?_toArray, hx0, hy0, Sem.run_pure, run_veq d hu h3.1 h3.2]
      cases hv : veq x y
      · simp [veqs, hv]
      · simp [veqs, hv, ih]

section
variable {P : Program} {ops : Array Oper} {Q : Exit → Act → World → Prop} {n : Nat} {l : List Oper} {o : Oper} {S : Slots} {w w' : World} {d : Nat}

theorem run_equalStruct {T : TypeId} {xs ys : List Value} (h : structOk P T xs ys = true) (w : World) : (Op.equalIn 10000 T (.agg xs.toArray) (.agg ys.toArray)).run P w = .ok (veqs xs ys) w ∧ P.eqGuardType P.depth T = false := by
  simp only [structOk, Bool.and_eq_true, Bool.not_eq_true'] at h
  obtain ⟨⟨h1, h2⟩, h3⟩ := h
  cases hu : P.underlying T with
  | none => simp [hu] at h1
  | some D =>
    cases D <;> simp only [hu, Bool.false_eq_true] at h1
    case struct fs =>
      have hf : P.fieldsOf T = fs := by simp [Program.fieldsOf, hu]
      refine ⟨?_, h3⟩
      rw [run_equalIn_agg w 9999 T _ _ (by rw [hf]; exact hu) h2, hf]
      exact run_eqFields 9998 w xs ys fs.toList 0 xs ys (fun j => by simp) (fun j => by simp) h1
theorem Ev.eqA {T T' : TypeId} {x y : Operand} {xs ys : List Value} (ho : o.op = .binOp .eql T x y T') (hx : ev S x = some (.agg xs.toArray)) (hy : ev S y = some (.agg ys.toArray)) (h : structOk P T xs ys = true) : Ev P n o S w (.bool (veqs xs ys)) := fun a ha => by
  obtain ⟨h1, h2⟩ := run_equalStruct h w
  simp only [execOp, ho]; rw [ha.eval hx, ha.eval hy]
  simp [run_eqGuard_agg w _ _ _ _ _ _ h2, run_eql_struct, h1]
theorem Ev.neA {T T' : TypeId} {x y : Operand} {xs ys : List Value} (ho : o.op = .binOp .neq T x y T') (hx : ev S x = some (.agg xs.toArray)) (hy : ev S y = some (.agg ys.toArray)) (h : structOk P T xs ys = true) : Ev P n o S w (.bool (!(veqs xs ys))) := fun a ha => by
  obtain ⟨h1, h2⟩ := run_equalStruct h w
  simp only [execOp, ho]; rw [ha.eval hx, ha.eval hy]
  simp [run_eqGuard_agg w _ _ _ _ _ _ h2, run_neq_struct, h1]
/-- '==' of two bools. -/
theorem Ev.eqB {T T' : TypeId} {x y : Operand} {p q : Bool} (ho : o.op = .binOp .eql T x y T') (hx : ev S x = some (.bool p)) (hy : ev S y = some (.bool q)) (ht : P.underlying T = some .bool) : Ev P n o S w (.bool (decide (p = q))) := fun a ha => by
  simp only [execOp, ho]; rw [ha.eval hx, ha.eval hy]
  have h := run_equalIn_bool' (P := P) w 9999 T p q ht
  have e : eqGuard .eql T x y (.bool p) (.bool q) = pure () := rfl
  simp [e, binOp, Op.equal, Op.maxDepth, h]
  rfl
theorem Ev.neB {T T' : TypeId} {x y : Operand} {p q : Bool} (ho : o.op = .binOp .neq T x y T') (hx : ev S x = some (.bool p)) (hy : ev S y = some (.bool q)) (ht : P.underlying T = some .bool) : Ev P n o S w (.bool (decide (p ≠ q))) := fun a ha => by
  simp only [execOp, ho]; rw [ha.eval hx, ha.eval hy]
  have h := run_equalIn_bool' (P := P) w 9999 T p q ht
  have e : eqGuard .neq T x y (.bool p) (.bool q) = pure () := rfl
  simp [e, binOp, Op.equal, Op.maxDepth, h]
  rfl
end
end Go.Proofs.Ytehlnkhbbnddmaa
