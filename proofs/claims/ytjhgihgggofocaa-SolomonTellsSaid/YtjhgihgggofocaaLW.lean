/- Steps inside a fence: where a range over a function is met. -/
import Derived.Test.YtjhgihgggofocaaLH
import Derived.RangeFuncNested
import Derived.RangeFuncBound
import Derived.RangeFuncCalls
import Derived.RangeFuncLeaves
import Derived.OwnWalkIn
namespace Go.Proofs.Ytjhgihgggofocaa
open Go.RowKit
/-- A fence that lets all in. -/
structure Open (F : Fence) : Prop where
  fn : ∀ f, F.fn f
  depth : F.depth = none
theorem open_wide : Open Fence.wide := ⟨fun _ => trivial, rfl⟩
theorem open_round (l : Nat) : Open (Fence.wide.inRound l) := ⟨fun _ => trivial, rfl⟩
/-- A frame with deferred calls. -/
def FrD (ds : List Deferred) (n : Nat) (S : Slots) (a : Act) : Prop := Fr n S { a with defers := [] } ∧ a.defers = ds
def RGI (F : Fence) (k : Nat) (P : Program) (ops : Array Oper) (Q : Exit → Act → World → Prop) (ds : List Deferred) (n : Nat) (l : List Oper) (S : Slots) (w : World) : Prop := ∀ a, FrD ds n S a → wpListIn F k P ops Q l a w
def CWI (F : Fence) (k : Nat) (P : Program) (c : Code) (Q : Exit → Act → World → Prop) (ds : List Deferred) (n : Nat) (S : Slots) (w : World) : Prop := ∀ a, FrD ds n S a → c.wpIn F k P Q a w
section
variable {F : Fence} {k n d : Nat} {P : Program} {ops : Array Oper} {Q : Exit → Act → World → Prop} {ds : List Deferred} {l : List Oper} {S : Slots} {w : World} {o : Oper} {v : Value}
theorem FrD.put {a : Act} (h : FrD ds n S a) (hd : Nat.blt d n = true) : FrD ds n ((d, v) :: S) (a.put (some d) v) := ⟨h.1.put hd, h.2⟩
theorem FrD.sub {S' : Slots} {a : Act} (h : FrD ds n S a) (hs : Sub S' S) : FrD ds n S' a := ⟨h.1.sub hs, h.2⟩
theorem RGI.run {w' : World} (hO : Open F) (hw : wantS ops S o = some true) (hd : o.dst = some d) (hdn : Nat.blt d n = true) (hnd : ∀ c, o.op ≠ .defer c)
    (hr : ∀ a, Fr n S a → (execOp a.eval o).run P w = .ok (.value v) w') (kk : RGI F k P ops Q ds n l ((d, v) :: S) w') : RGI F k P ops Q ds n (o :: l) S w := by
  intro a ha
  unfold wpListIn
  rw [if_pos (ha.1.wanted hw)]
  refine ⟨fun f _ => hO.fn f, ?_⟩
  rw [Oper.semAt_plain F _ _ hnd]
  have e := hr _ ha.1
  rw [show a.eval = Act.eval { a with defers := [] } from rfl, e]
  show wpListIn F k P ops Q l (a.put o.dst v) w'
  rw [hd]
  exact kk _ (ha.put hdn)
theorem RGI.vl (hO : Open F) (hw : wantS ops S o = some true) (hd : o.dst = some d) (hdn : Nat.blt d n = true) (hnd : ∀ c, o.op ≠ .defer c) (he : Ev P n o S w v) (kk : RGI F k P ops Q ds n l ((d, v) :: S) w) : RGI F k P ops Q ds n (o :: l) S w := RGI.run hO hw hd hdn hnd he kk
theorem RGI.done (kk : ∀ a, FrD ds n S a → Q .normal a w) : RGI F k P ops Q ds n [] S w := fun a ha => wpListIn_nil (kk a ha)
theorem RGI.call {f : FuncId} {c : Call} {xs : List Operand} {fx : Operand} {vs cap : List Value} {tys : Array TypeId} {Φ : Value → World → Prop} (hO : Open F) (hW : CallsIn F (k - 1) P f (vs ++ cap).toArray w (fun e w' => ∃ v, e = .returned v ∧ Φ v w')) (hw : wantS ops S o = some true) (hd : o.dst = some d) (hdn : Nat.blt d n = true)
    (ho : o.op = .call c) (hc : c = { callee := .value fx, args := xs.toArray, argTypes := tys }) (hf : ev S fx = some (.func (.func f) #[] cap.toArray)) (hx : evs S xs = some vs)
    (he : ∀ args w, (callFunc f args).run P w = .ok (.enter f args) w)
    (kk : ∀ v w', Φ v w' → RGI F k P ops Q ds n l ((d, v) :: S) w') : RGI F k P ops Q ds n (o :: l) S w := by
  intro a ha
  unfold wpListIn
  rw [if_pos (ha.1.wanted hw)]
  refine ⟨fun f _ => hO.fn f, ?_⟩
  rw [Oper.semAt_plain F _ _ (by rw [ho]; intro c h; cases h)]
  have hrun : (execOp a.eval o).run P w = .ok (.enter f (vs ++ cap).toArray) w := by
    simp only [execOp, ho, hc]
    simp only [resolve, Sem.run_bind]
    rw [show a.eval = Act.eval { a with defers := [] } from rfl, ha.1.eval hf]
    have hm : xs.toArray.map (Act.eval { a with defers := [] }) = vs.toArray := by rw [List.map_toArray, ha.1.evals hx]
    rw [hm]
    simp [Deferred.ofValue, invoke, he]
  rw [hrun, Oper.uponIn_enter]
  refine ⟨fun h => (by rw [hO.depth] at h; cases h), hW.mono ?_⟩
  rintro e w' ⟨v, rfl, hp⟩
  show wpListIn F k P ops Q l (a.put o.dst v) w'
  rw [hd]
  exact kk v w' hp _ (ha.put hdn)
/-- A call of yield. -/
theorem RGI.yield_ {c : Call} {xs : List Operand} {fx : Operand} {vs : List Value} {tys : Array TypeId} {lp : Nat} {R : Ending → World → Prop} (hO : Open F) (hY : YieldAt F (k - 1) P lp vs.toArray w R) (hw : wantS ops S o = some true) (hd : o.dst = some d) (hdn : Nat.blt d n = true)
    (ho : o.op = .call c) (hc : c = { callee := .value fx, args := xs.toArray, argTypes := tys }) (hf : ev S fx = some (.func (.yield lp) #[] #[])) (hx : evs S xs = some vs)
    (hR : ∀ e w', R e w' → ∃ b, e = .returned (.bool b)) (kk : ∀ b w', R (.returned (.bool b)) w' → RGI F k P ops Q ds n l ((d, .bool b) :: S) w') : RGI F k P ops Q ds n (o :: l) S w := by
  intro a ha
  unfold wpListIn
  rw [if_pos (ha.1.wanted hw)]
  refine ⟨fun f _ => hO.fn f, ?_⟩
  rw [Oper.semAt_plain F _ _ (by rw [ho]; intro c h; cases h)]
  obtain ⟨fn, tmps, assign, body, hy, hr⟩ := hY
  have hrun : (execOp a.eval o).run P w = .ok (.round lp fn tmps assign body) w := by
    simp only [execOp, ho, hc]
    simp only [resolve, Sem.run_bind]
    rw [show a.eval = Act.eval { a with defers := [] } from rfl, ha.1.eval hf]
    have hm : xs.toArray.map (Act.eval { a with defers := [] }) = vs.toArray := by rw [List.map_toArray, ha.1.evals hx]
    rw [hm]
    simp [Deferred.ofValue, invoke, hy]
  rw [hrun, Oper.uponIn_round]
  refine ⟨fun h => (by rw [hO.depth] at h; cases h), hr.mono ?_⟩
  intro e w' hp
  obtain ⟨b, rfl⟩ := hR e w' hp
  show wpListIn F k P ops Q l (a.put o.dst (.bool b)) w'
  rw [hd]
  exact kk b w' hp _ (ha.put hdn)
theorem CWI.region {id : Nat} {l : List Oper} (kk : RGI F k P l.toArray Q ds n l S w) : CWI F k P (.region id l.toArray false) Q ds n S w := fun a ha => wpIn_region_lit (kk a ha)
theorem CWI.seq {x y : Code} (kk : CWI F k P x (Exit.then (fun a w => y.wpIn F k P Q a w) Q) ds n S w) : CWI F k P (.seq x y) Q ds n S w := fun a ha => wpIn_seq (kk a ha)
theorem CWI.ret (kk : ∀ a, FrD ds n S a → Q .ret a w) : CWI F k P .ret Q ds n S w := fun a ha => wpIn_ret (kk a ha)
/-- From the wide walk into the fence. -/
theorem CW.fenced {c : Code} (k : Nat) (h : CWI Fence.wide k P c Q [] n S w) : CW P c Q n S w := fun a ha => (wpIn_wide (n := k)).1 (h a ⟨⟨rfl, ha.sz, ha.get⟩, ha.df⟩)
theorem FrD.fr {a : Act} (h : FrD [] n S a) : Fr n S a := ⟨h.2, h.1.sz, h.1.get⟩
theorem RGI.doneQ (kk : QW Q .normal n S w) : RGI F k P ops Q [] n [] S w := fun a ha => wpListIn_nil (kk a ha.fr)
theorem RGI.alloc_ {T m by_ : Nat} {z : Value} (hO : Open F) (hw : wantS ops S o = some true) (hd : o.dst = some d) (hdn : Nat.blt d n = true) (ho : o.op = .alloc T) (hi : (P.info? T).map (fun i => (i.zero, i.size, i.bytes)) = some (some z, m, by_))
    (kk : ∀ g w', g = w.heap.size → Ex w w' → Blk w' g T z.cells.toList → RGI F k P ops Q ds n l ((d, .pointer (some ⟨g, 0, none⟩)) :: S) w') : RGI F k P ops Q ds n (o :: l) S w := by
  obtain ⟨i, hii, hz0, hz1, hz2⟩ := info_parts hi
  refine RGI.run hO (v := .pointer (some ⟨w.heap.size, 0, none⟩)) (w' := w.alloc (.cells z.cells T)) hw hd hdn (by rw [ho]; intro c h; cases h) (fun a ha => ?_) (kk w.heap.size _ rfl (Ex.of_alloc w _) (new_blk w T z.cells))
  simp only [execOp, ho]
  simp [Instr.alloc, zeroValue, typeInfo, hii, hz0, newVar, newRow]
theorem CWI.block {id : Nat} {c : Code} (kk : CWI F k P c (Exit.inBlock id Q) ds n S w) : CWI F k P (.block id c) Q ds n S w := fun a ha => wpIn_block (kk a ha)
theorem CWI.then_ {c : Code} {S' : Slots} (hs : Sub S' S) (kk : CWI F k P c Q ds n S' w) : ∀ a, FrD ds n S a → Exit.then (fun a w => c.wpIn F k P Q a w) Q .normal a w := fun a ha => kk a (ha.sub hs)
/-- Entering a function whose body holds a range over a function. -/
theorem Ret.ofM {f : FuncId} {fn : Func} {c : Code} {args : List Value} {Φ : Value → World → Prop} {m : Nat} (k : Nat) (hf : P.funcs[f]? = some fn) (hb : fn.body = some c) (hm : fn.ntmps = m) (hl : Nat.ble args.length m = true)
    (h : CWI Fence.wide k P c (bodyPostM Fence.wide k P fn fun e w' => ∃ v, e = .returned v ∧ Φ v w') [] m (frame0 0 args) w) : Ret P f args w Φ := by
  refine (callsIn_wide (n := k)).1 (callsIn_of_wp_marks hf hb trivial (h _ ⟨⟨rfl, ?_, fun i v hi => ?_⟩, rfl⟩) rfl)
  · have : args.length ≤ m := by simpa [Nat.ble_eq] using hl
    simp [hm]; omega
  · obtain ⟨_, h2⟩ := frame0_get args 0 i v hi
    have hlt : i < args.length := by
      rcases Nat.lt_or_ge i args.length with h | h
      · exact h
      · simp [List.getElem?_eq_none h] at h2
    rw [Array.getElem?_append_left (by simpa using hlt)]
    simpa using h2
/-- A return behind a range over a function: its block of deferred calls is taken up. -/
theorem retM {fn : Func} {Φ : Value → World → Prop} {t D : Nat} (hr : fn.results = #[.tmp t]) (hv : lk S t = some v) (hK : w.heap[D]? = some (.deferred (some []))) (h : Φ v (w.putObj D (.deferred none))) :
    ∀ a, FrD [{ target := .collected D, args := #[] }] n S a → bodyPostM Fence.wide k P fn (fun e w' => ∃ v, e = .returned v ∧ Φ v w') .ret a w := by
  intro a ha
  show LeavesInM Fence.wide k P fn a.tmps _ a.defers .returning w
  rw [ha.2]
  refine ⟨by simp, .inl ⟨_, _, rfl, run_takeDeferred hK, ?_⟩⟩
  refine ⟨_, results_tmp hr _ _ _, _, rfl, ?_⟩
  rw [show a.tmps.getD t undef = v from ha.1.eval (x := .tmp t) hv]
  exact h
/-- The loop variable is set. -/
theorem assign1 {id p : Nat} {a : Act} {K : Act → World → Prop} {X : Exit → Act → World → Prop} (hO : Open F) (hop : o.op = .assign (.tmp p)) (hd : o.dst = some d) (hg : o.guard = none) (hsz : p < a.tmps.size)
    (h : K (({ tmps := a.tmps.setIfInBounds p v, defers := [] } : Act).put (some d) v) w) : (Code.region id [o].toArray false).wpIn F k P (Exit.then K X) { tmps := (#[p].zip #[v]).foldl (fun t (p, v) => t.setIfInBounds p v) a.tmps, defers := [] } w := by
  refine wpIn_region_lit ?_
  unfold wpListIn
  have e : ({ tmps := (#[p].zip #[v]).foldl (fun t (p, v) => t.setIfInBounds p v) a.tmps, defers := [] } : Act) = { tmps := a.tmps.setIfInBounds p v, defers := [] } := by simp
  rw [e, if_pos (by simp [Region.wanted, hg])]
  refine ⟨fun f _ => hO.fn f, ?_⟩
  rw [Oper.semAt_plain F _ _ (by rw [hop]; intro c h; cases h)]
  have hev : ({ tmps := a.tmps.setIfInBounds p v, defers := [] } : Act).eval (.tmp p) = v := by
    simp [Act.eval, hsz]
  have hrun : (execOp ({ tmps := a.tmps.setIfInBounds p v, defers := [] } : Act).eval o).run P w = .ok (.value v) w := by
    simp only [execOp, hop]; rw [hev]; simp
  rw [hrun, Oper.uponIn_value, hd]
  exact wpListIn_nil h
end
end Go.Proofs.Ytjhgihgggofocaa
