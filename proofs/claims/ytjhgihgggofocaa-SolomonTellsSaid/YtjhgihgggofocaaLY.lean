/- A range over a function whose iterator tells something of the memory behind each element; a return of two boxed results behind it. -/
import Derived.Test.YtjhgihgggofocaaLU
namespace Go.Proofs.Ytjhgihgggofocaa
open Go.RowKit
/-- What a round that goes on keeps: all that lay below n0; every block of cells. -/
def Kc (n0 : Nat) (A B : World) : Prop := Below n0 A B ∧ ∀ (k : Nat) (c : Array Value) (T : TypeId) (fz : Nat × Nat), A.heap[k]? = some (.cells c T fz) → B.heap[k]? = some (.cells c T fz)
theorem Kc.trans {n0 : Nat} {A B C : World} (h : Kc n0 A B) (k : Kc n0 B C) : Kc n0 A C := ⟨Below.trans h.1 k.1, fun i c T fz hi => k.2 i c T fz (h.2 i c T fz hi)⟩
theorem grown_put {A : World} {l : Nat} (o' : Obj) : A.grownBy (A.putObj l o') (some l) :=
  ⟨rfl, rfl, rfl, by simp, fun k _ hk => World.putObj_heap_other (fun e => hk (by rw [e]))⟩
theorem Kc.put {n0 : Nat} {A : World} {l : Nat} {o : Obj} (o' : Obj) (hl : n0 ≤ l) (h : A.heap[l]? = some o) (hc : o.isCells = false) : Kc n0 A (A.putObj l o') := by
  refine ⟨(Below.refl _ A).grown (grown_put o') (by have := (Array.getElem?_eq_some_iff.1 h).1; omega) (fun k e => by cases e; exact hl), fun k c T fz hk => ?_⟩
  have hne : k ≠ l := fun e => by subst e; rw [h] at hk; cases hk; cases hc
  exact (World.putObj_heap_other hne).trans hk
theorem Kc.of_ex {n0 : Nat} {A B : World} (h : Ex A B) (hn : n0 ≤ A.heap.size) : Kc n0 A B := ⟨Below.mono h hn, fun k _ _ _ hk => (h.block k (Array.getElem?_eq_some_iff.1 hk).1).trans hk⟩
theorem others_ex {A B : World} (h : Ex A B) : KeepsOthers A B := ⟨h.size, fun k _ hk _ => (h.block k (Array.getElem?_eq_some_iff.1 hk).1).trans hk⟩
/-- How the body of a round is left. -/
def toldPost {α : Type} (n0 : Nat) (I Ix : List α → World → Prop) (xs : List α) (A : World) : Exit → Act → World → Prop
  | .normal, _, B => KeepsOthers A B ∧ Kc n0 A B ∧ I xs B
  | .ret, _, B => KeepsOthers A B ∧ Ix xs B
  | _, _, _ => False
/-- An invariant that does not mind new blocks, nor what happens to blocks from n on. -/
def Calm {α : Type} (n : Nat) (J : List α → World → Prop) : Prop := ∀ s A B row, J s A → A.grownBy B row → (∀ r, row = some r → n ≤ r) → J s B
/-- What an iterator promises that tells Rx of each element. -/
def SeqTold {α : Type} (k : Nat) (P : Program) (gf : Nat) (lb : Array Value) (encs : α → Array Value) (Rx : List α → α → World → Prop) (S : List α → Prop) (w : World) : Prop :=
  ∀ (l : Nat) (J Jx : List α → World → Prop) (W : World), Below w.heap.size w W → w.heap.size ≤ W.heap.size → Calm W.heap.size J →
    (∀ pre x A, J pre A → Rx pre x A → YieldAt Fence.wide (k - 1) P l (encs x) A fun e B => (e = .returned (.bool true) ∧ J (pre ++ [x]) B ∧ Kc w.heap.size A B) ∨ (e = .returned (.bool false) ∧ Jx (pre ++ [x]) B)) →
    J [] W → CallsIn Fence.wide k P gf (#[.func (.yield l) #[] #[]] ++ lb) W fun e B => (∃ v, e = .returned v) ∧ ((∃ xs, S xs ∧ J xs B) ∨ ∃ pre, Jx pre B)
theorem wpIn_rangeTold {α : Type} {P : Program} {g : Operand} {ps : Array Tmp} {assign body : Code} {Q : Exit → Act → World → Prop} {a : Act} {w : World} {k : Nat} (h1 : 1 ≤ k) {gf : Nat} {lb : Array Value}
    (hg : a.eval g = .func (.func gf) #[] lb) (eg : ∀ args w, (callFunc gf args).run P w = .ok (.enter gf args) w) {encs : α → Array Value} {Rx : List α → α → World → Prop} {S : List α → Prop} (hseq : SeqTold (k - 1) P gf lb encs Rx S w) (hps : ∀ x, (encs x).size = ps.size)
    (I Ix : List α → World → Prop) (hI : Calm w.heap.size I) (hIx : ∀ s A l o o', Ix s A → w.heap.size ≤ l → A.heap[l]? = some o → o.isCells = false → Ix s (A.putObj l o'))
    (hRx : ∀ s x A l o o', Rx s x A → A.heap[l]? = some o → o.isCells = false → Rx s x (A.putObj l o')) (h0 : I [] w) (a₁ : α → Act)
    (hassign : ∀ (l : Nat) (x : α) (W : World) (K : Act → World → Prop), K (a₁ x) W → assign.wpIn (Fence.wide.inRound l) (k - 1 - 1) P (Exit.then K (fun _ _ _ => False)) { tmps := (ps.zip (encs x)).foldl (fun t (p, v) => t.setIfInBounds p v) a.tmps, defers := [] } W)
    (hbody : ∀ (l : Nat) (pre : List α) (x : α) (W : World), I pre W → Rx pre x W → body.wpIn (Fence.wide.inRound l) (k - 1 - 1) P (toldPost w.heap.size I Ix (pre ++ [x]) W) (a₁ x) W)
    (hdone : ∀ (D : Nat) (xs : List α) (W : World), w.heap.size ≤ D → S xs → I xs W → W.heap[D]? = some (.deferred (some [])) → Q .normal { a with defers := { target := .collected D, args := #[] } :: a.defers } W)
    (hstop : ∀ (D : Nat) (pre : List α) (W : World), w.heap.size ≤ D → Ix pre W → W.heap[D]? = some (.deferred (some [])) → Code.ret.wpIn Fence.wide k P Q { a with defers := { target := .collected D, args := #[] } :: a.defers } W) :
    (Code.rangeFunc g ps assign body).wpIn Fence.wide k P Q a w := by
  refine wpIn_rangeFunc fun fn hfn => ?_
  obtain ⟨rec, hrec⟩ : ∃ rec : LoopState → Option Code → Loop, rec = fun st pe => { state := st, pending := pe, fn, tmps := a.tmps, params := ps, assign, body, defers := w.heap.size } := ⟨_, rfl⟩
  obtain ⟨W1, hW1⟩ : ∃ W1, (w.alloc (.deferred (some []))).alloc (.loop (rec .ready none)) = W1 := ⟨_, rfl⟩
  have hsz : W1.heap.size = w.heap.size + 2 := by rw [← hW1]; simp
  have hL1 : W1.heap[w.heap.size + 1]? = some (.loop (rec .ready none)) := by
    have := World.alloc_heap_new (w.alloc (.deferred (some []))) (.loop (rec .ready none))
    rw [World.size_alloc, hW1] at this; exact this
  have hK1 : W1.heap[w.heap.size]? = some (.deferred (some [])) := by
    rw [← hW1]; exact (Below.heap_alloc _ _ _ (by simp)).trans (World.alloc_heap_new w _)
  have hx1 : Ex w W1 := by rw [← hW1]; exact Ex.tr (Ex.of_alloc w _) (Ex.of_alloc _ _)
  have hI1 : I [] W1 := hI [] w W1 none h0 ⟨hx1.os, hx1.tape, hx1.output, hx1.size, fun k hk _ => hx1.block k hk⟩ (fun r e => by cases e)
  have putI : ∀ s A o', I s A → I s (A.putObj (w.heap.size + 1) o') := fun s A o' h => hI s A _ (some (w.heap.size + 1)) h (grown_put o') (fun r e => by cases e; omega)
  refine ⟨w.heap.size + 1, [{ target := .collected w.heap.size, args := #[] }], W1, { target := .fn (.func gf) lb, args := #[.func (.yield (w.heap.size + 1)) #[] #[]] }, W1, gf, #[.func (.yield (w.heap.size + 1)) #[] #[]] ++ lb, W1, ?_, ?_, fun f' _ => trivial, ?_, fun _ => h1, ?_⟩
  · rw [← hW1, hrec]; exact run_enterLoop_outer _ _ _ _ _
  · simp only [resolve, hg]
    simp [go_sem]
  · simp [invoke, go_sem, eg]
  refine (hseq (w.heap.size + 1) (fun pre A => I pre A ∧ A.heap[w.heap.size + 1]? = some (.loop (rec .ready none)) ∧ A.heap[w.heap.size]? = some (.deferred (some [])))
    (fun pre A => Ix pre A ∧ A.heap[w.heap.size + 1]? = some (.loop (rec .done (some .ret))) ∧ A.heap[w.heap.size]? = some (.deferred (some []))) W1 hx1 hx1.size ?_ ?_ ⟨hI1, hL1, hK1⟩).mono ?_
  · rintro s A B row ⟨h, hl, hk⟩ hgr hr
    have l1 := (Array.getElem?_eq_some_iff.1 hl).1
    have l2 := (Array.getElem?_eq_some_iff.1 hk).1
    exact ⟨hI s A B row h hgr (fun r e => by have := hr r e; omega), (hgr.block _ l1 (fun e => by have := hr _ e.symm; omega)).trans hl, (hgr.block _ l2 (fun e => by have := hr _ e.symm; omega)).trans hk⟩
  · rintro pre x A ⟨hi, hl, hk⟩ hrx
    have hlt : w.heap.size + 1 < A.heap.size := (Array.getElem?_eq_some_iff.1 hl).1
    have hy := run_yield (P := P) (args := encs x) hl (by rw [hrec]; exact hps x)
    rw [hrec] at hy
    refine ⟨fn, _, assign, body, hy, roundIn_of_wpIn hfn (hassign _ x A _ ⟨_, run_beginRound hl (by rw [hrec]), ?_⟩)⟩
    obtain ⟨A2, hA2⟩ : ∃ A2, A.putObj (w.heap.size + 1) (.loop { rec .ready none with state := .busy }) = A2 := ⟨_, rfl⟩
    have hl2 : A2.heap[w.heap.size + 1]? = some (.loop { rec .ready none with state := .busy }) := by rw [← hA2]; exact World.putObj_heap_same hlt
    have hk2 : A2.heap[w.heap.size]? = some (.deferred (some [])) := by rw [← hA2]; exact (World.putObj_heap_other (by omega)).trans hk
    have hkc : Kc w.heap.size A A2 := by rw [← hA2]; exact Kc.put _ (by omega) hl rfl
    have hi2 : I pre A2 := by rw [← hA2]; exact putI _ _ _ hi
    have hrx2 : Rx pre x A2 := by rw [← hA2]; exact hRx _ _ _ _ _ _ hrx hl rfl
    rw [hA2]
    refine wpIn_mono (hbody _ pre x A2 hi2 hrx2) ?_
    rintro e a3 B hp
    have fin : ∀ (jump : Option Code), KeepsOthers A2 B → (Instr.endRound (w.heap.size + 1) jump).run P B = .ok (.bool jump.isNone) (B.putObj (w.heap.size + 1) (.loop (rec (if jump.isNone then .ready else .done) jump))) ∧ B.heap[w.heap.size + 1]? = some (.loop { rec .ready none with state := .busy }) ∧
        (B.putObj (w.heap.size + 1) (.loop (rec (if jump.isNone then .ready else .done) jump))).heap[w.heap.size + 1]? = some (.loop (rec (if jump.isNone then .ready else .done) jump)) ∧
        (B.putObj (w.heap.size + 1) (.loop (rec (if jump.isNone then .ready else .done) jump))).heap[w.heap.size]? = some (.deferred (some [])) := fun jump hko => by
      have hl3 := hko.same _ _ hl2 rfl
      have := run_endRound (P := P) jump hl3
      rw [hrec] at this ⊢
      exact ⟨this, by rw [hrec] at hl3; exact hl3, World.putObj_heap_same (Array.getElem?_eq_some_iff.1 hl3).1, (World.putObj_heap_other (by omega)).trans (hko.same _ _ hk2 rfl)⟩
    cases e with
    | normal =>
      obtain ⟨hko, hkb, hib⟩ := hp
      obtain ⟨hr, hl3, hl4, hk4⟩ := fin none hko
      exact ⟨_, _, hr, .inl ⟨rfl, ⟨putI _ _ _ hib, hl4, hk4⟩, (hkc.trans hkb).trans (Kc.put _ (by omega) hl3 rfl)⟩⟩
    | ret =>
      obtain ⟨hko, hib⟩ := hp
      obtain ⟨hr, hl3, hl4, hk4⟩ := fin (some .ret) hko
      exact ⟨_, _, hr, .inr ⟨rfl, hIx _ _ _ _ _ hib (by omega) hl3 rfl, hl4, hk4⟩⟩
    | exit id => exact hp.elim
    | goto t => exact hp.elim
    | panic ch => exact hp.elim
    | outgrown => exact hp.elim
  · rintro e B ⟨⟨v, rfl⟩, ⟨xs, hS, hi, hl, hk⟩ | ⟨pre, hi, hl, hk⟩⟩
    · refine ⟨none, _, (by have := run_endLoop (P := P) hl (by rw [hrec]; simp); rw [hrec] at this; exact this), hdone _ xs _ (Nat.le_refl _) hS (putI _ _ _ hi) ((World.putObj_heap_other (by omega)).trans hk)⟩
    · refine ⟨some .ret, _, (by have := run_endLoop (P := P) hl (by rw [hrec]; simp); rw [hrec] at this; exact this), hstop _ pre _ (Nat.le_refl _) (hIx _ _ _ _ _ hi (by omega) hl rfl) ((World.putObj_heap_other (by omega)).trans hk)⟩
/-! results in two boxes -/
section
variable {P : Program} {Q : Exit → Act → World → Prop} {k n : Nat} {S : Slots} {w : World}
theorem CWI.ofCW {c : Code} (h : CW P c Q n S w) : CWI Fence.wide k P c Q [] n S w := fun a ha => wpIn_wide.2 (h a ha.fr)
theorem results_cells2 {fn : Func} {tmps : Array Value} {p q T U m g h : Nat} {D E : TypeDesc} {us : List Value} {x : Value} {t2 : TypeId} (hr : fn.results = #[.cell p T, .cell q U]) (hp : tmps.getD p undef = .pointer (some ⟨g, 0, none⟩)) (hq : tmps.getD q undef = .pointer (some ⟨h, 0, none⟩))
    (ht : P.underlying T = some D) (hD : aggD D = true) (hs : sizeP P T = some m) (hm : us.length = m) (hb : Blk w g T us) (hu : P.underlying U = some E) (hE : aggD E = false) (hb2 : Blk w h t2 [x]) : (results fn tmps).run P w = .ok (.tuple #[.agg us.toArray, x]) w := by
  have hl := run_loadCells_list (P := P) w ⟨g, 0, none⟩ us (fun j v hj => hb.cells j v hj)
  have hc : w.cell? ⟨h, 0, none⟩ = some x := by have := hb2.cells 0 x rfl; rwa [add_zero_] at this
  simp only [results, hr]
  have hp' : tmps[p]?.getD undef = .pointer (some ⟨g, 0, none⟩) := by simpa [Array.getD_eq_getD_getElem?] using hp
  have hq' : tmps[q]?.getD undef = .pointer (some ⟨h, 0, none⟩) := by simpa [Array.getD_eq_getD_getElem?] using hq
  simp [Sem.run_bind, Result.andThen, hp', hq', asAddr, loadVar, run_isAgg ht, hD, run_sizeOf hs, ← hm, hl, run_isAgg hu, hE, hc]
/-- A return of two boxed results ahead of the range, and behind it. -/
theorem retBox {fn : Func} {Φ : Value → World → Prop} {p q T U m g h : Nat} {D E : TypeDesc} {us : List Value} {x : Value} {t2 : TypeId} (hr : fn.results = #[.cell p T, .cell q U]) (hp : lk S p = some (.pointer (some ⟨g, 0, none⟩))) (hq : lk S q = some (.pointer (some ⟨h, 0, none⟩)))
    (ht : P.underlying T = some D) (hD : aggD D = true) (hs : sizeP P T = some m) (hm : us.length = m) (hb : Blk w g T us) (hu : P.underlying U = some E) (hE : aggD E = false) (hb2 : Blk w h t2 [x]) (hφ : Φ (.tuple #[.agg us.toArray, x]) w) :
    QW (bodyPostM Fence.wide k P fn (fun e w' => ∃ v, e = .returned v ∧ Φ v w')) .ret n S w := by
  intro a ha
  have hp' : a.tmps.getD p undef = .pointer (some ⟨g, 0, none⟩) := by have := ha.eval (x := .tmp p) hp; simpa [Act.eval, Array.getD_eq_getD_getElem?] using this
  have hq' : a.tmps.getD q undef = .pointer (some ⟨h, 0, none⟩) := by have := ha.eval (x := .tmp q) hq; simpa [Act.eval, Array.getD_eq_getD_getElem?] using this
  show LeavesInM Fence.wide k P fn a.tmps _ a.defers .returning w
  rw [ha.df]
  exact ⟨_, results_cells2 hr hp' hq' ht hD hs hm hb hu hE hb2, _, rfl, hφ⟩
theorem retBoxM {fn : Func} {Φ : Value → World → Prop} {p q T U m g h d : Nat} {D E : TypeDesc} {us : List Value} {x : Value} {t2 : TypeId} (hr : fn.results = #[.cell p T, .cell q U]) (hp : lk S p = some (.pointer (some ⟨g, 0, none⟩))) (hq : lk S q = some (.pointer (some ⟨h, 0, none⟩)))
    (ht : P.underlying T = some D) (hD : aggD D = true) (hs : sizeP P T = some m) (hm : us.length = m) (hb : Blk w g T us) (hu : P.underlying U = some E) (hE : aggD E = false) (hb2 : Blk w h t2 [x]) (hK : w.heap[d]? = some (.deferred (some []))) (hφ : Φ (.tuple #[.agg us.toArray, x]) (w.putObj d (.deferred none))) :
    ∀ a, FrD [{ target := .collected d, args := #[] }] n S a → bodyPostM Fence.wide k P fn (fun e w' => ∃ v, e = .returned v ∧ Φ v w') .ret a w := by
  intro a ha
  have hp' : a.tmps.getD p undef = .pointer (some ⟨g, 0, none⟩) := by have := ha.1.eval (x := .tmp p) hp; simpa [Act.eval, Array.getD_eq_getD_getElem?] using this
  have hq' : a.tmps.getD q undef = .pointer (some ⟨h, 0, none⟩) := by have := ha.1.eval (x := .tmp q) hq; simpa [Act.eval, Array.getD_eq_getD_getElem?] using this
  have n1 : ∀ {e : Nat} {t : TypeId} {cs : List Value}, Blk w e t cs → Blk (w.putObj d (.deferred none)) e t cs := fun {e t cs} hb => by
    have hne : e ≠ d := fun x => by subst x; unfold Blk at hb; rw [hK] at hb; cases hb
    exact (World.putObj_heap_other hne).trans hb
  show LeavesInM Fence.wide k P fn a.tmps _ a.defers .returning w
  rw [ha.2]
  exact ⟨by simp, .inl ⟨_, _, rfl, run_takeDeferred hK, ⟨_, results_cells2 hr hp' hq' ht hD hs hm (n1 hb) hu hE (n1 hb2), _, rfl, hφ⟩⟩⟩
end
end Go.Proofs.Ytjhgihgggofocaa
