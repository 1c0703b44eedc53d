/- turned: the loop over the letters upside down. -/
import Derived.Test.YtgafkbnlhlbmkaaBC
namespace Go.Proofs.Ytgafkbnlhlbmkaa
open Go.RowKit Go.Shelf
abbrev rc (c : UInt8) : List Value := Lib.runeCells (c.toNat : Int)
theorem rc_len (c : UInt8) : (rc c).length ≤ 4 := by
  unfold rc Lib.runeCells Lib.encodeRuneZ
  rw [List.length_map]
  repeat' split
  all_goals simp
theorem rcs_len (l : List UInt8) : (l.flatMap rc).length ≤ 4 * l.length := by
  induction l with
  | nil => simp
  | cons c l ih => rw [List.flatMap_cons, List.length_append, List.length_cons]; have := rc_len c; omega
theorem rcs_lo {l : List UInt8} (h : ∀ c ∈ l, c.toNat < 128) : l.flatMap rc = Lib.byteCells l := by
  induction l with
  | nil => rfl
  | cons c l ih =>
    have hc := h c (by simp)
    rw [List.flatMap_cons, ih fun d hd => h d (List.mem_cons_of_mem _ hd)]
    unfold rc Lib.runeCells
    rw [Lib.encodeRuneZ_one (by omega) (by omega)]
    rfl
theorem turnL_lo {t : List UInt8} (h : ∀ c ∈ t, c.toNat < 128) : ∀ c ∈ turnL t, c.toNat < 128 := by
  intro c hc
  unfold turnL at hc
  rw [List.mem_reverse, List.mem_map] at hc
  obtain ⟨d, hd, rfl⟩ := hc
  exact flip_lo (h d hd)
abbrev isB (B b : Nat) (bs : List Value) (w : World) : Prop := Lib.IsBuilderF (rho.t 72) (rho.t 5) B b bs w
theorem bAtF_kept {T e B b : Nat} {p : Value} {bs : List Value} {w w' : World} {row : Option Nat} (h : Lib.BuilderAtF T e B b p bs w) (hg : w.grownBy w' row) (hr : ∀ r, row = some r → ∃ o : Obj, w.heap[r]? = some o ∧ o.isCells = false) : Lib.BuilderAtF T e B b p bs w' := by
  have hlt := h.lt
  obtain ⟨hB, v, hb, hown, hne⟩ := h
  have nc : ∀ (k : Nat) (c : Array Value) (T : TypeId) (fz : Nat × Nat), w.heap[k]? = some (.cells c T fz) → some k ≠ row := fun k c T fz hk e => by
    obtain ⟨o, ho, hoc⟩ := hr k e.symm
    rw [hk] at ho
    cases ho; cases hoc
  refine ⟨hB, v, (hg.block b hlt (nc b _ _ _ hb)).trans hb, hown.kept hg ?_, hne⟩
  rcases hown.2 with ⟨rfl, _⟩ | ⟨g, cap, cur, fz, rfl, _, hgg, _⟩
  · exact .inl rfl
  · exact .inr (nc g _ _ _ hgg)
theorem isB_kept {B b : Nat} {bs : List Value} {w w' : World} {row : Option Nat} (h : isB B b bs w) (hg : w.grownBy w' row) (hr : ∀ r, row = some r → ∃ o : Obj, w.heap[r]? = some o ∧ o.isCells = false) : isB B b bs w' := h.imp (fun k => bAtF_kept k hg hr) (fun k => bAtF_kept k hg hr)
theorem isB_cells {B b : Nat} {bs : List Value} {w : World} (h : isB B b bs w) : ∃ c T fz, w.heap[b]? = some (.cells c T fz) := by
  rcases h with ⟨_, v, hb, _⟩ | ⟨_, v, hb, _⟩ <;> exact ⟨_, _, _, hb⟩
theorem isB_lt {B b : Nat} {bs : List Value} {w : World} (h : isB B b bs w) : b < w.heap.size := by obtain ⟨_, _, _, h⟩ := isB_cells h; exact (Array.getElem?_eq_some_iff.1 h).1
theorem others_keep {B b : Nat} {bs : List Value} {w w' : World} (h : isB B b bs w) (hb : Below B w w') (hk : Lib.OthersKept (rho.t 5) (some b) w w') : KeepsOthers w w' := by
  obtain ⟨c, T, fz, hc⟩ := isB_cells h
  refine ⟨hb.size, fun i o hi ho => hk i o hi (fun e => ?_) (fun c fz e => by rw [e] at ho; cases ho)⟩
  cases e
  rw [hc] at hi
  cases hi; cases ho
theorem others_kr {w0 w w' : World} {b : Nat} (hb : Below w0.heap.size w w') (hk : Lib.OthersKept (rho.t 5) (some b) w w') : Kr w0 b w w' :=
  ⟨hb, fun k c T fz h hT hne => hk k _ h (fun e => hne (Option.some.inj e)) (fun c' fz' e => hT (by cases e; rfl))⟩
theorem kr_put {w0 w2 : World} {b : Nat} (hw : w0.heap.size ≤ w2.heap.size) (W : World) (l : Nat) (o o' : Obj) (hl : w2.heap.size ≤ l) (h : W.heap[l]? = some o) (hc : o.isCells = false) (hk : o.isWalk = false) : Kr w0 b W (W.putObj l o') := by
  refine ⟨belowK_b (w := w2) hw W l o o' hl h hc hk, fun k c T fz hk' hT hne => ?_⟩
  have hkl : k ≠ l := fun e => by subst e; rw [h] at hk'; cases hk'; cases hc
  exact (World.putObj_heap_other hkl).trans hk'
theorem ups_stops (n : Nat) (w0 w : World) (bx b : Nat) (t : List UInt8) (hx0 : Ex w0 w) (hb : Blk w bx 9 [.string ⟨t.toArray⟩]) (ha : ∀ c ∈ t, c.toNat < 128) (hlen : t.length ≤ 1000) (hbw : b < w.heap.size) :
    SeqStopsK Fence.wide n Try.prog 49 #[.pointer (some ⟨bx, 0, none⟩)] (fun c : UInt8 => #[Value.int .i32 (c.toNat : Int)]) (Kr w0 b) (fun xs => xs = turnL t) (fun _ => True) t.length w := fun l J Jx W hW hJa _ hY h0 => by
  refine callsIn_wide.2 (Calls.mono (upsd_ret n w0 l bx b t J Jx W (Ex.tr hx0 hW) (hb.ext hW) ha hlen (Nat.lt_of_lt_of_le hbw hW.size) hJa hY h0) ?_)
  rintro _ w' ⟨v, rfl, h | ⟨pre, h⟩, _⟩
  · exact ⟨⟨v, rfl⟩, .inl ⟨_, rfl, h⟩⟩
  · exact ⟨⟨v, rfl⟩, .inr ⟨_, trivial, h⟩⟩
set_option maxHeartbeats 4000000 in
theorem turned_ret (t : List UInt8) (w : World) (ha : ∀ c ∈ t, c.toNat < 128) (hlen : t.length ≤ 1000) :
    Ret Try.prog 33 [.string ⟨t.toArray⟩] w (fun v w' => v = .string ⟨(turnL t).toArray⟩ ∧ Ex w w') := by
  refine Ret.ofM 6 Try.func33 rfl Try.ntmps33 rfl ?_
  refine CWI.seq ?_
  refine CWI.region ?_
  refine RGI.vl open_wide rfl rfl rfl (by intro c h; cases h) (Ev.assign rfl rfl) ?_
  refine RGI.done (CWI.then_ (S' := [(0, _)]) ⟨rfl, trivial⟩ ?_)
  refine CWI.seq ?_
  refine CWI.region ?_
  refine RGI.alloc_ open_wide rfl rfl rfl rfl inf_55 (fun gB w1 egB hx1 hb1 => ?_)
  refine RGI.done (CWI.then_ (S' := [(3, _), (0, _)]) ⟨rfl, rfl, trivial⟩ ?_)
  refine CWI.seq ?_
  refine CWI.seq ?_
  refine CWI.region ?_
  refine RGI.vl open_wide rfl rfl rfl (by intro c h; cases h) (Ev.move rfl rfl) ?_
  refine RGI.call (f := 43) (vs := [.string ⟨t.toArray⟩]) (cap := []) open_wide (callsIn_wide.2 (ups_ret t w1)) rfl rfl rfl rfl rfl rfl rfl en_43 (fun v w2 h => ?_)
  obtain ⟨⟨gx, rfl, hgx, hbx⟩, hx2⟩ := h
  refine RGI.done (CWI.then_ (S' := [(6, _), (3, _)]) ⟨rfl, rfl, trivial⟩ ?_)
  refine CWI.block ?_
  intro a hf
  have hgb : w.heap.size ≤ gB := Nat.le_of_eq egB.symm
  have hbd1 : isB w.heap.size gB [] w1 := Lib.IsBuilderF.of (bd_new (w0 := w) hb1 hgb)
  have hbd2 : isB w.heap.size gB [] w2 := isB_kept hbd1 (grown0 hx2) (fun r e => by cases e)
  have hx12 : Ex w w2 := Ex.tr hx1 hx2
  refine wpIn_rangeFunc_ownF rfl (by omega) (gf := 49) (lb := #[.pointer (some ⟨gx, 0, none⟩)]) (hf.1.eval (x := .tmp 6) rfl) trivial en_49 (ups_stops 5 w w2 gx gB t hx12 hbx ha hlen (isB_lt hbd2)) (fun h k => Kr.trans h k) (kr_put hx12.size) (Below.refl _ _) (fun _ => rfl)
    (fun pre W => isB w.heap.size gB (pre.flatMap rc) W ∧ Below w.heap.size w W) (fun _ _ _ => False)
    (fun s A B row hs hg hr => ⟨isB_kept hs.1 hg (fun r e => (hr r e).2), hs.2.grown hg hs.2.size (fun k e => Nat.le_trans hx12.size (hr k e).1)⟩)
    (fun _ _ _ _ _ h _ _ => h) ⟨hbd2, hx12⟩
    (fun c => ({ tmps := a.tmps.setIfInBounds 7 (.int .i32 (c.toNat : Int)), defers := [] } : Act).put (some 4) (.int .i32 (c.toNat : Int))) ?assign ?body ?done ?stop
  case assign =>
    intro l c W K hK
    exact assign1 (open_round l) rfl rfl rfl (by have := hf.1.sz; simp at this; omega) hK
  case body =>
    rintro l pre c W ⟨hI, hB⟩ hN
    have hfr : FrD [] 11 [(4, .int .i32 (c.toNat : Int)), (7, .int .i32 (c.toNat : Int)), (6, _), (3, .pointer (some ⟨gB, 0, none⟩))] (({ tmps := a.tmps.setIfInBounds 7 (.int .i32 (c.toNat : Int)), defers := [] } : Act).put (some 4) (.int .i32 (c.toNat : Int))) := ⟨(hf.1.put (d := 7) rfl).put rfl, rfl⟩
    have hc := c.toNat_lt
    have hrl := rcs_len pre
    refine CWI.block ?_ _ hfr
    refine CWI.region ?_
    refine RGI.vl (open_round l) rfl rfl rfl (by intro c h; cases h) (Ev.move rfl rfl) ?_
    refine RGI.call (f := 44) (vs := [.pointer (some ⟨gB, 0, none⟩), .int .i32 (c.toNat : Int)]) (cap := []) (Φ := fun v w' => (isB w.heap.size gB (pre.flatMap rc ++ rc c) w' ∧ Below w.heap.size W w' ∧ Lib.OthersKept (rho.t 5) (some gB) W w')) (open_round l) (CallsIn.inRound l (callsIn_wide.2 (Calls.mono (Any.Builder_WriteRune_k lays168 bX w.heap.size gB (pre.flatMap rc) (c.toNat : Int) (by omega) (by omega) W hI (by omega) hB.size) fun _ _ ⟨h1, h2, h3, h4⟩ => ⟨_, h1, .inr h2, h3, h4⟩))) rfl rfl rfl rfl rfl rfl rfl en_44 (fun v w' h => ?_)
    refine RGI.done (fun a2 _ => ?_)
    obtain ⟨h1, h2, h3⟩ := h
    exact ⟨others_keep hI h2 h3, others_kr h2 h3, by rw [List.flatMap_append, List.flatMap_singleton]; exact h1, hB.trans h2⟩
  case done =>
    rintro D xs W hD rfl ⟨hI, hB⟩ hK
    have hfr : FrD [{ target := .collected D, args := #[] }] 11 [(6, _), (3, .pointer (some ⟨gB, 0, none⟩))] { a with defers := { target := .collected D, args := #[] } :: a.defers } := ⟨hf.1, by rw [hf.2]⟩
    rw [rcs_lo (turnL_lo ha)] at hI
    show Code.wpIn _ _ _ _ _ _ _
    refine CWI.seq ?_ _ hfr
    refine CWI.region ?_
    refine RGI.call (f := 28) (vs := [.pointer (some ⟨gB, 0, none⟩)]) (cap := []) (Φ := fun v w' => v = .string ⟨(turnL t).toArray⟩ ∧ Below w.heap.size W w' ∧ Lib.OthersKept (rho.t 5) (some gB) W w') open_wide (callsIn_wide.2 (Calls.mono (Any.Builder_String_any_k lays169 bX w.heap.size gB (turnL t) W hI hB.size) fun _ _ ⟨h1, _, h3, h4⟩ => ⟨_, h1, rfl, h3, h4⟩)) rfl rfl rfl rfl rfl rfl rfl en_28 (fun v w' h => ?_)
    obtain ⟨rfl, h2, h3⟩ := h
    refine RGI.vl open_wide rfl rfl rfl (by intro c h; cases h) (Ev.assign rfl rfl) ?_
    refine RGI.done (CWI.then_ (S' := [(2, _)]) ⟨rfl, trivial⟩ ?_)
    have hK' := (others_keep hI h2 h3).same D _ hK rfl
    exact CWI.ret (retM rfl rfl hK' ⟨rfl, (hB.trans h2).trans (belowK_b (w := w2) hx12.size w' D _ _ hD hK' rfl rfl)⟩)
  case stop =>
    rintro D c pre W _ _ h _
    exact h.elim
end Go.Proofs.Ytgafkbnlhlbmkaa
