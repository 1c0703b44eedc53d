/- Texts put together by program: SJ, LP, SK, LR, SM, SN, UQ, UA, UB, SO, SP, LX, BU, UD, RE, RF, RG. -/
import Derived.OrdersIn
import Derived.ChangeKeysEq
import Derived.ProofKit
import Derived.OpenShut
import Derived.ShutString
import Derived.ChangeOld
import Derived.Below
import Derived.Deep.Slices
import Derived.Deep.Fields
import Derived.ChangeSame
import Derived.Test.YtgjnchjkjdnidaaGreatMBarcodeTells3
/- The places that are tried, in order; what the iterator's steps keep. -/
namespace Go.Proofs.YtgjnchjkjdnidaaGreat
open Go.RowKit
def singL (er : List Nat) (a : Nat) : List (List Nat) := ((List.range a).filter fun i => decide (i ∉ er)).map fun i => er ++ [i]
def rowP (n a : Nat) : List (List Nat) := ((List.range n).drop (a + 1)).map fun j => [a, j]
def pairT (a b : Nat) (n : Nat) : List (List Nat) := (List.range a).flatMap (rowP n) ++ rowP b a
def candL (n : Nat) (er : List Nat) : List (List Nat) := [er] ++ (if er.length ≤ 2 then singL er n else []) ++ (if er.length = 0 then (List.range n).flatMap (rowP n) else [])
theorem rng (a : Nat) : ∀ m, ∃ t, List.range (a + m) = List.range a ++ t
  | 0 => ⟨[], by simp⟩
  | m + 1 => by
    obtain ⟨t, h⟩ := rng a m
    exact ⟨t ++ [a + m], by rw [← Nat.add_assoc, List.range_succ, h, List.append_assoc]⟩
theorem rng_le {a n : Nat} (h : a ≤ n) : ∃ t, List.range n = List.range a ++ t := by
  obtain ⟨t, ht⟩ := rng a (n - a)
  exact ⟨t, by rw [← ht, Nat.add_sub_cancel' h]⟩
theorem sing_yes {er : List Nat} {a : Nat} (h : a ∉ er) : singL er (a + 1) = singL er a ++ [er ++ [a]] := by unfold singL; rw [List.range_succ, List.filter_append, List.map_append]; simp [h]
theorem sing_no {er : List Nat} {a : Nat} (h : a ∈ er) : singL er (a + 1) = singL er a := by unfold singL; rw [List.range_succ, List.filter_append, List.map_append]; simp [h]
theorem sing_pre (er : List Nat) {a n : Nat} (h : a ≤ n) : singL er a <+: singL er n := by
  obtain ⟨t, ht⟩ := rng_le h
  refine ⟨(t.filter fun i => decide (i ∉ er)).map fun i => er ++ [i], ?_⟩
  unfold singL
  rw [ht, List.filter_append, List.map_append]
theorem row_more {a b : Nat} (h : a < b) : rowP (b + 1) a = rowP b a ++ [[a, b]] := by
  unfold rowP
  rw [List.range_succ, List.drop_append_of_le_length (by rw [List.length_range]; omega), List.map_append]; rfl
theorem row_nil {a b : Nat} (h : b ≤ a + 1) : rowP b a = [] := by unfold rowP; rw [List.drop_eq_nil_of_le (by rw [List.length_range]; exact h)]; rfl
theorem row_pre {a b n : Nat} (h : b ≤ n) : rowP b a <+: rowP n a := by
  obtain ⟨t, ht⟩ := rng_le h
  rcases Nat.lt_or_ge (a + 1) b with h2 | h2
  · refine ⟨t.map fun j => [a, j], ?_⟩
    unfold rowP
    rw [ht, List.drop_append_of_le_length (by rw [List.length_range]; omega), List.map_append]
  · rw [row_nil h2]; exact List.nil_prefix
theorem pair_more {a b n : Nat} (h : a < b) : pairT a (b + 1) n = pairT a b n ++ [[a, b]] := by unfold pairT; rw [row_more h, List.append_assoc]
theorem pair_start (a n : Nat) : pairT a (a + 1) n = (List.range a).flatMap (rowP n) := by unfold pairT; rw [row_nil (Nat.le_refl _), List.append_nil]
theorem pair_end (a n : Nat) : pairT a n n = (List.range (a + 1)).flatMap (rowP n) := by unfold pairT; rw [List.range_succ, List.flatMap_append]; simp
theorem cand_a (n : Nat) (er : List Nat) : [er] <+: candL n er := ⟨_, by unfold candL; rw [List.append_assoc]⟩
theorem cand_b {n a : Nat} {er : List Nat} (h2 : er.length ≤ 2) (ha : a < n) (hn : a ∉ er) : [er] ++ singL er a ++ [er ++ [a]] <+: candL n er := by
  unfold candL
  rw [if_pos h2, List.append_assoc, ← sing_yes hn, List.append_assoc]
  exact (List.prefix_append_right_inj _).2 (List.IsPrefix.trans (sing_pre er (show a + 1 ≤ n by omega)) (List.prefix_append _ _))
theorem cand_c {n a b : Nat} {er : List Nat} (h0 : er.length = 0) (hab : a < b) (hb : b < n) : [er] ++ singL er n ++ pairT a b n ++ [[a, b]] <+: candL n er := by
  unfold candL
  rw [if_pos (by omega), if_pos h0, List.append_assoc, ← pair_more hab]
  refine (List.prefix_append_right_inj _).2 ?_
  obtain ⟨t, ht⟩ := rng_le (show a + 1 ≤ n by omega)
  rw [ht, List.range_succ, List.flatMap_append, List.flatMap_append]
  unfold pairT
  rw [List.append_assoc]
  refine (List.prefix_append_right_inj _).2 ?_
  simp only [List.flatMap_cons, List.flatMap_nil, List.append_nil]
  exact List.IsPrefix.trans (row_pre (show b + 1 ≤ n by omega)) (List.prefix_append _ _)
theorem cand_3 {n : Nat} {er : List Nat} (h : 3 ≤ er.length) : candL n er = [er] := by unfold candL; rw [if_neg (by omega), if_neg (by omega)]; rfl
theorem cand_1 {n : Nat} {er : List Nat} (h : er.length ≤ 2) (h1 : er.length ≠ 0) : candL n er = [er] ++ singL er n := by unfold candL; rw [if_pos h, if_neg h1, List.append_nil]
theorem cand_0 {n : Nat} {er : List Nat} (h : er.length = 0) : candL n er = [er] ++ singL er n ++ (List.range n).flatMap (rowP n) := by unfold candL; rw [if_pos (by omega), if_pos h]
/-! memory -/
abbrev El2 := Value × List Nat
structure JAt (J : List El2 → World → Prop) (B : Nat) (pre : List El2) (W : World) : Prop where
  calm : Calm B J
  val : J pre W
  size : B ≤ W.heap.size
theorem JAt.ext {J : List El2 → World → Prop} {B : Nat} {pre : List El2} {W W' : World} (h : JAt J B pre W) (hx : Ex W W') : JAt J B pre W' :=
  ⟨h.calm, h.calm _ _ _ none h.val ⟨hx.os, hx.tape, hx.output, hx.size, fun k hk _ => hx.block k hk⟩ (fun r e => by cases e), Nat.le_trans h.size hx.size⟩
theorem JAt.own {J : List El2 → World → Prop} {B B' : Nat} {pre : List El2} {W W' : World} {e sz n : Nat} {v : Value} {us : List Value} (h : JAt J B pre W) (ho : W.ownsRow B' e sz v n us) (hB : B ≤ B') (hg : W.grownBy W' v.ownBlock) : JAt J B pre W' :=
  ⟨h.calm, h.calm _ _ _ _ h.val hg (fun r er => by have := (World.ownsRow.lt ho r er).1; omega), Nat.le_trans h.size hg.size⟩
theorem Own.kc {α : Type} {A A' : World} {n0 B sz : Nat} {e : TypeId} {enc : α → List Value} {v : Value} {xs : List α} (h : Own A B e sz enc v xs) (k : Kc n0 A A') : Own A' B e sz enc v xs := by
  refine ⟨h.1, ?_⟩
  rcases h.2 with h0 | ⟨g, cap, cur, h1, h2, h3, h4⟩
  · exact .inl h0
  · exact .inr ⟨g, cap, cur, h1, h2, k.2 _ _ _ _ h3, h4⟩
/-- append of one number: the list that was appended to stays as it was. -/
theorem RG.appKeep {P : Program} {ops : Array Oper} {Q : Exit → Act → World → Prop} {n : Nat} {l : List Oper} {S : Slots} {w : World} {o : Oper} {d : Nat} {T e by_ B : Nat} {z v u : Value} {x y : Operand} {c : Call} {xs : List Nat} {a : Nat} (hw : wantS ops S o = some true) (hd : o.dst = some d) (hdn : Nat.blt d n = true) (ho : o.op = .call c) (hc : c = { callee := .builtin .append, args := #[x, y], argTypes := #[T, T] })
    (hx : ev S x = some v) (hy : ev S y = some u) (ht : P.underlying T = some (.slice e)) (hi : (P.info? e).map (fun i => (i.zero, i.size, i.bytes)) = some (some z, 1, by_)) (hz : z.cells.size = 1)
    (hown : Own w B e 1 encZ v xs) (hr : RdL w 1 encZ u [a]) (hlen : xs.length ≤ 1000) (hby : by_ ≤ 1000) (hB : B ≤ w.heap.size)
    (kk : ∀ v' w', RdL w' 1 encZ v' (xs ++ [a]) → Own w' B e 1 encZ v xs → w.grownBy w' v.ownBlock → RG P ops Q n l ((d, v') :: S) w') : RG P ops Q n (o :: l) S w := by
  have hml : xs.length + [a].length ≤ maxLen := by simp only [maxLen, List.length_singleton]; omega
  have hbb : (xs.length + [a].length) * by_ ≤ 140737488355328 := by
    have := Nat.mul_le_mul (show xs.length + [a].length ≤ 1001 by simp only [List.length_singleton]; omega) hby
    omega
  rcases hown.2 with ⟨rfl, hx0⟩ | ⟨g, cap, cur, rfl, hbg, hg, hnc, hcm, hcs, htake⟩
  · refine RG.appO hw hd hdn ho hc hx hy ht hi hz rfl encZ_len (fun _ => rfl) hown hr hml hbb hB fun v' w' h2 h3 _ => kk v' w' (h2.rdl encZ_len) ?_ h3
    have : xs = [] := List.eq_nil_of_length_eq_zero hx0
    subst this
    exact Own.nil_ _ _ _ _ _
  · by_cases hroom : xs.length + 1 ≤ cap
    · obtain ⟨A, cp, rfl, hA⟩ := hr.flat encZ_len
      obtain ⟨ad, rfl, hca⟩ := hA (by simp)
      obtain ⟨i, hii, hz0, hz1, hz2⟩ := info_parts hi
      have hrun := run_append_room (P := P) w T o.type e i ht hii g xs.length cap cur hg ad 1 cp [.int .i64 (a : Int)] (by rw [hz1]; rfl) hca (fun u hu => by simp at hu; subst hu; rfl) hroom (by rw [hz1, hcs]; simp; omega)
      obtain ⟨cur', hcur'⟩ : ∃ c : Array Value, c = (cur.toList.take (xs.length * i.size) ++ [Value.int .i64 (a : Int)] ++ cur.toList.drop (xs.length * i.size + [Value.int .i64 (a : Int)].length)).toArray := ⟨_, rfl⟩
      rw [← hcur'] at hrun
      have hl1 := length_flatMap_enc encZ_len xs
      rw [hz1, Nat.mul_one] at hcur'
      rw [Nat.mul_one] at htake hcs hl1
      have hsz : cur'.size = cap := by rw [hcur']; simp; omega
      have ht1 : cur'.toList.take xs.length = xs.flatMap encZ := by
        rw [hcur', htake, List.append_assoc, List.toList_toArray, List.take_append_of_le_length (by omega), ← hl1, List.take_length]
      have ht2 : cur'.toList.take (xs.length + 1) = (xs ++ [a]).flatMap encZ := by
        rw [hcur', htake, List.toList_toArray, List.flatMap_append, List.take_append_of_le_length (by rw [List.length_append, hl1]; exact Nat.le_refl _), List.take_of_length_le (by rw [List.length_append, hl1]; exact Nat.le_refl _)]; rfl
      have hg' := setRow_heap w g cur cur' e _ hg
      have hwr := wr_setRow w g cur'
      have o1 : Own (w.setRow g cur') B e 1 encZ (.slice (some ⟨g, 0, none⟩) (xs.length + 1) cap) (xs ++ [a]) := by
        refine ⟨by rw [length_flatMap_enc encZ_len], .inr ⟨g, cap, cur', ?_, hbg, hg', by simpa using hroom, hcm, by rw [hsz, Nat.mul_one], by rw [Nat.mul_one, List.length_append]; exact ht2⟩⟩
        rw [List.length_append]; rfl
      have o2 : Own (w.setRow g cur') B e 1 encZ (.slice (some ⟨g, 0, none⟩) xs.length cap) xs := ⟨hown.1, .inr ⟨g, cap, cur', rfl, hbg, hg', hnc, hcm, by rw [hsz, Nat.mul_one], by rw [Nat.mul_one]; exact ht1⟩⟩
      refine RG.run (v := .slice (some ⟨g, 0, none⟩) (xs.length + 1) cap) (w' := w.setRow g cur') hw hd hdn (fun a ha => ?_) (kk _ _ (o1.rdl encZ_len) o2 hwr.grownBy)
      simp only [execOp, ho, hc]
      simp [resolve, invoke, builtin, ha.eval hx, ha.eval hy, hrun]
    · obtain rfl : cap = xs.length := by omega
      refine RG.appF (enc := encZ) (olds := xs.flatMap encZ) (us := [a]) hw hd hdn ho hc hx hy ht hi hz encZ_len hown.1 (World.ownsRow.cells hown rfl) hr (by simp) hml hbb fun v' w' hx2 h2 => kk v' w' (RdL.of_own (B := w.heap.size) (e := e) encZ_len (by rw [List.length_append, List.flatMap_append]; exact h2)) (hown.ext hx2) ⟨hx2.os, hx2.tape, hx2.output, hx2.size, fun k hk _ => hx2.block k hk⟩
end Go.Proofs.YtgjnchjkjdnidaaGreat

/- A region in which yield is called: what stands ahead of it and behind it is walked as elsewhere. -/
namespace Go.Proofs.YtgjnchjkjdnidaaGreat
open Go.RowKit
theorem oper_wide {k : Nat} {P : Program} {o : Oper} {a : Act} {w : World} {next next' : Act → World → Prop} {Q Q' : Exit → Act → World → Prop} (hn : ∀ a w, next a w → next' a w) (hq : ∀ ch a w, Q (.panic ch) a w → Q' (.panic ch) a w) (hl : LetsOut Q → LetsOut Q') (h : o.wp P a w next Q) : o.wpIn Fence.wide k P a w next' Q' := by
  refine ⟨fun f _ => trivial, ?_⟩
  show o.uponIn _ k P a _ Q' ((Oper.semAt none a.eval o).run P w)
  rw [Oper.semAt_none]
  unfold Oper.wp at h
  generalize (execOp a.eval o).run P w = r at h ⊢
  unfold Oper.upon at h
  split at h
  · exact hn _ _ h
  · exact hn _ _ h
  · exact hn _ _ h
  · refine ⟨(fun h => by cases h), callsIn_wide.2 (Calls.mono h ?_)⟩
    intro e w2 h2
    cases e with
    | returned v => exact hn _ _ h2
    | panicked ch => exact hq _ _ _ h2
    | outgrown => exact hl h2
  · refine ⟨(fun h => by cases h), fun c cs _ => ?_⟩
    obtain ⟨v, w2, r, s⟩ := h c cs
    exact ⟨v, w2, hn _ _ r, stepsIn_wide.2 s⟩
  · exact hq _ _ _ h
  · exact h.elim
theorem listIn_wide {k : Nat} {P : Program} {ops : Array Oper} {Q : Exit → Act → World → Prop} (hQ : ∀ a w, Q .outgrown a w → False) : ∀ (os : List Oper) (a : Act) (w : World), wpList P ops Q os a w → wpListIn Fence.wide k P ops Q os a w := by
  intro os
  induction os with
  | nil => exact fun a w h => h
  | cons o os ih =>
    intro a w h
    unfold wpList at h
    unfold wpListIn
    split at h
    · rename_i hw
      rw [if_pos hw]
      rcases h with h | ⟨_, a', w', h⟩
      · exact oper_wide ih (fun _ _ _ h => h) (fun h => h) h
      · exact (hQ a' w' h).elim
    · rename_i hw
      rw [if_neg hw]
      exact ⟨fun f _ => trivial, ih _ _ h⟩
theorem pre_wide {k : Nat} {P : Program} {ops : Array Oper} {Q : Exit → Act → World → Prop} (hQ : ∀ a w, Q .outgrown a w → False) : ∀ (i : Nat) (os : List Oper) (a : Act) (w : World),
    wpList P ops (Exit.then (fun a w => wpListIn Fence.wide k P ops Q (os.drop i) a w) Q) (os.take i) a w → wpListIn Fence.wide k P ops Q os a w := by
  intro i
  induction i with
  | zero => exact fun os a w h => h
  | succ i ih =>
    intro os a w h
    cases os with
    | nil => exact h
    | cons o os =>
      change wpList P ops _ (o :: os.take i) a w at h
      unfold wpList at h
      unfold wpListIn
      split at h
      · rename_i hw
        rw [if_pos hw]
        rcases h with h | ⟨_, a', w', h⟩
        · exact oper_wide (ih os) (fun _ _ _ h => h) (fun ⟨a, w, h⟩ => ⟨a, w, h⟩) h
        · exact (hQ a' w' h).elim
      · rename_i hw
        rw [if_neg hw]
        exact ⟨fun f _ => trivial, ih os _ _ h⟩
section
variable {k n : Nat} {P : Program} {ops : Array Oper} {Q : Exit → Act → World → Prop} {l : List Oper} {S : Slots} {w : World}
theorem RGI.ofRG (hQ : ∀ a w, Q .outgrown a w → False) (h : RG P ops Q n l S w) : RGI Fence.wide k P ops Q [] n l S w := fun a ha => listIn_wide hQ l a w (h a ha.fr)
theorem RGI.ahead (i : Nat) (hQ : ∀ a w, Q .outgrown a w → False) (h : RG P ops (Exit.then (fun a w => wpListIn Fence.wide k P ops Q (l.drop i) a w) Q) n (l.take i) S w) : RGI Fence.wide k P ops Q [] n l S w := fun a ha => pre_wide hQ i l a w (h a ha.fr)
theorem RGI.rest (h : RGI Fence.wide k P ops Q [] n l S w) : QW (Exit.then (fun a w => wpListIn Fence.wide k P ops Q l a w) Q) .normal n S w := fun a ha => h a ⟨⟨rfl, ha.sz, ha.get⟩, ha.df⟩
end
end Go.Proofs.YtgjnchjkjdnidaaGreat

/- Walks (SK). Written by program. -/
namespace Go.Proofs.YtgjnchjkjdnidaaGreat
open Go.RowKit
set_option maxRecDepth 100000 in
set_option maxHeartbeats 2000000 in
theorem iter_ret (kf : Nat) (w0 : World) (lp gE gN gG n : Nat) (A : Option Addr) (c : Nat) (er : List Nat) (J Jx : List El2 → World → Prop) (w : World) (hx0 : Ex w0 w) (hE : Blk w0 gE 29 [.slice A er.length c]) (hN : Blk w0 gN 3 [.int .i64 (n : Int)]) (hG : Blk w0 gG 127 (goneC er)) (hl : RdL w0 1 encZ (.slice A er.length c) er) (her : er.length ≤ 4) (hn : n ≤ 63) (hcalm : Calm w.heap.size J) (hY : ∀ pre x A, J pre A → (RdL A 1 encZ x.1 x.2 ∧ (pre ++ [x]).map Prod.snd <+: candL n er) → YieldAt Fence.wide (kf - 1) Tryz.prog lp #[x.1] A fun e B => (e = .returned (.bool true) ∧ J (pre ++ [x]) B ∧ Kc w0.heap.size A B) ∨ (e = .returned (.bool false) ∧ Jx (pre ++ [x]) B)) (h0 : J [] w) :
    Ret Tryz.prog 110 [.func (.yield lp) #[] #[], .pointer (some ⟨gE, 0, none⟩), .pointer (some ⟨gN, 0, none⟩), .pointer (some ⟨gG, 0, none⟩)] w (fun _ w' => (∃ xs : List El2, xs.map Prod.snd = candL n er ∧ J xs w') ∨ ∃ pre, Jx pre w') := by
  have hx00 := hx0
  have hJ0 : JAt J w.heap.size [] w := ⟨hcalm, h0, Nat.le_refl _⟩
  have hB0 : Ex w w := Ex.rfl_ _
  refine Ret.of Tryz.func110 rfl Tryz.ntmps110 rfl ?_
  refine CW.seq ?_
  refine CW.region ?_
  refine RG.vl rfl rfl rfl (Ev.ld0 rfl rfl Tryz.underlying29 rfl ((hE.ext hx00).cells) (rfl)) ?_
  refine RG.vl rfl rfl rfl (Ev.lenL rfl rfl rfl Tryz.underlying29 ((hl.ext hx00))) ?_
  refine RG.vl rfl rfl rfl (Ev.subI rfl rfl rfl (by omega)) ?_
  refine RG.vl rfl rfl rfl (Ev.quoI rfl rfl rfl (by omega)) ?_
  refine RG.vl rfl rfl rfl (Ev.assign rfl rfl) ?_
  refine RG.done ?_
  refine QW.then_ ?_
  refine CW.seq ?_
  refine CW.region ?_
  refine RG.vl rfl rfl rfl (Ev.ld0 rfl rfl Tryz.underlying29 rfl ((hE.ext hx00).cells) (rfl)) ?_
  refine RG.call rfl rfl rfl rfl rfl rfl rfl en_111 (cloneI_ret _ er _ ((hl.ext hx00)) (by omega)) ?_
  have hpre1 := hB0
  rintro vp w1 ⟨hpl, hx1⟩
  have hE2 := hx1
  replace hx00 := Ex.tr hx00 hx1
  refine RG.vl rfl rfl rfl (Ev.assign rfl rfl) ?_
  refine RG.done ?_
  refine QW.then_ ?_
  refine CW.seq ?_
  refine CW.seq ?_
  refine CW.fenced kf ?_
  refine CWI.region ?_
  refine RGI.ahead 2 (fun _ _ h => by obtain ⟨_, e, _⟩ := h; cases e) ?_
  refine RG.vl rfl rfl rfl (Ev.move rfl rfl) ?_
  refine RG.vl rfl rfl rfl (Ev.move rfl rfl) ?_
  refine RG.done ?_
  refine RGI.rest ?_
  have hJy3 := (hJ0.ext hE2)
  have hrxy3 := (hpl.rdl encZ_len)
  have hpfy3 : ([] ++ [((vp, er) : El2)]).map Prod.snd <+: candL n er := by
    exact cand_a n er
  refine RGI.yield_ (vs := [vp]) open_wide (hY [] (vp, er) _ hJy3.val ⟨hrxy3, hpfy3⟩) rfl rfl rfl rfl rfl rfl rfl (fun e w' h => by rcases h with ⟨rfl, _⟩ | ⟨rfl, _⟩ <;> exact ⟨_, rfl⟩) (fun q wyy3 hq => ?_)
  cases q
  · rcases hq with ⟨h, _⟩ | ⟨_, hJx1⟩
    · simp at h
    refine RGI.ofRG (fun _ _ h => by obtain ⟨_, e, _⟩ := h; cases e) ?_
    refine RG.vl rfl rfl rfl (Ev.notT rfl rfl) ?_
    refine RG.vl rfl rfl rfl (Ev.move rfl rfl) ?_
    refine RG.pass rfl rfl rfl ?_
    refine RG.pass rfl rfl rfl ?_
    refine RG.vl rfl rfl rfl (Ev.pickT rfl rfl rfl) ?_
    refine RG.done ?_
    refine QW.sub (S' := [(0, _), (2, _), (3, _), (5, _), (6, _), (23, _)]) ⟨rfl, rfl, rfl, rfl, rfl, rfl, trivial⟩ ?_
    refine QW.then_ ?_
    refine CW.condT rfl ?_
    refine CW.ret ?_
    refine QW.thenRet ?_
    refine QW.ret0 rfl ?_
    exact .inr ⟨_, hJx1⟩
  · rcases hq with ⟨_, hJ1, hK⟩ | ⟨h, _⟩
    rotate_left
    · simp at h
    have hxyy3 := Below.trans (Ex.tr hx0 hE2) hK.1
    have hJ2 : JAt J w.heap.size _ _ := ⟨hJy3.calm, hJ1, Nat.le_trans hJy3.size hK.1.size⟩
    have hpl2 := Own.kc hpl hK
    refine RGI.ofRG (fun _ _ h => by obtain ⟨_, e, _⟩ := h; cases e) ?_
    refine RG.vl rfl rfl rfl (Ev.notF rfl rfl) ?_
    refine RG.vl rfl rfl rfl (Ev.move rfl rfl) ?_
    refine RG.vl rfl rfl rfl (Ev.move rfl rfl) ?_
    refine RG.vl rfl rfl rfl (Ev.eqI rfl rfl rfl) ?_
    refine RG.vl rfl rfl rfl (Ev.pickF rfl rfl rfl) ?_
    refine RG.done ?_
    refine QW.sub (S' := [(0, _), (2, _), (3, _), (5, _), (6, _), (23, _)]) ⟨rfl, rfl, rfl, rfl, rfl, rfl, trivial⟩ ?_
    refine QW.then_ ?_
    refine CW.condP rfl (fun hc4 => ?_) (fun hc4 => ?_)
    · refine CW.ret ?_
      refine QW.thenRet ?_
      refine QW.ret0 rfl ?_
      exact .inl ⟨_, by rw [cand_3 (by omega)]; rfl, (hJ2).val⟩
    · refine CW.skip ?_
      refine QW.then_ ?_
      refine CW.seq ?_
      refine CW.seq ?_
      refine CW.region ?_
      refine RG.vl rfl rfl rfl (Ev.ld0 rfl rfl Tryz.underlying3 rfl ((hN.ext hxyy3).cells) (rfl)) ?_
      refine RG.vl rfl rfl rfl (Ev.move rfl rfl) ?_
      refine RG.done ?_
      refine QW.then_ ?_
      refine CW.block ?_
      refine CW.loop2 [(0, _), (2, _), (3, _), (5, _), (6, _), (24, _)] ⟨rfl, rfl, rfl, rfl, rfl, rfl, trivial⟩ (fun (a : Nat) (pre : List El2) => [(25, .int .i64 (a : Int))]) (fun a pre w' => (a ≤ n ∧ pre.map Prod.snd = [er] ++ singL er a ∧ JAt J w.heap.size pre w' ∧ Own w' w.heap.size 3 1 encZ vp er) ∧ Ex w0 w') (fun a pre => n - a) (0) (([] ++ [((vp, er) : El2)])) ⟨rfl, trivial⟩ ⟨⟨Nat.zero_le _, rfl, hJ2, hpl2⟩, hxyy3⟩ ?_
      rintro a pre wl5 ⟨⟨ha, hpre, hJ, hpl⟩, hxwl5⟩
      refine CW.sub (S' := [(25, _), (0, _), (2, _), (3, _), (5, _), (6, _), (24, _)]) ⟨rfl, rfl, rfl, rfl, rfl, rfl, rfl, trivial⟩ ?_
      
      refine CW.seq ?_
      refine CW.region ?_
      refine RG.vl rfl rfl rfl (Ev.lss rfl rfl rfl) ?_
      refine RG.done ?_
      refine QW.then_ ?_
      refine CW.seq ?_
      refine CW.condP rfl (fun hc6 => ?_) (fun hc6 => ?_)
      · refine CW.skip ?_
        refine QW.then_ ?_
        refine CW.seq ?_
        refine CW.block ?_
        refine CW.seq ?_
        refine CW.region ?_
        refine RG.vl rfl rfl rfl (Ev.move rfl rfl) ?_
        refine RG.vl rfl rfl rfl (Ev.assign rfl rfl) ?_
        refine RG.done ?_
        refine QW.then_ ?_
        refine CW.seq ?_
        refine CW.fenced kf ?_
        refine CWI.region ?_
        refine RGI.ahead 10 (fun _ _ h => by obtain ⟨_, e, _⟩ := h; cases e) ?_
        refine RG.vl rfl rfl rfl (Ev.move rfl rfl) ?_
        refine RG.vl rfl rfl rfl (Ev.idxA rfl rfl rfl Tryz.underlying127 sz_4 (by omega)) ?_
        refine RG.vl rfl rfl rfl (Ev.ldAt rfl rfl Tryz.underlying4 rfl ((hG.ext hxwl5).cells) ((show (goneC er)[a * 1]? = some (.bool (decide (a ∈ er))) by rw [Nat.mul_one]; exact goneC_at er (by omega)))) ?_
        refine RG.vl rfl rfl rfl (Ev.notP rfl rfl) ?_
        refine RG.vl rfl rfl rfl (Ev.move rfl rfl) ?_
        refine RG.split (d := 32) rfl (fun hg7 => ?_) (fun hg7 => ?_)
        · refine RG.vl rfl rfl rfl (Ev.move rfl rfl) ?_
          refine RG.vl rfl rfl rfl (Ev.move rfl rfl) ?_
          refine RG.vl rfl rfl rfl (Ev.move rfl rfl) ?_
          refine RG.litO (os := [.tmp 35]) (enc := encZ) ([a]) rfl rfl rfl rfl rfl rfl rfl Tryz.underlying29 inf_3 rfl rfl rfl rfl rfl encZ_len rfl rfl (fun v8 wk9 hxwk9 hown10 hnew11 => ?_)
          replace hxwl5 := Ex.tr hxwl5 hxwk9
          have hE12 := hxwk9
          have hJa13 := (hJ.ext hE12)
          have hoa13 := (Own.ext hpl hE12)
          have hxa13 := hxwl5
          refine RG.appKeep rfl rfl rfl rfl rfl rfl rfl Tryz.underlying29 inf_3 rfl hoa13 (hown10.rdl encZ_len) (by omega) (by decide) hJa13.size (fun vaa13 waa13 hraa13 hpaa13 hgaa13 => ?_)
          have hxba13 := own_block hoa13 hxa13 hgaa13 hx0.size hJa13.size
          have hJba13 := hJa13.own hoa13 (Nat.le_refl _) hgaa13
          refine RG.done ?_
          refine RGI.rest ?_
          have hJy14 := hJba13
          have hrxy14 := hraa13
          have hpfy14 : (pre ++ [((vaa13, (er ++ [a])) : El2)]).map Prod.snd <+: candL n er := by
            rw [List.map_append, hpre]; exact cand_b (by omega) (by omega) (by assumption)
          refine RGI.yield_ (vs := [vaa13]) open_wide (hY pre (vaa13, (er ++ [a])) _ hJy14.val ⟨hrxy14, hpfy14⟩) rfl rfl rfl rfl rfl rfl rfl (fun e w' h => by rcases h with ⟨rfl, _⟩ | ⟨rfl, _⟩ <;> exact ⟨_, rfl⟩) (fun q wyy14 hq => ?_)
          cases q
          · rcases hq with ⟨h, _⟩ | ⟨_, hJx1⟩
            · simp at h
            refine RGI.ofRG (fun _ _ h => by obtain ⟨_, e, _⟩ := h; cases e) ?_
            refine RG.vl rfl rfl rfl (Ev.notT rfl rfl) ?_
            refine RG.vl rfl rfl rfl (Ev.pickT rfl rfl rfl) ?_
            refine RG.done ?_
            refine QW.sub (S' := [(0, _), (2, _), (3, _), (5, _), (6, _), (24, _), (25, _), (40, _)]) ⟨rfl, rfl, rfl, rfl, rfl, rfl, rfl, rfl, trivial⟩ ?_
            refine QW.then_ ?_
            refine CW.condT rfl ?_
            refine CW.ret ?_
            refine QW.blockR ?_
            refine QW.thenRet ?_
            refine QW.thenRet ?_
            refine QW.blockR ?_
            refine QW.thenRet ?_
            refine QW.ret0 rfl ?_
            exact .inr ⟨_, hJx1⟩
          · rcases hq with ⟨_, hJ1, hK⟩ | ⟨h, _⟩
            rotate_left
            · simp at h
            have hxyy14 := Below.trans hxba13 hK.1
            have hJ2 : JAt J w.heap.size _ _ := ⟨hJy14.calm, hJ1, Nat.le_trans hJy14.size hK.1.size⟩
            have hpl2 := Own.kc hpaa13 hK
            refine RGI.ofRG (fun _ _ h => by obtain ⟨_, e, _⟩ := h; cases e) ?_
            refine RG.vl rfl rfl rfl (Ev.notF rfl rfl) ?_
            refine RG.vl rfl rfl rfl (Ev.pickT rfl rfl rfl) ?_
            refine RG.done ?_
            refine QW.sub (S' := [(0, _), (2, _), (3, _), (5, _), (6, _), (24, _), (25, _), (40, _)]) ⟨rfl, rfl, rfl, rfl, rfl, rfl, rfl, rfl, trivial⟩ ?_
            refine QW.then_ ?_
            refine CW.condF rfl ?_
            refine CW.skip ?_
            refine QW.blockN ?_
            refine QW.then_ ?_
            refine CW.region ?_
            refine RG.vl rfl rfl rfl (Ev.addI rfl rfl rfl (by omega)) ?_
            refine RG.vl rfl rfl rfl (Ev.move rfl rfl) ?_
            refine RG.done ?_
            refine QW.round2 (a + 1) ((pre ++ [((vaa13, (er ++ [a])) : El2)])) ⟨rfl, trivial⟩ ⟨rfl, rfl, rfl, rfl, rfl, rfl, trivial⟩ ⟨⟨by omega, by rw [List.map_append, hpre, sing_yes (by assumption), ← List.append_assoc, List.map_singleton], hJ2, hpl2⟩, hxyy14⟩ (by omega)
        · refine RG.pass rfl rfl rfl ?_
          refine RG.pass rfl rfl rfl ?_
          refine RG.pass rfl rfl rfl ?_
          refine RG.pass rfl rfl rfl ?_
          refine RG.pass rfl rfl rfl ?_
          refine RG.done ?_
          refine RGI.rest ?_
          refine RGI.ofRG (fun _ _ h => by obtain ⟨_, e, _⟩ := h; cases e) ?_
          refine RG.pass rfl rfl rfl ?_
          refine RG.pass rfl rfl rfl ?_
          refine RG.vl rfl rfl rfl (Ev.pickF rfl rfl rfl) ?_
          refine RG.done ?_
          refine QW.sub (S' := [(0, _), (2, _), (3, _), (5, _), (6, _), (24, _), (25, _), (40, _)]) ⟨rfl, rfl, rfl, rfl, rfl, rfl, rfl, rfl, trivial⟩ ?_
          refine QW.then_ ?_
          refine CW.condF rfl ?_
          refine CW.skip ?_
          refine QW.blockN ?_
          refine QW.then_ ?_
          refine CW.region ?_
          refine RG.vl rfl rfl rfl (Ev.addI rfl rfl rfl (by omega)) ?_
          refine RG.vl rfl rfl rfl (Ev.move rfl rfl) ?_
          refine RG.done ?_
          refine QW.round2 (a + 1) (pre) ⟨rfl, trivial⟩ ⟨rfl, rfl, rfl, rfl, rfl, rfl, trivial⟩ ⟨⟨by omega, by rw [hpre, sing_no (Decidable.not_not.1 (by assumption))], hJ, hpl⟩, hxwl5⟩ (by omega)
      · refine CW.exit ?_
        refine QW.thenExit ?_
        refine QW.thenExit ?_
        refine QW.blockHit ?_
        refine QW.then_ ?_
        refine CW.seq ?_
        refine CW.seq ?_
        refine CW.region ?_
        refine RG.vl rfl rfl rfl (Ev.move rfl rfl) ?_
        refine RG.vl rfl rfl rfl (Ev.eqI rfl rfl rfl) ?_
        refine RG.done ?_
        refine QW.then_ ?_
        refine CW.condP rfl (fun hc15 => ?_) (fun hc15 => ?_)
        · refine CW.ret ?_
          refine QW.thenRet ?_
          refine QW.ret0 rfl ?_
          obtain rfl : a = n := by omega
          exact .inl ⟨_, by rw [cand_1 (by omega) (by omega)]; exact hpre, (hJ).val⟩
        · refine CW.skip ?_
          refine QW.then_ ?_
          refine CW.seq ?_
          refine CW.region ?_
          refine RG.vl rfl rfl rfl (Ev.ld0 rfl rfl Tryz.underlying3 rfl ((hN.ext hxwl5).cells) (rfl)) ?_
          refine RG.vl rfl rfl rfl (Ev.move rfl rfl) ?_
          refine RG.done ?_
          refine QW.then_ ?_
          refine CW.block ?_
          refine CW.loop2 [(0, _), (2, _), (44, _)] ⟨rfl, rfl, rfl, trivial⟩ (fun (a : Nat) (pre : List El2) => [(45, .int .i64 (a : Int))]) (fun a pre w' => (a ≤ n ∧ pre.map Prod.snd = [er] ++ singL er n ++ (List.range a).flatMap (rowP n) ∧ JAt J w.heap.size pre w') ∧ Ex w0 w') (fun a pre => n - a) (0) (pre) ⟨rfl, trivial⟩ ⟨⟨Nat.zero_le _, by obtain rfl : a = n := (by omega); rw [hpre]; exact (List.append_nil _).symm, hJ⟩, hxwl5⟩ ?_
          rintro a pre wl16 ⟨⟨ha, hpre, hJ⟩, hxwl16⟩
          refine CW.sub (S' := [(45, _), (0, _), (2, _), (44, _)]) ⟨rfl, rfl, rfl, rfl, trivial⟩ ?_
          
          refine CW.seq ?_
          refine CW.region ?_
          refine RG.vl rfl rfl rfl (Ev.lss rfl rfl rfl) ?_
          refine RG.done ?_
          refine QW.then_ ?_
          refine CW.seq ?_
          refine CW.condP rfl (fun hc17 => ?_) (fun hc17 => ?_)
          · refine CW.skip ?_
            refine QW.then_ ?_
            refine CW.seq ?_
            refine CW.block ?_
            refine CW.seq ?_
            refine CW.region ?_
            refine RG.vl rfl rfl rfl (Ev.move rfl rfl) ?_
            refine RG.vl rfl rfl rfl (Ev.assign rfl rfl) ?_
            refine RG.done ?_
            refine QW.then_ ?_
            refine CW.seq ?_
            refine CW.region ?_
            refine RG.vl rfl rfl rfl (Ev.move rfl rfl) ?_
            refine RG.vl rfl rfl rfl (Ev.addI rfl rfl rfl (by omega)) ?_
            refine RG.vl rfl rfl rfl (Ev.assign rfl rfl) ?_
            refine RG.done ?_
            refine QW.then_ ?_
            refine CW.block ?_
            refine CW.loop2 [(0, _), (2, _), (8, _), (44, _), (45, _)] ⟨rfl, rfl, rfl, rfl, rfl, trivial⟩ (fun (b : Nat) (pre2 : List El2) => [(9, .int .i64 (b : Int))]) (fun b pre2 w' => (a + 1 ≤ b ∧ b ≤ n ∧ pre2.map Prod.snd = [er] ++ singL er n ++ pairT a b n ∧ JAt J w.heap.size pre2 w') ∧ Ex w0 w') (fun b pre2 => n - b) (a + 1) (pre) ⟨congrArg (fun x => some (Value.int .i64 x)) (by omega), trivial⟩ ⟨⟨by omega, by omega, by rw [pair_start]; exact hpre, hJ⟩, hxwl16⟩ ?_
            rintro b pre2 wl18 ⟨⟨hab, hb, hpre2, hJ⟩, hxwl18⟩
            refine CW.sub (S' := [(9, _), (0, _), (2, _), (8, _), (44, _), (45, _)]) ⟨rfl, rfl, rfl, rfl, rfl, rfl, trivial⟩ ?_
            
            refine CW.seq ?_
            refine CW.seq ?_
            refine CW.region ?_
            refine RG.vl rfl rfl rfl (Ev.move rfl rfl) ?_
            refine RG.vl rfl rfl rfl (Ev.ld0 rfl rfl Tryz.underlying3 rfl ((hN.ext hxwl18).cells) (rfl)) ?_
            refine RG.vl rfl rfl rfl (Ev.lss rfl rfl rfl) ?_
            refine RG.done ?_
            refine QW.then_ ?_
            refine CW.condP rfl (fun hc19 => ?_) (fun hc19 => ?_)
            · refine CW.skip ?_
              refine QW.then_ ?_
              refine CW.seq ?_
              refine CW.block ?_
              refine CW.seq ?_
              refine CW.fenced kf ?_
              refine CWI.region ?_
              refine RGI.ahead 4 (fun _ _ h => by obtain ⟨_, e, _⟩ := h; cases e) ?_
              refine RG.vl rfl rfl rfl (Ev.move rfl rfl) ?_
              refine RG.vl rfl rfl rfl (Ev.move rfl rfl) ?_
              refine RG.vl rfl rfl rfl (Ev.move rfl rfl) ?_
              refine RG.litO (os := [.tmp 56, .tmp 57]) (enc := encZ) ([a, b]) rfl rfl rfl rfl rfl rfl rfl Tryz.underlying29 inf_3 rfl rfl rfl rfl rfl encZ_len rfl rfl (fun v20 wk21 hxwk21 hown22 hnew23 => ?_)
              replace hxwl18 := Ex.tr hxwl18 hxwk21
              have hE24 := hxwk21
              refine RG.done ?_
              refine RGI.rest ?_
              have hJy25 := (hJ.ext hE24)
              have hrxy25 := (hown22.rdl encZ_len)
              have hpfy25 : (pre2 ++ [((v20, [a, b]) : El2)]).map Prod.snd <+: candL n er := by
                rw [List.map_append, hpre2]; exact cand_c (by omega) (by omega) (by omega)
              refine RGI.yield_ (vs := [v20]) open_wide (hY pre2 (v20, [a, b]) _ hJy25.val ⟨hrxy25, hpfy25⟩) rfl rfl rfl rfl rfl rfl rfl (fun e w' h => by rcases h with ⟨rfl, _⟩ | ⟨rfl, _⟩ <;> exact ⟨_, rfl⟩) (fun q wyy25 hq => ?_)
              cases q
              · rcases hq with ⟨h, _⟩ | ⟨_, hJx1⟩
                · simp at h
                refine RGI.ofRG (fun _ _ h => by obtain ⟨_, e, _⟩ := h; cases e) ?_
                refine RG.vl rfl rfl rfl (Ev.notT rfl rfl) ?_
                refine RG.done ?_
                refine QW.then_ ?_
                refine CW.condT rfl ?_
                refine CW.ret ?_
                refine QW.blockR ?_
                refine QW.thenRet ?_
                refine QW.thenRet ?_
                refine QW.blockR ?_
                refine QW.blockR ?_
                refine QW.thenRet ?_
                refine QW.thenRet ?_
                refine QW.blockR ?_
                refine QW.ret0 rfl ?_
                exact .inr ⟨_, hJx1⟩
              · rcases hq with ⟨_, hJ1, hK⟩ | ⟨h, _⟩
                rotate_left
                · simp at h
                have hxyy25 := Below.trans hxwl18 hK.1
                have hJ2 : JAt J w.heap.size _ _ := ⟨hJy25.calm, hJ1, Nat.le_trans hJy25.size hK.1.size⟩
                refine RGI.ofRG (fun _ _ h => by obtain ⟨_, e, _⟩ := h; cases e) ?_
                refine RG.vl rfl rfl rfl (Ev.notF rfl rfl) ?_
                refine RG.done ?_
                refine QW.then_ ?_
                refine CW.condF rfl ?_
                refine CW.skip ?_
                refine QW.blockN ?_
                refine QW.then_ ?_
                refine CW.region ?_
                refine RG.vl rfl rfl rfl (Ev.move rfl rfl) ?_
                refine RG.vl rfl rfl rfl (Ev.addI rfl rfl rfl (by omega)) ?_
                refine RG.vl rfl rfl rfl (Ev.assign rfl rfl) ?_
                refine RG.done ?_
                refine QW.round2 (b + 1) ((pre2 ++ [((v20, [a, b]) : El2)])) ⟨rfl, trivial⟩ ⟨rfl, rfl, rfl, rfl, rfl, trivial⟩ ⟨⟨by omega, by omega, by rw [List.map_append, hpre2, pair_more (by omega), ← List.append_assoc, List.map_singleton], hJ2⟩, hxyy25⟩ (by omega)
            · refine CW.exit ?_
              refine QW.thenExit ?_
              refine QW.thenExit ?_
              refine QW.blockHit ?_
              refine QW.blockN ?_
              refine QW.then_ ?_
              refine CW.region ?_
              refine RG.vl rfl rfl rfl (Ev.addI rfl rfl rfl (by omega)) ?_
              refine RG.vl rfl rfl rfl (Ev.move rfl rfl) ?_
              refine RG.done ?_
              refine QW.round2 (a + 1) (pre2) ⟨rfl, trivial⟩ ⟨rfl, rfl, rfl, trivial⟩ ⟨⟨by omega, by obtain rfl : b = n := (by omega); rw [← pair_end]; exact hpre2, hJ⟩, hxwl18⟩ (by omega)
          · refine CW.exit ?_
            refine QW.thenExit ?_
            refine QW.thenExit ?_
            refine QW.blockHit ?_
            refine QW.end0 rfl ?_
            obtain rfl : a = n := by omega
            exact .inl ⟨_, by rw [cand_0 (by omega)]; exact hpre, (hJ).val⟩

end Go.Proofs.YtgjnchjkjdnidaaGreat

/- A region that draws its order, inside a round. -/
namespace Go.Proofs.YtgjnchjkjdnidaaGreat
open Go.RowKit
theorem oper_round {k l : Nat} {P : Program} {o : Oper} {a : Act} {w : World} {next next' : Act → World → Prop} {Q : Exit → Act → World → Prop} (ho : ∀ c, o.op ≠ .defer c) (hn : ∀ a w, next a w → next' a w) (h : o.wp P a w next Q) : o.wpIn (Fence.wide.inRound l) k P a w next' Q := by
  refine ⟨fun f _ => trivial, ?_⟩
  show o.uponIn _ k P a _ Q ((Oper.semAt (some l) a.eval o).run P w)
  rw [Oper.semAt_some l a.eval o ho]
  unfold Oper.wp at h
  generalize (execOp a.eval o).run P w = r at h ⊢
  unfold Oper.upon at h
  split at h
  · exact hn _ _ h
  · exact hn _ _ h
  · exact hn _ _ h
  · refine ⟨(fun h => by cases h), CallsIn.inRound l (callsIn_wide.2 (Calls.mono h ?_))⟩
    intro e w2 h2
    cases e with
    | returned v => exact hn _ _ h2
    | panicked ch => exact h2
    | outgrown => exact h2
  · exact ⟨(fun h => by cases h), rowsIn_round (Rows.mono h fun v w2 h2 => hn _ _ h2)⟩
  · exact h
  · exact h.elim
theorem opsIn_round {k l : Nat} {P : Program} {ops : Array Oper} {Q : Exit → Act → World → Prop} (hQ : ∀ a w, Q .outgrown a w → False) (hd : ∀ (i : Nat) (o : Oper), ops[i]? = some o → ∀ c, o.op ≠ .defer c) : ∀ (is : List Nat) (a : Act) (w : World), wpOps P ops Q is a w → wpOpsIn (Fence.wide.inRound l) k P ops Q is a w := by
  intro is
  induction is with
  | nil => exact fun a w h => h
  | cons i is ih =>
    intro a w h
    unfold wpOps at h
    unfold wpOpsIn
    cases hi : ops[i]? with
    | none => rw [hi] at h; exact ih a w h
    | some o =>
      rw [hi] at h
      dsimp only at h ⊢
      split at h
      · rename_i hw
        rw [if_pos hw]
        rcases h with h | ⟨_, a', w', h⟩
        · exact oper_round (hd i o hi) ih h
        · exact (hQ a' w' h).elim
      · rename_i hw
        rw [if_neg hw]
        exact ⟨fun f _ => trivial, ih _ _ h⟩
theorem noDefer_all {l : List Oper} (h : noDefer l = true) (i : Nat) (o : Oper) (hi : l.toArray[i]? = some o) : ∀ c, o.op ≠ .defer c := fun c hc => by
  have hm : o ∈ l := List.mem_of_getElem? (by simpa using hi)
  have := List.all_eq_true.1 h o hm
  rw [hc] at this; cases this
theorem CWJ.draw {r k n : Nat} {P : Program} {Q : Exit → Act → World → Prop} {S : Slots} {w : World} {id : Nat} {l : List Oper} (U : List Nat) (row : Rk) (m : Nat) (hl : l.length = m) (hm : P.follows .mixedOrders = true) (hd : noDefer l = true) (hQ : ∀ a w, Q .outgrown a w → False)
    (kk : ∀ w1, Ex w w1 → AG P l.toArray Q U row n m (Array.replicate m false) S w1) : CWJ r k P (.region id l.toArray true) Q n S w := by
  intro a ha
  subst hl
  have h := wpZ_sound _ _ _ _ _ (kk w.drew (Ex.of_drew w) a ha)
  refine wpIn_mono (wpIn_region_draw (Q := NP Q) fun t => ?_) fun e a w h => h.out
  simp only [Region.schedule, hm, Bool.true_or, if_true]
  exact opsIn_round (fun a w h => hQ a w h.out) (noDefer_all hd) _ _ _ (wpAny_sound _ t _ a _ h)
/-- The body of a round is gone into. -/
theorem CWJ.into {r k n : Nat} {P : Program} {Q : Exit → Act → World → Prop} {S : Slots} {w : World} {c : Code} {a : Act} (ha : Fr n S a) (h : CWJ r k P c Q n S w) : c.wpIn (Fence.wide.inRound r) k P Q a w := h a ha
theorem QW.of {Q : Exit → Act → World → Prop} {e : Exit} {n : Nat} {S : Slots} {w : World} (h : ∀ a, Q e a w) : QW Q e n S w := fun a _ => h a
end Go.Proofs.YtgjnchjkjdnidaaGreat

/- Decode as it goes: what it says, the round's result; stores behind a range over a function. -/
namespace Go.Proofs.YtgjnchjkjdnidaaGreat
open Go.RowKit
def fixL (l P : List Nat) (M : Mx) : Nat → List Nat
  | 0 => l
  | i + 1 => (fixL l P M i).set (cf P i) (cf (fixL l P M i) (cf P i) ^^^ M i 4)
theorem fixL_len (l P : List Nat) (M : Mx) : ∀ i, (fixL l P M i).length = l.length
  | 0 => rfl
  | i + 1 => by rw [fixL, List.length_set, fixL_len l P M i]
theorem fixL_el {l P : List Nat} {M : Mx} (hl : El l) (hM : EM M) : ∀ i, i ≤ 4 → El (fixL l P M i)
  | 0, _ => hl
  | i + 1, hi => fun a ha => by
    have ih := fixL_el (P := P) hl hM i (by omega)
    rw [fixL] at ha
    rcases List.mem_or_eq_of_mem_set ha with h | h
    · exact ih a h
    · rw [h]; exact xor_lt64 _ _ (ih.cf _) (hM i 4 (by omega) (by omega))
theorem fixL_more {l P : List Nat} {M : Mx} {i a : Nat} (h : P[i]? = some a) : (fixL l P M i).set a (cf (fixL l P M i) a ^^^ M i 4) = fixL l P M (i + 1) := by rw [fixL, cf_some h]
def freeL (P er : List Nat) : List Nat := P.filter fun a => decide (a ∉ er)
theorem freeL_yes {P er : List Nat} {i a : Nat} (h : P[i]? = some a) (hn : a ∉ er) : freeL (P.take (i + 1)) er = freeL (P.take i) er ++ [a] := by unfold freeL; rw [List.take_add_one, h, Option.toList_some, List.filter_append]; simp [hn]
theorem freeL_no {P er : List Nat} {i a : Nat} (h : P[i]? = some a) (hn : a ∈ er) : freeL (P.take (i + 1)) er = freeL (P.take i) er := by unfold freeL; rw [List.take_add_one, h, Option.toList_some, List.filter_append]; simp [hn]
theorem freeL_len (P er : List Nat) (i : Nat) : (freeL (P.take i) er).length ≤ P.length := by
  have h := List.length_filter_le (fun a => decide (a ∉ er)) (P.take i)
  rw [List.length_take] at h
  unfold freeL; omega
def NoF (l P : List Nat) : Prop := ∃ M, SolvR (eqM l.length P (syL l)) P.length false M
def YesF (l P c : List Nat) : Prop := ∃ M, SolvR (eqM l.length P (syL l)) P.length true M ∧ c = fixL l P M P.length
def okE (n : Nat) (ei : List Int) : Prop := (∀ a ∈ ei, 0 ≤ a ∧ a < n) ∧ ei.Nodup
def erN (ei : List Int) : List Nat := ei.map Int.toNat
/-- What is found: nothing within the bound, or the first places that fit. -/
def Found (l er : List Nat) (e : Int) (c es : List Nat) : Prop :=
  ((∀ P ∈ candL l.length er, NoF l P) ∧ e = 190 ∧ c = [] ∧ es = []) ∨ ∃ pre P rest, candL l.length er = pre ++ P :: rest ∧ (∀ Q ∈ pre, NoF l Q) ∧ YesF l P c ∧ e = 0 ∧ es = freeL P er
def DecP (l : List Nat) (ei : List Int) (e : Int) (c es : List Nat) : Prop :=
  ((isW l = false ∨ ¬ okE l.length ei) ∧ e = 2 ∧ c = [] ∧ es = []) ∨ (isW l = true ∧ okE l.length ei ∧ ((4 < ei.length ∧ e = 190 ∧ c = [] ∧ es = []) ∨ (ei.length ≤ 4 ∧ Found l (erN ei) e c es)))
theorem cand_in {n : Nat} {er P : List Nat} (h : P ∈ candL n er) (her : er.length ≤ 4) (hn : ∀ a ∈ er, a < n) : P.length ≤ 4 ∧ ∀ a ∈ P, a < n := by
  unfold candL at h
  rcases List.mem_append.1 h with h | h
  · rcases List.mem_append.1 h with h | h
    · rw [List.mem_singleton.1 h]; exact ⟨her, hn⟩
    · split at h
      · unfold singL at h
        obtain ⟨i, hi, rfl⟩ := List.mem_map.1 h
        have hi := List.mem_range.1 (List.mem_filter.1 hi).1
        refine ⟨by rw [List.length_append, List.length_singleton]; omega, fun a ha => ?_⟩
        rcases List.mem_append.1 ha with ha | ha
        · exact hn a ha
        · rw [List.mem_singleton.1 ha]; exact hi
      · cases h
  · split at h
    · obtain ⟨i, hi, h⟩ := List.mem_flatMap.1 h
      have hi := List.mem_range.1 hi
      unfold rowP at h
      obtain ⟨j, hj, rfl⟩ := List.mem_map.1 h
      have hj := List.mem_range.1 (List.mem_of_mem_drop hj)
      refine ⟨by show (2 : Nat) ≤ 4; omega, fun a ha => ?_⟩
      rcases List.mem_cons.1 ha with rfl | ha
      · exact hi
      · rw [List.mem_singleton.1 ha]; exact hj
    · cases h
theorem rdl_z {w : World} {u : Value} {ei : List Int} (h : RdL w 1 encI u ei) (h0 : ∀ a ∈ ei, 0 ≤ a) : RdL w 1 encZ u (erN ei) := by
  obtain ⟨A, c, rfl, h1, h2, h3⟩ := h
  have hl : (erN ei).length = ei.length := List.length_map ..
  refine ⟨A, c, by rw [hl], by rw [hl]; exact h1, h2, fun hp => ?_⟩
  obtain ⟨ad, rfl, hb, hc⟩ := h3 (by rw [← hl]; exact hp)
  refine ⟨ad, rfl, hb, fun i a hi => ?_⟩
  unfold erN at hi
  rw [List.getElem?_map] at hi
  obtain ⟨z, hz, rfl⟩ := Option.map_eq_some_iff.1 hi
  have h0' := h0 z (List.mem_of_getElem? hz)
  have := hc i z hz
  rw [show encZ z.toNat = encI z from congrArg (fun x : Int => [Value.int .i64 x]) (by omega)]
  exact this
theorem dup_no {ei : List Int} {i : Nat} {a : Int} (h : ei[i]? = some a) (hm : a ∈ ei.take i) : ¬ ei.Nodup := fun hd => by
  obtain ⟨j, hj⟩ := List.mem_iff_getElem?.1 hm
  have hji : j < i := by
    have := (List.getElem?_eq_some_iff.1 hj).1
    rw [List.length_take] at this; omega
  rw [List.getElem?_take_of_lt hji] at hj
  obtain ⟨h1, h2⟩ := List.getElem?_eq_some_iff.1 hj
  obtain ⟨h3, h4⟩ := List.getElem?_eq_some_iff.1 h
  have := List.pairwise_iff_getElem.1 hd j i h1 h3 hji
  exact this (by rw [h2, h4])
theorem toNat_mem {ei : List Int} {a : Int} (h0 : ∀ x ∈ ei, 0 ≤ x) (ha : 0 ≤ a) (h : a.toNat ∈ erN ei) : a ∈ ei := by
  unfold erN at h
  obtain ⟨x, hx, e⟩ := List.mem_map.1 h
  have := h0 x hx
  have : x = a := by omega
  rw [← this]; exact hx
theorem nodup_more {ei : List Int} {i : Nat} {a : Int} (hd : (ei.take i).Nodup) (h : ei[i]? = some a) (hn : a ∉ ei.take i) : (ei.take (i + 1)).Nodup := by
  rw [List.take_add_one, h, Option.toList_some]
  refine List.nodup_append.2 ⟨hd, by simp, fun x hx y hy => ?_⟩
  rw [List.mem_singleton.1 hy]; rintro rfl; exact hn hx
theorem erN_more {ei : List Int} {i : Nat} {a : Int} (h : ei[i]? = some a) : erN (ei.take (i + 1)) = erN (ei.take i) ++ [a.toNat] := by unfold erN; rw [List.take_add_one, h, Option.toList_some, List.map_append]; rfl
theorem others_wr {A B : World} {g : Nat} {t : TypeId} {cs : List Value} (h : Wr A B g) (hb : Blk A g t cs) : KeepsOthers A B :=
  ⟨by rw [h.size]; exact Nat.le_refl _, fun k o hk ho => by
    have hne : k ≠ g := fun e => by subst e; unfold Blk at hb; rw [hb] at hk; cases hk; cases ho
    exact (h.block k hne).trans hk⟩
theorem Blk.put {A : World} {g l : Nat} {t : TypeId} {cs : List Value} {o : Obj} (o' : Obj) (hb : Blk A g t cs) (h : A.heap[l]? = some o) (hc : o.isCells = false) : Blk (A.putObj l o') g t cs := by
  have hne : g ≠ l := fun e => by subst e; unfold Blk at hb; rw [hb] at h; cases h; cases hc
  exact (World.putObj_heap_other hne).trans hb
theorem Own.put {α : Type} {A : World} {l B sz : Nat} {e : TypeId} {enc : α → List Value} {v : Value} {xs : List α} {o : Obj} (o' : Obj) (ho : Own A B e sz enc v xs) (h : A.heap[l]? = some o) (hc : o.isCells = false) : Own (A.putObj l o') B e sz enc v xs := ho.kc (n0 := 0) (Kc.put o' (Nat.zero_le _) h hc)
theorem RdL.put {α : Type} {A : World} {l sz : Nat} {enc : α → List Value} {v : Value} {xs : List α} {o : Obj} (o' : Obj) (hr : RdL A sz enc v xs) (h : A.heap[l]? = some o) (hc : o.isCells = false) : RdL (A.putObj l o') sz enc v xs := by
  refine hr.keep (by simp) fun ad _ _ us j hcs i u hu => ?_
  have h1 := hcs i u hu
  have hb : ((ad.add j).add i).block ≠ l := fun e => by
    rw [World.cell?, e, h] at h1
    cases o <;> first | (cases hc; done) | (simp at h1)
  exact (World.cell?_of_block (World.putObj_heap_other hb)).trans h1
theorem CW.label {P : Program} {Q : Exit → Act → World → Prop} {n m : Nat} {S : Slots} {w : World} (k : QW Q .normal n S w) : CW P (.label m) Q n S w := fun a ha => wp_label (k a ha)
/-! stores behind a mark -/
section
variable {F : Fence} {k n g : Nat} {P : Program} {ops : Array Oper} {Q : Exit → Act → World → Prop} {ds : List Deferred} {l : List Oper} {S : Slots} {w : World} {o : Oper}
theorem RGI.run0 {w' : World} (hO : Open F) (hw : wantS ops S o = some true) (hd : o.dst = none) (hnd : ∀ c, o.op ≠ .defer c)
    (hr : ∀ a, Fr n S a → (execOp a.eval o).run P w = .ok .skip w') (kk : RGI F k P ops Q ds n l S w') : RGI F k P ops Q ds n (o :: l) S w := by
  intro a ha
  unfold wpListIn
  rw [if_pos (ha.1.wanted hw)]
  refine ⟨fun f _ => hO.fn f, ?_⟩
  rw [Oper.semAt_plain F _ _ hnd]
  have e := hr _ ha.1
  rw [show a.eval = Act.eval { a with defers := [] } from rfl, e]
  show wpListIn F k P ops Q l (a.put o.dst undef) w'
  rw [hd]
  exact kk _ ha
theorem RGI.stAll (hO : Open F) {T m : Nat} {x y : Operand} {v : Value} {cs : List Value} (hw : wantS ops S o = some true) (hd : o.dst = none) (ho : o.op = .store T x y) (hx : ev S x = some (.pointer (some ⟨g, 0, none⟩))) (hy : ev S y = some v)
    (hs : sizeP P T = some m) (hv : v.cells.size = m) (hcs : cs.length = m) (h1 : v.cells.toList.all (·.oneCell') = true) (hb : Blk w g T cs)
    (kk : ∀ w', Wr w w' g → Blk w' g T v.cells.toList → RGI F k P ops Q ds n l S w') : RGI F k P ops Q ds n (o :: l) S w := by
  refine RGI.run0 hO (w' := w.setRow g v.cells.toList.toArray) hw hd (by rw [ho]; intro c h; cases h) (fun a ha => ?_) (kk _ (wr_setRow _ _ _) (blk_setRow hb))
  simp only [execOp, ho]; rw [ha.eval hx, ha.eval hy]
  simp [Instr.storeAt, Instr.sureAddr, storeVar_blk hb v rfl hs (by simpa using hv) hcs h1]
theorem RGI.st1 (hO : Open F) {T : Nat} {t : TypeId} {x y : Operand} {v c : Value} (hw : wantS ops S o = some true) (hd : o.dst = none) (ho : o.op = .store T x y) (hx : ev S x = some (.pointer (some ⟨g, 0, none⟩))) (hy : ev S y = some v)
    (hs : sizeP P T = some 1) (h1 : v.oneCell' = true) (hb : Blk w g t [c])
    (kk : ∀ w', Wr w w' g → Blk w' g t [v] → RGI F k P ops Q ds n l S w') : RGI F k P ops Q ds n (o :: l) S w := by
  have hvc : v.cells = #[v] := by cases v <;> first | rfl | simp [Value.oneCell'] at h1
  have hst := run_storeCells_at P g 0 t [v] 0 #[c] w hb (by simp) (fun u hu => by simp at hu; subst hu; exact h1)
  refine RGI.run0 hO (w' := w.setRow g #[v]) hw hd (by rw [ho]; intro c h; cases h) (fun a ha => ?_) (kk _ (wr_setRow _ _ _) (blk_setRow (us := [v]) hb))
  simp only [execOp, ho]; rw [ha.eval hx, ha.eval hy]
  simp [Instr.storeAt, Instr.sureAddr, storeVar, run_sizeOf hs, hvc, hst]
end
end Go.Proofs.YtgjnchjkjdnidaaGreat

/- Walks (SN). Written by program. -/
namespace Go.Proofs.YtgjnchjkjdnidaaGreat
open Go.RowKit
theorem iter_told (k n : Nat) (A : Option Addr) (c : Nat) (er : List Nat) (w : World) {gE gN gG : Nat} (hE : Blk w gE 29 [.slice A er.length c]) (hN : Blk w gN 3 [.int .i64 (n : Int)]) (hG : Blk w gG 127 (goneC er)) (hl : RdL w 1 encZ (.slice A er.length c) er) (her : er.length ≤ 4) (hn : n ≤ 63) :
    SeqTold k Tryz.prog 110 #[.pointer (some ⟨gE, 0, none⟩), .pointer (some ⟨gN, 0, none⟩), .pointer (some ⟨gG, 0, none⟩)] (fun x : El2 => #[x.1]) (fun pre x A => RdL A 1 encZ x.1 x.2 ∧ (pre ++ [x]).map Prod.snd <+: candL n er) (fun xs => xs.map Prod.snd = candL n er) w := fun l J Jx W hW _ hc hY h0 => by
  refine callsIn_wide.2 (Calls.mono (iter_ret k w l gE gN gG n A c er J Jx W hW hE hN hG hl her hn hc hY h0) ?_)
  rintro e B ⟨v, rfl, h⟩
  exact ⟨⟨v, rfl⟩, h⟩

set_option maxRecDepth 100000 in
set_option maxHeartbeats 4000000 in
theorem decode_ret (u v0 : Value) (l : List Nat) (ei : List Int) (w : World) (hl : RdL w 1 encN u l) (he : RdL w 1 encI v0 ei) (hlen : l.length ≤ 100000) (hlen2 : ei.length ≤ 100000) :
    Ret Tryz.prog 31 [u, v0] w (fun v w' => ∃ r x c es e, v = .tuple #[.agg ([r, x] : List Value).toArray, .int .i64 e] ∧ Own w' w.heap.size 5 1 encN r c ∧ Own w' w.heap.size 3 1 encZ x es ∧ DecP l ei e c es ∧ Ex w w') := by
  obtain ⟨uA, uC, rfl⟩ := hl.shape
  obtain ⟨eA, eC, rfl⟩ := he.shape
  have hB0 : Ex w w := Ex.rfl_ _
  refine Ret.ofM 6 Tryz.func31 rfl Tryz.ntmps31 rfl (CWI.ofCW ?_)
  refine CW.seq ?_
  refine CW.region ?_
  refine RG.box rfl rfl rfl rfl rfl (fun gW w1 egW hx1 hb1 => ?_)
  have hle2 : w.heap.size ≤ gW := by have := (Ex.rfl_ w).size; omega
  have hE3 := hx1
  refine RG.alloc_ rfl rfl rfl rfl inf_73 (fun gX w4 egX hx4 hb4 => ?_)
  have hle5 : w.heap.size ≤ gX := by have := hE3.size; omega
  have hle6 : w1.heap.size ≤ gX := by have := (Ex.rfl_ w1).size; omega
  have hlt7 : gW < gX := by have := Blk.lt hb1; omega
  replace hE3 := Ex.tr hE3 hx4
  have hE8 := hx4
  refine RG.alloc_ rfl rfl rfl rfl inf_26 (fun gY w9 egY hx9 hb9 => ?_)
  have hle10 : w.heap.size ≤ gY := by have := hE3.size; omega
  have hle11 : w1.heap.size ≤ gY := by have := hE8.size; omega
  have hle12 : w4.heap.size ≤ gY := by have := (Ex.rfl_ w4).size; omega
  have hlt13 : gW < gY := by have := Blk.lt (hb1.ext hE8); omega
  have hlt14 : gX < gY := by have := Blk.lt hb4; omega
  replace hE3 := Ex.tr hE3 hx9
  replace hE8 := Ex.tr hE8 hx9
  have hE15 := hx9
  refine RG.done ?_
  refine QW.then_ ?_
  refine CW.scope ?_
  refine CW.seq ?_
  refine CW.seq ?_
  refine CW.region ?_
  refine RG.vl rfl rfl rfl (Ev.ld0 rfl rfl Tryz.underlying58 rfl ((hb1.ext hE8).cells) (rfl)) ?_
  refine RG.call rfl rfl rfl rfl rfl rfl rfl en_66 (isW_ret _ l _ ((hl.ext hE3)) hlen) ?_
  rintro _ w16 ⟨rfl, hx16⟩
  replace hE3 := Ex.tr hE3 hx16
  replace hE8 := Ex.tr hE8 hx16
  replace hE15 := Ex.tr hE15 hx16
  have hE17 := hx16
  refine RG.vl rfl rfl rfl (Ev.not rfl rfl) ?_
  refine RG.done ?_
  refine QW.then_ ?_
  refine CW.cond rfl (fun hc18 => ?_) (fun hc18 => ?_)
  · refine CW.seq ?_
    refine CW.region ?_
    refine RG.vl rfl rfl rfl (Ev.build1 rfl rfl rfl inf_73 rfl rfl (by kernel_rfl) rfl) ?_
    refine RG.stAll (g := gX) rfl rfl rfl rfl rfl sz_73 rfl rfl rfl (hb4.ext hE15) (fun ws19 hwws19 hbws19 => ?_)
    replace hb9 := Blk.far (hb9.ext hE17) hwws19 (by omega)
    replace hE3 := Wr.below hE3 hwws19 hle5
    replace hE8 := Wr.below hE8 hwws19 hle6
    refine RG.st (g := gY) (k := 0) rfl rfl rfl rfl rfl sz_26 rfl hb9 rfl (fun ws20 hwws20 hbws20 => ?_)
    replace hbws19 := Blk.far hbws19 hwws20 (by omega)
    replace hE3 := Wr.below hE3 hwws20 hle10
    replace hE8 := Wr.below hE8 hwws20 hle11
    refine RG.done ?_
    refine QW.then_ ?_
    refine CW.ret ?_
    refine QW.thenRet ?_
    refine QW.noGotoR ?_
    refine retBox rfl rfl rfl Tryz.underlying73 rfl sz_73 rfl (us := [.slice none 0 0, .slice none 0 0]) hbws19 Tryz.underlying26 rfl (x := .int .i64 2) hbws20 ?_
    have hB := (Ex.tr hB0 hE3)
    exact ⟨_, _, [], [], 2, rfl, Own.nil_ _ _ _ _ _, Own.nil_ _ _ _ _ _, .inl ⟨.inl (by simpa using (by assumption : (!isW l) = true)), rfl, rfl, rfl⟩, hB⟩
  · refine CW.skip ?_
    refine QW.then_ ?_
    refine CW.seq ?_
    have hyes : isW l = true := by simpa using (by assumption : (!isW l) = false)
    obtain ⟨hw1, hw2, hel⟩ := isW_iff.1 hyes
    have hsyl : El (syL l) := El.cons_ (sy_lt hel 0) (El.cons_ (sy_lt hel 1) (El.cons_ (sy_lt hel 2) (el1 (sy_lt hel 3))))
    refine CW.region ?_
    refine RG.alloc_ rfl rfl rfl rfl inf_127 (fun gG w21 egG hx21 hb21 => ?_)
    have hle22 : w.heap.size ≤ gG := by have := hE3.size; omega
    have hle23 : w1.heap.size ≤ gG := by have := hE8.size; omega
    have hle24 : w4.heap.size ≤ gG := by have := hE15.size; omega
    have hle25 : w9.heap.size ≤ gG := by have := hE17.size; omega
    have hle26 : w16.heap.size ≤ gG := by have := (Ex.rfl_ w16).size; omega
    have hlt27 : gW < gG := by have := Blk.lt (hb1.ext hE8); omega
    have hlt28 : gX < gG := by have := Blk.lt (hb4.ext hE15); omega
    have hlt29 : gY < gG := by have := Blk.lt (hb9.ext hE17); omega
    replace hE3 := Ex.tr hE3 hx21
    replace hE8 := Ex.tr hE8 hx21
    replace hE15 := Ex.tr hE15 hx21
    replace hE17 := Ex.tr hE17 hx21
    refine RG.done ?_
    refine QW.then_ ?_
    refine CW.seq ?_
    refine CW.seq ?_
    refine CW.region ?_
    refine RG.vl rfl rfl rfl (Ev.move rfl rfl) ?_
    refine RG.vl rfl rfl rfl (Ev.lenL rfl rfl rfl Tryz.underlying29 ((he.ext hE3))) ?_
    refine RG.vl rfl rfl rfl (Ev.move rfl rfl) ?_
    refine RG.done ?_
    refine QW.then_ ?_
    refine CW.block ?_
    refine CW.loop1 [(1, _), (2, _), (4, _), (5, _), (6, _), (19, _), (20, _)] ⟨rfl, rfl, rfl, rfl, rfl, rfl, rfl, trivial⟩ (fun (i : Nat) => [(21, .int .i64 (i : Int))]) (fun i w' => (i ≤ ei.length ∧ (∀ a ∈ ei.take i, 0 ≤ a ∧ a < l.length) ∧ (ei.take i).Nodup ∧ Blk w' gG 127 (goneC (erN (ei.take i))) ∧ Blk w' gW 58 [.slice uA l.length uC] ∧ Blk w' gX 73 [.slice none 0 0, .slice none 0 0] ∧ Blk w' gY 26 [.int .i64 0]) ∧ Ex w w') (fun i => ei.length - i) (0) ⟨rfl, trivial⟩ ⟨⟨Nat.zero_le _, by simp, by simp, by rw [show erN (ei.take 0) = [] from rfl, ← goneC_nil]; exact hb21, (hb1.ext hE8), (hb4.ext hE15), (hb9.ext hE17)⟩, (Ex.tr hB0 hE3)⟩ ?_
    rintro i wl30 ⟨⟨hi, hall, hnd, hbG, hbW, hbX, hbY⟩, hxwl30⟩
    refine CW.sub (S' := [(21, _), (1, _), (2, _), (4, _), (5, _), (6, _), (19, _), (20, _)]) ⟨rfl, rfl, rfl, rfl, rfl, rfl, rfl, rfl, trivial⟩ ?_
    refine CW.seq ?_
    refine CW.region ?_
    refine RG.vl rfl rfl rfl (Ev.lss rfl rfl rfl) ?_
    refine RG.done ?_
    refine QW.then_ ?_
    refine CW.seq ?_
    refine CW.condP rfl (fun hc31 => ?_) (fun hc31 => ?_)
    · refine CW.skip ?_
      refine QW.then_ ?_
      refine CW.seq ?_
      refine CW.block ?_
      refine CW.seq ?_
      obtain ⟨a, hx⟩ : ∃ a, ei[i]? = some a := ⟨_, List.getElem?_eq_getElem (by omega)⟩
      refine CW.region ?_
      refine RG.idxL rfl rfl rfl rfl rfl rfl Tryz.underlying29 sz_3 ((he.ext hxwl30)) (hx) (fun p32 hp32b hp32 => ?_)
      refine RG.vl rfl rfl rfl (Ev.ld0 rfl rfl Tryz.underlying3 rfl (hp32) (rfl)) ?_
      refine RG.vl rfl rfl rfl (Ev.assign rfl rfl) ?_
      refine RG.done ?_
      refine QW.then_ ?_
      refine CW.seq ?_
      refine CW.seq ?_
      refine CW.region ?_
      refine RG.vl rfl rfl rfl (Ev.move rfl rfl) ?_
      refine RG.vl rfl rfl rfl (Ev.lss rfl rfl rfl) ?_
      refine RG.vl rfl rfl rfl (Ev.move rfl rfl) ?_
      refine RG.split (d := 27) rfl (fun hg33 => ?_) (fun hg33 => ?_)
      · refine RG.pass rfl rfl rfl ?_
        refine RG.pass rfl rfl rfl ?_
        refine RG.pass rfl rfl rfl ?_
        refine RG.pass rfl rfl rfl ?_
        refine RG.vl rfl rfl rfl (Ev.pickT rfl rfl rfl) ?_
        refine RG.vl rfl rfl rfl (Ev.move rfl rfl) ?_
        refine RG.pass rfl rfl rfl ?_
        refine RG.pass rfl rfl rfl ?_
        refine RG.pass rfl rfl rfl ?_
        refine RG.vl rfl rfl rfl (Ev.pickT rfl rfl rfl) ?_
        refine RG.done ?_
        refine QW.sub (S' := [(1, _), (2, _), (4, _), (5, _), (6, _), (8, _), (19, _), (20, _), (21, _), (37, _)]) ⟨rfl, rfl, rfl, rfl, rfl, rfl, rfl, rfl, rfl, rfl, trivial⟩ ?_
        refine QW.then_ ?_
        refine CW.condT rfl ?_
        refine CW.seq ?_
        refine CW.region ?_
        refine RG.vl rfl rfl rfl (Ev.build1 rfl rfl rfl inf_73 rfl rfl (by kernel_rfl) rfl) ?_
        refine RG.stAll (g := gX) rfl rfl rfl rfl rfl sz_73 rfl rfl rfl hbX (fun ws34 hwws34 hbws34 => ?_)
        replace hbG := Blk.far hbG hwws34 (by omega)
        replace hbW := Blk.far hbW hwws34 (by omega)
        replace hbY := Blk.far hbY hwws34 (by omega)
        replace hxwl30 := Wr.below hxwl30 hwws34 hle5
        refine RG.st (g := gY) (k := 0) rfl rfl rfl rfl rfl sz_26 rfl hbY rfl (fun ws35 hwws35 hbws35 => ?_)
        replace hbG := Blk.far hbG hwws35 (by omega)
        replace hbW := Blk.far hbW hwws35 (by omega)
        replace hbws34 := Blk.far hbws34 hwws35 (by omega)
        replace hxwl30 := Wr.below hxwl30 hwws35 hle10
        refine RG.done ?_
        refine QW.then_ ?_
        refine CW.ret ?_
        refine QW.thenRet ?_
        refine QW.blockR ?_
        refine QW.thenRet ?_
        refine QW.thenRet ?_
        refine QW.blockR ?_
        refine QW.thenRet ?_
        refine QW.noGotoR ?_
        refine retBox rfl rfl rfl Tryz.underlying73 rfl sz_73 rfl (us := [.slice none 0 0, .slice none 0 0]) hbws34 Tryz.underlying26 rfl (x := .int .i64 2) hbws35 ?_
        have hB := (Ex.tr hB0 hxwl30)
        have ham := List.mem_of_getElem? hx
        have hbad : ¬ okE l.length ei := fun h => by
          have h1 := h.1 a ham
          first | omega | exact dup_no hx (toNat_mem (fun y hy => (hall y hy).1) (by omega) (by assumption)) h.2
        exact ⟨_, _, [], [], 2, rfl, Own.nil_ _ _ _ _ _, Own.nil_ _ _ _ _ _, .inl ⟨.inr hbad, rfl, rfl, rfl⟩, hB⟩
      · refine RG.vl rfl rfl rfl (Ev.move rfl rfl) ?_
        refine RG.vl rfl rfl rfl (Ev.ld0 rfl rfl Tryz.underlying58 rfl (hbW.cells) (rfl)) ?_
        refine RG.vl rfl rfl rfl (Ev.lenL rfl rfl rfl Tryz.underlying58 ((hl.ext hxwl30))) ?_
        refine RG.vl rfl rfl rfl (Ev.geq rfl rfl rfl) ?_
        refine RG.vl rfl rfl rfl (Ev.pickF rfl rfl rfl) ?_
        refine RG.vl rfl rfl rfl (Ev.move rfl rfl) ?_
        refine RG.split (d := 33) rfl (fun hg36 => ?_) (fun hg36 => ?_)
        · refine RG.pass rfl rfl rfl ?_
          refine RG.pass rfl rfl rfl ?_
          refine RG.pass rfl rfl rfl ?_
          refine RG.vl rfl rfl rfl (Ev.pickT rfl rfl rfl) ?_
          refine RG.done ?_
          refine QW.sub (S' := [(1, _), (2, _), (4, _), (5, _), (6, _), (8, _), (19, _), (20, _), (21, _), (37, _)]) ⟨rfl, rfl, rfl, rfl, rfl, rfl, rfl, rfl, rfl, rfl, trivial⟩ ?_
          refine QW.then_ ?_
          refine CW.condT rfl ?_
          refine CW.seq ?_
          refine CW.region ?_
          refine RG.vl rfl rfl rfl (Ev.build1 rfl rfl rfl inf_73 rfl rfl (by kernel_rfl) rfl) ?_
          refine RG.stAll (g := gX) rfl rfl rfl rfl rfl sz_73 rfl rfl rfl hbX (fun ws37 hwws37 hbws37 => ?_)
          replace hbG := Blk.far hbG hwws37 (by omega)
          replace hbW := Blk.far hbW hwws37 (by omega)
          replace hbY := Blk.far hbY hwws37 (by omega)
          replace hxwl30 := Wr.below hxwl30 hwws37 hle5
          refine RG.st (g := gY) (k := 0) rfl rfl rfl rfl rfl sz_26 rfl hbY rfl (fun ws38 hwws38 hbws38 => ?_)
          replace hbG := Blk.far hbG hwws38 (by omega)
          replace hbW := Blk.far hbW hwws38 (by omega)
          replace hbws37 := Blk.far hbws37 hwws38 (by omega)
          replace hxwl30 := Wr.below hxwl30 hwws38 hle10
          refine RG.done ?_
          refine QW.then_ ?_
          refine CW.ret ?_
          refine QW.thenRet ?_
          refine QW.blockR ?_
          refine QW.thenRet ?_
          refine QW.thenRet ?_
          refine QW.blockR ?_
          refine QW.thenRet ?_
          refine QW.noGotoR ?_
          refine retBox rfl rfl rfl Tryz.underlying73 rfl sz_73 rfl (us := [.slice none 0 0, .slice none 0 0]) hbws37 Tryz.underlying26 rfl (x := .int .i64 2) hbws38 ?_
          have hB := (Ex.tr hB0 hxwl30)
          have ham := List.mem_of_getElem? hx
          have hbad : ¬ okE l.length ei := fun h => by
            have h1 := h.1 a ham
            first | omega | exact dup_no hx (toNat_mem (fun y hy => (hall y hy).1) (by omega) (by assumption)) h.2
          exact ⟨_, _, [], [], 2, rfl, Own.nil_ _ _ _ _ _, Own.nil_ _ _ _ _ _, .inl ⟨.inr hbad, rfl, rfl, rfl⟩, hB⟩
        · refine RG.vl rfl rfl rfl ((Ev.move rfl rfl).conv (congrArg (Value.int .i64) (show a = ((a.toNat : Nat) : Int) by omega))) ?_
          refine RG.vl rfl rfl rfl (Ev.idxA rfl rfl rfl Tryz.underlying127 sz_4 (by omega)) ?_
          refine RG.vl rfl rfl rfl (Ev.ldAt rfl rfl Tryz.underlying4 rfl (hbG.cells) ((show (goneC (erN (ei.take i)))[a.toNat * 1]? = some (.bool (decide (a.toNat ∈ erN (ei.take i)))) by rw [Nat.mul_one]; exact goneC_at _ (by omega)))) ?_
          refine RG.vl rfl rfl rfl (Ev.pickF rfl rfl rfl) ?_
          refine RG.done ?_
          refine QW.sub (S' := [(1, _), (2, _), (4, _), (5, _), (6, _), (8, _), (19, _), (20, _), (21, _), (37, _)]) ⟨rfl, rfl, rfl, rfl, rfl, rfl, rfl, rfl, rfl, rfl, trivial⟩ ?_
          refine QW.then_ ?_
          refine CW.condP rfl (fun hc39 => ?_) (fun hc39 => ?_)
          · refine CW.seq ?_
            refine CW.region ?_
            refine RG.vl rfl rfl rfl (Ev.build1 rfl rfl rfl inf_73 rfl rfl (by kernel_rfl) rfl) ?_
            refine RG.stAll (g := gX) rfl rfl rfl rfl rfl sz_73 rfl rfl rfl hbX (fun ws40 hwws40 hbws40 => ?_)
            replace hbG := Blk.far hbG hwws40 (by omega)
            replace hbW := Blk.far hbW hwws40 (by omega)
            replace hbY := Blk.far hbY hwws40 (by omega)
            replace hxwl30 := Wr.below hxwl30 hwws40 hle5
            refine RG.st (g := gY) (k := 0) rfl rfl rfl rfl rfl sz_26 rfl hbY rfl (fun ws41 hwws41 hbws41 => ?_)
            replace hbG := Blk.far hbG hwws41 (by omega)
            replace hbW := Blk.far hbW hwws41 (by omega)
            replace hbws40 := Blk.far hbws40 hwws41 (by omega)
            replace hxwl30 := Wr.below hxwl30 hwws41 hle10
            refine RG.done ?_
            refine QW.then_ ?_
            refine CW.ret ?_
            refine QW.thenRet ?_
            refine QW.blockR ?_
            refine QW.thenRet ?_
            refine QW.thenRet ?_
            refine QW.blockR ?_
            refine QW.thenRet ?_
            refine QW.noGotoR ?_
            refine retBox rfl rfl rfl Tryz.underlying73 rfl sz_73 rfl (us := [.slice none 0 0, .slice none 0 0]) hbws40 Tryz.underlying26 rfl (x := .int .i64 2) hbws41 ?_
            have hB := (Ex.tr hB0 hxwl30)
            have ham := List.mem_of_getElem? hx
            have hbad : ¬ okE l.length ei := fun h => by
              have h1 := h.1 a ham
              first | omega | exact dup_no hx (toNat_mem (fun y hy => (hall y hy).1) (by omega) (by assumption)) h.2
            exact ⟨_, _, [], [], 2, rfl, Own.nil_ _ _ _ _ _, Own.nil_ _ _ _ _ _, .inl ⟨.inr hbad, rfl, rfl, rfl⟩, hB⟩
          · refine CW.skip ?_
            refine QW.then_ ?_
            refine CW.region ?_
            refine RG.vl rfl rfl rfl ((Ev.move rfl rfl).conv (congrArg (Value.int .i64) (show a = ((a.toNat : Nat) : Int) by omega))) ?_
            refine RG.vl rfl rfl rfl (Ev.idxA rfl rfl rfl Tryz.underlying127 sz_4 (by omega)) ?_
            refine RG.st (g := gG) (k := _) rfl rfl rfl rfl rfl sz_4 rfl hbG (by rw [goneC_len, Nat.blt_eq]; omega) (fun ws42 hwws42 hbws42 => ?_)
            replace hbW := Blk.far hbW hwws42 (by omega)
            replace hbX := Blk.far hbX hwws42 (by omega)
            replace hbY := Blk.far hbY hwws42 (by omega)
            replace hxwl30 := Wr.below hxwl30 hwws42 hle22
            rw [goneC_set] at hbws42
            refine RG.done ?_
            refine QW.blockN ?_
            refine QW.then_ ?_
            refine CW.region ?_
            refine RG.vl rfl rfl rfl (Ev.addI rfl rfl rfl (by omega)) ?_
            refine RG.vl rfl rfl rfl (Ev.move rfl rfl) ?_
            refine RG.done ?_
            refine QW.round1 (i + 1) ⟨rfl, trivial⟩ ⟨rfl, rfl, rfl, rfl, rfl, rfl, rfl, trivial⟩ ⟨⟨by omega, fun y hy => by rw [List.take_add_one, hx] at hy; rcases List.mem_append.1 hy with h | h; exact hall y h; rw [Option.mem_toList] at h; injection h with h; omega, nodup_more hnd hx (fun hm => absurd (List.mem_map_of_mem hm : a.toNat ∈ erN (ei.take i)) (by assumption)), by rw [erN_more hx]; exact hbws42, hbW, hbX, hbY⟩, (Ex.tr hB0 hxwl30)⟩ (by omega)
    · refine CW.exit ?_
      refine QW.thenExit ?_
      refine QW.thenExit ?_
      refine QW.blockHit ?_
      refine QW.then_ ?_
      refine CW.seq ?_
      refine CW.seq ?_
      obtain rfl : i = ei.length := by omega
      rw [List.take_length] at hall hnd hbG
      have hok : okE l.length ei := ⟨hall, hnd⟩
      refine CW.region ?_
      refine RG.vl rfl rfl rfl (Ev.move rfl rfl) ?_
      refine RG.vl rfl rfl rfl (Ev.lenL rfl rfl rfl Tryz.underlying29 ((he.ext hxwl30))) ?_
      refine RG.vl rfl rfl rfl (Ev.gtr rfl rfl rfl) ?_
      refine RG.done ?_
      refine QW.then_ ?_
      refine CW.condP rfl (fun hc43 => ?_) (fun hc43 => ?_)
      · refine CW.seq ?_
        refine CW.region ?_
        refine RG.vl rfl rfl rfl (Ev.build1 rfl rfl rfl inf_73 rfl rfl (by kernel_rfl) rfl) ?_
        refine RG.stAll (g := gX) rfl rfl rfl rfl rfl sz_73 rfl rfl rfl hbX (fun ws44 hwws44 hbws44 => ?_)
        replace hbG := Blk.far hbG hwws44 (by omega)
        replace hbW := Blk.far hbW hwws44 (by omega)
        replace hbY := Blk.far hbY hwws44 (by omega)
        replace hxwl30 := Wr.below hxwl30 hwws44 hle5
        refine RG.st (g := gY) (k := 0) rfl rfl rfl rfl rfl sz_26 rfl hbY rfl (fun ws45 hwws45 hbws45 => ?_)
        replace hbG := Blk.far hbG hwws45 (by omega)
        replace hbW := Blk.far hbW hwws45 (by omega)
        replace hbws44 := Blk.far hbws44 hwws45 (by omega)
        replace hxwl30 := Wr.below hxwl30 hwws45 hle10
        refine RG.done ?_
        refine QW.then_ ?_
        refine CW.ret ?_
        refine QW.thenRet ?_
        refine QW.noGotoR ?_
        refine retBox rfl rfl rfl Tryz.underlying73 rfl sz_73 rfl (us := [.slice none 0 0, .slice none 0 0]) hbws44 Tryz.underlying26 rfl (x := .int .i64 190) hbws45 ?_
        have hB := (Ex.tr hB0 hxwl30)
        exact ⟨_, _, [], [], 190, rfl, Own.nil_ _ _ _ _ _, Own.nil_ _ _ _ _ _, .inr ⟨hyes, hok, .inl ⟨by omega, rfl, rfl, rfl⟩⟩, hB⟩
      · refine CW.skip ?_
        refine QW.then_ ?_
        refine CW.seq ?_
        have hez := rdl_z he (fun a ha => (hok.1 a ha).1)
        refine CW.region ?_
        refine RG.vl rfl rfl rfl (Ev.ld0 rfl rfl Tryz.underlying58 rfl (hbW.cells) (rfl)) ?_
        refine RG.call rfl rfl rfl rfl rfl rfl rfl en_67 (syn_ret _ l _ ((hl.ext hxwl30)) hel hw2) ?_
        rintro _ w46 ⟨rfl, hx46⟩
        replace hxwl30 := Ex.tr hxwl30 hx46
        have hE47 := hx46
        refine RG.local_ rfl rfl rfl rfl (fun _ => rfl) rfl rfl (fun _ => rfl) inf_128 rfl rfl rfl (fun gS w48 egS hx48 hb48 => ?_)
        have hle49 : w.heap.size ≤ gS := by have := hxwl30.size; omega
        have hle50 : wl30.heap.size ≤ gS := by have := hE47.size; omega
        have hle51 : w46.heap.size ≤ gS := by have := (Ex.rfl_ w46).size; omega
        have hlt52 : gG < gS := by have := Blk.lt (hbG.ext hE47); omega
        have hlt53 : gW < gS := by have := Blk.lt (hbW.ext hE47); omega
        have hlt54 : gX < gS := by have := Blk.lt (hbX.ext hE47); omega
        have hlt55 : gY < gS := by have := Blk.lt (hbY.ext hE47); omega
        replace hxwl30 := Ex.tr hxwl30 hx48
        replace hE47 := Ex.tr hE47 hx48
        refine RG.done ?_
        refine QW.then_ ?_
        refine CW.seq ?_
        refine CW.label ?_
        refine QW.then_ ?_
        refine CW.seq ?_
        refine CW.seq ?_
        refine CW.region ?_
        refine RG.vl rfl rfl rfl (Ev.ld0 rfl rfl Tryz.underlying58 rfl ((hbW.ext hE47).cells) (rfl)) ?_
        refine RG.vl rfl rfl rfl (Ev.lenL rfl rfl rfl Tryz.underlying58 ((hl.ext hxwl30))) ?_
        refine RG.vl rfl rfl rfl (Ev.move rfl rfl) ?_
        refine RG.vl rfl rfl rfl (Ev.ldAgg rfl rfl Tryz.underlying127 rfl sz_127 rfl ((hbG.ext hE47).cells)) ?_
        refine RG.call rfl rfl rfl rfl rfl rfl rfl en_68 (cand_ret l.length _ _ _ (goneC (erN ei)) _) ?_
        rintro _ w56 ⟨⟨gN, gE, gC, rfl, hN, hE, hC⟩, hx56⟩
        replace hxwl30 := Ex.tr hxwl30 hx56
        replace hE47 := Ex.tr hE47 hx56
        have hE57 := hx56
        refine RG.done ?_
        refine QW.then_ ?_
        refine CW.block ?_
        replace hl := (hl.ext hxwl30)
        replace he := (he.ext hxwl30)
        replace hbG := (hbG.ext hE47)
        replace hbW := (hbW.ext hE47)
        replace hbX := (hbX.ext hE47)
        replace hbY := (hbY.ext hE47)
        replace hez := (hez.ext hxwl30)
        replace hb48 := (hb48.ext hE57)
        have hR58 := (Ex.tr hB0 hxwl30)
        have hR59 := hE47
        have hR60 := hE57
        have hw1 := hR58
        have hgX0 := hle5
        have hgY0 := hle10
        have hlenE : (erN ei).length = ei.length := List.length_map ..
        have hltX := Blk.lt hbX
        have hltY := Blk.lt hbY
        have hern : ∀ a ∈ erN ei, a < l.length := fun a ha => by obtain ⟨z, hz, rfl⟩ := List.mem_map.1 ha; have := hok.1 z hz; omega
        have htold := iter_told 5 l.length eA eC (erN ei) w56 (by rw [hlenE]; exact hE) hN hC (by rw [hlenE]; exact hez) (by omega) hw2
        refine CW.fenced 6 ?_
        intro a hf
        refine wpIn_rangeTold (by decide) (gf := 110) (hf.1.eval (x := .tmp 52) rfl) en_110 htold (fun _ => rfl) (fun pre A => Below w56.heap.size w56 A ∧ ∀ y ∈ pre, NoF l y.2)
          (fun _ A => ∃ r x c es P q rest, Blk A gX 73 [r, x] ∧ Blk A gY 26 [.int .i64 0] ∧ Own A w.heap.size 5 1 encN r c ∧ Own A w.heap.size 3 1 encZ x es ∧ Below w.heap.size w A ∧ candL l.length (erN ei) = q ++ P :: rest ∧ (∀ Q ∈ q, NoF l Q) ∧ YesF l P c ∧ es = freeL P (erN ei))
          (fun s A B row h hg hr => ⟨h.1.grown hg h.1.size hr, h.2⟩) ?ix (fun s x A d o o' h ho hc => ⟨h.1.put o' ho hc, h.2⟩) ⟨Below.refl _ _, by simp⟩ (fun x => ({ tmps := a.tmps.setIfInBounds 53 x.1, defers := [] } : Act).put (some 10) x.1) ?assign ?body ?done ?stop
        case ix =>
          rintro s A d o o' ⟨r, x, c, es, P, q, rest, h1, h2, h3, h4, h5, h6⟩ hd ho hc
          exact ⟨r, x, c, es, P, q, rest, h1.put o' ho hc, h2.put o' ho hc, h3.put o' ho hc, h4.put o' ho hc, Below.trans h5 (Kc.put o' (Nat.le_trans hw1.size hd) ho hc).1, h6⟩
        case assign =>
          intro d x W K hK
          exact assign1 (open_round d) rfl rfl rfl (by have := hf.1.sz; simp at this; omega) hK
        case body =>
          rintro d pre ⟨xv, P⟩ W ⟨hI1, hI2⟩ ⟨hrx, hpf⟩
          have hszW := hI1.size
          have hPm : P ∈ candL l.length (erN ei) := hpf.subset (by simp)
          obtain ⟨hP4, hPn⟩ := cand_in hPm (by omega) hern
          have hrx : RdL W 1 encZ xv P := hrx
          obtain ⟨xA, xC, rfl⟩ := hrx.shape
          refine CWJ.into (S := _) ((hf.1.put (d := 53) rfl).put rfl) ?_
          refine CWJ.sub (S' := [(10, _), (2, _), (4, _), (5, _), (6, _), (9, _)]) ⟨rfl, rfl, rfl, rfl, rfl, rfl, trivial⟩ ?_
          refine CWJ.block ?_
          refine CWJ.seq ?_
          refine CWJ.region rfl (fun _ _ h => h) ?_
          refine RG.vl rfl rfl rfl (Ev.ld0 rfl rfl Tryz.underlying58 rfl ((hbW.ext hI1).cells) (rfl)) ?_
          refine RG.vl rfl rfl rfl (Ev.lenL rfl rfl rfl Tryz.underlying58 ((hl.ext hI1))) ?_
          refine RG.vl rfl rfl rfl (Ev.move rfl rfl) ?_
          refine RG.vl rfl rfl rfl (Ev.ldAgg rfl rfl Tryz.underlying128 rfl sz_128 rfl ((hb48.ext hI1).cells)) ?_
          refine RG.call rfl rfl rfl rfl rfl rfl rfl en_69 (eqsOf_ret l.length _ P (syL l) _ (hrx) hP4 hw2 hPn rfl) ?_
          rintro _ w61 ⟨rfl, hx61⟩
          replace hI1 := Ex.tr hI1 hx61
          have hE62 := hx61
          replace hl := (hl.ext hI1)
          replace he := (he.ext hI1)
          replace hbG := (hbG.ext hI1)
          replace hbW := (hbW.ext hI1)
          replace hbX := (hbX.ext hI1)
          replace hbY := (hbY.ext hI1)
          replace hez := (hez.ext hI1)
          replace hb48 := (hb48.ext hI1)
          replace hN := (hN.ext hI1)
          replace hE := (hE.ext hI1)
          replace hC := (hC.ext hI1)
          replace hrx := (hrx.ext hE62)
          have hR63 := (Ex.tr hw1 hI1)
          have hR64 := hI1
          have hR65 := hE62
          refine RG.local_ rfl rfl rfl rfl (fun _ => rfl) rfl rfl (fun _ => rfl) inf_135 rfl rfl rfl (fun gM w66 egM hx66 hb66 => ?_)
          have hle67 : w61.heap.size ≤ gM := by have := (Ex.rfl_ w61).size; omega
          have hlt68 : gG < gM := by have := Blk.lt hbG; omega
          have hlt69 : gW < gM := by have := Blk.lt hbW; omega
          have hlt70 : gX < gM := by have := Blk.lt hbX; omega
          have hlt71 : gY < gM := by have := Blk.lt hbY; omega
          have hlt72 : gS < gM := by have := Blk.lt hb48; omega
          have hlt73 : gN < gM := by have := Blk.lt hN; omega
          have hlt74 : gE < gM := by have := Blk.lt hE; omega
          have hlt75 : gC < gM := by have := Blk.lt hC; omega
          have hE76 := hx66
          refine RG.done ?_
          refine QWJ.then_ ?_
          refine CWJ.seq ?_
          refine CWJ.seq ?_
          refine CWJ.region rfl (fun _ _ h => h) ?_
          refine RG.vl rfl rfl rfl (Ev.move rfl rfl) ?_
          refine RG.vl rfl rfl rfl (Ev.lenL rfl rfl rfl Tryz.underlying29 ((hrx.ext hE76))) ?_
          refine RG.call rfl rfl rfl rfl rfl rfl rfl en_70 (solve_ret w61 gM P.length (eqM l.length P (syL l)) _ hE76 hle67 hb66 (eqM_el hsyl) hP4) ?_
          rintro _ w77 ⟨bv, M, rfl, hbw78, hsv, hxw79⟩
          replace hE76 := hxw79
          refine RG.vl rfl rfl rfl (Ev.not rfl rfl) ?_
          refine RG.done ?_
          refine QWJ.then_ ?_
          refine CWJ.cond rfl (fun hc80 => ?_) (fun hc80 => ?_)
          · refine CWJ.exit ?_
            refine QW.thenExit ?_
            refine QW.blockHit ?_
            have hbv : bv = false := by simpa using (by assumption : (!bv) = true)
            rw [hbv] at hsv
            exact QW.of fun _ => ⟨others_ex (Ex.tr hR65 hE76), Kc.of_ex (Ex.tr hR65 hE76) hszW, (Ex.tr hR64 hE76), fun y hy => (List.mem_append.1 hy).elim (hI2 y) (fun h => by rw [List.mem_singleton.1 h]; exact ⟨_, hsv⟩)⟩
          · refine CWJ.skip ?_
            refine QWJ.then_ ?_
            refine CWJ.seq ?_
            have hbv : bv = true := by simpa using (by assumption : (!bv) = false)
            rw [hbv] at hsv
            have hM := (hsv.1 rfl).1
            have hs4 := ((Ex.tr hR64 hE76)).size
            refine CWJ.region rfl (fun _ _ h => h) ?_
            refine RG.vl rfl rfl rfl (Ev.ld0 rfl rfl Tryz.underlying58 rfl ((hbW.ext hE76).cells) (rfl)) ?_
            replace hl := (hl.ext hE76)
            replace he := (he.ext hE76)
            replace hbG := (hbG.ext hE76)
            replace hbW := (hbW.ext hE76)
            replace hbX := (hbX.ext hE76)
            replace hbY := (hbY.ext hE76)
            replace hez := (hez.ext hE76)
            replace hb48 := (hb48.ext hE76)
            replace hN := (hN.ext hE76)
            replace hE := (hE.ext hE76)
            replace hC := (hC.ext hE76)
            replace hrx := (hrx.ext hE76)
            have hR81 := (Ex.tr hR63 hE76)
            have hR82 := (Ex.tr hR64 hE76)
            have hR83 := (Ex.tr hR65 hE76)
            have hR84 := hE76
            refine RG.call rfl rfl rfl rfl rfl rfl rfl en_59 (clone_ret _ l _ (hl) hlen) ?_
            have hpre85 := hR81
            rintro vc w85 ⟨hoc0, hx85⟩
            have hsb86 := fun e => sep_blk hbG (Nat.le_refl _) hoc0 e
            have hsb87 := fun e => sep_blk hbW (Nat.le_refl _) hoc0 e
            have hsb88 := fun e => sep_blk hbX (Nat.le_refl _) hoc0 e
            have hsb89 := fun e => sep_blk hbY (Nat.le_refl _) hoc0 e
            have hsb90 := fun e => sep_blk hb48 (Nat.le_refl _) hoc0 e
            have hsb91 := fun e => sep_blk hN (Nat.le_refl _) hoc0 e
            have hsb92 := fun e => sep_blk hE (Nat.le_refl _) hoc0 e
            have hsb93 := fun e => sep_blk hC (Nat.le_refl _) hoc0 e
            have hsb94 := fun e => sep_blk hbw78 (Nat.le_refl _) hoc0 e
            have hE95 := hx85
            obtain ⟨Avc, Cvc, rfl⟩ := hoc0.shape
            have hoc := hoc0
            refine RG.vl rfl rfl rfl (Ev.build1 rfl rfl rfl inf_73 rfl rfl (by kernel_rfl) rfl) ?_
            refine RG.local_ rfl rfl rfl rfl (fun _ => rfl) rfl rfl (fun _ => rfl) inf_73 rfl rfl rfl (fun gF w96 egF hx96 hb96 => ?_)
            have hsb97 := fun e => sep_new (g := gF) hoc egF e
            have hle98 : w77.heap.size ≤ gF := by have := hE95.size; omega
            have hle99 : w85.heap.size ≤ gF := by have := (Ex.rfl_ w85).size; omega
            have hlt100 : gG < gF := by have := Blk.lt (hbG.ext hE95); omega
            have hlt101 : gW < gF := by have := Blk.lt (hbW.ext hE95); omega
            have hlt102 : gX < gF := by have := Blk.lt (hbX.ext hE95); omega
            have hlt103 : gY < gF := by have := Blk.lt (hbY.ext hE95); omega
            have hlt104 : gS < gF := by have := Blk.lt (hb48.ext hE95); omega
            have hlt105 : gN < gF := by have := Blk.lt (hN.ext hE95); omega
            have hlt106 : gE < gF := by have := Blk.lt (hE.ext hE95); omega
            have hlt107 : gC < gF := by have := Blk.lt (hC.ext hE95); omega
            have hlt108 : gM < gF := by have := Blk.lt (hbw78.ext hE95); omega
            replace hE95 := Ex.tr hE95 hx96
            have hE109 := hx96
            refine RG.done ?_
            refine QW.sub (S' := [(4, _), (5, _), (6, _), (10, _), (11, _), (12, _)]) ⟨rfl, rfl, rfl, rfl, rfl, rfl, trivial⟩ ?_
            refine QWJ.then_ ?_
            refine CWJ.seq ?_
            refine CWJ.seq ?_
            refine CWJ.region rfl (fun _ _ h => h) ?_
            refine RG.vl rfl rfl rfl (Ev.move rfl rfl) ?_
            refine RG.vl rfl rfl rfl (Ev.lenL rfl rfl rfl Tryz.underlying29 ((hrx.ext hE95))) ?_
            refine RG.vl rfl rfl rfl (Ev.move rfl rfl) ?_
            refine RG.done ?_
            refine QWJ.then_ ?_
            refine CWJ.block ?_
            refine CWJ.loop2 [(4, _), (5, _), (6, _), (11, _), (12, _), (66, _), (67, _)] ⟨rfl, rfl, rfl, rfl, rfl, rfl, rfl, trivial⟩ (fun (i : Nat) (ve : Value) => [(68, .int .i64 (i : Int))]) (fun i ve w' => (i ≤ P.length ∧ Blk w' gF 73 [(Value.slice Avc l.length Cvc), ve] ∧ Own w' w77.heap.size 5 1 encN (Value.slice Avc l.length Cvc) (fixL l P M i) ∧ Own w' w77.heap.size 3 1 encZ ve (freeL (P.take i) (erN ei)) ∧ Sep (Value.slice Avc l.length Cvc) ve ∧ (ve.ownBlock = some gF → False)) ∧ Ex w77 w') (fun i ve => P.length - i) (0) (.slice none 0 0) ⟨rfl, trivial⟩ ⟨⟨Nat.zero_le _, hb96, (Own.ext hoc hE109), Own.nil_ _ _ _ _ _, (Sep.nil_ _).symm, fun e => by cases e⟩, hE95⟩ ?_
            rintro i ve wl110 ⟨⟨hi, hbF, hoc, hoe, hsp, hsb⟩, hxwl110⟩
            refine CWJ.sub (S' := [(68, _), (4, _), (5, _), (6, _), (11, _), (12, _), (66, _), (67, _)]) ⟨rfl, rfl, rfl, rfl, rfl, rfl, rfl, rfl, trivial⟩ ?_
            refine CWJ.seq ?_
            refine CWJ.region rfl (fun _ _ h => h) ?_
            refine RG.vl rfl rfl rfl (Ev.lss rfl rfl rfl) ?_
            refine RG.done ?_
            refine QWJ.then_ ?_
            refine CWJ.seq ?_
            refine CWJ.condP rfl (fun hc111 => ?_) (fun hc111 => ?_)
            · refine CWJ.skip ?_
              refine QWJ.then_ ?_
              refine CWJ.seq ?_
              refine CWJ.block ?_
              refine CWJ.seq ?_
              obtain ⟨a, hpl⟩ : ∃ a, P[i]? = some a := ⟨_, List.getElem?_eq_getElem (by omega)⟩
              have hal := hPn a (List.mem_of_getElem? hpl)
              have hfl := fixL_len l P M i
              have hfe := (fixL_el (P := P) hel hM i (by omega)).cf a
              have hm4 := hM i 4 (by omega) (by omega)
              have hxr := xor_lt64 _ _ hfe hm4
              have hfr := freeL_len P (erN ei) i
              refine CWJ.region rfl (fun _ _ h => h) ?_
              refine RG.vl rfl rfl rfl (Ev.move rfl rfl) ?_
              refine RG.idxL rfl rfl rfl rfl rfl rfl Tryz.underlying29 sz_3 ((hrx.ext hxwl110)) (hpl) (fun p112 hp112b hp112 => ?_)
              refine RG.vl rfl rfl rfl (Ev.ld0 rfl rfl Tryz.underlying3 rfl (hp112) (rfl)) ?_
              refine RG.vl rfl rfl rfl (Ev.assign rfl rfl) ?_
              refine RG.vl rfl rfl rfl (Ev.assign rfl rfl) ?_
              refine RG.done ?_
              refine QWJ.then_ ?_
              refine CWJ.seq ?_
              refine CWJ.draw [11] (.ex) 12 rfl mixed rfl (fun _ _ h => h) (fun wd113 hxwd113 => ?_)
              replace hxwl110 := Ex.tr hxwl110 hxwd113
              have hE114 := hxwd113
              refine AG.takeW 0 rfl (by kernel_rfl) (by kernel_rfl) rfl rfl rfl (fun _ => Ev.fld rfl rfl fld_73_0) ?_
              refine AG.take 1 rfl (by kernel_rfl) (by kernel_rfl) rfl rfl rfl (fun wq hq => Ev.ldAt rfl rfl Tryz.underlying58 rfl (((hbF.ext hE114).ext hq).cells) (rfl)) ?_
              refine AG.takeW 2 rfl (by kernel_rfl) (by kernel_rfl) rfl rfl rfl (fun _ => Ev.move rfl rfl) ?_
              refine AG.idxO _ 3 rfl (by kernel_rfl) (by kernel_rfl) rfl rfl rfl rfl rfl rfl Tryz.underlying58 sz_5 encN_len ((Own.ext hoc hE114)) (getElem?_cf (by omega)) (fun g116 hg116 hBg116 hp115b hp115 => ?_)
              refine AG.take 4 rfl (by kernel_rfl) (by kernel_rfl) rfl rfl rfl (fun wq hq => Ev.ld0 rfl rfl Tryz.underlying5 rfl (hp115.ext hq hp115b) (rfl)) ?_
              refine AG.takeW 5 rfl (by kernel_rfl) (by kernel_rfl) rfl rfl rfl (fun _ => Ev.move rfl rfl) ?_
              refine AG.takeW 6 rfl (by kernel_rfl) (by kernel_rfl) rfl rfl rfl (fun _ => Ev.idxA rfl rfl rfl Tryz.underlying135 sz_133 (by omega)) ?_
              refine AG.takeW 7 rfl (by kernel_rfl) (by kernel_rfl) rfl rfl rfl (fun _ => Ev.idxA (i := 4) rfl rfl rfl Tryz.underlying133 sz_5 (by omega)) ?_
              refine AG.take 8 rfl (by kernel_rfl) (by kernel_rfl) rfl rfl rfl (fun wq hq => Ev.ldAA rfl rfl Tryz.underlying5 rfl (((hbw78.ext hxwl110).ext hq).cells) ((show (mc _)[i * 5 + 4 * 1]? = some (.int .u8 (M i 4 : Int)) by rw [mc_at _ (by omega) (by omega)]))) ?_
              refine AG.takeW 9 rfl (by kernel_rfl) (by kernel_rfl) rfl rfl rfl (fun _ => Ev.xor8 rfl rfl rfl (by omega) (by omega)) ?_
              refine AG.idxO _ 10 rfl (by kernel_rfl) (by kernel_rfl) rfl rfl rfl rfl rfl rfl Tryz.underlying58 sz_5 encN_len ((Own.ext hoc hE114)) (getElem?_cf (by omega)) (fun g118 hg118 hBg118 hp117b hp117 => ?_)
              refine AG.only 11 rfl (by kernel_rfl) ?_
              refine RG.stOw0 (g := g118) (cf (fixL l P M i) a ^^^ M i 4) rfl rfl rfl rfl rfl sz_5 rfl (fun _ => rfl) (Own.ext hoc hE114) hg118 (getElem?_cf (by omega)) rfl (rfl) (fun ws120 hwws120 hown121 => ?_)
              replace hbF := Blk.far (hbF.ext hE114) hwws120 (fun e => hsb97 (by rw [e]; exact hg118))
              replace hoe := Own.far (Own.ext hoe hE114) hwws120 (fun e => hsp _ hg118 e)
              replace hxwl110 := Wr.below hxwl110 hwws120 hBg118
              refine RG.done ?_
              refine QW.an (fun h => by simp at h) ?_
              refine AG.done (by kernel_rfl) ?_
              refine QW.sub (S' := [(4, _), (5, _), (6, _), (11, _), (12, _), (14, _), (66, _), (67, _), (68, _)]) ⟨rfl, rfl, rfl, rfl, rfl, rfl, rfl, rfl, rfl, trivial⟩ ?_
              refine QWJ.then_ ?_
              refine CWJ.seq ?_
              refine CWJ.region rfl (fun _ _ h => h) ?_
              refine RG.vl rfl rfl rfl (Ev.move rfl rfl) ?_
              refine RG.vl rfl rfl rfl (Ev.idxA rfl rfl rfl Tryz.underlying127 sz_4 (by omega)) ?_
              refine RG.vl rfl rfl rfl (Ev.ldAt rfl rfl Tryz.underlying4 rfl ((hbG.ext hxwl110).cells) ((show (goneC (erN ei))[a * 1]? = some (.bool (decide (a ∈ erN ei))) by rw [Nat.mul_one]; exact goneC_at _ (by omega)))) ?_
              refine RG.vl rfl rfl rfl (Ev.notP rfl rfl) ?_
              refine RG.done ?_
              refine QWJ.then_ ?_
              refine CWJ.condP rfl (fun hc122 => ?_) (fun hc122 => ?_)
              · refine CWJ.region rfl (fun _ _ h => h) ?_
                refine RG.vl rfl rfl rfl (Ev.fld rfl rfl fld_73_1) ?_
                refine RG.vl rfl rfl rfl (Ev.ldAt rfl rfl Tryz.underlying29 rfl (hbF.cells) (rfl)) ?_
                refine RG.vl rfl rfl rfl (Ev.move rfl rfl) ?_
                refine RG.litO (os := [.tmp 90]) (enc := encZ) ([a]) rfl rfl rfl rfl rfl rfl rfl Tryz.underlying29 inf_3 rfl rfl rfl rfl rfl encZ_len rfl rfl (fun v123 wk124 hxwk124 hown125 hnew126 => ?_)
                have hsep127 : Sep v123 _ := Sep.of_new hoe hnew126
                have hsep128 : Sep v123 _ := Sep.of_new hown121 hnew126
                have hsb129 := fun e => sep_blk (hbG.ext hxwl110) (Nat.le_refl _) hown125 e
                have hsb130 := fun e => sep_blk (hbW.ext hxwl110) (Nat.le_refl _) hown125 e
                have hsb131 := fun e => sep_blk (hbX.ext hxwl110) (Nat.le_refl _) hown125 e
                have hsb132 := fun e => sep_blk (hbY.ext hxwl110) (Nat.le_refl _) hown125 e
                have hsb133 := fun e => sep_blk (hb48.ext hxwl110) (Nat.le_refl _) hown125 e
                have hsb134 := fun e => sep_blk (hN.ext hxwl110) (Nat.le_refl _) hown125 e
                have hsb135 := fun e => sep_blk (hE.ext hxwl110) (Nat.le_refl _) hown125 e
                have hsb136 := fun e => sep_blk (hC.ext hxwl110) (Nat.le_refl _) hown125 e
                have hsb137 := fun e => sep_blk (hbw78.ext hxwl110) (Nat.le_refl _) hown125 e
                have hsb138 := fun e => sep_blk hbF (Nat.le_refl _) hown125 e
                replace hxwl110 := Ex.tr hxwl110 hxwk124
                have hE139 := hxwk124
                refine RG.appO rfl rfl rfl rfl rfl rfl rfl Tryz.underlying29 inf_3 rfl rfl encZ_len (fun _ => rfl) (Own.ext hoe hE139) ((hown125.rdl encZ_len)) (by show _ + 1 ≤ maxLen; simp only [maxLen]; omega) (by show (_ + 1) * _ ≤ _; omega) (hxwl110.size) (fun v140 wa141 hown142 hgr143 hat144 => ?_)
                have hb145 := Blk.grown (hbF.ext hE139) hgr143 (fun e => hsb e.symm)
                have hsb146 := sepb_app hsb (hbF.ext hE139) hat144
                have hsep148 := Sep.app (Sep.symm hsp) (Own.ext hown121 hE139) hat144
                have hown147 := Own.grown (Own.ext hown121 hE139) hgr143 (fun k a b => (Sep.symm hsp) k b a)
                have hsep150 := Sep.app (Sep.symm hsep127) hown125 hat144
                have hown149 := Own.grown hown125 hgr143 (fun k a b => (Sep.symm hsep127) k b a)
                replace hxwl110 := own_block (Own.ext hoe hE139) hxwl110 hgr143 (Nat.le_refl _) hxwl110.size
                obtain ⟨Av140, Cv140, rfl⟩ := hown142.shape
                refine RG.vl rfl rfl rfl (Ev.fld rfl rfl fld_73_1) ?_
                refine RG.st (g := gF) (k := 1) rfl rfl rfl rfl rfl sz_29 rfl hb145 rfl (fun ws151 hwws151 hbws151 => ?_)
                replace hown147 := Own.far hown147 hwws151 hsb97
                replace hown149 := Own.far hown149 hwws151 hsb138
                replace hown142 := Own.far hown142 hwws151 hsb146
                replace hxwl110 := Wr.below hxwl110 hwws151 hle98
                refine RG.done ?_
                refine QW.blockN ?_
                refine QWJ.then_ ?_
                refine CWJ.region rfl (fun _ _ h => h) ?_
                refine RG.vl rfl rfl rfl (Ev.addI rfl rfl rfl (by omega)) ?_
                refine RG.vl rfl rfl rfl (Ev.move rfl rfl) ?_
                refine RG.done ?_
                refine QW.round2 (i + 1) ((Value.slice Av140 _ Cv140)) ⟨rfl, trivial⟩ ⟨rfl, rfl, rfl, rfl, rfl, rfl, rfl, trivial⟩ ⟨⟨by omega, hbws151, by rw [← fixL_more hpl]; exact hown147, by rw [freeL_yes hpl (by assumption)]; exact hown142, (Sep.symm hsep148), hsb146⟩, hxwl110⟩ (by omega)
              · refine CWJ.skip ?_
                refine QW.blockN ?_
                refine QWJ.then_ ?_
                refine CWJ.region rfl (fun _ _ h => h) ?_
                refine RG.vl rfl rfl rfl (Ev.addI rfl rfl rfl (by omega)) ?_
                refine RG.vl rfl rfl rfl (Ev.move rfl rfl) ?_
                refine RG.done ?_
                refine QW.round2 (i + 1) (ve) ⟨rfl, trivial⟩ ⟨rfl, rfl, rfl, rfl, rfl, rfl, rfl, trivial⟩ ⟨⟨by omega, hbF, by rw [← fixL_more hpl]; exact hown121, by rw [freeL_no hpl (Decidable.not_not.1 (by assumption))]; exact hoe, hsp, hsb⟩, hxwl110⟩ (by omega)
            · refine CWJ.exit ?_
              refine QW.thenExit ?_
              refine QW.thenExit ?_
              refine QW.blockHit ?_
              refine QWJ.then_ ?_
              refine CWJ.seq ?_
              obtain rfl : i = P.length := by omega
              have hoe2 := hoe
              rw [List.take_length] at hoe2
              obtain ⟨A2, C2, rfl⟩ := hoe2.shape
              have hoc2 := hoc
              have hxW := (Ex.tr hR83 hxwl110)
              have hxw := (Ex.tr hR81 hxwl110)
              have hX4 := (hbX.ext hxwl110)
              have hY4 := (hbY.ext hxwl110)
              have hsX : gX < w77.heap.size := Blk.lt hbX
              have hsY : gY < w77.heap.size := Blk.lt hbY
              refine CWJ.region rfl (fun _ _ h => h) ?_
              refine RG.vl rfl rfl rfl (Ev.ldAgg rfl rfl Tryz.underlying73 rfl sz_73 rfl (hbF.cells)) ?_
              refine RG.stAll (g := gX) rfl rfl rfl rfl rfl sz_73 rfl rfl rfl hX4 (fun wA hwA hbA => ?_)
              have hY5 := Blk.far hY4 hwA (by omega)
              refine RG.st (g := gY) (k := 0) rfl rfl rfl rfl rfl sz_26 rfl hY5 rfl (fun wB hwB hbY9 => ?_)
              have hbX9 := Blk.far hbA hwB (by omega)
              have ho9 := ((hoc2.far hwA (fun e => by have := hoc2.ge e; omega)).far hwB (fun e => by have := hoc2.ge e; omega)).low (B' := w.heap.size) (Nat.le_trans hw1.size hs4)
              have he9 := ((hoe2.far hwA (fun e => by have := hoe2.ge e; omega)).far hwB (fun e => by have := hoe2.ge e; omega)).low (B' := w.heap.size) (Nat.le_trans hw1.size hs4)
              have hx9 : Below w.heap.size w wB := Wr.below (Wr.below hxw hwA hgX0) hwB hgY0
              have hko := ((others_ex hxW).trans (others_wr hwA hX4)).trans (others_wr hwB hY5)
              refine RG.done ?_
              refine QWJ.then_ ?_
              refine CWJ.ret ?_
              refine QW.blockR ?_
              obtain ⟨rest, hrest⟩ := hpf
              exact QW.of fun _ => ⟨hko, _, _, _, _, P, pre.map Prod.snd, rest, hbX9, hbY9, ho9, he9, hx9, by rw [← hrest, List.map_append, List.append_assoc]; rfl, fun Q hQ => by obtain ⟨y, hy, rfl⟩ := List.mem_map.1 hQ; exact hI2 y hy, ⟨M, hsv, rfl⟩, rfl⟩
        case done =>
          rintro D xs W hD hS ⟨hI1, hI2⟩ hK
          have hfr : FrD [{ target := .collected D, args := #[] }] 97 [(4, .pointer (some ⟨gX, 0, none⟩)), (5, .pointer (some ⟨gY, 0, none⟩))] { a with defers := { target := .collected D, args := #[] } :: a.defers } := ⟨hf.1.sub ⟨rfl, rfl, trivial⟩, by rw [hf.2]⟩
          have hX2 := Blk.ext hbX hI1
          have hY2 := Blk.ext hbY hI1
          show Code.wp _ _ _ _ _
          refine (wpIn_wide (n := 6)).1 ?_
          refine CWI.seq ?_ _ hfr
          refine CWI.region ?_
          refine RGI.vl open_wide rfl rfl rfl (by intro c h; cases h) (Ev.build1 rfl rfl rfl inf_73 rfl rfl (by kernel_rfl) rfl) ?_
          refine RGI.stAll (g := gX) open_wide rfl rfl rfl rfl rfl sz_73 rfl rfl rfl hX2 (fun wA hwA hbA => ?_)
          have hY3 := Blk.far hY2 hwA (by omega)
          refine RGI.st1 (g := gY) open_wide rfl rfl rfl rfl rfl sz_26 rfl hY3 (fun wB hwB hbB => ?_)
          have hbA2 := Blk.far hbA hwB (by omega)
          refine RGI.done (CWI.then_ (S' := [(4, .pointer (some ⟨gX, 0, none⟩)), (5, .pointer (some ⟨gY, 0, none⟩))]) ⟨rfl, rfl, trivial⟩ ?_)
          have hK2 := ((others_wr hwA hX2).trans (others_wr hwB hY3)).same D _ hK rfl
          have hxB : Below w.heap.size w wB := Wr.below (Wr.below (Ex.tr hw1 hI1) hwA hgX0) hwB hgY0
          exact CWI.ret (retBoxM rfl rfl rfl Tryz.underlying73 rfl sz_73 rfl (us := [.slice none 0 0, .slice none 0 0]) hbA2 Tryz.underlying26 rfl (x := .int .i64 190) hbB hK2 ⟨_, _, [], [], 190, rfl, Own.nil_ _ _ _ _ _, Own.nil_ _ _ _ _ _, .inr ⟨hyes, hok, .inr ⟨by omega, .inl ⟨fun P hP => by rw [← hS] at hP; obtain ⟨y, hy, rfl⟩ := List.mem_map.1 hP; exact hI2 y hy, rfl, rfl, rfl⟩⟩⟩, Below.trans hxB (Kc.put _ (Nat.le_trans hw1.size hD) hK2 rfl).1⟩)
        case stop =>
          rintro D pre W hD ⟨r, x, c, es, P, q, rest, h1, h2, h3, h4, h5, h6, h7, h8, h9⟩ hK
          have hfr : FrD [{ target := .collected D, args := #[] }] 97 [(4, .pointer (some ⟨gX, 0, none⟩)), (5, .pointer (some ⟨gY, 0, none⟩))] { a with defers := { target := .collected D, args := #[] } :: a.defers } := ⟨hf.1.sub ⟨rfl, rfl, trivial⟩, by rw [hf.2]⟩
          refine CWI.ret (fun a ha => ?_) _ hfr
          refine retBoxM (p := 4) (q := 5) (T := 73) (U := 26) (fn := Tryz.f31) rfl rfl rfl Tryz.underlying73 rfl sz_73 rfl (us := [r, x]) h1 Tryz.underlying26 rfl (x := .int .i64 0) h2 hK ?_ a ha
          exact ⟨r, x, c, es, 0, rfl, h3.put _ hK rfl, h4.put _ hK rfl, .inr ⟨hyes, hok, .inr ⟨by omega, .inr ⟨q, P, rest, h6, h7, h8, rfl, h9⟩⟩⟩, Below.trans h5 (Kc.put _ (Nat.le_trans hw1.size hD) hK rfl).1⟩

end Go.Proofs.YtgjnchjkjdnidaaGreat

/- Cells of a number; runes of digits. -/
namespace Go.Proofs.YtgjnchjkjdnidaaGreat
open Go.RowKit
def c16 (l : List Nat) : List Value := l.map fun n : Nat => .int .u8 (n : Int)
theorem c16_len (l : List Nat) : (c16 l).length = l.length := List.length_map ..
theorem c16_at {l : List Nat} {i x : Nat} (h : l[i]? = some x) : (c16 l)[i * 1]? = some (.int .u8 (x : Int)) := by unfold c16; rw [Nat.mul_one, List.getElem?_map, h]; rfl
theorem c16_at' {l : List Nat} {i x : Nat} (h : l[i]? = some x) : (c16 l)[i]? = some (.int .u8 (x : Int)) := by unfold c16; rw [List.getElem?_map, h]; rfl
theorem c16_set (l : List Nat) (i v : Nat) : (c16 l).set (i * 1) (.int .u8 (v : Int)) = c16 (l.set i v) := by unfold c16; rw [Nat.mul_one, List.map_set]
theorem c16_zero : c16 (b64 0) = List.replicate 16 (.int .u8 0) := by
  have h : b64 0 = List.replicate 16 0 := by decide +kernel
  rw [h]
  rfl
theorem c16_flat (l : List Nat) : c16 l = l.flatMap encN := by
  unfold c16
  induction l with
  | nil => rfl
  | cons a l ih => rw [List.map_cons, ih, List.flatMap_cons]; rfl
theorem c16_one (l : List Nat) : (c16 l).all (·.oneCell') = true := by
  unfold c16
  rw [List.all_eq_true]
  intro v hv
  obtain ⟨n, _, rfl⟩ := List.mem_map.1 hv
  rfl
theorem Wr.rfl_ (w : World) (g : Nat) : Wr w w g := ⟨rfl, rfl, rfl, rfl, fun _ _ => rfl⟩
theorem Wr.tr {a b c : World} {g : Nat} (h : Wr a b g) (k : Wr b c g) : Wr a c g := ⟨k.os.trans h.os, k.tape.trans h.tape, k.output.trans h.output, k.size.trans h.size, fun j hj => (k.block j hj).trans (h.block j hj)⟩
section
variable {P : Program} {n : Nat} {S : Slots} {w : World} {o : Oper}
theorem Ev.add32 {T T' : TypeId} {x y : Operand} {p q : Int} (ho : o.op = .binOp .add T x y T') (hx : ev S x = some (.int .i32 p)) (hy : ev S y = some (.int .i32 q))
    (hr : -2147483648 ≤ p + q ∧ p + q ≤ 2147483647) : Ev P n o S w (.int .i32 (p + q)) :=
  (Ev.arith ho hx hy (.inl ⟨rfl, rfl⟩)).conv (by rw [IntWalk.i32_in _ hr])
theorem Ev.sub32 {T T' : TypeId} {x y : Operand} {p q : Int} (ho : o.op = .binOp .sub T x y T') (hx : ev S x = some (.int .i32 p)) (hy : ev S y = some (.int .i32 q))
    (hr : -2147483648 ≤ p - q ∧ p - q ≤ 2147483647) : Ev P n o S w (.int .i32 (p - q)) :=
  (Ev.arith ho hx hy (.inr (.inl ⟨rfl, rfl⟩))).conv (by rw [IntWalk.i32_in _ hr])
theorem items_u8 {e : TypeId} (he : P.underlying e = some (.int .u8)) (L : List Nat) : ∀ is : List Nat, (∀ j ∈ is, j < L.length) →
    (Op.eqItems 9999 e 1 (c16 L).toArray (c16 (List.replicate L.length 0)).toArray is).run P w = .ok (decide (∀ j ∈ is, L[j]? = some 0)) w
  | [], _ => by simp [Op.eqItems]
  | j :: is, h => by
    have hj := h j (List.mem_cons_self ..)
    have ih := items_u8 he L is fun x hx => h x (List.mem_cons_of_mem _ hx)
    have hg := List.getElem?_eq_getElem hj
    have h1 : (c16 L).toArray[j]? = some (.int .u8 ((L[j] : Nat) : Int)) := by rw [List.getElem?_toArray]; exact c16_at' hg
    have h2 : (c16 (List.replicate L.length 0)).toArray[j]? = some (.int .u8 ((0 : Nat) : Int)) := by
      rw [List.getElem?_toArray]
      exact c16_at' (by rw [List.getElem?_replicate, if_pos hj])
    have hI : ∀ (w : World) (p q : Int), (Op.equalIn 9999 e (.int .u8 p) (.int .u8 q)).run P w = .ok (p == q) w := fun w p q => run_equalIn_int w 9998 e .u8 .u8 p q he
    have hA : ∀ w : World, (isAgg e).run P w = .ok false w := fun w => by rw [run_isAgg he]; rfl
    simp only [Op.eqItems, Go.part, Sem.run_bind, hA, Result.andThen_ok, Nat.mul_one, h1, h2]
    by_cases h0 : L[j] = 0
    · simp [hI, ih, h0, hg]
    · simp [hI, h0, hg]
theorem all_zero {L : List Nat} (hl : L.length = 16) : (∀ j ∈ List.range 16, L[j]? = some 0) ↔ vb 64 0 L = 0 := by
  rw [vb_zero]
  constructor
  · intro h x hx
    obtain ⟨j, hj, rfl⟩ := List.getElem_of_mem hx
    have := h j (List.mem_range.2 (by omega))
    rw [List.getElem?_eq_getElem hj] at this
    injection this
  · intro h j hj
    have hj := List.mem_range.1 hj
    rw [List.getElem?_eq_getElem (show j < L.length by omega), h _ (List.getElem_mem _)]
theorem Ev.neZ {T T' e by_ : Nat} {zz : Value} {x y : Operand} {L : List Nat} (hl : L.length = 16) (ho : o.op = .binOp .neq T x y T') (hx : ev S x = some (.agg (c16 L).toArray)) (hy : ev S y = some (.agg (c16 (List.replicate 16 0)).toArray))
    (ht : P.underlying T = some (.array 16 e)) (he : P.underlying e = some (.int .u8)) (hi : (P.info? e).map (fun i => (i.zero, i.size, i.bytes)) = some (some zz, 1, by_)) (hg : P.eqGuardType P.depth T = false) : Ev P n o S w (.bool (decide (¬ vb 64 0 L = 0))) := fun act ha => by
  obtain ⟨i, hii, _, hz1, _⟩ := info_parts hi
  simp only [execOp, ho]; rw [ha.eval hx, ha.eval hy]
  have hc : P.cellsOf e = 1 := by simp [Program.cellsOf, hii, hz1]
  have h := run_equalIn_array (P := P) (w := w) 9999 (c16 L).toArray (c16 (List.replicate 16 0)).toArray ht hii
  have e2 : (Op.equalIn 10000 T (.agg (c16 L).toArray) (.agg (c16 (List.replicate 16 0)).toArray)).run P w = .ok (decide (vb 64 0 L = 0)) w := by
    have h2 := items_u8 (P := P) (w := w) he L (List.range 16) fun j hj => by have := List.mem_range.1 hj; omega
    rw [hl] at h2
    rw [show (10000 : Nat) = 9999 + 1 from rfl, h, hc, h2, decide_eq_decide.2 (all_zero hl)]
  generalize (c16 (List.replicate 16 0)).toArray = Z at *
  simp [run_eqGuard_agg w _ _ _ _ _ _ hg, run_neq_struct, e2]
end
/-- Texts of digits, letter by letter. -/
theorem numT_nil : numT [] = 1 := rfl
theorem numT_more {t : List UInt8} {i : Nat} {c : UInt8} (h : t[i]? = some c) : numT (t.take (i + 1)) = 10 * numT (t.take i) + dgv c := by
  unfold numT
  rw [List.take_add_one, h, Option.toList_some, List.map_append, List.map_cons, List.map_nil, vb_snoc]
theorem dg_yes {c : UInt8} (h1 : 48 ≤ c.toNat) (h2 : c.toNat ≤ 57) : isDg c = true := by unfold isDg; rw [decide_eq_true h1, decide_eq_true h2]; rfl
theorem dg_no {c : UInt8} (h : c.toNat < 48 ∨ 57 < c.toNat) : isDg c = false := by
  unfold isDg
  rcases h with h | h
  · rw [decide_eq_false (by omega)]; rfl
  · rw [decide_eq_false (p := c.toNat ≤ 57) (by omega), Bool.and_false]
theorem Own.cap_ {α : Type} {w : World} {B g n c e sz : Nat} {enc : α → List Value} {xs : List α} (h : Own w B e sz enc (.slice (some ⟨g, 0, none⟩) n c) xs) : xs.length ≤ c := by
  rcases h.2 with ⟨h2, _⟩ | ⟨g', cap', cur, h2, _, _, h5, _⟩
  · cases h2
  · injection h2 with _ _ e3
    omega
/-- The last digits of a number, as letters. -/
theorem k29 {N k : Nat} (hN : N < 64 ^ 16) (h : N / 10 ^ k ≠ 0) : k < 29 := by
  rcases Nat.lt_or_ge k 29 with hk | hk
  · exact hk
  · have h1 : 10 ^ 29 ≤ 10 ^ k := Nat.pow_le_pow_right (by decide) hk
    have h2 : 64 ^ 16 < 10 ^ 29 := by decide
    exact absurd (Nat.div_eq_of_lt (by omega)) h
theorem pay_k0 {N k : Nat} (h : N / 10 ^ k = 0) (hk : k = 0) : PayT N none := by
  subst hk
  rw [Nat.pow_zero, Nat.div_one] at h
  subst h
  exact pay_zero
theorem pay_kn {N k : Nat} (hk : 0 < k) (h0 : N / 10 ^ (k - 1) ≠ 0) (h : N / 10 ^ k = 0) (h1 : ¬ 48 + N / 10 ^ (k - 1) % 10 = 49) : PayT N none := by
  obtain ⟨j, rfl⟩ : ∃ j, k = j + 1 := ⟨k - 1, by omega⟩
  rw [Nat.add_sub_cancel] at h0 h1
  obtain ⟨a, b, c⟩ := top_dig h0 h
  exact pay_none a b (by omega)
theorem pay_ks {N k : Nat} (hk : 0 < k) (h0 : N / 10 ^ (k - 1) ≠ 0) (h : N / 10 ^ k = 0) (h1 : 48 + N / 10 ^ (k - 1) % 10 = 49) : PayT N (some ((ld 10 (k - 1) N).reverse.map dch)) := by
  obtain ⟨j, rfl⟩ : ∃ j, k = j + 1 := ⟨k - 1, by omega⟩
  rw [Nat.add_sub_cancel] at h0 h1 ⊢
  obtain ⟨a, b, c⟩ := top_dig h0 h
  exact pay_some (by omega)
theorem dl_str {N k : Nat} (hk : 0 < k) : (((ld 10 k N).map (48 + ·)).take (k - 1)).reverse.map UInt8.ofNat = (ld 10 (k - 1) N).reverse.map dch := by
  obtain ⟨j, rfl⟩ : ∃ j, k = j + 1 := ⟨k - 1, by omega⟩
  rw [Nat.add_sub_cancel, ld_snoc, List.map_append, List.take_left' (by rw [List.length_map, ld_len]), ← List.map_reverse, List.map_map]
  rfl
theorem dl_lo (k N : Nat) : ∀ r ∈ (((ld 10 k N).map (48 + ·)).take (k - 1)).reverse, r < 128 := fun r hr => by
  obtain ⟨d, hd, rfl⟩ := List.mem_map.1 (List.mem_of_mem_take (List.mem_reverse.1 hr))
  have := ld_lt (b := 10) (by decide) k N d hd
  omega
end Go.Proofs.YtgjnchjkjdnidaaGreat

/- Walks (UA). Written by program. -/
namespace Go.Proofs.YtgjnchjkjdnidaaGreat
open Go.RowKit
set_option maxRecDepth 100000 in
set_option maxHeartbeats 1000000 in
theorem tms_ret (w0 : World) (g n m : Nat) (w : World) (hx0 : Ex w0 w) (hg0 : w0.heap.size ≤ g) (hb : Blk w g 62 (c16 (b64 n))) (hm : m ≤ 9) :
    Ret Tryz.prog 57 [.int .i64 10, .int .i64 (m : Int), .pointer (some ⟨g, 0, none⟩)] w (fun v w' => v = .tuple #[] ∧ ∃ w1, Ex w w1 ∧ Wr w1 w' g ∧ Blk w' g 62 (c16 (b64 (10 * n + m)))) := by
  have hB0 : Ex w w := Ex.rfl_ _
  refine Ret.of Tryz.func57 rfl Tryz.ntmps57 rfl ?_
  refine CW.seq ?_
  refine CW.region ?_
  refine RG.vl rfl rfl rfl (Ev.assign rfl rfl) ?_
  refine RG.done ?_
  refine QW.then_ ?_
  refine CW.block ?_
  refine CW.loop1 [(0, _), (2, _)] ⟨rfl, rfl, trivial⟩ (fun (p : Nat) => [(5, .int .i64 (15 - (p : Int))), (1, .int .i64 (car 64 10 m n p : Int))]) (fun p w' => (p ≤ 16 ∧ Wr w w' g ∧ Blk w' g 62 (c16 (tmL n (10 * n + m) p))) ∧ Ex w0 w') (fun p => 16 - p) (0) ⟨rfl, by rw [car_zero]; rfl, trivial⟩ ⟨⟨by omega, Wr.rfl_ _ _, by rw [tmL_zero]; exact hb⟩, hx0⟩ ?_
  rintro p wl1 ⟨⟨hp, hwr, hbk⟩, hxwl1⟩
  refine CW.sub (S' := [(5, _), (1, _), (0, _), (2, _)]) ⟨rfl, rfl, rfl, rfl, trivial⟩ ?_
  refine CW.seq ?_
  refine CW.seq ?_
  refine CW.region ?_
  refine RG.vl rfl rfl rfl (Ev.move rfl rfl) ?_
  refine RG.vl rfl rfl rfl (Ev.geq rfl rfl rfl) ?_
  refine RG.done ?_
  refine QW.then_ ?_
  refine CW.condP rfl (fun hc2 => ?_) (fun hc2 => ?_)
  · refine CW.skip ?_
    refine QW.then_ ?_
    refine CW.seq ?_
    refine CW.block ?_
    refine CW.seq ?_
    have hq : n / 64 ^ p % 64 < 64 := Nat.mod_lt _ (by decide)
    have hc10 := car_le (b := 64) (f := 10) (m := m) (by decide) (by omega) n p
    have hdig := car_dig (b := 64) (by decide) 10 m n p
    have hstp := car_step (b := 64) (by decide) 10 m n p
    have htl := tmL_len n (10 * n + m) p
    refine CW.region ?_
    refine RG.vl rfl rfl rfl (Ev.move rfl rfl) ?_
    refine RG.vl rfl rfl rfl (Ev.move rfl rfl) ?_
    refine RG.vl rfl rfl rfl ((Ev.move rfl rfl).conv (congrArg (Value.int .i64) (show (15 : Int) - (p : Int) = ((15 - p : Nat) : Int) by omega))) ?_
    refine RG.vl rfl rfl rfl (Ev.idxA rfl rfl rfl Tryz.underlying62 sz_5 (by omega)) ?_
    refine RG.vl rfl rfl rfl (Ev.ldAt rfl rfl Tryz.underlying5 rfl (hbk.cells) (c16_at (tmL_at n _ p (by omega)))) ?_
    refine RG.vl rfl rfl rfl (Ev.to64 rfl rfl Tryz.underlying5 Tryz.underlying3 (by omega)) ?_
    refine RG.vl rfl rfl rfl (Ev.mulI rfl rfl rfl (by omega)) ?_
    refine RG.vl rfl rfl rfl ((Ev.addI rfl rfl rfl (by omega)).conv (congrArg (Value.int .i64) (show (car 64 10 m n p : Int) + 10 * ((n / 64 ^ p % 64 : Nat) : Int) = (((car 64 10 m n p + 10 * (n / 64 ^ p % 64)) : Nat) : Int) by omega))) ?_
    refine RG.vl rfl rfl rfl (Ev.assign rfl rfl) ?_
    refine RG.done ?_
    refine QW.then_ ?_
    refine CW.seq ?_
    refine CW.region ?_
    refine RG.vl rfl rfl rfl ((Ev.move rfl rfl).conv (congrArg (Value.int .i64) (show (15 : Int) - (p : Int) = ((15 - p : Nat) : Int) by omega))) ?_
    refine RG.vl rfl rfl rfl (Ev.move rfl rfl) ?_
    refine RG.vl rfl rfl rfl ((Ev.remI rfl rfl rfl (by omega)).conv (congrArg (Value.int .i64) (show (((car 64 10 m n p + 10 * (n / 64 ^ p % 64)) : Nat) : Int) % 64 = (((car 64 10 m n p + 10 * (n / 64 ^ p % 64)) % 64 : Nat) : Int) by omega))) ?_
    refine RG.vl rfl rfl rfl (Ev.to8 rfl rfl Tryz.underlying3 Tryz.underlying5 (by omega)) ?_
    refine RG.vl rfl rfl rfl (Ev.idxA rfl rfl rfl Tryz.underlying62 sz_5 (by omega)) ?_
    refine RG.st (g := g) (k := _) rfl rfl rfl rfl rfl sz_5 rfl hbk (by rw [c16_len, htl, Nat.blt_eq]; omega) (fun ws3 hwws3 hbws3 => ?_)
    replace hxwl1 := Wr.below hxwl1 hwws3 hg0
    rw [c16_set, hdig, tmL_step _ _ _ (by omega)] at hbws3
    refine RG.done ?_
    refine QW.sub (S' := [(0, _), (1, _), (2, _), (5, _)]) ⟨rfl, rfl, rfl, rfl, trivial⟩ ?_
    refine QW.then_ ?_
    refine CW.region ?_
    refine RG.vl rfl rfl rfl (Ev.move rfl rfl) ?_
    refine RG.vl rfl rfl rfl ((Ev.quoI rfl rfl rfl (by omega)).conv (congrArg (Value.int .i64) (show (((car 64 10 m n p + 10 * (n / 64 ^ p % 64)) : Nat) : Int) / 64 = (((car 64 10 m n p + 10 * (n / 64 ^ p % 64)) / 64 : Nat) : Int) by omega))) ?_
    refine RG.vl rfl rfl rfl (Ev.assign rfl rfl) ?_
    refine RG.done ?_
    refine QW.blockN ?_
    refine QW.then_ ?_
    refine CW.region ?_
    refine RG.vl rfl rfl rfl (Ev.move rfl rfl) ?_
    refine RG.vl rfl rfl rfl (Ev.subI rfl rfl rfl (by omega)) ?_
    refine RG.vl rfl rfl rfl (Ev.assign rfl rfl) ?_
    refine RG.done ?_
    refine QW.round1 (p + 1) ⟨congrArg (fun x => some (Value.int .i64 x)) (by omega), by rw [← hstp]; rfl, trivial⟩ ⟨rfl, rfl, trivial⟩ ⟨⟨by omega, Wr.tr hwr hwws3, hbws3⟩, hxwl1⟩ (by omega)
  · refine CW.exit ?_
    refine QW.thenExit ?_
    refine QW.thenExit ?_
    refine QW.blockHit ?_
    refine QW.end0 rfl ?_
    obtain rfl : p = 16 := by omega
    rw [tmL_end] at hbk
    exact ⟨rfl, w, Ex.rfl_ _, hwr, hbk⟩

set_option maxRecDepth 100000 in
set_option maxHeartbeats 1000000 in
theorem numOf_ret (t : List UInt8) (w : World) (hlen : t.length ≤ 1000) :
    Ret Tryz.prog 25 [.string ⟨t.toArray⟩] w (fun v w' => v = .tuple #[.agg (c16 (b64 (if t.all isDg then numT t else 0))).toArray, .bool (t.all isDg)] ∧ Ex w w') := by
  have hts := sb_len t
  have hB0 : Ex w w := Ex.rfl_ _
  refine Ret.of Tryz.func25 rfl Tryz.ntmps25 rfl ?_
  refine CW.seq ?_
  refine CW.region ?_
  refine RG.alloc_ rfl rfl rfl rfl inf_62 (fun gR w1 egR hx1 hb1 => ?_)
  have hle2 : w.heap.size ≤ gR := by have := (Ex.rfl_ w).size; omega
  have hE3 := hx1
  refine RG.vl rfl rfl rfl (Ev.assign rfl rfl) ?_
  refine RG.done ?_
  refine QW.then_ ?_
  refine CW.seq ?_
  refine CW.region ?_
  refine RG.alloc_ rfl rfl rfl rfl inf_62 (fun gN w4 egN hx4 hb4 => ?_)
  have hle5 : w.heap.size ≤ gN := by have := hE3.size; omega
  have hle6 : w1.heap.size ≤ gN := by have := (Ex.rfl_ w1).size; omega
  have hlt7 : gR < gN := by have := Blk.lt hb1; omega
  replace hE3 := Ex.tr hE3 hx4
  have hE8 := hx4
  refine RG.done ?_
  refine QW.then_ ?_
  refine CW.seq ?_
  refine CW.region ?_
  refine RG.vl rfl rfl rfl (Ev.mkFn rfl rfl rfl rfl rfl) ?_
  refine RG.vl rfl rfl rfl (Ev.assign rfl rfl) ?_
  refine RG.done ?_
  refine QW.then_ ?_
  refine CW.seq ?_
  refine CW.region ?_
  refine RG.vl rfl rfl rfl (Ev.move rfl rfl) ?_
  refine RG.call rfl rfl rfl rfl rfl rfl rfl en_57 (tms_ret w gN (0) (1) _ (Ex.tr hB0 hE3) hle5 (by rw [c16_zero]; exact hb4) (by decide)) ?_
  rintro _ w9 ⟨rfl, w9a, hxw9a, hww9, hbw9⟩
  replace hE3 := Ex.tr hE3 hxw9a
  replace hE8 := Ex.tr hE8 hxw9a
  have hE10 := hxw9a
  replace hE3 := Wr.below hE3 hww9 hle5
  replace hE8 := Wr.below hE8 hww9 hle6
  refine RG.done ?_
  refine QW.then_ ?_
  refine CW.seq ?_
  refine CW.seq ?_
  refine CW.region ?_
  refine RG.vl rfl rfl rfl (Ev.move rfl rfl) ?_
  refine RG.sRange rfl rfl rfl rfl rfl Tryz.underlying9 (fun gi w11 egi hx11 hb11 => ?_)
  have hle12 : w.heap.size ≤ gi := by have := hE3.size; omega
  have hle13 : w1.heap.size ≤ gi := by have := hE8.size; omega
  have hle14 : w9.heap.size ≤ gi := by have := (Ex.rfl_ w9).size; omega
  have hlt15 : gR < gi := by have := Blk.lt (hb1.ext hE8); omega
  have hlt16 : gN < gi := by have := Blk.lt hbw9; omega
  replace hE3 := Ex.tr hE3 hx11
  replace hE8 := Ex.tr hE8 hx11
  have hE17 := hx11
  refine RG.done ?_
  refine QW.then_ ?_
  refine CW.block ?_
  refine CW.loop1 [(2, _), (4, _), (5, _), (12, _)] ⟨rfl, rfl, rfl, rfl, trivial⟩ (fun (i : Nat) => []) (fun i w' => (i ≤ t.length ∧ (t.take i).all isDg = true ∧ Si w' gi ⟨t.toArray⟩ i ∧ Blk w' gN 62 (c16 (b64 (numT (t.take i)))) ∧ Blk w' gR 62 (List.replicate 16 (.int .u8 0))) ∧ Ex w w') (fun i => t.length - i) (0) trivial ⟨⟨by omega, rfl, hb11, (hbw9.ext hE17), (hb1.ext hE8)⟩, (Ex.tr hB0 hE3)⟩ ?_
  rintro i wl18 ⟨⟨hi, hall, hsi, hbN, hbR⟩, hxwl18⟩
  refine CW.sub (S' := [(2, _), (4, _), (5, _), (12, _)]) ⟨rfl, rfl, rfl, rfl, trivial⟩ ?_
  refine CW.seq ?_
  refine CW.region ?_
  refine RG.sNext rfl rfl rfl rfl rfl hsi (fun hend => ?_) (fun wn19 hpos hwn19 hiwn19 => ?_)
  · refine RG.vl rfl rfl rfl (Ev.extract rfl rfl rfl) ?_
    refine RG.done ?_
    refine QW.then_ ?_
    refine CW.seq ?_
    refine CW.condF rfl ?_
    refine CW.exit ?_
    refine QW.thenExit ?_
    refine QW.thenExit ?_
    refine QW.blockHit ?_
    refine QW.then_ ?_
    refine CW.seq ?_
    obtain rfl : i = t.length := by rw [sb_len] at hend; omega
    rw [List.take_length] at hall hbN
    refine CW.region ?_
    refine RG.vl rfl rfl rfl (Ev.ldAgg rfl rfl Tryz.underlying62 rfl sz_62 (by rw [c16_len, b64_len]) hbN.cells) ?_
    refine RG.stAll (g := gR) rfl rfl rfl rfl rfl sz_62 (show (c16 (b64 (numT t))).toArray.size = 16 by simp [c16_len, b64_len]) rfl (by show (c16 (b64 (numT t))).all _ = true; exact c16_one _) hbR (fun ws20 hwws20 hbws20 => ?_)
    replace hsi := Si.far hsi hwws20 (by omega)
    replace hbN := Blk.far hbN hwws20 (by omega)
    replace hxwl18 := Wr.below hxwl18 hwws20 hle2
    refine RG.vl rfl rfl rfl (Ev.assign rfl rfl) ?_
    refine RG.done ?_
    refine QW.then_ ?_
    refine CW.ret ?_
    refine QW.retCT rfl rfl rfl Tryz.underlying62 rfl sz_62 (us := c16 _) (by rw [c16_len, b64_len]) hbws20 ?_
    have hB := (Ex.tr hB0 hxwl18)
    exact ⟨by rw [hall]; rfl, hB⟩
  · replace hbN := Blk.far hbN hwn19 (by omega)
    replace hbR := Blk.far hbR hwn19 (by omega)
    replace hxwl18 := Wr.below hxwl18 hwn19 hle12
    refine RG.vl rfl rfl rfl (Ev.extract rfl rfl rfl) ?_
    refine RG.done ?_
    refine QW.then_ ?_
    refine CW.seq ?_
    refine CW.condT rfl ?_
    refine CW.skip ?_
    refine QW.then_ ?_
    refine CW.block ?_
    refine CW.seq ?_
    obtain ⟨c, hc⟩ : ∃ c, t[i]? = some c := ⟨_, List.getElem?_eq_getElem (by rw [sb_len] at hpos; exact hpos)⟩
    have hii := (List.getElem?_eq_some_iff.1 hc).1
    have hc8 := c.toNat_lt
    rcases Nat.lt_or_ge c.toNat 128 with hlo | hhi
    · rw [dec_lo hc hlo] at hiwn19 ⊢
      refine CW.region ?_
      refine RG.vl rfl rfl rfl (Ev.extract rfl rfl rfl) ?_
      refine RG.vl rfl rfl rfl (Ev.assign rfl rfl) ?_
      refine RG.done ?_
      refine QW.then_ ?_
      refine CW.seq ?_
      refine CW.seq ?_
      refine CW.region ?_
      refine RG.vl rfl rfl rfl (Ev.move rfl rfl) ?_
      refine RG.vl rfl rfl rfl (Ev.lss rfl rfl rfl) ?_
      refine RG.vl rfl rfl rfl (Ev.move rfl rfl) ?_
      refine RG.split (d := 18) rfl (fun hg21 => ?_) (fun hg21 => ?_)
      · refine RG.pass rfl rfl rfl ?_
        refine RG.pass rfl rfl rfl ?_
        refine RG.vl rfl rfl rfl (Ev.pickT rfl rfl rfl) ?_
        refine RG.done ?_
        refine QW.then_ ?_
        refine CW.condT rfl ?_
        refine CW.seq ?_
        refine CW.region ?_
        refine RG.vl rfl rfl rfl ((Ev.buildAZ (zs := List.replicate 16 (.int .u8 0)) rfl Tryz.underlying62 sz_5 inf_62 rfl).conv (by rw [← c16_zero])) ?_
        refine RG.stAll (g := gR) rfl rfl rfl rfl rfl sz_62 (show (c16 (b64 0)).toArray.size = 16 by simp [c16_len, b64_len]) rfl (by show (c16 (b64 0)).all _ = true; exact c16_one _) hbR (fun ws22 hwws22 hbws22 => ?_)
        replace hbN := Blk.far hbN hwws22 (by omega)
        replace hiwn19 := Si.far hiwn19 hwws22 (by omega)
        replace hxwl18 := Wr.below hxwl18 hwws22 hle2
        refine RG.vl rfl rfl rfl (Ev.assign rfl rfl) ?_
        refine RG.done ?_
        refine QW.then_ ?_
        refine CW.ret ?_
        refine QW.thenRet ?_
        refine QW.blockR ?_
        refine QW.thenRet ?_
        refine QW.blockR ?_
        refine QW.thenRet ?_
        refine QW.retCT rfl rfl rfl Tryz.underlying62 rfl sz_62 (us := c16 _) (by rw [c16_len, b64_len]) hbws22 ?_
        have hB := (Ex.tr hB0 hxwl18)
        exact ⟨by rw [show t.all isDg = false from all_not hc (dg_no (by omega))]; rfl, hB⟩
      · refine RG.vl rfl rfl rfl (Ev.move rfl rfl) ?_
        refine RG.vl rfl rfl rfl (Ev.gtr rfl rfl rfl) ?_
        refine RG.vl rfl rfl rfl (Ev.pickF rfl rfl rfl) ?_
        refine RG.done ?_
        refine QW.then_ ?_
        refine CW.condP rfl (fun hc23 => ?_) (fun hc23 => ?_)
        · refine CW.seq ?_
          refine CW.region ?_
          refine RG.vl rfl rfl rfl ((Ev.buildAZ (zs := List.replicate 16 (.int .u8 0)) rfl Tryz.underlying62 sz_5 inf_62 rfl).conv (by rw [← c16_zero])) ?_
          refine RG.stAll (g := gR) rfl rfl rfl rfl rfl sz_62 (show (c16 (b64 0)).toArray.size = 16 by simp [c16_len, b64_len]) rfl (by show (c16 (b64 0)).all _ = true; exact c16_one _) hbR (fun ws24 hwws24 hbws24 => ?_)
          replace hbN := Blk.far hbN hwws24 (by omega)
          replace hiwn19 := Si.far hiwn19 hwws24 (by omega)
          replace hxwl18 := Wr.below hxwl18 hwws24 hle2
          refine RG.vl rfl rfl rfl (Ev.assign rfl rfl) ?_
          refine RG.done ?_
          refine QW.then_ ?_
          refine CW.ret ?_
          refine QW.thenRet ?_
          refine QW.blockR ?_
          refine QW.thenRet ?_
          refine QW.blockR ?_
          refine QW.thenRet ?_
          refine QW.retCT rfl rfl rfl Tryz.underlying62 rfl sz_62 (us := c16 _) (by rw [c16_len, b64_len]) hbws24 ?_
          have hB := (Ex.tr hB0 hxwl18)
          exact ⟨by rw [show t.all isDg = false from all_not hc (dg_no (by omega))]; rfl, hB⟩
        · refine CW.skip ?_
          refine QW.then_ ?_
          refine CW.region ?_
          refine RG.vl rfl rfl rfl (Ev.move rfl rfl) ?_
          refine RG.vl rfl rfl rfl (Ev.move rfl rfl) ?_
          refine RG.vl rfl rfl rfl (Ev.sub32 rfl rfl rfl (by omega)) ?_
          refine RG.vl rfl rfl rfl ((Ev.to64 rfl rfl Tryz.underlying21 Tryz.underlying3 (by omega)).conv (congrArg (Value.int .i64) (show (c.toNat : Int) - 48 = ((dgv c : Nat) : Int) by unfold dgv; omega))) ?_
          refine RG.call rfl rfl rfl rfl rfl rfl rfl en_57 (tms_ret w gN (numT (t.take i)) (dgv c) _ (Ex.tr hB0 hxwl18) hle5 (hbN) (by unfold dgv; omega)) ?_
          rintro _ w25 ⟨rfl, w25a, hxw25a, hww25, hbw25⟩
          replace hxwl18 := Ex.tr hxwl18 hxw25a
          have hE26 := hxw25a
          replace hbR := Blk.far (hbR.ext hE26) hww25 (by omega)
          replace hiwn19 := Si.far (hiwn19.ext hE26) hww25 (by omega)
          replace hxwl18 := Wr.below hxwl18 hww25 hle5
          refine RG.done ?_
          refine QW.sub (S' := [(2, _), (4, _), (5, _), (12, _)]) ⟨rfl, rfl, rfl, rfl, trivial⟩ ?_
          refine QW.blockN ?_
          refine QW.round1 (i + 1) trivial ⟨rfl, rfl, rfl, rfl, trivial⟩ ⟨⟨by omega, all_take hc hall (dg_yes (by omega) (by omega)), hiwn19, by rw [numT_more hc]; exact hbw25, hbR⟩, (Ex.tr hB0 hxwl18)⟩ (by omega)
    · obtain ⟨hd1, hd2⟩ := dec_hi hc hhi
      generalize Utf8.decode (⟨t.toArray⟩ : ByteArray) i = D at *
      refine CW.region ?_
      refine RG.vl rfl rfl rfl (Ev.extract rfl rfl rfl) ?_
      refine RG.vl rfl rfl rfl (Ev.assign rfl rfl) ?_
      refine RG.done ?_
      refine QW.then_ ?_
      refine CW.seq ?_
      refine CW.seq ?_
      refine CW.region ?_
      refine RG.vl rfl rfl rfl (Ev.move rfl rfl) ?_
      refine RG.vl rfl rfl rfl (Ev.lss rfl rfl rfl) ?_
      refine RG.vl rfl rfl rfl (Ev.move rfl rfl) ?_
      refine RG.split (d := 18) rfl (fun hg27 => ?_) (fun hg27 => ?_)
      · refine RG.pass rfl rfl rfl ?_
        refine RG.pass rfl rfl rfl ?_
        refine RG.vl rfl rfl rfl (Ev.pickT rfl rfl rfl) ?_
        refine RG.done ?_
        refine QW.then_ ?_
        refine CW.condT rfl ?_
        refine CW.seq ?_
        refine CW.region ?_
        refine RG.vl rfl rfl rfl ((Ev.buildAZ (zs := List.replicate 16 (.int .u8 0)) rfl Tryz.underlying62 sz_5 inf_62 rfl).conv (by rw [← c16_zero])) ?_
        refine RG.stAll (g := gR) rfl rfl rfl rfl rfl sz_62 (show (c16 (b64 0)).toArray.size = 16 by simp [c16_len, b64_len]) rfl (by show (c16 (b64 0)).all _ = true; exact c16_one _) hbR (fun ws28 hwws28 hbws28 => ?_)
        replace hbN := Blk.far hbN hwws28 (by omega)
        replace hiwn19 := Si.far hiwn19 hwws28 (by omega)
        replace hxwl18 := Wr.below hxwl18 hwws28 hle2
        refine RG.vl rfl rfl rfl (Ev.assign rfl rfl) ?_
        refine RG.done ?_
        refine QW.then_ ?_
        refine CW.ret ?_
        refine QW.thenRet ?_
        refine QW.blockR ?_
        refine QW.thenRet ?_
        refine QW.blockR ?_
        refine QW.thenRet ?_
        refine QW.retCT rfl rfl rfl Tryz.underlying62 rfl sz_62 (us := c16 _) (by rw [c16_len, b64_len]) hbws28 ?_
        have hB := (Ex.tr hB0 hxwl18)
        exact ⟨by rw [show t.all isDg = false from all_not hc (dg_no (by omega))]; rfl, hB⟩
      · refine RG.vl rfl rfl rfl (Ev.move rfl rfl) ?_
        refine RG.vl rfl rfl rfl (Ev.isT (Ev.gtr rfl rfl rfl) (by omega)) ?_
        refine RG.vl rfl rfl rfl (Ev.pickF rfl rfl rfl) ?_
        refine RG.done ?_
        refine QW.then_ ?_
        refine CW.condT rfl ?_
        refine CW.seq ?_
        refine CW.region ?_
        refine RG.vl rfl rfl rfl ((Ev.buildAZ (zs := List.replicate 16 (.int .u8 0)) rfl Tryz.underlying62 sz_5 inf_62 rfl).conv (by rw [← c16_zero])) ?_
        refine RG.stAll (g := gR) rfl rfl rfl rfl rfl sz_62 (show (c16 (b64 0)).toArray.size = 16 by simp [c16_len, b64_len]) rfl (by show (c16 (b64 0)).all _ = true; exact c16_one _) hbR (fun ws29 hwws29 hbws29 => ?_)
        replace hbN := Blk.far hbN hwws29 (by omega)
        replace hiwn19 := Si.far hiwn19 hwws29 (by omega)
        replace hxwl18 := Wr.below hxwl18 hwws29 hle2
        refine RG.vl rfl rfl rfl (Ev.assign rfl rfl) ?_
        refine RG.done ?_
        refine QW.then_ ?_
        refine CW.ret ?_
        refine QW.thenRet ?_
        refine QW.blockR ?_
        refine QW.thenRet ?_
        refine QW.blockR ?_
        refine QW.thenRet ?_
        refine QW.retCT rfl rfl rfl Tryz.underlying62 rfl sz_62 (us := c16 _) (by rw [c16_len, b64_len]) hbws29 ?_
        have hB := (Ex.tr hB0 hxwl18)
        exact ⟨by rw [show t.all isDg = false from all_not hc (dg_no (by omega))]; rfl, hB⟩

set_option maxRecDepth 100000 in
set_option maxHeartbeats 1000000 in
theorem reverseR_ret (w0 : World) (x : Value) (l : List Nat) (w : World) (hx0 : Ex w0 w) (hown : Own w w0.heap.size 21 1 encR x l) (hlen : l.length ≤ 100000) :
    Ret Tryz.prog 71 [x] w (fun v w' => v = .tuple #[] ∧ Own w' w0.heap.size 21 1 encR x l.reverse ∧ Ex w0 w') := by
  have hB0 : Ex w w := Ex.rfl_ _
  refine Ret.of Tryz.func71 rfl Tryz.ntmps71 rfl ?_
  refine CW.seq ?_
  refine CW.region ?_
  refine RG.vl rfl rfl rfl (Ev.move rfl rfl) ?_
  refine RG.vl rfl rfl rfl (Ev.lenL rfl rfl rfl Tryz.underlying138 ((hown.rdl encR_len))) ?_
  refine RG.vl rfl rfl rfl (Ev.subI rfl rfl rfl (by omega)) ?_
  refine RG.vl rfl rfl rfl (Ev.assign rfl rfl) ?_
  refine RG.vl rfl rfl rfl (Ev.assign rfl rfl) ?_
  refine RG.done ?_
  refine QW.then_ ?_
  refine CW.block ?_
  refine CW.loop1 [(0, _)] ⟨rfl, trivial⟩ (fun (i : Nat) => [(2, .int .i64 (i : Int)), (3, .int .i64 ((l.length : Int) - 1 - (i : Int)))]) (fun i w' => (2 * i ≤ l.length + 1 ∧ Own w' w0.heap.size 21 1 encR x (rvS l i)) ∧ Ex w0 w') (fun i => l.length - i) (0) ⟨rfl, congrArg (fun x => some (Value.int .i64 x)) (by omega), trivial⟩ ⟨⟨by omega, by rw [rvS_zero]; exact hown⟩, hx0⟩ ?_
  rintro i wl1 ⟨⟨hi, hoL⟩, hxwl1⟩
  refine CW.sub (S' := [(2, _), (3, _), (0, _)]) ⟨rfl, rfl, rfl, trivial⟩ ?_
  refine CW.seq ?_
  refine CW.seq ?_
  refine CW.region ?_
  refine RG.vl rfl rfl rfl (Ev.move rfl rfl) ?_
  refine RG.vl rfl rfl rfl (Ev.move rfl rfl) ?_
  refine RG.vl rfl rfl rfl (Ev.lss rfl rfl rfl) ?_
  refine RG.done ?_
  refine QW.then_ ?_
  refine CW.condP rfl (fun hc2 => ?_) (fun hc2 => ?_)
  · refine CW.skip ?_
    refine QW.then_ ?_
    refine CW.seq ?_
    refine CW.block ?_
    obtain ⟨j, hj⟩ : ∃ j, j = l.length - 1 - i := ⟨_, rfl⟩
    have hji : 2 * i + 1 < l.length := by omega
    have ha1 : (rvS l i)[i]? = some (cf l i) := by rw [rvS_at (by omega), if_neg (by omega)]
    have ha2 : (rvS l i)[j]? = some (cf l j) := by rw [rvS_at (by omega), if_neg (by omega)]
    have hcj : ((l.length : Int) - 1 - (i : Int)) = (j : Int) := by omega
    rw [hcj]
    have hrl := rvS_len l i
    have ha3 : ((rvS l i).set i (cf l j))[j]? = some (cf l j) := by rw [List.getElem?_set_ne (by omega)]; exact ha2
    refine CW.draw [13, 15] (.ex) 16 rfl mixed (fun wd3 hxwd3 => ?_)
    replace hxwl1 := Ex.tr hxwl1 hxwd3
    have hE4 := hxwd3
    refine AG.takeW 0 rfl (by kernel_rfl) (by kernel_rfl) rfl rfl rfl (fun _ => Ev.move rfl rfl) ?_
    refine AG.takeW 1 rfl (by kernel_rfl) (by kernel_rfl) rfl rfl rfl (fun _ => Ev.move rfl rfl) ?_
    refine AG.takeW 2 rfl (by kernel_rfl) (by kernel_rfl) rfl rfl rfl (fun _ => Ev.move rfl rfl) ?_
    refine AG.takeW 3 rfl (by kernel_rfl) (by kernel_rfl) rfl rfl rfl (fun _ => Ev.move rfl rfl) ?_
    refine AG.takeW 4 rfl (by kernel_rfl) (by kernel_rfl) rfl rfl rfl (fun _ => Ev.move rfl rfl) ?_
    refine AG.takeW 5 rfl (by kernel_rfl) (by kernel_rfl) rfl rfl rfl (fun _ => Ev.move rfl rfl) ?_
    refine AG.idxO _ 6 rfl (by kernel_rfl) (by kernel_rfl) rfl rfl rfl rfl rfl rfl Tryz.underlying138 sz_21 encR_len ((Own.ext hoL hE4)) (ha2) (fun g6 hg6 hBg6 hp5b hp5 => ?_)
    refine AG.take 7 rfl (by kernel_rfl) (by kernel_rfl) rfl rfl rfl (fun wq hq => Ev.ld0 rfl rfl Tryz.underlying21 rfl (hp5.ext hq hp5b) (rfl)) ?_
    refine AG.takeW 8 rfl (by kernel_rfl) (by kernel_rfl) rfl rfl rfl (fun _ => Ev.move rfl rfl) ?_
    refine AG.takeW 9 rfl (by kernel_rfl) (by kernel_rfl) rfl rfl rfl (fun _ => Ev.move rfl rfl) ?_
    refine AG.idxO _ 10 rfl (by kernel_rfl) (by kernel_rfl) rfl rfl rfl rfl rfl rfl Tryz.underlying138 sz_21 encR_len ((Own.ext hoL hE4)) (ha1) (fun g8 hg8 hBg8 hp7b hp7 => ?_)
    refine AG.take 11 rfl (by kernel_rfl) (by kernel_rfl) rfl rfl rfl (fun wq hq => Ev.ld0 rfl rfl Tryz.underlying21 rfl (hp7.ext hq hp7b) (rfl)) ?_
    refine AG.idxO _ 12 rfl (by kernel_rfl) (by kernel_rfl) rfl rfl rfl rfl rfl rfl Tryz.underlying138 sz_21 encR_len ((Own.ext hoL hE4)) (ha1) (fun g10 hg10 hBg10 hp9b hp9 => ?_)
    refine AG.only 13 rfl (by kernel_rfl) ?_
    refine RG.stOw0 (g := g10) (cf l j) rfl rfl rfl rfl rfl sz_21 rfl (fun _ => rfl) (Own.ext hoL hE4) hg10 (ha1) rfl (rfl) (fun ws12 hwws12 hown13 => ?_)
    replace hxwl1 := Wr.below hxwl1 hwws12 hBg10
    refine RG.done ?_
    refine QW.an (fun h => by simp at h) ?_
    refine AG.idxO _ 14 rfl (by kernel_rfl) (by kernel_rfl) rfl rfl rfl rfl rfl rfl Tryz.underlying138 sz_21 encR_len (hown13) (ha3) (fun g15 hg15 hBg15 hp14b hp14 => ?_)
    refine AG.only 15 rfl (by kernel_rfl) ?_
    refine RG.stOw0 (g := g15) (cf l i) rfl rfl rfl rfl rfl sz_21 rfl (fun _ => rfl) hown13 hg15 (ha3) rfl (rfl) (fun ws17 hwws17 hown18 => ?_)
    replace hxwl1 := Wr.below hxwl1 hwws17 hBg15
    refine RG.done ?_
    refine QW.an (fun h => by simp at h) ?_
    refine AG.done (by kernel_rfl) ?_
    refine QW.sub (S' := [(0, _), (2, _), (3, _)]) ⟨rfl, rfl, rfl, trivial⟩ ?_
    refine QW.blockN ?_
    refine QW.then_ ?_
    refine CW.region ?_
    refine RG.vl rfl rfl rfl (Ev.move rfl rfl) ?_
    refine RG.vl rfl rfl rfl (Ev.addI rfl rfl rfl (by omega)) ?_
    refine RG.vl rfl rfl rfl (Ev.move rfl rfl) ?_
    refine RG.vl rfl rfl rfl (Ev.subI rfl rfl rfl (by omega)) ?_
    refine RG.vl rfl rfl rfl (Ev.assign rfl rfl) ?_
    refine RG.vl rfl rfl rfl (Ev.assign rfl rfl) ?_
    refine RG.done ?_
    refine QW.round1 (i + 1) ⟨rfl, congrArg (fun x => some (Value.int .i64 x)) (by omega), trivial⟩ ⟨rfl, trivial⟩ ⟨⟨by omega, by rw [← rvS_step hji, ← hj]; exact hown18⟩, hxwl1⟩ (by omega)
  · refine CW.exit ?_
    refine QW.thenExit ?_
    refine QW.thenExit ?_
    refine QW.blockHit ?_
    refine QW.end0 rfl ?_
    rw [rvS_end (by omega)] at hoL
    exact ⟨rfl, hoL, hxwl1⟩

end Go.Proofs.YtgjnchjkjdnidaaGreat

/- Walks (UB). Written by program. -/
namespace Go.Proofs.YtgjnchjkjdnidaaGreat
open Go.RowKit
set_option maxRecDepth 100000 in
set_option maxHeartbeats 1000000 in
theorem digOf_ret (l : List Nat) (w : World) (hl : l.length = 16) (hel : El l) :
    Ret Tryz.prog 32 [.agg (c16 l).toArray] w (fun v w' => ∃ r, PayT (vb 64 0 l) r ∧ v = .tuple #[.string ⟨(r.getD []).toArray⟩, .bool r.isSome] ∧ Ex w w') := by
  have hN16 : vb 64 0 l < 64 ^ 16 := by have := vb_lt (b := 64) (by decide) hel; rw [hl] at this; exact this
  obtain ⟨N, hN⟩ : ∃ N, vb 64 0 l = N := ⟨_, rfl⟩
  rw [hN] at hN16 ⊢
  have hB0 : Ex w w := Ex.rfl_ _
  refine Ret.of Tryz.func32 rfl Tryz.ntmps32 rfl ?_
  refine CW.seq ?_
  refine CW.region ?_
  refine RG.box rfl rfl rfl rfl rfl (fun gN w1 egN hx1 hb1 => ?_)
  have hle2 : w.heap.size ≤ gN := by have := (Ex.rfl_ w).size; omega
  have hE3 := hx1
  refine RG.vl rfl rfl rfl (Ev.assign rfl rfl) ?_
  refine RG.vl rfl rfl rfl (Ev.assign rfl rfl) ?_
  refine RG.done ?_
  refine QW.then_ ?_
  refine CW.seq ?_
  refine CW.region ?_
  refine RG.vl rfl rfl rfl (Ev.assign rfl rfl) ?_
  refine RG.done ?_
  refine QW.then_ ?_
  refine CW.seq ?_
  refine CW.block ?_
  refine CW.loop3 [(1, _), (2, _), (3, _)] ⟨rfl, rfl, rfl, trivial⟩ (fun (k : Nat) (L : List Nat) (u : Value) => [(4, u)]) (fun k L u w' => (k ≤ 29 ∧ L.length = 16 ∧ El L ∧ vb 64 0 L = N / 10 ^ k ∧ (0 < k → N / 10 ^ (k - 1) ≠ 0) ∧ Blk w' gN 62 (c16 L) ∧ Own w' w.heap.size 21 1 encR u ((ld 10 k N).map (48 + ·)) ∧ (u.ownBlock = some gN → False)) ∧ Ex w w') (fun k L u => 29 - k) (0) (l) (.slice none 0 0) ⟨rfl, trivial⟩ ⟨⟨by omega, hl, hel, by rw [hN, Nat.pow_zero, Nat.div_one], fun h => absurd h (by omega), hb1, Own.nil_ _ _ _ _ _, fun e => by cases e⟩, (Ex.tr hB0 hE3)⟩ ?_
  rintro k L u wl4 ⟨⟨hk, hL, hLe, hv, hk0, hbN, hu, hsb⟩, hxwl4⟩
  refine CW.sub (S' := [(4, _), (1, _), (2, _), (3, _)]) ⟨rfl, rfl, rfl, rfl, trivial⟩ ?_
  refine CW.seq ?_
  refine CW.seq ?_
  refine CW.region ?_
  refine RG.vl rfl rfl rfl (Ev.ldAgg rfl rfl Tryz.underlying62 rfl sz_62 (by rw [c16_len, hL]) hbN.cells) ?_
  refine RG.vl rfl rfl rfl ((Ev.buildAZ (zs := List.replicate 16 (.int .u8 0)) rfl Tryz.underlying62 sz_5 inf_62 rfl).conv (show _ = Value.agg (c16 (List.replicate 16 0)).toArray from rfl)) ?_
  refine RG.vl rfl rfl rfl (Ev.neZ hL rfl rfl rfl Tryz.underlying62 Tryz.underlying5 inf_5 (by kernel_rfl)) ?_
  refine RG.done ?_
  refine QW.then_ ?_
  refine CW.condP rfl (fun hc5 => ?_) (fun hc5 => ?_)
  · refine CW.skip ?_
    refine QW.then_ ?_
    refine CW.block ?_
    refine CW.seq ?_
    have hk29 : k < 29 := k29 hN16 (by rw [← hv]; assumption)
    have hul : (((ld 10 k N).map (48 + ·))).length = k := by rw [List.length_map, ld_len]
    refine CW.region ?_
    refine RG.vl rfl rfl rfl (Ev.assign rfl rfl) ?_
    refine RG.done ?_
    refine QW.then_ ?_
    refine CW.seq ?_
    refine CW.seq ?_
    refine CW.region ?_
    refine RG.vl rfl rfl rfl (Ev.ldAgg rfl rfl Tryz.underlying62 rfl sz_62 (by rw [c16_len, hL]) hbN.cells) ?_
    refine RG.vl rfl rfl rfl (Ev.move rfl rfl) ?_
    refine RG.done ?_
    refine QW.then_ ?_
    refine CW.block ?_
    refine CW.loop1 [(1, _), (2, _), (3, _), (4, _), (11, _)] ⟨rfl, rfl, rfl, rfl, rfl, trivial⟩ (fun (i : Nat) => [(12, .int .i64 (i : Int)), (5, .int .i64 ((dv 64 10 0 (L.take i)).2 : Int))]) (fun i w' => (i ≤ 16 ∧ Blk w' gN 62 (c16 (dvL 64 10 L i)) ∧ Own w' w.heap.size 21 1 encR u ((ld 10 k N).map (48 + ·))) ∧ Ex w w') (fun i => 16 - i) (0) ⟨rfl, rfl, trivial⟩ ⟨⟨by omega, hbN, hu⟩, (Ex.tr hB0 hxwl4)⟩ ?_
    rintro i wl6 ⟨⟨hi, hbN, hu⟩, hxwl6⟩
    refine CW.sub (S' := [(12, _), (5, _), (1, _), (2, _), (3, _), (4, _), (11, _)]) ⟨rfl, rfl, rfl, rfl, rfl, rfl, rfl, trivial⟩ ?_
    refine CW.seq ?_
    refine CW.region ?_
    refine RG.vl rfl rfl rfl (Ev.lss rfl rfl rfl) ?_
    refine RG.done ?_
    refine QW.then_ ?_
    refine CW.seq ?_
    refine CW.condP rfl (fun hc7 => ?_) (fun hc7 => ?_)
    · refine CW.skip ?_
      refine QW.then_ ?_
      refine CW.seq ?_
      refine CW.block ?_
      refine CW.seq ?_
      obtain ⟨x, hx⟩ : ∃ x, L[i]? = some x := ⟨_, List.getElem?_eq_getElem (by omega)⟩
      have hx64 := hLe.get hx
      have hr10 := dv_rest 64 (d := 10) (by decide) (L.take i) 0 (by decide)
      have hdl := dvL_len 64 10 L i
      have hdt := dv_take (b := 64) (d := 10) hx
      refine CW.region ?_
      refine RG.vl rfl rfl rfl (Ev.move rfl rfl) ?_
      refine RG.vl rfl rfl rfl (Ev.idxArr rfl rfl rfl Tryz.underlying62 Tryz.underlying5 rfl sz_5 (by omega) (c16_at' hx)) ?_
      refine RG.vl rfl rfl rfl (Ev.assign rfl rfl) ?_
      refine RG.vl rfl rfl rfl (Ev.assign rfl rfl) ?_
      refine RG.done ?_
      refine QW.then_ ?_
      refine CW.seq ?_
      refine CW.region ?_
      refine RG.vl rfl rfl rfl (Ev.move rfl rfl) ?_
      refine RG.vl rfl rfl rfl (Ev.mulI rfl rfl rfl (by omega)) ?_
      refine RG.vl rfl rfl rfl (Ev.move rfl rfl) ?_
      refine RG.vl rfl rfl rfl (Ev.to64 rfl rfl Tryz.underlying5 Tryz.underlying3 (by omega)) ?_
      refine RG.vl rfl rfl rfl ((Ev.addI rfl rfl rfl (by omega)).conv (congrArg (Value.int .i64) (show (((dv 64 10 0 (L.take i)).2 : Nat) : Int) * 64 + (x : Int) = (((64 * (dv 64 10 0 (L.take i)).2 + x) : Nat) : Int) by omega))) ?_
      refine RG.vl rfl rfl rfl (Ev.assign rfl rfl) ?_
      refine RG.done ?_
      refine QW.then_ ?_
      refine CW.seq ?_
      refine CW.region ?_
      refine RG.vl rfl rfl rfl (Ev.move rfl rfl) ?_
      refine RG.vl rfl rfl rfl (Ev.move rfl rfl) ?_
      refine RG.vl rfl rfl rfl ((Ev.quoI rfl rfl rfl (by omega)).conv (congrArg (Value.int .i64) (show (((64 * (dv 64 10 0 (L.take i)).2 + x) : Nat) : Int) / 10 = (((64 * (dv 64 10 0 (L.take i)).2 + x) / 10 : Nat) : Int) by omega))) ?_
      refine RG.vl rfl rfl rfl (Ev.to8 rfl rfl Tryz.underlying3 Tryz.underlying5 (by omega)) ?_
      refine RG.vl rfl rfl rfl (Ev.idxA rfl rfl rfl Tryz.underlying62 sz_5 (by omega)) ?_
      refine RG.st (g := gN) (k := _) rfl rfl rfl rfl rfl sz_5 rfl hbN (by rw [c16_len, hdl, Nat.blt_eq]; omega) (fun ws8 hwws8 hbws8 => ?_)
      replace hu := Own.far hu hwws8 hsb
      replace hxwl6 := Wr.below hxwl6 hwws8 hle2
      rw [c16_set, dvL_step hx] at hbws8
      refine RG.done ?_
      refine QW.sub (S' := [(1, _), (2, _), (3, _), (4, _), (5, _), (11, _), (12, _)]) ⟨rfl, rfl, rfl, rfl, rfl, rfl, rfl, trivial⟩ ?_
      refine QW.then_ ?_
      refine CW.region ?_
      refine RG.vl rfl rfl rfl (Ev.move rfl rfl) ?_
      refine RG.vl rfl rfl rfl ((Ev.remI rfl rfl rfl (by omega)).conv (congrArg (Value.int .i64) (show (((64 * (dv 64 10 0 (L.take i)).2 + x) : Nat) : Int) % 10 = (((64 * (dv 64 10 0 (L.take i)).2 + x) % 10 : Nat) : Int) by omega))) ?_
      refine RG.vl rfl rfl rfl (Ev.assign rfl rfl) ?_
      refine RG.done ?_
      refine QW.blockN ?_
      refine QW.then_ ?_
      refine CW.region ?_
      refine RG.vl rfl rfl rfl (Ev.addI rfl rfl rfl (by omega)) ?_
      refine RG.vl rfl rfl rfl (Ev.move rfl rfl) ?_
      refine RG.done ?_
      refine QW.round1 (i + 1) ⟨rfl, by rw [hdt]; rfl, trivial⟩ ⟨rfl, rfl, rfl, rfl, rfl, trivial⟩ ⟨⟨by omega, hbws8, hu⟩, (Ex.tr hB0 hxwl6)⟩ (by omega)
    · refine CW.exit ?_
      refine QW.thenExit ?_
      refine QW.thenExit ?_
      refine QW.blockHit ?_
      refine QW.then_ ?_
      obtain rfl : i = 16 := by omega
      obtain ⟨hq1, hq2⟩ := dv_quo (b := 64) (d := 10) (by decide) L
      have hr10 := dv_rest 64 (d := 10) (by decide) L 0 (by decide)
      have hde : dvL 64 10 L 16 = (dv 64 10 0 L).1 := by have h := dvL_end 64 10 L; rw [hL] at h; exact h
      rw [hde] at hbN
      rw [show L.take 16 = L from List.take_of_length_le (by omega)]
      refine CW.region ?_
      refine RG.vl rfl rfl rfl (Ev.move rfl rfl) ?_
      refine RG.vl rfl rfl rfl (Ev.move rfl rfl) ?_
      refine RG.vl rfl rfl rfl (Ev.to32 rfl rfl Tryz.underlying3 Tryz.underlying21 (by omega)) ?_
      refine RG.vl rfl rfl rfl ((Ev.add32 rfl rfl rfl (by omega)).conv (congrArg (Value.int .i32) (show (48 : Int) + ((dv 64 10 0 L).2 : Int) = ((48 + (dv 64 10 0 L).2 : Nat) : Int) by omega))) ?_
      refine RG.litO (os := [.tmp 32]) (enc := encR) ([48 + (dv 64 10 0 L).2]) rfl rfl rfl rfl rfl rfl rfl Tryz.underlying138 inf_21 rfl rfl rfl rfl rfl encR_len rfl rfl (fun v9 wk10 hxwk10 hown11 hnew12 => ?_)
      have hsep13 : Sep v9 _ := Sep.of_new hu hnew12
      have hsb14 := fun e => sep_blk hbN (Nat.le_refl _) hown11 e
      replace hxwl6 := Ex.tr hxwl6 hxwk10
      have hE15 := hxwk10
      refine RG.appO rfl rfl rfl rfl rfl rfl rfl Tryz.underlying138 inf_21 rfl rfl encR_len (fun _ => rfl) (Own.ext hu hE15) ((hown11.rdl encR_len)) (by show _ + 1 ≤ maxLen; simp only [maxLen]; omega) (by show (_ + 1) * _ ≤ _; omega) (hxwl6.size) (fun v16 wa17 hown18 hgr19 hat20 => ?_)
      have hb21 := Blk.grown (hbN.ext hE15) hgr19 (fun e => hsb e.symm)
      have hsb22 := sepb_app hsb (hbN.ext hE15) hat20
      have hsep24 := Sep.app (Sep.symm hsep13) hown11 hat20
      have hown23 := Own.grown hown11 hgr19 (fun k a b => (Sep.symm hsep13) k b a)
      replace hxwl6 := own_block (Own.ext hu hE15) hxwl6 hgr19 (Nat.le_refl _) hxwl6.size
      refine RG.vl rfl rfl rfl (Ev.assign rfl rfl) ?_
      refine RG.done ?_
      refine QW.blockN ?_
      refine QW.round3 (k + 1) (_) (v16) ⟨rfl, trivial⟩ ⟨rfl, rfl, rfl, trivial⟩ ⟨⟨by omega, by rw [dv_len, hL], dv_lt (by decide) L 0 (by decide) hLe, by rw [hq1, hv, Nat.div_div_eq_div_mul, ← Nat.pow_succ], fun _ => by rw [Nat.add_sub_cancel, ← hv]; assumption, hb21, by rw [ld_snoc, List.map_append, ← hv, ← hq2]; exact hown18, hsb22⟩, (Ex.tr hB0 hxwl6)⟩ (by omega)
  · refine CW.exit ?_
    refine QW.thenExit ?_
    refine QW.thenExit ?_
    refine QW.blockHit ?_
    refine QW.then_ ?_
    refine CW.seq ?_
    refine CW.seq ?_
    have hz : N / 10 ^ k = 0 := by rw [← hv]; exact Decidable.not_not.1 (by assumption)
    have hul : (((ld 10 k N).map (48 + ·))).length = k := by rw [List.length_map, ld_len]
    refine CW.region ?_
    refine RG.vl rfl rfl rfl (Ev.move rfl rfl) ?_
    refine RG.vl rfl rfl rfl (Ev.lenL rfl rfl rfl Tryz.underlying138 ((hu.rdl encR_len))) ?_
    refine RG.vl rfl rfl rfl (Ev.eqI rfl rfl rfl) ?_
    refine RG.vl rfl rfl rfl (Ev.move rfl rfl) ?_
    refine RG.split (d := 38) rfl (fun hg25 => ?_) (fun hg25 => ?_)
    · refine RG.pass rfl rfl rfl ?_
      refine RG.pass rfl rfl rfl ?_
      refine RG.pass rfl rfl rfl ?_
      refine RG.pass rfl rfl rfl ?_
      refine RG.pass rfl rfl rfl ?_
      refine RG.pass rfl rfl rfl ?_
      refine RG.pass rfl rfl rfl ?_
      refine RG.vl rfl rfl rfl (Ev.pickT rfl rfl rfl) ?_
      refine RG.done ?_
      refine QW.sub (S' := [(2, _), (3, _), (4, _), (46, _)]) ⟨rfl, rfl, rfl, rfl, trivial⟩ ?_
      refine QW.then_ ?_
      refine CW.condT rfl ?_
      refine CW.seq ?_
      refine CW.region ?_
      refine RG.vl rfl rfl rfl (Ev.assign rfl rfl) ?_
      refine RG.vl rfl rfl rfl (Ev.assign rfl rfl) ?_
      refine RG.done ?_
      refine QW.then_ ?_
      refine CW.ret ?_
      refine QW.thenRet ?_
      refine QW.ret2 rfl rfl rfl ?_
      have hB := (Ex.tr hB0 hxwl4)
      exact ⟨none, pay_k0 hz (by omega), rfl, hB⟩
    · refine RG.vl rfl rfl rfl (Ev.move rfl rfl) ?_
      refine RG.vl rfl rfl rfl (Ev.move rfl rfl) ?_
      refine RG.vl rfl rfl rfl (Ev.lenL rfl rfl rfl Tryz.underlying138 ((hu.rdl encR_len))) ?_
      refine RG.vl rfl rfl rfl ((Ev.subI rfl rfl rfl (by omega)).conv (congrArg (Value.int .i64) (show ((((ld 10 k N).map (48 + ·))).length : Int) - 1 = ((k - 1 : Nat) : Int) by omega))) ?_
      refine RG.idxO rfl rfl rfl rfl rfl rfl Tryz.underlying138 sz_21 encR_len (hu) ((show (((ld 10 k N).map (48 + ·)))[k - 1]? = some (48 + N / 10 ^ (k - 1) % 10) by rw [List.getElem?_map, ld_get 10 k N (k - 1) (by omega)]; rfl)) (fun g27 hg27 hBg27 hp26b hp26 => ?_)
      refine RG.vl rfl rfl rfl (Ev.ld0 rfl rfl Tryz.underlying21 rfl (hp26) (rfl)) ?_
      refine RG.vl rfl rfl rfl (Ev.neI rfl rfl rfl) ?_
      refine RG.vl rfl rfl rfl (Ev.pickF rfl rfl rfl) ?_
      refine RG.done ?_
      refine QW.sub (S' := [(2, _), (3, _), (4, _), (46, _)]) ⟨rfl, rfl, rfl, rfl, trivial⟩ ?_
      refine QW.then_ ?_
      refine CW.condP rfl (fun hc28 => ?_) (fun hc28 => ?_)
      · refine CW.seq ?_
        refine CW.region ?_
        refine RG.vl rfl rfl rfl (Ev.assign rfl rfl) ?_
        refine RG.vl rfl rfl rfl (Ev.assign rfl rfl) ?_
        refine RG.done ?_
        refine QW.then_ ?_
        refine CW.ret ?_
        refine QW.thenRet ?_
        refine QW.ret2 rfl rfl rfl ?_
        have hB := (Ex.tr hB0 hxwl4)
        exact ⟨none, pay_kn (by omega) (hk0 (by omega)) hz (by omega), rfl, hB⟩
      · refine CW.skip ?_
        refine QW.then_ ?_
        refine CW.seq ?_
        have hk1 : 0 < k := by omega
        refine CW.region ?_
        refine RG.vl rfl rfl rfl (Ev.move rfl rfl) ?_
        refine RG.vl rfl rfl rfl (Ev.move rfl rfl) ?_
        refine RG.vl rfl rfl rfl (Ev.lenL rfl rfl rfl Tryz.underlying138 ((hu.rdl encR_len))) ?_
        refine RG.vl rfl rfl rfl ((Ev.subI rfl rfl rfl (by omega)).conv (congrArg (Value.int .i64) (show ((((ld 10 k N).map (48 + ·))).length : Int) - 1 = ((k - 1 : Nat) : Int) by omega))) ?_
        have hfo := hu
        obtain ⟨gf, fC, rfl, hgB, hgl⟩ := own_at hfo (by rw [hul]; omega)
        have hcap := Own.cap_ hfo
        refine RG.vl rfl rfl rfl (Ev.upTo (H := k - 1) rfl rfl rfl Tryz.underlying138 sz_21 (by rw [hul] at hcap; omega)) ?_
        have hfr := Own.front hfo encR_len (k := k - 1) (by rw [hul]; omega)
        refine RG.vl rfl rfl rfl (Ev.assign rfl rfl) ?_
        refine RG.done ?_
        refine QW.then_ ?_
        refine CW.seq ?_
        have hfl : ((((ld 10 k N).map (48 + ·))).take (k - 1)).length = k - 1 := by rw [List.length_take, hul]; omega
        refine CW.region ?_
        refine RG.vl rfl rfl rfl (Ev.move rfl rfl) ?_
        refine RG.call rfl rfl rfl rfl rfl rfl rfl en_71 (reverseR_ret w _ _ _ (Ex.tr hB0 hxwl4) hfr (by omega)) ?_
        rintro _ w29 ⟨rfl, hown30, hxo31⟩
        replace hxwl4 := hxo31
        refine RG.done ?_
        refine QW.then_ ?_
        refine CW.seq ?_
        refine CW.region ?_
        refine RG.vl rfl rfl rfl (Ev.move rfl rfl) ?_
        refine RG.vl rfl rfl rfl ((Ev.ofRunes rfl rfl Tryz.underlying138 Tryz.underlying21 Tryz.underlying9 (hown30.rdl encR_len) (dl_lo k N)).conv (congrArg (fun l : List UInt8 => Value.string ⟨l.toArray⟩) (dl_str hk1))) ?_
        refine RG.vl rfl rfl rfl (Ev.assign rfl rfl) ?_
        refine RG.vl rfl rfl rfl (Ev.assign rfl rfl) ?_
        refine RG.done ?_
        refine QW.then_ ?_
        refine CW.ret ?_
        refine QW.ret2 rfl rfl rfl ?_
        have hB := (Ex.tr hB0 hxwl4)
        exact ⟨some _, pay_ks hk1 (hk0 hk1) hz (by omega), rfl, hB⟩

end Go.Proofs.YtgjnchjkjdnidaaGreat

/- Plain: syndromes as sums, what was added at some places, code words that differ. -/
namespace Go.Proofs.YtgjnchjkjdnidaaGreat
open Go.RowKit
theorem xs_shift (f : Nat → Nat) : ∀ n, xs_ (n + 1) f = f 0 ^^^ xs_ n fun i => f (i + 1)
  | 0 => by simp [xs_]
  | n + 1 => by rw [xs_, xs_shift f n, xs_, Nat.xor_assoc]
theorem xs_swap (f : Nat → Nat → Nat) (m : Nat) : ∀ n, xs_ n (fun i => xs_ m (f i)) = xs_ m fun j => xs_ n fun i => f i j
  | 0 => (xs_zero fun _ _ => rfl).symm
  | n + 1 => by rw [xs_, xs_swap f m n, ← xs_xor]; rfl
theorem xs_supp {n : Nat} : ∀ (P : List Nat) (f : Nat → Nat), P.Nodup → (∀ p ∈ P, p < n) → (∀ i, i < n → i ∉ P → f i = 0) → xs_ n f = xs_ P.length fun j => f (cf P j)
  | [], f, _, _, h => xs_zero fun i hi => h i hi (by simp)
  | p :: P, f, hd, hp, h => by
    obtain ⟨hd1, hd2⟩ := List.nodup_cons.1 hd
    have ih := xs_supp P (fun i => if i = p then 0 else f i) hd2 (fun q hq => hp q (by simp [hq])) (fun i hi hn => by
      show (if i = p then 0 else f i) = 0
      split
      · rfl
      · rename_i e; exact h i hi (by simp [e, hn]))
    have e1 : xs_ n f = xs_ n (fun i => if i = p then 0 else f i) ^^^ f p := by
      have e2 : f = fun i => (if i = p then 0 else f i) ^^^ (if i = p then f p else 0) := by
        funext i
        by_cases e : i = p
        · rw [if_pos e, if_pos e, e, Nat.zero_xor]
        · rw [if_neg e, if_neg e, Nat.xor_zero]
      have e3 : xs_ n (fun i => if i = p then f p else 0) = f p := by
        rw [xs_one (i := p) (f := fun i => if i = p then f p else 0) (hp p (by simp)) (fun j _ hj => if_neg hj)]; exact if_pos rfl
      calc xs_ n f = xs_ n (fun i => (if i = p then 0 else f i) ^^^ (if i = p then f p else 0)) := by rw [← e2]
        _ = _ := by rw [xs_xor, e3]
    rw [e1, ih, List.length_cons, xs_shift, Nat.xor_comm]
    congr 1
    refine xs_congr fun j hj => ?_
    show (if cf P j = p then 0 else f (cf P j)) = f (cf P j)
    rw [if_neg]
    intro e
    exact hd1 (by rw [← e]; exact List.mem_of_getElem? (getElem?_cf hj))
theorem evl_snoc {x : Nat} (hx : x < 64) {a : Nat} (ha : a < 64) : ∀ (p : List Nat), El p → evl (p ++ [a]) x = evl p x ^^^ gm a (gp x p.length)
  | [], _ => by
    show gm 0 x ^^^ a = 0 ^^^ gm a 1
    rw [gm_zl, gm_one a ha]
  | b :: p, h => by
    have ih := evl_snoc hx ha p h.tail
    show gm (evl (p ++ [a]) x) x ^^^ b = (gm (evl p x) x ^^^ b) ^^^ gm a (gp x (p.length + 1))
    rw [ih, xor_gm _ _ _ hx (evl_lt p x h.tail) (gm_lt _ _), gp_s, gm_assoc, gm_comm (gp x p.length) x, Nat.xor_assoc, Nat.xor_assoc, Nat.xor_comm b]
/-- The locators' powers. -/
abbrev al (n r i : Nat) : Nat := pw ((r + 1) * (n - 1 - i) % 63)
theorem gp_al {r : Nat} (h : r < 4) (m : Nat) : gp (pw (r + 1)) m = pw ((r + 1) * m % 63) := by
  rw [gp_pw _ _ (by have := pw_lt (r + 1) (by omega); omega), lg_pw _ (by omega)]
theorem sy_sum {r : Nat} (h : r < 4) : ∀ {l : List Nat}, El l → sy l r = xs_ l.length fun i => gm (cf l i) (al l.length r i)
  | [], _ => rfl
  | a :: l, hl => by
    have ih := sy_sum h hl.tail
    have hx := (pw_lt (r + 1) (by omega)).2
    unfold sy at ih ⊢
    rw [List.reverse_cons, evl_snoc hx hl.head _ hl.tail.rev, List.length_reverse, ih, List.length_cons, xs_shift, Nat.xor_comm, gp_al h]
    have e0 : gm a (pw ((r + 1) * l.length % 63)) = gm (cf (a :: l) 0) (al (l.length + 1) r 0) := by
      show gm a _ = gm a (pw ((r + 1) * (l.length + 1 - 1 - 0) % 63))
      rw [show l.length + 1 - 1 - 0 = l.length by omega]
    rw [e0]
    congr 1
    refine xs_congr fun i hi => ?_
    show _ = gm (cf (a :: l) (i + 1)) (pw ((r + 1) * (l.length + 1 - 1 - (i + 1)) % 63))
    rw [cf_s, show l.length + 1 - 1 - (i + 1) = l.length - 1 - i by omega]
/-- c is l but for what was added at the places. -/
structure Diff (l P : List Nat) (x : Nat → Nat) (c : List Nat) : Prop where
  len : c.length = l.length
  el : El c
  out : ∀ i, i ∉ P → cf c i = cf l i
  at_ : ∀ j, j < P.length → x j = cf l (cf P j) ^^^ cf c (cf P j)
theorem diff_dot {l P c : List Nat} {x : Nat → Nat} (h : Diff l P x c) (hl : El l) (hd : P.Nodup) (h4 : P.length ≤ 4) (hp : ∀ p ∈ P, p < l.length) {r : Nat} (hr : r < 4) (sL : List Nat) : dot (eqM l.length P sL) P.length r x = sy l r ^^^ sy c r := by
  rw [sy_sum hr hl, sy_sum hr h.el, h.len, ← xs_xor]
  have e1 : ∀ i, i < l.length → (gm (cf l i) (al l.length r i) ^^^ gm (cf c i) (al l.length r i)) = gm (cf l i ^^^ cf c i) (al l.length r i) := fun i _ => (xor_gm _ _ _ (pw64 _) (hl.cf i) (h.el.cf i)).symm
  rw [xs_congr e1, xs_supp P _ hd hp fun i _ hi => by rw [h.out i hi, Nat.xor_self, gm_zl]]
  unfold dot
  refine xs_congr fun j hj => ?_
  rw [h.at_ j hj, gm_comm]
  congr 1
  unfold eqM
  rw [if_neg (by omega), if_pos hj]
theorem syL_cf (l : List Nat) {r : Nat} (h : r < 4) : cf (syL l) r = sy l r := by
  match r, h with
  | 0, _ => rfl
  | 1, _ => rfl
  | 2, _ => rfl
  | 3, _ => rfl
theorem diff_sol {l P c : List Nat} {x : Nat → Nat} (h : Diff l P x c) (hl : El l) (hd : P.Nodup) (h4 : P.length ≤ 4) (hp : ∀ p ∈ P, p < l.length) : Sol (eqM l.length P (syL l)) P.length x ↔ ∀ r, r < 4 → sy c r = 0 := by
  constructor
  · intro hs r hr
    have := hs r hr
    rw [diff_dot h hl hd h4 hp hr] at this
    unfold eqM at this
    rw [if_pos rfl, syL_cf l hr] at this
    have e := congrArg (sy l r ^^^ ·) this
    simpa [← Nat.xor_assoc] using e
  · intro hs r hr
    rw [diff_dot h hl hd h4 hp hr, hs r hr, Nat.xor_zero]
    unfold eqM; rw [if_pos rfl, syL_cf l hr]
/-! the places' columns are independent -/
def rp : List Nat → List Nat
  | [] => [1]
  | a :: l => pm (rp l) [a, 1]
theorem rp_el : ∀ l, El (rp l)
  | [] => El.cons_ (by decide) El.nil_
  | _ :: _ => el_pm _ _
theorem rp_dg : ∀ l, dg (rp l) ≤ l.length + 1
  | [] => by decide +kernel
  | a :: l => dg_le _ _ fun k hk => cf_pm_ge _ _ k (by
      have := rp_dg l
      have h2 := dg_len [a, 1]
      simp only [List.length_cons, List.length_nil] at h2 hk
      omega)
theorem rp_z {x : Nat} (hx : x < 64) : ∀ {l : List Nat}, El l → (evl (rp l) x = 0 ↔ x ∈ l)
  | [], _ => by
    constructor
    · intro h
      have : evl [1] x = 1 := by show gm 0 x ^^^ 1 = 1; rw [gm_zl]; rfl
      rw [show rp [] = [1] from rfl, this] at h; cases h
    · intro h; cases h
  | a :: l, hl => by
    rw [show rp (a :: l) = pm (rp l) [a, 1] from rfl, evl_pm x hx _ _ (rp_el l) (El.cons_ hl.head (el1 (by decide))), gm_zero_iff, rp_z hx hl.tail, evl_lin a x hx]
    constructor
    · rintro (h | h)
      · simp [h]
      · rw [xor_zero_eq h]; simp
    · intro h
      rcases List.mem_cons.1 h with rfl | h
      · exact .inr (Nat.xor_self _)
      · exact .inl h
theorem evl_sum {q : List Nat} (hq : El q) (h : ∀ k, 4 ≤ k → cf q k = 0) {a : Nat} (ha : a < 64) : evl q a = xs_ 4 fun r => gm (cf q r) (gp a r) := by
  have e : ∀ k, cf q k = cf (q.take 4) k := fun k => by
    rw [cf_take]; split
    · rfl
    · exact h k (by omega)
  have hl : (q.take 4).length ≤ 4 := by rw [List.length_take]; omega
  have ev : ∀ n, evs_ (q.take 4) a n = xs_ n fun r => gm (cf (q.take 4) r) (gp a r) := fun n => by
    induction n with
    | zero => rfl
    | succ n ih => rw [evs_, xs_, ih]
  rw [evl_congr a e, ← evs_evl a ha _ (hq.take 4), ev]
  have : ∀ m, xs_ ((q.take 4).length + m) (fun r => gm (cf (q.take 4) r) (gp a r)) = xs_ (q.take 4).length fun r => gm (cf (q.take 4) r) (gp a r) := fun m => by
    induction m with
    | zero => rfl
    | succ m ih => rw [← Nat.add_assoc, xs_, ih, cf_none (by omega), gm_zl, Nat.xor_zero]
  rw [← this (4 - (q.take 4).length), Nat.add_sub_cancel' hl]
  exact xs_congr fun r _ => by rw [e r]
theorem van {k : Nat} (hk : k ≤ 4) {a x : Nat → Nat} (ha : ∀ j, j < k → a j < 64 ∧ a j ≠ 0) (hd : ∀ i j, i < k → j < k → a i = a j → i = j) (h : ∀ r, r < 4 → xs_ k (fun j => gm (gp (a j) (r + 1)) (x j)) = 0) : ∀ i, i < k → x i = 0 := by
  intro i hi
  obtain ⟨o, ho⟩ : ∃ o, o = ((List.range k).erase i).map a := ⟨_, rfl⟩
  have hol : o.length + 1 = k := by
    rw [ho, List.length_map, List.length_erase_of_mem (List.mem_range.2 hi), List.length_range]; omega
  have hoe : El o := fun b hb => by
    rw [ho] at hb
    obtain ⟨j, hj, rfl⟩ := List.mem_map.1 hb
    exact (ha j (List.mem_range.1 (List.mem_of_mem_erase hj))).1
  have hq : ∀ k, 4 ≤ k → cf (rp o) k = 0 := fun k hk4 => cf_ge _ _ (by have := rp_dg o; omega)
  have hqe := rp_el o
  have key : xs_ k (fun j => gm (gm (evl (rp o) (a j)) (a j)) (x j)) = 0 := by
    have e1 : ∀ j, j < k → gm (gm (evl (rp o) (a j)) (a j)) (x j) = xs_ 4 fun r => gm (cf (rp o) r) (gm (gp (a j) (r + 1)) (x j)) := fun j hj => by
      have e2 : ∀ r, r < 4 → gm (cf (rp o) r) (gm (gp (a j) (r + 1)) (x j)) = gm (gm (a j) (x j)) (gm (cf (rp o) r) (gp (a j) r)) := fun r _ => by
        rw [gp_s, gm_assoc (a j), ← gm_assoc, gm_comm (cf (rp o) r) (a j), gm_assoc, gm_comm (gp (a j) r), ← gm_assoc (cf (rp o) r), gm_comm (cf (rp o) r) (x j), gm_assoc, gm_assoc]
      rw [xs_congr e2, xs_gm (gm_lt _ _) (fun r _ => gm_lt _ _), ← evl_sum hqe hq (ha j hj).1, gm_assoc, gm_comm]
    rw [xs_congr e1, xs_swap]
    refine xs_zero fun r hr => ?_
    rw [xs_gm (hqe.cf r) (fun j _ => gm_lt _ _), h r hr, gm_zr]
  rw [xs_one (i := i) (f := fun j => gm (gm (evl (rp o) (a j)) (a j)) (x j)) hi (fun j hj hne => by
    have hm : a j ∈ o := by rw [ho]; exact List.mem_map_of_mem ((List.mem_erase_of_ne hne).2 (List.mem_range.2 hj))
    show gm (gm (evl (rp o) (a j)) (a j)) (x j) = 0
    rw [(rp_z (ha j hj).1 hoe).2 hm, gm_zl, gm_zl])] at key
  have hni : a i ∉ o := fun hm => by
    rw [ho] at hm
    obtain ⟨j, hj, e⟩ := List.mem_map.1 hm
    have hjk := List.mem_range.1 (List.mem_of_mem_erase hj)
    have := hd j i hjk hi e
    subst this
    exact List.nodup_range.not_mem_erase hj
  rcases (gm_zero_iff _ _).1 key with h1 | h1
  · rcases (gm_zero_iff _ _).1 h1 with h2 | h2
    · exact absurd ((rp_z (ha i hi).1 hoe).1 h2) hni
    · exact absurd h2 (ha i hi).2
  · exact h1
theorem hom_zero {n : Nat} {P sL : List Nat} (hn : n ≤ 63) (hd : P.Nodup) (h4 : P.length ≤ 4) (hp : ∀ p ∈ P, p < n) {x : Nat → Nat} (h : Hom (eqM n P sL) P.length x) : ∀ j, j < P.length → x j = 0 := by
  have hm : ∀ j, j < P.length → cf P j < n := fun j hj => hp _ (List.mem_of_getElem? (getElem?_cf hj))
  refine van (a := fun j => pw (n - 1 - cf P j)) h4 (fun j hj => ?_) (fun i j hi hj e => ?_) fun r hr => ?_
  · have h1 := hm j hj
    have := pw_lt (n - 1 - cf P j) (by omega)
    exact ⟨this.2, by omega⟩
  · have h1 := hm i hi
    have h2 := hm j hj
    have e2 := congrArg lg e
    rw [lg_pw _ (by omega), lg_pw _ (by omega)] at e2
    refine (List.getElem?_inj hi hd).1 ?_
    rw [getElem?_cf hi, getElem?_cf hj]
    congr 1; omega
  · have := h r hr
    unfold dot at this
    rw [← this]
    refine xs_congr fun j hj => ?_
    have h1 := hm j hj
    congr 1
    rw [gp_pw _ _ (by have := pw_lt (n - 1 - cf P j) (by omega); omega), lg_pw _ (by omega)]
    unfold eqM
    rw [if_neg (by omega), if_pos hj, Nat.mul_comm]
/-! code words -/
structure Code_ (n : Nat) (c : List Nat) : Prop where
  len : c.length = n
  el : El c
  syn : ∀ r, r < 4 → sy c r = 0
/-- Two code words that differ at four places at most are the same. -/
theorem code_uniq {n : Nat} {c d P : List Nat} (hn : n ≤ 63) (hc : Code_ n c) (hd : Code_ n d) (hP : P.Nodup) (h4 : P.length ≤ 4) (hp : ∀ p ∈ P, p < n) (h : ∀ i, i ∉ P → cf c i = cf d i) : c = d := by
  have hD : Diff d P (fun j => cf d (cf P j) ^^^ cf c (cf P j)) c := ⟨by rw [hc.len, hd.len], hc.el, h, fun _ _ => rfl⟩
  have hlen : d.length = n := hd.len
  have hz := hom_zero (sL := []) (x := fun j => cf d (cf P j) ^^^ cf c (cf P j)) hn hP h4 hp (fun r hr => by
    have := diff_dot hD hd.el hP h4 (by rw [hlen]; exact hp) hr []
    rw [hlen] at this
    rw [this, hd.syn r hr, hc.syn r hr]; rfl)
  refine eq_of_cf (by rw [hc.len, hd.len]) fun i => ?_
  by_cases hi : i ∈ P
  · obtain ⟨j, hj⟩ := List.mem_iff_getElem?.1 hi
    have hjl := (List.getElem?_eq_some_iff.1 hj).1
    have := hz j hjl
    rw [cf_some hj] at this
    exact (xor_zero_eq this).symm
  · exact h i hi
/-- What solve says of places. -/
theorem nof_no {l P : List Nat} (hl : El l) (hn : l.length ≤ 63) (hP : P.Nodup) (h4 : P.length ≤ 4) (hp : ∀ p ∈ P, p < l.length) (h : NoF l P) {c : List Nat} (hc : Code_ l.length c) : ¬ ∀ i, i ∉ P → cf c i = cf l i := fun ho => by
  obtain ⟨M, hM⟩ := h
  rcases hM.2 rfl with h | ⟨x, _, hh, j, hj, hne⟩
  · have hD : Diff l P (fun j => cf l (cf P j) ^^^ cf c (cf P j)) c := ⟨hc.len, hc.el, ho, fun _ _ => rfl⟩
    exact h _ (fun j => xor_lt64 _ _ (hl.cf _) (hc.el.cf _)) ((diff_sol hD hl hP h4 hp).2 hc.syn)
  · exact hne (hom_zero hn hP h4 hp hh j hj)
theorem fix_cf {l P : List Nat} {M : Mx} (hd : P.Nodup) (hp : ∀ p ∈ P, p < l.length) : ∀ i, i ≤ P.length → (∀ j, j < i → cf (fixL l P M i) (cf P j) = cf l (cf P j) ^^^ M j 4) ∧ ∀ q, (∀ j, j < i → cf P j ≠ q) → cf (fixL l P M i) q = cf l q
  | 0, _ => ⟨fun j h => absurd h (by omega), fun _ _ => rfl⟩
  | i + 1, hi => by
    obtain ⟨h1, h2⟩ := fix_cf hd hp i (by omega)
    have hlt : cf P i < (fixL l P M i).length := by rw [fixL_len]; exact hp _ (List.mem_of_getElem? (getElem?_cf (by omega)))
    have hne : ∀ j, j < i → cf P j ≠ cf P i := fun j hj e => by
      have := (List.getElem?_inj (i := j) (j := i) (show j < P.length by omega) hd).1 (by rw [getElem?_cf (by omega), getElem?_cf (by omega), e])
      omega
    rw [fixL]
    refine ⟨fun j hj => ?_, fun q hq => ?_⟩
    · rw [cf_set _ _ _ _ hlt]
      by_cases e : j = i
      · subst e; rw [if_pos rfl, h2 _ hne]
      · rw [if_neg (hne j (by omega)), h1 j (by omega)]
    · rw [cf_set _ _ _ _ hlt, if_neg (fun e => hq i (by omega) e.symm), h2 q fun j hj => hq j (by omega)]
theorem yes_code {l P c : List Nat} (hl : El l) (hP : P.Nodup) (h4 : P.length ≤ 4) (hp : ∀ p ∈ P, p < l.length) (h : YesF l P c) : Code_ l.length c ∧ ∀ i, i ∉ P → cf c i = cf l i := by
  obtain ⟨M, hM, rfl⟩ := h
  obtain ⟨hEM, hS⟩ := hM.1 rfl
  obtain ⟨f1, f2⟩ := fix_cf (M := M) hP hp P.length (Nat.le_refl _)
  have hel := fixL_el (P := P) hl hEM P.length h4
  have hout : ∀ i, i ∉ P → cf (fixL l P M P.length) i = cf l i := fun i hi => f2 i fun j hj e => hi (by rw [← e]; exact List.mem_of_getElem? (getElem?_cf hj))
  have hx : EX fun j => if j < P.length then M j 4 else 0 := fun j => by
    show (if j < P.length then M j 4 else 0) < 64
    split
    · exact hEM j 4 (by omega) (by omega)
    · decide
  have hD : Diff l P (fun j => if j < P.length then M j 4 else 0) (fixL l P M P.length) := ⟨fixL_len _ _ _ _, hel, hout, fun j hj => by
    show (if j < P.length then M j 4 else 0) = _
    rw [if_pos hj, f1 j hj, ← Nat.xor_assoc, Nat.xor_self, Nat.zero_xor]⟩
  refine ⟨⟨fixL_len _ _ _ _, hel, (diff_sol hD hl hP h4 hp).1 ((hS _ hx).2 fun j hj => if_pos hj)⟩, hout⟩
end Go.Proofs.YtgjnchjkjdnidaaGreat

/- Plain: what Decode finds is the code word within the bound. -/
namespace Go.Proofs.YtgjnchjkjdnidaaGreat
open Go.RowKit
theorem mem_sing {er P : List Nat} {n : Nat} (h : P ∈ singL er n) : ∃ a, a < n ∧ a ∉ er ∧ P = er ++ [a] := by
  unfold singL at h
  obtain ⟨a, ha, rfl⟩ := List.mem_map.1 h
  obtain ⟨h1, h2⟩ := List.mem_filter.1 ha
  exact ⟨a, List.mem_range.1 h1, of_decide_eq_true h2, rfl⟩
theorem sing_mem {er : List Nat} {a n : Nat} (h : a < n) (hn : a ∉ er) : er ++ [a] ∈ singL er n := by
  unfold singL
  exact List.mem_map.2 ⟨a, List.mem_filter.2 ⟨List.mem_range.2 h, decide_eq_true hn⟩, rfl⟩
theorem mem_pair {P : List Nat} {n : Nat} (h : P ∈ (List.range n).flatMap (rowP n)) : ∃ a b, a < b ∧ b < n ∧ P = [a, b] := by
  obtain ⟨a, ha, h⟩ := List.mem_flatMap.1 h
  unfold rowP at h
  obtain ⟨b, hb, rfl⟩ := List.mem_map.1 h
  obtain ⟨k, hk⟩ := List.mem_iff_getElem?.1 hb
  rw [List.getElem?_drop] at hk
  obtain ⟨h1, h2⟩ := List.getElem?_eq_some_iff.1 hk
  rw [List.getElem_range] at h2
  rw [List.length_range] at h1
  exact ⟨a, b, by omega, by omega, rfl⟩
theorem pair_mem {a b n : Nat} (hab : a < b) (hb : b < n) : [a, b] ∈ (List.range n).flatMap (rowP n) := by
  refine List.mem_flatMap.2 ⟨a, List.mem_range.2 (by omega), ?_⟩
  unfold rowP
  refine List.mem_map.2 ⟨b, List.mem_iff_getElem?.2 ⟨b - (a + 1), ?_⟩, rfl⟩
  rw [List.getElem?_drop, show a + 1 + (b - (a + 1)) = b by omega, List.getElem?_range hb]
theorem mem_cand {P er : List Nat} {n : Nat} (h : P ∈ candL n er) : P = er ∨ (er.length ≤ 2 ∧ ∃ a, a < n ∧ a ∉ er ∧ P = er ++ [a]) ∨ (er = [] ∧ ∃ a b, a < b ∧ b < n ∧ P = [a, b]) := by
  unfold candL at h
  rcases List.mem_append.1 h with h | h
  · rcases List.mem_append.1 h with h | h
    · exact .inl (List.mem_singleton.1 h)
    · split at h
      · rename_i h2; exact .inr (.inl ⟨h2, mem_sing h⟩)
      · cases h
  · split at h
    · rename_i h2; exact .inr (.inr ⟨List.eq_nil_of_length_eq_zero h2, mem_pair h⟩)
    · cases h
theorem cand_nodup {P er : List Nat} {n : Nat} (h : P ∈ candL n er) (hd : er.Nodup) : P.Nodup := by
  rcases mem_cand h with rfl | ⟨_, a, _, ha, rfl⟩ | ⟨_, a, b, hab, _, rfl⟩
  · exact hd
  · refine List.nodup_append.2 ⟨hd, by simp, fun x hx y hy => ?_⟩
    rw [List.mem_singleton.1 hy]; rintro rfl; exact ha hx
  · simp; omega
/-- The places, but for erased ones, at which d is not what was read. -/
def diffs (l d er : List Nat) : List Nat := (List.range l.length).filter fun i => decide (i ∉ er ∧ cf d i ≠ cf l i)
theorem mem_diffs {l d er : List Nat} {i : Nat} : i ∈ diffs l d er ↔ i < l.length ∧ i ∉ er ∧ cf d i ≠ cf l i := by
  unfold diffs
  rw [List.mem_filter, List.mem_range, decide_eq_true_eq]
theorem diffs_lt (l d er : List Nat) : (diffs l d er).Pairwise (· < ·) := List.Pairwise.filter _ List.pairwise_lt_range
theorem same_sorted {p q : List Nat} (hp : p.Pairwise (· < ·)) (hq : q.Pairwise (· < ·)) (h : ∀ i, i ∈ p ↔ i ∈ q) : p = q := by
  induction p generalizing q with
  | nil =>
    cases q with
    | nil => rfl
    | cons b q => exact absurd ((h b).2 (by simp)) (by simp)
  | cons a p ih =>
    cases q with
    | nil => exact absurd ((h a).1 (by simp)) (by simp)
    | cons b q =>
      obtain ⟨p1, p2⟩ := List.pairwise_cons.1 hp
      obtain ⟨q1, q2⟩ := List.pairwise_cons.1 hq
      have hab : a = b := by
        rcases List.mem_cons.1 ((h a).1 (by simp)) with e | e
        · exact e
        · rcases List.mem_cons.1 ((h b).2 (by simp)) with e2 | e2
          · exact e2.symm
          · have := q1 a e; have := p1 b e2; omega
      subst hab
      rw [ih p2 q2 fun i => ?_]
      have hi := h i
      simp only [List.mem_cons] at hi
      constructor
      · intro hm
        rcases hi.1 (.inr hm) with e | e
        · have := p1 i hm; omega
        · exact e
      · intro hm
        rcases hi.2 (.inr hm) with e | e
        · have := q1 i hm; omega
        · exact e
theorem free_eq {P er : List Nat} (h : ∀ a ∈ P, a ∉ er) : freeL (er ++ P) er = P := by
  unfold freeL
  rw [List.filter_append, List.filter_eq_nil_iff.2 (fun a ha => by simpa using ha), List.filter_eq_self.2 (fun a ha => by simpa using h a ha), List.nil_append]
theorem ahead_pre {α : Type} {A B pre rest : List α} {P : α} (h : A ++ B = pre ++ P :: rest) (hP : P ∉ A) : ∃ t, pre = A ++ t := by
  rcases List.append_eq_append_iff.1 h with ⟨t, h1, _⟩ | ⟨t, h1, h2⟩
  · exact ⟨t, h1⟩
  · cases t with
    | nil => exact ⟨[], by rw [h1]; simp⟩
    | cons x t =>
      injection h2 with h2 _
      exact absurd (by rw [h1, h2]; simp) hP
/-- Where a code word lies within the bound, it is found, and its errors are told. -/
theorem found_is {l er d c es : List Nat} {e : Int} (hl : El l) (hn : l.length ≤ 63) (hed : er.Nodup) (her : ∀ a ∈ er, a < l.length) (h4 : er.length ≤ 4) (hd : Code_ l.length d) (hb : 2 * (diffs l d er).length + er.length ≤ 4) (hf : Found l er e c es) : e = 0 ∧ c = d ∧ es = diffs l d er := by
  obtain ⟨D, hD⟩ : ∃ D, D = diffs l d er := ⟨_, rfl⟩
  have hDm : ∀ i, i ∈ D ↔ i < l.length ∧ i ∉ er ∧ cf d i ≠ cf l i := fun i => by rw [hD]; exact mem_diffs
  have hDs : D.Pairwise (· < ·) := by rw [hD]; exact diffs_lt _ _ _
  rw [← hD] at hb ⊢
  have hfar : ∀ i, i ∉ er ++ D → cf d i = cf l i := fun i hi => by
    rcases Nat.lt_or_ge i l.length with h | h
    · rcases Decidable.em (cf d i = cf l i) with h2 | h2
      · exact h2
      · exact absurd (List.mem_append.2 (.inr ((hDm i).2 ⟨h, fun h3 => hi (List.mem_append.2 (.inl h3)), h2⟩))) hi
    · rw [cf_none (by rw [hd.len]; exact h), cf_none h]
  have hPm : er ++ D ∈ candL l.length er := by
    unfold candL
    match D, hDm, hDs, hb with
    | [], _, _, _ => simp
    | [a], hm, _, hb =>
      obtain ⟨h1, h2, _⟩ := (hm a).1 (by simp)
      rw [if_pos (by simp only [List.length_singleton] at hb; omega)]
      exact List.mem_append.2 (.inl (List.mem_append.2 (.inr (sing_mem h1 h2))))
    | [a, b], hm, hs, hb =>
      have h0 : er = [] := List.eq_nil_of_length_eq_zero (by simp only [List.length_cons, List.length_nil] at hb; omega)
      obtain ⟨h1, _⟩ := (hm b).1 (by simp)
      have hab : a < b := by simpa using hs
      subst h0
      exact List.mem_append.2 (.inr (pair_mem hab h1))
    | a :: b :: c :: D, _, _, hb => simp only [List.length_cons] at hb; omega
  have info : ∀ P, P ∈ candL l.length er → P.Nodup ∧ P.length ≤ 4 ∧ ∀ p ∈ P, p < l.length := fun P hP => ⟨cand_nodup hP hed, cand_in hP h4 her⟩
  have hno : ∀ P, P ∈ candL l.length er → NoF l P → P ≠ er ++ D := fun P hP hN e => by
    obtain ⟨i1, i2, i3⟩ := info P hP
    subst e
    exact nof_no hl hn i1 i2 i3 hN hd hfar
  rcases hf with ⟨h, _⟩ | ⟨pre, P, rest, hc, hpre, hy, rfl, rfl⟩
  · exact absurd rfl (hno _ hPm (h _ hPm))
  have hPc : P ∈ candL l.length er := by rw [hc]; simp
  obtain ⟨i1, i2, i3⟩ := info P hPc
  obtain ⟨hcc, hco⟩ := yes_code hl i1 i2 i3 hy
  have hnp : er ++ D ∉ pre := fun h => hno _ hPm (hpre _ h) rfl
  -- the two lists of places together
  have hU : ∃ U : List Nat, U.Nodup ∧ U.length ≤ 4 ∧ (∀ p ∈ U, p < l.length) ∧ ∀ i, i ∉ U → i ∉ P ∧ i ∉ er ++ D := by
    refine ⟨P ++ D.filter (fun i => decide (i ∉ P)), ?_, ?_, fun p hp => ?_, fun i hi => ⟨fun h => hi (List.mem_append.2 (.inl h)), fun h => ?_⟩⟩
    · refine List.nodup_append.2 ⟨i1, (List.Pairwise.imp (fun h => Nat.ne_of_lt h) hDs).filter _, fun x hx y hy => ?_⟩
      rintro rfl
      exact of_decide_eq_true (List.mem_filter.1 hy).2 hx
    · have hfl := List.length_filter_le (fun i => decide (i ∉ P)) D
      rw [List.length_append]
      rcases mem_cand hPc with rfl | ⟨h2, a, _, _, rfl⟩ | ⟨rfl, a, b, _, _, rfl⟩
      · omega
      · simp only [List.length_append, List.length_singleton] at i2 ⊢; omega
      · simp only [List.length_cons, List.length_nil] at hb i2 ⊢; omega
    · rcases List.mem_append.1 hp with h | h
      · exact i3 p h
      · exact ((hDm p).1 (List.mem_filter.1 h).1).1
    · rcases List.mem_append.1 h with h | h
      · refine hi (List.mem_append.2 (.inl ?_))
        rcases mem_cand hPc with rfl | ⟨_, a, _, _, rfl⟩ | ⟨rfl, _⟩
        · exact h
        · exact List.mem_append.2 (.inl h)
        · cases h
      · rcases Decidable.em (i ∈ P) with h2 | h2
        · exact hi (List.mem_append.2 (.inl h2))
        · exact hi (List.mem_append.2 (.inr (List.mem_filter.2 ⟨h, decide_eq_true h2⟩)))
  obtain ⟨U, u1, u2, u3, u4⟩ := hU
  have hcd : c = d := code_uniq hn hcc hd u1 u2 u3 fun i hi => by rw [hco i (u4 i hi).1, hfar i (u4 i hi).2]
  subst hcd
  have hDP : ∀ i, i ∈ D → i ∈ P := fun i hi => by
    rcases Decidable.em (i ∈ P) with h | h
    · exact h
    · exact absurd (hco i h) ((hDm i).1 hi).2.2
  refine ⟨rfl, rfl, ?_⟩
  have hDer : ∀ a ∈ D, a ∉ er := fun a ha => ((hDm a).1 ha).2.1
  have hPD : P = er ++ D := by
    rcases mem_cand hPc with rfl | ⟨h2, a, _, ha, rfl⟩ | ⟨rfl, a, b, hab, hbn, rfl⟩
    · have : D = [] := List.eq_nil_iff_forall_not_mem.2 fun i hi => hDer i hi (hDP i hi)
      rw [this, List.append_nil]
    · have hDa : ∀ i ∈ D, i = a := fun i hi => by
        rcases List.mem_append.1 (hDP i hi) with h | h
        · exact absurd h (hDer i hi)
        · exact List.mem_singleton.1 h
      match D, hDa, hDs, hnp with
      | [], _, _, hnp =>
        exfalso
        unfold candL at hc
        rw [List.append_assoc] at hc
        obtain ⟨t, ht⟩ := ahead_pre hc (by simp)
        exact hnp (by rw [ht]; simp)
      | [x], hDa, _, _ => rw [hDa x (by simp)]
      | x :: y :: D, hDa, hs, _ =>
        have h1 := hDa x (by simp); have h3 := hDa y (by simp)
        have := (List.pairwise_cons.1 hs).1 y (by simp)
        omega
    · have hDa : ∀ i ∈ D, i = a ∨ i = b := fun i hi => by simpa using hDP i hi
      unfold candL at hc
      rw [if_pos (show ([] : List Nat).length ≤ 2 by decide), if_pos (show ([] : List Nat).length = 0 from rfl)] at hc
      obtain ⟨t, ht⟩ := ahead_pre hc (fun h => by
        rcases List.mem_append.1 h with h | h
        · simp at h
        · obtain ⟨z, _, _, e⟩ := mem_sing h; simp at e)
      match D, hDa, hDs, hnp, hDm with
      | [], _, _, hnp, _ => exact absurd (by rw [ht]; simp) hnp
      | [x], _, _, hnp, hDm =>
        obtain ⟨x1, x2, _⟩ := (hDm x).1 (by simp)
        exact absurd (by rw [ht]; exact List.mem_append.2 (.inl (List.mem_append.2 (.inr (sing_mem x1 x2))))) hnp
      | [x, y], hDa, hs, _, _ =>
        have hxy : x < y := by simpa using hs
        have h1 := hDa x (by simp); have h3 := hDa y (by simp)
        have e1 : x = a := by omega
        have e2 : y = b := by omega
        rw [e1, e2]; rfl
      | x :: y :: z :: D, hDa, hs, _, _ =>
        obtain ⟨p1, p2⟩ := List.pairwise_cons.1 hs
        have := p1 y (by simp); have := (List.pairwise_cons.1 p2).1 z (by simp)
        have h1 := hDa x (by simp); have h3 := hDa y (by simp); have h5 := hDa z (by simp)
        omega
  rw [hPD, free_eq hDer]
end Go.Proofs.YtgjnchjkjdnidaaGreat

/- A law's arguments, as the walks take them: structs of integers, by value and in slices. -/
namespace Go.Proofs.YtgjnchjkjdnidaaGreat
open Go.ChangeShapes Go.WideShapes Go.ChangeAt Go.RowKit Go.Deep

section
variable {H : Type} {enc : TypeId × Value → H} {P : Program} {w : World} {base : Nat} {spare : Nat → Bool} {held : Bool}
/-- The cells of a struct whose fields are all of one kind of integer. -/
theorem ints_of_struct {t : TypeId} {fs : Array Field} {k : IntKind} {fuel : Nat} {cs : List Value} {x : DataW H × List MemPlace} (hs : P.underlying t = some (.struct fs)) (hone : oneCellFields P fs = true)
    (hk : ∀ (i : Nat) (f : Field), fs[i]? = some f → P.underlying f.type = some (.int k)) (hC : P.cellsOf t = fs.size) (h : DataW.trod enc P w base spare held fuel t cs = some x) :
    ∃ xs : List Int, xs.length = fs.size ∧ cs = xs.map (.int k) ∧ ∀ a ∈ xs, (Lit.int k a).wf = true := by
  obtain ⟨ys, m, _, _, hlen, hyl, hf⟩ := DataW.trod_struct hs h
  have key : ∀ i, i < cs.length → ∃ a : Int, cs[i]? = some (.int k a) ∧ (Lit.int k a).wf = true := by
    intro i hi
    have hfi : i < fs.size := by omega
    have hq := Array.getElem?_eq_getElem hfi
    obtain ⟨ho, hc⟩ := hone_of hone i _ hq
    have h1 := hf i _ hq
    rw [ho, hc, List.drop_eq_getElem_cons hi, List.getElem?_eq_getElem (show i < ys.length by omega)] at h1
    obtain ⟨a, ha, _, hw⟩ := DataW.trod_int (hk i _ hq) h1
    simp only [List.take_succ_cons, List.take_zero, List.cons.injEq, and_true] at ha
    exact ⟨a, by rw [List.getElem?_eq_getElem hi, ha], hw⟩
  clear hf h
  have key2 : ∃ xs : List Int, cs = xs.map (.int k) ∧ ∀ a ∈ xs, (Lit.int k a).wf = true := by
    clear hlen
    induction cs with
    | nil => exact ⟨[], rfl, by simp⟩
    | cons c cs ih =>
      obtain ⟨a, ha, hw⟩ := key 0 (by simp)
      obtain ⟨xs, hx, hws⟩ := ih fun i hi => key (i + 1) (by simpa using hi)
      simp only [List.getElem?_cons_zero, Option.some.injEq] at ha
      refine ⟨a :: xs, by rw [ha, hx]; rfl, fun b hb => ?_⟩
      rcases List.mem_cons.1 hb with rfl | hb
      · exact hw
      · exact hws b hb
  obtain ⟨xs, hx, hws⟩ := key2
  exact ⟨xs, by rw [hx, List.length_map] at hlen; omega, hx, hws⟩
/-- By value. -/
theorem open_ints_struct {r : Reach} {b0 : Nat} {t : TypeId} {fs : Array Field} {k : IntKind} {v : Value} {d : DataW H} {p : List MemPlace} (hs : P.underlying t = some (.struct fs)) (hone : oneCellFields P fs = true)
    (hk : ∀ (i : Nat) (f : Field), fs[i]? = some f → P.underlying f.type = some (.int k)) (hC : P.cellsOf t = fs.size) (hv : Value.okWide P w r b0 t v) (h : DataW.Trod enc P w base spare held t v d p) :
    ∃ xs : List Int, xs.length = fs.size ∧ v = .agg (xs.map (.int k)).toArray ∧ ∀ a ∈ xs, (Lit.int k a).wf = true := by
  obtain ⟨cs, rfl, _⟩ := okWide_struct hs hv
  obtain ⟨fuel, hf⟩ := h
  obtain ⟨xs, h1, h2, h3⟩ := ints_of_struct hs hone hk hC hf
  refine ⟨xs, h1, ?_, h3⟩
  have : cs.toList = xs.map (.int k) := h2
  rw [← this]
theorem rdl_of {α : Type} {sz len cap : Nat} {enc' : α → List Value} {a : Addr} (hsz : 0 < sz) (hne : ∀ b, (enc' b).length = sz) (hl : len ≤ cap) (hm : cap ≤ maxLen) (h : ∀ i, i < len → ∃ b : α, Cells w (a.add (i * sz)) (enc' b)) :
    ∃ l : List α, RdL w sz enc' (.slice (some a) len cap) l := by
  have key : ∀ n, n ≤ len → ∃ l : List α, l.length = n ∧ ∀ i b, l[i]? = some b → Cells w (a.add (i * sz)) (enc' b) := by
    intro n
    induction n with
    | zero => exact fun _ => ⟨[], rfl, fun i b hi => by simp at hi⟩
    | succ n ih =>
      intro hn
      obtain ⟨l, h1, h2⟩ := ih (by omega)
      obtain ⟨b, hb⟩ := h n (by omega)
      refine ⟨l ++ [b], by simp [h1], fun i c hi => ?_⟩
      rcases Nat.lt_or_ge i n with hlt | hge
      · rw [List.getElem?_append_left (by omega)] at hi; exact h2 i c hi
      · have : i < (l ++ [b]).length := (List.getElem?_eq_some_iff.1 hi).1
        have e : i = n := by simp [h1] at this; omega
        subst e
        rw [List.getElem?_append_right (by omega), h1, Nat.sub_self] at hi
        simp at hi
        subst hi; exact hb
  obtain ⟨l, h1, h2⟩ := key len (Nat.le_refl _)
  refine ⟨l, some a, cap, by rw [h1], by omega, hm, fun hpos => ⟨a, rfl, ?_, h2⟩⟩
  have hb := h2 0 l[0] (List.getElem?_eq_getElem hpos) 0 _ (List.getElem?_eq_getElem (by rw [hne]; exact hsz))
  have := World.block_lt_of_cell? w _ hb
  rwa [block_of_add, block_of_add] at this
/-- A slice of them. -/
theorem open_ints_slice {t e : TypeId} {fs : Array Field} {k : IntKind} {a : Option Addr} {len cap : Nat} {d : DataW H} {p : List MemPlace} (ht : P.underlying t = some (.slice e)) (hs : P.underlying e = some (.struct fs)) (hone : oneCellFields P fs = true)
    (hk : ∀ (i : Nat) (f : Field), fs[i]? = some f → P.underlying f.type = some (.int k)) (hC : P.cellsOf e = fs.size) (hpos : 0 < fs.size) (h : DataW.Trod enc P w base spare held t (.slice a len cap) d p) :
    ∃ l : List {xs : List Int // xs.length = fs.size}, RdL w fs.size (fun x => x.1.map (.int k)) (.slice a len cap) l := by
  obtain ⟨fuel, hf⟩ := h
  rcases open_slice ht hf with ⟨h0, _⟩ | ⟨ad, len', cap', m, n, D, Pl, hcs, hb, hl, hm, hmm, _, hi⟩
  · simp [Value.cells] at h0
    obtain ⟨rfl, rfl, rfl⟩ := h0
    exact ⟨[], RdL.nil_ w⟩
  · simp [Value.cells] at hcs
    obtain ⟨rfl, rfl, rfl⟩ := hcs
    refine rdl_of hpos (fun b => by rw [List.length_map]; exact b.2) hl hm fun i hlt => ?_
    have hlm : len ≤ m := by rw [hmm]; split <;> omega
    obtain ⟨cs', hc, htr⟩ := hi i (by omega)
    rw [hC] at hc
    obtain ⟨_, hcl, hat⟩ := World.cells?_some hc
    obtain ⟨xs, h1, h2, _⟩ := ints_of_struct hs hone hk hC htr
    refine ⟨⟨xs, h1⟩, fun j u hu => ?_⟩
    have hu' : cs'[j]? = some u := by rw [h2]; exact hu
    have hj : j < fs.size := by have := (List.getElem?_eq_some_iff.1 hu').1; omega
    rw [hat j hj, hu']
/-- A slice of integers. -/
theorem open_words_slice {t e : TypeId} {k : IntKind} {a : Option Addr} {len cap : Nat} {d : DataW H} {p : List MemPlace} (ht : P.underlying t = some (.slice e)) (he : P.underlying e = some (.int k)) (hC : P.cellsOf e = 1) (h : DataW.Trod enc P w base spare held t (.slice a len cap) d p) :
    ∃ l : List {a : Int // (Lit.int k a).wf = true}, RdL w 1 (fun x => [.int k x.1]) (.slice a len cap) l := by
  obtain ⟨fuel, hf⟩ := h
  rcases open_slice ht hf with ⟨h0, _⟩ | ⟨ad, len', cap', m, n, D, Pl, hcs, hb, hl, hm, hmm, _, hi⟩
  · simp [Value.cells] at h0
    obtain ⟨rfl, rfl, rfl⟩ := h0
    exact ⟨[], RdL.nil_ w⟩
  · simp [Value.cells] at hcs
    obtain ⟨rfl, rfl, rfl⟩ := hcs
    refine rdl_of (by omega) (fun _ => rfl) hl hm fun i hlt => ?_
    have hlm : len ≤ m := by rw [hmm]; split <;> omega
    obtain ⟨cs', hc, htr⟩ := hi i (by omega)
    rw [hC] at hc
    obtain ⟨_, hcl, hat⟩ := World.cells?_some hc
    obtain ⟨x, hx, _, hw⟩ := DataW.trod_int he htr
    refine ⟨⟨x, hw⟩, fun j u hu => ?_⟩
    have hj : j < 1 := by have := (List.getElem?_eq_some_iff.1 hu).1; simpa using this
    rw [hat j hj, hx]; exact hu
/-- Bytes of whatever sort of number. -/
theorem wf_u8 {a : Int} (h : (Lit.int .u8 a).wf = true) : 0 ≤ a ∧ a ≤ 255 := bounds_u8 h
def byteOf (x : {a : Int // (Lit.int .u8 a).wf = true}) : UInt8 := UInt8.ofNat x.1.toNat
theorem byteOf_enc (x : {a : Int // (Lit.int .u8 a).wf = true}) : encB (byteOf x) = [.int .u8 x.1] := by
  obtain ⟨a, h⟩ := x
  have := wf_u8 h
  show [Value.int .u8 ((UInt8.ofNat a.toNat).toNat : Int)] = _
  rw [UInt8.toNat_ofNat_of_lt' (show a.toNat < 256 by omega), Int.toNat_of_nonneg this.1]
def natOf (x : {a : Int // (Lit.int .u8 a).wf = true}) : Nat := x.1.toNat
theorem natOf_enc (x : {a : Int // (Lit.int .u8 a).wf = true}) : encN (natOf x) = [.int .u8 x.1] := by
  obtain ⟨a, h⟩ := x
  have := wf_u8 h
  show [Value.int .u8 ((a.toNat : Nat) : Int)] = _
  rw [Int.toNat_of_nonneg this.1]
theorem natOf_lt (l : List {a : Int // (Lit.int .u8 a).wf = true}) : ∀ c ∈ l.map natOf, c < 256 := fun c hc => by
  obtain ⟨⟨a, h⟩, _, rfl⟩ := List.mem_map.1 hc
  have := wf_u8 h
  show a.toNat < 256
  omega
theorem len1_ {α : Type} : ∀ xs : List α, xs.length = 1 → ∃ a, xs = [a]
  | [a], _ => ⟨a, rfl⟩
theorem len2_ {α : Type} : ∀ xs : List α, xs.length = 2 → ∃ a b, xs = [a, b]
  | [a, b], _ => ⟨a, b, rfl⟩
theorem len3_ {α : Type} : ∀ xs : List α, xs.length = 3 → ∃ a b c, xs = [a, b, c]
  | [a, b, c], _ => ⟨a, b, c, rfl⟩
theorem len4_ {α : Type} : ∀ xs : List α, xs.length = 4 → ∃ a b c d, xs = [a, b, c, d]
  | [a, b, c, d], _ => ⟨a, b, c, d, rfl⟩
theorem len5_ {α : Type} : ∀ xs : List α, xs.length = 5 → ∃ a b c d e, xs = [a, b, c, d, e]
  | [a, b, c, d, e], _ => ⟨a, b, c, d, e, rfl⟩
theorem len6_ {α : Type} : ∀ xs : List α, xs.length = 6 → ∃ a b c d e f, xs = [a, b, c, d, e, f]
  | [a, b, c, d, e, f], _ => ⟨a, b, c, d, e, f, rfl⟩
theorem len7_ {α : Type} : ∀ xs : List α, xs.length = 7 → ∃ a b c d e f g, xs = [a, b, c, d, e, f, g]
  | [a, b, c, d, e, f, g], _ => ⟨a, b, c, d, e, f, g, rfl⟩
theorem RdL.map_ {α β : Type} {sz : Nat} {e1 : α → List Value} {e2 : β → List Value} {v : Value} {l : List α} (f : α → β) (hf : ∀ a, e2 (f a) = e1 a) (h : RdL w sz e1 v l) : RdL w sz e2 v (l.map f) := by
  obtain ⟨A, c, rfl, h1, h2, h3⟩ := h
  refine ⟨A, c, by simp, by simpa using h1, h2, fun hl => ?_⟩
  obtain ⟨ad, rfl, hb, hc⟩ := h3 (by simpa using hl)
  refine ⟨ad, rfl, hb, fun i b hi => ?_⟩
  rw [List.getElem?_map] at hi
  cases hq : l[i]? with
  | none => rw [hq] at hi; cases hi
  | some a =>
    rw [hq] at hi
    simp only [Option.map_some, Option.some.injEq] at hi
    subst hi
    rw [hf]; exact hc i a hq
end
end Go.Proofs.YtgjnchjkjdnidaaGreat

/- Texts made of bytes; turned. -/
namespace Go.Proofs.YtgjnchjkjdnidaaGreat
open Go.RowKit
section
variable {P : Program} {n : Nat} {S : Slots} {w : World} {o : Oper}
/-- s[i:j], bounds of any kind of integer. -/
theorem Ev.cutStrK {k1 k2 : IntKind} {T : TypeId} {x y z : Operand} {s : ByteArray} {i j : Nat} (ho : o.op = .slice T x (some y) (some z) none) (hx : ev S x = some (.string s)) (ht : P.underlying T = some .string)
    (hlo : ev S y = some (.int k1 i)) (hhi : ev S z = some (.int k2 j)) (hij : i ≤ j) (hj : j ≤ s.size) : Ev P n o S w (.string (s.extract i j)) := fun a ha => by
  simp only [execOp, ho]; rw [ha.eval hx]
  simp [Instr.sliceAt, Instr.slice, run_underlying ht, Instr.sliceBounds, Instr.sliceBound, ha.eval hlo, ha.eval hhi, asIntOf, hij, hj]
end
def w5 (b : UInt8) : UInt8 := ltr (b.toNat % 5)
def wrL (l : List UInt8) : List UInt8 := (l.take 190).map w5
abbrev s5 : List UInt8 := [84, 65, 68, 70, 63]
theorem s5_cut {n : Nat} (h : n < 5) : (s5.take (n + 1)).drop n = [ltr n] := by
  match n, h with
  | 0, _ => rfl
  | 1, _ => rfl
  | 2, _ => rfl
  | 3, _ => rfl
  | 4, _ => rfl
theorem take_min (l : List UInt8) (n : Nat) : (l.take (min l.length n)).drop 0 = l.take n := by rw [List.drop_zero, Nat.min_comm, ← List.take_take, List.take_length]
theorem w5_more {T : List UInt8} {i : Nat} {x : UInt8} (h : T[i]? = some x) : (T.take (i + 1)).map w5 = (T.take i).map w5 ++ [w5 x] := by rw [List.take_add_one, h, Option.toList_some, List.map_append]; rfl
theorem ltr_L (n : Nat) : isL (ltr n) = true := by unfold ltr; repeat' split
                                                   all_goals decide
theorem wrL_all (l : List UInt8) : (wrL l).all isL = true := by
  unfold wrL; rw [List.all_map, List.all_eq_true]; intro x _; exact ltr_L _
theorem wrL_len (l : List UInt8) : (wrL l).length ≤ l.length ∧ (wrL l).length ≤ 190 := by unfold wrL; rw [List.length_map, List.length_take]; omega
theorem flip_flip (c : UInt8) : flip (flip c) = c := by
  unfold flip
  by_cases h : c = 65
  · subst h; rfl
  · rw [if_neg h]
    by_cases h2 : c = 68
    · subst h2; rfl
    · rw [if_neg h2, if_neg h, if_neg h2]
theorem turn_turn (t : List UInt8) : turnL (turnL t) = t := by
  unfold turnL
  rw [List.map_reverse, List.reverse_reverse, List.map_map]
  exact (List.map_congr_left fun c _ => flip_flip c).trans (List.map_id t)
theorem turn_app (a b : List UInt8) : turnL (a ++ b) = turnL b ++ turnL a := by unfold turnL; rw [List.map_append, List.reverse_append]
theorem flip_L {c : UInt8} (h : isL c = true) : isL (flip c) = true := by
  unfold flip; split
  · decide
  · split
    · decide
    · exact h
theorem turn_all {t : List UInt8} (h : t.all isL = true) : (turnL t).all isL = true := by
  unfold turnL; rw [List.all_reverse, List.all_map, List.all_eq_true]; intro x hx; exact flip_L (List.all_eq_true.1 h x hx)
theorem err_0 {m : Nat} {t : List UInt8} (h : t.length + m ≤ 200) (ha : t.all isL = true) : errB m t = 0 := by unfold errB; rw [if_neg (by omega), if_pos ha]
theorem turnB_ok {t : List UInt8} (h : t.length ≤ 200) (ha : t.all isL = true) : turnB t = (turnL t, 0) := by unfold turnB; rw [if_pos (err_0 (by omega) ha)]
end Go.Proofs.YtgjnchjkjdnidaaGreat

/- Payloads, words and bars, in plain Lean; calls at lists of other kinds. -/
namespace Go.Proofs.YtgjnchjkjdnidaaGreat
open Go.RowKit
theorem rdl_i {w : World} {u : Value} {l : List Nat} (h : RdL w 1 encZ u l) : RdL w 1 encI u (l.map (fun n : Nat => (n : Int))) := RdL.map_ (fun n : Nat => (n : Int)) (fun _ => rfl) h
theorem enc_code {l c : List Nat} (h : IsEnc l c) : Code_ (l.length + 4) c := ⟨h.len, h.el, h.syn⟩
theorem enc_uniq {l c d : List Nat} (hl : l.length ≤ 59) (hc : IsEnc l c) (hd : Code_ (l.length + 4) d) (ht : d.take l.length = l) : c = d := by
  refine code_uniq (P := [l.length, l.length + 1, l.length + 2, l.length + 3]) (by omega) (enc_code hc) hd (by simp) (by simp) (by simp) fun i hi => ?_
  simp only [List.mem_cons, List.not_mem_nil, or_false, not_or] at hi
  rcases Nat.lt_or_ge i l.length with h | h
  · have e1 := cf_take c l.length i
    have e2 := cf_take d l.length i
    rw [if_pos h] at e1 e2
    rw [← e1, ← e2, hc.pre, ht]
  · rw [cf_none (by rw [hc.len]; omega), cf_none (by rw [hd.len]; omega)]
structure Near (l er c es : List Nat) : Prop where
  code : Code_ l.length c
  told : es = diffs l c er
  bound : 2 * es.length + er.length ≤ 4
theorem sorted_one {D : List Nat} {a : Nat} (hs : D.Pairwise (· < ·)) (h : ∀ i ∈ D, i = a) : D.length ≤ 1 := by
  match D, hs, h with
  | [], _, _ => simp
  | [x], _, _ => simp
  | x :: y :: D, hs, h =>
    have h1 := h x (by simp); have h2 := h y (by simp)
    have := (List.pairwise_cons.1 hs).1 y (by simp)
    omega
theorem sorted_two {D : List Nat} {a b : Nat} (hs : D.Pairwise (· < ·)) (h : ∀ i ∈ D, i = a ∨ i = b) : D.length ≤ 2 := by
  match D, hs, h with
  | [], _, _ => simp
  | [x], _, _ => simp
  | [x, y], _, _ => simp
  | x :: y :: z :: D, hs, h =>
    obtain ⟨p1, p2⟩ := List.pairwise_cons.1 hs
    have := p1 y (by simp); have := (List.pairwise_cons.1 p2).1 z (by simp); have := p1 z (by simp)
    have h1 := h x (by simp); have h3 := h y (by simp); have h5 := h z (by simp)
    omega
theorem found_cases {l er c es : List Nat} {e : Int} (hl : El l) (hn : l.length ≤ 63) (hed : er.Nodup) (her : ∀ a ∈ er, a < l.length) (h4 : er.length ≤ 4) (hf : Found l er e c es) :
    (e = 190 ∧ c = [] ∧ es = [] ∧ ∀ d, Code_ l.length d → ¬ 2 * (diffs l d er).length + er.length ≤ 4) ∨ (e = 0 ∧ Near l er c es) := by
  rcases id hf with ⟨_, he, hc, hes⟩ | ⟨pre, P, rest, hcd, _, hy, he, _⟩
  · refine .inl ⟨he, hc, hes, fun d hd hb => ?_⟩
    have := (found_is hl hn hed her h4 hd hb hf).1
    omega
  · have hPc : P ∈ candL l.length er := by rw [hcd]; simp
    have i1 := cand_nodup hPc hed
    obtain ⟨i2, i3⟩ := cand_in hPc h4 her
    obtain ⟨hcc, hco⟩ := yes_code hl i1 i2 i3 hy
    have hDs := diffs_lt l c er
    have hDP : ∀ i ∈ diffs l c er, i ∈ P ∧ i ∉ er := fun i hi => by
      obtain ⟨_, h2, h3⟩ := mem_diffs.1 hi
      rcases Decidable.em (i ∈ P) with h | h
      · exact ⟨h, h2⟩
      · exact absurd (hco i h) h3
    have hb : 2 * (diffs l c er).length + er.length ≤ 4 := by
      rcases mem_cand hPc with rfl | ⟨h2, a, _, _, rfl⟩ | ⟨rfl, a, b, _, _, rfl⟩
      · have : diffs l c P = [] := List.eq_nil_iff_forall_not_mem.2 fun i hi => (hDP i hi).2 (hDP i hi).1
        rw [this]; simp only [List.length_nil]; omega
      · have := sorted_one hDs (a := a) fun i hi => by
          obtain ⟨h1, h3⟩ := hDP i hi
          rcases List.mem_append.1 h1 with h | h
          · exact absurd h h3
          · exact List.mem_singleton.1 h
        omega
      · have := sorted_two hDs (a := a) (b := b) fun i hi => by simpa using (hDP i hi).1
        simp only [List.length_nil]; omega
    have hfi := found_is hl hn hed her h4 hcc hb hf
    exact .inr ⟨he, hcc, hfi.2.2, by rw [hfi.2.2]; exact hb⟩
theorem erN_cast (er : List Nat) : erN (er.map fun n : Nat => (n : Int)) = er := by
  unfold erN
  rw [List.map_map]
  exact (List.map_congr_left fun a _ => Int.toNat_natCast a).trans (List.map_id _)
theorem okE_cast {n : Nat} {er : List Nat} (hd : er.Nodup) (h : ∀ a ∈ er, a < n) : okE n (er.map fun n : Nat => (n : Int)) := by
  refine ⟨fun a ha => ?_, ?_⟩
  · obtain ⟨x, hx, rfl⟩ := List.mem_map.1 ha
    have := h x hx
    omega
  · rw [List.Nodup, List.pairwise_map]
    exact List.Pairwise.imp (fun h e => h (by omega)) hd
/-- Bytes as numbers, numbers as bytes. -/
def nB (l : List UInt8) : List Nat := l.map (·.toNat)
def bN (l : List Nat) : List UInt8 := l.map UInt8.ofNat
theorem nB_len (l : List UInt8) : (nB l).length = l.length := List.length_map ..
theorem bN_len (l : List Nat) : (bN l).length = l.length := List.length_map ..
theorem bN_nB (l : List UInt8) : bN (nB l) = l := by
  unfold bN nB
  rw [List.map_map]
  exact (List.map_congr_left fun c _ => by simp).trans (List.map_id l)
theorem nB_bN {l : List Nat} (h : ∀ a ∈ l, a < 256) : nB (bN l) = l := by
  unfold bN nB
  rw [List.map_map]
  exact (List.map_congr_left fun c hc => UInt8.toNat_ofNat_of_lt' (h c hc)).trans (List.map_id l)
theorem rdl_nB {w : World} {u : Value} {l : List UInt8} (h : RdL w 1 encB u l) : RdL w 1 encN u (nB l) := RdL.map_ (fun c : UInt8 => c.toNat) (fun _ => rfl) h
theorem rdl_bN {w : World} {u : Value} {l : List Nat} (h : RdL w 1 encN u l) (h2 : ∀ a ∈ l, a < 256) : RdL w 1 encB u (bN l) := by
  obtain ⟨A, c, rfl, h1, h3, h4⟩ := h
  refine ⟨A, c, by rw [bN_len], by rw [bN_len]; exact h1, h3, fun hl => ?_⟩
  obtain ⟨ad, rfl, hb, hc⟩ := h4 (by rw [bN_len] at hl; exact hl)
  refine ⟨ad, rfl, hb, fun i a hi => ?_⟩
  unfold bN at hi
  rw [List.getElem?_map] at hi
  cases hq : l[i]? with
  | none => rw [hq] at hi; cases hi
  | some x =>
    rw [hq] at hi
    injection hi with hi
    subst hi
    have := hc i x hq
    unfold encB
    rw [UInt8.toNat_ofNat_of_lt' (h2 x (List.mem_of_getElem? hq))]
    exact this
theorem own_nB {w : World} {B e : Nat} {u : Value} {l : List UInt8} (h : Own w B e 1 encB u l) : Own w B e 1 encN u (nB l) := by
  unfold Own at h ⊢
  have e1 : (nB l).flatMap encN = l.flatMap encB := by
    unfold nB
    rw [List.flatMap_map]
    rfl
  rw [e1, nB_len]
  exact h
/-- The letters of a word, and its bars. -/
def wd (c : List Nat) : List UInt8 := (bN c).flatMap w3
def barsT (c : List Nat) : List UInt8 := [65, 84] ++ wd c ++ [70, 68]
theorem wd_len (c : List Nat) : (wd c).length = 3 * c.length := by unfold wd; rw [w3s_len, bN_len]
theorem wd_all (c : List Nat) : (wd c).all isL = true := by
  unfold wd
  rw [List.all_eq_true]
  intro x hx
  obtain ⟨s, _, hs⟩ := List.mem_flatMap.1 hx
  unfold w3 at hs
  simp only [List.mem_cons, List.not_mem_nil, or_false] at hs
  rcases hs with rfl | rfl | rfl <;> exact ltr_L _
theorem barsT_len (c : List Nat) : (barsT c).length = 3 * c.length + 4 := by unfold barsT; simp [wd_len]
theorem barsT_all (c : List Nat) : (barsT c).all isL = true := by unfold barsT; rw [List.all_append, List.all_append, wd_all]; decide
theorem el_256 {c : List Nat} (h : El c) : ∀ a ∈ c, a < 256 := fun a ha => by have := h a ha; omega
theorem writeB_wd {c : List Nat} (h : El c) (hl : c.length ≤ 66) : writeB (bN c) = (wd c, 0) := by
  refine w_ok (by rw [bN_len]; omega) ?_
  rw [List.all_eq_true]
  intro x hx
  obtain ⟨a, ha, rfl⟩ := List.mem_map.1 hx
  rw [decide_eq_true_eq, UInt8.toNat_ofNat_of_lt' (el_256 h a ha)]
  exact h a ha
theorem frameB_wd {c : List Nat} (hl : c.length = 20) : frameB (wd c) = (barsT c, 0) := by
  unfold frameB
  rw [if_pos (errB_ok (by rw [wd_len]; omega) (wd_all c))]
  rfl
/-- What a payload's error is; its word; its bars. -/
def errW (t : List UInt8) : Int := if 28 < t.length then 3 else if t.all isDg then 0 else 2
theorem errW_0 {t : List UInt8} (h : t.length ≤ 28) (ha : t.all isDg = true) : errW t = 0 := by unfold errW; rw [if_neg (by omega), if_pos ha]
theorem errW_long {t : List UInt8} (h : 28 < t.length) : errW t = 3 := by unfold errW; rw [if_pos h]
theorem errW_bad {t : List UInt8} (h : t.length ≤ 28) (ha : t.all isDg = false) : errW t = 2 := by unfold errW; rw [if_neg (by omega), ha]; rfl
theorem errW_ok {t : List UInt8} (h : errW t = 0) : t.length ≤ 28 ∧ t.all isDg = true := by
  unfold errW at h
  split at h
  · omega
  · split at h
    · exact ⟨by omega, by assumption⟩
    · omega
def WrR (t x : List UInt8) : Prop := (errW t = 0 → ∃ c, IsEnc (b64 (numT t)) c ∧ x = barsT c) ∧ (errW t ≠ 0 → x = [])
theorem wr_no {t : List UInt8} (h : errW t ≠ 0) : WrR t [] := ⟨fun h2 => absurd h2 h, fun _ => rfl⟩
theorem b64_ok (n : Nat) : encOk (b64 n) = true := encOk_iff.2 ⟨by rw [b64_len]; decide, by rw [b64_len]; decide, b64_lt n⟩
theorem b64_enc {n : Nat} {c d : List Nat} (hc : IsEnc (b64 n) c) (hd : IsEnc (b64 n) d) : c = d := by
  have h := enc_code hd
  exact enc_uniq (by rw [b64_len]; decide) hc h hd.pre
theorem enc20 {n : Nat} {c : List Nat} (h : IsEnc (b64 n) c) : c.length = 20 := by rw [h.len, b64_len]
theorem wr_uniq {t x y : List UInt8} (hx : WrR t x) (hy : WrR t y) : x = y := by
  by_cases h : errW t = 0
  · obtain ⟨c, hc, rfl⟩ := hx.1 h
    obtain ⟨d, hd, rfl⟩ := hy.1 h
    rw [b64_enc hc hd]
  · rw [hx.2 h, hy.2 h]
/-- What is found: the payload, whether it was turned, what was corrected, and erased. -/
def castI (l : List Nat) : List Int := l.map fun n : Nat => (n : Int)
inductive RdR (x : List UInt8) : List UInt8 → Bool → List Nat → List Nat → Int → Prop
  | len (h : x.length ≠ 64) : RdR x [] false [] [] 2
  | ends (h : x.length = 64) (he : (unframeB x).2.2 ≠ 0) : RdR x [] false [] [] (unframeB x).2.2
  | far {c es : List Nat} {e : Int} (h : x.length = 64) (he : (unframeB x).2.2 = 0) (hd : DecP (nB (readB (unframeB x).1).1) (castI (readB (unframeB x).1).2.1) e c es) (h0 : e ≠ 0) : RdR x [] false [] [] e
  | code {c es : List Nat} (h : x.length = 64) (he : (unframeB x).2.2 = 0) (hd : DecP (nB (readB (unframeB x).1).1) (castI (readB (unframeB x).1).2.1) 0 c es) (hp : PayT (vb 64 0 (c.take 16)) none) : RdR x [] false [] [] 220
  | found {c es : List Nat} {t : List UInt8} (h : x.length = 64) (he : (unframeB x).2.2 = 0) (hd : DecP (nB (readB (unframeB x).1).1) (castI (readB (unframeB x).1).2.1) 0 c es) (hp : PayT (vb 64 0 (c.take 16)) (some t)) : RdR x t (unframeB x).2.1 es (readB (unframeB x).1).2.1 0
/-- What stands between the ends of 64 letters. -/
theorem turnL_len' (t : List UInt8) : (turnL t).length = t.length := by unfold turnL; rw [List.length_reverse, List.length_map]
theorem inner_len {t : List UInt8} (h : 4 ≤ t.length) : (inner t).length = t.length - 4 := by unfold inner; rw [List.length_drop, List.length_take]; omega
theorem inner_all {t : List UInt8} (h : t.all isL = true) : (inner t).all isL = true := by
  rw [List.all_eq_true] at h ⊢
  exact fun x hx => h x (List.mem_of_mem_take (List.mem_of_mem_drop hx))
theorem unf_60 {x : List UInt8} (h : x.length = 64) (he : (unframeB x).2.2 = 0) : (unframeB x).1.length = 60 ∧ (unframeB x).1.all isL = true := by
  by_cases h0 : errB 0 x = 0
  · obtain ⟨_, ha⟩ := err_ok h0
    by_cases hf : framed x = true
    · rw [unf_up h0 hf]
      exact ⟨by rw [inner_len (by omega)]; omega, inner_all ha⟩
    · have hf := Bool.eq_false_iff.2 hf
      by_cases hg : framed (turnL x) = true
      · rw [unf_dn h0 hf hg]
        exact ⟨by rw [inner_len (by rw [turnL_len']; omega), turnL_len']; omega, inner_all (turn_all ha)⟩
      · rw [unf_no h0 hf (Bool.eq_false_iff.2 hg)] at he
        cases he
  · rw [unf_err h0] at he
    exact absurd he h0
theorem symB_lt {t : List UInt8} {k : Nat} (h : t.all isL = true) : (symB t k).toNat < 64 := by
  unfold symB
  split
  · decide
  · have hu : unc t k = false := by rename_i h; exact Bool.eq_false_iff.2 h
    have hq : ¬ 0 ≤ Lib.indexByte (part t k) 63 := of_decide_eq_false hu
    have hnu := (no_unc hq).2
    have hpl : (part t k).length ≤ 3 := by unfold part; rw [List.length_drop, List.length_take]; omega
    have key : ∀ (l : List UInt8), (∀ c ∈ l, isL c = true ∧ c ≠ 63) → ∀ a n, a < 4 ^ n → l.foldl (fun s c => s * 4 + num c) a < 4 ^ (n + l.length) := by
      intro l
      induction l with
      | nil => intro _ a n ha; exact ha
      | cons c l ih =>
        intro hl a n ha
        obtain ⟨c1, c2⟩ := hl c (List.mem_cons_self ..)
        have hn := (num_of c1 c2).2
        have := ih (fun x hx => hl x (List.mem_cons_of_mem _ hx)) (a * 4 + num c) (n + 1) (by rw [Nat.pow_succ]; omega)
        rw [List.foldl_cons, List.length_cons, show n + (l.length + 1) = n + 1 + l.length by omega]
        exact this
    have h1 := key (part t k) (fun c hc => ⟨List.all_eq_true.1 h c (part_mem hc), hnu c hc⟩) 0 0 (by decide)
    have h2 : 4 ^ (0 + (part t k).length) ≤ 4 ^ 3 := Nat.pow_le_pow_right (by decide) (by omega)
    have h3 : accN (part t k) < 64 := Nat.lt_of_lt_of_le h1 h2
    rw [UInt8.toNat_ofNat_of_lt' (show accN (part t k) < 256 by omega)]
    exact h3
theorem read_60 {t : List UInt8} (h : t.length = 60) (ha : t.all isL = true) : readB t = (symsL t 20, erasL t 20, 0) := by
  have := read_ok (errB_ok (m := 0) (by omega) ha) (by omega : t.length % 3 = 0)
  rw [h] at this
  exact this
theorem syms_el {t : List UInt8} (ha : t.all isL = true) (n : Nat) : El (nB (symsL t n)) := fun a h => by
  obtain ⟨c, hc, rfl⟩ := List.mem_map.1 h
  obtain ⟨k, _, rfl⟩ := List.mem_map.1 hc
  exact symB_lt ha
theorem syms_W {t : List UInt8} (ha : t.all isL = true) : isW (nB (symsL t 20)) = true := isW_iff.2 ⟨by rw [nB_len, syms_len]; decide, by rw [nB_len, syms_len]; decide, syms_el ha 20⟩
theorem eras_nd (t : List UInt8) (n : Nat) : (erasL t n).Nodup := List.Pairwise.filter _ List.nodup_range
theorem eras_lt {t : List UInt8} {n : Nat} : ∀ a ∈ erasL t n, a < n := fun _ ha => List.mem_range.1 (List.mem_filter.1 ha).1
/-- Decode at what was read, in full. -/
theorem dec_near {t : List UInt8} (h : t.length = 60) (ha : t.all isL = true) {c es : List Nat} {e : Int} (hd : DecP (nB (readB t).1) (castI (readB t).2.1) e c es) :
    (e = 190 ∧ c = [] ∧ es = [] ∧ (4 < (erasL t 20).length ∨ ∀ d, Code_ 20 d → ¬ 2 * (diffs (nB (symsL t 20)) d (erasL t 20)).length + (erasL t 20).length ≤ 4)) ∨ (e = 0 ∧ (erasL t 20).length ≤ 4 ∧ Near (nB (symsL t 20)) (erasL t 20) c es) := by
  rw [read_60 h ha] at hd
  have hd : DecP (nB (symsL t 20)) (castI (erasL t 20)) e c es := hd
  have hl : (nB (symsL t 20)).length = 20 := by rw [nB_len, syms_len]
  have hcl : (castI (erasL t 20)).length = (erasL t 20).length := List.length_map ..
  rcases hd with ⟨h1 | h1, _⟩ | ⟨_, _, ⟨h1, h5, h6, h7⟩ | ⟨h1, hf⟩⟩
  · rw [syms_W ha] at h1; cases h1
  · exact absurd (okE_cast (eras_nd t 20) fun a h => by rw [hl]; exact eras_lt a h) h1
  · exact .inl ⟨h5, h6, h7, .inl (by omega)⟩
  · unfold castI at hf
    rw [erN_cast] at hf
    rcases found_cases (syms_el ha 20) (by omega) (eras_nd t 20) (fun a h => by rw [hl]; exact eras_lt a h) (by omega) hf with ⟨a, b, c, d⟩ | h8
    · rw [hl] at d
      exact .inl ⟨a, b, c, .inr d⟩
    · exact .inr ⟨h8.1, by omega, h8.2⟩
theorem dec_e {t : List UInt8} (h : t.length = 60) (ha : t.all isL = true) {c es : List Nat} {e : Int} (hd : DecP (nB (readB t).1) (castI (readB t).2.1) e c es) (h0 : e = 0) : c.length = 20 ∧ El c := by
  rcases dec_near h ha hd with ⟨h1, _⟩ | ⟨_, _, h2⟩
  · omega
  · have := h2.code.len
    rw [nB_len, syms_len] at this
    exact ⟨this, h2.code.el⟩
/-- The cells of a list of numbers of the call's own. -/
theorem own_c16 {w : World} {B e g cap k n : Nat} {c : List Nat} (h : Own w B e 1 encN (.slice (some ⟨g, 0, none⟩) n cap) c) (hk : k ≤ c.length) (h0 : 0 < c.length) : Cells w ⟨g, 0, none⟩ (c16 (c.take k)) := fun j u hu => by
  unfold c16 at hu
  rw [List.getElem?_map] at hu
  cases hq : (c.take k)[j]? with
  | none => rw [hq] at hu; cases hu
  | some x =>
    rw [hq] at hu
    injection hu with hu
    subst hu
    have hj : j < k := by have := (List.getElem?_eq_some_iff.1 hq).1; rw [List.length_take] at this; omega
    rw [List.getElem?_take_of_lt hj] at hq
    obtain ⟨A, c', hv, _, _, h3⟩ := h.rdl encN_len
    injection hv with e1 _ _
    obtain ⟨ad, had, _, hcs⟩ := h3 h0
    rw [← e1] at had
    injection had with had
    subst had
    have := hcs j x hq 0 _ rfl
    rw [add_of_add, Nat.mul_one, Nat.add_zero] at this
    exact this
end Go.Proofs.YtgjnchjkjdnidaaGreat

/- Chapter 18, plain: the reference's steps (a seat that has not the whole of layer 18). -/
namespace Go.Proofs.YtgjnchjkjdnidaaGreat
theorem rmA_lt (a b : Nat) (ha : a < 64) : ∀ n, n ≤ 6 → rmA a b n 0 < 4096
  | 0, _ => by show 0 < 4096; omega
  | n + 1, hn => by
    have ih := rmA_lt a b ha n (by omega)
    have hs : a <<< n < 4096 := by
      rw [Nat.shiftLeft_eq]
      have : 2 ^ n ≤ 2 ^ 5 := Nat.pow_le_pow_right (by omega) (by omega)
      calc a * 2 ^ n ≤ 63 * 2 ^ 5 := Nat.mul_le_mul (by omega) this
        _ < 4096 := by decide
    unfold rmA
    simp only
    cases Nat.beq (b >>> n % 2) 1 with
    | true => exact Nat.xor_lt_two_pow (n := 12) ih hs
    | false => exact ih
theorem rmA_hit {a b n : Nat} (h : b >>> n % 2 = 1) : rmA a b (n + 1) 0 = rmA a b n 0 ^^^ a <<< n := by
  rw [rmA]; rw [h]; rfl
theorem rmA_miss {a b n : Nat} (h : b >>> n % 2 ≠ 1) : rmA a b (n + 1) 0 = rmA a b n 0 := by
  rw [rmA]; rw [beq_no h]; rfl
theorem rmB_hit {n p : Nat} (h : p >>> (n + 6) % 2 = 1) : rmB (n + 1) p = rmB n (p ^^^ 67 <<< n) := by rw [rmB, h]; rfl
theorem rmB_miss {n p : Nat} (h : p >>> (n + 6) % 2 ≠ 1) : rmB (n + 1) p = rmB n p := by rw [rmB, beq_no h]; rfl
theorem sh67 {n : Nat} (h : n ≤ 5) : 67 <<< n < 4096 := by
  rw [Nat.shiftLeft_eq]
  have : 2 ^ n ≤ 2 ^ 5 := Nat.pow_le_pow_right (by omega) h
  omega
theorem sh64 {a n : Nat} (ha : a < 64) (h : n ≤ 5) : a <<< n < 4096 := by
  rw [Nat.shiftLeft_eq]
  have : 2 ^ n ≤ 2 ^ 5 := Nat.pow_le_pow_right (by omega) h
  calc a * 2 ^ n ≤ 63 * 2 ^ 5 := Nat.mul_le_mul (by omega) this
    _ < 4096 := by decide
theorem errL_nil (l : List Nat) : errL [l, []] = errL [l] := by unfold errL; simp
theorem errL2_long {p q : List Nat} (h : 128 < p.length ∨ 128 < q.length) : errL [p, q] = 3 := by
  unfold errL; rw [if_pos]
  rcases h with h | h
  · exact ⟨p, by simp, h⟩
  · exact ⟨q, by simp, h⟩
theorem errL2_arg {p q : List Nat} (h1 : p.length ≤ 128) (h2 : q.length ≤ 128) {a : Nat} (h : a ∈ p ∨ a ∈ q) (ha : 64 ≤ a) : errL [p, q] = 2 := by
  have h0 : ∀ l ∈ [p, q], l.length ≤ 128 := fun l hl => by simp at hl; rcases hl with rfl | rfl <;> assumption
  rcases h with h | h
  · exact errL_arg h0 (by simp) h ha
  · exact errL_arg h0 (by simp) h ha
theorem errL2_ok {p q : List Nat} (h1 : p.length ≤ 128) (h2 : q.length ≤ 128) (h3 : El p) (h4 : El q) : errL [p, q] = 0 :=
  errL_zero_iff.2 fun l hl => by simp at hl; rcases hl with rfl | rfl <;> exact ⟨by assumption, by assumption⟩
theorem el_of {p : List Nat} {i : Nat} (hi : p.length ≤ i) (h : ∀ j a, j < i → p[j]? = some a → a < 64) : El p := fun a ha => by
  obtain ⟨j, hj⟩ := List.mem_iff_getElem?.1 ha
  exact h j a (by have := (List.getElem?_eq_some_iff.1 hj).1; omega) hj
theorem el_step {p : List Nat} {i c : Nat} (hc : p[i]? = some c) (hlt : c < 64) (h : ∀ j a, j < i → p[j]? = some a → a < 64) : ∀ j a, j < i + 1 → p[j]? = some a → a < 64 := fun j a hj ha => by
  rcases Nat.lt_or_ge j i with h' | h'
  · exact h j a h' ha
  · obtain rfl : j = i := by omega
    rw [hc] at ha; injection ha with ha; omega
/-- The degree as far as the first i coefficients go. -/
theorem dg_take_hit {p : List Nat} {i c : Nat} (hc : p[i]? = some c) (h0 : c ≠ 0) : dg (p.take (i + 1)) = i + 1 :=
  dg_eq _ i (by rw [cf_take, if_pos (by omega), cf_some hc]; exact h0) fun k hk => by rw [cf_take, if_neg (by omega)]
theorem dg_take_miss {p : List Nat} {i : Nat} (hc : p[i]? = some 0) : dg (p.take (i + 1)) = dg (p.take i) :=
  dg_congr fun k => by
    rw [cf_take, cf_take]
    by_cases h : k < i
    · rw [if_pos h, if_pos (by omega)]
    · rw [if_neg h]
      split
      · obtain rfl : k = i := by omega
        exact cf_some hc
      · rfl
theorem lg_le {a n : Nat} (ha : a < 64) (hn : n ≤ lg a) (h : gp 2 n = a) : n = lg a := by
  have hl := lg_lt a ha
  rw [gp_two n (by omega)] at h
  rw [← h, lg_pw n (by omega)]
theorem lg_ne {a n : Nat} (ha : a < 64) (h0 : a ≠ 0) (hn : n ≤ lg a) (h : gp 2 n ≠ a) : n + 1 ≤ lg a := by
  rcases Nat.eq_or_lt_of_le hn with rfl | h'
  · exact absurd (by rw [gp_two _ (lg_lt a ha), pw_lg a ha h0]) h
  · omega
theorem el2 {a b : Nat} (ha : a < 64) (hb : b < 64) : El [a, b] := El.cons_ ha (el1 hb)
end Go.Proofs.YtgjnchjkjdnidaaGreat

/- Walks (RF). Written by program. -/
namespace Go.Proofs.YtgjnchjkjdnidaaGreat
open Go.RowKit
set_option maxRecDepth 100000 in
set_option maxHeartbeats 1000000 in
theorem rmul_ret (a b : Nat) (w : World) (ha : a < 64) (hb : b < 64) :
    Ret Tryz.prog 90 [.int .u8 (a : Int), .int .u8 (b : Int)] w (fun v w' => v = .int .u8 (gm a b : Int) ∧ Ex w w') := by
  have hB0 : Ex w w := Ex.rfl_ _
  refine Ret.of Tryz.func90 rfl Tryz.ntmps90 rfl ?_
  refine CW.seq ?_
  refine CW.region ?_
  refine RG.vl rfl rfl rfl (Ev.assign rfl rfl) ?_
  refine RG.done ?_
  refine QW.then_ ?_
  refine CW.seq ?_
  refine CW.region ?_
  refine RG.vl rfl rfl rfl (Ev.assign rfl rfl) ?_
  refine RG.done ?_
  refine QW.then_ ?_
  refine CW.seq ?_
  refine CW.seq ?_
  refine CW.region ?_
  refine RG.vl rfl rfl rfl (Ev.assign rfl rfl) ?_
  refine RG.done ?_
  refine QW.then_ ?_
  refine CW.block ?_
  refine CW.loop1 [(0, _), (1, _), (4, _)] ⟨rfl, rfl, rfl, trivial⟩ (fun (i : Nat) => [(6, .int .i64 i), (5, .int .i64 (rmA a b i 0 : Nat))]) (fun i w' => (i ≤ 6) ∧ Ex w w') (fun i => 6 - i) (0) ⟨rfl, rfl, trivial⟩ ⟨by omega, hB0⟩ ?_
  rintro i wl1 ⟨hi, hxwl1⟩
  refine CW.sub (S' := [(6, _), (5, _), (0, _), (1, _), (4, _)]) ⟨rfl, rfl, rfl, rfl, rfl, trivial⟩ ?_
  refine CW.seq ?_
  refine CW.seq ?_
  refine CW.region ?_
  refine RG.vl rfl rfl rfl (Ev.move rfl rfl) ?_
  refine RG.vl rfl rfl rfl (Ev.lss rfl rfl rfl) ?_
  refine RG.done ?_
  refine QW.then_ ?_
  refine CW.condP rfl (fun hc2 => ?_) (fun hc2 => ?_)
  · refine CW.skip ?_
    refine QW.then_ ?_
    refine CW.seq ?_
    refine CW.block ?_
    refine CW.seq ?_
    have hrl := rmA_lt a b ha i (by omega)
    refine CW.region ?_
    refine RG.vl rfl rfl rfl (Ev.move rfl rfl) ?_
    refine RG.vl rfl rfl rfl (Ev.move rfl rfl) ?_
    refine RG.vl rfl rfl rfl (Ev.shrN rfl rfl rfl (by show _ ≤ 8; omega)) ?_
    refine RG.vl rfl rfl rfl ((Ev.rem8 rfl rfl rfl (⟨Int.natCast_nonneg _, by omega⟩)).conv (congrArg (Value.int .u8) (show ((b >>> i : Nat) : Int) % 2 = ((b >>> i % 2 : Nat) : Int) by omega))) ?_
    refine RG.vl rfl rfl rfl (Ev.eqI rfl rfl rfl) ?_
    refine RG.done ?_
    refine QW.then_ ?_
    refine CW.condP rfl (fun hc3 => ?_) (fun hc3 => ?_)
    · have hsh := sh64 ha (show i ≤ 5 by omega)
      have hbit : b >>> i % 2 = 1 := by omega
      refine CW.region ?_
      refine RG.vl rfl rfl rfl (Ev.move rfl rfl) ?_
      refine RG.vl rfl rfl rfl (Ev.move rfl rfl) ?_
      refine RG.vl rfl rfl rfl (Ev.to64 rfl rfl Tryz.underlying5 Tryz.underlying3 (by omega)) ?_
      refine RG.vl rfl rfl rfl (Ev.move rfl rfl) ?_
      refine RG.vl rfl rfl rfl (Ev.shlN rfl rfl rfl (by omega) (by omega)) ?_
      refine RG.vl rfl rfl rfl (Ev.xor64 rfl rfl rfl (by omega) (by omega)) ?_
      refine RG.vl rfl rfl rfl (Ev.assign rfl rfl) ?_
      refine RG.done ?_
      refine QW.sub (S' := [(0, _), (1, _), (4, _), (5, _), (6, _)]) ⟨rfl, rfl, rfl, rfl, rfl, trivial⟩ ?_
      refine QW.blockN ?_
      refine QW.then_ ?_
      refine CW.region ?_
      refine RG.vl rfl rfl rfl (Ev.move rfl rfl) ?_
      refine RG.vl rfl rfl rfl (Ev.addI rfl rfl rfl (by omega)) ?_
      refine RG.vl rfl rfl rfl (Ev.assign rfl rfl) ?_
      refine RG.done ?_
      refine QW.round1 (i + 1) ⟨rfl, by rw [rmA_hit hbit]; rfl, trivial⟩ ⟨rfl, rfl, rfl, trivial⟩ ⟨by omega, (Ex.tr hB0 hxwl1)⟩ (by omega)
    · refine CW.skip ?_
      refine QW.blockN ?_
      refine QW.then_ ?_
      refine CW.region ?_
      refine RG.vl rfl rfl rfl (Ev.move rfl rfl) ?_
      refine RG.vl rfl rfl rfl (Ev.addI rfl rfl rfl (by omega)) ?_
      refine RG.vl rfl rfl rfl (Ev.assign rfl rfl) ?_
      refine RG.done ?_
      refine QW.round1 (i + 1) ⟨rfl, by rw [rmA_miss (show b >>> i % 2 ≠ 1 by omega)]; rfl, trivial⟩ ⟨rfl, rfl, rfl, trivial⟩ ⟨by omega, (Ex.tr hB0 hxwl1)⟩ (by omega)
  · refine CW.exit ?_
    refine QW.thenExit ?_
    refine QW.thenExit ?_
    refine QW.blockHit ?_
    refine QW.then_ ?_
    refine CW.seq ?_
    refine CW.seq ?_
    refine CW.region ?_
    refine RG.vl rfl rfl rfl (Ev.assign rfl rfl) ?_
    refine RG.done ?_
    refine QW.then_ ?_
    refine CW.block ?_
    have hR4 := (Ex.tr hB0 hxwl1)
    refine CW.loop2 [(4, _)] ⟨rfl, trivial⟩ (fun (k1 : Nat) (q : Nat) => [(7, .int .i64 ((k1 : Int) + 5)), (5, .int .i64 (q : Int))]) (fun k1 q w' => (k1 ≤ 6 ∧ rmB k1 q = gm a b ∧ q < 4096) ∧ Ex wl1 w') (fun k1 q => k1) (6) (rmA a b 6 0) ⟨rfl, by obtain rfl : i = 6 := (by omega); rfl, trivial⟩ ⟨⟨by omega, rm_gm a b ha hb, rmA_lt a b ha 6 (by omega)⟩, (Ex.rfl_ _)⟩ ?_
    rintro k1 q wl5 ⟨⟨hk1, hq, hql⟩, hxwl5⟩
    refine CW.sub (S' := [(7, _), (5, _), (4, _)]) ⟨rfl, rfl, rfl, trivial⟩ ?_
    refine CW.seq ?_
    refine CW.seq ?_
    refine CW.region ?_
    refine RG.vl rfl rfl rfl (Ev.move rfl rfl) ?_
    refine RG.vl rfl rfl rfl (Ev.geq rfl rfl rfl) ?_
    refine RG.done ?_
    refine QW.then_ ?_
    refine CW.condP rfl (fun hc6 => ?_) (fun hc6 => ?_)
    · refine CW.skip ?_
      refine QW.then_ ?_
      refine CW.seq ?_
      refine CW.block ?_
      refine CW.seq ?_
      obtain ⟨k, rfl⟩ : ∃ k, k1 = k + 1 := ⟨k1 - 1, by omega⟩
      refine CW.region ?_
      refine RG.vl rfl rfl rfl (Ev.move rfl rfl) ?_
      refine RG.vl rfl rfl rfl ((Ev.move rfl rfl).conv (congrArg (Value.int .i64) (show ((k + 1 : Nat) : Int) + 5 = ((k + 6 : Nat) : Int) by omega))) ?_
      refine RG.vl rfl rfl rfl (Ev.shrN rfl rfl rfl (by show _ ≤ 64; omega)) ?_
      refine RG.vl rfl rfl rfl ((Ev.remI rfl rfl rfl (⟨Int.natCast_nonneg _, by omega⟩)).conv (congrArg (Value.int .i64) (show ((q >>> (k + 6) : Nat) : Int) % 2 = ((q >>> (k + 6) % 2 : Nat) : Int) by omega))) ?_
      refine RG.vl rfl rfl rfl (Ev.eqI rfl rfl rfl) ?_
      refine RG.done ?_
      refine QW.then_ ?_
      refine CW.condP rfl (fun hc7 => ?_) (fun hc7 => ?_)
      · have hs7 := sh67 (show k ≤ 5 by omega)
        have hbit : q >>> (k + 6) % 2 = 1 := by omega
        have hxq := Nat.xor_lt_two_pow (n := 12) hql hs7
        refine CW.region ?_
        refine RG.vl rfl rfl rfl (Ev.move rfl rfl) ?_
        refine RG.vl rfl rfl rfl ((Ev.move rfl rfl).conv (congrArg (Value.int .i64) (show ((k + 1 : Nat) : Int) + 5 = ((k + 6 : Nat) : Int) by omega))) ?_
        refine RG.vl rfl rfl rfl ((Ev.subI rfl rfl rfl (by omega)).conv (congrArg (Value.int .i64) (show ((k + 6 : Nat) : Int) - 6 = ((k : Nat) : Int) by omega))) ?_
        refine RG.vl rfl rfl rfl (Ev.shlN (p := 67) rfl rfl rfl (by omega) (by omega)) ?_
        refine RG.vl rfl rfl rfl (Ev.xor64 rfl rfl rfl (by omega) (by omega)) ?_
        refine RG.vl rfl rfl rfl (Ev.assign rfl rfl) ?_
        refine RG.done ?_
        refine QW.blockN ?_
        refine QW.then_ ?_
        refine CW.region ?_
        refine RG.vl rfl rfl rfl (Ev.move rfl rfl) ?_
        refine RG.vl rfl rfl rfl (Ev.subI rfl rfl rfl (by omega)) ?_
        refine RG.vl rfl rfl rfl (Ev.assign rfl rfl) ?_
        refine RG.done ?_
        refine QW.sub (S' := [(4, _), (5, _), (7, _)]) ⟨rfl, rfl, rfl, trivial⟩ ?_
        refine QW.round2 (k) (q ^^^ 67 <<< k) ⟨congrArg (fun x => some (Value.int .i64 x)) (show ((k + 1 : Nat) : Int) + 5 - 1 = (k : Int) + 5 by omega), rfl, trivial⟩ ⟨rfl, trivial⟩ ⟨⟨by omega, by rw [← rmB_hit hbit]; exact hq, hxq⟩, hxwl5⟩ (by omega)
      · refine CW.skip ?_
        refine QW.blockN ?_
        refine QW.then_ ?_
        refine CW.region ?_
        refine RG.vl rfl rfl rfl (Ev.move rfl rfl) ?_
        refine RG.vl rfl rfl rfl (Ev.subI rfl rfl rfl (by omega)) ?_
        refine RG.vl rfl rfl rfl (Ev.assign rfl rfl) ?_
        refine RG.done ?_
        refine QW.round2 (k) (q) ⟨congrArg (fun x => some (Value.int .i64 x)) (show ((k + 1 : Nat) : Int) + 5 - 1 = (k : Int) + 5 by omega), rfl, trivial⟩ ⟨rfl, trivial⟩ ⟨⟨by omega, by rw [← rmB_miss (show q >>> (k + 6) % 2 ≠ 1 by omega)]; exact hq, hql⟩, hxwl5⟩ (by omega)
    · refine CW.exit ?_
      refine QW.thenExit ?_
      refine QW.thenExit ?_
      refine QW.blockHit ?_
      refine QW.then_ ?_
      refine CW.seq ?_
      have hgl := gm_lt a b
      have hq0 : q = gm a b := by obtain rfl : k1 = 0 := (by omega); exact hq
      refine CW.region ?_
      refine RG.vl rfl rfl rfl (Ev.move rfl rfl) ?_
      refine RG.vl rfl rfl rfl (Ev.to8 rfl rfl Tryz.underlying3 Tryz.underlying5 (by omega)) ?_
      refine RG.vl rfl rfl rfl (Ev.assign rfl rfl) ?_
      refine RG.done ?_
      refine QW.then_ ?_
      refine CW.ret ?_
      refine QW.ret1 rfl rfl ?_
      have hB := (Ex.tr hR4 hxwl5)
      obtain rfl : k1 = 0 := by omega
      have e : q = gm a b := hq
      rw [e]
      exact ⟨rfl, hB⟩

set_option maxRecDepth 100000 in
set_option maxHeartbeats 1000000 in
theorem rinv_ret (a : Nat) (w : World) (ha : a < 64) :
    Ret Tryz.prog 93 [.int .u8 (a : Int)] w (fun v w' => v = .int .u8 ((if a = 0 then 0 else gi a : Nat) : Int) ∧ Ex w w') := by
  have hB0 : Ex w w := Ex.rfl_ _
  refine Ret.of Tryz.func93 rfl Tryz.ntmps93 rfl ?_
  refine CW.seq ?_
  refine CW.region ?_
  refine RG.vl rfl rfl rfl (Ev.assign rfl rfl) ?_
  refine RG.done ?_
  refine QW.then_ ?_
  refine CW.seq ?_
  refine CW.seq ?_
  refine CW.region ?_
  refine RG.vl rfl rfl rfl (Ev.assign rfl rfl) ?_
  refine RG.done ?_
  refine QW.then_ ?_
  refine CW.block ?_
  refine CW.loop1 [(0, _)] ⟨rfl, trivial⟩ (fun (x : Nat) => [(3, .int .u8 (x : Int))]) (fun x w' => (1 ≤ x ∧ x ≤ 64 ∧ ∀ y, 1 ≤ y → y < x → gm a y ≠ 1) ∧ Ex w w') (fun x => 64 - x) (1) ⟨rfl, trivial⟩ ⟨⟨by omega, by omega, fun y h1 h2 => by omega⟩, hB0⟩ ?_
  rintro x wl1 ⟨⟨hx1, hx2, hno⟩, hxwl1⟩
  refine CW.sub (S' := [(3, _), (0, _)]) ⟨rfl, rfl, trivial⟩ ?_
  refine CW.seq ?_
  refine CW.seq ?_
  refine CW.region ?_
  refine RG.vl rfl rfl rfl (Ev.move rfl rfl) ?_
  refine RG.vl rfl rfl rfl (Ev.lss rfl rfl rfl) ?_
  refine RG.done ?_
  refine QW.then_ ?_
  refine CW.condP rfl (fun hc2 => ?_) (fun hc2 => ?_)
  · refine CW.skip ?_
    refine QW.then_ ?_
    refine CW.seq ?_
    refine CW.block ?_
    refine CW.seq ?_
    refine CW.region ?_
    refine RG.vl rfl rfl rfl (Ev.move rfl rfl) ?_
    refine RG.vl rfl rfl rfl (Ev.move rfl rfl) ?_
    refine RG.call rfl rfl rfl rfl rfl rfl rfl en_90 (rmul_ret _ _ _ (by exact ha) (by omega)) ?_
    rintro _ w3 ⟨rfl, hx3⟩
    replace hxwl1 := Ex.tr hxwl1 hx3
    have hE4 := hx3
    refine RG.vl rfl rfl rfl (Ev.eqI rfl rfl rfl) ?_
    refine RG.done ?_
    refine QW.then_ ?_
    refine CW.condP rfl (fun hc5 => ?_) (fun hc5 => ?_)
    · refine CW.seq ?_
      refine CW.region ?_
      refine RG.vl rfl rfl rfl (Ev.move rfl rfl) ?_
      refine RG.vl rfl rfl rfl (Ev.assign rfl rfl) ?_
      refine RG.done ?_
      refine QW.then_ ?_
      refine CW.ret ?_
      refine QW.blockR ?_
      refine QW.thenRet ?_
      refine QW.thenRet ?_
      refine QW.blockR ?_
      refine QW.thenRet ?_
      refine QW.ret1 rfl rfl ?_
      have hB := (Ex.tr hB0 hxwl1)
      have hh : gm a x = 1 := by omega
      exact ⟨by rw [if_neg (by rintro rfl; rw [gm_zl] at hh; cases hh), gi_uniq a x ha (by omega) hh], hB⟩
    · refine CW.skip ?_
      refine QW.blockN ?_
      refine QW.then_ ?_
      refine CW.region ?_
      refine RG.vl rfl rfl rfl (Ev.move rfl rfl) ?_
      refine RG.vl rfl rfl rfl (Ev.add8 rfl rfl rfl (by omega)) ?_
      refine RG.vl rfl rfl rfl (Ev.assign rfl rfl) ?_
      refine RG.done ?_
      refine QW.round1 (x + 1) ⟨rfl, trivial⟩ ⟨rfl, trivial⟩ ⟨⟨by omega, by omega, fun y h1 h2 => by rcases Nat.lt_or_ge y x with h | h; exact hno y h1 h; obtain rfl : y = x := (by omega); omega⟩, (Ex.tr hB0 hxwl1)⟩ (by omega)
  · refine CW.exit ?_
    refine QW.thenExit ?_
    refine QW.thenExit ?_
    refine QW.blockHit ?_
    refine QW.then_ ?_
    refine CW.seq ?_
    refine CW.region ?_
    refine RG.vl rfl rfl rfl (Ev.assign rfl rfl) ?_
    refine RG.done ?_
    refine QW.then_ ?_
    refine CW.ret ?_
    refine QW.ret1 rfl rfl ?_
    have hB := (Ex.tr hB0 hxwl1)
    refine ⟨?_, hB⟩
    rcases Nat.eq_zero_or_pos a with h0 | h0
    · rw [if_pos h0]; rfl
    · have hg := gi_lt a
      exact absurd (gm_gi a ha (by omega)) (hno (gi a) (by omega) (by omega))

set_option maxRecDepth 100000 in
set_option maxHeartbeats 1000000 in
theorem rpow_ret (a n : Nat) (w : World) (ha : a < 64) (hn : n ≤ 126) :
    Ret Tryz.prog 55 [.int .u8 (a : Int), .int .i64 (n : Int)] w (fun v w' => v = .int .u8 (gp a n : Int) ∧ Ex w w') := by
  have hB0 : Ex w w := Ex.rfl_ _
  refine Ret.of Tryz.func55 rfl Tryz.ntmps55 rfl ?_
  refine CW.seq ?_
  refine CW.region ?_
  refine RG.vl rfl rfl rfl (Ev.assign rfl rfl) ?_
  refine RG.done ?_
  refine QW.then_ ?_
  refine CW.seq ?_
  refine CW.region ?_
  refine RG.vl rfl rfl rfl (Ev.assign rfl rfl) ?_
  refine RG.done ?_
  refine QW.then_ ?_
  refine CW.seq ?_
  refine CW.seq ?_
  refine CW.region ?_
  refine RG.vl rfl rfl rfl (Ev.move rfl rfl) ?_
  refine RG.vl rfl rfl rfl (Ev.isF (Ev.gtr rfl rfl rfl) (by omega)) ?_
  refine RG.done ?_
  refine QW.then_ ?_
  refine CW.condF rfl ?_
  refine CW.skip ?_
  refine QW.then_ ?_
  refine CW.seq ?_
  refine CW.seq ?_
  refine CW.region ?_
  refine RG.vl rfl rfl rfl (Ev.assign rfl rfl) ?_
  refine RG.done ?_
  refine QW.then_ ?_
  refine CW.block ?_
  refine CW.loop1 [(0, _), (1, _), (4, _)] ⟨rfl, rfl, rfl, trivial⟩ (fun (i : Nat) => [(6, .int .i64 i), (5, .int .u8 (gp a i : Int))]) (fun i w' => (i ≤ n) ∧ Ex w w') (fun i => n - i) (0) ⟨rfl, rfl, trivial⟩ ⟨Nat.zero_le _, hB0⟩ ?_
  rintro i wl1 ⟨hi, hxwl1⟩
  refine CW.sub (S' := [(6, _), (5, _), (0, _), (1, _), (4, _)]) ⟨rfl, rfl, rfl, rfl, rfl, trivial⟩ ?_
  refine CW.seq ?_
  refine CW.seq ?_
  refine CW.region ?_
  refine RG.vl rfl rfl rfl (Ev.move rfl rfl) ?_
  refine RG.vl rfl rfl rfl (Ev.move rfl rfl) ?_
  refine RG.vl rfl rfl rfl (Ev.lss rfl rfl rfl) ?_
  refine RG.done ?_
  refine QW.then_ ?_
  refine CW.condP rfl (fun hc2 => ?_) (fun hc2 => ?_)
  · refine CW.skip ?_
    refine QW.then_ ?_
    refine CW.seq ?_
    refine CW.block ?_
    refine CW.region ?_
    refine RG.vl rfl rfl rfl (Ev.move rfl rfl) ?_
    refine RG.vl rfl rfl rfl (Ev.move rfl rfl) ?_
    refine RG.call rfl rfl rfl rfl rfl rfl rfl en_90 (rmul_ret _ _ _ (by exact gp_lt a i) (by exact ha)) ?_
    rintro _ w3 ⟨rfl, hx3⟩
    replace hxwl1 := Ex.tr hxwl1 hx3
    have hE4 := hx3
    refine RG.vl rfl rfl rfl (Ev.assign rfl rfl) ?_
    refine RG.done ?_
    refine QW.blockN ?_
    refine QW.then_ ?_
    refine CW.region ?_
    refine RG.vl rfl rfl rfl (Ev.move rfl rfl) ?_
    refine RG.vl rfl rfl rfl (Ev.addI rfl rfl rfl (by omega)) ?_
    refine RG.vl rfl rfl rfl (Ev.assign rfl rfl) ?_
    refine RG.done ?_
    refine QW.round1 (i + 1) ⟨rfl, rfl, trivial⟩ ⟨rfl, rfl, rfl, trivial⟩ ⟨by omega, (Ex.tr hB0 hxwl1)⟩ (by omega)
  · refine CW.exit ?_
    refine QW.thenExit ?_
    refine QW.thenExit ?_
    refine QW.blockHit ?_
    refine QW.then_ ?_
    refine CW.seq ?_
    refine CW.region ?_
    refine RG.vl rfl rfl rfl (Ev.move rfl rfl) ?_
    refine RG.vl rfl rfl rfl (Ev.assign rfl rfl) ?_
    refine RG.done ?_
    refine QW.then_ ?_
    refine CW.ret ?_
    refine QW.ret1 rfl rfl ?_
    have hB := (Ex.tr hB0 hxwl1)
    obtain rfl : i = n := by omega
    exact ⟨rfl, hB⟩

set_option maxRecDepth 100000 in
set_option maxHeartbeats 1000000 in
theorem coef_ret (u : Value) (p : List Nat) (i : Nat) (w : World) (hl : RdL w 1 encN u p) :
    Ret Tryz.prog 91 [u, .int .i64 (i : Int)] w (fun v w' => v = .int .u8 (cf p i : Int) ∧ Ex w w') := by
  have hB0 : Ex w w := Ex.rfl_ _
  refine Ret.of Tryz.func91 rfl Tryz.ntmps91 rfl ?_
  refine CW.seq ?_
  refine CW.region ?_
  refine RG.vl rfl rfl rfl (Ev.assign rfl rfl) ?_
  refine RG.done ?_
  refine QW.then_ ?_
  refine CW.seq ?_
  refine CW.seq ?_
  refine CW.region ?_
  refine RG.vl rfl rfl rfl (Ev.move rfl rfl) ?_
  refine RG.vl rfl rfl rfl (Ev.isF (Ev.lss rfl rfl rfl) (by omega)) ?_
  refine RG.vl rfl rfl rfl (Ev.move rfl rfl) ?_
  refine RG.vl rfl rfl rfl (Ev.move rfl rfl) ?_
  refine RG.vl rfl rfl rfl (Ev.move rfl rfl) ?_
  refine RG.vl rfl rfl rfl (Ev.lenL rfl rfl rfl Tryz.underlying58 (hl)) ?_
  refine RG.vl rfl rfl rfl (Ev.geq rfl rfl rfl) ?_
  refine RG.vl rfl rfl rfl (Ev.pickF rfl rfl rfl) ?_
  refine RG.done ?_
  refine QW.then_ ?_
  refine CW.condP rfl (fun hc1 => ?_) (fun hc1 => ?_)
  · refine CW.seq ?_
    refine CW.region ?_
    refine RG.vl rfl rfl rfl (Ev.assign rfl rfl) ?_
    refine RG.done ?_
    refine QW.then_ ?_
    refine CW.ret ?_
    refine QW.thenRet ?_
    refine QW.ret1 rfl rfl ?_
    have hB := hB0
    exact ⟨by rw [cf_none (by omega)]; rfl, hB⟩
  · refine CW.skip ?_
    refine QW.then_ ?_
    refine CW.seq ?_
    refine CW.region ?_
    refine RG.vl rfl rfl rfl (Ev.move rfl rfl) ?_
    refine RG.vl rfl rfl rfl (Ev.move rfl rfl) ?_
    refine RG.idxL rfl rfl rfl rfl rfl rfl Tryz.underlying58 sz_5 (hl) (getElem?_cf (by omega)) (fun p2 hp2b hp2 => ?_)
    refine RG.vl rfl rfl rfl (Ev.ld0 rfl rfl Tryz.underlying5 rfl (hp2) (rfl)) ?_
    refine RG.vl rfl rfl rfl (Ev.assign rfl rfl) ?_
    refine RG.done ?_
    refine QW.sub (S' := [(4, _)]) ⟨rfl, trivial⟩ ?_
    refine QW.then_ ?_
    refine CW.ret ?_
    refine QW.ret1 rfl rfl ?_
    have hB := hB0
    exact ⟨rfl, hB⟩

set_option maxRecDepth 100000 in
set_option maxHeartbeats 1000000 in
theorem rdeg_ret (u : Value) (p : List Nat) (w : World) (hl : RdL w 1 encN u p) (hlen : p.length ≤ 100000) :
    Ret Tryz.prog 89 [u] w (fun v w' => v = .int .i64 ((dg p : Int) - 1) ∧ Ex w w') := by
  have hB0 : Ex w w := Ex.rfl_ _
  refine Ret.of Tryz.func89 rfl Tryz.ntmps89 rfl ?_
  refine CW.seq ?_
  refine CW.region ?_
  refine RG.vl rfl rfl rfl (Ev.assign rfl rfl) ?_
  refine RG.done ?_
  refine QW.then_ ?_
  refine CW.seq ?_
  refine CW.region ?_
  refine RG.vl rfl rfl rfl (Ev.assign rfl rfl) ?_
  refine RG.done ?_
  refine QW.then_ ?_
  refine CW.seq ?_
  refine CW.seq ?_
  refine CW.region ?_
  refine RG.vl rfl rfl rfl (Ev.assign rfl rfl) ?_
  refine RG.done ?_
  refine QW.then_ ?_
  refine CW.block ?_
  refine CW.loop1 [(0, _), (2, _)] ⟨rfl, rfl, trivial⟩ (fun (i : Nat) => [(4, .int .i64 i), (3, .int .i64 ((dg (p.take i) : Int) - 1))]) (fun i w' => (i ≤ p.length) ∧ Ex w w') (fun i => p.length - i) (0) ⟨rfl, rfl, trivial⟩ ⟨Nat.zero_le _, hB0⟩ ?_
  rintro i wl1 ⟨hi, hxwl1⟩
  refine CW.sub (S' := [(4, _), (3, _), (0, _), (2, _)]) ⟨rfl, rfl, rfl, rfl, trivial⟩ ?_
  refine CW.seq ?_
  refine CW.seq ?_
  refine CW.region ?_
  refine RG.vl rfl rfl rfl (Ev.move rfl rfl) ?_
  refine RG.vl rfl rfl rfl (Ev.move rfl rfl) ?_
  refine RG.vl rfl rfl rfl (Ev.lenL rfl rfl rfl Tryz.underlying58 ((hl.ext hxwl1))) ?_
  refine RG.vl rfl rfl rfl (Ev.lss rfl rfl rfl) ?_
  refine RG.done ?_
  refine QW.then_ ?_
  refine CW.condP rfl (fun hc2 => ?_) (fun hc2 => ?_)
  · refine CW.skip ?_
    refine QW.then_ ?_
    refine CW.seq ?_
    refine CW.block ?_
    refine CW.seq ?_
    obtain ⟨c, hc⟩ : ∃ c, p[i]? = some c := ⟨_, List.getElem?_eq_getElem (by omega)⟩
    refine CW.region ?_
    refine RG.vl rfl rfl rfl (Ev.move rfl rfl) ?_
    refine RG.vl rfl rfl rfl (Ev.move rfl rfl) ?_
    refine RG.idxL rfl rfl rfl rfl rfl rfl Tryz.underlying58 sz_5 ((hl.ext hxwl1)) (hc) (fun p3 hp3b hp3 => ?_)
    refine RG.vl rfl rfl rfl (Ev.ld0 rfl rfl Tryz.underlying5 rfl (hp3) (rfl)) ?_
    refine RG.vl rfl rfl rfl (Ev.neI rfl rfl rfl) ?_
    refine RG.done ?_
    refine QW.then_ ?_
    refine CW.condP rfl (fun hc4 => ?_) (fun hc4 => ?_)
    · refine CW.region ?_
      refine RG.vl rfl rfl rfl (Ev.move rfl rfl) ?_
      refine RG.vl rfl rfl rfl (Ev.assign rfl rfl) ?_
      refine RG.done ?_
      refine QW.blockN ?_
      refine QW.then_ ?_
      refine CW.region ?_
      refine RG.vl rfl rfl rfl (Ev.move rfl rfl) ?_
      refine RG.vl rfl rfl rfl (Ev.addI rfl rfl rfl (by omega)) ?_
      refine RG.vl rfl rfl rfl (Ev.assign rfl rfl) ?_
      refine RG.done ?_
      refine QW.sub (S' := [(0, _), (2, _), (3, _), (4, _)]) ⟨rfl, rfl, rfl, rfl, trivial⟩ ?_
      refine QW.round1 (i + 1) ⟨rfl, congrArg (fun x => some (Value.int .i64 x)) (by rw [dg_take_hit hc (by omega)]; omega), trivial⟩ ⟨rfl, rfl, trivial⟩ ⟨by omega, (Ex.tr hB0 hxwl1)⟩ (by omega)
    · refine CW.skip ?_
      refine QW.blockN ?_
      refine QW.then_ ?_
      refine CW.region ?_
      refine RG.vl rfl rfl rfl (Ev.move rfl rfl) ?_
      refine RG.vl rfl rfl rfl (Ev.addI rfl rfl rfl (by omega)) ?_
      refine RG.vl rfl rfl rfl (Ev.assign rfl rfl) ?_
      refine RG.done ?_
      refine QW.round1 (i + 1) ⟨rfl, congrArg (fun x => some (Value.int .i64 x)) (by rw [dg_take_miss (by rw [hc]; congr 1; omega)]), trivial⟩ ⟨rfl, rfl, trivial⟩ ⟨by omega, (Ex.tr hB0 hxwl1)⟩ (by omega)
  · refine CW.exit ?_
    refine QW.thenExit ?_
    refine QW.thenExit ?_
    refine QW.blockHit ?_
    refine QW.then_ ?_
    refine CW.seq ?_
    refine CW.region ?_
    refine RG.vl rfl rfl rfl (Ev.move rfl rfl) ?_
    refine RG.vl rfl rfl rfl (Ev.assign rfl rfl) ?_
    refine RG.done ?_
    refine QW.then_ ?_
    refine CW.ret ?_
    refine QW.ret1 rfl rfl ?_
    have hB := (Ex.tr hB0 hxwl1)
    obtain rfl : i = p.length := by omega
    exact ⟨by rw [List.take_length], hB⟩

end Go.Proofs.YtgjnchjkjdnidaaGreat

/- Plain: the reference's polynomials (layer 18); its words, syndromes, code words (layer 19). -/
namespace Go.Proofs.YtgjnchjkjdnidaaGreat
theorem pa_at {p q : List Nat} {i : Nat} (h : i < max p.length q.length) : (pa p q)[i]? = some (cf p i ^^^ cf q i) := by
  rw [← cf_pa]; exact getElem?_cf (by rw [pa_len]; exact h)
/-- The sum of products that makes a coefficient, as far as k goes. -/
def cvS (p q : List Nat) (i : Nat) : Nat → Nat
  | 0 => 0
  | k + 1 => cvS p q i k ^^^ gm (cf p k) (cf q (i - k))
theorem cvS_lt (p q : List Nat) (i : Nat) : ∀ k, cvS p q i k < 64
  | 0 => by show 0 < 64; omega
  | k + 1 => xor_lt64 _ _ (cvS_lt p q i k) (gm_lt _ _)
theorem cvS_cons (a : Nat) (p q : List Nat) (i : Nat) : ∀ k, cvS (a :: p) q (i + 1) (k + 1) = gm a (cf q (i + 1)) ^^^ cvS p q i k
  | 0 => by rw [cvS, cvS, cvS, cf_z, Nat.sub_zero, Nat.zero_xor, Nat.xor_zero]
  | k + 1 => by rw [cvS, cvS_cons a p q i k, cvS, cf_s, Nat.xor_assoc, show i + 1 - (k + 1) = i - k from by omega]
theorem cvS_nil (q : List Nat) (i : Nat) : ∀ k, cvS [] q i k = 0
  | 0 => rfl
  | k + 1 => by rw [cvS, cvS_nil q i k, cf_nil, gm_zl]; rfl
theorem cvS_pm : ∀ (p q : List Nat) (i : Nat), cvS p q i (i + 1) = cf (pm p q) i
  | [], q, i => by rw [cvS_nil]; exact (cf_nil i).symm
  | a :: p, q, 0 => by rw [cvS, cvS, cf_pm_z, cf_z, Nat.zero_xor]
  | a :: p, q, i + 1 => by rw [cvS_cons, cf_pm_s, cvS_pm p q i]
/-- The first n coefficients of a function. -/
def cfL (F : Nat → Nat) (n : Nat) : List Nat := (List.range n).map F
theorem cfL_more (F : Nat → Nat) (n : Nat) : cfL F (n + 1) = cfL F n ++ [F n] := by unfold cfL; rw [List.range_succ, List.map_append]; rfl
theorem cfL_len (F : Nat → Nat) (n : Nat) : (cfL F n).length = n := by simp [cfL]
theorem cf_cfL (F : Nat → Nat) (n k : Nat) : cf (cfL F n) k = if k < n then F k else 0 := by
  unfold cf cfL
  rw [List.getElem?_map]
  split
  · rw [List.getElem?_range (by assumption)]; rfl
  · rw [List.getElem?_eq_none (by simpa using (by assumption : ¬ k < n))]; rfl
theorem rprod_end (p q : List Nat) : tr (cfL (cf (pm p q)) (dg p + dg q - 1)) = tr (pm p q) := tr_congr fun k => by
  rw [cf_cfL]
  split
  · rfl
  · rw [cf_pm_ge p q k (by omega)]
/-- A polynomial times c z^n. -/
def shl (p : List Nat) (c n : Nat) : List Nat := List.replicate n 0 ++ p.map fun a => gm a c
theorem shl_len (p : List Nat) (c n : Nat) : (shl p c n).length = n + p.length := by simp [shl]
theorem cf_shl (p : List Nat) (c n k : Nat) : cf (shl p c n) k = if k < n then 0 else gm c (cf p (k - n)) := by
  unfold shl
  rw [cf_app, List.length_replicate]
  split
  · exact cf_replicate _ _
  · have : (p.map fun a => gm a c) = sc c p := by unfold sc; exact List.map_congr_left fun a _ => gm_comm a c
    rw [this, cf_sc]
theorem el_shl (p : List Nat) (c n : Nat) : El (shl p c n) := fun a h => by
  unfold shl at h
  rcases List.mem_append.1 h with h | h
  · rw [List.eq_of_mem_replicate h]; omega
  · obtain ⟨b, _, rfl⟩ := List.mem_map.1 h; exact gm_lt _ _
theorem shl_more {p : List Nat} {i a : Nat} (h : p[i]? = some a) (c n : Nat) : shl (p.take (i + 1)) c n = shl (p.take i) c n ++ [gm a c] := by
  unfold shl; rw [take_more p i a h, List.map_append, List.append_assoc]; rfl
theorem dg_shl {p : List Nat} {c n : Nat} (hp : 0 < dg p) (hc : c ≠ 0) : dg (shl p c n) = n + dg p := by
  have := dg_eq (shl p c n) (n + (dg p - 1)) (by
    rw [cf_shl, if_neg (by omega), show n + (dg p - 1) - n = dg p - 1 from by omega]; exact gm_ne _ _ hc (cf_top p hp)) fun k hk => by
      rw [cf_shl]; split
      · rfl
      · rw [cf_ge p _ (by omega), gm_zr]
  omega
theorem pm_mono (q : List Nat) (c n k : Nat) (hc : c < 64) : cf (pm (shl [1] c n) q) k = if k < n then 0 else gm c (cf q (k - n)) := by
  have e : shl [1] c n = List.replicate n 0 ++ [c] := by unfold shl; rw [List.map_cons, one_gm c hc]; rfl
  rw [e, cf_pm_snoc, pm_congr_l (p' := []) (fun i => by rw [cf_replicate, cf_nil]), show pm [] q = [] from rfl, cf_nil, Nat.zero_xor, List.length_replicate]
/-- What has been divided so far. -/
structure Rdv (p q D R : List Nat) : Prop where
  de : El D
  re : El R
  dt : tr D = D
  rt : tr R = R
  eq : ∀ k, cf p k = cf (pm D q) k ^^^ cf R k
  dd : dg D ≤ dg p
  rd : dg R ≤ dg p
theorem rdv_start {p q : List Nat} (hp : El p) : Rdv p q [] (tr p) :=
  ⟨El.nil_, hp.tr, rfl, tr_tr p, fun k => by rw [show pm [] q = [] from rfl, cf_nil, cf_tr, Nat.zero_xor], Nat.zero_le _, by rw [dg_tr]; exact Nat.le_refl _⟩
theorem rdv_step {p q D R : List Nat} (hq : El q) (hq0 : 0 < dg q) (h : Rdv p q D R) (hge : dg q ≤ dg R) :
    Rdv p q (tr (pa D (shl [1] (gm (cf R (dg R - 1)) (gi (cf q (dg q - 1)))) (dg R - dg q)))) (tr (pa R (shl q (gm (cf R (dg R - 1)) (gi (cf q (dg q - 1)))) (dg R - dg q)))) ∧
    dg (tr (pa R (shl q (gm (cf R (dg R - 1)) (gi (cf q (dg q - 1)))) (dg R - dg q)))) < dg R := by
  have hqt := cf_top q hq0
  have hRt := cf_top R (by omega)
  have hq64 := hq.cf (dg q - 1)
  have hR64 := h.re.cf (dg R - 1)
  have hgi := gi_lt (cf q (dg q - 1))
  have hc0 : gm (cf R (dg R - 1)) (gi (cf q (dg q - 1))) ≠ 0 := gm_ne _ _ hRt (by omega)
  have hcq : gm (gm (cf R (dg R - 1)) (gi (cf q (dg q - 1)))) (cf q (dg q - 1)) = cf R (dg R - 1) := by
    rw [gm_assoc, gm_comm (gi _), gm_gi _ hq64 hqt, gm_one _ hR64]
  generalize hc : gm (cf R (dg R - 1)) (gi (cf q (dg q - 1))) = c at *
  have hc64 : c < 64 := by rw [← hc]; exact gm_lt _ _
  have hrd : dg (tr (pa R (shl q c (dg R - dg q)))) < dg R := by
    rw [dg_tr]
    have := dg_le (pa R (shl q c (dg R - dg q))) (dg R - 1) fun k hk => by
      rw [cf_pa, cf_shl, if_neg (by omega)]
      rcases Nat.eq_or_lt_of_le hk with rfl | hlt
      · rw [show dg R - 1 - (dg R - dg q) = dg q - 1 from by omega, hcq, Nat.xor_self]
      · rw [cf_ge R k (by omega), cf_ge q _ (by omega), gm_zr]; rfl
    omega
  refine ⟨⟨(el_pa h.de (el_shl _ _ _)).tr, (el_pa h.re (el_shl _ _ _)).tr, tr_tr _, tr_tr _, fun k => ?_, ?_, by have := h.rd; omega⟩, hrd⟩
  · rw [pm_congr_l (cf_tr _), pm_pa_l D _ q h.de (el_shl _ _ _) hq, pm_mono q c _ k hc64, cf_tr, cf_pa, cf_shl, h.eq k, Nat.xor_assoc]
    congr 1
    generalize (if k < dg R - dg q then 0 else gm c (cf q (k - (dg R - dg q)))) = t
    rw [Nat.xor_comm (cf R k), ← Nat.xor_assoc, Nat.xor_self, Nat.zero_xor]
  · rw [dg_tr]
    refine dg_le _ _ fun k hk => ?_
    have := h.rd
    rw [cf_pa, cf_ge D k (by have := h.dd; omega), cf_shl]
    split
    · rfl
    · rw [cf_none (p := [1]) (by show 1 ≤ _; omega), gm_zr]; rfl
theorem rdv_end {p q D R : List Nat} (h : Rdv p q D R) (hlt : dg R < dg q) : IsDiv p q D R := ⟨h.eq, hlt⟩
theorem rinvN (a : Nat) (w : World) (ha : a < 64) (h0 : a ≠ 0) : Ret Tryz.prog 93 [.int .u8 (a : Int)] w (fun v w' => v = .int .u8 (gi a : Int) ∧ Ex w w') :=
  (rinv_ret a w ha).mono fun v w' ⟨e, hx⟩ => ⟨by rw [e, if_neg h0], hx⟩
theorem rdegN (u : Value) (p : List Nat) (w : World) (hl : RdL w 1 encN u p) (hlen : p.length ≤ 100000) (h : 0 < dg p) : Ret Tryz.prog 89 [u] w (fun v w' => v = .int .i64 ((dg p - 1 : Nat) : Int) ∧ Ex w w') :=
  (rdeg_ret u p w hl hlen).mono fun v w' ⟨e, hx⟩ => ⟨by rw [e]; exact congrArg (Value.int .i64) (by omega), hx⟩
/-! layer 19 -/
theorem syn_step {l : List Nat} {i x : Nat} (h : i < l.length) : evl (l.take (i + 1)).reverse x = gm (evl (l.take i).reverse x) x ^^^ cf l i := by
  rw [take_more l i _ (getElem?_cf h), List.reverse_append, List.reverse_singleton, List.singleton_append, evl]
theorem syL_at (l : List Nat) {k : Nat} (h : k < 4) : (syL l)[k]? = some (sy l k) := by
  match k, h with
  | 0, _ => rfl
  | 1, _ => rfl
  | 2, _ => rfl
  | 3, _ => rfl
theorem syL_more (l : List Nat) {k : Nat} (h : k < 4) : (syL l).take (k + 1) = (syL l).take k ++ [sy l k] := take_more _ _ _ (syL_at l h)
theorem vldD {l : List Nat} (hw : isW l = true) (h0 : sy l 0 = 0) (h1 : sy l 1 = 0) (h2 : sy l 2 = 0) : decide (((sy l 3 : Nat) : Int) = 0) = vldB l := by
  unfold vldB
  rw [hw, h0, h1, h2]
  simp
theorem vldF {l : List Nat} (h : isW l = true → ¬ (sy l 0 = 0 ∧ sy l 1 = 0 ∧ sy l 2 = 0)) : false = vldB l := by
  cases hb : vldB l with
  | false => rfl
  | true =>
    obtain ⟨h1, h2⟩ := vldB_iff.1 hb
    exact absurd ⟨h2 0 (by omega), h2 1 (by omega), h2 2 (by omega)⟩ (h h1)
def genL : Nat → List Nat
  | 0 => [1]
  | k + 1 => tr (pm (genL k) [pw (k + 1), 1])
theorem genL_ok {k : Nat} (h : k ≤ 4) : El (genL k) ∧ (genL k).length ≤ 5 := by
  have key : ∀ p : List Nat, (p.all (fun a => Nat.blt a 64) && Nat.ble p.length 5) = true → El p ∧ p.length ≤ 5 := fun p h => by
    rw [Bool.and_eq_true] at h
    exact ⟨fun a ha => by simpa [Nat.blt_eq] using List.all_eq_true.1 h.1 a ha, Nat.le_of_ble_eq_true h.2⟩
  match k, h with
  | 0, _ => exact key _ (by decide +kernel)
  | 1, _ => exact key _ (by decide +kernel)
  | 2, _ => exact key _ (by decide +kernel)
  | 3, _ => exact key _ (by decide +kernel)
  | 4, _ => exact key _ (by decide +kernel)
theorem genL_four : genL 4 = gen5 := by decide +kernel
/-- The data, from its end on, behind four zeros. -/
def rvD (l : List Nat) (k : Nat) : List Nat := List.replicate 4 0 ++ (l.drop k).reverse
theorem rvD_len (l : List Nat) (k : Nat) : (rvD l k).length = 4 + (l.length - k) := by unfold rvD; rw [List.length_append, List.length_replicate, List.length_reverse, List.length_drop]
theorem rvD_start (l : List Nat) : List.replicate 4 0 = rvD l l.length := by simp [rvD]
theorem rvD_more {l : List Nat} {k : Nat} (h : k < l.length) : rvD l (k + 1) ++ [cf l k] = rvD l k := by
  have e : l[k] = cf l k := by have := getElem?_cf h; rw [List.getElem?_eq_getElem h] at this; exact Option.some.inj this
  unfold rvD
  rw [List.drop_eq_getElem_cons h, List.reverse_cons, ← List.append_assoc, e]
theorem rvD_end (l : List Nat) : rvD l 0 = (l ++ List.replicate 4 0).reverse := by unfold rvD; rw [List.drop_zero, List.reverse_append, List.reverse_replicate]
theorem rvD_el {l : List Nat} (h : El l) (k : Nat) : El (rvD l k) := fun a ha => by
  rcases List.mem_append.1 ha with h1 | h1
  · rw [List.eq_of_mem_replicate h1]; decide
  · exact h a (List.mem_of_mem_drop (List.mem_reverse.1 h1))
/-- The check symbols, the last one first. -/
def ckD (l r : List Nat) (k : Nat) : List Nat := l ++ (List.range (4 - k)).map fun j => cf r (3 - j)
theorem ckD_len (l r : List Nat) (k : Nat) : (ckD l r k).length = l.length + (4 - k) := by simp [ckD]
theorem ckD_start (l r : List Nat) : ckD l r 4 = l := by simp [ckD]
theorem ckD_more {l r : List Nat} {k : Nat} (h : k < 4) : ckD l r (k + 1) ++ [cf r k] = ckD l r k := by
  unfold ckD
  rw [List.append_assoc, show 4 - k = (4 - (k + 1)) + 1 by omega, List.range_succ, List.map_append, List.map_singleton, show 3 - (4 - (k + 1)) = k by omega]
theorem ckD_end {l r : List Nat} : ckD l r 0 = stE l r r.length := by
  unfold ckD stE
  congr 1
  refine List.map_congr_left fun j _ => ?_
  split
  · rfl
  · rw [cf_none (by omega)]
theorem isW_no {l : List Nat} (h : isW l = false) : vldB l = false := by unfold vldB; rw [h]; rfl
theorem want_ok (l : List Nat) : isW (l ++ [0, 0, 0, 0]) = true ↔ l.length ≤ 59 ∧ 1 ≤ l.length ∧ El l := by
  rw [isW_iff, List.length_append]
  show 4 < l.length + 4 ∧ l.length + 4 ≤ 63 ∧ _ ↔ _
  constructor
  · rintro ⟨h1, h2, h3⟩; exact ⟨by omega, by omega, fun a ha => h3 a (List.mem_append_left _ ha)⟩
  · rintro ⟨h1, h2, h3⟩; exact ⟨by omega, by omega, h3.app (fun a ha => by simp at ha; omega)⟩
theorem want_no {l : List Nat} (h : encOk l = false) : isW (l ++ [0, 0, 0, 0]) = false := by
  cases hb : isW (l ++ [0, 0, 0, 0]) with
  | false => rfl
  | true =>
    obtain ⟨h1, h2, h3⟩ := (want_ok l).1 hb
    rw [encOk_iff.2 ⟨h2, h1, h3⟩] at h
    cases h
theorem want_yes {l : List Nat} (h : encOk l = true) : isW (l ++ [0, 0, 0, 0]) = true := by
  obtain ⟨h1, h2, h3⟩ := encOk_iff.1 h
  exact (want_ok l).2 ⟨h2, h1, h3⟩
section
variable (u : Value) (w : World) (l : List Nat)
theorem encY (hl : RdL w 1 encN u l) (h1 : l.length ≤ 100000) (h : encOk l = true) : Ret Tryz.prog 26 [u] w (fun v w' => ∃ r c, v = .tuple #[r, .int .i64 0] ∧ Own w' w.heap.size 5 1 encN r c ∧ IsEnc l c ∧ Ex w w') := by
  refine (encode_ret u l w hl h1).mono ?_
  rintro v w' ⟨r, c, rfl, ho, he, _, hx⟩
  exact ⟨r, c, by rw [h]; rfl, ho, he h, hx⟩
theorem encX (hl : RdL w 1 encN u l) (h1 : l.length ≤ 100000) (h : encOk l = false) : Ret Tryz.prog 26 [u] w (fun v w' => v = .tuple #[.slice none 0 0, .int .i64 2] ∧ Ex w w') := by
  refine (encode_ret u l w hl h1).mono ?_
  rintro v w' ⟨r, c, rfl, ho, _, he, hx⟩
  obtain ⟨rfl, rfl⟩ := he h
  exact ⟨by rw [h]; rfl, hx⟩
end
end Go.Proofs.YtgjnchjkjdnidaaGreat

