/- Texts put together by program: BW, UI, UJ, UK, UL, UO, UO2. -/
import Derived.Test.YtgjnchjkjdnidaaMBarcodeApart4
/- Plain: what is written is read. -/
namespace Go.Proofs.Ytgjnchjkjdnidaa
open Go.RowKit
theorem ltr_num {n : Nat} (h : n < 4) : num (ltr n) = n ∧ ltr n ≠ 63 ∧ isL (ltr n) = true := by
  match n, h with
  | 0, _ => exact ⟨by decide +kernel, by decide, by decide⟩
  | 1, _ => exact ⟨by decide +kernel, by decide, by decide⟩
  | 2, _ => exact ⟨by decide +kernel, by decide, by decide⟩
  | 3, _ => exact ⟨by decide +kernel, by decide, by decide⟩
theorem w3s_all (l : List UInt8) : (l.flatMap w3).all isL = true := by
  rw [List.all_eq_true]
  intro x hx
  obtain ⟨s, _, hs⟩ := List.mem_flatMap.1 hx
  unfold w3 at hs
  rcases List.mem_cons.1 hs with rfl | hs
  · exact ltr_L _
  · rcases List.mem_cons.1 hs with rfl | hs
    · exact ltr_L _
    · rw [List.mem_singleton.1 hs]; exact ltr_L _
theorem w3s_in : ∀ {l : List UInt8} {k : Nat} {s : UInt8}, l[k]? = some s → ∀ j u, (w3 s)[j]? = some u → (l.flatMap w3)[k * 3 + j]? = some u
  | [], k, s, h, _, _, _ => by simp at h
  | x :: l, 0, s, h, j, u, hu => by
    obtain rfl : x = s := by simpa using h
    rw [List.flatMap_cons, Nat.zero_mul, Nat.zero_add, List.getElem?_append_left (List.getElem?_eq_some_iff.1 hu).1]; exact hu
  | x :: l, k + 1, s, h, j, u, hu => by
    have ih := w3s_in (l := l) (k := k) (by simpa using h) j u hu
    rw [List.flatMap_cons, List.getElem?_append_right (by rw [w3_len]; omega), w3_len, show (k + 1) * 3 + j - 3 = k * 3 + j by omega]; exact ih
theorem w3s_at {l : List UInt8} {k : Nat} {s : UInt8} (h : l[k]? = some s) : (l.flatMap w3)[3 * k]? = some (ltr (s.toNat / 16)) ∧ (l.flatMap w3)[3 * k + 1]? = some (ltr (s.toNat / 4 % 4)) ∧ (l.flatMap w3)[3 * k + 2]? = some (ltr (s.toNat % 4)) := by
  have key : ∀ j u, (w3 s)[j]? = some u → (l.flatMap w3)[k * 3 + j]? = some u := fun j u hu => w3s_in h j u hu
  rw [Nat.mul_comm 3 k]
  exact ⟨key 0 _ rfl, key 1 _ rfl, key 2 _ rfl⟩
theorem read_w3 {l : List UInt8} {k : Nat} {s : UInt8} (h : l[k]? = some s) (hs : s.toNat < 64) : unc (l.flatMap w3) k = false ∧ symB (l.flatMap w3) k = s := by
  obtain ⟨h1, h2, h3⟩ := w3s_at h
  have hp := part3 h1 h2 h3
  obtain ⟨a1, a2, _⟩ := ltr_num (show s.toNat / 16 < 4 by omega)
  obtain ⟨b1, b2, _⟩ := ltr_num (show s.toNat / 4 % 4 < 4 by omega)
  obtain ⟨c1, c2, _⟩ := ltr_num (show s.toNat % 4 < 4 by omega)
  have hu : unc (l.flatMap w3) k = false := by
    rw [unc3 hp, decide_eq_false_iff_not]
    rintro (h | h | h)
    · exact a2 h
    · exact b2 h
    · exact c2 h
  refine ⟨hu, ?_⟩
  rw [sym3 hp hu, a1, b1, c1]
  apply UInt8.toNat_inj.1
  rw [UInt8.toNat_ofNat_of_lt' (show 16 * (s.toNat / 16) + 4 * (s.toNat / 4 % 4) + s.toNat % 4 < 256 by omega)]
  omega
/-- What is written of symbols is read as they were. -/
theorem read_write {l : List UInt8} (h : l.length ≤ 66) (hs : ∀ s ∈ l, s.toNat < 64) : writeB l = (l.flatMap w3, 0) ∧ readB (l.flatMap w3) = (l, [], 0) := by
  have hlen := w3s_len l
  refine ⟨w_ok (by omega) (by rw [List.all_eq_true]; intro x hx; exact decide_eq_true (hs x hx)), ?_⟩
  rw [read_ok (err_0 (by omega) (w3s_all l)) (by omega), hlen, show 3 * l.length / 3 = l.length by omega]
  have e1 : symsL (l.flatMap w3) l.length = l := by
    apply List.ext_getElem?
    intro i
    unfold symsL
    rw [List.getElem?_map]
    rcases Nat.lt_or_ge i l.length with hi | hi
    · have hq := List.getElem?_eq_getElem hi
      rw [List.getElem?_range hi, Option.map_some, hq, (read_w3 hq (hs _ (List.getElem_mem hi))).2]
    · rw [List.getElem?_eq_none (by simpa using hi), List.getElem?_eq_none hi]; rfl
  have e2 : erasL (l.flatMap w3) l.length = [] := by
    unfold erasL
    rw [List.filter_eq_nil_iff]
    intro i hi
    have hi := List.mem_range.1 hi
    rw [(read_w3 (List.getElem?_eq_getElem hi) (hs _ (List.getElem_mem hi))).1]
    decide
  rw [e1, e2]
end Go.Proofs.Ytgjnchjkjdnidaa

/- Hits between the ends; what is read of them; symbols that differ. -/
namespace Go.Proofs.Ytgjnchjkjdnidaa
open Go.RowKit
theorem told_len (p : Nat → Bool) (i : Nat) : ((List.range (i + 1)).filter p).length = ((List.range i).filter p).length + if p i then 1 else 0 := by
  rw [List.range_succ, List.filter_append, List.length_append]
  cases h : p i <;> simp [h]
theorem frm_set {T : List UInt8} {k : Nat} (v : UInt8) (h : k < T.length) : (frm T).set (2 + k) v = frm (T.set k v) := by
  show (65 :: 84 :: (T ++ [70, 68])).set (2 + k) v = 65 :: 84 :: (T.set k v ++ [70, 68])
  rw [show 2 + k = k + 1 + 1 by omega, List.set_cons_succ, List.set_cons_succ, List.set_append_left _ _ h]
theorem frm_get {T : List UInt8} {k : Nat} (h : k < T.length) : (frm T)[2 + k]? = T[k]? := by
  show (65 :: 84 :: (T ++ [70, 68]))[2 + k]? = _
  rw [show 2 + k = k + 1 + 1 by omega, List.getElem?_cons_succ, List.getElem?_cons_succ, List.getElem?_append_left h]
def hitI (T : List UInt8) (hs : List Hit) : List UInt8 := hs.foldl (fun o p => o.set (p.1 % 60) (ltr (p.2 % 5))) T
theorem hitI_len (hs : List Hit) : ∀ T : List UInt8, (hitI T hs).length = T.length := by
  induction hs with
  | nil => intro t; rfl
  | cons p hs ih =>
    intro t
    show (hitI (t.set _ _) hs).length = _
    rw [ih, List.length_set]
theorem hitI_all (hs : List Hit) : ∀ {T : List UInt8}, T.all isL = true → (hitI T hs).all isL = true := by
  induction hs with
  | nil => intro t h; exact h
  | cons p hs ih =>
    intro t h
    show (hitI (t.set _ _) hs).all isL = true
    refine ih ?_
    rw [List.all_eq_true] at h ⊢
    intro x hx
    rcases List.mem_or_eq_of_mem_set hx with h1 | h1
    · exact h x h1
    · rw [h1]; exact ltr_L _
theorem hit_frm (hs : List Hit) : ∀ {T : List UInt8}, T.length = 60 → hitL (frm T) hs = frm (hitI T hs) := by
  induction hs with
  | nil => intro t _; rfl
  | cons p hs ih =>
    intro t h
    show hitL ((frm t).set (2 + p.1 % 60) _) hs = frm (hitI (t.set _ _) hs)
    rw [frm_set _ (by rw [h]; exact Nat.mod_lt _ (by decide)), ih (by rw [List.length_set, h])]
theorem barsT_frm (c : List Nat) : barsT c = frm (wd c) := rfl
theorem part_eq {T : List UInt8} {i : Nat} (h : 3 * i + 3 ≤ T.length) : ∃ a b c, part T i = [a, b, c] ∧ T[3 * i]? = some a ∧ T[3 * i + 1]? = some b ∧ T[3 * i + 2]? = some c :=
  ⟨_, _, _, part3 (List.getElem?_eq_getElem (by omega)) (List.getElem?_eq_getElem (by omega)) (List.getElem?_eq_getElem (by omega)), List.getElem?_eq_getElem _, List.getElem?_eq_getElem _, List.getElem?_eq_getElem _⟩
theorem any3 (p : Nat → Bool) : (List.range 3).any p = (p 0 || p 1 || p 2) := by simp [List.range_succ, Bool.or_assoc]
theorem uncB_frm {O : List UInt8} {i : Nat} (hl : O.length = 60) (hi : i < 20) : uncB (frm O) i 3 = unc O i := by
  obtain ⟨a, b, c, hp, h0, h1, h2⟩ := part_eq (T := O) (i := i) (by omega)
  rw [unc3 hp]
  unfold uncB
  rw [any3, show 2 + 3 * i + 0 = 2 + 3 * i by omega, show 2 + 3 * i + 1 = 2 + (3 * i + 1) by omega, show 2 + 3 * i + 2 = 2 + (3 * i + 2) by omega, frm_get (by omega), frm_get (by omega), frm_get (by omega), h0, h1, h2]
  simp [Bool.or_assoc]
theorem othB_frm {O T : List UInt8} {i : Nat} (hl : O.length = 60) (ht : T.length = 60) (hi : i < 20) : othB (frm O) (frm T) i 3 = decide (part O i ≠ part T i) := by
  obtain ⟨a, b, c, hp, h0, h1, h2⟩ := part_eq (T := O) (i := i) (by omega)
  obtain ⟨x, y, z, hq, k0, k1, k2⟩ := part_eq (T := T) (i := i) (by omega)
  rw [hp, hq]
  unfold othB
  rw [any3, show 2 + 3 * i + 0 = 2 + 3 * i by omega, show 2 + 3 * i + 1 = 2 + (3 * i + 1) by omega, show 2 + 3 * i + 2 = 2 + (3 * i + 2) by omega, frm_get (by omega), frm_get (by omega), frm_get (by omega), frm_get (by omega), frm_get (by omega), frm_get (by omega), h0, h1, h2, k0, k1, k2]
  rw [← Bool.decide_or, ← Bool.decide_or, decide_eq_decide]
  by_cases e1 : a = x <;> by_cases e2 : b = y <;> by_cases e3 : c = z <;> simp [e1, e2, e3]
/-- A part that is clear is what is written of its symbol. -/
theorem ltr_of {a : UInt8} (h : isL a = true) (h2 : a ≠ 63) : ltr (num a) = a := by
  have := of_decide_eq_true h
  rcases this with h | h | h | h | h
  · rw [show a = 84 from UInt8.toNat_inj.1 h]; decide +kernel
  · rw [show a = 65 from UInt8.toNat_inj.1 h]; decide +kernel
  · rw [show a = 68 from UInt8.toNat_inj.1 h]; decide +kernel
  · rw [show a = 70 from UInt8.toNat_inj.1 h]; decide +kernel
  · exact absurd (UInt8.toNat_inj.1 h) h2
theorem clear_w3 {O : List UInt8} {i : Nat} (ha : O.all isL = true) (hi : 3 * i + 3 ≤ O.length) (hu : unc O i = false) : part O i = w3 (symB O i) := by
  obtain ⟨a, b, c, hp, h0, h1, h2⟩ := part_eq hi
  have hm : ∀ x ∈ [a, b, c], isL x = true ∧ x ≠ 63 := fun x hx => by
    rw [← hp] at hx
    refine ⟨List.all_eq_true.1 ha x (part_mem hx), ?_⟩
    exact (no_unc (of_decide_eq_false hu)).2 x hx
  obtain ⟨a1, a2⟩ := hm a (by simp)
  obtain ⟨b1, b2⟩ := hm b (by simp)
  obtain ⟨c1, c2⟩ := hm c (by simp)
  have na := (num_of a1 a2).2
  have nb := (num_of b1 b2).2
  have nc := (num_of c1 c2).2
  rw [sym3 hp hu, hp]
  unfold w3
  rw [UInt8.toNat_ofNat_of_lt' (show 16 * num a + 4 * num b + num c < 256 by omega), show (16 * num a + 4 * num b + num c) / 16 = num a by omega, show (16 * num a + 4 * num b + num c) / 4 % 4 = num b by omega, show (16 * num a + 4 * num b + num c) % 4 = num c by omega, ltr_of a1 a2, ltr_of b1 b2, ltr_of c1 c2]
theorem w3_inj {x y : UInt8} (hx : x.toNat < 64) (hy : y.toNat < 64) (h : w3 x = w3 y) : x = y := by
  unfold w3 at h
  injection h with h1 h
  injection h with h2 h
  injection h with h3 _
  have n1 : num (ltr (x.toNat / 16)) = num (ltr (y.toNat / 16)) := by rw [h1]
  have n2 : num (ltr (x.toNat / 4 % 4)) = num (ltr (y.toNat / 4 % 4)) := by rw [h2]
  have n3 : num (ltr (x.toNat % 4)) = num (ltr (y.toNat % 4)) := by rw [h3]
  rw [(ltr_num (by omega)).1, (ltr_num (by omega)).1] at n1 n2 n3
  exact UInt8.toNat_inj.1 (by omega)
theorem part_wd {c : List Nat} {i : Nat} (hi : i < c.length) : part (wd c) i = w3 (UInt8.ofNat (cf c i)) := by
  have hb : (bN c)[i]? = some (UInt8.ofNat (cf c i)) := by unfold bN; rw [List.getElem?_map, getElem?_cf hi]; rfl
  obtain ⟨h1, h2, h3⟩ := w3s_at hb
  exact part3 h1 h2 h3
theorem syms_cf {O : List UInt8} {i : Nat} (hi : i < 20) : cf (nB (symsL O 20)) i = (symB O i).toNat := by
  refine cf_some ?_
  unfold nB symsL
  rw [List.getElem?_map, List.getElem?_map, List.getElem?_range hi]
  rfl
theorem mem_eras {O : List UInt8} {i n : Nat} (hi : i < n) : i ∈ erasL O n ↔ unc O i = true := by
  unfold erasL
  rw [List.mem_filter, List.mem_range]
  exact ⟨fun h => h.2, fun h => ⟨hi, h⟩⟩
/-- The symbols that differ and are clear. -/
def nrB (X O : List UInt8) (i : Nat) : Bool := decide (part X i ≠ part O i) && !unc O i
theorem diffs_nr {O : List UInt8} {c : List Nat} (hl : O.length = 60) (ha : O.all isL = true) (hc : c.length = 20) (he : El c) : diffs (nB (symsL O 20)) c (erasL O 20) = (List.range 20).filter (nrB (wd c) O) := by
  unfold diffs
  rw [nB_len, syms_len]
  refine List.filter_congr fun i hi => ?_
  have hi := List.mem_range.1 hi
  unfold nrB
  rw [syms_cf hi, part_wd (by omega)]
  cases hu : unc O i with
  | true =>
    rw [Bool.not_true, Bool.and_false, decide_eq_false_iff_not]
    exact fun h => h.1 ((mem_eras hi).2 hu)
  | false =>
    have hci := he.cf i
    rw [Bool.not_false, Bool.and_true, decide_eq_decide, clear_w3 ha (by omega) hu]
    constructor
    · intro h e
      apply h.2
      have := w3_inj (by rw [UInt8.toNat_ofNat_of_lt' (show cf c i < 256 by omega)]; exact hci) (symB_lt ha) e
      rw [← this, UInt8.toNat_ofNat_of_lt' (show cf c i < 256 by omega)]
    · intro h
      refine ⟨fun hm => ?_, fun e => h ?_⟩
      · rw [(mem_eras hi).1 hm] at hu; cases hu
      · rw [e]; simp
theorem es_nr {O T : List UInt8} (hl : O.length = 60) (ht : T.length = 60) : esH (frm O) (frm T) 20 = (List.range 20).filter (nrB T O) := by
  unfold esH
  refine List.filter_congr fun i hi => ?_
  have hi := List.mem_range.1 hi
  unfold nrB
  rw [othB_frm hl ht hi, uncB_frm hl hi]
  congr 1
  rw [decide_eq_decide]
  exact ⟨fun h e => h e.symm, fun h e => h e.symm⟩
theorem er_nr {O : List UInt8} (hl : O.length = 60) : erH (frm O) 20 = erasL O 20 := by
  unfold erH erasL
  refine List.filter_congr fun i hi => ?_
  rw [uncB_frm hl (List.mem_range.1 hi)]
/-- A text whose ends are told. -/
theorem framed_frm {t : List UInt8} (h : framed t = true) : t = frm (inner t) := by
  have h4 : 4 ≤ t.length := (framed_at.1 h).1
  have h1 : t.take 2 = [65, 84] := by
    unfold framed at h
    simp only [Bool.and_eq_true, decide_eq_true_eq] at h
    exact h.1.2
  have h2 : t.drop (t.length - 2) = [70, 68] := by
    unfold framed at h
    simp only [Bool.and_eq_true, decide_eq_true_eq] at h
    exact h.2
  unfold inner frm
  have e1 : t.take (t.length - 2) = [65, 84] ++ (t.take (t.length - 2)).drop 2 := by
    have := (List.take_append_drop 2 (t.take (t.length - 2))).symm
    rw [List.take_take, Nat.min_eq_left (by omega), h1] at this
    exact this
  have e2 := (List.take_append_drop (t.length - 2) t).symm
  rw [h2] at e2
  rw [← e1]
  exact e2
theorem unf_frm {g inn : List UInt8} {b : Bool} (h : unframeB g = (inn, b, 0)) : (b = false → g = frm inn) ∧ (b = true → turnB g = (frm inn, 0)) := by
  by_cases h0 : errB 0 g = 0
  · by_cases hf : framed g = true
    · rw [unf_up h0 hf] at h
      injection h with h1 h
      injection h with h2 _
      refine ⟨fun _ => (by rw [← h1]; exact framed_frm hf), fun hb => (by rw [← h2] at hb; cases hb)⟩
    · have hf := Bool.eq_false_iff.2 hf
      by_cases hg : framed (turnL g) = true
      · rw [unf_dn h0 hf hg] at h
        injection h with h1 h
        injection h with h2 _
        refine ⟨fun hb => (by rw [← h2] at hb; cases hb), fun _ => ?_⟩
        unfold turnB
        rw [if_pos h0, ← h1, ← framed_frm hg]
      · rw [unf_no h0 hf (Bool.eq_false_iff.2 hg)] at h
        injection h with _ h
        injection h with _ h
        cases h
  · rw [unf_err h0] at h
    injection h with _ h
    injection h with _ h
    exact absurd h h0
theorem frm_part {X : List UInt8} {i : Nat} (h : 3 * i + 3 ≤ X.length) : ((frm X).take (5 + 3 * i)).drop (2 + 3 * i) = part X i := by
  show ((65 :: 84 :: (X ++ [70, 68])).take (5 + 3 * i)).drop (2 + 3 * i) = _
  rw [show 5 + 3 * i = 3 * i + 3 + 1 + 1 by omega, show 2 + 3 * i = 3 * i + 1 + 1 by omega, List.take_succ_cons, List.take_succ_cons, List.drop_succ_cons, List.drop_succ_cons, List.take_append_of_le_length h]
  rfl
theorem frm_end {X : List UInt8} (h : X.length = 60) : ((frm X).take 64).drop 62 = [70, 68] := by
  rw [List.take_of_length_le (by rw [frm_len]; omega)]
  show (([65, 84] ++ X) ++ [70, 68]).drop 62 = _
  exact List.drop_left' (by simp [h])
theorem u63 {p : UInt8} (h : (p.toNat : Int) = 63) : p = 63 := UInt8.toNat_inj.1 (by show p.toNat = 63; omega)
theorem u63' {p : UInt8} (h : ¬ (p.toNat : Int) = 63) : p ≠ 63 := fun e => h (by rw [e]; rfl)
theorem told_er (O : List UInt8) (i : Nat) : (erasL O (i + 1)).length = (erasL O i).length + if unc O i then 1 else 0 := told_len _ _
theorem told_nr (X O : List UInt8) (i : Nat) : ((List.range (i + 1)).filter (nrB X O)).length = ((List.range i).filter (nrB X O)).length + if nrB X O i then 1 else 0 := told_len _ _
end Go.Proofs.Ytgjnchjkjdnidaa

/- Walks (UJ). Written by program. -/
namespace Go.Proofs.Ytgjnchjkjdnidaa
open Go.RowKit
set_option maxRecDepth 100000 in
set_option maxHeartbeats 4000000 in
theorem hit_ret (t : List UInt8) (v0 : Value) (hs : List Hit) (w : World) (hl : RdL w 2 encH v0 hs) (hlen : t.length = 64) (hhl : hs.length ≤ 1000) (hb : ∀ p ∈ hs, p.1 < 256 ∧ p.2 < 256) :
    Ret Try.prog 14 [.string ⟨t.toArray⟩, v0] w (fun v w' => ∃ y z, v = .tuple #[.string ⟨(hitL t hs).toArray⟩, y, z] ∧ Own w' w.heap.size 3 1 encZ y (esH (hitL t hs) t 20) ∧ Own w' w.heap.size 3 1 encZ z (erH (hitL t hs) 20) ∧ Ex w w') := by
  have hts := sb_len t
  obtain ⟨vA, vC, rfl⟩ := hl.shape
  have hhL := hitL_len hs t
  have hB0 : Ex w w := Ex.rfl_ _
  refine Ret.of Try.func14 rfl Try.ntmps14 rfl ?_
  refine CW.seq ?_
  refine CW.region ?_
  refine RG.vl rfl rfl rfl (Ev.assign rfl rfl) ?_
  refine RG.vl rfl rfl rfl (Ev.assign rfl rfl) ?_
  refine RG.vl rfl rfl rfl (Ev.assign rfl rfl) ?_
  refine RG.done ?_
  refine QW.then_ ?_
  refine CW.seq ?_
  refine CW.region ?_
  refine RG.vl rfl rfl rfl (Ev.move rfl rfl) ?_
  refine RG.toBytesM rfl rfl rfl rfl rfl Try.underlying9 Try.underlying22 Try.underlying5 (by simp only [maxLen]; omega) (fun gM cgM wk1 egM hxwk1 hbgM hc1gM hc2gM => ?_)
  have hle2 : w.heap.size ≤ gM := by have := (Ex.rfl_ w).size; omega
  have hE3 := hxwk1
  refine RG.vl rfl rfl rfl (Ev.assign rfl rfl) ?_
  refine RG.done ?_
  refine QW.then_ ?_
  refine CW.seq ?_
  refine CW.seq ?_
  refine CW.region ?_
  refine RG.vl rfl rfl rfl (Ev.move rfl rfl) ?_
  refine RG.vl rfl rfl rfl (Ev.lenL rfl rfl rfl Try.underlying48 ((hl.ext hE3))) ?_
  refine RG.vl rfl rfl rfl (Ev.move rfl rfl) ?_
  refine RG.done ?_
  refine QW.then_ ?_
  refine CW.block ?_
  refine CW.loop1 [(0, _), (4, _), (5, _), (6, _), (7, _), (18, _), (19, _)] ⟨rfl, rfl, rfl, rfl, rfl, rfl, rfl, trivial⟩ (fun (i : Nat) => [(20, .int .i64 (i : Int))]) (fun i w' => (i ≤ hs.length ∧ Mkd w' gM 5 (hitL t (hs.take i))) ∧ Ex w w') (fun i => hs.length - i) (0) ⟨rfl, trivial⟩ ⟨⟨Nat.zero_le _, hbgM⟩, (Ex.tr hB0 hE3)⟩ ?_
  rintro i wl4 ⟨⟨hi, hgm⟩, hxwl4⟩
  refine CW.sub (S' := [(20, _), (0, _), (4, _), (5, _), (6, _), (7, _), (18, _), (19, _)]) ⟨rfl, rfl, rfl, rfl, rfl, rfl, rfl, rfl, trivial⟩ ?_
  refine CW.seq ?_
  refine CW.region ?_
  refine RG.vl rfl rfl rfl (Ev.lss rfl rfl rfl) ?_
  refine RG.done ?_
  refine QW.then_ ?_
  refine CW.seq ?_
  refine CW.condP rfl (fun hc5 => ?_) (fun hc5 => ?_)
  · refine CW.skip ?_
    refine QW.then_ ?_
    refine CW.seq ?_
    refine CW.block ?_
    refine CW.seq ?_
    obtain ⟨p, hx⟩ : ∃ p, hs[i]? = some p := ⟨_, List.getElem?_eq_getElem (by omega)⟩
    obtain ⟨hp1, hp2⟩ := hb p (List.mem_of_getElem? hx)
    refine CW.region ?_
    refine RG.idxL rfl rfl rfl rfl rfl rfl Try.underlying48 sz_75 ((hl.ext hxwl4)) (hx) (fun p6 hp6b hp6 => ?_)
    refine RG.vl rfl rfl rfl (Ev.ldAgg rfl rfl Try.underlying75 rfl sz_75 rfl (hp6)) ?_
    refine RG.local_ rfl rfl rfl rfl (fun _ => rfl) rfl rfl (fun _ => rfl) inf_75 rfl rfl rfl (fun g7 w7 eg7 hx7 hb7 => ?_)
    have hle8 : w.heap.size ≤ g7 := by have := hxwl4.size; omega
    have hle9 : wl4.heap.size ≤ g7 := by have := (Ex.rfl_ wl4).size; omega
    have hlt10 : gM < g7 := by have := Mkd.lt hgm; omega
    replace hxwl4 := Ex.tr hxwl4 hx7
    have hE11 := hx7
    refine RG.done ?_
    refine QW.then_ ?_
    refine CW.draw [11] (.ex) 12 rfl mixed (fun wd12 hxwd12 => ?_)
    replace hxwl4 := Ex.tr hxwl4 hxwd12
    replace hE11 := Ex.tr hE11 hxwd12
    have hE13 := hxwd12
    refine AG.takeW 0 rfl (by kernel_rfl) (by kernel_rfl) rfl rfl rfl (fun _ => Ev.move rfl rfl) ?_
    refine AG.takeW 1 rfl (by kernel_rfl) (by kernel_rfl) rfl rfl rfl (fun _ => Ev.fld rfl rfl fld_75_0) ?_
    refine AG.take 2 rfl (by kernel_rfl) (by kernel_rfl) rfl rfl rfl (fun wq hq => Ev.ldAt rfl rfl Try.underlying5 rfl (((hb7.ext hE13).ext hq).cells) (rfl)) ?_
    refine AG.takeW 3 rfl (by kernel_rfl) (by kernel_rfl) rfl rfl rfl (fun _ => Ev.to64 rfl rfl Try.underlying5 Try.underlying3 (by omega)) ?_
    refine AG.takeW 4 rfl (by kernel_rfl) (by kernel_rfl) rfl rfl rfl (fun _ => (Ev.remI rfl rfl rfl (by omega)).conv (congrArg (Value.int .i64) (show (p.1 : Int) % 60 = ((p.1 % 60 : Nat) : Int) by omega))) ?_
    refine AG.takeW 5 rfl (by kernel_rfl) (by kernel_rfl) rfl rfl rfl (fun _ => (Ev.addI rfl rfl rfl (by omega)).conv (congrArg (Value.int .i64) (show (2 : Int) + ((p.1 % 60 : Nat) : Int) = ((2 + p.1 % 60 : Nat) : Int) by omega))) ?_
    refine AG.takeW 6 rfl (by kernel_rfl) (by kernel_rfl) rfl rfl rfl (fun _ => Ev.fld rfl rfl fld_75_1) ?_
    refine AG.take 7 rfl (by kernel_rfl) (by kernel_rfl) rfl rfl rfl (fun wq hq => Ev.ldAt rfl rfl Try.underlying5 rfl (((hb7.ext hE13).ext hq).cells) (rfl)) ?_
    refine AG.takeW 8 rfl (by kernel_rfl) (by kernel_rfl) rfl rfl rfl (fun _ => (Ev.rem8 rfl rfl rfl (by omega)).conv (congrArg (Value.int .u8) (show (p.2 : Int) % 5 = ((p.2 % 5 : Nat) : Int) by omega))) ?_
    refine AG.takeW 9 rfl (by kernel_rfl) (by kernel_rfl) rfl rfl rfl (fun _ => Ev.byteAt rfl rfl rfl Try.underlying9 (by omega) ((show _ = some (ltr (p.2 % 5)) from ltr_s5 (by omega)))) ?_
    refine AG.takeW 10 rfl (by kernel_rfl) (by kernel_rfl) rfl rfl rfl (fun _ => Ev.idxN rfl rfl rfl Try.underlying22 sz_5 (by omega)) ?_
    refine AG.only 11 rfl (by kernel_rfl) ?_
    refine RG.stM (g := gM) (ltr (p.2 % 5)) rfl rfl rfl rfl rfl sz_5 (hgm.ext hE11) (by rw [hitL_len]; omega) (fun ws15 hwws15 hbws15 => ?_)
    replace hb7 := Blk.far (hb7.ext hE13) hwws15 (by omega)
    replace hxwl4 := Wr.below hxwl4 hwws15 hle2
    refine RG.done ?_
    refine QW.an (fun h => by simp at h) ?_
    refine AG.done (by kernel_rfl) ?_
    refine QW.sub (S' := [(0, _), (4, _), (5, _), (6, _), (7, _), (18, _), (19, _), (20, _)]) ⟨rfl, rfl, rfl, rfl, rfl, rfl, rfl, rfl, trivial⟩ ?_
    refine QW.blockN ?_
    refine QW.then_ ?_
    refine CW.region ?_
    refine RG.vl rfl rfl rfl (Ev.addI rfl rfl rfl (by omega)) ?_
    refine RG.vl rfl rfl rfl (Ev.move rfl rfl) ?_
    refine RG.done ?_
    refine QW.round1 (i + 1) ⟨rfl, trivial⟩ ⟨rfl, rfl, rfl, rfl, rfl, rfl, rfl, trivial⟩ ⟨⟨by omega, by rw [hitL_more hx]; exact hbws15⟩, (Ex.tr hB0 hxwl4)⟩ (by omega)
  · refine CW.exit ?_
    refine QW.thenExit ?_
    refine QW.thenExit ?_
    refine QW.blockHit ?_
    refine QW.then_ ?_
    refine CW.seq ?_
    obtain rfl : i = hs.length := by omega
    rw [List.take_length] at hgm
    refine CW.region ?_
    refine RG.vl rfl rfl rfl (Ev.assign rfl rfl) ?_
    refine RG.vl rfl rfl rfl (Ev.assign rfl rfl) ?_
    refine RG.done ?_
    refine QW.then_ ?_
    refine CW.seq ?_
    refine CW.seq ?_
    refine CW.region ?_
    refine RG.vl rfl rfl rfl (Ev.move rfl rfl) ?_
    refine RG.done ?_
    refine QW.then_ ?_
    refine CW.block ?_
    refine CW.loop3 [(0, _), (4, _), (5, _), (6, _), (7, _)] ⟨rfl, rfl, rfl, rfl, rfl, trivial⟩ (fun (i : Nat) (u : Value) (x : Value) => [(36, .int .i64 (i : Int)), (10, u), (11, x)]) (fun i u x w' => (i ≤ 20 ∧ Own w' w.heap.size 3 1 encZ u (esH (hitL t hs) t i) ∧ Own w' w.heap.size 3 1 encZ x (erH (hitL t hs) i) ∧ Sep u x ∧ Mkd w' gM 5 (hitL t hs) ∧ (u.ownBlock = some gM → False) ∧ (x.ownBlock = some gM → False)) ∧ Ex w w') (fun i u x => 20 - i) (0) (.slice none 0 0) (.slice none 0 0) ⟨rfl, rfl, rfl, trivial⟩ ⟨⟨by omega, Own.nil_ _ _ _ _ _, Own.nil_ _ _ _ _ _, Sep.nil_ _, hgm, (fun e => by cases e), (fun e => by cases e)⟩, (Ex.tr hB0 hxwl4)⟩ ?_
    rintro i u x wl16 ⟨⟨hi, hu, hxx, hsp, hgm, hbu, hbx⟩, hxwl16⟩
    refine CW.sub (S' := [(36, _), (10, _), (11, _), (0, _), (4, _), (5, _), (6, _), (7, _)]) ⟨rfl, rfl, rfl, rfl, rfl, rfl, rfl, rfl, trivial⟩ ?_
    refine CW.seq ?_
    refine CW.region ?_
    refine RG.vl rfl rfl rfl (Ev.lss rfl rfl rfl) ?_
    refine RG.done ?_
    refine QW.then_ ?_
    refine CW.seq ?_
    refine CW.condP rfl (fun hc17 => ?_) (fun hc17 => ?_)
    · refine CW.skip ?_
      refine QW.then_ ?_
      refine CW.seq ?_
      refine CW.block ?_
      refine CW.seq ?_
      refine CW.region ?_
      refine RG.vl rfl rfl rfl (Ev.move rfl rfl) ?_
      refine RG.vl rfl rfl rfl (Ev.assign rfl rfl) ?_
      refine RG.done ?_
      refine QW.then_ ?_
      refine CW.seq ?_
      refine CW.region ?_
      refine RG.vl rfl rfl rfl (Ev.assign rfl rfl) ?_
      refine RG.vl rfl rfl rfl (Ev.assign rfl rfl) ?_
      refine RG.done ?_
      refine QW.then_ ?_
      refine CW.seq ?_
      refine CW.seq ?_
      refine CW.region ?_
      refine RG.vl rfl rfl rfl (Ev.move rfl rfl) ?_
      refine RG.vl rfl rfl rfl (Ev.mulI rfl rfl rfl (by omega)) ?_
      refine RG.vl rfl rfl rfl ((Ev.addI rfl rfl rfl (by omega)).conv (congrArg (Value.int .i64) (show (2 : Int) + 3 * (i : Int) = ((2 + 3 * i + 0 : Nat) : Int) by omega))) ?_
      refine RG.vl rfl rfl rfl (Ev.assign rfl rfl) ?_
      refine RG.done ?_
      refine QW.then_ ?_
      refine CW.block ?_
      refine CW.loop1 [(0, _), (4, _), (5, _), (6, _), (7, _), (10, _), (11, _), (12, _), (36, _)] ⟨rfl, rfl, rfl, rfl, rfl, rfl, rfl, rfl, rfl, trivial⟩ (fun (j : Nat) => [(15, .int .i64 (((2 + 3 * i + j) : Nat) : Int)), (13, .bool (othB (hitL t hs) t i j)), (14, .bool (uncB (hitL t hs) i j))]) (fun j w' => (j ≤ 3 ∧ Own w' w.heap.size 3 1 encZ u (esH (hitL t hs) t i) ∧ Own w' w.heap.size 3 1 encZ x (erH (hitL t hs) i) ∧ Mkd w' gM 5 (hitL t hs)) ∧ Ex w w') (fun j => 3 - j) (0) ⟨rfl, rfl, rfl, trivial⟩ ⟨⟨by omega, hu, hxx, hgm⟩, (Ex.tr hB0 hxwl16)⟩ ?_
      rintro j wl18 ⟨⟨hj, hu, hxx, hgm⟩, hxwl18⟩
      refine CW.sub (S' := [(15, _), (13, _), (14, _), (0, _), (4, _), (5, _), (6, _), (7, _), (10, _), (11, _), (12, _), (36, _)]) ⟨rfl, rfl, rfl, rfl, rfl, rfl, rfl, rfl, rfl, rfl, rfl, rfl, trivial⟩ ?_
      refine CW.seq ?_
      refine CW.seq ?_
      refine CW.region ?_
      refine RG.vl rfl rfl rfl (Ev.move rfl rfl) ?_
      refine RG.vl rfl rfl rfl (Ev.move rfl rfl) ?_
      refine RG.vl rfl rfl rfl (Ev.mulI rfl rfl rfl (by omega)) ?_
      refine RG.vl rfl rfl rfl (Ev.addI rfl rfl rfl (by omega)) ?_
      refine RG.vl rfl rfl rfl (Ev.lss rfl rfl rfl) ?_
      refine RG.done ?_
      refine QW.then_ ?_
      refine CW.condP rfl (fun hc19 => ?_) (fun hc19 => ?_)
      · refine CW.skip ?_
        refine QW.then_ ?_
        refine CW.seq ?_
        refine CW.block ?_
        refine CW.seq ?_
        obtain ⟨oa, hoa⟩ : ∃ c, (hitL t hs)[(2 + 3 * i + j)]? = some c := ⟨_, List.getElem?_eq_getElem (by omega)⟩
        obtain ⟨ta, hta⟩ : ∃ c, t[(2 + 3 * i + j)]? = some c := ⟨_, List.getElem?_eq_getElem (by omega)⟩
        refine CW.draw [] (.ex) 12 rfl mixed (fun wd20 hxwd20 => ?_)
        replace hxwl18 := Ex.tr hxwl18 hxwd20
        have hE21 := hxwd20
        refine AG.takeW 0 rfl (by kernel_rfl) (by kernel_rfl) rfl rfl rfl (fun _ => Ev.move rfl rfl) ?_
        refine AG.takeW 1 rfl (by kernel_rfl) (by kernel_rfl) rfl rfl rfl (fun _ => Ev.move rfl rfl) ?_
        refine AG.splitB (d := 50) rfl (fun hg22 => ?_) (fun hg22 => ?_)
        · refine AG.pass 2 rfl (by kernel_rfl) (by kernel_rfl) rfl rfl rfl ?_
          refine AG.pass 3 rfl (by kernel_rfl) (by kernel_rfl) rfl rfl rfl ?_
          refine AG.pass 4 rfl (by kernel_rfl) (by kernel_rfl) rfl rfl rfl ?_
          refine AG.pass 5 rfl (by kernel_rfl) (by kernel_rfl) rfl rfl rfl ?_
          refine AG.pass 6 rfl (by kernel_rfl) (by kernel_rfl) rfl rfl rfl ?_
          refine AG.pass 7 rfl (by kernel_rfl) (by kernel_rfl) rfl rfl rfl ?_
          refine AG.pass 8 rfl (by kernel_rfl) (by kernel_rfl) rfl rfl rfl ?_
          refine AG.pass 9 rfl (by kernel_rfl) (by kernel_rfl) rfl rfl rfl ?_
          refine AG.takeW 10 rfl (by kernel_rfl) (by kernel_rfl) rfl rfl rfl (fun _ => Ev.pickT rfl rfl rfl) ?_
          refine AG.takeW 11 rfl (by kernel_rfl) (by kernel_rfl) rfl rfl rfl (fun _ => Ev.assign rfl rfl) ?_
          refine AG.done (by kernel_rfl) ?_
          refine QW.sub (S' := [(0, _), (4, _), (5, _), (6, _), (7, _), (10, _), (11, _), (12, _), (13, _), (14, _), (15, _), (36, _)]) ⟨rfl, rfl, rfl, rfl, rfl, rfl, rfl, rfl, rfl, rfl, rfl, rfl, trivial⟩ ?_
          refine QW.then_ ?_
          refine CW.region ?_
          refine RG.vl rfl rfl rfl (Ev.move rfl rfl) ?_
          refine RG.vl rfl rfl rfl (Ev.move rfl rfl) ?_
          refine RG.splitB (d := 61) rfl (fun hg23 => ?_) (fun hg23 => ?_)
          · refine RG.pass rfl rfl rfl ?_
            refine RG.pass rfl rfl rfl ?_
            refine RG.pass rfl rfl rfl ?_
            refine RG.pass rfl rfl rfl ?_
            refine RG.pass rfl rfl rfl ?_
            refine RG.vl rfl rfl rfl (Ev.pickT rfl rfl rfl) ?_
            refine RG.vl rfl rfl rfl (Ev.assign rfl rfl) ?_
            refine RG.done ?_
            refine QW.blockN ?_
            refine QW.then_ ?_
            refine CW.region ?_
            refine RG.vl rfl rfl rfl (Ev.move rfl rfl) ?_
            refine RG.vl rfl rfl rfl (Ev.addI rfl rfl rfl (by omega)) ?_
            refine RG.vl rfl rfl rfl (Ev.assign rfl rfl) ?_
            refine RG.done ?_
            refine QW.round1 (j + 1) ⟨congrArg (fun x => some (Value.int .i64 x)) (by omega), congrArg (fun b => some (Value.bool b)) ((oth_yes (by assumption)).symm), congrArg (fun b => some (Value.bool b)) ((unc_yes (by assumption)).symm), trivial⟩ ⟨rfl, rfl, rfl, rfl, rfl, rfl, rfl, rfl, rfl, trivial⟩ ⟨⟨by omega, (Own.ext hu hE21), (Own.ext hxx hE21), (hgm.ext hE21)⟩, (Ex.tr hB0 hxwl18)⟩ (by omega)
          · refine RG.vl rfl rfl rfl (Ev.move rfl rfl) ?_
            refine RG.vl rfl rfl rfl (Ev.move rfl rfl) ?_
            refine RG.vl rfl rfl rfl (Ev.idxN rfl rfl rfl Try.underlying22 sz_5 (by omega)) ?_
            refine RG.vl rfl rfl rfl (Ev.ldAt rfl rfl Try.underlying5 rfl (Mkd.cells (hgm.ext hE21)) (flat_b hoa)) ?_
            refine RG.vl rfl rfl rfl (Ev.eqI rfl rfl rfl) ?_
            refine RG.vl rfl rfl rfl (Ev.pickF rfl rfl rfl) ?_
            refine RG.vl rfl rfl rfl (Ev.assign rfl rfl) ?_
            refine RG.done ?_
            refine QW.blockN ?_
            refine QW.then_ ?_
            refine CW.region ?_
            refine RG.vl rfl rfl rfl (Ev.move rfl rfl) ?_
            refine RG.vl rfl rfl rfl (Ev.addI rfl rfl rfl (by omega)) ?_
            refine RG.vl rfl rfl rfl (Ev.assign rfl rfl) ?_
            refine RG.done ?_
            refine QW.round1 (j + 1) ⟨congrArg (fun x => some (Value.int .i64 x)) (by omega), congrArg (fun b => some (Value.bool b)) ((oth_yes (by assumption)).symm), congrArg (fun b => some (Value.bool b)) ((unc_no (by assumption) hoa).symm), trivial⟩ ⟨rfl, rfl, rfl, rfl, rfl, rfl, rfl, rfl, rfl, trivial⟩ ⟨⟨by omega, (Own.ext hu hE21), (Own.ext hxx hE21), (hgm.ext hE21)⟩, (Ex.tr hB0 hxwl18)⟩ (by omega)
        · refine AG.takeW 2 rfl (by kernel_rfl) (by kernel_rfl) rfl rfl rfl (fun _ => Ev.move rfl rfl) ?_
          refine AG.takeW 3 rfl (by kernel_rfl) (by kernel_rfl) rfl rfl rfl (fun _ => Ev.move rfl rfl) ?_
          refine AG.takeW 4 rfl (by kernel_rfl) (by kernel_rfl) rfl rfl rfl (fun _ => Ev.idxN rfl rfl rfl Try.underlying22 sz_5 (by omega)) ?_
          refine AG.take 5 rfl (by kernel_rfl) (by kernel_rfl) rfl rfl rfl (fun wq hq => Ev.ldAt rfl rfl Try.underlying5 rfl (Mkd.cells ((hgm.ext hE21).ext hq)) (flat_b hoa)) ?_
          refine AG.takeW 6 rfl (by kernel_rfl) (by kernel_rfl) rfl rfl rfl (fun _ => Ev.move rfl rfl) ?_
          refine AG.takeW 7 rfl (by kernel_rfl) (by kernel_rfl) rfl rfl rfl (fun _ => Ev.move rfl rfl) ?_
          refine AG.takeW 8 rfl (by kernel_rfl) (by kernel_rfl) rfl rfl rfl (fun _ => Ev.byteAt rfl rfl rfl Try.underlying9 (by omega) (hta)) ?_
          refine AG.takeW 9 rfl (by kernel_rfl) (by kernel_rfl) rfl rfl rfl (fun _ => Ev.neI rfl rfl rfl) ?_
          refine AG.takeW 10 rfl (by kernel_rfl) (by kernel_rfl) rfl rfl rfl (fun _ => Ev.pickF rfl rfl rfl) ?_
          refine AG.takeW 11 rfl (by kernel_rfl) (by kernel_rfl) rfl rfl rfl (fun _ => Ev.assign rfl rfl) ?_
          refine AG.done (by kernel_rfl) ?_
          refine QW.sub (S' := [(0, _), (4, _), (5, _), (6, _), (7, _), (10, _), (11, _), (12, _), (13, _), (14, _), (15, _), (36, _)]) ⟨rfl, rfl, rfl, rfl, rfl, rfl, rfl, rfl, rfl, rfl, rfl, rfl, trivial⟩ ?_
          refine QW.then_ ?_
          refine CW.region ?_
          refine RG.vl rfl rfl rfl (Ev.move rfl rfl) ?_
          refine RG.vl rfl rfl rfl (Ev.move rfl rfl) ?_
          refine RG.splitB (d := 61) rfl (fun hg24 => ?_) (fun hg24 => ?_)
          · refine RG.pass rfl rfl rfl ?_
            refine RG.pass rfl rfl rfl ?_
            refine RG.pass rfl rfl rfl ?_
            refine RG.pass rfl rfl rfl ?_
            refine RG.pass rfl rfl rfl ?_
            refine RG.vl rfl rfl rfl (Ev.pickT rfl rfl rfl) ?_
            refine RG.vl rfl rfl rfl (Ev.assign rfl rfl) ?_
            refine RG.done ?_
            refine QW.blockN ?_
            refine QW.then_ ?_
            refine CW.region ?_
            refine RG.vl rfl rfl rfl (Ev.move rfl rfl) ?_
            refine RG.vl rfl rfl rfl (Ev.addI rfl rfl rfl (by omega)) ?_
            refine RG.vl rfl rfl rfl (Ev.assign rfl rfl) ?_
            refine RG.done ?_
            refine QW.round1 (j + 1) ⟨congrArg (fun x => some (Value.int .i64 x)) (by omega), congrArg (fun b => some (Value.bool b)) ((oth_no (by assumption) hoa hta).symm), congrArg (fun b => some (Value.bool b)) ((unc_yes (by assumption)).symm), trivial⟩ ⟨rfl, rfl, rfl, rfl, rfl, rfl, rfl, rfl, rfl, trivial⟩ ⟨⟨by omega, (Own.ext hu hE21), (Own.ext hxx hE21), (hgm.ext hE21)⟩, (Ex.tr hB0 hxwl18)⟩ (by omega)
          · refine RG.vl rfl rfl rfl (Ev.move rfl rfl) ?_
            refine RG.vl rfl rfl rfl (Ev.move rfl rfl) ?_
            refine RG.vl rfl rfl rfl (Ev.idxN rfl rfl rfl Try.underlying22 sz_5 (by omega)) ?_
            refine RG.vl rfl rfl rfl (Ev.ldAt rfl rfl Try.underlying5 rfl (Mkd.cells (hgm.ext hE21)) (flat_b hoa)) ?_
            refine RG.vl rfl rfl rfl (Ev.eqI rfl rfl rfl) ?_
            refine RG.vl rfl rfl rfl (Ev.pickF rfl rfl rfl) ?_
            refine RG.vl rfl rfl rfl (Ev.assign rfl rfl) ?_
            refine RG.done ?_
            refine QW.blockN ?_
            refine QW.then_ ?_
            refine CW.region ?_
            refine RG.vl rfl rfl rfl (Ev.move rfl rfl) ?_
            refine RG.vl rfl rfl rfl (Ev.addI rfl rfl rfl (by omega)) ?_
            refine RG.vl rfl rfl rfl (Ev.assign rfl rfl) ?_
            refine RG.done ?_
            refine QW.round1 (j + 1) ⟨congrArg (fun x => some (Value.int .i64 x)) (by omega), congrArg (fun b => some (Value.bool b)) ((oth_no (by assumption) hoa hta).symm), congrArg (fun b => some (Value.bool b)) ((unc_no (by assumption) hoa).symm), trivial⟩ ⟨rfl, rfl, rfl, rfl, rfl, rfl, rfl, rfl, rfl, trivial⟩ ⟨⟨by omega, (Own.ext hu hE21), (Own.ext hxx hE21), (hgm.ext hE21)⟩, (Ex.tr hB0 hxwl18)⟩ (by omega)
      · refine CW.exit ?_
        refine QW.thenExit ?_
        refine QW.thenExit ?_
        refine QW.blockHit ?_
        refine QW.then_ ?_
        refine CW.block ?_
        refine CW.seq ?_
        obtain rfl : j = 3 := by omega
        refine CW.region ?_
        refine RG.vl rfl rfl rfl (Ev.move rfl rfl) ?_
        refine RG.vl rfl rfl rfl (Ev.assign rfl rfl) ?_
        refine RG.done ?_
        refine QW.then_ ?_
        refine CW.cond rfl (fun hc25 => ?_) (fun hc25 => ?_)
        · have hunc : uncB (hitL t hs) i 3 = true := by assumption
          have hel := erH_len (hitL t hs) i
          refine CW.region ?_
          refine RG.vl rfl rfl rfl (Ev.move rfl rfl) ?_
          refine RG.vl rfl rfl rfl (Ev.move rfl rfl) ?_
          refine RG.litO (os := [.tmp 71]) (enc := encZ) ([i]) rfl rfl rfl rfl rfl rfl rfl Try.underlying41 inf_3 rfl rfl rfl rfl rfl encZ_len rfl rfl (fun v26 wk27 hxwk27 hown28 hnew29 => ?_)
          have hsep30 : Sep v26 _ := Sep.of_new hu hnew29
          have hsep31 : Sep v26 _ := Sep.of_new hxx hnew29
          have hsb32 : v26.ownBlock = some gM → False := fun e => by have h1 := Own.ge hown28 e; have h2 := Mkd.lt hgm; omega
          replace hxwl18 := Ex.tr hxwl18 hxwk27
          have hE33 := hxwk27
          refine RG.appO rfl rfl rfl rfl rfl rfl rfl Try.underlying41 inf_3 rfl rfl encZ_len (fun _ => rfl) (Own.ext hxx hE33) ((hown28.rdl encZ_len)) (by show _ + 1 ≤ maxLen; simp only [maxLen]; omega) (by show (_ + 1) * _ ≤ _; omega) (hxwl18.size) (fun v34 wa35 hown36 hgr37 hat38 => ?_)
          have hb39 := Mkd.grown (hgm.ext hE33) hgr37 (fun e => hbx e.symm)
          have hsb40 := sepm_app hbx (hgm.ext hE33) hat38
          have hsep42 := Sep.app (Sep.symm hsp) (Own.ext hu hE33) hat38
          have hown41 := Own.grown (Own.ext hu hE33) hgr37 (fun k a b => (Sep.symm hsp) k b a)
          have hsep44 := Sep.app (Sep.symm hsep31) hown28 hat38
          have hown43 := Own.grown hown28 hgr37 (fun k a b => (Sep.symm hsep31) k b a)
          replace hxwl18 := own_block (Own.ext hxx hE33) hxwl18 hgr37 (Nat.le_refl _) hxwl18.size
          refine RG.vl rfl rfl rfl (Ev.assign rfl rfl) ?_
          refine RG.done ?_
          refine QW.blockN ?_
          refine QW.blockN ?_
          refine QW.then_ ?_
          refine CW.region ?_
          refine RG.vl rfl rfl rfl (Ev.addI rfl rfl rfl (by omega)) ?_
          refine RG.vl rfl rfl rfl (Ev.move rfl rfl) ?_
          refine RG.done ?_
          refine QW.sub (S' := [(0, _), (4, _), (5, _), (6, _), (7, _), (10, _), (11, _), (36, _)]) ⟨rfl, rfl, rfl, rfl, rfl, rfl, rfl, rfl, trivial⟩ ?_
          refine QW.round3 (i + 1) (u) (v34) ⟨rfl, rfl, rfl, trivial⟩ ⟨rfl, rfl, rfl, rfl, rfl, trivial⟩ ⟨⟨by omega, by rw [esH_no (.inr hunc)]; exact hown41, by rw [erH_yes hunc]; exact hown36, (Sep.symm hsep42), hb39, hbu, hsb40⟩, (Ex.tr hB0 hxwl18)⟩ (by omega)
        · refine CW.seq ?_
          have hunc : uncB (hitL t hs) i 3 = false := by assumption
          refine CW.region ?_
          refine RG.vl rfl rfl rfl (Ev.move rfl rfl) ?_
          refine RG.vl rfl rfl rfl (Ev.assign rfl rfl) ?_
          refine RG.done ?_
          refine QW.then_ ?_
          refine CW.cond rfl (fun hc45 => ?_) (fun hc45 => ?_)
          · have hoth : othB (hitL t hs) t i 3 = true := by assumption
            have hsl := esH_len (hitL t hs) t i
            refine CW.region ?_
            refine RG.vl rfl rfl rfl (Ev.move rfl rfl) ?_
            refine RG.vl rfl rfl rfl (Ev.move rfl rfl) ?_
            refine RG.litO (os := [.tmp 77]) (enc := encZ) ([i]) rfl rfl rfl rfl rfl rfl rfl Try.underlying41 inf_3 rfl rfl rfl rfl rfl encZ_len rfl rfl (fun v46 wk47 hxwk47 hown48 hnew49 => ?_)
            have hsep50 : Sep v46 _ := Sep.of_new hu hnew49
            have hsep51 : Sep v46 _ := Sep.of_new hxx hnew49
            have hsb52 : v46.ownBlock = some gM → False := fun e => by have h1 := Own.ge hown48 e; have h2 := Mkd.lt hgm; omega
            replace hxwl18 := Ex.tr hxwl18 hxwk47
            have hE53 := hxwk47
            refine RG.appO rfl rfl rfl rfl rfl rfl rfl Try.underlying41 inf_3 rfl rfl encZ_len (fun _ => rfl) (Own.ext hu hE53) ((hown48.rdl encZ_len)) (by show _ + 1 ≤ maxLen; simp only [maxLen]; omega) (by show (_ + 1) * _ ≤ _; omega) (hxwl18.size) (fun v54 wa55 hown56 hgr57 hat58 => ?_)
            have hb59 := Mkd.grown (hgm.ext hE53) hgr57 (fun e => hbu e.symm)
            have hsb60 := sepm_app hbu (hgm.ext hE53) hat58
            have hsep62 := Sep.app hsp (Own.ext hxx hE53) hat58
            have hown61 := Own.grown (Own.ext hxx hE53) hgr57 (fun k a b => hsp k b a)
            have hsep64 := Sep.app (Sep.symm hsep50) hown48 hat58
            have hown63 := Own.grown hown48 hgr57 (fun k a b => (Sep.symm hsep50) k b a)
            replace hxwl18 := own_block (Own.ext hu hE53) hxwl18 hgr57 (Nat.le_refl _) hxwl18.size
            refine RG.vl rfl rfl rfl (Ev.assign rfl rfl) ?_
            refine RG.done ?_
            refine QW.sub (S' := [(0, _), (4, _), (5, _), (6, _), (7, _), (10, _), (11, _), (36, _)]) ⟨rfl, rfl, rfl, rfl, rfl, rfl, rfl, rfl, trivial⟩ ?_
            refine QW.blockN ?_
            refine QW.blockN ?_
            refine QW.then_ ?_
            refine CW.region ?_
            refine RG.vl rfl rfl rfl (Ev.addI rfl rfl rfl (by omega)) ?_
            refine RG.vl rfl rfl rfl (Ev.move rfl rfl) ?_
            refine RG.done ?_
            refine QW.round3 (i + 1) (v54) (x) ⟨rfl, rfl, rfl, trivial⟩ ⟨rfl, rfl, rfl, rfl, rfl, trivial⟩ ⟨⟨by omega, by rw [esH_yes hoth hunc]; exact hown56, by rw [erH_no hunc]; exact hown61, hsep62, hb59, hsb60, hbx⟩, (Ex.tr hB0 hxwl18)⟩ (by omega)
          · refine CW.skip ?_
            refine QW.blockN ?_
            refine QW.blockN ?_
            refine QW.then_ ?_
            have hoth : othB (hitL t hs) t i 3 = false := by assumption
            refine CW.region ?_
            refine RG.vl rfl rfl rfl (Ev.addI rfl rfl rfl (by omega)) ?_
            refine RG.vl rfl rfl rfl (Ev.move rfl rfl) ?_
            refine RG.done ?_
            refine QW.round3 (i + 1) (u) (x) ⟨rfl, rfl, rfl, trivial⟩ ⟨rfl, rfl, rfl, rfl, rfl, trivial⟩ ⟨⟨by omega, by rw [esH_no (.inl hoth)]; exact hu, by rw [erH_no hunc]; exact hxx, hsp, hgm, hbu, hbx⟩, (Ex.tr hB0 hxwl18)⟩ (by omega)
    · refine CW.exit ?_
      refine QW.thenExit ?_
      refine QW.thenExit ?_
      refine QW.blockHit ?_
      refine QW.then_ ?_
      refine CW.seq ?_
      refine CW.region ?_
      refine RG.vl rfl rfl rfl (Ev.move rfl rfl) ?_
      refine RG.vl rfl rfl rfl (Ev.toStr rfl rfl Try.underlying22 Try.underlying5 Try.underlying9 ((Mkd.rdl hgm hhL hc1gM hc2gM))) ?_
      refine RG.vl rfl rfl rfl (Ev.move rfl rfl) ?_
      refine RG.vl rfl rfl rfl (Ev.move rfl rfl) ?_
      refine RG.vl rfl rfl rfl (Ev.assign rfl rfl) ?_
      refine RG.vl rfl rfl rfl (Ev.assign rfl rfl) ?_
      refine RG.vl rfl rfl rfl (Ev.assign rfl rfl) ?_
      refine RG.done ?_
      refine QW.then_ ?_
      refine CW.ret ?_
      refine QW.ret3 rfl rfl rfl rfl ?_
      have hB := (Ex.tr hB0 hxwl16)
      obtain rfl : i = 20 := by omega
      exact ⟨_, _, rfl, hu, hxx, hB⟩

end Go.Proofs.Ytgjnchjkjdnidaa

/- Walks (UK). Written by program. -/
namespace Go.Proofs.Ytgjnchjkjdnidaa
open Go.RowKit
set_option maxRecDepth 100000 in
set_option maxHeartbeats 4000000 in
theorem near_ret (g inn td : List UInt8) (b : Bool) (c es er : List Nat) (A B : Option Addr) (C D : Nat) (w : World) (hu : unframeB g = (inn, b, 0)) (hi60 : inn.length = 60) (hia : inn.all isL = true) (hw : WrR td (frm (wd c))) (htd : errW td = 0) (hc : c.length = 20) (hce : El c) (hes : es = diffs (nB (symsL inn 20)) c (erasL inn 20)) (her : er = erasL inn 20) (h4 : 2 * es.length + er.length ≤ 4) :
    Ret Try.prog 18 [.string ⟨g.toArray⟩, .agg ([.string ⟨td.toArray⟩, .bool b, .slice A es.length C, .slice B er.length D] : List Value).toArray] w (fun v w' => v = .bool true ∧ Ex w w') := by
  obtain ⟨hg0, hg1⟩ := unf_frm hu
  have hwl := wd_len c
  have hfl := frm_len inn
  have hfx := frm_len (wd c)
  have hsl := sb_len (frm inn)
  have hsx := sb_len (frm (wd c))
  obtain ⟨ht28, _⟩ := errW_ok htd
  have hB0 : Ex w w := Ex.rfl_ _
  refine Ret.of Try.func18 rfl Try.ntmps18 rfl ?_
  refine CW.seq ?_
  refine CW.region ?_
  refine RG.box rfl rfl rfl rfl rfl (fun gX w1 egX hx1 hb1 => ?_)
  have hle2 : w.heap.size ≤ gX := by have := (Ex.rfl_ w).size; omega
  have hE3 := hx1
  refine RG.vl rfl rfl rfl (Ev.assign rfl rfl) ?_
  refine RG.done ?_
  refine QW.then_ ?_
  refine CW.seq ?_
  refine CW.seq ?_
  cases b with
  | false =>
    refine CW.region ?_
    refine RG.vl rfl rfl rfl (Ev.fld rfl rfl fld_43_1) ?_
    refine RG.vl rfl rfl rfl (Ev.ldAt rfl rfl Try.underlying4 rfl (hb1.cells) (rfl)) ?_
    refine RG.done ?_
    refine QW.then_ ?_
    refine CW.condF rfl ?_
    refine CW.skip ?_
    refine QW.then_ ?_
    refine CW.seq ?_
    obtain rfl := hg0 rfl
    refine CW.region ?_
    refine RG.vl rfl rfl rfl (Ev.fld rfl rfl fld_43_0) ?_
    refine RG.vl rfl rfl rfl (Ev.ldAt rfl rfl Try.underlying9 rfl (hb1.cells) (rfl)) ?_
    refine RG.call rfl rfl rfl rfl rfl rfl rfl en_13 (wr_is _ hw htd (by omega)) ?_
    rintro _ w4 ⟨rfl, hx4⟩
    replace hE3 := Ex.tr hE3 hx4
    have hE5 := hx4
    refine RG.vl rfl rfl rfl (Ev.move rfl rfl) ?_
    refine RG.vl rfl rfl rfl (Ev.extract rfl rfl rfl) ?_
    refine RG.vl rfl rfl rfl (Ev.extract rfl rfl rfl) ?_
    refine RG.vl rfl rfl rfl (Ev.assign rfl rfl) ?_
    refine RG.vl rfl rfl rfl (Ev.assign rfl rfl) ?_
    refine RG.done ?_
    refine QW.then_ ?_
    refine CW.seq ?_
    refine CW.seq ?_
    refine CW.draw [] (.ex) 23 rfl mixed (fun wd6 hxwd6 => ?_)
    replace hE3 := Ex.tr hE3 hxwd6
    replace hE5 := Ex.tr hE5 hxwd6
    refine AG.takeW 0 rfl (by kernel_rfl) (by kernel_rfl) rfl rfl rfl (fun _ => Ev.move rfl rfl) ?_
    refine AG.takeW 1 rfl (by kernel_rfl) (by kernel_rfl) rfl rfl rfl (fun _ => Ev.isF (Ev.neI rfl rfl rfl) (fun h => h rfl)) ?_
    refine AG.takeW 2 rfl (by kernel_rfl) (by kernel_rfl) rfl rfl rfl (fun _ => Ev.move rfl rfl) ?_
    refine AG.takeW 3 rfl (by kernel_rfl) (by kernel_rfl) rfl rfl rfl (fun _ => Ev.move rfl rfl) ?_
    refine AG.takeW 4 rfl (by kernel_rfl) (by kernel_rfl) rfl rfl rfl (fun _ => Ev.lenStr rfl rfl rfl Try.underlying9) ?_
    refine AG.takeW 5 rfl (by kernel_rfl) (by kernel_rfl) rfl rfl rfl (fun _ => Ev.move rfl rfl) ?_
    refine AG.takeW 6 rfl (by kernel_rfl) (by kernel_rfl) rfl rfl rfl (fun _ => Ev.lenStr rfl rfl rfl Try.underlying9) ?_
    refine AG.takeW 7 rfl (by kernel_rfl) (by kernel_rfl) rfl rfl rfl (fun _ => Ev.isF (Ev.neI rfl rfl rfl) (fun h => h (by omega))) ?_
    refine AG.takeW 8 rfl (by kernel_rfl) (by kernel_rfl) rfl rfl rfl (fun _ => Ev.pickF rfl rfl rfl) ?_
    refine AG.takeW 9 rfl (by kernel_rfl) (by kernel_rfl) rfl rfl rfl (fun _ => Ev.move rfl rfl) ?_
    refine AG.takeW 10 rfl (by kernel_rfl) (by kernel_rfl) rfl rfl rfl (fun _ => Ev.move rfl rfl) ?_
    refine AG.takeW 11 rfl (by kernel_rfl) (by kernel_rfl) rfl rfl rfl (fun _ => (Ev.cutStr (i := 0) (j := 2) rfl rfl Try.underlying9 rfl rfl (by omega) (by omega)).conv (congrArg Value.string ((bx_cut (frm (wd c)) 0 2).trans (show _ = (⟨[65, 84].toArray⟩ : ByteArray) from rfl)))) ?_
    refine AG.takeW 12 rfl (by kernel_rfl) (by kernel_rfl) rfl rfl rfl (fun _ => Ev.move rfl rfl) ?_
    refine AG.takeW 13 rfl (by kernel_rfl) (by kernel_rfl) rfl rfl rfl (fun _ => (Ev.cutStr (i := 0) (j := 2) rfl rfl Try.underlying9 rfl rfl (by omega) (by omega)).conv (congrArg Value.string ((bx_cut (frm inn) 0 2).trans (show _ = (⟨[65, 84].toArray⟩ : ByteArray) from rfl)))) ?_
    refine AG.takeW 14 rfl (by kernel_rfl) (by kernel_rfl) rfl rfl rfl (fun _ => Ev.isF (Ev.neS rfl rfl rfl) (fun h => h rfl)) ?_
    refine AG.takeW 15 rfl (by kernel_rfl) (by kernel_rfl) rfl rfl rfl (fun _ => Ev.pickF rfl rfl rfl) ?_
    refine AG.takeW 16 rfl (by kernel_rfl) (by kernel_rfl) rfl rfl rfl (fun _ => Ev.move rfl rfl) ?_
    refine AG.takeW 17 rfl (by kernel_rfl) (by kernel_rfl) rfl rfl rfl (fun _ => Ev.move rfl rfl) ?_
    refine AG.takeW 18 rfl (by kernel_rfl) (by kernel_rfl) rfl rfl rfl (fun _ => (Ev.cutStr (i := 62) rfl rfl Try.underlying9 rfl rfl (by omega) (Nat.le_refl _)).conv (congrArg Value.string ((bx_cut (frm (wd c)) 62 _).trans (by rw [hsx, hfx, hwl, hc, frm_end (by omega)])))) ?_
    refine AG.takeW 19 rfl (by kernel_rfl) (by kernel_rfl) rfl rfl rfl (fun _ => Ev.move rfl rfl) ?_
    refine AG.takeW 20 rfl (by kernel_rfl) (by kernel_rfl) rfl rfl rfl (fun _ => (Ev.cutStr (i := 62) rfl rfl Try.underlying9 rfl rfl (by omega) (Nat.le_refl _)).conv (congrArg Value.string ((bx_cut (frm inn) 62 _).trans (by rw [hsl, hfl, hi60, frm_end hi60])))) ?_
    refine AG.takeW 21 rfl (by kernel_rfl) (by kernel_rfl) rfl rfl rfl (fun _ => Ev.isF (Ev.neS rfl rfl rfl) (fun h => h rfl)) ?_
    refine AG.takeW 22 rfl (by kernel_rfl) (by kernel_rfl) rfl rfl rfl (fun _ => Ev.pickF rfl rfl rfl) ?_
    refine AG.done (by kernel_rfl) ?_
    refine QW.sub (S' := [(0, _), (3, _), (4, _), (7, _), (52, _)]) ⟨rfl, rfl, rfl, rfl, rfl, trivial⟩ ?_
    refine QW.then_ ?_
    refine CW.condF rfl ?_
    refine CW.skip ?_
    refine QW.then_ ?_
    refine CW.seq ?_
    refine CW.region ?_
    refine RG.vl rfl rfl rfl (Ev.assign rfl rfl) ?_
    refine RG.vl rfl rfl rfl (Ev.assign rfl rfl) ?_
    refine RG.done ?_
    refine QW.then_ ?_
    refine CW.seq ?_
    refine CW.seq ?_
    refine CW.region ?_
    refine RG.vl rfl rfl rfl (Ev.move rfl rfl) ?_
    refine RG.done ?_
    refine QW.then_ ?_
    refine CW.block ?_
    replace hb1 := (hb1.ext hE5)
    have hR7 := (Ex.tr hB0 hE3)
    have hR8 := hE5
    refine CW.loop1 [(0, _), (3, _), (4, _), (7, _)] ⟨rfl, rfl, rfl, rfl, trivial⟩ (fun (i : Nat) => [(53, .int .i64 (i : Int)), (9, .int .i64 ((((List.range i).filter (nrB (wd c) inn)).length : Nat) : Int)), (10, .int .i64 (((erasL inn i).length : Nat) : Int))]) (fun i w' => (i ≤ 20) ∧ Ex wd6 w') (fun i => 20 - i) (0) ⟨rfl, rfl, rfl, trivial⟩ ⟨Nat.zero_le _, (Ex.rfl_ _)⟩ ?_
    rintro i wl9 ⟨hi, hxwl9⟩
    refine CW.sub (S' := [(53, _), (9, _), (10, _), (0, _), (3, _), (4, _), (7, _)]) ⟨rfl, rfl, rfl, rfl, rfl, rfl, rfl, trivial⟩ ?_
    refine CW.seq ?_
    refine CW.region ?_
    refine RG.vl rfl rfl rfl (Ev.lss rfl rfl rfl) ?_
    refine RG.done ?_
    refine QW.then_ ?_
    refine CW.seq ?_
    refine CW.condP rfl (fun hc10 => ?_) (fun hc10 => ?_)
    · refine CW.skip ?_
      refine QW.then_ ?_
      refine CW.seq ?_
      refine CW.block ?_
      refine CW.seq ?_
      refine CW.region ?_
      refine RG.vl rfl rfl rfl (Ev.move rfl rfl) ?_
      refine RG.vl rfl rfl rfl (Ev.assign rfl rfl) ?_
      refine RG.done ?_
      refine QW.then_ ?_
      refine CW.seq ?_
      have hpq := part_eq (T := inn) (i := i) (by omega)
      obtain ⟨p1, p2, p3, hp, _⟩ := hpq
      have hpx := part_eq (T := wd c) (i := i) (by omega)
      have htn := told_nr (wd c) inn i
      have hte := told_er inn i
      have hel := eras_len inn i
      have hnl := List.length_filter_le (nrB (wd c) inn) (List.range i)
      rw [List.length_range] at hnl
      refine CW.draw [] (.ex) 18 rfl mixed (fun wd11 hxwd11 => ?_)
      replace hxwl9 := Ex.tr hxwl9 hxwd11
      have hE12 := hxwd11
      refine AG.takeW 0 rfl (by kernel_rfl) (by kernel_rfl) rfl rfl rfl (fun _ => Ev.move rfl rfl) ?_
      refine AG.takeW 1 rfl (by kernel_rfl) (by kernel_rfl) rfl rfl rfl (fun _ => Ev.move rfl rfl) ?_
      refine AG.takeW 2 rfl (by kernel_rfl) (by kernel_rfl) rfl rfl rfl (fun _ => (Ev.mulI rfl rfl rfl (by omega)).conv (congrArg (Value.int .i64) (show (3 : Int) * (i : Int) = ((3 * i : Nat) : Int) by omega))) ?_
      refine AG.takeW 3 rfl (by kernel_rfl) (by kernel_rfl) rfl rfl rfl (fun _ => (Ev.addI rfl rfl rfl (by omega)).conv (congrArg (Value.int .i64) (show (2 : Int) + ((3 * i : Nat) : Int) = ((2 + 3 * i : Nat) : Int) by omega))) ?_
      refine AG.takeW 4 rfl (by kernel_rfl) (by kernel_rfl) rfl rfl rfl (fun _ => Ev.move rfl rfl) ?_
      refine AG.takeW 5 rfl (by kernel_rfl) (by kernel_rfl) rfl rfl rfl (fun _ => (Ev.mulI rfl rfl rfl (by omega)).conv (congrArg (Value.int .i64) (show (3 : Int) * (i : Int) = ((3 * i : Nat) : Int) by omega))) ?_
      refine AG.takeW 6 rfl (by kernel_rfl) (by kernel_rfl) rfl rfl rfl (fun _ => (Ev.addI rfl rfl rfl (by omega)).conv (congrArg (Value.int .i64) (show (5 : Int) + ((3 * i : Nat) : Int) = ((5 + 3 * i : Nat) : Int) by omega))) ?_
      refine AG.takeW 7 rfl (by kernel_rfl) (by kernel_rfl) rfl rfl rfl (fun _ => (Ev.cutStr (i := 2 + 3 * i) (j := 5 + 3 * i) rfl rfl Try.underlying9 rfl rfl (by omega) (by omega)).conv (congrArg Value.string ((bx_cut (frm (wd c)) (2 + 3 * i) (5 + 3 * i)).trans (by rw [frm_part (by omega)])))) ?_
      refine AG.takeW 8 rfl (by kernel_rfl) (by kernel_rfl) rfl rfl rfl (fun _ => Ev.move rfl rfl) ?_
      refine AG.takeW 9 rfl (by kernel_rfl) (by kernel_rfl) rfl rfl rfl (fun _ => Ev.move rfl rfl) ?_
      refine AG.takeW 10 rfl (by kernel_rfl) (by kernel_rfl) rfl rfl rfl (fun _ => (Ev.mulI rfl rfl rfl (by omega)).conv (congrArg (Value.int .i64) (show (3 : Int) * (i : Int) = ((3 * i : Nat) : Int) by omega))) ?_
      refine AG.takeW 11 rfl (by kernel_rfl) (by kernel_rfl) rfl rfl rfl (fun _ => (Ev.addI rfl rfl rfl (by omega)).conv (congrArg (Value.int .i64) (show (2 : Int) + ((3 * i : Nat) : Int) = ((2 + 3 * i : Nat) : Int) by omega))) ?_
      refine AG.takeW 12 rfl (by kernel_rfl) (by kernel_rfl) rfl rfl rfl (fun _ => Ev.move rfl rfl) ?_
      refine AG.takeW 13 rfl (by kernel_rfl) (by kernel_rfl) rfl rfl rfl (fun _ => (Ev.mulI rfl rfl rfl (by omega)).conv (congrArg (Value.int .i64) (show (3 : Int) * (i : Int) = ((3 * i : Nat) : Int) by omega))) ?_
      refine AG.takeW 14 rfl (by kernel_rfl) (by kernel_rfl) rfl rfl rfl (fun _ => (Ev.addI rfl rfl rfl (by omega)).conv (congrArg (Value.int .i64) (show (5 : Int) + ((3 * i : Nat) : Int) = ((5 + 3 * i : Nat) : Int) by omega))) ?_
      refine AG.takeW 15 rfl (by kernel_rfl) (by kernel_rfl) rfl rfl rfl (fun _ => (Ev.cutStr (i := 2 + 3 * i) (j := 5 + 3 * i) rfl rfl Try.underlying9 rfl rfl (by omega) (by omega)).conv (congrArg Value.string ((bx_cut (frm inn) (2 + 3 * i) (5 + 3 * i)).trans (by rw [frm_part (by omega), hp])))) ?_
      refine AG.takeW 16 rfl (by kernel_rfl) (by kernel_rfl) rfl rfl rfl (fun _ => Ev.assign rfl rfl) ?_
      refine AG.takeW 17 rfl (by kernel_rfl) (by kernel_rfl) rfl rfl rfl (fun _ => Ev.assign rfl rfl) ?_
      refine AG.done (by kernel_rfl) ?_
      refine QW.sub (S' := [(0, _), (3, _), (4, _), (7, _), (9, _), (10, _), (12, _), (13, _), (53, _)]) ⟨rfl, rfl, rfl, rfl, rfl, rfl, rfl, rfl, rfl, trivial⟩ ?_
      refine QW.then_ ?_
      refine CW.block ?_
      refine CW.seq ?_
      refine CW.region ?_
      refine RG.vl rfl rfl rfl (Ev.move rfl rfl) ?_
      refine RG.vl rfl rfl rfl (Ev.byteAt rfl rfl rfl Try.underlying9 (by omega) ((show _ = some p1 from rfl))) ?_
      refine RG.vl rfl rfl rfl (Ev.eqI rfl rfl rfl) ?_
      refine RG.vl rfl rfl rfl (Ev.move rfl rfl) ?_
      refine RG.split (d := 76) rfl (fun hg13 => ?_) (fun hg13 => ?_)
      · refine RG.pass rfl rfl rfl ?_
        refine RG.pass rfl rfl rfl ?_
        refine RG.pass rfl rfl rfl ?_
        refine RG.vl rfl rfl rfl (Ev.pickT rfl rfl rfl) ?_
        refine RG.vl rfl rfl rfl (Ev.move rfl rfl) ?_
        refine RG.pass rfl rfl rfl ?_
        refine RG.pass rfl rfl rfl ?_
        refine RG.pass rfl rfl rfl ?_
        refine RG.vl rfl rfl rfl (Ev.pickT rfl rfl rfl) ?_
        refine RG.vl rfl rfl rfl (Ev.assign rfl rfl) ?_
        refine RG.done ?_
        refine QW.sub (S' := [(0, _), (3, _), (4, _), (7, _), (9, _), (10, _), (12, _), (13, _), (53, _), (72, _)]) ⟨rfl, rfl, rfl, rfl, rfl, rfl, rfl, rfl, rfl, rfl, trivial⟩ ?_
        refine QW.then_ ?_
        refine CW.condT rfl ?_
        have hun : unc inn i = true := by rw [unc3 hp]; exact decide_eq_true (by first | exact .inl (u63 (by assumption)) | exact .inr (.inl (u63 (by assumption))) | exact .inr (.inr (u63 (by assumption))))
        have hnr : nrB (wd c) inn i = false := by unfold nrB; rw [hun]; simp
        rw [hun, if_pos rfl] at hte
        rw [hnr, if_neg (by decide)] at htn
        refine CW.region ?_
        refine RG.vl rfl rfl rfl (Ev.move rfl rfl) ?_
        refine RG.vl rfl rfl rfl (Ev.addI rfl rfl rfl (by omega)) ?_
        refine RG.vl rfl rfl rfl (Ev.assign rfl rfl) ?_
        refine RG.done ?_
        refine QW.blockN ?_
        refine QW.blockN ?_
        refine QW.then_ ?_
        refine CW.region ?_
        refine RG.vl rfl rfl rfl (Ev.addI rfl rfl rfl (by omega)) ?_
        refine RG.vl rfl rfl rfl (Ev.move rfl rfl) ?_
        refine RG.done ?_
        refine QW.round1 (i + 1) ⟨rfl, congrArg (fun x => some (Value.int .i64 x)) (by omega), congrArg (fun x => some (Value.int .i64 x)) (by omega), trivial⟩ ⟨rfl, rfl, rfl, rfl, trivial⟩ ⟨by omega, hxwl9⟩ (by omega)
      · refine RG.vl rfl rfl rfl (Ev.move rfl rfl) ?_
        refine RG.vl rfl rfl rfl (Ev.byteAt rfl rfl rfl Try.underlying9 (by omega) ((show _ = some p2 from rfl))) ?_
        refine RG.vl rfl rfl rfl (Ev.eqI rfl rfl rfl) ?_
        refine RG.vl rfl rfl rfl (Ev.pickF rfl rfl rfl) ?_
        refine RG.vl rfl rfl rfl (Ev.move rfl rfl) ?_
        refine RG.split (d := 81) rfl (fun hg14 => ?_) (fun hg14 => ?_)
        · refine RG.pass rfl rfl rfl ?_
          refine RG.pass rfl rfl rfl ?_
          refine RG.pass rfl rfl rfl ?_
          refine RG.vl rfl rfl rfl (Ev.pickT rfl rfl rfl) ?_
          refine RG.vl rfl rfl rfl (Ev.assign rfl rfl) ?_
          refine RG.done ?_
          refine QW.sub (S' := [(0, _), (3, _), (4, _), (7, _), (9, _), (10, _), (12, _), (13, _), (53, _), (72, _)]) ⟨rfl, rfl, rfl, rfl, rfl, rfl, rfl, rfl, rfl, rfl, trivial⟩ ?_
          refine QW.then_ ?_
          refine CW.condT rfl ?_
          have hun : unc inn i = true := by rw [unc3 hp]; exact decide_eq_true (by first | exact .inl (u63 (by assumption)) | exact .inr (.inl (u63 (by assumption))) | exact .inr (.inr (u63 (by assumption))))
          have hnr : nrB (wd c) inn i = false := by unfold nrB; rw [hun]; simp
          rw [hun, if_pos rfl] at hte
          rw [hnr, if_neg (by decide)] at htn
          refine CW.region ?_
          refine RG.vl rfl rfl rfl (Ev.move rfl rfl) ?_
          refine RG.vl rfl rfl rfl (Ev.addI rfl rfl rfl (by omega)) ?_
          refine RG.vl rfl rfl rfl (Ev.assign rfl rfl) ?_
          refine RG.done ?_
          refine QW.blockN ?_
          refine QW.blockN ?_
          refine QW.then_ ?_
          refine CW.region ?_
          refine RG.vl rfl rfl rfl (Ev.addI rfl rfl rfl (by omega)) ?_
          refine RG.vl rfl rfl rfl (Ev.move rfl rfl) ?_
          refine RG.done ?_
          refine QW.round1 (i + 1) ⟨rfl, congrArg (fun x => some (Value.int .i64 x)) (by omega), congrArg (fun x => some (Value.int .i64 x)) (by omega), trivial⟩ ⟨rfl, rfl, rfl, rfl, trivial⟩ ⟨by omega, hxwl9⟩ (by omega)
        · refine RG.vl rfl rfl rfl (Ev.move rfl rfl) ?_
          refine RG.vl rfl rfl rfl (Ev.byteAt rfl rfl rfl Try.underlying9 (by omega) ((show _ = some p3 from rfl))) ?_
          refine RG.vl rfl rfl rfl (Ev.eqI rfl rfl rfl) ?_
          refine RG.vl rfl rfl rfl (Ev.pickF rfl rfl rfl) ?_
          refine RG.vl rfl rfl rfl (Ev.assign rfl rfl) ?_
          refine RG.done ?_
          refine QW.sub (S' := [(0, _), (3, _), (4, _), (7, _), (9, _), (10, _), (12, _), (13, _), (53, _), (72, _)]) ⟨rfl, rfl, rfl, rfl, rfl, rfl, rfl, rfl, rfl, rfl, trivial⟩ ?_
          refine QW.then_ ?_
          refine CW.condP rfl (fun hc15 => ?_) (fun hc15 => ?_)
          · have hun : unc inn i = true := by rw [unc3 hp]; exact decide_eq_true (by first | exact .inl (u63 (by assumption)) | exact .inr (.inl (u63 (by assumption))) | exact .inr (.inr (u63 (by assumption))))
            have hnr : nrB (wd c) inn i = false := by unfold nrB; rw [hun]; simp
            rw [hun, if_pos rfl] at hte
            rw [hnr, if_neg (by decide)] at htn
            refine CW.region ?_
            refine RG.vl rfl rfl rfl (Ev.move rfl rfl) ?_
            refine RG.vl rfl rfl rfl (Ev.addI rfl rfl rfl (by omega)) ?_
            refine RG.vl rfl rfl rfl (Ev.assign rfl rfl) ?_
            refine RG.done ?_
            refine QW.blockN ?_
            refine QW.blockN ?_
            refine QW.then_ ?_
            refine CW.region ?_
            refine RG.vl rfl rfl rfl (Ev.addI rfl rfl rfl (by omega)) ?_
            refine RG.vl rfl rfl rfl (Ev.move rfl rfl) ?_
            refine RG.done ?_
            refine QW.round1 (i + 1) ⟨rfl, congrArg (fun x => some (Value.int .i64 x)) (by omega), congrArg (fun x => some (Value.int .i64 x)) (by omega), trivial⟩ ⟨rfl, rfl, rfl, rfl, trivial⟩ ⟨by omega, hxwl9⟩ (by omega)
          · refine CW.seq ?_
            have hun : unc inn i = false := by rw [unc3 hp]; exact decide_eq_false (by rintro (h | h | h); exact u63' (by assumption) h; exact u63' (by assumption) h; exact u63' (by assumption) h)
            rw [hun, if_neg (by decide)] at hte
            refine CW.region ?_
            refine RG.vl rfl rfl rfl (Ev.move rfl rfl) ?_
            refine RG.vl rfl rfl rfl (Ev.move rfl rfl) ?_
            refine RG.vl rfl rfl rfl (Ev.neS rfl rfl rfl) ?_
            refine RG.vl rfl rfl rfl (Ev.assign rfl rfl) ?_
            refine RG.done ?_
            refine QW.then_ ?_
            refine CW.condP rfl (fun hc16 => ?_) (fun hc16 => ?_)
            · have hnr : nrB (wd c) inn i = true := by unfold nrB; rw [hun, hp]; simp only [Bool.not_false, Bool.and_true]; exact decide_eq_true (fun e => by first | exact absurd (bx_eq.2 e) (by assumption))
              rw [hnr, if_pos rfl] at htn
              refine CW.region ?_
              refine RG.vl rfl rfl rfl (Ev.move rfl rfl) ?_
              refine RG.vl rfl rfl rfl (Ev.addI rfl rfl rfl (by omega)) ?_
              refine RG.vl rfl rfl rfl (Ev.assign rfl rfl) ?_
              refine RG.done ?_
              refine QW.blockN ?_
              refine QW.blockN ?_
              refine QW.then_ ?_
              refine CW.region ?_
              refine RG.vl rfl rfl rfl (Ev.addI rfl rfl rfl (by omega)) ?_
              refine RG.vl rfl rfl rfl (Ev.move rfl rfl) ?_
              refine RG.done ?_
              refine QW.round1 (i + 1) ⟨rfl, congrArg (fun x => some (Value.int .i64 x)) (by omega), congrArg (fun x => some (Value.int .i64 x)) (by omega), trivial⟩ ⟨rfl, rfl, rfl, rfl, trivial⟩ ⟨by omega, hxwl9⟩ (by omega)
            · refine CW.skip ?_
              refine QW.blockN ?_
              refine QW.blockN ?_
              refine QW.then_ ?_
              have hnr : nrB (wd c) inn i = false := by unfold nrB; rw [hun, hp]; simp only [Bool.not_false, Bool.and_true]; exact decide_eq_false (fun h => h (bx_eq.1 (Decidable.not_not.1 (by assumption))))
              rw [hnr, if_neg (by decide)] at htn
              refine CW.region ?_
              refine RG.vl rfl rfl rfl (Ev.addI rfl rfl rfl (by omega)) ?_
              refine RG.vl rfl rfl rfl (Ev.move rfl rfl) ?_
              refine RG.done ?_
              refine QW.round1 (i + 1) ⟨rfl, congrArg (fun x => some (Value.int .i64 x)) (by omega), congrArg (fun x => some (Value.int .i64 x)) (by omega), trivial⟩ ⟨rfl, rfl, rfl, rfl, trivial⟩ ⟨by omega, hxwl9⟩ (by omega)
    · refine CW.exit ?_
      refine QW.thenExit ?_
      refine QW.thenExit ?_
      refine QW.blockHit ?_
      refine QW.then_ ?_
      refine CW.seq ?_
      obtain rfl : i = 20 := by omega
      have hend : ((List.range 20).filter (nrB (wd c) inn)).length = es.length := by rw [hes, diffs_nr hi60 hia hc hce]
      have hend2 : (erasL inn 20).length = er.length := by rw [her]
      refine CW.region ?_
      refine RG.vl rfl rfl rfl (Ev.move rfl rfl) ?_
      refine RG.vl rfl rfl rfl (Ev.mulI rfl rfl rfl (by omega)) ?_
      refine RG.vl rfl rfl rfl (Ev.move rfl rfl) ?_
      refine RG.vl rfl rfl rfl (Ev.addI rfl rfl rfl (by omega)) ?_
      refine RG.vl rfl rfl rfl (Ev.isT (Ev.leq rfl rfl rfl) (by omega)) ?_
      refine RG.vl rfl rfl rfl (Ev.move rfl rfl) ?_
      refine RG.vl rfl rfl rfl (Ev.move rfl rfl) ?_
      refine RG.vl rfl rfl rfl (Ev.fld rfl rfl fld_43_2) ?_
      refine RG.vl rfl rfl rfl (Ev.ldAt rfl rfl Try.underlying41 rfl ((hb1.ext hxwl9).cells) (rfl)) ?_
      refine RG.vl rfl rfl rfl (Ev.lenSlice rfl rfl rfl Try.underlying41) ?_
      refine RG.vl rfl rfl rfl (Ev.isT (Ev.eqI rfl rfl rfl) (by omega)) ?_
      refine RG.vl rfl rfl rfl (Ev.pickT rfl rfl rfl) ?_
      refine RG.vl rfl rfl rfl (Ev.move rfl rfl) ?_
      refine RG.vl rfl rfl rfl (Ev.move rfl rfl) ?_
      refine RG.vl rfl rfl rfl (Ev.fld rfl rfl fld_43_3) ?_
      refine RG.vl rfl rfl rfl (Ev.ldAt rfl rfl Try.underlying41 rfl ((hb1.ext hxwl9).cells) (rfl)) ?_
      refine RG.vl rfl rfl rfl (Ev.lenSlice rfl rfl rfl Try.underlying41) ?_
      refine RG.vl rfl rfl rfl (Ev.isT (Ev.eqI rfl rfl rfl) (by omega)) ?_
      refine RG.vl rfl rfl rfl (Ev.pickT rfl rfl rfl) ?_
      refine RG.vl rfl rfl rfl (Ev.assign rfl rfl) ?_
      refine RG.done ?_
      refine QW.sub (S' := [(4, _)]) ⟨rfl, trivial⟩ ?_
      refine QW.then_ ?_
      refine CW.ret ?_
      refine QW.ret1 rfl rfl ?_
      have hB := (Ex.tr hR7 hxwl9)
      exact ⟨rfl, hB⟩
  | true =>
    refine CW.region ?_
    refine RG.vl rfl rfl rfl (Ev.fld rfl rfl fld_43_1) ?_
    refine RG.vl rfl rfl rfl (Ev.ldAt rfl rfl Try.underlying4 rfl (hb1.cells) (rfl)) ?_
    refine RG.done ?_
    refine QW.then_ ?_
    refine CW.condT rfl ?_
    refine CW.seq ?_
    refine CW.region ?_
    refine RG.vl rfl rfl rfl (Ev.move rfl rfl) ?_
    refine RG.call rfl rfl rfl rfl rfl rfl rfl en_15 (turnE_at _ (hg1 rfl)) ?_
    rintro _ w17 ⟨rfl, hx17⟩
    replace hE3 := Ex.tr hE3 hx17
    have hE18 := hx17
    refine RG.vl rfl rfl rfl (Ev.move rfl rfl) ?_
    refine RG.vl rfl rfl rfl (Ev.extract rfl rfl rfl) ?_
    refine RG.vl rfl rfl rfl (Ev.extract rfl rfl rfl) ?_
    refine RG.vl rfl rfl rfl (Ev.assign rfl rfl) ?_
    refine RG.vl rfl rfl rfl (Ev.assign rfl rfl) ?_
    refine RG.done ?_
    refine QW.then_ ?_
    refine CW.seq ?_
    refine CW.seq ?_
    refine CW.region ?_
    refine RG.vl rfl rfl rfl (Ev.move rfl rfl) ?_
    refine RG.vl rfl rfl rfl (Ev.isF (Ev.neI rfl rfl rfl) (fun h => h rfl)) ?_
    refine RG.done ?_
    refine QW.then_ ?_
    refine CW.condF rfl ?_
    refine CW.skip ?_
    refine QW.then_ ?_
    refine CW.region ?_
    refine RG.vl rfl rfl rfl (Ev.move rfl rfl) ?_
    refine RG.vl rfl rfl rfl (Ev.assign rfl rfl) ?_
    refine RG.done ?_
    refine QW.sub (S' := [(0, _), (3, _), (4, _)]) ⟨rfl, rfl, rfl, trivial⟩ ?_
    refine QW.then_ ?_
    refine CW.seq ?_
    refine CW.region ?_
    refine RG.vl rfl rfl rfl (Ev.fld rfl rfl fld_43_0) ?_
    refine RG.vl rfl rfl rfl (Ev.ldAt rfl rfl Try.underlying9 rfl ((hb1.ext hE18).cells) (rfl)) ?_
    refine RG.call rfl rfl rfl rfl rfl rfl rfl en_13 (wr_is _ hw htd (by omega)) ?_
    rintro _ w19 ⟨rfl, hx19⟩
    replace hE3 := Ex.tr hE3 hx19
    replace hE18 := Ex.tr hE18 hx19
    have hE20 := hx19
    refine RG.vl rfl rfl rfl (Ev.move rfl rfl) ?_
    refine RG.vl rfl rfl rfl (Ev.extract rfl rfl rfl) ?_
    refine RG.vl rfl rfl rfl (Ev.extract rfl rfl rfl) ?_
    refine RG.vl rfl rfl rfl (Ev.assign rfl rfl) ?_
    refine RG.vl rfl rfl rfl (Ev.assign rfl rfl) ?_
    refine RG.done ?_
    refine QW.then_ ?_
    refine CW.seq ?_
    refine CW.seq ?_
    refine CW.draw [] (.ex) 23 rfl mixed (fun wd21 hxwd21 => ?_)
    replace hE3 := Ex.tr hE3 hxwd21
    replace hE18 := Ex.tr hE18 hxwd21
    replace hE20 := Ex.tr hE20 hxwd21
    refine AG.takeW 0 rfl (by kernel_rfl) (by kernel_rfl) rfl rfl rfl (fun _ => Ev.move rfl rfl) ?_
    refine AG.takeW 1 rfl (by kernel_rfl) (by kernel_rfl) rfl rfl rfl (fun _ => Ev.isF (Ev.neI rfl rfl rfl) (fun h => h rfl)) ?_
    refine AG.takeW 2 rfl (by kernel_rfl) (by kernel_rfl) rfl rfl rfl (fun _ => Ev.move rfl rfl) ?_
    refine AG.takeW 3 rfl (by kernel_rfl) (by kernel_rfl) rfl rfl rfl (fun _ => Ev.move rfl rfl) ?_
    refine AG.takeW 4 rfl (by kernel_rfl) (by kernel_rfl) rfl rfl rfl (fun _ => Ev.lenStr rfl rfl rfl Try.underlying9) ?_
    refine AG.takeW 5 rfl (by kernel_rfl) (by kernel_rfl) rfl rfl rfl (fun _ => Ev.move rfl rfl) ?_
    refine AG.takeW 6 rfl (by kernel_rfl) (by kernel_rfl) rfl rfl rfl (fun _ => Ev.lenStr rfl rfl rfl Try.underlying9) ?_
    refine AG.takeW 7 rfl (by kernel_rfl) (by kernel_rfl) rfl rfl rfl (fun _ => Ev.isF (Ev.neI rfl rfl rfl) (fun h => h (by omega))) ?_
    refine AG.takeW 8 rfl (by kernel_rfl) (by kernel_rfl) rfl rfl rfl (fun _ => Ev.pickF rfl rfl rfl) ?_
    refine AG.takeW 9 rfl (by kernel_rfl) (by kernel_rfl) rfl rfl rfl (fun _ => Ev.move rfl rfl) ?_
    refine AG.takeW 10 rfl (by kernel_rfl) (by kernel_rfl) rfl rfl rfl (fun _ => Ev.move rfl rfl) ?_
    refine AG.takeW 11 rfl (by kernel_rfl) (by kernel_rfl) rfl rfl rfl (fun _ => (Ev.cutStr (i := 0) (j := 2) rfl rfl Try.underlying9 rfl rfl (by omega) (by omega)).conv (congrArg Value.string ((bx_cut (frm (wd c)) 0 2).trans (show _ = (⟨[65, 84].toArray⟩ : ByteArray) from rfl)))) ?_
    refine AG.takeW 12 rfl (by kernel_rfl) (by kernel_rfl) rfl rfl rfl (fun _ => Ev.move rfl rfl) ?_
    refine AG.takeW 13 rfl (by kernel_rfl) (by kernel_rfl) rfl rfl rfl (fun _ => (Ev.cutStr (i := 0) (j := 2) rfl rfl Try.underlying9 rfl rfl (by omega) (by omega)).conv (congrArg Value.string ((bx_cut (frm inn) 0 2).trans (show _ = (⟨[65, 84].toArray⟩ : ByteArray) from rfl)))) ?_
    refine AG.takeW 14 rfl (by kernel_rfl) (by kernel_rfl) rfl rfl rfl (fun _ => Ev.isF (Ev.neS rfl rfl rfl) (fun h => h rfl)) ?_
    refine AG.takeW 15 rfl (by kernel_rfl) (by kernel_rfl) rfl rfl rfl (fun _ => Ev.pickF rfl rfl rfl) ?_
    refine AG.takeW 16 rfl (by kernel_rfl) (by kernel_rfl) rfl rfl rfl (fun _ => Ev.move rfl rfl) ?_
    refine AG.takeW 17 rfl (by kernel_rfl) (by kernel_rfl) rfl rfl rfl (fun _ => Ev.move rfl rfl) ?_
    refine AG.takeW 18 rfl (by kernel_rfl) (by kernel_rfl) rfl rfl rfl (fun _ => (Ev.cutStr (i := 62) rfl rfl Try.underlying9 rfl rfl (by omega) (Nat.le_refl _)).conv (congrArg Value.string ((bx_cut (frm (wd c)) 62 _).trans (by rw [hsx, hfx, hwl, hc, frm_end (by omega)])))) ?_
    refine AG.takeW 19 rfl (by kernel_rfl) (by kernel_rfl) rfl rfl rfl (fun _ => Ev.move rfl rfl) ?_
    refine AG.takeW 20 rfl (by kernel_rfl) (by kernel_rfl) rfl rfl rfl (fun _ => (Ev.cutStr (i := 62) rfl rfl Try.underlying9 rfl rfl (by omega) (Nat.le_refl _)).conv (congrArg Value.string ((bx_cut (frm inn) 62 _).trans (by rw [hsl, hfl, hi60, frm_end hi60])))) ?_
    refine AG.takeW 21 rfl (by kernel_rfl) (by kernel_rfl) rfl rfl rfl (fun _ => Ev.isF (Ev.neS rfl rfl rfl) (fun h => h rfl)) ?_
    refine AG.takeW 22 rfl (by kernel_rfl) (by kernel_rfl) rfl rfl rfl (fun _ => Ev.pickF rfl rfl rfl) ?_
    refine AG.done (by kernel_rfl) ?_
    refine QW.sub (S' := [(0, _), (3, _), (4, _), (7, _), (52, _)]) ⟨rfl, rfl, rfl, rfl, rfl, trivial⟩ ?_
    refine QW.then_ ?_
    refine CW.condF rfl ?_
    refine CW.skip ?_
    refine QW.then_ ?_
    refine CW.seq ?_
    refine CW.region ?_
    refine RG.vl rfl rfl rfl (Ev.assign rfl rfl) ?_
    refine RG.vl rfl rfl rfl (Ev.assign rfl rfl) ?_
    refine RG.done ?_
    refine QW.then_ ?_
    refine CW.seq ?_
    refine CW.seq ?_
    refine CW.region ?_
    refine RG.vl rfl rfl rfl (Ev.move rfl rfl) ?_
    refine RG.done ?_
    refine QW.then_ ?_
    refine CW.block ?_
    replace hb1 := (hb1.ext hE18)
    have hR22 := (Ex.tr hB0 hE3)
    have hR23 := hE18
    have hR24 := hE20
    refine CW.loop1 [(0, _), (3, _), (4, _), (7, _)] ⟨rfl, rfl, rfl, rfl, trivial⟩ (fun (i : Nat) => [(53, .int .i64 (i : Int)), (9, .int .i64 ((((List.range i).filter (nrB (wd c) inn)).length : Nat) : Int)), (10, .int .i64 (((erasL inn i).length : Nat) : Int))]) (fun i w' => (i ≤ 20) ∧ Ex wd21 w') (fun i => 20 - i) (0) ⟨rfl, rfl, rfl, trivial⟩ ⟨Nat.zero_le _, (Ex.rfl_ _)⟩ ?_
    rintro i wl25 ⟨hi, hxwl25⟩
    refine CW.sub (S' := [(53, _), (9, _), (10, _), (0, _), (3, _), (4, _), (7, _)]) ⟨rfl, rfl, rfl, rfl, rfl, rfl, rfl, trivial⟩ ?_
    refine CW.seq ?_
    refine CW.region ?_
    refine RG.vl rfl rfl rfl (Ev.lss rfl rfl rfl) ?_
    refine RG.done ?_
    refine QW.then_ ?_
    refine CW.seq ?_
    refine CW.condP rfl (fun hc26 => ?_) (fun hc26 => ?_)
    · refine CW.skip ?_
      refine QW.then_ ?_
      refine CW.seq ?_
      refine CW.block ?_
      refine CW.seq ?_
      refine CW.region ?_
      refine RG.vl rfl rfl rfl (Ev.move rfl rfl) ?_
      refine RG.vl rfl rfl rfl (Ev.assign rfl rfl) ?_
      refine RG.done ?_
      refine QW.then_ ?_
      refine CW.seq ?_
      have hpq := part_eq (T := inn) (i := i) (by omega)
      obtain ⟨p1, p2, p3, hp, _⟩ := hpq
      have hpx := part_eq (T := wd c) (i := i) (by omega)
      have htn := told_nr (wd c) inn i
      have hte := told_er inn i
      have hel := eras_len inn i
      have hnl := List.length_filter_le (nrB (wd c) inn) (List.range i)
      rw [List.length_range] at hnl
      refine CW.draw [] (.ex) 18 rfl mixed (fun wd27 hxwd27 => ?_)
      replace hxwl25 := Ex.tr hxwl25 hxwd27
      have hE28 := hxwd27
      refine AG.takeW 0 rfl (by kernel_rfl) (by kernel_rfl) rfl rfl rfl (fun _ => Ev.move rfl rfl) ?_
      refine AG.takeW 1 rfl (by kernel_rfl) (by kernel_rfl) rfl rfl rfl (fun _ => Ev.move rfl rfl) ?_
      refine AG.takeW 2 rfl (by kernel_rfl) (by kernel_rfl) rfl rfl rfl (fun _ => (Ev.mulI rfl rfl rfl (by omega)).conv (congrArg (Value.int .i64) (show (3 : Int) * (i : Int) = ((3 * i : Nat) : Int) by omega))) ?_
      refine AG.takeW 3 rfl (by kernel_rfl) (by kernel_rfl) rfl rfl rfl (fun _ => (Ev.addI rfl rfl rfl (by omega)).conv (congrArg (Value.int .i64) (show (2 : Int) + ((3 * i : Nat) : Int) = ((2 + 3 * i : Nat) : Int) by omega))) ?_
      refine AG.takeW 4 rfl (by kernel_rfl) (by kernel_rfl) rfl rfl rfl (fun _ => Ev.move rfl rfl) ?_
      refine AG.takeW 5 rfl (by kernel_rfl) (by kernel_rfl) rfl rfl rfl (fun _ => (Ev.mulI rfl rfl rfl (by omega)).conv (congrArg (Value.int .i64) (show (3 : Int) * (i : Int) = ((3 * i : Nat) : Int) by omega))) ?_
      refine AG.takeW 6 rfl (by kernel_rfl) (by kernel_rfl) rfl rfl rfl (fun _ => (Ev.addI rfl rfl rfl (by omega)).conv (congrArg (Value.int .i64) (show (5 : Int) + ((3 * i : Nat) : Int) = ((5 + 3 * i : Nat) : Int) by omega))) ?_
      refine AG.takeW 7 rfl (by kernel_rfl) (by kernel_rfl) rfl rfl rfl (fun _ => (Ev.cutStr (i := 2 + 3 * i) (j := 5 + 3 * i) rfl rfl Try.underlying9 rfl rfl (by omega) (by omega)).conv (congrArg Value.string ((bx_cut (frm (wd c)) (2 + 3 * i) (5 + 3 * i)).trans (by rw [frm_part (by omega)])))) ?_
      refine AG.takeW 8 rfl (by kernel_rfl) (by kernel_rfl) rfl rfl rfl (fun _ => Ev.move rfl rfl) ?_
      refine AG.takeW 9 rfl (by kernel_rfl) (by kernel_rfl) rfl rfl rfl (fun _ => Ev.move rfl rfl) ?_
      refine AG.takeW 10 rfl (by kernel_rfl) (by kernel_rfl) rfl rfl rfl (fun _ => (Ev.mulI rfl rfl rfl (by omega)).conv (congrArg (Value.int .i64) (show (3 : Int) * (i : Int) = ((3 * i : Nat) : Int) by omega))) ?_
      refine AG.takeW 11 rfl (by kernel_rfl) (by kernel_rfl) rfl rfl rfl (fun _ => (Ev.addI rfl rfl rfl (by omega)).conv (congrArg (Value.int .i64) (show (2 : Int) + ((3 * i : Nat) : Int) = ((2 + 3 * i : Nat) : Int) by omega))) ?_
      refine AG.takeW 12 rfl (by kernel_rfl) (by kernel_rfl) rfl rfl rfl (fun _ => Ev.move rfl rfl) ?_
      refine AG.takeW 13 rfl (by kernel_rfl) (by kernel_rfl) rfl rfl rfl (fun _ => (Ev.mulI rfl rfl rfl (by omega)).conv (congrArg (Value.int .i64) (show (3 : Int) * (i : Int) = ((3 * i : Nat) : Int) by omega))) ?_
      refine AG.takeW 14 rfl (by kernel_rfl) (by kernel_rfl) rfl rfl rfl (fun _ => (Ev.addI rfl rfl rfl (by omega)).conv (congrArg (Value.int .i64) (show (5 : Int) + ((3 * i : Nat) : Int) = ((5 + 3 * i : Nat) : Int) by omega))) ?_
      refine AG.takeW 15 rfl (by kernel_rfl) (by kernel_rfl) rfl rfl rfl (fun _ => (Ev.cutStr (i := 2 + 3 * i) (j := 5 + 3 * i) rfl rfl Try.underlying9 rfl rfl (by omega) (by omega)).conv (congrArg Value.string ((bx_cut (frm inn) (2 + 3 * i) (5 + 3 * i)).trans (by rw [frm_part (by omega), hp])))) ?_
      refine AG.takeW 16 rfl (by kernel_rfl) (by kernel_rfl) rfl rfl rfl (fun _ => Ev.assign rfl rfl) ?_
      refine AG.takeW 17 rfl (by kernel_rfl) (by kernel_rfl) rfl rfl rfl (fun _ => Ev.assign rfl rfl) ?_
      refine AG.done (by kernel_rfl) ?_
      refine QW.sub (S' := [(0, _), (3, _), (4, _), (7, _), (9, _), (10, _), (12, _), (13, _), (53, _)]) ⟨rfl, rfl, rfl, rfl, rfl, rfl, rfl, rfl, rfl, trivial⟩ ?_
      refine QW.then_ ?_
      refine CW.block ?_
      refine CW.seq ?_
      refine CW.region ?_
      refine RG.vl rfl rfl rfl (Ev.move rfl rfl) ?_
      refine RG.vl rfl rfl rfl (Ev.byteAt rfl rfl rfl Try.underlying9 (by omega) ((show _ = some p1 from rfl))) ?_
      refine RG.vl rfl rfl rfl (Ev.eqI rfl rfl rfl) ?_
      refine RG.vl rfl rfl rfl (Ev.move rfl rfl) ?_
      refine RG.split (d := 76) rfl (fun hg29 => ?_) (fun hg29 => ?_)
      · refine RG.pass rfl rfl rfl ?_
        refine RG.pass rfl rfl rfl ?_
        refine RG.pass rfl rfl rfl ?_
        refine RG.vl rfl rfl rfl (Ev.pickT rfl rfl rfl) ?_
        refine RG.vl rfl rfl rfl (Ev.move rfl rfl) ?_
        refine RG.pass rfl rfl rfl ?_
        refine RG.pass rfl rfl rfl ?_
        refine RG.pass rfl rfl rfl ?_
        refine RG.vl rfl rfl rfl (Ev.pickT rfl rfl rfl) ?_
        refine RG.vl rfl rfl rfl (Ev.assign rfl rfl) ?_
        refine RG.done ?_
        refine QW.sub (S' := [(0, _), (3, _), (4, _), (7, _), (9, _), (10, _), (12, _), (13, _), (53, _), (72, _)]) ⟨rfl, rfl, rfl, rfl, rfl, rfl, rfl, rfl, rfl, rfl, trivial⟩ ?_
        refine QW.then_ ?_
        refine CW.condT rfl ?_
        have hun : unc inn i = true := by rw [unc3 hp]; exact decide_eq_true (by first | exact .inl (u63 (by assumption)) | exact .inr (.inl (u63 (by assumption))) | exact .inr (.inr (u63 (by assumption))))
        have hnr : nrB (wd c) inn i = false := by unfold nrB; rw [hun]; simp
        rw [hun, if_pos rfl] at hte
        rw [hnr, if_neg (by decide)] at htn
        refine CW.region ?_
        refine RG.vl rfl rfl rfl (Ev.move rfl rfl) ?_
        refine RG.vl rfl rfl rfl (Ev.addI rfl rfl rfl (by omega)) ?_
        refine RG.vl rfl rfl rfl (Ev.assign rfl rfl) ?_
        refine RG.done ?_
        refine QW.blockN ?_
        refine QW.blockN ?_
        refine QW.then_ ?_
        refine CW.region ?_
        refine RG.vl rfl rfl rfl (Ev.addI rfl rfl rfl (by omega)) ?_
        refine RG.vl rfl rfl rfl (Ev.move rfl rfl) ?_
        refine RG.done ?_
        refine QW.round1 (i + 1) ⟨rfl, congrArg (fun x => some (Value.int .i64 x)) (by omega), congrArg (fun x => some (Value.int .i64 x)) (by omega), trivial⟩ ⟨rfl, rfl, rfl, rfl, trivial⟩ ⟨by omega, hxwl25⟩ (by omega)
      · refine RG.vl rfl rfl rfl (Ev.move rfl rfl) ?_
        refine RG.vl rfl rfl rfl (Ev.byteAt rfl rfl rfl Try.underlying9 (by omega) ((show _ = some p2 from rfl))) ?_
        refine RG.vl rfl rfl rfl (Ev.eqI rfl rfl rfl) ?_
        refine RG.vl rfl rfl rfl (Ev.pickF rfl rfl rfl) ?_
        refine RG.vl rfl rfl rfl (Ev.move rfl rfl) ?_
        refine RG.split (d := 81) rfl (fun hg30 => ?_) (fun hg30 => ?_)
        · refine RG.pass rfl rfl rfl ?_
          refine RG.pass rfl rfl rfl ?_
          refine RG.pass rfl rfl rfl ?_
          refine RG.vl rfl rfl rfl (Ev.pickT rfl rfl rfl) ?_
          refine RG.vl rfl rfl rfl (Ev.assign rfl rfl) ?_
          refine RG.done ?_
          refine QW.sub (S' := [(0, _), (3, _), (4, _), (7, _), (9, _), (10, _), (12, _), (13, _), (53, _), (72, _)]) ⟨rfl, rfl, rfl, rfl, rfl, rfl, rfl, rfl, rfl, rfl, trivial⟩ ?_
          refine QW.then_ ?_
          refine CW.condT rfl ?_
          have hun : unc inn i = true := by rw [unc3 hp]; exact decide_eq_true (by first | exact .inl (u63 (by assumption)) | exact .inr (.inl (u63 (by assumption))) | exact .inr (.inr (u63 (by assumption))))
          have hnr : nrB (wd c) inn i = false := by unfold nrB; rw [hun]; simp
          rw [hun, if_pos rfl] at hte
          rw [hnr, if_neg (by decide)] at htn
          refine CW.region ?_
          refine RG.vl rfl rfl rfl (Ev.move rfl rfl) ?_
          refine RG.vl rfl rfl rfl (Ev.addI rfl rfl rfl (by omega)) ?_
          refine RG.vl rfl rfl rfl (Ev.assign rfl rfl) ?_
          refine RG.done ?_
          refine QW.blockN ?_
          refine QW.blockN ?_
          refine QW.then_ ?_
          refine CW.region ?_
          refine RG.vl rfl rfl rfl (Ev.addI rfl rfl rfl (by omega)) ?_
          refine RG.vl rfl rfl rfl (Ev.move rfl rfl) ?_
          refine RG.done ?_
          refine QW.round1 (i + 1) ⟨rfl, congrArg (fun x => some (Value.int .i64 x)) (by omega), congrArg (fun x => some (Value.int .i64 x)) (by omega), trivial⟩ ⟨rfl, rfl, rfl, rfl, trivial⟩ ⟨by omega, hxwl25⟩ (by omega)
        · refine RG.vl rfl rfl rfl (Ev.move rfl rfl) ?_
          refine RG.vl rfl rfl rfl (Ev.byteAt rfl rfl rfl Try.underlying9 (by omega) ((show _ = some p3 from rfl))) ?_
          refine RG.vl rfl rfl rfl (Ev.eqI rfl rfl rfl) ?_
          refine RG.vl rfl rfl rfl (Ev.pickF rfl rfl rfl) ?_
          refine RG.vl rfl rfl rfl (Ev.assign rfl rfl) ?_
          refine RG.done ?_
          refine QW.sub (S' := [(0, _), (3, _), (4, _), (7, _), (9, _), (10, _), (12, _), (13, _), (53, _), (72, _)]) ⟨rfl, rfl, rfl, rfl, rfl, rfl, rfl, rfl, rfl, rfl, trivial⟩ ?_
          refine QW.then_ ?_
          refine CW.condP rfl (fun hc31 => ?_) (fun hc31 => ?_)
          · have hun : unc inn i = true := by rw [unc3 hp]; exact decide_eq_true (by first | exact .inl (u63 (by assumption)) | exact .inr (.inl (u63 (by assumption))) | exact .inr (.inr (u63 (by assumption))))
            have hnr : nrB (wd c) inn i = false := by unfold nrB; rw [hun]; simp
            rw [hun, if_pos rfl] at hte
            rw [hnr, if_neg (by decide)] at htn
            refine CW.region ?_
            refine RG.vl rfl rfl rfl (Ev.move rfl rfl) ?_
            refine RG.vl rfl rfl rfl (Ev.addI rfl rfl rfl (by omega)) ?_
            refine RG.vl rfl rfl rfl (Ev.assign rfl rfl) ?_
            refine RG.done ?_
            refine QW.blockN ?_
            refine QW.blockN ?_
            refine QW.then_ ?_
            refine CW.region ?_
            refine RG.vl rfl rfl rfl (Ev.addI rfl rfl rfl (by omega)) ?_
            refine RG.vl rfl rfl rfl (Ev.move rfl rfl) ?_
            refine RG.done ?_
            refine QW.round1 (i + 1) ⟨rfl, congrArg (fun x => some (Value.int .i64 x)) (by omega), congrArg (fun x => some (Value.int .i64 x)) (by omega), trivial⟩ ⟨rfl, rfl, rfl, rfl, trivial⟩ ⟨by omega, hxwl25⟩ (by omega)
          · refine CW.seq ?_
            have hun : unc inn i = false := by rw [unc3 hp]; exact decide_eq_false (by rintro (h | h | h); exact u63' (by assumption) h; exact u63' (by assumption) h; exact u63' (by assumption) h)
            rw [hun, if_neg (by decide)] at hte
            refine CW.region ?_
            refine RG.vl rfl rfl rfl (Ev.move rfl rfl) ?_
            refine RG.vl rfl rfl rfl (Ev.move rfl rfl) ?_
            refine RG.vl rfl rfl rfl (Ev.neS rfl rfl rfl) ?_
            refine RG.vl rfl rfl rfl (Ev.assign rfl rfl) ?_
            refine RG.done ?_
            refine QW.then_ ?_
            refine CW.condP rfl (fun hc32 => ?_) (fun hc32 => ?_)
            · have hnr : nrB (wd c) inn i = true := by unfold nrB; rw [hun, hp]; simp only [Bool.not_false, Bool.and_true]; exact decide_eq_true (fun e => by first | exact absurd (bx_eq.2 e) (by assumption))
              rw [hnr, if_pos rfl] at htn
              refine CW.region ?_
              refine RG.vl rfl rfl rfl (Ev.move rfl rfl) ?_
              refine RG.vl rfl rfl rfl (Ev.addI rfl rfl rfl (by omega)) ?_
              refine RG.vl rfl rfl rfl (Ev.assign rfl rfl) ?_
              refine RG.done ?_
              refine QW.blockN ?_
              refine QW.blockN ?_
              refine QW.then_ ?_
              refine CW.region ?_
              refine RG.vl rfl rfl rfl (Ev.addI rfl rfl rfl (by omega)) ?_
              refine RG.vl rfl rfl rfl (Ev.move rfl rfl) ?_
              refine RG.done ?_
              refine QW.round1 (i + 1) ⟨rfl, congrArg (fun x => some (Value.int .i64 x)) (by omega), congrArg (fun x => some (Value.int .i64 x)) (by omega), trivial⟩ ⟨rfl, rfl, rfl, rfl, trivial⟩ ⟨by omega, hxwl25⟩ (by omega)
            · refine CW.skip ?_
              refine QW.blockN ?_
              refine QW.blockN ?_
              refine QW.then_ ?_
              have hnr : nrB (wd c) inn i = false := by unfold nrB; rw [hun, hp]; simp only [Bool.not_false, Bool.and_true]; exact decide_eq_false (fun h => h (bx_eq.1 (Decidable.not_not.1 (by assumption))))
              rw [hnr, if_neg (by decide)] at htn
              refine CW.region ?_
              refine RG.vl rfl rfl rfl (Ev.addI rfl rfl rfl (by omega)) ?_
              refine RG.vl rfl rfl rfl (Ev.move rfl rfl) ?_
              refine RG.done ?_
              refine QW.round1 (i + 1) ⟨rfl, congrArg (fun x => some (Value.int .i64 x)) (by omega), congrArg (fun x => some (Value.int .i64 x)) (by omega), trivial⟩ ⟨rfl, rfl, rfl, rfl, trivial⟩ ⟨by omega, hxwl25⟩ (by omega)
    · refine CW.exit ?_
      refine QW.thenExit ?_
      refine QW.thenExit ?_
      refine QW.blockHit ?_
      refine QW.then_ ?_
      refine CW.seq ?_
      obtain rfl : i = 20 := by omega
      have hend : ((List.range 20).filter (nrB (wd c) inn)).length = es.length := by rw [hes, diffs_nr hi60 hia hc hce]
      have hend2 : (erasL inn 20).length = er.length := by rw [her]
      refine CW.region ?_
      refine RG.vl rfl rfl rfl (Ev.move rfl rfl) ?_
      refine RG.vl rfl rfl rfl (Ev.mulI rfl rfl rfl (by omega)) ?_
      refine RG.vl rfl rfl rfl (Ev.move rfl rfl) ?_
      refine RG.vl rfl rfl rfl (Ev.addI rfl rfl rfl (by omega)) ?_
      refine RG.vl rfl rfl rfl (Ev.isT (Ev.leq rfl rfl rfl) (by omega)) ?_
      refine RG.vl rfl rfl rfl (Ev.move rfl rfl) ?_
      refine RG.vl rfl rfl rfl (Ev.move rfl rfl) ?_
      refine RG.vl rfl rfl rfl (Ev.fld rfl rfl fld_43_2) ?_
      refine RG.vl rfl rfl rfl (Ev.ldAt rfl rfl Try.underlying41 rfl ((hb1.ext hxwl25).cells) (rfl)) ?_
      refine RG.vl rfl rfl rfl (Ev.lenSlice rfl rfl rfl Try.underlying41) ?_
      refine RG.vl rfl rfl rfl (Ev.isT (Ev.eqI rfl rfl rfl) (by omega)) ?_
      refine RG.vl rfl rfl rfl (Ev.pickT rfl rfl rfl) ?_
      refine RG.vl rfl rfl rfl (Ev.move rfl rfl) ?_
      refine RG.vl rfl rfl rfl (Ev.move rfl rfl) ?_
      refine RG.vl rfl rfl rfl (Ev.fld rfl rfl fld_43_3) ?_
      refine RG.vl rfl rfl rfl (Ev.ldAt rfl rfl Try.underlying41 rfl ((hb1.ext hxwl25).cells) (rfl)) ?_
      refine RG.vl rfl rfl rfl (Ev.lenSlice rfl rfl rfl Try.underlying41) ?_
      refine RG.vl rfl rfl rfl (Ev.isT (Ev.eqI rfl rfl rfl) (by omega)) ?_
      refine RG.vl rfl rfl rfl (Ev.pickT rfl rfl rfl) ?_
      refine RG.vl rfl rfl rfl (Ev.assign rfl rfl) ?_
      refine RG.done ?_
      refine QW.sub (S' := [(4, _)]) ⟨rfl, trivial⟩ ?_
      refine QW.then_ ?_
      refine CW.ret ?_
      refine QW.ret1 rfl rfl ?_
      have hB := (Ex.tr hR22 hxwl25)
      exact ⟨rfl, hB⟩

end Go.Proofs.Ytgjnchjkjdnidaa

/- Bars with hits: what is written, hit, and read. -/
namespace Go.Proofs.Ytgjnchjkjdnidaa
open Go.RowKit
section
variable (w : World)
theorem wrD_ret {t : List UInt8} (he : errW t = 0) (hl : t.length ≤ 1000) : Ret Try.prog 13 [.string ⟨t.toArray⟩] w (fun v w' => ∃ c, IsEnc (b64 (numT t)) c ∧ v = .tuple #[.string ⟨(frm (wd c)).toArray⟩, .int .i64 0] ∧ Ex w w') := by
  refine (bwr_ret t w hl).mono ?_
  rintro v w' ⟨y, rfl, hy, hx⟩
  obtain ⟨c, hc, rfl⟩ := hy.1 he
  exact ⟨c, hc, by rw [he]; rfl, hx⟩
theorem hitF_ret (v0 : Value) (c : List Nat) (hs : List Hit) (hl : RdL w 2 encH v0 hs) (hc : c.length = 20) (hhl : hs.length ≤ 1000) (hb : ∀ p ∈ hs, p.1 < 256 ∧ p.2 < 256) :
    Ret Try.prog 14 [.string ⟨(frm (wd c)).toArray⟩, v0] w (fun v w' => ∃ y z, v = .tuple #[.string ⟨(frm (hitI (wd c) hs)).toArray⟩, y, z] ∧ Own w' w.heap.size 3 1 encZ y ((List.range 20).filter (nrB (wd c) (hitI (wd c) hs))) ∧ Own w' w.heap.size 3 1 encZ z (erasL (hitI (wd c) hs) 20) ∧ Ex w w') := by
  have h60 : (wd c).length = 60 := by rw [wd_len, hc]
  have hO : (hitI (wd c) hs).length = 60 := by rw [hitI_len, h60]
  refine (hit_ret (frm (wd c)) v0 hs w hl (by rw [frm_len, h60]) hhl hb).mono ?_
  rintro v w' ⟨y, z, rfl, hy, hz, hx⟩
  rw [hit_frm hs h60] at hy hz ⊢
  rw [es_nr hO h60] at hy
  rw [er_nr hO] at hz
  exact ⟨y, z, rfl, hy, hz, hx⟩

end
theorem pay_of {t : List UInt8} {c : List Nat} (he : errW t = 0) (hie : IsEnc (b64 (numT t)) c) : PayT (vb 64 0 (c.take 16)) (some t) := by
  obtain ⟨h28, ha⟩ := errW_ok he
  have hp := hie.pre
  rw [b64_len] at hp
  rw [hp, vb_b64 (numT_64 ha h28)]
  exact ⟨ha, rfl⟩
theorem enc_20 {t : List UInt8} {c : List Nat} (hie : IsEnc (b64 (numT t)) c) : Code_ 20 c := by
  have := enc_code hie
  rw [b64_len] at this
  exact this
theorem rd_hit {x O t t' : List UInt8} {c es er : List Nat} {b b' : Bool} {e : Int} (hu : unframeB x = (O, b, 0)) (h64 : x.length = 64) (hO : O.length = 60) (hOa : O.all isL = true) (hie : IsEnc (b64 (numT t)) c) (ht : errW t = 0)
    (h4 : 2 * ((List.range 20).filter (nrB (wd c) O)).length + (erasL O 20).length ≤ 4) (h : RdR x t' b' es er e) : e = 0 ∧ t' = t ∧ b' = b ∧ es = (List.range 20).filter (nrB (wd c) O) ∧ er = erasL O 20 := by
  have hd := diffs_nr (O := O) hO hOa (enc20 hie) hie.el
  have hu1 : (unframeB x).1 = O := by rw [hu]
  have hu2 : (unframeB x).2.1 = b := by rw [hu]
  have := rd_is h64 (by rw [hu]) (enc_20 hie) (by rw [hu1, hd]; exact h4) (pay_of ht hie) h
  rw [hu1, hu2, hd] at this
  exact this
theorem rd_err {x O t' : List UInt8} {es er : List Nat} {b b' : Bool} {e : Int} (hu : unframeB x = (O, b, 0)) (h64 : x.length = 64) (hO : O.length = 60) (hOa : O.all isL = true) (h0 : e ≠ 0) (h : RdR x t' b' es er e) : (e = 190 ∨ e = 220) ∧ t' = [] := by
  have hu1 : (unframeB x).1 = O := by rw [hu]
  cases h with
  | len h => exact absurd h64 h
  | ends _ he => rw [hu] at he; exact absurd rfl he
  | far _ _ hd h0 =>
    rw [hu1] at hd
    rcases dec_near hO hOa hd with ⟨h1, _⟩ | ⟨h1, _⟩
    · exact ⟨.inl h1, rfl⟩
    · exact absurd h1 h0
  | code => exact ⟨.inr rfl, rfl⟩
  | found => exact absurd rfl h0
theorem rd_near {x O t' : List UInt8} {es er : List Nat} {b b' : Bool} (hu : unframeB x = (O, b, 0)) (hO : O.length = 60) (hOa : O.all isL = true) (h : RdR x t' b' es er 0) :
    ∃ c, WrR t' (frm (wd c)) ∧ errW t' = 0 ∧ c.length = 20 ∧ El c ∧ b' = b ∧ es = diffs (nB (symsL O 20)) c (erasL O 20) ∧ er = erasL O 20 ∧ 2 * es.length + er.length ≤ 4 := by
  have hu1 : (unframeB x).1 = O := by rw [hu]
  have hu2 : (unframeB x).2.1 = b := by rw [hu]
  have hn : ∀ {e : Int} {c es : List Nat}, DecP (nB (readB O).1) (castI (readB O).2.1) e c es → e = 0 → Near (nB (symsL O 20)) (erasL O 20) c es := fun hd h0 => by
    rcases dec_near hO hOa hd with ⟨h1, _⟩ | ⟨_, _, h2⟩
    · omega
    · exact h2
  generalize h0 : (0 : Int) = e0 at h
  cases h with
  | len => cases h0
  | ends _ he => rw [hu] at he; exact absurd rfl he
  | far _ _ hd h1 => exact absurd h0.symm h1
  | code => cases h0
  | @found c _ _ _ _ hd hp =>
    rw [hu1] at hd
    have hN := hn hd rfl
    have hl : (nB (symsL O 20)).length = 20 := by rw [nB_len, syms_len]
    have hcode := hN.code
    rw [hl] at hcode
    have hc20 := hcode.len
    have h16 : (c.take 16).length = 16 := by rw [List.length_take]; omega
    have hlt : vb 64 0 (c.take 16) < 64 ^ 16 := by have := vb_lt (b := 64) (by decide) (hcode.el.take 16); rw [h16] at this; exact this
    have hpl := pay_len hlt hp
    have hew := errW_0 hpl hp.1
    have hb : b64 (numT t') = c.take 16 := by rw [hp.2]; exact b64_vb h16 (hcode.el.take 16)
    refine ⟨c, ⟨fun _ => ⟨c, isEnc_of (by rw [b64_len]; exact hcode) (by rw [b64_len, hb]), rfl⟩, fun h => absurd hew h⟩, hew, hc20, hcode.el, hu2, hN.told, by rw [hu1, read_60 hO hOa], ?_⟩
    rw [hu1, read_60 hO hOa]
    exact hN.bound
end Go.Proofs.Ytgjnchjkjdnidaa

/- Payloads with zeros ahead; two payloads and where their bars differ. -/
namespace Go.Proofs.Ytgjnchjkjdnidaa
open Go.RowKit
theorem fil_nodup (p : Nat → Bool) (n : Nat) : ((List.range n).filter p).Nodup := List.Pairwise.filter _ List.nodup_range
theorem fil_lt {p : Nat → Bool} {n : Nat} : ∀ a ∈ (List.range n).filter p, a < n := fun _ ha => List.mem_range.1 (List.mem_filter.1 ha).1
def difB (c d : List Nat) (i : Nat) : Bool := decide (cf c i ≠ cf d i)
theorem apart_ {l m c d : List Nat} (hl : l.length ≤ 59) (hm : m.length = l.length) (hc : IsEnc l c) (hd : IsEnc m d) :
    (l = m ∧ ((List.range c.length).filter (difB c d)).length = 0) ∨ (l ≠ m ∧ 5 ≤ ((List.range c.length).filter (difB c d)).length) := by
  have hC := enc_code hc
  have hD := enc_code hd
  rw [hm] at hD
  have hcl := hc.len
  have hdl := hd.len
  by_cases h4 : ((List.range c.length).filter (difB c d)).length ≤ 4
  · have e : c = d := code_uniq (by omega) hC hD (fil_nodup _ _) h4 (fun p hp => by have := fil_lt p hp; omega) fun i hi => by
      rcases Nat.lt_or_ge i c.length with h | h
      · exact Decidable.not_not.1 fun k => hi (List.mem_filter.2 ⟨List.mem_range.2 h, decide_eq_true k⟩)
      · rw [cf_none h, cf_none (by omega)]
    refine .inl ⟨?_, ?_⟩
    · have h1 := hc.pre
      have h2 := hd.pre
      rw [hm, ← e, h1] at h2
      exact h2
    · subst e
      rw [List.length_eq_zero_iff, List.filter_eq_nil_iff]
      intro i _
      unfold difB
      simp
  · refine .inr ⟨?_, by omega⟩
    rintro rfl
    have e : c = d := enc_uniq hl hc hD hd.pre
    subst e
    apply h4
    have : (List.range c.length).filter (difB c c) = [] := by
      rw [List.filter_eq_nil_iff]
      intro i _
      unfold difB
      simp
    rw [this]
    simp
abbrev encTx (t : List UInt8) : List Value := [.string ⟨t.toArray⟩]
theorem encTx_len (t : List UInt8) : (encTx t).length = 1 := rfl
def cz (a : List UInt8) (i : Nat) : List UInt8 := List.replicate (min i (28 - a.length)) 48 ++ a
theorem cz_zero (a : List UInt8) : cz a 0 = a := by unfold cz; rw [Nat.zero_min]; rfl
theorem cz_len {a : List UInt8} (i : Nat) (h : a.length ≤ 28) : (cz a i).length ≤ 28 := by unfold cz; rw [List.length_append, List.length_replicate]; omega
theorem cz_yes {a : List UInt8} {i : Nat} (h : (cz a i).length < 28) : cz a (i + 1) = [48] ++ cz a i := by
  unfold cz at h ⊢
  rw [List.length_append, List.length_replicate] at h
  rw [show min (i + 1) (28 - a.length) = min i (28 - a.length) + 1 by omega, List.replicate_succ]
  rfl
theorem cz_no {a : List UInt8} {i : Nat} (ha : a.length ≤ 28) (h : ¬ (cz a i).length < 28) : cz a (i + 1) = cz a i := by
  unfold cz at h ⊢
  rw [List.length_append, List.length_replicate] at h
  rw [show min (i + 1) (28 - a.length) = min i (28 - a.length) by omega]
theorem cz_ok {a : List UInt8} (i : Nat) (h : errW a = 0) : errW (cz a i) = 0 := by
  obtain ⟨h1, h2⟩ := errW_ok h
  refine errW_0 (cz_len i h1) ?_
  unfold cz
  rw [List.all_append, h2, Bool.and_true, List.all_eq_true]
  intro c hc
  rw [List.eq_of_mem_replicate hc]
  decide
def difX (X Y : List UInt8) (j : Nat) : Bool := decide (part X j ≠ part Y j)
theorem told_dif (X Y : List UInt8) (i : Nat) : ((List.range (i + 1)).filter (difX X Y)).length = ((List.range i).filter (difX X Y)).length + if difX X Y i then 1 else 0 := told_len _ _
theorem difX_B {c d : List Nat} (hc : c.length = 20) (hd : d.length = 20) (ec : El c) (ed : El d) : (List.range 20).filter (difX (wd c) (wd d)) = (List.range 20).filter (difB c d) := by
  refine List.filter_congr fun i hi => ?_
  have hi := List.mem_range.1 hi
  unfold difX difB
  have h1 := ec.cf i
  have h2 := ed.cf i
  rw [part_wd (by omega), part_wd (by omega), decide_eq_decide]
  constructor
  · intro h e; exact h (by rw [e])
  · intro h e
    apply h
    have := w3_inj (by rw [UInt8.toNat_ofNat_of_lt' (show cf c i < 256 by omega)]; exact h1) (by rw [UInt8.toNat_ofNat_of_lt' (show cf d i < 256 by omega)]; exact h2) e
    have := congrArg UInt8.toNat this
    rwa [UInt8.toNat_ofNat_of_lt' (show cf c i < 256 by omega), UInt8.toNat_ofNat_of_lt' (show cf d i < 256 by omega)] at this
theorem apart22 {a d : List UInt8} {ca cd : List Nat} (ha : errW a = 0) (hd : errW d = 0) (ia : IsEnc (b64 (numT a)) ca) (id : IsEnc (b64 (numT d)) cd) :
    (a = d ∧ ((List.range 20).filter (difX (wd ca) (wd cd))).length = 0) ∨ (a ≠ d ∧ 5 ≤ ((List.range 20).filter (difX (wd ca) (wd cd))).length) := by
  rw [difX_B (enc20 ia) (enc20 id) ia.el id.el]
  have h := apart_ (by rw [b64_len]; decide) (by rw [b64_len, b64_len]) ia id
  rw [enc20 ia] at h
  obtain ⟨a1, a2⟩ := errW_ok ha
  obtain ⟨d1, d2⟩ := errW_ok hd
  rcases h with ⟨h1, h2⟩ | ⟨h1, h2⟩
  · refine .inl ⟨numT_inj a2 d2 ?_, h2⟩
    rw [← vb_b64 (numT_64 a2 a1), ← vb_b64 (numT_64 d2 d1), h1]
  · exact .inr ⟨fun e => h1 (by rw [e]), h2⟩
theorem nr_self (X : List UInt8) : (List.range 20).filter (nrB X X) = [] := by
  rw [List.filter_eq_nil_iff]
  intro i _
  unfold nrB
  simp
theorem wd_clear {c : List Nat} (hc : c.length = 20) (he : El c) : erasL (wd c) 20 = [] := by
  unfold erasL
  rw [List.filter_eq_nil_iff]
  intro i hi
  have hi := List.mem_range.1 hi
  have hb : (bN c)[i]? = some (UInt8.ofNat (cf c i)) := by unfold bN; rw [List.getElem?_map, getElem?_cf (by omega)]; rfl
  have h1 := he.cf i
  have := (read_w3 hb (by rw [UInt8.toNat_ofNat_of_lt' (show cf c i < 256 by omega)]; exact h1)).1
  show ¬ unc (wd c) i = true
  unfold wd
  rw [this]
  decide
theorem rd_self {t : List UInt8} {c : List Nat} (hie : IsEnc (b64 (numT t)) c) (ht : errW t = 0) {t' : List UInt8} {b' : Bool} {es er : List Nat} {e : Int} (h : RdR (frm (wd c)) t' b' es er e) : e = 0 ∧ t' = t ∧ b' = false ∧ es = [] ∧ er = [] := by
  have hc := enc20 hie
  have h60 : (wd c).length = 60 := by rw [wd_len, hc]
  have hcl := wd_clear hc hie.el
  have := rd_hit (frm_up (wd_all c) (by omega)) (by rw [frm_len, h60]) h60 (wd_all c) hie ht (by rw [nr_self, hcl]; decide) h
  rw [nr_self, hcl] at this
  exact this
theorem brd_self (w : World) {t : List UInt8} {c : List Nat} (hie : IsEnc (b64 (numT t)) c) (ht : errW t = 0) :
    Ret Try.prog 16 [.string ⟨(frm (wd c)).toArray⟩] w (fun v w' => ∃ A B C D, v = .tuple #[.agg ([.string ⟨t.toArray⟩, .bool false, .slice A 0 B, .slice C 0 D] : List Value).toArray, .int .i64 0] ∧ Own w' w.heap.size 3 1 encZ (.slice A 0 B) [] ∧ Own w' w.heap.size 3 1 encZ (.slice C 0 D) [] ∧ Ex w w') := by
  refine (brd_ret (frm (wd c)) w).mono ?_
  rintro v w' ⟨t', b', y, z, es', er', e, rfl, hy, hz, hrd, hx⟩
  obtain ⟨rfl, rfl, rfl, rfl, rfl⟩ := rd_self hie ht hrd
  obtain ⟨A, B, rfl⟩ := hy.shape
  obtain ⟨C, D, rfl⟩ := hz.shape
  exact ⟨A, B, C, D, rfl, hy, hz, hx⟩
/-- Texts that have been written, one after the other. -/
def Wrn (D X : List (List UInt8)) (i : Nat) : Prop := ∀ j d, j < i → D[j]? = some d → ∃ c, IsEnc (b64 (numT d)) c ∧ X[j]? = some (frm (wd c))
theorem wrn_zero (D X : List (List UInt8)) : Wrn D X 0 := fun j d h => absurd h (by omega)
theorem wrn_more {D X : List (List UInt8)} {i : Nat} {d : List UInt8} {c : List Nat} (h : Wrn D X i) (hi : i < X.length) (hx : D[i]? = some d) (hc : IsEnc (b64 (numT d)) c) : Wrn D (X.set i (frm (wd c))) (i + 1) := fun j e hj he => by
  rcases Nat.lt_or_ge j i with h1 | h1
  · obtain ⟨c', a, b⟩ := h j e h1 he
    exact ⟨c', a, by rw [List.getElem?_set_ne (by omega)]; exact b⟩
  · obtain rfl : j = i := by omega
    rw [hx] at he
    injection he with he
    subst he
    exact ⟨c, hc, by rw [List.getElem?_set_self hi]⟩
end Go.Proofs.Ytgjnchjkjdnidaa

/- Walks (UO2). Written by program. -/
namespace Go.Proofs.Ytgjnchjkjdnidaa
open Go.RowKit
set_option maxRecDepth 100000 in
set_option maxHeartbeats 8000000 in
theorem barcodeApart_ret (u v0 : Value) (l m : List Nat) (z : Nat) (w : World) (hl : RdL w 1 encN u l) (hb : ∀ a ∈ l, a < 256) (hm : RdL w 1 encN v0 m) (hb2 : ∀ a ∈ m, a < 256) (hz : z < 256) :
    Ret Try.prog 6 [u, v0, .int .u8 (z : Int)] w (fun v w' => v = .bool true ∧ Ex w w') := by
  obtain ⟨lA, lC, rfl⟩ := hl.shape
  obtain ⟨mA, mC, rfl⟩ := hm.shape
  have hao := digs_ok l
  have hbo := digs_ok m
  have hB0 : Ex w w := Ex.rfl_ _
  refine Ret.of Try.func6 rfl Try.ntmps6 rfl ?_
  refine CW.seq ?_
  refine CW.region ?_
  refine RG.vl rfl rfl rfl (Ev.assign rfl rfl) ?_
  refine RG.done ?_
  refine QW.then_ ?_
  refine CW.seq ?_
  refine CW.region ?_
  refine RG.vl rfl rfl rfl (Ev.move rfl rfl) ?_
  refine RG.call rfl rfl rfl rfl rfl rfl rfl en_8 (digits_ret _ l _ ((hl)) hb) ?_
  rintro _ w1 ⟨rfl, hx1⟩
  have hE2 := hx1
  refine RG.vl rfl rfl rfl (Ev.move rfl rfl) ?_
  refine RG.call rfl rfl rfl rfl rfl rfl rfl en_8 (digits_ret _ m _ ((hm.ext hE2)) hb2) ?_
  rintro _ w3 ⟨rfl, hx3⟩
  replace hE2 := Ex.tr hE2 hx3
  have hE4 := hx3
  refine RG.vl rfl rfl rfl (Ev.assign rfl rfl) ?_
  refine RG.vl rfl rfl rfl (Ev.assign rfl rfl) ?_
  refine RG.done ?_
  refine QW.then_ ?_
  refine CW.seq ?_
  generalize digs l = a at *
  generalize digs m = b at *
  obtain ⟨ha28, _⟩ := errW_ok hao
  obtain ⟨hb28, _⟩ := errW_ok hbo
  refine CW.region ?_
  refine RG.vl rfl rfl rfl (Ev.move rfl rfl) ?_
  refine RG.vl rfl rfl rfl (Ev.assign rfl rfl) ?_
  refine RG.done ?_
  refine QW.then_ ?_
  refine CW.seq ?_
  refine CW.seq ?_
  refine CW.region ?_
  refine RG.vl rfl rfl rfl (Ev.move rfl rfl) ?_
  refine RG.vl rfl rfl rfl ((Ev.rem8 rfl rfl rfl (by omega)).conv (congrArg (Value.int .u8) (show (z : Int) % 29 = ((z % 29 : Nat) : Int) by omega))) ?_
  refine RG.vl rfl rfl rfl (Ev.move rfl rfl) ?_
  refine RG.done ?_
  refine QW.then_ ?_
  refine CW.block ?_
  replace hl := (hl.ext hE2)
  replace hm := (hm.ext hE2)
  have hR5 := (Ex.tr hB0 hE2)
  have hR6 := hE4
  refine CW.loop1 [(6, _), (7, _), (8, _), (27, _)] ⟨rfl, rfl, rfl, rfl, trivial⟩ (fun (i : Nat) => [(28, .int .u8 (i : Int)), (9, .string ⟨(cz a i).toArray⟩)]) (fun i w' => (i ≤ z % 29) ∧ Ex w3 w') (fun i => z % 29 - i) (0) ⟨rfl, by rw [cz_zero]; rfl, trivial⟩ ⟨Nat.zero_le _, (Ex.rfl_ _)⟩ ?_
  rintro i wl7 ⟨hi, hxwl7⟩
  refine CW.sub (S' := [(28, _), (9, _), (6, _), (7, _), (8, _), (27, _)]) ⟨rfl, rfl, rfl, rfl, rfl, rfl, trivial⟩ ?_
  refine CW.seq ?_
  refine CW.region ?_
  refine RG.vl rfl rfl rfl (Ev.lss rfl rfl rfl) ?_
  refine RG.done ?_
  refine QW.then_ ?_
  refine CW.seq ?_
  refine CW.condP rfl (fun hc8 => ?_) (fun hc8 => ?_)
  · refine CW.skip ?_
    refine QW.then_ ?_
    refine CW.seq ?_
    refine CW.block ?_
    refine CW.seq ?_
    have hcl := cz_len i ha28
    have hcs := sb_len (cz a i)
    refine CW.region ?_
    refine RG.vl rfl rfl rfl (Ev.move rfl rfl) ?_
    refine RG.vl rfl rfl rfl (Ev.lenStr rfl rfl rfl Try.underlying9) ?_
    refine RG.vl rfl rfl rfl (Ev.lss rfl rfl rfl) ?_
    refine RG.done ?_
    refine QW.then_ ?_
    refine CW.condP rfl (fun hc9 => ?_) (fun hc9 => ?_)
    · refine CW.region ?_
      refine RG.vl rfl rfl rfl (Ev.move rfl rfl) ?_
      refine RG.vl rfl rfl rfl ((Ev.cat rfl rfl rfl (by rw [hcs]; show 1 + _ ≤ _; omega)).conv (congrArg Value.string (bx_cat [48] (cz a i)))) ?_
      refine RG.vl rfl rfl rfl (Ev.assign rfl rfl) ?_
      refine RG.done ?_
      refine QW.blockN ?_
      refine QW.then_ ?_
      refine CW.region ?_
      refine RG.vl rfl rfl rfl (Ev.add8 rfl rfl rfl (by omega)) ?_
      refine RG.vl rfl rfl rfl (Ev.move rfl rfl) ?_
      refine RG.done ?_
      refine QW.round1 (i + 1) ⟨rfl, by rw [cz_yes (by omega)]; rfl, trivial⟩ ⟨rfl, rfl, rfl, rfl, trivial⟩ ⟨by omega, hxwl7⟩ (by omega)
    · refine CW.skip ?_
      refine QW.blockN ?_
      refine QW.then_ ?_
      refine CW.region ?_
      refine RG.vl rfl rfl rfl (Ev.add8 rfl rfl rfl (by omega)) ?_
      refine RG.vl rfl rfl rfl (Ev.move rfl rfl) ?_
      refine RG.done ?_
      refine QW.round1 (i + 1) ⟨rfl, by rw [cz_no ha28 (by omega)]; rfl, trivial⟩ ⟨rfl, rfl, rfl, rfl, trivial⟩ ⟨by omega, hxwl7⟩ (by omega)
  · refine CW.exit ?_
    refine QW.thenExit ?_
    refine QW.thenExit ?_
    refine QW.blockHit ?_
    refine QW.then_ ?_
    refine CW.seq ?_
    obtain rfl : i = z % 29 := by omega
    have hco := cz_ok (z % 29) hao
    have hDo : ∀ d ∈ [a, b, (cz a (z % 29))], errW d = 0 := by simp [hao, hbo, hco]
    have hD3 : ([a, b, (cz a (z % 29))]).length = 3 := rfl
    have hD22 : ([b, (cz a (z % 29))]).length = 2 := rfl
    refine CW.region ?_
    replace hl := (hl.ext hxwl7)
    replace hm := (hm.ext hxwl7)
    have hR13 := (Ex.tr hR5 hxwl7)
    have hR14 := (Ex.tr hR6 hxwl7)
    have hR15 := hxwl7
    refine RG.makeO (m := 3) (enc := encTx) [] rfl rfl rfl rfl rfl rfl (rfl) Try.underlying57 inf_9 encTx_len rfl rfl (by omega) (by simp only [maxLen]; omega) (fun vT wk10 hxwk10 hown11 hnew12 => ?_)
    have hE16 := hxwk10
    refine RG.vl rfl rfl rfl (Ev.assign rfl rfl) ?_
    refine RG.done ?_
    refine QW.then_ ?_
    refine CW.seq ?_
    refine CW.seq ?_
    refine CW.region ?_
    refine RG.vl rfl rfl rfl (Ev.move rfl rfl) ?_
    refine RG.vl rfl rfl rfl (Ev.move rfl rfl) ?_
    refine RG.vl rfl rfl rfl (Ev.move rfl rfl) ?_
    refine RG.litO (os := [.tmp 37, .tmp 38, .tmp 39]) (enc := encTx) ([a, b, (cz a (z % 29))]) rfl rfl rfl rfl rfl rfl rfl Try.underlying57 inf_9 rfl rfl rfl rfl rfl encTx_len rfl rfl (fun vD wk17 hxwk17 hown18 hnew19 => ?_)
    have hsep20 : Sep vD _ := Sep.of_new hown11 hnew19
    replace hown18 := Own.low (B' := wl7.heap.size) hown18 (by have := hE16.size; omega)
    replace hE16 := Ex.tr hE16 hxwk17
    have hE21 := hxwk17
    refine RG.vl rfl rfl rfl (Ev.lenL rfl rfl rfl Try.underlying57 ((hown18.rdl encTx_len))) ?_
    refine RG.vl rfl rfl rfl (Ev.move rfl rfl) ?_
    refine RG.done ?_
    refine QW.then_ ?_
    refine CW.block ?_
    refine CW.loop2 [(7, _), (8, _), (9, _), (10, _), (40, _), (41, _)] ⟨rfl, rfl, rfl, rfl, rfl, rfl, trivial⟩ (fun (i : Nat) (X : List (List UInt8)) => [(42, .int .i64 (i : Int))]) (fun i X w' => (i ≤ 3 ∧ X.length = 3 ∧ Wrn [a, b, (cz a (z % 29))] X i ∧ Own w' wl7.heap.size 9 1 encTx vT X ∧ Own w' wl7.heap.size 9 1 encTx vD [a, b, (cz a (z % 29))] ∧ Sep vT vD) ∧ Ex wl7 w') (fun i X => 3 - i) (0) (_) ⟨rfl, trivial⟩ ⟨⟨by omega, List.length_replicate, wrn_zero _ _, (Own.ext hown11 hE21), hown18, (Sep.symm hsep20)⟩, hE16⟩ ?_
    rintro i X wl22 ⟨⟨hi, hXl, hX, hT, hD, hsp⟩, hxwl22⟩
    refine CW.sub (S' := [(42, _), (7, _), (8, _), (9, _), (10, _), (40, _), (41, _)]) ⟨rfl, rfl, rfl, rfl, rfl, rfl, rfl, trivial⟩ ?_
    refine CW.seq ?_
    refine CW.region ?_
    refine RG.vl rfl rfl rfl (Ev.lss rfl rfl rfl) ?_
    refine RG.done ?_
    refine QW.then_ ?_
    refine CW.seq ?_
    refine CW.condP rfl (fun hc23 => ?_) (fun hc23 => ?_)
    · refine CW.skip ?_
      refine QW.then_ ?_
      refine CW.seq ?_
      refine CW.block ?_
      refine CW.seq ?_
      obtain ⟨d, hx⟩ : ∃ d, ([a, b, (cz a (z % 29))])[i]? = some d := ⟨_, List.getElem?_eq_getElem (by show i < 3; omega)⟩
      have hdo := hDo d (List.mem_of_getElem? hx)
      obtain ⟨hd28, _⟩ := errW_ok hdo
      refine CW.region ?_
      refine RG.vl rfl rfl rfl (Ev.move rfl rfl) ?_
      refine RG.idxO rfl rfl rfl rfl rfl rfl Try.underlying57 sz_9 encTx_len (hD) (hx) (fun g25 hg25 hBg25 hp24b hp24 => ?_)
      refine RG.vl rfl rfl rfl (Ev.ld0 rfl rfl Try.underlying9 rfl (hp24) (rfl)) ?_
      refine RG.vl rfl rfl rfl (Ev.assign rfl rfl) ?_
      refine RG.vl rfl rfl rfl (Ev.assign rfl rfl) ?_
      refine RG.done ?_
      refine QW.then_ ?_
      refine CW.seq ?_
      refine CW.region ?_
      refine RG.vl rfl rfl rfl (Ev.move rfl rfl) ?_
      refine RG.call rfl rfl rfl rfl rfl rfl rfl en_13 (wrD_ret _ hdo (by omega)) ?_
      rintro _ w26 ⟨c, hie, rfl, hx26⟩
      replace hxwl22 := Ex.tr hxwl22 hx26
      have hE27 := hx26
      refine RG.vl rfl rfl rfl (Ev.move rfl rfl) ?_
      refine RG.vl rfl rfl rfl (Ev.extract rfl rfl rfl) ?_
      refine RG.vl rfl rfl rfl (Ev.extract rfl rfl rfl) ?_
      refine RG.vl rfl rfl rfl (Ev.assign rfl rfl) ?_
      refine RG.vl rfl rfl rfl (Ev.assign rfl rfl) ?_
      refine RG.done ?_
      refine QW.then_ ?_
      refine CW.seq ?_
      refine CW.region ?_
      refine RG.vl rfl rfl rfl (Ev.move rfl rfl) ?_
      refine RG.call rfl rfl rfl rfl rfl rfl rfl en_16 (brd_self _ hie hdo) ?_
      have hpre28 := (Ex.tr hR13 hxwl22)
      rintro _ w28 ⟨A1, B1, C1, D1, rfl, hoy1, hoz1, hx28⟩
      have hsep29 : Sep (Value.slice A1 0 B1) _ := Sep.of_new (Own.ext hT hE27) (fun k h => Own.ge hoy1 h)
      have hsep30 : Sep (Value.slice A1 0 B1) _ := Sep.of_new (Own.ext hD hE27) (fun k h => Own.ge hoy1 h)
      have hsep31 : Sep (Value.slice C1 0 D1) _ := Sep.of_new (Own.ext hT hE27) (fun k h => Own.ge hoz1 h)
      have hsep32 : Sep (Value.slice C1 0 D1) _ := Sep.of_new (Own.ext hD hE27) (fun k h => Own.ge hoz1 h)
      replace hxwl22 := Ex.tr hxwl22 hx28
      replace hE27 := Ex.tr hE27 hx28
      have hE33 := hx28
      refine RG.vl rfl rfl rfl (Ev.move rfl rfl) ?_
      refine RG.vl rfl rfl rfl (Ev.extract rfl rfl rfl) ?_
      refine RG.vl rfl rfl rfl (Ev.extract rfl rfl rfl) ?_
      refine RG.local_ rfl rfl rfl rfl (fun _ => rfl) rfl rfl (fun _ => rfl) inf_43 rfl rfl rfl (fun gX w34 egX hx34 hb34 => ?_)
      have hsb35 := fun e => sep_new (g := gX) (Own.ext hT hE27) egX e
      have hsb36 := fun e => sep_new (g := gX) (Own.ext hD hE27) egX e
      have hsb37 := fun e => sep_new (g := gX) hoy1 egX e
      have hsb38 := fun e => sep_new (g := gX) hoz1 egX e
      have hle39 : wl7.heap.size ≤ gX := by have := hxwl22.size; omega
      have hle40 : wl22.heap.size ≤ gX := by have := hE27.size; omega
      have hle41 : w26.heap.size ≤ gX := by have := hE33.size; omega
      have hle42 : w28.heap.size ≤ gX := by have := (Ex.rfl_ w28).size; omega
      replace hxwl22 := Ex.tr hxwl22 hx34
      replace hE27 := Ex.tr hE27 hx34
      replace hE33 := Ex.tr hE33 hx34
      have hE43 := hx34
      refine RG.vl rfl rfl rfl (Ev.assign rfl rfl) ?_
      refine RG.done ?_
      refine QW.sub (S' := [(7, _), (8, _), (9, _), (10, _), (11, _), (12, _), (13, _), (14, _), (15, _), (16, _), (40, _), (41, _), (42, _)]) ⟨rfl, rfl, rfl, rfl, rfl, rfl, rfl, rfl, rfl, rfl, rfl, rfl, rfl, trivial⟩ ?_
      refine QW.then_ ?_
      refine CW.seq ?_
      refine CW.seq ?_
      have hn0 : ([] : List Nat).length = 0 := rfl
      have hfs := sb_len (frm (wd c))
      have hf64 : (frm (wd c)).length = 64 := by rw [frm_len, wd_len, enc20 hie]
      refine CW.region ?_
      refine RG.vl rfl rfl rfl (Ev.move rfl rfl) ?_
      refine RG.vl rfl rfl rfl (Ev.isF (Ev.neI rfl rfl rfl) (fun h => h rfl)) ?_
      refine RG.vl rfl rfl rfl (Ev.move rfl rfl) ?_
      refine RG.vl rfl rfl rfl (Ev.move rfl rfl) ?_
      refine RG.vl rfl rfl rfl (Ev.isF (Ev.neI rfl rfl rfl) (fun h => h rfl)) ?_
      refine RG.vl rfl rfl rfl (Ev.pickF rfl rfl rfl) ?_
      refine RG.vl rfl rfl rfl (Ev.move rfl rfl) ?_
      refine RG.vl rfl rfl rfl (Ev.fld rfl rfl fld_43_0) ?_
      refine RG.vl rfl rfl rfl (Ev.ldAt rfl rfl Try.underlying9 rfl (hb34.cells) (rfl)) ?_
      refine RG.vl rfl rfl rfl (Ev.move rfl rfl) ?_
      refine RG.vl rfl rfl rfl (Ev.isF (Ev.neS rfl rfl rfl) (fun h => h rfl)) ?_
      refine RG.vl rfl rfl rfl (Ev.pickF rfl rfl rfl) ?_
      refine RG.vl rfl rfl rfl (Ev.move rfl rfl) ?_
      refine RG.vl rfl rfl rfl (Ev.move rfl rfl) ?_
      refine RG.vl rfl rfl rfl (Ev.lenStr rfl rfl rfl Try.underlying9) ?_
      refine RG.vl rfl rfl rfl (Ev.isF (Ev.neI rfl rfl rfl) (fun h => h (by omega))) ?_
      refine RG.vl rfl rfl rfl (Ev.pickF rfl rfl rfl) ?_
      refine RG.vl rfl rfl rfl (Ev.move rfl rfl) ?_
      refine RG.vl rfl rfl rfl (Ev.fld rfl rfl fld_43_2) ?_
      refine RG.vl rfl rfl rfl (Ev.ldAt rfl rfl Try.underlying41 rfl (hb34.cells) (rfl)) ?_
      refine RG.vl rfl rfl rfl (Ev.lenL rfl rfl rfl Try.underlying41 (((Own.ext hoy1 hE43).rdl encZ_len))) ?_
      refine RG.vl rfl rfl rfl (Ev.fld rfl rfl fld_43_3) ?_
      refine RG.vl rfl rfl rfl (Ev.ldAt rfl rfl Try.underlying41 rfl (hb34.cells) (rfl)) ?_
      refine RG.vl rfl rfl rfl (Ev.lenL rfl rfl rfl Try.underlying41 (((Own.ext hoz1 hE43).rdl encZ_len))) ?_
      refine RG.vl rfl rfl rfl (Ev.addI rfl rfl rfl (by omega)) ?_
      refine RG.vl rfl rfl rfl (Ev.isF (Ev.neI rfl rfl rfl) (fun h => h rfl)) ?_
      refine RG.vl rfl rfl rfl (Ev.pickF rfl rfl rfl) ?_
      refine RG.vl rfl rfl rfl (Ev.move rfl rfl) ?_
      refine RG.vl rfl rfl rfl (Ev.fld rfl rfl fld_43_1) ?_
      refine RG.vl rfl rfl rfl (Ev.ldAt rfl rfl Try.underlying4 rfl (hb34.cells) (rfl)) ?_
      refine RG.vl rfl rfl rfl (Ev.pickF rfl rfl rfl) ?_
      refine RG.done ?_
      refine QW.sub (S' := [(7, _), (8, _), (9, _), (10, _), (11, _), (13, _), (40, _), (41, _), (42, _), (87, _)]) ⟨rfl, rfl, rfl, rfl, rfl, rfl, rfl, rfl, rfl, rfl, trivial⟩ ?_
      refine QW.then_ ?_
      refine CW.condF rfl ?_
      refine CW.skip ?_
      refine QW.then_ ?_
      refine CW.region ?_
      refine RG.vl rfl rfl rfl (Ev.move rfl rfl) ?_
      refine RG.vl rfl rfl rfl (Ev.move rfl rfl) ?_
      refine RG.vl rfl rfl rfl (Ev.move rfl rfl) ?_
      refine RG.idxO rfl rfl rfl rfl rfl rfl Try.underlying57 sz_9 encTx_len ((Own.ext hT hE27)) ((List.getElem?_eq_getElem (show i < X.length by omega))) (fun g45 hg45 hBg45 hp44b hp44 => ?_)
      refine RG.stOw0 (g := g45) (frm (wd c)) rfl rfl rfl rfl rfl sz_9 rfl (fun _ => rfl) (Own.ext hT hE27) hg45 ((List.getElem?_eq_getElem (show i < X.length by omega))) rfl (rfl) (fun ws46 hwws46 hown47 => ?_)
      replace hD := Own.far (Own.ext hD hE27) hwws46 (fun e => hsp _ hg45 e)
      replace hoy1 := Own.far (Own.ext hoy1 hE43) hwws46 (fun e => (Sep.symm hsep29) _ hg45 e)
      replace hoz1 := Own.far (Own.ext hoz1 hE43) hwws46 (fun e => (Sep.symm hsep31) _ hg45 e)
      replace hb34 := Blk.far hb34 hwws46 (fun e => hsb35 (by rw [e]; exact hg45))
      replace hxwl22 := Wr.below hxwl22 hwws46 hBg45
      refine RG.done ?_
      refine QW.blockN ?_
      refine QW.then_ ?_
      refine CW.region ?_
      refine RG.vl rfl rfl rfl (Ev.addI rfl rfl rfl (by omega)) ?_
      refine RG.vl rfl rfl rfl (Ev.move rfl rfl) ?_
      refine RG.done ?_
      refine QW.round2 (i + 1) (_) ⟨rfl, trivial⟩ ⟨rfl, rfl, rfl, rfl, rfl, rfl, trivial⟩ ⟨⟨by omega, by rw [List.length_set]; exact hXl, wrn_more hX (by omega) hx hie, hown47, hD, hsp⟩, hxwl22⟩ (by omega)
    · refine CW.exit ?_
      refine QW.thenExit ?_
      refine QW.thenExit ?_
      refine QW.blockHit ?_
      refine QW.then_ ?_
      refine CW.seq ?_
      refine CW.seq ?_
      obtain rfl : i = 3 := by omega
      obtain ⟨ca, hca, hXa⟩ := hX 0 a (by omega) rfl
      obtain ⟨cb, hcb, hXb⟩ := hX 1 b (by omega) rfl
      obtain ⟨cc, hcc, hXc⟩ := hX 2 (cz a (z % 29)) (by omega) rfl
      have hfa : (frm (wd ca)).length = 64 := by rw [frm_len, wd_len, enc20 hca]
      have hsa := sb_len (frm (wd ca))
      refine CW.region ?_
      refine RG.vl rfl rfl rfl (Ev.move rfl rfl) ?_
      refine RG.vl rfl rfl rfl (Ev.move rfl rfl) ?_
      refine RG.litO (os := [.tmp 93, .tmp 94]) (enc := encTx) ([b, (cz a (z % 29))]) rfl rfl rfl rfl rfl rfl rfl Try.underlying57 inf_9 rfl rfl rfl rfl rfl encTx_len rfl rfl (fun v48 wk49 hxwk49 hown50 hnew51 => ?_)
      have hsep52 : Sep v48 _ := Sep.of_new hT hnew51
      have hsep53 : Sep v48 _ := Sep.of_new hD hnew51
      replace hxwl22 := Ex.tr hxwl22 hxwk49
      have hE54 := hxwk49
      refine RG.vl rfl rfl rfl (Ev.lenL rfl rfl rfl Try.underlying57 ((hown50.rdl encTx_len))) ?_
      refine RG.vl rfl rfl rfl (Ev.move rfl rfl) ?_
      refine RG.done ?_
      refine QW.then_ ?_
      refine CW.block ?_
      replace hl := (hl.ext hxwl22)
      replace hm := (hm.ext hxwl22)
      replace hT := (Own.ext hT hE54)
      replace hD := (Own.ext hD hE54)
      have hR55 := (Ex.tr hR13 hxwl22)
      have hR56 := (Ex.tr hR14 hxwl22)
      have hR57 := (Ex.tr hR15 hxwl22)
      have hR58 := hxwl22
      have hR59 := hE54
      refine CW.loop1 [(7, _), (10, _), (95, _), (96, _)] ⟨rfl, rfl, rfl, rfl, trivial⟩ (fun (i : Nat) => [(97, .int .i64 (i : Int))]) (fun i w' => (i ≤ 2) ∧ Ex wk49 w') (fun i => 2 - i) (0) ⟨rfl, trivial⟩ ⟨Nat.zero_le _, (Ex.rfl_ _)⟩ ?_
      rintro i wl60 ⟨hi, hxwl60⟩
      refine CW.sub (S' := [(97, _), (7, _), (10, _), (95, _), (96, _)]) ⟨rfl, rfl, rfl, rfl, rfl, trivial⟩ ?_
      refine CW.seq ?_
      refine CW.region ?_
      refine RG.vl rfl rfl rfl (Ev.lss rfl rfl rfl) ?_
      refine RG.done ?_
      refine QW.then_ ?_
      refine CW.seq ?_
      refine CW.condP rfl (fun hc61 => ?_) (fun hc61 => ?_)
      · refine CW.skip ?_
        refine QW.then_ ?_
        refine CW.seq ?_
        refine CW.block ?_
        refine CW.seq ?_
        obtain ⟨d, cd, hx2, hie2, hX2, hdd⟩ : ∃ d cd, ([b, (cz a (z % 29))])[i]? = some d ∧ IsEnc (b64 (numT d)) cd ∧ X[i + 1]? = some (frm (wd cd)) ∧ errW d = 0 := by
          rcases (show i = 0 ∨ i = 1 by omega) with rfl | rfl
          · exact ⟨b, cb, rfl, hcb, hXb, hbo⟩
          · exact ⟨_, cc, rfl, hcc, hXc, hco⟩
        have hfd : (frm (wd cd)).length = 64 := by rw [frm_len, wd_len, enc20 hie2]
        have hsd := sb_len (frm (wd cd))
        have hwa : (wd ca).length = 60 := by rw [wd_len, enc20 hca]
        have hwd : (wd cd).length = 60 := by rw [wd_len, enc20 hie2]
        refine CW.region ?_
        refine RG.vl rfl rfl rfl (Ev.move rfl rfl) ?_
        refine RG.idxO rfl rfl rfl rfl rfl rfl Try.underlying57 sz_9 encTx_len ((Own.ext hown50 hxwl60)) (hx2) (fun g63 hg63 hBg63 hp62b hp62 => ?_)
        refine RG.vl rfl rfl rfl (Ev.ld0 rfl rfl Try.underlying9 rfl (hp62) (rfl)) ?_
        refine RG.vl rfl rfl rfl (Ev.assign rfl rfl) ?_
        refine RG.vl rfl rfl rfl (Ev.assign rfl rfl) ?_
        refine RG.done ?_
        refine QW.then_ ?_
        refine CW.seq ?_
        refine CW.region ?_
        refine RG.vl rfl rfl rfl (Ev.assign rfl rfl) ?_
        refine RG.done ?_
        refine QW.then_ ?_
        refine CW.seq ?_
        refine CW.seq ?_
        refine CW.region ?_
        refine RG.vl rfl rfl rfl (Ev.assign rfl rfl) ?_
        refine RG.done ?_
        refine QW.then_ ?_
        refine CW.block ?_
        replace hl := (hl.ext hxwl60)
        replace hm := (hm.ext hxwl60)
        replace hT := (Own.ext hT hxwl60)
        replace hD := (Own.ext hD hxwl60)
        replace hown50 := (Own.ext hown50 hxwl60)
        have hR64 := (Ex.tr hR55 hxwl60)
        have hR65 := (Ex.tr hR56 hxwl60)
        have hR66 := (Ex.tr hR57 hxwl60)
        have hR67 := (Ex.tr hR58 hxwl60)
        have hR68 := (Ex.tr hR59 hxwl60)
        have hR69 := hxwl60
        refine CW.loop1 [(7, _), (10, _), (17, _), (18, _), (95, _), (96, _), (97, _)] ⟨rfl, rfl, rfl, rfl, rfl, rfl, rfl, trivial⟩ (fun (j : Nat) => [(20, .int .i64 ((2 + 3 * j : Nat) : Int)), (19, .int .i64 ((((List.range j).filter (difX (wd ca) (wd cd))).length : Nat) : Int))]) (fun j w' => (j ≤ 20) ∧ Ex wl60 w') (fun j => 20 - j) (0) ⟨rfl, rfl, trivial⟩ ⟨Nat.zero_le _, (Ex.rfl_ _)⟩ ?_
        rintro j wl70 ⟨hj, hxwl70⟩
        refine CW.sub (S' := [(20, _), (19, _), (7, _), (10, _), (17, _), (18, _), (95, _), (96, _), (97, _)]) ⟨rfl, rfl, rfl, rfl, rfl, rfl, rfl, rfl, rfl, trivial⟩ ?_
        refine CW.seq ?_
        refine CW.seq ?_
        refine CW.region ?_
        refine RG.vl rfl rfl rfl (Ev.move rfl rfl) ?_
        refine RG.vl rfl rfl rfl (Ev.lss rfl rfl rfl) ?_
        refine RG.done ?_
        refine QW.then_ ?_
        refine CW.condP rfl (fun hc71 => ?_) (fun hc71 => ?_)
        · refine CW.skip ?_
          refine QW.then_ ?_
          refine CW.seq ?_
          refine CW.block ?_
          refine CW.seq ?_
          have htn := told_dif (wd ca) (wd cd) j
          have hfl := List.length_filter_le (difX (wd ca) (wd cd)) (List.range j)
          rw [List.length_range] at hfl
          refine CW.draw [] (.ex) 17 rfl mixed (fun wd72 hxwd72 => ?_)
          replace hxwl70 := Ex.tr hxwl70 hxwd72
          have hE73 := hxwd72
          refine AG.takeW 0 rfl (by kernel_rfl) (by kernel_rfl) rfl rfl rfl (fun _ => Ev.move rfl rfl) ?_
          refine AG.idxO (ix := 0) _ 1 rfl (by kernel_rfl) (by kernel_rfl) rfl rfl rfl rfl rfl rfl Try.underlying57 sz_9 encTx_len ((Own.ext hT hxwl70)) (hXa) (fun g75 hg75 hBg75 hp74b hp74 => ?_)
          refine AG.take 2 rfl (by kernel_rfl) (by kernel_rfl) rfl rfl rfl (fun wq hq => Ev.ld0 rfl rfl Try.underlying9 rfl (hp74.ext hq hp74b) (rfl)) ?_
          refine AG.takeW 3 rfl (by kernel_rfl) (by kernel_rfl) rfl rfl rfl (fun _ => Ev.move rfl rfl) ?_
          refine AG.takeW 4 rfl (by kernel_rfl) (by kernel_rfl) rfl rfl rfl (fun _ => Ev.move rfl rfl) ?_
          refine AG.takeW 5 rfl (by kernel_rfl) (by kernel_rfl) rfl rfl rfl (fun _ => (Ev.addI rfl rfl rfl (by omega)).conv (congrArg (Value.int .i64) (show ((2 + 3 * j : Nat) : Int) + 3 = ((5 + 3 * j : Nat) : Int) by omega))) ?_
          refine AG.takeW 6 rfl (by kernel_rfl) (by kernel_rfl) rfl rfl rfl (fun _ => (Ev.cutStr (i := 2 + 3 * j) (j := 5 + 3 * j) rfl rfl Try.underlying9 rfl rfl (by omega) (by omega)).conv (congrArg Value.string ((bx_cut (frm (wd ca)) (2 + 3 * j) (5 + 3 * j)).trans (by rw [frm_part (by omega)])))) ?_
          refine AG.takeW 7 rfl (by kernel_rfl) (by kernel_rfl) rfl rfl rfl (fun _ => Ev.move rfl rfl) ?_
          refine AG.takeW 8 rfl (by kernel_rfl) (by kernel_rfl) rfl rfl rfl (fun _ => Ev.move rfl rfl) ?_
          refine AG.takeW 9 rfl (by kernel_rfl) (by kernel_rfl) rfl rfl rfl (fun _ => (Ev.addI rfl rfl rfl (by omega)).conv (congrArg (Value.int .i64) (show (i : Int) + 1 = ((i + 1 : Nat) : Int) by omega))) ?_
          refine AG.idxO _ 10 rfl (by kernel_rfl) (by kernel_rfl) rfl rfl rfl rfl rfl rfl Try.underlying57 sz_9 encTx_len ((Own.ext hT hxwl70)) (hX2) (fun g77 hg77 hBg77 hp76b hp76 => ?_)
          refine AG.take 11 rfl (by kernel_rfl) (by kernel_rfl) rfl rfl rfl (fun wq hq => Ev.ld0 rfl rfl Try.underlying9 rfl (hp76.ext hq hp76b) (rfl)) ?_
          refine AG.takeW 12 rfl (by kernel_rfl) (by kernel_rfl) rfl rfl rfl (fun _ => Ev.move rfl rfl) ?_
          refine AG.takeW 13 rfl (by kernel_rfl) (by kernel_rfl) rfl rfl rfl (fun _ => Ev.move rfl rfl) ?_
          refine AG.takeW 14 rfl (by kernel_rfl) (by kernel_rfl) rfl rfl rfl (fun _ => (Ev.addI rfl rfl rfl (by omega)).conv (congrArg (Value.int .i64) (show ((2 + 3 * j : Nat) : Int) + 3 = ((5 + 3 * j : Nat) : Int) by omega))) ?_
          refine AG.takeW 15 rfl (by kernel_rfl) (by kernel_rfl) rfl rfl rfl (fun _ => (Ev.cutStr (i := 2 + 3 * j) (j := 5 + 3 * j) rfl rfl Try.underlying9 rfl rfl (by omega) (by omega)).conv (congrArg Value.string ((bx_cut (frm (wd cd)) (2 + 3 * j) (5 + 3 * j)).trans (by rw [frm_part (by omega)])))) ?_
          refine AG.takeW 16 rfl (by kernel_rfl) (by kernel_rfl) rfl rfl rfl (fun _ => Ev.neS rfl rfl rfl) ?_
          refine AG.done (by kernel_rfl) ?_
          refine QW.sub (S' := [(7, _), (10, _), (17, _), (18, _), (19, _), (20, _), (95, _), (96, _), (97, _), (122, _)]) ⟨rfl, rfl, rfl, rfl, rfl, rfl, rfl, rfl, rfl, rfl, trivial⟩ ?_
          refine QW.then_ ?_
          refine CW.condP rfl (fun hc78 => ?_) (fun hc78 => ?_)
          · have hdf : difX (wd ca) (wd cd) j = true := decide_eq_true (fun e => absurd (bx_eq.2 e) (by assumption))
            rw [hdf, if_pos rfl] at htn
            refine CW.region ?_
            refine RG.vl rfl rfl rfl (Ev.move rfl rfl) ?_
            refine RG.vl rfl rfl rfl (Ev.addI rfl rfl rfl (by omega)) ?_
            refine RG.vl rfl rfl rfl (Ev.assign rfl rfl) ?_
            refine RG.done ?_
            refine QW.blockN ?_
            refine QW.then_ ?_
            refine CW.region ?_
            refine RG.vl rfl rfl rfl (Ev.move rfl rfl) ?_
            refine RG.vl rfl rfl rfl (Ev.addI rfl rfl rfl (by omega)) ?_
            refine RG.vl rfl rfl rfl (Ev.assign rfl rfl) ?_
            refine RG.done ?_
            refine QW.round1 (j + 1) ⟨congrArg (fun x => some (Value.int .i64 x)) (by omega), congrArg (fun x => some (Value.int .i64 x)) (by omega), trivial⟩ ⟨rfl, rfl, rfl, rfl, rfl, rfl, rfl, trivial⟩ ⟨by omega, hxwl70⟩ (by omega)
          · refine CW.skip ?_
            refine QW.blockN ?_
            refine QW.then_ ?_
            have hdf : difX (wd ca) (wd cd) j = false := decide_eq_false (fun h => h (bx_eq.1 (Decidable.not_not.1 (by assumption))))
            rw [hdf, if_neg (by decide)] at htn
            refine CW.region ?_
            refine RG.vl rfl rfl rfl (Ev.move rfl rfl) ?_
            refine RG.vl rfl rfl rfl (Ev.addI rfl rfl rfl (by omega)) ?_
            refine RG.vl rfl rfl rfl (Ev.assign rfl rfl) ?_
            refine RG.done ?_
            refine QW.round1 (j + 1) ⟨congrArg (fun x => some (Value.int .i64 x)) (by omega), congrArg (fun x => some (Value.int .i64 x)) (by omega), trivial⟩ ⟨rfl, rfl, rfl, rfl, rfl, rfl, rfl, trivial⟩ ⟨by omega, hxwl70⟩ (by omega)
        · refine CW.exit ?_
          refine QW.thenExit ?_
          refine QW.thenExit ?_
          refine QW.blockHit ?_
          refine QW.then_ ?_
          refine CW.seq ?_
          obtain rfl : j = 20 := by omega
          rcases apart22 hao hdd hca hie2 with ⟨hab, hn0⟩ | ⟨hab, hn5⟩
          · subst hab
            refine CW.region ?_
            refine RG.vl rfl rfl rfl (Ev.move rfl rfl) ?_
            refine RG.vl rfl rfl rfl (Ev.isT (Ev.eqI rfl rfl rfl) (by omega)) ?_
            refine RG.vl rfl rfl rfl (Ev.move rfl rfl) ?_
            refine RG.vl rfl rfl rfl (Ev.move rfl rfl) ?_
            refine RG.vl rfl rfl rfl (Ev.isT (Ev.eqS rfl rfl rfl) (rfl)) ?_
            refine RG.vl rfl rfl rfl (Ev.isF (Ev.neB rfl rfl rfl Try.underlying4) (fun h => h rfl)) ?_
            refine RG.vl rfl rfl rfl (Ev.move rfl rfl) ?_
            refine RG.vl rfl rfl rfl (Ev.move rfl rfl) ?_
            refine RG.vl rfl rfl rfl (Ev.isF (Ev.gtr rfl rfl rfl) (by omega)) ?_
            refine RG.vl rfl rfl rfl (Ev.move rfl rfl) ?_
            refine RG.pass rfl rfl rfl ?_
            refine RG.pass rfl rfl rfl ?_
            refine RG.vl rfl rfl rfl (Ev.pickF rfl rfl rfl) ?_
            refine RG.vl rfl rfl rfl (Ev.pickF rfl rfl rfl) ?_
            refine RG.done ?_
            refine QW.sub (S' := [(7, _), (10, _), (95, _), (96, _), (97, _), (138, _)]) ⟨rfl, rfl, rfl, rfl, rfl, rfl, trivial⟩ ?_
            refine QW.then_ ?_
            refine CW.condF rfl ?_
            refine CW.skip ?_
            refine QW.blockN ?_
            refine QW.then_ ?_
            refine CW.region ?_
            refine RG.vl rfl rfl rfl (Ev.addI rfl rfl rfl (by omega)) ?_
            refine RG.vl rfl rfl rfl (Ev.move rfl rfl) ?_
            refine RG.done ?_
            refine QW.round1 (i + 1) ⟨rfl, trivial⟩ ⟨rfl, rfl, rfl, rfl, trivial⟩ ⟨by omega, (Ex.tr hR69 hxwl70)⟩ (by omega)
          · refine CW.region ?_
            refine RG.vl rfl rfl rfl (Ev.move rfl rfl) ?_
            refine RG.vl rfl rfl rfl (Ev.isF (Ev.eqI rfl rfl rfl) (by omega)) ?_
            refine RG.vl rfl rfl rfl (Ev.move rfl rfl) ?_
            refine RG.vl rfl rfl rfl (Ev.move rfl rfl) ?_
            refine RG.vl rfl rfl rfl (Ev.isF (Ev.eqS rfl rfl rfl) (fun e => hab (bx_eq.1 e))) ?_
            refine RG.vl rfl rfl rfl (Ev.isF (Ev.neB rfl rfl rfl Try.underlying4) (fun h => h rfl)) ?_
            refine RG.vl rfl rfl rfl (Ev.move rfl rfl) ?_
            refine RG.vl rfl rfl rfl (Ev.move rfl rfl) ?_
            refine RG.vl rfl rfl rfl (Ev.isT (Ev.gtr rfl rfl rfl) (by omega)) ?_
            refine RG.vl rfl rfl rfl (Ev.move rfl rfl) ?_
            refine RG.vl rfl rfl rfl (Ev.move rfl rfl) ?_
            refine RG.vl rfl rfl rfl (Ev.isF (Ev.lss rfl rfl rfl) (by omega)) ?_
            refine RG.vl rfl rfl rfl (Ev.pickT rfl rfl rfl) ?_
            refine RG.vl rfl rfl rfl (Ev.pickF rfl rfl rfl) ?_
            refine RG.done ?_
            refine QW.sub (S' := [(7, _), (10, _), (95, _), (96, _), (97, _), (138, _)]) ⟨rfl, rfl, rfl, rfl, rfl, rfl, trivial⟩ ?_
            refine QW.then_ ?_
            refine CW.condF rfl ?_
            refine CW.skip ?_
            refine QW.blockN ?_
            refine QW.then_ ?_
            refine CW.region ?_
            refine RG.vl rfl rfl rfl (Ev.addI rfl rfl rfl (by omega)) ?_
            refine RG.vl rfl rfl rfl (Ev.move rfl rfl) ?_
            refine RG.done ?_
            refine QW.round1 (i + 1) ⟨rfl, trivial⟩ ⟨rfl, rfl, rfl, rfl, trivial⟩ ⟨by omega, (Ex.tr hR69 hxwl70)⟩ (by omega)
      · refine CW.exit ?_
        refine QW.thenExit ?_
        refine QW.thenExit ?_
        refine QW.blockHit ?_
        refine QW.then_ ?_
        refine CW.seq ?_
        refine CW.region ?_
        refine RG.call rfl rfl rfl rfl rfl rfl rfl en_12 (awake_ret _) ?_
        rintro _ w79 ⟨rfl, hx79⟩
        replace hxwl60 := Ex.tr hxwl60 hx79
        have hE80 := hx79
        refine RG.vl rfl rfl rfl (Ev.assign rfl rfl) ?_
        refine RG.done ?_
        refine QW.then_ ?_
        refine CW.ret ?_
        refine QW.ret1 rfl rfl ?_
        have hB := (Ex.tr hR55 hxwl60)
        exact ⟨rfl, hB⟩

end Go.Proofs.Ytgjnchjkjdnidaa

