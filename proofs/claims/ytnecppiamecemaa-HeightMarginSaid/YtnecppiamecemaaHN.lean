/- Chapter 21: what HeightBack's walk uses: Draw's slice may be written; the steps of its loops. -/
import Derived.Test.YtnecppiamecemaaHM
import Derived.Test.YtnecppiamecemaaHY
import Derived.Test.YtnecppiamecemaaLK

namespace Go.Proofs.Ytnecppiamecemaa
theorem draw_any_own (s : Su) (T : List UInt8) (w : World) (hs : Okay s) (hp : s.pl ≤ 70) (hT : (T.length : Int) = s.pl) (hok : T.all okLetter = true) : Ret Try.prog 18 [s.v, .string ⟨T.toArray⟩] w (fun v w' => ∃ u bs, v = .tuple #[u, .int .i64 0] ∧ Own w' w.heap.size 48 3 Br.c u bs ∧ Reads s bs T ∧ bs.length ≤ 70 ∧ (∀ (k : Nat) (b : Br), bs[k]? = some b → ∃ (j : Nat) (c : UInt8), T[j]? = some c ∧ c ≠ 63 ∧ okLetter c = true ∧ b = mkb s c j) ∧ Ex w w') := by
  obtain ⟨e1, e2⟩ := drawErr_ok s T ⟨hs, hT, hok⟩
  refine (draw_own s ⟨T.toArray⟩ w (by rw [size_bytes]; omega)).mono fun v w' ⟨u, e, hr, hx⟩ => ⟨u, drawL s T 0, by rw [e]; exact congrArg (fun x => Value.tuple #[u, .int .i64 x]) e1, by rw [← e2]; exact hr, draw_reads s T hs hT hok, ?_, fun k b hb => ?_, hx⟩
  · have := drawL_len s T 0; omega
  · obtain ⟨j, c, h1, h2, h3⟩ := (mem_draw s b T 0).1 (List.mem_of_getElem? hb)
    exact ⟨j, c, h1, h2, (List.all_eq_true.1 hok) c (List.mem_of_getElem? h1), by rw [h3, Nat.zero_add]⟩
theorem margin_is (s : Su) (u : Value) (l : List Br) (w : World) (hl : RdL w 3 Br.c u l) (hlen : l.length ≤ 1000) (he : errOf s l = 0) : Ret Try.prog 11 [s.v, u] w (fun v w' => v = .tuple #[.int .i64 (marginOf s l), .int .i64 0] ∧ Ex w w') := by
  refine (margin_ret s u l w hl hlen).mono fun v w' ⟨e, hx⟩ => ⟨?_, hx⟩
  rw [e, he]; unfold marginR; rw [if_pos he]
theorem set_same {α : Type} : ∀ {l : List α} {i : Nat} {b : α}, l[i]? = some b → l.set i b = l
  | [], _, _, h => by simp at h
  | x :: l, 0, b, h => by simp at h; subst h; rfl
  | x :: l, i + 1, b, h => by rw [List.set_cons_succ, set_same (l := l) (by simpa using h)]
theorem lenok_self {s : Su} {h : Int} (h0 : 0 ≤ s.lo) : LenOk s h h := by unfold LenOk; exact ⟨fun e => ⟨by omega, by omega⟩, fun e => ⟨by omega, by omega⟩⟩
theorem lenok_up {s : Su} {h n : Int} (h1 : s.lo < s.hi) (h2 : s.hi ≤ h) (h3 : 0 ≤ n) (h4 : n ≤ 128) : LenOk s h (h + n) := by unfold LenOk; exact ⟨fun e => ⟨by omega, by omega⟩, fun e => ⟨by omega, by omega⟩⟩
theorem lenok_dn {s : Su} {h n : Int} (h0 : 0 ≤ s.lo) (h2 : ¬ s.hi ≤ h) (h3 : 0 ≤ n) (h4 : n ≤ 128) : LenOk s h (max (h - n) 0) := by unfold LenOk; exact ⟨fun e => ⟨by omega, by omega⟩, fun e => ⟨by omega, by omega⟩⟩
theorem len_start {s : Su} (bs : List Br) (h0 : 0 ≤ s.lo) : ∀ (j : Nat) (b b' : Br), bs[j]? = some b → bs[j]? = some b' → Len s b b' := fun j b b' h1 h2 => by
  rw [h1] at h2; injection h2 with h2; subst h2
  exact ⟨rfl, lenok_self h0, lenok_self h0⟩
theorem rel_step {R : Br → Br → Prop} {bs L : List Br} {i : Nat} {b cur : Br} (h : ∀ (j : Nat) (b b' : Br), bs[j]? = some b → L[j]? = some b' → R b b') (hb : bs[i]? = some b) (hr : R b cur) : ∀ (j : Nat) (b b' : Br), bs[j]? = some b → (L.set i cur)[j]? = some b' → R b b' := fun j b1 b2 h1 h2 => by
  rw [List.getElem?_set] at h2
  split at h2
  · rename_i e
    subst e
    split at h2
    · rw [hb] at h1; injection h1 with h1; injection h2 with h2; subst h1; subst h2; exact hr
    · cases h2
  · exact h j b1 b2 h1 h2
theorem tail_step {bs L : List Br} {i : Nat} {cur : Br} (h : ∀ j, i ≤ j → L[j]? = bs[j]?) : ∀ j, i + 1 ≤ j → (L.set i cur)[j]? = bs[j]? := fun j hj => by
  rw [List.getElem?_set, if_neg (by omega), h j (by omega)]
theorem back_len {s : Su} {bs L : List Br} {T : List UInt8} (hs : Okay s) (hi : s.hi ≤ 305) (hpl : s.pl ≤ 70) (hpi : s.pi ≤ 256) (hog : s.og ≤ 555) (hR : Reads s bs T) (hT : (T.length : Int) = s.pl) (hmk : ∀ (k : Nat) (b : Br), bs[k]? = some b → ∃ (j : Nat) (c : UInt8), T[j]? = some c ∧ c ≠ 63 ∧ okLetter c = true ∧ b = mkb s c j)
    (hl : L.length = bs.length) (hLen : ∀ (j : Nat) (b b' : Br), bs[j]? = some b → L[j]? = some b' → Len s b b') :
    Reads s L T ∧ 0 ≤ marginOf s L ∧ ∀ b ∈ L, (0 ≤ b.po ∧ b.po ≤ 1000000) ∧ (0 ≤ b.up ∧ b.up ≤ 10000) ∧ 0 ≤ b.dn ∧ b.dn ≤ 10000 := by
  have back : ∀ b' ∈ L, ∃ (j : Nat) (c : UInt8), (j : Int) < s.pl ∧ Len s (mkb s c j) b' := fun b' hb' => by
    obtain ⟨i, hi⟩ := List.mem_iff_getElem?.1 hb'
    have hlt := (List.getElem?_eq_some_iff.1 hi).1
    have h1 := List.getElem?_eq_getElem (show i < bs.length by omega)
    obtain ⟨j, c, hj, _, _, e⟩ := hmk i _ h1
    have := (List.getElem?_eq_some_iff.1 hj).1
    exact ⟨j, c, by omega, by rw [← e]; exact hLen i _ _ h1 hi⟩
  refine ⟨reads_sim hR hl fun i b b' h1 h2 => ?_, margin_ge fun b' hb' => ?_, fun b' hb' => ?_⟩
  · obtain ⟨j, c, hj, _, _, e⟩ := hmk i b h1
    have := (List.getElem?_eq_some_iff.1 hj).1
    subst e
    exact len_sim hs (by omega) (mkb_in s c j hs (by omega)) (hLen i _ _ h1 h2)
  · obtain ⟨j, c, hj, h⟩ := back b' hb'
    exact len_room hs hj h
  · obtain ⟨j, c, hj, h⟩ := back b' hb'
    obtain ⟨a1, a2, a3, a4, a5, a6, a7, a8, a9, a10, a11⟩ := id hs
    obtain ⟨h1, h2⟩ := mkb_halves s c j
    obtain ⟨p1, ⟨u1, u2⟩, d1, d2⟩ := h
    have hpo : b'.po = s.og + (j : Int) * s.pi := p1
    have hm1 : 0 ≤ (j : Int) * s.pi := Int.mul_nonneg (by omega) (by omega)
    have hm2 : (j : Int) * s.pi ≤ 70 * 256 := Int.mul_le_mul (by omega) (by omega) (by omega) (by omega)
    have hu : 0 ≤ b'.up ∧ b'.up ≤ 10000 := by
      rcases h1 with h1 | h1
      · have := u1 h1; omega
      · have := u2 h1; omega
    have hd : 0 ≤ b'.dn ∧ b'.dn ≤ 10000 := by
      rcases h2 with h2 | h2
      · have := d1 h2; omega
      · have := d2 h2; omega
    exact ⟨⟨by omega, by omega⟩, hu, hd⟩
theorem shk_self {m a : Int} (h : 0 ≤ a) (hm : 0 ≤ m) : Shk m a a := ⟨h, by omega, by omega, by omega⟩
theorem shk_step {m a d : Int} (h : 0 ≤ a) (hm : 0 ≤ m) (h1 : -128 ≤ d) (h2 : d ≤ 127) : Shk m a (max (a + max (-m) (min d m)) 0) := ⟨by omega, by omega, by omega, by omega⟩
theorem shk_start {m : Int} {L : List Br} (hm : 0 ≤ m) (hb : ∀ b ∈ L, (0 ≤ b.po ∧ b.po ≤ 1000000) ∧ (0 ≤ b.up ∧ b.up ≤ 10000) ∧ 0 ≤ b.dn ∧ b.dn ≤ 10000) : ∀ (j : Nat) (b b' : Br), L[j]? = some b → L[j]? = some b' → ShkB m b b' := fun j b b' h1 h2 => by
  rw [h1] at h2; injection h2 with h2; subst h2
  obtain ⟨⟨p, _⟩, ⟨u, _⟩, d, _⟩ := hb b (List.mem_of_getElem? h1)
  exact ⟨shk_self p hm, shk_self u hm, shk_self d hm⟩
theorem back_shk {s : Su} {L M : List Br} {T : List UInt8} (hs : Okay s) (hR : Reads s L T) (hb : ∀ b ∈ L, (0 ≤ b.po ∧ b.po ≤ 1000000) ∧ (0 ≤ b.up ∧ b.up ≤ 10000) ∧ 0 ≤ b.dn ∧ b.dn ≤ 10000) (hl : M.length = L.length) (h : ∀ (j : Nat) (b b' : Br), L[j]? = some b → M[j]? = some b' → ShkB (marginOf s L) b b') : Reads s M T :=
  reads_sim hR hl fun i b b' h1 h2 => by
    have hm := List.mem_of_getElem? h1
    obtain ⟨k, hk⟩ := Option.isSome_iff_exists.1 (hR.fit.1 b hm)
    obtain ⟨⟨_, p⟩, ⟨_, u⟩, _, d⟩ := hb b hm
    exact shk_sim hs hk p u d (margin_le hm) (h i b b' h1 h2)
end Go.Proofs.Ytnecppiamecemaa
