/- Chapter 05, plain: what the reference folds, word by word, is what the program folds; kinds as sums. -/
import Derived.Test.YtehlnkhbbnddmaaPA
import Derived.Test.YtehlnkhbbnddmaaOR
namespace Go.Proofs.Ytehlnkhbbnddmaa
section
variable {P : Program} {n : Nat} {S : Slots} {w : World} {o : Oper}
theorem Ev.mul8 {T T' : TypeId} {x y : Operand} {p q : Int} (ho : o.op = .binOp .mul T x y T') (hx : ev S x = some (.int .u8 p)) (hy : ev S y = some (.int .u8 q))
    (hr : 0 ≤ p * q ∧ p * q ≤ 255) : Ev P n o S w (.int .u8 (p * q)) :=
  (Ev.arith ho hx hy (.inr (.inr ⟨rfl, rfl⟩))).conv (by rw [IntWalk.u8_in _ hr])
end
/-- Words, letter by letter: those that are whole, and the one that is begun. -/
def wstep (s : List (List UInt8) × List UInt8) (c : UInt8) : List (List UInt8) × List UInt8 := if c = 32 then (if s.2 = [] then (s.1, []) else (s.1 ++ [s.2], [])) else (s.1, s.2 ++ [c])
def wfin (s : List (List UInt8) × List UInt8) : List (List UInt8) := if s.2 = [] then s.1 else s.1 ++ [s.2]
theorem wstep_sp (s : List (List UInt8) × List UInt8) : wstep s 32 = if s.2 = [] then (s.1, []) else (s.1 ++ [s.2], []) := if_pos rfl
theorem wstep_ch (s : List (List UInt8) × List UInt8) {c : UInt8} (h : c ≠ 32) : wstep s c = (s.1, s.2 ++ [c]) := if_neg h
theorem wds_fold : ∀ (l cur : List UInt8) (ws : List (List UInt8)), ws ++ wds l cur = wfin (l.foldl wstep (ws, cur))
  | [], cur, ws => by
    show ws ++ (if cur = [] then [] else [cur]) = if cur = [] then ws else ws ++ [cur]
    split <;> simp
  | c :: r, cur, ws => by
    rw [List.foldl_cons]
    show ws ++ (if c = 32 then (if cur = [] then wds r [] else cur :: wds r []) else wds r (cur ++ [c])) = _
    by_cases h : c = 32
    · subst h
      rw [if_pos rfl, wstep_sp]
      by_cases h2 : cur = []
      · rw [if_pos h2, if_pos h2, wds_fold r [] ws]
      · rw [if_neg h2, if_neg h2, ← wds_fold r [] (ws ++ [cur]), List.append_assoc]; rfl
    · rw [if_neg h, wstep_ch _ h, wds_fold r (cur ++ [c]) ws]
theorem words_fold (l : List UInt8) : wordsL l = wfin (l.foldl wstep ([], [])) := by
  have := wds_fold l [] []
  rwa [List.nil_append] at this
theorem wstep_all {t : List UInt8} : ∀ (s : List (List UInt8) × List UInt8), (∀ x ∈ t, x ≠ 32) → t.foldl wstep s = (s.1, s.2 ++ t) := by
  induction t with
  | nil => intro s _; simp
  | cons c t ih =>
    intro s h
    rw [List.foldl_cons, wstep_ch _ (h c (List.mem_cons_self ..)), ih _ fun x hx => h x (List.mem_cons_of_mem _ hx)]
    simp
/-- Words with one blank between two. -/
def jnF (o : Bool × List UInt8) (x : List UInt8) : Bool × List UInt8 := (true, if o.1 then o.2 ++ [32] ++ x else o.2 ++ x)
def jn (l : List (List UInt8)) : List UInt8 := (l.foldl jnF (false, [])).2
theorem jn_one (l : List (List UInt8)) : (l.foldl jnF (false, [])).1 = decide (l ≠ []) := by
  rcases List.eq_nil_or_concat l with rfl | ⟨m, x, rfl⟩
  · rfl
  · rw [List.concat_eq_append, List.foldl_append]
    show true = _
    rw [eq_comm, decide_eq_true_eq]
    simp
theorem jn_nil : jn [] = [] := rfl
theorem jn_snoc (l : List (List UInt8)) (x : List UInt8) : jn (l ++ [x]) = if l = [] then x else jn l ++ [32] ++ x := by
  unfold jn
  rw [List.foldl_append]
  show (if (l.foldl jnF (false, [])).1 then (l.foldl jnF (false, [])).2 ++ [32] ++ x else (l.foldl jnF (false, [])).2 ++ x) = _
  rw [jn_one]
  by_cases h : l = []
  · subst h; rfl
  · rw [if_pos (by simpa using h), if_neg h]
theorem jn_ne {l : List (List UInt8)} (h : l ≠ []) (hn : ∀ x ∈ l, x ≠ []) : jn l ≠ [] := by
  rcases List.eq_nil_or_concat l with rfl | ⟨m, x, rfl⟩
  · exact absurd rfl h
  · rw [List.concat_eq_append] at hn ⊢
    have hx := hn x (by simp)
    rw [jn_snoc]
    split
    · exact hx
    · simp
theorem jn_mono (l : List (List UInt8)) (x : List UInt8) : (jn l).length ≤ (jn (l ++ [x])).length ∧ x.length ≤ (jn (l ++ [x])).length := by
  rw [jn_snoc]
  split
  · rename_i h; subst h; exact ⟨Nat.zero_le _, Nat.le_refl _⟩
  · simp only [List.length_append]; omega
theorem jn_pre : ∀ (m l : List (List UInt8)), (jn l).length ≤ (jn (l ++ m)).length
  | [], l => by rw [List.append_nil]; exact Nat.le_refl _
  | x :: m, l => by
    have h1 := (jn_mono l x).1
    have h2 := jn_pre m (l ++ [x])
    rw [List.append_assoc] at h2
    exact Nat.le_trans h1 h2
theorem jn_take (l : List (List UInt8)) (j : Nat) : (jn (l.take j)).length ≤ (jn l).length := by
  have := jn_pre (l.drop j) (l.take j)
  rwa [List.take_append_drop] at this
theorem jn_more {l : List (List UInt8)} {j : Nat} {x : List UInt8} (h : l[j]? = some x) : jn (l.take (j + 1)) = if j = 0 then jn (l.take j) ++ x else jn (l.take j) ++ [32] ++ x := by
  have hl := (List.getElem?_eq_some_iff.1 h).1
  rw [take_rw l j x h, jn_snoc]
  by_cases h0 : j = 0
  · subst h0; rfl
  · rw [if_neg h0, if_neg (fun e => by have := congrArg List.length e; rw [List.length_take, List.length_nil] at this; omega)]
theorem jn_word {l : List (List UInt8)} {j : Nat} {x : List UInt8} (h : l[j]? = some x) : x.length ≤ (jn l).length := by
  have h1 := (jn_mono (l.take j) x).2
  rw [← take_rw l j x h] at h1
  exact Nat.le_trans h1 (jn_take l (j + 1))
/-- What is converted: a blank for nothing. -/
def cvt (t : List UInt8) : List UInt8 := if t = [] then [32] else t
def cv : Nat → List UInt8 → List UInt8 → List UInt8
  | 0, _, out => out
  | _ + 1, [], out => out
  | n + 1, c :: r, out => cv n ((c :: r).drop (one1 c r).2) (out ++ cvt (one1 c r).1)
def cvL (l : List UInt8) : List UInt8 := cv l.length l []
theorem cv_fuel : ∀ (n : Nat) (l out : List UInt8), l.length ≤ n → cv (n + 1) l out = cv n l out
  | 0, [], _, _ => rfl
  | 0, c :: r, _, h => by simp at h
  | n + 1, [], _, _ => rfl
  | n + 1, c :: r, out, h => by
    have h1 := one1_n c r
    have h2 : ((c :: r).drop (one1 c r).2).length ≤ n := by rw [List.length_drop]; omega
    show cv (n + 1) _ (out ++ cvt (one1 c r).1) = cv n _ (out ++ cvt (one1 c r).1)
    exact cv_fuel n _ _ h2
theorem cv_nil : ∀ (n : Nat) (out : List UInt8), cv n [] out = out
  | 0, _ => rfl
  | _ + 1, _ => rfl
theorem cv_step {n : Nat} {c : UInt8} {r out : List UInt8} (h : (c :: r).length ≤ n) : cv n (c :: r) out = cv n ((c :: r).drop (one1 c r).2) (out ++ cvt (one1 c r).1) := by
  cases n with
  | zero => simp at h
  | succ n =>
    have h1 := one1_n c r
    have h2 : ((c :: r).drop (one1 c r).2).length ≤ n := by rw [List.length_drop]; omega
    rw [cv_fuel n _ _ h2]
    rfl
theorem cv_at {l out res : List UInt8} {i : Nat} {c : UInt8} (hc : l[i]? = some c) (h : cv l.length (l.drop i) out = res) : cv l.length (l.drop (i + (one1 c (l.drop (i + 1))).2)) (out ++ cvt (one1 c (l.drop (i + 1))).1) = res := by
  rw [drop_cons hc, cv_step (by rw [← drop_cons hc, List.length_drop]; omega), ← drop_cons hc, List.drop_drop] at h
  exact h
theorem cvt_len (c : UInt8) (r : List UInt8) : (cvt (one1 c r).1).length ≤ 2 := by
  unfold cvt
  split
  · simp
  · exact one1_len c r
/-- What is folded so far, by what is converted so far. -/
structure Cv (gap : Bool) (out : List UInt8) (s : List (List UInt8) × List UInt8) : Prop where
  eq : out = jn (wfin s)
  yes : gap = true → s.2 = []
  no : gap = false → s.2 = [] → s.1 = []
  ne : ∀ x ∈ s.1, x ≠ []
theorem Cv.start : Cv false [] ([], []) := ⟨rfl, (fun h => by cases h), fun _ _ => rfl, (fun x h => by cases h)⟩
theorem Cv.blank {gap : Bool} {out : List UInt8} {s : List (List UInt8) × List UInt8} (h : Cv gap out s) : Cv true out (wstep s 32) := by
  rw [wstep_sp]
  by_cases h2 : s.2 = []
  · rw [if_pos h2]
    refine ⟨?_, fun _ => rfl, (fun h => by cases h), h.ne⟩
    rw [h.eq]
    unfold wfin
    rw [if_pos h2, if_pos rfl]
  · rw [if_neg h2]
    refine ⟨?_, fun _ => rfl, (fun h => by cases h), fun x hx => ?_⟩
    · rw [h.eq]
      unfold wfin
      rw [if_neg h2, if_pos rfl]
    · rcases List.mem_append.1 hx with h3 | h3
      · exact h.ne x h3
      · simp only [List.mem_singleton] at h3; rw [h3]; exact h2
theorem Cv.put {gap : Bool} {out t : List UInt8} {s : List (List UInt8) × List UInt8} (h : Cv gap out s) (ht : t ≠ []) (h32 : ∀ x ∈ t, x ≠ 32) : Cv false (put gap out t) (t.foldl wstep s) := by
  rw [wstep_all s h32]
  have hn : s.2 ++ t ≠ [] := by simp [ht]
  refine ⟨?_, (fun h => by cases h), fun _ h2 => absurd h2 hn, h.ne⟩
  have e := h.eq
  unfold wfin at e ⊢
  rw [if_neg hn, jn_snoc]
  by_cases h2 : s.2 = []
  · rw [if_pos h2] at e
    rw [h2, List.nil_append]
    by_cases h1 : s.1 = []
    · rw [if_pos h1]
      rw [h1, jn_nil] at e
      rw [e, put_no (fun h => h.2 rfl), List.nil_append]
    · rw [if_neg h1]
      have hg : gap = true := by
        cases gap with
        | true => rfl
        | false => exact absurd (h.no rfl h2) h1
      rw [e, put_sp hg (jn_ne h1 h.ne)]
  · rw [if_neg h2, jn_snoc] at e
    have hg : ¬ (gap = true ∧ out ≠ []) := fun h3 => h2 (h.yes h3.1)
    rw [put_no hg, e]
    split
    · rfl
    · simp only [List.append_assoc]
theorem cv_fold : ∀ (n : Nat) (l : List UInt8) (gap : Bool) (out long : List UInt8), Cv gap out (long.foldl wstep ([], [])) → fo n l gap out = jn (wordsL (cv n l long))
  | 0, l, gap, out, long, h => by
    show out = jn (wordsL long)
    rw [words_fold, ← h.eq]
  | n + 1, [], gap, out, long, h => by
    show out = jn (wordsL long)
    rw [words_fold, ← h.eq]
  | n + 1, c :: r, gap, out, long, h => by
    show (if (one1 c r).1 = [] then fo n ((c :: r).drop (one1 c r).2) true out else fo n ((c :: r).drop (one1 c r).2) false (put gap out (one1 c r).1)) = jn (wordsL (cv n ((c :: r).drop (one1 c r).2) (long ++ cvt (one1 c r).1)))
    unfold cvt
    by_cases h1 : (one1 c r).1 = []
    · rw [if_pos h1, if_pos h1]
      refine cv_fold n _ true out _ ?_
      rw [List.foldl_append]
      exact h.blank
    · rw [if_neg h1, if_neg h1]
      refine cv_fold n _ false _ _ ?_
      rw [List.foldl_append]
      exact h.put h1 fun x hx => plain_ne (List.all_eq_true.1 (one1_all c r) x hx)
theorem fold_words (l : List UInt8) : jn (wordsL (cvL l)) = foldL l := (cv_fold l.length l false [] [] Cv.start).symm
theorem jn_len (l : List UInt8) : (jn (wordsL (cvL l))).length ≤ l.length := by rw [fold_words]; exact fold_len l
theorem wordsL_len : ∀ (l cur : List UInt8), (wds l cur).length ≤ l.length + 1
  | [], cur => by
    show (if cur = [] then ([] : List (List UInt8)) else [cur]).length ≤ 1
    split <;> simp
  | c :: r, cur => by
    have h1 := wordsL_len r []
    have h2 := wordsL_len r (cur ++ [c])
    show (if c = 32 then (if cur = [] then wds r [] else cur :: wds r []) else wds r (cur ++ [c])).length ≤ r.length + 1 + 1
    split
    · split
      · omega
      · rw [List.length_cons]; omega
    · omega
/-- Two bytes' letters. -/
def twoL (c : UInt8) (r : List UInt8) : List UInt8 := match r with | d :: _ => lets c.toNat d.toNat | [] => []
theorem twoL_none {c : UInt8} {r : List UInt8} (h : r = []) : twoL c r = [] := by rw [h]; rfl
theorem twoL_some {c d : UInt8} {r : List UInt8} (h : r[0]? = some d) : twoL c r = lets c.toNat d.toNat := by
  cases r with
  | nil => cases h
  | cons x r => simp at h; subst h; rfl
theorem twoL_len (c : UInt8) (r : List UInt8) : (twoL c r).length ≤ 2 := by
  cases r with
  | nil => exact Nat.zero_le _
  | cons x r => exact lets_len _ _
theorem one1_tw {c : UInt8} {r : List UInt8} (h : isPlain c.toNat = false) (h2 : ¬ (97 ≤ c.toNat ∧ c.toNat ≤ 122)) : one1 c r = if twoL c r = [] then ([], 1) else (twoL c r, 2) := by
  unfold one1
  rw [if_neg (by rw [h]; decide), if_neg h2]
  cases r with
  | nil => rfl
  | cons d r => rfl
/-- The long words, row by row. -/
theorem lg_no {k : Nat} {s : List UInt8} {i : Nat} {r : Rw} (hr : tab[i]? = some r) (h : hitL k s r = false) : once ((tab.take (i + 1)).filter (hitL k s)) = once ((tab.take i).filter (hitL k s)) := by
  rw [take_rw tab i r hr, List.filter_append, List.filter_cons, h, if_neg (by decide), List.filter_nil, List.append_nil]
theorem lg_yes {k : Nat} {s : List UInt8} {i : Nat} {r : Rw} (hr : tab[i]? = some r) (h : hitL k s r = true) : once ((tab.take (i + 1)).filter (hitL k s)) = if r.lo ∈ once ((tab.take i).filter (hitL k s)) then once ((tab.take i).filter (hitL k s)) else once ((tab.take i).filter (hitL k s)) ++ [r.lo] := by
  rw [take_rw tab i r hr, List.filter_append, List.filter_cons, h, if_pos rfl, List.filter_nil, once_snoc]
theorem lg_in {k : Nat} {s : List UInt8} {i : Nat} {r : Rw} (hr : tab[i]? = some r) (h : hitL k s r = true) (hm : r.lo ∈ once ((tab.take i).filter (hitL k s))) : once ((tab.take (i + 1)).filter (hitL k s)) = once ((tab.take i).filter (hitL k s)) := by rw [lg_yes hr h, if_pos hm]
theorem lg_out {k : Nat} {s : List UInt8} {i : Nat} {r : Rw} (hr : tab[i]? = some r) (h : hitL k s r = true) (hm : r.lo ∉ once ((tab.take i).filter (hitL k s))) : once ((tab.take (i + 1)).filter (hitL k s)) = once ((tab.take i).filter (hitL k s)) ++ [r.lo] := by rw [lg_yes hr h, if_neg hm]
theorem lg_len (k : Nat) (s : List UInt8) (i : Nat) : (once ((tab.take i).filter (hitL k s))).length ≤ i := by
  refine Nat.le_trans (once_len _) (Nat.le_trans (List.length_filter_le _ _) ?_)
  rw [List.length_take]; omega
theorem lg_end (k : Nat) (s : List UInt8) : once ((tab.take 40).filter (hitL k s)) = longsR k s := by rw [List.take_of_length_le (by rw [tab40]; exact Nat.le_refl _)]; rfl
theorem hasK_more {s : List UInt8} {k i : Nat} {r : Rw} (hr : tab[i]? = some r) : (tab.take (i + 1)).any (hitL k s) = ((tab.take i).any (hitL k s) || hitL k s r) := by rw [take_rw tab i r hr, List.any_append]; simp
/-- Kinds as a sum. -/
def hasK (s : List UInt8) (l : List Rw) (k : Nat) : Bool := l.any (hitL k s)
def sumK (s : List UInt8) (l : List Rw) : Nat → Nat
  | 0 => 0
  | k + 1 => sumK s l k + if hasK s l (k + 1) then 2 ^ (k + 1) else 0
theorem or_bits : ∀ (b1 b2 b3 b4 b5 : Bool) (k : Fin 5), ((if b1 then 2 else 0) + (if b2 then 4 else 0) + (if b3 then 8 else 0) + (if b4 then 16 else 0) + (if b5 then 32 else 0)) ||| (1 <<< (k.val + 1)) =
    (if b1 || decide (k.val = 0) then 2 else 0) + (if b2 || decide (k.val = 1) then 4 else 0) + (if b3 || decide (k.val = 2) then 8 else 0) + (if b4 || decide (k.val = 3) then 16 else 0) + (if b5 || decide (k.val = 4) then 32 else 0) := by decide
theorem sumK_5 (s : List UInt8) (l : List Rw) : sumK s l 5 = (if hasK s l 1 then 2 else 0) + (if hasK s l 2 then 4 else 0) + (if hasK s l 3 then 8 else 0) + (if hasK s l 4 then 16 else 0) + (if hasK s l 5 then 32 else 0) := by
  show 0 + (if hasK s l 1 then 2 ^ 1 else 0) + (if hasK s l 2 then 2 ^ 2 else 0) + (if hasK s l 3 then 2 ^ 3 else 0) + (if hasK s l 4 then 2 ^ 4 else 0) + (if hasK s l 5 then 2 ^ 5 else 0) = _
  rw [Nat.zero_add]
theorem hasK_snoc (s : List UInt8) (l : List Rw) (r : Rw) (k : Nat) : hasK s (l ++ [r]) k = (hasK s l k || hitL k s r) := by unfold hasK; rw [List.any_append]; simp
theorem hitL_at {k : Nat} (s : List UInt8) (r : Rw) (hk : 1 ≤ k) : hitL k s r = (decide (r.k = k) && decide (r.lo = s ∨ r.sh = s)) := by
  unfold hitL
  rw [← Bool.decide_and, decide_eq_decide]
  constructor
  · rintro ⟨h1 | h1, h2⟩
    · omega
    · exact ⟨h1, h2⟩
  · rintro ⟨h1, h2⟩; exact ⟨.inr h1, h2⟩
theorem kinds_sum : ∀ (l : List Rw) (s : List UInt8), (∀ r ∈ l, 1 ≤ r.k ∧ r.k ≤ 5) → kindF s l = sumK s l 5 := by
  intro l s
  have key : ∀ n, n ≤ l.length → (∀ r ∈ l, 1 ≤ r.k ∧ r.k ≤ 5) → kindF s (l.take n) = sumK s (l.take n) 5 := by
    intro n
    induction n with
    | zero => intro _ _; rfl
    | succ n ih =>
      intro hn hl
      have hg : l[n]? = some l[n] := List.getElem?_eq_getElem (by omega)
      have ih := ih (by omega) hl
      generalize l[n] = r at hg
      obtain ⟨k1, k5⟩ := hl r (List.mem_of_getElem? hg)
      rw [take_rw l n r hg, kindF_snoc, ih, sumK_5, sumK_5, hasK_snoc, hasK_snoc, hasK_snoc, hasK_snoc, hasK_snoc, hitL_at s r (by decide : 1 ≤ 1), hitL_at s r (by decide : 1 ≤ 2), hitL_at s r (by decide : 1 ≤ 3), hitL_at s r (by decide : 1 ≤ 4), hitL_at s r (by decide : 1 ≤ 5)]
      by_cases h : r.lo = s ∨ r.sh = s
      · rw [if_pos h, decide_eq_true h]
        have := or_bits (hasK s (l.take n) 1) (hasK s (l.take n) 2) (hasK s (l.take n) 3) (hasK s (l.take n) 4) (hasK s (l.take n) 5) ⟨r.k - 1, by omega⟩
        rw [show r.k - 1 + 1 = r.k by omega] at this
        rw [this]
        simp only [Bool.and_true]
        rw [decide_eq_decide.2 (show r.k - 1 = 0 ↔ r.k = 1 by omega), decide_eq_decide.2 (show r.k - 1 = 1 ↔ r.k = 2 by omega), decide_eq_decide.2 (show r.k - 1 = 2 ↔ r.k = 3 by omega), decide_eq_decide.2 (show r.k - 1 = 3 ↔ r.k = 4 by omega), decide_eq_decide.2 (show r.k - 1 = 4 ↔ r.k = 5 by omega)]
      · rw [if_neg h, decide_eq_false h]
        simp only [Bool.and_false, Bool.or_false]
  intro hl
  have := key l.length (Nat.le_refl _) hl
  rwa [List.take_length] at this
theorem kinds_ref (s : List UInt8) : kindsR s = sumK s tab 5 := kinds_sum tab s fun r hr => ⟨(tab_k r hr).1, (tab_k r hr).2.1⟩
theorem sumK_lt (s : List UInt8) (l : List Rw) : ∀ k, sumK s l k < 2 ^ (k + 1)
  | 0 => by show (0 : Nat) < 2; decide
  | k + 1 => by
    have := sumK_lt s l k
    show sumK s l k + (if hasK s l (k + 1) then 2 ^ (k + 1) else 0) < 2 ^ (k + 1 + 1)
    rw [Nat.pow_succ 2 (k + 1)]
    split <;> omega
end Go.Proofs.Ytehlnkhbbnddmaa
