/- Chapter 16: a payload with its check character; one error, one exchange, told by the test. -/
import Derived.Test.YtnhkhpnkhkagaaaDoorDU
import Derived.Test.YtnhkhpnkhkagaaaDoorDK
import Derived.Test.YtnhkhpnkhkagaaaDoorDM
namespace Go.Proofs.YtnhkhpnkhkagaaaDoor
def apT (k : Nat) (ws : List Int) (D : List UInt8) : List UInt8 := D ++ [chr (checkD k ws (vals (D ++ [48])))]
theorem apT_len (k : Nat) (ws : List Int) (D : List UInt8) : (apT k ws D).length = D.length + 1 := by simp [apT]
theorem valC48 : valC 48 = 0 := by decide
theorem append_pay {k : Nat} {ws : List Int} {D : List UInt8} (hr : rightD k ws = true) (hp : isPay D = true) (hl : D.length ≤ 30) :
    appendR k ws D = (apT k ws D, 0) ∧ isChk k (apT k ws D) = true ∧ passD k ws (vals (apT k ws D)) = true := by
  have hd := ((isPay_iff D).1 hp).2
  have hcp := check_pass hr 0 (pay_vals hd)
  have hv : vals (D ++ [48]) = 0 :: vals D := by rw [vals_snoc, valC48]
  have hm := mostD_le k
  have hc : checkR k ws D = (chr (checkD k ws (vals (D ++ [48]))), 0) := by
    unfold checkR; rw [hr, if_neg (by decide), if_neg (by omega), hp]; rfl
  refine ⟨?_, ?_, ?_⟩
  · unfold appendR; rw [hc]; rfl
  · unfold apT; rw [isChk_snoc, hp, isEnd_chr (by rw [hv]; omega), hv, decide_eq_true hcp.1]; rfl
  · unfold apT; rw [vals_snoc, valC_chr (by rw [hv]; omega), hv]; exact hcp.2.1
theorem test_chk {k : Nat} {ws : List Int} {t : List UInt8} (hr : rightD k ws = true) (hl : t.length ≤ 31) (hc : isChk k t = true) : testR k ws t = (passD k ws (vals t), 0) := by rw [test_right hr hl, hc]; rfl
theorem split_at {α : Type} {l : List α} {i : Nat} {x : α} (h : l[i]? = some x) : ∃ A B, l = A ++ x :: B ∧ A.length = i := by
  have hi := (List.getElem?_eq_some_iff.1 h).1
  refine ⟨l.take i, l.drop (i + 1), ?_, by rw [List.length_take]; omega⟩
  rw [← drop_at h, List.take_append_drop]
theorem vals_most {k : Nat} {A B : List UInt8} {x : UInt8} (hc : isChk k (A ++ x :: B) = true) (hk : k ≠ 2) : ∀ v ∈ vals B, v < 10 := fun v hv => by
  have := chk_most hc v (by rw [vals_put]; exact List.mem_append_left _ hv)
  unfold mostD at this; rw [if_neg hk] at this; omega
theorem val_most {k : Nat} {A B : List UInt8} {x : UInt8} (hc : isChk k (A ++ x :: B) = true) (hk : k ≠ 2) : valC x < 10 := by
  have := chk_most hc (valC x) (by rw [vals_put]; simp)
  unfold mostD at this; rw [if_neg hk] at this; omega
theorem err_set {k : Nat} {ws : List Int} {T : List UInt8} {i : Nat} {x c : UInt8} (hr : rightD k ws = true) (hc : isChk k T = true) (hp : passD k ws (vals T) = true) (hl : T.length ≤ 31) (hx : T[i]? = some x) (hd : isDig c = true) :
    testR k ws (T.set i c) = (sameD k ws (T.length - 1 - i) (valC x) (valC c), 0) := by
  obtain ⟨A, B, rfl, rfl⟩ := split_at hx
  have hlen : (A ++ c :: B).length ≤ 31 := by simpa using hl
  rw [set_mid _ _ _ _ _ rfl, test_chk hr hlen (chk_put_dig hd hc), vals_put]
  rw [vals_put] at hp
  have := one_err hr (b := valC c) (fun e => vals_most hc (by omega)) (chk_B hc).1 (fun e => ⟨val_most hc e, (valC_dig hd).1⟩) hp
  rw [this, vals_len]
  congr 2
  simp
theorem err_swap {k : Nat} {ws : List Int} {T : List UInt8} {i : Nat} {x y : UInt8} (hr : rightD k ws = true) (hc : isChk k T = true) (hp : passD k ws (vals T) = true) (hl : T.length ≤ 31) (hx : T[i]? = some x) (hy : T[i + 1]? = some y) (hdx : isDig x = true) (hdy : isDig y = true) :
    testR k ws ((T.set i y).set (i + 1) x) = (exchD k ws (T.length - 2 - i) (valC y) (valC x), 0) := by
  obtain ⟨A, B, rfl, rfl⟩ := split_at hx
  rw [List.getElem?_append_right (by omega), show A.length + 1 - A.length = 1 by omega, List.getElem?_cons_succ] at hy
  cases B with
  | nil => simp at hy
  | cons b B =>
    simp only [List.getElem?_cons_zero, Option.some.injEq] at hy
    subst hy
    have e1 : ((A ++ x :: b :: B).set A.length b).set (A.length + 1) x = A ++ b :: x :: B := by
      rw [set_mid _ _ _ _ _ rfl, show A ++ b :: b :: B = (A ++ [b]) ++ b :: B by simp, set_mid _ _ _ _ _ (by simp)]; simp
    have hlen : (A ++ b :: x :: B).length ≤ 31 := by simpa using hl
    have hc2 : isChk k (A ++ b :: x :: B) = true := by
      have h1 := chk_put_dig (d := b) hdy hc
      rw [show A ++ b :: b :: B = (A ++ [b]) ++ b :: B by simp] at h1
      have h2 := chk_put_dig (d := x) hdx h1
      simpa using h2
    rw [e1, test_chk hr hlen hc2]
    have ev : ∀ u v : UInt8, vals (A ++ u :: v :: B) = vals B ++ valC v :: valC u :: vals A := fun u v => by simp [vals]
    rw [ev] at hp
    rw [ev]
    have hB := vals_most (A := A ++ [x]) (x := b) (B := B) (k := k) (by simpa using hc)
    have := two_err hr (fun e => hB (by omega)) (chk_B hc).1 (valC_dig hdy).1 (valC_dig hdx).1 hp
    rw [this, vals_len]
    congr 2
    simp; omega
theorem val_inj {x c : UInt8} (hx : isDig x = true) (hc : isDig c = true) (h : valC x = valC c) : x = c := by rw [← dig_chr hx, ← dig_chr hc, h]
/-- Characters of a checked text of a system but the second kind are digits. -/
theorem all_dig {k : Nat} {T : List UInt8} (hc : isChk k T = true) (hk : k ≠ 2) : ∀ c ∈ T, isDig c = true := by
  obtain ⟨s, c, rfl, h1, h2, h3⟩ := (isChk_iff k T).1 hc
  intro d hd
  rcases List.mem_append.1 hd with hd | hd
  · exact h2 d hd
  · obtain rfl := List.mem_singleton.1 hd
    rw [isEnd_dec] at h3
    have := of_decide_eq_true h3
    unfold isDig; simp; omega
theorem u8_of {c : Nat} (h : c < 256) : (c : Int) = ((UInt8.ofNat c).toNat : Int) := by rw [UInt8.toNat_ofNat_of_lt' (show c < 256 from h)]
theorem dig_of {c : Nat} (h1 : 48 ≤ c) (h2 : c ≤ 57) : isDig (UInt8.ofNat c) = true := by
  unfold isDig; rw [UInt8.toNat_ofNat_of_lt' (show c < 256 by omega)]; simp; omega
theorem ne_of {c : Nat} {x : UInt8} (h : c < 256) (hn : (c : Int) ≠ (x.toNat : Int)) : x ≠ UInt8.ofNat c := fun e => hn (by rw [e, UInt8.toNat_ofNat_of_lt' (show c < 256 from h)])
theorem nat_ne {x y : UInt8} (hn : (x.toNat : Int) ≠ (y.toNat : Int)) : x ≠ y := fun e => hn (by rw [e])
/-- The permutation system finds all of them. -/
theorem finds_one {T : List UInt8} {i : Nat} {x c : UInt8} (hc : isChk 4 T = true) (hp : passD 4 [] (vals T) = true) (hl : T.length ≤ 31) (hx : T[i]? = some x) (hd : isDig c = true) (hn : x ≠ c) : testR 4 [] (T.set i c) = (false, 0) := by
  rw [err_set (by decide) hc hp hl hx hd]
  have : ¬ valC x = valC c := fun e => hn (val_inj (all_dig hc (by decide) x (List.mem_of_getElem? hx)) hd e)
  simp [sameD, this]
theorem finds_two {T : List UInt8} {i : Nat} {x y : UInt8} (hc : isChk 4 T = true) (hp : passD 4 [] (vals T) = true) (hl : T.length ≤ 31) (hx : T[i]? = some x) (hy : T[i + 1]? = some y) (hn : x ≠ y) : testR 4 [] ((T.set i y).set (i + 1) x) = (false, 0) := by
  have hdx := all_dig hc (by decide) x (List.mem_of_getElem? hx)
  have hdy := all_dig hc (by decide) y (List.mem_of_getElem? hy)
  rw [err_swap (by decide) hc hp hl hx hy hdx hdy]
  have : ¬ valC y = valC x := fun e => hn (val_inj hdy hdx e).symm
  simp [exchD, this]
theorem miss_perm_is {n : Nat} (h1 : 1 ≤ n) (h2 : n ≤ 30) : missR 4 [] (n : Int) = ([], 0) := by
  unfold missR; rw [show rightD 4 [] = true from by decide, if_neg (by decide), if_neg (by omega), Int.toNat_natCast, miss_perm]
theorem Pss_is {k : Nat} {wv : Value} {ws : List Int} {t : List UInt8} {b : Bool} {w : World} (hws : RdL w 1 encI wv ws) (h1 : ws.length ≤ 100000) (h2 : t.length ≤ 100000) (h : testR k ws t = (b, 0)) :
    Ret Tryd.prog 26 [.agg #[.int .u8 (k : Int), wv], .string ⟨t.toArray⟩] w (fun v w' => v = .bool b ∧ Ex w w') := by
  have := pss_ret k wv ws t w hws h1 h2
  rw [h, show decide ((b, (0 : Int)) = (true, 0)) = b by cases b <;> rfl] at this
  exact this
theorem nil_arg {w : World} : RdL w 1 encI (.slice none 0 0) [] := RdL.nil_ w
end Go.Proofs.YtnhkhpnkhkagaaaDoor
