/- Chapter 16, plain: what is rejected. -/
import Derived.Test.YtnhkhpnkhkagaaaDoorDX
namespace Go.Proofs.YtnhkhpnkhkagaaaDoor
theorem right_len4 {k : Nat} {ws : List Int} (h : rightD k ws = true) : ws.length ≤ 10000 := by
  rcases right_kind h with rfl | rfl | rfl | rfl
  · have := (right_ws h (.inl rfl)).2.1; omega
  · have := (right_ws h (.inr rfl)).2.1; omega
  · rw [right_ws0 h (.inl rfl)]; decide
  · rw [right_ws0 h (.inr rfl)]; decide
theorem right_bad {k : Nat} {ws : List Int} (h : rightD k ws = true) : rightD k (ws ++ [11]) = false := by
  rw [Bool.eq_false_iff]
  intro h2
  rcases right_kind h with rfl | rfl | rfl | rfl
  · have := (right_ws h2 (.inl rfl)).2.2 11 (by simp); simp at this
  · have := (right_ws h2 (.inr rfl)).2.2 11 (by simp); simp at this
  · have := right_ws0 h2 (.inl rfl); simp at this
  · have := right_ws0 h2 (.inr rfl); simp at this
section
variable {k : Nat} {ws : List Int} {t : List UInt8}
theorem chk_bad (h : rightD k ws = false) : checkR k ws t = (0, 160) := by unfold checkR; rw [h]; rfl
theorem app_bad (h : rightD k ws = false) : appendR k ws t = ([], 160) := by unfold appendR; rw [chk_bad h]; rfl
theorem tst_bad (h : rightD k ws = false) : testR k ws t = (false, 160) := by unfold testR; rw [h]; rfl
theorem fil_bad (h : rightD k ws = false) : fillR k ws t = ([], 160) := by unfold fillR; rw [h]; rfl
theorem mis_bad {n : Int} (h : rightD k ws = false) : missR k ws n = ([], 160) := by unfold missR; rw [h]; rfl
theorem chk_long (h : rightD k ws = true) (hl : 30 < t.length) : checkR k ws t = (0, 3) := by unfold checkR; rw [h, if_neg (by decide), if_pos hl]
theorem app_long (h : rightD k ws = true) (hl : 30 < t.length) : appendR k ws t = ([], 3) := by unfold appendR; rw [chk_long h hl]; rfl
theorem tst_long (h : rightD k ws = true) (hl : 31 < t.length) : testR k ws t = (false, 3) := by unfold testR; rw [h, if_neg (by decide), if_pos hl]
theorem fil_long (h : rightD k ws = true) (hl : 31 < t.length) : fillR k ws t = ([], 3) := by unfold fillR; rw [h, if_neg (by decide), if_pos hl]
theorem mis_arg {n : Int} (h : rightD k ws = true) (hl : n < 1 ∨ 30 < n) : missR k ws n = ([], 2) := by unfold missR; rw [h, if_neg (by decide), if_pos hl]
theorem fil_no (h : rightD k ws = true) (hl : t.length ≤ 31) (hc : t.count 63 ≠ 1 ∨ isChk k (zeroQ t) = false) : fillR k ws t = ([], 161) := by unfold fillR; rw [h, if_neg (by decide), if_neg (by omega), if_pos hc]
theorem count_pay (h : isPay t = true) : t.count 63 ≠ 1 := fun e => by
  have := ((isPay_iff t).1 h).2 63 (List.count_pos_iff.1 (by omega))
  exact absurd this (by decide)
end
theorem pay_set {D : List UInt8} {i : Nat} (h : isPay D = true) (hi : i < D.length) (c : UInt8) : isPay (D.set i c) = isDig c := by
  rw [Bool.eq_iff_iff, isPay_iff]
  have hd := ((isPay_iff D).1 h).2
  constructor
  · intro ⟨_, h2⟩
    exact h2 c (List.mem_of_getElem? (List.getElem?_set_self hi))
  · intro hc
    refine ⟨fun e => ?_, fun d hm => ?_⟩
    · have := congrArg List.length e; rw [List.length_set] at this; have h0 : D.length = 0 := this; omega
    · rcases List.mem_or_eq_of_mem_set hm with hm | rfl
      · exact hd d hm
      · exact hc
def wantE (c : UInt8) : Int := if isDig c then 0 else 161
theorem wantE_or (c : UInt8) : (48 ≤ c.toNat ∧ c.toNat ≤ 57 ∧ wantE c = 0) ∨ ((c.toNat < 48 ∨ 57 < c.toNat) ∧ wantE c = 161) := by
  unfold wantE
  by_cases h : isDig c = true
  · rw [if_pos h]; have := dig_bounds h; omega
  · rw [if_neg h]
    have : ¬ (48 ≤ c.toNat ∧ c.toNat ≤ 57) := fun e => h (by unfold isDig; simp; omega)
    omega
theorem chk_want {k : Nat} {ws : List Int} {D : List UInt8} {i : Nat} (hr : rightD k ws = true) (h : isPay D = true) (hl : D.length ≤ 30) (hi : i < D.length) (c : UInt8) : ∃ x, checkR k ws (D.set i c) = (x, wantE c) := by
  unfold wantE
  by_cases hc : isDig c = true
  · rw [if_pos hc]; exact ⟨_, check_right hr (by rw [pay_set h hi, hc]) (by simpa using hl)⟩
  · rw [if_neg hc]; exact ⟨_, check_no_pay hr (by rw [pay_set h hi]; simpa using hc) (by simpa using hl)⟩
theorem tst_want {k : Nat} {ws : List Int} {D : List UInt8} {i : Nat} (hr : rightD k ws = true) (h : isPay D = true) (hl : D.length ≤ 30) (hi : i < D.length) (c : UInt8) : ∃ x, testR k ws (D.set i c ++ [48]) = (x, wantE c) := by
  have e : isChk k (D.set i c ++ [48]) = isDig c := by rw [isChk_snoc, pay_set h hi, isEnd_dec, decide_eq_true (.inl (by decide)), Bool.and_true]
  unfold wantE
  by_cases hc : isDig c = true
  · rw [if_pos hc, test_right hr (by simpa using hl), e, hc]; exact ⟨_, rfl⟩
  · rw [if_neg hc]; exact ⟨_, test_no_chk hr (by rw [e]; simpa using hc) (by simpa using hl)⟩
theorem Right_is {k : Nat} {wv : Value} {ws : List Int} {b : Bool} {w : World} (hws : RdL w 1 encI wv ws) (h1 : ws.length ≤ 100000) (h : rightD k ws = b) :
    Ret Tryd.prog 22 [.agg #[.int .u8 (k : Int), wv]] w (fun v w' => v = .bool b ∧ Ex w w') := by
  have := right_ret k wv ws w hws h1; rw [h] at this; exact this
theorem u8_arg {a : Int} (h : 0 ≤ a ∧ a ≤ 255) : ∃ c : UInt8, a = (c.toNat : Int) := ⟨UInt8.ofNat a.toNat, by rw [UInt8.toNat_ofNat_of_lt' (show a.toNat < 256 by omega)]; omega⟩
section
variable {P : Program} {ops : Array Oper} {Q : Exit → Act → World → Prop} {n f : Nat} {S : Slots} {w : World} {U : List Nat} {row : Rk} {listed : Array Bool}
theorem AG.three (i j k : Nat) {oi oj ok : Oper} (hi : ops[i]? = some oi) (hj : ops[j]? = some oj) (hk : ops[k]? = some ok) (hr : Region.ready .any ops listed = [i, j, k]) (ki : RG P ops (AN P ops Q U row f listed i w) n [oi] S w) (kj : RG P ops (AN P ops Q U row f listed j w) n [oj] S w) (kk : RG P ops (AN P ops Q U row f listed k w) n [ok] S w) : AG P ops Q U row n (f + 1) listed S w :=
  AG.each hr (by simp) fun x hx => by
    simp only [List.mem_cons, List.not_mem_nil, or_false] at hx
    rcases hx with rfl | rfl | rfl
    · exact ⟨oi, hi, ki⟩
    · exact ⟨oj, hj, kj⟩
    · exact ⟨ok, hk, kk⟩
end
end Go.Proofs.YtnhkhpnkhkagaaaDoor
