/- Plain: writing, reading, framing. -/
import Derived.Test.YtgafkbnlhlbmkaaBZ
namespace Go.Proofs.Ytgafkbnlhlbmkaa
open Go.RowKit
def ltr (n : Nat) : UInt8 := if n = 0 then 84 else if n = 1 then 65 else if n = 2 then 68 else if n = 3 then 70 else 63
def w3 (s : UInt8) : List UInt8 := [ltr (s.toNat / 16), ltr (s.toNat / 4 % 4), ltr (s.toNat % 4)]
def writeB (l : List UInt8) : List UInt8 × Int := if 66 < l.length then ([], 3) else if l.all (fun s => decide (s.toNat < 64)) then (l.flatMap w3, 0) else ([], 2)
theorem ltr_s4 {n : Nat} (h : n < 4) : s4[n]? = some (ltr n) := by
  match n, h with
  | 0, _ => rfl
  | 1, _ => rfl
  | 2, _ => rfl
  | 3, _ => rfl
theorem w3_len (s : UInt8) : (w3 s).length = 3 := rfl
theorem w3s_len (l : List UInt8) : (l.flatMap w3).length = 3 * l.length := by
  induction l with
  | nil => rfl
  | cons c l ih => rw [List.flatMap_cons, List.length_append, ih, List.length_cons, w3_len]; omega
theorem w3_more {l : List UInt8} {i : Nat} {x : UInt8} (h : l[i]? = some x) : (l.take (i + 1)).flatMap w3 = (l.take i).flatMap w3 ++ w3 x := by
  rw [List.take_add_one, h, Option.toList_some, List.flatMap_append, List.flatMap_singleton]
theorem w_long {l : List UInt8} (h : 66 < l.length) : writeB l = ([], 3) := by unfold writeB; rw [if_pos h]
theorem w_bad {l : List UInt8} {x : UInt8} {i : Nat} (h : ¬ 66 < l.length) (hi : l[i]? = some x) (hx : 64 ≤ x.toNat) : writeB l = ([], 2) := by
  unfold writeB
  rw [if_neg h, if_neg]
  rw [List.all_eq_true]
  intro ha
  have := of_decide_eq_true (ha x (List.mem_of_getElem? hi))
  omega
theorem w_ok {l : List UInt8} (h : ¬ 66 < l.length) (ha : l.all (fun s => decide (s.toNat < 64)) = true) : writeB l = (l.flatMap w3, 0) := by
  unfold writeB; rw [if_neg h, if_pos ha]
theorem sym_more {l : List UInt8} {i : Nat} {x : UInt8} (h : l[i]? = some x) (ha : (l.take i).all (fun s => decide (s.toNat < 64)) = true) (hx : x.toNat < 64) : (l.take (i + 1)).all (fun s => decide (s.toNat < 64)) = true := all_take h ha (decide_eq_true hx)
/-! framing -/
def framed (t : List UInt8) : Bool := decide (4 ≤ t.length) && decide (t.take 2 = [65, 84]) && decide (t.drop (t.length - 2) = [70, 68])
def inner (t : List UInt8) : List UInt8 := (t.take (t.length - 2)).drop 2
def betweenB (t : List UInt8) : List UInt8 × Bool := if framed t then (inner t, true) else ([], false)
def turnB (t : List UInt8) : List UInt8 × Int := if errB 0 t = 0 then (turnL t, 0) else ([], errB 0 t)
def frameB (t : List UInt8) : List UInt8 × Int := if errB 4 t = 0 then ([65, 84] ++ t ++ [70, 68], 0) else ([], errB 4 t)
def unframeB (t : List UInt8) : List UInt8 × Bool × Int := if errB 0 t = 0 then (if framed t then (inner t, false, 0) else if framed (turnL t) then (inner (turnL t), true, 0) else ([], false, 200)) else ([], false, errB 0 t)
theorem err_ok {m : Nat} {t : List UInt8} (h : errB m t = 0) : t.length + m ≤ 200 ∧ t.all isL = true := by
  unfold errB at h
  split at h
  · cases h
  · split at h
    · exact ⟨by omega, by assumption⟩
    · cases h
theorem isL_lo {c : UInt8} (h : isL c = true) : c.toNat < 128 := by have := of_decide_eq_true h; omega
theorem all_lo {t : List UInt8} (h : t.all isL = true) : ∀ c ∈ t, c.toNat < 128 := fun c hc => isL_lo (List.all_eq_true.1 h c hc)
theorem bx_eq {a b : List UInt8} : ((⟨a.toArray⟩ : ByteArray) = ⟨b.toArray⟩) ↔ a = b := ⟨fun h => by injection h with h; injection h, fun h => by rw [h]⟩
theorem framed_yes {t : List UInt8} (h1 : 4 ≤ t.length) (h2 : t.take 2 = [65, 84]) (h3 : t.drop (t.length - 2) = [70, 68]) : framed t = true := by unfold framed; rw [decide_eq_true h1, decide_eq_true h2, decide_eq_true h3]; rfl
theorem framed_no {t : List UInt8} (h : t.length < 4 ∨ ¬ t.take 2 = [65, 84] ∨ ¬ t.drop (t.length - 2) = [70, 68]) : framed t = false := by
  unfold framed
  rcases h with h | h | h
  · rw [decide_eq_false (show ¬ 4 ≤ t.length by omega)]; rfl
  · rw [decide_eq_false h]; simp
  · rw [decide_eq_false h]; simp
theorem btw_yes {t : List UInt8} (h : framed t = true) : betweenB t = (inner t, true) := by unfold betweenB; rw [h]; rfl
theorem btw_no {t : List UInt8} (h : framed t = false) : betweenB t = ([], false) := by unfold betweenB; rw [h]; rfl
theorem btw_t {t : List UInt8} (h : (betweenB t).2 = true) : framed t = true ∧ (betweenB t).1 = inner t := by
  cases hf : framed t with
  | true => exact ⟨rfl, by rw [btw_yes hf]⟩
  | false => rw [btw_no hf] at h; cases h
theorem btw_f {t : List UInt8} (h : (betweenB t).2 = false) : framed t = false := by
  cases hf : framed t with
  | true => rw [btw_yes hf] at h; cases h
  | false => rfl
theorem unf_err {t : List UInt8} (h : ¬ errB 0 t = 0) : unframeB t = ([], false, errB 0 t) := by unfold unframeB; rw [if_neg h]
theorem unf_up {t : List UInt8} (h : errB 0 t = 0) (hf : framed t = true) : unframeB t = (inner t, false, 0) := by unfold unframeB; rw [if_pos h, hf]; rfl
theorem unf_dn {t : List UInt8} (h : errB 0 t = 0) (hf : framed t = false) (hg : framed (turnL t) = true) : unframeB t = (inner (turnL t), true, 0) := by unfold unframeB; rw [if_pos h, hf, hg]; rfl
theorem unf_no {t : List UInt8} (h : errB 0 t = 0) (hf : framed t = false) (hg : framed (turnL t) = false) : unframeB t = ([], false, 200) := by unfold unframeB; rw [if_pos h, hf, hg]; rfl
end Go.Proofs.Ytgafkbnlhlbmkaa
