/- Chapter 18: what the two great laws ask. -/
import Derived.Test.YtjaledljhiihmaaGG
import Derived.Test.YtjaledljhiihmaaKA
namespace Go.Proofs.Ytjaledljhiihmaa
theorem rerr1 (u : Value) (p : List Nat) (w : World) (hl : RdL w 1 encN u p) (hlen : p.length ≤ 100000) : Ret Try.prog 28 [u, .slice none 0 0] w (fun v w' => v = .int .i64 (errL [p]) ∧ Ex w w') :=
  (rerr_ret u _ p [] w hl (RdL.nil_ w) hlen (by simp)).mono fun v w' ⟨h, hx⟩ => ⟨by rw [h, errL_nil], hx⟩
theorem trpm_len (p q : List Nat) : (tr (pm p q)).length = if dg p = 0 ∨ dg q = 0 then 0 else dg p + dg q - 1 := by
  rw [tr_len]
  split
  · exact pm_zero p q (by assumption)
  · exact dg_pm p q (by omega) (by omega)
theorem isDiv_eq {p q d r d' r' : List Nat} (hq : El q) (h : IsDiv p q d r ∧ tr d = d ∧ tr r = r ∧ El d ∧ El r) (h' : IsDiv p q d' r') (h1 : tr d' = d') (h2 : tr r' = r') (h3 : El d') : d = d' ∧ r = r' := by
  obtain ⟨a1, a2, a3, a4, _⟩ := h
  obtain ⟨f1, f2⟩ := isDiv_uniq hq a4 h3 a1 h'
  exact ⟨by rw [← a2, ← h1]; exact tr_congr f1, by rw [← a3, ← h2]; exact tr_congr f2⟩
theorem div_lens {p q d r : List Nat} (hq : 0 < dg q) (h : IsDiv p q d r ∧ tr d = d ∧ tr r = r ∧ El d ∧ El r) : d.length ≤ dg p ∧ r.length < dg q := by
  obtain ⟨a1, a2, a3, _⟩ := h
  rw [← dg_of_tr a2, ← dg_of_tr a3]
  exact ⟨isDiv_dg hq a1, a1.lt⟩
end Go.Proofs.Ytjaledljhiihmaa
