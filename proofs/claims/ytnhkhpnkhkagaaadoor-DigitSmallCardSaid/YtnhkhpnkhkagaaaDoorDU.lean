/- Chapter 16: what the laws make of their arguments. -/
import Derived.Test.YtnhkhpnkhkagaaaDoorDT
namespace Go.Proofs.YtnhkhpnkhkagaaaDoor
def dgt (b : UInt8) : UInt8 := chr (b.toNat % 10)
def payL (l : List UInt8) : List UInt8 := if l.take 30 = [] then [48] else (l.take 30).map dgt
theorem dgt_dig (b : UInt8) : isDig (dgt b) = true := isDig_chr (Nat.mod_lt _ (by omega))
theorem dgt_nat (b : UInt8) : 48 + (b.toNat : Int) % 10 = ((dgt b).toNat : Int) := by
  have h := Nat.mod_lt b.toNat (show 10 > 0 by omega)
  unfold dgt; rw [chr_toNat (by omega), if_neg (by omega)]; omega
theorem payL_pay (l : List UInt8) : isPay (payL l) = true := by
  unfold payL
  split
  · decide
  · rename_i h
    rw [isPay_iff]
    refine ⟨fun e => h (List.map_eq_nil_iff.1 e), fun c hc => ?_⟩
    obtain ⟨b, _, rfl⟩ := List.mem_map.1 hc
    exact dgt_dig b
theorem payL_len (l : List UInt8) : 1 ≤ (payL l).length ∧ (payL l).length ≤ 30 := by
  unfold payL
  split
  · decide
  · rw [List.length_map]
    have : (l.take 30).length ≠ 0 := fun e => absurd (List.eq_nil_of_length_eq_zero e) (by assumption)
    rw [List.length_take] at *
    omega
theorem pay_take {α : Type} {l : List α} {i m : Nat} (hi : i ≤ m) (h : ¬ (i < l.length) ∨ ¬ (i < m)) : l.take i = l.take m := by
  rcases Nat.lt_or_ge i m with h1 | h1
  · have h2 : ¬ i < l.length := by rcases h with h | h; exact h; exact absurd h1 h
    rw [List.take_of_length_le (by omega), List.take_of_length_le (by omega)]
  · rw [show i = m by omega]
/-- The weights that a law makes. -/
def wf (m : Nat) (b : UInt8) : Int := 1 + (b.toNat : Int) % (m : Int)
def wlD (m : Nat) (l : List UInt8) : List Int := if l.take 10 = [] then [1] else (l.take 10).map (wf m)
theorem right_wl (m k : Nat) (l : List UInt8) (hk : (k = 1 ∧ m = 9) ∨ (k = 2 ∧ m = 10)) : rightD k (wlD m l) = true := by
  have hw : ∀ b, okW k (wf m b) = true := fun b => by
    unfold okW wf
    rcases hk with ⟨rfl, rfl⟩ | ⟨rfl, rfl⟩ <;> simp <;> omega
  unfold rightD wlD
  rw [if_pos (by omega)]
  split
  · rcases hk with ⟨rfl, rfl⟩ | ⟨rfl, rfl⟩ <;> decide
  · rename_i h
    have : (l.take 10).length ≠ 0 := fun e => absurd (List.eq_nil_of_length_eq_zero e) h
    rw [List.length_map, decide_eq_true (by omega), decide_eq_true (by rw [List.length_take]; omega), Bool.true_and, Bool.true_and]
    exact List.all_eq_true.2 fun x hx => by
      obtain ⟨b, _, rfl⟩ := List.mem_map.1 hx
      exact hw b
theorem take_nil {α : Type} {l : List α} (f : α → Int) (h : ((l.map f).length : Int) = 0) : l = [] := List.eq_nil_of_length_eq_zero (by rw [List.length_map] at h; omega)
theorem take_ne {α : Type} {l : List α} (f : α → Int) (h : ¬ ((l.map f).length : Int) = 0) : l ≠ [] := fun e => h (by subst e; rfl)
theorem Mkd.cells {w : World} {g : Nat} {e : TypeId} {l : List UInt8} (h : Mkd w g e l) : Cells w ⟨g, 0, none⟩ (l.flatMap encB) := by
  obtain ⟨tl, hg⟩ := h
  intro j u hu
  rw [add_at, cell_of_row w g _ _ e _ hg, List.getElem?_toArray, List.getElem?_append_left (List.getElem?_eq_some_iff.1 hu).1]
  exact hu
theorem flat_b {l : List UInt8} {i : Nat} {c : UInt8} (h : l[i]? = some c) : (l.flatMap encB)[i * 1]? = some (.int .u8 c.toNat) := by
  have := getElem?_flatMap_at encB_len l i c h 0 _ rfl
  simpa using this
theorem veqs_miss (a b : MissT) : veqs (encM a) (encM b) = decide (a = b) := by
  obtain ⟨a1, a2, a3, a4⟩ := a; obtain ⟨b1, b2, b3, b4⟩ := b
  simp only [veqs, veq, Bool.and_true]
  rw [Bool.eq_iff_iff]
  simp only [Bool.and_eq_true, decide_eq_true_eq, Prod.mk.injEq]
  constructor
  · rintro ⟨h1, h2, h3, h4⟩; exact ⟨h1, by omega, by omega, by omega⟩
  · rintro ⟨rfl, rfl, rfl, rfl⟩; simp
theorem no_more {α : Type} {l : List α} {i : Nat} {x t : α} (hx : l[i]? = some x) (h : t ∉ l.take i) (hn : ¬ x = t) : t ∉ l.take (i + 1) := by
  rw [take_more hx, List.mem_append]
  rintro (h2 | h2)
  · exact h h2
  · exact hn (List.mem_singleton.1 h2).symm
theorem pair_iff {a : Bool × Int} (h : a.1 = true) : decide (a.2 = 0) = decide (a = (true, 0)) := by
  rw [decide_eq_decide]
  exact ⟨fun e => Prod.ext h e, fun e => by rw [e]⟩
theorem pair_no {a : Bool × Int} (h : a.1 = false) : false = decide (a = (true, 0)) := by
  rw [decide_eq_false (fun e => by rw [e] at h; cases h)]
end Go.Proofs.YtnhkhpnkhkagaaaDoor
