/- Calls that are rejected. -/
import Derived.Test.YtjhgihgggofocaaST
namespace Go.Proofs.Ytjhgihgggofocaa
open Go.RowKit
def Bad (bl : List Nat) (el : List Int) : Prop := isW bl = false ∨ ¬ okE bl.length el
section
variable (u v0 : Value) (w : World)
theorem dec_bad (l : List Nat) (ei : List Int) (hl : RdL w 1 encN u l) (he : RdL w 1 encI v0 ei) (h1 : l.length ≤ 100000) (h2 : ei.length ≤ 100000) (hb : Bad l ei) :
    Ret Try.prog 13 [u, v0] w (fun v w' => ∃ A B C D, v = .tuple #[.agg ([.slice A 0 B, .slice C 0 D] : List Value).toArray, .int .i64 2] ∧ Ex w w') := by
  refine (decode_ret u v0 l ei w hl he h1 h2).mono ?_
  rintro v w' ⟨r, x, c, es, e, rfl, ho, hx', hdp, hx⟩
  have key : e = 2 ∧ c = [] ∧ es = [] := by
    rcases hdp with ⟨_, h⟩ | ⟨h3, h4, _⟩
    · exact h
    · rcases hb with h | h
      · rw [h3] at h; cases h
      · exact absurd h4 h
  obtain ⟨rfl, rfl, rfl⟩ := key
  obtain ⟨A, B, rfl⟩ := ho.shape
  obtain ⟨C, D, rfl⟩ := hx'.shape
  exact ⟨A, B, C, D, rfl, hx⟩
theorem dec_many (l : List Nat) (ei : List Int) (hl : RdL w 1 encN u l) (he : RdL w 1 encI v0 ei) (hW : isW l = true) (hok : okE l.length ei) (h4 : 4 < ei.length) (h5 : ei.length ≤ 100000) :
    Ret Try.prog 13 [u, v0] w (fun v w' => ∃ A B C D, v = .tuple #[.agg ([.slice A 0 B, .slice C 0 D] : List Value).toArray, .int .i64 190] ∧ Ex w w') := by
  have h63 := (isW_iff.1 hW).2.1
  refine (decode_ret u v0 l ei w hl he (by omega) h5).mono ?_
  rintro v w' ⟨r, x, c, es, e, rfl, ho, hx', hdp, hx⟩
  have key : e = 190 ∧ c = [] ∧ es = [] := by
    rcases hdp with ⟨h | h, _⟩ | ⟨_, _, ⟨_, h⟩ | ⟨h, _⟩⟩
    · rw [hW] at h; cases h
    · exact absurd hok h
    · exact h
    · omega
  obtain ⟨rfl, rfl, rfl⟩ := key
  obtain ⟨A, B, rfl⟩ := ho.shape
  obtain ⟨C, D, rfl⟩ := hx'.shape
  exact ⟨A, B, C, D, rfl, hx⟩
theorem enc_no (l : List Nat) (hl : RdL w 1 encN u l) (h1 : l.length ≤ 100000) (hno : encOk l = false) : Ret Try.prog 23 [u] w (fun v w' => v = .tuple #[.slice none 0 0, .int .i64 2] ∧ Ex w w') := by
  refine (encode_ret u l w hl h1).mono ?_
  rintro v w' ⟨r, c, rfl, _, _, hn, hx⟩
  obtain ⟨rfl, rfl⟩ := hn hno
  exact ⟨by rw [hno]; rfl, hx⟩
theorem synd_err (l : List Nat) (hl : RdL w 1 encN u l) (h1 : l.length ≤ 100000) : Ret Try.prog 24 [u] w (fun v w' => ∃ r, v = .tuple #[r, .int .i64 (if isW l then 0 else 2)] ∧ Ex w w') := by
  refine (synd_ret u l w hl h1).mono ?_
  rintro v w' ⟨⟨h, rfl⟩ | ⟨h, g, _, rfl, _⟩, hx⟩
  · exact ⟨_, by rw [h]; rfl, hx⟩
  · exact ⟨_, by rw [h]; rfl, hx⟩
theorem valid_no (l : List Nat) (hl : RdL w 1 encN u l) (h1 : l.length ≤ 100000) (h : isW l = false) : Ret Try.prog 25 [u] w (fun v w' => v = .bool false ∧ Ex w w') := by
  have k := valid_ret u l w hl h1
  rw [show vldB l = false by unfold vldB; rw [h]; rfl] at k; exact k
end
theorem CW.cut4 {P : Program} {Q : Exit → Act → World → Prop} {n : Nat} {S : Slots} {w : World} {α β γ δ : Type} {c : Code} (F : Slots) (_ : Sub F S) (I : α → β → γ → δ → Slots) (J : α → β → γ → δ → World → Prop)
    (first : CW P c (Exit.then (fun a' w' => ∃ x y z t, Fr n (I x y z t ++ F) a' ∧ J x y z t w') Q) n S w) (rest : ∀ x y z t w', J x y z t w' → QW Q .normal n (I x y z t ++ F) w') : CW P c Q n S w :=
  CW.cut (γ := α × β × γ × δ) (fun g => I g.1 g.2.1 g.2.2.1 g.2.2.2 ++ F) (fun g => J g.1 g.2.1 g.2.2.1 g.2.2.2) (fun a ha => wp_mono (first a ha) (by
    intro e a w h
    cases e <;> first | exact h | (obtain ⟨x, y, z, t, h⟩ := h; exact ⟨(x, y, z, t), h⟩))) fun g w' => rest g.1 g.2.1 g.2.2.1 g.2.2.2 w'
theorem QW.meet4 {Q : Exit → Act → World → Prop} {n : Nat} {S : Slots} {w : World} {α β γ δ : Type} {F : Slots} {I : α → β → γ → δ → Slots} {J : α → β → γ → δ → World → Prop} (x : α) (y : β) (z : γ) (t : δ) (hS : Sub (I x y z t) S) (hF : Sub F S) (hJ : J x y z t w) :
    QW (Exit.then (fun a' w' => ∃ x y z t, Fr n (I x y z t ++ F) a' ∧ J x y z t w') Q) .normal n S w := fun _ ha => ⟨x, y, z, t, ha.sub (hS.app hF), hJ⟩
theorem CW.cut3 {P : Program} {Q : Exit → Act → World → Prop} {n : Nat} {S : Slots} {w : World} {α β γ : Type} {c : Code} (F : Slots) (_ : Sub F S) (I : α → β → γ → Slots) (J : α → β → γ → World → Prop)
    (first : CW P c (Exit.then (fun a' w' => ∃ x y z, Fr n (I x y z ++ F) a' ∧ J x y z w') Q) n S w) (rest : ∀ x y z w', J x y z w' → QW Q .normal n (I x y z ++ F) w') : CW P c Q n S w :=
  CW.cut (γ := α × β × γ) (fun g => I g.1 g.2.1 g.2.2 ++ F) (fun g => J g.1 g.2.1 g.2.2) (fun a ha => wp_mono (first a ha) (by
    intro e a w h
    cases e <;> first | exact h | (obtain ⟨x, y, z, h⟩ := h; exact ⟨(x, y, z), h⟩))) fun g w' => rest g.1 g.2.1 g.2.2 w'
/-! the seven ways -/
theorem bad_take (c : List Nat) : isW (c.take 4) = false := by
  cases h : isW (c.take 4) with
  | false => rfl
  | true => have := (isW_iff.1 h).1; rw [List.length_take] at this; omega
theorem bad_set {c : List Nat} {i a : Nat} (hi : i < c.length) (ha : 64 ≤ a) : isW (c.set i a) = false := by
  cases h : isW (c.set i a) with
  | false => rfl
  | true =>
    have := (isW_iff.1 h).2.2 a (List.mem_of_getElem? (List.getElem?_set_self hi))
    omega
theorem bad_big {n : Nat} {a : Int} (h : (n : Int) ≤ a) : ¬ okE n [a] := fun hk => by have := (hk.1 a (by simp)).2; omega
theorem bad_neg {n : Nat} {a : Int} (h : a ≤ -1) : ¬ okE n [a] := fun hk => by have := (hk.1 a (by simp)).1; omega
theorem bad_dup {n : Nat} : ¬ okE n [1, 2, 1] := fun hk => absurd hk.2 (by decide)
theorem ok_five {n : Nat} (h : 4 < n) : okE n [0, 1, 2, 3, 4] := ⟨fun a ha => by simp at ha; omega, by decide⟩
end Go.Proofs.Ytjhgihgggofocaa
