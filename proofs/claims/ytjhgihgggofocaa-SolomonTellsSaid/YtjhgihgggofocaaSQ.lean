/- The calls of Decode, Encode, Syndromes at what is known. -/
import Derived.Test.YtjhgihgggofocaaSN
import Derived.Test.YtjhgihgggofocaaSP
import Derived.Test.YtjhgihgggofocaaLX
namespace Go.Proofs.Ytjhgihgggofocaa
open Go.RowKit
theorem encs4_flat (l : List Nat) : encs4 l = l.flatMap encN := by
  induction l with
  | nil => rfl
  | cons a l ih => rw [List.flatMap_cons, ← ih]; rfl
theorem rdl_i {w : World} {u : Value} {l : List Nat} (h : RdL w 1 encZ u l) : RdL w 1 encI u (l.map (fun n : Nat => (n : Int))) := RdL.map_ (fun n : Nat => (n : Int)) (fun _ => rfl) h
theorem enc_code {l c : List Nat} (h : IsEnc l c) : Code_ (l.length + 4) c := ⟨h.len, h.el, h.syn⟩
theorem enc_uniq {l c d : List Nat} (hl : l.length ≤ 59) (hc : IsEnc l c) (hd : Code_ (l.length + 4) d) (ht : d.take l.length = l) : c = d := by
  refine code_uniq (P := [l.length, l.length + 1, l.length + 2, l.length + 3]) (by omega) (enc_code hc) hd (by simp) (by simp) (by simp) fun i hi => ?_
  simp only [List.mem_cons, List.not_mem_nil, or_false, not_or] at hi
  rcases Nat.lt_or_ge i l.length with h | h
  · have e1 := cf_take c l.length i
    have e2 := cf_take d l.length i
    rw [if_pos h] at e1 e2
    rw [← e1, ← e2, hc.pre, ht]
  · rw [cf_none (by rw [hc.len]; omega), cf_none (by rw [hd.len]; omega)]
section
variable (u v0 : Value) (w : World)
theorem enc_is (l c : List Nat) (hl : RdL w 1 encN u l) (hok : encOk l = true) (hc : Code_ (l.length + 4) c) (ht : c.take l.length = l) :
    Ret Try.prog 23 [u] w (fun v w' => ∃ r, v = .tuple #[r, .int .i64 0] ∧ Own w' w.heap.size 5 1 encN r c ∧ Ex w w') := by
  obtain ⟨h1, h2, h3⟩ := encOk_iff.1 hok
  refine (encode_ret u l w hl (by omega)).mono ?_
  rintro v w' ⟨r, c', rfl, ho, he, _, hx⟩
  have := enc_uniq h2 (he hok) hc ht
  subst this
  exact ⟨r, by rw [hok]; rfl, ho, hx⟩
theorem synd_is (l : List Nat) (hl : RdL w 1 encN u l) (hW : isW l = true) :
    Ret Try.prog 24 [u] w (fun v w' => ∃ r, v = .tuple #[r, .int .i64 0] ∧ RdL w' 1 encN r (syL l) ∧ Ex w w') := by
  have h63 := (isW_iff.1 hW).2.1
  refine (synd_ret u l w hl (by omega)).mono ?_
  rintro v w' ⟨⟨h, _⟩ | ⟨_, g, _, rfl, hb⟩, hx⟩
  · rw [hW] at h; cases h
  · exact ⟨_, rfl, RdL.of_blk (l := syL l) encN_len (by rw [← encs4_flat]; exact hb) (Nat.le_refl _) (by simp [maxLen]), hx⟩
theorem dec_is (l : List Nat) (ei : List Int) (d es : List Nat) (hl : RdL w 1 encN u l) (he : RdL w 1 encI v0 ei) (hW : isW l = true) (hok : okE l.length ei) (h4 : ei.length ≤ 4) (hd : Code_ l.length d) (hD : diffs l d (erN ei) = es) (hb : 2 * es.length + ei.length ≤ 4) :
    Ret Try.prog 13 [u, v0] w (fun v w' => ∃ A B C D, v = .tuple #[.agg ([.slice A d.length B, .slice C es.length D] : List Value).toArray, .int .i64 0] ∧ Own w' w.heap.size 5 1 encN (.slice A d.length B) d ∧ Own w' w.heap.size 3 1 encZ (.slice C es.length D) es ∧ Ex w w') := by
  obtain ⟨h1, h2, h3⟩ := isW_iff.1 hW
  refine (decode_ret u v0 l ei w hl he (by omega) (by omega)).mono ?_
  rintro v w' ⟨r, x, c, es', e, rfl, ho, hx', hdp, hx⟩
  have hlen : (erN ei).length = ei.length := List.length_map ..
  rcases hdp with ⟨h | h, _⟩ | ⟨_, _, ⟨h, _⟩ | ⟨_, hf⟩⟩
  · rw [hW] at h; cases h
  · exact absurd hok h
  · omega
  · have hnd : (erN ei).Nodup := by
      unfold erN
      rw [List.Nodup, List.pairwise_map]
      refine List.Pairwise.imp_of_mem (fun {a b} ha hb hne e => ?_) hok.2
      have := hok.1 a ha
      have := hok.1 b hb
      exact hne (by omega)
    obtain ⟨rfl, rfl, h9⟩ := found_is h3 h2 hnd (fun a ha => by obtain ⟨z, hz, rfl⟩ := List.mem_map.1 ha; have := hok.1 z hz; omega) (by omega) hd (by rw [hD]; omega) hf
    rw [hD] at h9
    subst h9
    obtain ⟨A, B, rfl⟩ := ho.shape
    obtain ⟨C, D, rfl⟩ := hx'.shape
    exact ⟨A, B, C, D, rfl, ho, hx', hx⟩
end
theorem code_dec {n : Nat} {c : List Nat} (h : (Nat.beq c.length n && c.all (fun a => Nat.blt a 64) && Nat.beq (sy c 0) 0 && Nat.beq (sy c 1) 0 && Nat.beq (sy c 2) 0 && Nat.beq (sy c 3) 0) = true) : Code_ n c := by
  simp only [Bool.and_eq_true] at h
  obtain ⟨⟨⟨⟨⟨h1, h2⟩, h3⟩, h4⟩, h5⟩, h6⟩ := h
  refine ⟨Nat.eq_of_beq_eq_true h1, fun a ha => by simpa [Nat.blt_eq] using List.all_eq_true.1 h2 a ha, fun r hr => ?_⟩
  match r, hr with
  | 0, _ => exact Nat.eq_of_beq_eq_true h3
  | 1, _ => exact Nat.eq_of_beq_eq_true h4
  | 2, _ => exact Nat.eq_of_beq_eq_true h5
  | 3, _ => exact Nat.eq_of_beq_eq_true h6
theorem good_code : Code_ 5 [1, 30, 29, 17, 48] := code_dec (by decide +kernel)
theorem zero_code : Code_ 5 [0, 0, 0, 0, 0] := code_dec (by decide +kernel)
end Go.Proofs.Ytjhgihgggofocaa
