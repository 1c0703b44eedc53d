/- Chapter 21: contracts as HeightMissing and HeightBack use them. -/
import Derived.Test.YtnecppiamecemaaHW
import Derived.Test.YtnecppiamecemaaHK
namespace Go.Proofs.Ytnecppiamecemaa
theorem setup_small (f : Fm) (h : f.Ok) : (setupOf f).pl ≤ 70 ∧ (setupOf f).og ≤ 555 ∧ (setupOf f).pi ≤ 256 ∧ (setupOf f).hi ≤ 305 ∧ 300 ≤ (setupOf f).og := by
  obtain ⟨⟨a1, a2⟩, ⟨b1, b2⟩, ⟨c1, c2⟩, ⟨d1, d2⟩, ⟨e1, e2⟩, g1, g2⟩ := h
  unfold setupOf
  simp only
  omega
theorem text_any (s : Su) (u : Value) (l : List UInt8) (w : World) (hs : Okay s) (hl : RdL w 1 encB u l) : Ret Try.prog 21 [s.v, u] w (fun v w' => ∃ T : List UInt8, v = .string ⟨T.toArray⟩ ∧ (T.length : Int) = s.pl ∧ T.all okLetter = true ∧ Ex w w') :=
  (text_ret s u l w hs hl).mono fun v w' ⟨e, hx⟩ => ⟨_, e, by rw [wantT_len]; have := hs.1; omega, wantT_ok s l, hx⟩
theorem draw_any (s : Su) (T : List UInt8) (w : World) (hs : Okay s) (hp : s.pl ≤ 70) (hT : (T.length : Int) = s.pl) (hok : T.all okLetter = true) : Ret Try.prog 18 [s.v, .string ⟨T.toArray⟩] w (fun v w' => ∃ u bs, v = .tuple #[u, .int .i64 0] ∧ RdL w' 3 Br.c u bs ∧ Reads s bs T ∧ bs.length ≤ 70 ∧ (∀ (k : Nat) (b : Br), bs[k]? = some b → ∃ (j : Nat) (c : UInt8), T[j]? = some c ∧ c ≠ 63 ∧ okLetter c = true ∧ b = mkb s c j) ∧ Ex w w') := by
  obtain ⟨e1, e2⟩ := drawErr_ok s T ⟨hs, hT, hok⟩
  refine (draw_ret s ⟨T.toArray⟩ w (by rw [size_bytes]; omega)).mono fun v w' ⟨u, e, hr, hx⟩ => ⟨u, drawL s T 0, by rw [e]; exact congrArg (fun x => Value.tuple #[u, .int .i64 x]) e1, by rw [← e2]; exact hr, draw_reads s T hs hT hok, ?_, fun k b hb => ?_, hx⟩
  · have := drawL_len s T 0; omega
  · obtain ⟨j, c, h1, h2, h3⟩ := (mem_draw s b T 0).1 (List.mem_of_getElem? hb)
    exact ⟨j, c, h1, h2, (List.all_eq_true.1 hok) c (List.mem_of_getElem? h1), by rw [h3, Nat.zero_add]⟩
theorem read_is (s : Su) (u : Value) (l : List Br) (w : World) {e : Int} {t : List UInt8} (hl : RdL w 3 Br.c u l) (hlen : l.length ≤ 1000) (he : errOf s l = e) (ht : readOf s l = t) : Ret Try.prog 10 [s.v, u] w (fun v w' => v = .tuple #[.string ⟨t.toArray⟩, .int .i64 e] ∧ Ex w w') := by
  subst he ht; exact read_ret s u l w hl hlen
theorem read_err (s : Su) (u : Value) (l : List Br) (w : World) {e : Int} (hl : RdL w 3 Br.c u l) (hlen : l.length ≤ 1000) (he : errOf s l = e) : Ret Try.prog 10 [s.v, u] w (fun v w' => v = .tuple #[.string ⟨(readOf s l).toArray⟩, .int .i64 e] ∧ Ex w w') := read_is s u l w hl hlen he rfl
theorem byte_next {T : List UInt8} {j : Nat} (h : j + 1 < T.length) : (⟨T.toArray⟩ : ByteArray).data.toList[((j : Int) + 1).toNat]? = some T[j + 1] := by
  rw [show ((j : Int) + 1).toNat = j + 1 from by omega]
  exact List.getElem?_eq_getElem h
theorem byte_is {T : List UInt8} {j : Nat} {c : UInt8} (h : T[j]? = some c) : (⟨T.toArray⟩ : ByteArray).data.toList[((j : Int) + 1).toNat - 1]? = some c := by
  rw [show ((j : Int) + 1).toNat - 1 = j from by omega]
  exact h
end Go.Proofs.Ytnecppiamecemaa
