/- []byte(s), written in place: its block bears a mark behind its end. -/
import Derived.Test.YtgafkbnlhlbmkaaLM
namespace Go.Proofs.Ytgafkbnlhlbmkaa
open Go.RowKit
def Mkd (w : World) (g : Nat) (e : TypeId) (l : List UInt8) : Prop := ∃ tl : List Value, w.heap[g]? = some (.cells (l.flatMap encB ++ tl).toArray e ((l.flatMap encB ++ tl).length, (l.flatMap encB ++ tl).length + 1))
section
variable {w w' : World} {g : Nat} {e : TypeId} {l : List UInt8}
theorem Mkd.lt (h : Mkd w g e l) : g < w.heap.size := by
  obtain ⟨tl, h⟩ := h
  rcases Nat.lt_or_ge g w.heap.size with hlt | hge
  · exact hlt
  · rw [Array.getElem?_eq_none hge] at h; cases h
theorem Mkd.ext (h : Mkd w g e l) (hx : Ex w w') : Mkd w' g e l := by
  obtain ⟨tl, h2⟩ := id h
  exact ⟨tl, (hx.block g h.lt).trans h2⟩
theorem Mkd.far {k : Nat} (h : Mkd w g e l) (hk : Wr w w' k) (hne : g ≠ k) : Mkd w' g e l := by
  obtain ⟨tl, h2⟩ := h
  exact ⟨tl, (hk.block g hne).trans h2⟩
theorem flat_len (l : List UInt8) : (l.flatMap encB).length = l.length := by
  have := length_flatMap_enc encB_len l
  omega
theorem Mkd.rdl {n cap : Nat} (h : Mkd w g e l) (hn : l.length = n) (h1 : n ≤ cap) (h2 : cap ≤ maxLen) : RdL w 1 encB (.slice (some ⟨g, 0, none⟩) n cap) l := by
  subst hn
  have hlt := h.lt
  obtain ⟨tl, hg⟩ := h
  refine ⟨_, _, rfl, h1, h2, fun _ => ⟨_, rfl, hlt, fun i b hi j u hu => ?_⟩⟩
  rw [add_of_add, add_at, cell_of_row w g _ _ e _ hg]
  have := getElem?_flatMap_at encB_len l i b hi j u hu
  rw [List.getElem?_toArray, List.getElem?_append_left (List.getElem?_eq_some_iff.1 this).1]
  exact this
end
section
variable {P : Program} {ops : Array Oper} {Q : Exit → Act → World → Prop} {n : Nat} {l : List Oper} {S : Slots} {w w' : World} {o : Oper} {d : Nat}
theorem RG.toBytesM {src dst e : Nat} {x : Operand} {s : List UInt8} {D : TypeDesc} (hw : wantS ops S o = some true) (hd : o.dst = some d) (hdn : Nat.blt d n = true) (ho : o.op = .convert src dst x) (hx : ev S x = some (.string ⟨s.toArray⟩))
    (h1 : P.underlying src = some D) (h2 : P.underlying dst = some (.slice e)) (h3 : P.underlying e = some (.int .u8)) (hl : s.length ≤ maxLen)
    (kk : ∀ g cap w', g = w.heap.size → Ex w w' → Mkd w' g e s → s.length ≤ cap → cap ≤ maxLen → RG P ops Q n l ((d, .slice (some ⟨g, 0, none⟩) s.length cap) :: S) w') : RG P ops Q n (o :: l) S w := by
  have hss : (⟨s.toArray⟩ : ByteArray).size = s.length := by simp [ByteArray.size]
  have hex : Ex w (Lib.bytesWorld w e ⟨s.toArray⟩) := ⟨rfl, rfl, rfl, by rw [Lib.bytesWorld_size]; omega, fun k hk => Lib.bytesWorld_at_old w e _ k hk⟩
  have hb : (Lib.bytesCells w e ⟨s.toArray⟩) = (s.flatMap encB ++ List.replicate (grownCap w s.length 0 e - s.length) (Value.int .u8 0)).toArray := by
    unfold Lib.bytesCells
    rw [hss, ← strCells_enc]
    simp [Lib.strCells]
  refine RG.run (w' := Lib.bytesWorld w e ⟨s.toArray⟩) hw hd hdn (fun a ha => ?_) (kk w.heap.size (grownCap w s.length 0 e) _ rfl hex ⟨List.replicate (grownCap w s.length 0 e - s.length) (Value.int .u8 0), ?_⟩ (grownCap_ge _ _ _ _) (grownCap_le_maxLen _ _ _ _ hl))
  · simp only [execOp, ho]; rw [ha.eval hx]
    simp [Lib.run_convert_string_bytes w src dst e _ h1 h2 h3, hss]
  · rw [Lib.bytesWorld_at_new, hb]
    simp
theorem flat_set1 {b : UInt8} : ∀ (l : List UInt8) (i : Nat) (tl : List Value), i < l.length → (l.flatMap encB ++ tl).set i (.int .u8 b.toNat) = (l.set i b).flatMap encB ++ tl
  | [], _, _, h => by simp at h
  | x :: l, 0, tl, _ => rfl
  | x :: l, i + 1, tl, h => by
    have ih := flat_set1 (b := b) l i tl (by simpa using h)
    show Value.int .u8 x.toNat :: ((l.flatMap encB ++ tl).set i _) = Value.int .u8 x.toNat :: _
    rw [ih]; rfl
theorem RG.stM {T g i : Nat} {e : TypeId} {x y : Operand} {m : List UInt8} (b : UInt8) (hw : wantS ops S o = some true) (hd : o.dst = none) (ho : o.op = .store T x y) (hx : ev S x = some (.pointer (some ((⟨g, 0, none⟩ : Addr).add (i * 1))))) (hy : ev S y = some (.int .u8 b.toNat))
    (hs : sizeP P T = some 1) (hb : Mkd w g e m) (hi : i < m.length)
    (kk : ∀ w', Wr w w' g → Mkd w' g e (m.set i b) → RG P ops Q n l S w') : RG P ops Q n (o :: l) S w := by
  obtain ⟨tl, hg⟩ := hb
  have hlen : i < (m.flatMap encB ++ tl).length := by rw [List.length_append, flat_len]; omega
  have hset := flat_set1 (b := b) m i tl hi
  have hcell : w.cell? ⟨g, i, none⟩ = some (m.flatMap encB ++ tl)[i] := by
    rw [cell_of_row w g i _ e _ hg, List.getElem?_toArray, List.getElem?_eq_getElem hlen]
  have hfro : w.frozen? ⟨g, i, none⟩ = false := by
    simp only [World.frozen?, hg, Bool.and_eq_false_iff, decide_eq_false_iff_not]
    left
    omega
  have hst : (storeCells ⟨g, i, none⟩ [Value.int .u8 b.toNat] 0).run P w = .ok () (w.setRow g ((m.flatMap encB ++ tl).set i (.int .u8 b.toNat)).toArray) := by
    have hadd : (⟨g, i, none⟩ : Addr).add 0 = ⟨g, i, none⟩ := by unfold Addr.add; split <;> simp_all
    have hst1 : (store (⟨g, i, none⟩ : Addr) (Value.int .u8 b.toNat)).run P w = .ok () (w.setRow g ((m.flatMap encB ++ tl).toArray.setIfInBounds i (.int .u8 b.toNat))) := by
      rw [run_store P w _ _ _ rfl, hcell]
      simp [hfro, setCell_eq_setRow w g i _ e _ _ hg]
    simp only [storeCells, Sem.run_bind, hadd, hst1, Result.andThen_ok]
    simp
  refine RG.run0 (w' := w.setRow g ((m.flatMap encB ++ tl).set i (.int .u8 b.toNat)).toArray) hw hd (fun a ha => ?_) (kk _ (wr_setRow _ _ _) ⟨tl, ?_⟩)
  · simp only [execOp, ho]; rw [ha.eval hx, ha.eval hy]
    rw [add_at, Nat.mul_one]
    simp [Instr.storeAt, Instr.sureAddr, storeVar, run_sizeOf hs, hst, Value.cells]
  · rw [← hset]
    have := setRow_heap w g _ ((m.flatMap encB ++ tl).set i (.int .u8 b.toNat)).toArray e _ hg
    simpa using this
end
end Go.Proofs.Ytgafkbnlhlbmkaa
