/- Walks (DH). Written by program. -/
import Derived.Test.YtnhkhpnkhkagaaaDoorT
import Derived.Test.YtnhkhpnkhkagaaaDoorDG
import Derived.Test.YtnhkhpnkhkagaaaDoorYB
namespace Go.Proofs.YtnhkhpnkhkagaaaDoor
open Go.RowKit
set_option maxRecDepth 100000 in
set_option maxHeartbeats 1000000 in
theorem idxb0_ret (l : List UInt8) (c : UInt8) (w : World)  :
    Ret Tryd.prog 65 [.string ⟨l.toArray⟩, .int .u8 c.toNat] w (fun v w' => v = .int .i64 (Lib.indexByte l c) ∧ Ex w w') := by
  have hB0 : Ex w w := Ex.rfl_ _
  refine Ret.of Tryd.func65 rfl Tryd.ntmps65 rfl ?_
  refine CW.seq ?_
  refine CW.region ?_
  refine RG.vl rfl rfl rfl (Ev.assign rfl rfl) ?_
  refine RG.done ?_
  refine QW.then_ ?_
  refine CW.seq ?_
  refine CW.region ?_
  refine RG.vl rfl rfl rfl (Ev.move rfl rfl) ?_
  refine RG.vl rfl rfl rfl (Ev.move rfl rfl) ?_
  refine RG.vl rfl rfl rfl (Ev.ext_ rfl rfl rfl (xt_76 _ _ _)) ?_
  refine RG.vl rfl rfl rfl (Ev.assign rfl rfl) ?_
  refine RG.done ?_
  refine QW.then_ ?_
  refine CW.ret ?_
  refine QW.ret1 rfl rfl ?_
  have hB := hB0
  exact ⟨by simp, hB⟩

set_option maxRecDepth 100000 in
set_option maxHeartbeats 1000000 in
theorem idxb1_ret (l : List UInt8) (c : UInt8) (w : World)  :
    Ret Tryd.prog 48 [.string ⟨l.toArray⟩, .int .u8 c.toNat] w (fun v w' => v = .int .i64 (Lib.indexByte l c) ∧ Ex w w') := by
  have hB0 : Ex w w := Ex.rfl_ _
  refine Ret.of Tryd.func48 rfl Tryd.ntmps48 rfl ?_
  refine CW.seq ?_
  refine CW.region ?_
  refine RG.vl rfl rfl rfl (Ev.assign rfl rfl) ?_
  refine RG.done ?_
  refine QW.then_ ?_
  refine CW.seq ?_
  refine CW.region ?_
  refine RG.vl rfl rfl rfl (Ev.move rfl rfl) ?_
  refine RG.vl rfl rfl rfl (Ev.move rfl rfl) ?_
  refine RG.call rfl rfl rfl rfl rfl rfl rfl en_65 (idxb0_ret _ _ _) ?_
  rintro _ w1 ⟨rfl, hx1⟩
  have hE2 := hx1
  refine RG.vl rfl rfl rfl (Ev.assign rfl rfl) ?_
  refine RG.done ?_
  refine QW.then_ ?_
  refine CW.ret ?_
  refine QW.ret1 rfl rfl ?_
  have hB := (Ex.tr hB0 hE2)
  exact ⟨rfl, hB⟩

set_option maxRecDepth 100000 in
set_option maxHeartbeats 1000000 in
theorem sindex_ret (l : List UInt8) (c : UInt8) (w : World)  :
    Ret Tryd.prog 74 [.string ⟨l.toArray⟩, .string ⟨[c].toArray⟩] w (fun v w' => v = .int .i64 (Lib.indexByte l c) ∧ Ex w w') := by
  have hB0 : Ex w w := Ex.rfl_ _
  refine Ret.of Tryd.func74 rfl Tryd.ntmps74 rfl ?_
  refine CW.seq ?_
  refine CW.region ?_
  refine RG.vl rfl rfl rfl (Ev.assign rfl rfl) ?_
  refine RG.done ?_
  refine QW.then_ ?_
  refine CW.seq ?_
  refine CW.region ?_
  refine RG.vl rfl rfl rfl (Ev.move rfl rfl) ?_
  refine RG.vl rfl rfl rfl (Ev.lenStr rfl rfl rfl Tryd.underlying9) ?_
  refine RG.vl rfl rfl rfl (Ev.assign rfl rfl) ?_
  refine RG.done ?_
  refine QW.then_ ?_
  refine CW.seq ?_
  refine CW.block ?_
  refine CW.seq ?_
  refine CW.region ?_
  refine RG.vl rfl rfl rfl (Ev.move rfl rfl) ?_
  refine RG.vl rfl rfl rfl (Ev.isF (Ev.eqI rfl rfl rfl) (by show ¬ ((1 : Nat) : Int) = 0; decide)) ?_
  refine RG.vl rfl rfl rfl (Ev.move rfl rfl) ?_
  refine RG.vl rfl rfl rfl (Ev.move rfl rfl) ?_
  refine RG.vl rfl rfl rfl (Ev.move rfl rfl) ?_
  refine RG.vl rfl rfl rfl (Ev.eqS rfl rfl rfl) ?_
  refine RG.vl rfl rfl rfl (Ev.pickF rfl rfl rfl) ?_
  refine RG.vl rfl rfl rfl (Ev.assign rfl rfl) ?_
  refine RG.done ?_
  refine QW.then_ ?_
  refine CW.condP rfl (fun hc1 => ?_) (fun hc1 => ?_)
  · refine CW.seq ?_
    refine CW.region ?_
    refine RG.vl rfl rfl rfl (Ev.assign rfl rfl) ?_
    refine RG.done ?_
    refine QW.then_ ?_
    refine CW.ret ?_
    refine QW.blockR ?_
    refine QW.thenRet ?_
    refine QW.ret1 rfl rfl ?_
    have hB := hB0
    exact ⟨by rw [← binj.1 (show (⟨[c].toArray⟩ : ByteArray) = ⟨l.toArray⟩ by assumption)]; simp [Lib.indexByte], hB⟩
  · refine CW.seq ?_
    refine CW.region ?_
    refine RG.vl rfl rfl rfl (Ev.move rfl rfl) ?_
    refine RG.vl rfl rfl rfl (Ev.isT (Ev.eqI rfl rfl rfl) (rfl)) ?_
    refine RG.vl rfl rfl rfl (Ev.assign rfl rfl) ?_
    refine RG.done ?_
    refine QW.sub (S' := [(0, _), (1, _), (4, _), (5, _), (24, _)]) ⟨rfl, rfl, rfl, rfl, rfl, trivial⟩ ?_
    refine QW.then_ ?_
    refine CW.condT rfl ?_
    refine CW.seq ?_
    refine CW.region ?_
    refine RG.vl rfl rfl rfl (Ev.move rfl rfl) ?_
    refine RG.vl rfl rfl rfl (Ev.move rfl rfl) ?_
    refine RG.vl rfl rfl rfl (Ev.byteAt rfl rfl rfl Tryd.underlying9 (by omega) (rfl)) ?_
    refine RG.call rfl rfl rfl rfl rfl rfl rfl en_65 (idxb0_ret l c _) ?_
    rintro _ w2 ⟨rfl, hx2⟩
    have hE3 := hx2
    refine RG.vl rfl rfl rfl (Ev.assign rfl rfl) ?_
    refine RG.done ?_
    refine QW.then_ ?_
    refine CW.ret ?_
    refine QW.blockR ?_
    refine QW.thenRet ?_
    refine QW.ret1 rfl rfl ?_
    have hB := (Ex.tr hB0 hE3)
    exact ⟨rfl, hB⟩

set_option maxRecDepth 100000 in
set_option maxHeartbeats 1000000 in
theorem index_ret (l : List UInt8) (c : UInt8) (w : World)  :
    Ret Tryd.prog 59 [.string ⟨l.toArray⟩, .string ⟨[c].toArray⟩] w (fun v w' => v = .int .i64 (Lib.indexByte l c) ∧ Ex w w') := by
  have hB0 : Ex w w := Ex.rfl_ _
  refine Ret.of Tryd.func59 rfl Tryd.ntmps59 rfl ?_
  refine CW.seq ?_
  refine CW.region ?_
  refine RG.vl rfl rfl rfl (Ev.assign rfl rfl) ?_
  refine RG.done ?_
  refine QW.then_ ?_
  refine CW.seq ?_
  refine CW.region ?_
  refine RG.vl rfl rfl rfl (Ev.move rfl rfl) ?_
  refine RG.vl rfl rfl rfl (Ev.move rfl rfl) ?_
  refine RG.call rfl rfl rfl rfl rfl rfl rfl en_74 (sindex_ret l c _) ?_
  rintro _ w1 ⟨rfl, hx1⟩
  have hE2 := hx1
  refine RG.vl rfl rfl rfl (Ev.assign rfl rfl) ?_
  refine RG.done ?_
  refine QW.then_ ?_
  refine CW.ret ?_
  refine QW.ret1 rfl rfl ?_
  have hB := (Ex.tr hB0 hE2)
  exact ⟨rfl, hB⟩

set_option maxRecDepth 100000 in
set_option maxHeartbeats 1000000 in
theorem count_ret (l : List UInt8) (c : UInt8) (w : World)  :
    Ret Tryd.prog 47 [.string ⟨l.toArray⟩, .string ⟨[c].toArray⟩] w (fun v w' => v = .int .i64 (l.count c : Nat) ∧ Ex w w') := by
  have hB0 : Ex w w := Ex.rfl_ _
  refine Ret.of Tryd.func47 rfl Tryd.ntmps47 rfl ?_
  refine CW.seq ?_
  refine CW.region ?_
  refine RG.vl rfl rfl rfl (Ev.assign rfl rfl) ?_
  refine RG.done ?_
  refine QW.then_ ?_
  refine CW.seq ?_
  refine CW.seq ?_
  refine CW.region ?_
  refine RG.vl rfl rfl rfl (Ev.move rfl rfl) ?_
  refine RG.vl rfl rfl rfl (Ev.lenStr rfl rfl rfl Tryd.underlying9) ?_
  refine RG.vl rfl rfl rfl (Ev.isF (Ev.eqI rfl rfl rfl) (by show ¬ ((1 : Nat) : Int) = 0; decide)) ?_
  refine RG.done ?_
  refine QW.then_ ?_
  refine CW.condF rfl ?_
  refine CW.skip ?_
  refine QW.then_ ?_
  refine CW.seq ?_
  refine CW.seq ?_
  refine CW.region ?_
  refine RG.vl rfl rfl rfl (Ev.move rfl rfl) ?_
  refine RG.vl rfl rfl rfl (Ev.lenStr rfl rfl rfl Tryd.underlying9) ?_
  refine RG.vl rfl rfl rfl (Ev.isT (Ev.eqI rfl rfl rfl) (rfl)) ?_
  refine RG.done ?_
  refine QW.then_ ?_
  refine CW.condT rfl ?_
  refine CW.seq ?_
  refine CW.region ?_
  refine RG.vl rfl rfl rfl (Ev.move rfl rfl) ?_
  refine RG.vl rfl rfl rfl (Ev.move rfl rfl) ?_
  refine RG.vl rfl rfl rfl (Ev.byteAt rfl rfl rfl Tryd.underlying9 (by omega) (rfl)) ?_
  refine RG.vl rfl rfl rfl (Ev.ext_ rfl rfl rfl (xt_64 _ _ _)) ?_
  refine RG.vl rfl rfl rfl (Ev.assign rfl rfl) ?_
  refine RG.done ?_
  refine QW.then_ ?_
  refine CW.ret ?_
  refine QW.thenRet ?_
  refine QW.ret1 rfl rfl ?_
  have hB := hB0
  exact ⟨by simp [Lib.countByte], hB⟩

set_option maxRecDepth 100000 in
set_option maxHeartbeats 1000000 in
theorem repl_ret (t : List UInt8) (w : World) (hlen : t.length ≤ 100000) :
    Ret Tryd.prog 46 [.string ⟨t.toArray⟩, .string ⟨[(63 : UInt8)].toArray⟩, .string ⟨[(48 : UInt8)].toArray⟩, .int .i64 1] w (fun v w' => v = .string ⟨(zeroQ t).toArray⟩ ∧ Ex w w') := by
  have hB0 : Ex w w := Ex.rfl_ _
  refine Ret.of Tryd.func46 rfl Tryd.ntmps46 rfl ?_
  refine CW.seq ?_
  refine CW.region ?_
  refine RG.vl rfl rfl rfl (Ev.assign rfl rfl) ?_
  refine RG.done ?_
  refine QW.then_ ?_
  refine CW.seq ?_
  refine CW.seq ?_
  refine CW.region ?_
  refine RG.vl rfl rfl rfl (Ev.move rfl rfl) ?_
  refine RG.vl rfl rfl rfl (Ev.move rfl rfl) ?_
  refine RG.vl rfl rfl rfl (Ev.isF (Ev.eqS rfl rfl rfl) (by decide)) ?_
  refine RG.vl rfl rfl rfl (Ev.move rfl rfl) ?_
  refine RG.vl rfl rfl rfl (Ev.move rfl rfl) ?_
  refine RG.vl rfl rfl rfl (Ev.isF (Ev.eqI rfl rfl rfl) (by decide)) ?_
  refine RG.vl rfl rfl rfl (Ev.pickF rfl rfl rfl) ?_
  refine RG.done ?_
  refine QW.then_ ?_
  refine CW.condF rfl ?_
  refine CW.skip ?_
  refine QW.then_ ?_
  refine CW.seq ?_
  refine CW.seq ?_
  refine CW.region ?_
  refine RG.vl rfl rfl rfl (Ev.move rfl rfl) ?_
  refine RG.vl rfl rfl rfl (Ev.move rfl rfl) ?_
  refine RG.call rfl rfl rfl rfl rfl rfl rfl en_47 (count_ret t 63 _) ?_
  rintro _ w1 ⟨rfl, hx1⟩
  have hE2 := hx1
  refine RG.vl rfl rfl rfl (Ev.assign rfl rfl) ?_
  refine RG.done ?_
  refine QW.then_ ?_
  refine CW.seq ?_
  refine CW.region ?_
  refine RG.vl rfl rfl rfl (Ev.move rfl rfl) ?_
  refine RG.vl rfl rfl rfl (Ev.eqI rfl rfl rfl) ?_
  refine RG.done ?_
  refine QW.sub (S' := [(0, _), (1, _), (2, _), (3, _), (8, _), (9, _), (28, _)]) ⟨rfl, rfl, rfl, rfl, rfl, rfl, rfl, trivial⟩ ?_
  refine QW.then_ ?_
  refine CW.condP rfl (fun hc3 => ?_) (fun hc3 => ?_)
  · refine CW.seq ?_
    refine CW.region ?_
    refine RG.vl rfl rfl rfl (Ev.move rfl rfl) ?_
    refine RG.vl rfl rfl rfl (Ev.assign rfl rfl) ?_
    refine RG.done ?_
    refine QW.then_ ?_
    refine CW.ret ?_
    refine QW.thenRet ?_
    refine QW.ret1 rfl rfl ?_
    have hB := (Ex.tr hB0 hE2)
    exact ⟨by rw [zeroQ_no (by omega)], hB⟩
  · refine CW.seq ?_
    refine CW.region ?_
    refine RG.vl rfl rfl rfl (Ev.move rfl rfl) ?_
    refine RG.vl rfl rfl rfl (Ev.isF (Ev.lss rfl rfl rfl) (by decide)) ?_
    refine RG.vl rfl rfl rfl (Ev.move rfl rfl) ?_
    refine RG.vl rfl rfl rfl (Ev.move rfl rfl) ?_
    refine RG.vl rfl rfl rfl (Ev.move rfl rfl) ?_
    refine RG.vl rfl rfl rfl (Ev.isF (Ev.lss rfl rfl rfl) (by omega)) ?_
    refine RG.vl rfl rfl rfl (Ev.pickF rfl rfl rfl) ?_
    refine RG.done ?_
    refine QW.then_ ?_
    refine CW.condF rfl ?_
    refine CW.skip ?_
    refine QW.then_ ?_
    refine CW.seq ?_
    obtain ⟨A, B, rfl, hA⟩ := split_q (t := t) (List.count_pos_iff.1 (by omega))
    have hab : (A ++ 63 :: B).length = A.length + B.length + 1 := by simp; omega
    refine CW.region ?_
    have hR4 := (Ex.tr hB0 hE2)
    refine RG.alloc_ rfl rfl rfl rfl inf_92 (fun gB w5 egB hx5 hb5 => ?_)
    have hbd0 := Nat.le_of_eq egB.symm
    have hE6 := hx5
    refine RG.done ?_
    refine QW.then_ ?_
    refine CW.seq ?_
    refine CW.region ?_
    refine RG.vl rfl rfl rfl (Ev.move rfl rfl) ?_
    refine RG.vl rfl rfl rfl (Ev.lenStr rfl rfl rfl Tryd.underlying9) ?_
    refine RG.vl rfl rfl rfl (Ev.move rfl rfl) ?_
    refine RG.vl rfl rfl rfl (Ev.move rfl rfl) ?_
    refine RG.vl rfl rfl rfl ((Ev.lenStr rfl rfl rfl Tryd.underlying9).conv (congrArg (Value.int .i64) (show ((⟨[(48 : UInt8)].toArray⟩ : ByteArray).size : Int) = 1 from rfl))) ?_
    refine RG.vl rfl rfl rfl (Ev.move rfl rfl) ?_
    refine RG.vl rfl rfl rfl ((Ev.lenStr rfl rfl rfl Tryd.underlying9).conv (congrArg (Value.int .i64) (show ((⟨[(63 : UInt8)].toArray⟩ : ByteArray).size : Int) = 1 from rfl))) ?_
    refine RG.vl rfl rfl rfl (Ev.subI rfl rfl rfl (by omega)) ?_
    refine RG.vl rfl rfl rfl (Ev.mulI rfl rfl rfl (by omega)) ?_
    refine RG.vl rfl rfl rfl ((Ev.addI rfl rfl rfl (by rw [sbytes]; omega)).conv (congrArg (Value.int .i64) (show ((⟨(A ++ 63 :: B).toArray⟩ : ByteArray).size : Int) + 1 * (1 - 1) = (((A ++ 63 :: B).length : Nat) : Int) by rw [sbytes]; omega))) ?_
    refine RG.call rfl rfl rfl rfl rfl rfl rfl en_58 (bd_grow hE6 hb5 hbd0 (by omega)) ?_
    rintro _ w7 ⟨rfl, hbd8, hxb9⟩
    replace hE6 := hxb9
    refine RG.done ?_
    refine QW.sub (S' := [(0, _), (1, _), (2, _), (3, _), (8, _), (10, _)]) ⟨rfl, rfl, rfl, rfl, rfl, rfl, trivial⟩ ?_
    refine QW.then_ ?_
    refine CW.seq ?_
    refine CW.region ?_
    refine RG.vl rfl rfl rfl (Ev.assign rfl rfl) ?_
    refine RG.done ?_
    refine QW.then_ ?_
    refine CW.seq ?_
    refine CW.seq ?_
    refine CW.region ?_
    refine RG.vl rfl rfl rfl (Ev.move rfl rfl) ?_
    refine RG.vl rfl rfl rfl (Ev.lenStr rfl rfl rfl Tryd.underlying9) ?_
    refine RG.vl rfl rfl rfl (Ev.isT (Ev.gtr rfl rfl rfl) (by decide)) ?_
    refine RG.done ?_
    refine QW.then_ ?_
    refine CW.condT rfl ?_
    refine CW.seq ?_
    refine CW.region ?_
    refine RG.vl rfl rfl rfl (Ev.move rfl rfl) ?_
    refine RG.vl rfl rfl rfl (Ev.move rfl rfl) ?_
    refine RG.done ?_
    refine QW.then_ ?_
    refine CW.block ?_
    refine CW.loop3 [(0, _), (1, _), (2, _), (8, _), (10, _), (52, _)] ⟨rfl, rfl, rfl, rfl, rfl, rfl, trivial⟩ (fun (j : Nat) (a : Nat) (l : List UInt8) => [(53, .int .i64 (j : Int)), (11, .int .i64 (a : Int))]) (fun j a l w' => (((j = 0 ∧ a = 0 ∧ l = []) ∨ (j = 1 ∧ a = A.length + 1 ∧ l = A ++ [48])) ∧ Bd w1 w' gB l) ∧ Ex w1 w') (fun j a l => 1 - j) (0) (0) ([]) ⟨rfl, rfl, trivial⟩ ⟨⟨.inl ⟨rfl, rfl, rfl⟩, hbd8⟩, hE6⟩ ?_
    rintro j a l wl10 ⟨⟨hj, hbd⟩, hxwl10⟩
    refine CW.sub (S' := [(53, _), (11, _), (0, _), (1, _), (2, _), (8, _), (10, _), (52, _)]) ⟨rfl, rfl, rfl, rfl, rfl, rfl, rfl, rfl, trivial⟩ ?_
    refine CW.seq ?_
    refine CW.region ?_
    refine RG.vl rfl rfl rfl (Ev.lss rfl rfl rfl) ?_
    refine RG.done ?_
    refine QW.then_ ?_
    refine CW.seq ?_
    refine CW.condP rfl (fun hc11 => ?_) (fun hc11 => ?_)
    · refine CW.skip ?_
      refine QW.then_ ?_
      refine CW.seq ?_
      refine CW.block ?_
      refine CW.seq ?_
      obtain ⟨rfl, rfl, rfl⟩ : j = 0 ∧ a = 0 ∧ l = [] := by rcases hj with h | h; exact h; omega
      refine CW.region ?_
      refine RG.vl rfl rfl rfl (Ev.move rfl rfl) ?_
      refine RG.vl rfl rfl rfl (Ev.move rfl rfl) ?_
      refine RG.vl rfl rfl rfl (Ev.move rfl rfl) ?_
      refine RG.vl rfl rfl rfl ((Ev.cutStr (i := 0) (j := (A ++ 63 :: B).length) rfl rfl Tryd.underlying9 rfl rfl (by omega) (by rw [sbytes]; omega)).conv (congrArg Value.string (show _ = (⟨(A ++ 63 :: B).toArray⟩ : ByteArray) from (bx_cut _ 0 (A ++ 63 :: B).length).trans (by rw [List.take_length]; rfl)))) ?_
      refine RG.vl rfl rfl rfl (Ev.move rfl rfl) ?_
      refine RG.call rfl rfl rfl rfl rfl rfl rfl en_59 (index_ret (A ++ 63 :: B) 63 _) ?_
      rintro _ w12 ⟨rfl, hx12⟩
      replace hxwl10 := Ex.tr hxwl10 hx12
      have hE13 := hx12
      refine RG.vl rfl rfl rfl ((Ev.addI rfl rfl rfl (by rw [idx_at hA]; omega)).conv (congrArg (Value.int .i64) (show ((0 : Nat) : Int) + Lib.indexByte (A ++ 63 :: B) 63 = (A.length : Nat) by rw [idx_at hA]; omega))) ?_
      refine RG.vl rfl rfl rfl (Ev.assign rfl rfl) ?_
      refine RG.done ?_
      refine QW.then_ ?_
      refine CW.seq ?_
      refine CW.region ?_
      refine RG.vl rfl rfl rfl (Ev.move rfl rfl) ?_
      refine RG.vl rfl rfl rfl (Ev.move rfl rfl) ?_
      refine RG.vl rfl rfl rfl (Ev.move rfl rfl) ?_
      refine RG.vl rfl rfl rfl ((Ev.cutStr (i := 0) (j := A.length) rfl rfl Tryd.underlying9 rfl rfl (by omega) (by rw [sbytes]; omega)).conv (congrArg Value.string (show _ = (⟨A.toArray⟩ : ByteArray) from (bx_cut _ 0 A.length).trans (by simp)))) ?_
      refine RG.call rfl rfl rfl rfl rfl rfl rfl en_60 (bd_wstr A hxwl10 (hbd.ext hE13) (by simp only [List.length_nil]; omega)) ?_
      rintro _ w14 ⟨rfl, hbd15, hxb16⟩
      replace hxwl10 := hxb16
      refine RG.done ?_
      refine QW.sub (S' := [(0, _), (1, _), (2, _), (8, _), (10, _), (11, _), (12, _), (52, _), (53, _)]) ⟨rfl, rfl, rfl, rfl, rfl, rfl, rfl, rfl, rfl, trivial⟩ ?_
      refine QW.then_ ?_
      refine CW.seq ?_
      refine CW.region ?_
      refine RG.vl rfl rfl rfl (Ev.move rfl rfl) ?_
      refine RG.call rfl rfl rfl rfl rfl rfl rfl en_60 (bd_wstr [48] hxwl10 hbd15 (by simp only [List.nil_append]; show _ + 1 ≤ _; omega)) ?_
      rintro _ w17 ⟨rfl, hbd18, hxb19⟩
      replace hxwl10 := hxb19
      refine RG.done ?_
      refine QW.then_ ?_
      refine CW.region ?_
      refine RG.vl rfl rfl rfl (Ev.move rfl rfl) ?_
      refine RG.vl rfl rfl rfl (Ev.move rfl rfl) ?_
      refine RG.vl rfl rfl rfl ((Ev.lenStr rfl rfl rfl Tryd.underlying9).conv (congrArg (Value.int .i64) (show ((⟨[(63 : UInt8)].toArray⟩ : ByteArray).size : Int) = 1 from rfl))) ?_
      refine RG.vl rfl rfl rfl (Ev.addI rfl rfl rfl (by omega)) ?_
      refine RG.vl rfl rfl rfl (Ev.assign rfl rfl) ?_
      refine RG.done ?_
      refine QW.blockN ?_
      refine QW.then_ ?_
      refine CW.region ?_
      refine RG.vl rfl rfl rfl (Ev.addI rfl rfl rfl (by omega)) ?_
      refine RG.vl rfl rfl rfl (Ev.move rfl rfl) ?_
      refine RG.done ?_
      refine QW.round3 (1) (A.length + 1) (A ++ [48]) ⟨rfl, rfl, trivial⟩ ⟨rfl, rfl, rfl, rfl, rfl, rfl, trivial⟩ ⟨⟨.inr ⟨rfl, rfl, rfl⟩, hbd18⟩, hxwl10⟩ (by omega)
    · refine CW.exit ?_
      refine QW.thenExit ?_
      refine QW.thenExit ?_
      refine QW.blockHit ?_
      refine QW.then_ ?_
      refine CW.seq ?_
      obtain ⟨rfl, rfl, rfl⟩ : j = 1 ∧ a = A.length + 1 ∧ l = A ++ [48] := by rcases hj with h | h; omega; exact h
      have hal : (A ++ [(48 : UInt8)]).length = A.length + 1 := by simp
      refine CW.region ?_
      refine RG.vl rfl rfl rfl (Ev.move rfl rfl) ?_
      refine RG.vl rfl rfl rfl (Ev.move rfl rfl) ?_
      refine RG.vl rfl rfl rfl ((Ev.cutStr (i := A.length + 1) (j := (A ++ 63 :: B).length) rfl rfl Tryd.underlying9 rfl rfl (by omega) (by rw [sbytes]; omega)).conv (congrArg Value.string (show _ = (⟨B.toArray⟩ : ByteArray) from (bx_cut _ (A.length + 1) (A ++ 63 :: B).length).trans (by rw [List.take_length, drop_mid])))) ?_
      refine RG.call rfl rfl rfl rfl rfl rfl rfl en_60 (bd_wstr B hxwl10 hbd (by omega)) ?_
      rintro _ w20 ⟨rfl, hbd21, hxb22⟩
      replace hxwl10 := hxb22
      refine RG.done ?_
      refine QW.then_ ?_
      refine CW.seq ?_
      refine CW.region ?_
      refine RG.call rfl rfl rfl rfl rfl rfl rfl en_62 (bd_str hxwl10 hbd21) ?_
      rintro _ w23 ⟨rfl, hxb25⟩
      replace hxwl10 := hxb25
      refine RG.vl rfl rfl rfl (Ev.assign rfl rfl) ?_
      refine RG.done ?_
      refine QW.then_ ?_
      refine CW.ret ?_
      refine QW.ret1 rfl rfl ?_
      have hB := (Ex.tr hR4 hxwl10)
      exact ⟨by rw [zeroQ_at hA, List.append_assoc]; rfl, hB⟩

end Go.Proofs.YtnhkhpnkhkagaaaDoor
