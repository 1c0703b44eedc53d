/- Texts put together by program: UV. -/
import Derived.Test.YtgjnchjkjdnidaaMBarcodeWrong5
/- Walks (UV). Written by program. -/
namespace Go.Proofs.Ytgjnchjkjdnidaa
open Go.RowKit
theorem scan_no {s : Su} {e0 : Int} (w : World) (h : NoS s [] e0) :
    Ret Try.prog 11 [s.v, .slice none 0 0] w (fun v w' => ∃ A B C D, v = .tuple #[.agg ([.string ⟨#[]⟩, .bool false, .slice A 0 B, .slice C 0 D] : List Value).toArray, .int .i64 e0] ∧ Own w' w.heap.size 3 1 encZ (.slice A 0 B) [] ∧ Own w' w.heap.size 3 1 encZ (.slice C 0 D) [] ∧ Ex w w') := by
  refine (scan_ret s _ [] w (RdL.nil_ _) (by simp)).mono ?_
  rintro v w' ⟨t', b', y, z, es', er', e, rfl, hy, hz, hrd, hx⟩
  obtain ⟨rfl, rfl, rfl, rfl, rfl⟩ := h _ _ _ _ _ hrd
  obtain ⟨A, B, rfl⟩ := hy.shape
  obtain ⟨C, D, rfl⟩ := hz.shape
  exact ⟨A, B, C, D, rfl, hy, hz, hx⟩

set_option maxRecDepth 100000 in
set_option maxHeartbeats 8000000 in
theorem barcodeWrong_ret (u : Value) (l : List Nat) (z : Nat) (w : World) (hl : RdL w 1 encN u l) (hb : ∀ a ∈ l, a < 256) (hz : z < 256) :
    Ret Try.prog 7 [u, .int .u8 (z : Int)] w (fun v w' => v = .bool true ∧ Ex w w') := by
  obtain ⟨lA, lC, rfl⟩ := hl.shape
  have hdo := digs_ok l
  have hd28 := digs_len l
  have hdl := sb_len (digs l)
  have hB0 : Ex w w := Ex.rfl_ _
  refine Ret.of Try.func7 rfl Try.ntmps7 rfl ?_
  refine CW.seq ?_
  refine CW.region ?_
  refine RG.vl rfl rfl rfl (Ev.assign rfl rfl) ?_
  refine RG.done ?_
  refine QW.then_ ?_
  refine CW.seq ?_
  refine CW.region ?_
  refine RG.vl rfl rfl rfl (Ev.move rfl rfl) ?_
  refine RG.call rfl rfl rfl rfl rfl rfl rfl en_8 (digits_ret _ l _ (hl) hb) ?_
  rintro _ w1 ⟨rfl, hx1⟩
  have hE2 := hx1
  refine RG.call rfl rfl rfl rfl rfl rfl rfl en_13 (wrD2_ret _ hdo (by omega)) ?_
  rintro _ w3 ⟨c, hie, rfl, hx3⟩
  replace hE2 := Ex.tr hE2 hx3
  have hE4 := hx3
  have hc20 := enc20 hie
  have hw60 : (wd c).length = 60 := by rw [wd_len, hc20]
  have hf64 : (frm (wd c)).length = 64 := by rw [frm_len, hw60]
  have hfs := sb_len (frm (wd c))
  refine RG.vl rfl rfl rfl (Ev.move rfl rfl) ?_
  refine RG.vl rfl rfl rfl (Ev.extract rfl rfl rfl) ?_
  refine RG.vl rfl rfl rfl (Ev.extract rfl rfl rfl) ?_
  refine RG.vl rfl rfl rfl (Ev.assign rfl rfl) ?_
  refine RG.vl rfl rfl rfl (Ev.assign rfl rfl) ?_
  refine RG.done ?_
  refine QW.then_ ?_
  refine CW.seq ?_
  refine CW.seq ?_
  refine CW.region ?_
  refine RG.vl rfl rfl rfl (Ev.move rfl rfl) ?_
  refine RG.vl rfl rfl rfl (Ev.isF (Ev.neI rfl rfl rfl) (fun h => h rfl)) ?_
  refine RG.vl rfl rfl rfl (Ev.move rfl rfl) ?_
  refine RG.vl rfl rfl rfl (Ev.move rfl rfl) ?_
  refine RG.vl rfl rfl rfl (Ev.lenStr rfl rfl rfl Try.underlying9) ?_
  refine RG.vl rfl rfl rfl (Ev.isF (Ev.neI rfl rfl rfl) (fun h => h (by omega))) ?_
  refine RG.vl rfl rfl rfl (Ev.pickF rfl rfl rfl) ?_
  refine RG.done ?_
  refine QW.sub (S' := [(1, _), (4, _), (5, _), (32, _)]) ⟨rfl, rfl, rfl, rfl, trivial⟩ ?_
  refine QW.then_ ?_
  refine CW.condF rfl ?_
  refine CW.skip ?_
  refine QW.then_ ?_
  refine CW.seq ?_
  refine CW.region ?_
  refine RG.vl rfl rfl rfl (Ev.move rfl rfl) ?_
  refine RG.vl rfl rfl rfl (Ev.assign rfl rfl) ?_
  refine RG.vl rfl rfl rfl (Ev.assign rfl rfl) ?_
  refine RG.done ?_
  refine QW.then_ ?_
  refine CW.seq ?_
  refine CW.region ?_
  refine RG.vl rfl rfl rfl (Ev.move rfl rfl) ?_
  refine RG.vl rfl rfl rfl (Ev.to64 rfl rfl Try.underlying5 Try.underlying3 (by omega)) ?_
  refine RG.vl rfl rfl rfl ((Ev.quoI rfl rfl rfl (by omega)).conv (congrArg (Value.int .i64) (show (z : Int) / 7 = ((z / 7 : Nat) : Int) by omega))) ?_
  refine RG.vl rfl rfl rfl ((Ev.remI rfl rfl rfl (by omega)).conv (congrArg (Value.int .i64) (show ((z / 7 : Nat) : Int) % 64 = ((z / 7 % 64 : Nat) : Int) by omega))) ?_
  refine RG.vl rfl rfl rfl (Ev.assign rfl rfl) ?_
  refine RG.done ?_
  refine QW.then_ ?_
  refine CW.seq ?_
  refine CW.seq ?_
  refine CW.region ?_
  refine RG.vl rfl rfl rfl (Ev.move rfl rfl) ?_
  refine RG.vl rfl rfl rfl ((Ev.rem8 rfl rfl rfl (by omega)).conv (congrArg (Value.int .u8) (show (z : Int) % 7 = ((z % 7 : Nat) : Int) by omega))) ?_
  refine RG.done ?_
  refine QW.then_ ?_
  refine CW.block ?_
  refine CW.seq ?_
  have hwa := wd_all c
  obtain ⟨a, ha⟩ : ∃ a, z / 7 % 64 = a := ⟨_, rfl⟩
  have ha64 : a < 64 := by omega
  rw [ha]
  refine CW.region ?_
  refine RG.vl rfl rfl rfl (Ev.eqI rfl rfl rfl) ?_
  refine RG.vl rfl rfl rfl (Ev.assign rfl rfl) ?_
  refine RG.done ?_
  refine QW.then_ ?_
  refine CW.condP rfl (fun hc5 => ?_) (fun hc5 => ?_)
  · refine CW.region ?_
    refine RG.vl rfl rfl rfl (Ev.move rfl rfl) ?_
    refine RG.vl rfl rfl rfl ((Ev.cat rfl rfl rfl (by rw [hfs]; show _ + 1 ≤ _; omega)).conv (congrArg Value.string (bx_cat ((frm (wd c))) ([84])))) ?_
    refine RG.vl rfl rfl rfl (Ev.assign rfl rfl) ?_
    refine RG.done ?_
    refine QW.sub (S' := [(1, _), (4, _), (7, _), (8, _)]) ⟨rfl, rfl, rfl, rfl, trivial⟩ ?_
    refine QW.blockN ?_
    refine QW.then_ ?_
    refine CW.seq ?_
    refine CW.region ?_
    refine RG.vl rfl rfl rfl (Ev.move rfl rfl) ?_
    refine RG.call rfl rfl rfl rfl rfl rfl rfl en_16 (brd_no2 (e0 := 2) _ (bad_no (T := wd c) (a := a) (q := 0) hwa hw60 ha64 (by omega))) ?_
    have hpre6 := (Ex.tr hB0 hE2)
    rintro _ w6 ⟨A1, B1, C1, D1, rfl, hoy1, hoz1, hx6⟩
    replace hE2 := Ex.tr hE2 hx6
    replace hE4 := Ex.tr hE4 hx6
    have hE7 := hx6
    refine RG.vl rfl rfl rfl (Ev.move rfl rfl) ?_
    refine RG.vl rfl rfl rfl (Ev.extract rfl rfl rfl) ?_
    refine RG.vl rfl rfl rfl (Ev.extract rfl rfl rfl) ?_
    refine RG.local_ rfl rfl rfl rfl (fun _ => rfl) rfl rfl (fun _ => rfl) inf_43 rfl rfl rfl (fun g1 w8 eg1 hx8 hb8 => ?_)
    have hsb9 := fun e => sep_new (g := g1) hoy1 eg1 e
    have hsb10 := fun e => sep_new (g := g1) hoz1 eg1 e
    have hle11 : w.heap.size ≤ g1 := by have := hE2.size; omega
    have hle12 : w1.heap.size ≤ g1 := by have := hE4.size; omega
    have hle13 : w3.heap.size ≤ g1 := by have := hE7.size; omega
    have hle14 : w6.heap.size ≤ g1 := by have := (Ex.rfl_ w6).size; omega
    replace hE2 := Ex.tr hE2 hx8
    replace hE4 := Ex.tr hE4 hx8
    replace hE7 := Ex.tr hE7 hx8
    have hE15 := hx8
    refine RG.vl rfl rfl rfl (Ev.assign rfl rfl) ?_
    refine RG.done ?_
    refine QW.then_ ?_
    refine CW.seq ?_
    refine CW.region ?_
    refine RG.call rfl rfl rfl rfl rfl rfl rfl en_13 (bwr_no (t := longPay) (e0 := 3) _ (by decide) (by decide) (by decide)) ?_
    rintro _ w16 ⟨rfl, hx16⟩
    replace hE2 := Ex.tr hE2 hx16
    replace hE4 := Ex.tr hE4 hx16
    replace hE7 := Ex.tr hE7 hx16
    replace hE15 := Ex.tr hE15 hx16
    have hE17 := hx16
    refine RG.vl rfl rfl rfl (Ev.move rfl rfl) ?_
    refine RG.vl rfl rfl rfl (Ev.extract rfl rfl rfl) ?_
    refine RG.vl rfl rfl rfl (Ev.extract rfl rfl rfl) ?_
    refine RG.vl rfl rfl rfl (Ev.assign rfl rfl) ?_
    refine RG.vl rfl rfl rfl (Ev.assign rfl rfl) ?_
    refine RG.done ?_
    refine QW.then_ ?_
    refine CW.seq ?_
    obtain ⟨d, hx⟩ : ∃ d, ([[97], [49, 32], [45, 49], [49, 46], [0], [49, 255], [120]] : List (List UInt8))[z % 7]? = some d := ⟨_, List.getElem?_eq_getElem (by show z % 7 < 7; omega)⟩
    obtain ⟨hd2, hd1⟩ := noPays_bad d (List.mem_of_getElem? hx)
    refine CW.region ?_
    refine RG.litO (os := [_, _, _, _, _, _, _]) (enc := encTx) ([[97], [49, 32], [45, 49], [49, 46], [0], [49, 255], [120]]) rfl rfl rfl rfl rfl rfl rfl Try.underlying57 inf_9 rfl rfl rfl rfl rfl encTx_len rfl rfl (fun v18 wk19 hxwk19 hown20 hnew21 => ?_)
    have hsep22 : Sep v18 _ := Sep.of_new (Own.ext hoy1 hE15) hnew21
    have hsep23 : Sep v18 _ := Sep.of_new (Own.ext hoz1 hE15) hnew21
    replace hE2 := Ex.tr hE2 hxwk19
    replace hE4 := Ex.tr hE4 hxwk19
    replace hE7 := Ex.tr hE7 hxwk19
    replace hE15 := Ex.tr hE15 hxwk19
    replace hE17 := Ex.tr hE17 hxwk19
    have hE24 := hxwk19
    refine RG.vl rfl rfl rfl (Ev.move rfl rfl) ?_
    refine RG.vl rfl rfl rfl ((Ev.rem8 rfl rfl rfl (by omega)).conv (congrArg (Value.int .u8) (show (z : Int) % 7 = ((z % 7 : Nat) : Int) by omega))) ?_
    refine RG.idxO rfl rfl rfl rfl rfl rfl Try.underlying57 sz_9 encTx_len (hown20) (hx) (fun g26 hg26 hBg26 hp25b hp25 => ?_)
    refine RG.vl rfl rfl rfl (Ev.ld0 rfl rfl Try.underlying9 rfl (hp25) (rfl)) ?_
    refine RG.call rfl rfl rfl rfl rfl rfl rfl en_13 (bwr_no (e0 := 2) _ hd2 (by decide) hd1) ?_
    rintro _ w27 ⟨rfl, hx27⟩
    replace hE2 := Ex.tr hE2 hx27
    replace hE4 := Ex.tr hE4 hx27
    replace hE7 := Ex.tr hE7 hx27
    replace hE15 := Ex.tr hE15 hx27
    replace hE17 := Ex.tr hE17 hx27
    replace hE24 := Ex.tr hE24 hx27
    have hE28 := hx27
    refine RG.vl rfl rfl rfl (Ev.move rfl rfl) ?_
    refine RG.vl rfl rfl rfl (Ev.extract rfl rfl rfl) ?_
    refine RG.vl rfl rfl rfl (Ev.extract rfl rfl rfl) ?_
    refine RG.vl rfl rfl rfl (Ev.assign rfl rfl) ?_
    refine RG.vl rfl rfl rfl (Ev.assign rfl rfl) ?_
    refine RG.done ?_
    refine QW.sub (S' := [(4, _), (8, _), (10, _), (11, _), (13, _), (15, _)]) ⟨rfl, rfl, rfl, rfl, rfl, rfl, trivial⟩ ?_
    refine QW.then_ ?_
    refine CW.seq ?_
    refine CW.region ?_
    refine RG.vl rfl rfl rfl (Ev.build1 rfl rfl rfl inf_27 rfl rfl (by kernel_rfl) rfl) ?_
    refine RG.call rfl rfl rfl rfl rfl rfl rfl en_11 (scan_no (s := ⟨63, 0, 1, 0, 0, 1⟩) (e0 := 2) _ (noS_pl (by decide))) ?_
    have hpre29 := (Ex.tr hB0 hE2)
    rintro _ w29 ⟨A2, B2, C2, D2, rfl, hoy2, hoz2, hx29⟩
    have hsep30 : Sep (Value.slice A2 0 B2) _ := Sep.of_new (Own.ext hoy1 hE15) (fun k h => Own.ge hoy2 h)
    have hsep31 : Sep (Value.slice A2 0 B2) _ := Sep.of_new (Own.ext hoz1 hE15) (fun k h => Own.ge hoy2 h)
    have hsep32 : Sep (Value.slice A2 0 B2) _ := Sep.of_new (Own.ext hown20 hE28) (fun k h => Own.ge hoy2 h)
    have hsep33 : Sep (Value.slice C2 0 D2) _ := Sep.of_new (Own.ext hoy1 hE15) (fun k h => Own.ge hoz2 h)
    have hsep34 : Sep (Value.slice C2 0 D2) _ := Sep.of_new (Own.ext hoz1 hE15) (fun k h => Own.ge hoz2 h)
    have hsep35 : Sep (Value.slice C2 0 D2) _ := Sep.of_new (Own.ext hown20 hE28) (fun k h => Own.ge hoz2 h)
    replace hE2 := Ex.tr hE2 hx29
    replace hE4 := Ex.tr hE4 hx29
    replace hE7 := Ex.tr hE7 hx29
    replace hE15 := Ex.tr hE15 hx29
    replace hE17 := Ex.tr hE17 hx29
    replace hE24 := Ex.tr hE24 hx29
    replace hE28 := Ex.tr hE28 hx29
    have hE36 := hx29
    refine RG.vl rfl rfl rfl (Ev.move rfl rfl) ?_
    refine RG.vl rfl rfl rfl (Ev.extract rfl rfl rfl) ?_
    refine RG.vl rfl rfl rfl (Ev.extract rfl rfl rfl) ?_
    refine RG.local_ rfl rfl rfl rfl (fun _ => rfl) rfl rfl (fun _ => rfl) inf_43 rfl rfl rfl (fun g2 w37 eg2 hx37 hb37 => ?_)
    have hsb38 := fun e => sep_new (g := g2) (Own.ext hoy1 hE15) eg2 e
    have hsb39 := fun e => sep_new (g := g2) (Own.ext hoz1 hE15) eg2 e
    have hsb40 := fun e => sep_new (g := g2) (Own.ext hown20 hE28) eg2 e
    have hsb41 := fun e => sep_new (g := g2) hoy2 eg2 e
    have hsb42 := fun e => sep_new (g := g2) hoz2 eg2 e
    have hle43 : w.heap.size ≤ g2 := by have := hE2.size; omega
    have hle44 : w1.heap.size ≤ g2 := by have := hE4.size; omega
    have hle45 : w3.heap.size ≤ g2 := by have := hE7.size; omega
    have hle46 : w6.heap.size ≤ g2 := by have := hE15.size; omega
    have hle47 : w8.heap.size ≤ g2 := by have := hE17.size; omega
    have hle48 : w16.heap.size ≤ g2 := by have := hE24.size; omega
    have hle49 : wk19.heap.size ≤ g2 := by have := hE28.size; omega
    have hle50 : w27.heap.size ≤ g2 := by have := hE36.size; omega
    have hle51 : w29.heap.size ≤ g2 := by have := (Ex.rfl_ w29).size; omega
    have hlt52 : g1 < g2 := by have := Blk.lt (hb8.ext hE17); omega
    replace hE2 := Ex.tr hE2 hx37
    replace hE4 := Ex.tr hE4 hx37
    replace hE7 := Ex.tr hE7 hx37
    replace hE15 := Ex.tr hE15 hx37
    replace hE17 := Ex.tr hE17 hx37
    replace hE24 := Ex.tr hE24 hx37
    replace hE28 := Ex.tr hE28 hx37
    replace hE36 := Ex.tr hE36 hx37
    have hE53 := hx37
    refine RG.vl rfl rfl rfl (Ev.assign rfl rfl) ?_
    refine RG.done ?_
    refine QW.then_ ?_
    refine CW.seq ?_
    refine CW.region ?_
    refine RG.vl rfl rfl rfl (Ev.build1 rfl rfl rfl inf_27 rfl rfl (by kernel_rfl) rfl) ?_
    refine RG.call rfl rfl rfl rfl rfl rfl rfl en_11 (scan_no (s := ⟨64, 0, 1, 0, 0, 1⟩) (e0 := 200) _ noS_none) ?_
    have hpre54 := (Ex.tr hB0 hE2)
    rintro _ w54 ⟨A3, B3, C3, D3, rfl, hoy3, hoz3, hx54⟩
    have hsep55 : Sep (Value.slice A3 0 B3) _ := Sep.of_new (Own.ext hoy1 hE15) (fun k h => Own.ge hoy3 h)
    have hsep56 : Sep (Value.slice A3 0 B3) _ := Sep.of_new (Own.ext hoz1 hE15) (fun k h => Own.ge hoy3 h)
    have hsep57 : Sep (Value.slice A3 0 B3) _ := Sep.of_new (Own.ext hown20 hE28) (fun k h => Own.ge hoy3 h)
    have hsep58 : Sep (Value.slice A3 0 B3) _ := Sep.of_new (Own.ext hoy2 hE53) (fun k h => Own.ge hoy3 h)
    have hsep59 : Sep (Value.slice A3 0 B3) _ := Sep.of_new (Own.ext hoz2 hE53) (fun k h => Own.ge hoy3 h)
    have hsep60 : Sep (Value.slice C3 0 D3) _ := Sep.of_new (Own.ext hoy1 hE15) (fun k h => Own.ge hoz3 h)
    have hsep61 : Sep (Value.slice C3 0 D3) _ := Sep.of_new (Own.ext hoz1 hE15) (fun k h => Own.ge hoz3 h)
    have hsep62 : Sep (Value.slice C3 0 D3) _ := Sep.of_new (Own.ext hown20 hE28) (fun k h => Own.ge hoz3 h)
    have hsep63 : Sep (Value.slice C3 0 D3) _ := Sep.of_new (Own.ext hoy2 hE53) (fun k h => Own.ge hoz3 h)
    have hsep64 : Sep (Value.slice C3 0 D3) _ := Sep.of_new (Own.ext hoz2 hE53) (fun k h => Own.ge hoz3 h)
    replace hE2 := Ex.tr hE2 hx54
    replace hE4 := Ex.tr hE4 hx54
    replace hE7 := Ex.tr hE7 hx54
    replace hE15 := Ex.tr hE15 hx54
    replace hE17 := Ex.tr hE17 hx54
    replace hE24 := Ex.tr hE24 hx54
    replace hE28 := Ex.tr hE28 hx54
    replace hE36 := Ex.tr hE36 hx54
    replace hE53 := Ex.tr hE53 hx54
    have hE65 := hx54
    refine RG.vl rfl rfl rfl (Ev.move rfl rfl) ?_
    refine RG.vl rfl rfl rfl (Ev.extract rfl rfl rfl) ?_
    refine RG.vl rfl rfl rfl (Ev.extract rfl rfl rfl) ?_
    refine RG.local_ rfl rfl rfl rfl (fun _ => rfl) rfl rfl (fun _ => rfl) inf_43 rfl rfl rfl (fun g3 w66 eg3 hx66 hb66 => ?_)
    have hsb67 := fun e => sep_new (g := g3) (Own.ext hoy1 hE15) eg3 e
    have hsb68 := fun e => sep_new (g := g3) (Own.ext hoz1 hE15) eg3 e
    have hsb69 := fun e => sep_new (g := g3) (Own.ext hown20 hE28) eg3 e
    have hsb70 := fun e => sep_new (g := g3) (Own.ext hoy2 hE53) eg3 e
    have hsb71 := fun e => sep_new (g := g3) (Own.ext hoz2 hE53) eg3 e
    have hsb72 := fun e => sep_new (g := g3) hoy3 eg3 e
    have hsb73 := fun e => sep_new (g := g3) hoz3 eg3 e
    have hle74 : w.heap.size ≤ g3 := by have := hE2.size; omega
    have hle75 : w1.heap.size ≤ g3 := by have := hE4.size; omega
    have hle76 : w3.heap.size ≤ g3 := by have := hE7.size; omega
    have hle77 : w6.heap.size ≤ g3 := by have := hE15.size; omega
    have hle78 : w8.heap.size ≤ g3 := by have := hE17.size; omega
    have hle79 : w16.heap.size ≤ g3 := by have := hE24.size; omega
    have hle80 : wk19.heap.size ≤ g3 := by have := hE28.size; omega
    have hle81 : w27.heap.size ≤ g3 := by have := hE36.size; omega
    have hle82 : w29.heap.size ≤ g3 := by have := hE53.size; omega
    have hle83 : w37.heap.size ≤ g3 := by have := hE65.size; omega
    have hle84 : w54.heap.size ≤ g3 := by have := (Ex.rfl_ w54).size; omega
    have hlt85 : g1 < g3 := by have := Blk.lt (hb8.ext hE17); omega
    have hlt86 : g2 < g3 := by have := Blk.lt (hb37.ext hE65); omega
    replace hE2 := Ex.tr hE2 hx66
    replace hE4 := Ex.tr hE4 hx66
    replace hE7 := Ex.tr hE7 hx66
    replace hE15 := Ex.tr hE15 hx66
    replace hE17 := Ex.tr hE17 hx66
    replace hE24 := Ex.tr hE24 hx66
    replace hE28 := Ex.tr hE28 hx66
    replace hE36 := Ex.tr hE36 hx66
    replace hE53 := Ex.tr hE53 hx66
    replace hE65 := Ex.tr hE65 hx66
    have hE87 := hx66
    refine RG.vl rfl rfl rfl (Ev.assign rfl rfl) ?_
    refine RG.done ?_
    refine QW.sub (S' := [(4, _), (8, _), (10, _), (11, _), (13, _), (15, _), (17, _), (19, _)]) ⟨rfl, rfl, rfl, rfl, rfl, rfl, rfl, rfl, trivial⟩ ?_
    refine QW.then_ ?_
    refine CW.seq ?_
    have hn0 : ([] : List Nat).length = 0 := rfl
    refine CW.region ?_
    refine RG.vl rfl rfl rfl (Ev.move rfl rfl) ?_
    refine RG.vl rfl rfl rfl (Ev.move rfl rfl) ?_
    refine RG.vl rfl rfl rfl (Ev.isT (Ev.eqI rfl rfl rfl) (rfl)) ?_
    refine RG.vl rfl rfl rfl (Ev.move rfl rfl) ?_
    refine RG.vl rfl rfl rfl (Ev.fld rfl rfl fld_43_0) ?_
    refine RG.vl rfl rfl rfl (Ev.ldAt rfl rfl Try.underlying9 rfl ((hb8.ext hE17).cells) (rfl)) ?_
    refine RG.vl rfl rfl rfl (Ev.isT (Ev.eqS rfl rfl rfl) (rfl)) ?_
    refine RG.vl rfl rfl rfl (Ev.pickT rfl rfl rfl) ?_
    refine RG.vl rfl rfl rfl (Ev.move rfl rfl) ?_
    refine RG.vl rfl rfl rfl (Ev.fld rfl rfl fld_43_1) ?_
    refine RG.vl rfl rfl rfl (Ev.ldAt rfl rfl Try.underlying4 rfl ((hb8.ext hE17).cells) (rfl)) ?_
    refine RG.vl rfl rfl rfl (Ev.notT rfl rfl) ?_
    refine RG.vl rfl rfl rfl (Ev.pickT rfl rfl rfl) ?_
    refine RG.vl rfl rfl rfl (Ev.move rfl rfl) ?_
    refine RG.vl rfl rfl rfl (Ev.fld rfl rfl fld_43_2) ?_
    refine RG.vl rfl rfl rfl (Ev.ldAt rfl rfl Try.underlying41 rfl ((hb8.ext hE17).cells) (rfl)) ?_
    refine RG.vl rfl rfl rfl (Ev.lenL rfl rfl rfl Try.underlying41 (((Own.ext hoy1 hE15).rdl encZ_len))) ?_
    refine RG.vl rfl rfl rfl (Ev.fld rfl rfl fld_43_3) ?_
    refine RG.vl rfl rfl rfl (Ev.ldAt rfl rfl Try.underlying41 rfl ((hb8.ext hE17).cells) (rfl)) ?_
    refine RG.vl rfl rfl rfl (Ev.lenL rfl rfl rfl Try.underlying41 (((Own.ext hoz1 hE15).rdl encZ_len))) ?_
    refine RG.vl rfl rfl rfl (Ev.addI rfl rfl rfl (by omega)) ?_
    refine RG.vl rfl rfl rfl (Ev.isT (Ev.eqI rfl rfl rfl) (rfl)) ?_
    refine RG.vl rfl rfl rfl (Ev.pickT rfl rfl rfl) ?_
    refine RG.vl rfl rfl rfl (Ev.move rfl rfl) ?_
    refine RG.vl rfl rfl rfl (Ev.move rfl rfl) ?_
    refine RG.vl rfl rfl rfl (Ev.isT (Ev.eqI rfl rfl rfl) (rfl)) ?_
    refine RG.vl rfl rfl rfl (Ev.pickT rfl rfl rfl) ?_
    refine RG.vl rfl rfl rfl (Ev.move rfl rfl) ?_
    refine RG.vl rfl rfl rfl (Ev.move rfl rfl) ?_
    refine RG.vl rfl rfl rfl (Ev.isT (Ev.eqI rfl rfl rfl) (rfl)) ?_
    refine RG.vl rfl rfl rfl (Ev.pickT rfl rfl rfl) ?_
    refine RG.vl rfl rfl rfl (Ev.move rfl rfl) ?_
    refine RG.vl rfl rfl rfl (Ev.move rfl rfl) ?_
    refine RG.vl rfl rfl rfl (Ev.isT (Ev.eqI rfl rfl rfl) (rfl)) ?_
    refine RG.vl rfl rfl rfl (Ev.pickT rfl rfl rfl) ?_
    refine RG.vl rfl rfl rfl (Ev.move rfl rfl) ?_
    refine RG.vl rfl rfl rfl (Ev.move rfl rfl) ?_
    refine RG.vl rfl rfl rfl (Ev.isT (Ev.eqI rfl rfl rfl) (rfl)) ?_
    refine RG.vl rfl rfl rfl (Ev.pickT rfl rfl rfl) ?_
    refine RG.vl rfl rfl rfl (Ev.move rfl rfl) ?_
    refine RG.call rfl rfl rfl rfl rfl rfl rfl en_12 (awake_ret _) ?_
    rintro _ w88 ⟨rfl, hx88⟩
    replace hE2 := Ex.tr hE2 hx88
    replace hE4 := Ex.tr hE4 hx88
    replace hE7 := Ex.tr hE7 hx88
    replace hE15 := Ex.tr hE15 hx88
    replace hE17 := Ex.tr hE17 hx88
    replace hE24 := Ex.tr hE24 hx88
    replace hE28 := Ex.tr hE28 hx88
    replace hE36 := Ex.tr hE36 hx88
    replace hE53 := Ex.tr hE53 hx88
    replace hE65 := Ex.tr hE65 hx88
    replace hE87 := Ex.tr hE87 hx88
    have hE89 := hx88
    refine RG.vl rfl rfl rfl (Ev.pickT rfl rfl rfl) ?_
    refine RG.vl rfl rfl rfl (Ev.assign rfl rfl) ?_
    refine RG.done ?_
    refine QW.sub (S' := [(4, _)]) ⟨rfl, trivial⟩ ?_
    refine QW.then_ ?_
    refine CW.ret ?_
    refine QW.ret1 rfl rfl ?_
    have hB := (Ex.tr hB0 hE2)
    exact ⟨rfl, hB⟩
  · refine CW.seq ?_
    refine CW.region ?_
    refine RG.vl rfl rfl rfl (Ev.eqI rfl rfl rfl) ?_
    refine RG.vl rfl rfl rfl (Ev.assign rfl rfl) ?_
    refine RG.done ?_
    refine QW.sub (S' := [(1, _), (4, _), (5, _), (7, _), (8, _), (9, _), (39, _), (44, _)]) ⟨rfl, rfl, rfl, rfl, rfl, rfl, rfl, rfl, trivial⟩ ?_
    refine QW.then_ ?_
    refine CW.condP rfl (fun hc90 => ?_) (fun hc90 => ?_)
    · refine CW.region ?_
      refine RG.vl rfl rfl rfl (Ev.move rfl rfl) ?_
      refine RG.vl rfl rfl rfl ((Ev.cutStr (i := 0) (j := 63) rfl rfl Try.underlying9 rfl rfl (by omega) (by omega)).conv (congrArg Value.string ((bx_cut (frm (wd c)) 0 (63)).trans (show _ = (⟨((frm (wd c)).take (63)).toArray⟩ : ByteArray) from rfl)))) ?_
      refine RG.vl rfl rfl rfl (Ev.assign rfl rfl) ?_
      refine RG.done ?_
      refine QW.blockN ?_
      refine QW.then_ ?_
      refine CW.seq ?_
      refine CW.region ?_
      refine RG.vl rfl rfl rfl (Ev.move rfl rfl) ?_
      refine RG.call rfl rfl rfl rfl rfl rfl rfl en_16 (brd_no2 (e0 := 2) _ (bad_no (T := wd c) (a := a) (q := 1) hwa hw60 ha64 (by omega))) ?_
      have hpre91 := (Ex.tr hB0 hE2)
      rintro _ w91 ⟨A1, B1, C1, D1, rfl, hoy1, hoz1, hx91⟩
      replace hE2 := Ex.tr hE2 hx91
      replace hE4 := Ex.tr hE4 hx91
      have hE92 := hx91
      refine RG.vl rfl rfl rfl (Ev.move rfl rfl) ?_
      refine RG.vl rfl rfl rfl (Ev.extract rfl rfl rfl) ?_
      refine RG.vl rfl rfl rfl (Ev.extract rfl rfl rfl) ?_
      refine RG.local_ rfl rfl rfl rfl (fun _ => rfl) rfl rfl (fun _ => rfl) inf_43 rfl rfl rfl (fun g1 w93 eg1 hx93 hb93 => ?_)
      have hsb94 := fun e => sep_new (g := g1) hoy1 eg1 e
      have hsb95 := fun e => sep_new (g := g1) hoz1 eg1 e
      have hle96 : w.heap.size ≤ g1 := by have := hE2.size; omega
      have hle97 : w1.heap.size ≤ g1 := by have := hE4.size; omega
      have hle98 : w3.heap.size ≤ g1 := by have := hE92.size; omega
      have hle99 : w91.heap.size ≤ g1 := by have := (Ex.rfl_ w91).size; omega
      replace hE2 := Ex.tr hE2 hx93
      replace hE4 := Ex.tr hE4 hx93
      replace hE92 := Ex.tr hE92 hx93
      have hE100 := hx93
      refine RG.vl rfl rfl rfl (Ev.assign rfl rfl) ?_
      refine RG.done ?_
      refine QW.then_ ?_
      refine CW.seq ?_
      refine CW.region ?_
      refine RG.call rfl rfl rfl rfl rfl rfl rfl en_13 (bwr_no (t := longPay) (e0 := 3) _ (by decide) (by decide) (by decide)) ?_
      rintro _ w101 ⟨rfl, hx101⟩
      replace hE2 := Ex.tr hE2 hx101
      replace hE4 := Ex.tr hE4 hx101
      replace hE92 := Ex.tr hE92 hx101
      replace hE100 := Ex.tr hE100 hx101
      have hE102 := hx101
      refine RG.vl rfl rfl rfl (Ev.move rfl rfl) ?_
      refine RG.vl rfl rfl rfl (Ev.extract rfl rfl rfl) ?_
      refine RG.vl rfl rfl rfl (Ev.extract rfl rfl rfl) ?_
      refine RG.vl rfl rfl rfl (Ev.assign rfl rfl) ?_
      refine RG.vl rfl rfl rfl (Ev.assign rfl rfl) ?_
      refine RG.done ?_
      refine QW.sub (S' := [(1, _), (4, _), (8, _), (10, _), (11, _), (13, _)]) ⟨rfl, rfl, rfl, rfl, rfl, rfl, trivial⟩ ?_
      refine QW.then_ ?_
      refine CW.seq ?_
      obtain ⟨d, hx⟩ : ∃ d, ([[97], [49, 32], [45, 49], [49, 46], [0], [49, 255], [120]] : List (List UInt8))[z % 7]? = some d := ⟨_, List.getElem?_eq_getElem (by show z % 7 < 7; omega)⟩
      obtain ⟨hd2, hd1⟩ := noPays_bad d (List.mem_of_getElem? hx)
      refine CW.region ?_
      refine RG.litO (os := [_, _, _, _, _, _, _]) (enc := encTx) ([[97], [49, 32], [45, 49], [49, 46], [0], [49, 255], [120]]) rfl rfl rfl rfl rfl rfl rfl Try.underlying57 inf_9 rfl rfl rfl rfl rfl encTx_len rfl rfl (fun v103 wk104 hxwk104 hown105 hnew106 => ?_)
      have hsep107 : Sep v103 _ := Sep.of_new (Own.ext hoy1 hE100) hnew106
      have hsep108 : Sep v103 _ := Sep.of_new (Own.ext hoz1 hE100) hnew106
      replace hE2 := Ex.tr hE2 hxwk104
      replace hE4 := Ex.tr hE4 hxwk104
      replace hE92 := Ex.tr hE92 hxwk104
      replace hE100 := Ex.tr hE100 hxwk104
      replace hE102 := Ex.tr hE102 hxwk104
      have hE109 := hxwk104
      refine RG.vl rfl rfl rfl (Ev.move rfl rfl) ?_
      refine RG.vl rfl rfl rfl ((Ev.rem8 rfl rfl rfl (by omega)).conv (congrArg (Value.int .u8) (show (z : Int) % 7 = ((z % 7 : Nat) : Int) by omega))) ?_
      refine RG.idxO rfl rfl rfl rfl rfl rfl Try.underlying57 sz_9 encTx_len (hown105) (hx) (fun g111 hg111 hBg111 hp110b hp110 => ?_)
      refine RG.vl rfl rfl rfl (Ev.ld0 rfl rfl Try.underlying9 rfl (hp110) (rfl)) ?_
      refine RG.call rfl rfl rfl rfl rfl rfl rfl en_13 (bwr_no (e0 := 2) _ hd2 (by decide) hd1) ?_
      rintro _ w112 ⟨rfl, hx112⟩
      replace hE2 := Ex.tr hE2 hx112
      replace hE4 := Ex.tr hE4 hx112
      replace hE92 := Ex.tr hE92 hx112
      replace hE100 := Ex.tr hE100 hx112
      replace hE102 := Ex.tr hE102 hx112
      replace hE109 := Ex.tr hE109 hx112
      have hE113 := hx112
      refine RG.vl rfl rfl rfl (Ev.move rfl rfl) ?_
      refine RG.vl rfl rfl rfl (Ev.extract rfl rfl rfl) ?_
      refine RG.vl rfl rfl rfl (Ev.extract rfl rfl rfl) ?_
      refine RG.vl rfl rfl rfl (Ev.assign rfl rfl) ?_
      refine RG.vl rfl rfl rfl (Ev.assign rfl rfl) ?_
      refine RG.done ?_
      refine QW.then_ ?_
      refine CW.seq ?_
      refine CW.region ?_
      refine RG.vl rfl rfl rfl (Ev.build1 rfl rfl rfl inf_27 rfl rfl (by kernel_rfl) rfl) ?_
      refine RG.call rfl rfl rfl rfl rfl rfl rfl en_11 (scan_no (s := ⟨63, 0, 1, 0, 0, 1⟩) (e0 := 2) _ (noS_pl (by decide))) ?_
      have hpre114 := (Ex.tr hB0 hE2)
      rintro _ w114 ⟨A2, B2, C2, D2, rfl, hoy2, hoz2, hx114⟩
      have hsep115 : Sep (Value.slice A2 0 B2) _ := Sep.of_new (Own.ext hoy1 hE100) (fun k h => Own.ge hoy2 h)
      have hsep116 : Sep (Value.slice A2 0 B2) _ := Sep.of_new (Own.ext hoz1 hE100) (fun k h => Own.ge hoy2 h)
      have hsep117 : Sep (Value.slice A2 0 B2) _ := Sep.of_new (Own.ext hown105 hE113) (fun k h => Own.ge hoy2 h)
      have hsep118 : Sep (Value.slice C2 0 D2) _ := Sep.of_new (Own.ext hoy1 hE100) (fun k h => Own.ge hoz2 h)
      have hsep119 : Sep (Value.slice C2 0 D2) _ := Sep.of_new (Own.ext hoz1 hE100) (fun k h => Own.ge hoz2 h)
      have hsep120 : Sep (Value.slice C2 0 D2) _ := Sep.of_new (Own.ext hown105 hE113) (fun k h => Own.ge hoz2 h)
      replace hE2 := Ex.tr hE2 hx114
      replace hE4 := Ex.tr hE4 hx114
      replace hE92 := Ex.tr hE92 hx114
      replace hE100 := Ex.tr hE100 hx114
      replace hE102 := Ex.tr hE102 hx114
      replace hE109 := Ex.tr hE109 hx114
      replace hE113 := Ex.tr hE113 hx114
      have hE121 := hx114
      refine RG.vl rfl rfl rfl (Ev.move rfl rfl) ?_
      refine RG.vl rfl rfl rfl (Ev.extract rfl rfl rfl) ?_
      refine RG.vl rfl rfl rfl (Ev.extract rfl rfl rfl) ?_
      refine RG.local_ rfl rfl rfl rfl (fun _ => rfl) rfl rfl (fun _ => rfl) inf_43 rfl rfl rfl (fun g2 w122 eg2 hx122 hb122 => ?_)
      have hsb123 := fun e => sep_new (g := g2) (Own.ext hoy1 hE100) eg2 e
      have hsb124 := fun e => sep_new (g := g2) (Own.ext hoz1 hE100) eg2 e
      have hsb125 := fun e => sep_new (g := g2) (Own.ext hown105 hE113) eg2 e
      have hsb126 := fun e => sep_new (g := g2) hoy2 eg2 e
      have hsb127 := fun e => sep_new (g := g2) hoz2 eg2 e
      have hle128 : w.heap.size ≤ g2 := by have := hE2.size; omega
      have hle129 : w1.heap.size ≤ g2 := by have := hE4.size; omega
      have hle130 : w3.heap.size ≤ g2 := by have := hE92.size; omega
      have hle131 : w91.heap.size ≤ g2 := by have := hE100.size; omega
      have hle132 : w93.heap.size ≤ g2 := by have := hE102.size; omega
      have hle133 : w101.heap.size ≤ g2 := by have := hE109.size; omega
      have hle134 : wk104.heap.size ≤ g2 := by have := hE113.size; omega
      have hle135 : w112.heap.size ≤ g2 := by have := hE121.size; omega
      have hle136 : w114.heap.size ≤ g2 := by have := (Ex.rfl_ w114).size; omega
      have hlt137 : g1 < g2 := by have := Blk.lt (hb93.ext hE102); omega
      replace hE2 := Ex.tr hE2 hx122
      replace hE4 := Ex.tr hE4 hx122
      replace hE92 := Ex.tr hE92 hx122
      replace hE100 := Ex.tr hE100 hx122
      replace hE102 := Ex.tr hE102 hx122
      replace hE109 := Ex.tr hE109 hx122
      replace hE113 := Ex.tr hE113 hx122
      replace hE121 := Ex.tr hE121 hx122
      have hE138 := hx122
      refine RG.vl rfl rfl rfl (Ev.assign rfl rfl) ?_
      refine RG.done ?_
      refine QW.sub (S' := [(4, _), (8, _), (10, _), (11, _), (13, _), (15, _), (17, _)]) ⟨rfl, rfl, rfl, rfl, rfl, rfl, rfl, trivial⟩ ?_
      refine QW.then_ ?_
      refine CW.seq ?_
      refine CW.region ?_
      refine RG.vl rfl rfl rfl (Ev.build1 rfl rfl rfl inf_27 rfl rfl (by kernel_rfl) rfl) ?_
      refine RG.call rfl rfl rfl rfl rfl rfl rfl en_11 (scan_no (s := ⟨64, 0, 1, 0, 0, 1⟩) (e0 := 200) _ noS_none) ?_
      have hpre139 := (Ex.tr hB0 hE2)
      rintro _ w139 ⟨A3, B3, C3, D3, rfl, hoy3, hoz3, hx139⟩
      have hsep140 : Sep (Value.slice A3 0 B3) _ := Sep.of_new (Own.ext hoy1 hE100) (fun k h => Own.ge hoy3 h)
      have hsep141 : Sep (Value.slice A3 0 B3) _ := Sep.of_new (Own.ext hoz1 hE100) (fun k h => Own.ge hoy3 h)
      have hsep142 : Sep (Value.slice A3 0 B3) _ := Sep.of_new (Own.ext hown105 hE113) (fun k h => Own.ge hoy3 h)
      have hsep143 : Sep (Value.slice A3 0 B3) _ := Sep.of_new (Own.ext hoy2 hE138) (fun k h => Own.ge hoy3 h)
      have hsep144 : Sep (Value.slice A3 0 B3) _ := Sep.of_new (Own.ext hoz2 hE138) (fun k h => Own.ge hoy3 h)
      have hsep145 : Sep (Value.slice C3 0 D3) _ := Sep.of_new (Own.ext hoy1 hE100) (fun k h => Own.ge hoz3 h)
      have hsep146 : Sep (Value.slice C3 0 D3) _ := Sep.of_new (Own.ext hoz1 hE100) (fun k h => Own.ge hoz3 h)
      have hsep147 : Sep (Value.slice C3 0 D3) _ := Sep.of_new (Own.ext hown105 hE113) (fun k h => Own.ge hoz3 h)
      have hsep148 : Sep (Value.slice C3 0 D3) _ := Sep.of_new (Own.ext hoy2 hE138) (fun k h => Own.ge hoz3 h)
      have hsep149 : Sep (Value.slice C3 0 D3) _ := Sep.of_new (Own.ext hoz2 hE138) (fun k h => Own.ge hoz3 h)
      replace hE2 := Ex.tr hE2 hx139
      replace hE4 := Ex.tr hE4 hx139
      replace hE92 := Ex.tr hE92 hx139
      replace hE100 := Ex.tr hE100 hx139
      replace hE102 := Ex.tr hE102 hx139
      replace hE109 := Ex.tr hE109 hx139
      replace hE113 := Ex.tr hE113 hx139
      replace hE121 := Ex.tr hE121 hx139
      replace hE138 := Ex.tr hE138 hx139
      have hE150 := hx139
      refine RG.vl rfl rfl rfl (Ev.move rfl rfl) ?_
      refine RG.vl rfl rfl rfl (Ev.extract rfl rfl rfl) ?_
      refine RG.vl rfl rfl rfl (Ev.extract rfl rfl rfl) ?_
      refine RG.local_ rfl rfl rfl rfl (fun _ => rfl) rfl rfl (fun _ => rfl) inf_43 rfl rfl rfl (fun g3 w151 eg3 hx151 hb151 => ?_)
      have hsb152 := fun e => sep_new (g := g3) (Own.ext hoy1 hE100) eg3 e
      have hsb153 := fun e => sep_new (g := g3) (Own.ext hoz1 hE100) eg3 e
      have hsb154 := fun e => sep_new (g := g3) (Own.ext hown105 hE113) eg3 e
      have hsb155 := fun e => sep_new (g := g3) (Own.ext hoy2 hE138) eg3 e
      have hsb156 := fun e => sep_new (g := g3) (Own.ext hoz2 hE138) eg3 e
      have hsb157 := fun e => sep_new (g := g3) hoy3 eg3 e
      have hsb158 := fun e => sep_new (g := g3) hoz3 eg3 e
      have hle159 : w.heap.size ≤ g3 := by have := hE2.size; omega
      have hle160 : w1.heap.size ≤ g3 := by have := hE4.size; omega
      have hle161 : w3.heap.size ≤ g3 := by have := hE92.size; omega
      have hle162 : w91.heap.size ≤ g3 := by have := hE100.size; omega
      have hle163 : w93.heap.size ≤ g3 := by have := hE102.size; omega
      have hle164 : w101.heap.size ≤ g3 := by have := hE109.size; omega
      have hle165 : wk104.heap.size ≤ g3 := by have := hE113.size; omega
      have hle166 : w112.heap.size ≤ g3 := by have := hE121.size; omega
      have hle167 : w114.heap.size ≤ g3 := by have := hE138.size; omega
      have hle168 : w122.heap.size ≤ g3 := by have := hE150.size; omega
      have hle169 : w139.heap.size ≤ g3 := by have := (Ex.rfl_ w139).size; omega
      have hlt170 : g1 < g3 := by have := Blk.lt (hb93.ext hE102); omega
      have hlt171 : g2 < g3 := by have := Blk.lt (hb122.ext hE150); omega
      replace hE2 := Ex.tr hE2 hx151
      replace hE4 := Ex.tr hE4 hx151
      replace hE92 := Ex.tr hE92 hx151
      replace hE100 := Ex.tr hE100 hx151
      replace hE102 := Ex.tr hE102 hx151
      replace hE109 := Ex.tr hE109 hx151
      replace hE113 := Ex.tr hE113 hx151
      replace hE121 := Ex.tr hE121 hx151
      replace hE138 := Ex.tr hE138 hx151
      replace hE150 := Ex.tr hE150 hx151
      have hE172 := hx151
      refine RG.vl rfl rfl rfl (Ev.assign rfl rfl) ?_
      refine RG.done ?_
      refine QW.then_ ?_
      refine CW.seq ?_
      have hn0 : ([] : List Nat).length = 0 := rfl
      refine CW.region ?_
      refine RG.vl rfl rfl rfl (Ev.move rfl rfl) ?_
      refine RG.vl rfl rfl rfl (Ev.move rfl rfl) ?_
      refine RG.vl rfl rfl rfl (Ev.isT (Ev.eqI rfl rfl rfl) (rfl)) ?_
      refine RG.vl rfl rfl rfl (Ev.move rfl rfl) ?_
      refine RG.vl rfl rfl rfl (Ev.fld rfl rfl fld_43_0) ?_
      refine RG.vl rfl rfl rfl (Ev.ldAt rfl rfl Try.underlying9 rfl ((hb93.ext hE102).cells) (rfl)) ?_
      refine RG.vl rfl rfl rfl (Ev.isT (Ev.eqS rfl rfl rfl) (rfl)) ?_
      refine RG.vl rfl rfl rfl (Ev.pickT rfl rfl rfl) ?_
      refine RG.vl rfl rfl rfl (Ev.move rfl rfl) ?_
      refine RG.vl rfl rfl rfl (Ev.fld rfl rfl fld_43_1) ?_
      refine RG.vl rfl rfl rfl (Ev.ldAt rfl rfl Try.underlying4 rfl ((hb93.ext hE102).cells) (rfl)) ?_
      refine RG.vl rfl rfl rfl (Ev.notT rfl rfl) ?_
      refine RG.vl rfl rfl rfl (Ev.pickT rfl rfl rfl) ?_
      refine RG.vl rfl rfl rfl (Ev.move rfl rfl) ?_
      refine RG.vl rfl rfl rfl (Ev.fld rfl rfl fld_43_2) ?_
      refine RG.vl rfl rfl rfl (Ev.ldAt rfl rfl Try.underlying41 rfl ((hb93.ext hE102).cells) (rfl)) ?_
      refine RG.vl rfl rfl rfl (Ev.lenL rfl rfl rfl Try.underlying41 (((Own.ext hoy1 hE100).rdl encZ_len))) ?_
      refine RG.vl rfl rfl rfl (Ev.fld rfl rfl fld_43_3) ?_
      refine RG.vl rfl rfl rfl (Ev.ldAt rfl rfl Try.underlying41 rfl ((hb93.ext hE102).cells) (rfl)) ?_
      refine RG.vl rfl rfl rfl (Ev.lenL rfl rfl rfl Try.underlying41 (((Own.ext hoz1 hE100).rdl encZ_len))) ?_
      refine RG.vl rfl rfl rfl (Ev.addI rfl rfl rfl (by omega)) ?_
      refine RG.vl rfl rfl rfl (Ev.isT (Ev.eqI rfl rfl rfl) (rfl)) ?_
      refine RG.vl rfl rfl rfl (Ev.pickT rfl rfl rfl) ?_
      refine RG.vl rfl rfl rfl (Ev.move rfl rfl) ?_
      refine RG.vl rfl rfl rfl (Ev.move rfl rfl) ?_
      refine RG.vl rfl rfl rfl (Ev.isT (Ev.eqI rfl rfl rfl) (rfl)) ?_
      refine RG.vl rfl rfl rfl (Ev.pickT rfl rfl rfl) ?_
      refine RG.vl rfl rfl rfl (Ev.move rfl rfl) ?_
      refine RG.vl rfl rfl rfl (Ev.move rfl rfl) ?_
      refine RG.vl rfl rfl rfl (Ev.isT (Ev.eqI rfl rfl rfl) (rfl)) ?_
      refine RG.vl rfl rfl rfl (Ev.pickT rfl rfl rfl) ?_
      refine RG.vl rfl rfl rfl (Ev.move rfl rfl) ?_
      refine RG.vl rfl rfl rfl (Ev.move rfl rfl) ?_
      refine RG.vl rfl rfl rfl (Ev.isT (Ev.eqI rfl rfl rfl) (rfl)) ?_
      refine RG.vl rfl rfl rfl (Ev.pickT rfl rfl rfl) ?_
      refine RG.vl rfl rfl rfl (Ev.move rfl rfl) ?_
      refine RG.vl rfl rfl rfl (Ev.move rfl rfl) ?_
      refine RG.vl rfl rfl rfl (Ev.isT (Ev.eqI rfl rfl rfl) (rfl)) ?_
      refine RG.vl rfl rfl rfl (Ev.pickT rfl rfl rfl) ?_
      refine RG.vl rfl rfl rfl (Ev.move rfl rfl) ?_
      refine RG.call rfl rfl rfl rfl rfl rfl rfl en_12 (awake_ret _) ?_
      rintro _ w173 ⟨rfl, hx173⟩
      replace hE2 := Ex.tr hE2 hx173
      replace hE4 := Ex.tr hE4 hx173
      replace hE92 := Ex.tr hE92 hx173
      replace hE100 := Ex.tr hE100 hx173
      replace hE102 := Ex.tr hE102 hx173
      replace hE109 := Ex.tr hE109 hx173
      replace hE113 := Ex.tr hE113 hx173
      replace hE121 := Ex.tr hE121 hx173
      replace hE138 := Ex.tr hE138 hx173
      replace hE150 := Ex.tr hE150 hx173
      replace hE172 := Ex.tr hE172 hx173
      have hE174 := hx173
      refine RG.vl rfl rfl rfl (Ev.pickT rfl rfl rfl) ?_
      refine RG.vl rfl rfl rfl (Ev.assign rfl rfl) ?_
      refine RG.done ?_
      refine QW.sub (S' := [(4, _)]) ⟨rfl, trivial⟩ ?_
      refine QW.then_ ?_
      refine CW.ret ?_
      refine QW.ret1 rfl rfl ?_
      have hB := (Ex.tr hB0 hE2)
      exact ⟨rfl, hB⟩
    · refine CW.seq ?_
      refine CW.region ?_
      refine RG.vl rfl rfl rfl (Ev.eqI rfl rfl rfl) ?_
      refine RG.vl rfl rfl rfl (Ev.assign rfl rfl) ?_
      refine RG.done ?_
      refine QW.then_ ?_
      refine CW.condP rfl (fun hc175 => ?_) (fun hc175 => ?_)
      · refine CW.draw [] (.ex) 10 rfl mixed (fun wd176 hxwd176 => ?_)
        replace hE2 := Ex.tr hE2 hxwd176
        replace hE4 := Ex.tr hE4 hxwd176
        refine AG.takeW 0 rfl (by kernel_rfl) (by kernel_rfl) rfl rfl rfl (fun _ => Ev.move rfl rfl) ?_
        refine AG.takeW 1 rfl (by kernel_rfl) (by kernel_rfl) rfl rfl rfl (fun _ => Ev.move rfl rfl) ?_
        refine AG.takeW 2 rfl (by kernel_rfl) (by kernel_rfl) rfl rfl rfl (fun _ => (Ev.cutStr (i := 0) (j := a) rfl rfl Try.underlying9 rfl rfl (by omega) (by omega)).conv (congrArg Value.string ((bx_cut (frm (wd c)) 0 (a)).trans (show _ = (⟨((frm (wd c)).take (a)).toArray⟩ : ByteArray) from rfl)))) ?_
        refine AG.takeW 3 rfl (by kernel_rfl) (by kernel_rfl) rfl rfl rfl (fun _ => (Ev.cat rfl rfl rfl (by rw [sb_len, List.length_take]; show _ + 1 ≤ _; omega)).conv (congrArg Value.string (bx_cat (_) ([120])))) ?_
        refine AG.takeW 4 rfl (by kernel_rfl) (by kernel_rfl) rfl rfl rfl (fun _ => Ev.move rfl rfl) ?_
        refine AG.takeW 5 rfl (by kernel_rfl) (by kernel_rfl) rfl rfl rfl (fun _ => Ev.move rfl rfl) ?_
        refine AG.takeW 6 rfl (by kernel_rfl) (by kernel_rfl) rfl rfl rfl (fun _ => (Ev.addI rfl rfl rfl (by omega)).conv (congrArg (Value.int .i64) (show (a : Int) + 1 = ((a + 1 : Nat) : Int) by omega))) ?_
        refine AG.takeW 7 rfl (by kernel_rfl) (by kernel_rfl) rfl rfl rfl (fun _ => (Ev.cutStr (i := a + 1) rfl rfl Try.underlying9 rfl rfl (by omega) (Nat.le_refl _)).conv (congrArg Value.string ((bx_cut (frm (wd c)) (a + 1) _).trans (by rw [hfs, List.take_length])))) ?_
        refine AG.takeW 8 rfl (by kernel_rfl) (by kernel_rfl) rfl rfl rfl (fun _ => (Ev.cat rfl rfl rfl (by rw [sb_len, sb_len, List.length_append, List.length_take, List.length_drop]; show _ + 1 + _ ≤ _; omega)).conv (congrArg Value.string (bx_cat (_) (_)))) ?_
        refine AG.takeW 9 rfl (by kernel_rfl) (by kernel_rfl) rfl rfl rfl (fun _ => Ev.assign rfl rfl) ?_
        refine AG.done (by kernel_rfl) ?_
        refine QW.blockN ?_
        refine QW.then_ ?_
        refine CW.seq ?_
        refine CW.region ?_
        refine RG.vl rfl rfl rfl (Ev.move rfl rfl) ?_
        refine RG.call rfl rfl rfl rfl rfl rfl rfl en_16 (brd_no2 (e0 := 2) _ (bad_no (T := wd c) (a := a) (q := 2) hwa hw60 ha64 (by omega))) ?_
        have hpre177 := (Ex.tr hB0 hE2)
        rintro _ w177 ⟨A1, B1, C1, D1, rfl, hoy1, hoz1, hx177⟩
        replace hE2 := Ex.tr hE2 hx177
        replace hE4 := Ex.tr hE4 hx177
        have hE178 := hx177
        refine RG.vl rfl rfl rfl (Ev.move rfl rfl) ?_
        refine RG.vl rfl rfl rfl (Ev.extract rfl rfl rfl) ?_
        refine RG.vl rfl rfl rfl (Ev.extract rfl rfl rfl) ?_
        refine RG.local_ rfl rfl rfl rfl (fun _ => rfl) rfl rfl (fun _ => rfl) inf_43 rfl rfl rfl (fun g1 w179 eg1 hx179 hb179 => ?_)
        have hsb180 := fun e => sep_new (g := g1) hoy1 eg1 e
        have hsb181 := fun e => sep_new (g := g1) hoz1 eg1 e
        have hle182 : w.heap.size ≤ g1 := by have := hE2.size; omega
        have hle183 : w1.heap.size ≤ g1 := by have := hE4.size; omega
        have hle184 : wd176.heap.size ≤ g1 := by have := hE178.size; omega
        have hle185 : w177.heap.size ≤ g1 := by have := (Ex.rfl_ w177).size; omega
        replace hE2 := Ex.tr hE2 hx179
        replace hE4 := Ex.tr hE4 hx179
        replace hE178 := Ex.tr hE178 hx179
        have hE186 := hx179
        refine RG.vl rfl rfl rfl (Ev.assign rfl rfl) ?_
        refine RG.done ?_
        refine QW.sub (S' := [(1, _), (4, _), (8, _), (10, _), (11, _)]) ⟨rfl, rfl, rfl, rfl, rfl, trivial⟩ ?_
        refine QW.then_ ?_
        refine CW.seq ?_
        refine CW.region ?_
        refine RG.call rfl rfl rfl rfl rfl rfl rfl en_13 (bwr_no (t := longPay) (e0 := 3) _ (by decide) (by decide) (by decide)) ?_
        rintro _ w187 ⟨rfl, hx187⟩
        replace hE2 := Ex.tr hE2 hx187
        replace hE4 := Ex.tr hE4 hx187
        replace hE178 := Ex.tr hE178 hx187
        replace hE186 := Ex.tr hE186 hx187
        have hE188 := hx187
        refine RG.vl rfl rfl rfl (Ev.move rfl rfl) ?_
        refine RG.vl rfl rfl rfl (Ev.extract rfl rfl rfl) ?_
        refine RG.vl rfl rfl rfl (Ev.extract rfl rfl rfl) ?_
        refine RG.vl rfl rfl rfl (Ev.assign rfl rfl) ?_
        refine RG.vl rfl rfl rfl (Ev.assign rfl rfl) ?_
        refine RG.done ?_
        refine QW.then_ ?_
        refine CW.seq ?_
        obtain ⟨d, hx⟩ : ∃ d, ([[97], [49, 32], [45, 49], [49, 46], [0], [49, 255], [120]] : List (List UInt8))[z % 7]? = some d := ⟨_, List.getElem?_eq_getElem (by show z % 7 < 7; omega)⟩
        obtain ⟨hd2, hd1⟩ := noPays_bad d (List.mem_of_getElem? hx)
        refine CW.region ?_
        refine RG.litO (os := [_, _, _, _, _, _, _]) (enc := encTx) ([[97], [49, 32], [45, 49], [49, 46], [0], [49, 255], [120]]) rfl rfl rfl rfl rfl rfl rfl Try.underlying57 inf_9 rfl rfl rfl rfl rfl encTx_len rfl rfl (fun v189 wk190 hxwk190 hown191 hnew192 => ?_)
        have hsep193 : Sep v189 _ := Sep.of_new (Own.ext hoy1 hE186) hnew192
        have hsep194 : Sep v189 _ := Sep.of_new (Own.ext hoz1 hE186) hnew192
        replace hE2 := Ex.tr hE2 hxwk190
        replace hE4 := Ex.tr hE4 hxwk190
        replace hE178 := Ex.tr hE178 hxwk190
        replace hE186 := Ex.tr hE186 hxwk190
        replace hE188 := Ex.tr hE188 hxwk190
        have hE195 := hxwk190
        refine RG.vl rfl rfl rfl (Ev.move rfl rfl) ?_
        refine RG.vl rfl rfl rfl ((Ev.rem8 rfl rfl rfl (by omega)).conv (congrArg (Value.int .u8) (show (z : Int) % 7 = ((z % 7 : Nat) : Int) by omega))) ?_
        refine RG.idxO rfl rfl rfl rfl rfl rfl Try.underlying57 sz_9 encTx_len (hown191) (hx) (fun g197 hg197 hBg197 hp196b hp196 => ?_)
        refine RG.vl rfl rfl rfl (Ev.ld0 rfl rfl Try.underlying9 rfl (hp196) (rfl)) ?_
        refine RG.call rfl rfl rfl rfl rfl rfl rfl en_13 (bwr_no (e0 := 2) _ hd2 (by decide) hd1) ?_
        rintro _ w198 ⟨rfl, hx198⟩
        replace hE2 := Ex.tr hE2 hx198
        replace hE4 := Ex.tr hE4 hx198
        replace hE178 := Ex.tr hE178 hx198
        replace hE186 := Ex.tr hE186 hx198
        replace hE188 := Ex.tr hE188 hx198
        replace hE195 := Ex.tr hE195 hx198
        have hE199 := hx198
        refine RG.vl rfl rfl rfl (Ev.move rfl rfl) ?_
        refine RG.vl rfl rfl rfl (Ev.extract rfl rfl rfl) ?_
        refine RG.vl rfl rfl rfl (Ev.extract rfl rfl rfl) ?_
        refine RG.vl rfl rfl rfl (Ev.assign rfl rfl) ?_
        refine RG.vl rfl rfl rfl (Ev.assign rfl rfl) ?_
        refine RG.done ?_
        refine QW.sub (S' := [(4, _), (8, _), (10, _), (11, _), (13, _), (15, _)]) ⟨rfl, rfl, rfl, rfl, rfl, rfl, trivial⟩ ?_
        refine QW.then_ ?_
        refine CW.seq ?_
        refine CW.region ?_
        refine RG.vl rfl rfl rfl (Ev.build1 rfl rfl rfl inf_27 rfl rfl (by kernel_rfl) rfl) ?_
        refine RG.call rfl rfl rfl rfl rfl rfl rfl en_11 (scan_no (s := ⟨63, 0, 1, 0, 0, 1⟩) (e0 := 2) _ (noS_pl (by decide))) ?_
        have hpre200 := (Ex.tr hB0 hE2)
        rintro _ w200 ⟨A2, B2, C2, D2, rfl, hoy2, hoz2, hx200⟩
        have hsep201 : Sep (Value.slice A2 0 B2) _ := Sep.of_new (Own.ext hoy1 hE186) (fun k h => Own.ge hoy2 h)
        have hsep202 : Sep (Value.slice A2 0 B2) _ := Sep.of_new (Own.ext hoz1 hE186) (fun k h => Own.ge hoy2 h)
        have hsep203 : Sep (Value.slice A2 0 B2) _ := Sep.of_new (Own.ext hown191 hE199) (fun k h => Own.ge hoy2 h)
        have hsep204 : Sep (Value.slice C2 0 D2) _ := Sep.of_new (Own.ext hoy1 hE186) (fun k h => Own.ge hoz2 h)
        have hsep205 : Sep (Value.slice C2 0 D2) _ := Sep.of_new (Own.ext hoz1 hE186) (fun k h => Own.ge hoz2 h)
        have hsep206 : Sep (Value.slice C2 0 D2) _ := Sep.of_new (Own.ext hown191 hE199) (fun k h => Own.ge hoz2 h)
        replace hE2 := Ex.tr hE2 hx200
        replace hE4 := Ex.tr hE4 hx200
        replace hE178 := Ex.tr hE178 hx200
        replace hE186 := Ex.tr hE186 hx200
        replace hE188 := Ex.tr hE188 hx200
        replace hE195 := Ex.tr hE195 hx200
        replace hE199 := Ex.tr hE199 hx200
        have hE207 := hx200
        refine RG.vl rfl rfl rfl (Ev.move rfl rfl) ?_
        refine RG.vl rfl rfl rfl (Ev.extract rfl rfl rfl) ?_
        refine RG.vl rfl rfl rfl (Ev.extract rfl rfl rfl) ?_
        refine RG.local_ rfl rfl rfl rfl (fun _ => rfl) rfl rfl (fun _ => rfl) inf_43 rfl rfl rfl (fun g2 w208 eg2 hx208 hb208 => ?_)
        have hsb209 := fun e => sep_new (g := g2) (Own.ext hoy1 hE186) eg2 e
        have hsb210 := fun e => sep_new (g := g2) (Own.ext hoz1 hE186) eg2 e
        have hsb211 := fun e => sep_new (g := g2) (Own.ext hown191 hE199) eg2 e
        have hsb212 := fun e => sep_new (g := g2) hoy2 eg2 e
        have hsb213 := fun e => sep_new (g := g2) hoz2 eg2 e
        have hle214 : w.heap.size ≤ g2 := by have := hE2.size; omega
        have hle215 : w1.heap.size ≤ g2 := by have := hE4.size; omega
        have hle216 : wd176.heap.size ≤ g2 := by have := hE178.size; omega
        have hle217 : w177.heap.size ≤ g2 := by have := hE186.size; omega
        have hle218 : w179.heap.size ≤ g2 := by have := hE188.size; omega
        have hle219 : w187.heap.size ≤ g2 := by have := hE195.size; omega
        have hle220 : wk190.heap.size ≤ g2 := by have := hE199.size; omega
        have hle221 : w198.heap.size ≤ g2 := by have := hE207.size; omega
        have hle222 : w200.heap.size ≤ g2 := by have := (Ex.rfl_ w200).size; omega
        have hlt223 : g1 < g2 := by have := Blk.lt (hb179.ext hE188); omega
        replace hE2 := Ex.tr hE2 hx208
        replace hE4 := Ex.tr hE4 hx208
        replace hE178 := Ex.tr hE178 hx208
        replace hE186 := Ex.tr hE186 hx208
        replace hE188 := Ex.tr hE188 hx208
        replace hE195 := Ex.tr hE195 hx208
        replace hE199 := Ex.tr hE199 hx208
        replace hE207 := Ex.tr hE207 hx208
        have hE224 := hx208
        refine RG.vl rfl rfl rfl (Ev.assign rfl rfl) ?_
        refine RG.done ?_
        refine QW.then_ ?_
        refine CW.seq ?_
        refine CW.region ?_
        refine RG.vl rfl rfl rfl (Ev.build1 rfl rfl rfl inf_27 rfl rfl (by kernel_rfl) rfl) ?_
        refine RG.call rfl rfl rfl rfl rfl rfl rfl en_11 (scan_no (s := ⟨64, 0, 1, 0, 0, 1⟩) (e0 := 200) _ noS_none) ?_
        have hpre225 := (Ex.tr hB0 hE2)
        rintro _ w225 ⟨A3, B3, C3, D3, rfl, hoy3, hoz3, hx225⟩
        have hsep226 : Sep (Value.slice A3 0 B3) _ := Sep.of_new (Own.ext hoy1 hE186) (fun k h => Own.ge hoy3 h)
        have hsep227 : Sep (Value.slice A3 0 B3) _ := Sep.of_new (Own.ext hoz1 hE186) (fun k h => Own.ge hoy3 h)
        have hsep228 : Sep (Value.slice A3 0 B3) _ := Sep.of_new (Own.ext hown191 hE199) (fun k h => Own.ge hoy3 h)
        have hsep229 : Sep (Value.slice A3 0 B3) _ := Sep.of_new (Own.ext hoy2 hE224) (fun k h => Own.ge hoy3 h)
        have hsep230 : Sep (Value.slice A3 0 B3) _ := Sep.of_new (Own.ext hoz2 hE224) (fun k h => Own.ge hoy3 h)
        have hsep231 : Sep (Value.slice C3 0 D3) _ := Sep.of_new (Own.ext hoy1 hE186) (fun k h => Own.ge hoz3 h)
        have hsep232 : Sep (Value.slice C3 0 D3) _ := Sep.of_new (Own.ext hoz1 hE186) (fun k h => Own.ge hoz3 h)
        have hsep233 : Sep (Value.slice C3 0 D3) _ := Sep.of_new (Own.ext hown191 hE199) (fun k h => Own.ge hoz3 h)
        have hsep234 : Sep (Value.slice C3 0 D3) _ := Sep.of_new (Own.ext hoy2 hE224) (fun k h => Own.ge hoz3 h)
        have hsep235 : Sep (Value.slice C3 0 D3) _ := Sep.of_new (Own.ext hoz2 hE224) (fun k h => Own.ge hoz3 h)
        replace hE2 := Ex.tr hE2 hx225
        replace hE4 := Ex.tr hE4 hx225
        replace hE178 := Ex.tr hE178 hx225
        replace hE186 := Ex.tr hE186 hx225
        replace hE188 := Ex.tr hE188 hx225
        replace hE195 := Ex.tr hE195 hx225
        replace hE199 := Ex.tr hE199 hx225
        replace hE207 := Ex.tr hE207 hx225
        replace hE224 := Ex.tr hE224 hx225
        have hE236 := hx225
        refine RG.vl rfl rfl rfl (Ev.move rfl rfl) ?_
        refine RG.vl rfl rfl rfl (Ev.extract rfl rfl rfl) ?_
        refine RG.vl rfl rfl rfl (Ev.extract rfl rfl rfl) ?_
        refine RG.local_ rfl rfl rfl rfl (fun _ => rfl) rfl rfl (fun _ => rfl) inf_43 rfl rfl rfl (fun g3 w237 eg3 hx237 hb237 => ?_)
        have hsb238 := fun e => sep_new (g := g3) (Own.ext hoy1 hE186) eg3 e
        have hsb239 := fun e => sep_new (g := g3) (Own.ext hoz1 hE186) eg3 e
        have hsb240 := fun e => sep_new (g := g3) (Own.ext hown191 hE199) eg3 e
        have hsb241 := fun e => sep_new (g := g3) (Own.ext hoy2 hE224) eg3 e
        have hsb242 := fun e => sep_new (g := g3) (Own.ext hoz2 hE224) eg3 e
        have hsb243 := fun e => sep_new (g := g3) hoy3 eg3 e
        have hsb244 := fun e => sep_new (g := g3) hoz3 eg3 e
        have hle245 : w.heap.size ≤ g3 := by have := hE2.size; omega
        have hle246 : w1.heap.size ≤ g3 := by have := hE4.size; omega
        have hle247 : wd176.heap.size ≤ g3 := by have := hE178.size; omega
        have hle248 : w177.heap.size ≤ g3 := by have := hE186.size; omega
        have hle249 : w179.heap.size ≤ g3 := by have := hE188.size; omega
        have hle250 : w187.heap.size ≤ g3 := by have := hE195.size; omega
        have hle251 : wk190.heap.size ≤ g3 := by have := hE199.size; omega
        have hle252 : w198.heap.size ≤ g3 := by have := hE207.size; omega
        have hle253 : w200.heap.size ≤ g3 := by have := hE224.size; omega
        have hle254 : w208.heap.size ≤ g3 := by have := hE236.size; omega
        have hle255 : w225.heap.size ≤ g3 := by have := (Ex.rfl_ w225).size; omega
        have hlt256 : g1 < g3 := by have := Blk.lt (hb179.ext hE188); omega
        have hlt257 : g2 < g3 := by have := Blk.lt (hb208.ext hE236); omega
        replace hE2 := Ex.tr hE2 hx237
        replace hE4 := Ex.tr hE4 hx237
        replace hE178 := Ex.tr hE178 hx237
        replace hE186 := Ex.tr hE186 hx237
        replace hE188 := Ex.tr hE188 hx237
        replace hE195 := Ex.tr hE195 hx237
        replace hE199 := Ex.tr hE199 hx237
        replace hE207 := Ex.tr hE207 hx237
        replace hE224 := Ex.tr hE224 hx237
        replace hE236 := Ex.tr hE236 hx237
        have hE258 := hx237
        refine RG.vl rfl rfl rfl (Ev.assign rfl rfl) ?_
        refine RG.done ?_
        refine QW.sub (S' := [(4, _), (8, _), (10, _), (11, _), (13, _), (15, _), (17, _), (19, _)]) ⟨rfl, rfl, rfl, rfl, rfl, rfl, rfl, rfl, trivial⟩ ?_
        refine QW.then_ ?_
        refine CW.seq ?_
        have hn0 : ([] : List Nat).length = 0 := rfl
        refine CW.region ?_
        refine RG.vl rfl rfl rfl (Ev.move rfl rfl) ?_
        refine RG.vl rfl rfl rfl (Ev.move rfl rfl) ?_
        refine RG.vl rfl rfl rfl (Ev.isT (Ev.eqI rfl rfl rfl) (rfl)) ?_
        refine RG.vl rfl rfl rfl (Ev.move rfl rfl) ?_
        refine RG.vl rfl rfl rfl (Ev.fld rfl rfl fld_43_0) ?_
        refine RG.vl rfl rfl rfl (Ev.ldAt rfl rfl Try.underlying9 rfl ((hb179.ext hE188).cells) (rfl)) ?_
        refine RG.vl rfl rfl rfl (Ev.isT (Ev.eqS rfl rfl rfl) (rfl)) ?_
        refine RG.vl rfl rfl rfl (Ev.pickT rfl rfl rfl) ?_
        refine RG.vl rfl rfl rfl (Ev.move rfl rfl) ?_
        refine RG.vl rfl rfl rfl (Ev.fld rfl rfl fld_43_1) ?_
        refine RG.vl rfl rfl rfl (Ev.ldAt rfl rfl Try.underlying4 rfl ((hb179.ext hE188).cells) (rfl)) ?_
        refine RG.vl rfl rfl rfl (Ev.notT rfl rfl) ?_
        refine RG.vl rfl rfl rfl (Ev.pickT rfl rfl rfl) ?_
        refine RG.vl rfl rfl rfl (Ev.move rfl rfl) ?_
        refine RG.vl rfl rfl rfl (Ev.fld rfl rfl fld_43_2) ?_
        refine RG.vl rfl rfl rfl (Ev.ldAt rfl rfl Try.underlying41 rfl ((hb179.ext hE188).cells) (rfl)) ?_
        refine RG.vl rfl rfl rfl (Ev.lenL rfl rfl rfl Try.underlying41 (((Own.ext hoy1 hE186).rdl encZ_len))) ?_
        refine RG.vl rfl rfl rfl (Ev.fld rfl rfl fld_43_3) ?_
        refine RG.vl rfl rfl rfl (Ev.ldAt rfl rfl Try.underlying41 rfl ((hb179.ext hE188).cells) (rfl)) ?_
        refine RG.vl rfl rfl rfl (Ev.lenL rfl rfl rfl Try.underlying41 (((Own.ext hoz1 hE186).rdl encZ_len))) ?_
        refine RG.vl rfl rfl rfl (Ev.addI rfl rfl rfl (by omega)) ?_
        refine RG.vl rfl rfl rfl (Ev.isT (Ev.eqI rfl rfl rfl) (rfl)) ?_
        refine RG.vl rfl rfl rfl (Ev.pickT rfl rfl rfl) ?_
        refine RG.vl rfl rfl rfl (Ev.move rfl rfl) ?_
        refine RG.vl rfl rfl rfl (Ev.move rfl rfl) ?_
        refine RG.vl rfl rfl rfl (Ev.isT (Ev.eqI rfl rfl rfl) (rfl)) ?_
        refine RG.vl rfl rfl rfl (Ev.pickT rfl rfl rfl) ?_
        refine RG.vl rfl rfl rfl (Ev.move rfl rfl) ?_
        refine RG.vl rfl rfl rfl (Ev.move rfl rfl) ?_
        refine RG.vl rfl rfl rfl (Ev.isT (Ev.eqI rfl rfl rfl) (rfl)) ?_
        refine RG.vl rfl rfl rfl (Ev.pickT rfl rfl rfl) ?_
        refine RG.vl rfl rfl rfl (Ev.move rfl rfl) ?_
        refine RG.vl rfl rfl rfl (Ev.move rfl rfl) ?_
        refine RG.vl rfl rfl rfl (Ev.isT (Ev.eqI rfl rfl rfl) (rfl)) ?_
        refine RG.vl rfl rfl rfl (Ev.pickT rfl rfl rfl) ?_
        refine RG.vl rfl rfl rfl (Ev.move rfl rfl) ?_
        refine RG.vl rfl rfl rfl (Ev.move rfl rfl) ?_
        refine RG.vl rfl rfl rfl (Ev.isT (Ev.eqI rfl rfl rfl) (rfl)) ?_
        refine RG.vl rfl rfl rfl (Ev.pickT rfl rfl rfl) ?_
        refine RG.vl rfl rfl rfl (Ev.move rfl rfl) ?_
        refine RG.call rfl rfl rfl rfl rfl rfl rfl en_12 (awake_ret _) ?_
        rintro _ w259 ⟨rfl, hx259⟩
        replace hE2 := Ex.tr hE2 hx259
        replace hE4 := Ex.tr hE4 hx259
        replace hE178 := Ex.tr hE178 hx259
        replace hE186 := Ex.tr hE186 hx259
        replace hE188 := Ex.tr hE188 hx259
        replace hE195 := Ex.tr hE195 hx259
        replace hE199 := Ex.tr hE199 hx259
        replace hE207 := Ex.tr hE207 hx259
        replace hE224 := Ex.tr hE224 hx259
        replace hE236 := Ex.tr hE236 hx259
        replace hE258 := Ex.tr hE258 hx259
        have hE260 := hx259
        refine RG.vl rfl rfl rfl (Ev.pickT rfl rfl rfl) ?_
        refine RG.vl rfl rfl rfl (Ev.assign rfl rfl) ?_
        refine RG.done ?_
        refine QW.sub (S' := [(4, _)]) ⟨rfl, trivial⟩ ?_
        refine QW.then_ ?_
        refine CW.ret ?_
        refine QW.ret1 rfl rfl ?_
        have hB := (Ex.tr hB0 hE2)
        exact ⟨rfl, hB⟩
      · refine CW.seq ?_
        refine CW.region ?_
        refine RG.vl rfl rfl rfl (Ev.eqI rfl rfl rfl) ?_
        refine RG.vl rfl rfl rfl (Ev.assign rfl rfl) ?_
        refine RG.done ?_
        refine QW.then_ ?_
        refine CW.condP rfl (fun hc261 => ?_) (fun hc261 => ?_)
        · refine CW.region ?_
          refine RG.vl rfl rfl rfl (Ev.move rfl rfl) ?_
          refine RG.vl rfl rfl rfl ((Ev.cutStr (i := 1) rfl rfl Try.underlying9 rfl rfl (by omega) (Nat.le_refl _)).conv (congrArg Value.string ((bx_cut (frm (wd c)) (1) _).trans (by rw [hfs, List.take_length])))) ?_
          refine RG.vl rfl rfl rfl ((Ev.cat rfl rfl rfl (by rw [sb_len, sb_len, List.length_drop]; show 1 + _ ≤ _; omega)).conv (congrArg Value.string (bx_cat ([63]) (_)))) ?_
          refine RG.vl rfl rfl rfl (Ev.assign rfl rfl) ?_
          refine RG.vl rfl rfl rfl (Ev.assign rfl rfl) ?_
          refine RG.done ?_
          refine QW.blockN ?_
          refine QW.then_ ?_
          refine CW.seq ?_
          refine CW.region ?_
          refine RG.vl rfl rfl rfl (Ev.move rfl rfl) ?_
          refine RG.call rfl rfl rfl rfl rfl rfl rfl en_16 (brd_no2 (e0 := 200) _ (bad_no (T := wd c) (a := a) (q := 3) hwa hw60 ha64 (by omega))) ?_
          have hpre262 := (Ex.tr hB0 hE2)
          rintro _ w262 ⟨A1, B1, C1, D1, rfl, hoy1, hoz1, hx262⟩
          replace hE2 := Ex.tr hE2 hx262
          replace hE4 := Ex.tr hE4 hx262
          have hE263 := hx262
          refine RG.vl rfl rfl rfl (Ev.move rfl rfl) ?_
          refine RG.vl rfl rfl rfl (Ev.extract rfl rfl rfl) ?_
          refine RG.vl rfl rfl rfl (Ev.extract rfl rfl rfl) ?_
          refine RG.local_ rfl rfl rfl rfl (fun _ => rfl) rfl rfl (fun _ => rfl) inf_43 rfl rfl rfl (fun g1 w264 eg1 hx264 hb264 => ?_)
          have hsb265 := fun e => sep_new (g := g1) hoy1 eg1 e
          have hsb266 := fun e => sep_new (g := g1) hoz1 eg1 e
          have hle267 : w.heap.size ≤ g1 := by have := hE2.size; omega
          have hle268 : w1.heap.size ≤ g1 := by have := hE4.size; omega
          have hle269 : w3.heap.size ≤ g1 := by have := hE263.size; omega
          have hle270 : w262.heap.size ≤ g1 := by have := (Ex.rfl_ w262).size; omega
          replace hE2 := Ex.tr hE2 hx264
          replace hE4 := Ex.tr hE4 hx264
          replace hE263 := Ex.tr hE263 hx264
          have hE271 := hx264
          refine RG.vl rfl rfl rfl (Ev.assign rfl rfl) ?_
          refine RG.done ?_
          refine QW.sub (S' := [(1, _), (4, _), (8, _), (10, _), (11, _)]) ⟨rfl, rfl, rfl, rfl, rfl, trivial⟩ ?_
          refine QW.then_ ?_
          refine CW.seq ?_
          refine CW.region ?_
          refine RG.call rfl rfl rfl rfl rfl rfl rfl en_13 (bwr_no (t := longPay) (e0 := 3) _ (by decide) (by decide) (by decide)) ?_
          rintro _ w272 ⟨rfl, hx272⟩
          replace hE2 := Ex.tr hE2 hx272
          replace hE4 := Ex.tr hE4 hx272
          replace hE263 := Ex.tr hE263 hx272
          replace hE271 := Ex.tr hE271 hx272
          have hE273 := hx272
          refine RG.vl rfl rfl rfl (Ev.move rfl rfl) ?_
          refine RG.vl rfl rfl rfl (Ev.extract rfl rfl rfl) ?_
          refine RG.vl rfl rfl rfl (Ev.extract rfl rfl rfl) ?_
          refine RG.vl rfl rfl rfl (Ev.assign rfl rfl) ?_
          refine RG.vl rfl rfl rfl (Ev.assign rfl rfl) ?_
          refine RG.done ?_
          refine QW.then_ ?_
          refine CW.seq ?_
          obtain ⟨d, hx⟩ : ∃ d, ([[97], [49, 32], [45, 49], [49, 46], [0], [49, 255], [120]] : List (List UInt8))[z % 7]? = some d := ⟨_, List.getElem?_eq_getElem (by show z % 7 < 7; omega)⟩
          obtain ⟨hd2, hd1⟩ := noPays_bad d (List.mem_of_getElem? hx)
          refine CW.region ?_
          refine RG.litO (os := [_, _, _, _, _, _, _]) (enc := encTx) ([[97], [49, 32], [45, 49], [49, 46], [0], [49, 255], [120]]) rfl rfl rfl rfl rfl rfl rfl Try.underlying57 inf_9 rfl rfl rfl rfl rfl encTx_len rfl rfl (fun v274 wk275 hxwk275 hown276 hnew277 => ?_)
          have hsep278 : Sep v274 _ := Sep.of_new (Own.ext hoy1 hE271) hnew277
          have hsep279 : Sep v274 _ := Sep.of_new (Own.ext hoz1 hE271) hnew277
          replace hE2 := Ex.tr hE2 hxwk275
          replace hE4 := Ex.tr hE4 hxwk275
          replace hE263 := Ex.tr hE263 hxwk275
          replace hE271 := Ex.tr hE271 hxwk275
          replace hE273 := Ex.tr hE273 hxwk275
          have hE280 := hxwk275
          refine RG.vl rfl rfl rfl (Ev.move rfl rfl) ?_
          refine RG.vl rfl rfl rfl ((Ev.rem8 rfl rfl rfl (by omega)).conv (congrArg (Value.int .u8) (show (z : Int) % 7 = ((z % 7 : Nat) : Int) by omega))) ?_
          refine RG.idxO rfl rfl rfl rfl rfl rfl Try.underlying57 sz_9 encTx_len (hown276) (hx) (fun g282 hg282 hBg282 hp281b hp281 => ?_)
          refine RG.vl rfl rfl rfl (Ev.ld0 rfl rfl Try.underlying9 rfl (hp281) (rfl)) ?_
          refine RG.call rfl rfl rfl rfl rfl rfl rfl en_13 (bwr_no (e0 := 2) _ hd2 (by decide) hd1) ?_
          rintro _ w283 ⟨rfl, hx283⟩
          replace hE2 := Ex.tr hE2 hx283
          replace hE4 := Ex.tr hE4 hx283
          replace hE263 := Ex.tr hE263 hx283
          replace hE271 := Ex.tr hE271 hx283
          replace hE273 := Ex.tr hE273 hx283
          replace hE280 := Ex.tr hE280 hx283
          have hE284 := hx283
          refine RG.vl rfl rfl rfl (Ev.move rfl rfl) ?_
          refine RG.vl rfl rfl rfl (Ev.extract rfl rfl rfl) ?_
          refine RG.vl rfl rfl rfl (Ev.extract rfl rfl rfl) ?_
          refine RG.vl rfl rfl rfl (Ev.assign rfl rfl) ?_
          refine RG.vl rfl rfl rfl (Ev.assign rfl rfl) ?_
          refine RG.done ?_
          refine QW.sub (S' := [(4, _), (8, _), (10, _), (11, _), (13, _), (15, _)]) ⟨rfl, rfl, rfl, rfl, rfl, rfl, trivial⟩ ?_
          refine QW.then_ ?_
          refine CW.seq ?_
          refine CW.region ?_
          refine RG.vl rfl rfl rfl (Ev.build1 rfl rfl rfl inf_27 rfl rfl (by kernel_rfl) rfl) ?_
          refine RG.call rfl rfl rfl rfl rfl rfl rfl en_11 (scan_no (s := ⟨63, 0, 1, 0, 0, 1⟩) (e0 := 2) _ (noS_pl (by decide))) ?_
          have hpre285 := (Ex.tr hB0 hE2)
          rintro _ w285 ⟨A2, B2, C2, D2, rfl, hoy2, hoz2, hx285⟩
          have hsep286 : Sep (Value.slice A2 0 B2) _ := Sep.of_new (Own.ext hoy1 hE271) (fun k h => Own.ge hoy2 h)
          have hsep287 : Sep (Value.slice A2 0 B2) _ := Sep.of_new (Own.ext hoz1 hE271) (fun k h => Own.ge hoy2 h)
          have hsep288 : Sep (Value.slice A2 0 B2) _ := Sep.of_new (Own.ext hown276 hE284) (fun k h => Own.ge hoy2 h)
          have hsep289 : Sep (Value.slice C2 0 D2) _ := Sep.of_new (Own.ext hoy1 hE271) (fun k h => Own.ge hoz2 h)
          have hsep290 : Sep (Value.slice C2 0 D2) _ := Sep.of_new (Own.ext hoz1 hE271) (fun k h => Own.ge hoz2 h)
          have hsep291 : Sep (Value.slice C2 0 D2) _ := Sep.of_new (Own.ext hown276 hE284) (fun k h => Own.ge hoz2 h)
          replace hE2 := Ex.tr hE2 hx285
          replace hE4 := Ex.tr hE4 hx285
          replace hE263 := Ex.tr hE263 hx285
          replace hE271 := Ex.tr hE271 hx285
          replace hE273 := Ex.tr hE273 hx285
          replace hE280 := Ex.tr hE280 hx285
          replace hE284 := Ex.tr hE284 hx285
          have hE292 := hx285
          refine RG.vl rfl rfl rfl (Ev.move rfl rfl) ?_
          refine RG.vl rfl rfl rfl (Ev.extract rfl rfl rfl) ?_
          refine RG.vl rfl rfl rfl (Ev.extract rfl rfl rfl) ?_
          refine RG.local_ rfl rfl rfl rfl (fun _ => rfl) rfl rfl (fun _ => rfl) inf_43 rfl rfl rfl (fun g2 w293 eg2 hx293 hb293 => ?_)
          have hsb294 := fun e => sep_new (g := g2) (Own.ext hoy1 hE271) eg2 e
          have hsb295 := fun e => sep_new (g := g2) (Own.ext hoz1 hE271) eg2 e
          have hsb296 := fun e => sep_new (g := g2) (Own.ext hown276 hE284) eg2 e
          have hsb297 := fun e => sep_new (g := g2) hoy2 eg2 e
          have hsb298 := fun e => sep_new (g := g2) hoz2 eg2 e
          have hle299 : w.heap.size ≤ g2 := by have := hE2.size; omega
          have hle300 : w1.heap.size ≤ g2 := by have := hE4.size; omega
          have hle301 : w3.heap.size ≤ g2 := by have := hE263.size; omega
          have hle302 : w262.heap.size ≤ g2 := by have := hE271.size; omega
          have hle303 : w264.heap.size ≤ g2 := by have := hE273.size; omega
          have hle304 : w272.heap.size ≤ g2 := by have := hE280.size; omega
          have hle305 : wk275.heap.size ≤ g2 := by have := hE284.size; omega
          have hle306 : w283.heap.size ≤ g2 := by have := hE292.size; omega
          have hle307 : w285.heap.size ≤ g2 := by have := (Ex.rfl_ w285).size; omega
          have hlt308 : g1 < g2 := by have := Blk.lt (hb264.ext hE273); omega
          replace hE2 := Ex.tr hE2 hx293
          replace hE4 := Ex.tr hE4 hx293
          replace hE263 := Ex.tr hE263 hx293
          replace hE271 := Ex.tr hE271 hx293
          replace hE273 := Ex.tr hE273 hx293
          replace hE280 := Ex.tr hE280 hx293
          replace hE284 := Ex.tr hE284 hx293
          replace hE292 := Ex.tr hE292 hx293
          have hE309 := hx293
          refine RG.vl rfl rfl rfl (Ev.assign rfl rfl) ?_
          refine RG.done ?_
          refine QW.then_ ?_
          refine CW.seq ?_
          refine CW.region ?_
          refine RG.vl rfl rfl rfl (Ev.build1 rfl rfl rfl inf_27 rfl rfl (by kernel_rfl) rfl) ?_
          refine RG.call rfl rfl rfl rfl rfl rfl rfl en_11 (scan_no (s := ⟨64, 0, 1, 0, 0, 1⟩) (e0 := 200) _ noS_none) ?_
          have hpre310 := (Ex.tr hB0 hE2)
          rintro _ w310 ⟨A3, B3, C3, D3, rfl, hoy3, hoz3, hx310⟩
          have hsep311 : Sep (Value.slice A3 0 B3) _ := Sep.of_new (Own.ext hoy1 hE271) (fun k h => Own.ge hoy3 h)
          have hsep312 : Sep (Value.slice A3 0 B3) _ := Sep.of_new (Own.ext hoz1 hE271) (fun k h => Own.ge hoy3 h)
          have hsep313 : Sep (Value.slice A3 0 B3) _ := Sep.of_new (Own.ext hown276 hE284) (fun k h => Own.ge hoy3 h)
          have hsep314 : Sep (Value.slice A3 0 B3) _ := Sep.of_new (Own.ext hoy2 hE309) (fun k h => Own.ge hoy3 h)
          have hsep315 : Sep (Value.slice A3 0 B3) _ := Sep.of_new (Own.ext hoz2 hE309) (fun k h => Own.ge hoy3 h)
          have hsep316 : Sep (Value.slice C3 0 D3) _ := Sep.of_new (Own.ext hoy1 hE271) (fun k h => Own.ge hoz3 h)
          have hsep317 : Sep (Value.slice C3 0 D3) _ := Sep.of_new (Own.ext hoz1 hE271) (fun k h => Own.ge hoz3 h)
          have hsep318 : Sep (Value.slice C3 0 D3) _ := Sep.of_new (Own.ext hown276 hE284) (fun k h => Own.ge hoz3 h)
          have hsep319 : Sep (Value.slice C3 0 D3) _ := Sep.of_new (Own.ext hoy2 hE309) (fun k h => Own.ge hoz3 h)
          have hsep320 : Sep (Value.slice C3 0 D3) _ := Sep.of_new (Own.ext hoz2 hE309) (fun k h => Own.ge hoz3 h)
          replace hE2 := Ex.tr hE2 hx310
          replace hE4 := Ex.tr hE4 hx310
          replace hE263 := Ex.tr hE263 hx310
          replace hE271 := Ex.tr hE271 hx310
          replace hE273 := Ex.tr hE273 hx310
          replace hE280 := Ex.tr hE280 hx310
          replace hE284 := Ex.tr hE284 hx310
          replace hE292 := Ex.tr hE292 hx310
          replace hE309 := Ex.tr hE309 hx310
          have hE321 := hx310
          refine RG.vl rfl rfl rfl (Ev.move rfl rfl) ?_
          refine RG.vl rfl rfl rfl (Ev.extract rfl rfl rfl) ?_
          refine RG.vl rfl rfl rfl (Ev.extract rfl rfl rfl) ?_
          refine RG.local_ rfl rfl rfl rfl (fun _ => rfl) rfl rfl (fun _ => rfl) inf_43 rfl rfl rfl (fun g3 w322 eg3 hx322 hb322 => ?_)
          have hsb323 := fun e => sep_new (g := g3) (Own.ext hoy1 hE271) eg3 e
          have hsb324 := fun e => sep_new (g := g3) (Own.ext hoz1 hE271) eg3 e
          have hsb325 := fun e => sep_new (g := g3) (Own.ext hown276 hE284) eg3 e
          have hsb326 := fun e => sep_new (g := g3) (Own.ext hoy2 hE309) eg3 e
          have hsb327 := fun e => sep_new (g := g3) (Own.ext hoz2 hE309) eg3 e
          have hsb328 := fun e => sep_new (g := g3) hoy3 eg3 e
          have hsb329 := fun e => sep_new (g := g3) hoz3 eg3 e
          have hle330 : w.heap.size ≤ g3 := by have := hE2.size; omega
          have hle331 : w1.heap.size ≤ g3 := by have := hE4.size; omega
          have hle332 : w3.heap.size ≤ g3 := by have := hE263.size; omega
          have hle333 : w262.heap.size ≤ g3 := by have := hE271.size; omega
          have hle334 : w264.heap.size ≤ g3 := by have := hE273.size; omega
          have hle335 : w272.heap.size ≤ g3 := by have := hE280.size; omega
          have hle336 : wk275.heap.size ≤ g3 := by have := hE284.size; omega
          have hle337 : w283.heap.size ≤ g3 := by have := hE292.size; omega
          have hle338 : w285.heap.size ≤ g3 := by have := hE309.size; omega
          have hle339 : w293.heap.size ≤ g3 := by have := hE321.size; omega
          have hle340 : w310.heap.size ≤ g3 := by have := (Ex.rfl_ w310).size; omega
          have hlt341 : g1 < g3 := by have := Blk.lt (hb264.ext hE273); omega
          have hlt342 : g2 < g3 := by have := Blk.lt (hb293.ext hE321); omega
          replace hE2 := Ex.tr hE2 hx322
          replace hE4 := Ex.tr hE4 hx322
          replace hE263 := Ex.tr hE263 hx322
          replace hE271 := Ex.tr hE271 hx322
          replace hE273 := Ex.tr hE273 hx322
          replace hE280 := Ex.tr hE280 hx322
          replace hE284 := Ex.tr hE284 hx322
          replace hE292 := Ex.tr hE292 hx322
          replace hE309 := Ex.tr hE309 hx322
          replace hE321 := Ex.tr hE321 hx322
          have hE343 := hx322
          refine RG.vl rfl rfl rfl (Ev.assign rfl rfl) ?_
          refine RG.done ?_
          refine QW.sub (S' := [(4, _), (8, _), (10, _), (11, _), (13, _), (15, _), (17, _), (19, _)]) ⟨rfl, rfl, rfl, rfl, rfl, rfl, rfl, rfl, trivial⟩ ?_
          refine QW.then_ ?_
          refine CW.seq ?_
          have hn0 : ([] : List Nat).length = 0 := rfl
          refine CW.region ?_
          refine RG.vl rfl rfl rfl (Ev.move rfl rfl) ?_
          refine RG.vl rfl rfl rfl (Ev.move rfl rfl) ?_
          refine RG.vl rfl rfl rfl (Ev.isT (Ev.eqI rfl rfl rfl) (rfl)) ?_
          refine RG.vl rfl rfl rfl (Ev.move rfl rfl) ?_
          refine RG.vl rfl rfl rfl (Ev.fld rfl rfl fld_43_0) ?_
          refine RG.vl rfl rfl rfl (Ev.ldAt rfl rfl Try.underlying9 rfl ((hb264.ext hE273).cells) (rfl)) ?_
          refine RG.vl rfl rfl rfl (Ev.isT (Ev.eqS rfl rfl rfl) (rfl)) ?_
          refine RG.vl rfl rfl rfl (Ev.pickT rfl rfl rfl) ?_
          refine RG.vl rfl rfl rfl (Ev.move rfl rfl) ?_
          refine RG.vl rfl rfl rfl (Ev.fld rfl rfl fld_43_1) ?_
          refine RG.vl rfl rfl rfl (Ev.ldAt rfl rfl Try.underlying4 rfl ((hb264.ext hE273).cells) (rfl)) ?_
          refine RG.vl rfl rfl rfl (Ev.notT rfl rfl) ?_
          refine RG.vl rfl rfl rfl (Ev.pickT rfl rfl rfl) ?_
          refine RG.vl rfl rfl rfl (Ev.move rfl rfl) ?_
          refine RG.vl rfl rfl rfl (Ev.fld rfl rfl fld_43_2) ?_
          refine RG.vl rfl rfl rfl (Ev.ldAt rfl rfl Try.underlying41 rfl ((hb264.ext hE273).cells) (rfl)) ?_
          refine RG.vl rfl rfl rfl (Ev.lenL rfl rfl rfl Try.underlying41 (((Own.ext hoy1 hE271).rdl encZ_len))) ?_
          refine RG.vl rfl rfl rfl (Ev.fld rfl rfl fld_43_3) ?_
          refine RG.vl rfl rfl rfl (Ev.ldAt rfl rfl Try.underlying41 rfl ((hb264.ext hE273).cells) (rfl)) ?_
          refine RG.vl rfl rfl rfl (Ev.lenL rfl rfl rfl Try.underlying41 (((Own.ext hoz1 hE271).rdl encZ_len))) ?_
          refine RG.vl rfl rfl rfl (Ev.addI rfl rfl rfl (by omega)) ?_
          refine RG.vl rfl rfl rfl (Ev.isT (Ev.eqI rfl rfl rfl) (rfl)) ?_
          refine RG.vl rfl rfl rfl (Ev.pickT rfl rfl rfl) ?_
          refine RG.vl rfl rfl rfl (Ev.move rfl rfl) ?_
          refine RG.vl rfl rfl rfl (Ev.move rfl rfl) ?_
          refine RG.vl rfl rfl rfl (Ev.isT (Ev.eqI rfl rfl rfl) (rfl)) ?_
          refine RG.vl rfl rfl rfl (Ev.pickT rfl rfl rfl) ?_
          refine RG.vl rfl rfl rfl (Ev.move rfl rfl) ?_
          refine RG.vl rfl rfl rfl (Ev.move rfl rfl) ?_
          refine RG.vl rfl rfl rfl (Ev.isT (Ev.eqI rfl rfl rfl) (rfl)) ?_
          refine RG.vl rfl rfl rfl (Ev.pickT rfl rfl rfl) ?_
          refine RG.vl rfl rfl rfl (Ev.move rfl rfl) ?_
          refine RG.vl rfl rfl rfl (Ev.move rfl rfl) ?_
          refine RG.vl rfl rfl rfl (Ev.isT (Ev.eqI rfl rfl rfl) (rfl)) ?_
          refine RG.vl rfl rfl rfl (Ev.pickT rfl rfl rfl) ?_
          refine RG.vl rfl rfl rfl (Ev.move rfl rfl) ?_
          refine RG.vl rfl rfl rfl (Ev.move rfl rfl) ?_
          refine RG.vl rfl rfl rfl (Ev.isT (Ev.eqI rfl rfl rfl) (rfl)) ?_
          refine RG.vl rfl rfl rfl (Ev.pickT rfl rfl rfl) ?_
          refine RG.vl rfl rfl rfl (Ev.move rfl rfl) ?_
          refine RG.call rfl rfl rfl rfl rfl rfl rfl en_12 (awake_ret _) ?_
          rintro _ w344 ⟨rfl, hx344⟩
          replace hE2 := Ex.tr hE2 hx344
          replace hE4 := Ex.tr hE4 hx344
          replace hE263 := Ex.tr hE263 hx344
          replace hE271 := Ex.tr hE271 hx344
          replace hE273 := Ex.tr hE273 hx344
          replace hE280 := Ex.tr hE280 hx344
          replace hE284 := Ex.tr hE284 hx344
          replace hE292 := Ex.tr hE292 hx344
          replace hE309 := Ex.tr hE309 hx344
          replace hE321 := Ex.tr hE321 hx344
          replace hE343 := Ex.tr hE343 hx344
          have hE345 := hx344
          refine RG.vl rfl rfl rfl (Ev.pickT rfl rfl rfl) ?_
          refine RG.vl rfl rfl rfl (Ev.assign rfl rfl) ?_
          refine RG.done ?_
          refine QW.sub (S' := [(4, _)]) ⟨rfl, trivial⟩ ?_
          refine QW.then_ ?_
          refine CW.ret ?_
          refine QW.ret1 rfl rfl ?_
          have hB := (Ex.tr hB0 hE2)
          exact ⟨rfl, hB⟩
        · refine CW.seq ?_
          refine CW.region ?_
          refine RG.vl rfl rfl rfl (Ev.eqI rfl rfl rfl) ?_
          refine RG.vl rfl rfl rfl (Ev.assign rfl rfl) ?_
          refine RG.done ?_
          refine QW.then_ ?_
          refine CW.condP rfl (fun hc346 => ?_) (fun hc346 => ?_)
          · refine CW.region ?_
            refine RG.vl rfl rfl rfl (Ev.move rfl rfl) ?_
            refine RG.vl rfl rfl rfl ((Ev.cutStr (i := 2) rfl rfl Try.underlying9 rfl rfl (by omega) (Nat.le_refl _)).conv (congrArg Value.string ((bx_cut (frm (wd c)) (2) _).trans (by rw [hfs, List.take_length])))) ?_
            refine RG.vl rfl rfl rfl ((Ev.cat rfl rfl rfl (by rw [sb_len, sb_len, List.length_drop]; show 2 + _ ≤ _; omega)).conv (congrArg Value.string (bx_cat ([65, 70]) (_)))) ?_
            refine RG.vl rfl rfl rfl (Ev.assign rfl rfl) ?_
            refine RG.vl rfl rfl rfl (Ev.assign rfl rfl) ?_
            refine RG.done ?_
            refine QW.blockN ?_
            refine QW.then_ ?_
            refine CW.seq ?_
            refine CW.region ?_
            refine RG.vl rfl rfl rfl (Ev.move rfl rfl) ?_
            refine RG.call rfl rfl rfl rfl rfl rfl rfl en_16 (brd_no2 (e0 := 200) _ (bad_no (T := wd c) (a := a) (q := 4) hwa hw60 ha64 (by omega))) ?_
            have hpre347 := (Ex.tr hB0 hE2)
            rintro _ w347 ⟨A1, B1, C1, D1, rfl, hoy1, hoz1, hx347⟩
            replace hE2 := Ex.tr hE2 hx347
            replace hE4 := Ex.tr hE4 hx347
            have hE348 := hx347
            refine RG.vl rfl rfl rfl (Ev.move rfl rfl) ?_
            refine RG.vl rfl rfl rfl (Ev.extract rfl rfl rfl) ?_
            refine RG.vl rfl rfl rfl (Ev.extract rfl rfl rfl) ?_
            refine RG.local_ rfl rfl rfl rfl (fun _ => rfl) rfl rfl (fun _ => rfl) inf_43 rfl rfl rfl (fun g1 w349 eg1 hx349 hb349 => ?_)
            have hsb350 := fun e => sep_new (g := g1) hoy1 eg1 e
            have hsb351 := fun e => sep_new (g := g1) hoz1 eg1 e
            have hle352 : w.heap.size ≤ g1 := by have := hE2.size; omega
            have hle353 : w1.heap.size ≤ g1 := by have := hE4.size; omega
            have hle354 : w3.heap.size ≤ g1 := by have := hE348.size; omega
            have hle355 : w347.heap.size ≤ g1 := by have := (Ex.rfl_ w347).size; omega
            replace hE2 := Ex.tr hE2 hx349
            replace hE4 := Ex.tr hE4 hx349
            replace hE348 := Ex.tr hE348 hx349
            have hE356 := hx349
            refine RG.vl rfl rfl rfl (Ev.assign rfl rfl) ?_
            refine RG.done ?_
            refine QW.sub (S' := [(1, _), (4, _), (8, _), (10, _), (11, _)]) ⟨rfl, rfl, rfl, rfl, rfl, trivial⟩ ?_
            refine QW.then_ ?_
            refine CW.seq ?_
            refine CW.region ?_
            refine RG.call rfl rfl rfl rfl rfl rfl rfl en_13 (bwr_no (t := longPay) (e0 := 3) _ (by decide) (by decide) (by decide)) ?_
            rintro _ w357 ⟨rfl, hx357⟩
            replace hE2 := Ex.tr hE2 hx357
            replace hE4 := Ex.tr hE4 hx357
            replace hE348 := Ex.tr hE348 hx357
            replace hE356 := Ex.tr hE356 hx357
            have hE358 := hx357
            refine RG.vl rfl rfl rfl (Ev.move rfl rfl) ?_
            refine RG.vl rfl rfl rfl (Ev.extract rfl rfl rfl) ?_
            refine RG.vl rfl rfl rfl (Ev.extract rfl rfl rfl) ?_
            refine RG.vl rfl rfl rfl (Ev.assign rfl rfl) ?_
            refine RG.vl rfl rfl rfl (Ev.assign rfl rfl) ?_
            refine RG.done ?_
            refine QW.then_ ?_
            refine CW.seq ?_
            obtain ⟨d, hx⟩ : ∃ d, ([[97], [49, 32], [45, 49], [49, 46], [0], [49, 255], [120]] : List (List UInt8))[z % 7]? = some d := ⟨_, List.getElem?_eq_getElem (by show z % 7 < 7; omega)⟩
            obtain ⟨hd2, hd1⟩ := noPays_bad d (List.mem_of_getElem? hx)
            refine CW.region ?_
            refine RG.litO (os := [_, _, _, _, _, _, _]) (enc := encTx) ([[97], [49, 32], [45, 49], [49, 46], [0], [49, 255], [120]]) rfl rfl rfl rfl rfl rfl rfl Try.underlying57 inf_9 rfl rfl rfl rfl rfl encTx_len rfl rfl (fun v359 wk360 hxwk360 hown361 hnew362 => ?_)
            have hsep363 : Sep v359 _ := Sep.of_new (Own.ext hoy1 hE356) hnew362
            have hsep364 : Sep v359 _ := Sep.of_new (Own.ext hoz1 hE356) hnew362
            replace hE2 := Ex.tr hE2 hxwk360
            replace hE4 := Ex.tr hE4 hxwk360
            replace hE348 := Ex.tr hE348 hxwk360
            replace hE356 := Ex.tr hE356 hxwk360
            replace hE358 := Ex.tr hE358 hxwk360
            have hE365 := hxwk360
            refine RG.vl rfl rfl rfl (Ev.move rfl rfl) ?_
            refine RG.vl rfl rfl rfl ((Ev.rem8 rfl rfl rfl (by omega)).conv (congrArg (Value.int .u8) (show (z : Int) % 7 = ((z % 7 : Nat) : Int) by omega))) ?_
            refine RG.idxO rfl rfl rfl rfl rfl rfl Try.underlying57 sz_9 encTx_len (hown361) (hx) (fun g367 hg367 hBg367 hp366b hp366 => ?_)
            refine RG.vl rfl rfl rfl (Ev.ld0 rfl rfl Try.underlying9 rfl (hp366) (rfl)) ?_
            refine RG.call rfl rfl rfl rfl rfl rfl rfl en_13 (bwr_no (e0 := 2) _ hd2 (by decide) hd1) ?_
            rintro _ w368 ⟨rfl, hx368⟩
            replace hE2 := Ex.tr hE2 hx368
            replace hE4 := Ex.tr hE4 hx368
            replace hE348 := Ex.tr hE348 hx368
            replace hE356 := Ex.tr hE356 hx368
            replace hE358 := Ex.tr hE358 hx368
            replace hE365 := Ex.tr hE365 hx368
            have hE369 := hx368
            refine RG.vl rfl rfl rfl (Ev.move rfl rfl) ?_
            refine RG.vl rfl rfl rfl (Ev.extract rfl rfl rfl) ?_
            refine RG.vl rfl rfl rfl (Ev.extract rfl rfl rfl) ?_
            refine RG.vl rfl rfl rfl (Ev.assign rfl rfl) ?_
            refine RG.vl rfl rfl rfl (Ev.assign rfl rfl) ?_
            refine RG.done ?_
            refine QW.sub (S' := [(4, _), (8, _), (10, _), (11, _), (13, _), (15, _)]) ⟨rfl, rfl, rfl, rfl, rfl, rfl, trivial⟩ ?_
            refine QW.then_ ?_
            refine CW.seq ?_
            refine CW.region ?_
            refine RG.vl rfl rfl rfl (Ev.build1 rfl rfl rfl inf_27 rfl rfl (by kernel_rfl) rfl) ?_
            refine RG.call rfl rfl rfl rfl rfl rfl rfl en_11 (scan_no (s := ⟨63, 0, 1, 0, 0, 1⟩) (e0 := 2) _ (noS_pl (by decide))) ?_
            have hpre370 := (Ex.tr hB0 hE2)
            rintro _ w370 ⟨A2, B2, C2, D2, rfl, hoy2, hoz2, hx370⟩
            have hsep371 : Sep (Value.slice A2 0 B2) _ := Sep.of_new (Own.ext hoy1 hE356) (fun k h => Own.ge hoy2 h)
            have hsep372 : Sep (Value.slice A2 0 B2) _ := Sep.of_new (Own.ext hoz1 hE356) (fun k h => Own.ge hoy2 h)
            have hsep373 : Sep (Value.slice A2 0 B2) _ := Sep.of_new (Own.ext hown361 hE369) (fun k h => Own.ge hoy2 h)
            have hsep374 : Sep (Value.slice C2 0 D2) _ := Sep.of_new (Own.ext hoy1 hE356) (fun k h => Own.ge hoz2 h)
            have hsep375 : Sep (Value.slice C2 0 D2) _ := Sep.of_new (Own.ext hoz1 hE356) (fun k h => Own.ge hoz2 h)
            have hsep376 : Sep (Value.slice C2 0 D2) _ := Sep.of_new (Own.ext hown361 hE369) (fun k h => Own.ge hoz2 h)
            replace hE2 := Ex.tr hE2 hx370
            replace hE4 := Ex.tr hE4 hx370
            replace hE348 := Ex.tr hE348 hx370
            replace hE356 := Ex.tr hE356 hx370
            replace hE358 := Ex.tr hE358 hx370
            replace hE365 := Ex.tr hE365 hx370
            replace hE369 := Ex.tr hE369 hx370
            have hE377 := hx370
            refine RG.vl rfl rfl rfl (Ev.move rfl rfl) ?_
            refine RG.vl rfl rfl rfl (Ev.extract rfl rfl rfl) ?_
            refine RG.vl rfl rfl rfl (Ev.extract rfl rfl rfl) ?_
            refine RG.local_ rfl rfl rfl rfl (fun _ => rfl) rfl rfl (fun _ => rfl) inf_43 rfl rfl rfl (fun g2 w378 eg2 hx378 hb378 => ?_)
            have hsb379 := fun e => sep_new (g := g2) (Own.ext hoy1 hE356) eg2 e
            have hsb380 := fun e => sep_new (g := g2) (Own.ext hoz1 hE356) eg2 e
            have hsb381 := fun e => sep_new (g := g2) (Own.ext hown361 hE369) eg2 e
            have hsb382 := fun e => sep_new (g := g2) hoy2 eg2 e
            have hsb383 := fun e => sep_new (g := g2) hoz2 eg2 e
            have hle384 : w.heap.size ≤ g2 := by have := hE2.size; omega
            have hle385 : w1.heap.size ≤ g2 := by have := hE4.size; omega
            have hle386 : w3.heap.size ≤ g2 := by have := hE348.size; omega
            have hle387 : w347.heap.size ≤ g2 := by have := hE356.size; omega
            have hle388 : w349.heap.size ≤ g2 := by have := hE358.size; omega
            have hle389 : w357.heap.size ≤ g2 := by have := hE365.size; omega
            have hle390 : wk360.heap.size ≤ g2 := by have := hE369.size; omega
            have hle391 : w368.heap.size ≤ g2 := by have := hE377.size; omega
            have hle392 : w370.heap.size ≤ g2 := by have := (Ex.rfl_ w370).size; omega
            have hlt393 : g1 < g2 := by have := Blk.lt (hb349.ext hE358); omega
            replace hE2 := Ex.tr hE2 hx378
            replace hE4 := Ex.tr hE4 hx378
            replace hE348 := Ex.tr hE348 hx378
            replace hE356 := Ex.tr hE356 hx378
            replace hE358 := Ex.tr hE358 hx378
            replace hE365 := Ex.tr hE365 hx378
            replace hE369 := Ex.tr hE369 hx378
            replace hE377 := Ex.tr hE377 hx378
            have hE394 := hx378
            refine RG.vl rfl rfl rfl (Ev.assign rfl rfl) ?_
            refine RG.done ?_
            refine QW.then_ ?_
            refine CW.seq ?_
            refine CW.region ?_
            refine RG.vl rfl rfl rfl (Ev.build1 rfl rfl rfl inf_27 rfl rfl (by kernel_rfl) rfl) ?_
            refine RG.call rfl rfl rfl rfl rfl rfl rfl en_11 (scan_no (s := ⟨64, 0, 1, 0, 0, 1⟩) (e0 := 200) _ noS_none) ?_
            have hpre395 := (Ex.tr hB0 hE2)
            rintro _ w395 ⟨A3, B3, C3, D3, rfl, hoy3, hoz3, hx395⟩
            have hsep396 : Sep (Value.slice A3 0 B3) _ := Sep.of_new (Own.ext hoy1 hE356) (fun k h => Own.ge hoy3 h)
            have hsep397 : Sep (Value.slice A3 0 B3) _ := Sep.of_new (Own.ext hoz1 hE356) (fun k h => Own.ge hoy3 h)
            have hsep398 : Sep (Value.slice A3 0 B3) _ := Sep.of_new (Own.ext hown361 hE369) (fun k h => Own.ge hoy3 h)
            have hsep399 : Sep (Value.slice A3 0 B3) _ := Sep.of_new (Own.ext hoy2 hE394) (fun k h => Own.ge hoy3 h)
            have hsep400 : Sep (Value.slice A3 0 B3) _ := Sep.of_new (Own.ext hoz2 hE394) (fun k h => Own.ge hoy3 h)
            have hsep401 : Sep (Value.slice C3 0 D3) _ := Sep.of_new (Own.ext hoy1 hE356) (fun k h => Own.ge hoz3 h)
            have hsep402 : Sep (Value.slice C3 0 D3) _ := Sep.of_new (Own.ext hoz1 hE356) (fun k h => Own.ge hoz3 h)
            have hsep403 : Sep (Value.slice C3 0 D3) _ := Sep.of_new (Own.ext hown361 hE369) (fun k h => Own.ge hoz3 h)
            have hsep404 : Sep (Value.slice C3 0 D3) _ := Sep.of_new (Own.ext hoy2 hE394) (fun k h => Own.ge hoz3 h)
            have hsep405 : Sep (Value.slice C3 0 D3) _ := Sep.of_new (Own.ext hoz2 hE394) (fun k h => Own.ge hoz3 h)
            replace hE2 := Ex.tr hE2 hx395
            replace hE4 := Ex.tr hE4 hx395
            replace hE348 := Ex.tr hE348 hx395
            replace hE356 := Ex.tr hE356 hx395
            replace hE358 := Ex.tr hE358 hx395
            replace hE365 := Ex.tr hE365 hx395
            replace hE369 := Ex.tr hE369 hx395
            replace hE377 := Ex.tr hE377 hx395
            replace hE394 := Ex.tr hE394 hx395
            have hE406 := hx395
            refine RG.vl rfl rfl rfl (Ev.move rfl rfl) ?_
            refine RG.vl rfl rfl rfl (Ev.extract rfl rfl rfl) ?_
            refine RG.vl rfl rfl rfl (Ev.extract rfl rfl rfl) ?_
            refine RG.local_ rfl rfl rfl rfl (fun _ => rfl) rfl rfl (fun _ => rfl) inf_43 rfl rfl rfl (fun g3 w407 eg3 hx407 hb407 => ?_)
            have hsb408 := fun e => sep_new (g := g3) (Own.ext hoy1 hE356) eg3 e
            have hsb409 := fun e => sep_new (g := g3) (Own.ext hoz1 hE356) eg3 e
            have hsb410 := fun e => sep_new (g := g3) (Own.ext hown361 hE369) eg3 e
            have hsb411 := fun e => sep_new (g := g3) (Own.ext hoy2 hE394) eg3 e
            have hsb412 := fun e => sep_new (g := g3) (Own.ext hoz2 hE394) eg3 e
            have hsb413 := fun e => sep_new (g := g3) hoy3 eg3 e
            have hsb414 := fun e => sep_new (g := g3) hoz3 eg3 e
            have hle415 : w.heap.size ≤ g3 := by have := hE2.size; omega
            have hle416 : w1.heap.size ≤ g3 := by have := hE4.size; omega
            have hle417 : w3.heap.size ≤ g3 := by have := hE348.size; omega
            have hle418 : w347.heap.size ≤ g3 := by have := hE356.size; omega
            have hle419 : w349.heap.size ≤ g3 := by have := hE358.size; omega
            have hle420 : w357.heap.size ≤ g3 := by have := hE365.size; omega
            have hle421 : wk360.heap.size ≤ g3 := by have := hE369.size; omega
            have hle422 : w368.heap.size ≤ g3 := by have := hE377.size; omega
            have hle423 : w370.heap.size ≤ g3 := by have := hE394.size; omega
            have hle424 : w378.heap.size ≤ g3 := by have := hE406.size; omega
            have hle425 : w395.heap.size ≤ g3 := by have := (Ex.rfl_ w395).size; omega
            have hlt426 : g1 < g3 := by have := Blk.lt (hb349.ext hE358); omega
            have hlt427 : g2 < g3 := by have := Blk.lt (hb378.ext hE406); omega
            replace hE2 := Ex.tr hE2 hx407
            replace hE4 := Ex.tr hE4 hx407
            replace hE348 := Ex.tr hE348 hx407
            replace hE356 := Ex.tr hE356 hx407
            replace hE358 := Ex.tr hE358 hx407
            replace hE365 := Ex.tr hE365 hx407
            replace hE369 := Ex.tr hE369 hx407
            replace hE377 := Ex.tr hE377 hx407
            replace hE394 := Ex.tr hE394 hx407
            replace hE406 := Ex.tr hE406 hx407
            have hE428 := hx407
            refine RG.vl rfl rfl rfl (Ev.assign rfl rfl) ?_
            refine RG.done ?_
            refine QW.sub (S' := [(4, _), (8, _), (10, _), (11, _), (13, _), (15, _), (17, _), (19, _)]) ⟨rfl, rfl, rfl, rfl, rfl, rfl, rfl, rfl, trivial⟩ ?_
            refine QW.then_ ?_
            refine CW.seq ?_
            have hn0 : ([] : List Nat).length = 0 := rfl
            refine CW.region ?_
            refine RG.vl rfl rfl rfl (Ev.move rfl rfl) ?_
            refine RG.vl rfl rfl rfl (Ev.move rfl rfl) ?_
            refine RG.vl rfl rfl rfl (Ev.isT (Ev.eqI rfl rfl rfl) (rfl)) ?_
            refine RG.vl rfl rfl rfl (Ev.move rfl rfl) ?_
            refine RG.vl rfl rfl rfl (Ev.fld rfl rfl fld_43_0) ?_
            refine RG.vl rfl rfl rfl (Ev.ldAt rfl rfl Try.underlying9 rfl ((hb349.ext hE358).cells) (rfl)) ?_
            refine RG.vl rfl rfl rfl (Ev.isT (Ev.eqS rfl rfl rfl) (rfl)) ?_
            refine RG.vl rfl rfl rfl (Ev.pickT rfl rfl rfl) ?_
            refine RG.vl rfl rfl rfl (Ev.move rfl rfl) ?_
            refine RG.vl rfl rfl rfl (Ev.fld rfl rfl fld_43_1) ?_
            refine RG.vl rfl rfl rfl (Ev.ldAt rfl rfl Try.underlying4 rfl ((hb349.ext hE358).cells) (rfl)) ?_
            refine RG.vl rfl rfl rfl (Ev.notT rfl rfl) ?_
            refine RG.vl rfl rfl rfl (Ev.pickT rfl rfl rfl) ?_
            refine RG.vl rfl rfl rfl (Ev.move rfl rfl) ?_
            refine RG.vl rfl rfl rfl (Ev.fld rfl rfl fld_43_2) ?_
            refine RG.vl rfl rfl rfl (Ev.ldAt rfl rfl Try.underlying41 rfl ((hb349.ext hE358).cells) (rfl)) ?_
            refine RG.vl rfl rfl rfl (Ev.lenL rfl rfl rfl Try.underlying41 (((Own.ext hoy1 hE356).rdl encZ_len))) ?_
            refine RG.vl rfl rfl rfl (Ev.fld rfl rfl fld_43_3) ?_
            refine RG.vl rfl rfl rfl (Ev.ldAt rfl rfl Try.underlying41 rfl ((hb349.ext hE358).cells) (rfl)) ?_
            refine RG.vl rfl rfl rfl (Ev.lenL rfl rfl rfl Try.underlying41 (((Own.ext hoz1 hE356).rdl encZ_len))) ?_
            refine RG.vl rfl rfl rfl (Ev.addI rfl rfl rfl (by omega)) ?_
            refine RG.vl rfl rfl rfl (Ev.isT (Ev.eqI rfl rfl rfl) (rfl)) ?_
            refine RG.vl rfl rfl rfl (Ev.pickT rfl rfl rfl) ?_
            refine RG.vl rfl rfl rfl (Ev.move rfl rfl) ?_
            refine RG.vl rfl rfl rfl (Ev.move rfl rfl) ?_
            refine RG.vl rfl rfl rfl (Ev.isT (Ev.eqI rfl rfl rfl) (rfl)) ?_
            refine RG.vl rfl rfl rfl (Ev.pickT rfl rfl rfl) ?_
            refine RG.vl rfl rfl rfl (Ev.move rfl rfl) ?_
            refine RG.vl rfl rfl rfl (Ev.move rfl rfl) ?_
            refine RG.vl rfl rfl rfl (Ev.isT (Ev.eqI rfl rfl rfl) (rfl)) ?_
            refine RG.vl rfl rfl rfl (Ev.pickT rfl rfl rfl) ?_
            refine RG.vl rfl rfl rfl (Ev.move rfl rfl) ?_
            refine RG.vl rfl rfl rfl (Ev.move rfl rfl) ?_
            refine RG.vl rfl rfl rfl (Ev.isT (Ev.eqI rfl rfl rfl) (rfl)) ?_
            refine RG.vl rfl rfl rfl (Ev.pickT rfl rfl rfl) ?_
            refine RG.vl rfl rfl rfl (Ev.move rfl rfl) ?_
            refine RG.vl rfl rfl rfl (Ev.move rfl rfl) ?_
            refine RG.vl rfl rfl rfl (Ev.isT (Ev.eqI rfl rfl rfl) (rfl)) ?_
            refine RG.vl rfl rfl rfl (Ev.pickT rfl rfl rfl) ?_
            refine RG.vl rfl rfl rfl (Ev.move rfl rfl) ?_
            refine RG.call rfl rfl rfl rfl rfl rfl rfl en_12 (awake_ret _) ?_
            rintro _ w429 ⟨rfl, hx429⟩
            replace hE2 := Ex.tr hE2 hx429
            replace hE4 := Ex.tr hE4 hx429
            replace hE348 := Ex.tr hE348 hx429
            replace hE356 := Ex.tr hE356 hx429
            replace hE358 := Ex.tr hE358 hx429
            replace hE365 := Ex.tr hE365 hx429
            replace hE369 := Ex.tr hE369 hx429
            replace hE377 := Ex.tr hE377 hx429
            replace hE394 := Ex.tr hE394 hx429
            replace hE406 := Ex.tr hE406 hx429
            replace hE428 := Ex.tr hE428 hx429
            have hE430 := hx429
            refine RG.vl rfl rfl rfl (Ev.pickT rfl rfl rfl) ?_
            refine RG.vl rfl rfl rfl (Ev.assign rfl rfl) ?_
            refine RG.done ?_
            refine QW.sub (S' := [(4, _)]) ⟨rfl, trivial⟩ ?_
            refine QW.then_ ?_
            refine CW.ret ?_
            refine QW.ret1 rfl rfl ?_
            have hB := (Ex.tr hB0 hE2)
            exact ⟨rfl, hB⟩
          · refine CW.seq ?_
            refine CW.region ?_
            refine RG.vl rfl rfl rfl (Ev.eqI rfl rfl rfl) ?_
            refine RG.vl rfl rfl rfl (Ev.assign rfl rfl) ?_
            refine RG.done ?_
            refine QW.then_ ?_
            refine CW.condP rfl (fun hc431 => ?_) (fun hc431 => ?_)
            · refine CW.region ?_
              refine RG.vl rfl rfl rfl (Ev.move rfl rfl) ?_
              refine RG.vl rfl rfl rfl ((Ev.cutStr (i := 0) (j := 63) rfl rfl Try.underlying9 rfl rfl (by omega) (by omega)).conv (congrArg Value.string ((bx_cut (frm (wd c)) 0 (63)).trans (show _ = (⟨((frm (wd c)).take (63)).toArray⟩ : ByteArray) from rfl)))) ?_
              refine RG.vl rfl rfl rfl ((Ev.cat rfl rfl rfl (by rw [sb_len, List.length_take]; show _ + 1 ≤ _; omega)).conv (congrArg Value.string (bx_cat (_) ([84])))) ?_
              refine RG.vl rfl rfl rfl (Ev.assign rfl rfl) ?_
              refine RG.vl rfl rfl rfl (Ev.assign rfl rfl) ?_
              refine RG.done ?_
              refine QW.blockN ?_
              refine QW.then_ ?_
              refine CW.seq ?_
              refine CW.region ?_
              refine RG.vl rfl rfl rfl (Ev.move rfl rfl) ?_
              refine RG.call rfl rfl rfl rfl rfl rfl rfl en_16 (brd_no2 (e0 := 200) _ (bad_no (T := wd c) (a := a) (q := 5) hwa hw60 ha64 (by omega))) ?_
              have hpre432 := (Ex.tr hB0 hE2)
              rintro _ w432 ⟨A1, B1, C1, D1, rfl, hoy1, hoz1, hx432⟩
              replace hE2 := Ex.tr hE2 hx432
              replace hE4 := Ex.tr hE4 hx432
              have hE433 := hx432
              refine RG.vl rfl rfl rfl (Ev.move rfl rfl) ?_
              refine RG.vl rfl rfl rfl (Ev.extract rfl rfl rfl) ?_
              refine RG.vl rfl rfl rfl (Ev.extract rfl rfl rfl) ?_
              refine RG.local_ rfl rfl rfl rfl (fun _ => rfl) rfl rfl (fun _ => rfl) inf_43 rfl rfl rfl (fun g1 w434 eg1 hx434 hb434 => ?_)
              have hsb435 := fun e => sep_new (g := g1) hoy1 eg1 e
              have hsb436 := fun e => sep_new (g := g1) hoz1 eg1 e
              have hle437 : w.heap.size ≤ g1 := by have := hE2.size; omega
              have hle438 : w1.heap.size ≤ g1 := by have := hE4.size; omega
              have hle439 : w3.heap.size ≤ g1 := by have := hE433.size; omega
              have hle440 : w432.heap.size ≤ g1 := by have := (Ex.rfl_ w432).size; omega
              replace hE2 := Ex.tr hE2 hx434
              replace hE4 := Ex.tr hE4 hx434
              replace hE433 := Ex.tr hE433 hx434
              have hE441 := hx434
              refine RG.vl rfl rfl rfl (Ev.assign rfl rfl) ?_
              refine RG.done ?_
              refine QW.sub (S' := [(1, _), (4, _), (8, _), (10, _), (11, _)]) ⟨rfl, rfl, rfl, rfl, rfl, trivial⟩ ?_
              refine QW.then_ ?_
              refine CW.seq ?_
              refine CW.region ?_
              refine RG.call rfl rfl rfl rfl rfl rfl rfl en_13 (bwr_no (t := longPay) (e0 := 3) _ (by decide) (by decide) (by decide)) ?_
              rintro _ w442 ⟨rfl, hx442⟩
              replace hE2 := Ex.tr hE2 hx442
              replace hE4 := Ex.tr hE4 hx442
              replace hE433 := Ex.tr hE433 hx442
              replace hE441 := Ex.tr hE441 hx442
              have hE443 := hx442
              refine RG.vl rfl rfl rfl (Ev.move rfl rfl) ?_
              refine RG.vl rfl rfl rfl (Ev.extract rfl rfl rfl) ?_
              refine RG.vl rfl rfl rfl (Ev.extract rfl rfl rfl) ?_
              refine RG.vl rfl rfl rfl (Ev.assign rfl rfl) ?_
              refine RG.vl rfl rfl rfl (Ev.assign rfl rfl) ?_
              refine RG.done ?_
              refine QW.then_ ?_
              refine CW.seq ?_
              obtain ⟨d, hx⟩ : ∃ d, ([[97], [49, 32], [45, 49], [49, 46], [0], [49, 255], [120]] : List (List UInt8))[z % 7]? = some d := ⟨_, List.getElem?_eq_getElem (by show z % 7 < 7; omega)⟩
              obtain ⟨hd2, hd1⟩ := noPays_bad d (List.mem_of_getElem? hx)
              refine CW.region ?_
              refine RG.litO (os := [_, _, _, _, _, _, _]) (enc := encTx) ([[97], [49, 32], [45, 49], [49, 46], [0], [49, 255], [120]]) rfl rfl rfl rfl rfl rfl rfl Try.underlying57 inf_9 rfl rfl rfl rfl rfl encTx_len rfl rfl (fun v444 wk445 hxwk445 hown446 hnew447 => ?_)
              have hsep448 : Sep v444 _ := Sep.of_new (Own.ext hoy1 hE441) hnew447
              have hsep449 : Sep v444 _ := Sep.of_new (Own.ext hoz1 hE441) hnew447
              replace hE2 := Ex.tr hE2 hxwk445
              replace hE4 := Ex.tr hE4 hxwk445
              replace hE433 := Ex.tr hE433 hxwk445
              replace hE441 := Ex.tr hE441 hxwk445
              replace hE443 := Ex.tr hE443 hxwk445
              have hE450 := hxwk445
              refine RG.vl rfl rfl rfl (Ev.move rfl rfl) ?_
              refine RG.vl rfl rfl rfl ((Ev.rem8 rfl rfl rfl (by omega)).conv (congrArg (Value.int .u8) (show (z : Int) % 7 = ((z % 7 : Nat) : Int) by omega))) ?_
              refine RG.idxO rfl rfl rfl rfl rfl rfl Try.underlying57 sz_9 encTx_len (hown446) (hx) (fun g452 hg452 hBg452 hp451b hp451 => ?_)
              refine RG.vl rfl rfl rfl (Ev.ld0 rfl rfl Try.underlying9 rfl (hp451) (rfl)) ?_
              refine RG.call rfl rfl rfl rfl rfl rfl rfl en_13 (bwr_no (e0 := 2) _ hd2 (by decide) hd1) ?_
              rintro _ w453 ⟨rfl, hx453⟩
              replace hE2 := Ex.tr hE2 hx453
              replace hE4 := Ex.tr hE4 hx453
              replace hE433 := Ex.tr hE433 hx453
              replace hE441 := Ex.tr hE441 hx453
              replace hE443 := Ex.tr hE443 hx453
              replace hE450 := Ex.tr hE450 hx453
              have hE454 := hx453
              refine RG.vl rfl rfl rfl (Ev.move rfl rfl) ?_
              refine RG.vl rfl rfl rfl (Ev.extract rfl rfl rfl) ?_
              refine RG.vl rfl rfl rfl (Ev.extract rfl rfl rfl) ?_
              refine RG.vl rfl rfl rfl (Ev.assign rfl rfl) ?_
              refine RG.vl rfl rfl rfl (Ev.assign rfl rfl) ?_
              refine RG.done ?_
              refine QW.sub (S' := [(4, _), (8, _), (10, _), (11, _), (13, _), (15, _)]) ⟨rfl, rfl, rfl, rfl, rfl, rfl, trivial⟩ ?_
              refine QW.then_ ?_
              refine CW.seq ?_
              refine CW.region ?_
              refine RG.vl rfl rfl rfl (Ev.build1 rfl rfl rfl inf_27 rfl rfl (by kernel_rfl) rfl) ?_
              refine RG.call rfl rfl rfl rfl rfl rfl rfl en_11 (scan_no (s := ⟨63, 0, 1, 0, 0, 1⟩) (e0 := 2) _ (noS_pl (by decide))) ?_
              have hpre455 := (Ex.tr hB0 hE2)
              rintro _ w455 ⟨A2, B2, C2, D2, rfl, hoy2, hoz2, hx455⟩
              have hsep456 : Sep (Value.slice A2 0 B2) _ := Sep.of_new (Own.ext hoy1 hE441) (fun k h => Own.ge hoy2 h)
              have hsep457 : Sep (Value.slice A2 0 B2) _ := Sep.of_new (Own.ext hoz1 hE441) (fun k h => Own.ge hoy2 h)
              have hsep458 : Sep (Value.slice A2 0 B2) _ := Sep.of_new (Own.ext hown446 hE454) (fun k h => Own.ge hoy2 h)
              have hsep459 : Sep (Value.slice C2 0 D2) _ := Sep.of_new (Own.ext hoy1 hE441) (fun k h => Own.ge hoz2 h)
              have hsep460 : Sep (Value.slice C2 0 D2) _ := Sep.of_new (Own.ext hoz1 hE441) (fun k h => Own.ge hoz2 h)
              have hsep461 : Sep (Value.slice C2 0 D2) _ := Sep.of_new (Own.ext hown446 hE454) (fun k h => Own.ge hoz2 h)
              replace hE2 := Ex.tr hE2 hx455
              replace hE4 := Ex.tr hE4 hx455
              replace hE433 := Ex.tr hE433 hx455
              replace hE441 := Ex.tr hE441 hx455
              replace hE443 := Ex.tr hE443 hx455
              replace hE450 := Ex.tr hE450 hx455
              replace hE454 := Ex.tr hE454 hx455
              have hE462 := hx455
              refine RG.vl rfl rfl rfl (Ev.move rfl rfl) ?_
              refine RG.vl rfl rfl rfl (Ev.extract rfl rfl rfl) ?_
              refine RG.vl rfl rfl rfl (Ev.extract rfl rfl rfl) ?_
              refine RG.local_ rfl rfl rfl rfl (fun _ => rfl) rfl rfl (fun _ => rfl) inf_43 rfl rfl rfl (fun g2 w463 eg2 hx463 hb463 => ?_)
              have hsb464 := fun e => sep_new (g := g2) (Own.ext hoy1 hE441) eg2 e
              have hsb465 := fun e => sep_new (g := g2) (Own.ext hoz1 hE441) eg2 e
              have hsb466 := fun e => sep_new (g := g2) (Own.ext hown446 hE454) eg2 e
              have hsb467 := fun e => sep_new (g := g2) hoy2 eg2 e
              have hsb468 := fun e => sep_new (g := g2) hoz2 eg2 e
              have hle469 : w.heap.size ≤ g2 := by have := hE2.size; omega
              have hle470 : w1.heap.size ≤ g2 := by have := hE4.size; omega
              have hle471 : w3.heap.size ≤ g2 := by have := hE433.size; omega
              have hle472 : w432.heap.size ≤ g2 := by have := hE441.size; omega
              have hle473 : w434.heap.size ≤ g2 := by have := hE443.size; omega
              have hle474 : w442.heap.size ≤ g2 := by have := hE450.size; omega
              have hle475 : wk445.heap.size ≤ g2 := by have := hE454.size; omega
              have hle476 : w453.heap.size ≤ g2 := by have := hE462.size; omega
              have hle477 : w455.heap.size ≤ g2 := by have := (Ex.rfl_ w455).size; omega
              have hlt478 : g1 < g2 := by have := Blk.lt (hb434.ext hE443); omega
              replace hE2 := Ex.tr hE2 hx463
              replace hE4 := Ex.tr hE4 hx463
              replace hE433 := Ex.tr hE433 hx463
              replace hE441 := Ex.tr hE441 hx463
              replace hE443 := Ex.tr hE443 hx463
              replace hE450 := Ex.tr hE450 hx463
              replace hE454 := Ex.tr hE454 hx463
              replace hE462 := Ex.tr hE462 hx463
              have hE479 := hx463
              refine RG.vl rfl rfl rfl (Ev.assign rfl rfl) ?_
              refine RG.done ?_
              refine QW.then_ ?_
              refine CW.seq ?_
              refine CW.region ?_
              refine RG.vl rfl rfl rfl (Ev.build1 rfl rfl rfl inf_27 rfl rfl (by kernel_rfl) rfl) ?_
              refine RG.call rfl rfl rfl rfl rfl rfl rfl en_11 (scan_no (s := ⟨64, 0, 1, 0, 0, 1⟩) (e0 := 200) _ noS_none) ?_
              have hpre480 := (Ex.tr hB0 hE2)
              rintro _ w480 ⟨A3, B3, C3, D3, rfl, hoy3, hoz3, hx480⟩
              have hsep481 : Sep (Value.slice A3 0 B3) _ := Sep.of_new (Own.ext hoy1 hE441) (fun k h => Own.ge hoy3 h)
              have hsep482 : Sep (Value.slice A3 0 B3) _ := Sep.of_new (Own.ext hoz1 hE441) (fun k h => Own.ge hoy3 h)
              have hsep483 : Sep (Value.slice A3 0 B3) _ := Sep.of_new (Own.ext hown446 hE454) (fun k h => Own.ge hoy3 h)
              have hsep484 : Sep (Value.slice A3 0 B3) _ := Sep.of_new (Own.ext hoy2 hE479) (fun k h => Own.ge hoy3 h)
              have hsep485 : Sep (Value.slice A3 0 B3) _ := Sep.of_new (Own.ext hoz2 hE479) (fun k h => Own.ge hoy3 h)
              have hsep486 : Sep (Value.slice C3 0 D3) _ := Sep.of_new (Own.ext hoy1 hE441) (fun k h => Own.ge hoz3 h)
              have hsep487 : Sep (Value.slice C3 0 D3) _ := Sep.of_new (Own.ext hoz1 hE441) (fun k h => Own.ge hoz3 h)
              have hsep488 : Sep (Value.slice C3 0 D3) _ := Sep.of_new (Own.ext hown446 hE454) (fun k h => Own.ge hoz3 h)
              have hsep489 : Sep (Value.slice C3 0 D3) _ := Sep.of_new (Own.ext hoy2 hE479) (fun k h => Own.ge hoz3 h)
              have hsep490 : Sep (Value.slice C3 0 D3) _ := Sep.of_new (Own.ext hoz2 hE479) (fun k h => Own.ge hoz3 h)
              replace hE2 := Ex.tr hE2 hx480
              replace hE4 := Ex.tr hE4 hx480
              replace hE433 := Ex.tr hE433 hx480
              replace hE441 := Ex.tr hE441 hx480
              replace hE443 := Ex.tr hE443 hx480
              replace hE450 := Ex.tr hE450 hx480
              replace hE454 := Ex.tr hE454 hx480
              replace hE462 := Ex.tr hE462 hx480
              replace hE479 := Ex.tr hE479 hx480
              have hE491 := hx480
              refine RG.vl rfl rfl rfl (Ev.move rfl rfl) ?_
              refine RG.vl rfl rfl rfl (Ev.extract rfl rfl rfl) ?_
              refine RG.vl rfl rfl rfl (Ev.extract rfl rfl rfl) ?_
              refine RG.local_ rfl rfl rfl rfl (fun _ => rfl) rfl rfl (fun _ => rfl) inf_43 rfl rfl rfl (fun g3 w492 eg3 hx492 hb492 => ?_)
              have hsb493 := fun e => sep_new (g := g3) (Own.ext hoy1 hE441) eg3 e
              have hsb494 := fun e => sep_new (g := g3) (Own.ext hoz1 hE441) eg3 e
              have hsb495 := fun e => sep_new (g := g3) (Own.ext hown446 hE454) eg3 e
              have hsb496 := fun e => sep_new (g := g3) (Own.ext hoy2 hE479) eg3 e
              have hsb497 := fun e => sep_new (g := g3) (Own.ext hoz2 hE479) eg3 e
              have hsb498 := fun e => sep_new (g := g3) hoy3 eg3 e
              have hsb499 := fun e => sep_new (g := g3) hoz3 eg3 e
              have hle500 : w.heap.size ≤ g3 := by have := hE2.size; omega
              have hle501 : w1.heap.size ≤ g3 := by have := hE4.size; omega
              have hle502 : w3.heap.size ≤ g3 := by have := hE433.size; omega
              have hle503 : w432.heap.size ≤ g3 := by have := hE441.size; omega
              have hle504 : w434.heap.size ≤ g3 := by have := hE443.size; omega
              have hle505 : w442.heap.size ≤ g3 := by have := hE450.size; omega
              have hle506 : wk445.heap.size ≤ g3 := by have := hE454.size; omega
              have hle507 : w453.heap.size ≤ g3 := by have := hE462.size; omega
              have hle508 : w455.heap.size ≤ g3 := by have := hE479.size; omega
              have hle509 : w463.heap.size ≤ g3 := by have := hE491.size; omega
              have hle510 : w480.heap.size ≤ g3 := by have := (Ex.rfl_ w480).size; omega
              have hlt511 : g1 < g3 := by have := Blk.lt (hb434.ext hE443); omega
              have hlt512 : g2 < g3 := by have := Blk.lt (hb463.ext hE491); omega
              replace hE2 := Ex.tr hE2 hx492
              replace hE4 := Ex.tr hE4 hx492
              replace hE433 := Ex.tr hE433 hx492
              replace hE441 := Ex.tr hE441 hx492
              replace hE443 := Ex.tr hE443 hx492
              replace hE450 := Ex.tr hE450 hx492
              replace hE454 := Ex.tr hE454 hx492
              replace hE462 := Ex.tr hE462 hx492
              replace hE479 := Ex.tr hE479 hx492
              replace hE491 := Ex.tr hE491 hx492
              have hE513 := hx492
              refine RG.vl rfl rfl rfl (Ev.assign rfl rfl) ?_
              refine RG.done ?_
              refine QW.sub (S' := [(4, _), (8, _), (10, _), (11, _), (13, _), (15, _), (17, _), (19, _)]) ⟨rfl, rfl, rfl, rfl, rfl, rfl, rfl, rfl, trivial⟩ ?_
              refine QW.then_ ?_
              refine CW.seq ?_
              have hn0 : ([] : List Nat).length = 0 := rfl
              refine CW.region ?_
              refine RG.vl rfl rfl rfl (Ev.move rfl rfl) ?_
              refine RG.vl rfl rfl rfl (Ev.move rfl rfl) ?_
              refine RG.vl rfl rfl rfl (Ev.isT (Ev.eqI rfl rfl rfl) (rfl)) ?_
              refine RG.vl rfl rfl rfl (Ev.move rfl rfl) ?_
              refine RG.vl rfl rfl rfl (Ev.fld rfl rfl fld_43_0) ?_
              refine RG.vl rfl rfl rfl (Ev.ldAt rfl rfl Try.underlying9 rfl ((hb434.ext hE443).cells) (rfl)) ?_
              refine RG.vl rfl rfl rfl (Ev.isT (Ev.eqS rfl rfl rfl) (rfl)) ?_
              refine RG.vl rfl rfl rfl (Ev.pickT rfl rfl rfl) ?_
              refine RG.vl rfl rfl rfl (Ev.move rfl rfl) ?_
              refine RG.vl rfl rfl rfl (Ev.fld rfl rfl fld_43_1) ?_
              refine RG.vl rfl rfl rfl (Ev.ldAt rfl rfl Try.underlying4 rfl ((hb434.ext hE443).cells) (rfl)) ?_
              refine RG.vl rfl rfl rfl (Ev.notT rfl rfl) ?_
              refine RG.vl rfl rfl rfl (Ev.pickT rfl rfl rfl) ?_
              refine RG.vl rfl rfl rfl (Ev.move rfl rfl) ?_
              refine RG.vl rfl rfl rfl (Ev.fld rfl rfl fld_43_2) ?_
              refine RG.vl rfl rfl rfl (Ev.ldAt rfl rfl Try.underlying41 rfl ((hb434.ext hE443).cells) (rfl)) ?_
              refine RG.vl rfl rfl rfl (Ev.lenL rfl rfl rfl Try.underlying41 (((Own.ext hoy1 hE441).rdl encZ_len))) ?_
              refine RG.vl rfl rfl rfl (Ev.fld rfl rfl fld_43_3) ?_
              refine RG.vl rfl rfl rfl (Ev.ldAt rfl rfl Try.underlying41 rfl ((hb434.ext hE443).cells) (rfl)) ?_
              refine RG.vl rfl rfl rfl (Ev.lenL rfl rfl rfl Try.underlying41 (((Own.ext hoz1 hE441).rdl encZ_len))) ?_
              refine RG.vl rfl rfl rfl (Ev.addI rfl rfl rfl (by omega)) ?_
              refine RG.vl rfl rfl rfl (Ev.isT (Ev.eqI rfl rfl rfl) (rfl)) ?_
              refine RG.vl rfl rfl rfl (Ev.pickT rfl rfl rfl) ?_
              refine RG.vl rfl rfl rfl (Ev.move rfl rfl) ?_
              refine RG.vl rfl rfl rfl (Ev.move rfl rfl) ?_
              refine RG.vl rfl rfl rfl (Ev.isT (Ev.eqI rfl rfl rfl) (rfl)) ?_
              refine RG.vl rfl rfl rfl (Ev.pickT rfl rfl rfl) ?_
              refine RG.vl rfl rfl rfl (Ev.move rfl rfl) ?_
              refine RG.vl rfl rfl rfl (Ev.move rfl rfl) ?_
              refine RG.vl rfl rfl rfl (Ev.isT (Ev.eqI rfl rfl rfl) (rfl)) ?_
              refine RG.vl rfl rfl rfl (Ev.pickT rfl rfl rfl) ?_
              refine RG.vl rfl rfl rfl (Ev.move rfl rfl) ?_
              refine RG.vl rfl rfl rfl (Ev.move rfl rfl) ?_
              refine RG.vl rfl rfl rfl (Ev.isT (Ev.eqI rfl rfl rfl) (rfl)) ?_
              refine RG.vl rfl rfl rfl (Ev.pickT rfl rfl rfl) ?_
              refine RG.vl rfl rfl rfl (Ev.move rfl rfl) ?_
              refine RG.vl rfl rfl rfl (Ev.move rfl rfl) ?_
              refine RG.vl rfl rfl rfl (Ev.isT (Ev.eqI rfl rfl rfl) (rfl)) ?_
              refine RG.vl rfl rfl rfl (Ev.pickT rfl rfl rfl) ?_
              refine RG.vl rfl rfl rfl (Ev.move rfl rfl) ?_
              refine RG.call rfl rfl rfl rfl rfl rfl rfl en_12 (awake_ret _) ?_
              rintro _ w514 ⟨rfl, hx514⟩
              replace hE2 := Ex.tr hE2 hx514
              replace hE4 := Ex.tr hE4 hx514
              replace hE433 := Ex.tr hE433 hx514
              replace hE441 := Ex.tr hE441 hx514
              replace hE443 := Ex.tr hE443 hx514
              replace hE450 := Ex.tr hE450 hx514
              replace hE454 := Ex.tr hE454 hx514
              replace hE462 := Ex.tr hE462 hx514
              replace hE479 := Ex.tr hE479 hx514
              replace hE491 := Ex.tr hE491 hx514
              replace hE513 := Ex.tr hE513 hx514
              have hE515 := hx514
              refine RG.vl rfl rfl rfl (Ev.pickT rfl rfl rfl) ?_
              refine RG.vl rfl rfl rfl (Ev.assign rfl rfl) ?_
              refine RG.done ?_
              refine QW.sub (S' := [(4, _)]) ⟨rfl, trivial⟩ ?_
              refine QW.then_ ?_
              refine CW.ret ?_
              refine QW.ret1 rfl rfl ?_
              have hB := (Ex.tr hB0 hE2)
              exact ⟨rfl, hB⟩
            · refine CW.seq ?_
              refine CW.region ?_
              refine RG.vl rfl rfl rfl (Ev.eqI rfl rfl rfl) ?_
              refine RG.vl rfl rfl rfl (Ev.assign rfl rfl) ?_
              refine RG.done ?_
              refine QW.then_ ?_
              refine CW.condP rfl (fun hc516 => ?_) (fun hc516 => ?_)
              · refine CW.region ?_
                refine RG.vl rfl rfl rfl (Ev.assign rfl rfl) ?_
                refine RG.done ?_
                refine QW.blockN ?_
                refine QW.then_ ?_
                refine CW.seq ?_
                refine CW.region ?_
                refine RG.vl rfl rfl rfl (Ev.move rfl rfl) ?_
                refine RG.call rfl rfl rfl rfl rfl rfl rfl en_16 (brd_no2 (e0 := 2) _ (bad_no (T := wd c) (a := a) (q := 6) hwa hw60 ha64 (by omega))) ?_
                have hpre517 := (Ex.tr hB0 hE2)
                rintro _ w517 ⟨A1, B1, C1, D1, rfl, hoy1, hoz1, hx517⟩
                replace hE2 := Ex.tr hE2 hx517
                replace hE4 := Ex.tr hE4 hx517
                have hE518 := hx517
                refine RG.vl rfl rfl rfl (Ev.move rfl rfl) ?_
                refine RG.vl rfl rfl rfl (Ev.extract rfl rfl rfl) ?_
                refine RG.vl rfl rfl rfl (Ev.extract rfl rfl rfl) ?_
                refine RG.local_ rfl rfl rfl rfl (fun _ => rfl) rfl rfl (fun _ => rfl) inf_43 rfl rfl rfl (fun g1 w519 eg1 hx519 hb519 => ?_)
                have hsb520 := fun e => sep_new (g := g1) hoy1 eg1 e
                have hsb521 := fun e => sep_new (g := g1) hoz1 eg1 e
                have hle522 : w.heap.size ≤ g1 := by have := hE2.size; omega
                have hle523 : w1.heap.size ≤ g1 := by have := hE4.size; omega
                have hle524 : w3.heap.size ≤ g1 := by have := hE518.size; omega
                have hle525 : w517.heap.size ≤ g1 := by have := (Ex.rfl_ w517).size; omega
                replace hE2 := Ex.tr hE2 hx519
                replace hE4 := Ex.tr hE4 hx519
                replace hE518 := Ex.tr hE518 hx519
                have hE526 := hx519
                refine RG.vl rfl rfl rfl (Ev.assign rfl rfl) ?_
                refine RG.done ?_
                refine QW.sub (S' := [(1, _), (4, _), (8, _), (10, _), (11, _)]) ⟨rfl, rfl, rfl, rfl, rfl, trivial⟩ ?_
                refine QW.then_ ?_
                refine CW.seq ?_
                refine CW.region ?_
                refine RG.call rfl rfl rfl rfl rfl rfl rfl en_13 (bwr_no (t := longPay) (e0 := 3) _ (by decide) (by decide) (by decide)) ?_
                rintro _ w527 ⟨rfl, hx527⟩
                replace hE2 := Ex.tr hE2 hx527
                replace hE4 := Ex.tr hE4 hx527
                replace hE518 := Ex.tr hE518 hx527
                replace hE526 := Ex.tr hE526 hx527
                have hE528 := hx527
                refine RG.vl rfl rfl rfl (Ev.move rfl rfl) ?_
                refine RG.vl rfl rfl rfl (Ev.extract rfl rfl rfl) ?_
                refine RG.vl rfl rfl rfl (Ev.extract rfl rfl rfl) ?_
                refine RG.vl rfl rfl rfl (Ev.assign rfl rfl) ?_
                refine RG.vl rfl rfl rfl (Ev.assign rfl rfl) ?_
                refine RG.done ?_
                refine QW.then_ ?_
                refine CW.seq ?_
                obtain ⟨d, hx⟩ : ∃ d, ([[97], [49, 32], [45, 49], [49, 46], [0], [49, 255], [120]] : List (List UInt8))[z % 7]? = some d := ⟨_, List.getElem?_eq_getElem (by show z % 7 < 7; omega)⟩
                obtain ⟨hd2, hd1⟩ := noPays_bad d (List.mem_of_getElem? hx)
                refine CW.region ?_
                refine RG.litO (os := [_, _, _, _, _, _, _]) (enc := encTx) ([[97], [49, 32], [45, 49], [49, 46], [0], [49, 255], [120]]) rfl rfl rfl rfl rfl rfl rfl Try.underlying57 inf_9 rfl rfl rfl rfl rfl encTx_len rfl rfl (fun v529 wk530 hxwk530 hown531 hnew532 => ?_)
                have hsep533 : Sep v529 _ := Sep.of_new (Own.ext hoy1 hE526) hnew532
                have hsep534 : Sep v529 _ := Sep.of_new (Own.ext hoz1 hE526) hnew532
                replace hE2 := Ex.tr hE2 hxwk530
                replace hE4 := Ex.tr hE4 hxwk530
                replace hE518 := Ex.tr hE518 hxwk530
                replace hE526 := Ex.tr hE526 hxwk530
                replace hE528 := Ex.tr hE528 hxwk530
                have hE535 := hxwk530
                refine RG.vl rfl rfl rfl (Ev.move rfl rfl) ?_
                refine RG.vl rfl rfl rfl ((Ev.rem8 rfl rfl rfl (by omega)).conv (congrArg (Value.int .u8) (show (z : Int) % 7 = ((z % 7 : Nat) : Int) by omega))) ?_
                refine RG.idxO rfl rfl rfl rfl rfl rfl Try.underlying57 sz_9 encTx_len (hown531) (hx) (fun g537 hg537 hBg537 hp536b hp536 => ?_)
                refine RG.vl rfl rfl rfl (Ev.ld0 rfl rfl Try.underlying9 rfl (hp536) (rfl)) ?_
                refine RG.call rfl rfl rfl rfl rfl rfl rfl en_13 (bwr_no (e0 := 2) _ hd2 (by decide) hd1) ?_
                rintro _ w538 ⟨rfl, hx538⟩
                replace hE2 := Ex.tr hE2 hx538
                replace hE4 := Ex.tr hE4 hx538
                replace hE518 := Ex.tr hE518 hx538
                replace hE526 := Ex.tr hE526 hx538
                replace hE528 := Ex.tr hE528 hx538
                replace hE535 := Ex.tr hE535 hx538
                have hE539 := hx538
                refine RG.vl rfl rfl rfl (Ev.move rfl rfl) ?_
                refine RG.vl rfl rfl rfl (Ev.extract rfl rfl rfl) ?_
                refine RG.vl rfl rfl rfl (Ev.extract rfl rfl rfl) ?_
                refine RG.vl rfl rfl rfl (Ev.assign rfl rfl) ?_
                refine RG.vl rfl rfl rfl (Ev.assign rfl rfl) ?_
                refine RG.done ?_
                refine QW.sub (S' := [(4, _), (8, _), (10, _), (11, _), (13, _), (15, _)]) ⟨rfl, rfl, rfl, rfl, rfl, rfl, trivial⟩ ?_
                refine QW.then_ ?_
                refine CW.seq ?_
                refine CW.region ?_
                refine RG.vl rfl rfl rfl (Ev.build1 rfl rfl rfl inf_27 rfl rfl (by kernel_rfl) rfl) ?_
                refine RG.call rfl rfl rfl rfl rfl rfl rfl en_11 (scan_no (s := ⟨63, 0, 1, 0, 0, 1⟩) (e0 := 2) _ (noS_pl (by decide))) ?_
                have hpre540 := (Ex.tr hB0 hE2)
                rintro _ w540 ⟨A2, B2, C2, D2, rfl, hoy2, hoz2, hx540⟩
                have hsep541 : Sep (Value.slice A2 0 B2) _ := Sep.of_new (Own.ext hoy1 hE526) (fun k h => Own.ge hoy2 h)
                have hsep542 : Sep (Value.slice A2 0 B2) _ := Sep.of_new (Own.ext hoz1 hE526) (fun k h => Own.ge hoy2 h)
                have hsep543 : Sep (Value.slice A2 0 B2) _ := Sep.of_new (Own.ext hown531 hE539) (fun k h => Own.ge hoy2 h)
                have hsep544 : Sep (Value.slice C2 0 D2) _ := Sep.of_new (Own.ext hoy1 hE526) (fun k h => Own.ge hoz2 h)
                have hsep545 : Sep (Value.slice C2 0 D2) _ := Sep.of_new (Own.ext hoz1 hE526) (fun k h => Own.ge hoz2 h)
                have hsep546 : Sep (Value.slice C2 0 D2) _ := Sep.of_new (Own.ext hown531 hE539) (fun k h => Own.ge hoz2 h)
                replace hE2 := Ex.tr hE2 hx540
                replace hE4 := Ex.tr hE4 hx540
                replace hE518 := Ex.tr hE518 hx540
                replace hE526 := Ex.tr hE526 hx540
                replace hE528 := Ex.tr hE528 hx540
                replace hE535 := Ex.tr hE535 hx540
                replace hE539 := Ex.tr hE539 hx540
                have hE547 := hx540
                refine RG.vl rfl rfl rfl (Ev.move rfl rfl) ?_
                refine RG.vl rfl rfl rfl (Ev.extract rfl rfl rfl) ?_
                refine RG.vl rfl rfl rfl (Ev.extract rfl rfl rfl) ?_
                refine RG.local_ rfl rfl rfl rfl (fun _ => rfl) rfl rfl (fun _ => rfl) inf_43 rfl rfl rfl (fun g2 w548 eg2 hx548 hb548 => ?_)
                have hsb549 := fun e => sep_new (g := g2) (Own.ext hoy1 hE526) eg2 e
                have hsb550 := fun e => sep_new (g := g2) (Own.ext hoz1 hE526) eg2 e
                have hsb551 := fun e => sep_new (g := g2) (Own.ext hown531 hE539) eg2 e
                have hsb552 := fun e => sep_new (g := g2) hoy2 eg2 e
                have hsb553 := fun e => sep_new (g := g2) hoz2 eg2 e
                have hle554 : w.heap.size ≤ g2 := by have := hE2.size; omega
                have hle555 : w1.heap.size ≤ g2 := by have := hE4.size; omega
                have hle556 : w3.heap.size ≤ g2 := by have := hE518.size; omega
                have hle557 : w517.heap.size ≤ g2 := by have := hE526.size; omega
                have hle558 : w519.heap.size ≤ g2 := by have := hE528.size; omega
                have hle559 : w527.heap.size ≤ g2 := by have := hE535.size; omega
                have hle560 : wk530.heap.size ≤ g2 := by have := hE539.size; omega
                have hle561 : w538.heap.size ≤ g2 := by have := hE547.size; omega
                have hle562 : w540.heap.size ≤ g2 := by have := (Ex.rfl_ w540).size; omega
                have hlt563 : g1 < g2 := by have := Blk.lt (hb519.ext hE528); omega
                replace hE2 := Ex.tr hE2 hx548
                replace hE4 := Ex.tr hE4 hx548
                replace hE518 := Ex.tr hE518 hx548
                replace hE526 := Ex.tr hE526 hx548
                replace hE528 := Ex.tr hE528 hx548
                replace hE535 := Ex.tr hE535 hx548
                replace hE539 := Ex.tr hE539 hx548
                replace hE547 := Ex.tr hE547 hx548
                have hE564 := hx548
                refine RG.vl rfl rfl rfl (Ev.assign rfl rfl) ?_
                refine RG.done ?_
                refine QW.then_ ?_
                refine CW.seq ?_
                refine CW.region ?_
                refine RG.vl rfl rfl rfl (Ev.build1 rfl rfl rfl inf_27 rfl rfl (by kernel_rfl) rfl) ?_
                refine RG.call rfl rfl rfl rfl rfl rfl rfl en_11 (scan_no (s := ⟨64, 0, 1, 0, 0, 1⟩) (e0 := 200) _ noS_none) ?_
                have hpre565 := (Ex.tr hB0 hE2)
                rintro _ w565 ⟨A3, B3, C3, D3, rfl, hoy3, hoz3, hx565⟩
                have hsep566 : Sep (Value.slice A3 0 B3) _ := Sep.of_new (Own.ext hoy1 hE526) (fun k h => Own.ge hoy3 h)
                have hsep567 : Sep (Value.slice A3 0 B3) _ := Sep.of_new (Own.ext hoz1 hE526) (fun k h => Own.ge hoy3 h)
                have hsep568 : Sep (Value.slice A3 0 B3) _ := Sep.of_new (Own.ext hown531 hE539) (fun k h => Own.ge hoy3 h)
                have hsep569 : Sep (Value.slice A3 0 B3) _ := Sep.of_new (Own.ext hoy2 hE564) (fun k h => Own.ge hoy3 h)
                have hsep570 : Sep (Value.slice A3 0 B3) _ := Sep.of_new (Own.ext hoz2 hE564) (fun k h => Own.ge hoy3 h)
                have hsep571 : Sep (Value.slice C3 0 D3) _ := Sep.of_new (Own.ext hoy1 hE526) (fun k h => Own.ge hoz3 h)
                have hsep572 : Sep (Value.slice C3 0 D3) _ := Sep.of_new (Own.ext hoz1 hE526) (fun k h => Own.ge hoz3 h)
                have hsep573 : Sep (Value.slice C3 0 D3) _ := Sep.of_new (Own.ext hown531 hE539) (fun k h => Own.ge hoz3 h)
                have hsep574 : Sep (Value.slice C3 0 D3) _ := Sep.of_new (Own.ext hoy2 hE564) (fun k h => Own.ge hoz3 h)
                have hsep575 : Sep (Value.slice C3 0 D3) _ := Sep.of_new (Own.ext hoz2 hE564) (fun k h => Own.ge hoz3 h)
                replace hE2 := Ex.tr hE2 hx565
                replace hE4 := Ex.tr hE4 hx565
                replace hE518 := Ex.tr hE518 hx565
                replace hE526 := Ex.tr hE526 hx565
                replace hE528 := Ex.tr hE528 hx565
                replace hE535 := Ex.tr hE535 hx565
                replace hE539 := Ex.tr hE539 hx565
                replace hE547 := Ex.tr hE547 hx565
                replace hE564 := Ex.tr hE564 hx565
                have hE576 := hx565
                refine RG.vl rfl rfl rfl (Ev.move rfl rfl) ?_
                refine RG.vl rfl rfl rfl (Ev.extract rfl rfl rfl) ?_
                refine RG.vl rfl rfl rfl (Ev.extract rfl rfl rfl) ?_
                refine RG.local_ rfl rfl rfl rfl (fun _ => rfl) rfl rfl (fun _ => rfl) inf_43 rfl rfl rfl (fun g3 w577 eg3 hx577 hb577 => ?_)
                have hsb578 := fun e => sep_new (g := g3) (Own.ext hoy1 hE526) eg3 e
                have hsb579 := fun e => sep_new (g := g3) (Own.ext hoz1 hE526) eg3 e
                have hsb580 := fun e => sep_new (g := g3) (Own.ext hown531 hE539) eg3 e
                have hsb581 := fun e => sep_new (g := g3) (Own.ext hoy2 hE564) eg3 e
                have hsb582 := fun e => sep_new (g := g3) (Own.ext hoz2 hE564) eg3 e
                have hsb583 := fun e => sep_new (g := g3) hoy3 eg3 e
                have hsb584 := fun e => sep_new (g := g3) hoz3 eg3 e
                have hle585 : w.heap.size ≤ g3 := by have := hE2.size; omega
                have hle586 : w1.heap.size ≤ g3 := by have := hE4.size; omega
                have hle587 : w3.heap.size ≤ g3 := by have := hE518.size; omega
                have hle588 : w517.heap.size ≤ g3 := by have := hE526.size; omega
                have hle589 : w519.heap.size ≤ g3 := by have := hE528.size; omega
                have hle590 : w527.heap.size ≤ g3 := by have := hE535.size; omega
                have hle591 : wk530.heap.size ≤ g3 := by have := hE539.size; omega
                have hle592 : w538.heap.size ≤ g3 := by have := hE547.size; omega
                have hle593 : w540.heap.size ≤ g3 := by have := hE564.size; omega
                have hle594 : w548.heap.size ≤ g3 := by have := hE576.size; omega
                have hle595 : w565.heap.size ≤ g3 := by have := (Ex.rfl_ w565).size; omega
                have hlt596 : g1 < g3 := by have := Blk.lt (hb519.ext hE528); omega
                have hlt597 : g2 < g3 := by have := Blk.lt (hb548.ext hE576); omega
                replace hE2 := Ex.tr hE2 hx577
                replace hE4 := Ex.tr hE4 hx577
                replace hE518 := Ex.tr hE518 hx577
                replace hE526 := Ex.tr hE526 hx577
                replace hE528 := Ex.tr hE528 hx577
                replace hE535 := Ex.tr hE535 hx577
                replace hE539 := Ex.tr hE539 hx577
                replace hE547 := Ex.tr hE547 hx577
                replace hE564 := Ex.tr hE564 hx577
                replace hE576 := Ex.tr hE576 hx577
                have hE598 := hx577
                refine RG.vl rfl rfl rfl (Ev.assign rfl rfl) ?_
                refine RG.done ?_
                refine QW.sub (S' := [(4, _), (8, _), (10, _), (11, _), (13, _), (15, _), (17, _), (19, _)]) ⟨rfl, rfl, rfl, rfl, rfl, rfl, rfl, rfl, trivial⟩ ?_
                refine QW.then_ ?_
                refine CW.seq ?_
                have hn0 : ([] : List Nat).length = 0 := rfl
                refine CW.region ?_
                refine RG.vl rfl rfl rfl (Ev.move rfl rfl) ?_
                refine RG.vl rfl rfl rfl (Ev.move rfl rfl) ?_
                refine RG.vl rfl rfl rfl (Ev.isT (Ev.eqI rfl rfl rfl) (rfl)) ?_
                refine RG.vl rfl rfl rfl (Ev.move rfl rfl) ?_
                refine RG.vl rfl rfl rfl (Ev.fld rfl rfl fld_43_0) ?_
                refine RG.vl rfl rfl rfl (Ev.ldAt rfl rfl Try.underlying9 rfl ((hb519.ext hE528).cells) (rfl)) ?_
                refine RG.vl rfl rfl rfl (Ev.isT (Ev.eqS rfl rfl rfl) (rfl)) ?_
                refine RG.vl rfl rfl rfl (Ev.pickT rfl rfl rfl) ?_
                refine RG.vl rfl rfl rfl (Ev.move rfl rfl) ?_
                refine RG.vl rfl rfl rfl (Ev.fld rfl rfl fld_43_1) ?_
                refine RG.vl rfl rfl rfl (Ev.ldAt rfl rfl Try.underlying4 rfl ((hb519.ext hE528).cells) (rfl)) ?_
                refine RG.vl rfl rfl rfl (Ev.notT rfl rfl) ?_
                refine RG.vl rfl rfl rfl (Ev.pickT rfl rfl rfl) ?_
                refine RG.vl rfl rfl rfl (Ev.move rfl rfl) ?_
                refine RG.vl rfl rfl rfl (Ev.fld rfl rfl fld_43_2) ?_
                refine RG.vl rfl rfl rfl (Ev.ldAt rfl rfl Try.underlying41 rfl ((hb519.ext hE528).cells) (rfl)) ?_
                refine RG.vl rfl rfl rfl (Ev.lenL rfl rfl rfl Try.underlying41 (((Own.ext hoy1 hE526).rdl encZ_len))) ?_
                refine RG.vl rfl rfl rfl (Ev.fld rfl rfl fld_43_3) ?_
                refine RG.vl rfl rfl rfl (Ev.ldAt rfl rfl Try.underlying41 rfl ((hb519.ext hE528).cells) (rfl)) ?_
                refine RG.vl rfl rfl rfl (Ev.lenL rfl rfl rfl Try.underlying41 (((Own.ext hoz1 hE526).rdl encZ_len))) ?_
                refine RG.vl rfl rfl rfl (Ev.addI rfl rfl rfl (by omega)) ?_
                refine RG.vl rfl rfl rfl (Ev.isT (Ev.eqI rfl rfl rfl) (rfl)) ?_
                refine RG.vl rfl rfl rfl (Ev.pickT rfl rfl rfl) ?_
                refine RG.vl rfl rfl rfl (Ev.move rfl rfl) ?_
                refine RG.vl rfl rfl rfl (Ev.move rfl rfl) ?_
                refine RG.vl rfl rfl rfl (Ev.isT (Ev.eqI rfl rfl rfl) (rfl)) ?_
                refine RG.vl rfl rfl rfl (Ev.pickT rfl rfl rfl) ?_
                refine RG.vl rfl rfl rfl (Ev.move rfl rfl) ?_
                refine RG.vl rfl rfl rfl (Ev.move rfl rfl) ?_
                refine RG.vl rfl rfl rfl (Ev.isT (Ev.eqI rfl rfl rfl) (rfl)) ?_
                refine RG.vl rfl rfl rfl (Ev.pickT rfl rfl rfl) ?_
                refine RG.vl rfl rfl rfl (Ev.move rfl rfl) ?_
                refine RG.vl rfl rfl rfl (Ev.move rfl rfl) ?_
                refine RG.vl rfl rfl rfl (Ev.isT (Ev.eqI rfl rfl rfl) (rfl)) ?_
                refine RG.vl rfl rfl rfl (Ev.pickT rfl rfl rfl) ?_
                refine RG.vl rfl rfl rfl (Ev.move rfl rfl) ?_
                refine RG.vl rfl rfl rfl (Ev.move rfl rfl) ?_
                refine RG.vl rfl rfl rfl (Ev.isT (Ev.eqI rfl rfl rfl) (rfl)) ?_
                refine RG.vl rfl rfl rfl (Ev.pickT rfl rfl rfl) ?_
                refine RG.vl rfl rfl rfl (Ev.move rfl rfl) ?_
                refine RG.call rfl rfl rfl rfl rfl rfl rfl en_12 (awake_ret _) ?_
                rintro _ w599 ⟨rfl, hx599⟩
                replace hE2 := Ex.tr hE2 hx599
                replace hE4 := Ex.tr hE4 hx599
                replace hE518 := Ex.tr hE518 hx599
                replace hE526 := Ex.tr hE526 hx599
                replace hE528 := Ex.tr hE528 hx599
                replace hE535 := Ex.tr hE535 hx599
                replace hE539 := Ex.tr hE539 hx599
                replace hE547 := Ex.tr hE547 hx599
                replace hE564 := Ex.tr hE564 hx599
                replace hE576 := Ex.tr hE576 hx599
                replace hE598 := Ex.tr hE598 hx599
                have hE600 := hx599
                refine RG.vl rfl rfl rfl (Ev.pickT rfl rfl rfl) ?_
                refine RG.vl rfl rfl rfl (Ev.assign rfl rfl) ?_
                refine RG.done ?_
                refine QW.sub (S' := [(4, _)]) ⟨rfl, trivial⟩ ?_
                refine QW.then_ ?_
                refine CW.ret ?_
                refine QW.ret1 rfl rfl ?_
                have hB := (Ex.tr hB0 hE2)
                exact ⟨rfl, hB⟩
              · refine CW.skip ?_
                refine QW.blockN ?_
                refine QW.then_ ?_
                refine CW.seq ?_
                exfalso; omega

end Go.Proofs.Ytgjnchjkjdnidaa

