/- Closed facts on this translation: sizes and fields of types, which functions are entered. Written by program. -/
import Derived.Test.YtjhgihgggofocaaLG
import Derived.Test.YtjhgihgggofocaaProg
import Derived.KernelRfl
namespace Go.Proofs.Ytjhgihgggofocaa

theorem sz_2 : sizeP Try.prog 2 = some 1 := by kernel_rfl
theorem inf_2 : (Try.prog.info? 2).map (fun i => (i.zero, i.size, i.bytes)) = some (some (.int .i64 0), 1, 8) := by kernel_rfl
theorem sz_3 : sizeP Try.prog 3 = some 1 := by kernel_rfl
theorem inf_3 : (Try.prog.info? 3).map (fun i => (i.zero, i.size, i.bytes)) = some (some (.int .i64 0), 1, 8) := by kernel_rfl
theorem sz_4 : sizeP Try.prog 4 = some 1 := by kernel_rfl
theorem inf_4 : (Try.prog.info? 4).map (fun i => (i.zero, i.size, i.bytes)) = some (some (.bool false), 1, 1) := by kernel_rfl
theorem sz_5 : sizeP Try.prog 5 = some 1 := by kernel_rfl
theorem inf_5 : (Try.prog.info? 5).map (fun i => (i.zero, i.size, i.bytes)) = some (some (.int .u8 0), 1, 1) := by kernel_rfl
theorem sz_6 : sizeP Try.prog 6 = some 1 := by kernel_rfl
theorem inf_6 : (Try.prog.info? 6).map (fun i => (i.zero, i.size, i.bytes)) = some (some (.int .u8 0), 1, 1) := by kernel_rfl
theorem sz_7 : sizeP Try.prog 7 = some 4 := by kernel_rfl
theorem inf_7 : (Try.prog.info? 7).map (fun i => (i.zero, i.size, i.bytes)) = some (some (.agg #[.int .i64 0, .int .i64 0, .bool false, .int .u8 0]), 4, 24) := by kernel_rfl
theorem fld_7_0 : fldOff Try.prog 7 0 = some 0 := by kernel_rfl
theorem fld_7_1 : fldOff Try.prog 7 1 = some 1 := by kernel_rfl
theorem fld_7_2 : fldOff Try.prog 7 2 = some 2 := by kernel_rfl
theorem fld_7_3 : fldOff Try.prog 7 3 = some 3 := by kernel_rfl
theorem sz_8 : sizeP Try.prog 8 = some 4 := by kernel_rfl
theorem inf_8 : (Try.prog.info? 8).map (fun i => (i.zero, i.size, i.bytes)) = some (some (.agg #[.int .i64 0, .int .i64 0, .bool false, .int .u8 0]), 4, 24) := by kernel_rfl
theorem fld_8_0 : fldOff Try.prog 8 0 = some 0 := by kernel_rfl
theorem fld_8_1 : fldOff Try.prog 8 1 = some 1 := by kernel_rfl
theorem fld_8_2 : fldOff Try.prog 8 2 = some 2 := by kernel_rfl
theorem fld_8_3 : fldOff Try.prog 8 3 = some 3 := by kernel_rfl
theorem sz_9 : sizeP Try.prog 9 = some 1 := by kernel_rfl
theorem inf_9 : (Try.prog.info? 9).map (fun i => (i.zero, i.size, i.bytes)) = some (some (.string ⟨#[]⟩), 1, 16) := by kernel_rfl
theorem sz_10 : sizeP Try.prog 10 = some 1 := by kernel_rfl
theorem inf_10 : (Try.prog.info? 10).map (fun i => (i.zero, i.size, i.bytes)) = some (some (.string ⟨#[]⟩), 1, 16) := by kernel_rfl
theorem sz_11 : sizeP Try.prog 11 = some 1 := by kernel_rfl
theorem inf_11 : (Try.prog.info? 11).map (fun i => (i.zero, i.size, i.bytes)) = some (some (.string ⟨#[]⟩), 1, 16) := by kernel_rfl
theorem sz_12 : sizeP Try.prog 12 = some 1 := by kernel_rfl
theorem inf_12 : (Try.prog.info? 12).map (fun i => (i.zero, i.size, i.bytes)) = some (some (.int .u64 0), 1, 8) := by kernel_rfl
theorem sz_13 : sizeP Try.prog 13 = some 2 := by kernel_rfl
theorem inf_13 : (Try.prog.info? 13).map (fun i => (i.zero, i.size, i.bytes)) = some (some (.agg #[.string ⟨#[]⟩, .int .u64 0]), 2, 24) := by kernel_rfl
theorem fld_13_0 : fldOff Try.prog 13 0 = some 0 := by kernel_rfl
theorem fld_13_1 : fldOff Try.prog 13 1 = some 1 := by kernel_rfl
theorem sz_14 : sizeP Try.prog 14 = some 2 := by kernel_rfl
theorem inf_14 : (Try.prog.info? 14).map (fun i => (i.zero, i.size, i.bytes)) = some (some (.agg #[.string ⟨#[]⟩, .int .u64 0]), 2, 24) := by kernel_rfl
theorem fld_14_0 : fldOff Try.prog 14 0 = some 0 := by kernel_rfl
theorem fld_14_1 : fldOff Try.prog 14 1 = some 1 := by kernel_rfl
theorem sz_15 : sizeP Try.prog 15 = some 1 := by kernel_rfl
theorem inf_15 : (Try.prog.info? 15).map (fun i => (i.zero, i.size, i.bytes)) = some (some (.pointer none), 1, 8) := by kernel_rfl
theorem sz_16 : sizeP Try.prog 16 = some 1 := by kernel_rfl
theorem inf_16 : (Try.prog.info? 16).map (fun i => (i.zero, i.size, i.bytes)) = some (some (.pointer none), 1, 8) := by kernel_rfl
theorem sz_17 : sizeP Try.prog 17 = some 1 := by kernel_rfl
theorem inf_17 : (Try.prog.info? 17).map (fun i => (i.zero, i.size, i.bytes)) = some (some (.pointer none), 1, 8) := by kernel_rfl
theorem sz_18 : sizeP Try.prog 18 = some 1 := by kernel_rfl
theorem inf_18 : (Try.prog.info? 18).map (fun i => (i.zero, i.size, i.bytes)) = some (some (.agg #[.pointer none]), 1, 8) := by kernel_rfl
theorem fld_18_0 : fldOff Try.prog 18 0 = some 0 := by kernel_rfl
theorem sz_19 : sizeP Try.prog 19 = some 1 := by kernel_rfl
theorem inf_19 : (Try.prog.info? 19).map (fun i => (i.zero, i.size, i.bytes)) = some (some (.agg #[.pointer none]), 1, 8) := by kernel_rfl
theorem fld_19_0 : fldOff Try.prog 19 0 = some 0 := by kernel_rfl
theorem sz_21 : sizeP Try.prog 21 = some 1 := by kernel_rfl
theorem inf_21 : (Try.prog.info? 21).map (fun i => (i.zero, i.size, i.bytes)) = some (some (.int .i32 0), 1, 4) := by kernel_rfl
theorem sz_22 : sizeP Try.prog 22 = some 1 := by kernel_rfl
theorem inf_22 : (Try.prog.info? 22).map (fun i => (i.zero, i.size, i.bytes)) = some (some (.slice none 0 0), 1, 24) := by kernel_rfl
theorem sz_23 : sizeP Try.prog 23 = some 1 := by kernel_rfl
theorem inf_23 : (Try.prog.info? 23).map (fun i => (i.zero, i.size, i.bytes)) = some (some (.slice none 0 0), 1, 24) := by kernel_rfl
theorem sz_27 : sizeP Try.prog 27 = some 2 := by kernel_rfl
theorem inf_27 : (Try.prog.info? 27).map (fun i => (i.zero, i.size, i.bytes)) = some (some (.agg #[.slice none 0 0, .slice none 0 0]), 2, 48) := by kernel_rfl
theorem fld_27_0 : fldOff Try.prog 27 0 = some 0 := by kernel_rfl
theorem fld_27_1 : fldOff Try.prog 27 1 = some 1 := by kernel_rfl
theorem sz_28 : sizeP Try.prog 28 = some 2 := by kernel_rfl
theorem inf_28 : (Try.prog.info? 28).map (fun i => (i.zero, i.size, i.bytes)) = some (some (.agg #[.slice none 0 0, .slice none 0 0]), 2, 48) := by kernel_rfl
theorem fld_28_0 : fldOff Try.prog 28 0 = some 0 := by kernel_rfl
theorem fld_28_1 : fldOff Try.prog 28 1 = some 1 := by kernel_rfl
theorem sz_29 : sizeP Try.prog 29 = some 1 := by kernel_rfl
theorem inf_29 : (Try.prog.info? 29).map (fun i => (i.zero, i.size, i.bytes)) = some (some (.int .i64 0), 1, 8) := by kernel_rfl
theorem sz_39 : sizeP Try.prog 39 = some 1 := by kernel_rfl
theorem inf_39 : (Try.prog.info? 39).map (fun i => (i.zero, i.size, i.bytes)) = some (some (.slice none 0 0), 1, 24) := by kernel_rfl
theorem sz_49 : sizeP Try.prog 49 = some 1 := by kernel_rfl
theorem inf_49 : (Try.prog.info? 49).map (fun i => (i.zero, i.size, i.bytes)) = some (some (.slice none 0 0), 1, 24) := by kernel_rfl
theorem sz_56 : sizeP Try.prog 56 = some 63 := by kernel_rfl
theorem inf_56 : (Try.prog.info? 56).map (fun i => (i.zero, i.size, i.bytes)) = some (some (.agg #[.bool false, .bool false, .bool false, .bool false, .bool false, .bool false, .bool false, .bool false, .bool false, .bool false, .bool false, .bool false, .bool false, .bool false, .bool false, .bool false, .bool false, .bool false, .bool false, .bool false, .bool false, .bool false, .bool false, .bool false, .bool false, .bool false, .bool false, .bool false, .bool false, .bool false, .bool false, .bool false, .bool false, .bool false, .bool false, .bool false, .bool false, .bool false, .bool false, .bool false, .bool false, .bool false, .bool false, .bool false, .bool false, .bool false, .bool false, .bool false, .bool false, .bool false, .bool false, .bool false, .bool false, .bool false, .bool false, .bool false, .bool false, .bool false, .bool false, .bool false, .bool false, .bool false, .bool false]), 63, 63) := by kernel_rfl
theorem sz_57 : sizeP Try.prog 57 = some 4 := by kernel_rfl
theorem inf_57 : (Try.prog.info? 57).map (fun i => (i.zero, i.size, i.bytes)) = some (some (.agg #[.int .u8 0, .int .u8 0, .int .u8 0, .int .u8 0]), 4, 4) := by kernel_rfl
theorem sz_60 : sizeP Try.prog 60 = some 1 := by kernel_rfl
theorem inf_60 : (Try.prog.info? 60).map (fun i => (i.zero, i.size, i.bytes)) = some (some (.nilFunc), 1, 8) := by kernel_rfl
theorem sz_62 : sizeP Try.prog 62 = some 5 := by kernel_rfl
theorem inf_62 : (Try.prog.info? 62).map (fun i => (i.zero, i.size, i.bytes)) = some (some (.agg #[.int .u8 0, .int .u8 0, .int .u8 0, .int .u8 0, .int .u8 0]), 5, 5) := by kernel_rfl
theorem sz_63 : sizeP Try.prog 63 = some 20 := by kernel_rfl
theorem inf_63 : (Try.prog.info? 63).map (fun i => (i.zero, i.size, i.bytes)) = some (some (.agg #[.int .u8 0, .int .u8 0, .int .u8 0, .int .u8 0, .int .u8 0, .int .u8 0, .int .u8 0, .int .u8 0, .int .u8 0, .int .u8 0, .int .u8 0, .int .u8 0, .int .u8 0, .int .u8 0, .int .u8 0, .int .u8 0, .int .u8 0, .int .u8 0, .int .u8 0, .int .u8 0]), 20, 20) := by kernel_rfl
theorem sz_64 : sizeP Try.prog 64 = some 20 := by kernel_rfl
theorem inf_64 : (Try.prog.info? 64).map (fun i => (i.zero, i.size, i.bytes)) = some (some (.agg #[.int .u8 0, .int .u8 0, .int .u8 0, .int .u8 0, .int .u8 0, .int .u8 0, .int .u8 0, .int .u8 0, .int .u8 0, .int .u8 0, .int .u8 0, .int .u8 0, .int .u8 0, .int .u8 0, .int .u8 0, .int .u8 0, .int .u8 0, .int .u8 0, .int .u8 0, .int .u8 0]), 20, 20) := by kernel_rfl
theorem sz_69 : sizeP Try.prog 69 = some 3 := by kernel_rfl
theorem inf_69 : (Try.prog.info? 69).map (fun i => (i.zero, i.size, i.bytes)) = some (some (.agg #[.int .u8 0, .int .u8 0, .bool false]), 3, 3) := by kernel_rfl
theorem fld_69_0 : fldOff Try.prog 69 0 = some 0 := by kernel_rfl
theorem fld_69_1 : fldOff Try.prog 69 1 = some 1 := by kernel_rfl
theorem fld_69_2 : fldOff Try.prog 69 2 = some 2 := by kernel_rfl
theorem sz_70 : sizeP Try.prog 70 = some 3 := by kernel_rfl
theorem inf_70 : (Try.prog.info? 70).map (fun i => (i.zero, i.size, i.bytes)) = some (some (.agg #[.int .u8 0, .int .u8 0, .bool false]), 3, 3) := by kernel_rfl
theorem fld_70_0 : fldOff Try.prog 70 0 = some 0 := by kernel_rfl
theorem fld_70_1 : fldOff Try.prog 70 1 = some 1 := by kernel_rfl
theorem fld_70_2 : fldOff Try.prog 70 2 = some 2 := by kernel_rfl
theorem sz_79 : sizeP Try.prog 79 = some 1 := by kernel_rfl
theorem inf_79 : (Try.prog.info? 79).map (fun i => (i.zero, i.size, i.bytes)) = some (some (.pointer none), 1, 8) := by kernel_rfl
theorem sz_81 : sizeP Try.prog 81 = some 1 := by kernel_rfl
theorem inf_81 : (Try.prog.info? 81).map (fun i => (i.zero, i.size, i.bytes)) = some (some (.int .u64 0), 1, 8) := by kernel_rfl
theorem sz_82 : sizeP Try.prog 82 = some 1 := by kernel_rfl
theorem inf_82 : (Try.prog.info? 82).map (fun i => (i.zero, i.size, i.bytes)) = some (some (.int .u64 0), 1, 8) := by kernel_rfl
theorem sz_86 : sizeP Try.prog 86 = some 1 := by kernel_rfl
theorem inf_86 : (Try.prog.info? 86).map (fun i => (i.zero, i.size, i.bytes)) = some (some (.pointer none), 1, 8) := by kernel_rfl
theorem sz_88 : sizeP Try.prog 88 = some 16 := by kernel_rfl
theorem inf_88 : (Try.prog.info? 88).map (fun i => (i.zero, i.size, i.bytes)) = some (some (.agg #[.int .u8 0, .int .u8 0, .int .u8 0, .int .u8 0, .int .u8 0, .int .u8 0, .int .u8 0, .int .u8 0, .int .u8 0, .int .u8 0, .int .u8 0, .int .u8 0, .int .u8 0, .int .u8 0, .int .u8 0, .int .u8 0]), 16, 16) := by kernel_rfl
theorem sz_95 : sizeP Try.prog 95 = some 1 := by kernel_rfl
theorem inf_95 : (Try.prog.info? 95).map (fun i => (i.zero, i.size, i.bytes)) = some (some (.slice none 0 0), 1, 24) := by kernel_rfl
theorem sz_96 : sizeP Try.prog 96 = some 63 := by kernel_rfl
theorem inf_96 : (Try.prog.info? 96).map (fun i => (i.zero, i.size, i.bytes)) = some (some (.agg #[.int .u8 0, .int .u8 0, .int .u8 0, .int .u8 0, .int .u8 0, .int .u8 0, .int .u8 0, .int .u8 0, .int .u8 0, .int .u8 0, .int .u8 0, .int .u8 0, .int .u8 0, .int .u8 0, .int .u8 0, .int .u8 0, .int .u8 0, .int .u8 0, .int .u8 0, .int .u8 0, .int .u8 0, .int .u8 0, .int .u8 0, .int .u8 0, .int .u8 0, .int .u8 0, .int .u8 0, .int .u8 0, .int .u8 0, .int .u8 0, .int .u8 0, .int .u8 0, .int .u8 0, .int .u8 0, .int .u8 0, .int .u8 0, .int .u8 0, .int .u8 0, .int .u8 0, .int .u8 0, .int .u8 0, .int .u8 0, .int .u8 0, .int .u8 0, .int .u8 0, .int .u8 0, .int .u8 0, .int .u8 0, .int .u8 0, .int .u8 0, .int .u8 0, .int .u8 0, .int .u8 0, .int .u8 0, .int .u8 0, .int .u8 0, .int .u8 0, .int .u8 0, .int .u8 0, .int .u8 0, .int .u8 0, .int .u8 0, .int .u8 0]), 63, 63) := by kernel_rfl
theorem sz_98 : sizeP Try.prog 98 = some 64 := by kernel_rfl
theorem inf_98 : (Try.prog.info? 98).map (fun i => (i.zero, i.size, i.bytes)) = some (some (.agg #[.int .u8 0, .int .u8 0, .int .u8 0, .int .u8 0, .int .u8 0, .int .u8 0, .int .u8 0, .int .u8 0, .int .u8 0, .int .u8 0, .int .u8 0, .int .u8 0, .int .u8 0, .int .u8 0, .int .u8 0, .int .u8 0, .int .u8 0, .int .u8 0, .int .u8 0, .int .u8 0, .int .u8 0, .int .u8 0, .int .u8 0, .int .u8 0, .int .u8 0, .int .u8 0, .int .u8 0, .int .u8 0, .int .u8 0, .int .u8 0, .int .u8 0, .int .u8 0, .int .u8 0, .int .u8 0, .int .u8 0, .int .u8 0, .int .u8 0, .int .u8 0, .int .u8 0, .int .u8 0, .int .u8 0, .int .u8 0, .int .u8 0, .int .u8 0, .int .u8 0, .int .u8 0, .int .u8 0, .int .u8 0, .int .u8 0, .int .u8 0, .int .u8 0, .int .u8 0, .int .u8 0, .int .u8 0, .int .u8 0, .int .u8 0, .int .u8 0, .int .u8 0, .int .u8 0, .int .u8 0, .int .u8 0, .int .u8 0, .int .u8 0, .int .u8 0]), 64, 64) := by kernel_rfl
theorem sz_100 : sizeP Try.prog 100 = some 127 := by kernel_rfl
theorem inf_100 : (Try.prog.info? 100).map (fun i => (i.zero, i.size, i.bytes)) = some (some (.agg #[.int .u8 0, .int .u8 0, .int .u8 0, .int .u8 0, .int .u8 0, .int .u8 0, .int .u8 0, .int .u8 0, .int .u8 0, .int .u8 0, .int .u8 0, .int .u8 0, .int .u8 0, .int .u8 0, .int .u8 0, .int .u8 0, .int .u8 0, .int .u8 0, .int .u8 0, .int .u8 0, .int .u8 0, .int .u8 0, .int .u8 0, .int .u8 0, .int .u8 0, .int .u8 0, .int .u8 0, .int .u8 0, .int .u8 0, .int .u8 0, .int .u8 0, .int .u8 0, .int .u8 0, .int .u8 0, .int .u8 0, .int .u8 0, .int .u8 0, .int .u8 0, .int .u8 0, .int .u8 0, .int .u8 0, .int .u8 0, .int .u8 0, .int .u8 0, .int .u8 0, .int .u8 0, .int .u8 0, .int .u8 0, .int .u8 0, .int .u8 0, .int .u8 0, .int .u8 0, .int .u8 0, .int .u8 0, .int .u8 0, .int .u8 0, .int .u8 0, .int .u8 0, .int .u8 0, .int .u8 0, .int .u8 0, .int .u8 0, .int .u8 0, .int .u8 0, .int .u8 0, .int .u8 0, .int .u8 0, .int .u8 0, .int .u8 0, .int .u8 0, .int .u8 0, .int .u8 0, .int .u8 0, .int .u8 0, .int .u8 0, .int .u8 0, .int .u8 0, .int .u8 0, .int .u8 0, .int .u8 0, .int .u8 0, .int .u8 0, .int .u8 0, .int .u8 0, .int .u8 0, .int .u8 0, .int .u8 0, .int .u8 0, .int .u8 0, .int .u8 0, .int .u8 0, .int .u8 0, .int .u8 0, .int .u8 0, .int .u8 0, .int .u8 0, .int .u8 0, .int .u8 0, .int .u8 0, .int .u8 0, .int .u8 0, .int .u8 0, .int .u8 0, .int .u8 0, .int .u8 0, .int .u8 0, .int .u8 0, .int .u8 0, .int .u8 0, .int .u8 0, .int .u8 0, .int .u8 0, .int .u8 0, .int .u8 0, .int .u8 0, .int .u8 0, .int .u8 0, .int .u8 0, .int .u8 0, .int .u8 0, .int .u8 0, .int .u8 0, .int .u8 0, .int .u8 0, .int .u8 0, .int .u8 0, .int .u8 0]), 127, 127) := by kernel_rfl
theorem fld_100_0 : fldOff Try.prog 100 0 = some 0 := by kernel_rfl
theorem fld_100_1 : fldOff Try.prog 100 1 = some 63 := by kernel_rfl
theorem sz_101 : sizeP Try.prog 101 = some 127 := by kernel_rfl
theorem inf_101 : (Try.prog.info? 101).map (fun i => (i.zero, i.size, i.bytes)) = some (some (.agg #[.int .u8 0, .int .u8 0, .int .u8 0, .int .u8 0, .int .u8 0, .int .u8 0, .int .u8 0, .int .u8 0, .int .u8 0, .int .u8 0, .int .u8 0, .int .u8 0, .int .u8 0, .int .u8 0, .int .u8 0, .int .u8 0, .int .u8 0, .int .u8 0, .int .u8 0, .int .u8 0, .int .u8 0, .int .u8 0, .int .u8 0, .int .u8 0, .int .u8 0, .int .u8 0, .int .u8 0, .int .u8 0, .int .u8 0, .int .u8 0, .int .u8 0, .int .u8 0, .int .u8 0, .int .u8 0, .int .u8 0, .int .u8 0, .int .u8 0, .int .u8 0, .int .u8 0, .int .u8 0, .int .u8 0, .int .u8 0, .int .u8 0, .int .u8 0, .int .u8 0, .int .u8 0, .int .u8 0, .int .u8 0, .int .u8 0, .int .u8 0, .int .u8 0, .int .u8 0, .int .u8 0, .int .u8 0, .int .u8 0, .int .u8 0, .int .u8 0, .int .u8 0, .int .u8 0, .int .u8 0, .int .u8 0, .int .u8 0, .int .u8 0, .int .u8 0, .int .u8 0, .int .u8 0, .int .u8 0, .int .u8 0, .int .u8 0, .int .u8 0, .int .u8 0, .int .u8 0, .int .u8 0, .int .u8 0, .int .u8 0, .int .u8 0, .int .u8 0, .int .u8 0, .int .u8 0, .int .u8 0, .int .u8 0, .int .u8 0, .int .u8 0, .int .u8 0, .int .u8 0, .int .u8 0, .int .u8 0, .int .u8 0, .int .u8 0, .int .u8 0, .int .u8 0, .int .u8 0, .int .u8 0, .int .u8 0, .int .u8 0, .int .u8 0, .int .u8 0, .int .u8 0, .int .u8 0, .int .u8 0, .int .u8 0, .int .u8 0, .int .u8 0, .int .u8 0, .int .u8 0, .int .u8 0, .int .u8 0, .int .u8 0, .int .u8 0, .int .u8 0, .int .u8 0, .int .u8 0, .int .u8 0, .int .u8 0, .int .u8 0, .int .u8 0, .int .u8 0, .int .u8 0, .int .u8 0, .int .u8 0, .int .u8 0, .int .u8 0, .int .u8 0, .int .u8 0, .int .u8 0, .int .u8 0, .int .u8 0]), 127, 127) := by kernel_rfl
theorem fld_101_0 : fldOff Try.prog 101 0 = some 0 := by kernel_rfl
theorem fld_101_1 : fldOff Try.prog 101 1 = some 63 := by kernel_rfl
theorem sz_106 : sizeP Try.prog 106 = some 4 := by kernel_rfl
theorem inf_106 : (Try.prog.info? 106).map (fun i => (i.zero, i.size, i.bytes)) = some (some (.agg #[.pointer none, .pointer none, .pointer none, .string ⟨#[]⟩]), 4, 40) := by kernel_rfl
theorem fld_106_0 : fldOff Try.prog 106 0 = some 0 := by kernel_rfl
theorem fld_106_1 : fldOff Try.prog 106 1 = some 1 := by kernel_rfl
theorem fld_106_2 : fldOff Try.prog 106 2 = some 2 := by kernel_rfl
theorem fld_106_3 : fldOff Try.prog 106 3 = some 3 := by kernel_rfl
theorem sz_107 : sizeP Try.prog 107 = some 4 := by kernel_rfl
theorem inf_107 : (Try.prog.info? 107).map (fun i => (i.zero, i.size, i.bytes)) = some (some (.agg #[.pointer none, .pointer none, .pointer none, .string ⟨#[]⟩]), 4, 40) := by kernel_rfl
theorem fld_107_0 : fldOff Try.prog 107 0 = some 0 := by kernel_rfl
theorem fld_107_1 : fldOff Try.prog 107 1 = some 1 := by kernel_rfl
theorem fld_107_2 : fldOff Try.prog 107 2 = some 2 := by kernel_rfl
theorem fld_107_3 : fldOff Try.prog 107 3 = some 3 := by kernel_rfl
theorem sz_108 : sizeP Try.prog 108 = some 0 := by kernel_rfl
theorem inf_108 : (Try.prog.info? 108).map (fun i => (i.zero, i.size, i.bytes)) = some (some (.agg #[]), 0, 0) := by kernel_rfl
theorem sz_109 : sizeP Try.prog 109 = some 0 := by kernel_rfl
theorem inf_109 : (Try.prog.info? 109).map (fun i => (i.zero, i.size, i.bytes)) = some (some (.agg #[]), 0, 0) := by kernel_rfl
theorem sz_110 : sizeP Try.prog 110 = some 0 := by kernel_rfl
theorem inf_110 : (Try.prog.info? 110).map (fun i => (i.zero, i.size, i.bytes)) = some (some (.agg #[]), 0, 0) := by kernel_rfl
theorem sz_112 : sizeP Try.prog 112 = some 1 := by kernel_rfl
theorem inf_112 : (Try.prog.info? 112).map (fun i => (i.zero, i.size, i.bytes)) = some (some (.int .u32 0), 1, 4) := by kernel_rfl
theorem sz_113 : sizeP Try.prog 113 = some 1 := by kernel_rfl
theorem inf_113 : (Try.prog.info? 113).map (fun i => (i.zero, i.size, i.bytes)) = some (some (.int .u8 0), 1, 1) := by kernel_rfl
theorem sz_114 : sizeP Try.prog 114 = some 1 := by kernel_rfl
theorem inf_114 : (Try.prog.info? 114).map (fun i => (i.zero, i.size, i.bytes)) = some (some (.int .u8 0), 1, 1) := by kernel_rfl
theorem sz_116 : sizeP Try.prog 116 = some 1 := by kernel_rfl
theorem inf_116 : (Try.prog.info? 116).map (fun i => (i.zero, i.size, i.bytes)) = some (some (.pointer none), 1, 8) := by kernel_rfl
theorem sz_117 : sizeP Try.prog 117 = some 1 := by kernel_rfl
theorem inf_117 : (Try.prog.info? 117).map (fun i => (i.zero, i.size, i.bytes)) = some (some (.int .i32 0), 1, 4) := by kernel_rfl
theorem sz_118 : sizeP Try.prog 118 = some 1 := by kernel_rfl
theorem inf_118 : (Try.prog.info? 118).map (fun i => (i.zero, i.size, i.bytes)) = some (some (.int .i32 0), 1, 4) := by kernel_rfl
theorem sz_119 : sizeP Try.prog 119 = some 11 := by kernel_rfl
theorem inf_119 : (Try.prog.info? 119).map (fun i => (i.zero, i.size, i.bytes)) = some (some (.agg #[.int .u64 0, .int .u64 0, .int .u32 0, .int .u8 0, .int .u8 0, .int .u8 0, .int .u8 0, .nilFunc, .pointer none, .int .i32 0, .int .i32 0]), 11, 48) := by kernel_rfl
theorem fld_119_0 : fldOff Try.prog 119 0 = some 0 := by kernel_rfl
theorem fld_119_1 : fldOff Try.prog 119 1 = some 1 := by kernel_rfl
theorem fld_119_2 : fldOff Try.prog 119 2 = some 2 := by kernel_rfl
theorem fld_119_3 : fldOff Try.prog 119 3 = some 3 := by kernel_rfl
theorem fld_119_4 : fldOff Try.prog 119 4 = some 4 := by kernel_rfl
theorem fld_119_5 : fldOff Try.prog 119 5 = some 5 := by kernel_rfl
theorem fld_119_6 : fldOff Try.prog 119 6 = some 6 := by kernel_rfl
theorem fld_119_7 : fldOff Try.prog 119 7 = some 7 := by kernel_rfl
theorem fld_119_8 : fldOff Try.prog 119 8 = some 8 := by kernel_rfl
theorem fld_119_9 : fldOff Try.prog 119 9 = some 9 := by kernel_rfl
theorem fld_119_10 : fldOff Try.prog 119 10 = some 10 := by kernel_rfl
theorem sz_120 : sizeP Try.prog 120 = some 11 := by kernel_rfl
theorem inf_120 : (Try.prog.info? 120).map (fun i => (i.zero, i.size, i.bytes)) = some (some (.agg #[.int .u64 0, .int .u64 0, .int .u32 0, .int .u8 0, .int .u8 0, .int .u8 0, .int .u8 0, .nilFunc, .pointer none, .int .i32 0, .int .i32 0]), 11, 48) := by kernel_rfl
theorem fld_120_0 : fldOff Try.prog 120 0 = some 0 := by kernel_rfl
theorem fld_120_1 : fldOff Try.prog 120 1 = some 1 := by kernel_rfl
theorem fld_120_2 : fldOff Try.prog 120 2 = some 2 := by kernel_rfl
theorem fld_120_3 : fldOff Try.prog 120 3 = some 3 := by kernel_rfl
theorem fld_120_4 : fldOff Try.prog 120 4 = some 4 := by kernel_rfl
theorem fld_120_5 : fldOff Try.prog 120 5 = some 5 := by kernel_rfl
theorem fld_120_6 : fldOff Try.prog 120 6 = some 6 := by kernel_rfl
theorem fld_120_7 : fldOff Try.prog 120 7 = some 7 := by kernel_rfl
theorem fld_120_8 : fldOff Try.prog 120 8 = some 8 := by kernel_rfl
theorem fld_120_9 : fldOff Try.prog 120 9 = some 9 := by kernel_rfl
theorem fld_120_10 : fldOff Try.prog 120 10 = some 10 := by kernel_rfl
theorem sz_121 : sizeP Try.prog 121 = some 1 := by kernel_rfl
theorem inf_121 : (Try.prog.info? 121).map (fun i => (i.zero, i.size, i.bytes)) = some (some (.pointer none), 1, 8) := by kernel_rfl
theorem mixed : Try.prog.follows .mixedOrders = true := by kernel_rfl
theorem en_2 : ∀ (args : Array Value) (w : World), (callFunc 2 args).run Try.prog w = .ok (.enter 2 args) w := fun _ _ => by kernel_rfl
theorem en_3 : ∀ (args : Array Value) (w : World), (callFunc 3 args).run Try.prog w = .ok (.enter 3 args) w := fun _ _ => by kernel_rfl
theorem en_4 : ∀ (args : Array Value) (w : World), (callFunc 4 args).run Try.prog w = .ok (.enter 4 args) w := fun _ _ => by kernel_rfl
theorem en_5 : ∀ (args : Array Value) (w : World), (callFunc 5 args).run Try.prog w = .ok (.enter 5 args) w := fun _ _ => by kernel_rfl
theorem en_6 : ∀ (args : Array Value) (w : World), (callFunc 6 args).run Try.prog w = .ok (.enter 6 args) w := fun _ _ => by kernel_rfl
theorem en_7 : ∀ (args : Array Value) (w : World), (callFunc 7 args).run Try.prog w = .ok (.enter 7 args) w := fun _ _ => by kernel_rfl
theorem en_8 : ∀ (args : Array Value) (w : World), (callFunc 8 args).run Try.prog w = .ok (.enter 8 args) w := fun _ _ => by kernel_rfl
theorem en_9 : ∀ (args : Array Value) (w : World), (callFunc 9 args).run Try.prog w = .ok (.enter 9 args) w := fun _ _ => by kernel_rfl
theorem en_10 : ∀ (args : Array Value) (w : World), (callFunc 10 args).run Try.prog w = .ok (.enter 10 args) w := fun _ _ => by kernel_rfl
theorem en_11 : ∀ (args : Array Value) (w : World), (callFunc 11 args).run Try.prog w = .ok (.enter 11 args) w := fun _ _ => by kernel_rfl
theorem en_12 : ∀ (args : Array Value) (w : World), (callFunc 12 args).run Try.prog w = .ok (.enter 12 args) w := fun _ _ => by kernel_rfl
theorem en_13 : ∀ (args : Array Value) (w : World), (callFunc 13 args).run Try.prog w = .ok (.enter 13 args) w := fun _ _ => by kernel_rfl
theorem en_14 : ∀ (args : Array Value) (w : World), (callFunc 14 args).run Try.prog w = .ok (.enter 14 args) w := fun _ _ => by kernel_rfl
theorem en_15 : ∀ (args : Array Value) (w : World), (callFunc 15 args).run Try.prog w = .ok (.enter 15 args) w := fun _ _ => by kernel_rfl
theorem en_16 : ∀ (args : Array Value) (w : World), (callFunc 16 args).run Try.prog w = .ok (.enter 16 args) w := fun _ _ => by kernel_rfl
theorem en_17 : ∀ (args : Array Value) (w : World), (callFunc 17 args).run Try.prog w = .ok (.enter 17 args) w := fun _ _ => by kernel_rfl
theorem en_18 : ∀ (args : Array Value) (w : World), (callFunc 18 args).run Try.prog w = .ok (.enter 18 args) w := fun _ _ => by kernel_rfl
theorem en_19 : ∀ (args : Array Value) (w : World), (callFunc 19 args).run Try.prog w = .ok (.enter 19 args) w := fun _ _ => by kernel_rfl
theorem en_20 : ∀ (args : Array Value) (w : World), (callFunc 20 args).run Try.prog w = .ok (.enter 20 args) w := fun _ _ => by kernel_rfl
theorem en_21 : ∀ (args : Array Value) (w : World), (callFunc 21 args).run Try.prog w = .ok (.enter 21 args) w := fun _ _ => by kernel_rfl
theorem en_22 : ∀ (args : Array Value) (w : World), (callFunc 22 args).run Try.prog w = .ok (.enter 22 args) w := fun _ _ => by kernel_rfl
theorem en_23 : ∀ (args : Array Value) (w : World), (callFunc 23 args).run Try.prog w = .ok (.enter 23 args) w := fun _ _ => by kernel_rfl
theorem en_24 : ∀ (args : Array Value) (w : World), (callFunc 24 args).run Try.prog w = .ok (.enter 24 args) w := fun _ _ => by kernel_rfl
theorem en_25 : ∀ (args : Array Value) (w : World), (callFunc 25 args).run Try.prog w = .ok (.enter 25 args) w := fun _ _ => by kernel_rfl
theorem en_26 : ∀ (args : Array Value) (w : World), (callFunc 26 args).run Try.prog w = .ok (.enter 26 args) w := fun _ _ => by kernel_rfl
theorem en_27 : ∀ (args : Array Value) (w : World), (callFunc 27 args).run Try.prog w = .ok (.enter 27 args) w := fun _ _ => by kernel_rfl
theorem en_28 : ∀ (args : Array Value) (w : World), (callFunc 28 args).run Try.prog w = .ok (.enter 28 args) w := fun _ _ => by kernel_rfl
theorem en_29 : ∀ (args : Array Value) (w : World), (callFunc 29 args).run Try.prog w = .ok (.enter 29 args) w := fun _ _ => by kernel_rfl
theorem en_30 : ∀ (args : Array Value) (w : World), (callFunc 30 args).run Try.prog w = .ok (.enter 30 args) w := fun _ _ => by kernel_rfl
theorem en_31 : ∀ (args : Array Value) (w : World), (callFunc 31 args).run Try.prog w = .ok (.enter 31 args) w := fun _ _ => by kernel_rfl
theorem en_32 : ∀ (args : Array Value) (w : World), (callFunc 32 args).run Try.prog w = .ok (.enter 32 args) w := fun _ _ => by kernel_rfl
theorem en_33 : ∀ (args : Array Value) (w : World), (callFunc 33 args).run Try.prog w = .ok (.enter 33 args) w := fun _ _ => by kernel_rfl
theorem en_34 : ∀ (args : Array Value) (w : World), (callFunc 34 args).run Try.prog w = .ok (.enter 34 args) w := fun _ _ => by kernel_rfl
theorem en_35 : ∀ (args : Array Value) (w : World), (callFunc 35 args).run Try.prog w = .ok (.enter 35 args) w := fun _ _ => by kernel_rfl
theorem en_36 : ∀ (args : Array Value) (w : World), (callFunc 36 args).run Try.prog w = .ok (.enter 36 args) w := fun _ _ => by kernel_rfl
theorem en_37 : ∀ (args : Array Value) (w : World), (callFunc 37 args).run Try.prog w = .ok (.enter 37 args) w := fun _ _ => by kernel_rfl
theorem en_38 : ∀ (args : Array Value) (w : World), (callFunc 38 args).run Try.prog w = .ok (.enter 38 args) w := fun _ _ => by kernel_rfl
theorem en_39 : ∀ (args : Array Value) (w : World), (callFunc 39 args).run Try.prog w = .ok (.enter 39 args) w := fun _ _ => by kernel_rfl
theorem en_40 : ∀ (args : Array Value) (w : World), (callFunc 40 args).run Try.prog w = .ok (.enter 40 args) w := fun _ _ => by kernel_rfl
theorem en_41 : ∀ (args : Array Value) (w : World), (callFunc 41 args).run Try.prog w = .ok (.enter 41 args) w := fun _ _ => by kernel_rfl
theorem en_42 : ∀ (args : Array Value) (w : World), (callFunc 42 args).run Try.prog w = .ok (.enter 42 args) w := fun _ _ => by kernel_rfl
theorem en_43 : ∀ (args : Array Value) (w : World), (callFunc 43 args).run Try.prog w = .ok (.enter 43 args) w := fun _ _ => by kernel_rfl
theorem en_44 : ∀ (args : Array Value) (w : World), (callFunc 44 args).run Try.prog w = .ok (.enter 44 args) w := fun _ _ => by kernel_rfl
theorem en_45 : ∀ (args : Array Value) (w : World), (callFunc 45 args).run Try.prog w = .ok (.enter 45 args) w := fun _ _ => by kernel_rfl
theorem en_46 : ∀ (args : Array Value) (w : World), (callFunc 46 args).run Try.prog w = .ok (.enter 46 args) w := fun _ _ => by kernel_rfl
theorem en_47 : ∀ (args : Array Value) (w : World), (callFunc 47 args).run Try.prog w = .ok (.enter 47 args) w := fun _ _ => by kernel_rfl
theorem en_48 : ∀ (args : Array Value) (w : World), (callFunc 48 args).run Try.prog w = .ok (.enter 48 args) w := fun _ _ => by kernel_rfl
theorem en_49 : ∀ (args : Array Value) (w : World), (callFunc 49 args).run Try.prog w = .ok (.enter 49 args) w := fun _ _ => by kernel_rfl
theorem en_50 : ∀ (args : Array Value) (w : World), (callFunc 50 args).run Try.prog w = .ok (.enter 50 args) w := fun _ _ => by kernel_rfl
theorem en_51 : ∀ (args : Array Value) (w : World), (callFunc 51 args).run Try.prog w = .ok (.enter 51 args) w := fun _ _ => by kernel_rfl
theorem en_52 : ∀ (args : Array Value) (w : World), (callFunc 52 args).run Try.prog w = .ok (.enter 52 args) w := fun _ _ => by kernel_rfl
theorem en_53 : ∀ (args : Array Value) (w : World), (callFunc 53 args).run Try.prog w = .ok (.enter 53 args) w := fun _ _ => by kernel_rfl
theorem en_54 : ∀ (args : Array Value) (w : World), (callFunc 54 args).run Try.prog w = .ok (.enter 54 args) w := fun _ _ => by kernel_rfl
theorem en_55 : ∀ (args : Array Value) (w : World), (callFunc 55 args).run Try.prog w = .ok (.enter 55 args) w := fun _ _ => by kernel_rfl
theorem en_56 : ∀ (args : Array Value) (w : World), (callFunc 56 args).run Try.prog w = .ok (.enter 56 args) w := fun _ _ => by kernel_rfl
theorem en_57 : ∀ (args : Array Value) (w : World), (callFunc 57 args).run Try.prog w = .ok (.enter 57 args) w := fun _ _ => by kernel_rfl
theorem en_58 : ∀ (args : Array Value) (w : World), (callFunc 58 args).run Try.prog w = .ok (.enter 58 args) w := fun _ _ => by kernel_rfl
theorem en_59 : ∀ (args : Array Value) (w : World), (callFunc 59 args).run Try.prog w = .ok (.enter 59 args) w := fun _ _ => by kernel_rfl
theorem en_60 : ∀ (args : Array Value) (w : World), (callFunc 60 args).run Try.prog w = .ok (.enter 60 args) w := fun _ _ => by kernel_rfl
theorem en_61 : ∀ (args : Array Value) (w : World), (callFunc 61 args).run Try.prog w = .ok (.enter 61 args) w := fun _ _ => by kernel_rfl
theorem en_62 : ∀ (args : Array Value) (w : World), (callFunc 62 args).run Try.prog w = .ok (.enter 62 args) w := fun _ _ => by kernel_rfl
theorem en_63 : ∀ (args : Array Value) (w : World), (callFunc 63 args).run Try.prog w = .ok (.enter 63 args) w := fun _ _ => by kernel_rfl
theorem en_64 : ∀ (args : Array Value) (w : World), (callFunc 64 args).run Try.prog w = .ok (.enter 64 args) w := fun _ _ => by kernel_rfl
theorem en_65 : ∀ (args : Array Value) (w : World), (callFunc 65 args).run Try.prog w = .ok (.enter 65 args) w := fun _ _ => by kernel_rfl
theorem en_66 : ∀ (args : Array Value) (w : World), (callFunc 66 args).run Try.prog w = .ok (.enter 66 args) w := fun _ _ => by kernel_rfl
theorem en_67 : ∀ (args : Array Value) (w : World), (callFunc 67 args).run Try.prog w = .ok (.enter 67 args) w := fun _ _ => by kernel_rfl
theorem en_68 : ∀ (args : Array Value) (w : World), (callFunc 68 args).run Try.prog w = .ok (.enter 68 args) w := fun _ _ => by kernel_rfl
theorem en_69 : ∀ (args : Array Value) (w : World), (callFunc 69 args).run Try.prog w = .ok (.enter 69 args) w := fun _ _ => by kernel_rfl
theorem en_70 : ∀ (args : Array Value) (w : World), (callFunc 70 args).run Try.prog w = .ok (.enter 70 args) w := fun _ _ => by kernel_rfl
theorem en_71 : ∀ (args : Array Value) (w : World), (callFunc 71 args).run Try.prog w = .ok (.enter 71 args) w := fun _ _ => by kernel_rfl
theorem en_72 : ∀ (args : Array Value) (w : World), (callFunc 72 args).run Try.prog w = .ok (.enter 72 args) w := fun _ _ => by kernel_rfl
theorem en_73 : ∀ (args : Array Value) (w : World), (callFunc 73 args).run Try.prog w = .ok (.enter 73 args) w := fun _ _ => by kernel_rfl
theorem en_74 : ∀ (args : Array Value) (w : World), (callFunc 74 args).run Try.prog w = .ok (.enter 74 args) w := fun _ _ => by kernel_rfl
end Go.Proofs.Ytjhgihgggofocaa
