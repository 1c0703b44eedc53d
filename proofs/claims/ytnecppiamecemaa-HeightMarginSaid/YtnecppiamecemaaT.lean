/- Closed facts on this translation: sizes and fields of types, which functions are entered. Written by program. -/
import Derived.Test.YtnecppiamecemaaLG
import Derived.Test.YtnecppiamecemaaProg
import Derived.KernelRfl
namespace Go.Proofs.Ytnecppiamecemaa

theorem sz_2 : sizeP Try.prog 2 = some 1 := by kernel_rfl
theorem inf_2 : (Try.prog.info? 2).map (fun i => (i.zero, i.size, i.bytes)) = some (some (.int .i64 0), 1, 8) := by kernel_rfl
theorem sz_3 : sizeP Try.prog 3 = some 1 := by kernel_rfl
theorem inf_3 : (Try.prog.info? 3).map (fun i => (i.zero, i.size, i.bytes)) = some (some (.int .i64 0), 1, 8) := by kernel_rfl
theorem sz_4 : sizeP Try.prog 4 = some 1 := by kernel_rfl
theorem inf_4 : (Try.prog.info? 4).map (fun i => (i.zero, i.size, i.bytes)) = some (some (.bool false), 1, 1) := by kernel_rfl
theorem sz_5 : sizeP Try.prog 5 = some 1 := by kernel_rfl
theorem inf_5 : (Try.prog.info? 5).map (fun i => (i.zero, i.size, i.bytes)) = some (some (.int .u8 0), 1, 1) := by kernel_rfl
theorem sz_6 : sizeP Try.prog 6 = some 1 := by kernel_rfl
theorem inf_6 : (Try.prog.info? 6).map (fun i => (i.zero, i.size, i.bytes)) = some (some (.int .u8 0), 1, 1) := by kernel_rfl
theorem sz_7 : sizeP Try.prog 7 = some 4 := by kernel_rfl
theorem inf_7 : (Try.prog.info? 7).map (fun i => (i.zero, i.size, i.bytes)) = some (some (.agg #[.int .i64 0, .int .i64 0, .bool false, .int .u8 0]), 4, 24) := by kernel_rfl
theorem fld_7_0 : fldOff Try.prog 7 0 = some 0 := by kernel_rfl
theorem fld_7_1 : fldOff Try.prog 7 1 = some 1 := by kernel_rfl
theorem fld_7_2 : fldOff Try.prog 7 2 = some 2 := by kernel_rfl
theorem fld_7_3 : fldOff Try.prog 7 3 = some 3 := by kernel_rfl
theorem sz_8 : sizeP Try.prog 8 = some 4 := by kernel_rfl
theorem inf_8 : (Try.prog.info? 8).map (fun i => (i.zero, i.size, i.bytes)) = some (some (.agg #[.int .i64 0, .int .i64 0, .bool false, .int .u8 0]), 4, 24) := by kernel_rfl
theorem fld_8_0 : fldOff Try.prog 8 0 = some 0 := by kernel_rfl
theorem fld_8_1 : fldOff Try.prog 8 1 = some 1 := by kernel_rfl
theorem fld_8_2 : fldOff Try.prog 8 2 = some 2 := by kernel_rfl
theorem fld_8_3 : fldOff Try.prog 8 3 = some 3 := by kernel_rfl
theorem sz_9 : sizeP Try.prog 9 = some 1 := by kernel_rfl
theorem inf_9 : (Try.prog.info? 9).map (fun i => (i.zero, i.size, i.bytes)) = some (some (.string ⟨#[]⟩), 1, 16) := by kernel_rfl
theorem sz_10 : sizeP Try.prog 10 = some 1 := by kernel_rfl
theorem inf_10 : (Try.prog.info? 10).map (fun i => (i.zero, i.size, i.bytes)) = some (some (.string ⟨#[]⟩), 1, 16) := by kernel_rfl
theorem sz_11 : sizeP Try.prog 11 = some 1 := by kernel_rfl
theorem inf_11 : (Try.prog.info? 11).map (fun i => (i.zero, i.size, i.bytes)) = some (some (.string ⟨#[]⟩), 1, 16) := by kernel_rfl
theorem sz_12 : sizeP Try.prog 12 = some 1 := by kernel_rfl
theorem inf_12 : (Try.prog.info? 12).map (fun i => (i.zero, i.size, i.bytes)) = some (some (.int .u64 0), 1, 8) := by kernel_rfl
theorem sz_13 : sizeP Try.prog 13 = some 2 := by kernel_rfl
theorem inf_13 : (Try.prog.info? 13).map (fun i => (i.zero, i.size, i.bytes)) = some (some (.agg #[.string ⟨#[]⟩, .int .u64 0]), 2, 24) := by kernel_rfl
theorem fld_13_0 : fldOff Try.prog 13 0 = some 0 := by kernel_rfl
theorem fld_13_1 : fldOff Try.prog 13 1 = some 1 := by kernel_rfl
theorem sz_14 : sizeP Try.prog 14 = some 2 := by kernel_rfl
theorem inf_14 : (Try.prog.info? 14).map (fun i => (i.zero, i.size, i.bytes)) = some (some (.agg #[.string ⟨#[]⟩, .int .u64 0]), 2, 24) := by kernel_rfl
theorem fld_14_0 : fldOff Try.prog 14 0 = some 0 := by kernel_rfl
theorem fld_14_1 : fldOff Try.prog 14 1 = some 1 := by kernel_rfl
theorem sz_15 : sizeP Try.prog 15 = some 1 := by kernel_rfl
theorem inf_15 : (Try.prog.info? 15).map (fun i => (i.zero, i.size, i.bytes)) = some (some (.pointer none), 1, 8) := by kernel_rfl
theorem sz_16 : sizeP Try.prog 16 = some 1 := by kernel_rfl
theorem inf_16 : (Try.prog.info? 16).map (fun i => (i.zero, i.size, i.bytes)) = some (some (.pointer none), 1, 8) := by kernel_rfl
theorem sz_17 : sizeP Try.prog 17 = some 1 := by kernel_rfl
theorem inf_17 : (Try.prog.info? 17).map (fun i => (i.zero, i.size, i.bytes)) = some (some (.pointer none), 1, 8) := by kernel_rfl
theorem sz_18 : sizeP Try.prog 18 = some 1 := by kernel_rfl
theorem inf_18 : (Try.prog.info? 18).map (fun i => (i.zero, i.size, i.bytes)) = some (some (.agg #[.pointer none]), 1, 8) := by kernel_rfl
theorem fld_18_0 : fldOff Try.prog 18 0 = some 0 := by kernel_rfl
theorem sz_19 : sizeP Try.prog 19 = some 1 := by kernel_rfl
theorem inf_19 : (Try.prog.info? 19).map (fun i => (i.zero, i.size, i.bytes)) = some (some (.agg #[.pointer none]), 1, 8) := by kernel_rfl
theorem fld_19_0 : fldOff Try.prog 19 0 = some 0 := by kernel_rfl
theorem sz_21 : sizeP Try.prog 21 = some 1 := by kernel_rfl
theorem inf_21 : (Try.prog.info? 21).map (fun i => (i.zero, i.size, i.bytes)) = some (some (.int .i32 0), 1, 4) := by kernel_rfl
theorem sz_22 : sizeP Try.prog 22 = some 6 := by kernel_rfl
theorem inf_22 : (Try.prog.info? 22).map (fun i => (i.zero, i.size, i.bytes)) = some (some (.agg #[.int .i64 0, .int .i64 0, .int .i64 0, .int .i64 0, .int .i64 0, .int .i64 0]), 6, 48) := by kernel_rfl
theorem fld_22_0 : fldOff Try.prog 22 0 = some 0 := by kernel_rfl
theorem fld_22_1 : fldOff Try.prog 22 1 = some 1 := by kernel_rfl
theorem fld_22_2 : fldOff Try.prog 22 2 = some 2 := by kernel_rfl
theorem fld_22_3 : fldOff Try.prog 22 3 = some 3 := by kernel_rfl
theorem fld_22_4 : fldOff Try.prog 22 4 = some 4 := by kernel_rfl
theorem fld_22_5 : fldOff Try.prog 22 5 = some 5 := by kernel_rfl
theorem sz_23 : sizeP Try.prog 23 = some 6 := by kernel_rfl
theorem inf_23 : (Try.prog.info? 23).map (fun i => (i.zero, i.size, i.bytes)) = some (some (.agg #[.int .i64 0, .int .i64 0, .int .i64 0, .int .i64 0, .int .i64 0, .int .i64 0]), 6, 48) := by kernel_rfl
theorem fld_23_0 : fldOff Try.prog 23 0 = some 0 := by kernel_rfl
theorem fld_23_1 : fldOff Try.prog 23 1 = some 1 := by kernel_rfl
theorem fld_23_2 : fldOff Try.prog 23 2 = some 2 := by kernel_rfl
theorem fld_23_3 : fldOff Try.prog 23 3 = some 3 := by kernel_rfl
theorem fld_23_4 : fldOff Try.prog 23 4 = some 4 := by kernel_rfl
theorem fld_23_5 : fldOff Try.prog 23 5 = some 5 := by kernel_rfl
theorem sz_24 : sizeP Try.prog 24 = some 1 := by kernel_rfl
theorem inf_24 : (Try.prog.info? 24).map (fun i => (i.zero, i.size, i.bytes)) = some (some (.slice none 0 0), 1, 24) := by kernel_rfl
theorem sz_26 : sizeP Try.prog 26 = some 1 := by kernel_rfl
theorem inf_26 : (Try.prog.info? 26).map (fun i => (i.zero, i.size, i.bytes)) = some (some (.int .i64 0), 1, 8) := by kernel_rfl
theorem sz_31 : sizeP Try.prog 31 = some 6 := by kernel_rfl
theorem inf_31 : (Try.prog.info? 31).map (fun i => (i.zero, i.size, i.bytes)) = some (some (.agg #[.int .i64 0, .int .i64 0, .int .i64 0, .int .i64 0, .int .i64 0, .int .i64 0]), 6, 48) := by kernel_rfl
theorem fld_31_0 : fldOff Try.prog 31 0 = some 0 := by kernel_rfl
theorem fld_31_1 : fldOff Try.prog 31 1 = some 1 := by kernel_rfl
theorem fld_31_2 : fldOff Try.prog 31 2 = some 2 := by kernel_rfl
theorem fld_31_3 : fldOff Try.prog 31 3 = some 3 := by kernel_rfl
theorem fld_31_4 : fldOff Try.prog 31 4 = some 4 := by kernel_rfl
theorem fld_31_5 : fldOff Try.prog 31 5 = some 5 := by kernel_rfl
theorem sz_34 : sizeP Try.prog 34 = some 1 := by kernel_rfl
theorem inf_34 : (Try.prog.info? 34).map (fun i => (i.zero, i.size, i.bytes)) = some (some (.slice none 0 0), 1, 24) := by kernel_rfl
theorem sz_46 : sizeP Try.prog 46 = some 3 := by kernel_rfl
theorem inf_46 : (Try.prog.info? 46).map (fun i => (i.zero, i.size, i.bytes)) = some (some (.agg #[.int .i64 0, .int .i64 0, .int .i64 0]), 3, 24) := by kernel_rfl
theorem fld_46_0 : fldOff Try.prog 46 0 = some 0 := by kernel_rfl
theorem fld_46_1 : fldOff Try.prog 46 1 = some 1 := by kernel_rfl
theorem fld_46_2 : fldOff Try.prog 46 2 = some 2 := by kernel_rfl
theorem sz_47 : sizeP Try.prog 47 = some 3 := by kernel_rfl
theorem inf_47 : (Try.prog.info? 47).map (fun i => (i.zero, i.size, i.bytes)) = some (some (.agg #[.int .i64 0, .int .i64 0, .int .i64 0]), 3, 24) := by kernel_rfl
theorem fld_47_0 : fldOff Try.prog 47 0 = some 0 := by kernel_rfl
theorem fld_47_1 : fldOff Try.prog 47 1 = some 1 := by kernel_rfl
theorem fld_47_2 : fldOff Try.prog 47 2 = some 2 := by kernel_rfl
theorem sz_48 : sizeP Try.prog 48 = some 3 := by kernel_rfl
theorem inf_48 : (Try.prog.info? 48).map (fun i => (i.zero, i.size, i.bytes)) = some (some (.agg #[.int .i64 0, .int .i64 0, .int .i64 0]), 3, 24) := by kernel_rfl
theorem fld_48_0 : fldOff Try.prog 48 0 = some 0 := by kernel_rfl
theorem fld_48_1 : fldOff Try.prog 48 1 = some 1 := by kernel_rfl
theorem fld_48_2 : fldOff Try.prog 48 2 = some 2 := by kernel_rfl
theorem sz_50 : sizeP Try.prog 50 = some 6 := by kernel_rfl
theorem inf_50 : (Try.prog.info? 50).map (fun i => (i.zero, i.size, i.bytes)) = some (some (.agg #[.int .u8 0, .int .u8 0, .int .u8 0, .int .u8 0, .int .u8 0, .int .u8 0]), 6, 6) := by kernel_rfl
theorem fld_50_0 : fldOff Try.prog 50 0 = some 0 := by kernel_rfl
theorem fld_50_1 : fldOff Try.prog 50 1 = some 1 := by kernel_rfl
theorem fld_50_2 : fldOff Try.prog 50 2 = some 2 := by kernel_rfl
theorem fld_50_3 : fldOff Try.prog 50 3 = some 3 := by kernel_rfl
theorem fld_50_4 : fldOff Try.prog 50 4 = some 4 := by kernel_rfl
theorem fld_50_5 : fldOff Try.prog 50 5 = some 5 := by kernel_rfl
theorem sz_51 : sizeP Try.prog 51 = some 6 := by kernel_rfl
theorem inf_51 : (Try.prog.info? 51).map (fun i => (i.zero, i.size, i.bytes)) = some (some (.agg #[.int .u8 0, .int .u8 0, .int .u8 0, .int .u8 0, .int .u8 0, .int .u8 0]), 6, 6) := by kernel_rfl
theorem fld_51_0 : fldOff Try.prog 51 0 = some 0 := by kernel_rfl
theorem fld_51_1 : fldOff Try.prog 51 1 = some 1 := by kernel_rfl
theorem fld_51_2 : fldOff Try.prog 51 2 = some 2 := by kernel_rfl
theorem fld_51_3 : fldOff Try.prog 51 3 = some 3 := by kernel_rfl
theorem fld_51_4 : fldOff Try.prog 51 4 = some 4 := by kernel_rfl
theorem fld_51_5 : fldOff Try.prog 51 5 = some 5 := by kernel_rfl
theorem sz_52 : sizeP Try.prog 52 = some 1 := by kernel_rfl
theorem inf_52 : (Try.prog.info? 52).map (fun i => (i.zero, i.size, i.bytes)) = some (some (.slice none 0 0), 1, 24) := by kernel_rfl
theorem sz_53 : sizeP Try.prog 53 = some 1 := by kernel_rfl
theorem inf_53 : (Try.prog.info? 53).map (fun i => (i.zero, i.size, i.bytes)) = some (some (.slice none 0 0), 1, 24) := by kernel_rfl
theorem sz_56 : sizeP Try.prog 56 = some 1 := by kernel_rfl
theorem inf_56 : (Try.prog.info? 56).map (fun i => (i.zero, i.size, i.bytes)) = some (some (.int .i8 0), 1, 1) := by kernel_rfl
theorem sz_58 : sizeP Try.prog 58 = some 1 := by kernel_rfl
theorem inf_58 : (Try.prog.info? 58).map (fun i => (i.zero, i.size, i.bytes)) = some (some (.pointer none), 1, 8) := by kernel_rfl
theorem sz_59 : sizeP Try.prog 59 = some 1 := by kernel_rfl
theorem inf_59 : (Try.prog.info? 59).map (fun i => (i.zero, i.size, i.bytes)) = some (some (.slice none 0 0), 1, 24) := by kernel_rfl
theorem sz_64 : sizeP Try.prog 64 = some 1 := by kernel_rfl
theorem inf_64 : (Try.prog.info? 64).map (fun i => (i.zero, i.size, i.bytes)) = some (some (.slice none 0 0), 1, 24) := by kernel_rfl
theorem sz_67 : sizeP Try.prog 67 = some 1 := by kernel_rfl
theorem inf_67 : (Try.prog.info? 67).map (fun i => (i.zero, i.size, i.bytes)) = some (some (.map none), 1, 8) := by kernel_rfl
theorem sz_72 : sizeP Try.prog 72 = some 3 := by kernel_rfl
theorem inf_72 : (Try.prog.info? 72).map (fun i => (i.zero, i.size, i.bytes)) = some (some (.agg #[.int .u8 0, .int .u8 0, .int .u8 0]), 3, 3) := by kernel_rfl
theorem sz_73 : sizeP Try.prog 73 = some 9 := by kernel_rfl
theorem inf_73 : (Try.prog.info? 73).map (fun i => (i.zero, i.size, i.bytes)) = some (some (.agg #[.int .u8 0, .int .u8 0, .int .u8 0, .int .u8 0, .int .u8 0, .int .u8 0, .int .u8 0, .int .u8 0, .int .u8 0]), 9, 9) := by kernel_rfl
theorem sz_76 : sizeP Try.prog 76 = some 2 := by kernel_rfl
theorem inf_76 : (Try.prog.info? 76).map (fun i => (i.zero, i.size, i.bytes)) = some (some (.agg #[.int .i64 0, .int .i64 0]), 2, 16) := by kernel_rfl
theorem sz_81 : sizeP Try.prog 81 = some 1 := by kernel_rfl
theorem inf_81 : (Try.prog.info? 81).map (fun i => (i.zero, i.size, i.bytes)) = some (some (.map none), 1, 8) := by kernel_rfl
theorem sz_85 : sizeP Try.prog 85 = some 1 := by kernel_rfl
theorem inf_85 : (Try.prog.info? 85).map (fun i => (i.zero, i.size, i.bytes)) = some (some (.int .u64 0), 1, 8) := by kernel_rfl
theorem sz_86 : sizeP Try.prog 86 = some 1 := by kernel_rfl
theorem inf_86 : (Try.prog.info? 86).map (fun i => (i.zero, i.size, i.bytes)) = some (some (.int .u32 0), 1, 4) := by kernel_rfl
theorem sz_90 : sizeP Try.prog 90 = some 4 := by kernel_rfl
theorem inf_90 : (Try.prog.info? 90).map (fun i => (i.zero, i.size, i.bytes)) = some (some (.agg #[.pointer none, .pointer none, .pointer none, .string ⟨#[]⟩]), 4, 40) := by kernel_rfl
theorem fld_90_0 : fldOff Try.prog 90 0 = some 0 := by kernel_rfl
theorem fld_90_1 : fldOff Try.prog 90 1 = some 1 := by kernel_rfl
theorem fld_90_2 : fldOff Try.prog 90 2 = some 2 := by kernel_rfl
theorem fld_90_3 : fldOff Try.prog 90 3 = some 3 := by kernel_rfl
theorem sz_91 : sizeP Try.prog 91 = some 4 := by kernel_rfl
theorem inf_91 : (Try.prog.info? 91).map (fun i => (i.zero, i.size, i.bytes)) = some (some (.agg #[.pointer none, .pointer none, .pointer none, .string ⟨#[]⟩]), 4, 40) := by kernel_rfl
theorem fld_91_0 : fldOff Try.prog 91 0 = some 0 := by kernel_rfl
theorem fld_91_1 : fldOff Try.prog 91 1 = some 1 := by kernel_rfl
theorem fld_91_2 : fldOff Try.prog 91 2 = some 2 := by kernel_rfl
theorem fld_91_3 : fldOff Try.prog 91 3 = some 3 := by kernel_rfl
theorem sz_92 : sizeP Try.prog 92 = some 0 := by kernel_rfl
theorem inf_92 : (Try.prog.info? 92).map (fun i => (i.zero, i.size, i.bytes)) = some (some (.agg #[]), 0, 0) := by kernel_rfl
theorem sz_93 : sizeP Try.prog 93 = some 0 := by kernel_rfl
theorem inf_93 : (Try.prog.info? 93).map (fun i => (i.zero, i.size, i.bytes)) = some (some (.agg #[]), 0, 0) := by kernel_rfl
theorem sz_94 : sizeP Try.prog 94 = some 0 := by kernel_rfl
theorem inf_94 : (Try.prog.info? 94).map (fun i => (i.zero, i.size, i.bytes)) = some (some (.agg #[]), 0, 0) := by kernel_rfl
theorem sz_96 : sizeP Try.prog 96 = some 1 := by kernel_rfl
theorem inf_96 : (Try.prog.info? 96).map (fun i => (i.zero, i.size, i.bytes)) = some (some (.int .u8 0), 1, 1) := by kernel_rfl
theorem sz_97 : sizeP Try.prog 97 = some 1 := by kernel_rfl
theorem inf_97 : (Try.prog.info? 97).map (fun i => (i.zero, i.size, i.bytes)) = some (some (.int .u8 0), 1, 1) := by kernel_rfl
theorem sz_99 : sizeP Try.prog 99 = some 1 := by kernel_rfl
theorem inf_99 : (Try.prog.info? 99).map (fun i => (i.zero, i.size, i.bytes)) = some (some (.pointer none), 1, 8) := by kernel_rfl
theorem sz_100 : sizeP Try.prog 100 = some 1 := by kernel_rfl
theorem inf_100 : (Try.prog.info? 100).map (fun i => (i.zero, i.size, i.bytes)) = some (some (.int .i32 0), 1, 4) := by kernel_rfl
theorem sz_101 : sizeP Try.prog 101 = some 1 := by kernel_rfl
theorem inf_101 : (Try.prog.info? 101).map (fun i => (i.zero, i.size, i.bytes)) = some (some (.int .i32 0), 1, 4) := by kernel_rfl
theorem sz_102 : sizeP Try.prog 102 = some 11 := by kernel_rfl
theorem inf_102 : (Try.prog.info? 102).map (fun i => (i.zero, i.size, i.bytes)) = some (some (.agg #[.int .u64 0, .int .u64 0, .int .u32 0, .int .u8 0, .int .u8 0, .int .u8 0, .int .u8 0, .nilFunc, .pointer none, .int .i32 0, .int .i32 0]), 11, 48) := by kernel_rfl
theorem fld_102_0 : fldOff Try.prog 102 0 = some 0 := by kernel_rfl
theorem fld_102_1 : fldOff Try.prog 102 1 = some 1 := by kernel_rfl
theorem fld_102_2 : fldOff Try.prog 102 2 = some 2 := by kernel_rfl
theorem fld_102_3 : fldOff Try.prog 102 3 = some 3 := by kernel_rfl
theorem fld_102_4 : fldOff Try.prog 102 4 = some 4 := by kernel_rfl
theorem fld_102_5 : fldOff Try.prog 102 5 = some 5 := by kernel_rfl
theorem fld_102_6 : fldOff Try.prog 102 6 = some 6 := by kernel_rfl
theorem fld_102_7 : fldOff Try.prog 102 7 = some 7 := by kernel_rfl
theorem fld_102_8 : fldOff Try.prog 102 8 = some 8 := by kernel_rfl
theorem fld_102_9 : fldOff Try.prog 102 9 = some 9 := by kernel_rfl
theorem fld_102_10 : fldOff Try.prog 102 10 = some 10 := by kernel_rfl
theorem sz_103 : sizeP Try.prog 103 = some 11 := by kernel_rfl
theorem inf_103 : (Try.prog.info? 103).map (fun i => (i.zero, i.size, i.bytes)) = some (some (.agg #[.int .u64 0, .int .u64 0, .int .u32 0, .int .u8 0, .int .u8 0, .int .u8 0, .int .u8 0, .nilFunc, .pointer none, .int .i32 0, .int .i32 0]), 11, 48) := by kernel_rfl
theorem fld_103_0 : fldOff Try.prog 103 0 = some 0 := by kernel_rfl
theorem fld_103_1 : fldOff Try.prog 103 1 = some 1 := by kernel_rfl
theorem fld_103_2 : fldOff Try.prog 103 2 = some 2 := by kernel_rfl
theorem fld_103_3 : fldOff Try.prog 103 3 = some 3 := by kernel_rfl
theorem fld_103_4 : fldOff Try.prog 103 4 = some 4 := by kernel_rfl
theorem fld_103_5 : fldOff Try.prog 103 5 = some 5 := by kernel_rfl
theorem fld_103_6 : fldOff Try.prog 103 6 = some 6 := by kernel_rfl
theorem fld_103_7 : fldOff Try.prog 103 7 = some 7 := by kernel_rfl
theorem fld_103_8 : fldOff Try.prog 103 8 = some 8 := by kernel_rfl
theorem fld_103_9 : fldOff Try.prog 103 9 = some 9 := by kernel_rfl
theorem fld_103_10 : fldOff Try.prog 103 10 = some 10 := by kernel_rfl
theorem sz_104 : sizeP Try.prog 104 = some 1 := by kernel_rfl
theorem inf_104 : (Try.prog.info? 104).map (fun i => (i.zero, i.size, i.bytes)) = some (some (.pointer none), 1, 8) := by kernel_rfl
theorem mixed : Try.prog.follows .mixedOrders = true := by kernel_rfl
theorem en_2 : ∀ (args : Array Value) (w : World), (callFunc 2 args).run Try.prog w = .ok (.enter 2 args) w := fun _ _ => by kernel_rfl
theorem en_3 : ∀ (args : Array Value) (w : World), (callFunc 3 args).run Try.prog w = .ok (.enter 3 args) w := fun _ _ => by kernel_rfl
theorem en_4 : ∀ (args : Array Value) (w : World), (callFunc 4 args).run Try.prog w = .ok (.enter 4 args) w := fun _ _ => by kernel_rfl
theorem en_5 : ∀ (args : Array Value) (w : World), (callFunc 5 args).run Try.prog w = .ok (.enter 5 args) w := fun _ _ => by kernel_rfl
theorem en_6 : ∀ (args : Array Value) (w : World), (callFunc 6 args).run Try.prog w = .ok (.enter 6 args) w := fun _ _ => by kernel_rfl
theorem en_7 : ∀ (args : Array Value) (w : World), (callFunc 7 args).run Try.prog w = .ok (.enter 7 args) w := fun _ _ => by kernel_rfl
theorem en_8 : ∀ (args : Array Value) (w : World), (callFunc 8 args).run Try.prog w = .ok (.enter 8 args) w := fun _ _ => by kernel_rfl
theorem en_9 : ∀ (args : Array Value) (w : World), (callFunc 9 args).run Try.prog w = .ok (.enter 9 args) w := fun _ _ => by kernel_rfl
theorem en_10 : ∀ (args : Array Value) (w : World), (callFunc 10 args).run Try.prog w = .ok (.enter 10 args) w := fun _ _ => by kernel_rfl
theorem en_11 : ∀ (args : Array Value) (w : World), (callFunc 11 args).run Try.prog w = .ok (.enter 11 args) w := fun _ _ => by kernel_rfl
theorem en_12 : ∀ (args : Array Value) (w : World), (callFunc 12 args).run Try.prog w = .ok (.enter 12 args) w := fun _ _ => by kernel_rfl
theorem en_13 : ∀ (args : Array Value) (w : World), (callFunc 13 args).run Try.prog w = .ok (.enter 13 args) w := fun _ _ => by kernel_rfl
theorem en_14 : ∀ (args : Array Value) (w : World), (callFunc 14 args).run Try.prog w = .ok (.enter 14 args) w := fun _ _ => by kernel_rfl
theorem en_15 : ∀ (args : Array Value) (w : World), (callFunc 15 args).run Try.prog w = .ok (.enter 15 args) w := fun _ _ => by kernel_rfl
theorem en_16 : ∀ (args : Array Value) (w : World), (callFunc 16 args).run Try.prog w = .ok (.enter 16 args) w := fun _ _ => by kernel_rfl
theorem en_17 : ∀ (args : Array Value) (w : World), (callFunc 17 args).run Try.prog w = .ok (.enter 17 args) w := fun _ _ => by kernel_rfl
theorem en_18 : ∀ (args : Array Value) (w : World), (callFunc 18 args).run Try.prog w = .ok (.enter 18 args) w := fun _ _ => by kernel_rfl
theorem en_19 : ∀ (args : Array Value) (w : World), (callFunc 19 args).run Try.prog w = .ok (.enter 19 args) w := fun _ _ => by kernel_rfl
theorem en_20 : ∀ (args : Array Value) (w : World), (callFunc 20 args).run Try.prog w = .ok (.enter 20 args) w := fun _ _ => by kernel_rfl
theorem en_21 : ∀ (args : Array Value) (w : World), (callFunc 21 args).run Try.prog w = .ok (.enter 21 args) w := fun _ _ => by kernel_rfl
theorem en_22 : ∀ (args : Array Value) (w : World), (callFunc 22 args).run Try.prog w = .ok (.enter 22 args) w := fun _ _ => by kernel_rfl
theorem en_23 : ∀ (args : Array Value) (w : World), (callFunc 23 args).run Try.prog w = .ok (.enter 23 args) w := fun _ _ => by kernel_rfl
theorem en_24 : ∀ (args : Array Value) (w : World), (callFunc 24 args).run Try.prog w = .ok (.enter 24 args) w := fun _ _ => by kernel_rfl
theorem en_25 : ∀ (args : Array Value) (w : World), (callFunc 25 args).run Try.prog w = .ok (.enter 25 args) w := fun _ _ => by kernel_rfl
theorem en_26 : ∀ (args : Array Value) (w : World), (callFunc 26 args).run Try.prog w = .ok (.enter 26 args) w := fun _ _ => by kernel_rfl
theorem en_27 : ∀ (args : Array Value) (w : World), (callFunc 27 args).run Try.prog w = .ok (.enter 27 args) w := fun _ _ => by kernel_rfl
theorem en_28 : ∀ (args : Array Value) (w : World), (callFunc 28 args).run Try.prog w = .ok (.enter 28 args) w := fun _ _ => by kernel_rfl
theorem en_29 : ∀ (args : Array Value) (w : World), (callFunc 29 args).run Try.prog w = .ok (.enter 29 args) w := fun _ _ => by kernel_rfl
theorem en_30 : ∀ (args : Array Value) (w : World), (callFunc 30 args).run Try.prog w = .ok (.enter 30 args) w := fun _ _ => by kernel_rfl
theorem en_31 : ∀ (args : Array Value) (w : World), (callFunc 31 args).run Try.prog w = .ok (.enter 31 args) w := fun _ _ => by kernel_rfl
theorem en_32 : ∀ (args : Array Value) (w : World), (callFunc 32 args).run Try.prog w = .ok (.enter 32 args) w := fun _ _ => by kernel_rfl
theorem en_33 : ∀ (args : Array Value) (w : World), (callFunc 33 args).run Try.prog w = .ok (.enter 33 args) w := fun _ _ => by kernel_rfl
theorem en_35 : ∀ (args : Array Value) (w : World), (callFunc 35 args).run Try.prog w = .ok (.enter 35 args) w := fun _ _ => by kernel_rfl
theorem en_36 : ∀ (args : Array Value) (w : World), (callFunc 36 args).run Try.prog w = .ok (.enter 36 args) w := fun _ _ => by kernel_rfl
theorem en_37 : ∀ (args : Array Value) (w : World), (callFunc 37 args).run Try.prog w = .ok (.enter 37 args) w := fun _ _ => by kernel_rfl
theorem en_38 : ∀ (args : Array Value) (w : World), (callFunc 38 args).run Try.prog w = .ok (.enter 38 args) w := fun _ _ => by kernel_rfl
theorem en_39 : ∀ (args : Array Value) (w : World), (callFunc 39 args).run Try.prog w = .ok (.enter 39 args) w := fun _ _ => by kernel_rfl
theorem en_42 : ∀ (args : Array Value) (w : World), (callFunc 42 args).run Try.prog w = .ok (.enter 42 args) w := fun _ _ => by kernel_rfl
theorem en_43 : ∀ (args : Array Value) (w : World), (callFunc 43 args).run Try.prog w = .ok (.enter 43 args) w := fun _ _ => by kernel_rfl
theorem en_44 : ∀ (args : Array Value) (w : World), (callFunc 44 args).run Try.prog w = .ok (.enter 44 args) w := fun _ _ => by kernel_rfl
theorem xt_40 (s : ByteArray) (c : Int) (w : World) : (callFunc 40 #[.string s, .int .u8 c]).run Try.prog w = .ok (.value (.int .i64 (Lib.indexByte s.data.toList c.toNat.toUInt8))) w := by
  rw [run_callFunc_extern Try.func40 (by kernel_rfl) (by kernel_rfl) (by kernel_rfl) (e := Extern.BytealgIndexByte.indexByte) (by kernel_rfl), Lib.run_indexByteString]; rfl
theorem xt_34 (s : ByteArray) (c : Int) (w : World) : (callFunc 34 #[.string s, .int .u8 c]).run Try.prog w = .ok (.value (.int .i64 ((Lib.countByte s.data.toList c.toNat.toUInt8 : Nat)))) w := by
  rw [run_callFunc_extern Try.func34 (by kernel_rfl) (by kernel_rfl) (by kernel_rfl) (e := Extern.BytealgCount.count) (by kernel_rfl), Lib.run_countString]; rfl
end Go.Proofs.Ytnecppiamecemaa
