/- Closed facts on this translation: sizes and fields of types, which functions are entered. Written by program. -/
import Derived.Test.YtnhkhpnkhkagaaaDoorLG
import Derived.Test.YtnhkhpnkhkagaaaDoorProg
import Derived.KernelRfl
namespace Go.Proofs.YtnhkhpnkhkagaaaDoor

theorem sz_1 : sizeP Tryd.prog 1 = some 1 := by kernel_rfl
theorem inf_1 : (Tryd.prog.info? 1).map (fun i => (i.zero, i.size, i.bytes)) = some (some (.nilFunc), 1, 8) := by kernel_rfl
theorem sz_2 : sizeP Tryd.prog 2 = some 1 := by kernel_rfl
theorem inf_2 : (Tryd.prog.info? 2).map (fun i => (i.zero, i.size, i.bytes)) = some (some (.int .i64 0), 1, 8) := by kernel_rfl
theorem sz_3 : sizeP Tryd.prog 3 = some 1 := by kernel_rfl
theorem inf_3 : (Tryd.prog.info? 3).map (fun i => (i.zero, i.size, i.bytes)) = some (some (.int .i64 0), 1, 8) := by kernel_rfl
theorem sz_4 : sizeP Tryd.prog 4 = some 1 := by kernel_rfl
theorem inf_4 : (Tryd.prog.info? 4).map (fun i => (i.zero, i.size, i.bytes)) = some (some (.bool false), 1, 1) := by kernel_rfl
theorem sz_5 : sizeP Tryd.prog 5 = some 1 := by kernel_rfl
theorem inf_5 : (Tryd.prog.info? 5).map (fun i => (i.zero, i.size, i.bytes)) = some (some (.int .u8 0), 1, 1) := by kernel_rfl
theorem sz_6 : sizeP Tryd.prog 6 = some 1 := by kernel_rfl
theorem inf_6 : (Tryd.prog.info? 6).map (fun i => (i.zero, i.size, i.bytes)) = some (some (.int .u8 0), 1, 1) := by kernel_rfl
theorem sz_7 : sizeP Tryd.prog 7 = some 4 := by kernel_rfl
theorem inf_7 : (Tryd.prog.info? 7).map (fun i => (i.zero, i.size, i.bytes)) = some (some (.agg #[.int .i64 0, .int .i64 0, .bool false, .int .u8 0]), 4, 24) := by kernel_rfl
theorem fld_7_0 : fldOff Tryd.prog 7 0 = some 0 := by kernel_rfl
theorem fld_7_1 : fldOff Tryd.prog 7 1 = some 1 := by kernel_rfl
theorem fld_7_2 : fldOff Tryd.prog 7 2 = some 2 := by kernel_rfl
theorem fld_7_3 : fldOff Tryd.prog 7 3 = some 3 := by kernel_rfl
theorem sz_8 : sizeP Tryd.prog 8 = some 4 := by kernel_rfl
theorem inf_8 : (Tryd.prog.info? 8).map (fun i => (i.zero, i.size, i.bytes)) = some (some (.agg #[.int .i64 0, .int .i64 0, .bool false, .int .u8 0]), 4, 24) := by kernel_rfl
theorem fld_8_0 : fldOff Tryd.prog 8 0 = some 0 := by kernel_rfl
theorem fld_8_1 : fldOff Tryd.prog 8 1 = some 1 := by kernel_rfl
theorem fld_8_2 : fldOff Tryd.prog 8 2 = some 2 := by kernel_rfl
theorem fld_8_3 : fldOff Tryd.prog 8 3 = some 3 := by kernel_rfl
theorem sz_9 : sizeP Tryd.prog 9 = some 1 := by kernel_rfl
theorem inf_9 : (Tryd.prog.info? 9).map (fun i => (i.zero, i.size, i.bytes)) = some (some (.string ⟨#[]⟩), 1, 16) := by kernel_rfl
theorem sz_10 : sizeP Tryd.prog 10 = some 1 := by kernel_rfl
theorem inf_10 : (Tryd.prog.info? 10).map (fun i => (i.zero, i.size, i.bytes)) = some (some (.string ⟨#[]⟩), 1, 16) := by kernel_rfl
theorem sz_11 : sizeP Tryd.prog 11 = some 1 := by kernel_rfl
theorem inf_11 : (Tryd.prog.info? 11).map (fun i => (i.zero, i.size, i.bytes)) = some (some (.string ⟨#[]⟩), 1, 16) := by kernel_rfl
theorem sz_12 : sizeP Tryd.prog 12 = some 1 := by kernel_rfl
theorem inf_12 : (Tryd.prog.info? 12).map (fun i => (i.zero, i.size, i.bytes)) = some (some (.int .u64 0), 1, 8) := by kernel_rfl
theorem sz_13 : sizeP Tryd.prog 13 = some 2 := by kernel_rfl
theorem inf_13 : (Tryd.prog.info? 13).map (fun i => (i.zero, i.size, i.bytes)) = some (some (.agg #[.string ⟨#[]⟩, .int .u64 0]), 2, 24) := by kernel_rfl
theorem fld_13_0 : fldOff Tryd.prog 13 0 = some 0 := by kernel_rfl
theorem fld_13_1 : fldOff Tryd.prog 13 1 = some 1 := by kernel_rfl
theorem sz_14 : sizeP Tryd.prog 14 = some 2 := by kernel_rfl
theorem inf_14 : (Tryd.prog.info? 14).map (fun i => (i.zero, i.size, i.bytes)) = some (some (.agg #[.string ⟨#[]⟩, .int .u64 0]), 2, 24) := by kernel_rfl
theorem fld_14_0 : fldOff Tryd.prog 14 0 = some 0 := by kernel_rfl
theorem fld_14_1 : fldOff Tryd.prog 14 1 = some 1 := by kernel_rfl
theorem sz_15 : sizeP Tryd.prog 15 = some 1 := by kernel_rfl
theorem inf_15 : (Tryd.prog.info? 15).map (fun i => (i.zero, i.size, i.bytes)) = some (some (.pointer none), 1, 8) := by kernel_rfl
theorem sz_16 : sizeP Tryd.prog 16 = some 1 := by kernel_rfl
theorem inf_16 : (Tryd.prog.info? 16).map (fun i => (i.zero, i.size, i.bytes)) = some (some (.pointer none), 1, 8) := by kernel_rfl
theorem sz_17 : sizeP Tryd.prog 17 = some 1 := by kernel_rfl
theorem inf_17 : (Tryd.prog.info? 17).map (fun i => (i.zero, i.size, i.bytes)) = some (some (.pointer none), 1, 8) := by kernel_rfl
theorem sz_18 : sizeP Tryd.prog 18 = some 1 := by kernel_rfl
theorem inf_18 : (Tryd.prog.info? 18).map (fun i => (i.zero, i.size, i.bytes)) = some (some (.agg #[.pointer none]), 1, 8) := by kernel_rfl
theorem fld_18_0 : fldOff Tryd.prog 18 0 = some 0 := by kernel_rfl
theorem sz_19 : sizeP Tryd.prog 19 = some 1 := by kernel_rfl
theorem inf_19 : (Tryd.prog.info? 19).map (fun i => (i.zero, i.size, i.bytes)) = some (some (.agg #[.pointer none]), 1, 8) := by kernel_rfl
theorem fld_19_0 : fldOff Tryd.prog 19 0 = some 0 := by kernel_rfl
theorem sz_21 : sizeP Tryd.prog 21 = some 1 := by kernel_rfl
theorem inf_21 : (Tryd.prog.info? 21).map (fun i => (i.zero, i.size, i.bytes)) = some (some (.int .i32 0), 1, 4) := by kernel_rfl
theorem sz_22 : sizeP Tryd.prog 22 = some 1 := by kernel_rfl
theorem inf_22 : (Tryd.prog.info? 22).map (fun i => (i.zero, i.size, i.bytes)) = some (some (.slice none 0 0), 1, 24) := by kernel_rfl
theorem sz_23 : sizeP Tryd.prog 23 = some 2 := by kernel_rfl
theorem inf_23 : (Tryd.prog.info? 23).map (fun i => (i.zero, i.size, i.bytes)) = some (some (.agg #[.int .u8 0, .slice none 0 0]), 2, 32) := by kernel_rfl
theorem fld_23_0 : fldOff Tryd.prog 23 0 = some 0 := by kernel_rfl
theorem fld_23_1 : fldOff Tryd.prog 23 1 = some 1 := by kernel_rfl
theorem sz_24 : sizeP Tryd.prog 24 = some 2 := by kernel_rfl
theorem inf_24 : (Tryd.prog.info? 24).map (fun i => (i.zero, i.size, i.bytes)) = some (some (.agg #[.int .u8 0, .slice none 0 0]), 2, 32) := by kernel_rfl
theorem fld_24_0 : fldOff Tryd.prog 24 0 = some 0 := by kernel_rfl
theorem fld_24_1 : fldOff Tryd.prog 24 1 = some 1 := by kernel_rfl
theorem sz_25 : sizeP Tryd.prog 25 = some 1 := by kernel_rfl
theorem inf_25 : (Tryd.prog.info? 25).map (fun i => (i.zero, i.size, i.bytes)) = some (some (.nilFunc), 1, 8) := by kernel_rfl
theorem sz_26 : sizeP Tryd.prog 26 = some 1 := by kernel_rfl
theorem inf_26 : (Tryd.prog.info? 26).map (fun i => (i.zero, i.size, i.bytes)) = some (some (.nilFunc), 1, 8) := by kernel_rfl
theorem sz_27 : sizeP Tryd.prog 27 = some 1 := by kernel_rfl
theorem inf_27 : (Tryd.prog.info? 27).map (fun i => (i.zero, i.size, i.bytes)) = some (some (.slice none 0 0), 1, 24) := by kernel_rfl
theorem sz_29 : sizeP Tryd.prog 29 = some 1 := by kernel_rfl
theorem inf_29 : (Tryd.prog.info? 29).map (fun i => (i.zero, i.size, i.bytes)) = some (some (.nilFunc), 1, 8) := by kernel_rfl
theorem sz_30 : sizeP Tryd.prog 30 = some 1 := by kernel_rfl
theorem inf_30 : (Tryd.prog.info? 30).map (fun i => (i.zero, i.size, i.bytes)) = some (some (.slice none 0 0), 1, 24) := by kernel_rfl
theorem sz_31 : sizeP Tryd.prog 31 = some 1 := by kernel_rfl
theorem inf_31 : (Tryd.prog.info? 31).map (fun i => (i.zero, i.size, i.bytes)) = some (some (.int .i64 0), 1, 8) := by kernel_rfl
theorem sz_33 : sizeP Tryd.prog 33 = some 1 := by kernel_rfl
theorem inf_33 : (Tryd.prog.info? 33).map (fun i => (i.zero, i.size, i.bytes)) = some (some (.nilFunc), 1, 8) := by kernel_rfl
theorem sz_34 : sizeP Tryd.prog 34 = some 1 := by kernel_rfl
theorem inf_34 : (Tryd.prog.info? 34).map (fun i => (i.zero, i.size, i.bytes)) = some (some (.nilFunc), 1, 8) := by kernel_rfl
theorem sz_35 : sizeP Tryd.prog 35 = some 4 := by kernel_rfl
theorem inf_35 : (Tryd.prog.info? 35).map (fun i => (i.zero, i.size, i.bytes)) = some (some (.agg #[.bool false, .int .i64 0, .int .i64 0, .int .i64 0]), 4, 32) := by kernel_rfl
theorem fld_35_0 : fldOff Tryd.prog 35 0 = some 0 := by kernel_rfl
theorem fld_35_1 : fldOff Tryd.prog 35 1 = some 1 := by kernel_rfl
theorem fld_35_2 : fldOff Tryd.prog 35 2 = some 2 := by kernel_rfl
theorem fld_35_3 : fldOff Tryd.prog 35 3 = some 3 := by kernel_rfl
theorem sz_36 : sizeP Tryd.prog 36 = some 4 := by kernel_rfl
theorem inf_36 : (Tryd.prog.info? 36).map (fun i => (i.zero, i.size, i.bytes)) = some (some (.agg #[.bool false, .int .i64 0, .int .i64 0, .int .i64 0]), 4, 32) := by kernel_rfl
theorem fld_36_0 : fldOff Tryd.prog 36 0 = some 0 := by kernel_rfl
theorem fld_36_1 : fldOff Tryd.prog 36 1 = some 1 := by kernel_rfl
theorem fld_36_2 : fldOff Tryd.prog 36 2 = some 2 := by kernel_rfl
theorem fld_36_3 : fldOff Tryd.prog 36 3 = some 3 := by kernel_rfl
theorem sz_37 : sizeP Tryd.prog 37 = some 1 := by kernel_rfl
theorem inf_37 : (Tryd.prog.info? 37).map (fun i => (i.zero, i.size, i.bytes)) = some (some (.nilFunc), 1, 8) := by kernel_rfl
theorem sz_38 : sizeP Tryd.prog 38 = some 1 := by kernel_rfl
theorem inf_38 : (Tryd.prog.info? 38).map (fun i => (i.zero, i.size, i.bytes)) = some (some (.nilFunc), 1, 8) := by kernel_rfl
theorem sz_39 : sizeP Tryd.prog 39 = some 1 := by kernel_rfl
theorem inf_39 : (Tryd.prog.info? 39).map (fun i => (i.zero, i.size, i.bytes)) = some (some (.slice none 0 0), 1, 24) := by kernel_rfl
theorem sz_40 : sizeP Tryd.prog 40 = some 1 := by kernel_rfl
theorem inf_40 : (Tryd.prog.info? 40).map (fun i => (i.zero, i.size, i.bytes)) = some (some (.nilFunc), 1, 8) := by kernel_rfl
theorem sz_41 : sizeP Tryd.prog 41 = some 1 := by kernel_rfl
theorem inf_41 : (Tryd.prog.info? 41).map (fun i => (i.zero, i.size, i.bytes)) = some (some (.nilFunc), 1, 8) := by kernel_rfl
theorem sz_43 : sizeP Tryd.prog 43 = some 1 := by kernel_rfl
theorem inf_43 : (Tryd.prog.info? 43).map (fun i => (i.zero, i.size, i.bytes)) = some (some (.nilFunc), 1, 8) := by kernel_rfl
theorem sz_45 : sizeP Tryd.prog 45 = some 1 := by kernel_rfl
theorem inf_45 : (Tryd.prog.info? 45).map (fun i => (i.zero, i.size, i.bytes)) = some (some (.nilFunc), 1, 8) := by kernel_rfl
theorem sz_46 : sizeP Tryd.prog 46 = some 1 := by kernel_rfl
theorem inf_46 : (Tryd.prog.info? 46).map (fun i => (i.zero, i.size, i.bytes)) = some (some (.nilFunc), 1, 8) := by kernel_rfl
theorem sz_47 : sizeP Tryd.prog 47 = some 1 := by kernel_rfl
theorem inf_47 : (Tryd.prog.info? 47).map (fun i => (i.zero, i.size, i.bytes)) = some (some (.nilFunc), 1, 8) := by kernel_rfl
theorem sz_48 : sizeP Tryd.prog 48 = some 1 := by kernel_rfl
theorem inf_48 : (Tryd.prog.info? 48).map (fun i => (i.zero, i.size, i.bytes)) = some (some (.nilFunc), 1, 8) := by kernel_rfl
theorem sz_49 : sizeP Tryd.prog 49 = some 1 := by kernel_rfl
theorem inf_49 : (Tryd.prog.info? 49).map (fun i => (i.zero, i.size, i.bytes)) = some (some (.nilFunc), 1, 8) := by kernel_rfl
theorem sz_50 : sizeP Tryd.prog 50 = some 1 := by kernel_rfl
theorem inf_50 : (Tryd.prog.info? 50).map (fun i => (i.zero, i.size, i.bytes)) = some (some (.slice none 0 0), 1, 24) := by kernel_rfl
theorem sz_52 : sizeP Tryd.prog 52 = some 1 := by kernel_rfl
theorem inf_52 : (Tryd.prog.info? 52).map (fun i => (i.zero, i.size, i.bytes)) = some (some (.nilFunc), 1, 8) := by kernel_rfl
theorem sz_53 : sizeP Tryd.prog 53 = some 1 := by kernel_rfl
theorem inf_53 : (Tryd.prog.info? 53).map (fun i => (i.zero, i.size, i.bytes)) = some (some (.nilFunc), 1, 8) := by kernel_rfl
theorem sz_54 : sizeP Tryd.prog 54 = some 1 := by kernel_rfl
theorem inf_54 : (Tryd.prog.info? 54).map (fun i => (i.zero, i.size, i.bytes)) = some (some (.nilFunc), 1, 8) := by kernel_rfl
theorem sz_55 : sizeP Tryd.prog 55 = some 1 := by kernel_rfl
theorem inf_55 : (Tryd.prog.info? 55).map (fun i => (i.zero, i.size, i.bytes)) = some (some (.nilFunc), 1, 8) := by kernel_rfl
theorem sz_56 : sizeP Tryd.prog 56 = some 1 := by kernel_rfl
theorem inf_56 : (Tryd.prog.info? 56).map (fun i => (i.zero, i.size, i.bytes)) = some (some (.nilFunc), 1, 8) := by kernel_rfl
theorem sz_57 : sizeP Tryd.prog 57 = some 1 := by kernel_rfl
theorem inf_57 : (Tryd.prog.info? 57).map (fun i => (i.zero, i.size, i.bytes)) = some (some (.nilFunc), 1, 8) := by kernel_rfl
theorem sz_58 : sizeP Tryd.prog 58 = some 1 := by kernel_rfl
theorem inf_58 : (Tryd.prog.info? 58).map (fun i => (i.zero, i.size, i.bytes)) = some (some (.nilFunc), 1, 8) := by kernel_rfl
theorem sz_59 : sizeP Tryd.prog 59 = some 1 := by kernel_rfl
theorem inf_59 : (Tryd.prog.info? 59).map (fun i => (i.zero, i.size, i.bytes)) = some (some (.nilFunc), 1, 8) := by kernel_rfl
theorem sz_60 : sizeP Tryd.prog 60 = some 1 := by kernel_rfl
theorem inf_60 : (Tryd.prog.info? 60).map (fun i => (i.zero, i.size, i.bytes)) = some (some (.nilFunc), 1, 8) := by kernel_rfl
theorem sz_61 : sizeP Tryd.prog 61 = some 4 := by kernel_rfl
theorem inf_61 : (Tryd.prog.info? 61).map (fun i => (i.zero, i.size, i.bytes)) = some (some (.agg #[.bool false, .int .i64 0, .int .i64 0, .int .i64 0]), 4, 32) := by kernel_rfl
theorem fld_61_0 : fldOff Tryd.prog 61 0 = some 0 := by kernel_rfl
theorem fld_61_1 : fldOff Tryd.prog 61 1 = some 1 := by kernel_rfl
theorem fld_61_2 : fldOff Tryd.prog 61 2 = some 2 := by kernel_rfl
theorem fld_61_3 : fldOff Tryd.prog 61 3 = some 3 := by kernel_rfl
theorem sz_62 : sizeP Tryd.prog 62 = some 1 := by kernel_rfl
theorem inf_62 : (Tryd.prog.info? 62).map (fun i => (i.zero, i.size, i.bytes)) = some (some (.nilFunc), 1, 8) := by kernel_rfl
theorem sz_63 : sizeP Tryd.prog 63 = some 2 := by kernel_rfl
theorem inf_63 : (Tryd.prog.info? 63).map (fun i => (i.zero, i.size, i.bytes)) = some (some (.agg #[.bool false, .bool false]), 2, 2) := by kernel_rfl
theorem sz_64 : sizeP Tryd.prog 64 = some 1 := by kernel_rfl
theorem inf_64 : (Tryd.prog.info? 64).map (fun i => (i.zero, i.size, i.bytes)) = some (some (.nilFunc), 1, 8) := by kernel_rfl
theorem sz_65 : sizeP Tryd.prog 65 = some 1 := by kernel_rfl
theorem inf_65 : (Tryd.prog.info? 65).map (fun i => (i.zero, i.size, i.bytes)) = some (some (.nilFunc), 1, 8) := by kernel_rfl
theorem sz_66 : sizeP Tryd.prog 66 = some 1 := by kernel_rfl
theorem inf_66 : (Tryd.prog.info? 66).map (fun i => (i.zero, i.size, i.bytes)) = some (some (.nilFunc), 1, 8) := by kernel_rfl
theorem sz_67 : sizeP Tryd.prog 67 = some 1 := by kernel_rfl
theorem inf_67 : (Tryd.prog.info? 67).map (fun i => (i.zero, i.size, i.bytes)) = some (some (.nilFunc), 1, 8) := by kernel_rfl
theorem sz_68 : sizeP Tryd.prog 68 = some 1 := by kernel_rfl
theorem inf_68 : (Tryd.prog.info? 68).map (fun i => (i.zero, i.size, i.bytes)) = some (some (.nilFunc), 1, 8) := by kernel_rfl
theorem sz_69 : sizeP Tryd.prog 69 = some 1 := by kernel_rfl
theorem inf_69 : (Tryd.prog.info? 69).map (fun i => (i.zero, i.size, i.bytes)) = some (some (.nilFunc), 1, 8) := by kernel_rfl
theorem sz_70 : sizeP Tryd.prog 70 = some 1 := by kernel_rfl
theorem inf_70 : (Tryd.prog.info? 70).map (fun i => (i.zero, i.size, i.bytes)) = some (some (.nilFunc), 1, 8) := by kernel_rfl
theorem sz_71 : sizeP Tryd.prog 71 = some 1 := by kernel_rfl
theorem inf_71 : (Tryd.prog.info? 71).map (fun i => (i.zero, i.size, i.bytes)) = some (some (.nilFunc), 1, 8) := by kernel_rfl
theorem sz_73 : sizeP Tryd.prog 73 = some 1 := by kernel_rfl
theorem inf_73 : (Tryd.prog.info? 73).map (fun i => (i.zero, i.size, i.bytes)) = some (some (.nilFunc), 1, 8) := by kernel_rfl
theorem sz_75 : sizeP Tryd.prog 75 = some 1 := by kernel_rfl
theorem inf_75 : (Tryd.prog.info? 75).map (fun i => (i.zero, i.size, i.bytes)) = some (some (.nilFunc), 1, 8) := by kernel_rfl
theorem sz_77 : sizeP Tryd.prog 77 = some 1 := by kernel_rfl
theorem inf_77 : (Tryd.prog.info? 77).map (fun i => (i.zero, i.size, i.bytes)) = some (some (.nilFunc), 1, 8) := by kernel_rfl
theorem sz_78 : sizeP Tryd.prog 78 = some 1 := by kernel_rfl
theorem inf_78 : (Tryd.prog.info? 78).map (fun i => (i.zero, i.size, i.bytes)) = some (some (.nilFunc), 1, 8) := by kernel_rfl
theorem sz_79 : sizeP Tryd.prog 79 = some 1 := by kernel_rfl
theorem inf_79 : (Tryd.prog.info? 79).map (fun i => (i.zero, i.size, i.bytes)) = some (some (.nilFunc), 1, 8) := by kernel_rfl
theorem sz_80 : sizeP Tryd.prog 80 = some 1 := by kernel_rfl
theorem inf_80 : (Tryd.prog.info? 80).map (fun i => (i.zero, i.size, i.bytes)) = some (some (.nilFunc), 1, 8) := by kernel_rfl
theorem sz_81 : sizeP Tryd.prog 81 = some 1 := by kernel_rfl
theorem inf_81 : (Tryd.prog.info? 81).map (fun i => (i.zero, i.size, i.bytes)) = some (some (.nilFunc), 1, 8) := by kernel_rfl
theorem sz_82 : sizeP Tryd.prog 82 = some 1 := by kernel_rfl
theorem inf_82 : (Tryd.prog.info? 82).map (fun i => (i.zero, i.size, i.bytes)) = some (some (.nilFunc), 1, 8) := by kernel_rfl
theorem sz_83 : sizeP Tryd.prog 83 = some 1 := by kernel_rfl
theorem inf_83 : (Tryd.prog.info? 83).map (fun i => (i.zero, i.size, i.bytes)) = some (some (.nilFunc), 1, 8) := by kernel_rfl
theorem sz_84 : sizeP Tryd.prog 84 = some 1 := by kernel_rfl
theorem inf_84 : (Tryd.prog.info? 84).map (fun i => (i.zero, i.size, i.bytes)) = some (some (.nilFunc), 1, 8) := by kernel_rfl
theorem sz_85 : sizeP Tryd.prog 85 = some 1 := by kernel_rfl
theorem inf_85 : (Tryd.prog.info? 85).map (fun i => (i.zero, i.size, i.bytes)) = some (some (.map none), 1, 8) := by kernel_rfl
theorem sz_87 : sizeP Tryd.prog 87 = some 1 := by kernel_rfl
theorem inf_87 : (Tryd.prog.info? 87).map (fun i => (i.zero, i.size, i.bytes)) = some (some (.nilFunc), 1, 8) := by kernel_rfl
theorem sz_89 : sizeP Tryd.prog 89 = some 1 := by kernel_rfl
theorem inf_89 : (Tryd.prog.info? 89).map (fun i => (i.zero, i.size, i.bytes)) = some (some (.nilFunc), 1, 8) := by kernel_rfl
theorem sz_90 : sizeP Tryd.prog 90 = some 1 := by kernel_rfl
theorem inf_90 : (Tryd.prog.info? 90).map (fun i => (i.zero, i.size, i.bytes)) = some (some (.pointer none), 1, 8) := by kernel_rfl
theorem sz_91 : sizeP Tryd.prog 91 = some 2 := by kernel_rfl
theorem inf_91 : (Tryd.prog.info? 91).map (fun i => (i.zero, i.size, i.bytes)) = some (some (.agg #[.pointer none, .slice none 0 0]), 2, 32) := by kernel_rfl
theorem fld_91_0 : fldOff Tryd.prog 91 0 = some 0 := by kernel_rfl
theorem fld_91_1 : fldOff Tryd.prog 91 1 = some 1 := by kernel_rfl
theorem sz_92 : sizeP Tryd.prog 92 = some 2 := by kernel_rfl
theorem inf_92 : (Tryd.prog.info? 92).map (fun i => (i.zero, i.size, i.bytes)) = some (some (.agg #[.pointer none, .slice none 0 0]), 2, 32) := by kernel_rfl
theorem fld_92_0 : fldOff Tryd.prog 92 0 = some 0 := by kernel_rfl
theorem fld_92_1 : fldOff Tryd.prog 92 1 = some 1 := by kernel_rfl
theorem sz_93 : sizeP Tryd.prog 93 = some 1 := by kernel_rfl
theorem inf_93 : (Tryd.prog.info? 93).map (fun i => (i.zero, i.size, i.bytes)) = some (some (.nilFunc), 1, 8) := by kernel_rfl
theorem sz_95 : sizeP Tryd.prog 95 = some 1 := by kernel_rfl
theorem inf_95 : (Tryd.prog.info? 95).map (fun i => (i.zero, i.size, i.bytes)) = some (some (.nilIface), 1, 16) := by kernel_rfl
theorem sz_97 : sizeP Tryd.prog 97 = some 1 := by kernel_rfl
theorem inf_97 : (Tryd.prog.info? 97).map (fun i => (i.zero, i.size, i.bytes)) = some (some (.nilFunc), 1, 8) := by kernel_rfl
theorem sz_99 : sizeP Tryd.prog 99 = some 1 := by kernel_rfl
theorem inf_99 : (Tryd.prog.info? 99).map (fun i => (i.zero, i.size, i.bytes)) = some (some (.nilFunc), 1, 8) := by kernel_rfl
theorem sz_100 : sizeP Tryd.prog 100 = some 1 := by kernel_rfl
theorem inf_100 : (Tryd.prog.info? 100).map (fun i => (i.zero, i.size, i.bytes)) = some (some (.nilFunc), 1, 8) := by kernel_rfl
theorem sz_101 : sizeP Tryd.prog 101 = some 1 := by kernel_rfl
theorem inf_101 : (Tryd.prog.info? 101).map (fun i => (i.zero, i.size, i.bytes)) = some (some (.nilFunc), 1, 8) := by kernel_rfl
theorem sz_102 : sizeP Tryd.prog 102 = some 1 := by kernel_rfl
theorem inf_102 : (Tryd.prog.info? 102).map (fun i => (i.zero, i.size, i.bytes)) = some (some (.nilFunc), 1, 8) := by kernel_rfl
theorem sz_103 : sizeP Tryd.prog 103 = some 1 := by kernel_rfl
theorem inf_103 : (Tryd.prog.info? 103).map (fun i => (i.zero, i.size, i.bytes)) = some (some (.nilFunc), 1, 8) := by kernel_rfl
theorem sz_104 : sizeP Tryd.prog 104 = some 10 := by kernel_rfl
theorem inf_104 : (Tryd.prog.info? 104).map (fun i => (i.zero, i.size, i.bytes)) = some (some (.agg #[.int .u8 0, .int .u8 0, .int .u8 0, .int .u8 0, .int .u8 0, .int .u8 0, .int .u8 0, .int .u8 0, .int .u8 0, .int .u8 0]), 10, 10) := by kernel_rfl
theorem sz_105 : sizeP Tryd.prog 105 = some 100 := by kernel_rfl
theorem inf_105 : (Tryd.prog.info? 105).map (fun i => (i.zero, i.size, i.bytes)) = some (some (.agg #[.int .u8 0, .int .u8 0, .int .u8 0, .int .u8 0, .int .u8 0, .int .u8 0, .int .u8 0, .int .u8 0, .int .u8 0, .int .u8 0, .int .u8 0, .int .u8 0, .int .u8 0, .int .u8 0, .int .u8 0, .int .u8 0, .int .u8 0, .int .u8 0, .int .u8 0, .int .u8 0, .int .u8 0, .int .u8 0, .int .u8 0, .int .u8 0, .int .u8 0, .int .u8 0, .int .u8 0, .int .u8 0, .int .u8 0, .int .u8 0, .int .u8 0, .int .u8 0, .int .u8 0, .int .u8 0, .int .u8 0, .int .u8 0, .int .u8 0, .int .u8 0, .int .u8 0, .int .u8 0, .int .u8 0, .int .u8 0, .int .u8 0, .int .u8 0, .int .u8 0, .int .u8 0, .int .u8 0, .int .u8 0, .int .u8 0, .int .u8 0, .int .u8 0, .int .u8 0, .int .u8 0, .int .u8 0, .int .u8 0, .int .u8 0, .int .u8 0, .int .u8 0, .int .u8 0, .int .u8 0, .int .u8 0, .int .u8 0, .int .u8 0, .int .u8 0, .int .u8 0, .int .u8 0, .int .u8 0, .int .u8 0, .int .u8 0, .int .u8 0, .int .u8 0, .int .u8 0, .int .u8 0, .int .u8 0, .int .u8 0, .int .u8 0, .int .u8 0, .int .u8 0, .int .u8 0, .int .u8 0, .int .u8 0, .int .u8 0, .int .u8 0, .int .u8 0, .int .u8 0, .int .u8 0, .int .u8 0, .int .u8 0, .int .u8 0, .int .u8 0, .int .u8 0, .int .u8 0, .int .u8 0, .int .u8 0, .int .u8 0, .int .u8 0, .int .u8 0, .int .u8 0, .int .u8 0, .int .u8 0]), 100, 100) := by kernel_rfl
theorem sz_106 : sizeP Tryd.prog 106 = some 1 := by kernel_rfl
theorem inf_106 : (Tryd.prog.info? 106).map (fun i => (i.zero, i.size, i.bytes)) = some (some (.nilFunc), 1, 8) := by kernel_rfl
theorem sz_107 : sizeP Tryd.prog 107 = some 80 := by kernel_rfl
theorem inf_107 : (Tryd.prog.info? 107).map (fun i => (i.zero, i.size, i.bytes)) = some (some (.agg #[.int .u8 0, .int .u8 0, .int .u8 0, .int .u8 0, .int .u8 0, .int .u8 0, .int .u8 0, .int .u8 0, .int .u8 0, .int .u8 0, .int .u8 0, .int .u8 0, .int .u8 0, .int .u8 0, .int .u8 0, .int .u8 0, .int .u8 0, .int .u8 0, .int .u8 0, .int .u8 0, .int .u8 0, .int .u8 0, .int .u8 0, .int .u8 0, .int .u8 0, .int .u8 0, .int .u8 0, .int .u8 0, .int .u8 0, .int .u8 0, .int .u8 0, .int .u8 0, .int .u8 0, .int .u8 0, .int .u8 0, .int .u8 0, .int .u8 0, .int .u8 0, .int .u8 0, .int .u8 0, .int .u8 0, .int .u8 0, .int .u8 0, .int .u8 0, .int .u8 0, .int .u8 0, .int .u8 0, .int .u8 0, .int .u8 0, .int .u8 0, .int .u8 0, .int .u8 0, .int .u8 0, .int .u8 0, .int .u8 0, .int .u8 0, .int .u8 0, .int .u8 0, .int .u8 0, .int .u8 0, .int .u8 0, .int .u8 0, .int .u8 0, .int .u8 0, .int .u8 0, .int .u8 0, .int .u8 0, .int .u8 0, .int .u8 0, .int .u8 0, .int .u8 0, .int .u8 0, .int .u8 0, .int .u8 0, .int .u8 0, .int .u8 0, .int .u8 0, .int .u8 0, .int .u8 0, .int .u8 0]), 80, 80) := by kernel_rfl
theorem sz_108 : sizeP Tryd.prog 108 = some 1 := by kernel_rfl
theorem inf_108 : (Tryd.prog.info? 108).map (fun i => (i.zero, i.size, i.bytes)) = some (some (.nilFunc), 1, 8) := by kernel_rfl
theorem sz_109 : sizeP Tryd.prog 109 = some 1 := by kernel_rfl
theorem inf_109 : (Tryd.prog.info? 109).map (fun i => (i.zero, i.size, i.bytes)) = some (some (.pointer none), 1, 8) := by kernel_rfl
theorem sz_110 : sizeP Tryd.prog 110 = some 1 := by kernel_rfl
theorem inf_110 : (Tryd.prog.info? 110).map (fun i => (i.zero, i.size, i.bytes)) = some (some (.pointer none), 1, 8) := by kernel_rfl
theorem sz_111 : sizeP Tryd.prog 111 = some 1 := by kernel_rfl
theorem inf_111 : (Tryd.prog.info? 111).map (fun i => (i.zero, i.size, i.bytes)) = some (some (.nilFunc), 1, 8) := by kernel_rfl
theorem sz_112 : sizeP Tryd.prog 112 = some 1 := by kernel_rfl
theorem inf_112 : (Tryd.prog.info? 112).map (fun i => (i.zero, i.size, i.bytes)) = some (some (.nilFunc), 1, 8) := by kernel_rfl
theorem sz_113 : sizeP Tryd.prog 113 = some 1 := by kernel_rfl
theorem inf_113 : (Tryd.prog.info? 113).map (fun i => (i.zero, i.size, i.bytes)) = some (some (.int .u64 0), 1, 8) := by kernel_rfl
theorem sz_114 : sizeP Tryd.prog 114 = some 256 := by kernel_rfl
theorem sz_115 : sizeP Tryd.prog 115 = some 2 := by kernel_rfl
theorem inf_115 : (Tryd.prog.info? 115).map (fun i => (i.zero, i.size, i.bytes)) = some (some (.agg #[.int .u8 0, .int .u8 0]), 2, 2) := by kernel_rfl
theorem fld_115_0 : fldOff Tryd.prog 115 0 = some 0 := by kernel_rfl
theorem fld_115_1 : fldOff Tryd.prog 115 1 = some 1 := by kernel_rfl
theorem sz_116 : sizeP Tryd.prog 116 = some 2 := by kernel_rfl
theorem inf_116 : (Tryd.prog.info? 116).map (fun i => (i.zero, i.size, i.bytes)) = some (some (.agg #[.int .u8 0, .int .u8 0]), 2, 2) := by kernel_rfl
theorem fld_116_0 : fldOff Tryd.prog 116 0 = some 0 := by kernel_rfl
theorem fld_116_1 : fldOff Tryd.prog 116 1 = some 1 := by kernel_rfl
theorem sz_117 : sizeP Tryd.prog 117 = some 32 := by kernel_rfl
theorem inf_117 : (Tryd.prog.info? 117).map (fun i => (i.zero, i.size, i.bytes)) = some (some (.agg #[.int .u8 0, .int .u8 0, .int .u8 0, .int .u8 0, .int .u8 0, .int .u8 0, .int .u8 0, .int .u8 0, .int .u8 0, .int .u8 0, .int .u8 0, .int .u8 0, .int .u8 0, .int .u8 0, .int .u8 0, .int .u8 0, .int .u8 0, .int .u8 0, .int .u8 0, .int .u8 0, .int .u8 0, .int .u8 0, .int .u8 0, .int .u8 0, .int .u8 0, .int .u8 0, .int .u8 0, .int .u8 0, .int .u8 0, .int .u8 0, .int .u8 0, .int .u8 0]), 32, 32) := by kernel_rfl
theorem sz_118 : sizeP Tryd.prog 118 = some 1 := by kernel_rfl
theorem inf_118 : (Tryd.prog.info? 118).map (fun i => (i.zero, i.size, i.bytes)) = some (some (.int .u32 0), 1, 4) := by kernel_rfl
theorem sz_120 : sizeP Tryd.prog 120 = some 1 := by kernel_rfl
theorem inf_120 : (Tryd.prog.info? 120).map (fun i => (i.zero, i.size, i.bytes)) = some (some (.nilFunc), 1, 8) := by kernel_rfl
theorem sz_121 : sizeP Tryd.prog 121 = some 4 := by kernel_rfl
theorem inf_121 : (Tryd.prog.info? 121).map (fun i => (i.zero, i.size, i.bytes)) = some (some (.agg #[.pointer none, .pointer none, .pointer none, .string ⟨#[]⟩]), 4, 40) := by kernel_rfl
theorem fld_121_0 : fldOff Tryd.prog 121 0 = some 0 := by kernel_rfl
theorem fld_121_1 : fldOff Tryd.prog 121 1 = some 1 := by kernel_rfl
theorem fld_121_2 : fldOff Tryd.prog 121 2 = some 2 := by kernel_rfl
theorem fld_121_3 : fldOff Tryd.prog 121 3 = some 3 := by kernel_rfl
theorem sz_122 : sizeP Tryd.prog 122 = some 4 := by kernel_rfl
theorem inf_122 : (Tryd.prog.info? 122).map (fun i => (i.zero, i.size, i.bytes)) = some (some (.agg #[.pointer none, .pointer none, .pointer none, .string ⟨#[]⟩]), 4, 40) := by kernel_rfl
theorem fld_122_0 : fldOff Tryd.prog 122 0 = some 0 := by kernel_rfl
theorem fld_122_1 : fldOff Tryd.prog 122 1 = some 1 := by kernel_rfl
theorem fld_122_2 : fldOff Tryd.prog 122 2 = some 2 := by kernel_rfl
theorem fld_122_3 : fldOff Tryd.prog 122 3 = some 3 := by kernel_rfl
theorem sz_123 : sizeP Tryd.prog 123 = some 0 := by kernel_rfl
theorem inf_123 : (Tryd.prog.info? 123).map (fun i => (i.zero, i.size, i.bytes)) = some (some (.agg #[]), 0, 0) := by kernel_rfl
theorem sz_124 : sizeP Tryd.prog 124 = some 0 := by kernel_rfl
theorem inf_124 : (Tryd.prog.info? 124).map (fun i => (i.zero, i.size, i.bytes)) = some (some (.agg #[]), 0, 0) := by kernel_rfl
theorem sz_125 : sizeP Tryd.prog 125 = some 0 := by kernel_rfl
theorem inf_125 : (Tryd.prog.info? 125).map (fun i => (i.zero, i.size, i.bytes)) = some (some (.agg #[]), 0, 0) := by kernel_rfl
theorem sz_126 : sizeP Tryd.prog 126 = some 1 := by kernel_rfl
theorem inf_126 : (Tryd.prog.info? 126).map (fun i => (i.zero, i.size, i.bytes)) = some (some (.int .u8 0), 1, 1) := by kernel_rfl
theorem sz_127 : sizeP Tryd.prog 127 = some 1 := by kernel_rfl
theorem inf_127 : (Tryd.prog.info? 127).map (fun i => (i.zero, i.size, i.bytes)) = some (some (.int .u8 0), 1, 1) := by kernel_rfl
theorem sz_128 : sizeP Tryd.prog 128 = some 1 := by kernel_rfl
theorem inf_128 : (Tryd.prog.info? 128).map (fun i => (i.zero, i.size, i.bytes)) = some (some (.nilFunc), 1, 8) := by kernel_rfl
theorem sz_129 : sizeP Tryd.prog 129 = some 1 := by kernel_rfl
theorem inf_129 : (Tryd.prog.info? 129).map (fun i => (i.zero, i.size, i.bytes)) = some (some (.int .i32 0), 1, 4) := by kernel_rfl
theorem sz_130 : sizeP Tryd.prog 130 = some 1 := by kernel_rfl
theorem inf_130 : (Tryd.prog.info? 130).map (fun i => (i.zero, i.size, i.bytes)) = some (some (.int .i32 0), 1, 4) := by kernel_rfl
theorem sz_131 : sizeP Tryd.prog 131 = some 11 := by kernel_rfl
theorem inf_131 : (Tryd.prog.info? 131).map (fun i => (i.zero, i.size, i.bytes)) = some (some (.agg #[.int .u64 0, .int .u64 0, .int .u32 0, .int .u8 0, .int .u8 0, .int .u8 0, .int .u8 0, .nilFunc, .pointer none, .int .i32 0, .int .i32 0]), 11, 48) := by kernel_rfl
theorem fld_131_0 : fldOff Tryd.prog 131 0 = some 0 := by kernel_rfl
theorem fld_131_1 : fldOff Tryd.prog 131 1 = some 1 := by kernel_rfl
theorem fld_131_2 : fldOff Tryd.prog 131 2 = some 2 := by kernel_rfl
theorem fld_131_3 : fldOff Tryd.prog 131 3 = some 3 := by kernel_rfl
theorem fld_131_4 : fldOff Tryd.prog 131 4 = some 4 := by kernel_rfl
theorem fld_131_5 : fldOff Tryd.prog 131 5 = some 5 := by kernel_rfl
theorem fld_131_6 : fldOff Tryd.prog 131 6 = some 6 := by kernel_rfl
theorem fld_131_7 : fldOff Tryd.prog 131 7 = some 7 := by kernel_rfl
theorem fld_131_8 : fldOff Tryd.prog 131 8 = some 8 := by kernel_rfl
theorem fld_131_9 : fldOff Tryd.prog 131 9 = some 9 := by kernel_rfl
theorem fld_131_10 : fldOff Tryd.prog 131 10 = some 10 := by kernel_rfl
theorem sz_132 : sizeP Tryd.prog 132 = some 11 := by kernel_rfl
theorem inf_132 : (Tryd.prog.info? 132).map (fun i => (i.zero, i.size, i.bytes)) = some (some (.agg #[.int .u64 0, .int .u64 0, .int .u32 0, .int .u8 0, .int .u8 0, .int .u8 0, .int .u8 0, .nilFunc, .pointer none, .int .i32 0, .int .i32 0]), 11, 48) := by kernel_rfl
theorem fld_132_0 : fldOff Tryd.prog 132 0 = some 0 := by kernel_rfl
theorem fld_132_1 : fldOff Tryd.prog 132 1 = some 1 := by kernel_rfl
theorem fld_132_2 : fldOff Tryd.prog 132 2 = some 2 := by kernel_rfl
theorem fld_132_3 : fldOff Tryd.prog 132 3 = some 3 := by kernel_rfl
theorem fld_132_4 : fldOff Tryd.prog 132 4 = some 4 := by kernel_rfl
theorem fld_132_5 : fldOff Tryd.prog 132 5 = some 5 := by kernel_rfl
theorem fld_132_6 : fldOff Tryd.prog 132 6 = some 6 := by kernel_rfl
theorem fld_132_7 : fldOff Tryd.prog 132 7 = some 7 := by kernel_rfl
theorem fld_132_8 : fldOff Tryd.prog 132 8 = some 8 := by kernel_rfl
theorem fld_132_9 : fldOff Tryd.prog 132 9 = some 9 := by kernel_rfl
theorem fld_132_10 : fldOff Tryd.prog 132 10 = some 10 := by kernel_rfl
theorem mixed : Tryd.prog.follows .mixedOrders = true := by kernel_rfl
theorem en_2 : ∀ (args : Array Value) (w : World), (callFunc 2 args).run Tryd.prog w = .ok (.enter 2 args) w := fun _ _ => by kernel_rfl
theorem en_3 : ∀ (args : Array Value) (w : World), (callFunc 3 args).run Tryd.prog w = .ok (.enter 3 args) w := fun _ _ => by kernel_rfl
theorem en_4 : ∀ (args : Array Value) (w : World), (callFunc 4 args).run Tryd.prog w = .ok (.enter 4 args) w := fun _ _ => by kernel_rfl
theorem en_5 : ∀ (args : Array Value) (w : World), (callFunc 5 args).run Tryd.prog w = .ok (.enter 5 args) w := fun _ _ => by kernel_rfl
theorem en_6 : ∀ (args : Array Value) (w : World), (callFunc 6 args).run Tryd.prog w = .ok (.enter 6 args) w := fun _ _ => by kernel_rfl
theorem en_7 : ∀ (args : Array Value) (w : World), (callFunc 7 args).run Tryd.prog w = .ok (.enter 7 args) w := fun _ _ => by kernel_rfl
theorem en_8 : ∀ (args : Array Value) (w : World), (callFunc 8 args).run Tryd.prog w = .ok (.enter 8 args) w := fun _ _ => by kernel_rfl
theorem en_9 : ∀ (args : Array Value) (w : World), (callFunc 9 args).run Tryd.prog w = .ok (.enter 9 args) w := fun _ _ => by kernel_rfl
theorem en_10 : ∀ (args : Array Value) (w : World), (callFunc 10 args).run Tryd.prog w = .ok (.enter 10 args) w := fun _ _ => by kernel_rfl
theorem en_11 : ∀ (args : Array Value) (w : World), (callFunc 11 args).run Tryd.prog w = .ok (.enter 11 args) w := fun _ _ => by kernel_rfl
theorem en_12 : ∀ (args : Array Value) (w : World), (callFunc 12 args).run Tryd.prog w = .ok (.enter 12 args) w := fun _ _ => by kernel_rfl
theorem en_13 : ∀ (args : Array Value) (w : World), (callFunc 13 args).run Tryd.prog w = .ok (.enter 13 args) w := fun _ _ => by kernel_rfl
theorem en_14 : ∀ (args : Array Value) (w : World), (callFunc 14 args).run Tryd.prog w = .ok (.enter 14 args) w := fun _ _ => by kernel_rfl
theorem en_15 : ∀ (args : Array Value) (w : World), (callFunc 15 args).run Tryd.prog w = .ok (.enter 15 args) w := fun _ _ => by kernel_rfl
theorem en_16 : ∀ (args : Array Value) (w : World), (callFunc 16 args).run Tryd.prog w = .ok (.enter 16 args) w := fun _ _ => by kernel_rfl
theorem en_17 : ∀ (args : Array Value) (w : World), (callFunc 17 args).run Tryd.prog w = .ok (.enter 17 args) w := fun _ _ => by kernel_rfl
theorem en_18 : ∀ (args : Array Value) (w : World), (callFunc 18 args).run Tryd.prog w = .ok (.enter 18 args) w := fun _ _ => by kernel_rfl
theorem en_19 : ∀ (args : Array Value) (w : World), (callFunc 19 args).run Tryd.prog w = .ok (.enter 19 args) w := fun _ _ => by kernel_rfl
theorem en_20 : ∀ (args : Array Value) (w : World), (callFunc 20 args).run Tryd.prog w = .ok (.enter 20 args) w := fun _ _ => by kernel_rfl
theorem en_21 : ∀ (args : Array Value) (w : World), (callFunc 21 args).run Tryd.prog w = .ok (.enter 21 args) w := fun _ _ => by kernel_rfl
theorem en_22 : ∀ (args : Array Value) (w : World), (callFunc 22 args).run Tryd.prog w = .ok (.enter 22 args) w := fun _ _ => by kernel_rfl
theorem en_23 : ∀ (args : Array Value) (w : World), (callFunc 23 args).run Tryd.prog w = .ok (.enter 23 args) w := fun _ _ => by kernel_rfl
theorem en_24 : ∀ (args : Array Value) (w : World), (callFunc 24 args).run Tryd.prog w = .ok (.enter 24 args) w := fun _ _ => by kernel_rfl
theorem en_25 : ∀ (args : Array Value) (w : World), (callFunc 25 args).run Tryd.prog w = .ok (.enter 25 args) w := fun _ _ => by kernel_rfl
theorem en_26 : ∀ (args : Array Value) (w : World), (callFunc 26 args).run Tryd.prog w = .ok (.enter 26 args) w := fun _ _ => by kernel_rfl
theorem en_27 : ∀ (args : Array Value) (w : World), (callFunc 27 args).run Tryd.prog w = .ok (.enter 27 args) w := fun _ _ => by kernel_rfl
theorem en_28 : ∀ (args : Array Value) (w : World), (callFunc 28 args).run Tryd.prog w = .ok (.enter 28 args) w := fun _ _ => by kernel_rfl
theorem en_29 : ∀ (args : Array Value) (w : World), (callFunc 29 args).run Tryd.prog w = .ok (.enter 29 args) w := fun _ _ => by kernel_rfl
theorem en_30 : ∀ (args : Array Value) (w : World), (callFunc 30 args).run Tryd.prog w = .ok (.enter 30 args) w := fun _ _ => by kernel_rfl
theorem en_31 : ∀ (args : Array Value) (w : World), (callFunc 31 args).run Tryd.prog w = .ok (.enter 31 args) w := fun _ _ => by kernel_rfl
theorem en_32 : ∀ (args : Array Value) (w : World), (callFunc 32 args).run Tryd.prog w = .ok (.enter 32 args) w := fun _ _ => by kernel_rfl
theorem en_33 : ∀ (args : Array Value) (w : World), (callFunc 33 args).run Tryd.prog w = .ok (.enter 33 args) w := fun _ _ => by kernel_rfl
theorem en_34 : ∀ (args : Array Value) (w : World), (callFunc 34 args).run Tryd.prog w = .ok (.enter 34 args) w := fun _ _ => by kernel_rfl
theorem en_35 : ∀ (args : Array Value) (w : World), (callFunc 35 args).run Tryd.prog w = .ok (.enter 35 args) w := fun _ _ => by kernel_rfl
theorem en_36 : ∀ (args : Array Value) (w : World), (callFunc 36 args).run Tryd.prog w = .ok (.enter 36 args) w := fun _ _ => by kernel_rfl
theorem en_37 : ∀ (args : Array Value) (w : World), (callFunc 37 args).run Tryd.prog w = .ok (.enter 37 args) w := fun _ _ => by kernel_rfl
theorem en_38 : ∀ (args : Array Value) (w : World), (callFunc 38 args).run Tryd.prog w = .ok (.enter 38 args) w := fun _ _ => by kernel_rfl
theorem en_39 : ∀ (args : Array Value) (w : World), (callFunc 39 args).run Tryd.prog w = .ok (.enter 39 args) w := fun _ _ => by kernel_rfl
theorem en_40 : ∀ (args : Array Value) (w : World), (callFunc 40 args).run Tryd.prog w = .ok (.enter 40 args) w := fun _ _ => by kernel_rfl
theorem en_41 : ∀ (args : Array Value) (w : World), (callFunc 41 args).run Tryd.prog w = .ok (.enter 41 args) w := fun _ _ => by kernel_rfl
theorem en_42 : ∀ (args : Array Value) (w : World), (callFunc 42 args).run Tryd.prog w = .ok (.enter 42 args) w := fun _ _ => by kernel_rfl
theorem en_43 : ∀ (args : Array Value) (w : World), (callFunc 43 args).run Tryd.prog w = .ok (.enter 43 args) w := fun _ _ => by kernel_rfl
theorem en_44 : ∀ (args : Array Value) (w : World), (callFunc 44 args).run Tryd.prog w = .ok (.enter 44 args) w := fun _ _ => by kernel_rfl
theorem en_45 : ∀ (args : Array Value) (w : World), (callFunc 45 args).run Tryd.prog w = .ok (.enter 45 args) w := fun _ _ => by kernel_rfl
theorem en_46 : ∀ (args : Array Value) (w : World), (callFunc 46 args).run Tryd.prog w = .ok (.enter 46 args) w := fun _ _ => by kernel_rfl
theorem en_47 : ∀ (args : Array Value) (w : World), (callFunc 47 args).run Tryd.prog w = .ok (.enter 47 args) w := fun _ _ => by kernel_rfl
theorem en_48 : ∀ (args : Array Value) (w : World), (callFunc 48 args).run Tryd.prog w = .ok (.enter 48 args) w := fun _ _ => by kernel_rfl
theorem en_49 : ∀ (args : Array Value) (w : World), (callFunc 49 args).run Tryd.prog w = .ok (.enter 49 args) w := fun _ _ => by kernel_rfl
theorem en_50 : ∀ (args : Array Value) (w : World), (callFunc 50 args).run Tryd.prog w = .ok (.enter 50 args) w := fun _ _ => by kernel_rfl
theorem en_51 : ∀ (args : Array Value) (w : World), (callFunc 51 args).run Tryd.prog w = .ok (.enter 51 args) w := fun _ _ => by kernel_rfl
theorem en_52 : ∀ (args : Array Value) (w : World), (callFunc 52 args).run Tryd.prog w = .ok (.enter 52 args) w := fun _ _ => by kernel_rfl
theorem en_53 : ∀ (args : Array Value) (w : World), (callFunc 53 args).run Tryd.prog w = .ok (.enter 53 args) w := fun _ _ => by kernel_rfl
theorem en_54 : ∀ (args : Array Value) (w : World), (callFunc 54 args).run Tryd.prog w = .ok (.enter 54 args) w := fun _ _ => by kernel_rfl
theorem en_55 : ∀ (args : Array Value) (w : World), (callFunc 55 args).run Tryd.prog w = .ok (.enter 55 args) w := fun _ _ => by kernel_rfl
theorem en_56 : ∀ (args : Array Value) (w : World), (callFunc 56 args).run Tryd.prog w = .ok (.enter 56 args) w := fun _ _ => by kernel_rfl
theorem en_57 : ∀ (args : Array Value) (w : World), (callFunc 57 args).run Tryd.prog w = .ok (.enter 57 args) w := fun _ _ => by kernel_rfl
theorem en_58 : ∀ (args : Array Value) (w : World), (callFunc 58 args).run Tryd.prog w = .ok (.enter 58 args) w := fun _ _ => by kernel_rfl
theorem en_59 : ∀ (args : Array Value) (w : World), (callFunc 59 args).run Tryd.prog w = .ok (.enter 59 args) w := fun _ _ => by kernel_rfl
theorem en_60 : ∀ (args : Array Value) (w : World), (callFunc 60 args).run Tryd.prog w = .ok (.enter 60 args) w := fun _ _ => by kernel_rfl
theorem en_61 : ∀ (args : Array Value) (w : World), (callFunc 61 args).run Tryd.prog w = .ok (.enter 61 args) w := fun _ _ => by kernel_rfl
theorem en_62 : ∀ (args : Array Value) (w : World), (callFunc 62 args).run Tryd.prog w = .ok (.enter 62 args) w := fun _ _ => by kernel_rfl
theorem en_63 : ∀ (args : Array Value) (w : World), (callFunc 63 args).run Tryd.prog w = .ok (.enter 63 args) w := fun _ _ => by kernel_rfl
theorem en_65 : ∀ (args : Array Value) (w : World), (callFunc 65 args).run Tryd.prog w = .ok (.enter 65 args) w := fun _ _ => by kernel_rfl
theorem en_66 : ∀ (args : Array Value) (w : World), (callFunc 66 args).run Tryd.prog w = .ok (.enter 66 args) w := fun _ _ => by kernel_rfl
theorem en_67 : ∀ (args : Array Value) (w : World), (callFunc 67 args).run Tryd.prog w = .ok (.enter 67 args) w := fun _ _ => by kernel_rfl
theorem en_68 : ∀ (args : Array Value) (w : World), (callFunc 68 args).run Tryd.prog w = .ok (.enter 68 args) w := fun _ _ => by kernel_rfl
theorem en_69 : ∀ (args : Array Value) (w : World), (callFunc 69 args).run Tryd.prog w = .ok (.enter 69 args) w := fun _ _ => by kernel_rfl
theorem en_70 : ∀ (args : Array Value) (w : World), (callFunc 70 args).run Tryd.prog w = .ok (.enter 70 args) w := fun _ _ => by kernel_rfl
theorem en_71 : ∀ (args : Array Value) (w : World), (callFunc 71 args).run Tryd.prog w = .ok (.enter 71 args) w := fun _ _ => by kernel_rfl
theorem en_72 : ∀ (args : Array Value) (w : World), (callFunc 72 args).run Tryd.prog w = .ok (.enter 72 args) w := fun _ _ => by kernel_rfl
theorem en_73 : ∀ (args : Array Value) (w : World), (callFunc 73 args).run Tryd.prog w = .ok (.enter 73 args) w := fun _ _ => by kernel_rfl
theorem en_74 : ∀ (args : Array Value) (w : World), (callFunc 74 args).run Tryd.prog w = .ok (.enter 74 args) w := fun _ _ => by kernel_rfl
theorem en_75 : ∀ (args : Array Value) (w : World), (callFunc 75 args).run Tryd.prog w = .ok (.enter 75 args) w := fun _ _ => by kernel_rfl
theorem en_80 : ∀ (args : Array Value) (w : World), (callFunc 80 args).run Tryd.prog w = .ok (.enter 80 args) w := fun _ _ => by kernel_rfl
theorem en_81 : ∀ (args : Array Value) (w : World), (callFunc 81 args).run Tryd.prog w = .ok (.enter 81 args) w := fun _ _ => by kernel_rfl
theorem en_82 : ∀ (args : Array Value) (w : World), (callFunc 82 args).run Tryd.prog w = .ok (.enter 82 args) w := fun _ _ => by kernel_rfl
theorem en_104 : ∀ (args : Array Value) (w : World), (callFunc 104 args).run Tryd.prog w = .ok (.enter 104 args) w := fun _ _ => by kernel_rfl
theorem xt_76 (s : ByteArray) (c : Int) (w : World) : (callFunc 76 #[.string s, .int .u8 c]).run Tryd.prog w = .ok (.value (.int .i64 (Lib.indexByte s.data.toList c.toNat.toUInt8))) w := by
  rw [run_callFunc_extern Tryd.func76 (by kernel_rfl) (by kernel_rfl) (by kernel_rfl) (e := Extern.BytealgIndexByte.indexByte) (by kernel_rfl), Lib.run_indexByteString]; rfl
theorem xt_64 (s : ByteArray) (c : Int) (w : World) : (callFunc 64 #[.string s, .int .u8 c]).run Tryd.prog w = .ok (.value (.int .i64 ((Lib.countByte s.data.toList c.toNat.toUInt8 : Nat)))) w := by
  rw [run_callFunc_extern Tryd.func64 (by kernel_rfl) (by kernel_rfl) (by kernel_rfl) (e := Extern.BytealgCount.count) (by kernel_rfl), Lib.run_countString]; rfl
end Go.Proofs.YtnhkhpnkhkagaaaDoor
