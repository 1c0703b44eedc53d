/- Closed facts on this translation: sizes and fields of types, which functions are entered. Written by program. -/
import Derived.Test.YtgafkbnlhlbmkaaLG
import Derived.Test.YtgafkbnlhlbmkaaProg
import Derived.KernelRfl
namespace Go.Proofs.Ytgafkbnlhlbmkaa

theorem sz_2 : sizeP Try.prog 2 = some 1 := by kernel_rfl
theorem inf_2 : (Try.prog.info? 2).map (fun i => (i.zero, i.size, i.bytes)) = some (some (.int .i64 0), 1, 8) := by kernel_rfl
theorem sz_3 : sizeP Try.prog 3 = some 1 := by kernel_rfl
theorem inf_3 : (Try.prog.info? 3).map (fun i => (i.zero, i.size, i.bytes)) = some (some (.int .i64 0), 1, 8) := by kernel_rfl
theorem sz_4 : sizeP Try.prog 4 = some 1 := by kernel_rfl
theorem inf_4 : (Try.prog.info? 4).map (fun i => (i.zero, i.size, i.bytes)) = some (some (.bool false), 1, 1) := by kernel_rfl
theorem sz_5 : sizeP Try.prog 5 = some 1 := by kernel_rfl
theorem inf_5 : (Try.prog.info? 5).map (fun i => (i.zero, i.size, i.bytes)) = some (some (.int .u8 0), 1, 1) := by kernel_rfl
theorem sz_6 : sizeP Try.prog 6 = some 1 := by kernel_rfl
theorem inf_6 : (Try.prog.info? 6).map (fun i => (i.zero, i.size, i.bytes)) = some (some (.int .u8 0), 1, 1) := by kernel_rfl
theorem sz_7 : sizeP Try.prog 7 = some 4 := by kernel_rfl
theorem inf_7 : (Try.prog.info? 7).map (fun i => (i.zero, i.size, i.bytes)) = some (some (.agg #[.int .i64 0, .int .i64 0, .bool false, .int .u8 0]), 4, 24) := by kernel_rfl
theorem fld_7_0 : fldOff Try.prog 7 0 = some 0 := by kernel_rfl
theorem fld_7_1 : fldOff Try.prog 7 1 = some 1 := by kernel_rfl
theorem fld_7_2 : fldOff Try.prog 7 2 = some 2 := by kernel_rfl
theorem fld_7_3 : fldOff Try.prog 7 3 = some 3 := by kernel_rfl
theorem sz_8 : sizeP Try.prog 8 = some 4 := by kernel_rfl
theorem inf_8 : (Try.prog.info? 8).map (fun i => (i.zero, i.size, i.bytes)) = some (some (.agg #[.int .i64 0, .int .i64 0, .bool false, .int .u8 0]), 4, 24) := by kernel_rfl
theorem fld_8_0 : fldOff Try.prog 8 0 = some 0 := by kernel_rfl
theorem fld_8_1 : fldOff Try.prog 8 1 = some 1 := by kernel_rfl
theorem fld_8_2 : fldOff Try.prog 8 2 = some 2 := by kernel_rfl
theorem fld_8_3 : fldOff Try.prog 8 3 = some 3 := by kernel_rfl
theorem sz_9 : sizeP Try.prog 9 = some 1 := by kernel_rfl
theorem inf_9 : (Try.prog.info? 9).map (fun i => (i.zero, i.size, i.bytes)) = some (some (.string ⟨#[]⟩), 1, 16) := by kernel_rfl
theorem sz_10 : sizeP Try.prog 10 = some 1 := by kernel_rfl
theorem inf_10 : (Try.prog.info? 10).map (fun i => (i.zero, i.size, i.bytes)) = some (some (.string ⟨#[]⟩), 1, 16) := by kernel_rfl
theorem sz_11 : sizeP Try.prog 11 = some 1 := by kernel_rfl
theorem inf_11 : (Try.prog.info? 11).map (fun i => (i.zero, i.size, i.bytes)) = some (some (.string ⟨#[]⟩), 1, 16) := by kernel_rfl
theorem sz_12 : sizeP Try.prog 12 = some 1 := by kernel_rfl
theorem inf_12 : (Try.prog.info? 12).map (fun i => (i.zero, i.size, i.bytes)) = some (some (.int .u64 0), 1, 8) := by kernel_rfl
theorem sz_13 : sizeP Try.prog 13 = some 2 := by kernel_rfl
theorem inf_13 : (Try.prog.info? 13).map (fun i => (i.zero, i.size, i.bytes)) = some (some (.agg #[.string ⟨#[]⟩, .int .u64 0]), 2, 24) := by kernel_rfl
theorem fld_13_0 : fldOff Try.prog 13 0 = some 0 := by kernel_rfl
theorem fld_13_1 : fldOff Try.prog 13 1 = some 1 := by kernel_rfl
theorem sz_14 : sizeP Try.prog 14 = some 2 := by kernel_rfl
theorem inf_14 : (Try.prog.info? 14).map (fun i => (i.zero, i.size, i.bytes)) = some (some (.agg #[.string ⟨#[]⟩, .int .u64 0]), 2, 24) := by kernel_rfl
theorem fld_14_0 : fldOff Try.prog 14 0 = some 0 := by kernel_rfl
theorem fld_14_1 : fldOff Try.prog 14 1 = some 1 := by kernel_rfl
theorem sz_15 : sizeP Try.prog 15 = some 1 := by kernel_rfl
theorem inf_15 : (Try.prog.info? 15).map (fun i => (i.zero, i.size, i.bytes)) = some (some (.pointer none), 1, 8) := by kernel_rfl
theorem sz_16 : sizeP Try.prog 16 = some 1 := by kernel_rfl
theorem inf_16 : (Try.prog.info? 16).map (fun i => (i.zero, i.size, i.bytes)) = some (some (.pointer none), 1, 8) := by kernel_rfl
theorem sz_17 : sizeP Try.prog 17 = some 1 := by kernel_rfl
theorem inf_17 : (Try.prog.info? 17).map (fun i => (i.zero, i.size, i.bytes)) = some (some (.pointer none), 1, 8) := by kernel_rfl
theorem sz_18 : sizeP Try.prog 18 = some 1 := by kernel_rfl
theorem inf_18 : (Try.prog.info? 18).map (fun i => (i.zero, i.size, i.bytes)) = some (some (.agg #[.pointer none]), 1, 8) := by kernel_rfl
theorem fld_18_0 : fldOff Try.prog 18 0 = some 0 := by kernel_rfl
theorem sz_19 : sizeP Try.prog 19 = some 1 := by kernel_rfl
theorem inf_19 : (Try.prog.info? 19).map (fun i => (i.zero, i.size, i.bytes)) = some (some (.agg #[.pointer none]), 1, 8) := by kernel_rfl
theorem fld_19_0 : fldOff Try.prog 19 0 = some 0 := by kernel_rfl
theorem sz_21 : sizeP Try.prog 21 = some 1 := by kernel_rfl
theorem inf_21 : (Try.prog.info? 21).map (fun i => (i.zero, i.size, i.bytes)) = some (some (.int .i32 0), 1, 4) := by kernel_rfl
theorem sz_22 : sizeP Try.prog 22 = some 1 := by kernel_rfl
theorem inf_22 : (Try.prog.info? 22).map (fun i => (i.zero, i.size, i.bytes)) = some (some (.slice none 0 0), 1, 24) := by kernel_rfl
theorem sz_25 : sizeP Try.prog 25 = some 1 := by kernel_rfl
theorem inf_25 : (Try.prog.info? 25).map (fun i => (i.zero, i.size, i.bytes)) = some (some (.int .i64 0), 1, 8) := by kernel_rfl
theorem sz_32 : sizeP Try.prog 32 = some 1 := by kernel_rfl
theorem inf_32 : (Try.prog.info? 32).map (fun i => (i.zero, i.size, i.bytes)) = some (some (.slice none 0 0), 1, 24) := by kernel_rfl
theorem sz_33 : sizeP Try.prog 33 = some 1 := by kernel_rfl
theorem inf_33 : (Try.prog.info? 33).map (fun i => (i.zero, i.size, i.bytes)) = some (some (.slice none 0 0), 1, 24) := by kernel_rfl
theorem sz_38 : sizeP Try.prog 38 = some 2 := by kernel_rfl
theorem inf_38 : (Try.prog.info? 38).map (fun i => (i.zero, i.size, i.bytes)) = some (some (.agg #[.slice none 0 0, .slice none 0 0]), 2, 48) := by kernel_rfl
theorem sz_39 : sizeP Try.prog 39 = some 1 := by kernel_rfl
theorem inf_39 : (Try.prog.info? 39).map (fun i => (i.zero, i.size, i.bytes)) = some (some (.slice none 0 0), 1, 24) := by kernel_rfl
theorem sz_53 : sizeP Try.prog 53 = some 1 := by kernel_rfl
theorem inf_53 : (Try.prog.info? 53).map (fun i => (i.zero, i.size, i.bytes)) = some (some (.pointer none), 1, 8) := by kernel_rfl
theorem sz_54 : sizeP Try.prog 54 = some 2 := by kernel_rfl
theorem inf_54 : (Try.prog.info? 54).map (fun i => (i.zero, i.size, i.bytes)) = some (some (.agg #[.pointer none, .slice none 0 0]), 2, 32) := by kernel_rfl
theorem fld_54_0 : fldOff Try.prog 54 0 = some 0 := by kernel_rfl
theorem fld_54_1 : fldOff Try.prog 54 1 = some 1 := by kernel_rfl
theorem sz_55 : sizeP Try.prog 55 = some 2 := by kernel_rfl
theorem inf_55 : (Try.prog.info? 55).map (fun i => (i.zero, i.size, i.bytes)) = some (some (.agg #[.pointer none, .slice none 0 0]), 2, 32) := by kernel_rfl
theorem fld_55_0 : fldOff Try.prog 55 0 = some 0 := by kernel_rfl
theorem fld_55_1 : fldOff Try.prog 55 1 = some 1 := by kernel_rfl
theorem sz_56 : sizeP Try.prog 56 = some 3 := by kernel_rfl
theorem inf_56 : (Try.prog.info? 56).map (fun i => (i.zero, i.size, i.bytes)) = some (some (.agg #[.int .u8 0, .int .u8 0, .int .u8 0]), 3, 3) := by kernel_rfl
theorem sz_58 : sizeP Try.prog 58 = some 1 := by kernel_rfl
theorem inf_58 : (Try.prog.info? 58).map (fun i => (i.zero, i.size, i.bytes)) = some (some (.nilIface), 1, 16) := by kernel_rfl
theorem sz_68 : sizeP Try.prog 68 = some 1 := by kernel_rfl
theorem inf_68 : (Try.prog.info? 68).map (fun i => (i.zero, i.size, i.bytes)) = some (some (.int .u64 0), 1, 8) := by kernel_rfl
theorem sz_70 : sizeP Try.prog 70 = some 1 := by kernel_rfl
theorem inf_70 : (Try.prog.info? 70).map (fun i => (i.zero, i.size, i.bytes)) = some (some (.int .u64 0), 1, 8) := by kernel_rfl
theorem sz_71 : sizeP Try.prog 71 = some 1 := by kernel_rfl
theorem inf_71 : (Try.prog.info? 71).map (fun i => (i.zero, i.size, i.bytes)) = some (some (.pointer none), 1, 8) := by kernel_rfl
theorem sz_77 : sizeP Try.prog 77 = some 1 := by kernel_rfl
theorem inf_77 : (Try.prog.info? 77).map (fun i => (i.zero, i.size, i.bytes)) = some (some (.nilFunc), 1, 8) := by kernel_rfl
theorem sz_82 : sizeP Try.prog 82 = some 1 := by kernel_rfl
theorem inf_82 : (Try.prog.info? 82).map (fun i => (i.zero, i.size, i.bytes)) = some (some (.pointer none), 1, 8) := by kernel_rfl
theorem sz_84 : sizeP Try.prog 84 = some 1 := by kernel_rfl
theorem inf_84 : (Try.prog.info? 84).map (fun i => (i.zero, i.size, i.bytes)) = some (some (.slice none 0 0), 1, 24) := by kernel_rfl
theorem sz_86 : sizeP Try.prog 86 = some 1 := by kernel_rfl
theorem inf_86 : (Try.prog.info? 86).map (fun i => (i.zero, i.size, i.bytes)) = some (some (.int .u32 0), 1, 4) := by kernel_rfl
theorem sz_87 : sizeP Try.prog 87 = some 4 := by kernel_rfl
theorem inf_87 : (Try.prog.info? 87).map (fun i => (i.zero, i.size, i.bytes)) = some (some (.agg #[.pointer none, .pointer none, .pointer none, .string ⟨#[]⟩]), 4, 40) := by kernel_rfl
theorem fld_87_0 : fldOff Try.prog 87 0 = some 0 := by kernel_rfl
theorem fld_87_1 : fldOff Try.prog 87 1 = some 1 := by kernel_rfl
theorem fld_87_2 : fldOff Try.prog 87 2 = some 2 := by kernel_rfl
theorem fld_87_3 : fldOff Try.prog 87 3 = some 3 := by kernel_rfl
theorem sz_88 : sizeP Try.prog 88 = some 4 := by kernel_rfl
theorem inf_88 : (Try.prog.info? 88).map (fun i => (i.zero, i.size, i.bytes)) = some (some (.agg #[.pointer none, .pointer none, .pointer none, .string ⟨#[]⟩]), 4, 40) := by kernel_rfl
theorem fld_88_0 : fldOff Try.prog 88 0 = some 0 := by kernel_rfl
theorem fld_88_1 : fldOff Try.prog 88 1 = some 1 := by kernel_rfl
theorem fld_88_2 : fldOff Try.prog 88 2 = some 2 := by kernel_rfl
theorem fld_88_3 : fldOff Try.prog 88 3 = some 3 := by kernel_rfl
theorem sz_89 : sizeP Try.prog 89 = some 0 := by kernel_rfl
theorem inf_89 : (Try.prog.info? 89).map (fun i => (i.zero, i.size, i.bytes)) = some (some (.agg #[]), 0, 0) := by kernel_rfl
theorem sz_90 : sizeP Try.prog 90 = some 0 := by kernel_rfl
theorem inf_90 : (Try.prog.info? 90).map (fun i => (i.zero, i.size, i.bytes)) = some (some (.agg #[]), 0, 0) := by kernel_rfl
theorem sz_91 : sizeP Try.prog 91 = some 0 := by kernel_rfl
theorem inf_91 : (Try.prog.info? 91).map (fun i => (i.zero, i.size, i.bytes)) = some (some (.agg #[]), 0, 0) := by kernel_rfl
theorem sz_93 : sizeP Try.prog 93 = some 1 := by kernel_rfl
theorem inf_93 : (Try.prog.info? 93).map (fun i => (i.zero, i.size, i.bytes)) = some (some (.int .u8 0), 1, 1) := by kernel_rfl
theorem sz_94 : sizeP Try.prog 94 = some 1 := by kernel_rfl
theorem inf_94 : (Try.prog.info? 94).map (fun i => (i.zero, i.size, i.bytes)) = some (some (.int .u8 0), 1, 1) := by kernel_rfl
theorem sz_96 : sizeP Try.prog 96 = some 1 := by kernel_rfl
theorem inf_96 : (Try.prog.info? 96).map (fun i => (i.zero, i.size, i.bytes)) = some (some (.int .i32 0), 1, 4) := by kernel_rfl
theorem sz_97 : sizeP Try.prog 97 = some 1 := by kernel_rfl
theorem inf_97 : (Try.prog.info? 97).map (fun i => (i.zero, i.size, i.bytes)) = some (some (.int .i32 0), 1, 4) := by kernel_rfl
theorem sz_98 : sizeP Try.prog 98 = some 11 := by kernel_rfl
theorem inf_98 : (Try.prog.info? 98).map (fun i => (i.zero, i.size, i.bytes)) = some (some (.agg #[.int .u64 0, .int .u64 0, .int .u32 0, .int .u8 0, .int .u8 0, .int .u8 0, .int .u8 0, .nilFunc, .pointer none, .int .i32 0, .int .i32 0]), 11, 48) := by kernel_rfl
theorem fld_98_0 : fldOff Try.prog 98 0 = some 0 := by kernel_rfl
theorem fld_98_1 : fldOff Try.prog 98 1 = some 1 := by kernel_rfl
theorem fld_98_2 : fldOff Try.prog 98 2 = some 2 := by kernel_rfl
theorem fld_98_3 : fldOff Try.prog 98 3 = some 3 := by kernel_rfl
theorem fld_98_4 : fldOff Try.prog 98 4 = some 4 := by kernel_rfl
theorem fld_98_5 : fldOff Try.prog 98 5 = some 5 := by kernel_rfl
theorem fld_98_6 : fldOff Try.prog 98 6 = some 6 := by kernel_rfl
theorem fld_98_7 : fldOff Try.prog 98 7 = some 7 := by kernel_rfl
theorem fld_98_8 : fldOff Try.prog 98 8 = some 8 := by kernel_rfl
theorem fld_98_9 : fldOff Try.prog 98 9 = some 9 := by kernel_rfl
theorem fld_98_10 : fldOff Try.prog 98 10 = some 10 := by kernel_rfl
theorem sz_99 : sizeP Try.prog 99 = some 11 := by kernel_rfl
theorem inf_99 : (Try.prog.info? 99).map (fun i => (i.zero, i.size, i.bytes)) = some (some (.agg #[.int .u64 0, .int .u64 0, .int .u32 0, .int .u8 0, .int .u8 0, .int .u8 0, .int .u8 0, .nilFunc, .pointer none, .int .i32 0, .int .i32 0]), 11, 48) := by kernel_rfl
theorem fld_99_0 : fldOff Try.prog 99 0 = some 0 := by kernel_rfl
theorem fld_99_1 : fldOff Try.prog 99 1 = some 1 := by kernel_rfl
theorem fld_99_2 : fldOff Try.prog 99 2 = some 2 := by kernel_rfl
theorem fld_99_3 : fldOff Try.prog 99 3 = some 3 := by kernel_rfl
theorem fld_99_4 : fldOff Try.prog 99 4 = some 4 := by kernel_rfl
theorem fld_99_5 : fldOff Try.prog 99 5 = some 5 := by kernel_rfl
theorem fld_99_6 : fldOff Try.prog 99 6 = some 6 := by kernel_rfl
theorem fld_99_7 : fldOff Try.prog 99 7 = some 7 := by kernel_rfl
theorem fld_99_8 : fldOff Try.prog 99 8 = some 8 := by kernel_rfl
theorem fld_99_9 : fldOff Try.prog 99 9 = some 9 := by kernel_rfl
theorem fld_99_10 : fldOff Try.prog 99 10 = some 10 := by kernel_rfl
theorem mixed : Try.prog.follows .mixedOrders = true := by kernel_rfl
theorem en_2 : ∀ (args : Array Value) (w : World), (callFunc 2 args).run Try.prog w = .ok (.enter 2 args) w := fun _ _ => by kernel_rfl
theorem en_3 : ∀ (args : Array Value) (w : World), (callFunc 3 args).run Try.prog w = .ok (.enter 3 args) w := fun _ _ => by kernel_rfl
theorem en_4 : ∀ (args : Array Value) (w : World), (callFunc 4 args).run Try.prog w = .ok (.enter 4 args) w := fun _ _ => by kernel_rfl
theorem en_5 : ∀ (args : Array Value) (w : World), (callFunc 5 args).run Try.prog w = .ok (.enter 5 args) w := fun _ _ => by kernel_rfl
theorem en_6 : ∀ (args : Array Value) (w : World), (callFunc 6 args).run Try.prog w = .ok (.enter 6 args) w := fun _ _ => by kernel_rfl
theorem en_7 : ∀ (args : Array Value) (w : World), (callFunc 7 args).run Try.prog w = .ok (.enter 7 args) w := fun _ _ => by kernel_rfl
theorem en_8 : ∀ (args : Array Value) (w : World), (callFunc 8 args).run Try.prog w = .ok (.enter 8 args) w := fun _ _ => by kernel_rfl
theorem en_9 : ∀ (args : Array Value) (w : World), (callFunc 9 args).run Try.prog w = .ok (.enter 9 args) w := fun _ _ => by kernel_rfl
theorem en_10 : ∀ (args : Array Value) (w : World), (callFunc 10 args).run Try.prog w = .ok (.enter 10 args) w := fun _ _ => by kernel_rfl
theorem en_11 : ∀ (args : Array Value) (w : World), (callFunc 11 args).run Try.prog w = .ok (.enter 11 args) w := fun _ _ => by kernel_rfl
theorem en_12 : ∀ (args : Array Value) (w : World), (callFunc 12 args).run Try.prog w = .ok (.enter 12 args) w := fun _ _ => by kernel_rfl
theorem en_13 : ∀ (args : Array Value) (w : World), (callFunc 13 args).run Try.prog w = .ok (.enter 13 args) w := fun _ _ => by kernel_rfl
theorem en_14 : ∀ (args : Array Value) (w : World), (callFunc 14 args).run Try.prog w = .ok (.enter 14 args) w := fun _ _ => by kernel_rfl
theorem en_15 : ∀ (args : Array Value) (w : World), (callFunc 15 args).run Try.prog w = .ok (.enter 15 args) w := fun _ _ => by kernel_rfl
theorem en_16 : ∀ (args : Array Value) (w : World), (callFunc 16 args).run Try.prog w = .ok (.enter 16 args) w := fun _ _ => by kernel_rfl
theorem en_17 : ∀ (args : Array Value) (w : World), (callFunc 17 args).run Try.prog w = .ok (.enter 17 args) w := fun _ _ => by kernel_rfl
theorem en_18 : ∀ (args : Array Value) (w : World), (callFunc 18 args).run Try.prog w = .ok (.enter 18 args) w := fun _ _ => by kernel_rfl
theorem en_19 : ∀ (args : Array Value) (w : World), (callFunc 19 args).run Try.prog w = .ok (.enter 19 args) w := fun _ _ => by kernel_rfl
theorem en_20 : ∀ (args : Array Value) (w : World), (callFunc 20 args).run Try.prog w = .ok (.enter 20 args) w := fun _ _ => by kernel_rfl
theorem en_21 : ∀ (args : Array Value) (w : World), (callFunc 21 args).run Try.prog w = .ok (.enter 21 args) w := fun _ _ => by kernel_rfl
theorem en_22 : ∀ (args : Array Value) (w : World), (callFunc 22 args).run Try.prog w = .ok (.enter 22 args) w := fun _ _ => by kernel_rfl
theorem en_23 : ∀ (args : Array Value) (w : World), (callFunc 23 args).run Try.prog w = .ok (.enter 23 args) w := fun _ _ => by kernel_rfl
theorem en_24 : ∀ (args : Array Value) (w : World), (callFunc 24 args).run Try.prog w = .ok (.enter 24 args) w := fun _ _ => by kernel_rfl
theorem en_25 : ∀ (args : Array Value) (w : World), (callFunc 25 args).run Try.prog w = .ok (.enter 25 args) w := fun _ _ => by kernel_rfl
theorem en_26 : ∀ (args : Array Value) (w : World), (callFunc 26 args).run Try.prog w = .ok (.enter 26 args) w := fun _ _ => by kernel_rfl
theorem en_27 : ∀ (args : Array Value) (w : World), (callFunc 27 args).run Try.prog w = .ok (.enter 27 args) w := fun _ _ => by kernel_rfl
theorem en_28 : ∀ (args : Array Value) (w : World), (callFunc 28 args).run Try.prog w = .ok (.enter 28 args) w := fun _ _ => by kernel_rfl
theorem en_29 : ∀ (args : Array Value) (w : World), (callFunc 29 args).run Try.prog w = .ok (.enter 29 args) w := fun _ _ => by kernel_rfl
theorem en_30 : ∀ (args : Array Value) (w : World), (callFunc 30 args).run Try.prog w = .ok (.enter 30 args) w := fun _ _ => by kernel_rfl
theorem en_31 : ∀ (args : Array Value) (w : World), (callFunc 31 args).run Try.prog w = .ok (.enter 31 args) w := fun _ _ => by kernel_rfl
theorem en_32 : ∀ (args : Array Value) (w : World), (callFunc 32 args).run Try.prog w = .ok (.enter 32 args) w := fun _ _ => by kernel_rfl
theorem en_33 : ∀ (args : Array Value) (w : World), (callFunc 33 args).run Try.prog w = .ok (.enter 33 args) w := fun _ _ => by kernel_rfl
theorem en_34 : ∀ (args : Array Value) (w : World), (callFunc 34 args).run Try.prog w = .ok (.enter 34 args) w := fun _ _ => by kernel_rfl
theorem en_35 : ∀ (args : Array Value) (w : World), (callFunc 35 args).run Try.prog w = .ok (.enter 35 args) w := fun _ _ => by kernel_rfl
theorem en_36 : ∀ (args : Array Value) (w : World), (callFunc 36 args).run Try.prog w = .ok (.enter 36 args) w := fun _ _ => by kernel_rfl
theorem en_37 : ∀ (args : Array Value) (w : World), (callFunc 37 args).run Try.prog w = .ok (.enter 37 args) w := fun _ _ => by kernel_rfl
theorem en_38 : ∀ (args : Array Value) (w : World), (callFunc 38 args).run Try.prog w = .ok (.enter 38 args) w := fun _ _ => by kernel_rfl
theorem en_39 : ∀ (args : Array Value) (w : World), (callFunc 39 args).run Try.prog w = .ok (.enter 39 args) w := fun _ _ => by kernel_rfl
theorem en_40 : ∀ (args : Array Value) (w : World), (callFunc 40 args).run Try.prog w = .ok (.enter 40 args) w := fun _ _ => by kernel_rfl
theorem en_41 : ∀ (args : Array Value) (w : World), (callFunc 41 args).run Try.prog w = .ok (.enter 41 args) w := fun _ _ => by kernel_rfl
theorem en_43 : ∀ (args : Array Value) (w : World), (callFunc 43 args).run Try.prog w = .ok (.enter 43 args) w := fun _ _ => by kernel_rfl
theorem en_44 : ∀ (args : Array Value) (w : World), (callFunc 44 args).run Try.prog w = .ok (.enter 44 args) w := fun _ _ => by kernel_rfl
theorem en_45 : ∀ (args : Array Value) (w : World), (callFunc 45 args).run Try.prog w = .ok (.enter 45 args) w := fun _ _ => by kernel_rfl
theorem en_46 : ∀ (args : Array Value) (w : World), (callFunc 46 args).run Try.prog w = .ok (.enter 46 args) w := fun _ _ => by kernel_rfl
theorem en_48 : ∀ (args : Array Value) (w : World), (callFunc 48 args).run Try.prog w = .ok (.enter 48 args) w := fun _ _ => by kernel_rfl
theorem en_49 : ∀ (args : Array Value) (w : World), (callFunc 49 args).run Try.prog w = .ok (.enter 49 args) w := fun _ _ => by kernel_rfl
theorem en_50 : ∀ (args : Array Value) (w : World), (callFunc 50 args).run Try.prog w = .ok (.enter 50 args) w := fun _ _ => by kernel_rfl
theorem en_51 : ∀ (args : Array Value) (w : World), (callFunc 51 args).run Try.prog w = .ok (.enter 51 args) w := fun _ _ => by kernel_rfl
theorem en_52 : ∀ (args : Array Value) (w : World), (callFunc 52 args).run Try.prog w = .ok (.enter 52 args) w := fun _ _ => by kernel_rfl
theorem en_54 : ∀ (args : Array Value) (w : World), (callFunc 54 args).run Try.prog w = .ok (.enter 54 args) w := fun _ _ => by kernel_rfl
theorem xt_53 (s : ByteArray) (c : Int) (w : World) : (callFunc 53 #[.string s, .int .u8 c]).run Try.prog w = .ok (.value (.int .i64 (Lib.indexByte s.data.toList c.toNat.toUInt8))) w := by
  rw [run_callFunc_extern Try.func53 (by kernel_rfl) (by kernel_rfl) (by kernel_rfl) (e := Extern.BytealgIndexByte.indexByte) (by kernel_rfl), Lib.run_indexByteString]; rfl
end Go.Proofs.Ytgafkbnlhlbmkaa
