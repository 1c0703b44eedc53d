/- The library's contracts of strings.Builder and others, laid at this program: the numbering, and each field by the kernel. Written by program. -/
import Derived.Shelf.Lays
import Derived.Shelf.Strings.BuilderX
import Derived.KernelRfl
import Derived.Test.YtgafkbnlhlbmkaaProg
namespace Go.Proofs.Ytgafkbnlhlbmkaa
open Go.Shelf

def rho : Go.Shelf.Ren := ⟨(fun n => match n with | 167 => 27 | 168 => 44 | 169 => 28 | 240 => 38 | 242 => 50 | 276 => 47 | 278 => 54 | _ => 0), (fun n => match n with | 0 => 0 | 3 => 3 | 4 => 4 | 5 => 5 | 9 => 9 | 20 => 20 | 21 => 21 | 37 => 22 | 46 => 70 | 51 => 86 | 70 => 53 | 72 => 55 | 75 => 58 | 80 => 60 | 127 => 71 | 164 => 82 | _ => 0), (fun n => match n with  | _ => 0)⟩
theorem ly_a0 : ∀ w, (isAgg (rho.t 0)).run Try.prog w = .ok false w := fun _ => by kernel_rfl
theorem ly_a127 : ∀ w, (isAgg (rho.t 127)).run Try.prog w = .ok false w := fun _ => by kernel_rfl
theorem ly_a164 : ∀ w, (isAgg (rho.t 164)).run Try.prog w = .ok false w := fun _ => by kernel_rfl
theorem ly_a20 : ∀ w, (isAgg (rho.t 20)).run Try.prog w = .ok false w := fun _ => by kernel_rfl
theorem ly_a21 : ∀ w, (isAgg (rho.t 21)).run Try.prog w = .ok false w := fun _ => by kernel_rfl
theorem ly_a3 : ∀ w, (isAgg (rho.t 3)).run Try.prog w = .ok false w := fun _ => by kernel_rfl
theorem ly_a37 : ∀ w, (isAgg (rho.t 37)).run Try.prog w = .ok false w := fun _ => by kernel_rfl
theorem ly_a4 : ∀ w, (isAgg (rho.t 4)).run Try.prog w = .ok false w := fun _ => by kernel_rfl
theorem ly_a46 : ∀ w, (isAgg (rho.t 46)).run Try.prog w = .ok false w := fun _ => by kernel_rfl
theorem ly_a5 : ∀ w, (isAgg (rho.t 5)).run Try.prog w = .ok false w := fun _ => by kernel_rfl
theorem ly_a51 : ∀ w, (isAgg (rho.t 51)).run Try.prog w = .ok false w := fun _ => by kernel_rfl
theorem ly_a70 : ∀ w, (isAgg (rho.t 70)).run Try.prog w = .ok false w := fun _ => by kernel_rfl
theorem ly_a72 : ∀ w, (isAgg (rho.t 72)).run Try.prog w = .ok true w := fun _ => by kernel_rfl
theorem ly_a75 : ∀ w, (isAgg (rho.t 75)).run Try.prog w = .ok false w := fun _ => by kernel_rfl
theorem ly_a9 : ∀ w, (isAgg (rho.t 9)).run Try.prog w = .ok false w := fun _ => by kernel_rfl
theorem ly_f167 : Try.prog.funcs[rho.f 167]? = some (Body.n167 rho) := by kernel_rfl
theorem ly_f168 : Try.prog.funcs[rho.f 168]? = some (Body.n168 rho) := by kernel_rfl
theorem ly_f169 : Try.prog.funcs[rho.f 169]? = some (Body.n169 rho) := by kernel_rfl
theorem ly_f240 : Try.prog.funcs[rho.f 240]? = some (Body.n240 rho) := by kernel_rfl
theorem ly_f242 : Try.prog.funcs[rho.f 242]? = some (Body.n242 rho) := by kernel_rfl
theorem ly_f276 : Try.prog.funcs[rho.f 276]? = some (Body.n276 rho) := by kernel_rfl
theorem ly_f278 : Try.prog.funcs[rho.f 278]? = some (Body.n278 rho) := by kernel_rfl
theorem ly_mixed : Try.prog.follows .mixedOrders = true := by kernel_rfl
theorem ly_t0 : Try.prog.underlying (rho.t 0) = some (TypeDesc.tuple #[]) := by kernel_rfl
theorem ly_t127 : Try.prog.underlying (rho.t 127) = some (TypeDesc.pointer (rho.t 5)) := by kernel_rfl
theorem ly_t164 : Try.prog.underlying (rho.t 164) = some (TypeDesc.unsafePointer) := by kernel_rfl
theorem ly_t20 : Try.prog.underlying (rho.t 20) = some (TypeDesc.interface #[]) := by kernel_rfl
theorem ly_t21 : Try.prog.underlying (rho.t 21) = some (TypeDesc.int IntKind.i32) := by kernel_rfl
theorem ly_t3 : Try.prog.underlying (rho.t 3) = some (TypeDesc.int IntKind.i64) := by kernel_rfl
theorem ly_t37 : Try.prog.underlying (rho.t 37) = some (TypeDesc.slice (rho.t 5)) := by kernel_rfl
theorem ly_t4 : Try.prog.underlying (rho.t 4) = some (TypeDesc.bool) := by kernel_rfl
theorem ly_t46 : Try.prog.underlying (rho.t 46) = some (TypeDesc.int IntKind.u64) := by kernel_rfl
theorem ly_t5 : Try.prog.underlying (rho.t 5) = some (TypeDesc.int IntKind.u8) := by kernel_rfl
theorem ly_t51 : Try.prog.underlying (rho.t 51) = some (TypeDesc.int IntKind.u32) := by kernel_rfl
theorem ly_t70 : Try.prog.underlying (rho.t 70) = some (TypeDesc.pointer (rho.t 72)) := by kernel_rfl
theorem ly_t72 : Try.prog.underlying (rho.t 72) = some (TypeDesc.struct #[{ name := "addr", type := rho.t 70, offset := 0, embedded := false, tag := "", pkgPath := "strings", byteOffset := 0 }, { name := "buf", type := rho.t 37, offset := 1, embedded := false, tag := "", pkgPath := "strings", byteOffset := 8 }]) := by kernel_rfl
theorem ly_t75 : Try.prog.underlying (rho.t 75) = some (TypeDesc.interface #[("Error", rho.t 80)]) := by kernel_rfl
theorem ly_t9 : Try.prog.underlying (rho.t 9) = some (TypeDesc.string) := by kernel_rfl
theorem ly_v0 : ∀ w, (zeroValue (rho.t 0)).run Try.prog w = .ok (Value.tuple #[]) w := fun _ => by kernel_rfl
theorem ly_v127 : ∀ w, (zeroValue (rho.t 127)).run Try.prog w = .ok (Value.pointer none) w := fun _ => by kernel_rfl
theorem ly_v164 : ∀ w, (zeroValue (rho.t 164)).run Try.prog w = .ok (Value.pointer none) w := fun _ => by kernel_rfl
theorem ly_v20 : ∀ w, (zeroValue (rho.t 20)).run Try.prog w = .ok (Value.nilIface) w := fun _ => by kernel_rfl
theorem ly_v21 : ∀ w, (zeroValue (rho.t 21)).run Try.prog w = .ok (Value.int IntKind.i32 0) w := fun _ => by kernel_rfl
theorem ly_v3 : ∀ w, (zeroValue (rho.t 3)).run Try.prog w = .ok (Value.int IntKind.i64 0) w := fun _ => by kernel_rfl
theorem ly_v37 : ∀ w, (zeroValue (rho.t 37)).run Try.prog w = .ok (Value.slice none 0 0) w := fun _ => by kernel_rfl
theorem ly_v4 : ∀ w, (zeroValue (rho.t 4)).run Try.prog w = .ok (Value.bool false) w := fun _ => by kernel_rfl
theorem ly_v46 : ∀ w, (zeroValue (rho.t 46)).run Try.prog w = .ok (Value.int IntKind.u64 0) w := fun _ => by kernel_rfl
theorem ly_v5 : ∀ w, (zeroValue (rho.t 5)).run Try.prog w = .ok (Value.int IntKind.u8 0) w := fun _ => by kernel_rfl
theorem ly_v51 : ∀ w, (zeroValue (rho.t 51)).run Try.prog w = .ok (Value.int IntKind.u32 0) w := fun _ => by kernel_rfl
theorem ly_v70 : ∀ w, (zeroValue (rho.t 70)).run Try.prog w = .ok (Value.pointer none) w := fun _ => by kernel_rfl
theorem ly_v72 : ∀ w, (zeroValue (rho.t 72)).run Try.prog w = .ok (Value.agg #[Value.pointer none, Value.slice none 0 0]) w := fun _ => by kernel_rfl
theorem ly_v75 : ∀ w, (zeroValue (rho.t 75)).run Try.prog w = .ok (Value.nilIface) w := fun _ => by kernel_rfl
theorem ly_v9 : ∀ w, (zeroValue (rho.t 9)).run Try.prog w = .ok (Value.string { data := #[] }) w := fun _ => by kernel_rfl
theorem ly_z0 : ∀ w, (Go.sizeOf (rho.t 0)).run Try.prog w = .ok 1 w := fun _ => by kernel_rfl
theorem ly_z127 : ∀ w, (Go.sizeOf (rho.t 127)).run Try.prog w = .ok 1 w := fun _ => by kernel_rfl
theorem ly_z164 : ∀ w, (Go.sizeOf (rho.t 164)).run Try.prog w = .ok 1 w := fun _ => by kernel_rfl
theorem ly_z20 : ∀ w, (Go.sizeOf (rho.t 20)).run Try.prog w = .ok 1 w := fun _ => by kernel_rfl
theorem ly_z21 : ∀ w, (Go.sizeOf (rho.t 21)).run Try.prog w = .ok 1 w := fun _ => by kernel_rfl
theorem ly_z3 : ∀ w, (Go.sizeOf (rho.t 3)).run Try.prog w = .ok 1 w := fun _ => by kernel_rfl
theorem ly_z37 : ∀ w, (Go.sizeOf (rho.t 37)).run Try.prog w = .ok 1 w := fun _ => by kernel_rfl
theorem ly_z4 : ∀ w, (Go.sizeOf (rho.t 4)).run Try.prog w = .ok 1 w := fun _ => by kernel_rfl
theorem ly_z46 : ∀ w, (Go.sizeOf (rho.t 46)).run Try.prog w = .ok 1 w := fun _ => by kernel_rfl
theorem ly_z5 : ∀ w, (Go.sizeOf (rho.t 5)).run Try.prog w = .ok 1 w := fun _ => by kernel_rfl
theorem ly_z51 : ∀ w, (Go.sizeOf (rho.t 51)).run Try.prog w = .ok 1 w := fun _ => by kernel_rfl
theorem ly_z70 : ∀ w, (Go.sizeOf (rho.t 70)).run Try.prog w = .ok 1 w := fun _ => by kernel_rfl
theorem ly_z72 : ∀ w, (Go.sizeOf (rho.t 72)).run Try.prog w = .ok 2 w := fun _ => by kernel_rfl
theorem ly_z75 : ∀ w, (Go.sizeOf (rho.t 75)).run Try.prog w = .ok 1 w := fun _ => by kernel_rfl
theorem ly_z9 : ∀ w, (Go.sizeOf (rho.t 9)).run Try.prog w = .ok 1 w := fun _ => by kernel_rfl
theorem lays167 : Lays.n167 Try.prog rho where
  mixed := ly_mixed
  f167 := ly_f167
  f240 := ly_f240
  f276 := ly_f276
  t0 := ly_t0
  a0 := ly_a0
  z0 := ly_z0
  v0 := ly_v0
  t4 := ly_t4
  a4 := ly_a4
  z4 := ly_z4
  v4 := ly_v4
  t5 := ly_t5
  a5 := ly_a5
  z5 := ly_z5
  v5 := ly_v5
  t9 := ly_t9
  a9 := ly_a9
  z9 := ly_z9
  v9 := ly_v9
  t20 := ly_t20
  a20 := ly_a20
  z20 := ly_z20
  v20 := ly_v20
  t37 := ly_t37
  a37 := ly_a37
  z37 := ly_z37
  v37 := ly_v37
  t70 := ly_t70
  a70 := ly_a70
  z70 := ly_z70
  v70 := ly_v70
  t72 := ly_t72
  a72 := ly_a72
  z72 := ly_z72
  v72 := ly_v72
  t75 := ly_t75
  a75 := ly_a75
  z75 := ly_z75
  v75 := ly_v75
  t164 := ly_t164
  a164 := ly_a164
  z164 := ly_z164
  v164 := ly_v164
theorem lays168 : Lays.n168 Try.prog rho where
  mixed := ly_mixed
  f168 := ly_f168
  f240 := ly_f240
  f242 := ly_f242
  f276 := ly_f276
  f278 := ly_f278
  t0 := ly_t0
  a0 := ly_a0
  z0 := ly_z0
  v0 := ly_v0
  t3 := ly_t3
  a3 := ly_a3
  z3 := ly_z3
  v3 := ly_v3
  t4 := ly_t4
  a4 := ly_a4
  z4 := ly_z4
  v4 := ly_v4
  t5 := ly_t5
  a5 := ly_a5
  z5 := ly_z5
  v5 := ly_v5
  t9 := ly_t9
  a9 := ly_a9
  z9 := ly_z9
  v9 := ly_v9
  t20 := ly_t20
  a20 := ly_a20
  z20 := ly_z20
  v20 := ly_v20
  t21 := ly_t21
  a21 := ly_a21
  z21 := ly_z21
  v21 := ly_v21
  t37 := ly_t37
  a37 := ly_a37
  z37 := ly_z37
  v37 := ly_v37
  t46 := ly_t46
  a46 := ly_a46
  z46 := ly_z46
  v46 := ly_v46
  t51 := ly_t51
  a51 := ly_a51
  z51 := ly_z51
  v51 := ly_v51
  t70 := ly_t70
  a70 := ly_a70
  z70 := ly_z70
  v70 := ly_v70
  t72 := ly_t72
  a72 := ly_a72
  z72 := ly_z72
  v72 := ly_v72
  t75 := ly_t75
  a75 := ly_a75
  z75 := ly_z75
  v75 := ly_v75
  t164 := ly_t164
  a164 := ly_a164
  z164 := ly_z164
  v164 := ly_v164
theorem lays169 : Lays.n169 Try.prog rho where
  mixed := ly_mixed
  f169 := ly_f169
  t0 := ly_t0
  a0 := ly_a0
  z0 := ly_z0
  v0 := ly_v0
  t3 := ly_t3
  a3 := ly_a3
  z3 := ly_z3
  v3 := ly_v3
  t9 := ly_t9
  a9 := ly_a9
  z9 := ly_z9
  v9 := ly_v9
  t37 := ly_t37
  a37 := ly_a37
  z37 := ly_z37
  v37 := ly_v37
  t70 := ly_t70
  a70 := ly_a70
  z70 := ly_z70
  v70 := ly_v70
  t72 := ly_t72
  a72 := ly_a72
  z72 := ly_z72
  v72 := ly_v72
  t127 := ly_t127
  a127 := ly_a127
  z127 := ly_z127
  v127 := ly_v127
theorem bX : Builder.Extra Try.prog rho where
  sizeBuilder := by kernel_rfl
  liesBuilder := by kernel_rfl
  t5 := by kernel_rfl
  a5 := fun _ => by kernel_rfl
  z5 := fun _ => by kernel_rfl
  v5 := fun _ => by kernel_rfl
  infoByte := by kernel_rfl
  cellsByte := by kernel_rfl
  sizeByte := by kernel_rfl
  neB5 := by decide
end Go.Proofs.Ytgafkbnlhlbmkaa
