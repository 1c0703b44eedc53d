/- The library's contracts of strings.Builder and others, laid at this program: the numbering, and each field by the kernel. Written by program. -/
import Derived.Shelf.Lays
import Derived.Shelf.Strings.BuilderX
import Derived.KernelRfl
import Derived.Test.YtlbcjhbdkeeahaaProg
namespace Go.Proofs.Ytlbcjhbdkeeahaa
open Go.Shelf

def rho : Go.Shelf.Ren := ⟨(fun n => match n with | 156 => 24 | 165 => 43 | 166 => 44 | 169 => 45 | 240 => 51 | 241 => 52 | 276 => 57 | 277 => 58 | _ => 0), (fun n => match n with | 0 => 0 | 3 => 3 | 4 => 4 | 5 => 5 | 9 => 9 | 20 => 20 | 31 => 32 | 37 => 23 | 70 => 57 | 72 => 59 | 75 => 62 | 76 => 63 | 80 => 65 | 127 => 69 | 164 => 72 | _ => 0), (fun n => match n with  | _ => 0)⟩
theorem ly_a0 : ∀ w, (isAgg (rho.t 0)).run Try.prog w = .ok false w := fun _ => by kernel_rfl
theorem ly_a127 : ∀ w, (isAgg (rho.t 127)).run Try.prog w = .ok false w := fun _ => by kernel_rfl
theorem ly_a164 : ∀ w, (isAgg (rho.t 164)).run Try.prog w = .ok false w := fun _ => by kernel_rfl
theorem ly_a20 : ∀ w, (isAgg (rho.t 20)).run Try.prog w = .ok false w := fun _ => by kernel_rfl
theorem ly_a3 : ∀ w, (isAgg (rho.t 3)).run Try.prog w = .ok false w := fun _ => by kernel_rfl
theorem ly_a31 : ∀ w, (isAgg (rho.t 31)).run Try.prog w = .ok false w := fun _ => by kernel_rfl
theorem ly_a37 : ∀ w, (isAgg (rho.t 37)).run Try.prog w = .ok false w := fun _ => by kernel_rfl
theorem ly_a4 : ∀ w, (isAgg (rho.t 4)).run Try.prog w = .ok false w := fun _ => by kernel_rfl
theorem ly_a70 : ∀ w, (isAgg (rho.t 70)).run Try.prog w = .ok false w := fun _ => by kernel_rfl
theorem ly_a72 : ∀ w, (isAgg (rho.t 72)).run Try.prog w = .ok true w := fun _ => by kernel_rfl
theorem ly_a75 : ∀ w, (isAgg (rho.t 75)).run Try.prog w = .ok false w := fun _ => by kernel_rfl
theorem ly_a76 : ∀ w, (isAgg (rho.t 76)).run Try.prog w = .ok false w := fun _ => by kernel_rfl
theorem ly_a9 : ∀ w, (isAgg (rho.t 9)).run Try.prog w = .ok false w := fun _ => by kernel_rfl
theorem ly_f156 : Try.prog.funcs[rho.f 156]? = some (Body.n156 rho) := by kernel_rfl
theorem ly_f165 : Try.prog.funcs[rho.f 165]? = some (Body.n165 rho) := by kernel_rfl
theorem ly_f166 : Try.prog.funcs[rho.f 166]? = some (Body.n166 rho) := by kernel_rfl
theorem ly_f169 : Try.prog.funcs[rho.f 169]? = some (Body.n169 rho) := by kernel_rfl
theorem ly_f240 : Try.prog.funcs[rho.f 240]? = some (Body.n240 rho) := by kernel_rfl
theorem ly_f241 : Try.prog.funcs[rho.f 241]? = some (Body.n241 rho) := by kernel_rfl
theorem ly_f276 : Try.prog.funcs[rho.f 276]? = some (Body.n276 rho) := by kernel_rfl
theorem ly_f277 : Try.prog.funcs[rho.f 277]? = some (Body.n277 rho) := by kernel_rfl
theorem ly_mixed : Try.prog.follows .mixedOrders = true := by kernel_rfl
theorem ly_t0 : Try.prog.underlying (rho.t 0) = some (TypeDesc.tuple #[]) := by kernel_rfl
theorem ly_t127 : Try.prog.underlying (rho.t 127) = some (TypeDesc.pointer (rho.t 5)) := by kernel_rfl
theorem ly_t164 : Try.prog.underlying (rho.t 164) = some (TypeDesc.unsafePointer) := by kernel_rfl
theorem ly_t20 : Try.prog.underlying (rho.t 20) = some (TypeDesc.interface #[]) := by kernel_rfl
theorem ly_t3 : Try.prog.underlying (rho.t 3) = some (TypeDesc.int IntKind.i64) := by kernel_rfl
theorem ly_t31 : Try.prog.underlying (rho.t 31) = some (TypeDesc.slice (rho.t 9)) := by kernel_rfl
theorem ly_t37 : Try.prog.underlying (rho.t 37) = some (TypeDesc.slice (rho.t 5)) := by kernel_rfl
theorem ly_t4 : Try.prog.underlying (rho.t 4) = some (TypeDesc.bool) := by kernel_rfl
theorem ly_t70 : Try.prog.underlying (rho.t 70) = some (TypeDesc.pointer (rho.t 72)) := by kernel_rfl
theorem ly_t72 : Try.prog.underlying (rho.t 72) = some (TypeDesc.struct #[{ name := "addr", type := rho.t 70, offset := 0, embedded := false, tag := "", pkgPath := "strings", byteOffset := 0 }, { name := "buf", type := rho.t 37, offset := 1, embedded := false, tag := "", pkgPath := "strings", byteOffset := 8 }]) := by kernel_rfl
theorem ly_t75 : Try.prog.underlying (rho.t 75) = some (TypeDesc.interface #[("Error", rho.t 80)]) := by kernel_rfl
theorem ly_t76 : Try.prog.underlying (rho.t 76) = some (TypeDesc.tuple #[rho.t 3, rho.t 75]) := by kernel_rfl
theorem ly_t9 : Try.prog.underlying (rho.t 9) = some (TypeDesc.string) := by kernel_rfl
theorem ly_v0 : ∀ w, (zeroValue (rho.t 0)).run Try.prog w = .ok (Value.tuple #[]) w := fun _ => by kernel_rfl
theorem ly_v127 : ∀ w, (zeroValue (rho.t 127)).run Try.prog w = .ok (Value.pointer none) w := fun _ => by kernel_rfl
theorem ly_v164 : ∀ w, (zeroValue (rho.t 164)).run Try.prog w = .ok (Value.pointer none) w := fun _ => by kernel_rfl
theorem ly_v20 : ∀ w, (zeroValue (rho.t 20)).run Try.prog w = .ok (Value.nilIface) w := fun _ => by kernel_rfl
theorem ly_v3 : ∀ w, (zeroValue (rho.t 3)).run Try.prog w = .ok (Value.int IntKind.i64 0) w := fun _ => by kernel_rfl
theorem ly_v31 : ∀ w, (zeroValue (rho.t 31)).run Try.prog w = .ok (Value.slice none 0 0) w := fun _ => by kernel_rfl
theorem ly_v37 : ∀ w, (zeroValue (rho.t 37)).run Try.prog w = .ok (Value.slice none 0 0) w := fun _ => by kernel_rfl
theorem ly_v4 : ∀ w, (zeroValue (rho.t 4)).run Try.prog w = .ok (Value.bool false) w := fun _ => by kernel_rfl
theorem ly_v70 : ∀ w, (zeroValue (rho.t 70)).run Try.prog w = .ok (Value.pointer none) w := fun _ => by kernel_rfl
theorem ly_v72 : ∀ w, (zeroValue (rho.t 72)).run Try.prog w = .ok (Value.agg #[Value.pointer none, Value.slice none 0 0]) w := fun _ => by kernel_rfl
theorem ly_v75 : ∀ w, (zeroValue (rho.t 75)).run Try.prog w = .ok (Value.nilIface) w := fun _ => by kernel_rfl
theorem ly_v76 : ∀ w, (zeroValue (rho.t 76)).run Try.prog w = .ok (Value.tuple #[Value.int IntKind.i64 0, Value.nilIface]) w := fun _ => by kernel_rfl
theorem ly_v9 : ∀ w, (zeroValue (rho.t 9)).run Try.prog w = .ok (Value.string { data := #[] }) w := fun _ => by kernel_rfl
theorem ly_z0 : ∀ w, (Go.sizeOf (rho.t 0)).run Try.prog w = .ok 1 w := fun _ => by kernel_rfl
theorem ly_z127 : ∀ w, (Go.sizeOf (rho.t 127)).run Try.prog w = .ok 1 w := fun _ => by kernel_rfl
theorem ly_z164 : ∀ w, (Go.sizeOf (rho.t 164)).run Try.prog w = .ok 1 w := fun _ => by kernel_rfl
theorem ly_z20 : ∀ w, (Go.sizeOf (rho.t 20)).run Try.prog w = .ok 1 w := fun _ => by kernel_rfl
theorem ly_z3 : ∀ w, (Go.sizeOf (rho.t 3)).run Try.prog w = .ok 1 w := fun _ => by kernel_rfl
theorem ly_z31 : ∀ w, (Go.sizeOf (rho.t 31)).run Try.prog w = .ok 1 w := fun _ => by kernel_rfl
theorem ly_z37 : ∀ w, (Go.sizeOf (rho.t 37)).run Try.prog w = .ok 1 w := fun _ => by kernel_rfl
theorem ly_z4 : ∀ w, (Go.sizeOf (rho.t 4)).run Try.prog w = .ok 1 w := fun _ => by kernel_rfl
theorem ly_z70 : ∀ w, (Go.sizeOf (rho.t 70)).run Try.prog w = .ok 1 w := fun _ => by kernel_rfl
theorem ly_z72 : ∀ w, (Go.sizeOf (rho.t 72)).run Try.prog w = .ok 2 w := fun _ => by kernel_rfl
theorem ly_z75 : ∀ w, (Go.sizeOf (rho.t 75)).run Try.prog w = .ok 1 w := fun _ => by kernel_rfl
theorem ly_z76 : ∀ w, (Go.sizeOf (rho.t 76)).run Try.prog w = .ok 1 w := fun _ => by kernel_rfl
theorem ly_z9 : ∀ w, (Go.sizeOf (rho.t 9)).run Try.prog w = .ok 1 w := fun _ => by kernel_rfl
theorem lays156 : Lays.n156 Try.prog rho where
  mixed := ly_mixed
  f156 := ly_f156
  f165 := ly_f165
  f166 := ly_f166
  f169 := ly_f169
  f240 := ly_f240
  f241 := ly_f241
  f276 := ly_f276
  f277 := ly_f277
  t0 := ly_t0
  a0 := ly_a0
  z0 := ly_z0
  v0 := ly_v0
  t3 := ly_t3
  a3 := ly_a3
  z3 := ly_z3
  v3 := ly_v3
  t4 := ly_t4
  a4 := ly_a4
  z4 := ly_z4
  v4 := ly_v4
  t9 := ly_t9
  a9 := ly_a9
  z9 := ly_z9
  v9 := ly_v9
  t20 := ly_t20
  a20 := ly_a20
  z20 := ly_z20
  v20 := ly_v20
  t31 := ly_t31
  a31 := ly_a31
  z31 := ly_z31
  v31 := ly_v31
  t37 := ly_t37
  a37 := ly_a37
  z37 := ly_z37
  v37 := ly_v37
  t70 := ly_t70
  a70 := ly_a70
  z70 := ly_z70
  v70 := ly_v70
  t72 := ly_t72
  a72 := ly_a72
  z72 := ly_z72
  v72 := ly_v72
  t75 := ly_t75
  a75 := ly_a75
  z75 := ly_z75
  v75 := ly_v75
  t76 := ly_t76
  a76 := ly_a76
  z76 := ly_z76
  v76 := ly_v76
  t127 := ly_t127
  a127 := ly_a127
  z127 := ly_z127
  v127 := ly_v127
  t164 := ly_t164
  a164 := ly_a164
  z164 := ly_z164
  v164 := ly_v164
theorem bX : Builder.Extra Try.prog rho where
  sizeBuilder := by kernel_rfl
  liesBuilder := by kernel_rfl
  t5 := by kernel_rfl
  a5 := fun _ => by kernel_rfl
  z5 := fun _ => by kernel_rfl
  v5 := fun _ => by kernel_rfl
  infoByte := by kernel_rfl
  cellsByte := by kernel_rfl
  sizeByte := by kernel_rfl
  neB5 := by decide
end Go.Proofs.Ytlbcjhbdkeeahaa
