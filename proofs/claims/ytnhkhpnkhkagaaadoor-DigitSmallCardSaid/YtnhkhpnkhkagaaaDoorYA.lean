/- The library's contracts of strings.Builder and others, laid at this program: the numbering, and each field by the kernel. Written by program. -/
import Derived.Shelf.Lays
import Derived.Shelf.Strings.BuilderX
import Derived.KernelRfl
import Derived.Test.YtnhkhpnkhkagaaaDoorProg
namespace Go.Proofs.YtnhkhpnkhkagaaaDoor
open Go.Shelf

def rho : Go.Shelf.Ren := ⟨(fun n => match n with | 165 => 58 | 166 => 60 | 169 => 62 | 240 => 72 | 241 => 73 | 276 => 77 | 277 => 78 | _ => 0), (fun n => match n with | 0 => 0 | 3 => 3 | 4 => 4 | 5 => 5 | 9 => 9 | 20 => 20 | 37 => 39 | 70 => 90 | 72 => 92 | 75 => 95 | 80 => 100 | 127 => 109 | 164 => 110 | _ => 0), (fun n => match n with  | _ => 0)⟩
theorem ly_a0 : ∀ w, (isAgg (rho.t 0)).run Tryd.prog w = .ok false w := fun _ => by kernel_rfl
theorem ly_a127 : ∀ w, (isAgg (rho.t 127)).run Tryd.prog w = .ok false w := fun _ => by kernel_rfl
theorem ly_a164 : ∀ w, (isAgg (rho.t 164)).run Tryd.prog w = .ok false w := fun _ => by kernel_rfl
theorem ly_a20 : ∀ w, (isAgg (rho.t 20)).run Tryd.prog w = .ok false w := fun _ => by kernel_rfl
theorem ly_a3 : ∀ w, (isAgg (rho.t 3)).run Tryd.prog w = .ok false w := fun _ => by kernel_rfl
theorem ly_a37 : ∀ w, (isAgg (rho.t 37)).run Tryd.prog w = .ok false w := fun _ => by kernel_rfl
theorem ly_a4 : ∀ w, (isAgg (rho.t 4)).run Tryd.prog w = .ok false w := fun _ => by kernel_rfl
theorem ly_a70 : ∀ w, (isAgg (rho.t 70)).run Tryd.prog w = .ok false w := fun _ => by kernel_rfl
theorem ly_a72 : ∀ w, (isAgg (rho.t 72)).run Tryd.prog w = .ok true w := fun _ => by kernel_rfl
theorem ly_a75 : ∀ w, (isAgg (rho.t 75)).run Tryd.prog w = .ok false w := fun _ => by kernel_rfl
theorem ly_a9 : ∀ w, (isAgg (rho.t 9)).run Tryd.prog w = .ok false w := fun _ => by kernel_rfl
theorem ly_f165 : Tryd.prog.funcs[rho.f 165]? = some (Body.n165 rho) := by kernel_rfl
theorem ly_f166 : Tryd.prog.funcs[rho.f 166]? = some (Body.n166 rho) := by kernel_rfl
theorem ly_f169 : Tryd.prog.funcs[rho.f 169]? = some (Body.n169 rho) := by kernel_rfl
theorem ly_f240 : Tryd.prog.funcs[rho.f 240]? = some (Body.n240 rho) := by kernel_rfl
theorem ly_f241 : Tryd.prog.funcs[rho.f 241]? = some (Body.n241 rho) := by kernel_rfl
theorem ly_f276 : Tryd.prog.funcs[rho.f 276]? = some (Body.n276 rho) := by kernel_rfl
theorem ly_f277 : Tryd.prog.funcs[rho.f 277]? = some (Body.n277 rho) := by kernel_rfl
theorem ly_mixed : Tryd.prog.follows .mixedOrders = true := by kernel_rfl
theorem ly_t0 : Tryd.prog.underlying (rho.t 0) = some (TypeDesc.tuple #[]) := by kernel_rfl
theorem ly_t127 : Tryd.prog.underlying (rho.t 127) = some (TypeDesc.pointer (rho.t 5)) := by kernel_rfl
theorem ly_t164 : Tryd.prog.underlying (rho.t 164) = some (TypeDesc.unsafePointer) := by kernel_rfl
theorem ly_t20 : Tryd.prog.underlying (rho.t 20) = some (TypeDesc.interface #[]) := by kernel_rfl
theorem ly_t3 : Tryd.prog.underlying (rho.t 3) = some (TypeDesc.int IntKind.i64) := by kernel_rfl
theorem ly_t37 : Tryd.prog.underlying (rho.t 37) = some (TypeDesc.slice (rho.t 5)) := by kernel_rfl
theorem ly_t4 : Tryd.prog.underlying (rho.t 4) = some (TypeDesc.bool) := by kernel_rfl
theorem ly_t70 : Tryd.prog.underlying (rho.t 70) = some (TypeDesc.pointer (rho.t 72)) := by kernel_rfl
theorem ly_t72 : Tryd.prog.underlying (rho.t 72) = some (TypeDesc.struct #[{ name := "addr", type := rho.t 70, offset := 0, embedded := false, tag := "", pkgPath := "strings", byteOffset := 0 }, { name := "buf", type := rho.t 37, offset := 1, embedded := false, tag := "", pkgPath := "strings", byteOffset := 8 }]) := by kernel_rfl
theorem ly_t75 : Tryd.prog.underlying (rho.t 75) = some (TypeDesc.interface #[("Error", rho.t 80)]) := by kernel_rfl
theorem ly_t9 : Tryd.prog.underlying (rho.t 9) = some (TypeDesc.string) := by kernel_rfl
theorem ly_v0 : ∀ w, (zeroValue (rho.t 0)).run Tryd.prog w = .ok (Value.tuple #[]) w := fun _ => by kernel_rfl
theorem ly_v127 : ∀ w, (zeroValue (rho.t 127)).run Tryd.prog w = .ok (Value.pointer none) w := fun _ => by kernel_rfl
theorem ly_v164 : ∀ w, (zeroValue (rho.t 164)).run Tryd.prog w = .ok (Value.pointer none) w := fun _ => by kernel_rfl
theorem ly_v20 : ∀ w, (zeroValue (rho.t 20)).run Tryd.prog w = .ok (Value.nilIface) w := fun _ => by kernel_rfl
theorem ly_v3 : ∀ w, (zeroValue (rho.t 3)).run Tryd.prog w = .ok (Value.int IntKind.i64 0) w := fun _ => by kernel_rfl
theorem ly_v37 : ∀ w, (zeroValue (rho.t 37)).run Tryd.prog w = .ok (Value.slice none 0 0) w := fun _ => by kernel_rfl
theorem ly_v4 : ∀ w, (zeroValue (rho.t 4)).run Tryd.prog w = .ok (Value.bool false) w := fun _ => by kernel_rfl
theorem ly_v70 : ∀ w, (zeroValue (rho.t 70)).run Tryd.prog w = .ok (Value.pointer none) w := fun _ => by kernel_rfl
theorem ly_v72 : ∀ w, (zeroValue (rho.t 72)).run Tryd.prog w = .ok (Value.agg #[Value.pointer none, Value.slice none 0 0]) w := fun _ => by kernel_rfl
theorem ly_v75 : ∀ w, (zeroValue (rho.t 75)).run Tryd.prog w = .ok (Value.nilIface) w := fun _ => by kernel_rfl
theorem ly_v9 : ∀ w, (zeroValue (rho.t 9)).run Tryd.prog w = .ok (Value.string { data := #[] }) w := fun _ => by kernel_rfl
theorem ly_z0 : ∀ w, (Go.sizeOf (rho.t 0)).run Tryd.prog w = .ok 1 w := fun _ => by kernel_rfl
theorem ly_z127 : ∀ w, (Go.sizeOf (rho.t 127)).run Tryd.prog w = .ok 1 w := fun _ => by kernel_rfl
theorem ly_z164 : ∀ w, (Go.sizeOf (rho.t 164)).run Tryd.prog w = .ok 1 w := fun _ => by kernel_rfl
theorem ly_z20 : ∀ w, (Go.sizeOf (rho.t 20)).run Tryd.prog w = .ok 1 w := fun _ => by kernel_rfl
theorem ly_z3 : ∀ w, (Go.sizeOf (rho.t 3)).run Tryd.prog w = .ok 1 w := fun _ => by kernel_rfl
theorem ly_z37 : ∀ w, (Go.sizeOf (rho.t 37)).run Tryd.prog w = .ok 1 w := fun _ => by kernel_rfl
theorem ly_z4 : ∀ w, (Go.sizeOf (rho.t 4)).run Tryd.prog w = .ok 1 w := fun _ => by kernel_rfl
theorem ly_z70 : ∀ w, (Go.sizeOf (rho.t 70)).run Tryd.prog w = .ok 1 w := fun _ => by kernel_rfl
theorem ly_z72 : ∀ w, (Go.sizeOf (rho.t 72)).run Tryd.prog w = .ok 2 w := fun _ => by kernel_rfl
theorem ly_z75 : ∀ w, (Go.sizeOf (rho.t 75)).run Tryd.prog w = .ok 1 w := fun _ => by kernel_rfl
theorem ly_z9 : ∀ w, (Go.sizeOf (rho.t 9)).run Tryd.prog w = .ok 1 w := fun _ => by kernel_rfl
theorem lays165 : Lays.n165 Tryd.prog rho where
  mixed := ly_mixed
  f165 := ly_f165
  f240 := ly_f240
  f241 := ly_f241
  f276 := ly_f276
  f277 := ly_f277
  t0 := ly_t0
  a0 := ly_a0
  z0 := ly_z0
  v0 := ly_v0
  t3 := ly_t3
  a3 := ly_a3
  z3 := ly_z3
  v3 := ly_v3
  t4 := ly_t4
  a4 := ly_a4
  z4 := ly_z4
  v4 := ly_v4
  t9 := ly_t9
  a9 := ly_a9
  z9 := ly_z9
  v9 := ly_v9
  t20 := ly_t20
  a20 := ly_a20
  z20 := ly_z20
  v20 := ly_v20
  t37 := ly_t37
  a37 := ly_a37
  z37 := ly_z37
  v37 := ly_v37
  t70 := ly_t70
  a70 := ly_a70
  z70 := ly_z70
  v70 := ly_v70
  t72 := ly_t72
  a72 := ly_a72
  z72 := ly_z72
  v72 := ly_v72
  t164 := ly_t164
  a164 := ly_a164
  z164 := ly_z164
  v164 := ly_v164
theorem lays166 : Lays.n166 Tryd.prog rho where
  mixed := ly_mixed
  f166 := ly_f166
  f240 := ly_f240
  f276 := ly_f276
  t0 := ly_t0
  a0 := ly_a0
  z0 := ly_z0
  v0 := ly_v0
  t3 := ly_t3
  a3 := ly_a3
  z3 := ly_z3
  v3 := ly_v3
  t4 := ly_t4
  a4 := ly_a4
  z4 := ly_z4
  v4 := ly_v4
  t9 := ly_t9
  a9 := ly_a9
  z9 := ly_z9
  v9 := ly_v9
  t20 := ly_t20
  a20 := ly_a20
  z20 := ly_z20
  v20 := ly_v20
  t37 := ly_t37
  a37 := ly_a37
  z37 := ly_z37
  v37 := ly_v37
  t70 := ly_t70
  a70 := ly_a70
  z70 := ly_z70
  v70 := ly_v70
  t72 := ly_t72
  a72 := ly_a72
  z72 := ly_z72
  v72 := ly_v72
  t75 := ly_t75
  a75 := ly_a75
  z75 := ly_z75
  v75 := ly_v75
  t164 := ly_t164
  a164 := ly_a164
  z164 := ly_z164
  v164 := ly_v164
theorem lays169 : Lays.n169 Tryd.prog rho where
  mixed := ly_mixed
  f169 := ly_f169
  t0 := ly_t0
  a0 := ly_a0
  z0 := ly_z0
  v0 := ly_v0
  t3 := ly_t3
  a3 := ly_a3
  z3 := ly_z3
  v3 := ly_v3
  t9 := ly_t9
  a9 := ly_a9
  z9 := ly_z9
  v9 := ly_v9
  t37 := ly_t37
  a37 := ly_a37
  z37 := ly_z37
  v37 := ly_v37
  t70 := ly_t70
  a70 := ly_a70
  z70 := ly_z70
  v70 := ly_v70
  t72 := ly_t72
  a72 := ly_a72
  z72 := ly_z72
  v72 := ly_v72
  t127 := ly_t127
  a127 := ly_a127
  z127 := ly_z127
  v127 := ly_v127
theorem bX : Builder.Extra Tryd.prog rho where
  sizeBuilder := by kernel_rfl
  liesBuilder := by kernel_rfl
  t5 := by kernel_rfl
  a5 := fun _ => by kernel_rfl
  z5 := fun _ => by kernel_rfl
  v5 := fun _ => by kernel_rfl
  infoByte := by kernel_rfl
  cellsByte := by kernel_rfl
  sizeByte := by kernel_rfl
  neB5 := by decide
end Go.Proofs.YtnhkhpnkhkagaaaDoor
