/- Chapter 18: the tables are built. -/
import Derived.Test.YtjhgihgggofocaaFT
import Derived.Test.YtjhgihgggofocaaT
import Derived.KernelRfl
namespace Go.Proofs.Ytjhgihgggofocaa
open Go.RowKit
set_option maxRecDepth 100000 in
theorem ev_tabs {n : Nat} {S : Slots} {w : World} {o : Oper} {x y : Operand} (ho : o.op = .build 101 #[(0, x), (1, y)]) (hx : ev S x = some (.agg (u8s pwL).toArray)) (hy : ev S y = some (.agg (u8s lgL).toArray)) : Ev Try.prog n o S w (.agg tabs.toArray) := fun a ha => by
  simp only [execOp, ho]
  have e : (#[(0, x), (1, y)].map fun (i, x) => (i, a.eval x)) = #[(0, .agg (u8s pwL).toArray), (1, .agg (u8s lgL).toArray)] := by
    simp [ha.eval hx, ha.eval hy]
  rw [e]
  change _ = _
  kernel_rfl
end Go.Proofs.Ytjhgihgggofocaa
