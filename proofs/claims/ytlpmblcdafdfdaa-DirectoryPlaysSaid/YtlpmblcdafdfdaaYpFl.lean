/- The kind 'float64' among the kinds of a print: a float is told by its bits. And what the body-less functions of package math give: no condition. -/
import Derived.Test.YtlpmblcdafdfdaaYpW
import Derived.Laws.FloatArith
import Derived.Laws.Externs
namespace Go.Proofs.YtlpmblcdafdfdaaW.PrintWords
open Go.RowKit
namespace Kd
def float : Kd Nat := Kd.scalar (Value.float .f64) (fun _ => rfl)
end Kd
@[go_sem] theorem unary_float_neg (k : FloatKind) (a : Nat) : Op.unary .neg (.float k a) = pure (.float k (Op.negFloat k a)) := rfl
@[go_sem] theorem run_store_float {P : Program} {w : World} {a : Addr} {m : Mode} (k : FloatKind) (b : Nat) : (store a (.float k b) m).run P w = stored P w a (.float k b) m := run_store P w a _ m rfl
section
variable {P : Program} {f : FuncId} {fn : Func}
end
end Go.Proofs.YtlpmblcdafdfdaaW.PrintWords
