/- The kind 'float64' among the kinds of a print: a float is told by its bits. And what the body-less functions of package math give: no condition. -/
import Derived.Test.YtjcnmpkaiopihaaZmW
import Derived.Laws.FloatArith
import Derived.Laws.Externs
namespace Go.Proofs.YtjcnmpkaiopihaaW.PrintWords
open Go.RowKit
namespace Kd
def float : Kd Nat := Kd.scalar (Value.float .f64) (fun _ => rfl)
end Kd
@[go_sem] theorem unary_float_neg (k : FloatKind) (a : Nat) : Op.unary .neg (.float k a) = pure (.float k (Op.negFloat k a)) := rfl
@[go_sem] theorem run_store_float {P : Program} {w : World} {a : Addr} {m : Mode} (k : FloatKind) (b : Nat) : (store a (.float k b) m).run P w = stored P w a (.float k b) m := run_store P w a _ m rfl
def archTruncBits (x : Nat) : Option Nat :=
  match FloatKind.f64.decode x with
  | .nan _ _ => none
  | d => some (FloatKind.f64.encode (d.integral .zero))
section
variable {P : Program} {f : FuncId} {fn : Func}
theorem run_extern_value {e : Array Value → Sem Value} (hf : P.funcs[f]? = some fn) (h1 : (fn.name == "runtime.NumGoroutine") = false) (h2 : fn.body.isNone = true) (h3 : Extern.findNext fn = none) (h4 : Extern.find fn = some e)
    {args : Array Value} {v : Value} {w : World} (he : (e args).run P w = .ok v w) : (callFunc f args).run P w = .ok (.value v) w := by
  rw [run_callFunc_extern hf h1 h2 h3 h4, he]
  rfl
theorem run_Float64bits (hf : P.funcs[f]? = some fn) (h1 : (fn.name == "runtime.NumGoroutine") = false) (h2 : fn.body.isNone = true) (h3 : Extern.findNext fn = none) (h4 : Extern.find fn = some Extern.MathFloatBits.float64bits) :
    ∀ (x : Nat) (w : World), (callFunc f #[.float .f64 x]).run P w = .ok (.value (.int .u64 (x : Int))) w :=
  fun _ _ => run_extern_value hf h1 h2 h3 h4 rfl
theorem run_Float64frombits (hf : P.funcs[f]? = some fn) (h1 : (fn.name == "runtime.NumGoroutine") = false) (h2 : fn.body.isNone = true) (h3 : Extern.findNext fn = none) (h4 : Extern.find fn = some Extern.MathFloatBits.float64frombits) :
    ∀ (x : Int) (w : World), (callFunc f #[.int .u64 x]).run P w = .ok (.value (.float .f64 x.toNat)) w :=
  fun _ _ => run_extern_value hf h1 h2 h3 h4 rfl
theorem run_archTruncBits (hf : P.funcs[f]? = some fn) (h1 : (fn.name == "runtime.NumGoroutine") = false) (h2 : fn.body.isNone = true) (h3 : Extern.findNext fn = none) (h4 : Extern.find fn = some (Extern.MathFloor.toIntegral "math.archTrunc" .zero)) :
    ∀ (x t : Nat), archTruncBits x = some t → ∀ w : World, (callFunc f #[.float .f64 x]).run P w = .ok (.value (.float .f64 t)) w := by
  intro x t h w
  refine run_extern_value hf h1 h2 h3 h4 ?_
  unfold archTruncBits at h
  cases hd : FloatKind.f64.decode x with
  | nan s t' => simp [hd] at h
  | infinity s =>
    simp only [hd] at h
    rw [← Option.some.inj h]
    unfold Extern.MathFloor.toIntegral
    conv => lhs; arg 2; whnf
    rw [hd]
    rfl
  | number s m e =>
    simp only [hd] at h
    rw [← Option.some.inj h]
    unfold Extern.MathFloor.toIntegral
    conv => lhs; arg 2; whnf
    rw [hd]
    rfl
end
end Go.Proofs.YtjcnmpkaiopihaaW.PrintWords
