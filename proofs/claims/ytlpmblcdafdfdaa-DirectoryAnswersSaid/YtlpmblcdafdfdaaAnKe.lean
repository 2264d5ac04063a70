/- The kinds of struct types: how a value's cells say it. No condition. -/
import Derived.Test.YtlpmblcdafdfdaaAnKd
import Derived.Test.YtlpmblcdafdfdaaAcPAx0
namespace Go.Proofs.Ytlpmblcdafdfdaa.PA
open Go.RowKit Go.Proofs.YtlpmblcdafdfdaaW.PrintWords Go.Proofs.YtlpmblcdafdfdaaW.PrintLast Go.Proofs.YtlpmblcdafdfdaaW.PrintMore
set_option linter.unusedVariables false
structure S72 where
  f0 : S24
  f1 : S24
def k72 : Kd S72 := Kd.iso (Kd.pair k24 k24) (fun x : S72 => (x.f0,x.f1))
theorem k72_open {w : World} {x : S72} {cs : List Value} (h : k72.K w x cs) : cs = [.int .i64 x.f0.f0,.int .i64 x.f0.f1,.int .i64 x.f0.f2,.int .u64 x.f0.f3,.int .i64 x.f1.f0,.int .i64 x.f1.f1,.int .i64 x.f1.f2,.int .u64 x.f1.f3] := by
  obtain ⟨_,_,rfl,s0,s4⟩ := h
  obtain rfl := k24_open s0
  obtain rfl := k24_open s4
  exact rfl
structure S74 where
  f0 : (List Int)
  f1 : Int
  f2 : Int
def k74 : Kd S74 := Kd.iso (Kd.pair (Kd.slice 3 (Kd.int .i64)) (Kd.pair (Kd.int .i64) (Kd.int .i64))) (fun x : S74 => (x.f0,x.f1,x.f2))
theorem k74_open {w : World} {x : S74} {cs : List Value} (h : k74.K w x cs) : ∃ A0 c0,cs = [.slice A0 x.f0.length c0,.int .i64 x.f1,.int .i64 x.f2] ∧ x.f0.length ≤ c0 ∧ (Kd.int .i64).C w A0 x.f0.length x.f0 := by
  obtain ⟨_,_,rfl,⟨A0,c0,rfl,l0,g0⟩,⟨_,_,rfl,rfl,rfl⟩⟩ := h
  exact ⟨A0,c0,rfl,l0,g0⟩
end Go.Proofs.Ytlpmblcdafdfdaa.PA
