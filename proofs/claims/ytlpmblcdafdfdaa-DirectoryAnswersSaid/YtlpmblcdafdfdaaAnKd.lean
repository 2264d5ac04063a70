/- The kinds of struct types: how a value's cells say it. No condition. -/
import Derived.Test.YtlpmblcdafdfdaaAcPAx0
namespace Go.Proofs.Ytlpmblcdafdfdaa.PA
open Go.RowKit Go.Proofs.YtlpmblcdafdfdaaW.PrintWords Go.Proofs.YtlpmblcdafdfdaaW.PrintLast Go.Proofs.YtlpmblcdafdfdaaW.PrintMore
set_option linter.unusedVariables false
structure S30 where
  f0 : Int
  f1 : Int
  f2 : Int
  f3 : Int
  f4 : Int
  f5 : Int
  f6 : Int
  f7 : Int
  f8 : ByteArray
  f9 : Int
  f10 : Int
  f11 : ByteArray
def z30 : S30 := ⟨(0 : Int),(0 : Int),(0 : Int),(0 : Int),(0 : Int),(0 : Int),(0 : Int),(0 : Int),(⟨#[]⟩ : ByteArray),(0 : Int),(0 : Int),(⟨#[]⟩ : ByteArray)⟩
structure S46 where
  f0 : Int
  f1 : ByteArray
  f2 : Int
  f3 : Int
  f4 : Int
  f5 : S30
def z46 : S46 := ⟨(0 : Int),(⟨#[]⟩ : ByteArray),(0 : Int),(0 : Int),(0 : Int),z30⟩
structure S24 where
  f0 : Int
  f1 : Int
  f2 : Int
  f3 : Int
def z24 : S24 := ⟨(0 : Int),(0 : Int),(0 : Int),(0 : Int)⟩
def k24 : Kd S24 := Kd.iso (Kd.pair (Kd.int .i64) (Kd.pair (Kd.int .i64) (Kd.pair (Kd.int .i64) (Kd.int .u64)))) (fun x : S24 => (x.f0,x.f1,x.f2,x.f3))
theorem k24_open {w : World} {x : S24} {cs : List Value} (h : k24.K w x cs) : cs = [.int .i64 x.f0,.int .i64 x.f1,.int .i64 x.f2,.int .u64 x.f3] := by
  obtain ⟨_,_,rfl,rfl,⟨_,_,rfl,rfl,⟨_,_,rfl,rfl,rfl⟩⟩⟩ := h
  exact rfl
end Go.Proofs.Ytlpmblcdafdfdaa.PA
