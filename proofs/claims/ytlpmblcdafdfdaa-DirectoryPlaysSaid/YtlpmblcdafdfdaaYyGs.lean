/- What is compared with itself is the same. Condition of the lists: no more than a directory holds. -/
import Derived.Test.YtlpmblcdafdfdaaYyGx
import Derived.Test.YtlpmblcdafdfdaaYyKd
import Derived.Test.YtlpmblcdafdfdaaYyPAx10
import Derived.Test.YtlpmblcdafdfdaaYyPAx11
import Derived.Test.YtlpmblcdafdfdaaYyPAx15
namespace Go.Proofs.Ytlpmblcdafdfdaa.PA
open Go.RowKit Go.Proofs.YtlpmblcdafdfdaaW.PrintWords Go.Proofs.YtlpmblcdafdfdaaW.PrintLast Go.Proofs.YtlpmblcdafdfdaaW.PrintMore
set_option linter.unusedVariables false
set_option linter.unusedSimpArgs false
theorem same_address (a : S57) : beaconref20_SameAddress.f a.f0 a.f1 a.f2 a.f3 a.f0 a.f1 a.f2 a.f3 = some true := by simp [beaconref20_SameAddress.f]
theorem same_packet (p : S30) : beaconref06_SamePacket.f p.f0 p.f1 p.f2 p.f3 p.f4 p.f5 p.f6 p.f7 p.f8 p.f9 p.f10 p.f11 p.f0 p.f1 p.f2 p.f3 p.f4 p.f5 p.f6 p.f7 p.f8 p.f9 p.f10 p.f11 = some true := by simp [beaconref06_SamePacket.f]
theorem same_all0 (M : List S57) (hM : M.length ≤ 4096) : ∀ (n i k : Nat),i + n = M.length → n < k → beaconref20_SameAll.l0 k M M (i : Int) = some true
  | 0,i,k + 1,e,_ => by
    unfold beaconref20_SameAll.l0
    rw [if_neg (by omega)]
  | n + 1,i,k + 1,e,hk => by
    unfold beaconref20_SameAll.l0
    have hi : i < M.length := by omega
    have ih := same_all0 M hM n (i + 1) k (by omega) (by omega)
    rw [if_pos (by omega),if_pos (by omega),if_pos (by omega),same_address,Option.bind_some,if_pos rfl,w64 (by omega) (by omega),show ((i : Int) + 1) = ((i + 1 : Nat) : Int) by omega]
    exact ih
theorem same_all (M : List S57) (hM : M.length ≤ 4096) : beaconref20_SameAll.f 4100 M M = some true := by
  unfold beaconref20_SameAll.f
  rw [if_pos rfl]
  exact same_all0 M hM M.length 0 4100 (by omega) (by omega)
end Go.Proofs.Ytlpmblcdafdfdaa.PA
