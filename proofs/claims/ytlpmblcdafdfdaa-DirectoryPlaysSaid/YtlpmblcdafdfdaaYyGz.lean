/- The document's Get, in plain terms. Condition: no more than a directory holds. -/
import Derived.Test.YtlpmblcdafdfdaaYyGx
namespace Go.Proofs.Ytlpmblcdafdfdaa.PA
open Go.RowKit Go.Proofs.YtlpmblcdafdfdaaW.PrintWords Go.Proofs.YtlpmblcdafdfdaaW.PrintLast Go.Proofs.YtlpmblcdafdfdaaW.PrintMore
set_option linter.unusedVariables false
set_option linter.unusedSimpArgs false
theorem rget_f (M : List S57) (hM : M.length ≤ 4096) (s : ByteArray) (life : Int) : beaconref20_Get.f 4100 life M s = some ((adOr (adGet s M)).f0,(adOr (adGet s M)).f1,(adOr (adGet s M)).f2,(adOr (adGet s M)).f3,(adGet s M).isSome) := by
  unfold beaconref20_Get.f
  rw [place_f M hM,Option.bind_some]
  cases h : adGet s M with
  | none =>
    rw [placeN_none h,if_pos (by decide)]
    rfl
  | some a =>
    obtain ⟨j,h2,h3⟩ := placeN_some (i := 0) h
    obtain ⟨hj,ha⟩ := List.getElem?_eq_some_iff.1 h3
    rw [Int.zero_add] at h2
    rw [h2,if_neg (by omega),if_pos (by omega),if_pos (by omega),rd57 M j hj,ha]
    rfl
theorem rget_any (life : Int) (A : Option Addr) (c : Nat) (M : List S57) (hM : M.length ≤ 4096) (s : ByteArray) (W : World) (hr : Kd.C k57 W A M.length M) (hc : M.length ≤ c) :
    Calls Try.prog 26 #[.agg #[.int .i64 life,.slice A M.length c],.string s] W fun e w' => e = .returned (.tuple #[adV (adOr (adGet s M)),.bool (adGet s M).isSome]) ∧ Below W.heap.size W w' :=
  beaconref20_Get.calls 4100 life A c M s _ _ _ _ _ W hr hc (rget_f M hM s life)
end Go.Proofs.Ytlpmblcdafdfdaa.PA
