/- directory.to, Announce, Ask and the document's: the packets in plain terms. Conditions: those that each theorem names. -/
import Derived.Test.YtlpmblcdafdfdaaYyGk
import Derived.Test.YtlpmblcdafdfdaaYyDw
import Derived.Test.YtlpmblcdafdfdaaYyKd
namespace Go.Proofs.Ytlpmblcdafdfdaa.PA
open Go.RowKit Go.Proofs.YtlpmblcdafdfdaaW.PrintWords Go.Proofs.YtlpmblcdafdfdaaW.PrintLast Go.Proofs.YtlpmblcdafdfdaaW.PrintMore
set_option linter.unusedVariables false
set_option linter.unusedSimpArgs false
def askedV (a b c : Int) : Int := if (badId a || (b != 0 && badId b)) = true then 20 else if (decide (c < 0) || decide (65536 < c)) = true then 1 else 0
theorem asked_f (a b c : Int) : directory_asked.f 1 a b c = some (askedV a b c) := by
  unfold directory_asked.f askedV
  rw [num_f,num_f,Option.bind_some,Option.bind_some]
  by_cases h1 : badId a = true <;> by_cases h2 : badId b = true <;> by_cases h3 : b = 0 <;> by_cases h4 : c < 0 <;> by_cases h5 : 65536 < c <;> simp [h1,h2,h3,h4,h5,directory_asked.j0,bne]
theorem rnum_f (x : Int) : beaconref20_number.f x = some (!badId x) := by
  unfold beaconref20_number.f
  rw [rid_f,Option.bind_some]
  unfold idV
  by_cases h : badId x = true <;> simp [h]
theorem rasked_f (a b c : Int) : beaconref20_asked.f 1 a b c = some (askedV a b c) := by
  unfold beaconref20_asked.f askedV
  rw [rnum_f,rnum_f,Option.bind_some,Option.bind_some]
  by_cases h1 : badId a = true <;> by_cases h2 : badId b = true <;> by_cases h3 : b = 0 <;> by_cases h4 : c < 0 <;> by_cases h5 : 65536 < c <;> simp [h1,h2,h3,h4,h5,beaconref20_asked.j0,bne]
theorem of_drawn {v : Value} {f : Nat} {args : Array Value} {W : World} (h : Calls Try.prog f args W fun e w' => e = .returned v ∧ Drawn0 W w') : Calls Try.prog f args W fun e w' => e = .returned v ∧ Below W.heap.size W w' :=
  h.mono fun e w' h => ⟨h.1,by obtain ⟨q,hq⟩ := h.2.out;rw [hq];exact pw_below_drewN (Below.refl _ _) q⟩
theorem asked_any (a b c n : Int) (h : askedV a b c = n) (W : World) : Calls Try.prog 41 #[.int .i64 a,.int .i64 b,.int .i64 c] W fun e w' => e = .returned (.int .i64 n) ∧ Below W.heap.size W w' := of_drawn (directory_asked.calls 1 a b c n W (by rw [asked_f,h]))
theorem rasked_any (a b c n : Int) (h : askedV a b c = n) (W : World) : Calls Try.prog 43 #[.int .i64 a,.int .i64 b,.int .i64 c] W fun e w' => e = .returned (.int .i64 n) ∧ Below W.heap.size W w' := of_drawn (beaconref20_asked.calls 1 a b c n W (by rw [rasked_f,h]))
theorem blk_set12 {w : World} {g : Nat} {t : TypeId} {a0 a1 a2 a3 a4 a5 a6 a7 a8 a9 a10 a11 : Value} (h : w.heap[g]? = some (.cells #[a0,a1,a2,a3,a4,a5,a6,a7,a8,a9,a10,a11] t (0,0))) (v0 v1 v2 v3 v4 v5 v6 v7 v8 v9 v10 v11 : Value) :
    ((((((((((((w.setCell ⟨g,0,none⟩ v0).setCell ⟨g,1,none⟩ v1).setCell ⟨g,2,none⟩ v2).setCell ⟨g,3,none⟩ v3).setCell ⟨g,4,none⟩ v4).setCell ⟨g,5,none⟩ v5).setCell ⟨g,6,none⟩ v6).setCell ⟨g,7,none⟩ v7).setCell ⟨g,8,none⟩ v8).setCell ⟨g,9,none⟩ v9).setCell ⟨g,10,none⟩ v10).setCell ⟨g,11,none⟩ v11).heap[g]? = some (.cells #[v0,v1,v2,v3,v4,v5,v6,v7,v8,v9,v10,v11] t (0,0)) := by
  have h := blk_set (blk_set (blk_set (blk_set (blk_set (blk_set (blk_set (blk_set (blk_set (blk_set (blk_set (blk_set h 0 v0) 1 v1) 2 v2) 3 v3) 4 v4) 5 v5) 6 v6) 7 v7) 8 v8) 9 v9) 10 v10) 11 v11
  simpa using h
theorem below_set12 {B : Nat} {w0 w : World} {g : Nat} (h : Below B w0 w) (hg : B ≤ g) (v0 v1 v2 v3 v4 v5 v6 v7 v8 v9 v10 v11 : Value) :
    Below B w0 ((((((((((((w.setCell ⟨g,0,none⟩ v0).setCell ⟨g,1,none⟩ v1).setCell ⟨g,2,none⟩ v2).setCell ⟨g,3,none⟩ v3).setCell ⟨g,4,none⟩ v4).setCell ⟨g,5,none⟩ v5).setCell ⟨g,6,none⟩ v6).setCell ⟨g,7,none⟩ v7).setCell ⟨g,8,none⟩ v8).setCell ⟨g,9,none⟩ v9).setCell ⟨g,10,none⟩ v10).setCell ⟨g,11,none⟩ v11) :=
  ((((((((((((h.setCell hg v0).setCell hg v1).setCell hg v2).setCell hg v3).setCell hg v4).setCell hg v5).setCell hg v6).setCell hg v7).setCell hg v8).setCell hg v9).setCell hg v10).setCell hg v11)
def pkV (p : S30) : Value := .agg #[.int .i64 p.f0,.int .i64 p.f1,.int .i64 p.f2,.int .i64 p.f3,.int .i64 p.f4,.int .i64 p.f5,.int .u64 p.f6,.int .i64 p.f7,.string p.f8,.int .i64 p.f9,.int .i64 p.f10,.string p.f11]
end Go.Proofs.Ytlpmblcdafdfdaa.PA
