/- beaconlaw20.awake: a directory of its own keeps a name. No condition. -/
import Derived.Test.YtlpmblcdafdfdaaYyDb
namespace Go.Proofs.Ytlpmblcdafdfdaa.PA
open Go.RowKit Go.Proofs.YtlpmblcdafdfdaaW.PrintWords Go.Proofs.YtlpmblcdafdfdaaW.PrintLast Go.Proofs.YtlpmblcdafdfdaaW.PrintMore
set_option linter.unusedVariables false
set_option linter.unusedSimpArgs false
def beaconlaw20_awake.f : Option Bool := some true
def nmA : ByteArray := ⟨#[97]⟩
theorem nmA_ok : nameV nmA = 0 := by decide +kernel
theorem FrameD.below {w w1 w2 : World} {b : Nat} (h : Below w.heap.size w w1) (hb : w.heap.size ≤ b) (hg : w1.grownBy w2 (some b)) : Below w.heap.size w w2 :=
  pw_below_grown h _ h.size hg (fun k e => by cases e;exact hb)
set_option maxRecDepth 100000 in
theorem beaconlaw20_awake.calls (r : Bool) (w : World) (h : beaconlaw20_awake.f = some r) : Calls Try.prog 15 #[] w fun e w' => e = .returned (.bool r) ∧ Below w.heap.size w w' := by
  obtain rfl : true = r := Option.some.inj h
  have hE : putE [] nmA 5 1 = 0 := putE_ok nmA_ok (by decide) (by simp)
  have hL : putL 2 [] nmA 5 1 = [⟨nmA,5,1,2⟩] := putL_ok hE
  have hG : adGet nmA [⟨nmA,5,1,2⟩] = some ⟨nmA,5,1,2⟩ := by simp [adGet]
  have HE := Aside0.mk hE
  have HL := Aside0.mk hL
  have HG := Aside0.mk hG
  have hu57 := Try.underlying57
  clear hE hL hG h
  go_enter Try.func15,Try.ntmps15
  go_wp2_with (first | (go_at_call 16;refine (new_yes 2 _ (by decide) (by decide)).mono ?_;rintro e w1 ⟨g,b,rfl,hg,hb,hd,hbl⟩;have HB1 := Aside0.mk hbl;have HD1 := Aside0.mk (show DirAt w1 g b 2 [] from hd);have BB := Aside0.mk hb;clear hg hb hd hbl) | (go_at_call 19;refine (put_live HD1.out nmA 5 1).mono ?_;rintro e w2 ⟨rfl,hd,hgr⟩;rw [HE.out];rw [HL.out] at hd;have HD2 := Aside0.mk hd;have HB2 := Aside0.mk (FrameD.below HB1.out BB.out hgr);clear hd hgr) | (go_at_call 25;refine (get_dir HD2.out nmA).mono ?_;rintro e w3 ⟨rfl,hb3⟩;rw [HG.out];have HB3 := Aside0.mk (below_then HB2.out HB2.out.size hb3);clear hb3;simp only [adOr,adV,Option.getD_some,Option.isSome_some]))
  go_ret
  exact ⟨rfl,below_alloc HB3.out _⟩
end Go.Proofs.Ytlpmblcdafdfdaa.PA
