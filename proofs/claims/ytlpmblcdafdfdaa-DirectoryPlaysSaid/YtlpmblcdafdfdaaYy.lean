/- DirectoryPlays: whatever comes in, the law answers true, and what came in stays as it was. No condition. -/
import Derived.Test.YtlpmblcdafdfdaaRows
import Derived.Test.YtlpmblcdafdfdaaYyDx
import Derived.Test.YtlpmblcdafdfdaaYyPureDirectoryPlays
import Derived.WalkKit
import Derived.ProofKit
import Derived.OpenShut
import Derived.ShutString
import Derived.ChangeOld
import Derived.Below
import Derived.SizedLaws
import Derived.Laws.Cover2
namespace Go.Proofs.Ytlpmblcdafdfdaa.directoryPlays
open Go.ChangeShapes Go.WideShapes Go.ChangeAt Go.RowKit Go.Proofs.Ytlpmblcdafdfdaa.PA Go.Proofs.YtlpmblcdafdfdaaW.PrintWords
open Go.ChangeMaps (open_string shut_string)
set_option linter.unusedVariables false
theorem own : ownKnob Try.prog.godebug = none := by kernel_rfl
theorem laidOut : laidOutB Try.prog = true := by kernel_rfl
set_option maxRecDepth 100000 in
theorem lifted (os : Os) (started : os.Started) (H : Type) (enc : TypeId × Value → H) :
    ReturnsInHanded {} Try.checked os 4 .any (Rows.directoryPlaysSpec.pre6 enc Try.prog Try.f4 Rows.directoryPlaysRow.domain false) (Rows.directoryPlaysSpec.post enc Try.prog Try.f4 false true false false) := by
  refine returnsInHanded_of_change_sized (C := Try.checked) own started (by kernel_rfl) Try.func4
    (ChangeSpec.witness6 (enc := enc) (C := Try.checked) false ⟨#[],#[.int .i64 0,.slice none 0 0],[]⟩ 8 (by kernel_rfl) (by kernel_rfl) (by kernel_rfl) (by kernel_rfl)) ?_
  intro W base args ds gs before hval0 hW hcnd hsz0 _
  have hsz : (DataW.weightsEach Try.prog (Try.f4.params.toList ++ Rows.directoryPlaysSpec.plain.varTypes Try.prog) (ds ++ gs)).all (· ≤ reachBytes) = true := hsz0
  have hval : ∀ (j : Nat) t v,Try.f4.params[j]? = some t → args[j]? = some v → Value.okWide Try.prog W .any base t v := hval0
  have hW' := hW
  obtain ⟨p,q,hA0,hV,rfl,hfz,hnd⟩ := hW
  have hA : DataW.TrodAll enc Try.prog W 0 (fun _ => true) true Try.f4.params.toList args.toList ds p := hA0
  rw [Try.params4] at hA hval hsz
  obtain ⟨v0,vs0,d0,ds0,p0,q0,hargs,rfl,rfl,h0,r0⟩ := trodAll_cons hA
  obtain ⟨v1,vs1,d1,ds1,p1,q1,rfl,rfl,rfl,h1,r1⟩ := trodAll_cons r0
  obtain ⟨rfl,rfl,rfl⟩ := trodAll_nil r1
  obtain rfl : args = #[v0,v1] := by cases args;simp_all
  obtain ⟨rfl,rfl⟩ := trodVars_none hV
  have z0 := weights_of hsz (j := 0) (t := 3) (d := d0) rfl rfl
  have lt0 : ∀ x ∈ p0,x.block < W.heap.size := by obtain ⟨m,hm⟩ := h0;exact DataW.trod_lt m _ _ _ hm
  have k0_ := h0
  obtain ⟨a0,rfl,rfl,rfl,w0⟩ := open_int Try.underlying3 (hval 0 3 v0 rfl rfl) h0
  have z1 := weights_of hsz (j := 1) (t := 36) (d := d1) rfl rfl
  have lt1 : ∀ x ∈ p1,x.block < W.heap.size := by obtain ⟨m,hm⟩ := h1;exact DataW.trod_lt m _ _ _ hm
  have k1_ := h1
  obtain ⟨u1,n1_,c1_,rfl⟩ := okWide_slice Try.underlying36 (hval 1 36 v1 rfl rfl)
  obtain ⟨l1,⟨A1,c1,e1,hc1,hr1⟩,w1⟩ := opens_arg o36 h1 z1
  obtain ⟨rfl,rfl,rfl⟩ : u1 = A1 ∧ n1_ = l1.length ∧ c1_ = c1 := by simpa [Value.cells] using e1
  have h := DirectoryPlays_pure a0 l1 w0 w1
  clear hA0 hval0 hsz0 hsz
  refine (beaconlaw20_DirectoryPlays.calls a0 u1 c1_ l1 true W hr1 hc1 h).mono ?_
  rintro e W' ⟨rfl,bel⟩
  exact ⟨_,rfl,_,_,_,[],_,[],hW',trodAll_mk1 (shut_bool Try.underlying4 _),(trodAll_cons_mk (Below.trod laidOut (by kernel_rfl) (of_decide_eq_true (by kernel_rfl)) k0_ bel lt0) (trodAll_cons_mk (Below.trod laidOut (by kernel_rfl) (of_decide_eq_true (by kernel_rfl)) k1_ bel lt1) trodAll_mk0)),rfl,bel.frame _,fun h => by cases h⟩
theorem over : Rows.directoryPlaysRow.holds Try.pinned (OpenSpec.ofChange Rows.directoryPlaysSpec) :=
  OpenClaim.holds_of_wide 4 Try.f4 rfl rfl rfl rfl rfl rfl rfl ⟨rfl,rfl,rfl,rfl,rfl⟩ rfl rfl rfl rfl rfl (by kernel_rfl) Try.func4 (by kernel_rfl)
    (of_decide_eq_true (by kernel_rfl)) (by unfold Func.isWrapper;first | (rw [if_pos (by decide +kernel)];kernel_rfl) | (rw [if_neg (by decide +kernel)];exact ⟨rfl,rfl⟩))
    (fun os started H enc _ => lifted os started H enc)
theorem proved : Rows.DirectoryPlaysSaid := over
end Go.Proofs.Ytlpmblcdafdfdaa.directoryPlays
namespace Go.Proofs.Ytlpmblcdafdfdaa
theorem directoryPlays_holds : Rows.DirectoryPlaysSaid := directoryPlays.proved
#print axioms directoryPlays_holds
end Go.Proofs.Ytlpmblcdafdfdaa
