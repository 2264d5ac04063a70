/- DirectoryNobody: whatever comes in, the law answers true, and what came in stays as it was. No condition. -/
import Derived.Test.YtlpmblcdafdfdaaRows
import Derived.Test.YtlpmblcdafdfdaaNoDe
import Derived.Test.YtlpmblcdafdfdaaNoStDirectoryNobody
import Derived.Test.YtlpmblcdafdfdaaNoPureDirectoryNobody
import Derived.WalkKit
import Derived.ProofKit
import Derived.OpenShut
import Derived.ShutString
import Derived.ChangeOld
import Derived.Below
import Derived.SizedLaws
import Derived.Laws.Cover2
namespace Go.Proofs.Ytlpmblcdafdfdaa.directoryNobody
open Go.ChangeShapes Go.WideShapes Go.ChangeAt Go.RowKit Go.Proofs.Ytlpmblcdafdfdaa.PA Go.Proofs.YtlpmblcdafdfdaaW.PrintWords
open Go.ChangeMaps (open_string shut_string)
set_option linter.unusedVariables false
theorem own : ownKnob Try.prog.godebug = none := by kernel_rfl
theorem laidOut : laidOutB Try.prog = true := by kernel_rfl
set_option maxRecDepth 100000 in
theorem lifted (os : Os) (started : os.Started) (H : Type) (enc : TypeId × Value → H) :
    ReturnsInHanded {} Try.checked os 6 .any (Rows.directoryNobodySpec.pre6 enc Try.prog Try.f6 Rows.directoryNobodyRow.domain false) (Rows.directoryNobodySpec.post enc Try.prog Try.f6 false true false false) := by
  refine returnsInHanded_of_change_sized (C := Try.checked) own started (by kernel_rfl) Try.func6
    (ChangeSpec.witness6 (enc := enc) (C := Try.checked) false ⟨#[],#[.agg #[.int .i64 0,.string ByteArray.empty,.int .i64 0,.int .i64 0,.int .i64 0,.int .i64 0,.int .i64 0,.int .i64 0,.int .i64 0,.int .i64 0,.int .i64 0,.int .u64 0,.int .i64 0,.string ByteArray.empty,.int .i64 0,.int .i64 0,.string ByteArray.empty]],[]⟩ 8 (by kernel_rfl) (by kernel_rfl) (by kernel_rfl) (by kernel_rfl)) ?_
  intro W base args ds gs before hval0 hW hcnd hsz0 _
  have hsz : (DataW.weightsEach Try.prog (Try.f6.params.toList ++ Rows.directoryNobodySpec.plain.varTypes Try.prog) (ds ++ gs)).all (· ≤ reachBytes) = true := hsz0
  have hval : ∀ (j : Nat) t v,Try.f6.params[j]? = some t → args[j]? = some v → Value.okWide Try.prog W .any base t v := hval0
  have hW' := hW
  obtain ⟨p,q,hA0,hV,rfl,hfz,hnd⟩ := hW
  have hA : DataW.TrodAll enc Try.prog W 0 (fun _ => true) true Try.f6.params.toList args.toList ds p := hA0
  rw [Try.params6] at hA hval hsz
  obtain ⟨v0,vs0,d0,ds0,p0,q0,hargs,rfl,rfl,h0,r0⟩ := trodAll_cons hA
  obtain ⟨rfl,rfl,rfl⟩ := trodAll_nil r0
  obtain rfl : args = #[v0] := by cases args;simp_all
  obtain ⟨rfl,rfl⟩ := trodVars_none hV
  have z0 := weights_of hsz (j := 0) (t := 46) (d := d0) rfl rfl
  have lt0 : ∀ x ∈ p0,x.block < W.heap.size := by obtain ⟨m,hm⟩ := h0;exact DataW.trod_lt m _ _ _ hm
  have k0_ := h0
  obtain ⟨cs0,rfl⟩ := agg_of_wide Try.underlying46 (hval 0 46 v0 rfl rfl)
  obtain ⟨x0,e0,w0⟩ := opens_arg o46 h0 z0
  obtain ecs0 := k46_open e0
  obtain rfl : cs0 = #[.int .i64 x0.f0,.string x0.f1,.int .i64 x0.f2,.int .i64 x0.f3,.int .i64 x0.f4,.int .i64 x0.f5.f0,.int .i64 x0.f5.f1,.int .i64 x0.f5.f2,.int .i64 x0.f5.f3,.int .i64 x0.f5.f4,.int .i64 x0.f5.f5,.int .u64 x0.f5.f6,.int .i64 x0.f5.f7,.string x0.f5.f8,.int .i64 x0.f5.f9,.int .i64 x0.f5.f10,.string x0.f5.f11] := by cases cs0;simpa [Value.cells] using ecs0
  have h := DirectoryNobody_pure x0.f0 x0.f1 x0.f2 x0.f3 x0.f4 x0.f5.f0 x0.f5.f1 x0.f5.f2 x0.f5.f3 x0.f5.f4 x0.f5.f5 x0.f5.f6 x0.f5.f7 x0.f5.f8 x0.f5.f9 x0.f5.f10 x0.f5.f11 w0.1 w0.2.1 w0.2.2.1 w0.2.2.2.1 w0.2.2.2.2.1 w0.2.2.2.2.2.1 w0.2.2.2.2.2.2.1 w0.2.2.2.2.2.2.2.1 w0.2.2.2.2.2.2.2.2.1 w0.2.2.2.2.2.2.2.2.2.1 w0.2.2.2.2.2.2.2.2.2.2.1 w0.2.2.2.2.2.2.2.2.2.2.2.1 w0.2.2.2.2.2.2.2.2.2.2.2.2.1 w0.2.2.2.2.2.2.2.2.2.2.2.2.2.1 w0.2.2.2.2.2.2.2.2.2.2.2.2.2.2.1 w0.2.2.2.2.2.2.2.2.2.2.2.2.2.2.2.1 w0.2.2.2.2.2.2.2.2.2.2.2.2.2.2.2.2
  clear hA0 hval0 hsz0 hsz
  refine (beaconlaw20_DirectoryNobody.calls x0.f0 x0.f1 x0.f2 x0.f3 x0.f4 x0.f5.f0 x0.f5.f1 x0.f5.f2 x0.f5.f3 x0.f5.f4 x0.f5.f5 x0.f5.f6 x0.f5.f7 x0.f5.f8 x0.f5.f9 x0.f5.f10 x0.f5.f11 true W h).mono ?_
  rintro e W' ⟨rfl,bel⟩
  exact ⟨_,rfl,_,_,_,[],_,[],hW',trodAll_mk1 (shut_bool Try.underlying4 _),(trodAll_cons_mk (Below.trod laidOut (by kernel_rfl) (of_decide_eq_true (by kernel_rfl)) k0_ bel lt0) trodAll_mk0),rfl,bel.frame _,fun h => by cases h⟩
theorem over : Rows.directoryNobodyRow.holds Try.pinned (OpenSpec.ofChange Rows.directoryNobodySpec) :=
  OpenClaim.holds_of_wide 6 Try.f6 rfl rfl rfl rfl rfl rfl rfl ⟨rfl,rfl,rfl,rfl,rfl⟩ rfl rfl rfl rfl rfl (by kernel_rfl) Try.func6 (by kernel_rfl)
    (of_decide_eq_true (by kernel_rfl)) (by unfold Func.isWrapper;first | (rw [if_pos (by decide +kernel)];kernel_rfl) | (rw [if_neg (by decide +kernel)];exact ⟨rfl,rfl⟩))
    (fun os started H enc _ => lifted os started H enc)
theorem proved : Rows.DirectoryNobodySaid := over
end Go.Proofs.Ytlpmblcdafdfdaa.directoryNobody
namespace Go.Proofs.Ytlpmblcdafdfdaa
theorem directoryNobody_holds : Rows.DirectoryNobodySaid := directoryNobody.proved
#print axioms directoryNobody_holds
end Go.Proofs.Ytlpmblcdafdfdaa
