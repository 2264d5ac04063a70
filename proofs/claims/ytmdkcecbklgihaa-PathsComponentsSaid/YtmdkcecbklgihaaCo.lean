/- PathsComponents: whatever comes in, the law answers true, and what came in stays as it was. No condition. -/
import Derived.Test.YtmdkcecbklgihaaRows
import Derived.Test.YtmdkcecbklgihaaCoPAx24
import Derived.Test.YtmdkcecbklgihaaCoStPathsComponents
import Derived.Test.YtmdkcecbklgihaaCoPurePathsComponents
import Derived.WalkKit
import Derived.ProofKit
import Derived.OpenShut
import Derived.ShutString
import Derived.ChangeOld
import Derived.Below
import Derived.SizedLaws
import Derived.Laws.Cover2
namespace Go.Proofs.Ytmdkcecbklgihaa.pathsComponents
open Go.ChangeShapes Go.WideShapes Go.ChangeAt Go.RowKit Go.Proofs.Ytmdkcecbklgihaa.PA Go.Proofs.YtmdkcecbklgihaaW.PrintWords
open Go.ChangeMaps (open_string shut_string)
set_option linter.unusedVariables false
theorem own : ownKnob Try.prog.godebug = none := by kernel_rfl
theorem laidOut : laidOutB Try.prog = true := by kernel_rfl
set_option maxRecDepth 100000 in
theorem lifted (os : Os) (started : os.Started) (H : Type) (enc : TypeId × Value → H) :
    ReturnsInHanded {} Try.checked os 10 .any (Rows.pathsComponentsSpec.pre6 enc Try.prog Try.f10 Rows.pathsComponentsRow.domain false) (Rows.pathsComponentsSpec.post enc Try.prog Try.f10 false true false false) := by
  refine returnsInHanded_of_change_sized (C := Try.checked) own started (by kernel_rfl) Try.func10
    (ChangeSpec.witness6 (enc := enc) (C := Try.checked) false ⟨#[],#[.agg #[.slice none 0 0,.slice none 0 0],.float .f64 0],[]⟩ 8 (by kernel_rfl) (by kernel_rfl) (by kernel_rfl) (by kernel_rfl)) ?_
  intro W base args ds gs before hval0 hW hcnd hsz0 _
  have hsz : (DataW.weightsEach Try.prog (Try.f10.params.toList ++ Rows.pathsComponentsSpec.plain.varTypes Try.prog) (ds ++ gs)).all (· ≤ reachBytes) = true := hsz0
  have hval : ∀ (j : Nat) t v,Try.f10.params[j]? = some t → args[j]? = some v → Value.okWide Try.prog W .any base t v := hval0
  have hW' := hW
  obtain ⟨p,q,hA0,hV,rfl,hfz,hnd⟩ := hW
  have hA : DataW.TrodAll enc Try.prog W 0 (fun _ => true) true Try.f10.params.toList args.toList ds p := hA0
  rw [Try.params10] at hA hval hsz
  obtain ⟨v0,vs0,d0,ds0,p0,q0,hargs,rfl,rfl,h0,r0⟩ := trodAll_cons hA
  obtain ⟨v1,vs1,d1,ds1,p1,q1,rfl,rfl,rfl,h1,r1⟩ := trodAll_cons r0
  obtain ⟨rfl,rfl,rfl⟩ := trodAll_nil r1
  obtain rfl : args = #[v0,v1] := by cases args;simp_all
  obtain ⟨rfl,rfl⟩ := trodVars_none hV
  have z0 := weights_of hsz (j := 0) (t := 25) (d := d0) rfl rfl
  have lt0 : ∀ x ∈ p0,x.block < W.heap.size := by obtain ⟨m,hm⟩ := h0;exact DataW.trod_lt m _ _ _ hm
  have k0_ := h0
  obtain ⟨cs0,rfl⟩ := agg_of_wide Try.underlying25 (hval 0 25 v0 rfl rfl)
  obtain ⟨x0,e0,w0⟩ := opens_arg o25 h0 z0
  obtain ⟨A0_0,c0_0,A0_1,c0_1,ecs0,hc0_0,hr0_0,hc0_1,hr0_1⟩ := k25_open e0
  obtain rfl : cs0 = #[.slice A0_0 x0.f0.length c0_0,.slice A0_1 x0.f1.length c0_1] := by cases cs0;simpa [Value.cells] using ecs0
  have z1 := weights_of hsz (j := 1) (t := 26) (d := d1) rfl rfl
  have lt1 : ∀ x ∈ p1,x.block < W.heap.size := by obtain ⟨m,hm⟩ := h1;exact DataW.trod_lt m _ _ _ hm
  have k1_ := h1
  obtain ⟨a1,e1,w1⟩ := opens_arg o26 h1 z1
  obtain ⟨b1,rfl⟩ := okWide_float Try.underlying26 (hval 1 26 v1 rfl rfl)
  obtain rfl : b1 = a1 := by simpa [Kd.float,Kd.scalar,Value.cells] using e1
  obtain ⟨k,h⟩ := PathsComponents_pure x0.f0 x0.f1 b1 w0.1 w0.2 w1
  clear hA0 hval0 hsz0 hsz
  refine (beaconlaw08_PathsComponents.calls k A0_0 c0_0 x0.f0 A0_1 c0_1 x0.f1 b1 true W hr0_0 hc0_0 hr0_1 hc0_1 h).mono ?_
  rintro e W' ⟨rfl,bel⟩
  exact ⟨_,rfl,_,_,_,[],_,[],hW',trodAll_mk1 (shut_bool Try.underlying4 _),(trodAll_cons_mk (Below.trod laidOut (by kernel_rfl) (of_decide_eq_true (by kernel_rfl)) k0_ bel lt0) (trodAll_cons_mk (Below.trod laidOut (by kernel_rfl) (of_decide_eq_true (by kernel_rfl)) k1_ bel lt1) trodAll_mk0)),rfl,bel.frame _,fun h => by cases h⟩
theorem over : Rows.pathsComponentsRow.holds Try.pinned (OpenSpec.ofChange Rows.pathsComponentsSpec) :=
  OpenClaim.holds_of_wide 10 Try.f10 rfl rfl rfl rfl rfl rfl rfl ⟨rfl,rfl,rfl,rfl,rfl⟩ rfl rfl rfl rfl rfl (by kernel_rfl) Try.func10 (by kernel_rfl)
    (of_decide_eq_true (by kernel_rfl)) (by unfold Func.isWrapper;first | (rw [if_pos (by decide +kernel)];kernel_rfl) | (rw [if_neg (by decide +kernel)];exact ⟨rfl,rfl⟩))
    (fun os started H enc _ => lifted os started H enc)
theorem proved : Rows.PathsComponentsSaid := over
end Go.Proofs.Ytmdkcecbklgihaa.pathsComponents
namespace Go.Proofs.Ytmdkcecbklgihaa
theorem pathsComponents_holds : Rows.PathsComponentsSaid := pathsComponents.proved
#print axioms pathsComponents_holds
end Go.Proofs.Ytmdkcecbklgihaa
