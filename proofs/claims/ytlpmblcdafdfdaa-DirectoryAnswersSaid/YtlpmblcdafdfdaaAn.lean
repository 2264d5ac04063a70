/- DirectoryAnswers: whatever comes in, the law answers true, and what came in stays as it was. No condition. -/
import Derived.Test.YtlpmblcdafdfdaaRows
import Derived.Test.YtlpmblcdafdfdaaAnDq
import Derived.Test.YtlpmblcdafdfdaaAnStDirectoryAnswers
import Derived.Test.YtlpmblcdafdfdaaAnPureDirectoryAnswers
import Derived.WalkKit
import Derived.ProofKit
import Derived.OpenShut
import Derived.ShutString
import Derived.ChangeOld
import Derived.Below
import Derived.SizedLaws
import Derived.Laws.Cover2
namespace Go.Proofs.Ytlpmblcdafdfdaa.directoryAnswers
open Go.ChangeShapes Go.WideShapes Go.ChangeAt Go.RowKit Go.Proofs.Ytlpmblcdafdfdaa.PA Go.Proofs.YtlpmblcdafdfdaaW.PrintWords
open Go.ChangeMaps (open_string shut_string)
set_option linter.unusedVariables false
theorem own : ownKnob Try.prog.godebug = none := by kernel_rfl
theorem laidOut : laidOutB Try.prog = true := by kernel_rfl
set_option maxRecDepth 100000 in
theorem lifted (os : Os) (started : os.Started) (H : Type) (enc : TypeId × Value → H) :
    ReturnsInHanded {} Try.checked os 7 .any (Rows.directoryAnswersSpec.pre6 enc Try.prog Try.f7 Rows.directoryAnswersRow.domain false) (Rows.directoryAnswersSpec.post enc Try.prog Try.f7 false true false false) := by
  refine returnsInHanded_of_change_sized (C := Try.checked) own started (by kernel_rfl) Try.func7
    (ChangeSpec.witness6 (enc := enc) (C := Try.checked) false ⟨#[],#[.agg #[.int .i64 0,.int .i64 0,.int .i64 0,.int .u64 0,.int .i64 0,.int .i64 0,.int .i64 0,.int .u64 0],.string ByteArray.empty,.agg #[.slice none 0 0,.int .i64 0,.int .i64 0]],[]⟩ 8 (by kernel_rfl) (by kernel_rfl) (by kernel_rfl) (by kernel_rfl)) ?_
  intro W base args ds gs before hval0 hW hcnd hsz0 _
  have hsz : (DataW.weightsEach Try.prog (Try.f7.params.toList ++ Rows.directoryAnswersSpec.plain.varTypes Try.prog) (ds ++ gs)).all (· ≤ reachBytes) = true := hsz0
  have hval : ∀ (j : Nat) t v,Try.f7.params[j]? = some t → args[j]? = some v → Value.okWide Try.prog W .any base t v := hval0
  have hW' := hW
  obtain ⟨p,q,hA0,hV,rfl,hfz,hnd⟩ := hW
  have hA : DataW.TrodAll enc Try.prog W 0 (fun _ => true) true Try.f7.params.toList args.toList ds p := hA0
  rw [Try.params7] at hA hval hsz
  obtain ⟨v0,vs0,d0,ds0,p0,q0,hargs,rfl,rfl,h0,r0⟩ := trodAll_cons hA
  obtain ⟨v1,vs1,d1,ds1,p1,q1,rfl,rfl,rfl,h1,r1⟩ := trodAll_cons r0
  obtain ⟨v2,vs2,d2,ds2,p2,q2,rfl,rfl,rfl,h2,r2⟩ := trodAll_cons r1
  obtain ⟨rfl,rfl,rfl⟩ := trodAll_nil r2
  obtain rfl : args = #[v0,v1,v2] := by cases args;simp_all
  obtain ⟨rfl,rfl⟩ := trodVars_none hV
  have z0 := weights_of hsz (j := 0) (t := 72) (d := d0) rfl rfl
  have lt0 : ∀ x ∈ p0,x.block < W.heap.size := by obtain ⟨m,hm⟩ := h0;exact DataW.trod_lt m _ _ _ hm
  have k0_ := h0
  obtain ⟨cs0,rfl⟩ := agg_of_wideA Try.underlying72 (hval 0 72 v0 rfl rfl)
  obtain ⟨x0,e0,w0⟩ := opens_arg o72 h0 z0
  obtain ecs0 := k72_open e0
  obtain rfl : cs0 = #[.int .i64 x0.f0.f0,.int .i64 x0.f0.f1,.int .i64 x0.f0.f2,.int .u64 x0.f0.f3,.int .i64 x0.f1.f0,.int .i64 x0.f1.f1,.int .i64 x0.f1.f2,.int .u64 x0.f1.f3] := by cases cs0;simpa [Value.cells] using ecs0
  have z1 := weights_of hsz (j := 1) (t := 9) (d := d1) rfl rfl
  have lt1 : ∀ x ∈ p1,x.block < W.heap.size := by obtain ⟨m,hm⟩ := h1;exact DataW.trod_lt m _ _ _ hm
  have k1_ := h1
  obtain ⟨a1,rfl,rfl,rfl,y1⟩ := open_string Try.underlying9 (hval 1 9 v1 rfl rfl) h1
  have w1 : a1.size ≤ 140737488351232 := by simpa using z1 a1.data.toList.length (by simp [DataW.weights])
  have z2 := weights_of hsz (j := 2) (t := 74) (d := d2) rfl rfl
  have lt2 : ∀ x ∈ p2,x.block < W.heap.size := by obtain ⟨m,hm⟩ := h2;exact DataW.trod_lt m _ _ _ hm
  have k2_ := h2
  obtain ⟨cs2,rfl⟩ := agg_of_wide Try.underlying74 (hval 2 74 v2 rfl rfl)
  obtain ⟨x2,e2,w2⟩ := opens_arg o74 h2 z2
  obtain ⟨A2_0,c2_0,ecs2,hc2_0,hr2_0⟩ := k74_open e2
  obtain rfl : cs2 = #[.slice A2_0 x2.f0.length c2_0,.int .i64 x2.f1,.int .i64 x2.f2] := by cases cs2;simpa [Value.cells] using ecs2
  have h := DirectoryAnswers_pure x0.f0.f0 x0.f0.f1 x0.f0.f2 x0.f0.f3 x0.f1.f0 x0.f1.f1 x0.f1.f2 x0.f1.f3 a1 x2.f0 x2.f1 x2.f2 w0.1.1 w0.1.2.1 w0.1.2.2.1 w0.1.2.2.2 w0.2.1 w0.2.2.1 w0.2.2.2.1 w0.2.2.2.2 w1 w2.1 w2.2.1 w2.2.2
  clear hA0 hval0 hsz0 hsz
  refine (beaconlaw20_DirectoryAnswers.calls x0.f0.f0 x0.f0.f1 x0.f0.f2 x0.f0.f3 x0.f1.f0 x0.f1.f1 x0.f1.f2 x0.f1.f3 a1 A2_0 c2_0 x2.f0 x2.f1 x2.f2 true W hr2_0 hc2_0 h).mono ?_
  rintro e W' ⟨rfl,bel⟩
  exact ⟨_,rfl,_,_,_,[],_,[],hW',trodAll_mk1 (shut_bool Try.underlying4 _),(trodAll_cons_mk (Below.trod laidOut (by kernel_rfl) (of_decide_eq_true (by kernel_rfl)) k0_ bel lt0) (trodAll_cons_mk (Below.trod laidOut (by kernel_rfl) (of_decide_eq_true (by kernel_rfl)) k1_ bel lt1) (trodAll_cons_mk (Below.trod laidOut (by kernel_rfl) (of_decide_eq_true (by kernel_rfl)) k2_ bel lt2) trodAll_mk0))),rfl,bel.frame _,fun h => by cases h⟩
theorem over : Rows.directoryAnswersRow.holds Try.pinned (OpenSpec.ofChange Rows.directoryAnswersSpec) :=
  OpenClaim.holds_of_wide 7 Try.f7 rfl rfl rfl rfl rfl rfl rfl ⟨rfl,rfl,rfl,rfl,rfl⟩ rfl rfl rfl rfl rfl (by kernel_rfl) Try.func7 (by kernel_rfl)
    (of_decide_eq_true (by kernel_rfl)) (by unfold Func.isWrapper;first | (rw [if_pos (by decide +kernel)];kernel_rfl) | (rw [if_neg (by decide +kernel)];exact ⟨rfl,rfl⟩))
    (fun os started H enc _ => lifted os started H enc)
theorem proved : Rows.DirectoryAnswersSaid := over
end Go.Proofs.Ytlpmblcdafdfdaa.directoryAnswers
namespace Go.Proofs.Ytlpmblcdafdfdaa
theorem directoryAnswers_holds : Rows.DirectoryAnswersSaid := directoryAnswers.proved
#print axioms directoryAnswers_holds
end Go.Proofs.Ytlpmblcdafdfdaa
